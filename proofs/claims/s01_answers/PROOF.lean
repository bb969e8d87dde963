import PyProof.Rows.All
import Wide.All
import OpenK.AllK
import Wide.FinOn
import PyProof.EqAt
import PyProof.EqKinds
import PyProof.TupleCall
import Open.SpecLaws
import KE.OsGo
import VbsyaeSpec
import PyVbsyae
import PySem.Challenge.RW_hurdlefolds_s01_answers
import HandS.ForSpec
import HandS.Comp
import HandS.Iter
import KE.DataMinMax
import HandS.SetFor
import HandS.SortInts
import HandS.NoneIn
import HandS.Conv
import HandS.Steps
import HandS.Evl
import KE.GoesEnum
import HandS.Walk
set_option Elab.async false
set_option linter.all false
set_option maxRecDepth 100000
set_option maxHeartbeats 4000000
/-! # Plain mathematics, 1: cells, sides, places, rectangles' costs -/
namespace HF
open Vbsyae

structure Good (f : Field) : Prop where
  r1 : 1 ≤ f.rows
  r8 : f.rows ≤ 8
  c1 : 1 ≤ f.cols
  c8 : f.cols ≤ 8
  w4 : f.walls.length = 4

/-- a cell, or -1 -/
def optI : Option Nat → Int
  | some d => (d : Int)
  | none => -1
def dR : Nat → Int
  | 0 => -1
  | 1 => 0
  | 2 => 1
  | _ => 0
def dC : Nat → Int
  | 0 => 0
  | 1 => 1
  | 2 => 0
  | _ => -1
theorem dm {cols r k : Nat} (hk : k < cols) : (r * cols + k) / cols = r ∧ (r * cols + k) % cols = k := by
  have hc : 0 < cols := by omega
  constructor
  · rw [Nat.mul_comm, Nat.mul_add_div hc, Nat.div_eq_of_lt hk, Nat.add_zero]
  · rw [Nat.mul_comm, Nat.mul_add_mod, Nat.mod_eq_of_lt hk]
theorem split {cols c : Nat} : c = (c / cols) * cols + c % cols := by
  have := Nat.div_add_mod c cols
  rw [Nat.mul_comm] at this
  exact this.symm
theorem row_lt {f : Field} {c : Nat} (h : c < cells f) : c / f.cols < f.rows := by
  unfold cells at h
  exact Nat.div_lt_of_lt_mul (by rw [Nat.mul_comm]; exact h)
theorem col_lt {f : Field} (g : Good f) (c : Nat) : c % f.cols < f.cols := Nat.mod_lt _ (by have := g.c1; omega)
theorem cell_lt {f : Field} {r k : Nat} (hr : r < f.rows) (hk : k < f.cols) : r * f.cols + k < cells f := by
  unfold cells
  have h : (r + 1) * f.cols ≤ f.rows * f.cols := Nat.mul_le_mul_right _ hr
  rw [Nat.add_mul, Nat.one_mul] at h
  omega
theorem cells_le {f : Field} (g : Good f) : cells f ≤ 64 := by
  unfold cells
  exact Nat.mul_le_mul g.r8 g.c8
/-- the four sides of the cell in row r, column k -/
theorem bey0 {f : Field} {r k : Nat} (hk : k < f.cols) : beyond f (r * f.cols + k) 0 = if 0 < r then some ((r - 1) * f.cols + k) else none := by
  unfold beyond
  simp only [(dm hk).1, if_true]
  by_cases h : 0 < r
  · rw [if_pos h, if_pos h]
    have : r * f.cols = (r - 1) * f.cols + f.cols := by
      have e : r = (r - 1) + 1 := by omega
      have := congrArg (· * f.cols) e
      simp only [Nat.add_mul, Nat.one_mul] at this
      exact this
    rw [this]
    congr 1
    omega
  · rw [if_neg h, if_neg h]
theorem bey1 {f : Field} {r k : Nat} (hk : k < f.cols) : beyond f (r * f.cols + k) 1 = if k + 1 < f.cols then some (r * f.cols + (k + 1)) else none := by
  unfold beyond
  simp only [(dm hk).2]
  rfl
theorem bey2 {f : Field} {r k : Nat} (hk : k < f.cols) : beyond f (r * f.cols + k) 2 = if r + 1 < f.rows then some ((r + 1) * f.cols + k) else none := by
  unfold beyond
  simp only [(dm hk).1, (dm hk).2]
  by_cases h : r + 1 < f.rows
  · rw [if_pos h, if_pos h, Nat.add_mul, Nat.one_mul]
    simp only [show ¬ (2 = 0) by decide, show ¬ (2 = 1) by decide, if_false, if_true]
    congr 1
    omega
  · rw [if_neg h, if_neg h]
    rfl
theorem bey3 {f : Field} {r k : Nat} (hk : k < f.cols) : beyond f (r * f.cols + k) 3 = if 0 < k then some (r * f.cols + (k - 1)) else none := by
  unfold beyond
  simp only [(dm hk).1, (dm hk).2]
  by_cases h : 0 < k
  · rw [if_pos h, if_pos h]
    simp only [show ¬ (3 = 0) by decide, show ¬ (3 = 1) by decide, show ¬ (3 = 2) by decide, if_false]
    congr 1
    omega
  · rw [if_neg h, if_neg h]
    rfl
theorem side_cases {s : Nat} (h : s < 4) : s = 0 ∨ s = 1 ∨ s = 2 ∨ s = 3 := by omega
theorem bey_lt {f : Field} (g : Good f) {c s d : Nat} (hc : c < cells f) (hs : s < 4) (h : beyond f c s = some d) : d < cells f := by
  have hr := row_lt hc
  have hk := col_lt g c
  rw [split (cols := f.cols) (c := c)] at h
  generalize c / f.cols = r at *
  generalize c % f.cols = k at *
  rcases side_cases hs with e | e | e | e <;> subst e
  · rw [bey0 hk] at h
    split at h <;> cases h
    exact cell_lt (by omega) hk
  · rw [bey1 hk] at h
    split at h <;> cases h
    exact cell_lt (by omega) (by omega)
  · rw [bey2 hk] at h
    split at h <;> cases h
    exact cell_lt (by omega) hk
  · rw [bey3 hk] at h
    split at h <;> cases h
    exact cell_lt (by omega) (by omega)
/-- beyond goes back -/
theorem bey_sym {f : Field} (g : Good f) {c s d : Nat} (hc : c < cells f) (hs : s < 4) (h : beyond f c s = some d) : ∃ t, t < 4 ∧ beyond f d t = some c := by
  have hr := row_lt hc
  have hk := col_lt g c
  have e0 := split (cols := f.cols) (c := c)
  rw [e0] at h ⊢
  generalize c / f.cols = r at *
  generalize c % f.cols = k at *
  clear e0
  rcases side_cases hs with e | e | e | e <;> subst e
  · rw [bey0 hk] at h
    split at h <;> cases h
    refine ⟨2, by omega, ?_⟩
    rw [bey2 hk, if_pos (by omega)]
    congr 3
    omega
  · rw [bey1 hk] at h
    split at h <;> cases h
    refine ⟨3, by omega, ?_⟩
    rw [bey3 (by omega), if_pos (by omega)]
    congr 2
  · rw [bey2 hk] at h
    split at h <;> cases h
    refine ⟨0, by omega, ?_⟩
    rw [bey0 hk, if_pos (by omega)]
    congr 3
  · rw [bey3 hk] at h
    split at h <;> cases h
    refine ⟨1, by omega, ?_⟩
    rw [bey1 (by omega), if_pos (by omega)]
    congr 2
    omega
/-- what the program reckons -/
def beyI (f : Field) (c s : Nat) : Int :=
  if ((((c / f.cols : Nat) : Int) + dR s < 0 ∨ (f.rows : Int) ≤ ((c / f.cols : Nat) : Int) + dR s) ∨ ((c % f.cols : Nat) : Int) + dC s < 0) ∨ (f.cols : Int) ≤ ((c % f.cols : Nat) : Int) + dC s then -1
  else (((c / f.cols : Nat) : Int) + dR s) * (f.cols : Int) + (((c % f.cols : Nat) : Int) + dC s)
theorem beyI_eq {f : Field} (g : Good f) {c s : Nat} (hc : c < cells f) (hs : s < 4) : beyI f c s = optI (beyond f c s) := by
  have hr := row_lt hc
  have hk := col_lt g c
  unfold beyI
  rw [split (cols := f.cols) (c := c), (dm hk).1, (dm hk).2]
  generalize c / f.cols = r at *
  generalize c % f.cols = k at *
  rcases side_cases hs with e | e | e | e <;> subst e
  · rw [bey0 hk]
    simp only [dR, dC]
    by_cases h : 0 < r
    · rw [if_pos h, if_neg (by omega)]
      obtain ⟨q, rfl⟩ : ∃ q, r = q + 1 := ⟨r - 1, by omega⟩
      simp only [optI, Nat.add_sub_cancel]
      push_cast
      rw [show ((q : Int) + 1 + -1) = q by omega]
      omega
    · rw [if_neg h, if_pos (by omega)]
      rfl
  · rw [bey1 hk]
    simp only [dR, dC]
    by_cases h : k + 1 < f.cols
    · rw [if_pos h, if_neg (by omega)]
      simp only [optI]
      push_cast
      rw [Int.add_zero]
    · rw [if_neg h, if_pos (by omega)]
      rfl
  · rw [bey2 hk]
    simp only [dR, dC]
    by_cases h : r + 1 < f.rows
    · rw [if_pos h, if_neg (by omega)]
      simp only [optI]
      push_cast
      rw [Int.add_zero]
    · rw [if_neg h, if_pos (by omega)]
      rfl
  · rw [bey3 hk]
    simp only [dR, dC]
    by_cases h : 0 < k
    · rw [if_pos h, if_neg (by omega)]
      simp only [optI]
      push_cast
      rw [Int.add_zero, Int.natCast_sub (by omega)]
      omega
    · rw [if_neg h, if_pos (by omega)]
      rfl
/-- whether a fold needs a hurdle at a side of one of its cells -/
def need (f : Field) (l : List Nat) (c s : Nat) : Bool := match beyond f c s with
  | some d => !l.contains d
  | none => !walled f s
theorem hurdle_eq (f : Field) (l : List Nat) (c s : Nat) : hurdle f l c s = (l.contains c && need f l c s) := by
  unfold hurdle need
  rfl
/-- a fold's hurdles, cell by cell of the list -/
def hurds (f : Field) (l : List Nat) (m : List Nat) : List (Nat × Nat) := m.flatMap fun c => ((List.range 4).filter fun s => need f l c s).map fun s => (c, s)
/-- strictly rising -/
def Rising (l : List Nat) : Prop := l.Pairwise (· < ·)
theorem filter_range_of_rising : ∀ (n : Nat) (l : List Nat), Rising l → (∀ c ∈ l, c < n) → (List.range n).filter (fun c => l.contains c) = l := by
  intro n
  induction n with
  | zero =>
    intro l _ h
    cases l with
    | nil => rfl
    | cons a r => exact absurd (h a List.mem_cons_self) (by omega)
  | succ n ih =>
    intro l hr h
    rw [List.range_succ, List.filter_append]
    by_cases hn : n ∈ l
    · obtain ⟨l', rfl⟩ : ∃ l', l = l' ++ [n] := by
        have hne : l ≠ [] := by intro e; rw [e] at hn; cases hn
        refine ⟨l.dropLast, ?_⟩
        have e := List.dropLast_concat_getLast hne
        have hlast : l.getLast hne = n := by
          have h1 : l.getLast hne < n + 1 := h _ (List.getLast_mem hne)
          have h2 : n ≤ l.getLast hne := by
            rw [← e] at hn
            rcases List.mem_append.mp hn with q | q
            · rw [← e] at hr
              have := (List.pairwise_append.mp hr).2.2 n q (l.getLast hne) (by simp)
              omega
            · have : n = l.getLast hne := by simpa using q
              omega
          omega
        rw [hlast] at e
        exact e.symm
      have p := List.pairwise_append.mp hr
      have hlt : ∀ c ∈ l', c < n := fun c hc => p.2.2 c hc n (by simp)
      have e1 : (List.range n).filter (fun c => (l' ++ [n]).contains c) = (List.range n).filter (fun c => l'.contains c) := by
        apply List.filter_congr
        intro c hc
        have hc' : c < n := List.mem_range.mp hc
        simp only [List.contains_eq_mem, List.mem_append, List.mem_singleton]
        have : c ≠ n := by omega
        simp [this]
      rw [e1, ih l' p.1 hlt]
      congr 1
      simp
    · have hlt : ∀ c ∈ l, c < n := fun c hc => by
        have := h c hc
        have : c ≠ n := fun e => hn (e ▸ hc)
        omega
      rw [ih l hr hlt]
      simp [hn]
theorem sides_eq {f : Field} {l : List Nat} (hr : Rising l) (hl : ∀ c ∈ l, c < cells f) : sides f l = hurds f l l := by
  unfold sides hurds
  have e : ∀ (m : List Nat), (m.flatMap fun c => ((List.range 4).filter fun s => hurdle f l c s).map fun s => (c, s)) = ((m.filter fun c => l.contains c).flatMap fun c => ((List.range 4).filter fun s => need f l c s).map fun s => (c, s)) := by
    intro m
    induction m with
    | nil => rfl
    | cons a r ih =>
      rw [List.flatMap_cons, ih, List.filter_cons]
      by_cases ha : l.contains a = true
      · rw [if_pos ha, List.flatMap_cons]
        congr 2
        apply List.filter_congr
        intro s _
        rw [hurdle_eq, ha, Bool.true_and]
      · rw [if_neg ha]
        have : ((List.range 4).filter fun s => hurdle f l a s) = [] := by
          apply List.filter_eq_nil_iff.mpr
          intro s _
          rw [hurdle_eq]
          simp only [Bool.not_eq_true] at ha
          rw [ha]
          simp
        rw [this]
        rfl
  rw [e, filter_range_of_rising _ l hr hl]
theorem mem_hurds {f : Field} {l m : List Nat} {c s : Nat} (h : (c, s) ∈ hurds f l m) : c ∈ m ∧ s < 4 := by
  unfold hurds at h
  obtain ⟨a, ha, h⟩ := List.mem_flatMap.mp h
  obtain ⟨t, ht, e⟩ := List.mem_map.mp h
  cases e
  exact ⟨ha, List.mem_range.mp (List.mem_filter.mp ht).1⟩

/-! ### places -/
def placeN (f : Field) (c s : Nat) : Nat := if s = 0 ∨ s = 2 then (c / f.cols + (if s = 2 then 1 else 0)) * 10 + c % f.cols else 100 + c / f.cols * 10 + c % f.cols + (if s = 1 then 1 else 0)
def unplace (f : Field) (p : Nat) : Nat × Nat :=
  if p < 100 then (if p / 10 = 0 then (p % 10, 0) else ((p / 10 - 1) * f.cols + p % 10, 2))
  else (if p % 10 = 0 then ((p / 10 - 10) * f.cols, 3) else ((p / 10 - 10) * f.cols + (p % 10 - 1), 1))
theorem place_un {f : Field} (g : Good f) {c s : Nat} (hc : c < cells f) (hs : s < 4) : place f (c, s) = unplace f (placeN f c s) := by
  have hr := row_lt hc
  have hk := col_lt g c
  have h1 := g.r8
  have h2 := g.c8
  have e0 := split (cols := f.cols) (c := c)
  unfold placeN place
  generalize hre : c / f.cols = r at *
  generalize hke : c % f.cols = k at *
  subst e0
  clear hre hke
  rcases side_cases hs with e | e | e | e <;> subst e
  · simp only [if_true, true_or, show ¬ (0 = 2) by decide, if_false, Nat.add_zero, bey0 hk]
    have e1 : unplace f (r * 10 + k) = if r = 0 then (k, 0) else ((r - 1) * f.cols + k, 2) := by
      unfold unplace
      rw [if_pos (show r * 10 + k < 100 by omega), show (r * 10 + k) / 10 = r by omega, show (r * 10 + k) % 10 = k by omega]
    rw [e1]
    by_cases h : 0 < r
    · rw [if_pos h, if_neg (show ¬ r = 0 by omega)]
    · have : r = 0 := by omega
      subst this
      simp
  · simp only [show ¬ (1 = 0) by decide, show ¬ (1 = 2) by decide, show ¬ (1 = 3) by decide, if_true, false_or, if_false]
    unfold unplace
    rw [if_neg (by omega), show (100 + r * 10 + k + 1) / 10 = 10 + r by omega, show (100 + r * 10 + k + 1) % 10 = k + 1 by omega, if_neg (by omega), show 10 + r - 10 = r by omega, Nat.add_sub_cancel]
  · simp only [show ¬ (2 = 0) by decide, show ¬ (2 = 3) by decide, if_true, or_true, if_false]
    unfold unplace
    rw [if_pos (by omega), show ((r + 1) * 10 + k) / 10 = r + 1 by omega, show ((r + 1) * 10 + k) % 10 = k by omega, if_neg (by omega), Nat.add_sub_cancel]
  · simp only [show ¬ (3 = 0) by decide, show ¬ (3 = 2) by decide, show ¬ (3 = 1) by decide, if_true, false_or, if_false, Nat.add_zero, bey3 hk]
    have e1 : unplace f (100 + r * 10 + k) = if k = 0 then (r * f.cols, 3) else (r * f.cols + (k - 1), 1) := by
      unfold unplace
      rw [if_neg (show ¬ 100 + r * 10 + k < 100 by omega), show (100 + r * 10 + k) / 10 = 10 + r by omega, show (100 + r * 10 + k) % 10 = k by omega, show 10 + r - 10 = r by omega]
    rw [e1]
    by_cases h : 0 < k
    · rw [if_pos h, if_neg (show ¬ k = 0 by omega)]
    · have : k = 0 := by omega
      subst this
      simp
theorem placeN_place {f : Field} (g : Good f) {c s : Nat} (hc : c < cells f) (hs : s < 4) : placeN f (place f (c, s)).1 (place f (c, s)).2 = placeN f c s := by
  have hr := row_lt hc
  have hk := col_lt g c
  have h1 := g.r8
  have h2 := g.c8
  have e0 := split (cols := f.cols) (c := c)
  generalize hre : c / f.cols = r at *
  generalize hke : c % f.cols = k at *
  subst e0
  clear hre hke
  unfold place
  rcases side_cases hs with e | e | e | e <;> subst e
  · simp only [if_true, bey0 hk]
    by_cases h : 0 < r
    · rw [if_pos h]
      unfold placeN
      simp only [(dm hk).1, (dm hk).2]
      simp only [show ¬ (2 = 0) by decide, show ¬ (0 = 2) by decide, or_true, true_or, if_true, if_false]
      omega
    · rw [if_neg h]
  · simp only [show ¬ (1 = 0) by decide, show ¬ (1 = 3) by decide, if_false]
  · simp only [show ¬ (2 = 0) by decide, show ¬ (2 = 3) by decide, if_false]
  · simp only [show ¬ (3 = 0) by decide, if_false, if_true, bey3 hk]
    by_cases h : 0 < k
    · rw [if_pos h]
      unfold placeN
      have hk' : k - 1 < f.cols := by omega
      simp only [(dm hk).1, (dm hk).2, (dm hk').1, (dm hk').2]
      simp only [show ¬ (1 = 0) by decide, show ¬ (1 = 2) by decide, show ¬ (3 = 0) by decide, show ¬ (3 = 2) by decide, show ¬ (3 = 1) by decide, or_self, if_true, if_false]
      omega
    · rw [if_neg h]
theorem place_iff {f : Field} (g : Good f) {c s c' s' : Nat} (hc : c < cells f) (hs : s < 4) (hc' : c' < cells f) (hs' : s' < 4) : place f (c, s) = place f (c', s') ↔ placeN f c s = placeN f c' s' := by
  constructor
  · intro e
    rw [← placeN_place g hc hs, ← placeN_place g hc' hs', e]
  · intro e
    rw [place_un g hc hs, place_un g hc' hs', e]
theorem placeN_lt {f : Field} (g : Good f) {c s : Nat} (hc : c < cells f) : placeN f c s < 200 := by
  have hr := row_lt hc
  have hk := col_lt g c
  have h1 := g.r8
  have h2 := g.c8
  unfold placeN
  split <;> split <;> omega
end HF

/-! # Plain mathematics, 2: the parts of a fold -/
namespace HF
open Vbsyae

theorem nodup_sub_len : ∀ {A B : List Nat}, A.Nodup → (∀ x ∈ A, x ∈ B) → A.length ≤ B.length
  | [], _, _, _ => Nat.zero_le _
  | a :: r, B, n, h => by
    have ha := h a List.mem_cons_self
    have n' := List.nodup_cons.mp n
    have p := List.perm_cons_erase ha
    have q : ∀ x ∈ r, x ∈ B.erase a := fun x hx => by
      have hxa : x ≠ a := fun e => n'.1 (e ▸ hx)
      exact (List.mem_erase_of_ne hxa).mpr (h x (List.mem_cons_of_mem _ hx))
    have := nodup_sub_len n'.2 q
    have e := p.length_eq
    simp only [List.length_cons] at e ⊢
    omega
theorem nodup_sub_lt {A B : List Nat} (n : A.Nodup) (h : ∀ x ∈ A, x ∈ B) {y : Nat} (hy : y ∈ B) (hn : y ∉ A) : A.length < B.length := by
  have : (y :: A).length ≤ B.length := nodup_sub_len (List.nodup_cons.mpr ⟨hn, n⟩) fun x hx => by
    rcases List.mem_cons.mp hx with e | e
    · rw [e]; exact hy
    · exact h x e
  simp only [List.length_cons] at this
  omega

section
variable {f : Field} {l : List Nat}
theorem mem_round {m : List Nat} {x : Nat} : x ∈ hangRound f l m ↔ x < cells f ∧ (x ∈ m ∨ (x ∈ l ∧ ∃ s, s < 4 ∧ ∃ d, beyond f x s = some d ∧ d ∈ m)) := by
  unfold hangRound
  rw [List.mem_filter, List.mem_range]
  simp only [Bool.or_eq_true, Bool.and_eq_true, List.contains_eq_mem, decide_eq_true_eq, List.any_eq_true, List.mem_range, Option.any_eq_true]
theorem hang_succ : ∀ (k : Nat) (m : List Nat), hang f l (k + 1) m = hangRound f l (hang f l k m)
  | 0, _ => rfl
  | k + 1, m => by
    show hang f l (k + 1) (hangRound f l m) = hangRound f l (hang f l k (hangRound f l m))
    exact hang_succ k _
theorem hang_lt {c : Nat} (hc : c < cells f) : ∀ (k : Nat) (x : Nat), x ∈ hang f l k [c] → x < cells f
  | 0, x, h => by
    have : x = c := by simpa [hang] using h
    omega
  | k + 1, x, h => by
    rw [hang_succ] at h
    exact (mem_round.mp h).1
theorem hang_nodup {c : Nat} : ∀ k, (hang f l k [c]).Nodup
  | 0 => by simp [hang]
  | k + 1 => by
    rw [hang_succ]
    unfold hangRound
    exact (List.nodup_range).sublist List.filter_sublist
theorem hang_sub {c : Nat} (hc : c < cells f) (k : Nat) : ∀ x ∈ hang f l k [c], x ∈ hang f l (k + 1) [c] := fun x hx => by
  rw [hang_succ]
  exact mem_round.mpr ⟨hang_lt hc k x hx, .inl hx⟩
def Stable (f : Field) (l m : List Nat) : Prop := ∀ x ∈ hangRound f l m, x ∈ m
theorem stable_or {c : Nat} (hc : c < cells f) : ∀ k, Stable f l (hang f l k [c]) ∨ k + 1 ≤ (hang f l k [c]).length
  | 0 => .inr (by simp [hang])
  | k + 1 => by
    rcases stable_or hc k with h | h
    · left
      intro x hx
      rw [hang_succ]
      have hx' := mem_round.mp hx
      refine mem_round.mpr ⟨hx'.1, ?_⟩
      rcases hx'.2 with q | ⟨q, s, hs, d, hd, hm⟩
      · left
        rw [hang_succ] at q
        exact h x q
      · right
        refine ⟨q, s, hs, d, hd, ?_⟩
        rw [hang_succ] at hm
        exact h d hm
    · by_cases q : Stable f l (hang f l k [c])
      · left
        intro x hx
        rw [hang_succ]
        have hx' := mem_round.mp hx
        refine mem_round.mpr ⟨hx'.1, ?_⟩
        rcases hx'.2 with z | ⟨z, s, hs, d, hd, hm⟩
        · left
          rw [hang_succ] at z
          exact q x z
        · right
          refine ⟨z, s, hs, d, hd, ?_⟩
          rw [hang_succ] at hm
          exact q d hm
      · right
        have : ∃ x, x ∈ hangRound f l (hang f l k [c]) ∧ x ∉ hang f l k [c] := by
          apply Classical.byContradiction
          intro z
          apply q
          intro x hx
          apply Classical.byContradiction
          intro w
          exact z ⟨x, hx, w⟩
        obtain ⟨x, h1, h2⟩ := this
        rw [← hang_succ] at h1
        have := nodup_sub_lt (hang_nodup k) (hang_sub (l := l) hc k) h1 h2
        omega
/-- the cells that hang together with c -/
def comp (f : Field) (l : List Nat) (c : Nat) : List Nat := hang f l (cells f) [c]
theorem comp_stable {c : Nat} (hc : c < cells f) : Stable f l (comp f l c) := by
  rcases stable_or (l := l) hc (cells f) with h | h
  · exact h
  · have : (hang f l (cells f) [c]).length ≤ (List.range (cells f)).length := nodup_sub_len (hang_nodup _) fun x hx => List.mem_range.mpr (hang_lt hc _ x hx)
    rw [List.length_range] at this
    omega
theorem comp_self {c : Nat} (hc : c < cells f) : c ∈ comp f l c := by
  have : ∀ k, c ∈ hang f l k [c] := by
    intro k
    induction k with
    | zero => simp [hang]
    | succ k ih => exact hang_sub hc k c ih
  exact this _
theorem comp_lt {c : Nat} (hc : c < cells f) {x : Nat} (h : x ∈ comp f l c) : x < cells f := hang_lt hc _ x h
/-- a neighbour of what hangs together with c does so, too -/
theorem comp_next {c d e s : Nat} (g : Good f) (hc : c < cells f) (hd : d ∈ comp f l c) (he : e ∈ l) (hs : s < 4) (h : beyond f d s = some e) : e ∈ comp f l c := by
  have hd' := comp_lt hc hd
  obtain ⟨t, ht, q⟩ := bey_sym g hd' hs h
  exact comp_stable hc e (mem_round.mpr ⟨bey_lt g hd' hs h, .inr ⟨he, t, ht, d, q, hd⟩⟩)
/-- .. and nothing else does -/
theorem comp_least {c : Nat} {M : List Nat} (g : Good f) (hcM : c ∈ M) (hM : ∀ x ∈ M, x < cells f) (h : ∀ d ∈ M, ∀ s, s < 4 → ∀ e, beyond f d s = some e → e ∈ l → e ∈ M) : ∀ x ∈ comp f l c, x ∈ M := by
  have : ∀ k, ∀ x ∈ hang f l k [c], x ∈ M := by
    intro k
    induction k with
    | zero =>
      intro x hx
      have : x = c := by simpa [hang] using hx
      rw [this]; exact hcM
    | succ k ih =>
      intro x hx
      rw [hang_succ] at hx
      obtain ⟨h1, q | ⟨q, s, hs, d, hd, hm⟩⟩ := mem_round.mp hx
      · exact ih x q
      · obtain ⟨t, ht, z⟩ := bey_sym g h1 hs hd
        exact h d (ih d hm) t ht x z q
  exact this _
/-- the first of its part -/
def isMin (f : Field) (l : List Nat) (c : Nat) : Bool := (comp f l c).all fun d => decide (c ≤ d)
def cnt (f : Field) (l L : List Nat) : Nat := (L.filter (isMin f l)).length
theorem parts_eq (hr : Rising l) (hl : ∀ c ∈ l, c < cells f) : parts f l = cnt f l l := by
  unfold parts cnt
  have : (List.range (cells f)).filter (fun c => l.contains c && ((hang f l (cells f) [c]).all fun d => decide (c ≤ d))) = ((List.range (cells f)).filter fun c => l.contains c).filter (isMin f l) := by
    rw [List.filter_filter]
    apply List.filter_congr
    intro c _
    rw [Bool.and_comm]
    rfl
  rw [this, filter_range_of_rising _ l hr hl]
theorem cnt_perm {L M : List Nat} (h : L.Perm M) : cnt f l L = cnt f l M := (h.filter _).length_eq
theorem cnt_append (L M : List Nat) : cnt f l (L ++ M) = cnt f l L + cnt f l M := by
  unfold cnt
  rw [List.filter_append, List.length_append]

/-- the outer loop: what's left, how many parts were found -/
structure Out (f : Field) (l L : List Nat) (n : Nat) : Prop where
  nd : L.Nodup
  sub : ∀ c ∈ L, c ∈ l
  cl : ∀ c ∈ L, ∀ s, s < 4 → ∀ d, beyond f c s = some d → d ∈ l → d ∈ L
  eq : n + cnt f l L = cnt f l l
theorem Out.start (hr : Rising l) : Out f l l 0 := by
  refine ⟨?_, fun _ h => h, fun _ _ _ _ _ _ h => h, Nat.zero_add _⟩
  exact List.Pairwise.imp (fun h => Nat.ne_of_lt h) hr
/-- the inner loop: what's left of L, what waits, what was found -/
structure In (f : Field) (l L : List Nat) (s : Nat) (L' W V : List Nat) : Prop where
  perm : L.Perm (L' ++ V)
  top : s ∈ V
  wait : ∀ x ∈ W, x ∈ V
  rch : ∀ x ∈ V, x ∈ comp f l s
  done : ∀ v ∈ V, v ∉ W → ∀ t, t < 4 → ∀ d, beyond f v t = some d → d ∉ L'
/-- .. in the midst of a turn: the cell in hand, the sides gone through -/
structure Mid (f : Field) (l L : List Nat) (s : Nat) (L' W V : List Nat) (cell i : Nat) : Prop where
  perm : L.Perm (L' ++ V)
  top : s ∈ V
  wait : ∀ x ∈ W, x ∈ V
  rch : ∀ x ∈ V, x ∈ comp f l s
  cel : cell ∈ V
  done : ∀ v ∈ V, v ∉ W → v ≠ cell → ∀ t, t < 4 → ∀ d, beyond f v t = some d → d ∉ L'
  now : ∀ t, t < i → ∀ d, beyond f cell t = some d → d ∉ L'
theorem In.start {L0 : List Nat} {s : Nat} (hs : s < cells f) : In f l (L0 ++ [s]) s L0 [s] [s] :=
  ⟨.refl _, by simp, fun _ h => h, fun x hx => by
    have : x = s := by simpa using hx
    rw [this]; exact comp_self hs, fun v hv hn => absurd hv hn⟩
theorem In.pop {L L' W V : List Nat} {s cell : Nat} (h : In f l L s L' (W ++ [cell]) V) : Mid f l L s L' W V cell 0 :=
  ⟨h.perm, h.top, fun x hx => h.wait x (List.mem_append_left _ hx), h.rch, h.wait cell (by simp), fun v hv hn hc => h.done v hv (by simp [hn, hc]), fun t ht => absurd ht (by omega)⟩
theorem Mid.no {L L' W V : List Nat} {s cell i : Nat} (h : Mid f l L s L' W V cell i) (hd : ∀ d, beyond f cell i = some d → d ∉ L') : Mid f l L s L' W V cell (i + 1) :=
  ⟨h.perm, h.top, h.wait, h.rch, h.cel, h.done, fun t ht d e => by
    by_cases q : t < i
    · exact h.now t q d e
    · have : t = i := by omega
      subst this
      exact hd d e⟩
theorem Mid.yes {L L' W V : List Nat} {s cell i d : Nat} (g : Good f) (hs : s < cells f) (hL : ∀ c ∈ L, c ∈ l) (nd : L.Nodup) (h : Mid f l L s L' W V cell i) (hi : i < 4) (e : beyond f cell i = some d) (hd : d ∈ L') :
    Mid f l L s (L'.erase d) (W ++ [d]) (d :: V) cell (i + 1) := by
  have ndL' : L'.Nodup := by
    have := (h.perm.nodup_iff).mp nd
    exact (List.nodup_append.mp this).1
  have sub : ∀ x, x ∈ L'.erase d → x ∈ L' := fun x hx => List.mem_of_mem_erase hx
  have hdL : d ∈ L := h.perm.mem_iff.mpr (List.mem_append_left _ hd)
  refine ⟨?_, List.mem_cons_of_mem _ h.top, fun x hx => ?_, fun x hx => ?_, List.mem_cons_of_mem _ h.cel, fun v hv hn hc t ht y hy => ?_, fun t ht y hy => ?_⟩
  · refine h.perm.trans ?_
    have p := (List.perm_cons_erase hd).append_right V
    refine p.trans ?_
    rw [List.cons_append]
    exact (List.perm_middle).symm
  · rcases List.mem_append.mp hx with q | q
    · exact List.mem_cons_of_mem _ (h.wait x q)
    · have : x = d := by simpa using q
      rw [this]; exact List.mem_cons_self
  · rcases List.mem_cons.mp hx with q | q
    · rw [q]
      exact comp_next g hs (h.rch cell h.cel) (hL d hdL) hi e
    · exact h.rch x q
  · rcases List.mem_cons.mp hv with q | q
    · exact absurd (by simp [q]) hn
    · exact fun z => h.done v q (fun w => hn (List.mem_append_left _ w)) hc t ht y hy (sub y z)
  · by_cases q : t < i
    · exact fun z => h.now t q y hy (sub y z)
    · have : t = i := by omega
      subst this
      rw [e] at hy
      cases hy
      intro z
      exact (List.Nodup.not_mem_erase ndL') z
theorem Mid.fin {L L' W V : List Nat} {s cell : Nat} (h : Mid f l L s L' W V cell 4) : In f l L s L' W V :=
  ⟨h.perm, h.top, h.wait, h.rch, fun v hv hn t ht d hd => by
    by_cases q : v = cell
    · subst q
      exact h.now t ht d hd
    · exact h.done v hv hn q t ht d hd⟩
theorem least_of : ∀ {V : List Nat}, V ≠ [] → ∃ m ∈ V, ∀ x ∈ V, m ≤ x
  | [], h => absurd rfl h
  | [a], _ => ⟨a, by simp, fun x hx => by have : x = a := by simpa using hx
                                          omega⟩
  | a :: b :: r, _ => by
    obtain ⟨m, hm, h⟩ := least_of (V := b :: r) (by simp)
    by_cases q : a ≤ m
    · refine ⟨a, List.mem_cons_self, fun x hx => ?_⟩
      rcases List.mem_cons.mp hx with e | e
      · omega
      · have := h x e
        omega
    · refine ⟨m, List.mem_cons_of_mem _ hm, fun x hx => ?_⟩
      rcases List.mem_cons.mp hx with e | e
      · omega
      · exact h x e
theorem one_of {A : List Nat} {a : Nat} (n : A.Nodup) (h : a ∈ A) (u : ∀ x ∈ A, x = a) : A.length = 1 := by
  have h1 : A.length ≤ [a].length := nodup_sub_len n fun x hx => by rw [u x hx]; simp
  have h2 : 0 < A.length := List.length_pos_of_mem h
  simp only [List.length_singleton] at h1
  omega
/-- the inner loop's end -/
theorem In.fin {L L' V : List Nat} {s n : Nat} (g : Good f) (hl : ∀ c ∈ l, c < cells f) (hs : s ∈ L) (o : Out f l L n) (h : In f l L s L' [] V) : Out f l L' (n + 1) := by
  have hsl := hl s (o.sub s hs)
  have ndp : (L' ++ V).Nodup := (h.perm.nodup_iff).mp o.nd
  have nd1 := (List.nodup_append.mp ndp).1
  have nd2 := (List.nodup_append.mp ndp).2.1
  have apart := (List.nodup_append.mp ndp).2.2
  have inL : ∀ x, x ∈ V → x ∈ L := fun x hx => h.perm.mem_iff.mpr (List.mem_append_right _ hx)
  have inL' : ∀ x, x ∈ L' → x ∈ L := fun x hx => h.perm.mem_iff.mpr (List.mem_append_left _ hx)
  have cases' : ∀ x, x ∈ L → x ∈ L' ∨ x ∈ V := fun x hx => List.mem_append.mp (h.perm.mem_iff.mp hx)
  have clV : ∀ d ∈ V, ∀ t, t < 4 → ∀ e, beyond f d t = some e → e ∈ l → e ∈ V := fun d hd t ht e he hel => by
    have := o.cl d (inL d hd) t ht e he hel
    rcases cases' e this with q | q
    · exact absurd q (h.done d hd (by simp) t ht e he)
    · exact q
  have ltV : ∀ x ∈ V, x < cells f := fun x hx => hl x (o.sub x (inL x hx))
  -- all that hangs together with one of V is V
  have compV : ∀ c ∈ V, ∀ x, x ∈ comp f l c ↔ x ∈ V := fun c hc x => by
    constructor
    · exact fun hx => comp_least g hc ltV clV x hx
    · intro hx
      -- s hangs together with c, so x does
      have back : ∀ y, y ∈ comp f l s → y ∈ comp f l c := by
        -- the cells of V that hang together with c are closed; s among them: go from c's side
        have hsc : s ∈ comp f l c := by
          apply Classical.byContradiction
          intro hn
          -- M: the cells of V not with c: closed, holds s, so holds all of comp s, so c
          have := comp_least (c := s) (M := V.filter fun y => decide (y ∉ comp f l c)) g (List.mem_filter.mpr ⟨h.top, by simp [hn]⟩) (fun y hy => ltV y (List.mem_filter.mp hy).1) (fun d hd t ht e he hel => by
            have hd' := List.mem_filter.mp hd
            refine List.mem_filter.mpr ⟨clV d hd'.1 t ht e he hel, ?_⟩
            have hnd : d ∉ comp f l c := by simpa using hd'.2
            simp only [decide_eq_true_eq]
            intro hec
            obtain ⟨t', ht', q⟩ := bey_sym g (ltV d hd'.1) ht he
            exact hnd (comp_next g (ltV c hc) hec (o.sub d (inL d hd'.1)) ht' q)) c (h.rch c hc)
          have hcc := (List.mem_filter.mp this).2
          simp only [decide_eq_true_eq] at hcc
          exact hcc (comp_self (ltV c hc))
        exact fun y hy => comp_least g hsc (fun z hz => comp_lt (ltV c hc) hz) (fun d hd t ht e he hel => comp_next g (ltV c hc) hd hel ht he) y hy
      exact back x (h.rch x hx)
  refine ⟨nd1, fun c hc => o.sub c (inL' c hc), fun c hc t ht d hd hdl => ?_, ?_⟩
  · have := o.cl c (inL' c hc) t ht d hd hdl
    rcases cases' d this with q | q
    · exact q
    · obtain ⟨t', ht', z⟩ := bey_sym g (hl c (o.sub c (inL' c hc))) ht hd
      exact absurd rfl (apart c hc c (clV d q t' ht' c z (o.sub c (inL' c hc))))
  · have e1 := o.eq
    rw [cnt_perm h.perm, cnt_append] at e1
    have : cnt f l V = 1 := by
      obtain ⟨m, hm, hle⟩ := least_of (V := V) (fun e => by rw [e] at h; exact absurd h.top (by simp))
      unfold cnt
      refine one_of (a := m) (nd2.sublist List.filter_sublist) (List.mem_filter.mpr ⟨hm, ?_⟩) fun x hx => ?_
      · unfold isMin
        rw [List.all_eq_true]
        intro d hd
        exact decide_eq_true (hle d ((compV m hm d).mp hd))
      · have hx' := List.mem_filter.mp hx
        have q := hx'.2
        unfold isMin at q
        rw [List.all_eq_true] at q
        have := of_decide_eq_true (q m ((compV x hx'.1 m).mpr hm))
        have := hle x hx'.1
        omega
    omega
theorem Out.fin {n : Nat} (hr : Rising l) (hl : ∀ c ∈ l, c < cells f) (o : Out f l [] n) : n = parts f l := by
  rw [parts_eq hr hl]
  have := o.eq
  simpa [cnt] using this
end
end HF

/-! # Plain mathematics, 3: a day's cells; rectangles -/
namespace HF
open Vbsyae
theorem rising_ext {l m : List Nat} {n : Nat} (hl : Rising l) (hm : Rising m) (h1 : ∀ c ∈ l, c < n) (h2 : ∀ c ∈ m, c < n) (h : ∀ c, c < n → (c ∈ l ↔ c ∈ m)) : l = m := by
  rw [← filter_range_of_rising n l hl h1, ← filter_range_of_rising n m hm h2]
  apply List.filter_congr
  intro c hc
  have := h c (List.mem_range.mp hc)
  by_cases q : c ∈ l
  · simp [q, this.mp q]
  · have q2 : c ∉ m := fun z => q (this.mpr z)
    simp [q, q2]
theorem rising_range (n : Nat) : Rising (List.range n) := List.pairwise_lt_range
theorem rising_filter {l : List Nat} {p : Nat → Bool} (h : Rising l) : Rising (l.filter p) := h.sublist List.filter_sublist
structure Fits (f : Field) (x : Fold) : Prop where
  h1 : 1 ≤ x.high
  w1 : 1 ≤ x.wide
  h : x.row + x.high ≤ f.rows
  w : x.col + x.wide ≤ f.cols
def rowOf (f : Field) (x : Fold) (i : Nat) : List Nat := (List.range x.wide).map fun j => (x.row + i) * f.cols + (x.col + j)
def dcells (f : Field) (x : Fold) : List Nat := (List.range x.high).flatMap (rowOf f x)
theorem mem_dcells {f : Field} {x : Fold} (ft : Fits f x) {c : Nat} : c ∈ dcells f x ↔ c < cells f ∧ x.row ≤ c / f.cols ∧ c / f.cols < x.row + x.high ∧ x.col ≤ c % f.cols ∧ c % f.cols < x.col + x.wide := by
  unfold dcells rowOf
  rw [List.mem_flatMap]
  constructor
  · rintro ⟨i, hi, hc⟩
    obtain ⟨j, hj, rfl⟩ := List.mem_map.mp hc
    have hi := List.mem_range.mp hi
    have hj := List.mem_range.mp hj
    have := ft.h
    have := ft.w
    rw [(dm (cols := f.cols) (r := x.row + i) (k := x.col + j) (by omega)).1, (dm (cols := f.cols) (r := x.row + i) (k := x.col + j) (by omega)).2]
    exact ⟨cell_lt (by omega) (by omega), by omega, by omega, by omega, by omega⟩
  · rintro ⟨h0, h1, h2, h3, h4⟩
    refine ⟨c / f.cols - x.row, List.mem_range.mpr (by omega), List.mem_map.mpr ⟨c % f.cols - x.col, List.mem_range.mpr (by omega), ?_⟩⟩
    rw [show x.row + (c / f.cols - x.row) = c / f.cols by omega, show x.col + (c % f.cols - x.col) = c % f.cols by omega]
    exact split.symm
theorem rising_dcells {f : Field} {x : Fold} (ft : Fits f x) : Rising (dcells f x) := by
  unfold dcells Rising
  rw [List.pairwise_flatMap]
  refine ⟨fun i _ => ?_, ?_⟩
  · unfold rowOf
    rw [List.pairwise_map]
    exact List.Pairwise.imp (fun h => by omega) (rising_range _)
  · refine List.Pairwise.imp ?_ (rising_range _)
    intro i i' hi c hc d hd
    unfold rowOf at hc hd
    obtain ⟨j, hj, rfl⟩ := List.mem_map.mp hc
    obtain ⟨j', _, rfl⟩ := List.mem_map.mp hd
    have hj := List.mem_range.mp hj
    have := ft.w
    have h2 : (x.row + i + 1) * f.cols ≤ (x.row + i') * f.cols := Nat.mul_le_mul_right _ (by omega)
    rw [Nat.add_mul (x.row + i) 1, Nat.one_mul] at h2
    omega
theorem dcells_eq {f : Field} {x : Fold} (ft : Fits f x) : foldCells f x = dcells f x := by
  unfold foldCells
  refine rising_ext (n := cells f) (rising_filter (rising_range _)) (rising_dcells ft) (fun c hc => List.mem_range.mp (List.mem_filter.mp hc).1) (fun c hc => ((mem_dcells ft).mp hc).1) fun c hc => ?_
  rw [List.mem_filter, List.mem_range, mem_dcells ft]
  simp only [decide_eq_true_eq]
theorem dcells_len (f : Field) (x : Fold) : (dcells f x).length = x.high * x.wide := by
  unfold dcells rowOf
  rw [List.length_flatMap]
  simp only [List.length_map, List.length_range]
  rw [List.map_const', List.sum_replicate_nat, List.length_range]
theorem rising_len {l : List Nat} {n : Nat} (h : Rising l) (hl : ∀ c ∈ l, c < n) : l.length ≤ n := by
  have := nodup_sub_len (A := l) (B := List.range n) (List.Pairwise.imp (fun h => Nat.ne_of_lt h) h) fun x hx => List.mem_range.mpr (hl x hx)
  rwa [List.length_range] at this
theorem hurds_len (f : Field) (l m : List Nat) : (hurds f l m).length ≤ 4 * m.length := by
  unfold hurds
  induction m with
  | nil => simp
  | cons a r ih =>
    rw [List.flatMap_cons, List.length_append, List.length_map, List.length_cons]
    have := List.length_filter_le (fun s => need f l a s) (List.range 4)
    rw [List.length_range] at this
    omega

/-! ### rectangles -/
/-- what a row (a column) costs by its ends -/
def lineN (all : Bool) (p q : Bool) : Nat := if all then 2 - ((if p then 1 else 0) + (if q then 1 else 0)) else 2 - min 1 ((if p then 1 else 0) + (if q then 1 else 0))
theorem rowCost_eq (f : Field) (b : Nat) : rowCost f b = lineN (decide (b = f.cols)) (walled f 1) (walled f 3) := by
  unfold rowCost lineN
  by_cases h : b = f.cols
  · simp only [h, decide_true, if_true]
    cases walled f 1 <;> cases walled f 3 <;> rfl
  · simp only [h, decide_false, if_false, Bool.false_eq_true]
    cases walled f 1 <;> cases walled f 3 <;> rfl
theorem colCost_eq (f : Field) (a : Nat) : colCost f a = lineN (decide (a = f.rows)) (walled f 0) (walled f 2) := by
  unfold colCost lineN
  by_cases h : a = f.rows
  · simp only [h, decide_true, if_true]
    cases walled f 0 <;> cases walled f 2 <;> rfl
  · simp only [h, decide_false, if_false, Bool.false_eq_true]
    cases walled f 0 <;> cases walled f 2 <;> rfl
theorem lineN_le (a p q : Bool) : lineN a p q ≤ 2 := by
  cases a <;> cases p <;> cases q <;> decide
theorem rectCost_le {f : Field} (g : Good f) {a b : Nat} (ha : a ≤ f.rows) (hb : b ≤ f.cols) : rectCost f a b ≤ 32 := by
  unfold rectCost
  rw [rowCost_eq, colCost_eq]
  have h1 := Nat.mul_le_mul (show a ≤ 8 from Nat.le_trans ha g.r8) (lineN_le (decide (b = f.cols)) (walled f 1) (walled f 3))
  have h2 := Nat.mul_le_mul (show b ≤ 8 from Nat.le_trans hb g.c8) (lineN_le (decide (a = f.rows)) (walled f 0) (walled f 2))
  omega
theorem mem_shapes {f : Field} {a b : Nat} : (a, b) ∈ shapes f ↔ (1 ≤ a ∧ a ≤ f.rows) ∧ (1 ≤ b ∧ b ≤ f.cols) := by
  unfold shapes
  rw [List.mem_flatMap]
  constructor
  · rintro ⟨i, hi, h⟩
    obtain ⟨j, hj, e⟩ := List.mem_map.mp h
    cases e
    have := List.mem_range.mp hi
    have := List.mem_range.mp hj
    omega
  · rintro ⟨h1, h2⟩
    refine ⟨a - 1, List.mem_range.mpr (by omega), List.mem_map.mpr ⟨b - 1, List.mem_range.mpr (by omega), ?_⟩⟩
    rw [show a - 1 + 1 = a by omega, show b - 1 + 1 = b by omega]
theorem shapes_len (f : Field) : (shapes f).length = f.rows * f.cols := by
  unfold shapes
  rw [List.length_flatMap]
  simp only [List.length_map, List.length_range]
  rw [List.map_const', List.sum_replicate_nat, List.length_range]
/-- one list of whole numbers ahead of another, number by number -/
def lexB : List Int → List Int → Bool
  | x :: xs, y :: ys => if x = y then lexB xs ys else decide (x < y)
  | [], _ :: _ => true
  | _, _ => false
def keyG (f : Field) (x : Nat × Nat) : List Int := [0 - (x.1 : Int) * (x.2 : Int), (rectCost f x.1 x.2 : Int), (x.1 : Int), (x.2 : Int)]
def keyC (f : Field) (x : Nat × Nat) : List Int := [(rectCost f x.1 x.2 : Int), 0 - (x.1 : Int) * (x.2 : Int), (x.1 : Int), (x.2 : Int)]
theorem eq_of_mul {a b c d : Nat} (h : a * b = c * d) (e : a = c) (ha : 1 ≤ a) : b = d := by
  subst e
  exact Nat.eq_of_mul_eq_mul_left (by omega) h
theorem better_lex {f : Field} {x y : Nat × Nat} (hx : 1 ≤ x.1) : better f x y = lexB (keyG f x) (keyG f y) := by
  obtain ⟨a, b⟩ := x
  obtain ⟨c, d⟩ := y
  unfold better keyG lexB
  simp only
  have e1 : (0 - (a : Int) * b = 0 - (c : Int) * d) ↔ a * b = c * d := by
    constructor
    · intro h
      have : (a : Int) * b = c * d := by omega
      exact_mod_cast this
    · intro h
      have : (a : Int) * b = c * d := by exact_mod_cast h
      omega
  have e2 : (0 - (a : Int) * b < 0 - (c : Int) * d) ↔ c * d < a * b := by
    constructor
    · intro h
      have : (c : Int) * d < a * b := by omega
      exact_mod_cast this
    · intro h
      have : (c : Int) * d < a * b := by exact_mod_cast h
      omega
  by_cases h1 : a * b = c * d
  · rw [if_pos (e1.mpr h1)]
    have h1' : ¬ c * d < a * b := by omega
    simp only [h1', decide_false, Bool.false_or, h1, beq_self_eq_true, Bool.true_and]
    unfold lexB
    by_cases h2 : rectCost f a b = rectCost f c d
    · rw [if_pos (by rw [h2]), h2]
      simp only [Nat.lt_irrefl, decide_false, Bool.false_or, beq_self_eq_true, Bool.true_and]
      unfold lexB
      by_cases h3 : a = c
      · have h4 := eq_of_mul h1 h3 hx
        subst h3
        subst h4
        simp [lexB]
      · rw [if_neg (by omega)]
        by_cases q : a < c
        · simp [q]
        · simp [q]
    · rw [if_neg (by omega)]
      have h2' : (rectCost f a b == rectCost f c d) = false := by simpa using h2
      rw [h2', Bool.false_and, Bool.or_false]
      by_cases q : rectCost f a b < rectCost f c d
      · simp [q]
      · simp [q]
  · rw [if_neg (fun z => h1 (e1.mp z))]
    have h1' : (a * b == c * d) = false := by simpa using h1
    rw [h1', Bool.false_and, Bool.or_false]
    by_cases q : c * d < a * b
    · rw [decide_eq_true q, decide_eq_true (e2.mpr q)]
    · simp only [q, decide_false]
      rw [eq_comm, decide_eq_false_iff_not]
      exact fun z => q (e2.mp z)
theorem cheaper_lex {f : Field} {x y : Nat × Nat} (hx : 1 ≤ x.1) : cheaper f x y = lexB (keyC f x) (keyC f y) := by
  obtain ⟨a, b⟩ := x
  obtain ⟨c, d⟩ := y
  unfold cheaper keyC lexB
  simp only
  have e1 : (0 - (a : Int) * b = 0 - (c : Int) * d) ↔ a * b = c * d := by
    constructor
    · intro h
      have : (a : Int) * b = c * d := by omega
      exact_mod_cast this
    · intro h
      have : (a : Int) * b = c * d := by exact_mod_cast h
      omega
  have e2 : (0 - (a : Int) * b < 0 - (c : Int) * d) ↔ c * d < a * b := by
    constructor
    · intro h
      have : (c : Int) * d < a * b := by omega
      exact_mod_cast this
    · intro h
      have : (c : Int) * d < a * b := by exact_mod_cast h
      omega
  by_cases h2 : rectCost f a b = rectCost f c d
  · rw [if_pos (by rw [h2]), h2]
    simp only [Nat.lt_irrefl, decide_false, Bool.false_or, beq_self_eq_true, Bool.true_and]
    unfold lexB
    by_cases h1 : a * b = c * d
    · rw [if_pos (e1.mpr h1)]
      have h1' : ¬ c * d < a * b := by omega
      simp only [h1', decide_false, Bool.false_or, h1, beq_self_eq_true, Bool.true_and]
      unfold lexB
      by_cases h3 : a = c
      · have h4 := eq_of_mul h1 h3 hx
        subst h3
        subst h4
        simp [lexB]
      · rw [if_neg (by omega)]
        by_cases q : a < c
        · simp [q]
        · simp [q]
    · rw [if_neg (fun z => h1 (e1.mp z))]
      have h1' : (a * b == c * d) = false := by simpa using h1
      rw [h1', Bool.false_and, Bool.or_false]
      by_cases q : c * d < a * b
      · rw [decide_eq_true q, decide_eq_true (e2.mpr q)]
      · simp only [q, decide_false]
        rw [eq_comm, decide_eq_false_iff_not]
        exact fun z => q (e2.mp z)
  · rw [if_neg (by omega)]
    have h2' : (rectCost f a b == rectCost f c d) = false := by simpa using h2
    rw [h2', Bool.false_and, Bool.or_false]
    by_cases q : rectCost f a b < rectCost f c d
    · simp [q]
    · simp [q]
/-- the first of the least, from a first one on -/
def minB (x : List Int) (xs : List (List Int)) : List Int := xs.foldl (fun a y => if lexB y a = true then y else a) x
def pick (R : Nat × Nat → Nat × Nat → Bool) (x : Nat × Nat) (l : List (Nat × Nat)) : Nat × Nat := l.foldl (fun m y => if R y m = true then y else m) x
theorem pick_key {R : Nat × Nat → Nat × Nat → Bool} {key : Nat × Nat → List Int} : ∀ (l : List (Nat × Nat)) (x : Nat × Nat), (∀ y ∈ l, ∀ m, R y m = lexB (key y) (key m)) → minB (key x) (l.map key) = key (pick R x l)
  | [], _, _ => rfl
  | y :: l, x, h => by
    have h0 := h y List.mem_cons_self x
    show minB (if lexB (key y) (key x) = true then key y else key x) (l.map key) = key (pick R (if R y x = true then y else x) l)
    rw [h0]
    have ih := fun z => pick_key (R := R) l z fun y hy m => h y (List.mem_cons_of_mem _ hy) m
    by_cases q : lexB (key y) (key x) = true
    · rw [if_pos q, if_pos q]
      exact ih y
    · rw [if_neg q, if_neg q]
      exact ih x
theorem pick_mem {R : Nat × Nat → Nat × Nat → Bool} : ∀ (l : List (Nat × Nat)) (x : Nat × Nat), pick R x l = x ∨ pick R x l ∈ l
  | [], _ => .inl rfl
  | y :: l, x => by
    show pick R (if R y x = true then y else x) l = x ∨ pick R (if R y x = true then y else x) l ∈ y :: l
    by_cases q : R y x = true
    · rw [if_pos q]
      rcases pick_mem (R := R) l y with h | h
      · rw [h]; exact .inr List.mem_cons_self
      · exact .inr (List.mem_cons_of_mem _ h)
    · rw [if_neg q]
      rcases pick_mem (R := R) l x with h | h
      · exact .inl h
      · exact .inr (List.mem_cons_of_mem _ h)
def cand (f : Field) (h : Nat) : List (Nat × Nat) := (shapes f).filter fun x => decide (rectCost f x.1 x.2 ≤ h)
theorem best_nil {f : Field} {h : Nat} (e : cand f h = []) : best f h = (0, 0) := by
  unfold best
  show (cand f h).foldl _ _ = _
  rw [e]
  rfl
theorem best_pick {f : Field} {h : Nat} {x : Nat × Nat} {l : List (Nat × Nat)} (e : cand f h = x :: l) : best f h = pick (better f) x l := by
  have hs : ∀ y ∈ x :: l, 1 ≤ y.1 := fun y hy => by
    rw [← e] at hy
    have := (List.mem_filter.mp hy).1
    obtain ⟨a, b⟩ := y
    exact (mem_shapes.mp this).1.1
  unfold best
  show (cand f h).foldl _ _ = _
  rw [e]
  show l.foldl _ x = _
  have hx := hs x List.mem_cons_self
  have hl : ∀ y ∈ l, 1 ≤ y.1 := fun y hy => hs y (List.mem_cons_of_mem _ hy)
  clear e hs
  unfold pick
  induction l generalizing x with
  | nil => rfl
  | cons y l ih =>
    rw [List.foldl_cons, List.foldl_cons]
    have e0 : (if x.1 = 0 ∨ better f y x = true then y else x) = (if better f y x = true then y else x) := by
      have : ¬ x.1 = 0 := by omega
      simp only [this, false_or]
    rw [e0]
    refine ih (x := if better f y x = true then y else x) ?_ fun z hz => hl z (List.mem_cons_of_mem _ hz)
    split
    · exact hl y List.mem_cons_self
    · exact hx
theorem best_mem {f : Field} {h : Nat} {x : Nat × Nat} {l : List (Nat × Nat)} (e : cand f h = x :: l) : best f h ∈ shapes f := by
  rw [best_pick e]
  have : pick (better f) x l ∈ cand f h := by
    rw [e]
    rcases pick_mem (R := better f) l x with q | q
    · rw [q]; exact List.mem_cons_self
    · exact List.mem_cons_of_mem _ q
  exact (List.mem_filter.mp this).1
def candL (f : Field) (n : Nat) : List (Nat × Nat) := (shapes f).filter fun x => decide (n ≤ x.1 * x.2)
theorem least_nil {f : Field} {n : Nat} (e : candL f n = []) : least f n = none := by
  unfold least
  show (candL f n).foldl _ _ = _
  rw [e]
  rfl
theorem least_pick {f : Field} {n : Nat} {x : Nat × Nat} {l : List (Nat × Nat)} (e : candL f n = x :: l) : least f n = some (pick (cheaper f) x l) := by
  unfold least
  show (candL f n).foldl _ _ = _
  rw [e]
  show l.foldl _ (some x) = _
  clear e
  unfold pick
  induction l generalizing x with
  | nil => rfl
  | cons y l ih =>
    rw [List.foldl_cons, List.foldl_cons]
    by_cases q : cheaper f y x = true
    · simp only [q, if_true]
      exact ih
    · simp only [q, if_false]
      exact ih
theorem least_mem {f : Field} {n : Nat} {x : Nat × Nat} {l : List (Nat × Nat)} (e : candL f n = x :: l) : pick (cheaper f) x l ∈ shapes f := by
  have : pick (cheaper f) x l ∈ candL f n := by
    rw [e]
    rcases pick_mem (R := cheaper f) l x with q | q
    · rw [q]; exact List.mem_cons_self
    · exact List.mem_cons_of_mem _ q
  exact (List.mem_filter.mp this).1
end HF

/-! # Plain mathematics, 4: hurdles carried; the table over sets of days -/
namespace HF
open Vbsyae
structure WF (f : Field) : Prop where
  g : Good f
  fit : ∀ x ∈ f.days, Fits f x
  few : f.days.length ≤ 20
def spot (f : Field) (d : Nat) : List Nat := match f.days[d]? with
  | some x => (hurds f (dcells f x) (dcells f x)).map fun y => placeN f y.1 y.2
  | none => []
theorem dayCells_eq {f : Field} (w : WF f) {d : Nat} {x : Fold} (h : f.days[d]? = some x) : dayCells f d = dcells f x := by
  unfold dayCells
  rw [h]
  exact dcells_eq (w.fit x (List.mem_of_getElem? h))
theorem places_eq {f : Field} (w : WF f) {d : Nat} {x : Fold} (h : f.days[d]? = some x) : places f d = (hurds f (dcells f x) (dcells f x)).map (place f) := by
  unfold places
  rw [dayCells_eq w h, sides_eq (rising_dcells (w.fit x (List.mem_of_getElem? h))) fun c hc => ((mem_dcells (w.fit x (List.mem_of_getElem? h))).mp hc).1]
theorem spot_eq {f : Field} {d : Nat} {x : Fold} (h : f.days[d]? = some x) : spot f d = (hurds f (dcells f x) (dcells f x)).map fun y => placeN f y.1 y.2 := by
  unfold spot
  rw [h]
theorem size_eq {f : Field} (w : WF f) {d : Nat} (h : d < f.days.length) : (places f d).length = (spot f d).length := by
  have e := List.getElem?_eq_getElem h
  rw [places_eq w e, spot_eq e, List.length_map, List.length_map]
theorem hurds_ok {f : Field} (w : WF f) {x : Fold} (hx : x ∈ f.days) {y : Nat × Nat} (h : y ∈ hurds f (dcells f x) (dcells f x)) : y.1 < cells f ∧ y.2 < 4 := by
  obtain ⟨c, s⟩ := y
  have := mem_hurds h
  exact ⟨((mem_dcells (w.fit x hx)).mp this.1).1, this.2⟩
theorem spot_has {f : Field} (w : WF f) {a : Nat} (ha : a < f.days.length) {y : Nat × Nat} (hy : y.1 < cells f ∧ y.2 < 4) : (places f a).contains (place f y) = (spot f a).contains (placeN f y.1 y.2) := by
  have e := List.getElem?_eq_getElem ha
  rw [places_eq w e, spot_eq e]
  have key : place f y ∈ (hurds f (dcells f f.days[a]) (dcells f f.days[a])).map (place f) ↔ placeN f y.1 y.2 ∈ (hurds f (dcells f f.days[a]) (dcells f f.days[a])).map fun y => placeN f y.1 y.2 := by
    constructor
    · intro h
      obtain ⟨u, hu, e1⟩ := List.mem_map.mp h
      have hv := hurds_ok w (List.getElem_mem ha) hu
      obtain ⟨c, s⟩ := u
      obtain ⟨c', s'⟩ := y
      exact List.mem_map.mpr ⟨(c, s), hu, (place_iff w.g hv.1 hv.2 hy.1 hy.2).mp e1⟩
    · intro h
      obtain ⟨u, hu, e1⟩ := List.mem_map.mp h
      have hv := hurds_ok w (List.getElem_mem ha) hu
      obtain ⟨c, s⟩ := u
      obtain ⟨c', s'⟩ := y
      exact List.mem_map.mpr ⟨(c, s), hu, (place_iff w.g hv.1 hv.2 hy.1 hy.2).mpr e1⟩
  rw [List.contains_eq_mem, List.contains_eq_mem]
  simp only [key]
/-- how many of b's hurdles stand already from a -/
def stay (f : Field) (a b : Nat) : Nat := ((spot f b).filter fun x => (spot f a).contains x).length
theorem stay_eq {f : Field} (w : WF f) {a b : Nat} (ha : a < f.days.length) (hb : b < f.days.length) : ((places f b).filter fun x => (places f a).contains x).length = stay f a b := by
  have e := List.getElem?_eq_getElem hb
  unfold stay
  rw [places_eq w e, spot_eq e, List.filter_map, List.filter_map, List.length_map, List.length_map]
  congr 1
  apply List.filter_congr
  intro y hy
  exact spot_has w ha (hurds_ok w (List.getElem_mem hb) hy)
theorem carry_eq {f : Field} (w : WF f) {a b : Nat} (ha : a < f.days.length) (hb : b < f.days.length) : carry f a b + stay f a b = (spot f b).length := by
  rw [← stay_eq w ha hb, ← size_eq w hb]
  unfold carry
  have h : ∀ l : List (Nat × Nat), (l.filter fun x => !(places f a).contains x).length + (l.filter fun x => (places f a).contains x).length = l.length := by
    intro l
    induction l with
    | nil => rfl
    | cons y r ih =>
      rw [List.filter_cons, List.filter_cons]
      cases (places f a).contains y with
      | true =>
        simp only [Bool.not_true, Bool.false_eq_true, if_false, if_true, List.length_cons]
        omega
      | false =>
        simp only [Bool.not_false, Bool.false_eq_true, if_false, if_true, List.length_cons]
        omega
  exact h _
theorem spot_len {f : Field} (w : WF f) (d : Nat) : (spot f d).length ≤ 256 := by
  unfold spot
  cases e : f.days[d]? with
  | none => simp
  | some x =>
    have hx := List.mem_of_getElem? e
    have ft := w.fit x hx
    have h1 := hurds_len f (dcells f x) (dcells f x)
    have h2 := rising_len (rising_dcells ft) fun c hc => ((mem_dcells ft).mp hc).1
    have := cells_le w.g
    rw [List.length_map]
    omega
theorem carry_le {f : Field} (w : WF f) {a b : Nat} (ha : a < f.days.length) (hb : b < f.days.length) : carry f a b ≤ 256 := by
  have := carry_eq w ha hb
  have := spot_len w b
  omega
/-! ### sets of days -/
def mems (x : Nat) : List Nat := (List.range 20).filter fun d => bit x d
theorem bit_small : ∀ x, x < 128 → ∀ e, e < 20 → bit x e = true → e < 7 := by decide +kernel
theorem bit_sub : ∀ x, x < 128 → ∀ d, d < 7 → bit x d = true → ∀ e, e < 20 → bit (x - 2 ^ d) e = (!(e == d) && bit x e) := by decide +kernel
theorem bit_le : ∀ x, x < 128 → ∀ d, d < 7 → bit x d = true → 2 ^ d ≤ x := by decide +kernel
theorem bit_zero : ∀ x, x < 128 → x ≠ 0 → (mems x) ≠ [] := by decide +kernel
theorem bit_pow : ∀ n, n ≤ 7 → ∀ x, x < 2 ^ n → ∀ d, d < 20 → bit x d = true → d < n := by decide +kernel
theorem bit_all : ∀ n, n ≤ 7 → ∀ d, d < n → bit (2 ^ n - 1) d = true := by decide +kernel
theorem pow_le {n : Nat} (h : n ≤ 7) : 2 ^ n ≤ 128 := by
  have : (2 : Nat) ^ n ≤ 2 ^ 7 := Nat.pow_le_pow_right (by decide) h
  omega
theorem mems_eq {n x : Nat} (hn : n ≤ 7) (hx : x < 2 ^ n) : mems x = (List.range n).filter fun d => bit x d := by
  refine rising_ext (n := 20) (rising_filter (rising_range _)) (rising_filter (rising_range _)) (fun c hc => List.mem_range.mp (List.mem_filter.mp hc).1) (fun c hc => ?_) fun c hc => ?_
  · have := List.mem_range.mp (List.mem_filter.mp hc).1
    omega
  · unfold mems
    rw [List.mem_filter, List.mem_filter, List.mem_range, List.mem_range]
    constructor
    · rintro ⟨_, h⟩
      exact ⟨bit_pow n hn x hx c hc h, h⟩
    · rintro ⟨_, h⟩
      exact ⟨hc, h⟩
theorem mem_mems {x d : Nat} (h : d ∈ mems x) : d < 20 ∧ bit x d = true := by
  have := List.mem_filter.mp h
  exact ⟨List.mem_range.mp this.1, this.2⟩
theorem mems_sub {x d : Nat} (hx : x < 128) (hd : d < 7) (hb : bit x d = true) : mems (x - 2 ^ d) = (mems x).filter fun e => !(e == d) := by
  unfold mems
  rw [List.filter_filter]
  apply List.filter_congr
  intro e he
  rw [bit_sub x hx d hd hb e (List.mem_range.mp he)]
theorem mems_len_sub {x d : Nat} (hx : x < 128) (hd : d < 7) (hb : bit x d = true) : (mems (x - 2 ^ d)).length < (mems x).length := by
  rw [mems_sub hx hd hb]
  have hm : d ∈ mems x := List.mem_filter.mpr ⟨List.mem_range.mpr (by omega), hb⟩
  have nd : ∀ l : List Nat, d ∈ l → (l.filter fun e => !(e == d)).length < l.length := by
    intro l
    induction l with
    | nil => intro h; cases h
    | cons a r ih =>
      intro h
      rw [List.filter_cons]
      by_cases e : a = d
      · subst e
        simp only [beq_self_eq_true, Bool.not_true, Bool.false_eq_true, if_false, List.length_cons]
        have := List.length_filter_le (fun e => !(e == a)) r
        omega
      · have h' : d ∈ r := by
          rcases List.mem_cons.mp h with q | q
          · exact absurd q.symm e
          · exact q
        have : (a == d) = false := by simpa using e
        rw [this]
        have := ih h'
        simpa using this
  exact nd _ hm
/-! ### the table -/
section
variable {f : Field}
def TT (f : Field) (x d : Nat) : Option Nat := atTable f (table f) x d
theorem push_all (g : Nat → Option Nat) : ∀ (l : List Nat) (t : Array (Option Nat)), l.foldl (fun u d => u.push (g d)) t = t ++ (l.map g).toArray
  | [], t => by simp
  | a :: r, t => by
    rw [List.foldl_cons, push_all g r, List.map_cons]
    simp
/-- the first k rows -/
def tabK (f : Field) : Nat → Array (Option Nat)
  | 0 => #[]
  | k + 1 => tabK f k ++ ((order f).map fun d => entry f (tabK f k) k d).toArray
theorem table_tabK (f : Field) : table f = tabK f (2 ^ f.days.length) := by
  unfold table
  have : ∀ k, (List.range k).foldl (fun t x => (order f).foldl (fun u d => u.push (entry f t x d)) t) #[] = tabK f k := by
    intro k
    induction k with
    | zero => rfl
    | succ k ih =>
      rw [List.range_succ, List.foldl_append, ih, List.foldl_cons, List.foldl_nil, push_all]
      rfl
  exact this _
theorem tabK_size (f : Field) : ∀ k, (tabK f k).size = k * f.days.length
  | 0 => by simp [tabK]
  | k + 1 => by
    unfold tabK
    rw [Array.size_append, tabK_size f k, List.size_toArray, List.length_map]
    unfold order
    rw [List.length_range, Nat.add_mul, Nat.one_mul]
theorem tabK_get (f : Field) {k x d : Nat} (hx : x < k) (hd : d < f.days.length) : (tabK f k).getD (x * f.days.length + d) none = entry f (tabK f x) x d := by
  have hlt : ∀ m, x < m → x * f.days.length + d < m * f.days.length := fun m hm => by
    have : (x + 1) * f.days.length ≤ m * f.days.length := Nat.mul_le_mul_right _ hm
    rw [Nat.add_mul, Nat.one_mul] at this
    omega
  induction k with
  | zero => omega
  | succ k ih =>
    have eT : tabK f (k + 1) = tabK f k ++ ((order f).map fun d => entry f (tabK f k) k d).toArray := rfl
    rw [eT, Array.getD_eq_getD_getElem?]
    by_cases q : x < k
    · rw [Array.getElem?_append_left (by rw [tabK_size]; exact hlt k q), ← Array.getD_eq_getD_getElem?]
      exact ih q
    · have : x = k := by omega
      subst this
      rw [Array.getElem?_append_right (by rw [tabK_size]; omega), tabK_size, show x * f.days.length + d - x * f.days.length = d by omega]
      unfold order
      rw [List.getElem?_toArray, List.getElem?_map, List.getElem?_range hd]
      rfl
theorem entry_congr {t u : Array (Option Nat)} {x d : Nat} (h : bit x d = true → ∀ e, e < f.days.length → t.getD ((x - 2 ^ d) * f.days.length + e) none = u.getD ((x - 2 ^ d) * f.days.length + e) none) : entry f t x d = entry f u x d := by
  unfold entry
  cases hb : bit x d with
  | false => rfl
  | true =>
    simp only [Bool.true_eq_false, if_false]
    split
    · rfl
    · have : ∀ (l : List Nat) (m : Option Nat), (∀ e ∈ l, e < f.days.length) → l.foldl (fun m e => if e ≠ d ∧ bit x e = true then lesser m ((t.getD ((x - 2 ^ d) * f.days.length + e) none).map fun n => n + carry f e d) else m) m = l.foldl (fun m e => if e ≠ d ∧ bit x e = true then lesser m ((u.getD ((x - 2 ^ d) * f.days.length + e) none).map fun n => n + carry f e d) else m) m := by
        intro l
        induction l with
        | nil => intro m _; rfl
        | cons a r ih =>
          intro m hl
          rw [List.foldl_cons, List.foldl_cons, h hb a (hl a List.mem_cons_self)]
          exact ih _ fun e he => hl e (List.mem_cons_of_mem _ he)
      exact this _ _ fun e he => List.mem_range.mp he
theorem two_pow_pos' (d : Nat) : 0 < 2 ^ d := Nat.two_pow_pos d
theorem TT_eq {x d : Nat} (hn : f.days.length ≤ 7) (hx : x < 2 ^ f.days.length) (hd : d < f.days.length) : TT f x d = entry f (table f) x d := by
  have e1 : TT f x d = entry f (tabK f x) x d := by
    unfold TT atTable
    rw [table_tabK]
    exact tabK_get f hx hd
  rw [e1]
  apply entry_congr
  intro hb e he
  have hp := pow_le hn
  have hle := bit_le x (by omega) d (by omega) hb
  have hpos := two_pow_pos' d
  rw [tabK_get f (by omega) he, table_tabK, tabK_get f (show x - 2 ^ d < 2 ^ f.days.length by omega) he]
/-- the least of some -/
def minO (l : List (Option Nat)) : Option Nat := l.foldl lesser none
theorem fold_if (p : Nat → Bool) (g : Nat → Option Nat) : ∀ (l : List Nat) (m : Option Nat), l.foldl (fun m e => if p e = true then lesser m (g e) else m) m = ((l.filter p).map g).foldl lesser m
  | [], _ => rfl
  | a :: r, m => by
    rw [List.foldl_cons, fold_if p g r, List.filter_cons]
    by_cases h : p a = true
    · rw [if_pos h, if_pos h]
      rfl
    · rw [if_neg h, if_neg h]
theorem TT_none {x d : Nat} (hn : f.days.length ≤ 7) (hx : x < 2 ^ f.days.length) (hd : d < f.days.length) (h : bit x d = false) : TT f x d = none := by
  rw [TT_eq hn hx hd]
  unfold entry
  rw [if_pos h]
theorem TT_one {d : Nat} (hn : f.days.length ≤ 7) (hx : 2 ^ d < 2 ^ f.days.length) (hd : d < f.days.length) (h : bit (2 ^ d) d = true) : TT f (2 ^ d) d = some (places f d).length := by
  rw [TT_eq hn hx hd]
  unfold entry
  rw [if_neg (by rw [h]; decide), if_pos rfl]
theorem TT_more {x d : Nat} (hn : f.days.length ≤ 7) (hx : x < 2 ^ f.days.length) (hd : d < f.days.length) (h : bit x d = true) (h2 : x ≠ 2 ^ d) : TT f x d = minO ((mems (x - 2 ^ d)).map fun e => (TT f (x - 2 ^ d) e).map fun n => n + carry f e d) := by
  have hp := pow_le hn
  rw [TT_eq hn hx hd]
  unfold entry
  rw [if_neg (by rw [h]; decide), if_neg h2]
  have hpos := two_pow_pos' d
  have hle := bit_le x (by omega) d (by omega) h
  have e1 : (order f).foldl (fun m e => if e ≠ d ∧ bit x e = true then lesser m (((table f).getD ((x - 2 ^ d) * f.days.length + e) none).map fun n => n + carry f e d) else m) none = (order f).foldl (fun m e => if (bit (x - 2 ^ d) e) = true then lesser m ((TT f (x - 2 ^ d) e).map fun n => n + carry f e d) else m) none := by
    have : ∀ (l : List Nat) (m : Option Nat), (∀ e ∈ l, e < f.days.length) → l.foldl (fun m e => if e ≠ d ∧ bit x e = true then lesser m (((table f).getD ((x - 2 ^ d) * f.days.length + e) none).map fun n => n + carry f e d) else m) m = l.foldl (fun m e => if (bit (x - 2 ^ d) e) = true then lesser m ((TT f (x - 2 ^ d) e).map fun n => n + carry f e d) else m) m := by
      intro l
      induction l with
      | nil => intro m _; rfl
      | cons a r ih =>
        intro m hl
        rw [List.foldl_cons, List.foldl_cons]
        have ha := hl a List.mem_cons_self
        have eb := bit_sub x (by omega) d (by omega) h a (by omega)
        have ec : (a ≠ d ∧ bit x a = true) ↔ bit (x - 2 ^ d) a = true := by
          rw [eb]
          simp
        simp only [ec]
        exact ih _ fun e he => hl e (List.mem_cons_of_mem _ he)
    exact this _ _ fun e he => List.mem_range.mp he
  rw [e1, fold_if, mems_eq hn (show x - 2 ^ d < 2 ^ f.days.length by omega)]
  rfl
theorem minO_some : ∀ (l : List Nat) (a : Nat), (l.map some).foldl lesser (some a) = some (l.foldl min a)
  | [], _ => rfl
  | b :: r, a => by
    show (r.map some).foldl lesser (some (min a b)) = some (r.foldl min (min a b))
    exact minO_some r _
theorem foldl_min_le : ∀ (l : List Nat) (a : Nat), l.foldl min a ≤ a ∧ (∀ b ∈ l, l.foldl min a ≤ b) ∧ (l.foldl min a = a ∨ l.foldl min a ∈ l)
  | [], a => ⟨Nat.le_refl _, ⟨fun _ h => absurd h List.not_mem_nil, Or.inl rfl⟩⟩
  | b :: r, a => by
    obtain ⟨h1, h2, h3⟩ := foldl_min_le r (min a b)
    rw [List.foldl_cons]
    refine ⟨Nat.le_trans h1 (Nat.min_le_left _ _), fun c hc => ?_, ?_⟩
    · rcases List.mem_cons.mp hc with e | e
      · rw [e]; exact Nat.le_trans h1 (Nat.min_le_right _ _)
      · exact h2 c e
    · rcases h3 with e | e
      · by_cases q : a ≤ b
        · left; rw [e]; exact Nat.min_eq_left q
        · right; rw [e, Nat.min_eq_right (by omega)]; exact List.mem_cons_self
      · exact .inr (List.mem_cons_of_mem _ e)
/-- minO of all some: the least -/
theorem minO_spec {l : List Nat} (h : l ≠ []) : ∃ m, minO (l.map some) = some m ∧ m ∈ l ∧ ∀ b ∈ l, m ≤ b := by
  cases l with
  | nil => exact absurd rfl h
  | cons a r =>
    obtain ⟨h1, h2, h3⟩ := foldl_min_le r a
    refine ⟨r.foldl min a, ?_, ?_, ?_⟩
    · show (r.map some).foldl lesser (lesser none (some a)) = _
      exact minO_some r a
    · rcases h3 with e | e
      · rw [e]; exact List.mem_cons_self
      · exact List.mem_cons_of_mem _ e
    · intro b hb
      rcases List.mem_cons.mp hb with e | e
      · rw [e]; exact h1
      · exact h2 b e
theorem bit_one : ∀ d, d < 7 → bit (2 ^ d) d = true := by decide +kernel
/-- a day of the set has a number -/
theorem TT_isSome (hn : f.days.length ≤ 7) : ∀ (x : Nat), x < 2 ^ f.days.length → ∀ d, d < f.days.length → bit x d = true → (TT f x d).isSome = true := by
  intro x
  induction x using Nat.strongRecOn with
  | ind x ih =>
    intro hx d hd hb
    have hp := pow_le hn
    by_cases h2 : x = 2 ^ d
    · subst h2
      rw [TT_one hn hx hd hb]
      rfl
    · rw [TT_more hn hx hd hb h2]
      have hpos := two_pow_pos' d
      have hle := bit_le x (by omega) d (by omega) hb
      have hne := bit_zero (x - 2 ^ d) (by omega) (by omega)
      have hall : ∀ e ∈ mems (x - 2 ^ d), (TT f (x - 2 ^ d) e).isSome = true := fun e he => by
        have := mem_mems he
        exact ih (x - 2 ^ d) (by omega) (by omega) e (bit_pow _ hn _ (by omega) e this.1 this.2) this.2
      have e1 : (mems (x - 2 ^ d)).map (fun e => (TT f (x - 2 ^ d) e).map fun n => n + carry f e d) = ((mems (x - 2 ^ d)).map fun e => (TT f (x - 2 ^ d) e).getD 0 + carry f e d).map some := by
        rw [List.map_map]
        apply List.map_congr_left
        intro e he
        obtain ⟨v, hv⟩ := Option.isSome_iff_exists.mp (hall e he)
        simp [hv]
      rw [e1]
      obtain ⟨m, hm, _⟩ := minO_spec (l := (mems (x - 2 ^ d)).map fun e => (TT f (x - 2 ^ d) e).getD 0 + carry f e d) (by simpa using hne)
      rw [hm]
      rfl
/-- what the table's number is -/
def tv (f : Field) (x d : Nat) : Nat := (TT f x d).getD 0
theorem TT_tv (hn : f.days.length ≤ 7) {x d : Nat} (hx : x < 2 ^ f.days.length) (hd : d < f.days.length) (hb : bit x d = true) : TT f x d = some (tv f x d) := by
  obtain ⟨v, hv⟩ := Option.isSome_iff_exists.mp (TT_isSome hn x hx d hd hb)
  unfold tv
  rw [hv]
  rfl
theorem tv_one (hn : f.days.length ≤ 7) {d : Nat} (hx : 2 ^ d < 2 ^ f.days.length) (hd : d < f.days.length) : tv f (2 ^ d) d = (places f d).length := by
  unfold tv
  rw [TT_one hn hx hd (bit_one d (by omega))]
  rfl
theorem mems_lt (hn : f.days.length ≤ 7) {x e : Nat} (hx : x < 2 ^ f.days.length) (he : e ∈ mems x) : e < f.days.length ∧ bit x e = true := by
  have := mem_mems he
  exact ⟨bit_pow _ hn _ hx e this.1 this.2, this.2⟩
theorem tv_more (hn : f.days.length ≤ 7) {x d : Nat} (hx : x < 2 ^ f.days.length) (hd : d < f.days.length) (hb : bit x d = true) (h2 : x ≠ 2 ^ d) :
    (∃ e ∈ mems (x - 2 ^ d), tv f x d = tv f (x - 2 ^ d) e + carry f e d) ∧ ∀ e ∈ mems (x - 2 ^ d), tv f x d ≤ tv f (x - 2 ^ d) e + carry f e d := by
  have hp := pow_le hn
  have hpos := two_pow_pos' d
  have hle := bit_le x (by omega) d (by omega) hb
  have hne := bit_zero (x - 2 ^ d) (by omega) (by omega)
  have e1 : (mems (x - 2 ^ d)).map (fun e => (TT f (x - 2 ^ d) e).map fun n => n + carry f e d) = ((mems (x - 2 ^ d)).map fun e => tv f (x - 2 ^ d) e + carry f e d).map some := by
    rw [List.map_map]
    apply List.map_congr_left
    intro e he
    have := mems_lt hn (x := x - 2 ^ d) (by omega) he
    rw [TT_tv hn (by omega) this.1 this.2]
    rfl
  have h := TT_more hn hx hd hb h2
  rw [e1] at h
  obtain ⟨m, hm, hin, hall⟩ := minO_spec (l := (mems (x - 2 ^ d)).map fun e => tv f (x - 2 ^ d) e + carry f e d) (by simpa using hne)
  rw [hm] at h
  have ev : tv f x d = m := by
    unfold tv
    rw [h]
    rfl
  rw [ev]
  constructor
  · obtain ⟨e, he, q⟩ := List.mem_map.mp hin
    exact ⟨e, he, q.symm⟩
  · intro e he
    exact hall _ (List.mem_map.mpr ⟨e, he, rfl⟩)
/-! ### the best order -/
/-- the first of a list that makes a number least -/
theorem find_range {n : Nat} {p : Nat → Bool} {e : Nat} (he : e < n) (hp : p e = true) (hl : ∀ c, c < e → p c = false) : (List.range n).find? p = some e := by
  rw [List.find?_eq_some_iff_append]
  refine ⟨hp, List.range e, (List.range (n - e - 1)).map (fun i => e + 1 + i), ?_, fun c hc => by rw [hl c (List.mem_range.mp hc)]; rfl⟩
  have h1 : List.range n = List.range e ++ (List.range (n - e)).map (fun i => e + i) := by
    have := List.range_add (n := e) (m := n - e)
    rw [show e + (n - e) = n by omega] at this
    exact this
  rw [h1]
  congr 1
  have h2 : List.range (n - e) = 0 :: (List.range (n - e - 1)).map Nat.succ := by
    have := List.range_succ_eq_map (n := n - e - 1)
    rw [show n - e - 1 + 1 = n - e by omega] at this
    exact this
  rw [h2, List.map_cons, List.map_map]
  congr 1
  apply List.map_congr_left
  intro i _
  show e + Nat.succ i = e + 1 + i
  omega
/-- a day that's the least of those that make a number least -/
structure Least (S : List Nat) (v : Nat → Nat) (e : Nat) : Prop where
  mem : e ∈ S
  le : ∀ c ∈ S, v e ≤ v c
  first : ∀ c ∈ S, c < e → v e < v c
theorem back_step (hn : f.days.length ≤ 7) {x d e k : Nat} (hx : x < 2 ^ f.days.length) (hd : d < f.days.length) (hb : bit x d = true) (h2 : x ≠ 2 ^ d) (l : Least (mems (x - 2 ^ d)) (fun e => tv f (x - 2 ^ d) e + carry f e d) e) :
    backFrom f (table f) (k + 1) x d = d :: backFrom f (table f) k (x - 2 ^ d) e := by
  have hp := pow_le hn
  have hpos := two_pow_pos' d
  have hle := bit_le x (by omega) d (by omega) hb
  obtain ⟨⟨e0, he0, q0⟩, hall⟩ := tv_more hn hx hd hb h2
  have ev : tv f x d = tv f (x - 2 ^ d) e + carry f e d := by
    have h1 : tv f (x - 2 ^ d) e + carry f e d ≤ tv f (x - 2 ^ d) e0 + carry f e0 d := l.le e0 he0
    have h2 := hall e l.mem
    omega
  have hme := mems_lt hn (x := x - 2 ^ d) (by omega) l.mem
  conv => lhs; unfold backFrom
  rw [if_neg h2]
  have hf : (order f).find? (fun e => e != d && (bit x e && ((atTable f (table f) (x - 2 ^ d) e).map fun n => n + carry f e d) == atTable f (table f) x d && (atTable f (table f) (x - 2 ^ d) e).isSome)) = some e := by
    refine find_range hme.1 ?_ fun c hc => ?_
    · have eb := bit_sub x (by omega) d (by omega) hb e (by omega)
      rw [hme.2] at eb
      have eb := eb.symm
      rw [Bool.and_eq_true] at eb
      have e1 : atTable f (table f) (x - 2 ^ d) e = some (tv f (x - 2 ^ d) e) := TT_tv hn (by omega) hme.1 hme.2
      have e2 : atTable f (table f) x d = some (tv f x d) := TT_tv hn hx hd hb
      rw [e1, e2, eb.2, ev]
      have : (e != d) = true := eb.1
      rw [this]
      simp
    · by_cases hcd : c = d
      · subst hcd
        simp
      · cases hbc : bit x c with
        | false => simp
        | true =>
          have hcm : c ∈ mems (x - 2 ^ d) := List.mem_filter.mpr ⟨List.mem_range.mpr (by omega), by
            rw [bit_sub x (by omega) d (by omega) hb c (by omega), hbc]
            simpa using hcd⟩
          have hmc := mems_lt hn (x := x - 2 ^ d) (by omega) hcm
          have e1 : atTable f (table f) (x - 2 ^ d) c = some (tv f (x - 2 ^ d) c) := TT_tv hn (by omega) hmc.1 hmc.2
          have e2 : atTable f (table f) x d = some (tv f x d) := TT_tv hn hx hd hb
          have h3 : tv f (x - 2 ^ d) e + carry f e d < tv f (x - 2 ^ d) c + carry f c d := l.first c hcm hc
          rw [e1, e2, ev]
          have : ¬ tv f (x - 2 ^ d) c + carry f c d = tv f (x - 2 ^ d) e + carry f e d := by omega
          simp [this]
  rw [hf]
theorem back_end {d k : Nat} : backFrom f (table f) (k + 1) (2 ^ d) d = [d] := by
  unfold backFrom
  rw [if_pos rfl]
theorem best_nil0 (h : f.days.length = 0) : bestOrder f = [] := by
  unfold bestOrder order
  rw [h]
  rfl
theorem fewest0 (h : f.days.length = 0) : fewest f = 0 := by
  unfold fewest order
  rw [h]
  rfl
theorem all_lt (f : Field) : all f < 2 ^ f.days.length := by
  unfold all
  have := two_pow_pos' f.days.length
  omega
theorem mems_all (hn : f.days.length ≤ 7) : mems (all f) = order f := by
  rw [mems_eq hn (all_lt f)]
  unfold order
  apply List.filter_eq_self.mpr
  intro d hd
  exact bit_all _ hn d (List.mem_range.mp hd)
theorem fewest_of (hn : f.days.length ≤ 7) {d : Nat} (l : Least (mems (all f)) (tv f (all f)) d) : fewest f = tv f (all f) d := by
  unfold fewest
  have hd := mems_lt hn (all_lt f) l.mem
  have e1 : (order f).foldl (fun m d => lesser m (atTable f (table f) (all f) d)) none = minO (((order f).map (tv f (all f))).map some) := by
    unfold minO
    rw [List.map_map, List.foldl_map]
    have : ∀ (l : List Nat) (m : Option Nat), (∀ e ∈ l, e < f.days.length) → l.foldl (fun m d => lesser m (atTable f (table f) (all f) d)) m = l.foldl (fun m d => lesser m ((some ∘ tv f (all f)) d)) m := by
      intro l
      induction l with
      | nil => intro m _; rfl
      | cons a r ih =>
        intro m hl
        have ha := hl a List.mem_cons_self
        have e : atTable f (table f) (all f) a = some (tv f (all f) a) := TT_tv hn (all_lt f) ha (bit_all _ hn a ha)
        rw [List.foldl_cons, List.foldl_cons, e]
        exact ih _ fun e he => hl e (List.mem_cons_of_mem _ he)
    exact this _ _ fun e he => List.mem_range.mp he
  rw [e1]
  have hne : (order f).map (tv f (all f)) ≠ [] := by
    have := l.mem
    rw [mems_all hn] at this
    intro z
    rw [List.map_eq_nil_iff] at z
    rw [z] at this
    cases this
  obtain ⟨m, hm, hin, hall⟩ := minO_spec hne
  rw [hm]
  show m = _
  obtain ⟨e, he, q⟩ := List.mem_map.mp hin
  have h1 := l.le e (by rw [mems_all hn]; exact he)
  have h2 := hall _ (List.mem_map.mpr ⟨d, by rw [← mems_all hn]; exact l.mem, rfl⟩)
  omega
theorem best_start (hn : f.days.length ≤ 7) {d : Nat} (l : Least (mems (all f)) (tv f (all f)) d) : bestOrder f = (backFrom f (table f) f.days.length (all f) d).reverse := by
  have hd := mems_lt hn (all_lt f) l.mem
  have hfe := fewest_of hn l
  unfold bestOrder
  have hf : (order f).find? (fun d => atTable f (table f) (all f) d == some (fewest f)) = some d := by
    refine find_range hd.1 ?_ fun c hc => ?_
    · have e : atTable f (table f) (all f) d = some (tv f (all f) d) := TT_tv hn (all_lt f) hd.1 hd.2
      rw [e, hfe]
      simp
    · have hcl : c < f.days.length := by omega
      have e : atTable f (table f) (all f) c = some (tv f (all f) c) := TT_tv hn (all_lt f) hcl (bit_all _ hn c hcl)
      have hcm : c ∈ mems (all f) := by rw [mems_all hn]; exact List.mem_range.mpr hcl
      have := l.first c hcm hc
      rw [e, hfe]
      have : ¬ tv f (all f) c = tv f (all f) d := by omega
      simpa using this
  simp only [hf]
/-- what's carried in a row of days, front first -/
def cin (f : Field) : List Nat → Nat
  | [] => 0
  | d :: l => (places f d).length + ((d :: l).zip l).foldl (fun m z => m + carry f z.1 z.2) 0
theorem zip_swap (f : Field) : ∀ (l m : List Nat) (a : Nat), (l.zip m).foldl (fun n z => n + carry f z.2 z.1) a = (m.zip l).foldl (fun n z => n + carry f z.1 z.2) a
  | [], [], _ => rfl
  | [], _ :: _, _ => rfl
  | _ :: _, [], _ => rfl
  | x :: l, y :: m, a => by
    rw [List.zip_cons_cons, List.zip_cons_cons, List.foldl_cons, List.foldl_cons]
    exact zip_swap f l m _
theorem carries_cin (f : Field) (l : List Nat) : carries f l = cin f l := by
  cases l with
  | nil => rfl
  | cons d l =>
    show (places f d).length + (l.zip (d :: l)).foldl (fun m z => m + carry f z.2 z.1) 0 = (places f d).length + ((d :: l).zip l).foldl (fun m z => m + carry f z.1 z.2) 0
    rw [zip_swap]
/-- one day more behind -/
theorem cin_snoc (f : Field) : ∀ (l : List Nat) (c d : Nat), cin f (l ++ [c, d]) = cin f (l ++ [c]) + carry f c d
  | [], c, d => by
    show (places f c).length + (0 + carry f c d) = (places f c).length + 0 + carry f c d
    omega
  | a :: l, c, d => by
    unfold cin
    show (places f a).length + (((a :: (l ++ [c, d])).zip (l ++ [c, d])).foldl _ 0) = (places f a).length + (((a :: (l ++ [c])).zip (l ++ [c])).foldl _ 0) + carry f c d
    have : ∀ (l : List Nat) (a m : Nat), ((a :: (l ++ [c, d])).zip (l ++ [c, d])).foldl (fun m z => m + carry f z.1 z.2) m = ((a :: (l ++ [c])).zip (l ++ [c])).foldl (fun m z => m + carry f z.1 z.2) m + carry f c d := by
      intro l
      induction l with
      | nil => intro a m; rfl
      | cons b r ih =>
        intro a m
        show (((b :: (r ++ [c, d])).zip (r ++ [c, d])).foldl _ (m + carry f a b)) = (((b :: (r ++ [c])).zip (r ++ [c])).foldl _ (m + carry f a b)) + carry f c d
        exact ih b _
    rw [this]
    omega
/-- what the order found backwards carries is the table's number -/
theorem cin_back (hn : f.days.length ≤ 7) : ∀ (k x d : Nat), x < 2 ^ f.days.length → d < f.days.length → bit x d = true → (mems x).length ≤ k → cin f (backFrom f (table f) k x d).reverse = tv f x d ∧ ∃ r, backFrom f (table f) k x d = d :: r := by
  intro k
  induction k with
  | zero =>
    intro x d hx hd hb hk
    have : d ∈ mems x := List.mem_filter.mpr ⟨List.mem_range.mpr (by omega), hb⟩
    have := List.length_pos_of_mem this
    omega
  | succ k ih =>
    intro x d hx hd hb hk
    by_cases h2 : x = 2 ^ d
    · subst h2
      rw [back_end]
      refine ⟨?_, [], rfl⟩
      rw [tv_one hn hx hd]
      show (places f d).length + 0 = _
      omega
    · have hp := pow_le hn
      have hpos := two_pow_pos' d
      have hle := bit_le x (by omega) d (by omega) hb
      -- the first that makes it least
      have hex : ∃ e, Least (mems (x - 2 ^ d)) (fun e => tv f (x - 2 ^ d) e + carry f e d) e := by
        obtain ⟨⟨e0, he0, q0⟩, hall⟩ := tv_more hn hx hd hb h2
        obtain ⟨e, he, hm⟩ := least_of (V := (mems (x - 2 ^ d)).filter fun c => decide (tv f (x - 2 ^ d) c + carry f c d = tv f x d)) (List.ne_nil_of_mem (List.mem_filter.mpr ⟨he0, by simp [q0]⟩))
        have he' := List.mem_filter.mp he
        have hev := of_decide_eq_true he'.2
        refine ⟨e, he'.1, fun c hc => ?_, fun c hc hlt => ?_⟩
        · have := hall c hc
          show tv f (x - 2 ^ d) e + carry f e d ≤ tv f (x - 2 ^ d) c + carry f c d
          omega
        · have h1 := hall c hc
          show tv f (x - 2 ^ d) e + carry f e d < tv f (x - 2 ^ d) c + carry f c d
          apply Classical.byContradiction
          intro z
          have := hm c (List.mem_filter.mpr ⟨hc, decide_eq_true (by omega)⟩)
          omega
      obtain ⟨e, l⟩ := hex
      rw [back_step hn hx hd hb h2 l]
      have hme := mems_lt hn (x := x - 2 ^ d) (by omega) l.mem
      obtain ⟨i1, r, i2⟩ := ih (x - 2 ^ d) e (by omega) hme.1 hme.2 (by have := mems_len_sub (by omega) (by omega) hb; omega)
      refine ⟨?_, _, rfl⟩
      rw [List.reverse_cons]
      rw [i2, List.reverse_cons] at i1 ⊢
      rw [List.append_assoc]
      show cin f (r.reverse ++ [e, d]) = _
      rw [cin_snoc, i1]
      obtain ⟨⟨e0, he0, q0⟩, hall⟩ := tv_more hn hx hd hb h2
      have h1 : tv f (x - 2 ^ d) e + carry f e d ≤ tv f (x - 2 ^ d) e0 + carry f e0 d := l.le e0 he0
      have h2 := hall e l.mem
      omega
theorem fewest_cin (hn : f.days.length ≤ 7) : fewest f = cin f (bestOrder f) := by
  by_cases h0 : f.days.length = 0
  · rw [fewest0 h0, best_nil0 h0]
    rfl
  · have hex : ∃ e, Least (mems (all f)) (tv f (all f)) e := by
      have hne : (mems (all f)) ≠ [] := by
        rw [mems_all hn]
        unfold order
        intro z
        have := congrArg List.length z
        rw [List.length_range] at this
        exact h0 this
      obtain ⟨m, hm, hmin⟩ := least_of (V := (mems (all f)).map (tv f (all f))) (by simpa using hne)
      obtain ⟨e0, he0, q0⟩ := List.mem_map.mp hm
      obtain ⟨e, he, hf⟩ := least_of (V := (mems (all f)).filter fun c => decide (tv f (all f) c = m)) (List.ne_nil_of_mem (List.mem_filter.mpr ⟨he0, by simp [q0]⟩))
      have he' := List.mem_filter.mp he
      have hev := of_decide_eq_true he'.2
      refine ⟨e, he'.1, fun c hc => ?_, fun c hc hlt => ?_⟩
      · rw [hev]; exact hmin _ (List.mem_map.mpr ⟨c, hc, rfl⟩)
      · have h1 := hmin _ (List.mem_map.mpr ⟨c, hc, rfl⟩)
        apply Classical.byContradiction
        intro z
        have := hf c (List.mem_filter.mpr ⟨hc, decide_eq_true (by omega)⟩)
        omega
    obtain ⟨e, l⟩ := hex
    have hd := mems_lt hn (all_lt f) l.mem
    rw [fewest_of hn l, best_start hn l, (cin_back hn _ _ _ (all_lt f) hd.1 hd.2 (by rw [mems_all hn]; unfold order; rw [List.length_range]; exact Nat.le_refl _)).1]
end
end HF

/-! # Plain mathematics, 5: the best order, step by step -/
namespace HF
open Vbsyae
def key2 (v : Nat → Nat) (e : Nat) : List Int := [(v e : Int), (e : Int)]
theorem minB_least {v : Nat → Nat} : ∀ (r : List Nat) (m : Nat) (S : List Nat), Least S v m → (∀ c ∈ S, ∀ y ∈ r, c < y) → Rising r → ∃ e, minB (key2 v m) (r.map (key2 v)) = key2 v e ∧ Least (S ++ r) v e
  | [], m, S, l, _, _ => ⟨m, rfl, by rw [List.append_nil]; exact l⟩
  | y :: r, m, S, l, hS, hr => by
    have hr' := List.pairwise_cons.mp hr
    have hmy : m < y := hS m l.mem y List.mem_cons_self
    have hlex : lexB (key2 v y) (key2 v m) = decide (v y < v m) := by
      unfold key2 lexB
      by_cases h : v y = v m
      · rw [if_pos (by rw [h])]
        unfold lexB
        rw [if_neg (by omega)]
        have h1 : ¬ (y : Int) < (m : Int) := by omega
        have h2 : ¬ v y < v m := by omega
        simp [h1, h2]
      · rw [if_neg (by omega)]
        by_cases q : v y < v m
        · simp [q]
        · simp [q]
    show ∃ e, minB (if lexB (key2 v y) (key2 v m) = true then key2 v y else key2 v m) (r.map (key2 v)) = key2 v e ∧ Least (S ++ y :: r) v e
    rw [hlex]
    have app : S ++ y :: r = (S ++ [y]) ++ r := by simp
    have hS' : ∀ c ∈ S ++ [y], ∀ z ∈ r, c < z := fun c hc z hz => by
      rcases List.mem_append.mp hc with q | q
      · exact hS c q z (List.mem_cons_of_mem _ hz)
      · have : c = y := by simpa using q
        rw [this]; exact hr'.1 z hz
    rw [app]
    by_cases h : v y < v m
    · rw [if_pos (decide_eq_true h)]
      refine minB_least r y (S ++ [y]) ⟨by simp, fun c hc => ?_, fun c hc hlt => ?_⟩ hS' hr'.2
      · rcases List.mem_append.mp hc with q | q
        · have := l.le c q; omega
        · have : c = y := by simpa using q
          rw [this]; omega
      · rcases List.mem_append.mp hc with q | q
        · have := l.le c q; omega
        · have : c = y := by simpa using q
          omega
    · rw [if_neg (by simpa using h)]
      refine minB_least r m (S ++ [y]) ⟨List.mem_append_left _ l.mem, fun c hc => ?_, fun c hc hlt => ?_⟩ hS' hr'.2
      · rcases List.mem_append.mp hc with q | q
        · exact l.le c q
        · have : c = y := by simpa using q
          rw [this]; omega
      · rcases List.mem_append.mp hc with q | q
        · exact l.first c q hlt
        · have : c = y := by simpa using q
          omega
theorem minB_first {v : Nat → Nat} {a : Nat} {r : List Nat} (h : Rising (a :: r)) : ∃ e, minB (key2 v a) (r.map (key2 v)) = key2 v e ∧ Least (a :: r) v e := by
  have hr := List.pairwise_cons.mp h
  exact minB_least r a [a] ⟨by simp, fun c hc => by
    have : c = a := by simpa using hc
    rw [this]; exact Nat.le_refl _, fun c hc hlt => by
    have : c = a := by simpa using hc
    omega⟩ (fun c hc y hy => by
    have : c = a := by simpa using hc
    rw [this]; exact hr.1 y hy) hr.2
theorem rising_mems (x : Nat) : Rising (mems x) := rising_filter (rising_range _)
/-- what is added for the day behind -/
def hdC (f : Field) (ord : List Nat) (e : Nat) : Nat := match ord with
  | [] => 0
  | d :: _ => carry f e d
/-- order so far, days left -/
def Ord (f : Field) (ord : List Nat) (x : Nat) : Prop := (ord = [] ∧ x = all f) ∨ ∃ d rest X k, ord = d :: rest ∧ X < 2 ^ f.days.length ∧ d < f.days.length ∧ bit X d = true ∧ x = X - 2 ^ d ∧ (mems X).length ≤ k ∧ bestOrder f = (backFrom f (table f) k X d).reverse ++ rest
theorem Ord.lt {f : Field} {ord : List Nat} {x : Nat} (o : Ord f ord x) : x < 2 ^ f.days.length := by
  rcases o with ⟨_, rfl⟩ | ⟨d, rest, X, k, _, h, _, _, rfl, _⟩
  · exact all_lt f
  · exact Nat.lt_of_le_of_lt (Nat.sub_le _ _) h
theorem Ord.step {f : Field} {ord : List Nat} {x e : Nat} (hn : f.days.length ≤ 7) (o : Ord f ord x) (l : Least (mems x) (fun e => tv f x e + hdC f ord e) e) : Ord f (e :: ord) (x - 2 ^ e) ∧ x - 2 ^ e < x ∧ e < f.days.length := by
  have hx := o.lt
  have hp := pow_le hn
  have hme := mems_lt hn hx l.mem
  have hle := bit_le x (by omega) e (by omega) hme.2
  have hpos := two_pow_pos' e
  refine ⟨?_, by omega, hme.1⟩
  rcases o with ⟨rfl, rfl⟩ | ⟨d, rest, X, k, rfl, hX, hd, hb, rfl, hk, hbo⟩
  · refine .inr ⟨e, [], all f, f.days.length, rfl, hx, hme.1, hme.2, rfl, ?_, ?_⟩
    · rw [mems_all hn]; unfold order; rw [List.length_range]; exact Nat.le_refl _
    · rw [List.append_nil]
      exact best_start hn ⟨l.mem, fun c hc => l.le c hc, fun c hc hlt => l.first c hc hlt⟩
  · have hdm : d ∈ mems X := List.mem_filter.mpr ⟨List.mem_range.mpr (by omega), hb⟩
    have hkp := List.length_pos_of_mem hdm
    obtain ⟨k', rfl⟩ : ∃ k', k = k' + 1 := ⟨k - 1, by omega⟩
    have hne : X ≠ 2 ^ d := fun z => by
      rw [z, Nat.sub_self] at hle
      omega
    refine .inr ⟨e, d :: rest, X - 2 ^ d, k', rfl, by omega, hme.1, hme.2, rfl, ?_, ?_⟩
    · have := mems_len_sub (x := X) (d := d) (by omega) (by omega) hb
      omega
    · rw [hbo, back_step hn hX hd hb hne l, List.reverse_cons, List.append_assoc]
      rfl
theorem Ord.fin {f : Field} {ord : List Nat} (hn : f.days.length ≤ 7) (o : Ord f ord 0) : ord = bestOrder f := by
  rcases o with ⟨rfl, h⟩ | ⟨d, rest, X, k, rfl, hX, hd, hb, hx, hk, hbo⟩
  · have h0 : f.days.length = 0 := by
      unfold all at h
      apply Classical.byContradiction
      intro z
      have : (2 : Nat) ^ 1 ≤ 2 ^ f.days.length := Nat.pow_le_pow_right (by decide) (by omega)
      omega
    exact (best_nil0 h0).symm
  · have hp := pow_le hn
    have hle := bit_le X (by omega) d (by omega) hb
    have : X = 2 ^ d := by omega
    subst this
    have hdm : d ∈ mems (2 ^ d) := List.mem_filter.mpr ⟨List.mem_range.mpr (by omega), hb⟩
    have hkp := List.length_pos_of_mem hdm
    obtain ⟨k', rfl⟩ : ∃ k', k = k' + 1 := ⟨k - 1, by omega⟩
    rw [hbo, back_end]
    rfl
theorem numOr_tv {f : Field} (hn : f.days.length ≤ 7) {x d : Nat} (hx : x < 2 ^ f.days.length) (hd : d < f.days.length) (hb : bit x d = true) : numOr (TT f x d) = (tv f x d : Int) := by
  rw [TT_tv hn hx hd hb]
  rfl
theorem tv_le {f : Field} (w : WF f) (hn : f.days.length ≤ 7) : ∀ (k x d : Nat), (mems x).length ≤ k → x < 2 ^ f.days.length → d < f.days.length → bit x d = true → tv f x d ≤ 256 * k := by
  intro k
  induction k with
  | zero =>
    intro x d hk hx hd hb
    have : d ∈ mems x := List.mem_filter.mpr ⟨List.mem_range.mpr (by omega), hb⟩
    have := List.length_pos_of_mem this
    omega
  | succ k ih =>
    intro x d hk hx hd hb
    by_cases h2 : x = 2 ^ d
    · subst h2
      rw [tv_one hn hx hd, size_eq w hd]
      have := spot_len w d
      omega
    · have hp := pow_le hn
      have hle := bit_le x (by omega) d (by omega) hb
      have hpos := two_pow_pos' d
      obtain ⟨⟨e, he, q⟩, _⟩ := tv_more hn hx hd hb h2
      have hme := mems_lt hn (x := x - 2 ^ d) (by omega) he
      have := ih (x - 2 ^ d) e (by have := mems_len_sub (x := x) (d := d) (by omega) (by omega) hb; omega) (by omega) hme.1 hme.2
      have := carry_le w hme.1 hd
      omega
/-- the table's numbers, row by row -/
def rowI (f : Field) (x : Nat) : List Int := (List.range f.days.length).map fun d => numOr (TT f x d)
theorem tabK_list {f : Field} (hn : f.days.length ≤ 7) : ∀ k, k ≤ 2 ^ f.days.length → (tabK f k).toList.map numOr = (List.range k).flatMap (rowI f)
  | 0, _ => rfl
  | k + 1, hk => by
    have eT : tabK f (k + 1) = tabK f k ++ ((order f).map fun d => entry f (tabK f k) k d).toArray := rfl
    rw [eT, List.range_succ, List.flatMap_append, List.flatMap_singleton, ← tabK_list hn k (by omega), Array.toList_append, List.map_append]
    congr 1
    show ((order f).map fun d => entry f (tabK f k) k d).map numOr = rowI f k
    unfold rowI order
    rw [List.map_map]
    apply List.map_congr_left
    intro d hd
    have hd := List.mem_range.mp hd
    have e1 : TT f k d = entry f (tabK f k) k d := by
      unfold TT atTable
      rw [table_tabK]
      exact tabK_get f (by omega) hd
    show numOr (entry f (tabK f k) k d) = numOr (TT f k d)
    rw [e1]
theorem labels_eq {f : Field} (hn : f.days.length ≤ 7) : (table f).toList.map numOr = (List.range (2 ^ f.days.length)).flatMap (rowI f) := by
  rw [table_tabK]
  exact tabK_list hn _ (Nat.le_refl _)
end HF

/-! # Plain mathematics, 6: words, a field's text read -/
namespace HF
open Vbsyae VbsyCore
def isSep (c : Nat) : Bool := c == 32 || c == 10
theorem cut_ne (p : Nat) (b : Bytes) : cut p b ≠ [] := by
  cases b with
  | nil => simp [cut]
  | cons c r =>
    rw [cut]
    split
    · simp
    · split
      · simp
      · split <;> simp
theorem cut_0 : ∀ (u : Bytes) (p : Nat), (∀ c ∈ u, isSep c = false) → cut p u = [(p, u)]
  | [], p, _ => rfl
  | c :: u, p, h => by
    have hc := h c List.mem_cons_self
    simp [isSep] at hc
    rw [cut, if_neg hc.1, if_neg hc.2, cut_0 u (p + 1) fun d hd => h d (List.mem_cons_of_mem _ hd)]
theorem cut_32 (r : Bytes) : ∀ (u : Bytes) (p : Nat), (∀ c ∈ u, isSep c = false) → cut p (u ++ 32 :: r) = (p, u) :: cut (p + u.length + 1) r
  | [], p, _ => by
    show cut p (32 :: r) = _
    rw [cut, if_pos rfl]
    rfl
  | c :: u, p, h => by
    have hc := h c List.mem_cons_self
    simp [isSep] at hc
    show cut p (c :: (u ++ 32 :: r)) = _
    rw [cut, if_neg hc.1, if_neg hc.2, cut_32 r u (p + 1) fun d hd => h d (List.mem_cons_of_mem _ hd)]
    show (p, c :: u) :: cut (p + 1 + u.length + 1) r = (p, c :: u) :: cut (p + (u.length + 1) + 1) r
    rw [show p + 1 + u.length + 1 = p + (u.length + 1) + 1 by omega]
theorem cut_10 (r : Bytes) : ∀ (u : Bytes) (p : Nat), (∀ c ∈ u, isSep c = false) → cut p (u ++ 10 :: r) = (p, u) :: (p + u.length, [10]) :: cut (p + u.length + 1) r
  | [], p, _ => by
    show cut p (10 :: r) = _
    rw [cut, if_neg (by decide), if_pos rfl]
    rfl
  | c :: u, p, h => by
    have hc := h c List.mem_cons_self
    simp [isSep] at hc
    show cut p (c :: (u ++ 10 :: r)) = _
    rw [cut, if_neg hc.1, if_neg hc.2, cut_10 r u (p + 1) fun d hd => h d (List.mem_cons_of_mem _ hd)]
    show (p, c :: u) :: (p + 1 + u.length, [10]) :: cut (p + 1 + u.length + 1) r = (p, c :: u) :: (p + (u.length + 1), [10]) :: cut (p + (u.length + 1) + 1) r
    rw [show p + 1 + u.length = p + (u.length + 1) by omega]
/-- where a word ends -/
def wend (t : Bytes) (i : Nat) : Nat := i + ((t.drop i).takeWhile fun c => !isSep c).length
theorem wend_on {t : Bytes} {i c : Nat} (h : t[i]? = some c) (hc : isSep c = false) : wend t i = wend t (i + 1) := by
  unfold wend
  have hi := (List.getElem?_eq_some_iff.mp h).1
  have e : t.drop i = c :: t.drop (i + 1) := by
    rw [List.drop_eq_getElem_cons hi, (List.getElem?_eq_some_iff.mp h).2]
  rw [e, List.takeWhile_cons, hc]
  simp only [Bool.not_false, if_true, List.length_cons]
  omega
theorem wend_at {t : Bytes} {i c : Nat} (h : t[i]? = some c) (hc : isSep c = true) : wend t i = i := by
  unfold wend
  have hi := (List.getElem?_eq_some_iff.mp h).1
  have e : t.drop i = c :: t.drop (i + 1) := by
    rw [List.drop_eq_getElem_cons hi, (List.getElem?_eq_some_iff.mp h).2]
  rw [e, List.takeWhile_cons, hc]
  rfl
theorem wend_end {t : Bytes} {i : Nat} (h : t.length ≤ i) : wend t i = i := by
  unfold wend
  rw [List.drop_eq_nil_of_le h]
  rfl
theorem wend_ge (t : Bytes) (i : Nat) : i ≤ wend t i := Nat.le_add_right _ _
theorem take_while {α : Type} (p : α → Bool) : ∀ l : List α, l.take (l.takeWhile p).length = l.takeWhile p
  | [] => rfl
  | a :: l => by
    rw [List.takeWhile_cons]
    split
    · show a :: l.take (l.takeWhile p).length = _
      rw [take_while p l]
    · rfl
theorem drop_while {α : Type} (p : α → Bool) : ∀ l : List α, l.drop (l.takeWhile p).length = l.dropWhile p
  | [] => rfl
  | a :: l => by
    rw [List.takeWhile_cons, List.dropWhile_cons]
    split
    · exact drop_while p l
    · rfl
theorem dw_head {α : Type} (p : α → Bool) : ∀ (l : List α) (c : α) (r : List α), l.dropWhile p = c :: r → p c = false
  | [], _, _, h => by cases h
  | a :: l, c, r, h => by
    rw [List.dropWhile_cons] at h
    split at h
    · exact dw_head p l c r h
    · rename_i q
      cases h
      simpa using q
theorem tw_all {α : Type} (p : α → Bool) : ∀ (l : List α), ∀ c ∈ l.takeWhile p, p c = true
  | [], _, h => by cases h
  | a :: l, c, h => by
    rw [List.takeWhile_cons] at h
    split at h
    · rename_i q
      rcases List.mem_cons.mp h with rfl | h
      · exact q
      · exact tw_all p l c h
    · cases h
theorem drop_wend (t : Bytes) (i : Nat) : t.drop (wend t i) = (t.drop i).dropWhile fun c => !isSep c := by
  unfold wend
  rw [← List.drop_drop, drop_while]
/-- the next words of a text from a word's begin -/
theorem cut_step {t : Bytes} {i : Nat} (hi : i ≤ t.length) : wend t i ≤ t.length ∧ cut i (t.drop i) = (i, (t.drop i).take (wend t i - i)) ::
    (if wend t i < t.length then (if t.getD (wend t i) 0 = 10 then [(wend t i, [10])] else []) ++ cut (wend t i + 1) (t.drop (wend t i + 1)) else []) := by
  have e1 : (t.drop i).take (wend t i - i) = (t.drop i).takeWhile fun c => !isSep c := by
    rw [show wend t i - i = ((t.drop i).takeWhile fun c => !isSep c).length by unfold wend; omega, take_while]
  have e2 := drop_wend t i
  have e3 : t.drop i = ((t.drop i).takeWhile fun c => !isSep c) ++ (t.drop i).dropWhile fun c => !isSep c := List.takeWhile_append_dropWhile.symm
  have hn : ∀ c ∈ (t.drop i).takeWhile (fun c => !isSep c), isSep c = false := fun c hc => by
    have := tw_all _ _ c hc
    simpa using this
  have hle : wend t i ≤ t.length := by
    have h1 : ((t.drop i).takeWhile fun c => !isSep c).length ≤ (t.drop i).length := by
      conv => rhs; rw [e3]
      rw [List.length_append]
      exact Nat.le_add_right _ _
    rw [List.length_drop] at h1
    unfold wend
    omega
  refine ⟨hle, ?_⟩
  rw [e1]
  have hw : ((t.drop i).takeWhile fun c => !isSep c).length = wend t i - i := by unfold wend; omega
  have hge := wend_ge t i
  generalize hu : (t.drop i).takeWhile (fun c => !isSep c) = u at *
  cases hd : (t.drop i).dropWhile fun c => !isSep c with
  | nil =>
    rw [hd] at e2 e3
    have : t.length ≤ wend t i := by
      have := congrArg List.length e2
      rw [List.length_drop] at this
      simp at this
      omega
    rw [if_neg (by omega), e3, List.append_nil]
    exact cut_0 u i hn
  | cons c r =>
    rw [hd] at e2 e3
    have hlt : wend t i < t.length := by
      have := congrArg List.length e2
      rw [List.length_drop] at this
      simp at this
      omega
    have hs := dw_head _ _ _ _ hd
    have e4 := List.drop_eq_getElem_cons hlt
    rw [e2] at e4
    have hc : t.getD (wend t i) 0 = c := by
      rw [List.getD_eq_getElem?_getD, List.getElem?_eq_getElem hlt]
      exact (List.cons.inj e4).1.symm
    have hr : t.drop (wend t i + 1) = r := (List.cons.inj e4).2.symm
    rw [if_pos hlt, hc, hr, e3]
    have hsep : c = 32 ∨ c = 10 := by
      have : isSep c = true := by simpa using hs
      simpa [isSep] using this
    have hadd : i + u.length = wend t i := by omega
    rcases hsep with rfl | rfl
    · rw [cut_32 r u i hn, hadd]
      rfl
    · rw [cut_10 r u i hn, hadd]
      rfl
/-! ### a word's number -/
def wnum (b : Bytes) : Int := if b.length < 1 ∨ 2 < b.length ∨ (1 < b.length ∧ b.getD 0 0 = 48) then -1 else if b.all isDigit = true then (valueOf 10 (b.map fun c => c - 48) : Int) else -1
def numOk (lo hi : Nat) : List Word → Option Nat
  | [] => none
  | w :: _ => if (lo : Int) ≤ wnum w.2 ∧ wnum w.2 ≤ (hi : Int) then some (wnum w.2).toNat else none
theorem fold_ge : ∀ (l : List Nat) (v : Nat), v ≤ l.foldl (fun v d => v * 10 + d) v
  | [], v => Nat.le_refl _
  | d :: l, v => Nat.le_trans (by omega) (fold_ge l (v * 10 + d))
theorem natOf_big {a b c : Nat} {r : Bytes} {n : Nat} (h : natOf (a :: b :: c :: r) = some n) : 100 ≤ n := by
  unfold natOf at h
  split at h
  · cases h
  · rename_i q
    simp only [not_or] at q
    obtain ⟨_, _, q3, q4⟩ := q
    have e := Option.some.inj h
    have ha : isDigit a = true := by
      simp only [List.all_cons, Bool.not_eq_false, Bool.and_eq_true] at q3
      exact q3.1
    have hz : a ≠ 48 := by
      intro z
      apply q4
      subst z
      simp [isZeroLed]
    simp only [isDigit, Bool.and_eq_true, decide_eq_true_eq] at ha
    rw [← e]
    unfold valueOf
    simp only [List.map_cons, List.foldl_cons]
    exact Nat.le_trans (by omega) (fold_ge _ _)
theorem wnum_no {b : Bytes} (h : b.length < 1 ∨ 2 < b.length ∨ (1 < b.length ∧ b.getD 0 0 = 48)) : wnum b = -1 := if_pos h
theorem wnum_bad {b : Bytes} (h : b.all isDigit = false) : wnum b = -1 := by
  unfold wnum
  split
  · rfl
  · rw [if_neg (by rw [h]; exact Bool.false_ne_true)]
theorem wnum_yes {b : Bytes} (h : ¬ (b.length < 1 ∨ 2 < b.length ∨ (1 < b.length ∧ b.getD 0 0 = 48))) (h2 : b.all isDigit = true) : wnum b = (valueOf 10 (b.map fun c => c - 48) : Int) := (if_neg h).trans (if_pos h2)
theorem natOf_no {b : Bytes} (h : b.isEmpty = true ∨ MOSTDIGITS < b.length ∨ b.all isDigit = false ∨ isZeroLed b = true) : natOf b = none := if_pos h
theorem natOf_yes {b : Bytes} (h : ¬ (b.isEmpty = true ∨ MOSTDIGITS < b.length ∨ b.all isDigit = false ∨ isZeroLed b = true)) : natOf b = some (valueOf 10 (b.map fun c => c - 48)) := if_neg h
theorem natOf_small {b : Bytes} (h : b.length ≤ 2) : wnum b = numOr (natOf b) := by
  match b, h with
  | [], _ => rfl
  | [a], _ =>
    cases ha : [a].all isDigit with
    | true =>
      rw [wnum_yes (by simp) ha, natOf_yes (by rw [ha]; simp [isZeroLed, MOSTDIGITS])]
      rfl
    | false =>
      rw [wnum_bad ha, natOf_no (.inr (.inr (.inl ha)))]
      rfl
  | [a, c], _ =>
    cases ha : [a, c].all isDigit with
    | false =>
      rw [wnum_bad ha, natOf_no (.inr (.inr (.inl ha)))]
      rfl
    | true =>
      by_cases hz : a = 48
      · rw [wnum_no (.inr (.inr ⟨by simp, by rw [hz]; rfl⟩)), natOf_no (.inr (.inr (.inr (by rw [hz]; rfl))))]
        rfl
      · rw [wnum_yes (by simp [hz]) ha, natOf_yes (by rw [ha]; simp [isZeroLed, MOSTDIGITS, hz])]
        rfl
theorem numIn_eq {e lo hi : Nat} (h : hi < 100) (ws : List Word) : numIn e lo hi ws = match numOk lo hi ws with
    | some n => .ok (n, ws.tail)
    | none => .error (placeOf e ws) := by
  cases ws with
  | nil => rfl
  | cons w r =>
    show (match natOf w.2 with
      | some n => if lo ≤ n ∧ n ≤ hi then (Except.ok (n, r) : Except Nat (Nat × List Word)) else .error w.1
      | none => .error w.1) = match (if (lo : Int) ≤ wnum w.2 ∧ wnum w.2 ≤ (hi : Int) then some (wnum w.2).toNat else none) with
      | some n => (Except.ok (n, r) : Except Nat (Nat × List Word))
      | none => .error w.1
    by_cases hl : w.2.length ≤ 2
    · rw [natOf_small hl]
      cases natOf w.2 with
      | none =>
        show Except.error w.1 = _
        rw [if_neg (by show ¬ ((lo : Int) ≤ -1 ∧ _); omega)]
      | some n =>
        show (if lo ≤ n ∧ n ≤ hi then Except.ok (n, r) else .error w.1) = match (if (lo : Int) ≤ (n : Int) ∧ (n : Int) ≤ (hi : Int) then some ((n : Int)).toNat else none) with
          | some n => .ok (n, r)
          | none => .error w.1
        by_cases q : lo ≤ n ∧ n ≤ hi
        · rw [if_pos q, if_pos (by omega)]
          rfl
        · rw [if_neg q, if_neg (by omega)]
    · have hw : wnum w.2 = -1 := by
        unfold wnum
        rw [if_pos (by omega)]
      rw [hw, if_neg (by omega)]
      match hb : w.2, hl with
      | a :: b :: c :: u, _ =>
        cases q : natOf (a :: b :: c :: u) with
        | none => rfl
        | some n =>
          have := natOf_big q
          show (if lo ≤ n ∧ n ≤ hi then Except.ok (n, r) else .error w.1) = _
          rw [if_neg (by omega)]
      | [], h => exact absurd (Nat.zero_le _) h
      | [_], h => exact absurd (by decide : 1 ≤ 2) h
      | [_, _], h => exact absurd (by decide : 2 ≤ 2) h
theorem must_eq (e : Nat) (b : Bytes) (ws : List Word) : must e b ws = if ahead b ws = true then .ok ws.tail else .error (placeOf e ws) := by
  cases ws with
  | nil => rfl
  | cons w r =>
    show (if w.2 = b then Except.ok r else .error w.1) = if (w.2 == b) = true then .ok r else .error w.1
    by_cases h : w.2 = b
    · rw [if_pos h, if_pos (by simpa using h)]
    · rw [if_neg h, if_neg (by simpa using h)]
/-- a day, step by step -/
theorem foldIn_eq {f : Field} (g : Good f) (e : Nat) (ws : List Word) : foldIn f e ws =
    if ¬ (ahead (W "fold") ws = true ∧ f.days.length < 20) then .error (placeOf e ws) else
    match numOk 0 (f.rows - 1) ws.tail with
    | none => .error (placeOf e ws.tail)
    | some r => match numOk 0 (f.cols - 1) ws.tail.tail with
      | none => .error (placeOf e ws.tail.tail)
      | some c => if ahead (W "high") ws.tail.tail.tail = false then .error (placeOf e ws.tail.tail.tail) else
        match numOk 1 (f.rows - r) ws.tail.tail.tail.tail with
        | none => .error (placeOf e ws.tail.tail.tail.tail)
        | some a => if ahead (W "wide") ws.tail.tail.tail.tail.tail = false then .error (placeOf e ws.tail.tail.tail.tail.tail) else
          match numOk 1 (f.cols - c) ws.tail.tail.tail.tail.tail.tail with
          | none => .error (placeOf e ws.tail.tail.tail.tail.tail.tail)
          | some b => .ok ({ row := r, col := c, high := a, wide := b }, ws.tail.tail.tail.tail.tail.tail.tail) := by
  have hr := g.r8
  have hc := g.c8
  unfold foldIn
  by_cases h20 : DAYS ≤ f.days.length
  · rw [if_pos h20, if_pos (by unfold DAYS at h20; omega)]
  rw [if_neg h20]
  have h20' : f.days.length < 20 := by unfold DAYS at h20; omega
  rw [must_eq]
  by_cases h1 : ahead (W "fold") ws = false
  · rw [if_neg (by rw [h1]; exact Bool.false_ne_true), if_pos (by simp [h1])]
    rfl
  have h1 : ahead (W "fold") ws = true := by simpa using h1
  rw [if_pos h1, if_neg (by simp [h1, h20'])]
  simp only [bind, Except.bind]
  rw [numIn_eq (by omega)]
  cases h2 : numOk 0 (f.rows - 1) ws.tail with
  | none => rfl
  | some r =>
    simp only
    rw [numIn_eq (by omega)]
    cases h3 : numOk 0 (f.cols - 1) ws.tail.tail with
    | none => rfl
    | some c =>
      simp only
      rw [must_eq]
      by_cases h4 : ahead (W "high") ws.tail.tail.tail = false
      · rw [if_neg (by rw [h4]; exact Bool.false_ne_true), if_pos h4]
      rw [if_neg h4]
      have h4 : ahead (W "high") ws.tail.tail.tail = true := by simpa using h4
      rw [if_pos h4]
      simp only
      rw [numIn_eq (by omega)]
      cases h5 : numOk 1 (f.rows - r) ws.tail.tail.tail.tail with
      | none => rfl
      | some a =>
        simp only
        rw [must_eq]
        by_cases h6 : ahead (W "wide") ws.tail.tail.tail.tail.tail = false
        · rw [if_neg (by rw [h6]; exact Bool.false_ne_true), if_pos h6]
        rw [if_neg h6]
        have h6 : ahead (W "wide") ws.tail.tail.tail.tail.tail = true := by simpa using h6
        rw [if_pos h6]
        simp only
        rw [numIn_eq (by omega)]
        cases h7 : numOk 1 (f.cols - c) ws.tail.tail.tail.tail.tail.tail with
        | none => rfl
        | some b => rfl
theorem numOk_le {lo hi n : Nat} {ws : List Word} (h : numOk lo hi ws = some n) : lo ≤ n ∧ n ≤ hi := by
  cases ws with
  | nil => cases h
  | cons w r =>
    have h : (if (lo : Int) ≤ wnum w.2 ∧ wnum w.2 ≤ (hi : Int) then some (wnum w.2).toNat else none) = some n := h
    by_cases q : (lo : Int) ≤ wnum w.2 ∧ wnum w.2 ≤ (hi : Int)
    · rw [if_pos q] at h
      have := Option.some.inj h
      omega
    · rw [if_neg q] at h
      cases h
end HF

/-! # Plain mathematics, 7: a field's text read, and written -/
namespace HF
open Vbsyae VbsyCore
def NAMES : List (Nat × Bytes) := [(0, W "above"), (1, W "right"), (2, W "below"), (3, W "left")]
def wrun : List (Nat × Bytes) → List Bool × List Word → List Bool × List Word
  | [], s => s
  | x :: r, s => wrun r (if ahead x.2 s.2 = true then (s.1.set x.1 true, s.2.tail) else s)
theorem wrun_app (a b : List (Nat × Bytes)) : ∀ s, wrun (a ++ b) s = wrun b (wrun a s) := by
  induction a with
  | nil => intro s; rfl
  | cons x r ih => intro s; exact ih _
theorem linesIn_eq (e g : Nat) (f : Field) (ws : List Word) : linesIn e (g + 1) f ws = if ws.isEmpty = true then .ok f else if ahead [10] ws = false then .error (placeOf e ws) else
    match foldIn f e ws.tail with
    | .error p => .error p
    | .ok y => linesIn e g (putDay f y.1) y.2 := by
  rw [linesIn]
  by_cases h : ws.isEmpty = true
  · rw [if_pos h, if_pos h]
  rw [if_neg h, if_neg h, must_eq]
  by_cases h1 : ahead [10] ws = false
  · rw [if_pos h1, if_neg (by rw [h1]; exact Bool.false_ne_true)]
    rfl
  rw [if_neg h1, if_pos (by simpa using h1)]
  simp only [bind, Except.bind]
  cases foldIn f e ws.tail with
  | error p => rfl
  | ok y => rfl
theorem lines_bad {e g : Nat} {f : Field} {w : Word} {r : List Word} (h : w.2 ≠ [10]) : linesIn e (g + 1) f (w :: r) = .error w.1 := by
  rw [linesIn_eq, if_neg (by simp), if_pos (by simpa [ahead] using h)]
  rfl
theorem wrun_no {w : Word} {r : List Word} : ∀ (l : List (Nat × Bytes)) (b : List Bool), (∀ x ∈ l, w.2 ≠ x.2) → wrun l (b, w :: r) = (b, w :: r)
  | [], _, _ => rfl
  | x :: l, b, h => by
    have h1 := h x List.mem_cons_self
    have : ahead x.2 (w :: r) = false := by simpa [ahead] using h1
    show wrun l (if ahead x.2 (w :: r) = true then _ else _) = _
    rw [if_neg (by rw [this]; exact Bool.false_ne_true)]
    exact wrun_no l b fun y hy => h y (List.mem_cons_of_mem _ hy)
theorem wrun_yes {w : Word} {r : List Word} {b : List Bool} {x : Nat × Bytes} {l : List (Nat × Bytes)} (h : w.2 = x.2) : wrun (x :: l) (b, w :: r) = wrun l (b.set x.1 true, r) := by
  show wrun l (if ahead x.2 (w :: r) = true then _ else _) = _
  rw [if_pos (by simp [ahead, h])]
  rfl
theorem wallsIn_s (e g lo : Nat) (l : List Bool) (ws : List Word) : wallsIn e (g + 1) lo l ws = if ws.isEmpty = true ∨ ahead [10] ws = true then .ok (l, ws) else match ws with
    | [] => .error e
    | w :: r => match SIDES.findIdx? fun x => x == w.2 with
      | none => .error w.1
      | some s => if s < lo then .error w.1 else wallsIn e g (s + 1) (l.set s true) r := by
  cases ws <;> rfl
/-- the walls, then the days: each name is looked at once -/
theorem walls_lines (e R C : Nat) : ∀ (g lo : Nat) (l : List Bool) (ws : List Word), 4 ≤ g + lo → lo ≤ 4 →
    (match wallsIn e g lo l ws with
      | .error p => (Except.error p : Except Nat Field)
      | .ok y => linesIn e (y.2.length + 1) { rows := R, cols := C, walls := y.1, days := [] } y.2) =
    linesIn e ((wrun (NAMES.drop lo) (l, ws)).2.length + 1) { rows := R, cols := C, walls := (wrun (NAMES.drop lo) (l, ws)).1, days := [] } (wrun (NAMES.drop lo) (l, ws)).2
  | 0, lo, l, ws, hg, hlo => by
    obtain rfl : lo = 4 := by omega
    rfl
  | g + 1, lo, l, ws, hg, hlo => by
    rw [wallsIn_s]
    cases ws with
    | nil =>
      rw [if_pos (.inl rfl)]
      have : ∀ m : List (Nat × Bytes), wrun m (l, []) = (l, []) := by
        intro m
        induction m with
        | nil => rfl
        | cons x r ih => exact ih
      rw [this]
    | cons w r =>
      by_cases h10 : w.2 = [10]
      · rw [if_pos (.inr (by simp [ahead, h10])), wrun_no _ _ fun x hx => ?_]
        rw [h10]
        intro z
        have hx := List.mem_of_mem_drop hx
        rw [show NAMES = [(0, W "above"), (1, W "right"), (2, W "below"), (3, W "left")] from rfl] at hx
        simp only [List.mem_cons, List.not_mem_nil, or_false] at hx
        rcases hx with rfl | rfl | rfl | rfl <;> exact absurd z (by decide)
      · rw [if_neg (by simp [ahead, h10])]
        have no : (∀ x ∈ NAMES.drop lo, w.2 ≠ x.2) → linesIn e ((wrun (NAMES.drop lo) (l, w :: r)).2.length + 1) { rows := R, cols := C, walls := (wrun (NAMES.drop lo) (l, w :: r)).1, days := [] } (wrun (NAMES.drop lo) (l, w :: r)).2 = .error w.1 := fun h => by
          rw [wrun_no _ _ h]
          exact lines_bad h10
        have key : ∀ s b, SIDES.findIdx? (fun x => x == w.2) = some s → NAMES[s]? = some (s, b) → w.2 = b → (∀ s', s' < 4 → s' ≠ s → ∀ c, NAMES[s']? = some (s', c) → w.2 ≠ c) → s < 4 →
            (match (match SIDES.findIdx? (fun x => x == w.2) with
              | none => (.error w.1 : Except Nat (List Bool × List Word))
              | some s => if s < lo then .error w.1 else wallsIn e g (s + 1) (l.set s true) r) with
              | .error p => (Except.error p : Except Nat Field)
              | .ok y => linesIn e (y.2.length + 1) { rows := R, cols := C, walls := y.1, days := [] } y.2) =
            linesIn e ((wrun (NAMES.drop lo) (l, w :: r)).2.length + 1) { rows := R, cols := C, walls := (wrun (NAMES.drop lo) (l, w :: r)).1, days := [] } (wrun (NAMES.drop lo) (l, w :: r)).2 := fun s b hs hb hw hne hs4 => by
          rw [hs]
          show (match (if s < lo then (.error w.1 : Except Nat (List Bool × List Word)) else wallsIn e g (s + 1) (l.set s true) r) with
              | .error p => (Except.error p : Except Nat Field)
              | .ok y => linesIn e (y.2.length + 1) { rows := R, cols := C, walls := y.1, days := [] } y.2) = _
          by_cases hlo2 : s < lo
          · rw [if_pos hlo2, no fun x hx => ?_]
            obtain ⟨i, hi⟩ := List.mem_iff_getElem?.mp hx
            rw [List.getElem?_drop] at hi
            have hi4 : lo + i < 4 := (List.getElem?_eq_some_iff.mp hi).1
            have hx1 : x = (lo + i, x.2) := by
              have : ∀ j, j < 4 → ∀ y, NAMES[j]? = some y → y = (j, y.2) := by
                intro j hj y hy
                have : j = 0 ∨ j = 1 ∨ j = 2 ∨ j = 3 := by omega
                rcases this with rfl | rfl | rfl | rfl <;> (cases hy; rfl)
              exact this _ hi4 _ hi
            rw [hx1] at hi
            exact hne _ hi4 (by omega) _ hi
          · rw [if_neg hlo2, walls_lines e R C g (s + 1) (l.set s true) r (by omega) (by omega)]
            have hd : wrun (NAMES.drop lo) (l, w :: r) = wrun (NAMES.drop (s + 1)) (l.set s true, r) := by
              have e1 : NAMES.drop lo = (NAMES.drop lo).take (s - lo) ++ (s, b) :: NAMES.drop (s + 1) := by
                have hs5 : s < NAMES.length := hs4
                have e2 : NAMES.drop s = (s, b) :: NAMES.drop (s + 1) := by
                  rw [List.drop_eq_getElem_cons hs5, (List.getElem?_eq_some_iff.mp hb).2]
                rw [← e2, show NAMES.drop s = (NAMES.drop lo).drop (s - lo) by rw [List.drop_drop]; congr 1; omega]
                exact (List.take_append_drop _ _).symm
              rw [e1, wrun_app, wrun_no _ _ fun x hx => ?_, wrun_yes hw]
              obtain ⟨i, hi⟩ := List.mem_iff_getElem?.mp hx
              have hil : i < s - lo := by
                have := (List.getElem?_eq_some_iff.mp hi).1
                rw [List.length_take] at this
                omega
              rw [List.getElem?_take_of_lt hil, List.getElem?_drop] at hi
              have hi4 : lo + i < 4 := (List.getElem?_eq_some_iff.mp hi).1
              have hx1 : x = (lo + i, x.2) := by
                have : ∀ j, j < 4 → ∀ y, NAMES[j]? = some y → y = (j, y.2) := by
                  intro j hj y hy
                  have : j = 0 ∨ j = 1 ∨ j = 2 ∨ j = 3 := by omega
                  rcases this with rfl | rfl | rfl | rfl <;> (cases hy; rfl)
                exact this _ hi4 _ hi
              rw [hx1] at hi
              exact hne _ hi4 (by omega) _ hi
            rw [hd]
        have split4 : ∀ s', s' < 4 → s' = 0 ∨ s' = 1 ∨ s' = 2 ∨ s' = 3 := by omega
        by_cases w0 : w.2 = W "above"
        · exact key 0 (W "above") (by rw [w0]; decide) rfl w0 (fun s' h4 hs c hc => by rcases split4 s' h4 with rfl | rfl | rfl | rfl <;> (cases hc; rw [w0]; first | exact absurd rfl hs | decide)) (by decide)
        by_cases w1 : w.2 = W "right"
        · exact key 1 (W "right") (by rw [w1]; decide) rfl w1 (fun s' h4 hs c hc => by rcases split4 s' h4 with rfl | rfl | rfl | rfl <;> (cases hc; rw [w1]; first | exact absurd rfl hs | decide)) (by decide)
        by_cases w2 : w.2 = W "below"
        · exact key 2 (W "below") (by rw [w2]; decide) rfl w2 (fun s' h4 hs c hc => by rcases split4 s' h4 with rfl | rfl | rfl | rfl <;> (cases hc; rw [w2]; first | exact absurd rfl hs | decide)) (by decide)
        by_cases w3 : w.2 = W "left"
        · exact key 3 (W "left") (by rw [w3]; decide) rfl w3 (fun s' h4 hs c hc => by rcases split4 s' h4 with rfl | rfl | rfl | rfl <;> (cases hc; rw [w3]; first | exact absurd rfl hs | decide)) (by decide)
        have hn : SIDES.findIdx? (fun x => x == w.2) = none := by
          rw [List.findIdx?_eq_none_iff]
          intro x hx
          rw [show SIDES = [W "above", W "right", W "below", W "left"] from rfl] at hx
          simp only [List.mem_cons, List.not_mem_nil, or_false] at hx
          rcases hx with rfl | rfl | rfl | rfl <;> simpa using Ne.symm ‹_›
        simp only
        rw [hn, no fun x hx => ?_]
        have hx := List.mem_of_mem_drop hx
        rw [show NAMES = [(0, W "above"), (1, W "right"), (2, W "below"), (3, W "left")] from rfl] at hx
        simp only [List.mem_cons, List.not_mem_nil, or_false] at hx
        rcases hx with rfl | rfl | rfl | rfl <;> assumption
def l0 : List Bool := [false, false, false, false]
theorem readField_eq (t : Bytes) : readField t =
    if ahead (W "field") (cut 0 t) = false then .error (placeOf t.length (cut 0 t)) else
    match numOk 1 8 (cut 0 t).tail with
    | none => .error (placeOf t.length (cut 0 t).tail)
    | some r => match numOk 1 8 (cut 0 t).tail.tail with
      | none => .error (placeOf t.length (cut 0 t).tail.tail)
      | some c => if ahead (W "walls") (cut 0 t).tail.tail.tail = false then .error (placeOf t.length (cut 0 t).tail.tail.tail) else
        linesIn t.length ((wrun NAMES (l0, (cut 0 t).tail.tail.tail.tail)).2.length + 1) { rows := r, cols := c, walls := (wrun NAMES (l0, (cut 0 t).tail.tail.tail.tail)).1, days := [] } (wrun NAMES (l0, (cut 0 t).tail.tail.tail.tail)).2 := by
  unfold readField
  simp only
  rw [must_eq]
  by_cases h1 : ahead (W "field") (cut 0 t) = false
  · rw [if_neg (by rw [h1]; exact Bool.false_ne_true), if_pos h1]
    rfl
  rw [if_neg h1]
  have h1 : ahead (W "field") (cut 0 t) = true := by simpa using h1
  rw [if_pos h1]
  simp only [bind, Except.bind]
  rw [numIn_eq (by decide), show SIDE = 8 from rfl]
  cases h2 : numOk 1 8 (cut 0 t).tail with
  | none => rfl
  | some r =>
    simp only
    rw [numIn_eq (by decide)]
    cases h3 : numOk 1 8 (cut 0 t).tail.tail with
    | none => rfl
    | some c =>
      simp only
      rw [must_eq]
      by_cases h4 : ahead (W "walls") (cut 0 t).tail.tail.tail = false
      · rw [if_neg (by rw [h4]; exact Bool.false_ne_true), if_pos h4]
      rw [if_neg h4]
      have h4 : ahead (W "walls") (cut 0 t).tail.tail.tail = true := by simpa using h4
      rw [if_pos h4]
      simp only
      have q := walls_lines t.length r c 4 0 l0 (cut 0 t).tail.tail.tail.tail (by decide) (by decide)
      rw [show NAMES.drop 0 = NAMES from rfl] at q
      rw [← q, show [false, false, false, false] = l0 from rfl]
      cases wallsIn t.length 4 0 l0 (cut 0 t).tail.tail.tail.tail with
      | error p => rfl
      | ok y => rfl
theorem readFold_eq (f : Field) (t : Bytes) : readFold f t = match foldIn f t.length (cut 0 t) with
    | .error p => .error p
    | .ok y => if y.2.isEmpty = true then .ok y.1 else .error (placeOf t.length y.2) := by
  unfold readFold
  simp only [bind, Except.bind]
  cases foldIn f t.length (cut 0 t) with
  | error p => rfl
  | ok y =>
    obtain ⟨x, ws⟩ := y
    cases ws <;> rfl
theorem foldIn_fits {f : Field} (g : Good f) {e : Nat} {ws ws' : List Word} {x : Fold} (h : foldIn f e ws = .ok (x, ws')) : Fits f x ∧ f.days.length < 20 := by
  rw [foldIn_eq g] at h
  split at h
  · cases h
  rename_i h1
  split at h
  · cases h
  rename_i r h2
  split at h
  · cases h
  rename_i c h3
  split at h
  · cases h
  split at h
  · cases h
  rename_i a h5
  split at h
  · cases h
  split at h
  · cases h
  rename_i b h7
  have := Except.ok.inj h
  obtain ⟨rfl, _⟩ := Prod.mk.inj this
  have n2 := numOk_le h2
  have n3 := numOk_le h3
  have n5 := numOk_le h5
  have n7 := numOk_le h7
  have r1 := g.r1
  have c1 := g.c1
  refine ⟨?_, by
    have : ahead (W "fold") ws = true ∧ f.days.length < 20 := Classical.not_not.mp h1
    exact this.2⟩
  constructor <;> simp only <;> omega
theorem WF.put {f : Field} {x : Fold} (w : WF f) (h : Fits f x) (hl : f.days.length < 20) : WF (putDay f x) := by
  refine ⟨⟨w.g.r1, w.g.r8, w.g.c1, w.g.c8, w.g.w4⟩, fun y hy => ?_, ?_⟩
  · rcases List.mem_append.mp (show y ∈ f.days ++ [x] from hy) with hy | hy
    · have := w.fit y hy
      exact ⟨this.1, this.2, this.3, this.4⟩
    · rw [List.mem_singleton.mp hy]
      exact ⟨h.1, h.2, h.3, h.4⟩
  · show (f.days ++ [x]).length ≤ 20
    rw [List.length_append]
    simp only [List.length_cons, List.length_nil]
    omega
/-! ### written -/
theorem between_snoc (s : Bytes) : ∀ (l : List Bytes) (w : Bytes), between s (l ++ [w]) = if l.isEmpty = true then w else between s l ++ s ++ w
  | [], w => rfl
  | [a], w => by
    show a ++ s ++ between s [w] = _
    rfl
  | a :: b :: l, w => by
    have ih := between_snoc s (b :: l) w
    show a ++ s ++ between s (b :: l ++ [w]) = a ++ s ++ between s (b :: l) ++ s ++ w
    rw [ih]
    simp
theorem walls_names (f : Field) : ((List.range 4).filter (walled f)).map (fun s => SIDES.getD s []) = (NAMES.filter fun x => walled f x.1).map (·.2) := by
  show ((List.filter (walled f) [0, 1, 2, 3])).map _ = (List.filter _ [(0, W "above"), (1, W "right"), (2, W "below"), (3, W "left")]).map _
  simp only [List.filter_cons, List.filter_nil]
  cases walled f 0 <;> cases walled f 1 <;> cases walled f 2 <;> cases walled f 3 <;> rfl
end HF

/-! # Plain mathematics, 8: calls -/
namespace HF
open Vbsyae VbsyCore
def res (f : Field) (c : Call) : Field × List Int := match run f c with
  | .ok r => r
  | .error e => (f, [e])
def isBytes (l : List Int) : Bool := l.all fun c => isBetween c 0 255
theorem textIn_yes {l : List Int} (h : isBytes l = true) (hl : l.length ≤ 2000) : textIn l = .ok (l.map Int.toNat) := by
  unfold textIn bytesIn
  rw [if_pos ⟨h, hl⟩]
theorem textIn_no {l : List Int} (h : isBytes l = false) : textIn l = .error (-1) := by
  unfold textIn bytesIn
  rw [if_neg (fun z => by
    have : isBytes l = true := z.1
    rw [h] at this; cases this)]
theorem bytes_nat {l : List Int} (h : isBytes l = true) : l = (l.map Int.toNat).map fun (n : Nat) => (n : Int) := by
  rw [List.map_map]
  have : ∀ c ∈ l, ((fun (n : Nat) => (n : Int)) ∘ Int.toNat) c = c := fun c hc => by
    have h1 := List.all_eq_true.mp h c hc
    simp only [isBetween, Bool.and_eq_true, decide_eq_true_eq] at h1
    show ((c.toNat : Nat) : Int) = c
    omega
  rw [List.map_congr_left this, List.map_id']
theorem run_field {f : Field} {t : List Int} : run f (.field t) = (do
    let b ← textIn t
    match readField b with
      | .error p => .error (-1000 - (p : Int))
      | .ok g => return (g, VbsyCore.ints [g.rows, g.cols, g.days.length])) := rfl
theorem run_look {f : Field} {t : List Int} : run f (.look t) = (do
    let b ← textIn t
    match readField b with
      | .error p => return (f, [1, (p : Int)])
      | .ok _ => return (f, [0])) := rfl
theorem run_day {f : Field} {t : List Int} : run f (.day t) = (do
    let b ← textIn t
    match readFold f b with
      | .error p => .error (-1000 - (p : Int))
      | .ok x => return (putDay f x, [((f.days.length + 1 : Nat) : Int)])) := rfl
theorem run_cost {f : Field} {l : List Int} : run f (.cost l) = (do
    let l ← cellsIn f l
    return (f, VbsyCore.ints [cost f l, l.length, parts f l])) := rfl
theorem run_sides {f : Field} {l : List Int} : run f (.sides l) = (do
    let l ← cellsIn f l
    return (f, ((sides f l).length : Int) :: (sides f l).flatMap fun x => VbsyCore.ints [x.1, x.2])) := rfl
theorem run_rounded {f : Field} {l : List Int} : run f (.rounded l) = (do
    let l ← cellsIn f l
    let x := rounded f l
    return (f, VbsyCore.ints [x.1, x.2, rectCost f x.1 x.2])) := rfl
theorem run_order {f : Field} {l : List Int} : run f (.order l) = if (l.all fun d => isBetween d 0 ((f.days.length : Int) - 1)) = true ∧ isOrder f (l.map Int.toNat) = true then .ok (f, VbsyCore.ints [carries f (l.map Int.toNat), most f]) else .error (-4) := rfl
theorem res_field_no {f : Field} {l : List Int} (h : isBytes l = false) : res f (.field l) = (f, [-1]) := by
  unfold res
  rw [run_field, textIn_no h]
  rfl
theorem res_field_yes {f : Field} {l : List Int} (h : isBytes l = true) (hl : l.length ≤ 2000) : res f (.field l) = match readField (l.map Int.toNat) with
    | .error p => (f, [-1000 - (p : Int)])
    | .ok g => (g, VbsyCore.ints [g.rows, g.cols, g.days.length]) := by
  unfold res
  rw [run_field, textIn_yes h hl]
  simp only [bind, Except.bind]
  cases readField (l.map Int.toNat) <;> rfl
theorem res_look_no {f : Field} {l : List Int} (h : isBytes l = false) : res f (.look l) = (f, [-1]) := by
  unfold res
  rw [run_look, textIn_no h]
  rfl
theorem res_look_yes {f : Field} {l : List Int} (h : isBytes l = true) (hl : l.length ≤ 2000) : res f (.look l) = (f, match readField (l.map Int.toNat) with
    | .error p => [1, (p : Int)]
    | .ok _ => [0]) := by
  unfold res
  rw [run_look, textIn_yes h hl]
  simp only [bind, Except.bind]
  cases readField (l.map Int.toNat) <;> rfl
theorem res_day_no {f : Field} {l : List Int} (h : isBytes l = false) : res f (.day l) = (f, [-1]) := by
  unfold res
  rw [run_day, textIn_no h]
  rfl
theorem res_day_yes {f : Field} {l : List Int} (h : isBytes l = true) (hl : l.length ≤ 2000) : res f (.day l) = match readFold f (l.map Int.toNat) with
    | .error p => (f, [-1000 - (p : Int)])
    | .ok x => (putDay f x, [((f.days.length + 1 : Nat) : Int)]) := by
  unfold res
  rw [run_day, textIn_yes h hl]
  simp only [bind, Except.bind]
  cases readFold f (l.map Int.toNat) <;> rfl
theorem ranged_yes {n lo hi : Int} (h : isBetween n lo hi = true) : ranged n lo hi = .ok n.toNat := by
  unfold ranged
  rw [if_pos h]
theorem ranged_no {n lo hi : Int} (h : isBetween n lo hi = false) : ranged n lo hi = .error (-3) := by
  unfold ranged
  rw [if_neg (by rw [h]; exact Bool.false_ne_true)]
theorem bet_iff {n lo hi : Int} : isBetween n lo hi = true ↔ lo ≤ n ∧ n ≤ hi := by
  simp [isBetween]
theorem bet_not {n lo hi : Int} : isBetween n lo hi = false ↔ ¬ (lo ≤ n ∧ n ≤ hi) := by
  rw [← bet_iff, Bool.not_eq_true]
/-! ### cells -/
def okCells (f : Field) (l : List Int) : Bool := (l.all fun c => isBetween c 0 ((cells f : Int) - 1)) && isRising (l.map Int.toNat)
theorem cellsIn_yes {f : Field} {l : List Int} (h : okCells f l = true) : cellsIn f l = .ok (l.map Int.toNat) := by
  unfold cellsIn
  rw [if_pos (by simpa [okCells] using h)]
theorem cellsIn_no {f : Field} {l : List Int} (h : okCells f l = false) : cellsIn f l = .error (-4) := by
  unfold cellsIn
  rw [if_neg (fun z => by
    have : okCells f l = true := by simpa [okCells] using z
    rw [h] at this; cases this)]
theorem all_nat {l : List Int} {m : Int} (h : (l.all fun c => isBetween c 0 m) = true) : l = (l.map Int.toNat).map fun (n : Nat) => (n : Int) := by
  rw [List.map_map]
  have : ∀ c ∈ l, ((fun (n : Nat) => (n : Int)) ∘ Int.toNat) c = c := fun c hc => by
    have h1 := List.all_eq_true.mp h c hc
    simp only [isBetween, Bool.and_eq_true, decide_eq_true_eq] at h1
    show ((c.toNat : Nat) : Int) = c
    omega
  rw [List.map_congr_left this, List.map_id']
theorem rising_of : ∀ {l : List Nat}, isRising l = true → Rising l
  | [], _ => .nil
  | [a], _ => by unfold Rising; simp
  | a :: b :: l, h => by
    have h' : (decide (a < b) && isRising (b :: l)) = true := h
    simp only [Bool.and_eq_true, decide_eq_true_eq] at h'
    have ih := rising_of h'.2
    refine List.pairwise_cons.mpr ⟨fun x hx => ?_, ih⟩
    rcases List.mem_cons.mp hx with rfl | hx
    · exact h'.1
    · exact Nat.lt_trans h'.1 ((List.pairwise_cons.mp ih).1 x hx)
theorem okCells_facts {f : Field} (g : Good f) {l : List Int} (h : okCells f l = true) : l = (l.map Int.toNat).map (fun (n : Nat) => (n : Int)) ∧ Rising (l.map Int.toNat) ∧ (∀ c ∈ l.map Int.toNat, c < cells f) ∧ (l.map Int.toNat).length ≤ 64 := by
  have h' : (l.all fun c => isBetween c 0 ((cells f : Int) - 1)) = true ∧ isRising (l.map Int.toNat) = true := by simpa [okCells] using h
  have hlt : ∀ c ∈ l.map Int.toNat, c < cells f := fun c hc => by
    obtain ⟨z, hz, rfl⟩ := List.mem_map.mp hc
    have h1 := List.all_eq_true.mp h'.1 z hz
    simp only [isBetween, Bool.and_eq_true, decide_eq_true_eq] at h1
    omega
  exact ⟨all_nat h'.1, rising_of h'.2, hlt, Nat.le_trans (rising_len (rising_of h'.2) hlt) (cells_le g)⟩
/-- rising, place by place -/
theorem rise_at : ∀ l : List Nat, isRising l = (List.range (l.length - 1)).all fun x => decide (l.getD x 0 < l.getD (x + 1) 0)
  | [] => rfl
  | [a] => rfl
  | a :: b :: l => by
    have ih := rise_at (b :: l)
    show (decide (a < b) && isRising (b :: l)) = (List.range (l.length + 1)).all fun x => decide ((a :: b :: l).getD x 0 < (a :: b :: l).getD (x + 1) 0)
    rw [ih, List.range_succ_eq_map, List.all_cons, List.all_map]
    rfl
theorem res_cost {f : Field} {l : List Int} : res f (.cost l) = (f, if okCells f l = true then VbsyCore.ints [cost f (l.map Int.toNat), (l.map Int.toNat).length, parts f (l.map Int.toNat)] else [-4]) := by
  unfold res
  rw [run_cost]
  cases h : okCells f l with
  | true => rw [cellsIn_yes h]; rfl
  | false => rw [cellsIn_no h]; rfl
theorem res_sides {f : Field} {l : List Int} : res f (.sides l) = (f, if okCells f l = true then ((sides f (l.map Int.toNat)).length : Int) :: (sides f (l.map Int.toNat)).flatMap fun x => VbsyCore.ints [x.1, x.2] else [-4]) := by
  unfold res
  rw [run_sides]
  cases h : okCells f l with
  | true => rw [cellsIn_yes h]; rfl
  | false => rw [cellsIn_no h]; rfl
theorem res_rounded {f : Field} {l : List Int} : res f (.rounded l) = (f, if okCells f l = true then VbsyCore.ints [(rounded f (l.map Int.toNat)).1, (rounded f (l.map Int.toNat)).2, rectCost f (rounded f (l.map Int.toNat)).1 (rounded f (l.map Int.toNat)).2] else [-4]) := by
  unfold res
  rw [run_rounded]
  cases h : okCells f l with
  | true => rw [cellsIn_yes h]; rfl
  | false => rw [cellsIn_no h]; rfl
/-! ### orders -/
theorem perm_range : ∀ (n : Nat) (l : List Nat), l.length = n → (∀ d, d < n → d ∈ l) → l.Perm (List.range n)
  | 0, l, h, _ => by
    rw [List.length_eq_zero_iff.mp h]
    exact .nil
  | n + 1, l, h, hm => by
    have hn := hm n (Nat.lt_succ_self n)
    have p1 := List.perm_cons_erase hn
    have hl : (l.erase n).length = n := by rw [List.length_erase_of_mem hn, h]; rfl
    have p2 := perm_range n (l.erase n) hl fun d hd => (List.mem_erase_of_ne (by omega)).mpr (hm d (by omega))
    rw [List.range_succ]
    exact p1.trans ((p2.cons n).trans (List.perm_append_comm (l₁ := [n]) (l₂ := List.range n)))
theorem sorted_eq : ∀ (a b : List Int), a.Perm b → a.Pairwise (· ≤ ·) → b.Pairwise (· ≤ ·) → a = b
  | [], b, p, _, _ => (List.nil_perm.mp p).symm
  | x :: a, [], p, _, _ => absurd p.length_eq (by simp)
  | x :: a, y :: b, p, ha, hb => by
    have h1 := List.pairwise_cons.mp ha
    have h2 := List.pairwise_cons.mp hb
    have hx : x ∈ y :: b := p.mem_iff.mp List.mem_cons_self
    have hy : y ∈ x :: a := p.mem_iff.mpr List.mem_cons_self
    have hxy : x = y := by
      rcases List.mem_cons.mp hx with h | h
      · exact h
      · rcases List.mem_cons.mp hy with h' | h'
        · exact h'.symm
        · have := h1.1 y h'
          have := h2.1 x h
          omega
    subst hxy
    rw [sorted_eq a b p.cons_inv h1.2 h2.2]
def okOrder (f : Field) (l : List Int) : Bool := (l.all fun d => isBetween d 0 ((f.days.length : Int) - 1)) && isOrder f (l.map Int.toNat)
theorem order_iff {f : Field} {l ns : List Int} (p : ns.Perm l) (s : ns.Pairwise (· ≤ ·)) : ns = (List.range f.days.length).map (fun (n : Nat) => (n : Int)) ↔ okOrder f l = true := by
  constructor
  · intro e
    subst e
    have hmem : ∀ c ∈ l, ∃ d, d < f.days.length ∧ (d : Int) = c := fun c hc => by
      obtain ⟨d, hd, e⟩ := List.mem_map.mp (p.mem_iff.mpr hc)
      exact ⟨d, List.mem_range.mp hd, e⟩
    unfold okOrder
    rw [Bool.and_eq_true]
    refine ⟨List.all_eq_true.mpr fun c hc => ?_, ?_⟩
    · obtain ⟨d, hd, rfl⟩ := hmem c hc
      rw [bet_iff]
      omega
    · unfold isOrder
      rw [Bool.and_eq_true]
      refine ⟨?_, List.all_eq_true.mpr fun d hd => ?_⟩
      · have := p.length_eq
        rw [List.length_map, List.length_range] at this
        rw [List.length_map, beq_iff_eq]
        exact this.symm
      · have hd := List.mem_range.mp hd
        have : (d : Int) ∈ l := p.mem_iff.mp (List.mem_map.mpr ⟨d, List.mem_range.mpr hd, rfl⟩)
        rw [List.contains_iff_mem]
        exact List.mem_map.mpr ⟨(d : Int), this, Int.toNat_natCast d⟩
  · intro h
    unfold okOrder at h
    rw [Bool.and_eq_true] at h
    have hn := all_nat h.1
    have ho := h.2
    unfold isOrder at ho
    rw [Bool.and_eq_true, beq_iff_eq] at ho
    have pr := perm_range _ _ ho.1 fun d hd => by
      have := List.all_eq_true.mp ho.2 d (List.mem_range.mpr hd)
      rwa [List.contains_iff_mem] at this
    have pl : l.Perm ((List.range f.days.length).map fun (n : Nat) => (n : Int)) := by
      have := pr.map fun (n : Nat) => (n : Int)
      rwa [← hn] at this
    refine sorted_eq _ _ (p.trans pl) s ?_
    refine List.Pairwise.map _ (fun a b h => ?_) (List.pairwise_lt_range (n := f.days.length))
    have h : a < b := h
    show (a : Int) ≤ (b : Int)
    omega
theorem res_order {f : Field} {l : List Int} : res f (.order l) = (f, if okOrder f l = true then VbsyCore.ints [carries f (l.map Int.toNat), most f] else [-4]) := by
  unfold res
  rw [run_order]
  cases h : okOrder f l with
  | true =>
    rw [if_pos (by simpa [okOrder] using h)]
    rfl
  | false =>
    rw [if_neg (fun z => by
      have : okOrder f l = true := by simpa [okOrder] using z
      rw [h] at this; cases this)]
    rfl
theorem foldmax : ∀ (l : List Nat) (a : Nat), a ≤ l.foldl max a ∧ (∀ x ∈ l, x ≤ l.foldl max a) ∧ (l.foldl max a = a ∨ l.foldl max a ∈ l)
  | [], a => ⟨Nat.le_refl _, nofun, .inl rfl⟩
  | b :: l, a => by
    obtain ⟨h1, h2, h3⟩ := foldmax l (max a b)
    show a ≤ l.foldl max (max a b) ∧ (∀ x ∈ b :: l, x ≤ l.foldl max (max a b)) ∧ (l.foldl max (max a b) = a ∨ l.foldl max (max a b) ∈ b :: l)
    refine ⟨by omega, fun x hx => ?_, ?_⟩
    · rcases List.mem_cons.mp hx with rfl | hx
      · omega
      · exact h2 x hx
    · rcases h3 with h3 | h3
      · rw [h3]
        by_cases h : a ≤ b
        · exact .inr (by rw [Nat.max_eq_right h]; exact List.mem_cons_self)
        · exact .inl (by omega)
      · exact .inr (List.mem_cons_of_mem _ h3)
/-! ### covered -/
def dcnt (f : Field) (i c : Nat) : Nat := ((f.days.take i).filter fun x => (dcells f x).contains c).length
theorem dcnt_succ {f : Field} {i : Nat} {x : Fold} (h : f.days[i]? = some x) (c : Nat) : dcnt f (i + 1) c = dcnt f i c + (if (dcells f x).contains c = true then 1 else 0) := by
  unfold dcnt
  rw [List.take_add_one, h, List.filter_append, List.length_append]
  congr 1
  show (List.filter _ [x]).length = _
  rw [List.filter_cons]
  split <;> rfl
theorem times_cnt {f : Field} (w : WF f) (c : Nat) : times f c = dcnt f f.days.length c := by
  unfold times dcnt order
  rw [List.take_length]
  have : ∀ n, n ≤ f.days.length → ((List.range n).filter fun d => (dayCells f d).contains c).length = ((f.days.take n).filter fun x => (dcells f x).contains c).length := by
    intro n
    induction n with
    | zero => intro _; rfl
    | succ n ih =>
      intro hn
      have e := List.getElem?_eq_getElem (show n < f.days.length by omega)
      rw [List.range_succ, List.filter_append, List.length_append, ih (by omega), List.take_add_one, e, List.filter_append, List.length_append]
      congr 1
      show (List.filter _ [n]).length = (List.filter _ [f.days[n]]).length
      rw [List.filter_cons, List.filter_cons, dayCells_eq w e]
      split <;> rfl
  have := this f.days.length (Nat.le_refl _)
  rw [List.take_length] at this
  exact this
/-! ### fields stay whole -/
theorem WF.lines {e : Nat} : ∀ (g : Nat) (f h : Field) (ws : List Word), WF f → linesIn e g f ws = .ok h → WF h
  | 0, f, h, ws, _, q => by cases q
  | g + 1, f, h, ws, w, q => by
    rw [linesIn_eq] at q
    split at q
    · cases q
      exact w
    · split at q
      · cases q
      · split at q
        · cases q
        · rename_i y hy
          have := foldIn_fits w.g (x := y.1) (ws' := y.2) hy
          exact WF.lines g _ h _ (w.put this.1 this.2) q
theorem wrun_len : ∀ (l : List (Nat × Bytes)) (s : List Bool × List Word), (wrun l s).1.length = s.1.length
  | [], _ => rfl
  | x :: l, s => by
    show (wrun l (if ahead x.2 s.2 = true then (s.1.set x.1 true, s.2.tail) else s)).1.length = _
    rw [wrun_len l]
    split
    · exact List.length_set
    · rfl
theorem WF.read {t : Bytes} {h : Field} (q : readField t = .ok h) : WF h := by
  rw [readField_eq] at q
  split at q
  · cases q
  split at q
  · cases q
  rename_i r hr
  split at q
  · cases q
  rename_i c hc
  split at q
  · cases q
  have n1 := numOk_le hr
  have n2 := numOk_le hc
  refine WF.lines _ _ _ _ ⟨⟨n1.1, n1.2, n2.1, n2.2, ?_⟩, fun x hx => (nomatch (show x ∈ ([] : List Fold) from hx)), Nat.zero_le _⟩ q
  rw [wrun_len]
  rfl
theorem WF.fold {f : Field} {t : Bytes} {x : Fold} (w : WF f) (q : readFold f t = .ok x) : WF (putDay f x) ∧ f.days.length < 20 := by
  rw [readFold_eq] at q
  split at q
  · cases q
  rename_i y hy
  split at q
  · have := Except.ok.inj q
    subst this
    have := foldIn_fits w.g (x := y.1) (ws' := y.2) hy
    exact ⟨w.put this.1 this.2, this.2⟩
  · cases q
theorem WF.take {f : Field} (w : WF f) (n : Nat) : WF { f with days := f.days.take n } := by
  refine ⟨⟨w.g.r1, w.g.r8, w.g.c1, w.g.c8, w.g.w4⟩, fun x hx => ?_, ?_⟩
  · have := w.fit x (List.mem_of_mem_take hx)
    exact ⟨this.1, this.2, this.3, this.4⟩
  · show (f.days.take n).length ≤ 20
    rw [List.length_take]
    have := w.few
    omega
theorem WF.start : WF start := ⟨⟨by decide, by decide, by decide, by decide, rfl⟩, fun x hx => (nomatch (show x ∈ ([] : List Fold) from hx)), Nat.zero_le _⟩
end HF
namespace HF
open Vbsyae VbsyCore
theorem run_undo {f : Field} {n : Int} : run f (.undo n) = (do
    let n ← ranged n 0 20
    if f.days.length < n then .error (-5) else return ({ f with days := f.days.take n }, [(n : Int)])) := rfl
theorem res_undo_no {f : Field} {n : Int} (h : isBetween n 0 20 = false) : res f (.undo n) = (f, [-3]) := by
  unfold res
  rw [run_undo, ranged_no h]
  rfl
theorem res_undo_yes {f : Field} {n : Int} (h : isBetween n 0 20 = true) : res f (.undo n) = if f.days.length < n.toNat then (f, [-5]) else ({ f with days := f.days.take n.toNat }, [((n.toNat : Nat) : Int)]) := by
  unfold res
  rw [run_undo, ranged_yes h]
  simp only [bind, Except.bind]
  split
  · rename_i e
    split at e
    · cases e
    · rename_i h2
      rw [if_neg h2]
      cases e
      rfl
  · rename_i e
    split at e
    · rename_i h2
      rw [if_pos h2]
      cases e
      rfl
    · cases e
end HF
namespace HF
open Vbsyae VbsyCore
theorem run_rect {f : Field} {a b : Int} : run f (.rect a b) = (do
    let a ← ranged a 1 8
    let b ← ranged b 1 8
    if f.rows < a ∨ f.cols < b then .error (-5) else return (f, (rectCost f a b : Int) :: foldRow (putAt f a b))) := rfl
theorem run_best {f : Field} {h : Int} : run f (.best h) = (do
    let h ← ranged h 0 100
    let x := best f h
    if x.1 = 0 then return (f, [0]) else return (f, VbsyCore.ints [1, x.1 * x.2, rectCost f x.1 x.2] ++ foldRow (putAt f x.1 x.2))) := rfl
theorem run_least {f : Field} {n : Int} : run f (.least n) = (do
    let n ← ranged n 1 64
    match least f n with
      | none => return (f, [0])
      | some x => return (f, VbsyCore.ints [1, rectCost f x.1 x.2, x.1 * x.2] ++ foldRow (putAt f x.1 x.2))) := rfl
theorem res_rect {f : Field} {a b : Int} : res f (.rect a b) = (f, if isBetween a 1 8 = false ∨ isBetween b 1 8 = false then [-3] else if f.rows < a.toNat ∨ f.cols < b.toNat then [-5] else (rectCost f a.toNat b.toNat : Int) :: foldRow (putAt f a.toNat b.toNat)) := by
  unfold res
  rw [run_rect]
  cases ha : isBetween a 1 8 with
  | false =>
    rw [ranged_no ha, if_pos (.inl rfl)]
    rfl
  | true =>
    rw [ranged_yes ha]
    cases hb : isBetween b 1 8 with
    | false =>
      rw [ranged_no hb, if_pos (.inr rfl)]
      rfl
    | true =>
      rw [ranged_yes hb, if_neg (by simp)]
      by_cases h : f.rows < a.toNat ∨ f.cols < b.toNat
      · rw [if_pos h]
        show (match (if f.rows < a.toNat ∨ f.cols < b.toNat then (.error (-5) : Res (Field × Answer)) else .ok (f, (rectCost f a.toNat b.toNat : Int) :: foldRow (putAt f a.toNat b.toNat))) with
          | .ok r => r
          | .error e => (f, [e])) = _
        rw [if_pos h]
      · rw [if_neg h]
        show (match (if f.rows < a.toNat ∨ f.cols < b.toNat then (.error (-5) : Res (Field × Answer)) else .ok (f, (rectCost f a.toNat b.toNat : Int) :: foldRow (putAt f a.toNat b.toNat))) with
          | .ok r => r
          | .error e => (f, [e])) = _
        rw [if_neg h]
theorem res_best {f : Field} {h : Int} : res f (.best h) = (f, if isBetween h 0 100 = false then [-3] else if (best f h.toNat).1 = 0 then [0] else VbsyCore.ints [1, (best f h.toNat).1 * (best f h.toNat).2, rectCost f (best f h.toNat).1 (best f h.toNat).2] ++ foldRow (putAt f (best f h.toNat).1 (best f h.toNat).2)) := by
  unfold res
  rw [run_best]
  cases hb : isBetween h 0 100 with
  | false =>
    rw [ranged_no hb, if_pos rfl]
    rfl
  | true =>
    rw [ranged_yes hb, if_neg (by simp)]
    by_cases h0 : (best f h.toNat).1 = 0
    · rw [if_pos h0]
      show (match (if (best f h.toNat).1 = 0 then (.ok (f, [0]) : Res (Field × Answer)) else .ok (f, VbsyCore.ints [1, (best f h.toNat).1 * (best f h.toNat).2, rectCost f (best f h.toNat).1 (best f h.toNat).2] ++ foldRow (putAt f (best f h.toNat).1 (best f h.toNat).2))) with
          | .ok r => r
          | .error e => (f, [e])) = _
      rw [if_pos h0]
    · rw [if_neg h0]
      show (match (if (best f h.toNat).1 = 0 then (.ok (f, [0]) : Res (Field × Answer)) else .ok (f, VbsyCore.ints [1, (best f h.toNat).1 * (best f h.toNat).2, rectCost f (best f h.toNat).1 (best f h.toNat).2] ++ foldRow (putAt f (best f h.toNat).1 (best f h.toNat).2))) with
          | .ok r => r
          | .error e => (f, [e])) = _
      rw [if_neg h0]
theorem res_least {f : Field} {n : Int} : res f (.least n) = (f, if isBetween n 1 64 = false then [-3] else match least f n.toNat with
      | none => [0]
      | some x => VbsyCore.ints [1, rectCost f x.1 x.2, x.1 * x.2] ++ foldRow (putAt f x.1 x.2)) := by
  unfold res
  rw [run_least]
  cases hb : isBetween n 1 64 with
  | false =>
    rw [ranged_no hb, if_pos rfl]
    rfl
  | true =>
    rw [ranged_yes hb, if_neg (by simp)]
    simp only [bind, Except.bind]
    cases least f n.toNat <;> rfl
theorem shapes_mem {f : Field} {x : Nat × Nat} (h : x ∈ shapes f) : 1 ≤ x.1 ∧ x.1 ≤ f.rows ∧ 1 ≤ x.2 ∧ x.2 ≤ f.cols := by
  unfold shapes at h
  obtain ⟨a, ha, hx⟩ := List.mem_flatMap.mp h
  obtain ⟨b, hb, rfl⟩ := List.mem_map.mp hx
  have ha := List.mem_range.mp ha
  have hb := List.mem_range.mp hb
  exact ⟨by show 1 ≤ a + 1; omega, ha, by show 1 ≤ b + 1; omega, hb⟩
theorem best_le (f : Field) (h : Nat) : (best f h).1 ≤ f.rows ∧ (best f h).2 ≤ f.cols ∧ ((best f h).1 = 0 → (best f h).2 = 0) := by
  cases e : cand f h with
  | nil =>
    rw [best_nil e]
    exact ⟨Nat.zero_le _, Nat.zero_le _, fun _ => rfl⟩
  | cons x l =>
    have := shapes_mem (best_mem e)
    exact ⟨this.2.1, this.2.2.2, fun z => by omega⟩
theorem least_le {f : Field} {n : Nat} {x : Nat × Nat} (h : least f n = some x) : x.1 ≤ f.rows ∧ x.2 ≤ f.cols := by
  cases e : candL f n with
  | nil => rw [least_nil e] at h; cases h
  | cons y l =>
    rw [least_pick e] at h
    have := shapes_mem (least_mem e)
    rw [Option.some.inj h] at this
    exact ⟨this.2.1, this.2.2.2⟩
end HF
namespace HF
open Vbsyae VbsyCore
theorem run_fewest {f : Field} : run f .fewest = (do
    let _ ← few f
    return (f, [(fewest f : Int)])) := rfl
theorem run_border {f : Field} : run f .bestOrder = (do
    let _ ← few f
    return (f, listRow (bestOrder f))) := rfl
theorem run_labels {f : Field} : run f .labels = (do
    let _ ← few f
    return (f, ((table f).size : Int) :: (table f).toList.map numOr)) := rfl
theorem run_between {f : Field} {a b : Int} : run f (.between a b) = (do
    let a ← ranged a 0 19
    if f.days.length ≤ a then .error (-5) else do
      let b ← ranged b 0 19
      if f.days.length ≤ b then .error (-5) else return (f, VbsyCore.ints [carry f a b, ((places f b).filter fun x => (places f a).contains x).length])) := rfl
theorem few_yes {f : Field} (h : f.days.length ≤ 7) : few f = .ok () := if_pos h
theorem few_no {f : Field} (h : ¬ f.days.length ≤ 7) : few f = .error (-9) := if_neg h
theorem res_fewest {f : Field} : res f .fewest = (f, if f.days.length ≤ 7 then [(fewest f : Int)] else [-9]) := by
  unfold res
  rw [run_fewest]
  by_cases h : f.days.length ≤ 7
  · rw [few_yes h, if_pos h]; rfl
  · rw [few_no h, if_neg h]; rfl
theorem res_border {f : Field} : res f .bestOrder = (f, if f.days.length ≤ 7 then listRow (bestOrder f) else [-9]) := by
  unfold res
  rw [run_border]
  by_cases h : f.days.length ≤ 7
  · rw [few_yes h, if_pos h]; rfl
  · rw [few_no h, if_neg h]; rfl
theorem res_labels {f : Field} : res f .labels = (f, if f.days.length ≤ 7 then (((List.range (2 ^ f.days.length)).flatMap (rowI f)).length : Int) :: (List.range (2 ^ f.days.length)).flatMap (rowI f) else [-9]) := by
  unfold res
  rw [run_labels]
  by_cases h : f.days.length ≤ 7
  · rw [few_yes h, if_pos h, ← labels_eq h, List.length_map, Array.length_toList]; rfl
  · rw [few_no h, if_neg h]; rfl
def dfault (f : Field) (d : Int) : List Int := if isBetween d 0 19 = false then [-3] else if f.days.length ≤ d.toNat then [-5] else []
theorem res_between {f : Field} {a b : Int} : res f (.between a b) = (f, match (dfault f a ++ dfault f b).take 1 with
    | [] => VbsyCore.ints [carry f a.toNat b.toNat, ((places f b.toNat).filter fun x => (places f a.toNat).contains x).length]
    | r => r) := by
  unfold res dfault
  rw [run_between]
  cases ha : isBetween a 0 19 with
  | false => rw [ranged_no ha]; rfl
  | true =>
    rw [ranged_yes ha, if_neg (by simp)]
    by_cases h1 : f.days.length ≤ a.toNat
    · rw [if_pos h1]
      show (match (if f.days.length ≤ a.toNat then (.error (-5) : Res (Field × Answer)) else _) with
          | .ok r => r
          | .error e => (f, [e])) = _
      rw [if_pos h1]
      rfl
    · rw [if_neg h1]
      show (match (if f.days.length ≤ a.toNat then (.error (-5) : Res (Field × Answer)) else (do
        let b ← ranged b 0 19
        if f.days.length ≤ b then .error (-5) else return (f, VbsyCore.ints [carry f a.toNat b, ((places f b).filter fun x => (places f a.toNat).contains x).length]))) with
          | .ok r => r
          | .error e => (f, [e])) = _
      rw [if_neg h1]
      cases hb : isBetween b 0 19 with
      | false => rw [ranged_no hb]; rfl
      | true =>
        rw [ranged_yes hb, if_neg (by simp)]
        by_cases h2 : f.days.length ≤ b.toNat
        · rw [if_pos h2]
          show (match (if f.days.length ≤ b.toNat then (.error (-5) : Res (Field × Answer)) else _) with
            | .ok r => r
            | .error e => (f, [e])) = _
          rw [if_pos h2]
          rfl
        · rw [if_neg h2]
          show (match (if f.days.length ≤ b.toNat then (.error (-5) : Res (Field × Answer)) else .ok (f, VbsyCore.ints [carry f a.toNat b.toNat, ((places f b.toNat).filter fun x => (places f a.toNat).contains x).length])) with
            | .ok r => r
            | .error e => (f, [e])) = _
          rw [if_neg h2]
          rfl
theorem back_lt {f : Field} : ∀ (k x d0 : Nat), d0 < f.days.length → ∀ e ∈ backFrom f (table f) k x d0, e < f.days.length := by
  intro k
  induction k with
  | zero => intro x d0 _ e he; cases he
  | succ k ih =>
    intro x d0 h0 e he
    rw [backFrom] at he
    split at he
    · rw [List.mem_singleton.mp he]; exact h0
    · split at he
      · rw [List.mem_singleton.mp he]; exact h0
      · rename_i e' he'
        rcases List.mem_cons.mp he with rfl | he
        · exact h0
        · refine ih _ _ ?_ e he
          have := List.mem_of_find?_eq_some he'
          exact List.mem_range.mp this
theorem order_lt {f : Field} : ∀ d ∈ bestOrder f, d < f.days.length := by
  intro d hd
  unfold bestOrder at hd
  simp only at hd
  split at hd
  · cases hd
  · rename_i d0 h0
    exact back_lt _ _ _ (List.mem_range.mp (List.mem_of_find?_eq_some h0)) d (List.mem_reverse.mp hd)
end HF
namespace HF
open Vbsyae VbsyCore
theorem back_len {f : Field} : ∀ (k x d0 : Nat), (backFrom f (table f) k x d0).length ≤ k
  | 0, _, _ => Nat.zero_le _
  | k + 1, x, d0 => by
    rw [backFrom]
    split
    · exact Nat.le_add_left 1 k
    · split
      · exact Nat.le_add_left 1 k
      · exact Nat.succ_le_succ (back_len k _ _)
theorem border_len0 (f : Field) : (bestOrder f).length ≤ f.days.length := by
  unfold bestOrder
  simp only
  split
  · exact Nat.zero_le _
  · rw [List.length_reverse]
    exact back_len _ _ _
theorem rounded_le (f : Field) (l : List Nat) : (rounded f l).1 ≤ f.rows ∧ (rounded f l).2 ≤ f.cols := by
  unfold rounded
  split
  · exact ⟨Nat.le_refl _, Nat.le_refl _⟩
  · have h1 := List.length_filter_le (fun r => (List.range f.cols).any fun k => l.contains (r * f.cols + k)) (List.range f.rows)
    have h2 := List.length_filter_le (fun k => (List.range f.rows).any fun r => l.contains (r * f.cols + k)) (List.range f.cols)
    rw [List.length_range] at h1 h2
    exact ⟨h1, h2⟩
theorem rounded_nil {f : Field} (g : Good f) : rounded f [] = (0, 0) := by
  have r1 := g.r1
  have c1 := g.c1
  have a1 : ∀ (n : Nat) (p : Nat → Bool), (∀ x, p x = false) → (List.range n).any p = false := fun n p h => by
    rw [List.any_eq_false]
    intro x _
    rw [h x]
    exact Bool.false_ne_true
  have a2 : ∀ (n : Nat) (p : Nat → Bool), 1 ≤ n → (∀ x, p x = false) → (List.range n).all p = false := fun n p hn h => by
    rw [List.all_eq_false]
    exact ⟨0, List.mem_range.mpr hn, by rw [h 0]; exact Bool.false_ne_true⟩
  have e1 : fullRow f [] = false := by
    unfold fullRow
    simp only [List.contains_nil]
    rw [a1 f.rows _ fun r => a2 f.cols _ c1 fun k => rfl]
    simp
  have e2 : fullCol f [] = false := by
    unfold fullCol
    simp only [List.contains_nil]
    rw [a1 f.cols _ fun r => a2 f.rows _ r1 fun k => rfl]
    simp
  unfold rounded
  rw [e1, e2, if_neg (by simp)]
  have f0 : ∀ (n : Nat) (p : Nat → Bool), (∀ x, p x = false) → ((List.range n).filter p).length = 0 := fun n p h => by
    rw [List.length_eq_zero_iff, List.filter_eq_nil_iff]
    intro x _
    rw [h x]
    exact Bool.false_ne_true
  simp only [List.contains_nil]
  rw [f0 f.rows _ fun r => a1 _ _ fun k => rfl, f0 f.cols _ fun r => a1 _ _ fun k => rfl]
end HF

/-! # Plain mathematics, 9: covered; VbsyCore.ints -/
namespace HF
open Vbsyae VbsyCore
theorem run_covered {f : Field} : run f .covered = match (List.range (cells f)).find? fun c => times f c != 1 with
    | none => .ok (f, [1])
    | some c => .ok (f, VbsyCore.ints [0, c, times f c]) := rfl
theorem res_covered {f : Field} : res f .covered = (f, match (List.range (cells f)).find? fun c => times f c != 1 with
    | none => [1]
    | some c => VbsyCore.ints [0, c, times f c]) := by
  unfold res
  rw [run_covered]
  cases (List.range (cells f)).find? fun c => times f c != 1 <;> rfl
theorem find_none {n : Nat} {p : Nat → Bool} (h : ∀ c, c < n → p c = false) : (List.range n).find? p = none := by
  rw [List.find?_eq_none]
  intro x hx
  rw [h x (List.mem_range.mp hx)]
  exact Bool.false_ne_true
theorem find_some {n i : Nat} {p : Nat → Bool} (hi : i < n) (h : ∀ c, c < i → p c = false) (hp : p i = true) : (List.range n).find? p = some i := by
  have e : List.range n = List.range i ++ i :: (List.range n).drop (i + 1) := by
    have h1 : (List.range n).take i = List.range i := by rw [List.take_range, Nat.min_eq_left (by omega)]
    have h2 : (List.range n).drop i = i :: (List.range n).drop (i + 1) := by
      rw [List.drop_eq_getElem_cons (by rw [List.length_range]; exact hi), List.getElem_range]
    rw [← h2, ← h1, List.take_append_drop]
  rw [e, List.find?_append, find_none h, List.find?_cons, hp]
  rfl
theorem rep_zero (n : Nat) : (List.replicate n [(0 : Int)]).flatten = (List.range n).map fun _ => (0 : Int) := by
  induction n with
  | zero => rfl
  | succ n ih =>
    rw [List.replicate_succ', List.flatten_append, ih, List.range_succ, List.map_append]
    rfl
theorem set_map {n c : Nat} {g g' : Nat → Int} (hc : c < n) (h1 : ∀ x, x ≠ c → g' x = g x) : ((List.range n).map g).set c (g' c) = (List.range n).map g' := by
  apply List.ext_getElem?
  intro i
  rw [List.getElem?_set, List.getElem?_map, List.getElem?_map, List.length_map, List.length_range]
  by_cases hi : c = i
  · subst hi
    rw [if_pos rfl, if_pos hc, List.getElem?_range hc]
    rfl
  · rw [if_neg hi]
    by_cases hn : i < n
    · rw [List.getElem?_range hn]
      show some (g i) = some (g' i)
      rw [h1 i (Ne.symm hi)]
    · rw [List.getElem?_eq_none (by rw [List.length_range]; omega)]
      rfl
theorem rising_nodup {l : List Nat} (h : Rising l) {j c : Nat} (hj : l[j]? = some c) : c ∉ l.take j := by
  intro hm
  obtain ⟨i, hi⟩ := List.mem_iff_getElem?.mp hm
  have hil : i < j := by
    have := (List.getElem?_eq_some_iff.mp hi).1
    rw [List.length_take] at this
    omega
  rw [List.getElem?_take_of_lt hil] at hi
  have := (List.pairwise_iff_getElem.mp h) i j (List.getElem?_eq_some_iff.mp hi).1 (List.getElem?_eq_some_iff.mp hj).1 hil
  rw [(List.getElem?_eq_some_iff.mp hi).2, (List.getElem?_eq_some_iff.mp hj).2] at this
  exact absurd this (Nat.lt_irrefl _)
end HF

/-! # Plain mathematics, 10: the list of calls -/
namespace HF
open Vbsyae VbsyCore
def rowCall (k : Int) (l : List Int) : Call := if k = 1 then .field l else if k = 2 then .look l else if k = 4 then .day l else if k = 7 then .cost l else if k = 8 then .sides l else if k = 13 then .rounded l else .order l
def numCall (k a b : Int) : Call := if k = 5 then .undo a else if k = 9 then .rect a b else if k = 10 then .best a else if k = 11 then .least a else .between a b
def aloneCall (k : Int) : Call := if k = 0 then .clear else if k = 3 then .text else if k = 6 then .told else if k = 12 then .curve else if k = 14 then .plan else if k = 15 then .covered else if k = 17 then .fewest else if k = 18 then .bestOrder else .labels
def isRow (k : Int) : Prop := k = 1 ∨ k = 2 ∨ k = 4 ∨ k = 7 ∨ k = 8 ∨ k = 13 ∨ k = 16
def isAlone (k : Int) : Prop := k = 0 ∨ k = 3 ∨ k = 6 ∨ k = 12 ∨ k = 14 ∨ k = 15 ∨ k = 17 ∨ k = 18 ∨ k = 19
def isOne (k : Int) : Prop := k = 5 ∨ k = 10 ∨ k = 11
def isTwo (k : Int) : Prop := k = 9 ∨ k = 20
theorem shape_cases {p : Int} {n k : Nat} (h : PyVbsyae.shape p = some (n, k)) : (isRow p ∧ n = 0 ∧ k = 1) ∨ (isOne p ∧ n = 1 ∧ k = 0) ∨ (isTwo p ∧ n = 2 ∧ k = 0) ∨ (isAlone p ∧ n = 0 ∧ k = 0) := by
  have hp : p = 0 ∨ p = 1 ∨ p = 2 ∨ p = 3 ∨ p = 4 ∨ p = 5 ∨ p = 6 ∨ p = 7 ∨ p = 8 ∨ p = 9 ∨ p = 10 ∨ p = 11 ∨ p = 12 ∨ p = 13 ∨ p = 14 ∨ p = 15 ∨ p = 16 ∨ p = 17 ∨ p = 18 ∨ p = 19 ∨ p = 20 := by
    by_cases hq : 0 ≤ p ∧ p ≤ 20
    · omega
    · unfold PyVbsyae.shape at h
      iterate 21 rw [if_neg (by omega)] at h
      cases h
  unfold isRow isOne isTwo isAlone
  rcases hp with rfl | rfl | rfl | rfl | rfl | rfl | rfl | rfl | rfl | rfl | rfl | rfl | rfl | rfl | rfl | rfl | rfl | rfl | rfl | rfl | rfl <;> (cases h; simp)
theorem row_step {f : Field} {k : Int} {l : List Int} (h : isRow k) : VbsyaeNeutral.step f (PyVbsyae.whole [[k], l]) = res f (rowCall k l) ∧ (VbsyaeNeutral.asked1 (PyVbsyae.whole [[k], l]) = true → l.length ≤ 2000) := by
  have q : VbsyaeNeutral.row l = true → l.length ≤ 2000 := fun h => by
    unfold VbsyaeNeutral.row at h
    rw [Bool.and_eq_true, decide_eq_true_eq] at h
    exact h.1
  rcases h with rfl | rfl | rfl | rfl | rfl | rfl | rfl <;> exact ⟨rfl, q⟩
theorem one_step {f : Field} {k a : Int} (h : isOne k) : VbsyaeNeutral.step f (PyVbsyae.whole [[k, a]]) = res f (numCall k a 0) := by
  rcases h with rfl | rfl | rfl <;> rfl
theorem two_step {f : Field} {k a b : Int} (h : isTwo k) : VbsyaeNeutral.step f (PyVbsyae.whole [[k, a, b]]) = res f (numCall k a b) := by
  rcases h with rfl | rfl <;> rfl
theorem alone_step {f : Field} {k : Int} (h : isAlone k) : VbsyaeNeutral.step f (PyVbsyae.whole [[k]]) = res f (aloneCall k) := by
  rcases h with rfl | rfl | rfl | rfl | rfl | rfl | rfl | rfl | rfl <;> rfl
/-- one call of the list -/
theorem calls_step {n : Nat} {l : List Int} {i : Nat} {cs : List (List (List Int))} (h : PyFlat.calls PyVbsyae.shape n (l.drop i) = some cs) (hi : i < l.length) : ∃ n' c cs', cs = c :: cs' ∧
    ((∃ m : Nat, isRow (l.getD i 0) ∧ l.getD (i + 1) 0 = (m : Int) ∧ i + 2 + m ≤ l.length ∧ c = [[l.getD i 0], (l.drop (i + 2)).take m] ∧ PyFlat.calls PyVbsyae.shape n' (l.drop (i + 2 + m)) = some cs') ∨
     (isOne (l.getD i 0) ∧ i + 2 ≤ l.length ∧ c = [[l.getD i 0, l.getD (i + 1) 0]] ∧ PyFlat.calls PyVbsyae.shape n' (l.drop (i + 2)) = some cs') ∨
     (isTwo (l.getD i 0) ∧ i + 3 ≤ l.length ∧ c = [[l.getD i 0, l.getD (i + 1) 0, l.getD (i + 2) 0]] ∧ PyFlat.calls PyVbsyae.shape n' (l.drop (i + 3)) = some cs') ∨
     (isAlone (l.getD i 0) ∧ c = [[l.getD i 0]] ∧ PyFlat.calls PyVbsyae.shape n' (l.drop (i + 1)) = some cs')) := by
  have at_ : ∀ j, j < l.length → l.drop j = l.getD j 0 :: l.drop (j + 1) := fun j hj => by
    rw [List.drop_eq_getElem_cons hj, List.getD_eq_getElem?_getD, List.getElem?_eq_getElem hj]
    rfl
  rw [at_ i hi] at h
  generalize l.getD i 0 = p at h ⊢
  cases n with
  | zero => cases h
  | succ n =>
    have h : (match PyFlat.call PyVbsyae.shape (p :: l.drop (i + 1)) with
      | none => none
      | some (c, t) => match PyFlat.calls PyVbsyae.shape n t with
        | none => none
        | some cs => some (c :: cs)) = some cs := h
    have hc : PyFlat.call PyVbsyae.shape (p :: l.drop (i + 1)) = match PyVbsyae.shape p with
      | none => none
      | some (n, k) => if (l.drop (i + 1)).length < n then none else match PyFlat.rows k ((l.drop (i + 1)).drop n) with
        | none => none
        | some (xs, t) => some ((p :: (l.drop (i + 1)).take n) :: xs, t) := rfl
    cases hs : PyVbsyae.shape p with
    | none =>
      rw [hs] at hc
      rw [hc] at h
      cases h
    | some nk =>
      obtain ⟨n0, k⟩ := nk
      rw [hs] at hc
      simp only at hc
      by_cases hl : (l.drop (i + 1)).length < n0
      · rw [if_pos hl] at hc
        rw [hc] at h
        cases h
      · rw [if_neg hl, List.drop_drop] at hc
        rw [List.length_drop] at hl
        rcases shape_cases hs with ⟨hk, rfl, rfl⟩ | ⟨hk, rfl, rfl⟩ | ⟨hk, rfl, rfl⟩ | ⟨hk, rfl, rfl⟩
        · -- a row
          have hr : PyFlat.rows 1 (l.drop (i + 1 + 0)) = match PyFlat.row (l.drop (i + 1)) with
            | none => none
            | some (x, s) => some ([x], s) := rfl
          rw [hr] at hc
          by_cases hi1 : i + 1 < l.length
          · rw [at_ (i + 1) hi1] at hc h
            have hrow : PyFlat.row (l.getD (i + 1) 0 :: l.drop (i + 1 + 1)) = if 0 ≤ l.getD (i + 1) 0 ∧ (l.getD (i + 1) 0).toNat ≤ (l.drop (i + 1 + 1)).length then some ((l.drop (i + 1 + 1)).take (l.getD (i + 1) 0).toNat, (l.drop (i + 1 + 1)).drop (l.getD (i + 1) 0).toNat) else none := rfl
            rw [hrow] at hc
            by_cases hm : 0 ≤ l.getD (i + 1) 0 ∧ (l.getD (i + 1) 0).toNat ≤ (l.drop (i + 1 + 1)).length
            · rw [if_pos hm] at hc
              simp only at hc
              rw [hc] at h
              simp only at h
              rw [List.drop_drop] at h
              rw [List.length_drop] at hm
              cases hr2 : PyFlat.calls PyVbsyae.shape n (l.drop (i + 1 + 1 + (l.getD (i + 1) 0).toNat)) with
              | none => rw [hr2] at h; cases h
              | some cs' =>
                rw [hr2] at h
                refine ⟨n, _, cs', (Option.some.inj h).symm, .inl ⟨(l.getD (i + 1) 0).toNat, hk, by omega, by omega, rfl, hr2⟩⟩
            · rw [if_neg hm] at hc
              rw [hc] at h
              cases h
          · rw [List.drop_eq_nil_of_le (by omega)] at hc
            rw [show PyFlat.row [] = none from rfl] at hc
            rw [List.drop_eq_nil_of_le (by omega)] at h
            rw [hc] at h
            cases h
        · have hr : PyFlat.rows 0 (l.drop (i + 1 + 1)) = some ([], l.drop (i + 1 + 1)) := rfl
          rw [hr] at hc
          simp only at hc
          rw [hc] at h
          simp only at h
          cases hr2 : PyFlat.calls PyVbsyae.shape n (l.drop (i + 1 + 1)) with
          | none => rw [hr2] at h; cases h
          | some cs' =>
            rw [hr2] at h
            refine ⟨n, _, cs', (Option.some.inj h).symm, .inr (.inl ⟨hk, by omega, ?_, hr2⟩)⟩
            rw [at_ (i + 1) (by omega)]
            rfl
        · have hr : PyFlat.rows 0 (l.drop (i + 1 + 2)) = some ([], l.drop (i + 1 + 2)) := rfl
          rw [hr] at hc
          simp only at hc
          rw [hc] at h
          simp only at h
          cases hr2 : PyFlat.calls PyVbsyae.shape n (l.drop (i + 1 + 2)) with
          | none => rw [hr2] at h; cases h
          | some cs' =>
            rw [hr2] at h
            refine ⟨n, _, cs', (Option.some.inj h).symm, .inr (.inr (.inl ⟨hk, by omega, ?_, hr2⟩))⟩
            rw [at_ (i + 1) (by omega), at_ (i + 1 + 1) (by omega)]
            rfl
        · have hr : PyFlat.rows 0 (l.drop (i + 1 + 0)) = some ([], l.drop (i + 1)) := rfl
          rw [hr] at hc
          simp only at hc
          rw [hc] at h
          simp only at h
          cases hr2 : PyFlat.calls PyVbsyae.shape n (l.drop (i + 1)) with
          | none => rw [hr2] at h; cases h
          | some cs' =>
            rw [hr2] at h
            exact ⟨n, _, cs', (Option.some.inj h).symm, .inr (.inr (.inr ⟨hk, rfl, hr2⟩))⟩
/-- what is asked of the list -/
theorem asked_facts {l : List Int} (h : PyVbsyae.answers_asked l = true) : ∃ raw, PyFlat.calls PyVbsyae.shape l.length l = some raw ∧ (∀ c ∈ raw, VbsyaeNeutral.asked1 (PyVbsyae.whole c) = true) ∧ PyVbsyae.answers l = PyFlat.told (PyFlat.played VbsyaeNeutral.step VbsyaeNeutral.start (raw.map PyVbsyae.whole)) ∧ (PyVbsyae.answers l).length ≤ 10000000 := by
  unfold PyVbsyae.answers_asked at h
  cases e : PyFlat.calls PyVbsyae.shape l.length l with
  | none => rw [e] at h; cases h
  | some raw =>
    rw [e] at h
    simp only [Bool.and_eq_true] at h
    obtain ⟨⟨_, h2⟩, h3⟩ := h
    refine ⟨raw, rfl, fun c hc => ?_, ?_, ?_⟩
    · unfold VbsyaeNeutral.asked at h2
      simp only [Bool.and_eq_true] at h2
      exact List.all_eq_true.mp h2.2.2 _ (List.mem_map.mpr ⟨c, hc, rfl⟩)
    · unfold PyVbsyae.answers PyVbsyae.calls
      rw [e]
    · unfold PyFlat.short at h3
      exact of_decide_eq_true h3
theorem calls_nil {n : Nat} {cs : List (List (List Int))} (h : PyFlat.calls PyVbsyae.shape n [] = some cs) : cs = [] := by
  cases n with
  | zero => exact (Option.some.inj h).symm
  | succ n => exact (Option.some.inj h).symm
end HF

/-! # Walk, base: what a def makes is forgotten at its end -/
namespace HW
open PySem PySem.Spec PyProof.Rows L2

/-- objects that lean on no tuples -/
def okH : HO → Bool
  | .dT _ => false
  | _ => true
def Pl (H : Hp) : Prop := ∀ a o, H a = some o → okH o = true
theorem Pl.upd {H : Hp} {a : Addr} {o : HO} (p : Pl H) (h : okH o = true) : Pl (upd H a o) := fun b u e => by
  by_cases hb : b = a
  · subst hb
    rw [upd_same] at e
    cases e
    exact h
  · rw [upd_ne hb] at e
    exact p b u e
section
variable {P : Program} {w : World} {K : PySem.W.Frag} {mg : Str → Option Value} {base : Heap} {H H2 H' : Hp} {h h' : Heap}
theorem obj_forgetZ {a : Addr} {o : HO} (h0 : ObjOk P w H h a o) (h1 : ObjOk P w H' h' a o) (e : h.get? a = h'.get? a) (s1 : Same H H2) : ObjOk P w H2 h' a o := by
  induction o with
  | lst xs => exact h1
  | tup xs => exact h1
  | dK kvs => exact h1
  | dT kvs =>
    obtain ⟨a1, a2, xs, b1, o, es, ep, c1, c2⟩ := h0
    refine ⟨a1, a2, xs, ?_, o, es, ep, e ▸ c1, c2⟩
    clear a1 c2 h1
    induction b1 with
    | nil => exact .nil
    | cons x y ih => exact .cons ⟨x.1, s1 _ _ x.2.1, x.2.2⟩ ih
  | set S n => exact h1
  | ins C dx fs =>
    obtain ⟨d, _⟩ := h0
    obtain ⟨_, r⟩ := h1
    exact ⟨s1 _ _ d, r⟩
  | own y => exact h1
  | xd fs => exact h1
  | rng lo hi => exact h1
  | frz ob u ih => exact ⟨h1.1, ih h0.2 h1.2⟩
  | tbl ps => exact h1
  | met f y => exact h1
  | ext φ => exact h1
theorem obj_forget {a : Addr} {o : HO} (h0 : ObjOk P w H h a o) (h1 : ObjOk P w H' h' a o) (p : okH o = true) (s1 : Same H H2) : ObjOk P w H2 h' a o := by
  induction o with
  | lst xs => exact h1
  | tup xs => exact h1
  | dK kvs => exact h1
  | dT kvs => cases p
  | set S n => exact h1
  | ins C dx fs =>
    obtain ⟨d, _⟩ := h0
    obtain ⟨_, r⟩ := h1
    exact ⟨s1 _ _ d, r⟩
  | own y => exact h1
  | xd fs => exact h1
  | rng lo hi => exact h1
  | frz ob u ih => exact obj_forgetZ h0 h1 (h0.1.trans h1.1.symm) s1
  | tbl ps => exact h1
  | met f y => exact h1
  | ext φ => exact h1
def isSeq : HO → Prop
  | .lst _ => True
  | .tup _ => True
  | _ => False
theorem same_new {p : Addr} {o : HO} (n : H p = none) : Same H (upd H p o) := fun a u e => by
  rw [upd_ne (ne_of_none e n)]
  exact e
theorem same_put {p : Addr} {o : HO} (s : Same H H') (e : H' p = some o) : Same (upd H p o) H' := fun a u q => by
  by_cases ha : a = p
  · subst ha
    rw [upd_same] at q
    cases q
    exact e
  · rw [upd_ne ha] at q
    exact s a u q
theorem hok_forget (h0 : HOk P w H h) (pl : Pl H) (h1 : HOk P w H' h') (s : Same H H') : HOk P w H h' := fun a o e =>
  obj_forget (h0 a o e) (h1 a o (s a o e)) (pl a o e) (Same.refl H)
theorem hok_forget1 (h0 : HOk P w H h) (pl : Pl H) (h1 : HOk P w H' h') (s : Same H H') {p : Addr} {o : HO} (n : H p = none) (e : H' p = some o) (z : isSeq o) : HOk P w (upd H p o) h' := fun a u q => by
  by_cases ha : a = p
  · subst ha
    rw [upd_same] at q
    cases q
    have k := h1 a o e
    cases o with
    | lst xs => exact k
    | tup xs => exact k
    | _ => exact z.elim
  · rw [upd_ne ha] at q
    exact obj_forget (h0 a u q) (h1 a u (s a u q)) (pl a u q) (same_new n)
theorem un_forget {fs ex : List Addr} (u : Un fs ex H H' h h') (s1 : Same H H2) (s2 : Same H2 H') : Un fs ex H H2 h h' where
  keep := u.keep
  slot := u.slot
  free := fun b o e n hx => by
    have z := u.free b o e n hx
    cases q : H2 b with
    | none => rfl
    | some v => rw [s2 b v q] at z; cases z
  there := u.there
  tups := fun b xs e => s1 b _ e
  frzs := fun b o v e => s1 b _ e
  tbls := fun b ps e => ⟨#[], by rw [s1 b _ e]; simp⟩
/-- the wish, what was made on the way forgotten -/
def Fg (H : Hp) (Q : VK) : VK := fun v H' => Same H H' ∧ (Q v H ∨ ∃ p o, H p = none ∧ H' p = some o ∧ isSeq o ∧ Q v (upd H p o))
theorem Fg.same {Q : VK} {v : V} (s : Same H H') (q : Q v H) : Fg H Q v H' := ⟨s, .inl q⟩
theorem Fg.lst {Q : VK} {v : V} {p : Addr} {xs : List V} (s : Same H H') (n : H p = none) (e : H' p = some (.lst xs)) (q : Q v (upd H p (.lst xs))) : Fg H Q v H' := ⟨s, .inr ⟨p, _, n, e, trivial, q⟩⟩
theorem Fg.tup {Q : VK} {v : V} {p : Addr} {xs : List V} (s : Same H H') (n : H p = none) (e : H' p = some (.tup xs)) (q : Q v (upd H p (.tup xs))) : Fg H Q v H' := ⟨s, .inr ⟨p, _, n, e, trivial, q⟩⟩
theorem Fg.ce {outer : List Env} {s : Shared} {Q : VK} {u : Value} {s' : Shared} (h0 : HOk P w H s.heap) (pl : Pl H) (h : CE outer P w H s (Fg H Q) u s') : CE outer P w H s Q u s' := by
  obtain ⟨v, H', os, bare, un, hok, r, sm, q | ⟨p, o, n, e, z, q⟩⟩ := h
  · exact ⟨v, H, os, bare, un_forget un (Same.refl H) sm, hok_forget h0 pl hok sm, r, q⟩
  · exact ⟨v, upd H p o, os, bare, un_forget un (same_new n) (same_put sm e), hok_forget1 h0 pl hok sm n e z, r, q⟩
/-- a promise over a plain heap -/
def Plain (sp : Sp) : Sp := fun vs H Q E => Pl H ∧ sp vs H Q E
/-- THE RULE for a def whose work is forgotten -/
theorem fun_okG {x qual : Str} {st : Stmt} {f : Addr} {fd : FuncData} {N ps : List Str} {k : Nat} {sp : Sp} (F : Fun K x qual st f fd) (S : FnScope N ps (defScope st)) (len : ∀ vs H Q E, sp vs H Q E → vs.length = ps.length)
    (hbody : ∀ (cdv : Value) (A : Around) (outer : List Env) (s : Shared) (H : Hp) (vs : List V) (Q : VK) (E : XK), Room k (A.deeper (envOfC qual (defScope st) s.heap.objs.size f cdv)) → Pl H → sp vs H Q E →
      ∃ t, PSs (cxOf CX0 P w K mg base N qual (defScope st) f cdv A outer s H E).nox (defBody st) t ∧ t { nx := fun _ H' => Fg H Q .non H', rt := Fg H Q } (start N vs) H) : FnOk P w K mg base CX0 (k + 1) f fd ps (Plain sp) := by
  have G : FnOk P w K mg base CX0 (k + 1) f fd ps (fun vs H Q1 E => ∃ Q, Pl H ∧ sp vs H Q E ∧ Q1 = Fg H Q) := by
    refine F.ok S (fun vs H Q1 E ⟨Q, _, h, _⟩ => len vs H Q E h) (fun cdv A outer s H vs Q1 E hr ⟨Q, pl, h, imp⟩ => ?_)
    subst imp
    exact hbody cdv A outer s H vs Q E hr pl h
  exact ⟨fun vs H Q E h => len vs H Q E h.2, fun A outer s H args us vs Q E hr he hb hv ⟨pl, hs⟩ => codeAny_mono (G.run A outer s H args us vs (Fg H Q) E hr he hb hv ⟨Q, pl, hs, rfl⟩) fun r s' q => by
    cases r with
    | error e => exact q
    | ok fl =>
      cases fl with
      | ret u => exact Fg.ce he.hok pl q
      | next => exact q
      | brk => exact q
      | cont => exact q⟩
end
end HW

/-! # Walk, base 2: calls by what stands in the text; short words -/
namespace HW
open PySem PySem.Spec PyProof.Rows L2
section
variable (P : Program) (w : World) (K : PySem.W.Frag) (mg : Str → Option Value) (base : Heap)
/-- a method of the class at C keeps a promise -/
def MOk (CX : CXT) (C : Addr) (m : Str) (k : Nat) (ps : List Str) (sp : Sp) : Prop := ∃ f fd, Meth K C m f ∧ FnOk P w K mg base CX k f fd ps sp ∧ Binds K fd ps []
/-- a def of the top -/
def FOk (CX : CXT) (x : Str) (k : Nat) (ps : List Str) (sp : Sp) : Prop := ∃ f fd, (mg x = some (.ref f) ∧ PySem.W.keepIn K (.ref f) = true) ∧ FnOk P w K mg base CX k f fd ps sp ∧ Binds K fd ps []
/-- a class is made -/
def COk (x : Str) (C : Addr) (k : Nat) (ps : List Str) (sp : Sp) : Prop := ∃ f fd, (Mk K C f ∧ mg x = some (.ref C)) ∧ FnOk P w K mg base CX0 k f fd ps sp ∧ Binds K fd ps []
end
section
variable {X : Cx} {k : Nat} {C : Addr} {ps : List Str} {sp : Sp} {E : XK} {x m : Str} {p pos apos : Pos} {e o : Expr} {es : List Expr} {ta : TE} {t : TA}
theorem pe_methM {pl : Sem Bool} (he : PE X o ta) (c : Cls X.K C) (M : MOk X.prog X.w X.K X.mg X.base CX0 C m k ps sp) (hr : Room k X.A) (ha : PA X (e :: es) t)
    (hst : starEach (e :: es) X.env = (false, eval e X.env) :: starEach es X.env := by rfl) (hpl : (backTo pos (starEach es X.env)).any (·.1) = false := by rfl)
    (ht : eval (.Call (.Attribute o m apos) (e :: es) [] pos) X.env = (do
      let ov ← eval o X.env
      standAt apos.atName
      let (f, first) ← holding [ov] (getMethod ov m pl)
      callWith pos f first (backTo pos (starEach (e :: es) X.env)) (backToKw pos (keywordEach [] X.env))) := by rfl) :
    PE X (.Call (.Attribute o m apos) (e :: es) [] pos) (tMeth C m sp [] E0 ta t) := by
  obtain ⟨f, fd, hm, F, b⟩ := M
  exact pe_meth he c hm F hr b .nil pass0 ha hst hpl ht
theorem pe_methM0 {pl : Sem Bool} (he : PE X o ta) (c : Cls X.K C) (M : MOk X.prog X.w X.K X.mg X.base CX0 C m k ps sp) (hr : Room k X.A)
    (ht : eval (.Call (.Attribute o m apos) [] [] pos) X.env = (do
      let ov ← eval o X.env
      standAt apos.atName
      let (f, first) ← holding [ov] (getMethod ov m pl)
      callWith pos f first (backTo pos (starEach [] X.env)) (backToKw pos (keywordEach [] X.env))) := by rfl) :
    PE X (.Call (.Attribute o m apos) [] [] pos) (tMeth C m sp [] E0 ta tNil) := by
  obtain ⟨f, fd, hm, F, b⟩ := M
  exact pe_meth0 he c hm F hr b .nil pass0 ht
theorem pe_callM (M : FOk X.prog X.w X.K X.mg X.base CX0 x k ps sp) (hr : Room k X.A) (hg : Gl X x) (ha : PA X (e :: es) t) (hdb : (x == ("__debug__" : Str)) = false := by decide)
    (he : starEach (e :: es) X.env = (false, eval e X.env) :: starEach es X.env := by rfl) (hpl : (backTo pos (starEach es X.env)).any (·.1) = false := by rfl) :
    PE X (.Call (.Name x p) (e :: es) [] pos) (tCall sp [] E0 t) := by
  obtain ⟨f, fd, ⟨hm, hk⟩, F, b⟩ := M
  exact pe_call F hr hg hm hk b .nil pass0 ha hdb he hpl
theorem pe_makeM (M : COk X.prog X.w X.K X.mg X.base x C k ps sp) (hr : Room (k + 1) X.A) (hg : Gl X x) (ha : PA X (e :: es) t) (hdb : (x == ("__debug__" : Str)) = false := by decide)
    (he : starEach (e :: es) X.env = (false, eval e X.env) :: starEach es X.env := by rfl) (hpl : (backTo pos (starEach es X.env)).any (·.1) = false := by rfl) :
    PE X (.Call (.Name x p) (e :: es) [] pos) (tMake C sp [] E0 t) := by
  obtain ⟨f, fd, ⟨M, hm⟩, F, b⟩ := M
  exact pe_make M F hr hg hm b .nil pass0 ha hdb he hpl
theorem pe_makeM0 (M : COk X.prog X.w X.K X.mg X.base x C k ps sp) (hr : Room (k + 1) X.A) (hg : Gl X x) (hdb : (x == ("__debug__" : Str)) = false := by decide) :
    PE X (.Call (.Name x p) [] [] pos) (tMake C sp [] E0 tNil) := by
  obtain ⟨f, fd, ⟨M, hm⟩, F, b⟩ := M
  exact pe_make0 M F hr hg hm b .nil pass0 hdb
/-- a module's whole number -/
theorem pe_gi {n : Int} (hg : Gl X x) (hm : ∃ t, X.mg x = some (.int n t)) (hd : (x == ("__debug__" : Str)) = false := by decide) : PE X (.Name x pos) (tC (.int n)) := by
  obtain ⟨t, hm⟩ := hm
  exact pe_glob hg hm ⟨t, rfl⟩ hd
/-- a module's tuple -/
theorem pe_gt {a : Addr} (hg : Gl X x) (hm : X.mg x = some (.ref a)) (hd : (x == ("__debug__" : Str)) = false := by decide) : PE X (.Name x pos) (tC (.ref a)) := pe_glob hg hm rfl hd
end

/-! ### short words for readings -/
abbrev rAddI : R2 := rI0 fun i j => .int (i + j)
abbrev rSubI : R2 := rI0 fun i j => .int (i - j)
abbrev rMulI : R2 := rI CMul fun i j => .int (i * j)
abbrev rDivI : R2 := rI CDiv fun i j => .int (i / j)
abbrev rModI : R2 := rI (fun _ j => 0 < j) fun i j => .int (i % j)
abbrev rShlI : R2 := rI CPow fun i j => .int (i * 2 ^ j.toNat)
abbrev rShrI : R2 := rI (fun _ j => 0 ≤ j) fun i j => .int (i / 2 ^ j.toNat)
abbrev rAndI : R2 := rI0 fun i j => .int (Builtin.bitAnd i j)
abbrev rLtI : R2 := rI0 fun i j => .bl (decide (i < j))
abbrev rLeI : R2 := rI0 fun i j => .bl (decide (i ≤ j))
abbrev rGtI : R2 := rI0 fun i j => .bl (decide (j < i))
abbrev rGeI : R2 := rI0 fun i j => .bl (decide (j ≤ i))
abbrev uNegI : V → Hp → VK → Prop := rU fun i => .int (-i)
abbrev cIntV : List V → Hp → VK → Prop := fun xs H Q => (∃ i, xs = [.int i] ∧ Q (.int i) H) ∨ ∃ k, xs = [.bl k] ∧ Q (.int (if k then 1 else 0)) H
abbrev cMin2 : List V → Hp → VK → Prop := fun xs H Q => ∃ i j, xs = [.int i, .int j] ∧ Q (.int (if j < i then j else i)) H
abbrev cLen (K : PySem.W.Frag) : List V → Hp → VK → Prop := fun xs H Q => ∃ p ys, xs = [.ref p] ∧ (SqL K H p ys ∨ SqT K H p ys) ∧ Q (.int ys.length) H
abbrev cList (K : PySem.W.Frag) : List V → Hp → VK → Prop := fun xs H Q => ∃ p ys, xs = [.ref p] ∧ (SqL K H p ys ∨ SqT K H p ys) ∧ ∀ l, H l = none → Q (.ref l) (upd H l (.lst ys))
abbrev cStr : List V → Hp → VK → Prop := fun xs H Q => ∃ i, xs = [.int i] ∧ i.natAbs.log2 < 1920 ∧ Q (.str (toString i)) H
abbrev cOrd : List V → Hp → VK → Prop := fun xs H Q => ∃ x, xs = [.str x] ∧ x.length = 1 ∧ Q (.int (x.cps.getD 0 0 : Nat)) H
abbrev rIsNo : R2 := fun x y H Q => y = .non ∧ Q (.bl (decide (x = .non))) H

/-! ### values that a reading gives, the heap as it was -/
section
variable {σ : L2.St} {H : Hp} {te ta tb tc : TE} {t : TA} {v x y z : V} {K : PySem.W.Frag} {C : Addr} {sp : Sp} {E : XK} {D : Ends} {i : Nat}
def ValA (t : TA) (σ : L2.St) (H : Hp) (vs : List V) : Prop := ∀ Q : List V → Hp → Prop, Q vs H → t σ H Q
theorem va_nil : ValA tNil σ H [] := fun _ q => q
theorem va_cons {vs : List V} (h : Val te σ H v) (h2 : ValA t σ H vs) : ValA (tCons te t) σ H (v :: vs) := fun Q q => h _ (h2 _ q)
theorem val_meth {m : Str} {a dx : Addr} {fs : List (Str × V)} {vs : List V} (h : Val ta σ H (.ref a)) (ho : H a = some (.ins C dx fs)) (hm : fs.lookup m = none) (h2 : ValA t σ H vs) (hs : ∀ Q : VK, Q z H → sp (.ref a :: vs) H Q E) :
    Val (tMeth C m sp [] E ta t) σ H z := fun Q q => h _ ⟨a, dx, fs, rfl, ho, hm, h2 _ (by
      rw [List.append_nil]
      exact hs Q q)⟩
theorem val_call {vs : List V} (h2 : ValA t σ H vs) (hs : ∀ Q : VK, Q z H → sp vs H Q E) : Val (tCall sp [] E t) σ H z := fun Q q => h2 _ (by
      rw [List.append_nil]
      exact hs Q q)
theorem val_cb {r : List V → Hp → VK → Prop} {vs : List V} (h2 : ValA t σ H vs) (hs : ∀ Q : VK, Q z H → r vs H Q) : Val (tCB r t) σ H z := fun Q q => h2 _ (hs Q q)
theorem val_not {b : Bool} (h : Val te σ H (.bl b)) : Val (tNotV te) σ H (.bl (!b)) := fun Q q => h _ ⟨b, rfl, q⟩
theorem val_and {a b : Bool} (h : Val ta σ H (.bl a)) (h2 : a = true → Val tb σ H (.bl b)) : Val (tAndV ta tb) σ H (.bl (a && b)) := fun Q q => h _ ⟨a, rfl, by
  cases a with
  | true => exact h2 rfl Q q
  | false => exact q⟩
theorem val_or {a b : Bool} (h : Val ta σ H (.bl a)) (h2 : a = false → Val tb σ H (.bl b)) : Val (tOrV ta tb) σ H (.bl (a || b)) := fun Q q => h _ ⟨a, rfl, by
  cases a with
  | true => exact q
  | false => exact h2 rfl Q q⟩
theorem val_is (h : Val te σ H v) (e : v = x) : Val te σ H x := e ▸ h
theorem val_add {i j : Int} (h : Val ta σ H (.int i)) (h2 : Val tb σ H (.int j)) : Val (tOp rAddI ta tb) σ H (.int (i + j)) := val_op h h2 fun Q q => ⟨i, j, rfl, rfl, q⟩
theorem val_sub {i j : Int} (h : Val ta σ H (.int i)) (h2 : Val tb σ H (.int j)) : Val (tOp rSubI ta tb) σ H (.int (i - j)) := val_op h h2 fun Q q => ⟨i, j, rfl, rfl, q⟩
theorem val_mul {i j : Int} (h : Val ta σ H (.int i)) (h2 : Val tb σ H (.int j)) (hc : CMul i j) : Val (tOp rMulI ta tb) σ H (.int (i * j)) := val_op h h2 fun Q q => ⟨i, j, rfl, rfl, hc, q⟩
theorem val_div {i j : Int} (h : Val ta σ H (.int i)) (h2 : Val tb σ H (.int j)) (hc : CDiv i j) : Val (tOp rDivI ta tb) σ H (.int (i / j)) := val_op h h2 fun Q q => ⟨i, j, rfl, rfl, hc, q⟩
theorem val_mod {i j : Int} (h : Val ta σ H (.int i)) (h2 : Val tb σ H (.int j)) (hc : 0 < j) : Val (tOp rModI ta tb) σ H (.int (i % j)) := val_op h h2 fun Q q => ⟨i, j, rfl, rfl, hc, q⟩
theorem val_cmp {g : Int → Int → Bool} {i j : Int} (h : Val ta σ H (.int i)) (h2 : Val tb σ H (.int j)) : Val (tOp (rI0 fun i j => .bl (g i j)) ta tb) σ H (.bl (g i j)) := val_op h h2 fun Q q => ⟨i, j, rfl, rfl, q⟩
theorem val_neg {i : Int} (h : Val ta σ H (.int i)) : Val (tUn uNegI ta) σ H (.int (-i)) := fun Q q => h _ ⟨i, rfl, q⟩
theorem val_eq (h : Val ta σ H x) (h2 : Val tb σ H y) (hs : scal x y = true) : Val (tOp rEq ta tb) σ H (.bl (decide (x = y))) := val_op h h2 fun Q q => ⟨hs, q⟩
theorem val_ixL {a : Addr} {xs : List V} {i : Int} (h : Val ta σ H (.ref a)) (h2 : Val tb σ H (.int i)) (hq : SqL K H a xs) (hv : atI xs i = some v) : Val (tOp (rIxL K) ta tb) σ H v := val_op h h2 fun Q q => ⟨a, xs, i, v, rfl, rfl, hq, hv, q⟩
theorem val_ixT {a : Addr} {xs : List V} {i : Int} (h : Val ta σ H (.ref a)) (h2 : Val tb σ H (.int i)) (hq : SqT K H a xs) (hv : atI xs i = some v) : Val (tOp (rIxT K) ta tb) σ H v := val_op h h2 fun Q q => ⟨a, xs, i, v, rfl, rfl, hq, hv, q⟩
theorem val_in {a : Addr} {xs : List V} (h : Val ta σ H x) (h2 : Val tb σ H (.ref a)) (hq : SqL K H a xs) (fx : flatV x = true) (fa : xs.all flatV = true) : Val (tOp (rIn K false) ta tb) σ H (.bl (inV x xs)) := val_op h h2 fun Q q => ⟨a, xs, rfl, .inl hq, fx, fa, q⟩
theorem val_inT {a : Addr} {xs : List V} (h : Val ta σ H x) (h2 : Val tb σ H (.ref a)) (hq : SqT K H a xs) (fx : flatV x = true) (fa : xs.all flatV = true) : Val (tOp (rIn K false) ta tb) σ H (.bl (inV x xs)) := val_op h h2 fun Q q => ⟨a, xs, rfl, .inr hq, fx, fa, q⟩
theorem val_ni {a : Addr} {xs : List V} (h : Val ta σ H x) (h2 : Val tb σ H (.ref a)) (hq : SqL K H a xs) (fx : flatV x = true) (fa : xs.all flatV = true) : Val (tOp (rIn K true) ta tb) σ H (.bl (!inV x xs)) := val_op h h2 fun Q q => ⟨a, xs, rfl, .inl hq, fx, fa, q⟩
theorem val_len {a : Addr} {xs : List V} (h : Val ta σ H (.ref a)) (hq : SqL K H a xs) : Val (tCB (cLen K) (tCons ta tNil)) σ H (.int (xs.length : Int)) := val_cb (va_cons h va_nil) fun Q q => ⟨a, xs, rfl, .inl hq, q⟩
theorem val_intB {b : Bool} (h : Val ta σ H (.bl b)) : Val (tCB cIntV (tCons ta tNil)) σ H (.int (if b then 1 else 0)) := val_cb (va_cons h va_nil) fun Q q => .inr ⟨b, rfl, q⟩
theorem val_min2 {i j : Int} (h : Val ta σ H (.int i)) (h2 : Val tb σ H (.int j)) : Val (tCB cMin2 (tCons ta (tCons tb tNil))) σ H (.int (if j < i then j else i)) := val_cb (va_cons h (va_cons h2 va_nil)) fun Q q => ⟨i, j, rfl, q⟩
/-! tests -/
variable {tt tu : TT} {b c : Bool}
theorem an_test (h : Val te σ H (.bl b)) : Ans (tTest te) σ H b := fun Q q => h _ ⟨b, rfl, q⟩
theorem an_B (h : Val te σ H (.bl b)) : Ans (tB te) σ H b := fun Q q => h _ ⟨b, rfl, q⟩
theorem an_and (h : Ans tt σ H b) (h2 : b = true → Ans tu σ H c) : Ans (tAnd tt tu) σ H (b && c) := fun Q q => h _ (by
  cases b with
  | true => exact h2 rfl Q q
  | false => exact q)
theorem an_or (h : Ans tt σ H b) (h2 : b = false → Ans tu σ H c) : Ans (tOr tt tu) σ H (b || c) := fun Q q => h _ (by
  cases b with
  | true => exact q
  | false => exact h2 rfl Q q)
theorem an_not (h : Ans tt σ H b) : Ans (tNot tt) σ H (!b) := fun Q q => h _ q
/-! statements -/
variable {t1 t2 t3 : TS}
theorem q_set (h : Val te σ H v) (k : t2 D (σ.set i (some v)) H) : tSeq (tAsg te (gName i)) t2 D σ H := h _ k
theorem q_drop (h : Val te σ H v) (k : t2 D σ H) : tSeq (tDrop te) t2 D σ H := h _ k
theorem q_if (h : Ans tt σ H b) (h1 : b = true → t1 { D with nx := t3 D } σ H) (h2 : b = false → t2 { D with nx := t3 D } σ H) : tSeq (tIfS tt t1 t2) t3 D σ H := h _ (by
  cases b with
  | true => exact h1 rfl
  | false => exact h2 rfl)
theorem s_if (h : Ans tt σ H b) (h1 : b = true → t1 D σ H) (h2 : b = false → t2 D σ H) : tIfS tt t1 t2 D σ H := h _ (by
  cases b with
  | true => exact h1 rfl
  | false => exact h2 rfl)
theorem s_ret (h : Val te σ H v) (k : D.rt v H) : tRet te D σ H := h _ k
theorem s_set (h : Val te σ H v) (k : D.nx (σ.set i (some v)) H) : tAsg te (gName i) D σ H := h _ k
/-! new lists -/
def New (te : TE) (σ : L2.St) (H : Hp) (xs : List V) : Prop := ∀ Q : VK, (∀ p, H p = none → Q (.ref p) (upd H p (.lst xs))) → te σ H Q
def NewT (te : TE) (σ : L2.St) (H : Hp) (xs : List V) : Prop := ∀ Q : VK, (∀ p, H p = none → Q (.ref p) (upd H p (.tup xs))) → te σ H Q
theorem nw_lst {vs : List V} (h : ValA t σ H vs) (hl : vs.length ≤ 100000) : New (tLst t) σ H vs := fun Q q => h _ ⟨Evl.sz_of hl, q⟩
theorem nw_tup {vs : List V} (h : ValA t σ H vs) (hl : vs.length ≤ 100000) : NewT (tTup t) σ H vs := fun Q q => h _ ⟨Evl.sz_of hl, q⟩
theorem nw_meth {m : Str} {a dx : Addr} {fs : List (Str × V)} {vs xs : List V} (h : Val ta σ H (.ref a)) (ho : H a = some (.ins C dx fs)) (hm : fs.lookup m = none) (h2 : ValA t σ H vs) (hs : ∀ Q : VK, (∀ p, H p = none → Q (.ref p) (upd H p (.lst xs))) → sp (.ref a :: vs) H Q E) :
    New (tMeth C m sp [] E ta t) σ H xs := fun Q q => h _ ⟨a, dx, fs, rfl, ho, hm, h2 _ (by
      rw [List.append_nil]
      exact hs Q q)⟩
theorem nw_call {vs xs : List V} (h2 : ValA t σ H vs) (hs : ∀ Q : VK, (∀ p, H p = none → Q (.ref p) (upd H p (.lst xs))) → sp vs H Q E) : New (tCall sp [] E t) σ H xs := fun Q q => h2 _ (by
      rw [List.append_nil]
      exact hs Q q)
theorem nw_is {xs ys : List V} (h : New te σ H xs) (e : xs = ys) : New te σ H ys := e ▸ h
theorem q_setN {xs : List V} (h : New te σ H xs) (k : ∀ p, H p = none → t2 D (σ.set i (some (.ref p))) (upd H p (.lst xs))) : tSeq (tAsg te (gName i)) t2 D σ H := h _ k
theorem q_setT {xs : List V} (h : NewT te σ H xs) (k : ∀ p, H p = none → t2 D (σ.set i (some (.ref p))) (upd H p (.tup xs))) : tSeq (tAsg te (gName i)) t2 D σ H := h _ k
theorem s_retN {xs : List V} (h : New te σ H xs) (k : ∀ p, H p = none → D.rt (.ref p) (upd H p (.lst xs))) : tRet te D σ H := h _ k
end
end HW

/-! # Walk: the error with a place (turned from the worked proof of an own error with a field) -/
namespace PySem
namespace FltX
open PySem.W PySem.Calls PyProof.Rows PySem.HandSPX
/-! ### the text of __init__ -/
def iA (p1 p2 : Pos) : Arguments := { posonlyargs := [], args := [{ arg := "self", annotation := none, pos := p1 }, { arg := "place", annotation := none, pos := p2 }], vararg := none, kwonlyargs := [], kw_defaults := [], kwarg := none, defaults := [] }
def iB (q1 q2 q3 q4 : Pos) : List Stmt := [.Assign [.Attribute (.Name "self" q1) "place" q2] (.Name "place" q3) q4]
def iS : Scope := { kind := .function, names := [(PySem.Str.ofString "self", .local), (PySem.Str.ofString "place", .local)], isGenerator := false, isCoroutine := false, more := [] }
/-- what the written part says of Fault, at C, and of its __init__, at fI -/
structure FaultTxt (K : Frag) (mg : Str → Option Value) (C fI : Addr) : Prop where
  gC : mg "Fault" = some (.ref C)
  cls : ∃ nm q N bs bm sn sub ab col dd k0 k1 k2 k3 k5, K.lookup C = some (excClassObj nm q C N bs bm true sn sub ab col dd k0 k1 k2 k3 k5 "ValueError.__new__") ∧ refsVE bm = true
  sa : findIn K (.ref C) "__setattr__" = some (some (.builtin "object.__setattr__"))
  ga : findIn K (.ref C) "__getattribute__" = some (some (.builtin "BaseException.__getattribute__"))
  gg : findIn K (.ref C) "__getattr__" = some none
  noN : findIn K (.ref C) "place" = some none
  iC : findIn K (.ref C) "__init__" = some (some (.ref fI))
  tC : typeIn K (.ref fI) = some (.type "function")
  kC : keepIn K (.ref C) = true
  exC : subIn K (.ref C) (.type "BaseException") = some true
  tyC : typeIn K (.ref C) = some (.type "type")
  hdC : hasDictIn K C = true
  te : exmOne K (.ref C) (.ref C) = some true
  fn : ∃ (oc : Value) (od : Option Addr) (doc pm : Value) (an : Option Addr) (cdv ct : Value) (osl : Array (Option Value)) (p1 p2 q1 q2 q3 q4 : Pos),
    K.lookup fI = some ⟨oc, od, .func (fnOf "__init__" "Fault.__init__" (iA p1 p2) (iB q1 q2 q3 q4) iS .none .none doc pm an cdv ct), osl⟩ ∧ codeIn K cdv "Fault.__init__" = true
theorem one_size (v : Value) : [v].length ≤ sizeLine := by
  rw [sizeLine_eq]
  exact (by decide : 1 ≤ 16777216)
theorem kept_but {K : Frag} {h h' : Heap} {x : Addr} (X : K.In h) (hx : K.lookup x = none) (k : ∀ b o, b ≠ x → h.get? b = some o → h'.get? b = some o) : K.In h' := fun a o e =>
  k a o (fun z => by rw [z, hx] at e; cases e) (X a o e)
theorem ldC {M : Model} {s : Shared} {name : Str} {scope : Scope} {L a : Addr} {cd : Value} {m : Str → Option Value} {x : Str} {pos : Pos} {v : Value} {Q : Value → Shared → Prop} {A : Around} {E : Value → Shared → Prop} (hn : s.heap.Ns L m) (hv : m x = some v) (h : Q v s)
    (hk : scope.kind = .function := by rfl) (hl : (envOfC name scope L a cd).kindOf x = some .local := by rfl) (hd : (x == ("__debug__" : Str)) = false := by decide) :
    wpAny M A (eval (.Name x pos) (envOfC name scope L a cd)) Q E s := wpAny_Name (wpAny_loadName_local hk hl hn hv h) hd
/-- what __init__ leaves of a fresh exception at x -/
structure InitEnd (h h' : Heap) (x C dx t1 : Addr) (v : Value) : Prop where
  keep : ∀ b o, b ≠ x → h.get? b = some o → h'.get? b = some o
  obj : h'.get? x = some { cls := .ref C, dict := some dx, data := .fields #[.ref t1, .none, .none, .none, .bool false, .none] }
  dbig : h.objs.size ≤ dx
  dne : dx ≠ x
  ns : h'.Ns1 dx (fun y => if y = "place" then some v else none)
/-- a made Fault -/
structure OwnMade (h h' : Heap) (e C d : Addr) (v : Value) : Prop where
  keep : ∀ b o, h.get? b = some o → h'.get? b = some o
  new : h.objs.size ≤ e
  obj : ∃ oe vs, h'.get? e = some oe ∧ oe.cls = .ref C ∧ oe.dict = some d ∧ oe.data = .fields vs ∧ vs[1]? = some .none
  dbig : h.objs.size ≤ d
  dne : d ≠ e
  ns : h'.Ns1 d (fun y => if y = "place" then some v else none)
section
variable {prog : Program} {w : World} {A : Around} {E : Value → Shared → Prop} {R : Result → Shared → Prop} {s : Shared} {K : Frag} {mg : Str → Option Value} {C fI : Addr}
theorem flt_init (T : FaultTxt K mg C fI) {x t0 : Addr} {v : Value} (X : K.In s.heap) (hlim : s.heap.NoLimit) (hx : s.heap.get? x = some (excO C t0)) (hnx : K.lookup x = none) (hroom : A.depth < recursionLimit)
    (hq : ∀ h' tk dx, InitEnd s.heap h' x C dx t0 v → R (.ok (.ret .none)) { s with heap := h', toks := tk }) :
    codeAny (model prog w) A (.call (.ref fI) ⟨[.ref x, v], []⟩) R s := by
  obtain ⟨oc, od, doc, pm, an, cdv, ct, osl, p1, p2, q1, q2, q3, q4, ho, hcd⟩ := T.fn
  obtain ⟨nm, q, N, bs, bm, sn, sub, ab, col, dd, k0, k1, k2, k3, k5, hC, hbm⟩ := T.cls
  have hcl : clsIn K C = some { name := nm, bases := bs, mro := .ref C :: bm, ns := N, qualname := q, hasDict := true, slotNames := sn, subclasses := sub, abstract := ab, collection := col, hasDel := false } := by unfold clsIn; rw [hC] <;> rfl
  refine Att.call_fn (binds := [("self", .ref x), ("place", v)]) X hlim ho hcd hroom (BindsTo.of_eq (by first | rfl | with_unfolding_all rfl)) (by first | rfl | decide | with_unfolding_all rfl) (fun s₁ IC => ?_) rfl rfl rfl
  obtain ⟨h₁, tk₁, rfl⟩ := IC.toInCall.same
  have k : ∀ b o, s.heap.get? b = some o → h₁.get? b = some o := IC.toInCall.keep
  have hn := IC.toInCall.ns
  have hxL : s.heap.objs.size ≠ x := Nat.ne_of_gt (Heap.lt_size hx)
  have X₁ : K.In h₁ := X.keeps k
  have hx₁ := k _ _ hx
  -- self.by = by
  show wpAny _ _ (execs _ _) _ _ _
  refine wpAny_execs_cons (plainObj_wpAny_Assign_Attribute ?_)
  refine ldC (v := v) hn (by first | rfl | with_unfolding_all rfl | kernel_rfl) (ldC (v := .ref x) hn (by first | rfl | with_unfolding_all rfl | kernel_rfl) ?_)
  refine set_plain X₁ (ox := excO C t0) (od := none) ⟨hx₁, rfl, rfl, trivial⟩ T.sa ?_
  refine exc_osa X₁ hx₁ hcl (show refsVE (.ref C :: bm) = true from hbm) rfl T.noN (fun h₃ tk₃ dx k₃ dn dne hx₃ hn₃ => ?_)
  show wpAny _ _ (execs _ _) _ _ _
  have z : s.heap.objs.size < h₁.objs.size := hn.lt
  exact wpAny_execs_nil (hq h₃ tk₃ dx ⟨fun b o hb e => k₃ b o hb (k b o e), hx₃, Nat.le_of_lt (Nat.lt_of_lt_of_le z dn), dne, hn₃⟩)
theorem flt_made (T : FaultTxt K mg C fI) {v : Value} (X : K.In s.heap) (hlim : s.heap.NoLimit) (hroom : A.depth + 1 < recursionLimit)
    (hq : ∀ h' tk e d, OwnMade s.heap h' e C d v → R (.ok (.ret (.ref e))) { s with heap := h', toks := tk }) :
    codeAny (model prog w) A (.call (.ref C) ⟨[v], []⟩) R s := by
  obtain ⟨nm, q, N, bs, bm, sn, sub, ab, col, dd, k0, k1, k2, k3, k5, hC, hbm⟩ := T.cls
  obtain ⟨hp, g, dr, tk, os⟩ := s
  have k : ∀ b o, hp.get? b = some o → ((hp.push (kdv_tup [v])).push (excO C hp.objs.size)).get? b = some o := fun b o e => Heap.get?_push_of_some _ (Heap.get?_push_of_some _ e)
  have hget : ((hp.push (kdv_tup [v])).push (excO C hp.objs.size)).get? (hp.objs.size + 1) = some (excO C hp.objs.size) := by heap_get
  have hnx : K.lookup (hp.objs.size + 1) = none := by
    cases e : K.lookup (hp.objs.size + 1) with
    | none => rfl
    | some o =>
      have z : hp.get? (hp.objs.size + 1) = some o := X _ _ e
      exact absurd (Nat.lt_of_succ_lt (Heap.lt_size z)) (Nat.lt_irrefl _)
  refine call_own F.excBase_ValueError (fun X => refsVE_contains X bm hbm) (X _ _ hC) (looks_findIn X T.iC) (fun self => bind_fn X self T.tC) (one_size v) ?_
  refine flt_init (s := ⟨(hp.push (kdv_tup [v])).push (excO C hp.objs.size), g, dr, tk, os⟩) T (X.keeps k) (hlim.keeps k) hget hnx ?_ fun h' tk' dx ⟨k', hx, dn, dne, hns⟩ => ?_
  · show A.depth + 1 < recursionLimit
    exact hroom
  · have old : ∀ b o, hp.get? b = some o → h'.get? b = some o := fun b o e => k' b o (Nat.ne_of_lt (Nat.lt_succ_of_lt (Heap.lt_size e))) (k b o e)
    have z : hp.objs.size + 1 + 1 ≤ dx := by
      first
        | (simpa only [Heap.size_push] using dn)
        | exact dn
        | (have q := dn; rw [Heap.size_push, Heap.size_push] at q; exact q)
    exact ⟨rfl, hq h' tk' (hp.objs.size + 1) dx ⟨old, Nat.le_succ _, ⟨_, _, hx, rfl, rfl, rfl, rfl⟩, Nat.le_trans (Nat.le_trans (Nat.le_succ _) (Nat.le_succ _)) z, dne, hns⟩⟩
end
end FltX
end PySem
namespace L2
open PySem PySem.Spec PyProof.Rows
theorem relO_fault {v : V} {v' : Value} (r : RelV v v') (f : Str) : RelO (List.lookup f [(("place" : Str), v)]) (if f = "place" then some v' else none) := by
  by_cases hw : f = "place"
  · subst hw
    rw [if_pos rfl]
    have q : List.lookup ("place" : Str) [(("place" : Str), v)] = some v := by simp [List.lookup]
    rw [q]
    exact r
  · rw [if_neg hw]
    have qw : (f == ("place" : Str)) = false := by simpa using hw
    have q2 : List.lookup f [(("place" : Str), v)] = none := by simp [List.lookup, qw]
    rw [q2]
    trivial
section
variable {X : Cx} {C fI : Addr}
/-- Fault(e) -/
def tMkFault (C : Addr) (ta : TA) : St → Hp → XK → Prop := fun σ H Q => ta σ H fun vs H1 => ∃ v, vs = [v] ∧ ∀ d, H1 d = none → Q (.ref C) (some d) (upd H1 d (.xd [(("place" : Str), v)]))
theorem pmk_fault {a : Expr} {ta : TA} {p pos : Pos} {k : Nat} (T : PySem.FltX.FaultTxt X.K X.mg C fI) (hr : Room k X.A) (ha : PA X [a] ta) (hg : Gl X "Fault" := by rfl)
    (he : starEach (a :: []) X.env = (false, eval a X.env) :: starEach [] X.env := by rfl) (hpl : (backTo pos (starEach [] X.env)).any (·.1) = false := by rfl) :
    PMk X (.Call (.Name "Fault" p) [a] [] pos) (tMkFault C ta) := by
  intro pins s σ H Q I h
  refine wpAny_Call_Name_kw (ld_glob I hg T.gC ?_)
  refine PySem.W.callWith_K (h₀ := X.base) I.ok.mod.kin T.kC (thn (ha.run pos pins s σ H _ I h) fun us s1 hh => ?_) he hpl
  obtain ⟨vs, H1, I1, r1, v, ev, q1⟩ := hh
  subst ev
  refine ⟨I1.kIn, ?_⟩
  cases r1 with
  | cons rv rn =>
    rename_i v' us'
    cases rn
    show wpAny _ _ (call (.ref C) [v']) _ _ _
    have hlim := I1.nolimit
    obtain ⟨hp, g, dr, tk, os⟩ := s1
    refine wpAny_call (PySem.FltX.flt_made T I1.kIn hlim (by have := hr.dp; omega) fun h' tk' e d M => ?_)
    show MkP X pins σ Q (.ref e) ⟨h', g, dr, tk', os⟩
    obtain ⟨oe, fv, hoe, hc, hd, hdat, h1⟩ := M.obj
    have hns := M.ns
    obtain ⟨G', g1, g2⟩ := restrict h' fun b => decide (b ≠ e)
    have gk : ∀ b, b ≠ e → G'.get? b = h'.get? b := fun b hb => g1 b (decide_eq_true hb)
    have ge : G'.get? e = none := g2 e (by simp)
    have old : ∀ b o, hp.get? b = some o → G'.get? b = some o := fun b o q => (gk b (Nat.ne_of_lt (Nat.lt_of_lt_of_le (Heap.lt_size q) M.new))).trans (M.keep b o q)
    have ob : ObjOk X.prog X.w (upd H1 d (.xd [(("place" : Str), v)])) G' d (.xd [(("place" : Str), v)]) :=
      ⟨_, hns.at (fun o q => (gk d M.dne).trans q), fun f => relO_fault rv f⟩
    have J : Inv X pins σ (upd H1 d (.xd [(("place" : Str), v)])) ⟨G', g, dr, tk', os⟩ := I1.laid (t' := tk') old M.dbig ob
    refine ⟨e, oe, fv, ⟨G', g, dr, tk', os⟩, _, .ref C, some d, rfl, J, fun b o q => ?_, ge, hoe, ⟨hc, hd⟩, hdat, h1, ?_, rfl, I1.bare, raises_own T.exC T.tyC, q1 d (I1.hok.fresh M.dbig)⟩
    · by_cases hb : b = e
      · have q' : G'.get? b = some o := q
        rw [hb, ge] at q'; cases q'
      · exact (gk b hb).symm.trans q
    · rw [upd_ne (Ne.symm M.dne)]
      exact I1.hok.fresh M.new
/-- raise Fault(e) -/
def tRaiseFault (C : Addr) (W : WX) (ta : TA) : TS := fun _ σ H => tMkFault C ta σ H fun cls d H' => W cls d σ H'
theorem ps_raiseFault {a : Expr} {ta : TA} {W : WX} {p pos pos2 : Pos} {k : Nat} (hc : X.calm = true) (T : PySem.FltX.FaultTxt X.K X.mg C fI) (hr : Room k X.A) (tk : Takes X W) (ha : PA X [a] ta) (hg : Gl X "Fault" := by rfl)
    (he : starEach (a :: []) X.env = (false, eval a X.env) :: starEach [] X.env := by rfl) (hpl : (backTo pos (starEach [] X.env)).any (·.1) = false := by rfl) :
    PS X (.Raise (some (.Call (.Name "Fault" p) [a] [] pos)) none pos2) (tRaiseFault C W ta) := ps_raise hc tk (pmk_fault T hr ha hg he hpl)
/-- fault.place, fault the exception that the suite holds (at a; its class cls, its dict d) -/
def tPlace (C : Addr) (a : Addr) (cls : Value) (d : Option Addr) (te : TE) : TE := fun σ H Q => te σ H fun x H1 => x = .ref a ∧ cls = .ref C ∧ ∃ (dd : Addr) (v : V), d = some dd ∧ H1 dd = some (.xd [(("place" : Str), v)]) ∧ Q v H1
theorem pe_place {a : Addr} {oe : Obj} {cls : Value} {d : Option Addr} {pn : List (Addr × Obj)} {e : Expr} {te : TE} {pos : Pos} (T : PySem.FltX.FaultTxt X.K X.mg C fI) (hz : Zc cls d oe) (hf : ∃ vs, oe.data = .fields vs) (he : PE (X.suite a ((a, oe) :: pn)) e te)
    (hb : attributeBase e "place" X.env (eval e X.env) = eval e X.env := by rfl) :
    PE (X.suite a ((a, oe) :: pn)) (.Attribute e "place" pos) (tPlace C a cls d te) := by
  refine ⟨fun pins s σ H Q I h => ?_⟩
  refine attr_of hb (thn (he.run pins s σ H _ I h) fun u s1 hh => ?_)
  obtain ⟨x, H1, I1, rx, ex, ec, dd, v, ed, ea, q⟩ := hh
  subst ex
  obtain rfl : u = Value.ref a := rx
  subst ec
  subst ed
  obtain ⟨ha, _⟩ := I1.pin (a, oe) (List.mem_append_left _ List.mem_cons_self)
  obtain ⟨vs, hd⟩ := hf
  have hx : ObjOk X.prog X.w H1 s1.heap dd (.xd [(("place" : Str), v)]) := I1.hok dd _ ea
  obtain ⟨mA, hns, hr⟩ := hx
  obtain ⟨od, ho, hl⟩ := lookIn_ns hns
  have l : List.lookup ("place" : Str) [(("place" : Str), v)] = some v := by simp [List.lookup]
  obtain ⟨u, hu, ru⟩ := RelO.some_of (v := v) (o := mA "place") (by rw [← l]; exact hr "place")
  have J : PySem.W.InstAt s1.heap a oe C (some od) := ⟨ha, hz.1, by unfold PySem.W.notCls; rw [hd] <;> rfl, by rw [hz.2]; exact ho⟩
  exact HandSPX.exc_get I1.kIn J T.ga T.gg T.exC (PySem.W.findObj_own T.hdC T.noN rfl (by rw [hl, hu])) (handed_of ru) ⟨v, H1, I1.tok _, ru, q⟩
end
end L2


namespace HW
abbrev FaultTxt := PySem.FltX.FaultTxt
end HW


/-! # Walk: what stands in the text (printed by gen.py) -/
namespace HW
open PySem PySem.Spec PyProof.Rows L2
def top (i : Nat) : Stmt := PySem.Challenge.pw_hurdlefolds_s01_answers.main.body.getD i (.Pass ⟨0, 0, 0, 0⟩)
abbrev s_Day_init : Stmt := inClass (top 9) 0
abbrev N_Day_init : List Str := ["self", "row", "column", "high", "wide"]
theorem sc_Day_init : FnScope N_Day_init ["self", "row", "column", "high", "wide"] (defScope s_Day_init) := ⟨rfl, rfl, rfl, by decide +kernel, rfl, by decide +kernel, by decide +kernel⟩
abbrev s_Day_cells_in : Stmt := inClass (top 9) 1
abbrev N_Day_cells_in : List Str := ["self", "field", "found", "row", "column"]
theorem sc_Day_cells_in : FnScope N_Day_cells_in ["self", "field"] (defScope s_Day_cells_in) := ⟨rfl, rfl, rfl, by decide +kernel, rfl, by decide +kernel, by decide +kernel⟩
abbrev s_Field_init : Stmt := inClass (top 10) 0
abbrev N_Field_init : List Str := ["self", "rows", "columns", "walled"]
theorem sc_Field_init : FnScope N_Field_init ["self", "rows", "columns", "walled"] (defScope s_Field_init) := ⟨rfl, rfl, rfl, by decide +kernel, rfl, by decide +kernel, by decide +kernel⟩
abbrev s_Field_count : Stmt := inClass (top 10) 1
abbrev N_Field_count : List Str := ["self"]
theorem sc_Field_count : FnScope N_Field_count ["self"] (defScope s_Field_count) := ⟨rfl, rfl, rfl, by decide +kernel, rfl, by decide +kernel, by decide +kernel⟩
abbrev s_Field_beyond : Stmt := inClass (top 10) 2
abbrev N_Field_beyond : List Str := ["self", "cell", "side", "row", "column"]
theorem sc_Field_beyond : FnScope N_Field_beyond ["self", "cell", "side"] (defScope s_Field_beyond) := ⟨rfl, rfl, rfl, by decide +kernel, rfl, by decide +kernel, by decide +kernel⟩
abbrev s_Field_needs_hurdle : Stmt := inClass (top 10) 3
abbrev N_Field_needs_hurdle : List Str := ["self", "cells", "cell", "side", "other"]
theorem sc_Field_needs_hurdle : FnScope N_Field_needs_hurdle ["self", "cells", "cell", "side"] (defScope s_Field_needs_hurdle) := ⟨rfl, rfl, rfl, by decide +kernel, rfl, by decide +kernel, by decide +kernel⟩
abbrev s_Field_hurdles : Stmt := inClass (top 10) 4
abbrev N_Field_hurdles : List Str := ["self", "cells", "found", "cell", "side"]
theorem sc_Field_hurdles : FnScope N_Field_hurdles ["self", "cells"] (defScope s_Field_hurdles) := ⟨rfl, rfl, rfl, by decide +kernel, rfl, by decide +kernel, by decide +kernel⟩
abbrev s_Field_place_of : Stmt := inClass (top 10) 5
abbrev N_Field_place_of : List Str := ["self", "cell", "side", "row", "column"]
theorem sc_Field_place_of : FnScope N_Field_place_of ["self", "cell", "side"] (defScope s_Field_place_of) := ⟨rfl, rfl, rfl, by decide +kernel, rfl, by decide +kernel, by decide +kernel⟩
abbrev s_Field_places : Stmt := inClass (top 10) 6
abbrev N_Field_places : List Str := ["self", "cells", "cell", "side"]
theorem sc_Field_places : FnScope N_Field_places ["self", "cells"] (defScope s_Field_places) := ⟨rfl, rfl, rfl, by decide +kernel, rfl, by decide +kernel, by decide +kernel⟩
abbrev s_Field_parts : Stmt := inClass (top 10) 7
abbrev N_Field_parts : List Str := ["self", "cells", "left", "found", "waiting", "cell", "side", "other"]
theorem sc_Field_parts : FnScope N_Field_parts ["self", "cells"] (defScope s_Field_parts) := ⟨rfl, rfl, rfl, by decide +kernel, rfl, by decide +kernel, by decide +kernel⟩
abbrev s_Field_line_cost : Stmt := inClass (top 10) 8
abbrev N_Field_line_cost : List Str := ["self", "is_all", "one", "other", "walls"]
theorem sc_Field_line_cost : FnScope N_Field_line_cost ["self", "is_all", "one", "other"] (defScope s_Field_line_cost) := ⟨rfl, rfl, rfl, by decide +kernel, rfl, by decide +kernel, by decide +kernel⟩
abbrev s_Field_rectangle_cost : Stmt := inClass (top 10) 9
abbrev N_Field_rectangle_cost : List Str := ["self", "a", "b", "row_cost"]
theorem sc_Field_rectangle_cost : FnScope N_Field_rectangle_cost ["self", "a", "b"] (defScope s_Field_rectangle_cost) := ⟨rfl, rfl, rfl, by decide +kernel, rfl, by decide +kernel, by decide +kernel⟩
abbrev s_Field_rectangle_put : Stmt := inClass (top 10) 10
abbrev N_Field_rectangle_put : List Str := ["self", "a", "b", "upper", "left"]
theorem sc_Field_rectangle_put : FnScope N_Field_rectangle_put ["self", "a", "b"] (defScope s_Field_rectangle_put) := ⟨rfl, rfl, rfl, by decide +kernel, rfl, by decide +kernel, by decide +kernel⟩
abbrev s_Field_rectangles : Stmt := inClass (top 10) 11
abbrev N_Field_rectangles : List Str := ["self", "found", "a", "b"]
theorem sc_Field_rectangles : FnScope N_Field_rectangles ["self"] (defScope s_Field_rectangles) := ⟨rfl, rfl, rfl, by decide +kernel, rfl, by decide +kernel, by decide +kernel⟩
abbrev s_Field_greatest : Stmt := inClass (top 10) 12
abbrev N_Field_greatest : List Str := ["self", "h", "keys", "a", "b", "cost"]
theorem sc_Field_greatest : FnScope N_Field_greatest ["self", "h"] (defScope s_Field_greatest) := ⟨rfl, rfl, rfl, by decide +kernel, rfl, by decide +kernel, by decide +kernel⟩
abbrev s_Field_cheapest : Stmt := inClass (top 10) 13
abbrev N_Field_cheapest : List Str := ["self", "n", "keys", "a", "b"]
theorem sc_Field_cheapest : FnScope N_Field_cheapest ["self", "n"] (defScope s_Field_cheapest) := ⟨rfl, rfl, rfl, by decide +kernel, rfl, by decide +kernel, by decide +kernel⟩
abbrev s_Field_row_cells : Stmt := inClass (top 10) 14
abbrev N_Field_row_cells : List Str := ["self", "row", "column"]
theorem sc_Field_row_cells : FnScope N_Field_row_cells ["self", "row"] (defScope s_Field_row_cells) := ⟨rfl, rfl, rfl, by decide +kernel, rfl, by decide +kernel, by decide +kernel⟩
abbrev s_Field_column_cells : Stmt := inClass (top 10) 15
abbrev N_Field_column_cells : List Str := ["self", "column", "row"]
theorem sc_Field_column_cells : FnScope N_Field_column_cells ["self", "column"] (defScope s_Field_column_cells) := ⟨rfl, rfl, rfl, by decide +kernel, rfl, by decide +kernel, by decide +kernel⟩
abbrev s_Field_has_all : Stmt := inClass (top 10) 16
abbrev N_Field_has_all : List Str := ["self", "cells", "some", "cell"]
theorem sc_Field_has_all : FnScope N_Field_has_all ["self", "cells", "some"] (defScope s_Field_has_all) := ⟨rfl, rfl, rfl, by decide +kernel, rfl, by decide +kernel, by decide +kernel⟩
abbrev s_Field_has_any : Stmt := inClass (top 10) 17
abbrev N_Field_has_any : List Str := ["self", "cells", "some", "cell"]
theorem sc_Field_has_any : FnScope N_Field_has_any ["self", "cells", "some"] (defScope s_Field_has_any) := ⟨rfl, rfl, rfl, by decide +kernel, rfl, by decide +kernel, by decide +kernel⟩
abbrev s_Field_is_filled : Stmt := inClass (top 10) 18
abbrev N_Field_is_filled : List Str := ["self", "cells", "row", "column"]
theorem sc_Field_is_filled : FnScope N_Field_is_filled ["self", "cells"] (defScope s_Field_is_filled) := ⟨rfl, rfl, rfl, by decide +kernel, rfl, by decide +kernel, by decide +kernel⟩
abbrev s_Field_rounded : Stmt := inClass (top 10) 19
abbrev N_Field_rounded : List Str := ["self", "cells", "high", "wide", "row", "column"]
theorem sc_Field_rounded : FnScope N_Field_rounded ["self", "cells"] (defScope s_Field_rounded) := ⟨rfl, rfl, rfl, by decide +kernel, rfl, by decide +kernel, by decide +kernel⟩
abbrev s_Moves_init : Stmt := inClass (top 13) 0
abbrev N_Moves_init : List Str := ["self", "field", "days", "day", "row"]
theorem sc_Moves_init : FnScope N_Moves_init ["self", "field", "days"] (defScope s_Moves_init) := ⟨rfl, rfl, rfl, by decide +kernel, rfl, by decide +kernel, by decide +kernel⟩
abbrev s_Moves_staying : Stmt := inClass (top 13) 1
abbrev N_Moves_staying : List Str := ["self", "a", "b", "place"]
theorem sc_Moves_staying : FnScope N_Moves_staying ["self", "a", "b"] (defScope s_Moves_staying) := ⟨rfl, rfl, rfl, by decide +kernel, rfl, by decide +kernel, by decide +kernel⟩
abbrev s_Moves_carried : Stmt := inClass (top 13) 2
abbrev N_Moves_carried : List Str := ["self", "a", "b"]
theorem sc_Moves_carried : FnScope N_Moves_carried ["self", "a", "b"] (defScope s_Moves_carried) := ⟨rfl, rfl, rfl, by decide +kernel, rfl, by decide +kernel, by decide +kernel⟩
abbrev s_Moves_carried_in : Stmt := inClass (top 13) 3
abbrev N_Moves_carried_in : List Str := ["self", "order", "found", "at", "day"]
theorem sc_Moves_carried_in : FnScope N_Moves_carried_in ["self", "order"] (defScope s_Moves_carried_in) := ⟨rfl, rfl, rfl, by decide +kernel, rfl, by decide +kernel, by decide +kernel⟩
abbrev s_Moves_least_of : Stmt := inClass (top 13) 4
abbrev N_Moves_least_of : List Str := ["self", "table", "chosen", "day", "rest", "other"]
theorem sc_Moves_least_of : FnScope N_Moves_least_of ["self", "table", "chosen", "day"] (defScope s_Moves_least_of) := ⟨rfl, rfl, rfl, by decide +kernel, rfl, by decide +kernel, by decide +kernel⟩
abbrev s_Moves_table : Stmt := inClass (top 13) 5
abbrev N_Moves_table : List Str := ["self", "found", "chosen", "day"]
theorem sc_Moves_table : FnScope N_Moves_table ["self"] (defScope s_Moves_table) := ⟨rfl, rfl, rfl, by decide +kernel, rfl, by decide +kernel, by decide +kernel⟩
abbrev s_Moves_best_order : Stmt := inClass (top 13) 6
abbrev N_Moves_best_order : List Str := ["self", "table", "chosen", "order"]
theorem sc_Moves_best_order : FnScope N_Moves_best_order ["self"] (defScope s_Moves_best_order) := ⟨rfl, rfl, rfl, by decide +kernel, rfl, by decide +kernel, by decide +kernel⟩
abbrev s_Moves_last_of : Stmt := inClass (top 13) 7
abbrev N_Moves_last_of : List Str := ["self", "table", "chosen", "order", "keys", "day", "much"]
theorem sc_Moves_last_of : FnScope N_Moves_last_of ["self", "table", "chosen", "order"] (defScope s_Moves_last_of) := ⟨rfl, rfl, rfl, by decide +kernel, rfl, by decide +kernel, by decide +kernel⟩
abbrev s_members : Stmt := top 14
abbrev N_members : List Str := ["chosen", "day"]
theorem sc_members : FnScope N_members ["chosen"] (defScope s_members) := ⟨rfl, rfl, rfl, by decide +kernel, rfl, by decide +kernel, by decide +kernel⟩
abbrev s_Fault_init : Stmt := inClass (top 18) 0
abbrev s_Word_init : Stmt := inClass (top 19) 0
abbrev N_Word_init : List Str := ["self", "place", "row"]
theorem sc_Word_init : FnScope N_Word_init ["self", "place", "row"] (defScope s_Word_init) := ⟨rfl, rfl, rfl, by decide +kernel, rfl, by decide +kernel, by decide +kernel⟩
abbrev s_Word_number : Stmt := inClass (top 19) 1
abbrev N_Word_number : List Str := ["self", "row", "found", "byte"]
theorem sc_Word_number : FnScope N_Word_number ["self"] (defScope s_Word_number) := ⟨rfl, rfl, rfl, by decide +kernel, rfl, by decide +kernel, by decide +kernel⟩
abbrev s_bytes_of : Stmt := top 20
abbrev N_bytes_of : List Str := ["text", "sign"]
theorem sc_bytes_of : FnScope N_bytes_of ["text"] (defScope s_bytes_of) := ⟨rfl, rfl, rfl, by decide +kernel, rfl, by decide +kernel, by decide +kernel⟩
abbrev s_word_end : Stmt := top 21
abbrev N_word_end : List Str := ["row", "at"]
theorem sc_word_end : FnScope N_word_end ["row", "at"] (defScope s_word_end) := ⟨rfl, rfl, rfl, by decide +kernel, rfl, by decide +kernel, by decide +kernel⟩
abbrev s_words_of : Stmt := top 22
abbrev N_words_of : List Str := ["row", "found", "at", "is_due", "end"]
theorem sc_words_of : FnScope N_words_of ["row"] (defScope s_words_of) := ⟨rfl, rfl, rfl, by decide +kernel, rfl, by decide +kernel, by decide +kernel⟩
abbrev s_Reader_init : Stmt := inClass (top 23) 0
abbrev N_Reader_init : List Str := ["self", "row"]
theorem sc_Reader_init : FnScope N_Reader_init ["self", "row"] (defScope s_Reader_init) := ⟨rfl, rfl, rfl, by decide +kernel, rfl, by decide +kernel, by decide +kernel⟩
abbrev s_Reader_is_end : Stmt := inClass (top 23) 1
abbrev N_Reader_is_end : List Str := ["self"]
theorem sc_Reader_is_end : FnScope N_Reader_is_end ["self"] (defScope s_Reader_is_end) := ⟨rfl, rfl, rfl, by decide +kernel, rfl, by decide +kernel, by decide +kernel⟩
abbrev s_Reader_ask : Stmt := inClass (top 23) 2
abbrev N_Reader_ask : List Str := ["self", "good"]
theorem sc_Reader_ask : FnScope N_Reader_ask ["self", "good"] (defScope s_Reader_ask) := ⟨rfl, rfl, rfl, by decide +kernel, rfl, by decide +kernel, by decide +kernel⟩
abbrev s_Reader_is_next : Stmt := inClass (top 23) 3
abbrev N_Reader_is_next : List Str := ["self", "row"]
theorem sc_Reader_is_next : FnScope N_Reader_is_next ["self", "row"] (defScope s_Reader_is_next) := ⟨rfl, rfl, rfl, by decide +kernel, rfl, by decide +kernel, by decide +kernel⟩
abbrev s_Reader_take : Stmt := inClass (top 23) 4
abbrev N_Reader_take : List Str := ["self"]
theorem sc_Reader_take : FnScope N_Reader_take ["self"] (defScope s_Reader_take) := ⟨rfl, rfl, rfl, by decide +kernel, rfl, by decide +kernel, by decide +kernel⟩
abbrev s_Reader_want : Stmt := inClass (top 23) 5
abbrev N_Reader_want : List Str := ["self", "text"]
theorem sc_Reader_want : FnScope N_Reader_want ["self", "text"] (defScope s_Reader_want) := ⟨rfl, rfl, rfl, by decide +kernel, rfl, by decide +kernel, by decide +kernel⟩
abbrev s_Reader_want_number : Stmt := inClass (top 23) 6
abbrev N_Reader_want_number : List Str := ["self", "least", "most", "number"]
theorem sc_Reader_want_number : FnScope N_Reader_want_number ["self", "least", "most"] (defScope s_Reader_want_number) := ⟨rfl, rfl, rfl, by decide +kernel, rfl, by decide +kernel, by decide +kernel⟩
abbrev s_read_walls : Stmt := top 28
abbrev N_read_walls : List Str := ["reader", "walled", "side", "word"]
theorem sc_read_walls : FnScope N_read_walls ["reader"] (defScope s_read_walls) := ⟨rfl, rfl, rfl, by decide +kernel, rfl, by decide +kernel, by decide +kernel⟩
abbrev s_read_day : Stmt := top 29
abbrev N_read_day : List Str := ["reader", "field", "many", "row", "column", "high", "wide"]
theorem sc_read_day : FnScope N_read_day ["reader", "field", "many"] (defScope s_read_day) := ⟨rfl, rfl, rfl, by decide +kernel, rfl, by decide +kernel, by decide +kernel⟩
abbrev s_read_field : Stmt := top 30
abbrev N_read_field : List Str := ["row", "reader", "rows", "columns", "field", "days"]
theorem sc_read_field : FnScope N_read_field ["row"] (defScope s_read_field) := ⟨rfl, rfl, rfl, by decide +kernel, rfl, by decide +kernel, by decide +kernel⟩
abbrev s_told_field : Stmt := top 31
abbrev N_told_field : List Str := ["row", "found", "field", "days", "fault"]
theorem sc_told_field : FnScope N_told_field ["row"] (defScope s_told_field) := ⟨rfl, rfl, rfl, by decide +kernel, rfl, by decide +kernel, by decide +kernel⟩
abbrev s_told_day : Stmt := top 32
abbrev N_told_day : List Str := ["row", "field", "many", "found", "reader", "day", "fault"]
theorem sc_told_day : FnScope N_told_day ["row", "field", "many"] (defScope s_told_day) := ⟨rfl, rfl, rfl, by decide +kernel, rfl, by decide +kernel, by decide +kernel⟩
abbrev s_joined : Stmt := top 33
abbrev N_joined : List Str := ["words", "found", "at", "word"]
theorem sc_joined : FnScope N_joined ["words"] (defScope s_joined) := ⟨rfl, rfl, rfl, by decide +kernel, rfl, by decide +kernel, by decide +kernel⟩
abbrev s_written : Stmt := top 34
abbrev N_written : List Str := ["field", "days", "walls", "found", "day", "words", "side", "word"]
theorem sc_written : FnScope N_written ["field", "days"] (defScope s_written) := ⟨rfl, rfl, rfl, by decide +kernel, rfl, by decide +kernel, by decide +kernel⟩
abbrev s_are_bytes : Stmt := top 43
abbrev N_are_bytes : List Str := ["row", "byte"]
theorem sc_are_bytes : FnScope N_are_bytes ["row"] (defScope s_are_bytes) := ⟨rfl, rfl, rfl, by decide +kernel, rfl, by decide +kernel, by decide +kernel⟩
abbrev s_is_out : Stmt := top 44
abbrev N_is_out : List Str := ["number", "least", "most"]
theorem sc_is_out : FnScope N_is_out ["number", "least", "most"] (defScope s_is_out) := ⟨rfl, rfl, rfl, by decide +kernel, rfl, by decide +kernel, by decide +kernel⟩
abbrev s_House_init : Stmt := inClass (top 45) 0
abbrev N_House_init : List Str := ["self"]
theorem sc_House_init : FnScope N_House_init ["self"] (defScope s_House_init) := ⟨rfl, rfl, rfl, by decide +kernel, rfl, by decide +kernel, by decide +kernel⟩
abbrev s_House_clear : Stmt := inClass (top 45) 1
abbrev N_House_clear : List Str := ["self"]
theorem sc_House_clear : FnScope N_House_clear ["self"] (defScope s_House_clear) := ⟨rfl, rfl, rfl, by decide +kernel, rfl, by decide +kernel, by decide +kernel⟩
abbrev s_House_set_field : Stmt := inClass (top 45) 2
abbrev N_House_set_field : List Str := ["self", "row", "field", "days", "place"]
theorem sc_House_set_field : FnScope N_House_set_field ["self", "row"] (defScope s_House_set_field) := ⟨rfl, rfl, rfl, by decide +kernel, rfl, by decide +kernel, by decide +kernel⟩
abbrev s_House_look : Stmt := inClass (top 45) 3
abbrev N_House_look : List Str := ["self", "row", "field", "days", "place"]
theorem sc_House_look : FnScope N_House_look ["self", "row"] (defScope s_House_look) := ⟨rfl, rfl, rfl, by decide +kernel, rfl, by decide +kernel, by decide +kernel⟩
abbrev s_House_text : Stmt := inClass (top 45) 4
abbrev N_House_text : List Str := ["self"]
theorem sc_House_text : FnScope N_House_text ["self"] (defScope s_House_text) := ⟨rfl, rfl, rfl, by decide +kernel, rfl, by decide +kernel, by decide +kernel⟩
abbrev s_House_add_day : Stmt := inClass (top 45) 5
abbrev N_House_add_day : List Str := ["self", "row", "day", "place"]
theorem sc_House_add_day : FnScope N_House_add_day ["self", "row"] (defScope s_House_add_day) := ⟨rfl, rfl, rfl, by decide +kernel, rfl, by decide +kernel, by decide +kernel⟩
abbrev s_House_undo : Stmt := inClass (top 45) 6
abbrev N_House_undo : List Str := ["self", "n"]
theorem sc_House_undo : FnScope N_House_undo ["self", "n"] (defScope s_House_undo) := ⟨rfl, rfl, rfl, by decide +kernel, rfl, by decide +kernel, by decide +kernel⟩
abbrev s_House_told : Stmt := inClass (top 45) 7
abbrev N_House_told : List Str := ["self", "walls", "wall"]
theorem sc_House_told : FnScope N_House_told ["self"] (defScope s_House_told) := ⟨rfl, rfl, rfl, by decide +kernel, rfl, by decide +kernel, by decide +kernel⟩
abbrev s_House_are_cells : Stmt := inClass (top 45) 8
abbrev N_House_are_cells : List Str := ["self", "row", "cell", "at"]
theorem sc_House_are_cells : FnScope N_House_are_cells ["self", "row"] (defScope s_House_are_cells) := ⟨rfl, rfl, rfl, by decide +kernel, rfl, by decide +kernel, by decide +kernel⟩
abbrev s_House_cost : Stmt := inClass (top 45) 9
abbrev N_House_cost : List Str := ["self", "row"]
theorem sc_House_cost : FnScope N_House_cost ["self", "row"] (defScope s_House_cost) := ⟨rfl, rfl, rfl, by decide +kernel, rfl, by decide +kernel, by decide +kernel⟩
abbrev s_House_sides : Stmt := inClass (top 45) 10
abbrev N_House_sides : List Str := ["self", "row", "hurdles", "found", "cell", "side"]
theorem sc_House_sides : FnScope N_House_sides ["self", "row"] (defScope s_House_sides) := ⟨rfl, rfl, rfl, by decide +kernel, rfl, by decide +kernel, by decide +kernel⟩
abbrev s_House_rect : Stmt := inClass (top 45) 11
abbrev N_House_rect : List Str := ["self", "a", "b"]
theorem sc_House_rect : FnScope N_House_rect ["self", "a", "b"] (defScope s_House_rect) := ⟨rfl, rfl, rfl, by decide +kernel, rfl, by decide +kernel, by decide +kernel⟩
abbrev s_House_best : Stmt := inClass (top 45) 12
abbrev N_House_best : List Str := ["self", "h", "found", "a", "b"]
theorem sc_House_best : FnScope N_House_best ["self", "h"] (defScope s_House_best) := ⟨rfl, rfl, rfl, by decide +kernel, rfl, by decide +kernel, by decide +kernel⟩
abbrev s_House_least : Stmt := inClass (top 45) 13
abbrev N_House_least : List Str := ["self", "n", "found", "a", "b"]
theorem sc_House_least : FnScope N_House_least ["self", "n"] (defScope s_House_least) := ⟨rfl, rfl, rfl, by decide +kernel, rfl, by decide +kernel, by decide +kernel⟩
abbrev s_House_curve : Stmt := inClass (top 45) 14
abbrev N_House_curve : List Str := ["self", "found", "h", "size"]
theorem sc_House_curve : FnScope N_House_curve ["self"] (defScope s_House_curve) := ⟨rfl, rfl, rfl, by decide +kernel, rfl, by decide +kernel, by decide +kernel⟩
abbrev s_House_rounded : Stmt := inClass (top 45) 15
abbrev N_House_rounded : List Str := ["self", "row", "a", "b"]
theorem sc_House_rounded : FnScope N_House_rounded ["self", "row"] (defScope s_House_rounded) := ⟨rfl, rfl, rfl, by decide +kernel, rfl, by decide +kernel, by decide +kernel⟩
abbrev s_House_moves : Stmt := inClass (top 45) 16
abbrev N_House_moves : List Str := ["self"]
theorem sc_House_moves : FnScope N_House_moves ["self"] (defScope s_House_moves) := ⟨rfl, rfl, rfl, by decide +kernel, rfl, by decide +kernel, by decide +kernel⟩
abbrev s_House_plan : Stmt := inClass (top 45) 17
abbrev N_House_plan : List Str := ["self", "moves", "found", "d", "day", "carried"]
theorem sc_House_plan : FnScope N_House_plan ["self"] (defScope s_House_plan) := ⟨rfl, rfl, rfl, by decide +kernel, rfl, by decide +kernel, by decide +kernel⟩
abbrev s_House_covered : Stmt := inClass (top 45) 18
abbrev N_House_covered : List Str := ["self", "counts", "day", "cell", "many"]
theorem sc_House_covered : FnScope N_House_covered ["self"] (defScope s_House_covered) := ⟨rfl, rfl, rfl, by decide +kernel, rfl, by decide +kernel, by decide +kernel⟩
abbrev s_House_order : Stmt := inClass (top 45) 19
abbrev N_House_order : List Str := ["self", "row", "moves"]
theorem sc_House_order : FnScope N_House_order ["self", "row"] (defScope s_House_order) := ⟨rfl, rfl, rfl, by decide +kernel, rfl, by decide +kernel, by decide +kernel⟩
abbrev s_House_fewest : Stmt := inClass (top 45) 20
abbrev N_House_fewest : List Str := ["self", "moves"]
theorem sc_House_fewest : FnScope N_House_fewest ["self"] (defScope s_House_fewest) := ⟨rfl, rfl, rfl, by decide +kernel, rfl, by decide +kernel, by decide +kernel⟩
abbrev s_House_best_order : Stmt := inClass (top 45) 21
abbrev N_House_best_order : List Str := ["self", "found"]
theorem sc_House_best_order : FnScope N_House_best_order ["self"] (defScope s_House_best_order) := ⟨rfl, rfl, rfl, by decide +kernel, rfl, by decide +kernel, by decide +kernel⟩
abbrev s_House_labels : Stmt := inClass (top 45) 22
abbrev N_House_labels : List Str := ["self", "found", "row"]
theorem sc_House_labels : FnScope N_House_labels ["self"] (defScope s_House_labels) := ⟨rfl, rfl, rfl, by decide +kernel, rfl, by decide +kernel, by decide +kernel⟩
abbrev s_House_day_fault : Stmt := inClass (top 45) 23
abbrev N_House_day_fault : List Str := ["self", "d"]
theorem sc_House_day_fault : FnScope N_House_day_fault ["self", "d"] (defScope s_House_day_fault) := ⟨rfl, rfl, rfl, by decide +kernel, rfl, by decide +kernel, by decide +kernel⟩
abbrev s_House_between : Stmt := inClass (top 45) 24
abbrev N_House_between : List Str := ["self", "a", "b", "refusal", "moves"]
theorem sc_House_between : FnScope N_House_between ["self", "a", "b"] (defScope s_House_between) := ⟨rfl, rfl, rfl, by decide +kernel, rfl, by decide +kernel, by decide +kernel⟩
abbrev s_told_of_row : Stmt := top 49
abbrev N_told_of_row : List Str := ["house", "kind", "row"]
theorem sc_told_of_row : FnScope N_told_of_row ["house", "kind", "row"] (defScope s_told_of_row) := ⟨rfl, rfl, rfl, by decide +kernel, rfl, by decide +kernel, by decide +kernel⟩
abbrev s_told_of_numbers : Stmt := top 50
abbrev N_told_of_numbers : List Str := ["house", "kind", "n"]
theorem sc_told_of_numbers : FnScope N_told_of_numbers ["house", "kind", "n"] (defScope s_told_of_numbers) := ⟨rfl, rfl, rfl, by decide +kernel, rfl, by decide +kernel, by decide +kernel⟩
abbrev s_told_alone : Stmt := top 51
abbrev N_told_alone : List Str := ["house", "kind"]
theorem sc_told_alone : FnScope N_told_alone ["house", "kind"] (defScope s_told_alone) := ⟨rfl, rfl, rfl, by decide +kernel, rfl, by decide +kernel, by decide +kernel⟩
abbrev s_answers : Stmt := top 52
abbrev N_answers : List Str := ["calls", "house", "found", "at", "kind", "end", "numbers", "row", "told"]
theorem sc_answers : FnScope N_answers ["calls"] (defScope s_answers) := ⟨rfl, rfl, rfl, by decide +kernel, rfl, by decide +kernel, by decide +kernel⟩
/-- where the classes and the written tuples stand -/
structure Ad where
  cDay : Addr
  cField : Addr
  cMoves : Addr
  cWord : Addr
  cReader : Addr
  cHouse : Addr
  cFault : Addr
  t_ROW_STEPS : Addr
  t_COLUMN_STEPS : Addr
  t_SIDE_WORDS : Addr
  t_NUMBERS : Addr
  t_WITH_ROW : Addr
  fFault : Addr
/-- what the top has written -/
structure Txt (K : PySem.W.Frag) (mg : Str → Option Value) (A : Ad) : Prop where
  b_len : mg "len" = none
  b_int : mg "int" = none
  b_str : mg "str" = none
  b_list : mg "list" = none
  b_min : mg "min" = none
  b_max : mg "max" = none
  b_sorted : mg "sorted" = none
  b_ord : mg "ord" = none
  b_range : mg "range" = none
  b_enumerate : mg "enumerate" = none
  g_ABOVE : ∃ t, mg "ABOVE" = some (.int (0) t)
  g_RIGHT : ∃ t, mg "RIGHT" = some (.int (1) t)
  g_BELOW : ∃ t, mg "BELOW" = some (.int (2) t)
  g_LEFT : ∃ t, mg "LEFT" = some (.int (3) t)
  g_SIDES : ∃ t, mg "SIDES" = some (.int (4) t)
  g_UPRIGHT : ∃ t, mg "UPRIGHT" = some (.int (100) t)
  g_NONE : ∃ t, mg "NONE" = some (.int (-1) t)
  g_BLANK : ∃ t, mg "BLANK" = some (.int (32) t)
  g_LINE_END : ∃ t, mg "LINE_END" = some (.int (10) t)
  g_MOST_SIZE : ∃ t, mg "MOST_SIZE" = some (.int (8) t)
  g_MOST_DAYS : ∃ t, mg "MOST_DAYS" = some (.int (20) t)
  g_NO_BYTES : ∃ t, mg "NO_BYTES" = some (.int (-1) t)
  g_OUT_OF_RANGE : ∃ t, mg "OUT_OF_RANGE" = some (.int (-3) t)
  g_NO_LIST : ∃ t, mg "NO_LIST" = some (.int (-4) t)
  g_NO_DAY : ∃ t, mg "NO_DAY" = some (.int (-5) t)
  g_TOO_MANY : ∃ t, mg "TOO_MANY" = some (.int (-9) t)
  g_FAULT : ∃ t, mg "FAULT" = some (.int (-1000) t)
  g_MOST_ORDERED : ∃ t, mg "MOST_ORDERED" = some (.int (7) t)
  g_ROW_STEPS : mg "ROW_STEPS" = some (.ref A.t_ROW_STEPS)
  q_ROW_STEPS : ∀ H, SqT K H A.t_ROW_STEPS [.int (-1), .int (0), .int (1), .int (0)]
  g_COLUMN_STEPS : mg "COLUMN_STEPS" = some (.ref A.t_COLUMN_STEPS)
  q_COLUMN_STEPS : ∀ H, SqT K H A.t_COLUMN_STEPS [.int (0), .int (1), .int (0), .int (-1)]
  g_SIDE_WORDS : mg "SIDE_WORDS" = some (.ref A.t_SIDE_WORDS)
  q_SIDE_WORDS : ∀ H, SqT K H A.t_SIDE_WORDS [.str "above", .str "right", .str "below", .str "left"]
  g_NUMBERS : mg "NUMBERS" = some (.ref A.t_NUMBERS)
  q_NUMBERS : ∀ H, SqT K H A.t_NUMBERS [.int (0), .int (0), .int (0), .int (0), .int (0), .int (1), .int (0), .int (0), .int (0), .int (2), .int (1), .int (1), .int (0), .int (0), .int (0), .int (0), .int (0), .int (0), .int (0), .int (0), .int (2)]
  g_WITH_ROW : mg "WITH_ROW" = some (.ref A.t_WITH_ROW)
  q_WITH_ROW : ∀ H, SqT K H A.t_WITH_ROW [.int (1), .int (2), .int (4), .int (7), .int (8), .int (13), .int (16)]
  c_Day : Cls K A.cDay
  n_Day_row : NoAttr K A.cDay "row"
  n_Day_column : NoAttr K A.cDay "column"
  n_Day_high : NoAttr K A.cDay "high"
  n_Day_wide : NoAttr K A.cDay "wide"
  c_Field : Cls K A.cField
  n_Field_rows : NoAttr K A.cField "rows"
  n_Field_columns : NoAttr K A.cField "columns"
  n_Field_walled : NoAttr K A.cField "walled"
  c_Moves : Cls K A.cMoves
  n_Moves_spots : NoAttr K A.cMoves "spots"
  n_Moves_sizes : NoAttr K A.cMoves "sizes"
  c_Word : Cls K A.cWord
  n_Word_place : NoAttr K A.cWord "place"
  n_Word_row : NoAttr K A.cWord "row"
  c_Reader : Cls K A.cReader
  n_Reader_words : NoAttr K A.cReader "words"
  n_Reader_size : NoAttr K A.cReader "size"
  n_Reader_at : NoAttr K A.cReader "at"
  c_House : Cls K A.cHouse
  n_House_field : NoAttr K A.cHouse "field"
  n_House_days : NoAttr K A.cHouse "days"
  f_Day_init : ∃ f fd, (Mk K A.cDay f ∧ mg "Day" = some (.ref A.cDay)) ∧ Fun K "__init__" "Day.__init__" s_Day_init f fd
  f_Day_cells_in : ∃ f fd, Meth K A.cDay "cells_in" f ∧ Fun K "cells_in" "Day.cells_in" s_Day_cells_in f fd
  f_Field_init : ∃ f fd, (Mk K A.cField f ∧ mg "Field" = some (.ref A.cField)) ∧ Fun K "__init__" "Field.__init__" s_Field_init f fd
  f_Field_count : ∃ f fd, Meth K A.cField "count" f ∧ Fun K "count" "Field.count" s_Field_count f fd
  f_Field_beyond : ∃ f fd, Meth K A.cField "beyond" f ∧ Fun K "beyond" "Field.beyond" s_Field_beyond f fd
  f_Field_needs_hurdle : ∃ f fd, Meth K A.cField "needs_hurdle" f ∧ Fun K "needs_hurdle" "Field.needs_hurdle" s_Field_needs_hurdle f fd
  f_Field_hurdles : ∃ f fd, Meth K A.cField "hurdles" f ∧ Fun K "hurdles" "Field.hurdles" s_Field_hurdles f fd
  f_Field_place_of : ∃ f fd, Meth K A.cField "place_of" f ∧ Fun K "place_of" "Field.place_of" s_Field_place_of f fd
  f_Field_places : ∃ f fd, Meth K A.cField "places" f ∧ Fun K "places" "Field.places" s_Field_places f fd
  f_Field_parts : ∃ f fd, Meth K A.cField "parts" f ∧ Fun K "parts" "Field.parts" s_Field_parts f fd
  f_Field_line_cost : ∃ f fd, Meth K A.cField "line_cost" f ∧ Fun K "line_cost" "Field.line_cost" s_Field_line_cost f fd
  f_Field_rectangle_cost : ∃ f fd, Meth K A.cField "rectangle_cost" f ∧ Fun K "rectangle_cost" "Field.rectangle_cost" s_Field_rectangle_cost f fd
  f_Field_rectangle_put : ∃ f fd, Meth K A.cField "rectangle_put" f ∧ Fun K "rectangle_put" "Field.rectangle_put" s_Field_rectangle_put f fd
  f_Field_rectangles : ∃ f fd, Meth K A.cField "rectangles" f ∧ Fun K "rectangles" "Field.rectangles" s_Field_rectangles f fd
  f_Field_greatest : ∃ f fd, Meth K A.cField "greatest" f ∧ Fun K "greatest" "Field.greatest" s_Field_greatest f fd
  f_Field_cheapest : ∃ f fd, Meth K A.cField "cheapest" f ∧ Fun K "cheapest" "Field.cheapest" s_Field_cheapest f fd
  f_Field_row_cells : ∃ f fd, Meth K A.cField "row_cells" f ∧ Fun K "row_cells" "Field.row_cells" s_Field_row_cells f fd
  f_Field_column_cells : ∃ f fd, Meth K A.cField "column_cells" f ∧ Fun K "column_cells" "Field.column_cells" s_Field_column_cells f fd
  f_Field_has_all : ∃ f fd, Meth K A.cField "has_all" f ∧ Fun K "has_all" "Field.has_all" s_Field_has_all f fd
  f_Field_has_any : ∃ f fd, Meth K A.cField "has_any" f ∧ Fun K "has_any" "Field.has_any" s_Field_has_any f fd
  f_Field_is_filled : ∃ f fd, Meth K A.cField "is_filled" f ∧ Fun K "is_filled" "Field.is_filled" s_Field_is_filled f fd
  f_Field_rounded : ∃ f fd, Meth K A.cField "rounded" f ∧ Fun K "rounded" "Field.rounded" s_Field_rounded f fd
  f_Moves_init : ∃ f fd, (Mk K A.cMoves f ∧ mg "Moves" = some (.ref A.cMoves)) ∧ Fun K "__init__" "Moves.__init__" s_Moves_init f fd
  f_Moves_staying : ∃ f fd, Meth K A.cMoves "staying" f ∧ Fun K "staying" "Moves.staying" s_Moves_staying f fd
  f_Moves_carried : ∃ f fd, Meth K A.cMoves "carried" f ∧ Fun K "carried" "Moves.carried" s_Moves_carried f fd
  f_Moves_carried_in : ∃ f fd, Meth K A.cMoves "carried_in" f ∧ Fun K "carried_in" "Moves.carried_in" s_Moves_carried_in f fd
  f_members : ∃ f fd, (mg "members" = some (.ref f) ∧ PySem.W.keepIn K (.ref f) = true) ∧ Fun K "members" "members" s_members f fd
  f_Moves_least_of : ∃ f fd, Meth K A.cMoves "least_of" f ∧ Fun K "least_of" "Moves.least_of" s_Moves_least_of f fd
  f_Moves_table : ∃ f fd, Meth K A.cMoves "table" f ∧ Fun K "table" "Moves.table" s_Moves_table f fd
  f_Moves_last_of : ∃ f fd, Meth K A.cMoves "last_of" f ∧ Fun K "last_of" "Moves.last_of" s_Moves_last_of f fd
  f_Moves_best_order : ∃ f fd, Meth K A.cMoves "best_order" f ∧ Fun K "best_order" "Moves.best_order" s_Moves_best_order f fd
  f_Word_init : ∃ f fd, (Mk K A.cWord f ∧ mg "Word" = some (.ref A.cWord)) ∧ Fun K "__init__" "Word.__init__" s_Word_init f fd
  f_Word_number : ∃ f fd, Meth K A.cWord "number" f ∧ Fun K "number" "Word.number" s_Word_number f fd
  f_bytes_of : ∃ f fd, (mg "bytes_of" = some (.ref f) ∧ PySem.W.keepIn K (.ref f) = true) ∧ Fun K "bytes_of" "bytes_of" s_bytes_of f fd
  f_word_end : ∃ f fd, (mg "word_end" = some (.ref f) ∧ PySem.W.keepIn K (.ref f) = true) ∧ Fun K "word_end" "word_end" s_word_end f fd
  f_words_of : ∃ f fd, (mg "words_of" = some (.ref f) ∧ PySem.W.keepIn K (.ref f) = true) ∧ Fun K "words_of" "words_of" s_words_of f fd
  f_Reader_init : ∃ f fd, (Mk K A.cReader f ∧ mg "Reader" = some (.ref A.cReader)) ∧ Fun K "__init__" "Reader.__init__" s_Reader_init f fd
  f_Reader_is_end : ∃ f fd, Meth K A.cReader "is_end" f ∧ Fun K "is_end" "Reader.is_end" s_Reader_is_end f fd
  f_Reader_ask : ∃ f fd, Meth K A.cReader "ask" f ∧ Fun K "ask" "Reader.ask" s_Reader_ask f fd
  f_Reader_is_next : ∃ f fd, Meth K A.cReader "is_next" f ∧ Fun K "is_next" "Reader.is_next" s_Reader_is_next f fd
  f_Reader_take : ∃ f fd, Meth K A.cReader "take" f ∧ Fun K "take" "Reader.take" s_Reader_take f fd
  f_Reader_want : ∃ f fd, Meth K A.cReader "want" f ∧ Fun K "want" "Reader.want" s_Reader_want f fd
  f_Reader_want_number : ∃ f fd, Meth K A.cReader "want_number" f ∧ Fun K "want_number" "Reader.want_number" s_Reader_want_number f fd
  f_read_walls : ∃ f fd, (mg "read_walls" = some (.ref f) ∧ PySem.W.keepIn K (.ref f) = true) ∧ Fun K "read_walls" "read_walls" s_read_walls f fd
  f_read_day : ∃ f fd, (mg "read_day" = some (.ref f) ∧ PySem.W.keepIn K (.ref f) = true) ∧ Fun K "read_day" "read_day" s_read_day f fd
  f_read_field : ∃ f fd, (mg "read_field" = some (.ref f) ∧ PySem.W.keepIn K (.ref f) = true) ∧ Fun K "read_field" "read_field" s_read_field f fd
  f_told_field : ∃ f fd, (mg "told_field" = some (.ref f) ∧ PySem.W.keepIn K (.ref f) = true) ∧ Fun K "told_field" "told_field" s_told_field f fd
  f_told_day : ∃ f fd, (mg "told_day" = some (.ref f) ∧ PySem.W.keepIn K (.ref f) = true) ∧ Fun K "told_day" "told_day" s_told_day f fd
  f_joined : ∃ f fd, (mg "joined" = some (.ref f) ∧ PySem.W.keepIn K (.ref f) = true) ∧ Fun K "joined" "joined" s_joined f fd
  f_written : ∃ f fd, (mg "written" = some (.ref f) ∧ PySem.W.keepIn K (.ref f) = true) ∧ Fun K "written" "written" s_written f fd
  f_are_bytes : ∃ f fd, (mg "are_bytes" = some (.ref f) ∧ PySem.W.keepIn K (.ref f) = true) ∧ Fun K "are_bytes" "are_bytes" s_are_bytes f fd
  f_is_out : ∃ f fd, (mg "is_out" = some (.ref f) ∧ PySem.W.keepIn K (.ref f) = true) ∧ Fun K "is_out" "is_out" s_is_out f fd
  f_House_init : ∃ f fd, (Mk K A.cHouse f ∧ mg "House" = some (.ref A.cHouse)) ∧ Fun K "__init__" "House.__init__" s_House_init f fd
  f_House_clear : ∃ f fd, Meth K A.cHouse "clear" f ∧ Fun K "clear" "House.clear" s_House_clear f fd
  f_House_set_field : ∃ f fd, Meth K A.cHouse "set_field" f ∧ Fun K "set_field" "House.set_field" s_House_set_field f fd
  f_House_look : ∃ f fd, Meth K A.cHouse "look" f ∧ Fun K "look" "House.look" s_House_look f fd
  f_House_text : ∃ f fd, Meth K A.cHouse "text" f ∧ Fun K "text" "House.text" s_House_text f fd
  f_House_add_day : ∃ f fd, Meth K A.cHouse "add_day" f ∧ Fun K "add_day" "House.add_day" s_House_add_day f fd
  f_House_undo : ∃ f fd, Meth K A.cHouse "undo" f ∧ Fun K "undo" "House.undo" s_House_undo f fd
  f_House_told : ∃ f fd, Meth K A.cHouse "told" f ∧ Fun K "told" "House.told" s_House_told f fd
  f_House_are_cells : ∃ f fd, Meth K A.cHouse "are_cells" f ∧ Fun K "are_cells" "House.are_cells" s_House_are_cells f fd
  f_House_cost : ∃ f fd, Meth K A.cHouse "cost" f ∧ Fun K "cost" "House.cost" s_House_cost f fd
  f_House_sides : ∃ f fd, Meth K A.cHouse "sides" f ∧ Fun K "sides" "House.sides" s_House_sides f fd
  f_House_rect : ∃ f fd, Meth K A.cHouse "rect" f ∧ Fun K "rect" "House.rect" s_House_rect f fd
  f_House_best : ∃ f fd, Meth K A.cHouse "best" f ∧ Fun K "best" "House.best" s_House_best f fd
  f_House_least : ∃ f fd, Meth K A.cHouse "least" f ∧ Fun K "least" "House.least" s_House_least f fd
  f_House_curve : ∃ f fd, Meth K A.cHouse "curve" f ∧ Fun K "curve" "House.curve" s_House_curve f fd
  f_House_rounded : ∃ f fd, Meth K A.cHouse "rounded" f ∧ Fun K "rounded" "House.rounded" s_House_rounded f fd
  f_House_moves : ∃ f fd, Meth K A.cHouse "moves" f ∧ Fun K "moves" "House.moves" s_House_moves f fd
  f_House_plan : ∃ f fd, Meth K A.cHouse "plan" f ∧ Fun K "plan" "House.plan" s_House_plan f fd
  f_House_covered : ∃ f fd, Meth K A.cHouse "covered" f ∧ Fun K "covered" "House.covered" s_House_covered f fd
  f_House_order : ∃ f fd, Meth K A.cHouse "order" f ∧ Fun K "order" "House.order" s_House_order f fd
  f_House_fewest : ∃ f fd, Meth K A.cHouse "fewest" f ∧ Fun K "fewest" "House.fewest" s_House_fewest f fd
  f_House_best_order : ∃ f fd, Meth K A.cHouse "best_order" f ∧ Fun K "best_order" "House.best_order" s_House_best_order f fd
  f_House_labels : ∃ f fd, Meth K A.cHouse "labels" f ∧ Fun K "labels" "House.labels" s_House_labels f fd
  f_House_day_fault : ∃ f fd, Meth K A.cHouse "day_fault" f ∧ Fun K "day_fault" "House.day_fault" s_House_day_fault f fd
  f_House_between : ∃ f fd, Meth K A.cHouse "between" f ∧ Fun K "between" "House.between" s_House_between f fd
  f_told_of_row : ∃ f fd, (mg "told_of_row" = some (.ref f) ∧ PySem.W.keepIn K (.ref f) = true) ∧ Fun K "told_of_row" "told_of_row" s_told_of_row f fd
  f_told_of_numbers : ∃ f fd, (mg "told_of_numbers" = some (.ref f) ∧ PySem.W.keepIn K (.ref f) = true) ∧ Fun K "told_of_numbers" "told_of_numbers" s_told_of_numbers f fd
  f_told_alone : ∃ f fd, (mg "told_alone" = some (.ref f) ∧ PySem.W.keepIn K (.ref f) = true) ∧ Fun K "told_alone" "told_alone" s_told_alone f fd
  f_answers : ∃ f fd, (mg "answers" = some (.ref f) ∧ PySem.W.keepIn K (.ref f) = true) ∧ Fun K "answers" "answers" s_answers f fd
  fault : FaultTxt K mg A.cFault A.fFault
end HW

/-! # Walk: how fields and days lie in the heap -/
namespace HW
open PySem PySem.Spec PyProof.Rows L2
theorem lk_no {fs : List (Str × V)} {ks : List Str} {m : Str} (e : fs.map (·.1) = ks) (h : ks.contains m = false) : fs.lookup m = none := by
  subst e
  induction fs with
  | nil => rfl
  | cons p r ih =>
    obtain ⟨k, v⟩ := p
    simp only [List.map_cons, List.contains_cons, Bool.or_eq_false_iff] at h
    simp only [List.lookup]
    rw [h.1]
    exact ih h.2
theorem lk_at {fs : List (Str × V)} {ks : List Str} {m : Str} {v : V} (i : Nat) (e : fs.map (·.1) = ks) (h : ks.findIdx? (fun k => m == k) = some i) (hv : (fs.map (·.2))[i]? = some v) : fs.lookup m = some v := by
  subst e
  induction fs generalizing i with
  | nil => simp at hv
  | cons p r ih =>
    obtain ⟨k, u⟩ := p
    simp only [List.map_cons, List.findIdx?_cons] at h
    simp only [List.lookup]
    cases q : m == k with
    | true =>
      rw [q] at h
      simp only [if_true, Option.some.injEq] at h
      subst h
      simpa using hv
    | false =>
      rw [q] at h
      simp only [Bool.false_eq_true, if_false, Option.map_eq_some_iff] at h
      obtain ⟨j, hj, rfl⟩ := h
      exact ih j (by simpa using hv) hj
def fldF (f : Vbsyae.Field) (w : Addr) : List (Str × V) := [("rows", .int f.rows), ("columns", .int f.cols), ("walled", .ref w)]
def kF : List Str := ["rows", "columns", "walled"]
def dayF (x : Vbsyae.Fold) : List (Str × V) := [("row", .int x.row), ("column", .int x.col), ("high", .int x.high), ("wide", .int x.wide)]
def kD : List Str := ["row", "column", "high", "wide"]
def bls (l : List Bool) : List V := l.map V.bl
def nts (l : List Nat) : List V := l.map fun (n : Nat) => V.int (n : Int)
structure FieldAt (A : Ad) (H : Hp) (a : Addr) (f : Vbsyae.Field) : Prop where
  g : HF.Good f
  at_ : ∃ dx w, H a = some (.ins A.cField dx (fldF f w)) ∧ H w = some (.lst (bls f.walls))
def DayAt (A : Ad) (H : Hp) (a : Addr) (x : Vbsyae.Fold) : Prop := ∃ dx, H a = some (.ins A.cDay dx (dayF x))
theorem FieldAt.same {A : Ad} {H H' : Hp} {a : Addr} {f : Vbsyae.Field} (h : FieldAt A H a f) (s : Same H H') : FieldAt A H' a f := by
  obtain ⟨g, dx, w, h1, h2⟩ := h
  exact ⟨g, dx, w, s _ _ h1, s _ _ h2⟩
theorem DayAt.same {A : Ad} {H H' : Hp} {a : Addr} {x : Vbsyae.Fold} (h : DayAt A H a x) (s : Same H H') : DayAt A H' a x := let ⟨dx, h1⟩ := h; ⟨dx, s _ _ h1⟩
theorem inV_nts (c : Nat) (l : List Nat) : inV (.int (c : Int)) (nts l) = l.contains c := by
  unfold inV nts
  induction l with
  | nil => rfl
  | cons a r ih =>
    rw [List.map_cons, List.any_cons, ih, List.contains_cons]
    congr 1
    show eqV (V.int (a : Int)) (V.int (c : Int)) = (c == a)
    unfold eqV
    by_cases h : c = a
    · subst h; simp
    · have h1 : (c == a) = false := by simpa using h
      rw [h1]
      simp
      omega
theorem inV_neg (l : List Nat) : inV (.int (-1)) (nts l) = false := by
  unfold inV nts
  rw [List.any_eq_false]
  intro x hx
  obtain ⟨a, _, rfl⟩ := List.mem_map.mp hx
  show ¬ eqV (V.int (a : Int)) (V.int (-1)) = true
  unfold eqV
  simp
theorem flat_nts (l : List Nat) : (nts l).all flatV = true := by
  unfold nts
  rw [List.all_map]
  exact List.all_eq_true.mpr fun _ _ => rfl
theorem at_bls {l : List Bool} {s : Nat} (h : s < l.length) : atI (bls l) (s : Int) = some (.bl (l.getD s false)) := by
  refine atI_nat ?_
  unfold bls
  rw [List.getElem?_map, List.getD_eq_getElem?_getD, List.getElem?_eq_getElem h]
  rfl
theorem len_nts (l : List Nat) : (nts l).length = l.length := List.length_map _
end HW
namespace HW
open PySem PySem.Spec PyProof.Rows L2
section
variable {K : PySem.W.Frag} {mg : Str → Option Value} {A : Ad} {H : Hp} {σ : L2.St} {ta : TE} {a dx w : Addr} {f : Vbsyae.Field} {x : Vbsyae.Fold}
theorem v_rows (T : Txt K mg A) (h1 : H a = some (.ins A.cField dx (fldF f w))) (h : Val ta σ H (.ref a)) : Val (tFld K ta "rows") σ H (.int f.rows) := val_fld h h1 T.c_Field T.n_Field_rows (lk_at (ks := kF) 0 rfl (by decide +kernel) rfl)
theorem v_cols (T : Txt K mg A) (h1 : H a = some (.ins A.cField dx (fldF f w))) (h : Val ta σ H (.ref a)) : Val (tFld K ta "columns") σ H (.int f.cols) := val_fld h h1 T.c_Field T.n_Field_columns (lk_at (ks := kF) 1 rfl (by decide +kernel) rfl)
theorem v_wal (T : Txt K mg A) (h1 : H a = some (.ins A.cField dx (fldF f w))) (h : Val ta σ H (.ref a)) : Val (tFld K ta "walled") σ H (.ref w) := val_fld h h1 T.c_Field T.n_Field_walled (lk_at (ks := kF) 2 rfl (by decide +kernel) rfl)
/-- self.walled[side] -/
theorem v_wall {tb : TE} {s : Nat} (T : Txt K mg A) (g : HF.Good f) (h1 : H a = some (.ins A.cField dx (fldF f w))) (h2 : H w = some (.lst (bls f.walls))) (h : Val ta σ H (.ref a)) (hb : Val tb σ H (.int (s : Int))) (hs : s < 4) : Val (tOp (rIxL K) (tFld K ta "walled") tb) σ H (.bl (Vbsyae.walled f s)) :=
  val_ixL (v_wal T h1 h) hb (SqL.of h2) (at_bls (by rw [g.w4]; exact hs))
theorem no_F {m : Str} (h : kF.contains m = false := by decide +kernel) : (fldF f w).lookup m = none := lk_no (ks := kF) rfl h
theorem v_drow (T : Txt K mg A) (h1 : H a = some (.ins A.cDay dx (dayF x))) (h : Val ta σ H (.ref a)) : Val (tFld K ta "row") σ H (.int x.row) := val_fld h h1 T.c_Day T.n_Day_row (lk_at (ks := kD) 0 rfl (by decide +kernel) rfl)
theorem v_dcol (T : Txt K mg A) (h1 : H a = some (.ins A.cDay dx (dayF x))) (h : Val ta σ H (.ref a)) : Val (tFld K ta "column") σ H (.int x.col) := val_fld h h1 T.c_Day T.n_Day_column (lk_at (ks := kD) 1 rfl (by decide +kernel) rfl)
theorem v_dhigh (T : Txt K mg A) (h1 : H a = some (.ins A.cDay dx (dayF x))) (h : Val ta σ H (.ref a)) : Val (tFld K ta "high") σ H (.int x.high) := val_fld h h1 T.c_Day T.n_Day_high (lk_at (ks := kD) 2 rfl (by decide +kernel) rfl)
theorem v_dwide (T : Txt K mg A) (h1 : H a = some (.ins A.cDay dx (dayF x))) (h : Val ta σ H (.ref a)) : Val (tFld K ta "wide") σ H (.int x.wide) := val_fld h h1 T.c_Day T.n_Day_wide (lk_at (ks := kD) 3 rfl (by decide +kernel) rfl)
theorem no_D {m : Str} (h : kD.contains m = false := by decide +kernel) : (dayF x).lookup m = none := lk_no (ks := kD) rfl h
end
end HW

/-! # Walk: stores, comprehensions, loops -/
namespace HW
open PySem PySem.Spec PyProof.Rows L2
theorem put_new {f : Str} {v : V} {fs : List (Str × V)} {ks : List Str} (e : fs.map (·.1) = ks) (h : ks.contains f = false) : putF f v fs = fs ++ [(f, v)] := by
  subst e
  induction fs with
  | nil => rfl
  | cons p r ih =>
    obtain ⟨k, u⟩ := p
    simp only [List.map_cons, List.contains_cons, Bool.or_eq_false_iff, beq_eq_false_iff_ne] at h
    show (if k = f then (k, v) :: r else (k, u) :: putF f v r) = _
    rw [if_neg (fun e => h.1 e.symm), ih (by simpa using h.2)]
    rfl
theorem put_old {f : Str} {v : V} {fs : List (Str × V)} {ks : List Str} (i : Nat) (e : fs.map (·.1) = ks) (h : ks.findIdx? (fun k => k == f) = some i) : putF f v fs = fs.set i (f, v) := by
  subst e
  induction fs generalizing i with
  | nil => simp at h
  | cons p r ih =>
    obtain ⟨k, u⟩ := p
    simp only [List.map_cons, List.findIdx?_cons] at h
    show (if k = f then (k, v) :: r else (k, u) :: putF f v r) = _
    by_cases q : k = f
    · subst q
      simp only [beq_self_eq_true, if_true, Option.some.injEq] at h
      subst h
      rw [if_pos rfl]
      rfl
    · rw [if_neg q]
      have q' : (k == f) = false := by simpa using q
      rw [q'] at h
      simp only [Bool.false_eq_true, if_false, Option.map_eq_some_iff] at h
      obtain ⟨j, hj, rfl⟩ := h
      rw [ih j hj]
      rfl
section
variable {σ : L2.St} {H : Hp} {te ta tb tv tl : TE} {t : TA} {v x y z : V} {K : PySem.W.Frag} {C : Addr} {D : Ends} {t1 t2 : TS} {tt : TT} {i j : Nat}
theorem q_fld {a dx : Addr} {fs : List (Str × V)} {f : Str} (hv : Val tv σ H y) (ha : Val ta σ H (.ref a)) (ho : H a = some (.ins C dx fs)) (hc : Cls K C) (hn : NoAttr K C f) (hl : fs.length < 1000) (q : t2 D σ (upd H a (.ins C dx (putF f y fs)))) : tSeq (sFld K ta tv f) t2 D σ H := by
  refine hv _ ?_
  refine ha _ ?_
  exact ⟨a, C, dx, fs, rfl, ho, hc, hn, hl, q⟩
/-! ### comprehensions -/
theorem wipe1 {σ : L2.St} {x : Option V} : wipe ((wipe σ [j]).set j x) [j] = wipe σ [j] := by
  show (((σ.set j none).set j x).set j none) = σ.set j none
  rw [List.set_set, List.set_set]
/-- a comprehension whose test and item leave the heap as it is: over anything of n turns -/
theorem lc_step {α : Type} {p : α → Bool} {u : α → V} {te : TE} {Dl : Addr} {σ2 : L2.St} {l : List α} {i : Nat} {x : α} {H H' : Hp} (pl : Pl H) (hD : H Dl = none) (hz : l.length ≤ 40000) (hx : l[i]? = some x) (hH : H' = upd H Dl (.lst (((l.take i).filter p).map u)))
    (ht : ∀ H', Same H H' → Pl H' → Ans tt σ2 H' (p x)) (he : p x = true → ∀ H', Same H H' → Pl H' → Val te σ2 H' (u x)) :
    tt σ2 H' fun b H3 => if b = true then te σ2 H3 fun y H4 => ∃ acc, H4 Dl = some (.lst acc) ∧ acc.length < sizeLine ∧ upd H4 Dl (.lst (acc ++ [y])) = upd H Dl (.lst (((l.take (i + 1)).filter p).map u)) else H3 = upd H Dl (.lst (((l.take (i + 1)).filter p).map u)) := by
  subst hH
  have sm : Same H (upd H Dl (.lst (((l.take i).filter p).map u))) := same_new hD
  have pl' : Pl (upd H Dl (.lst (((l.take i).filter p).map u))) := pl.upd rfl
  have hi : i < l.length := (List.getElem?_eq_some_iff.mp hx).1
  have et : l.take (i + 1) = l.take i ++ [x] := by
    rw [List.take_add_one, hx]
    rfl
  refine ht _ sm pl' _ ?_
  cases hp : p x with
  | true =>
    show te σ2 _ fun y H4 => _
    refine he hp _ sm pl' _ ⟨_, upd_same, ?_, ?_⟩
    · rw [List.length_map]
      refine Evl.sz_lt ?_
      have h1 := List.length_filter_le p (l.take i)
      rw [List.length_take] at h1
      omega
    · rw [upd_upd, et, List.filter_append, List.map_append, List.filter_cons, if_pos hp]
      rfl
  | false =>
    show upd H Dl _ = _
    rw [et, List.filter_append, List.filter_cons, if_neg (by rw [hp]; decide)]
    simp
theorem nw_lcL {α : Type} (l : List α) (g : α → V) (p : α → Bool) (u : α → V) {a : Addr} (pl : Pl H) (h : Val tl σ H (.ref a)) (hq : SqL K H a (l.map g)) (hz : l.length ≤ 40000)
    (ht : ∀ x ∈ l, ∀ H', Same H H' → Pl H' → Ans tt ((wipe σ [j]).set j (some (g x))) H' (p x)) (he : ∀ x ∈ l, p x = true → ∀ H', Same H H' → Pl H' → Val te ((wipe σ [j]).set j (some (g x))) H' (u x)) :
    New (tLc (iList K tl) (gName j) tt te [j]) σ H ((l.filter p).map u) := fun Q q => h _ ⟨a, rfl, ⟨_, hq⟩, fun Dl hD =>
  lc_list (K := K) (a := a) (xs := l.map g) (fun i H' => H' = upd H Dl (.lst (((l.take i).filter p).map u))) rfl (fun i H' _ e => by rw [e]; exact (same_new hD).seq hq) (fun i y H' hi e => by
    rw [List.getElem?_map] at hi
    cases hx : l[i]? with
    | none => rw [hx] at hi; cases hi
    | some x =>
      rw [hx] at hi
      have e2 : g x = y := Option.some.inj hi
      subst e2
      have hm : x ∈ l := List.mem_of_getElem? hx
      exact ⟨wipe1, lc_step pl hD hz hx e (ht x hm) (he x hm)⟩) (fun H' e => by
    rw [List.length_map, List.take_length] at e
    rw [e]
    exact q Dl hD)⟩
theorem nw_lcN {α : Type} (l : List α) (g : α → V) (p : α → Bool) (u : α → V) (pl : Pl H) (h : New tl σ H (l.map g)) (hz : l.length ≤ 40000) (Q : VK)
    (ht : ∀ x ∈ l, ∀ H', Same H H' → Pl H' → Ans tt ((wipe σ [j]).set j (some (g x))) H' (p x)) (he : ∀ x ∈ l, p x = true → ∀ H', Same H H' → Pl H' → Val te ((wipe σ [j]).set j (some (g x))) H' (u x))
    (q : ∀ a Dl, H a = none → upd H a (.lst (l.map g)) Dl = none → Q (.ref Dl) (upd (upd H a (.lst (l.map g))) Dl (.lst ((l.filter p).map u)))) : tLc (iList K tl) (gName j) tt te [j] σ H Q := h _ fun a ha => ⟨a, rfl, ⟨_, SqL.of upd_same⟩, fun Dl hD =>
  lc_list (K := K) (a := a) (xs := l.map g) (fun i H' => H' = upd (upd H a (.lst (l.map g))) Dl (.lst (((l.take i).filter p).map u))) rfl (fun i H' _ e => by rw [e]; exact (same_new hD).seq (SqL.of upd_same)) (fun i y H' hi e => by
    rw [List.getElem?_map] at hi
    cases hx : l[i]? with
    | none => rw [hx] at hi; cases hi
    | some x =>
      rw [hx] at hi
      have e2 : g x = y := Option.some.inj hi
      subst e2
      have hm : x ∈ l := List.mem_of_getElem? hx
      exact ⟨wipe1, lc_step (pl.upd rfl) hD hz hx e (fun H' s => ht x hm H' ((same_new ha).trans s)) (fun hp H' s => he x hm hp H' ((same_new ha).trans s))⟩) (fun H' e => by
    rw [List.length_map, List.take_length] at e
    rw [e]
    exact q a Dl ha hD)⟩
theorem nw_lcR2 {lo hi : Int} (n : Nat) (p : Nat → Bool) (u : Nat → V) (pl : Pl H) (h : ValA t σ H [.int lo, .int hi]) (hn : (hi - lo).toNat = n) (hb : 0 ≤ lo ∧ lo ≤ 40000 ∧ -40000 ≤ hi ∧ hi ≤ 40000) (hz : n ≤ 40000)
    (ht : ∀ x, x < n → ∀ H', Same H H' → Pl H' → Ans tt ((wipe σ [j]).set j (some (.int (lo + (x : Int))))) H' (p x)) (he : ∀ x, x < n → p x = true → ∀ H', Same H H' → Pl H' → Val te ((wipe σ [j]).set j (some (.int (lo + (x : Int))))) H' (u x)) :
    New (tLc (iRng2 t) (gName j) tt te [j]) σ H (((List.range n).filter p).map u) := fun Q q => h _ ⟨lo, hi, rfl, ⟨by omega, by omega, by omega, by omega⟩, fun Dl hD =>
  lc_range (lo := lo) (n := (hi - lo).toNat) (fun i H' => H' = upd H Dl (.lst ((((List.range n).take i).filter p).map u))) rfl (fun i H' hi' e => by
      have hx : (List.range n)[i]? = some i := by rw [List.getElem?_range (by omega)]
      exact ⟨wipe1, lc_step pl hD (by rw [List.length_range]; exact hz) hx e (ht i (by omega)) (he i (by omega))⟩) (fun H' e => by
    rw [hn, List.take_of_length_le (by rw [List.length_range]; exact Nat.le_refl _)] at e
    rw [e]
    exact q Dl hD)⟩
theorem nw_lcR1 {hi : Int} (n : Nat) (p : Nat → Bool) (u : Nat → V) (pl : Pl H) (h : ValA t σ H [.int hi]) (hn : hi = (n : Int)) (hz : n ≤ 40000)
    (ht : ∀ x, x < n → ∀ H', Same H H' → Pl H' → Ans tt ((wipe σ [j]).set j (some (.int (x : Int)))) H' (p x)) (he : ∀ x, x < n → p x = true → ∀ H', Same H H' → Pl H' → Val te ((wipe σ [j]).set j (some (.int (x : Int)))) H' (u x)) :
    New (tLc (iRng1 t) (gName j) tt te [j]) σ H (((List.range n).filter p).map u) := fun Q q => h _ ⟨hi, rfl, by omega, by omega, fun Dl hD =>
  lc_range (lo := 0) (n := hi.toNat) (fun i H' => H' = upd H Dl (.lst ((((List.range n).take i).filter p).map u))) rfl (fun i H' hi' e => by
      have hx : (List.range n)[i]? = some i := by rw [List.getElem?_range (by omega)]
      have e0 : (0 : Int) + (i : Int) = (i : Int) := Int.zero_add _
      rw [e0]
      exact ⟨wipe1, lc_step pl hD (by rw [List.length_range]; exact hz) hx e (ht i (by omega)) (he i (by omega))⟩) (fun H' e => by
    rw [show hi.toNat = n by omega, List.take_of_length_le (by rw [List.length_range]; exact Nat.le_refl _)] at e
    rw [e]
    exact q Dl hD)⟩
theorem filt_true {α : Type} (l : List α) : l.filter (fun _ => true) = l := List.filter_eq_self.mpr fun _ _ => rfl
theorem an_yes : Ans tYes σ H true := fun _ q => q

/-! ### lists of new tuples of whole numbers -/
def Tups (H : Hp) : List (List Int) → List V → Prop := Paired fun (ns : List Int) (v : V) => ∃ t, v = .ref t ∧ H t = some (.tup (ns.map V.int))
theorem Tups.same {H H' : Hp} (s : Same H H') : ∀ {ls : List (List Int)} {rs : List V}, Tups H ls rs → Tups H' ls rs
  | _, _, .nil => .nil
  | _, _, .cons ⟨t, e, h⟩ r => .cons ⟨t, e, s _ _ h⟩ (Tups.same s r)
theorem Tups.app {H : Hp} : ∀ {ls ms : List (List Int)} {rs qs : List V}, Tups H ls rs → Tups H ms qs → Tups H (ls ++ ms) (rs ++ qs)
  | _, _, _, _, .nil, b => b
  | _, _, _, _, .cons h r, b => .cons h (Tups.app r b)
theorem Tups.len {H : Hp} : ∀ {ls : List (List Int)} {rs : List V}, Tups H ls rs → rs.length = ls.length
  | _, _, .nil => rfl
  | _, _, .cons _ r => congrArg (· + 1) (Tups.len r)
theorem Tups.get {H : Hp} : ∀ {ls : List (List Int)} {rs : List V} {i : Nat} {v : V}, Tups H ls rs → rs[i]? = some v → ∃ ns t, ls[i]? = some ns ∧ v = .ref t ∧ H t = some (.tup (ns.map V.int))
  | _, _, _, _, .nil, e => by simp at e
  | _, _, 0, _, .cons (a := ns) ⟨t, e1, h⟩ r, e => by
    have e : _ = _ := Option.some.inj (show some _ = some _ from e)
    subst e
    exact ⟨ns, t, rfl, e1, h⟩
  | _, _, i + 1, _, .cons _ r, e => by
    obtain ⟨ns, t, h1, h2, h3⟩ := Tups.get (i := i) r (by simpa using e)
    exact ⟨ns, t, by simpa using h1, h2, h3⟩
def NewTs (te : TE) (σ : L2.St) (H : Hp) (ls : List (List Int)) : Prop := ∀ Q : VK, (∀ p rs H', H p = none → Same H H' → Pl H' → H' p = some (.lst rs) → Tups H' ls rs → Q (.ref p) H') → te σ H Q
/-- one turn of a comprehension whose item is a new tuple of whole numbers -/
theorem lcT_step {α : Type} {p : α → Bool} {u : α → List Int} {te : TE} {Dl : Addr} {σ2 : L2.St} {l : List α} {i : Nat} {x : α} {H H' : Hp} {rs : List V} (hD : H Dl = none) (hz : l.length ≤ 40000) (hx : l[i]? = some x)
    (sm : Same H H') (pl : Pl H') (hd : H' Dl = some (.lst rs)) (ht' : Tups H' (((l.take i).filter p).map u) rs)
    (ht : ∀ H', Same H H' → Pl H' → Ans tt σ2 H' (p x)) (he : p x = true → ∀ H', Same H H' → Pl H' → NewT te σ2 H' ((u x).map V.int)) :
    tt σ2 H' fun b H3 => if b = true then te σ2 H3 fun y H4 => ∃ acc, H4 Dl = some (.lst acc) ∧ acc.length < sizeLine ∧ ∃ rs', Same H (upd H4 Dl (.lst (acc ++ [y]))) ∧ Pl (upd H4 Dl (.lst (acc ++ [y]))) ∧ (upd H4 Dl (.lst (acc ++ [y]))) Dl = some (.lst rs') ∧ Tups (upd H4 Dl (.lst (acc ++ [y]))) (((l.take (i + 1)).filter p).map u) rs'
      else ∃ rs', Same H H3 ∧ Pl H3 ∧ H3 Dl = some (.lst rs') ∧ Tups H3 (((l.take (i + 1)).filter p).map u) rs' := by
  have hi : i < l.length := (List.getElem?_eq_some_iff.mp hx).1
  have et : l.take (i + 1) = l.take i ++ [x] := by
    rw [List.take_add_one, hx]
    rfl
  refine ht _ sm pl _ ?_
  cases hp : p x with
  | true =>
    show te σ2 _ fun y H4 => _
    refine he hp _ sm pl _ fun q hq => ?_
    have nqD : Dl ≠ q := ne_of_none hd hq
    refine ⟨rs, by rw [upd_ne nqD]; exact hd, ?_, rs ++ [.ref q], ?_, ?_, upd_same, ?_⟩
    · refine Evl.sz_lt ?_
      rw [ht'.len, List.length_map]
      have h1 := List.length_filter_le p (l.take i)
      rw [List.length_take] at h1
      omega
    · intro b o e
      rw [upd_ne (ne_of_none e hD), upd_ne (ne_of_none (sm b o e) hq)]
      exact sm b o e
    · exact (pl.upd rfl).upd rfl
    · rw [et, List.filter_append, List.map_append, List.filter_cons, if_pos hp]
      -- the old tuples stand
      have keep : ∀ (ls : List (List Int)) (ws : List V), Tups H' ls ws → Tups (upd (upd H' q (.tup ((u x).map V.int))) Dl (.lst (rs ++ [.ref q]))) ls ws := by
        intro ls ws k
        induction k with
        | nil => exact .nil
        | cons a r ih =>
          obtain ⟨t, e1, h⟩ := a
          refine .cons ⟨t, e1, ?_⟩ ih
          rw [upd_ne (ne_of h hd (by intro z; cases z)), upd_ne (ne_of_none h hq)]
          exact h
      refine (keep _ _ ht').app (.cons ⟨q, rfl, ?_⟩ .nil)
      rw [upd_ne (Ne.symm nqD), upd_same]
  | false =>
    show ∃ rs', _
    refine ⟨rs, sm, pl, hd, ?_⟩
    rw [et, List.filter_append, List.filter_cons, if_neg (by rw [hp]; decide)]
    simpa using ht'
theorem nt_lcR2 {lo hi : Int} (n : Nat) (p : Nat → Bool) (u : Nat → List Int) (pl : Pl H) (h : ValA t σ H [.int lo, .int hi]) (hn : (hi - lo).toNat = n) (hb : 0 ≤ lo ∧ lo ≤ 40000 ∧ -40000 ≤ hi ∧ hi ≤ 40000) (hz : n ≤ 40000)
    (ht : ∀ x, x < n → ∀ H', Same H H' → Pl H' → Ans tt ((wipe σ [j]).set j (some (.int (lo + (x : Int))))) H' (p x)) (he : ∀ x, x < n → p x = true → ∀ H', Same H H' → Pl H' → NewT te ((wipe σ [j]).set j (some (.int (lo + (x : Int))))) H' ((u x).map V.int)) :
    NewTs (tLc (iRng2 t) (gName j) tt te [j]) σ H (((List.range n).filter p).map u) := fun Q q => h _ ⟨lo, hi, rfl, ⟨by omega, by omega, by omega, by omega⟩, fun Dl hD =>
  lc_range (lo := lo) (n := (hi - lo).toNat) (fun i H' => ∃ rs, Same H H' ∧ Pl H' ∧ H' Dl = some (.lst rs) ∧ Tups H' ((((List.range n).take i).filter p).map u) rs) ⟨[], same_new hD, pl.upd rfl, upd_same, .nil⟩ (fun i H' hi' ⟨rs, sm, pl', hd, tu⟩ => by
      have hx : (List.range n)[i]? = some i := by rw [List.getElem?_range (by omega)]
      exact ⟨wipe1, lcT_step hD (by rw [List.length_range]; exact hz) hx sm pl' hd tu (ht i (by omega)) (he i (by omega))⟩) (fun H' ⟨rs, sm, pl', hd, tu⟩ => by
    rw [hn, List.take_of_length_le (by rw [List.length_range]; exact Nat.le_refl _)] at tu
    exact q Dl rs H' hD sm pl' hd tu)⟩
theorem nt_lcR1 {hi : Int} (n : Nat) (p : Nat → Bool) (u : Nat → List Int) (pl : Pl H) (h : ValA t σ H [.int hi]) (hn : hi = (n : Int)) (hz : n ≤ 40000)
    (ht : ∀ x, x < n → ∀ H', Same H H' → Pl H' → Ans tt ((wipe σ [j]).set j (some (.int (x : Int)))) H' (p x)) (he : ∀ x, x < n → p x = true → ∀ H', Same H H' → Pl H' → NewT te ((wipe σ [j]).set j (some (.int (x : Int)))) H' ((u x).map V.int)) :
    NewTs (tLc (iRng1 t) (gName j) tt te [j]) σ H (((List.range n).filter p).map u) := fun Q q => h _ ⟨hi, rfl, by omega, by omega, fun Dl hD =>
  lc_range (lo := 0) (n := hi.toNat) (fun i H' => ∃ rs, Same H H' ∧ Pl H' ∧ H' Dl = some (.lst rs) ∧ Tups H' ((((List.range n).take i).filter p).map u) rs) ⟨[], same_new hD, pl.upd rfl, upd_same, .nil⟩ (fun i H' hi' ⟨rs, sm, pl', hd, tu⟩ => by
      have hx : (List.range n)[i]? = some i := by rw [List.getElem?_range (by omega)]
      have e0 : (0 : Int) + (i : Int) = (i : Int) := Int.zero_add _
      rw [e0]
      exact ⟨wipe1, lcT_step hD (by rw [List.length_range]; exact hz) hx sm pl' hd tu (ht i (by omega)) (he i (by omega))⟩) (fun H' ⟨rs, sm, pl', hd, tu⟩ => by
    rw [show hi.toNat = n by omega, List.take_of_length_le (by rw [List.length_range]; exact Nat.le_refl _)] at tu
    exact q Dl rs H' hD sm pl' hd tu)⟩

/-! ### loops -/
theorem q_forL {a : Addr} {xs : List V} (h : Val tl σ H (.ref a)) (hx : SqL K H a xs) (Pv : Nat → L2.St → Hp → Prop) (h0 : Pv 0 σ H) (hl : ∀ i σ' H', Pv i σ' H' → SqL K H' a xs)
    (hs : ∀ i x σ' H', xs[i]? = some x → Pv i σ' H' → t1 { D with nx := Pv (i + 1), ct := Pv (i + 1), bk := t2 D } (σ'.set j (some x)) H') (hd : ∀ σ' H', Pv xs.length σ' H' → t2 D σ' H') : tSeq (tFor (iList K tl) (gName j) t1) t2 D σ H :=
  h _ ⟨a, rfl, ⟨xs, hx⟩, for_list (D := { D with nx := t2 D }) Pv h0 (fun i σ' H' _ p => hl i σ' H' p) hs hd⟩
theorem q_forR1 {hi : Int} (n : Nat) (h : ValA t σ H [.int hi]) (hn : hi = (n : Int)) (hz : n ≤ 1000000) (Pv : Nat → L2.St → Hp → Prop) (h0 : Pv 0 σ H)
    (hs : ∀ (i : Nat) σ' H', i < n → Pv i σ' H' → t1 { D with nx := Pv (i + 1), ct := Pv (i + 1), bk := t2 D } (σ'.set j (some (.int (i : Int)))) H') (hd : ∀ σ' H', Pv n σ' H' → t2 D σ' H') : tSeq (tFor (iRng1 t) (gName j) t1) t2 D σ H :=
  h _ ⟨hi, rfl, by omega, by omega, for_range (D := { D with nx := t2 D }) (lo := 0) (n := hi.toNat) Pv h0 (fun i σ' H' hi' p => by
    have e0 : (0 : Int) + (i : Int) = (i : Int) := Int.zero_add _
    show t1 { D with nx := Pv (i + 1), ct := Pv (i + 1), bk := t2 D } (σ'.set j (some (.int ((0 : Int) + (i : Int))))) H'
    rw [e0]
    exact hs i σ' H' (by omega) p) (by rw [show hi.toNat = n by omega]; exact hd)⟩
theorem q_forR2 {lo hi : Int} (n : Nat) (h : ValA t σ H [.int lo, .int hi]) (hn : (hi - lo).toNat = n) (hb : 0 ≤ lo ∧ lo ≤ 1000000 ∧ -1000000 ≤ hi ∧ hi ≤ 1000000) (Pv : Nat → L2.St → Hp → Prop) (h0 : Pv 0 σ H)
    (hs : ∀ (i : Nat) σ' H', i < n → Pv i σ' H' → t1 { D with nx := Pv (i + 1), ct := Pv (i + 1), bk := t2 D } (σ'.set j (some (.int (lo + (i : Int))))) H') (hd : ∀ σ' H', Pv n σ' H' → t2 D σ' H') : tSeq (tFor (iRng2 t) (gName j) t1) t2 D σ H :=
  h _ ⟨lo, hi, rfl, ⟨by omega, by omega, by omega, by omega⟩, for_range (D := { D with nx := t2 D }) (lo := lo) (n := (hi - lo).toNat) Pv h0 (fun i σ' H' hi' p => hs i σ' H' (by omega) p) (by rw [hn]; exact hd)⟩
theorem s_forR1 {hi : Int} (n : Nat) (h : ValA t σ H [.int hi]) (hn : hi = (n : Int)) (hz : n ≤ 1000000) (Pv : Nat → L2.St → Hp → Prop) (h0 : Pv 0 σ H)
    (hs : ∀ (i : Nat) σ' H', i < n → Pv i σ' H' → t1 { D with nx := Pv (i + 1), ct := Pv (i + 1), bk := D.nx } (σ'.set j (some (.int (i : Int)))) H') (hd : ∀ σ' H', Pv n σ' H' → D.nx σ' H') : tFor (iRng1 t) (gName j) t1 D σ H :=
  q_forR1 (t2 := tNext) n h hn hz Pv h0 hs hd
theorem q_while (W : Nat → L2.St → Hp → Prop) (m0 : Nat) (h0 : W m0 σ H)
    (hs : ∀ m σ' H', W m σ' H' → ∃ b, Ans tt σ' H' b ∧ (b = true → ∃ N : L2.St → Hp → Prop, (∀ σ2 H2, N σ2 H2 → ∃ m', m' < m ∧ W m' σ2 H2) ∧ t1 { D with nx := N, ct := N, bk := t2 D } σ' H') ∧ (b = false → t2 D σ' H')) : tSeq (tWhile tt t1) t2 D σ H :=
  ⟨W, ⟨m0, h0⟩, fun m σ' H' hw => by
    obtain ⟨b, hb, h1, h2⟩ := hs m σ' H' hw
    refine hb _ ?_
    cases b with
    | true => exact h1 rfl
    | false => exact h2 rfl⟩
end
end HW
namespace HW
open PySem PySem.Spec PyProof.Rows L2
section
variable {σ : L2.St} {H : Hp} {te ta tb tv tl : TE} {t : TA} {v x y z : V} {K : PySem.W.Frag} {C : Addr} {D : Ends} {t1 t2 : TS} {tt : TT} {i j : Nat}
theorem s_while (W : Nat → L2.St → Hp → Prop) (m0 : Nat) (h0 : W m0 σ H)
    (hs : ∀ m σ' H', W m σ' H' → ∃ b, Ans tt σ' H' b ∧ (b = true → ∃ N : L2.St → Hp → Prop, (∀ σ2 H2, N σ2 H2 → ∃ m', m' < m ∧ W m' σ2 H2) ∧ t1 { D with nx := N, ct := N, bk := D.nx } σ' H') ∧ (b = false → D.nx σ' H')) : tWhile tt t1 D σ H :=
  q_while (t2 := tNext) W m0 h0 hs
theorem s_forL {a : Addr} {xs : List V} (h : Val tl σ H (.ref a)) (hx : SqL K H a xs) (Pv : Nat → L2.St → Hp → Prop) (h0 : Pv 0 σ H) (hl : ∀ i σ' H', Pv i σ' H' → SqL K H' a xs)
    (hs : ∀ i x σ' H', xs[i]? = some x → Pv i σ' H' → t1 { D with nx := Pv (i + 1), ct := Pv (i + 1), bk := D.nx } (σ'.set j (some x)) H') (hd : ∀ σ' H', Pv xs.length σ' H' → D.nx σ' H') : tFor (iList K tl) (gName j) t1 D σ H :=
  q_forL (t2 := tNext) h hx Pv h0 hl hs hd
end
end HW

/-! # Walk: min of a list of tuples; extend, append; comprehensions over pairs -/
namespace HW
open PySem PySem.Spec PyProof.Rows L2
/-! ### min -/
def pyInts (ns : List Int) : List PyData := ns.map PyData.int
theorem lt_ints : ∀ (a b : List Int), PyProof.Rows.lexLt PyProof.Rows.itemOrd (PySem.W.keyToksAll (pyInts a)) (PySem.W.keyToksAll (pyInts b)) = HF.lexB a b
  | [], [] => rfl
  | [], _ :: _ => rfl
  | _ :: _, [] => rfl
  | x :: a, y :: b => by
    show PyProof.Rows.lexLt PyProof.Rows.itemOrd (PySem.W.keyToksAll (.int x :: pyInts a)) (PySem.W.keyToksAll (.int y :: pyInts b)) = if x = y then HF.lexB a b else decide (x < y)
    by_cases h : x = y
    · subst h
      have al : PySem.W.alike (.int x) (.int x) = true := by rw [PySem.W.alike]
      rw [if_pos rfl, PySem.W.dataLt_all_yes al (PySem.W.eqv_refl_alike _ al), lt_ints a b]
    · have e : PyData.eqv (.int x) (.int y) = false := by
        rw [PyData.eqv]
        simpa using h
      have al : PySem.W.alike (.int x) (.int y) = true := by rw [PySem.W.alike]
      rw [if_neg h, PySem.W.dataLt_all_no al e, PySem.W.dataLt_int]
theorem alike_ints : ∀ (a b : List Int), PySem.W.alikeAll (pyInts a) (pyInts b) = true
  | [], _ => by unfold pyInts; rw [List.map_nil, PySem.W.alikeAll]
  | x :: a, [] => by
    show PySem.W.alikeAll (.int x :: pyInts a) [] = true
    rw [PySem.W.alikeAll]
  | x :: a, y :: b => by
    show PySem.W.alikeAll (.int x :: pyInts a) (.int y :: pyInts b) = true
    rw [PySem.W.alikeAll, alike_ints a b]
    rfl
theorem depth_ints : ∀ a : List Int, PyData.depthAll (pyInts a) = 0
  | [] => rfl
  | x :: a => by
    show PyData.depthAll (.int x :: pyInts a) = 0
    rw [PyData.depthAll, depth_ints a]
    rfl
theorem minD_tups : ∀ (l : List (List Int)) (x : List Int), PySem.W.minD (.tuple (pyInts x)) (l.map fun ns => .tuple (pyInts ns)) = .tuple (pyInts (HF.minB x l))
  | [], _ => rfl
  | y :: l, x => by
    show PySem.W.minD (if PySem.W.dataLt (.tuple (pyInts y)) (.tuple (pyInts x)) = true then .tuple (pyInts y) else .tuple (pyInts x)) (l.map fun ns => .tuple (pyInts ns)) = .tuple (pyInts (HF.minB (if HF.lexB y x = true then y else x) l))
    rw [PySem.W.dataLt_tuple, lt_ints]
    split
    · exact minD_tups l y
    · exact minD_tups l x
theorem pyInts_inj {a b : List Int} (h : pyInts a = pyInts b) : a = b := by
  unfold pyInts at h
  exact (List.map_inj_right (fun _ _ e => PyData.int.inj e)).mp h
def rMinD (K : PySem.W.Frag) : List V → Hp → VK → Prop := fun vs H Q => ∃ (a : Addr) (rs : List V) (ns : List Int) (ls : List (List Int)), vs = [V.ref a] ∧ SqL K H a rs ∧ Tups H (ns :: ls) rs ∧ ∀ t, H t = some (.tup ((HF.minB ns ls).map V.int)) → Q (.ref t) H
theorem dp_ints {K : PySem.W.Frag} {H : Hp} : ∀ ns : List Int, DpAll K H (ns.map V.int) (pyInts ns)
  | [] => .nil
  | n :: r => .cons (.int n) (dp_ints r)
theorem dp_tups {K : PySem.W.Frag} {H : Hp} : ∀ {ls : List (List Int)} {rs : List V}, Tups H ls rs → DpAll K H rs (ls.map fun ns => .tuple (pyInts ns))
  | _, _, .nil => .nil
  | _, _, .cons ⟨t, e, h⟩ r => by
    subst e
    exact .cons (.tup (SqT.of h) (dp_ints _)) (dp_tups r)
theorem depth_tups : ∀ ls : List (List Int), PyData.depthAll (ls.map fun ns => .tuple (pyInts ns)) ≤ 1
  | [] => Nat.zero_le _
  | x :: r => by
    show PyData.depthAll (.tuple (pyInts x) :: r.map fun ns => .tuple (pyInts ns)) ≤ 1
    rw [PyData.depthAll, PyData.depth, depth_ints]
    exact Nat.max_le.mpr ⟨by omega, depth_tups r⟩
theorem hu64 {k : Nat} {A : Around} (hr : Room k A) : A.units + 64 < cLine := hr.units
theorem cr_minD {X : Cx} (hc : X.calm = true) (hu : X.A.units + 64 < cLine) : CallR X (.builtin "min") (rMinD X.K) := by
  intro pins s σ H vs us Q I r h
  obtain ⟨a, rs, ns, ls, rfl, hs, ht, q⟩ := h
  obtain ⟨its, rv, hl, _⟩ := I.list hs
  rw [Vals.ref1 r]
  obtain ⟨as, hr⟩ := Dp.readsAll I _ _ its (dp_tups ht) rv
  have hd := depth_tups (ns :: ls)
  refine PySem.W.min_list_data (x := .tuple (pyInts ns)) (xs := ls.map fun ns => .tuple (pyInts ns)) (as := as) (I.ok.hd hc) hl.isList (by simpa using hr) ⟨fun x hx y hy => ?_, fun x hx => ?_⟩ (by
    show X.A.units + 1 + PyData.depthAll ((ns :: ls).map fun ns => .tuple (pyInts ns)) < cLine
    omega) fun i v h' tk bs hv hrd hk => ?_
  · obtain ⟨p, _, rfl⟩ := List.mem_map.mp (show x ∈ (ns :: ls).map fun ns => PyData.tuple (pyInts ns) from hx)
    obtain ⟨p', _, rfl⟩ := List.mem_map.mp (show y ∈ (ns :: ls).map fun ns => PyData.tuple (pyInts ns) from hy)
    rw [PySem.W.alike]
    exact alike_ints p p'
  · obtain ⟨p, _, rfl⟩ := List.mem_map.mp (show x ∈ (ns :: ls).map fun ns => PyData.tuple (pyInts ns) from hx)
    intro z
    cases z
  · have hv' : its[i]? = some v := by simpa using hv
    have hi : i < rs.length := by
      have := (List.getElem?_eq_some_iff.mp hv').1
      rw [rv.length]
      exact this
    obtain ⟨x, hx⟩ : ∃ x, rs[i]? = some x := ⟨_, List.getElem?_eq_getElem hi⟩
    obtain ⟨u, hu', ru⟩ := rv.get hx
    rw [hv'] at hu'
    cases hu'
    obtain ⟨ms, t, h1, rfl, h2⟩ := ht.get hx
    cases ru
    have I1 : Inv X pins σ H { s with heap := h', toks := tk } := I.kept hk
    obtain ⟨as', r2⟩ := Dp.reads I1 (.tuple (pyInts ms)) (.ref t) (.ref t) (.tup (SqT.of h2) (dp_ints _)) rfl
    rw [minD_tups] at hrd
    have e := PySem.W.alike_unique (.tuple (pyInts ms)) (.tuple (pyInts (HF.minB ns ls))) (.ref t) _ _ (by rw [PySem.W.alike]; exact alike_ints _ _) r2 hrd
    have e2 : ms = HF.minB ns ls := pyInts_inj (PyData.tuple.inj e)
    subst e2
    exact ⟨.ref t, H, I1, rfl, q t h2⟩
/-! ### statements -/
section
variable {σ : L2.St} {H : Hp} {te ta tb tl : TE} {t : TA} {v x y z : V} {K : PySem.W.Frag} {C : Addr} {D : Ends} {t1 t2 : TS} {tt : TT} {i j k : Nat} {l : Addr} {xs ys : List V}
theorem s_ext (hl : H l = some (.lst xs)) (ha : Val ta σ H (.ref l)) (h : New te σ H ys) (hz : xs.length + ys.length ≤ 1000000) (k : ∀ q, H q = none → D.nx σ (upd (upd H q (.lst ys)) l (.lst (xs ++ ys)))) : tDrop (tBM K "list" rExtend ta (tCons te tNil)) D σ H :=
  ha _ ⟨Or.inl ⟨rfl, xs, SqL.of hl⟩, h _ fun q hq => ⟨l, q, xs, ys, rfl, rfl, by rw [upd_ne (ne_of_none hl hq)]; exact hl, upd_same, Nat.le_trans hz (by decide), k q hq⟩⟩
theorem s_extV {b : Addr} (hl : H l = some (.lst xs)) (ha : Val ta σ H (.ref l)) (h : Val te σ H (.ref b)) (hb : H b = some (.lst ys)) (hz : xs.length + ys.length ≤ 16777216) (k : D.nx σ (upd H l (.lst (xs ++ ys)))) : tDrop (tBM K "list" rExtend ta (tCons te tNil)) D σ H :=
  ha _ ⟨Or.inl ⟨rfl, xs, SqL.of hl⟩, h _ ⟨l, b, xs, ys, rfl, rfl, hl, hb, by rw [sizeLine_eq]; exact hz, k⟩⟩
theorem s_app (hl : H l = some (.lst xs)) (ha : Val ta σ H (.ref l)) (h : Val te σ H v) (hz : xs.length ≤ 1000000) (k : D.nx σ (upd H l (.lst (xs ++ [v])))) : tDrop (tBM K "list" rAppend ta (tCons te tNil)) D σ H :=
  ha _ ⟨Or.inl ⟨rfl, xs, SqL.of hl⟩, h _ ⟨l, xs, v, rfl, rfl, hl, Nat.lt_of_le_of_lt hz (by decide), k⟩⟩
theorem s_appT (hl : H l = some (.lst xs)) (ha : Val ta σ H (.ref l)) (h : NewT te σ H ys) (hz : xs.length ≤ 1000000) (k : ∀ q, H q = none → D.nx σ (upd (upd H q (.tup ys)) l (.lst (xs ++ [.ref q])))) : tDrop (tBM K "list" rAppend ta (tCons te tNil)) D σ H :=
  ha _ ⟨Or.inl ⟨rfl, xs, SqL.of hl⟩, h _ fun q hq => ⟨l, xs, .ref q, rfl, rfl, by rw [upd_ne (ne_of_none hl hq)]; exact hl, Nat.lt_of_le_of_lt hz (by decide), k q hq⟩⟩
theorem s_appN (hl : H l = some (.lst xs)) (ha : Val ta σ H (.ref l)) (h : New te σ H ys) (hz : xs.length ≤ 1000000) (k : ∀ q, H q = none → D.nx σ (upd (upd H q (.lst ys)) l (.lst (xs ++ [.ref q])))) : tDrop (tBM K "list" rAppend ta (tCons te tNil)) D σ H :=
  ha _ ⟨Or.inl ⟨rfl, xs, SqL.of hl⟩, h _ fun q hq => ⟨l, xs, .ref q, rfl, rfl, by rw [upd_ne (ne_of_none hl hq)]; exact hl, Nat.lt_of_le_of_lt hz (by decide), k q hq⟩⟩
/-- a sequence: the first statement, then the rest -/
theorem q_seq (h : t1 { D with nx := t2 D } σ H) : tSeq t1 t2 D σ H := h
/-- what was tracked at H is so behind a store at a new place -/
theorem same_upd {H H' : Hp} {p : Addr} {o : HO} (s : Same H H') (n : H p = none) : Same H (upd H' p o) := fun a u e => by
  rw [upd_ne (ne_of_none e n)]
  exact s a u e
/-! ### comprehensions over pairs -/
def pr2 (x : Nat × Nat) : List Int := [(x.1 : Int), (x.2 : Int)]
theorem wipe2 (hjk : j ≠ k) {x y : Option V} : wipe (((wipe σ [j, k]).set j x).set k y) [j, k] = wipe σ [j, k] := by
  show (((((σ.set k none).set j none).set j x).set k y).set k none).set j none = (σ.set k none).set j none
  rw [List.set_set, List.set_set, List.set_comm _ _ hjk, List.set_set, List.set_comm _ _ (Ne.symm hjk), List.set_comm _ _ hjk, List.set_set, List.set_comm _ _ (Ne.symm hjk)]
/-- a, b = the pair at t -/
theorem g_pair {a b : V} {t : Addr} {Q : L2.St → Hp → Prop} (h : SqT K H t [a, b]) (q : Q ((σ.set j (some a)).set k (some b)) H) : gTup K 2 (gCons (gName j) (gCons (gName k) gNil)) (.ref t) σ H Q :=
  ⟨t, [a, b], rfl, h, rfl, a, [b], rfl, b, [], rfl, rfl, q⟩
/-- over a list of new pairs; the items leave the heap as it is -/
theorem lc_pairs (hjk : j ≠ k) (ls : List (Nat × Nat)) (p : Nat × Nat → Bool) (u : Nat × Nat → V) (h : NewTs tl σ H (ls.map pr2)) (hz : ls.length ≤ 40000) (Q : VK)
    (ht : ∀ x ∈ ls, ∀ H', Same H H' → Pl H' → Ans tt (((wipe σ [j, k]).set j (some (.int (x.1 : Int)))).set k (some (.int (x.2 : Int)))) H' (p x))
    (he : ∀ x ∈ ls, p x = true → ∀ H', Same H H' → Pl H' → Val te (((wipe σ [j, k]).set j (some (.int (x.1 : Int)))).set k (some (.int (x.2 : Int)))) H' (u x))
    (q : ∀ Dl H', H Dl = none → Same H H' → Pl H' → H' Dl = some (.lst ((ls.filter p).map u)) → Q (.ref Dl) H') : tLc (iList K tl) (gTup K 2 (gCons (gName j) (gCons (gName k) gNil))) tt te [j, k] σ H Q := h _ fun a rs H1 ha s1 pl1 h1 tu => ⟨a, rfl, ⟨_, SqL.of h1⟩, fun Dl hD =>
  lc_list (K := K) (a := a) (xs := rs) (fun i H' => H' = upd H1 Dl (.lst (((ls.take i).filter p).map u))) rfl (fun i H' _ e => by rw [e]; exact (same_new hD).seq (SqL.of h1)) (fun i y H' hi e => by
    obtain ⟨ns, t, e1, rfl, e3⟩ := tu.get hi
    rw [List.getElem?_map] at e1
    cases hx : ls[i]? with
    | none => rw [hx] at e1; cases e1
    | some x =>
      rw [hx] at e1
      have e1 : pr2 x = ns := Option.some.inj e1
      subst e1
      have hm : x ∈ ls := List.mem_of_getElem? hx
      refine g_pair (a := .int (x.1 : Int)) (b := .int (x.2 : Int)) (t := t) (SqT.of (by rw [e, upd_ne (ne_of_none e3 hD)]; exact e3)) ?_
      exact ⟨wipe2 hjk, lc_step (H := H1) pl1 hD hz hx e (fun H' s => ht x hm H' (s1.trans s)) (fun hp H' s => he x hm hp H' (s1.trans s))⟩) (fun H' e => by
    rw [show rs.length = ls.length by rw [tu.len, List.length_map], List.take_length] at e
    refine q Dl H' ?_ ?_ ?_ ?_
    · exact s1.free hD
    · rw [e]; exact same_upd s1 (s1.free hD)
    · rw [e]; exact pl1.upd rfl
    · rw [e]; exact upd_same)⟩
/-- .. the items new tuples -/
theorem nt_pairs (hjk : j ≠ k) (ls : List (Nat × Nat)) (p : Nat × Nat → Bool) (u : Nat × Nat → List Int) (h : NewTs tl σ H (ls.map pr2)) (hz : ls.length ≤ 40000)
    (ht : ∀ x ∈ ls, ∀ H', Same H H' → Pl H' → Ans tt (((wipe σ [j, k]).set j (some (.int (x.1 : Int)))).set k (some (.int (x.2 : Int)))) H' (p x))
    (he : ∀ x ∈ ls, p x = true → ∀ H', Same H H' → Pl H' → NewT te (((wipe σ [j, k]).set j (some (.int (x.1 : Int)))).set k (some (.int (x.2 : Int)))) H' ((u x).map V.int)) :
    NewTs (tLc (iList K tl) (gTup K 2 (gCons (gName j) (gCons (gName k) gNil))) tt te [j, k]) σ H ((ls.filter p).map u) := fun Q q => h _ fun a rs H1 ha s1 pl1 h1 tu => ⟨a, rfl, ⟨_, SqL.of h1⟩, fun Dl hD =>
  lc_list (K := K) (a := a) (xs := rs) (fun i H' => ∃ qs, Same H1 H' ∧ Pl H' ∧ H' Dl = some (.lst qs) ∧ Tups H' (((ls.take i).filter p).map u) qs) ⟨[], same_new hD, pl1.upd rfl, upd_same, .nil⟩ (fun i H' _ ⟨_, s2, _⟩ => s2.seq (SqL.of h1)) (fun i y H' hi ⟨qs, s2, pl2, hd, tu2⟩ => by
    obtain ⟨ns, t, e1, rfl, e3⟩ := tu.get hi
    rw [List.getElem?_map] at e1
    cases hx : ls[i]? with
    | none => rw [hx] at e1; cases e1
    | some x =>
      rw [hx] at e1
      have e1 : pr2 x = ns := Option.some.inj e1
      subst e1
      have hm : x ∈ ls := List.mem_of_getElem? hx
      refine g_pair (a := .int (x.1 : Int)) (b := .int (x.2 : Int)) (t := t) (SqT.of (s2 _ _ e3)) ?_
      exact ⟨wipe2 hjk, lcT_step (H := H1) hD hz hx s2 pl2 hd tu2 (fun H' s => ht x hm H' (s1.trans s)) (fun hp H' s => he x hm hp H' (s1.trans s))⟩) (fun H' ⟨qs, s2, pl2, hd, tu2⟩ => by
    rw [show rs.length = ls.length by rw [tu.len, List.length_map], List.take_length] at tu2
    exact q Dl qs H' (s1.free hD) (s1.trans s2) pl2 hd tu2)⟩
end
end HW
namespace HW
open PySem PySem.Spec PyProof.Rows L2
theorem lp1 {f : Str} {v : V} : (putF f v []).length < 1000 := Nat.lt_of_le_of_lt (length_putF f v []) (by show 0 + 1 < 1000; decide)
theorem lp2 {f f2 : Str} {v v2 : V} : (putF f2 v2 (putF f v [])).length < 1000 := Nat.lt_of_le_of_lt (Nat.le_trans (length_putF f2 v2 _) (Nat.succ_le_succ (length_putF f v []))) (by show 2 < 1000; decide)
theorem lp3 {f f2 f3 : Str} {v v2 v3 : V} : (putF f3 v3 (putF f2 v2 (putF f v []))).length < 1000 := Nat.lt_of_le_of_lt (Nat.le_trans (length_putF f3 v3 _) (Nat.succ_le_succ (Nat.le_trans (length_putF f2 v2 _) (Nat.succ_le_succ (length_putF f v []))))) (by show 3 < 1000; decide)
theorem put2 {f f2 : Str} {v v2 : V} (h : ([f] : List Str).contains f2 = false) : putF f2 v2 (putF f v []) = [(f, v), (f2, v2)] := put_new (ks := [f]) rfl h
theorem put3 {f f2 f3 : Str} {v v2 v3 : V} (h : ([f] : List Str).contains f2 = false) (h3 : ([f, f2] : List Str).contains f3 = false) : putF f3 v3 (putF f2 v2 (putF f v [])) = [(f, v), (f2, v2), (f3, v3)] := by
  rw [put2 h]
  exact put_new (ks := [f, f2]) rfl h3
theorem put4 {f f2 f3 f4 : Str} {v v2 v3 v4 : V} (h : ([f] : List Str).contains f2 = false) (h3 : ([f, f2] : List Str).contains f3 = false) (h4 : ([f, f2, f3] : List Str).contains f4 = false) :
    putF f4 v4 (putF f3 v3 (putF f2 v2 (putF f v []))) = [(f, v), (f2, v2), (f3, v3), (f4, v4)] := by
  rw [put3 h h3]
  exact put_new (ks := [f, f2, f3]) rfl h4
end HW
namespace HW
open PySem PySem.Spec PyProof.Rows L2
theorem Tups.put {H : Hp} {l : Addr} {xs ys : List V} (hl : H l = some (.lst xs)) : ∀ {ls : List (List Int)} {ws : List V}, Tups H ls ws → Tups (upd H l (.lst ys)) ls ws
  | _, _, .nil => .nil
  | _, _, .cons ⟨t, e1, h⟩ r => .cons ⟨t, e1, by
      rw [upd_ne (ne_of h hl (by intro z; cases z))]
      exact h⟩ (Tups.put hl r)
/-- found.extend(new pairs) -/
theorem s_extTs {σ : L2.St} {H : Hp} {te ta : TE} {K : PySem.W.Frag} {D : Ends} {l : Addr} {rs : List V} {ls ms : List (List Int)} (hl : H l = some (.lst rs)) (ha : Val ta σ H (.ref l)) (h : NewTs te σ H ms) (hz : rs.length + ms.length ≤ 1000000) (tu : Tups H ls rs)
    (k : ∀ H' rs', (∀ b o, H b = some o → b ≠ l → H' b = some o) → Pl H' → H' l = some (.lst rs') → Tups H' (ls ++ ms) rs' → D.nx σ H') : tDrop (tBM K "list" rExtend ta (tCons te tNil)) D σ H :=
  ha _ ⟨Or.inl ⟨rfl, rs, SqL.of hl⟩, h _ fun q ys H2 hq s2 pl2 h2 tu2 => ⟨l, q, rs, ys, rfl, rfl, s2 _ _ hl, h2, by rw [tu2.len]; exact Nat.le_trans hz (by decide),
    k _ (rs ++ ys) (fun b o e hb => by rw [upd_ne hb]; exact s2 b o e) (pl2.upd rfl) upd_same (((tu.same s2).app tu2).put (s2 _ _ hl))⟩⟩
theorem same_but {H H1 H2 : Hp} {l : Addr} (n : H l = none) (s : Same H H1) (k : ∀ b o, H1 b = some o → b ≠ l → H2 b = some o) : Same H H2 := fun b o e => k b o (s b o e) (ne_of_none e n)
end HW

/-! # Walk: values behind which the heap may have grown -/
namespace HW
open PySem PySem.Spec PyProof.Rows L2
section
variable {σ : L2.St} {H : Hp} {te ta tb tl : TE} {t : TA} {v x y z : V} {K : PySem.W.Frag} {C : Addr} {D : Ends} {t1 t2 : TS} {tt : TT} {i j k : Nat} {sp : Sp} {E : XK}
def GVal (te : TE) (σ : L2.St) (H : Hp) (v : V) : Prop := ∀ Q : VK, (∀ H2, Same H H2 → Pl H2 → Q v H2) → te σ H Q
def GAns (tt : TT) (σ : L2.St) (H : Hp) (b : Bool) : Prop := ∀ Q : Bool → Hp → Prop, (∀ H2, Same H H2 → Pl H2 → Q b H2) → tt σ H Q
def GNew (te : TE) (σ : L2.St) (H : Hp) (xs : List V) : Prop := ∀ Q : VK, (∀ p H2, H p = none → Same H H2 → Pl H2 → H2 p = some (.lst xs) → Q (.ref p) H2) → te σ H Q
theorem Val.g (pl : Pl H) (h : Val te σ H v) : GVal te σ H v := fun Q q => h Q (q H (Same.refl H) pl)
theorem Ans.g {b : Bool} (pl : Pl H) (h : Ans tt σ H b) : GAns tt σ H b := fun Q q => h Q (q H (Same.refl H) pl)
theorem New.g {xs : List V} (pl : Pl H) (h : New te σ H xs) : GNew te σ H xs := fun Q q => h Q fun p hp => q p _ hp (same_new hp) (pl.upd rfl) upd_same
theorem ga_B {b : Bool} (h : GVal te σ H (.bl b)) : GAns (tB te) σ H b := fun Q q => h _ fun H2 s p => ⟨b, rfl, q H2 s p⟩
theorem ga_test {b : Bool} (h : GVal te σ H (.bl b)) : GAns (tTest te) σ H b := fun Q q => h _ fun H2 s p => ⟨b, rfl, q H2 s p⟩
theorem ga_yes (pl : Pl H) : GAns tYes σ H true := HW.Ans.g pl an_yes
theorem g_set (h : GVal te σ H v) (k : ∀ H2, Same H H2 → Pl H2 → t2 D (σ.set i (some v)) H2) : tSeq (tAsg te (gName i)) t2 D σ H := h _ k
theorem g_setN {xs : List V} (h : GNew te σ H xs) (k : ∀ p H2, H p = none → Same H H2 → Pl H2 → H2 p = some (.lst xs) → t2 D (σ.set i (some (.ref p))) H2) : tSeq (tAsg te (gName i)) t2 D σ H := h _ k
theorem g_if {b : Bool} {t3 : TS} (h : GAns tt σ H b) (h1 : b = true → ∀ H2, Same H H2 → Pl H2 → t1 { D with nx := t3 D } σ H2) (h2 : b = false → ∀ H2, Same H H2 → Pl H2 → t2 { D with nx := t3 D } σ H2) : tSeq (tIfS tt t1 t2) t3 D σ H := h _ fun H2 s p => by
  cases b with
  | true => exact h1 rfl H2 s p
  | false => exact h2 rfl H2 s p
theorem gs_if {b : Bool} (h : GAns tt σ H b) (h1 : b = true → ∀ H2, Same H H2 → Pl H2 → t1 D σ H2) (h2 : b = false → ∀ H2, Same H H2 → Pl H2 → t2 D σ H2) : tIfS tt t1 t2 D σ H := h _ fun H2 s p => by
  cases b with
  | true => exact h1 rfl H2 s p
  | false => exact h2 rfl H2 s p
theorem gs_ret (h : GVal te σ H v) (k : ∀ H2, Same H H2 → Pl H2 → D.rt v H2) : tRet te D σ H := h _ k
theorem gs_retN {xs : List V} (h : GNew te σ H xs) (k : ∀ p H2, H p = none → Same H H2 → Pl H2 → H2 p = some (.lst xs) → D.rt (.ref p) H2) : tRet te D σ H := h _ k
/-- a comprehension whose tests and items may make the heap grow: one turn -/
def LcInv {α : Type} (H : Hp) (Dl : Addr) (l : List α) (p : α → Bool) (u : α → V) (i : Nat) (H' : Hp) : Prop := Same H H' ∧ Pl H' ∧ H' Dl = some (.lst (((l.take i).filter p).map u))
theorem lcg_step {α : Type} {p : α → Bool} {u : α → V} {te : TE} {Dl : Addr} {σ2 : L2.St} {l : List α} {i : Nat} {x : α} {H H' : Hp} (hD : H Dl = none) (hz : l.length ≤ 40000) (hx : l[i]? = some x) (inv : LcInv H Dl l p u i H')
    (ht : ∀ H', Same H H' → Pl H' → GAns tt σ2 H' (p x)) (he : p x = true → ∀ H', Same H H' → Pl H' → GVal te σ2 H' (u x)) :
    tt σ2 H' fun b H3 => if b = true then te σ2 H3 fun y H4 => ∃ acc, H4 Dl = some (.lst acc) ∧ acc.length < sizeLine ∧ LcInv H Dl l p u (i + 1) (upd H4 Dl (.lst (acc ++ [y]))) else LcInv H Dl l p u (i + 1) H3 := by
  obtain ⟨s1, pl1, hd⟩ := inv
  have hi : i < l.length := (List.getElem?_eq_some_iff.mp hx).1
  have et : l.take (i + 1) = l.take i ++ [x] := by
    rw [List.take_add_one, hx]
    rfl
  refine ht _ s1 pl1 _ fun H3 s3 pl3 => ?_
  cases hp : p x with
  | true =>
    show te σ2 H3 fun y H4 => _
    refine he hp _ (s1.trans s3) pl3 _ fun H4 s4 pl4 => ⟨_, s4 _ _ (s3 _ _ hd), ?_, ?_, pl4.upd rfl, ?_⟩
    · rw [List.length_map]
      refine Evl.sz_lt ?_
      have h1 := List.length_filter_le p (l.take i)
      rw [List.length_take] at h1
      omega
    · exact same_upd (s1.trans (s3.trans s4)) hD
    · rw [upd_same, et, List.filter_append, List.map_append, List.filter_cons, if_pos hp]
      rfl
  | false =>
    show LcInv H Dl l p u (i + 1) H3
    refine ⟨s1.trans s3, pl3, ?_⟩
    rw [et, List.filter_append, List.filter_cons, if_neg (by rw [hp]; decide), s3 _ _ hd]
    simp
theorem gn_lcL {α : Type} (l : List α) (g : α → V) (p : α → Bool) (u : α → V) {a : Addr} (pl : Pl H) (h : Val tl σ H (.ref a)) (hq : SqL K H a (l.map g)) (hz : l.length ≤ 40000)
    (ht : ∀ x ∈ l, ∀ H', Same H H' → Pl H' → GAns tt ((wipe σ [j]).set j (some (g x))) H' (p x)) (he : ∀ x ∈ l, p x = true → ∀ H', Same H H' → Pl H' → GVal te ((wipe σ [j]).set j (some (g x))) H' (u x)) :
    GNew (tLc (iList K tl) (gName j) tt te [j]) σ H ((l.filter p).map u) := fun Q q => h _ ⟨a, rfl, ⟨_, hq⟩, fun Dl hD =>
  lc_list (K := K) (a := a) (xs := l.map g) (LcInv H Dl l p u) ⟨same_new hD, pl.upd rfl, upd_same⟩ (fun i H' _ e => e.1.seq hq) (fun i y H' hi e => by
    rw [List.getElem?_map] at hi
    cases hx : l[i]? with
    | none => rw [hx] at hi; cases hi
    | some x =>
      rw [hx] at hi
      have e2 : g x = y := Option.some.inj hi
      subst e2
      have hm : x ∈ l := List.mem_of_getElem? hx
      exact ⟨wipe1, lcg_step hD hz hx e (ht x hm) (he x hm)⟩) (fun H' e => by
    rw [List.length_map] at e
    obtain ⟨s, pl', hd⟩ := e
    rw [List.take_length] at hd
    exact q Dl H' hD s pl' hd)⟩
theorem gn_lcR1 {hi : Int} (n : Nat) (p : Nat → Bool) (u : Nat → V) (pl : Pl H) (h : ValA t σ H [.int hi]) (hn : hi = (n : Int)) (hz : n ≤ 40000)
    (ht : ∀ x, x < n → ∀ H', Same H H' → Pl H' → GAns tt ((wipe σ [j]).set j (some (.int (x : Int)))) H' (p x)) (he : ∀ x, x < n → p x = true → ∀ H', Same H H' → Pl H' → GVal te ((wipe σ [j]).set j (some (.int (x : Int)))) H' (u x)) :
    GNew (tLc (iRng1 t) (gName j) tt te [j]) σ H (((List.range n).filter p).map u) := fun Q q => h _ ⟨hi, rfl, by omega, by omega, fun Dl hD =>
  lc_range (lo := 0) (n := hi.toNat) (LcInv H Dl (List.range n) p u) ⟨same_new hD, pl.upd rfl, upd_same⟩ (fun i H' hi' e => by
      have hx : (List.range n)[i]? = some i := by rw [List.getElem?_range (by omega)]
      have e0 : (0 : Int) + (i : Int) = (i : Int) := Int.zero_add _
      rw [e0]
      exact ⟨wipe1, lcg_step hD (by rw [List.length_range]; exact hz) hx e (ht i (by omega)) (he i (by omega))⟩) (fun H' e => by
    obtain ⟨s, pl', hd⟩ := e
    rw [show hi.toNat = n by omega, List.take_of_length_le (by rw [List.length_range]; exact Nat.le_refl _)] at hd
    exact q Dl H' hD s pl' hd)⟩
/-! ### lists of new lists -/
def Lsts (N : Addr → Prop) (H : Hp) : List (List Int) → List V → Prop := Paired fun (ns : List Int) (v : V) => ∃ t, v = .ref t ∧ N t ∧ H t = some (.lst (ns.map V.int))
theorem Lsts.same {N : Addr → Prop} {H H' : Hp} (s : Same H H') : ∀ {ls : List (List Int)} {rs : List V}, Lsts N H ls rs → Lsts N H' ls rs
  | _, _, .nil => .nil
  | _, _, .cons ⟨t, e, n, h⟩ r => .cons ⟨t, e, n, s _ _ h⟩ (Lsts.same s r)
theorem Lsts.but {N : Addr → Prop} {H H' : Hp} {l : Addr} (k : ∀ b o, H b = some o → b ≠ l → H' b = some o) (hN : ∀ t, N t → t ≠ l) : ∀ {ls : List (List Int)} {rs : List V}, Lsts N H ls rs → Lsts N H' ls rs
  | _, _, .nil => .nil
  | _, _, .cons ⟨t, e, n, h⟩ r => .cons ⟨t, e, n, k _ _ h (hN t n)⟩ (Lsts.but k hN r)
theorem Lsts.app {N : Addr → Prop} {H : Hp} : ∀ {ls ms : List (List Int)} {rs qs : List V}, Lsts N H ls rs → Lsts N H ms qs → Lsts N H (ls ++ ms) (rs ++ qs)
  | _, _, _, _, .nil, b => b
  | _, _, _, _, .cons h r, b => .cons h (Lsts.app r b)
theorem Lsts.len {N : Addr → Prop} {H : Hp} : ∀ {ls : List (List Int)} {rs : List V}, Lsts N H ls rs → rs.length = ls.length
  | _, _, .nil => rfl
  | _, _, .cons _ r => congrArg (· + 1) (Lsts.len r)
theorem Lsts.weak {N N' : Addr → Prop} {H : Hp} (w : ∀ t, N t → N' t) : ∀ {ls : List (List Int)} {rs : List V}, Lsts N H ls rs → Lsts N' H ls rs
  | _, _, .nil => .nil
  | _, _, .cons ⟨t, e, n, h⟩ r => .cons ⟨t, e, w t n, h⟩ (Lsts.weak w r)
theorem Lsts.get {N : Addr → Prop} {H : Hp} : ∀ {ls : List (List Int)} {rs : List V} {i : Nat} {v : V}, Lsts N H ls rs → rs[i]? = some v → ∃ ns t, ls[i]? = some ns ∧ v = .ref t ∧ N t ∧ H t = some (.lst (ns.map V.int))
  | _, _, _, _, .nil, e => by simp at e
  | _, _, 0, _, .cons (a := ns) ⟨t, e1, n, h⟩ r, e => by
    have e : _ = _ := Option.some.inj (show some _ = some _ from e)
    subst e
    exact ⟨ns, t, rfl, e1, n, h⟩
  | _, _, i + 1, _, .cons _ r, e => by
    obtain ⟨ns, t, h1, h2, h3, h4⟩ := Lsts.get (i := i) r (by simpa using e)
    exact ⟨ns, t, by simpa using h1, h2, h3, h4⟩
theorem Lsts.at_ {N : Addr → Prop} {H : Hp} {ls : List (List Int)} {rs : List V} {i : Nat} {ns : List Int} (h : Lsts N H ls rs) (e : ls[i]? = some ns) : ∃ t, rs[i]? = some (.ref t) ∧ N t ∧ H t = some (.lst (ns.map V.int)) := by
  have hi : i < rs.length := by
    rw [h.len]
    exact (List.getElem?_eq_some_iff.mp e).1
  obtain ⟨ms, t, h1, h2, h3, h4⟩ := h.get (List.getElem?_eq_getElem hi)
  rw [e] at h1
  cases h1
  exact ⟨t, by rw [List.getElem?_eq_getElem hi, h2], h3, h4⟩
/-- a comprehension whose items are new lists of whole numbers, over a list -/
theorem gl_lcL {α : Type} (l : List α) (g : α → V) (u : α → List Int) {a : Addr} (pl : Pl H) (h : Val tl σ H (.ref a)) (hq : SqL K H a (l.map g)) (hz : l.length ≤ 40000)
    (he : ∀ x ∈ l, ∀ H', Same H H' → Pl H' → GNew te ((wipe σ [j]).set j (some (g x))) H' ((u x).map V.int)) (Q : VK)
    (q : ∀ Dl rs H', H Dl = none → Same H H' → Pl H' → H' Dl = some (.lst rs) → Lsts (fun t => H t = none ∧ t ≠ Dl) H' (l.map u) rs → Q (.ref Dl) H') : tLc (iList K tl) (gName j) tYes te [j] σ H Q := h _ ⟨a, rfl, ⟨_, hq⟩, fun Dl hD =>
  lc_list (K := K) (a := a) (xs := l.map g) (fun i H' => ∃ rs, Same H H' ∧ Pl H' ∧ H' Dl = some (.lst rs) ∧ Lsts (fun t => H t = none ∧ t ≠ Dl) H' ((l.take i).map u) rs) ⟨[], same_new hD, pl.upd rfl, upd_same, .nil⟩ (fun i H' _ e => by obtain ⟨_, s, _⟩ := e; exact s.seq hq) (fun i y H' hi e => by
    obtain ⟨rs, s1, pl1, hd, ls⟩ := e
    rw [List.getElem?_map] at hi
    cases hx : l[i]? with
    | none => rw [hx] at hi; cases hi
    | some x =>
      rw [hx] at hi
      have e2 : g x = y := Option.some.inj hi
      subst e2
      have hm : x ∈ l := List.mem_of_getElem? hx
      have hi' : i < l.length := (List.getElem?_eq_some_iff.mp hx).1
      have et : l.take (i + 1) = l.take i ++ [x] := by
        rw [List.take_add_one, hx]
        rfl
      refine ⟨wipe1, ?_⟩
      show te _ _ fun y H4 => _
      refine he x hm H' s1 pl1 _ fun p H2 hp s2 pl2 hp2 => ?_
      have npD : p ≠ Dl := fun z => by rw [z, hd] at hp; cases hp
      refine ⟨rs, s2 _ _ hd, ?_, rs ++ [.ref p], same_upd (s1.trans s2) hD, pl2.upd rfl, upd_same, ?_⟩
      · rw [ls.len, List.length_map, List.length_take]
        exact Evl.sz_lt (by omega)
      · rw [et, List.map_append]
        refine ((ls.same s2).but (l := Dl) (fun b o e hb => by rw [upd_ne hb]; exact e) fun t n => n.2).app (.cons ⟨p, rfl, ⟨s1.free hp, npD⟩, ?_⟩ .nil)
        rw [upd_ne npD]
        exact hp2) (fun H' e => by
    obtain ⟨rs, s1, pl1, hd, ls⟩ := e
    rw [List.length_map, List.take_length] at ls
    exact q Dl rs H' hD s1 pl1 hd ls)⟩
end
end HW

/-! # Walk: loops over enumerate, over new lists; how days and moves lie in the heap -/
namespace HW
open PySem PySem.Spec PyProof.Rows L2
theorem for_enum {K : PySem.W.Frag} {a : Addr} {xs : List V} {g : TG} {tb : TS} {D : Ends} {σ : L2.St} {H : Hp} (Pv : Nat → L2.St → Hp → Prop) (h0 : Pv 0 σ H) (hl : ∀ i σ H, Pv i σ H → SqL K H a xs)
    (hs : ∀ i x σ H T, xs[i]? = some x → Pv i σ H → H T = none → g (.ref T) σ (upd H T (.tup [.int (i : Nat), x])) fun σ2 H2 => tb { D with nx := Pv (i + 1), ct := Pv (i + 1), bk := D.nx } σ2 H2) (hd : ∀ σ H, Pv xs.length σ H → D.nx σ H)
    (hle : ∀ i σ H, Pv i σ H → i ≤ xs.length) :
    ∃ W : Nat → Nat → L2.St → Hp → Prop, (∃ m, W 0 m σ H) ∧ ∀ i m σ H, W i m σ H →
      ((Ite K a).stop i H ∧ D.nx σ H) ∨ ((Ite K a).go i H ∧ ∃ N : L2.St → Hp → Prop, (∀ σ' H', N σ' H' → ∃ m', m' < m ∧ W (i + 1) m' σ' H') ∧ ∀ x H', (Ite K a).yld i H x H' → g x σ H' fun σ2 H2 => tb { D with nx := N, ct := N, bk := D.nx } σ2 H2) := by
  refine ⟨fun i m σ H => m = xs.length - i ∧ Pv i σ H, ⟨xs.length, by simp, h0⟩, ?_⟩
  rintro i m σ H ⟨rfl, p⟩
  have q := hl i σ H p
  by_cases hlt : i < xs.length
  · refine .inr ⟨⟨xs, xs[i], q, by simp [hlt]⟩, Pv (i + 1), fun σ' H' p' => ⟨xs.length - (i + 1), by omega, rfl, p'⟩, fun x H' y => ?_⟩
    obtain ⟨T, x', e1, hT, e2, y⟩ := y
    subst e1 e2
    exact hs i x' σ _ T (y xs q) p hT
  · have := hle i σ H p
    have e : i = xs.length := by omega
    subst e
    exact .inl ⟨⟨xs, q, Nat.le_refl _⟩, hd σ H p⟩
section
variable {σ : L2.St} {H : Hp} {te ta tb tv tl : TE} {t : TA} {v x y z : V} {K : PySem.W.Frag} {C : Addr} {D : Ends} {t1 t2 : TS} {tt : TT} {i j k : Nat}
/-- for i, x in enumerate(xs) -/
theorem q_forE {a : Addr} {xs : List V} (h : Val tl σ H (.ref a)) (hx : SqL K H a xs) (Pv : Nat → L2.St → Hp → Prop) (h0 : Pv 0 σ H) (hl : ∀ i σ' H', Pv i σ' H' → SqL K H' a xs ∧ i ≤ xs.length)
    (hs : ∀ i x σ' H' T, xs[i]? = some x → Pv i σ' H' → H' T = none → t1 { D with nx := Pv (i + 1), ct := Pv (i + 1), bk := t2 D } ((σ'.set j (some (.int (i : Nat)))).set k (some x)) (upd H' T (.tup [.int (i : Nat), x]))) (hd : ∀ σ' H', Pv xs.length σ' H' → t2 D σ' H') :
    tSeq (tFor (iEnum K (tCons tl tNil)) (gTup K 2 (gCons (gName j) (gCons (gName k) gNil))) t1) t2 D σ H :=
  h _ ⟨a, xs, rfl, hx, for_enum (D := { D with nx := t2 D }) Pv h0 (fun i σ' H' p => (hl i σ' H' p).1) (fun i x σ' H' T hi p hT => g_pair (SqT.of upd_same) (hs i x σ' H' T hi p hT)) hd (fun i σ' H' p => (hl i σ' H' p).2)⟩
/-- for x in a list just made -/
theorem q_forN {xs : List V} (h : New tl σ H xs) (Pv : Addr → Nat → L2.St → Hp → Prop) (h0 : ∀ p, H p = none → Pv p 0 σ (upd H p (.lst xs))) (hl : ∀ p i σ' H', H p = none → Pv p i σ' H' → SqL K H' p xs)
    (hs : ∀ p i x σ' H', H p = none → xs[i]? = some x → Pv p i σ' H' → t1 { D with nx := Pv p (i + 1), ct := Pv p (i + 1), bk := t2 D } (σ'.set j (some x)) H') (hd : ∀ p σ' H', H p = none → Pv p xs.length σ' H' → t2 D σ' H') : tSeq (tFor (iList K tl) (gName j) t1) t2 D σ H :=
  h _ fun p hp => ⟨p, rfl, ⟨xs, SqL.of upd_same⟩, for_list (D := { D with nx := t2 D }) (Pv p) (h0 p hp) (fun i σ' H' _ q => hl p i σ' H' hp q) (fun i x σ' H' hi q => hs p i x σ' H' hp hi q) (fun σ' H' q => hd p σ' H' hp q)⟩
theorem val_sizeAt {l : List Nat} {d : Nat} (h : d < l.length) : atI (nts l) (d : Int) = some (.int ((l.getD d 0 : Nat) : Int)) := by
  refine atI_nat ?_
  unfold nts
  rw [List.getElem?_map, List.getD_eq_getElem?_getD, List.getElem?_eq_getElem h]
  rfl
end
/-! ### days, moves -/
def DaysAt (A : Ad) (H : Hp) (p : Addr) (days : List Vbsyae.Fold) : Prop := ∃ l : List (Vbsyae.Fold × Addr), l.map (·.1) = days ∧ H p = some (.lst (l.map fun x => V.ref x.2)) ∧ ∀ x ∈ l, DayAt A H x.2 x.1
theorem DaysAt.same {A : Ad} {H H' : Hp} {p : Addr} {days : List Vbsyae.Fold} (h : DaysAt A H p days) (s : Same H H') : DaysAt A H' p days := by
  obtain ⟨l, e, h1, h2⟩ := h
  exact ⟨l, e, s _ _ h1, fun x hx => (h2 x hx).same s⟩
def ptsI (f : Vbsyae.Field) (x : Vbsyae.Fold) : List Int := ((HF.hurds f (HF.dcells f x) (HF.dcells f x)).map fun y => HF.placeN f y.1 y.2).map fun (n : Nat) => (n : Int)
def movF (p q : Addr) : List (Str × V) := [("spots", .ref p), ("sizes", .ref q)]
def kM : List Str := ["spots", "sizes"]
def sizesL (f : Vbsyae.Field) : List Nat := (List.range f.days.length).map fun d => (HF.spot f d).length
structure MovesAt (A : Ad) (H : Hp) (a : Addr) (f : Vbsyae.Field) : Prop where
  wf : HF.WF f
  at_ : ∃ dx p q rs, H a = some (.ins A.cMoves dx (movF p q)) ∧ H p = some (.lst rs) ∧ Lsts (fun _ => True) H (f.days.map (ptsI f)) rs ∧ H q = some (.lst (nts (sizesL f)))
theorem MovesAt.same {A : Ad} {H H' : Hp} {a : Addr} {f : Vbsyae.Field} (h : MovesAt A H a f) (s : Same H H') : MovesAt A H' a f := by
  obtain ⟨w, dx, p, q, rs, h1, h2, h3, h4⟩ := h
  exact ⟨w, dx, p, q, rs, s _ _ h1, s _ _ h2, h3.same s, s _ _ h4⟩
theorem pts_spot {f : Vbsyae.Field} {d : Nat} {x : Vbsyae.Fold} (h : f.days[d]? = some x) : (ptsI f x).map V.int = nts (HF.spot f d) := by
  unfold ptsI nts
  rw [HF.spot_eq h, List.map_map]
  rfl
theorem sizes_at {f : Vbsyae.Field} {d : Nat} (h : d < f.days.length) : atI (nts (sizesL f)) (d : Int) = some (.int ((HF.spot f d).length : Int)) := by
  rw [val_sizeAt (by unfold sizesL; rw [List.length_map, List.length_range]; exact h)]
  unfold sizesL
  rw [List.getD_eq_getElem?_getD, List.getElem?_map, List.getElem?_range h]
  rfl
section
variable {K : PySem.W.Frag} {mg : Str → Option Value} {A : Ad} {H : Hp} {σ : L2.St} {ta : TE} {a dx p q : Addr} {f : Vbsyae.Field}
theorem v_spots (T : Txt K mg A) (h1 : H a = some (.ins A.cMoves dx (movF p q))) (h : Val ta σ H (.ref a)) : Val (tFld K ta "spots") σ H (.ref p) := val_fld h h1 T.c_Moves T.n_Moves_spots (lk_at (ks := kM) 0 rfl (by decide +kernel) rfl)
theorem v_sizes (T : Txt K mg A) (h1 : H a = some (.ins A.cMoves dx (movF p q))) (h : Val ta σ H (.ref a)) : Val (tFld K ta "sizes") σ H (.ref q) := val_fld h h1 T.c_Moves T.n_Moves_sizes (lk_at (ks := kM) 1 rfl (by decide +kernel) rfl)
theorem no_M {m : Str} (h : kM.contains m = false := by decide +kernel) : (movF p q).lookup m = none := lk_no (ks := kM) rfl h
/-- self.spots[d] -/
theorem v_spot {tb : TE} {rs : List V} {d : Nat} (T : Txt K mg A) (h1 : H a = some (.ins A.cMoves dx (movF p q))) (h2 : H p = some (.lst rs)) (h3 : Lsts (fun _ => True) H (f.days.map (ptsI f)) rs) (h : Val ta σ H (.ref a)) (hb : Val tb σ H (.int (d : Int))) (hd : d < f.days.length) :
    ∃ t, Val (tOp (rIxL K) (tFld K ta "spots") tb) σ H (.ref t) ∧ H t = some (.lst (nts (HF.spot f d))) := by
  have e := List.getElem?_eq_getElem hd
  obtain ⟨t, e1, _, e2⟩ := h3.at_ (i := d) (ns := ptsI f f.days[d]) (by rw [List.getElem?_map, e]; rfl)
  exact ⟨t, val_ixL (v_spots T h1 h) hb (SqL.of h2) (atI_nat e1), by rw [e2, pts_spot e]⟩
/-- self.sizes[d] -/
theorem v_size {tb : TE} {d : Nat} (T : Txt K mg A) (h1 : H a = some (.ins A.cMoves dx (movF p q))) (h4 : H q = some (.lst (nts (sizesL f)))) (h : Val ta σ H (.ref a)) (hb : Val tb σ H (.int (d : Int))) (hd : d < f.days.length) :
    Val (tOp (rIxL K) (tFld K ta "sizes") tb) σ H (.int ((HF.spot f d).length : Int)) := val_ixL (v_sizes T h1 h) hb (SqL.of h4) (sizes_at hd)
end
end HW

/-! # Walk: raising callees; enumerate of a tuple -/
namespace HW
open PySem PySem.Spec PyProof.Rows L2
section
variable {X : Cx} {k : Nat} {C : Addr} {ps : List Str} {sp : Sp} {E : XK} {ES : L2.St → XK} {x m : Str} {p pos apos : Pos} {e o : Expr} {es : List Expr} {ta : TE} {t : TA}
theorem pe_methMX {pl : Sem Bool} (he : PE X o ta) (c : Cls X.K C) (M : MOk X.prog X.w X.K X.mg X.base (L2.CX X.prog X.w) C m k ps sp) (hr : Room k X.A) (hx : Passes (L2.CX X.prog X.w) X E) (ha : PA X (e :: es) t)
    (hst : starEach (e :: es) X.env = (false, eval e X.env) :: starEach es X.env := by rfl) (hpl : (backTo pos (starEach es X.env)).any (·.1) = false := by rfl)
    (ht : eval (.Call (.Attribute o m apos) (e :: es) [] pos) X.env = (do
      let ov ← eval o X.env
      standAt apos.atName
      let (f, first) ← holding [ov] (getMethod ov m pl)
      callWith pos f first (backTo pos (starEach (e :: es) X.env)) (backToKw pos (keywordEach [] X.env))) := by rfl) :
    PE X (.Call (.Attribute o m apos) (e :: es) [] pos) (tMeth C m sp [] E ta t) := by
  obtain ⟨f, fd, hm, F, b⟩ := M
  exact pe_meth he c hm F hr b .nil hx ha hst hpl ht
theorem pe_callMX (M : FOk X.prog X.w X.K X.mg X.base (L2.CX X.prog X.w) x k ps sp) (hr : Room k X.A) (hg : Gl X x) (hx : Passes (L2.CX X.prog X.w) X E) (ha : PA X (e :: es) t) (hdb : (x == ("__debug__" : Str)) = false := by decide)
    (he : starEach (e :: es) X.env = (false, eval e X.env) :: starEach es X.env := by rfl) (hpl : (backTo pos (starEach es X.env)).any (·.1) = false := by rfl) :
    PE X (.Call (.Name x p) (e :: es) [] pos) (tCall sp [] E t) := by
  obtain ⟨f, fd, ⟨hm, hk⟩, F, b⟩ := M
  exact pe_call F hr hg hm hk b .nil hx ha hdb he hpl
/-- o.m(e, ..) within a try: what it raises is wished for at the slots as they stand -/
def tMethS (C : Addr) (m : Str) (sp : Sp) (E : L2.St → XK) (ta : TE) (t : TA) : TE := fun σ H Q => ta σ H fun x H1 => ∃ a dx fs, x = .ref a ∧ H1 a = some (.ins C dx fs) ∧ fs.lookup m = none ∧ t σ H1 fun vs H2 => sp (x :: vs) H2 Q (E σ)
theorem pe_methMS {pl : Sem Bool} (he : PE X o ta) (c : Cls X.K C) (M : MOk X.prog X.w X.K X.mg X.base (L2.CX X.prog X.w) C m k ps sp) (hr : Room k X.A) (hx : ∀ σ, PassesAt (L2.CX X.prog X.w) X σ (ES σ)) (ha : PA X (e :: es) t)
    (hst : starEach (e :: es) X.env = (false, eval e X.env) :: starEach es X.env := by rfl) (hpl : (backTo pos (starEach es X.env)).any (·.1) = false := by rfl)
    (ht : eval (.Call (.Attribute o m apos) (e :: es) [] pos) X.env = (do
      let ov ← eval o X.env
      standAt apos.atName
      let (f, first) ← holding [ov] (getMethod ov m pl)
      callWith pos f first (backTo pos (starEach (e :: es) X.env)) (backToKw pos (keywordEach [] X.env))) := by rfl) :
    PE X (.Call (.Attribute o m apos) (e :: es) [] pos) (tMethS C m sp ES ta t) := by
  obtain ⟨f, fd, hm, F, b⟩ := M
  refine ⟨fun pins s σ H Q I h => ?_⟩
  refine PySem.W.methodCall_KW (pl := pl) (thn (he.run pins s σ H _ I h) fun u s1 ⟨x, H1, I1, rx, a, dx, fs, ex, ea, l, q⟩ => ?_) ht
  subst ex
  obtain rfl : u = Value.ref a := rx
  refine getmeth_ok I1 ea c hm l ?_
  refine PySem.W.callWith_K (first := [.ref a]) (h₀ := X.base) I.ok.mod.kin hm.kp (thn (ha.run pos pins s1 σ H1 _ I1 q) fun us s2 ⟨vs, H2, I2, r, q2⟩ => ⟨I2.kIn, ?_⟩) hst hpl
  exact run_fnS F hr b (hx σ) I2 (.cons (show RelV (.ref a) (.ref a) from rfl) r) q2
theorem pe_callMS (M : FOk X.prog X.w X.K X.mg X.base (L2.CX X.prog X.w) x k ps sp) (hr : Room k X.A) (hg : Gl X x) (hx : ∀ σ, PassesAt (L2.CX X.prog X.w) X σ (ES σ)) (ha : PA X (e :: es) t) (hdb : (x == ("__debug__" : Str)) = false := by decide)
    (he : starEach (e :: es) X.env = (false, eval e X.env) :: starEach es X.env := by rfl) (hpl : (backTo pos (starEach es X.env)).any (·.1) = false := by rfl) :
    PE X (.Call (.Name x p) (e :: es) [] pos) (tCallS sp ES t) := by
  obtain ⟨f, fd, ⟨hm, hk⟩, F, b⟩ := M
  exact pe_callS F hr hg hm hk b hx ha hdb he hpl
end
/-! ### enumerate(a tuple) -/
theorem meets_enum1 {v : Value} {o : Obj} {H : Heap → Prop} (B : Begins v o H) :
    Meets (Builtin.«enumerate.__new__» ⟨[.type "enumerate", v], []⟩) (fun _ R s => H s.heap ∧
      R (.ok (.ret (.ref (s.heap.push o).objs.size))) { s with heap := (s.heap.push o).push { cls := .type "enumerate", data := .fields #[.none, .bool false, .ref s.heap.objs.size, rawInt 0, .none, .none] } }) :=
  .of_wp fun prog w A R s h => by
    obtain ⟨hp, g, d, tk, os⟩ := s; obtain ⟨h1, h⟩ := h
    have hsub := sub_enumerate
    have q1 : ∀ {A' : Around} {E : Value → Shared → Prop} {Q : Value → Shared → Prop}, Q (.ref hp.objs.size) ⟨hp.push o, g, d, tk, os⟩ → wpAny (model prog w) A' (pyIter v) Q E ⟨hp, g, d, tk, os⟩ :=
      fun q => B.iter prog w _ _ ⟨hp, g, d, tk, os⟩ _ h1 q
    wp_walk using q1
    refine wpAny_stack_any fun st => wpAny_pure ?_
    split
    · rename_i c _ _ _ _ _
      cases (c == Value.type "enumerate")
      · wp_walk using q1
        exact ⟨_, rfl, h⟩
      · wp_walk using q1
        exact ⟨_, rfl, h⟩
    · wp_walk using q1
      exact ⟨_, rfl, h⟩
theorem enum1 {prog : Program} {w : World} {A : Around} {E : Value → Shared → Prop} {s : Shared} {v : Value} {o : Obj} {H : Heap → Prop} {Q : Value → Shared → Prop} (B : Begins v o H) (h1 : H s.heap)
    (h : ∀ h', IsEnum h' (s.heap.objs.size + 1) s.heap.objs.size 0 .none → h'.get? s.heap.objs.size = some o → h'.objs.size = s.heap.objs.size + 2 →
      (∀ b o, s.heap.get? b = some o → h'.get? b = some o) → Q (.ref (s.heap.objs.size + 1)) { s with heap := h' }) :
    wpAny (model prog w) A (call (.type "enumerate") [v]) Q E s := by
  refine callType_new F.called_enumerate (by decide) (F.typeCall_enumerate_1 _) (F.newCall_enumerate_1 _) (fun obj => F.args_object_init_2 obj _) F.entry_enumerate_new (meets_enum1 B) ⟨h1, ?_⟩
  have hz : (s.heap.push o).objs.size = s.heap.objs.size + 1 := Heap.size_push ..
  show _ ∧ _
  rw [hz]
  have he : IsEnum ((s.heap.push o).push { cls := .type "enumerate", data := .fields #[.none, .bool false, .ref s.heap.objs.size, rawInt 0, .none, .none] }) (s.heap.objs.size + 1) s.heap.objs.size 0 .none := by
    have := Heap.get?_push_size (s.heap.push o) (o := { cls := .type "enumerate", data := .fields #[.none, .bool false, .ref s.heap.objs.size, rawInt 0, .none, .none] }) rfl
    rw [hz] at this; exact this
  refine ⟨⟨_, he, rfl⟩, h _ he (Heap.get?_push_of_some _ (Heap.get?_push_size _ B.free)) (by rw [Heap.size_push, hz]) fun b o x => Heap.get?_push_of_some _ (Heap.get?_push_of_some _ x)⟩
def IteT (K : PySem.W.Frag) (a : Addr) : It :=
  ⟨fun i H => ∃ (xs : List V) (x : V), SqT K H a xs ∧ xs[i]? = some x, fun i H v H' => ∃ T x, v = .ref T ∧ H T = none ∧ H' = upd H T (.tup [.int (i : Nat), x]) ∧ ∀ xs, SqT K H a xs → xs[i]? = some x, fun i H => ∃ xs : List V, SqT K H a xs ∧ xs.length = i⟩
theorem turn_enumT {P : Program} {w : World} {K : PySem.W.Frag} {elts : List Expr} {kk : Nat} {tpos : Pos} (a e it : Addr) (hea : e ≠ a) (hia : a ≠ it) :
    Turn P w K (.Tuple elts kk tpos) (IteT K a) [e, it] e (fun i h => (∃ old, IsEnum h e it ((i : Nat) : Int) old) ∧ h.IsTupleIter it a i ∧ e ≠ it) where
  mem := by simp
  obj := fun i h st b hb => by
    obtain ⟨⟨old, he⟩, ⟨o, ho, hc, hd⟩, _⟩ := st
    have e' : b = e ∨ b = it := by simpa using hb
    rcases e' with z | z
    · rw [z]; exact ⟨_, he, fun v q => nomatch q⟩
    · rw [z]; exact ⟨o, ho, fun v q => by rw [hd] at q; cases q⟩
  keep := fun i h h' st k => let ⟨⟨old, he⟩, hi, hne⟩ := st; ⟨⟨old, k e (by simp) _ he⟩, hi.at fun o q => k it (by simp) o q, hne⟩
  item := by
    intro X hP hw hK hc i pins s σ H E I hf st hg
    subst hP hw hK
    obtain ⟨⟨old, he⟩, hit, hne⟩ := st
    obtain ⟨xs, x, hq, hx⟩ := hg
    obtain ⟨its, rv, p, hz⟩ := I.tuple hq
    obtain ⟨u, hu, ru⟩ := rv.get hx
    have hel : e < s.heap.objs.size := Heap.lt_size he
    have hil : it < s.heap.objs.size := by obtain ⟨_, q, _⟩ := hit; exact Heap.lt_size q
    have hlt : i < its.toArray.size := by
      have := (List.getElem?_eq_some_iff.mp hu).1
      simpa using this
    refine wpAny_pyNext_enum_itemD (Draws.tuple (A := X.A.in1) (I.ok.hd hc) it a hia its.toArray) he ⟨hit, p⟩ hlt hne (by simp [hne, hea]) fun u' h' tk hP ho hit' hT hsz hk => ?_
    have hu' : its[i]? = some u' := by simpa using hP
    obtain rfl : u = u' := Option.some.inj (hu.symm.trans hu')
    refine ⟨_, rfl, wpAny_letOwnedTupleGo_enum (s := { s with heap := h', toks := tk + 1 }) ho fun h'' he' sb => ?_⟩
    have hT2 : h''.get? s.heap.objs.size = some { cls := .type "tuple", data := .seq #[.int i tk, u] } := (sb.2 _ (Nat.ne_of_gt hel)).trans hT
    have new : ObjOk X.prog X.w (upd H s.heap.objs.size (.tup [.int (i : Nat), x])) h'' s.heap.objs.size (.tup [.int (i : Nat), x]) :=
      ⟨by show 2 ≤ sizeLine; decide, [.int i tk, u], .cons ⟨_, rfl⟩ (.cons ru .nil), ⟨_, hT2, rfl, _, rfl⟩⟩
    have I1 : Inv X pins σ (upd H s.heap.objs.size (.tup [.int (i : Nat), x])) { s with heap := h'', toks := tk + 1 } :=
      I.turnedNew (ch := [e, it]) (fun b ob hb q => (sb.2 b (fun z => hb (by simp [z]))).trans (hk b ob (fun z => hb (by simp [z])) (fun z => hb (by simp [z])) q)) hf (Nat.le_refl _) new
    refine ⟨.ref s.heap.objs.size, _, I1, rfl, ⟨_, x, rfl, I.hok.fresh (Nat.le_refl _), rfl, fun ys hy => by rw [I.tuple_inj hy hq]; exact hx⟩, ⟨⟨u, ?_⟩, hit'.1.at fun o q => (sb.2 it (Ne.symm hne)).trans q, hne⟩, fun b hb => ?_⟩
    · have e1 : ((i + 1 : Nat) : Int) = (i : Int) + 1 := by omega
      rw [e1]; exact he'
    · have hb' : b < s.heap.objs.size := by
        have e' : b = e ∨ b = it := by simpa using hb
        rcases e' with z | z
        · rw [z]; exact hel
        · rw [z]; exact hil
      rw [upd_ne (Nat.ne_of_lt hb')]
      exact (hf b hb).1
  done := by
    intro X hP hw hK hc i pins s σ H E I hf st hg
    subst hP hw hK
    obtain ⟨⟨old, he⟩, hit, hne⟩ := st
    obtain ⟨xs, hq, hx⟩ := hg
    obtain ⟨its, rv, p, hz⟩ := I.tuple hq
    obtain ⟨f0, f1, f2, f3, f4, f5⟩ := hf it (by simp)
    have hl := rv.length
    have hi0 : its.toArray.size = i := by simp; omega
    subst hi0
    exact wpAny_pyNext_enum_endD (Draws.tuple (A := X.A.in1) (I.ok.hd hc) it a hia its.toArray) he ⟨hit, p⟩ fun h' eb => ⟨rfl, I.turned (t' := s.toks) (fun b o hb q => eb b o hb q) f0 f1 f3 f4 f5⟩
  self := fun A i s Q E st h => let ⟨⟨_, he⟩, _⟩ := st; wpAny_pyIter_enum he h
def iEnumT (K : PySem.W.Frag) (ta : TA) : TI := fun σ H R => ta σ H fun vs H1 => ∃ a xs, vs = [.ref a] ∧ SqT K H1 a xs ∧ R (IteT K a) H1
theorem pi_enumT {X : Cx} {e : Expr} {ta : TA} {p pos tpos : Pos} {elts : List Expr} {kk : Nat} (hg : Gl X "enumerate") (hm : X.mg "enumerate" = none) (ha : PA X [e] ta) (hs : starEach [e] X.env = [(false, eval e X.env)] := by rfl) :
    PI X (.Tuple elts kk tpos) (.Call (.Name "enumerate" p) [e] [] pos) (iEnumT X.K ta) := by
  refine ⟨fun pins s σ H R I h => Call_ (ld_blt I hg hm boot_enumerate (PyProof.Rows.callWith_type1 (thn (ha.run pos pins s σ H _ I h) fun us s1 hh => ?_) hs rfl))⟩
  obtain ⟨vs, H1, I1, r1, a, xs, rfl, hq, q⟩ := hh
  obtain rfl := Vals.ref1 r1
  obtain ⟨its, rv, p', hz⟩ := I1.tuple hq
  have hal : a < s1.heap.objs.size := by obtain ⟨_, z, _⟩ := p'; exact Heap.lt_size z
  have n1 : s1.heap.objs.size + 1 ≠ a := Nat.ne_of_gt (Nat.lt_succ_of_lt hal)
  have n2 : a ≠ s1.heap.objs.size := Nat.ne_of_lt hal
  refine enum1 (begins_tuple a its.toArray) p' fun h' he hit hsz hk => wpAny_pyIter_enum he ?_
  have up : ∀ b, b ∈ [s1.heap.objs.size + 1, s1.heap.objs.size] → s1.heap.objs.size ≤ b := fun b hb => by
    simp only [List.mem_cons, List.not_mem_nil, or_false] at hb
    omega
  exact ⟨s1.heap.objs.size + 1, [s1.heap.objs.size + 1, s1.heap.objs.size], _, _, H1, rfl, I1.kept (t' := s1.toks) hk, turn_enumT a _ _ n1 n2, ⟨⟨.none, he⟩, ⟨_, hit, rfl, rfl⟩, Nat.succ_ne_self _⟩, fun b hb => I1.fpOk (up b hb) (I1.hok.fresh (up b hb)), q⟩
end HW

/-! # Walk: slices, equal lists, a text's bytes; words and readers in the heap -/
namespace HW
open PySem PySem.Spec PyProof.Rows L2
section
variable {σ : L2.St} {H H' : Hp} {ta tb tc te : TE} {K : PySem.W.Frag} {i j : Nat} {xs : List V}
theorem val_neI {i j : Int} (h : Val ta σ H (.int i)) (h2 : Val tb σ H (.int j)) : Val (tOp rNe ta tb) σ H (.bl (!decide (i = j))) := val_op h h2 fun Q q => ⟨rfl, by
  have e : decide (V.int i = V.int j) = decide (i = j) := by
    by_cases z : i = j
    · subst z; simp
    · simp [z]
  rw [e]
  exact q⟩
theorem cut_nat (hi : i ≤ xs.length) (hj : j ≤ xs.length) : cutV xs (some (i : Int)) (some (j : Int)) = (xs.drop i).take (j - i) := by
  unfold cutV
  rw [HT.sIx_nat, HT.sIx_nat, Nat.min_eq_left hi, Nat.min_eq_left hj]
theorem nw_sl {a : Addr} (h : Val ta σ H (.ref a)) (hq : SqL K H a xs) (h2 : Val tb σ H (.int (i : Int))) (h3 : Val tc σ H (.int (j : Int))) (hi : i ≤ xs.length) (hj : j ≤ xs.length) :
    New (tSl (rSlL K) ta (tPart tb) (tPart tc)) σ H ((xs.drop i).take (j - i)) := fun Q q => h _ (h2 _ ⟨_, rfl, h3 _ ⟨_, rfl, a, xs, rfl, hq, fun p hp => by
  rw [cut_nat hi hj]
  exact q p hp⟩⟩)
theorem nts_cut (l : List Nat) (i j : Nat) : ((nts l).drop i).take j = nts ((l.drop i).take j) := by
  unfold nts
  rw [List.map_take, List.map_drop]
theorem dp_nts : ∀ l : List Nat, DpAll K H (nts l) (l.map fun (n : Nat) => PyData.int (n : Int))
  | [] => .nil
  | n :: r => .cons (.int _) (dp_nts r)
theorem eqv_nts : ∀ l m : List Nat, PyData.eqvAll (l.map fun (n : Nat) => PyData.int (n : Int)) (m.map fun (n : Nat) => PyData.int (n : Int)) = (l == m)
  | [], [] => by simp [PyData.eqvAll]
  | [], _ :: _ => by simp [PyData.eqvAll]
  | _ :: _, [] => by simp [PyData.eqvAll]
  | a :: l, b :: m => by
    have e : ((a : Int) == (b : Int)) = (a == b) := by
      rw [Bool.eq_iff_iff]
      simp
      omega
    simp only [List.map_cons, PyData.eqvAll, PyData.eqv, eqv_nts l m, e]
    rfl
theorem lay_nts : ∀ l : List Nat, PyData.canLayAll0 (l.map fun (n : Nat) => PyData.int (n : Int)) = true
  | [] => by simp [PyData.canLayAll0]
  | a :: l => by simp [PyData.canLayAll0, PyData.canLay0, lay_nts l]
theorem dep_nts : ∀ l : List Nat, PyData.depthAll (l.map fun (n : Nat) => PyData.int (n : Int)) = 0
  | [] => by simp [PyData.depthAll]
  | a :: l => by simp [PyData.depthAll, PyData.depth, dep_nts l]
theorem shaped_nts (l : List Nat) : SeqAt.shaped (.list (l.map fun (n : Nat) => PyData.int (n : Int))) = true := by
  unfold SeqAt.shaped
  rw [PyData.canLay0, lay_nts, PyData.depth, dep_nts]
  rfl
theorem val_eqL {a b : Addr} {l m : List Nat} (h : Val ta σ H (.ref a)) (h2 : Val tb σ H (.ref b)) (ha : SqL K H a (nts l)) (hb : SqL K H b (nts m)) : Val (tOp (rEqD K) ta tb) σ H (.bl (l == m)) := val_op h h2 fun Q q =>
  ⟨_, _, .lst ha (dp_nts l), .lst hb (dp_nts m), shaped_nts l, shaped_nts m, by
    rw [PyData.eqv, eqv_nts]
    exact q⟩
/-- [ord(sign) for sign in text] -/
theorem nw_bytes {z : Str} (h : Val ta σ H (.str z)) (hz : z.cps.size ≤ 1000) (hj : j < σ.length) : New (tLc (iStr ta) (gName j) tYes (tCB cOrd (tCons (tVar j) tNil)) [j]) σ H (nts z.cps.toList) := fun Q q => h _ ⟨z, rfl, fun Dl hD =>
  lc_it (walk_str (z := z)) (fun i H' => H' = upd H Dl (.lst (nts (z.cps.toList.take i)))) rfl (fun _ _ _ _ => trivial) (fun i x H1 H2 hi e y => by
    subst e
    obtain ⟨rfl, c, hc, rfl⟩ := y
    refine ⟨wipe1, ?_⟩
    show tCB cOrd (tCons (tVar j) tNil) _ _ _
    have hv : Val (tVar j) (((wipe σ [j]).set j (some (V.str ⟨#[c]⟩))) : L2.St) (upd H Dl (.lst (nts (z.cps.toList.take i)))) (V.str ⟨#[c]⟩) := val_var (by
      have : j < (wipe σ [j]).length := by
        show j < (σ.set j none).length
        rw [List.length_set]
        exact hj
      rw [List.getElem?_set_self this])
    refine val_cb (z := .int (c : Nat)) (va_cons hv va_nil) (fun Q q => ⟨⟨#[c]⟩, rfl, rfl, q⟩) _ ⟨_, upd_same, ?_, ?_⟩
    · rw [len_nts, List.length_take]
      refine Evl.sz_lt ?_
      omega
    · rw [upd_upd]
      have hc' : z.cps.toList[i]? = some c := by rw [Array.getElem?_toList]; exact hc
      rw [List.take_add_one, hc']
      unfold nts
      rw [List.map_append]
      rfl) (fun H' e => by
    subst e
    rw [show z.cps.size = z.cps.toList.length from rfl, List.take_length]
    exact q Dl hD)⟩
end
/-! ### words -/
def worF (n : Nat) (q : Addr) : List (Str × V) := [("place", .int n), ("row", .ref q)]
def kW : List Str := ["place", "row"]
def rdF (w : Addr) (e i : Nat) : List (Str × V) := [("words", .ref w), ("size", .int e), ("at", .int i)]
def kR : List Str := ["words", "size", "at"]
def WordAt (A : Ad) (N : Addr → Prop) (H : Hp) (x : Addr) (w : VbsyCore.Word) : Prop := ∃ dx q, H x = some (.ins A.cWord dx (worF w.1 q)) ∧ H q = some (.lst (nts w.2)) ∧ N q
theorem WordAt.but {A : Ad} {N : Addr → Prop} {H H' : Hp} {x l : Addr} {w : VbsyCore.Word} (h : WordAt A N H x w) (k : ∀ b o, H b = some o → b ≠ l → H' b = some o) (hx : x ≠ l) (n : ∀ t, N t → t ≠ l) : WordAt A N H' x w := by
  obtain ⟨dx, q, h1, h2, h3⟩ := h
  exact ⟨dx, q, k _ _ h1 hx, k _ _ h2 (n q h3), h3⟩
theorem WordAt.same {A : Ad} {N : Addr → Prop} {H H' : Hp} {x : Addr} {w : VbsyCore.Word} (h : WordAt A N H x w) (s : Same H H') : WordAt A N H' x w := by
  obtain ⟨dx, q, h1, h2, h3⟩ := h
  exact ⟨dx, q, s _ _ h1, s _ _ h2, h3⟩
theorem WordAt.ne {A : Ad} {N : Addr → Prop} {H : Hp} {x l : Addr} {w : VbsyCore.Word} (h : WordAt A N H x w) (hl : ∀ dx q n, H l ≠ some (.ins A.cWord dx (worF n q))) : x ≠ l := fun z => by
  obtain ⟨dx, q, h1, _⟩ := h
  rw [z] at h1
  exact hl _ _ _ h1
def WordsAt (A : Ad) (H : Hp) (p : Addr) (ws : List VbsyCore.Word) : Prop := ∃ l : List (VbsyCore.Word × Addr), l.map (·.1) = ws ∧ H p = some (.lst (l.map fun x => V.ref x.2)) ∧ ∀ x ∈ l, WordAt A (fun _ => True) H x.2 x.1
theorem WordsAt.same {A : Ad} {H H' : Hp} {p : Addr} {ws : List VbsyCore.Word} (h : WordsAt A H p ws) (s : Same H H') : WordsAt A H' p ws := by
  obtain ⟨l, e, h1, h2⟩ := h
  exact ⟨l, e, s _ _ h1, fun x hx => (h2 x hx).same s⟩
/-! ### readers -/
def But (r : Addr) (H H' : Hp) : Prop := ∀ b o, H b = some o → b ≠ r → H' b = some o
theorem But.refl {r : Addr} {H : Hp} : But r H H := fun _ _ e _ => e
theorem Same.but {r : Addr} {H H' : Hp} (s : Same H H') : But r H H' := fun b o e _ => s b o e
theorem But.trans {r : Addr} {H H1 H2 : Hp} (a : But r H H1) (b : But r H1 H2) : But r H H2 := fun x o e n => b x o (a x o e n) n
theorem But.same {r : Addr} {H H1 : Hp} (a : But r H H1) (n : H r = none) : Same H H1 := fun x o e => a x o e (ne_of_none e n)
theorem But.upd {r : Addr} {H H1 : Hp} {o : HO} (a : But r H H1) : But r H (upd H1 r o) := fun x u e n => by
  rw [upd_ne n]
  exact a x u e n
theorem But.add {r q : Addr} {H H1 : Hp} {o : HO} (a : But r H H1) (hq : H1 q = none) : But r H (L2.upd H1 q o) := fun x u e n => by
  rw [upd_ne (ne_of_none (a x u e n) hq)]
  exact a x u e n
structure RdAt (A : Ad) (H : Hp) (r w : Addr) (t : List Nat) (i : Nat) : Prop where
  le : i ≤ (VbsyCore.cut 0 t).length
  at_ : ∃ dx, H r = some (.ins A.cReader dx (rdF w t.length i)) ∧ WordsAt A H w (VbsyCore.cut 0 t)
theorem RdAt.same {A : Ad} {H H' : Hp} {r w : Addr} {t : List Nat} {i : Nat} (h : RdAt A H r w t i) (s : Same H H') : RdAt A H' r w t i := by
  obtain ⟨le, dx, h1, h2⟩ := h
  exact ⟨le, dx, s _ _ h1, h2.same s⟩
theorem WordsAt.keep {A : Ad} {H H2 : Hp} {w r : Addr} {ws : List VbsyCore.Word} {C dx : Addr} {fs : List (Str × V)} (h : WordsAt A H w ws) (e : H r = some (.ins C dx fs)) (hf : fs.length ≠ 2) (k : But r H H2) : WordsAt A H2 w ws := by
  obtain ⟨l, h2, h3, h4⟩ := h
  refine ⟨l, h2, k _ _ h3 (fun z => by rw [z, e] at h3; exact nomatch h3), fun x hx => ?_⟩
  obtain ⟨d, q, q1, q2, _⟩ := h4 x hx
  refine ⟨d, q, k _ _ q1 fun z => ?_, k _ _ q2 (fun z => by rw [z, e] at q2; exact nomatch q2), trivial⟩
  rw [z, e] at q1
  have := Option.some.inj q1
  injection this with _ _ z2
  exact hf (by rw [z2]; rfl)
/-- the reader goes on -/
theorem RdAt.on {A : Ad} {H H' : Hp} {r w : Addr} {t : List Nat} {i j : Nat} (h : RdAt A H r w t i) (b : But r H H') (hj : j ≤ (VbsyCore.cut 0 t).length) {dx : Addr} (e : H' r = some (.ins A.cReader dx (rdF w t.length j))) : RdAt A H' r w t j := by
  obtain ⟨le, dx', h1, h2⟩ := h
  exact ⟨hj, dx, e, h2.keep h1 (by show 3 ≠ 2; decide) b⟩
theorem RdAt.word {A : Ad} {H : Hp} {w : Addr} {ws : List VbsyCore.Word} (h : WordsAt A H w ws) {i : Nat} {x : VbsyCore.Word} (hx : ws[i]? = some x) : ∃ xs a, H w = some (.lst xs) ∧ xs.length = ws.length ∧ xs[i]? = some (.ref a) ∧ WordAt A (fun _ => True) H a x := by
  obtain ⟨l, h1, h2, h3⟩ := h
  subst h1
  rw [List.getElem?_map] at hx
  cases e : l[i]? with
  | none => rw [e] at hx; cases hx
  | some y =>
    rw [e] at hx
    obtain rfl := Option.some.inj hx
    exact ⟨_, y.2, h2, by rw [List.length_map, List.length_map], by rw [List.getElem?_map, e]; rfl, h3 y (List.mem_of_getElem? e)⟩
/-- the next words -/
abbrev nxt (t : List Nat) (i : Nat) : List VbsyCore.Word := (VbsyCore.cut 0 t).drop i
def RdQ (A : Ad) (H : Hp) (r w : Addr) (t : List Nat) (i : Nat) (Q : VK) (v : V) : Prop := ∀ H', But r H H' → Pl H' → RdAt A H' r w t i → Q v H'
def RdE (A : Ad) (H : Hp) (r : Addr) (E : XK) (p : Nat) : Prop := ∀ d H', But r H H' → Pl H' → H' d = some (.xd [(("place" : Str), .int (p : Int))]) → E (.ref A.cFault) (some d) H'
theorem RdE.on {A : Ad} {H H1 : Hp} {r : Addr} {E : XK} {p : Nat} (h : RdE A H r E p) (b : But r H H1) : RdE A H1 r E p := fun d H' b' => h d H' (b.trans b')
theorem RdQ.on {A : Ad} {H H1 : Hp} {r w : Addr} {t : List Nat} {i : Nat} {Q : VK} {v : V} (h : RdQ A H r w t i Q v) (b : But r H H1) : RdQ A H1 r w t i Q v := fun H' b' => h H' (b.trans b')
end HW

namespace HW
open PySem PySem.Spec PyProof.Rows L2
def sp_Day_init (K : PySem.W.Frag) (A : Ad) : Sp := fun vs H Q _ => ∃ (p dx : Addr) (x : Vbsyae.Fold), vs = [.ref p, .int x.row, .int x.col, .int x.high, .int x.wide] ∧ H p = some (.ins A.cDay dx []) ∧ Q .non (upd H p (.ins A.cDay dx (dayF x)))
def t_Day_init (K : PySem.W.Frag) (A : Ad) : TS := (tSeq (sFld K (tVar 0) (tVar 1) "row") (tSeq (sFld K (tVar 0) (tVar 2) "column") (tSeq (sFld K (tVar 0) (tVar 3) "high") (sFld K (tVar 0) (tVar 4) "wide"))))
theorem pure_Day_init {K : PySem.W.Frag} {mg : Str → Option Value} {A : Ad} (T : Txt K mg A) {vs : List V} {H : Hp} {Q : VK} {E : XK} (h : sp_Day_init K A vs H Q E) : t_Day_init K A { nx := fun _ H' => Q .non H', rt := Q } (start N_Day_init vs) H := by
  obtain ⟨p, dx, x, rfl, hp, q⟩ := h
  refine q_fld (val_var rfl) (val_var rfl) hp T.c_Day T.n_Day_row (by show 0 < 1000; decide) ?_
  refine q_fld (val_var rfl) (val_var rfl) upd_same T.c_Day T.n_Day_column lp1 ?_
  refine q_fld (val_var rfl) (val_var rfl) upd_same T.c_Day T.n_Day_high lp2 ?_
  refine st_fld (val_var rfl) (val_var rfl) upd_same T.c_Day T.n_Day_wide lp3 ?_
  rw [upd_upd, upd_upd, upd_upd, put4 (by decide +kernel) (by decide +kernel) (by decide +kernel)]
  exact q
theorem ok_Day_init {P : Program} {w : World} {K : PySem.W.Frag} {mg : Str → Option Value} {base : Heap} {A : Ad} (T : Txt K mg A) : COk P w K mg base "Day" A.cDay 1 ["self", "row", "column", "high", "wide"] (sp_Day_init K A) := by
  obtain ⟨fn, fd, hm, F⟩ := T.f_Day_init
  refine ⟨fn, fd, hm, F.ok sc_Day_init (fun vs H Q E h => ?_) (fun cdv A' outer s H vs Q E hr h => ⟨t_Day_init K A, ?_, pure_Day_init T h⟩), F.binds fun _ _ _ _ _ _ us hl => match us, hl with | [_, _, _, _, _], _ => rfl⟩
  · obtain ⟨_, _, _, rfl, _⟩ := h
    rfl
  · exact (pss_cons (ps_fld (pv 0) (pv 1) rfl) (pss_cons (ps_fld (pv 0) (pv 2) rfl) (pss_cons (ps_fld (pv 0) (pv 3) rfl) (pss_one (ps_fld (pv 0) (pv 4) rfl)))))
def sp_Field_init (K : PySem.W.Frag) (A : Ad) : Sp := fun vs H Q _ => ∃ (p dx w : Addr) (f : Vbsyae.Field), vs = [.ref p, .int f.rows, .int f.cols, .ref w] ∧ H p = some (.ins A.cField dx []) ∧ Q .non (upd H p (.ins A.cField dx (fldF f w)))
def t_Field_init (K : PySem.W.Frag) (A : Ad) : TS := (tSeq (sFld K (tVar 0) (tVar 1) "rows") (tSeq (sFld K (tVar 0) (tVar 2) "columns") (sFld K (tVar 0) (tVar 3) "walled")))
theorem pure_Field_init {K : PySem.W.Frag} {mg : Str → Option Value} {A : Ad} (T : Txt K mg A) {vs : List V} {H : Hp} {Q : VK} {E : XK} (h : sp_Field_init K A vs H Q E) : t_Field_init K A { nx := fun _ H' => Q .non H', rt := Q } (start N_Field_init vs) H := by
  obtain ⟨p, dx, w, f, rfl, hp, q⟩ := h
  refine q_fld (val_var rfl) (val_var rfl) hp T.c_Field T.n_Field_rows (by show 0 < 1000; decide) ?_
  refine q_fld (val_var rfl) (val_var rfl) upd_same T.c_Field T.n_Field_columns lp1 ?_
  refine st_fld (val_var rfl) (val_var rfl) upd_same T.c_Field T.n_Field_walled lp2 ?_
  rw [upd_upd, upd_upd, put3 (by decide +kernel) (by decide +kernel)]
  exact q
theorem ok_Field_init {P : Program} {w : World} {K : PySem.W.Frag} {mg : Str → Option Value} {base : Heap} {A : Ad} (T : Txt K mg A) : COk P w K mg base "Field" A.cField 1 ["self", "rows", "columns", "walled"] (sp_Field_init K A) := by
  obtain ⟨fn, fd, hm, F⟩ := T.f_Field_init
  refine ⟨fn, fd, hm, F.ok sc_Field_init (fun vs H Q E h => ?_) (fun cdv A' outer s H vs Q E hr h => ⟨t_Field_init K A, ?_, pure_Field_init T h⟩), F.binds fun _ _ _ _ _ _ us hl => match us, hl with | [_, _, _, _], _ => rfl⟩
  · obtain ⟨_, _, _, _, rfl, _⟩ := h
    rfl
  · exact (pss_cons (ps_fld (pv 0) (pv 1) rfl) (pss_cons (ps_fld (pv 0) (pv 2) rfl) (pss_one (ps_fld (pv 0) (pv 3) rfl))))
def sp0_Field_count (K : PySem.W.Frag) (A : Ad) : Sp := fun vs H Q _ => ∃ (a : Addr) (f : Vbsyae.Field), vs = [.ref a] ∧ FieldAt A H a f ∧ Q (.int (Vbsyae.cells f : Int)) H
abbrev sp_Field_count (K : PySem.W.Frag) (A : Ad) : Sp := Plain (sp0_Field_count K A)
def t_Field_count (K : PySem.W.Frag) (A : Ad) : TS := (tRet (tOp rMulI (tFld K (tVar 0) "rows") (tFld K (tVar 0) "columns")))
theorem pure_Field_count {K : PySem.W.Frag} {mg : Str → Option Value} {A : Ad} (T : Txt K mg A) {vs : List V} {H : Hp} {Q : VK} {E : XK} (pl : Pl H) (h : sp0_Field_count K A vs H Q E) : t_Field_count K A { nx := fun _ H' => Fg H Q .non H', rt := Fg H Q } (start N_Field_count vs) H := by
  obtain ⟨a, f, rfl, ⟨g, dx, w, h1, h2⟩, q⟩ := h
  have := g.r8
  refine s_ret (val_is (val_mul (v_rows T h1 (val_var rfl)) (v_cols T h1 (val_var rfl)) (.inl (by omega))) ?_) (Fg.same (Same.refl H) q)
  unfold Vbsyae.cells
  push_cast
  rfl
theorem ok_Field_count {P : Program} {w : World} {K : PySem.W.Frag} {mg : Str → Option Value} {base : Heap} {A : Ad} (T : Txt K mg A) : MOk P w K mg base CX0 A.cField "count" 1 ["self"] (sp_Field_count K A) := by
  obtain ⟨fn, fd, hm, F⟩ := T.f_Field_count
  refine ⟨fn, fd, hm, fun_okG F sc_Field_count (fun vs H Q E h => ?_) (fun cdv A' outer s H vs Q E hr pl h => ⟨t_Field_count K A, ?_, pure_Field_count T pl h⟩), F.binds fun _ _ _ _ _ _ us hl => match us, hl with | [_], _ => rfl⟩
  · obtain ⟨_, _, rfl, _⟩ := h
    rfl
  · exact (pss_one (ps_ret (pe_op op_mul (pe_fld (pv 0) rfl) (pe_fld (pv 0) rfl))))
def sp0_Field_beyond (K : PySem.W.Frag) (A : Ad) : Sp := fun vs H Q _ => ∃ (a : Addr) (f : Vbsyae.Field) (c s : Nat), vs = [.ref a, .int (c : Int), .int (s : Int)] ∧ FieldAt A H a f ∧ c < Vbsyae.cells f ∧ s < 4 ∧ Q (.int (HF.optI (Vbsyae.beyond f c s))) H
abbrev sp_Field_beyond (K : PySem.W.Frag) (A : Ad) : Sp := Plain (sp0_Field_beyond K A)
def t_Field_beyond (K : PySem.W.Frag) (A : Ad) : TS := (tSeq (tAsg (tOp rAddI (tOp rDivI (tVar 1) (tFld K (tVar 0) "columns")) (tOp (rIxT K) (tC (.ref A.t_ROW_STEPS)) (tVar 2))) (gName 3)) (tSeq (tAsg (tOp rAddI (tOp rModI (tVar 1) (tFld K (tVar 0) "columns")) (tOp (rIxT K) (tC (.ref A.t_COLUMN_STEPS)) (tVar 2))) (gName 4)) (tSeq (tIfS (tOr (tTest (tOp rLtI (tVar 3) (tC (.int 0)))) (tOr (tTest (tOp rGeI (tVar 3) (tFld K (tVar 0) "rows"))) (tOr (tTest (tOp rLtI (tVar 4) (tC (.int 0)))) (tTest (tOp rGeI (tVar 4) (tFld K (tVar 0) "columns")))))) (tRet (tUn uNegI (tC (.int 1)))) tNext) (tRet (tOp rAddI (tOp rMulI (tVar 3) (tFld K (tVar 0) "columns")) (tVar 4))))))
theorem pure_Field_beyond {K : PySem.W.Frag} {mg : Str → Option Value} {A : Ad} (T : Txt K mg A) {vs : List V} {H : Hp} {Q : VK} {E : XK} (pl : Pl H) (h : sp0_Field_beyond K A vs H Q E) : t_Field_beyond K A { nx := fun _ H' => Fg H Q .non H', rt := Fg H Q } (start N_Field_beyond vs) H := by
  obtain ⟨a, f, c, s, rfl, ⟨g, dx, w, h1, h2⟩, hc, hs, q⟩ := h
  have c0 := g.c1
  have c8 := g.c8
  refine q_set (val_add (val_div (val_var rfl) (v_cols T h1 (val_var rfl)) ⟨by omega, by omega⟩) (val_ixT (v := .int (HF.dR s)) val_c (val_var rfl) (T.q_ROW_STEPS H) ?_)) ?_
  · rcases HF.side_cases hs with e | e | e | e <;> subst e <;> rfl
  refine q_set (val_add (val_mod (val_var rfl) (v_cols T h1 (val_var rfl)) (by omega)) (val_ixT (v := .int (HF.dC s)) val_c (val_var rfl) (T.q_COLUMN_STEPS H) ?_)) ?_
  · rcases HF.side_cases hs with e | e | e | e <;> subst e <;> rfl
  have hq : Q (.int (HF.beyI f c s)) H := by rw [HF.beyI_eq g hc hs]; exact q
  unfold HF.beyI at hq
  refine q_if (an_or (an_test (val_cmp (val_var rfl) val_c)) fun _ => an_or (an_test (val_cmp (val_var rfl) (v_rows T h1 (val_var rfl)))) fun _ => an_or (an_test (val_cmp (val_var rfl) val_c)) fun _ => an_test (val_cmp (val_var rfl) (v_cols T h1 (val_var rfl)))) (fun hb => ?_) fun hb => ?_
  · refine s_ret (val_neg val_c) (Fg.same (Same.refl H) ?_)
    rw [if_pos] at hq
    · exact hq
    · simp only [Bool.or_eq_true, decide_eq_true_eq] at hb
      push_cast
      omega
  · refine s_ret (val_add (val_mul (val_var rfl) (v_cols T h1 (val_var rfl)) (.inr (by omega))) (val_var rfl)) (Fg.same (Same.refl H) ?_)
    rw [if_neg] at hq
    · push_cast at hq
      exact hq
    · simp only [Bool.or_eq_false_iff, decide_eq_false_iff_not] at hb
      push_cast
      omega
theorem ok_Field_beyond {P : Program} {w : World} {K : PySem.W.Frag} {mg : Str → Option Value} {base : Heap} {A : Ad} (T : Txt K mg A) : MOk P w K mg base CX0 A.cField "beyond" 1 ["self", "cell", "side"] (sp_Field_beyond K A) := by
  obtain ⟨fn, fd, hm, F⟩ := T.f_Field_beyond
  refine ⟨fn, fd, hm, fun_okG F sc_Field_beyond (fun vs H Q E h => ?_) (fun cdv A' outer s H vs Q E hr pl h => ⟨t_Field_beyond K A, ?_, pure_Field_beyond T pl h⟩), F.binds fun _ _ _ _ _ _ us hl => match us, hl with | [_, _, _], _ => rfl⟩
  · obtain ⟨_, _, _, _, rfl, _⟩ := h
    rfl
  · exact (pss_cons (ps_set (i := 3) sc_Field_beyond.nd rfl (Or.inl rfl) (pe_op op_add (pe_op op_fdiv (pv 1) (pe_fld (pv 0) rfl)) (pe_ix ix_tup (pe_gt rfl T.g_ROW_STEPS) (pv 2) (fun _ _ => rfl)))) (pss_cons (ps_set (i := 4) sc_Field_beyond.nd rfl (Or.inl rfl) (pe_op op_add (pe_op op_mod (pv 1) (pe_fld (pv 0) rfl)) (pe_ix ix_tup (pe_gt rfl T.g_COLUMN_STEPS) (pv 2) (fun _ _ => rfl)))) (pss_cons (ps_if (PW.pt (pw_or (pt_cmpR op_lt (pv 3) pe_int (nomark _)) (pw_or (pt_cmpR op_ge (pv 3) (pe_fld (pv 0) rfl) (nomark _)) (pw_or (pt_cmpR op_lt (pv 4) pe_int (nomark _)) (pw_or1 (pt_cmpR op_ge (pv 4) (pe_fld (pv 0) rfl) (nomark _))))))) (pss_one (ps_ret (pe_un un_neg pe_int))) pss_nil) (pss_one (ps_ret (pe_op op_add (pe_op op_mul (pv 3) (pe_fld (pv 0) rfl)) (pv 4)))))))
def sp0_Field_needs_hurdle (K : PySem.W.Frag) (A : Ad) : Sp := fun vs H Q _ => ∃ (a b : Addr) (f : Vbsyae.Field) (c s : Nat) (l : List Nat), vs = [.ref a, .ref b, .int (c : Int), .int (s : Int)] ∧ FieldAt A H a f ∧ SqL K H b (nts l) ∧ c < Vbsyae.cells f ∧ s < 4 ∧ Q (.bl (HF.need f l c s)) H
abbrev sp_Field_needs_hurdle (K : PySem.W.Frag) (A : Ad) : Sp := Plain (sp0_Field_needs_hurdle K A)
def t_Field_needs_hurdle (K : PySem.W.Frag) (A : Ad) : TS := (tSeq (tAsg (tMeth A.cField "beyond" (sp_Field_beyond K A) [] E0 (tVar 0) (tCons (tVar 2) (tCons (tVar 3) tNil))) (gName 4)) (tSeq (tIfS (tTest (tOp rLtI (tVar 4) (tC (.int 0)))) (tRet (tNotV (tOp (rIxL K) (tFld K (tVar 0) "walled") (tVar 3)))) tNext) (tRet (tOp (rIn K true) (tVar 4) (tVar 1)))))
theorem pure_Field_needs_hurdle {K : PySem.W.Frag} {mg : Str → Option Value} {A : Ad} (T : Txt K mg A) {vs : List V} {H : Hp} {Q : VK} {E : XK} (pl : Pl H) (h : sp0_Field_needs_hurdle K A vs H Q E) : t_Field_needs_hurdle K A { nx := fun _ H' => Fg H Q .non H', rt := Fg H Q } (start N_Field_needs_hurdle vs) H := by
  obtain ⟨a, b, f, c, s, l, rfl, F, hq, hc, hs, q⟩ := h
  have F' := F
  obtain ⟨g, dx, w, h1, h2⟩ := F'
  refine q_set (val_meth (val_var rfl) h1 no_F (va_cons (val_var rfl) (va_cons (val_var rfl) va_nil)) fun Q q => ⟨pl, a, f, c, s, rfl, F, hc, hs, q⟩) ?_
  unfold HF.need at q
  refine q_if (an_test (val_cmp (val_var rfl) val_c)) (fun hb => ?_) fun hb => ?_
  · simp only [decide_eq_true_eq] at hb
    cases e : Vbsyae.beyond f c s with
    | some d =>
      rw [e] at hb
      simp only [HF.optI] at hb
      omega
    | none =>
      rw [e] at q
      exact s_ret (val_not (v_wall T g h1 h2 (val_var rfl) (val_var rfl) hs)) (Fg.same (Same.refl H) q)
  · simp only [decide_eq_false_iff_not] at hb
    cases e : Vbsyae.beyond f c s with
    | none =>
      rw [e] at hb
      simp only [HF.optI] at hb
      omega
    | some d =>
      rw [e] at q
      refine s_ret (val_is (val_ni (x := .int (d : Int)) (val_var rfl) (val_var rfl) hq rfl (flat_nts l)) ?_) (Fg.same (Same.refl H) q)
      rw [inV_nts]
theorem ok_Field_needs_hurdle {P : Program} {w : World} {K : PySem.W.Frag} {mg : Str → Option Value} {base : Heap} {A : Ad} (T : Txt K mg A) : MOk P w K mg base CX0 A.cField "needs_hurdle" 2 ["self", "cells", "cell", "side"] (sp_Field_needs_hurdle K A) := by
  obtain ⟨fn, fd, hm, F⟩ := T.f_Field_needs_hurdle
  refine ⟨fn, fd, hm, fun_okG F sc_Field_needs_hurdle (fun vs H Q E h => ?_) (fun cdv A' outer s H vs Q E hr pl h => ⟨t_Field_needs_hurdle K A, ?_, pure_Field_needs_hurdle T pl h⟩), F.binds fun _ _ _ _ _ _ us hl => match us, hl with | [_, _, _, _], _ => rfl⟩
  · obtain ⟨_, _, _, _, _, _, rfl, _⟩ := h
    rfl
  · exact (pss_cons (ps_set (i := 4) sc_Field_needs_hurdle.nd rfl (Or.inl rfl) (pe_methM (pv 0) T.c_Field (ok_Field_beyond T) (hr.mono (by decide)) (pa_cons (pv 2) (pa_cons (pv 3) pa_nil)))) (pss_cons (ps_if (pt_cmpR op_lt (pv 4) pe_int (nomark _)) (pss_one (ps_ret (pe_not (pe_ix ix_list (pe_fld (pv 0) rfl) (pv 3) (fun _ _ => rfl))))) pss_nil) (pss_one (ps_ret (pe_cmpR op_notIn_seq (pv 4) (pv 1) (by rfl))))))
def sp_Field_hurdles (K : PySem.W.Frag) (A : Ad) : Sp := fun vs H Q _ => ∃ (a b : Addr) (f : Vbsyae.Field) (l : List Nat), vs = [.ref a, .ref b] ∧ Pl H ∧ FieldAt A H a f ∧ SqL K H b (nts l) ∧ (∀ c ∈ l, c < Vbsyae.cells f) ∧ l.length ≤ 64 ∧ ∀ p rs H', H p = none → Same H H' → Pl H' → H' p = some (.lst rs) → Tups H' ((HF.hurds f l l).map pr2) rs → Q (.ref p) H'
def t_Field_hurdles (K : PySem.W.Frag) (A : Ad) : TS := (tSeq (tAsg (tLst tNil) (gName 2)) (tSeq (tFor (iList K (tVar 1)) (gName 3) (tDrop (tBM K "list" rExtend (tVar 2) (tCons (tLc (iRng1 (tCons (tC (.int (4))) tNil)) (gName 4) (tB (tMeth A.cField "needs_hurdle" (sp_Field_needs_hurdle K A) [] E0 (tVar 0) (tCons (tVar 1) (tCons (tVar 3) (tCons (tVar 4) tNil))))) (tTup (tCons (tVar 3) (tCons (tVar 4) tNil))) [4]) tNil)))) (tRet (tVar 2))))
theorem pure_Field_hurdles {K : PySem.W.Frag} {mg : Str → Option Value} {A : Ad} (T : Txt K mg A) {vs : List V} {H : Hp} {Q : VK} {E : XK} (h : sp_Field_hurdles K A vs H Q E) : t_Field_hurdles K A { nx := fun _ H' => Q .non H', rt := Q } (start N_Field_hurdles vs) H := by
  obtain ⟨a, b, f, l, rfl, pl, F, hq, hl, hz, q⟩ := h
  refine q_setN (nw_lst va_nil (Nat.zero_le _)) fun p hp => ?_
  refine q_forL (xs := nts l) (val_var rfl) ((same_new hp).seq hq) (fun i σ' H' => ∃ v rs, σ' = [some (.ref a), some (.ref b), some (.ref p), v, none] ∧ Same H H' ∧ Pl H' ∧ H' p = some (.lst rs) ∧ Tups H' ((HF.hurds f l (l.take i)).map pr2) rs) ?_ ?_ ?_ ?_
  · exact ⟨none, [], rfl, same_new hp, pl.upd rfl, upd_same, .nil⟩
  · rintro i σ' H' ⟨v, rs, rfl, s1, _⟩
    exact s1.seq hq
  · rintro i x σ' H' hx ⟨v, rs, rfl, s1, pl1, hp1, tu⟩
    obtain ⟨c, hc, rfl⟩ : ∃ c, l[i]? = some c ∧ x = V.int (c : Int) := by
      unfold nts at hx
      rw [List.getElem?_map] at hx
      cases e : l[i]? with
      | none => rw [e] at hx; cases hx
      | some c =>
        rw [e] at hx
        exact ⟨c, rfl, (Option.some.inj hx).symm⟩
    have hcl := hl c (List.mem_of_getElem? hc)
    have ecat : HF.hurds f l (l.take (i + 1)) = HF.hurds f l (l.take i) ++ ((List.range 4).filter fun s => HF.need f l c s).map fun s => (c, s) := by
      unfold HF.hurds
      rw [List.take_add_one, hc, List.flatMap_append]
      simp
    have hi : i < l.length := (List.getElem?_eq_some_iff.mp hc).1
    have hlen : rs.length ≤ 4 * i := by
      rw [tu.len, List.length_map]
      have h1 := HF.hurds_len f l (l.take i)
      rw [List.length_take] at h1
      omega
    -- the comprehension: new pairs
    have hcomp : NewTs (tLc (iRng1 (tCons (tC (.int (4))) tNil)) (gName 4) (tB (tMeth A.cField "needs_hurdle" (sp_Field_needs_hurdle K A) [] E0 (tVar 0) (tCons (tVar 1) (tCons (tVar 3) (tCons (tVar 4) tNil))))) (tTup (tCons (tVar 3) (tCons (tVar 4) tNil))) [4])
        [some (.ref a), some (.ref b), some (.ref p), some (.int (c : Int)), none] H' (((List.range 4).filter fun s => HF.need f l c s).map fun s => pr2 (c, s)) := by
      refine nt_lcR1 4 _ _ pl1 (va_cons val_c va_nil) rfl (by decide) (fun s hs H2 s2 pl2 => ?_) fun s hs _ H2 s2 pl2 => ?_
      · have F2 := (F.same s1).same s2
        have F2' := F2
        obtain ⟨g, dx, w, h1, h2⟩ := F2'
        exact an_B (val_meth (val_var rfl) h1 no_F (va_cons (val_var rfl) (va_cons (val_var rfl) (va_cons (val_var rfl) va_nil))) fun Q q => ⟨pl2, a, b, f, c, s, l, rfl, F2, s2.seq (s1.seq hq), hcl, hs, q⟩)
      · exact nw_tup (va_cons (val_var rfl) (va_cons (val_var rfl) va_nil)) (by show 2 ≤ 100000; decide)
    have e2 : (((List.range 4).filter fun s => HF.need f l c s).map fun s => pr2 (c, s)).length ≤ 4 := by
      rw [List.length_map]
      exact List.length_filter_le _ _
    refine s_extTs hp1 (val_var rfl) hcomp (by omega) tu fun H2 rs2 k2 pl2 hp2 tu2 => ?_
    refine ⟨some (.int (c : Int)), rs2, rfl, same_but hp s1 k2, pl2, hp2, ?_⟩
    rw [ecat, List.map_append, List.map_map]
    exact tu2
  · rintro σ' H' ⟨v, rs, rfl, s1, pl1, hp1, tu⟩
    rw [show (nts l).length = l.length from len_nts l, List.take_length] at tu
    exact s_ret (val_var rfl) (q p rs H' hp s1 pl1 hp1 tu)
theorem ok_Field_hurdles {P : Program} {w : World} {K : PySem.W.Frag} {mg : Str → Option Value} {base : Heap} {A : Ad} (T : Txt K mg A) : MOk P w K mg base CX0 A.cField "hurdles" 3 ["self", "cells"] (sp_Field_hurdles K A) := by
  obtain ⟨fn, fd, hm, F⟩ := T.f_Field_hurdles
  refine ⟨fn, fd, hm, F.ok sc_Field_hurdles (fun vs H Q E h => ?_) (fun cdv A' outer s H vs Q E hr h => ⟨t_Field_hurdles K A, ?_, pure_Field_hurdles T h⟩), F.binds fun _ _ _ _ _ _ us hl => match us, hl with | [_, _], _ => rfl⟩
  · obtain ⟨_, _, _, _, rfl, _⟩ := h
    rfl
  · exact (pss_cons (ps_set (i := 2) sc_Field_hurdles.nd rfl (Or.inl rfl) (pe_lst pa_nil)) (pss_cons (ps_for PassesOwn.never rfl (pi_list (pv 1)) (pg_name (i := 3) sc_Field_hurdles.nd rfl (Or.inr rfl)) (pss_one (ps_expr (pe_bm PySem.F.plainAttrs_list PySem.F.slot_list_extend PySem.F.type_list_extend mt_extend (pv 2) (pa_cons (pe_lc (own := [("side", 4)]) (g := (gName 4)) (tt := (tB (tMeth A.cField "needs_hurdle" (sp_Field_needs_hurdle K A) [] E0 (tVar 0) (tCons (tVar 1) (tCons (tVar 3) (tCons (tVar 4) tNil)))))) rfl sc_Field_hurdles.nd (pi_range1 rfl T.b_range (pa_cons (pe_gi rfl T.g_SIDES) pa_nil)) (blkOk_by (N := N_Field_hurdles) (sc := defScope s_Field_hurdles) (by decide +kernel)) (fun _ _ _ _ _ => (pg_name (i := 4) sc_Field_hurdles.nd rfl (Or.inl rfl))) (fun _ _ _ _ _ => (pts_one (pt_val (pe_methM (pv 0) T.c_Field (ok_Field_needs_hurdle T) (hr.mono (by decide)) (pa_cons (pv 1) (pa_cons (pv 3) (pa_cons (pv 4) pa_nil))))))) (fun _ _ _ _ _ => (pe_tup (pa_cons (pv 3) (pa_cons (pv 4) pa_nil))))) pa_nil))))) (pss_one (ps_ret (pv 2)))))
end HW

namespace HW
open PySem PySem.Spec PyProof.Rows L2
theorem nts_eq (l : List Nat) : nts l = (l.map fun (n : Nat) => (n : Int)).map V.int := by
  unfold nts
  rw [List.map_map]
  rfl
theorem erase_at : ∀ (L : List Nat) (d : Nat), d ∈ L → ∃ j, L[j]? = some d ∧ (∀ m, m < j → L[m]? ≠ some d) ∧ L.eraseIdx j = L.erase d
  | [], d, h => by cases h
  | a :: r, d, h => by
    by_cases e : a = d
    · subst e
      exact ⟨0, rfl, fun m hm => absurd hm (by omega), by simp⟩
    · obtain ⟨j, h1, h2, h3⟩ := erase_at r d (by
        rcases List.mem_cons.mp h with q | q
        · exact absurd q.symm e
        · exact q)
      refine ⟨j + 1, by simpa using h1, fun m hm => ?_, ?_⟩
      · cases m with
        | zero => simpa using e
        | succ m => simpa using h2 m (by omega)
      · rw [List.erase_cons]
        have : (a == d) = false := by simpa using e
        rw [this]
        simp [h3]
theorem val_eqI {σ : L2.St} {H : Hp} {ta tb : TE} {i j : Int} (h : Val ta σ H (.int i)) (h2 : Val tb σ H (.int j)) : Val (tOp rEq ta tb) σ H (.bl (decide (i = j))) := by
  refine val_is (val_eq h h2 rfl) ?_
  congr 1
  by_cases e : i = j
  · subst e; simp
  · simp [e]
theorem q_rem {σ : L2.St} {H : Hp} {ta te : TE} {K : PySem.W.Frag} {D : Ends} {t2 : TS} {l : Addr} {L : List Nat} {d : Nat} (hl : H l = some (.lst (nts L))) (ha : Val ta σ H (.ref l)) (h : Val te σ H (.int (d : Int))) (hd : d ∈ L) (k : t2 D σ (upd H l (.lst (nts (L.erase d))))) :
    tSeq (tDrop (tBM K "list" rRemI ta (tCons te tNil))) t2 D σ H := ha _ ⟨Or.inl ⟨rfl, _, SqL.of hl⟩, h _ (by
  obtain ⟨j, h1, h2, h3⟩ := erase_at L d hd
  refine ⟨l, L.map fun (n : Nat) => (n : Int), (d : Int), j, rfl, rfl, by rw [← nts_eq]; exact hl, by rw [List.getElem?_map, h1]; rfl, fun m hm e => ?_, ?_⟩
  · rw [List.getElem?_map] at e
    cases q : L[m]? with
    | none => rw [q] at e; cases e
    | some x =>
      rw [q] at e
      have e : ((x : Nat) : Int) = (d : Int) := Option.some.inj e
      have : x = d := by omega
      subst this
      exact h2 m hm q
  · have e : ∀ (M : List Nat) (j : Nat), ((M.map fun (n : Nat) => (n : Int)).eraseIdx j).map V.int = nts (M.eraseIdx j) := by
      intro M
      induction M with
      | nil => intro j; rfl
      | cons a r ih =>
        intro j
        cases j with
        | zero => simp [nts]
        | succ j =>
          have := ih j
          unfold nts at this ⊢
          simp only [List.map_cons, List.eraseIdx_cons_succ, this]
    rw [e, h3]
    exact k)⟩
theorem dropLast_nts (L : List Nat) (s : Nat) : (nts (L ++ [s])).dropLast = nts L := by
  unfold nts
  rw [List.map_append]
  exact List.dropLast_concat
theorem last_nts (L : List Nat) (s : Nat) : (nts (L ++ [s]))[(nts (L ++ [s])).length - 1]? = some (V.int (s : Int)) := by
  unfold nts
  rw [List.map_append, List.length_append, List.length_map]
  simp
theorem snoc_of {α : Type} {l : List α} (h : 0 < l.length) : ∃ r x, l = r ++ [x] := by
  have hne : l ≠ [] := fun e => by rw [e] at h; simp at h
  exact ⟨l.dropLast, l.getLast hne, (List.dropLast_concat_getLast hne).symm⟩
/-- xs.pop() -/
theorem use_pop {σ : L2.St} {H : Hp} {ta : TE} {K : PySem.W.Frag} {Q : VK} {l : Addr} {L : List Nat} {s : Nat} (hl : H l = some (.lst (nts (L ++ [s])))) (ha : Val ta σ H (.ref l)) (k : Q (.int (s : Int)) (upd H l (.lst (nts L)))) : tBM0 K "list" rPop ta σ H Q :=
  ha _ ⟨Or.inl ⟨rfl, _, SqL.of hl⟩, l, nts (L ++ [s]), .int (s : Int), rfl, rfl, hl, last_nts L s, by rw [dropLast_nts]; exact k⟩
theorem q_setPop {σ : L2.St} {H : Hp} {ta : TE} {K : PySem.W.Frag} {D : Ends} {t2 : TS} {l : Addr} {L : List Nat} {s i : Nat} (hl : H l = some (.lst (nts (L ++ [s])))) (ha : Val ta σ H (.ref l)) (k : t2 D (σ.set i (some (.int (s : Int)))) (upd H l (.lst (nts L)))) :
    tSeq (tAsg (tBM0 K "list" rPop ta) (gName i)) t2 D σ H := use_pop hl ha k
theorem q_setLstPop {σ : L2.St} {H : Hp} {ta : TE} {K : PySem.W.Frag} {D : Ends} {t2 : TS} {l : Addr} {L : List Nat} {s i : Nat} (hl : H l = some (.lst (nts (L ++ [s])))) (ha : Val ta σ H (.ref l))
    (k : ∀ q, upd H l (.lst (nts L)) q = none → t2 D (σ.set i (some (.ref q))) (upd (upd H l (.lst (nts L))) q (.lst (nts [s])))) :
    tSeq (tAsg (tLst (tCons (tBM0 K "list" rPop ta) tNil)) (gName i)) t2 D σ H := use_pop hl ha ⟨by show 1 ≤ sizeLine; decide, k⟩
theorem placeI_1 {f : Vbsyae.Field} {c s : Nat} (h : s = 0 ∨ s = 2) : (((c : Int) / (f.cols : Int)) + (if decide ((s : Int) = 2) = true then 1 else 0)) * 10 + (c : Int) % (f.cols : Int) = (HF.placeN f c s : Int) := by
  unfold HF.placeN
  rw [if_pos h]
  rcases h with e | e <;> subst e <;> simp
theorem placeI_2 {f : Vbsyae.Field} {c s : Nat} (h : ¬ (s = 0 ∨ s = 2)) : (100 : Int) + (c : Int) / (f.cols : Int) * 10 + (c : Int) % (f.cols : Int) + (if decide ((s : Int) = 1) = true then 1 else 0) = (HF.placeN f c s : Int) := by
  unfold HF.placeN
  rw [if_neg h]
  by_cases e : s = 1
  · subst e
    simp
  · have : ¬ (s : Int) = 1 := by omega
    simp [e, this]
theorem app_nts (L : List Nat) (s : Nat) : nts L ++ [V.int (s : Int)] = nts (L ++ [s]) := by
  unfold nts
  rw [List.map_append]
  rfl
def sp0_Field_place_of (K : PySem.W.Frag) (A : Ad) : Sp := fun vs H Q _ => ∃ (a : Addr) (f : Vbsyae.Field) (c s : Nat), vs = [.ref a, .int (c : Int), .int (s : Int)] ∧ FieldAt A H a f ∧ c < Vbsyae.cells f ∧ s < 4 ∧ Q (.int (HF.placeN f c s : Int)) H
abbrev sp_Field_place_of (K : PySem.W.Frag) (A : Ad) : Sp := Plain (sp0_Field_place_of K A)
def t_Field_place_of (K : PySem.W.Frag) (A : Ad) : TS := (tSeq (tAsg (tOp rDivI (tVar 1) (tFld K (tVar 0) "columns")) (gName 3)) (tSeq (tAsg (tOp rModI (tVar 1) (tFld K (tVar 0) "columns")) (gName 4)) (tSeq (tIfS (tOr (tTest (tOp rEq (tVar 2) (tC (.int (0))))) (tTest (tOp rEq (tVar 2) (tC (.int (2)))))) (tRet (tOp rAddI (tOp rMulI (tOp rAddI (tVar 3) (tCB cIntV (tCons (tOp rEq (tVar 2) (tC (.int (2)))) tNil))) (tC (.int 10))) (tVar 4))) tNext) (tRet (tOp rAddI (tOp rAddI (tOp rAddI (tC (.int (100))) (tOp rMulI (tVar 3) (tC (.int 10)))) (tVar 4)) (tCB cIntV (tCons (tOp rEq (tVar 2) (tC (.int (1)))) tNil)))))))
theorem pure_Field_place_of {K : PySem.W.Frag} {mg : Str → Option Value} {A : Ad} (T : Txt K mg A) {vs : List V} {H : Hp} {Q : VK} {E : XK} (pl : Pl H) (h : sp0_Field_place_of K A vs H Q E) : t_Field_place_of K A { nx := fun _ H' => Fg H Q .non H', rt := Fg H Q } (start N_Field_place_of vs) H := by
  obtain ⟨a, f, c, s, rfl, ⟨g, dx, w, h1, h2⟩, hc, hs, q⟩ := h
  have c0 := g.c1
  have c8 := g.c8
  have hr := HF.row_lt hc
  have r8 := g.r8
  refine q_set (val_div (val_var rfl) (v_cols T h1 (val_var rfl)) ⟨by omega, by omega⟩) ?_
  refine q_set (val_mod (val_var rfl) (v_cols T h1 (val_var rfl)) (by omega)) ?_
  refine q_if (an_or (an_test (val_eqI (val_var rfl) val_c)) fun _ => an_test (val_eqI (val_var rfl) val_c)) (fun hb => ?_) fun hb => ?_
  · simp only [Bool.or_eq_true, decide_eq_true_eq] at hb
    refine s_ret (val_is (val_add (val_mul (val_add (val_var rfl) (val_intB (val_eqI (val_var rfl) val_c))) val_c (.inr (by omega))) (val_var rfl)) ?_) (Fg.same (Same.refl H) q)
    rw [← placeI_1 (by omega)]
  · simp only [Bool.or_eq_false_iff, decide_eq_false_iff_not] at hb
    refine s_ret (val_is (val_add (val_add (val_add val_c (val_mul (val_var rfl) val_c (.inr (by omega)))) (val_var rfl)) (val_intB (val_eqI (val_var rfl) val_c))) ?_) (Fg.same (Same.refl H) q)
    rw [← placeI_2 (by omega)]
theorem ok_Field_place_of {P : Program} {w : World} {K : PySem.W.Frag} {mg : Str → Option Value} {base : Heap} {A : Ad} (T : Txt K mg A) : MOk P w K mg base CX0 A.cField "place_of" 1 ["self", "cell", "side"] (sp_Field_place_of K A) := by
  obtain ⟨fn, fd, hm, F⟩ := T.f_Field_place_of
  refine ⟨fn, fd, hm, fun_okG F sc_Field_place_of (fun vs H Q E h => ?_) (fun cdv A' outer s H vs Q E hr pl h => ⟨t_Field_place_of K A, ?_, pure_Field_place_of T pl h⟩), F.binds fun _ _ _ _ _ _ us hl => match us, hl with | [_, _, _], _ => rfl⟩
  · obtain ⟨_, _, _, _, rfl, _⟩ := h
    rfl
  · exact (pss_cons (ps_set (i := 3) sc_Field_place_of.nd rfl (Or.inl rfl) (pe_op op_fdiv (pv 1) (pe_fld (pv 0) rfl))) (pss_cons (ps_set (i := 4) sc_Field_place_of.nd rfl (Or.inl rfl) (pe_op op_mod (pv 1) (pe_fld (pv 0) rfl))) (pss_cons (ps_if (PW.pt (pw_or (pt_cmpR op_eq (pv 2) (pe_gi rfl T.g_ABOVE) (nomark _)) (pw_or1 (pt_cmpR op_eq (pv 2) (pe_gi rfl T.g_BELOW) (nomark _))))) (pss_one (ps_ret (pe_op op_add (pe_op op_mul (pe_op op_add (pv 3) (pe_callTy call_int1 rfl T.b_int PyProof.Rows.boot_int (pa_cons (pe_cmpR op_eq (pv 2) (pe_gi rfl T.g_BELOW) (nomark _)) pa_nil))) pe_int) (pv 4)))) pss_nil) (pss_one (ps_ret (pe_op op_add (pe_op op_add (pe_op op_add (pe_gi rfl T.g_UPRIGHT) (pe_op op_mul (pv 3) pe_int)) (pv 4)) (pe_callTy call_int1 rfl T.b_int PyProof.Rows.boot_int (pa_cons (pe_cmpR op_eq (pv 2) (pe_gi rfl T.g_RIGHT) (nomark _)) pa_nil))))))))
/-- the numbers of a fold's places -/
def plcs (f : Vbsyae.Field) (l : List Nat) : List Nat := (HF.hurds f l l).map fun x => HF.placeN f x.1 x.2
def sp0_Field_places (K : PySem.W.Frag) (A : Ad) : Sp := fun vs H Q _ => ∃ (a b : Addr) (f : Vbsyae.Field) (l : List Nat), vs = [.ref a, .ref b] ∧ FieldAt A H a f ∧ SqL K H b (nts l) ∧ (∀ c ∈ l, c < Vbsyae.cells f) ∧ l.length ≤ 64 ∧ ∀ p, H p = none → Q (.ref p) (upd H p (.lst (nts (plcs f l))))
abbrev sp_Field_places (K : PySem.W.Frag) (A : Ad) : Sp := Plain (sp0_Field_places K A)
def t_Field_places (K : PySem.W.Frag) (A : Ad) : TS := (tRet (tLc (iList K (tMeth A.cField "hurdles" (sp_Field_hurdles K A) [] E0 (tVar 0) (tCons (tVar 1) tNil))) (gTup K 2 (gCons (gName 2) (gCons (gName 3) gNil))) tYes (tMeth A.cField "place_of" (sp_Field_place_of K A) [] E0 (tVar 0) (tCons (tVar 2) (tCons (tVar 3) tNil))) [2, 3]))
theorem pure_Field_places {K : PySem.W.Frag} {mg : Str → Option Value} {A : Ad} (T : Txt K mg A) {vs : List V} {H : Hp} {Q : VK} {E : XK} (pl : Pl H) (h : sp0_Field_places K A vs H Q E) : t_Field_places K A { nx := fun _ H' => Fg H Q .non H', rt := Fg H Q } (start N_Field_places vs) H := by
  obtain ⟨a, b, f, l, rfl, F, hq, hl, hz, q⟩ := h
  have F' := F
  obtain ⟨g, dx, w, h1, h2⟩ := F'
  have hz2 := HF.hurds_len f l l
  refine lc_pairs (j := 2) (k := 3) (by decide) (HF.hurds f l l) (fun _ => true) (fun x => .int (HF.placeN f x.1 x.2 : Int)) ?_ (by omega) _ (fun x _ H' _ _ => an_yes) (fun x hx _ H' s' pl' => ?_) fun Dl H' hD s' pl' e => ?_
  · intro Q' q'
    refine val_var (i := 0) (v := V.ref a) rfl _ ⟨a, dx, _, rfl, h1, no_F, ?_⟩
    refine val_var (i := 1) (v := V.ref b) rfl _ ?_
    exact ⟨a, b, f, l, rfl, pl, F, hq, hl, hz, q'⟩
  · have F2 := F.same s'
    have F2' := F2
    obtain ⟨_, dx', w', h1', h2'⟩ := F2'
    obtain ⟨c, s⟩ := x
    have hm := HF.mem_hurds hx
    exact val_meth (val_var rfl) h1' no_F (va_cons (val_var rfl) (va_cons (val_var rfl) va_nil)) fun Q q => ⟨pl', a, f, c, s, rfl, F2, hl c hm.1, hm.2, q⟩
  · rw [filt_true] at e
    refine Fg.lst s' hD (xs := nts (plcs f l)) ?_ (q Dl hD)
    rw [e]
    unfold nts plcs
    rw [List.map_map]
    rfl
theorem ok_Field_places {P : Program} {w : World} {K : PySem.W.Frag} {mg : Str → Option Value} {base : Heap} {A : Ad} (T : Txt K mg A) : MOk P w K mg base CX0 A.cField "places" 4 ["self", "cells"] (sp_Field_places K A) := by
  obtain ⟨fn, fd, hm, F⟩ := T.f_Field_places
  refine ⟨fn, fd, hm, fun_okG F sc_Field_places (fun vs H Q E h => ?_) (fun cdv A' outer s H vs Q E hr pl h => ⟨t_Field_places K A, ?_, pure_Field_places T pl h⟩), F.binds fun _ _ _ _ _ _ us hl => match us, hl with | [_, _], _ => rfl⟩
  · obtain ⟨_, _, _, _, rfl, _⟩ := h
    rfl
  · exact (pss_one (ps_ret (pe_lc (own := [("cell", 2), ("side", 3)]) (g := (gTup K 2 (gCons (gName 2) (gCons (gName 3) gNil)))) (tt := tYes) rfl sc_Field_places.nd (pi_list (pe_methM (pv 0) T.c_Field (ok_Field_hurdles T) (hr.mono (by decide)) (pa_cons (pv 1) pa_nil))) (blkOk_by (N := N_Field_places) (sc := defScope s_Field_places) (by decide +kernel)) (fun _ _ _ _ _ => (pg_tup rfl (pgs_cons (pg_name (i := 2) sc_Field_places.nd rfl (Or.inl rfl)) (pgs_cons (pg_name (i := 3) sc_Field_places.nd rfl (Or.inl rfl)) pgs_nil)))) (fun _ _ _ _ _ => pts_nil) (fun _ _ _ _ _ => (pe_methM (pv 0) T.c_Field (ok_Field_place_of T) (hr.mono (by decide)) (pa_cons (pv 2) (pa_cons (pv 3) pa_nil)))))))
def sp0_Field_parts (K : PySem.W.Frag) (A : Ad) : Sp := fun vs H Q _ => ∃ (a b : Addr) (f : Vbsyae.Field) (l : List Nat), vs = [.ref a, .ref b] ∧ FieldAt A H a f ∧ SqL K H b (nts l) ∧ HF.Rising l ∧ (∀ c ∈ l, c < Vbsyae.cells f) ∧ Q (.int (Vbsyae.parts f l : Int)) H
abbrev sp_Field_parts (K : PySem.W.Frag) (A : Ad) : Sp := Plain (sp0_Field_parts K A)
def t_Field_parts (K : PySem.W.Frag) (A : Ad) : TS := (tSeq (tAsg (tCB (cList K) (tCons (tVar 1) tNil)) (gName 2)) (tSeq (tAsg (tC (.int 0)) (gName 3)) (tSeq (tWhile (tTest (tOp rGtI (tCB (cLen K) (tCons (tVar 2) tNil)) (tC (.int 0)))) (tSeq (tAsg (tOp rAddI (tVar 3) (tC (.int 1))) (gName 3)) (tSeq (tAsg (tLst (tCons (tBM0 K "list" rPop (tVar 2)) tNil)) (gName 4)) (tWhile (tTest (tOp rGtI (tCB (cLen K) (tCons (tVar 4) tNil)) (tC (.int 0)))) (tSeq (tAsg (tBM0 K "list" rPop (tVar 4)) (gName 5)) (tFor (iRng1 (tCons (tC (.int (4))) tNil)) (gName 6) (tSeq (tAsg (tMeth A.cField "beyond" (sp_Field_beyond K A) [] E0 (tVar 0) (tCons (tVar 5) (tCons (tVar 6) tNil))) (gName 7)) (tIfS (tTest (tOp (rIn K false) (tVar 7) (tVar 2))) (tSeq (tDrop (tBM K "list" rRemI (tVar 2) (tCons (tVar 7) tNil))) (tDrop (tBM K "list" rAppend (tVar 4) (tCons (tVar 7) tNil)))) tNext)))))))) (tRet (tVar 3)))))
theorem pure_Field_parts {K : PySem.W.Frag} {mg : Str → Option Value} {A : Ad} (T : Txt K mg A) {vs : List V} {H : Hp} {Q : VK} {E : XK} (pl : Pl H) (h : sp0_Field_parts K A vs H Q E) : t_Field_parts K A { nx := fun _ H' => Fg H Q .non H', rt := Fg H Q } (start N_Field_parts vs) H := by
  obtain ⟨a, b, f, l, rfl, F, hq, hr, hl, q⟩ := h
  have g := F.g
  have hz := HF.rising_len hr hl
  have hc64 := HF.cells_le g
  -- left = list(cells); found = 0
  refine q_setN (xs := nts l) (fun Q' q' => val_var (i := 1) (v := V.ref b) rfl _ ⟨b, _, rfl, .inl hq, q'⟩) fun p hp => ?_
  refine q_set val_c ?_
  refine q_while (fun m σ' H' => ∃ (L : List Nat) (n : Nat) (v4 v5 v6 v7 : Option V), σ' = [some (.ref a), some (.ref b), some (.ref p), some (.int (n : Int)), v4, v5, v6, v7] ∧ Same H H' ∧ Pl H' ∧ H' p = some (.lst (nts L)) ∧ HF.Out f l L n ∧ m = L.length) l.length ?_ ?_
  · exact ⟨l, 0, none, none, none, none, rfl, same_new hp, pl.upd rfl, upd_same, HF.Out.start hr, rfl⟩
  rintro m σ' H' ⟨L, n, v4, v5, v6, v7, rfl, s1, pl1, h1, o, rfl⟩
  have hzL : L.length ≤ 64 := by
    have := HF.nodup_sub_len o.nd o.sub
    omega
  refine ⟨decide (0 < (L.length : Int)), an_test (val_is (val_cmp (val_len (val_var rfl) (SqL.of h1)) val_c) (by rw [len_nts])), fun hb => ?_, fun hb => ?_⟩
  · simp only [decide_eq_true_eq] at hb
    obtain ⟨L0, s, rfl⟩ := snoc_of (l := L) (by omega)
    have hsL : s ∈ L0 ++ [s] := by simp
    have hs : s < Vbsyae.cells f := hl s (o.sub s hsL)
    refine ⟨fun σ2 H2 => ∃ (L : List Nat) (n : Nat) (v4 v5 v6 v7 : Option V), σ2 = [some (.ref a), some (.ref b), some (.ref p), some (.int (n : Int)), v4, v5, v6, v7] ∧ Same H H2 ∧ Pl H2 ∧ H2 p = some (.lst (nts L)) ∧ HF.Out f l L n ∧ L.length < (L0 ++ [s]).length, ?_, ?_⟩
    · rintro σ2 H2 ⟨L, n, v4, v5, v6, v7, e, s2, pl2, h2, o2, hlt⟩
      exact ⟨_, hlt, L, n, v4, v5, v6, v7, e, s2, pl2, h2, o2, rfl⟩
    -- found = found + 1; waiting = [left.pop()]
    refine q_set (val_add (val_var rfl) val_c) ?_
    have e1 : ((n : Int) + 1) = ((n + 1 : Nat) : Int) := by omega
    rw [e1]
    refine q_setLstPop h1 (val_var rfl) fun w hw => ?_
    have hwp : w ≠ p := fun z => by rw [z, upd_same] at hw; cases hw
    have hwH' : H' w = none := by rwa [upd_ne hwp] at hw
    have hwH : H w = none := s1.free hwH'
    -- while len(waiting) > 0
    refine s_while (fun m σ' H' => ∃ (L' W V : List Nat) (v5 v6 v7 : Option L2.V), σ' = [some (.ref a), some (.ref b), some (.ref p), some (.int ((n + 1 : Nat) : Int)), some (.ref w), v5, v6, v7] ∧ Same H H' ∧ Pl H' ∧ H' p = some (.lst (nts L')) ∧ H' w = some (.lst (nts W)) ∧ HF.In f l (L0 ++ [s]) s L' W V ∧ m = 2 * L'.length + W.length ∧ m ≤ 200) (2 * L0.length + 1) ?_ ?_
    · refine ⟨L0, [s], [s], v5, v6, v7, rfl, ?_, (pl1.upd rfl).upd rfl, ?_, upd_same, HF.In.start hs, rfl, by rw [List.length_append, List.length_singleton] at hzL; omega⟩
      · intro b' o' e'
        rw [upd_ne (ne_of_none e' hwH), upd_ne (ne_of_none e' hp)]
        exact s1 _ _ e'
      · rw [upd_ne (Ne.symm hwp), upd_same]
    rintro m σ' H2 ⟨L', W, V, v5, v6, v7, rfl, s2, pl2, hp2, hw2, inn, rfl, hm⟩
    have perm := inn.perm.length_eq
    rw [List.length_append, List.length_append, List.length_singleton] at perm
    refine ⟨decide (0 < (W.length : Int)), an_test (val_is (val_cmp (val_len (val_var rfl) (SqL.of hw2)) val_c) (by rw [len_nts])), fun hb2 => ?_, fun hb2 => ?_⟩
    · simp only [decide_eq_true_eq] at hb2
      obtain ⟨W0, cell, rfl⟩ := snoc_of (l := W) (by omega)
      have hcV : cell ∈ V := inn.wait cell (by simp)
      have hcell : cell < Vbsyae.cells f := hl cell (o.sub cell (inn.perm.mem_iff.mpr (List.mem_append_right _ hcV)))
      refine ⟨fun σ2 H3 => ∃ (M2 W2 V2 : List Nat) (v5 v6 v7 : Option L2.V), σ2 = [some (.ref a), some (.ref b), some (.ref p), some (.int ((n + 1 : Nat) : Int)), some (.ref w), v5, v6, v7] ∧ Same H H3 ∧ Pl H3 ∧ H3 p = some (.lst (nts M2)) ∧ H3 w = some (.lst (nts W2)) ∧ HF.In f l (L0 ++ [s]) s M2 W2 V2 ∧ 2 * M2.length + W2.length < 2 * L'.length + (W0 ++ [cell]).length, ?_, ?_⟩
      · rintro σ2 H3 ⟨M2, W2, V2, v5, v6, v7, e, s3, pl3, h3, h4, i3, hlt⟩
        exact ⟨_, hlt, M2, W2, V2, v5, v6, v7, e, s3, pl3, h3, h4, i3, rfl, by omega⟩
      -- cell = waiting.pop(); for side in range(SIDES)
      refine q_setPop hw2 (val_var rfl) ?_
      refine s_forR1 4 (va_cons val_c va_nil) rfl (by decide) (fun i σ' H3 => ∃ (M2 W2 V2 : List Nat) (v6 v7 : Option L2.V), σ' = [some (.ref a), some (.ref b), some (.ref p), some (.int ((n + 1 : Nat) : Int)), some (.ref w), some (.int (cell : Int)), v6, v7] ∧ Same H H3 ∧ Pl H3 ∧ H3 p = some (.lst (nts M2)) ∧ H3 w = some (.lst (nts W2)) ∧ HF.Mid f l (L0 ++ [s]) s M2 W2 V2 cell i ∧ 2 * M2.length + W2.length < 2 * L'.length + (W0 ++ [cell]).length) ?_ ?_ ?_
      · refine ⟨L', W0, V, v6, v7, rfl, ?_, pl2.upd rfl, ?_, upd_same, inn.pop, by rw [List.length_append]; simp⟩
        · exact same_upd s2 hwH
        · rw [upd_ne (Ne.symm hwp)]; exact hp2
      · rintro i σ' H3 hi ⟨M2, W2, V2, v6, v7, rfl, s3, pl3, hp3, hw3, mid, hlt⟩
        have F3 := F.same s3
        have F3' := F3
        obtain ⟨_, dx, wl, f1, f2⟩ := F3'
        have perm3 := mid.perm.length_eq
        rw [List.length_append, List.length_append, List.length_singleton] at perm3
        have ndp := (mid.perm.nodup_iff).mp o.nd
        have hW2 : W2.length ≤ 1000 := by omega
        refine q_set (val_meth (val_var rfl) f1 no_F (va_cons (val_var rfl) (va_cons (val_var rfl) va_nil)) fun Q q => ⟨pl3, a, f, cell, i, rfl, F3, hcell, hi, q⟩) ?_
        cases e : Vbsyae.beyond f cell i with
        | none =>
          refine s_if (b := false) (an_test (val_is (val_in (x := .int (-1)) (val_var rfl) (val_var rfl) (SqL.of hp3) rfl (flat_nts M2)) (by rw [inV_neg]))) (fun z => Bool.noConfusion z) fun _ => ?_
          exact ⟨M2, W2, V2, _, _, rfl, s3, pl3, hp3, hw3, mid.no (fun d hd => by rw [e] at hd; cases hd), hlt⟩
        | some d =>
          refine s_if (b := M2.contains d) (an_test (val_is (val_in (x := .int (d : Int)) (val_var rfl) (val_var rfl) (SqL.of hp3) rfl (flat_nts M2)) (by rw [inV_nts]))) (fun hd => ?_) fun hd => ?_
          · have hd : d ∈ M2 := by simpa using hd
            refine q_rem hp3 (val_var rfl) (val_var rfl) hd ?_
            have hw4 : upd H3 p (.lst (nts (M2.erase d))) w = some (.lst (nts W2)) := by rw [upd_ne hwp]; exact hw3
            refine s_app hw4 (val_var rfl) (val_var rfl) (by rw [len_nts]; omega) ?_
            have hpos : 0 < M2.length := List.length_pos_of_mem hd
            have hel : (M2.erase d).length = M2.length - 1 := List.length_erase_of_mem hd
            refine ⟨M2.erase d, W2 ++ [d], d :: V2, _, _, rfl, ?_, (pl3.upd rfl).upd rfl, ?_, ?_, mid.yes g hs (fun c hc => o.sub c hc) o.nd hi e hd, ?_⟩
            · exact same_upd (same_upd s3 hp) hwH
            · rw [upd_ne (Ne.symm hwp), upd_same]
            · show upd _ w (HO.lst (nts W2 ++ [L2.V.int (d : Int)])) w = _
              rw [app_nts]; exact upd_same
            · rw [List.length_append, List.length_singleton]; omega
          · have hd : d ∉ M2 := by simpa using hd
            exact ⟨M2, W2, V2, _, _, rfl, s3, pl3, hp3, hw3, mid.no (fun d' hd' => by rw [e] at hd'; cases hd'; exact hd), hlt⟩
      · rintro σ' H3 ⟨M2, W2, V2, v6, v7, rfl, s3, pl3, hp3, hw3, mid, hlt⟩
        exact ⟨M2, W2, V2, _, _, _, rfl, s3, pl3, hp3, hw3, mid.fin, hlt⟩
    · simp only [decide_eq_false_iff_not] at hb2
      have : W = [] := List.eq_nil_of_length_eq_zero (by omega)
      subst this
      have hpos : 0 < V.length := List.length_pos_of_mem inn.top
      exact ⟨L', n + 1, _, v5, v6, v7, rfl, s2, pl2, hp2, inn.fin g hl hsL o, by rw [List.length_append, List.length_singleton]; omega⟩
  · simp only [decide_eq_false_iff_not] at hb
    have : L = [] := List.eq_nil_of_length_eq_zero (by omega)
    subst this
    refine s_ret (val_var rfl) (Fg.same s1 ?_)
    rw [o.fin hr hl]
    exact q
theorem ok_Field_parts {P : Program} {w : World} {K : PySem.W.Frag} {mg : Str → Option Value} {base : Heap} {A : Ad} (T : Txt K mg A) : MOk P w K mg base CX0 A.cField "parts" 2 ["self", "cells"] (sp_Field_parts K A) := by
  obtain ⟨fn, fd, hm, F⟩ := T.f_Field_parts
  refine ⟨fn, fd, hm, fun_okG F sc_Field_parts (fun vs H Q E h => ?_) (fun cdv A' outer s H vs Q E hr pl h => ⟨t_Field_parts K A, ?_, pure_Field_parts T pl h⟩), F.binds fun _ _ _ _ _ _ us hl => match us, hl with | [_, _], _ => rfl⟩
  · obtain ⟨_, _, _, _, rfl, _⟩ := h
    rfl
  · exact (pss_cons (ps_set (i := 2) sc_Field_parts.nd rfl (Or.inl rfl) (pe_callTy call_list_of rfl T.b_list PyProof.Rows.boot_list (pa_cons (pv 1) pa_nil))) (pss_cons (ps_set (i := 3) sc_Field_parts.nd rfl (Or.inl rfl) pe_int) (pss_cons (ps_while PassesOwn.never (pt_cmpR op_gt (pe_callB call_len_seq rfl T.b_len PySem.boot_len (pa_cons (pv 2) pa_nil)) pe_int (nomark _)) (pss_cons (ps_set (i := 3) sc_Field_parts.nd rfl (Or.inl rfl) (pe_op op_add (pv 3) pe_int)) (pss_cons (ps_set (i := 4) sc_Field_parts.nd rfl (Or.inl rfl) (pe_lst (pa_cons (pe_bm0 PySem.F.plainAttrs_list PySem.F.slot_list_pop PySem.F.type_list_pop mt_pop (pv 2)) pa_nil))) (pss_one (ps_while PassesOwn.never (pt_cmpR op_gt (pe_callB call_len_seq rfl T.b_len PySem.boot_len (pa_cons (pv 4) pa_nil)) pe_int (nomark _)) (pss_cons (ps_set (i := 5) sc_Field_parts.nd rfl (Or.inl rfl) (pe_bm0 PySem.F.plainAttrs_list PySem.F.slot_list_pop PySem.F.type_list_pop mt_pop (pv 4))) (pss_one (ps_for PassesOwn.never rfl (pi_range1 rfl T.b_range (pa_cons (pe_gi rfl T.g_SIDES) pa_nil)) (pg_name (i := 6) sc_Field_parts.nd rfl (Or.inl rfl)) (pss_cons (ps_set (i := 7) sc_Field_parts.nd rfl (Or.inl rfl) (pe_methM (pv 0) T.c_Field (ok_Field_beyond T) (hr.mono (by decide)) (pa_cons (pv 5) (pa_cons (pv 6) pa_nil)))) (pss_one (ps_if (pt_cmpR op_in_seq (pv 7) (pv 2) (by rfl)) (pss_cons (ps_expr (pe_bm PySem.F.plainAttrs_list PySem.F.slot_list_remove PySem.F.type_list_remove mt_remove (pv 2) (pa_cons (pv 7) pa_nil))) (pss_one (ps_expr (pe_bm PySem.F.plainAttrs_list PySem.F.slot_list_append PySem.F.type_list_append mt_append (pv 4) (pa_cons (pv 7) pa_nil))))) pss_nil))))))))))) (pss_one (ps_ret (pv 3))))))
end HW

namespace HW
open PySem PySem.Spec PyProof.Rows L2
theorem intL {x y : Bool} : ((if x = true then (1 : Int) else 0) + (if y = true then 1 else 0)) = (((if x = true then 1 else 0) + (if y = true then 1 else 0) : Nat) : Int) := by
  cases x <;> cases y <;> rfl
def sp0_Field_line_cost (K : PySem.W.Frag) (A : Ad) : Sp := fun vs H Q _ => ∃ (a : Addr) (f : Vbsyae.Field) (al : Bool) (i j : Nat), vs = [.ref a, .bl al, .int (i : Int), .int (j : Int)] ∧ FieldAt A H a f ∧ i < 4 ∧ j < 4 ∧ Q (.int (HF.lineN al (Vbsyae.walled f i) (Vbsyae.walled f j) : Int)) H
abbrev sp_Field_line_cost (K : PySem.W.Frag) (A : Ad) : Sp := Plain (sp0_Field_line_cost K A)
def t_Field_line_cost (K : PySem.W.Frag) (A : Ad) : TS := (tSeq (tAsg (tOp rAddI (tCB cIntV (tCons (tOp (rIxL K) (tFld K (tVar 0) "walled") (tVar 2)) tNil)) (tCB cIntV (tCons (tOp (rIxL K) (tFld K (tVar 0) "walled") (tVar 3)) tNil))) (gName 4)) (tSeq (tIfS (tB (tVar 1)) (tRet (tOp rSubI (tC (.int 2)) (tVar 4))) tNext) (tRet (tOp rSubI (tC (.int 2)) (tCB cMin2 (tCons (tC (.int 1)) (tCons (tVar 4) tNil)))))))
theorem pure_Field_line_cost {K : PySem.W.Frag} {mg : Str → Option Value} {A : Ad} (T : Txt K mg A) {vs : List V} {H : Hp} {Q : VK} {E : XK} (pl : Pl H) (h : sp0_Field_line_cost K A vs H Q E) : t_Field_line_cost K A { nx := fun _ H' => Fg H Q .non H', rt := Fg H Q } (start N_Field_line_cost vs) H := by
  obtain ⟨a, f, al, i, j, rfl, ⟨g, dx, w, h1, h2⟩, hi, hj, q⟩ := h
  refine q_set (val_add (val_intB (v_wall T g h1 h2 (val_var rfl) (val_var rfl) hi)) (val_intB (v_wall T g h1 h2 (val_var rfl) (val_var rfl) hj))) ?_
  unfold HF.lineN at q
  refine q_if (an_B (val_var rfl)) (fun hb => ?_) fun hb => ?_
  · subst hb
    refine s_ret (val_is (val_sub val_c (val_var rfl)) ?_) (Fg.same (Same.refl H) q)
    cases Vbsyae.walled f i <;> cases Vbsyae.walled f j <;> rfl
  · subst hb
    refine s_ret (val_is (val_sub val_c (val_min2 val_c (val_var rfl))) ?_) (Fg.same (Same.refl H) q)
    cases Vbsyae.walled f i <;> cases Vbsyae.walled f j <;> rfl
theorem ok_Field_line_cost {P : Program} {w : World} {K : PySem.W.Frag} {mg : Str → Option Value} {base : Heap} {A : Ad} (T : Txt K mg A) : MOk P w K mg base CX0 A.cField "line_cost" 1 ["self", "is_all", "one", "other"] (sp_Field_line_cost K A) := by
  obtain ⟨fn, fd, hm, F⟩ := T.f_Field_line_cost
  refine ⟨fn, fd, hm, fun_okG F sc_Field_line_cost (fun vs H Q E h => ?_) (fun cdv A' outer s H vs Q E hr pl h => ⟨t_Field_line_cost K A, ?_, pure_Field_line_cost T pl h⟩), F.binds fun _ _ _ _ _ _ us hl => match us, hl with | [_, _, _, _], _ => rfl⟩
  · obtain ⟨_, _, _, _, _, rfl, _⟩ := h
    rfl
  · exact (pss_cons (ps_set (i := 4) sc_Field_line_cost.nd rfl (Or.inl rfl) (pe_op op_add (pe_callTy call_int1 rfl T.b_int PyProof.Rows.boot_int (pa_cons (pe_ix ix_list (pe_fld (pv 0) rfl) (pv 2) (fun _ _ => rfl)) pa_nil)) (pe_callTy call_int1 rfl T.b_int PyProof.Rows.boot_int (pa_cons (pe_ix ix_list (pe_fld (pv 0) rfl) (pv 3) (fun _ _ => rfl)) pa_nil)))) (pss_cons (ps_if (pt_val (pv 1)) (pss_one (ps_ret (pe_op op_sub pe_int (pv 4)))) pss_nil) (pss_one (ps_ret (pe_op op_sub pe_int (pe_callB (call_min2 rfl) rfl T.b_min PyProof.Rows.boot_min (pa_cons pe_int (pa_cons (pv 4) pa_nil))))))))
def sp0_Field_rectangle_cost (K : PySem.W.Frag) (A : Ad) : Sp := fun vs H Q _ => ∃ (a : Addr) (f : Vbsyae.Field) (m n : Nat), vs = [.ref a, .int (m : Int), .int (n : Int)] ∧ FieldAt A H a f ∧ m ≤ 64 ∧ n ≤ 64 ∧ Q (.int (Vbsyae.rectCost f m n : Int)) H
abbrev sp_Field_rectangle_cost (K : PySem.W.Frag) (A : Ad) : Sp := Plain (sp0_Field_rectangle_cost K A)
def t_Field_rectangle_cost (K : PySem.W.Frag) (A : Ad) : TS := (tSeq (tAsg (tMeth A.cField "line_cost" (sp_Field_line_cost K A) [] E0 (tVar 0) (tCons (tOp rEq (tVar 2) (tFld K (tVar 0) "columns")) (tCons (tC (.int (1))) (tCons (tC (.int (3))) tNil)))) (gName 3)) (tRet (tOp rAddI (tOp rMulI (tVar 1) (tVar 3)) (tOp rMulI (tVar 2) (tMeth A.cField "line_cost" (sp_Field_line_cost K A) [] E0 (tVar 0) (tCons (tOp rEq (tVar 1) (tFld K (tVar 0) "rows")) (tCons (tC (.int (0))) (tCons (tC (.int (2))) tNil))))))))
theorem pure_Field_rectangle_cost {K : PySem.W.Frag} {mg : Str → Option Value} {A : Ad} (T : Txt K mg A) {vs : List V} {H : Hp} {Q : VK} {E : XK} (pl : Pl H) (h : sp0_Field_rectangle_cost K A vs H Q E) : t_Field_rectangle_cost K A { nx := fun _ H' => Fg H Q .non H', rt := Fg H Q } (start N_Field_rectangle_cost vs) H := by
  obtain ⟨a, f, m, n, rfl, F, hm, hn, q⟩ := h
  have F' := F
  obtain ⟨g, dx, w, h1, h2⟩ := F'
  refine q_set (val_meth (z := .int (HF.lineN (decide (n = f.cols)) (Vbsyae.walled f 1) (Vbsyae.walled f 3) : Int)) (val_var rfl) h1 no_F (va_cons (val_eqI (val_var rfl) (v_cols T h1 (val_var rfl))) (va_cons val_c (va_cons val_c va_nil))) fun Q q => ⟨pl, a, f, decide (n = f.cols), 1, 3, ?_, F, by decide, by decide, q⟩) ?_
  · have : decide ((n : Int) = (f.cols : Int)) = decide (n = f.cols) := by
      by_cases e : n = f.cols
      · subst e; simp
      · have : ¬ (n : Int) = (f.cols : Int) := by omega
        simp [e, this]
    rw [this]
    rfl
  refine s_ret (val_is (val_add (val_mul (val_var rfl) (val_var rfl) (.inl (by omega))) (val_mul (val_var rfl) (val_meth (z := .int (HF.lineN (decide (m = f.rows)) (Vbsyae.walled f 0) (Vbsyae.walled f 2) : Int)) (val_var rfl) h1 no_F (va_cons (val_eqI (val_var rfl) (v_rows T h1 (val_var rfl))) (va_cons val_c (va_cons val_c va_nil))) fun Q q => ⟨pl, a, f, decide (m = f.rows), 0, 2, ?_, F, by decide, by decide, q⟩) (.inl (by omega)))) ?_) (Fg.same (Same.refl H) q)
  · have : decide ((m : Int) = (f.rows : Int)) = decide (m = f.rows) := by
      by_cases e : m = f.rows
      · subst e; simp
      · have : ¬ (m : Int) = (f.rows : Int) := by omega
        simp [e, this]
    rw [this]
    rfl
  · unfold Vbsyae.rectCost
    rw [HF.rowCost_eq, HF.colCost_eq]
    push_cast
    rfl
theorem ok_Field_rectangle_cost {P : Program} {w : World} {K : PySem.W.Frag} {mg : Str → Option Value} {base : Heap} {A : Ad} (T : Txt K mg A) : MOk P w K mg base CX0 A.cField "rectangle_cost" 2 ["self", "a", "b"] (sp_Field_rectangle_cost K A) := by
  obtain ⟨fn, fd, hm, F⟩ := T.f_Field_rectangle_cost
  refine ⟨fn, fd, hm, fun_okG F sc_Field_rectangle_cost (fun vs H Q E h => ?_) (fun cdv A' outer s H vs Q E hr pl h => ⟨t_Field_rectangle_cost K A, ?_, pure_Field_rectangle_cost T pl h⟩), F.binds fun _ _ _ _ _ _ us hl => match us, hl with | [_, _, _], _ => rfl⟩
  · obtain ⟨_, _, _, _, rfl, _⟩ := h
    rfl
  · exact (pss_cons (ps_set (i := 3) sc_Field_rectangle_cost.nd rfl (Or.inl rfl) (pe_methM (pv 0) T.c_Field (ok_Field_line_cost T) (hr.mono (by decide)) (pa_cons (pe_cmpR op_eq (pv 2) (pe_fld (pv 0) rfl) (nomark _)) (pa_cons (pe_gi rfl T.g_RIGHT) (pa_cons (pe_gi rfl T.g_LEFT) pa_nil))))) (pss_one (ps_ret (pe_op op_add (pe_op op_mul (pv 1) (pv 3)) (pe_op op_mul (pv 2) (pe_methM (pv 0) T.c_Field (ok_Field_line_cost T) (hr.mono (by decide)) (pa_cons (pe_cmpR op_eq (pv 1) (pe_fld (pv 0) rfl) (nomark _)) (pa_cons (pe_gi rfl T.g_ABOVE) (pa_cons (pe_gi rfl T.g_BELOW) pa_nil)))))))))
def sp0_Field_rectangle_put (K : PySem.W.Frag) (A : Ad) : Sp := fun vs H Q _ => ∃ (a : Addr) (f : Vbsyae.Field) (m n : Nat), vs = [.ref a, .int (m : Int), .int (n : Int)] ∧ FieldAt A H a f ∧ m ≤ f.rows ∧ n ≤ f.cols ∧ ∀ p, H p = none → Q (.ref p) (upd H p (.lst (nts [(Vbsyae.putAt f m n).row, (Vbsyae.putAt f m n).col, m, n])))
abbrev sp_Field_rectangle_put (K : PySem.W.Frag) (A : Ad) : Sp := Plain (sp0_Field_rectangle_put K A)
def t_Field_rectangle_put (K : PySem.W.Frag) (A : Ad) : TS := (tSeq (tAsg (tC (.int 0)) (gName 3)) (tSeq (tAsg (tC (.int 0)) (gName 4)) (tSeq (tIfS (tAnd (tB (tOp (rIxL K) (tFld K (tVar 0) "walled") (tC (.int (2))))) (tNot (tB (tOp (rIxL K) (tFld K (tVar 0) "walled") (tC (.int (0))))))) (tAsg (tOp rSubI (tFld K (tVar 0) "rows") (tVar 1)) (gName 3)) tNext) (tSeq (tIfS (tAnd (tB (tOp (rIxL K) (tFld K (tVar 0) "walled") (tC (.int (1))))) (tNot (tB (tOp (rIxL K) (tFld K (tVar 0) "walled") (tC (.int (3))))))) (tAsg (tOp rSubI (tFld K (tVar 0) "columns") (tVar 2)) (gName 4)) tNext) (tRet (tLst (tCons (tVar 3) (tCons (tVar 4) (tCons (tVar 1) (tCons (tVar 2) tNil))))))))))
theorem pure_Field_rectangle_put {K : PySem.W.Frag} {mg : Str → Option Value} {A : Ad} (T : Txt K mg A) {vs : List V} {H : Hp} {Q : VK} {E : XK} (pl : Pl H) (h : sp0_Field_rectangle_put K A vs H Q E) : t_Field_rectangle_put K A { nx := fun _ H' => Fg H Q .non H', rt := Fg H Q } (start N_Field_rectangle_put vs) H := by
  obtain ⟨a, f, m, n, rfl, F, hm, hn, q⟩ := h
  obtain ⟨g, dx, w, h1, h2⟩ := F
  refine q_set val_c (q_set val_c ?_)
  have fin : ∀ (r k : Nat), r = (Vbsyae.putAt f m n).row → k = (Vbsyae.putAt f m n).col →
      tRet (tLst (tCons (tVar 3) (tCons (tVar 4) (tCons (tVar 1) (tCons (tVar 2) tNil))))) { nx := fun _ H' => Fg H Q .non H', rt := Fg H Q } [some (.ref a), some (.int (m : Int)), some (.int (n : Int)), some (.int (r : Int)), some (.int (k : Int))] H := by
    intro r k er ek
    refine s_retN (xs := nts [r, k, m, n]) (nw_lst (va_cons (val_var rfl) (va_cons (val_var rfl) (va_cons (val_var rfl) (va_cons (val_var rfl) va_nil)))) (by show 4 ≤ 100000; decide)) fun p hp => ?_
    refine Fg.lst (same_new hp) hp upd_same ?_
    rw [er, ek]
    exact q p hp
  -- the second if, behind the first
  have second : ∀ r : Nat, r = (Vbsyae.putAt f m n).row → tSeq (tIfS (tAnd (tB (tOp (rIxL K) (tFld K (tVar 0) "walled") (tC (.int (1))))) (tNot (tB (tOp (rIxL K) (tFld K (tVar 0) "walled") (tC (.int (3))))))) (tAsg (tOp rSubI (tFld K (tVar 0) "columns") (tVar 2)) (gName 4)) tNext) (tRet (tLst (tCons (tVar 3) (tCons (tVar 4) (tCons (tVar 1) (tCons (tVar 2) tNil))))))
      { nx := fun _ H' => Fg H Q .non H', rt := Fg H Q } [some (.ref a), some (.int (m : Int)), some (.int (n : Int)), some (.int (r : Int)), some (.int 0)] H := by
    intro r er
    refine q_if (an_and (an_B (v_wall (s := 1) T g h1 h2 (val_var rfl) val_c (by decide))) fun _ => an_not (an_B (v_wall (s := 3) T g h1 h2 (val_var rfl) val_c (by decide)))) (fun hb => ?_) fun hb => ?_
    · refine s_set (val_sub (v_cols T h1 (val_var rfl)) (val_var rfl)) ?_
      have e : (f.cols : Int) - (n : Int) = ((f.cols - n : Nat) : Int) := by omega
      rw [e]
      refine fin r (f.cols - n) er ?_
      unfold Vbsyae.putAt
      simp only [Bool.and_eq_true, Bool.not_eq_true'] at hb
      show _ = if _ then _ else _
      rw [if_pos ⟨hb.2, hb.1⟩]
    · refine fin r 0 er ?_
      unfold Vbsyae.putAt
      show _ = if _ then _ else _
      rw [if_neg]
      rintro ⟨z1, z2⟩
      rw [z1, z2] at hb
      cases hb
  refine q_if (an_and (an_B (v_wall (s := 2) T g h1 h2 (val_var rfl) val_c (by decide))) fun _ => an_not (an_B (v_wall (s := 0) T g h1 h2 (val_var rfl) val_c (by decide)))) (fun hb => ?_) fun hb => ?_
  · refine s_set (val_sub (v_rows T h1 (val_var rfl)) (val_var rfl)) ?_
    have e : (f.rows : Int) - (m : Int) = ((f.rows - m : Nat) : Int) := by omega
    rw [e]
    refine second (f.rows - m) ?_
    unfold Vbsyae.putAt
    simp only [Bool.and_eq_true, Bool.not_eq_true'] at hb
    show _ = if _ then _ else _
    rw [if_pos ⟨hb.2, hb.1⟩]
  · refine second 0 ?_
    unfold Vbsyae.putAt
    show _ = if _ then _ else _
    rw [if_neg]
    rintro ⟨z1, z2⟩
    rw [z1, z2] at hb
    cases hb
theorem ok_Field_rectangle_put {P : Program} {w : World} {K : PySem.W.Frag} {mg : Str → Option Value} {base : Heap} {A : Ad} (T : Txt K mg A) : MOk P w K mg base CX0 A.cField "rectangle_put" 1 ["self", "a", "b"] (sp_Field_rectangle_put K A) := by
  obtain ⟨fn, fd, hm, F⟩ := T.f_Field_rectangle_put
  refine ⟨fn, fd, hm, fun_okG F sc_Field_rectangle_put (fun vs H Q E h => ?_) (fun cdv A' outer s H vs Q E hr pl h => ⟨t_Field_rectangle_put K A, ?_, pure_Field_rectangle_put T pl h⟩), F.binds fun _ _ _ _ _ _ us hl => match us, hl with | [_, _, _], _ => rfl⟩
  · obtain ⟨_, _, _, _, rfl, _⟩ := h
    rfl
  · exact (pss_cons (ps_set (i := 3) sc_Field_rectangle_put.nd rfl (Or.inl rfl) pe_int) (pss_cons (ps_set (i := 4) sc_Field_rectangle_put.nd rfl (Or.inl rfl) pe_int) (pss_cons (ps_if (PW.pt (pw_and (pt_val (pe_ix ix_list (pe_fld (pv 0) rfl) (pe_gi rfl T.g_BELOW) (fun _ _ => rfl))) (pw_and1 (pt_not (pt_val (pe_ix ix_list (pe_fld (pv 0) rfl) (pe_gi rfl T.g_ABOVE) (fun _ _ => rfl))))))) (pss_one (ps_set (i := 3) sc_Field_rectangle_put.nd rfl (Or.inl rfl) (pe_op op_sub (pe_fld (pv 0) rfl) (pv 1)))) pss_nil) (pss_cons (ps_if (PW.pt (pw_and (pt_val (pe_ix ix_list (pe_fld (pv 0) rfl) (pe_gi rfl T.g_RIGHT) (fun _ _ => rfl))) (pw_and1 (pt_not (pt_val (pe_ix ix_list (pe_fld (pv 0) rfl) (pe_gi rfl T.g_LEFT) (fun _ _ => rfl))))))) (pss_one (ps_set (i := 4) sc_Field_rectangle_put.nd rfl (Or.inl rfl) (pe_op op_sub (pe_fld (pv 0) rfl) (pv 2)))) pss_nil) (pss_one (ps_ret (pe_lst (pa_cons (pv 3) (pa_cons (pv 4) (pa_cons (pv 1) (pa_cons (pv 2) pa_nil)))))))))))
def sp_Field_rectangles (K : PySem.W.Frag) (A : Ad) : Sp := fun vs H Q _ => ∃ (a : Addr) (f : Vbsyae.Field), vs = [.ref a] ∧ Pl H ∧ FieldAt A H a f ∧ ∀ p rs H', H p = none → Same H H' → Pl H' → H' p = some (.lst rs) → Tups H' ((Vbsyae.shapes f).map pr2) rs → Q (.ref p) H'
def t_Field_rectangles (K : PySem.W.Frag) (A : Ad) : TS := (tSeq (tAsg (tLst tNil) (gName 1)) (tSeq (tFor (iRng2 (tCons (tC (.int 1)) (tCons (tOp rAddI (tFld K (tVar 0) "rows") (tC (.int 1))) tNil))) (gName 2) (tDrop (tBM K "list" rExtend (tVar 1) (tCons (tLc (iRng2 (tCons (tC (.int 1)) (tCons (tOp rAddI (tFld K (tVar 0) "columns") (tC (.int 1))) tNil))) (gName 3) tYes (tTup (tCons (tVar 2) (tCons (tVar 3) tNil))) [3]) tNil)))) (tRet (tVar 1))))
theorem pure_Field_rectangles {K : PySem.W.Frag} {mg : Str → Option Value} {A : Ad} (T : Txt K mg A) {vs : List V} {H : Hp} {Q : VK} {E : XK} (h : sp_Field_rectangles K A vs H Q E) : t_Field_rectangles K A { nx := fun _ H' => Q .non H', rt := Q } (start N_Field_rectangles vs) H := by
  obtain ⟨a, f, rfl, pl, F, q⟩ := h
  have g := F.g
  have r8 := g.r8
  have c8 := g.c8
  have F' := F
  obtain ⟨_, dx, w, h1, h2⟩ := F'
  refine q_setN (nw_lst va_nil (Nat.zero_le _)) fun p hp => ?_
  have h1' : (upd H p (.lst [])) a = some (.ins A.cField dx (fldF f w)) := by rw [upd_ne (ne_of_none h1 hp)]; exact h1
  refine q_forR2 (lo := 1) f.rows (va_cons val_c (va_cons (val_add (v_rows T h1' (val_var rfl)) val_c) va_nil)) (by omega) ⟨by omega, by omega, by omega, by omega⟩ (fun i σ' H' => ∃ v rs, σ' = [some (.ref a), some (.ref p), v, none] ∧ Same H H' ∧ Pl H' ∧ H' p = some (.lst rs) ∧ Tups H' (((List.range i).flatMap fun a => (List.range f.cols).map fun b => (a + 1, b + 1)).map pr2) rs ∧ rs.length = i * f.cols) ?_ ?_ ?_
  · exact ⟨none, [], rfl, same_new hp, pl.upd rfl, upd_same, .nil, by simp⟩
  · rintro i σ' H' hi ⟨v, rs, rfl, s1, pl1, hp1, tu, hlen⟩
    have F1 := F.same s1
    obtain ⟨_, dx', w', h1', h2'⟩ := F1
    have hcomp : NewTs (tLc (iRng2 (tCons (tC (.int 1)) (tCons (tOp rAddI (tFld K (tVar 0) "columns") (tC (.int 1))) tNil))) (gName 3) tYes (tTup (tCons (tVar 2) (tCons (tVar 3) tNil))) [3]) [some (.ref a), some (.ref p), some (.int (1 + (i : Int))), none] H' (((List.range f.cols).filter fun _ => true).map fun b => pr2 (i + 1, b + 1)) := by
      refine nt_lcR2 (lo := 1) f.cols _ _ pl1 (va_cons val_c (va_cons (val_add (v_cols T h1' (val_var rfl)) val_c) va_nil)) (by omega) ⟨by omega, by omega, by omega, by omega⟩ (by omega) (fun s hs H2 s2 pl2 => an_yes) fun s hs _ H2 s2 pl2 => ?_
      have e : (pr2 (i + 1, s + 1)).map V.int = [.int (1 + (i : Int)), .int (1 + (s : Int))] := by
        show [V.int ((i + 1 : Nat) : Int), V.int ((s + 1 : Nat) : Int)] = _
        rw [show ((i + 1 : Nat) : Int) = 1 + (i : Int) by omega, show ((s + 1 : Nat) : Int) = 1 + (s : Int) by omega]
      rw [e]
      exact nw_tup (va_cons (val_var rfl) (va_cons (val_var rfl) va_nil)) (by show 2 ≤ 100000; decide)
    rw [filt_true] at hcomp
    have hmul : i * f.cols ≤ 8 * 8 := Nat.mul_le_mul (by omega) c8
    refine s_extTs hp1 (val_var rfl) hcomp (by rw [List.length_map, List.length_range]; omega) tu fun H2 rs2 k2 pl2 hp2 tu2 => ?_
    refine ⟨_, rs2, rfl, same_but hp s1 k2, pl2, hp2, ?_, ?_⟩
    · rw [List.range_succ, List.flatMap_append, List.map_append, List.flatMap_singleton, List.map_map]
      exact tu2
    · rw [tu2.len, List.length_append, ← tu.len, hlen, List.length_map, List.length_range, Nat.add_mul, Nat.one_mul]
  · rintro σ' H' ⟨v, rs, rfl, s1, pl1, hp1, tu, _⟩
    exact s_ret (val_var rfl) (q p rs H' hp s1 pl1 hp1 tu)
theorem ok_Field_rectangles {P : Program} {w : World} {K : PySem.W.Frag} {mg : Str → Option Value} {base : Heap} {A : Ad} (T : Txt K mg A) : MOk P w K mg base CX0 A.cField "rectangles" 1 ["self"] (sp_Field_rectangles K A) := by
  obtain ⟨fn, fd, hm, F⟩ := T.f_Field_rectangles
  refine ⟨fn, fd, hm, F.ok sc_Field_rectangles (fun vs H Q E h => ?_) (fun cdv A' outer s H vs Q E hr h => ⟨t_Field_rectangles K A, ?_, pure_Field_rectangles T h⟩), F.binds fun _ _ _ _ _ _ us hl => match us, hl with | [_], _ => rfl⟩
  · obtain ⟨_, _, rfl, _⟩ := h
    rfl
  · exact (pss_cons (ps_set (i := 1) sc_Field_rectangles.nd rfl (Or.inl rfl) (pe_lst pa_nil)) (pss_cons (ps_for PassesOwn.never rfl (pi_range2 rfl T.b_range (pa_cons pe_int (pa_cons (pe_op op_add (pe_fld (pv 0) rfl) pe_int) pa_nil))) (pg_name (i := 2) sc_Field_rectangles.nd rfl (Or.inr rfl)) (pss_one (ps_expr (pe_bm PySem.F.plainAttrs_list PySem.F.slot_list_extend PySem.F.type_list_extend mt_extend (pv 1) (pa_cons (pe_lc (own := [("b", 3)]) (g := (gName 3)) (tt := tYes) rfl sc_Field_rectangles.nd (pi_range2 rfl T.b_range (pa_cons pe_int (pa_cons (pe_op op_add (pe_fld (pv 0) rfl) pe_int) pa_nil))) (blkOk_by (N := N_Field_rectangles) (sc := defScope s_Field_rectangles) (by decide +kernel)) (fun _ _ _ _ _ => (pg_name (i := 3) sc_Field_rectangles.nd rfl (Or.inl rfl))) (fun _ _ _ _ _ => pts_nil) (fun _ _ _ _ _ => (pe_tup (pa_cons (pv 2) (pa_cons (pv 3) pa_nil))))) pa_nil))))) (pss_one (ps_ret (pv 1)))))
def sp0_Field_row_cells (K : PySem.W.Frag) (A : Ad) : Sp := fun vs H Q _ => ∃ (a : Addr) (f : Vbsyae.Field) (r : Nat), vs = [.ref a, .int (r : Int)] ∧ FieldAt A H a f ∧ r < f.rows ∧ ∀ p, H p = none → Q (.ref p) (upd H p (.lst (nts ((List.range f.cols).map fun k => r * f.cols + k))))
abbrev sp_Field_row_cells (K : PySem.W.Frag) (A : Ad) : Sp := Plain (sp0_Field_row_cells K A)
def t_Field_row_cells (K : PySem.W.Frag) (A : Ad) : TS := (tRet (tLc (iRng1 (tCons (tFld K (tVar 0) "columns") tNil)) (gName 2) tYes (tOp rAddI (tOp rMulI (tVar 1) (tFld K (tVar 0) "columns")) (tVar 2)) [2]))
theorem pure_Field_row_cells {K : PySem.W.Frag} {mg : Str → Option Value} {A : Ad} (T : Txt K mg A) {vs : List V} {H : Hp} {Q : VK} {E : XK} (pl : Pl H) (h : sp0_Field_row_cells K A vs H Q E) : t_Field_row_cells K A { nx := fun _ H' => Fg H Q .non H', rt := Fg H Q } (start N_Field_row_cells vs) H := by
  obtain ⟨a, f, r, rfl, F, hr, q⟩ := h
  have g := F.g
  have r8 := g.r8
  have c8 := g.c8
  have F' := F
  obtain ⟨_, dx, w, h1, h2⟩ := F'
  refine s_retN (nw_lcR1 f.cols (fun _ => true) (fun k => .int ((r * f.cols + k : Nat) : Int)) pl (va_cons (v_cols T h1 (val_var rfl)) va_nil) rfl (by omega) (fun s hs H2 s2 pl2 => an_yes) fun s hs _ H2 s2 pl2 => ?_) fun p hp => ?_
  · obtain ⟨_, dx', w', h1', h2'⟩ := F.same s2
    refine val_is (val_add (val_mul (val_var rfl) (v_cols T h1' (val_var rfl)) (.inl (by omega))) (val_var rfl)) ?_
    push_cast
    rfl
  · refine Fg.lst (same_new hp) hp upd_same ?_
    have e := q p hp
    rw [filt_true]
    unfold nts at e
    rw [List.map_map] at e
    exact e
theorem ok_Field_row_cells {P : Program} {w : World} {K : PySem.W.Frag} {mg : Str → Option Value} {base : Heap} {A : Ad} (T : Txt K mg A) : MOk P w K mg base CX0 A.cField "row_cells" 1 ["self", "row"] (sp_Field_row_cells K A) := by
  obtain ⟨fn, fd, hm, F⟩ := T.f_Field_row_cells
  refine ⟨fn, fd, hm, fun_okG F sc_Field_row_cells (fun vs H Q E h => ?_) (fun cdv A' outer s H vs Q E hr pl h => ⟨t_Field_row_cells K A, ?_, pure_Field_row_cells T pl h⟩), F.binds fun _ _ _ _ _ _ us hl => match us, hl with | [_, _], _ => rfl⟩
  · obtain ⟨_, _, _, rfl, _⟩ := h
    rfl
  · exact (pss_one (ps_ret (pe_lc (own := [("column", 2)]) (g := (gName 2)) (tt := tYes) rfl sc_Field_row_cells.nd (pi_range1 rfl T.b_range (pa_cons (pe_fld (pv 0) rfl) pa_nil)) (blkOk_by (N := N_Field_row_cells) (sc := defScope s_Field_row_cells) (by decide +kernel)) (fun _ _ _ _ _ => (pg_name (i := 2) sc_Field_row_cells.nd rfl (Or.inl rfl))) (fun _ _ _ _ _ => pts_nil) (fun _ _ _ _ _ => (pe_op op_add (pe_op op_mul (pv 1) (pe_fld (pv 0) rfl)) (pv 2))))))
def sp0_Field_column_cells (K : PySem.W.Frag) (A : Ad) : Sp := fun vs H Q _ => ∃ (a : Addr) (f : Vbsyae.Field) (k : Nat), vs = [.ref a, .int (k : Int)] ∧ FieldAt A H a f ∧ k < f.cols ∧ ∀ p, H p = none → Q (.ref p) (upd H p (.lst (nts ((List.range f.rows).map fun r => r * f.cols + k))))
abbrev sp_Field_column_cells (K : PySem.W.Frag) (A : Ad) : Sp := Plain (sp0_Field_column_cells K A)
def t_Field_column_cells (K : PySem.W.Frag) (A : Ad) : TS := (tRet (tLc (iRng1 (tCons (tFld K (tVar 0) "rows") tNil)) (gName 2) tYes (tOp rAddI (tOp rMulI (tVar 2) (tFld K (tVar 0) "columns")) (tVar 1)) [2]))
theorem pure_Field_column_cells {K : PySem.W.Frag} {mg : Str → Option Value} {A : Ad} (T : Txt K mg A) {vs : List V} {H : Hp} {Q : VK} {E : XK} (pl : Pl H) (h : sp0_Field_column_cells K A vs H Q E) : t_Field_column_cells K A { nx := fun _ H' => Fg H Q .non H', rt := Fg H Q } (start N_Field_column_cells vs) H := by
  obtain ⟨a, f, k, rfl, F, hr, q⟩ := h
  have g := F.g
  have r8 := g.r8
  have c8 := g.c8
  have F' := F
  obtain ⟨_, dx, w, h1, h2⟩ := F'
  refine s_retN (nw_lcR1 f.rows (fun _ => true) (fun r => .int ((r * f.cols + k : Nat) : Int)) pl (va_cons (v_rows T h1 (val_var rfl)) va_nil) rfl (by omega) (fun s hs H2 s2 pl2 => an_yes) fun s hs _ H2 s2 pl2 => ?_) fun p hp => ?_
  · obtain ⟨_, dx', w', h1', h2'⟩ := F.same s2
    refine val_is (val_add (val_mul (val_var rfl) (v_cols T h1' (val_var rfl)) (.inl (by omega))) (val_var rfl)) ?_
    push_cast
    rfl
  · refine Fg.lst (same_new hp) hp upd_same ?_
    have e := q p hp
    rw [filt_true]
    unfold nts at e
    rw [List.map_map] at e
    exact e
theorem ok_Field_column_cells {P : Program} {w : World} {K : PySem.W.Frag} {mg : Str → Option Value} {base : Heap} {A : Ad} (T : Txt K mg A) : MOk P w K mg base CX0 A.cField "column_cells" 1 ["self", "column"] (sp_Field_column_cells K A) := by
  obtain ⟨fn, fd, hm, F⟩ := T.f_Field_column_cells
  refine ⟨fn, fd, hm, fun_okG F sc_Field_column_cells (fun vs H Q E h => ?_) (fun cdv A' outer s H vs Q E hr pl h => ⟨t_Field_column_cells K A, ?_, pure_Field_column_cells T pl h⟩), F.binds fun _ _ _ _ _ _ us hl => match us, hl with | [_, _], _ => rfl⟩
  · obtain ⟨_, _, _, rfl, _⟩ := h
    rfl
  · exact (pss_one (ps_ret (pe_lc (own := [("row", 2)]) (g := (gName 2)) (tt := tYes) rfl sc_Field_column_cells.nd (pi_range1 rfl T.b_range (pa_cons (pe_fld (pv 0) rfl) pa_nil)) (blkOk_by (N := N_Field_column_cells) (sc := defScope s_Field_column_cells) (by decide +kernel)) (fun _ _ _ _ _ => (pg_name (i := 2) sc_Field_column_cells.nd rfl (Or.inl rfl))) (fun _ _ _ _ _ => pts_nil) (fun _ _ _ _ _ => (pe_op op_add (pe_op op_mul (pv 2) (pe_fld (pv 0) rfl)) (pv 1))))))
theorem filt_nil {α : Type} (l : List α) (p : α → Bool) : decide (((l.filter fun x => !p x).length : Int) = 0) = l.all p := by
  induction l with
  | nil => rfl
  | cons a r ih =>
    rw [List.all_cons, List.filter_cons]
    cases p a with
    | true => simpa using ih
    | false =>
      simp only [Bool.not_false, if_true, List.length_cons, Bool.false_and]
      rw [decide_eq_false_iff_not]
      omega
theorem filt_pos {α : Type} (l : List α) (p : α → Bool) : decide ((0 : Int) < ((l.filter p).length : Int)) = l.any p := by
  induction l with
  | nil => rfl
  | cons a r ih =>
    rw [List.any_cons, List.filter_cons]
    cases p a with
    | false => simpa using ih
    | true =>
      simp only [if_true, List.length_cons, Bool.true_or]
      rw [decide_eq_true_iff]
      omega
/-- len([.. for .. in xs if ..]) -/
theorem use_len {σ : L2.St} {H : Hp} {te : TE} {K : PySem.W.Frag} {Q : VK} {xs : List V} (h : New te σ H xs) (k : ∀ p, H p = none → Q (.int (xs.length : Int)) (upd H p (.lst xs))) : tCB (cLen K) (tCons te tNil) σ H Q :=
  h _ fun p hp => ⟨p, xs, rfl, .inl (SqL.of upd_same), k p hp⟩
def sp0_Field_has_all (K : PySem.W.Frag) (A : Ad) : Sp := fun vs H Q _ => ∃ (a b e : Addr) (f : Vbsyae.Field) (l m : List Nat), vs = [.ref a, .ref b, .ref e] ∧ SqL K H b (nts l) ∧ SqL K H e (nts m) ∧ m.length ≤ 64 ∧ Q (.bl (m.all fun c => l.contains c)) H
abbrev sp_Field_has_all (K : PySem.W.Frag) (A : Ad) : Sp := Plain (sp0_Field_has_all K A)
def t_Field_has_all (K : PySem.W.Frag) (A : Ad) : TS := (tRet (tOp rEq (tCB (cLen K) (tCons (tLc (iList K (tVar 2)) (gName 3) (tTest (tOp (rIn K true) (tVar 3) (tVar 1))) (tVar 3) [3]) tNil)) (tC (.int 0))))
theorem pure_Field_has_all {K : PySem.W.Frag} {mg : Str → Option Value} {A : Ad} (T : Txt K mg A) {vs : List V} {H : Hp} {Q : VK} {E : XK} (pl : Pl H) (h : sp0_Field_has_all K A vs H Q E) : t_Field_has_all K A { nx := fun _ H' => Fg H Q .non H', rt := Fg H Q } (start N_Field_has_all vs) H := by
  obtain ⟨a, b, e, f, l, m, rfl, hl, hm, hz, q⟩ := h
  refine use_len (xs := (m.filter fun c => !l.contains c).map fun (c : Nat) => V.int (c : Int)) (nw_lcL m (fun (c : Nat) => V.int (c : Int)) (fun c => !l.contains c) (fun (c : Nat) => V.int (c : Int)) pl (val_var rfl) hm (by omega) (fun c hc H2 s2 pl2 => ?_) fun c hc _ H2 s2 pl2 => val_var rfl) fun p hp => ?_
  · exact an_test (val_is (val_ni (x := .int (c : Int)) (val_var rfl) (val_var rfl) (s2.seq hl) rfl (flat_nts l)) (by rw [inV_nts]))
  · refine ⟨rfl, Fg.same (same_new hp) ?_⟩
    have e1 : decide (V.int (((m.filter fun c => !l.contains c).map fun (c : Nat) => V.int (c : Int)).length : Int) = V.int 0) = m.all fun c => l.contains c := by
      rw [List.length_map, ← filt_nil]
      simp
    rw [e1]
    exact q
theorem ok_Field_has_all {P : Program} {w : World} {K : PySem.W.Frag} {mg : Str → Option Value} {base : Heap} {A : Ad} (T : Txt K mg A) : MOk P w K mg base CX0 A.cField "has_all" 1 ["self", "cells", "some"] (sp_Field_has_all K A) := by
  obtain ⟨fn, fd, hm, F⟩ := T.f_Field_has_all
  refine ⟨fn, fd, hm, fun_okG F sc_Field_has_all (fun vs H Q E h => ?_) (fun cdv A' outer s H vs Q E hr pl h => ⟨t_Field_has_all K A, ?_, pure_Field_has_all T pl h⟩), F.binds fun _ _ _ _ _ _ us hl => match us, hl with | [_, _, _], _ => rfl⟩
  · obtain ⟨_, _, _, _, _, _, rfl, _⟩ := h
    rfl
  · exact (pss_one (ps_ret (pe_cmpR op_eq (pe_callB call_len_seq rfl T.b_len PySem.boot_len (pa_cons (pe_lc (own := [("cell", 3)]) (g := (gName 3)) (tt := (tTest (tOp (rIn K true) (tVar 3) (tVar 1)))) rfl sc_Field_has_all.nd (pi_list (pv 2)) (blkOk_by (N := N_Field_has_all) (sc := defScope s_Field_has_all) (by decide +kernel)) (fun _ _ _ _ _ => (pg_name (i := 3) sc_Field_has_all.nd rfl (Or.inl rfl))) (fun _ _ _ _ _ => (pts_one (pt_cmpR op_notIn_seq (pv 3) (pv 1) (by rfl)))) (fun _ _ _ _ _ => (pv 3))) pa_nil)) pe_int (nomark _))))
def sp0_Field_has_any (K : PySem.W.Frag) (A : Ad) : Sp := fun vs H Q _ => ∃ (a b e : Addr) (f : Vbsyae.Field) (l m : List Nat), vs = [.ref a, .ref b, .ref e] ∧ SqL K H b (nts l) ∧ SqL K H e (nts m) ∧ m.length ≤ 64 ∧ Q (.bl (m.any fun c => l.contains c)) H
abbrev sp_Field_has_any (K : PySem.W.Frag) (A : Ad) : Sp := Plain (sp0_Field_has_any K A)
def t_Field_has_any (K : PySem.W.Frag) (A : Ad) : TS := (tRet (tOp rGtI (tCB (cLen K) (tCons (tLc (iList K (tVar 2)) (gName 3) (tTest (tOp (rIn K false) (tVar 3) (tVar 1))) (tVar 3) [3]) tNil)) (tC (.int 0))))
theorem pure_Field_has_any {K : PySem.W.Frag} {mg : Str → Option Value} {A : Ad} (T : Txt K mg A) {vs : List V} {H : Hp} {Q : VK} {E : XK} (pl : Pl H) (h : sp0_Field_has_any K A vs H Q E) : t_Field_has_any K A { nx := fun _ H' => Fg H Q .non H', rt := Fg H Q } (start N_Field_has_any vs) H := by
  obtain ⟨a, b, e, f, l, m, rfl, hl, hm, hz, q⟩ := h
  refine use_len (xs := (m.filter fun c => l.contains c).map fun (c : Nat) => V.int (c : Int)) (nw_lcL m (fun (c : Nat) => V.int (c : Int)) (fun c => l.contains c) (fun (c : Nat) => V.int (c : Int)) pl (val_var rfl) hm (by omega) (fun c hc H2 s2 pl2 => ?_) fun c hc _ H2 s2 pl2 => val_var rfl) fun p hp => ?_
  · exact an_test (val_is (val_in (x := .int (c : Int)) (val_var rfl) (val_var rfl) (s2.seq hl) rfl (flat_nts l)) (by rw [inV_nts]))
  · refine ⟨_, _, rfl, rfl, Fg.same (same_new hp) ?_⟩
    rw [List.length_map]
    show Q (V.bl (decide ((0 : Int) < ((m.filter fun c => l.contains c).length : Int)))) H
    rw [filt_pos]
    exact q
theorem ok_Field_has_any {P : Program} {w : World} {K : PySem.W.Frag} {mg : Str → Option Value} {base : Heap} {A : Ad} (T : Txt K mg A) : MOk P w K mg base CX0 A.cField "has_any" 1 ["self", "cells", "some"] (sp_Field_has_any K A) := by
  obtain ⟨fn, fd, hm, F⟩ := T.f_Field_has_any
  refine ⟨fn, fd, hm, fun_okG F sc_Field_has_any (fun vs H Q E h => ?_) (fun cdv A' outer s H vs Q E hr pl h => ⟨t_Field_has_any K A, ?_, pure_Field_has_any T pl h⟩), F.binds fun _ _ _ _ _ _ us hl => match us, hl with | [_, _, _], _ => rfl⟩
  · obtain ⟨_, _, _, _, _, _, rfl, _⟩ := h
    rfl
  · exact (pss_one (ps_ret (pe_cmpR op_gt (pe_callB call_len_seq rfl T.b_len PySem.boot_len (pa_cons (pe_lc (own := [("cell", 3)]) (g := (gName 3)) (tt := (tTest (tOp (rIn K false) (tVar 3) (tVar 1)))) rfl sc_Field_has_any.nd (pi_list (pv 2)) (blkOk_by (N := N_Field_has_any) (sc := defScope s_Field_has_any) (by decide +kernel)) (fun _ _ _ _ _ => (pg_name (i := 3) sc_Field_has_any.nd rfl (Or.inl rfl))) (fun _ _ _ _ _ => (pts_one (pt_cmpR op_in_seq (pv 3) (pv 1) (by rfl)))) (fun _ _ _ _ _ => (pv 3))) pa_nil)) pe_int (nomark _))))
end HW

namespace HW
open PySem PySem.Spec PyProof.Rows L2
/-- list(min(keys)[2:]) of four numbers each -/
theorem s_retMin {σ : L2.St} {H : Hp} {tk : TE} {K : PySem.W.Frag} {D : Ends} {k : Addr} {rs : List V} {ns : List Int} {ls : List (List Int)} {x y a b : Int} (hk : Val tk σ H (.ref k)) (hq : SqL K H k rs) (tu : Tups H (ns :: ls) rs) (e : HF.minB ns ls = [x, y, a, b])
    (q : ∀ H' p, Same H H' → H p = none → H' p = some (.lst [.int a, .int b]) → D.rt (.ref p) H') : tRet (tCB (cList K) (tCons (tSl (rSlT K) (tCB (rMinD K) (tCons tk tNil)) (tPart (tC (.int 2))) tNoPart) tNil)) D σ H :=
  hk _ ⟨k, rs, ns, ls, rfl, hq, tu, fun t ht => ⟨2, rfl, t, _, rfl, SqT.of ht, by
    rw [e]
    intro z
    have z1 : HT.sIx 4 0 (some 2) = 0 := z.1
    revert z1
    decide, fun p hp => ⟨p, _, rfl, .inr (SqT.of upd_same), fun l hl => by
      have hlp : H l = none := by
        have : l ≠ p := fun z => by rw [z, upd_same] at hl; cases hl
        rwa [upd_ne this] at hl
      refine q _ l ?_ hlp ?_
      · exact same_upd (same_new hp) hlp
      · rw [upd_same, e]
        rfl⟩⟩⟩
/-- for a, b in new pairs: the body changes the list at kk alone -/
theorem q_forTs {σ : L2.St} {H : Hp} {tl : TE} {K : PySem.W.Frag} {D : Ends} {t1 t2 : TS} {j k : Nat} {kk : Addr} {xs0 : List V} (hkk : H kk = some (.lst xs0)) (ls : List (Nat × Nat)) (h : NewTs tl σ H (ls.map pr2)) (Pv : Hp → Nat → L2.St → Hp → Prop) (h0 : ∀ H1, Same H H1 → Pl H1 → Pv H1 0 σ H1)
    (hk : ∀ H1 i σ' H', Same H H1 → Pv H1 i σ' H' → ∀ b o, H1 b = some o → b ≠ kk → H' b = some o)
    (hs : ∀ H1 i x σ' H', Same H H1 → ls[i]? = some x → Pv H1 i σ' H' → t1 { D with nx := Pv H1 (i + 1), ct := Pv H1 (i + 1), bk := t2 D } ((σ'.set j (some (.int (x.1 : Int)))).set k (some (.int (x.2 : Int)))) H') (hd : ∀ H1 σ' H', Same H H1 → Pv H1 ls.length σ' H' → t2 D σ' H') :
    tSeq (tFor (iList K tl) (gTup K 2 (gCons (gName j) (gCons (gName k) gNil))) t1) t2 D σ H := h _ fun a rs H1 ha s1 pl1 h1 tu => ⟨a, rfl, ⟨_, SqL.of h1⟩,
  for_list (D := { D with nx := t2 D }) (Pv H1) (h0 H1 s1 pl1) (fun i σ' H' _ p => SqL.of (hk H1 i σ' H' s1 p a _ h1 (fun z => by rw [z, hkk] at ha; cases ha))) (fun i y σ' H' hi p => by
    obtain ⟨ns, t, e1, rfl, e3⟩ := tu.get hi
    rw [List.getElem?_map] at e1
    cases hx : ls[i]? with
    | none => rw [hx] at e1; cases e1
    | some x =>
      rw [hx] at e1
      have e1 : pr2 x = ns := Option.some.inj e1
      subst e1
      refine g_pair (a := .int (x.1 : Int)) (b := .int (x.2 : Int)) (t := t) (SqT.of (hk H1 i σ' H' s1 p t _ e3 (ne_of e3 (s1 _ _ hkk) (by intro z; cases z)))) ?_
      exact hs H1 i x σ' H' s1 hx p) (fun σ' H' p => by
    rw [show rs.length = ls.length by rw [tu.len, List.length_map]] at p
    exact hd H1 σ' H' s1 p)⟩
theorem q_setTs {σ : L2.St} {H : Hp} {te : TE} {D : Ends} {t2 : TS} {i : Nat} {ls : List (List Int)} (h : NewTs te σ H ls) (k : ∀ p rs H', H p = none → Same H H' → Pl H' → H' p = some (.lst rs) → Tups H' ls rs → t2 D (σ.set i (some (.ref p))) H') : tSeq (tAsg te (gName i)) t2 D σ H := h _ k
def bestL (f : Vbsyae.Field) (h : Nat) : List Nat := if (Vbsyae.best f h).1 = 0 then [] else [(Vbsyae.best f h).1, (Vbsyae.best f h).2]
def leastL (f : Vbsyae.Field) (n : Nat) : List Nat := match Vbsyae.least f n with
  | none => []
  | some x => [x.1, x.2]
theorem nt_meth {σ : L2.St} {H : Hp} {ta : TE} {t : TA} {C : Addr} {m : Str} {sp : Sp} {E : XK} {a dx : Addr} {fs : List (Str × V)} {vs : List V} {ls : List (List Int)} (h : Val ta σ H (.ref a)) (ho : H a = some (.ins C dx fs)) (hm : fs.lookup m = none) (h2 : ValA t σ H vs)
    (hs : ∀ Q : VK, (∀ p rs H', H p = none → Same H H' → Pl H' → H' p = some (.lst rs) → Tups H' ls rs → Q (.ref p) H') → sp (.ref a :: vs) H Q E) : NewTs (tMeth C m sp [] E ta t) σ H ls := fun Q q => h _ ⟨a, dx, fs, rfl, ho, hm, h2 _ (by
      rw [List.append_nil]
      exact hs Q q)⟩
def sp0_Field_greatest (K : PySem.W.Frag) (A : Ad) : Sp := fun vs H Q _ => ∃ (a : Addr) (f : Vbsyae.Field) (n : Nat), vs = [.ref a, .int (n : Int)] ∧ FieldAt A H a f ∧ ∀ p, H p = none → Q (.ref p) (upd H p (.lst (nts (bestL f n))))
abbrev sp_Field_greatest (K : PySem.W.Frag) (A : Ad) : Sp := Plain (sp0_Field_greatest K A)
def t_Field_greatest (K : PySem.W.Frag) (A : Ad) : TS := (tSeq (tAsg (tLst tNil) (gName 2)) (tSeq (tFor (iList K (tMeth A.cField "rectangles" (sp_Field_rectangles K A) [] E0 (tVar 0) tNil)) (gTup K 2 (gCons (gName 3) (gCons (gName 4) gNil))) (tSeq (tAsg (tMeth A.cField "rectangle_cost" (sp_Field_rectangle_cost K A) [] E0 (tVar 0) (tCons (tVar 3) (tCons (tVar 4) tNil))) (gName 5)) (tIfS (tTest (tOp rLeI (tVar 5) (tVar 1))) (tDrop (tBM K "list" rAppend (tVar 2) (tCons (tTup (tCons (tOp rSubI (tC (.int 0)) (tOp rMulI (tVar 3) (tVar 4))) (tCons (tVar 5) (tCons (tVar 3) (tCons (tVar 4) tNil))))) tNil))) tNext))) (tSeq (tIfS (tTest (tOp rEq (tCB (cLen K) (tCons (tVar 2) tNil)) (tC (.int 0)))) (tRet (tLst tNil)) tNext) (tRet (tCB (cList K) (tCons (tSl (rSlT K) (tCB (rMinD K) (tCons (tVar 2) tNil)) (tPart (tC (.int 2))) tNoPart) tNil))))))
theorem pure_Field_greatest {K : PySem.W.Frag} {mg : Str → Option Value} {A : Ad} (T : Txt K mg A) {vs : List V} {H : Hp} {Q : VK} {E : XK} (pl : Pl H) (h : sp0_Field_greatest K A vs H Q E) : t_Field_greatest K A { nx := fun _ H' => Fg H Q .non H', rt := Fg H Q } (start N_Field_greatest vs) H := by
  obtain ⟨a, f, n, rfl, F, q⟩ := h
  have g := F.g
  have r8 := g.r8
  have c8 := g.c8
  have hsl : (Vbsyae.shapes f).length ≤ 64 := by rw [HF.shapes_len]; exact Nat.mul_le_mul r8 c8
  refine q_setN (nw_lst va_nil (Nat.zero_le _)) fun k hk => ?_
  have F1 : FieldAt A (upd H k (.lst [])) a f := F.same (same_new hk)
  have F1' := F1
  obtain ⟨_, dx, w, h1, h2⟩ := F1'
  refine q_forTs upd_same (Vbsyae.shapes f) (nt_meth (val_var rfl) h1 no_F va_nil fun Q q => ⟨a, f, rfl, pl.upd rfl, F1, q⟩)
    (fun H1 i σ' H' => ∃ v3 v4 v5 rs, σ' = [some (.ref a), some (.int (n : Int)), some (.ref k), v3, v4, v5] ∧ (∀ b o, H1 b = some o → b ≠ k → H' b = some o) ∧ Pl H' ∧ H' k = some (.lst rs) ∧ Tups H' ((((Vbsyae.shapes f).take i).filter fun x => decide (Vbsyae.rectCost f x.1 x.2 ≤ n)).map (HF.keyG f)) rs) ?_ ?_ ?_ ?_
  · intro H1 s1 pl1
    exact ⟨none, none, none, [], rfl, fun b o e _ => e, pl1, s1 _ _ upd_same, .nil⟩
  · rintro H1 i σ' H' s1 ⟨_, _, _, _, _, kp, _⟩
    exact kp
  · rintro H1 i x σ' H' s1 hx ⟨v3, v4, v5, rs, rfl, kp, pl2, hk2, tu⟩
    obtain ⟨m, b⟩ := x
    have hms := HF.mem_shapes.mp (List.mem_of_getElem? hx)
    have F2 : FieldAt A H' a f := F.same fun b o e => kp b o (s1 b o (same_new hk b o e)) (ne_of_none e hk)
    have F2' := F2
    obtain ⟨_, dx2, w2, h3, h4⟩ := F2'
    refine q_set (val_meth (val_var rfl) h3 no_F (va_cons (val_var rfl) (va_cons (val_var rfl) va_nil)) fun Q q => ⟨pl2, a, f, m, b, rfl, F2, by omega, by omega, q⟩) ?_
    have et : (Vbsyae.shapes f).take (i + 1) = (Vbsyae.shapes f).take i ++ [(m, b)] := by
      rw [List.take_add_one, hx]
      rfl
    have hi : i < (Vbsyae.shapes f).length := (List.getElem?_eq_some_iff.mp hx).1
    refine s_if (b := decide (Vbsyae.rectCost f m b ≤ n)) (an_test (val_is (val_cmp (val_var rfl) (val_var rfl)) (by simp))) (fun hb => ?_) fun hb => ?_
    · refine s_appT (ys := (HF.keyG f (m, b)).map V.int) hk2 (val_var rfl) (nw_tup (va_cons (val_sub val_c (val_mul (val_var rfl) (val_var rfl) (.inl (by omega)))) (va_cons (val_var rfl) (va_cons (val_var rfl) (va_cons (val_var rfl) va_nil)))) (by show 4 ≤ 100000; decide)) ?_ fun t ht => ?_
      · rw [tu.len, List.length_map]
        have z := List.length_filter_le (fun x : Nat × Nat => decide (Vbsyae.rectCost f x.1 x.2 ≤ n)) ((Vbsyae.shapes f).take i)
        rw [List.length_take] at z
        omega
      · have htk : t ≠ k := fun z => by rw [z, hk2] at ht; cases ht
        refine ⟨_, _, _, rs ++ [.ref t], rfl, fun b' o e hb' => ?_, (pl2.upd rfl).upd rfl, upd_same, ?_⟩
        · rw [upd_ne hb', upd_ne (ne_of_none (kp b' o e hb') ht)]
          exact kp b' o e hb'
        · rw [et, List.filter_append, List.map_append, List.filter_cons, if_pos hb]
          refine (((tu.same (same_new ht)).put (l := k) (xs := rs) ?_)).app (.cons ⟨t, rfl, ?_⟩ .nil)
          · rw [upd_ne (Ne.symm htk)]; exact hk2
          · rw [upd_ne htk, upd_same]
    · refine ⟨_, _, _, rs, rfl, kp, pl2, hk2, ?_⟩
      rw [et, List.filter_append, List.filter_cons, if_neg (by rw [hb]; decide)]
      simpa using tu
  · rintro H1 σ' H' s1 ⟨v3, v4, v5, rs, rfl, kp, pl2, hk2, tu⟩
    rw [List.take_length] at tu
    have sm : Same H H' := fun b o e => kp b o (s1 b o (same_new hk b o e)) (ne_of_none e hk)
    have hlen := tu.len
    refine q_if (b := decide (((HF.cand f n).length : Int) = 0)) (an_test (val_is (val_eqI (val_len (val_var rfl) (SqL.of hk2)) val_c) (by rw [hlen, List.length_map]; rfl))) (fun hb => ?_) fun hb => ?_
    · have e0 : HF.cand f n = [] := List.eq_nil_of_length_eq_zero (by have := of_decide_eq_true hb; omega)
      refine s_retN (nw_lst va_nil (Nat.zero_le _)) fun p hp => ?_
      have hpH : H p = none := sm.free hp
      refine Fg.lst (xs := []) (same_upd sm hpH) hpH upd_same ?_
      have e := q p hpH
      unfold bestL at e
      rw [HF.best_nil e0] at e
      exact e
    · have hne : HF.cand f n ≠ [] := fun z => by rw [z] at hb; exact absurd hb (by decide)
      obtain ⟨x, l, e0⟩ : ∃ x l, HF.cand f n = x :: l := by
        cases ec : HF.cand f n with
        | nil => exact absurd ec hne
        | cons x l => exact ⟨x, l, rfl⟩
      have tu' : Tups H' (HF.keyG f x :: l.map (HF.keyG f)) rs := by
        have z : ((Vbsyae.shapes f).filter fun x => decide (Vbsyae.rectCost f x.1 x.2 ≤ n)) = x :: l := e0
        rw [z] at tu
        exact tu
      have hl : ∀ y ∈ l, ∀ m, Vbsyae.better f y m = HF.lexB (HF.keyG f y) (HF.keyG f m) := fun y hy m => HF.better_lex (by
        have : y ∈ HF.cand f n := by rw [e0]; exact List.mem_cons_of_mem _ hy
        obtain ⟨c, d⟩ := y
        exact (HF.mem_shapes.mp (List.mem_filter.mp this).1).1.1)
      have ek : HF.minB (HF.keyG f x) (l.map (HF.keyG f)) = HF.keyG f (Vbsyae.best f n) := by rw [HF.best_pick e0]; exact HF.pick_key l x hl
      have hm := HF.best_mem e0
      refine s_retMin (val_var rfl) (SqL.of hk2) tu' ek fun H2 p s2 hp e2 => ?_
      have hpH : H p = none := sm.free hp
      refine Fg.lst (sm.trans s2) hpH e2 ?_
      have e := q p hpH
      unfold bestL at e
      rw [if_neg (by
        generalize Vbsyae.best f n = y at hm
        obtain ⟨c, d⟩ := y
        have := (HF.mem_shapes.mp hm).1.1
        show ¬ c = 0
        omega)] at e
      exact e
theorem ok_Field_greatest {P : Program} {w : World} {K : PySem.W.Frag} {mg : Str → Option Value} {base : Heap} {A : Ad} (T : Txt K mg A) : MOk P w K mg base CX0 A.cField "greatest" 3 ["self", "h"] (sp_Field_greatest K A) := by
  obtain ⟨fn, fd, hm, F⟩ := T.f_Field_greatest
  refine ⟨fn, fd, hm, fun_okG F sc_Field_greatest (fun vs H Q E h => ?_) (fun cdv A' outer s H vs Q E hr pl h => ⟨t_Field_greatest K A, ?_, pure_Field_greatest T pl h⟩), F.binds fun _ _ _ _ _ _ us hl => match us, hl with | [_, _], _ => rfl⟩
  · obtain ⟨_, _, _, rfl, _⟩ := h
    rfl
  · exact (pss_cons (ps_set (i := 2) sc_Field_greatest.nd rfl (Or.inl rfl) (pe_lst pa_nil)) (pss_cons (ps_for PassesOwn.never rfl (pi_list (pe_methM0 (pv 0) T.c_Field (ok_Field_rectangles T) (hr.mono (by decide)))) (pg_tup rfl (pgs_cons (pg_name (i := 3) sc_Field_greatest.nd rfl (Or.inl rfl)) (pgs_cons (pg_name (i := 4) sc_Field_greatest.nd rfl (Or.inl rfl)) pgs_nil))) (pss_cons (ps_set (i := 5) sc_Field_greatest.nd rfl (Or.inl rfl) (pe_methM (pv 0) T.c_Field (ok_Field_rectangle_cost T) (hr.mono (by decide)) (pa_cons (pv 3) (pa_cons (pv 4) pa_nil)))) (pss_one (ps_if (pt_cmpR op_le (pv 5) (pv 1) (nomark _)) (pss_one (ps_expr (pe_bm PySem.F.plainAttrs_list PySem.F.slot_list_append PySem.F.type_list_append mt_append (pv 2) (pa_cons (pe_tup (pa_cons (pe_op op_sub pe_int (pe_op op_mul (pv 3) (pv 4))) (pa_cons (pv 5) (pa_cons (pv 3) (pa_cons (pv 4) pa_nil))))) pa_nil)))) pss_nil)))) (pss_cons (ps_if (pt_cmpR op_eq (pe_callB call_len_seq rfl T.b_len PySem.boot_len (pa_cons (pv 2) pa_nil)) pe_int (nomark _)) (pss_one (ps_ret (pe_lst pa_nil))) pss_nil) (pss_one (ps_ret (pe_callTy call_list_of rfl T.b_list PyProof.Rows.boot_list (pa_cons (pe_slice sl_tup (pe_callB (cr_minD rfl (hu64 hr)) rfl T.b_min PyProof.Rows.boot_min (pa_cons (pv 2) pa_nil)) (po_some pe_int) po_none) pa_nil)))))))
def sp0_Field_cheapest (K : PySem.W.Frag) (A : Ad) : Sp := fun vs H Q _ => ∃ (a : Addr) (f : Vbsyae.Field) (n : Nat), vs = [.ref a, .int (n : Int)] ∧ FieldAt A H a f ∧ ∀ p, H p = none → Q (.ref p) (upd H p (.lst (nts (leastL f n))))
abbrev sp_Field_cheapest (K : PySem.W.Frag) (A : Ad) : Sp := Plain (sp0_Field_cheapest K A)
def t_Field_cheapest (K : PySem.W.Frag) (A : Ad) : TS := (tSeq (tAsg (tLc (iList K (tMeth A.cField "rectangles" (sp_Field_rectangles K A) [] E0 (tVar 0) tNil)) (gTup K 2 (gCons (gName 3) (gCons (gName 4) gNil))) (tTest (tOp rGeI (tOp rMulI (tVar 3) (tVar 4)) (tVar 1))) (tTup (tCons (tMeth A.cField "rectangle_cost" (sp_Field_rectangle_cost K A) [] E0 (tVar 0) (tCons (tVar 3) (tCons (tVar 4) tNil))) (tCons (tOp rSubI (tC (.int 0)) (tOp rMulI (tVar 3) (tVar 4))) (tCons (tVar 3) (tCons (tVar 4) tNil))))) [3, 4]) (gName 2)) (tSeq (tIfS (tTest (tOp rEq (tCB (cLen K) (tCons (tVar 2) tNil)) (tC (.int 0)))) (tRet (tLst tNil)) tNext) (tRet (tCB (cList K) (tCons (tSl (rSlT K) (tCB (rMinD K) (tCons (tVar 2) tNil)) (tPart (tC (.int 2))) tNoPart) tNil)))))
theorem pure_Field_cheapest {K : PySem.W.Frag} {mg : Str → Option Value} {A : Ad} (T : Txt K mg A) {vs : List V} {H : Hp} {Q : VK} {E : XK} (pl : Pl H) (h : sp0_Field_cheapest K A vs H Q E) : t_Field_cheapest K A { nx := fun _ H' => Fg H Q .non H', rt := Fg H Q } (start N_Field_cheapest vs) H := by
  obtain ⟨a, f, n, rfl, F, q⟩ := h
  have g := F.g
  have r8 := g.r8
  have c8 := g.c8
  have hsl : (Vbsyae.shapes f).length ≤ 64 := by rw [HF.shapes_len]; exact Nat.mul_le_mul r8 c8
  have F1' := F
  obtain ⟨_, dx, w, h1, h2⟩ := F1'
  refine q_setTs (nt_pairs (j := 3) (k := 4) (by decide) (Vbsyae.shapes f) (fun x => decide (n ≤ x.1 * x.2)) (HF.keyC f) (nt_meth (val_var rfl) h1 no_F va_nil fun Q q => ⟨a, f, rfl, pl, F, q⟩) (by omega) (fun x hx H2 s2 pl2 => ?_) (fun x hx _ H2 s2 pl2 => ?_)) fun k rs H' hk sm pl2 hk2 tu => ?_
  · obtain ⟨m, b⟩ := x
    have hms := HF.mem_shapes.mp hx
    refine an_test (val_is (val_cmp (val_mul (val_var rfl) (val_var rfl) (.inl (by omega))) (val_var rfl)) ?_)
    show V.bl (decide ((n : Int) ≤ (m : Int) * (b : Int))) = V.bl (decide (n ≤ m * b))
    have : ((n : Int) ≤ (m : Int) * (b : Int)) ↔ n ≤ m * b := by
      constructor
      · intro z; exact_mod_cast z
      · intro z; exact_mod_cast z
    simp only [this]
  · obtain ⟨m, b⟩ := x
    have hms := HF.mem_shapes.mp hx
    have F2 := F.same s2
    have F2' := F2
    obtain ⟨_, dx2, w2, h3, h4⟩ := F2'
    exact nw_tup (va_cons (val_meth (val_var rfl) h3 no_F (va_cons (val_var rfl) (va_cons (val_var rfl) va_nil)) fun Q q => ⟨pl2, a, f, m, b, rfl, F2, by omega, by omega, q⟩) (va_cons (val_sub val_c (val_mul (val_var rfl) (val_var rfl) (.inl (by omega)))) (va_cons (val_var rfl) (va_cons (val_var rfl) va_nil)))) (by show 4 ≤ 100000; decide)
  · have hlen := tu.len
    refine q_if (b := decide (((HF.candL f n).length : Int) = 0)) (an_test (val_is (val_eqI (val_len (val_var rfl) (SqL.of hk2)) val_c) (by rw [hlen, List.length_map]; rfl))) (fun hb => ?_) fun hb => ?_
    · have e0 : HF.candL f n = [] := List.eq_nil_of_length_eq_zero (by have := of_decide_eq_true hb; omega)
      refine s_retN (nw_lst va_nil (Nat.zero_le _)) fun p hp => ?_
      have hpH : H p = none := sm.free hp
      refine Fg.lst (xs := []) (same_upd sm hpH) hpH upd_same ?_
      have e := q p hpH
      unfold leastL at e
      rw [HF.least_nil e0] at e
      exact e
    · have hne : HF.candL f n ≠ [] := fun z => by rw [z] at hb; exact absurd hb (by decide)
      obtain ⟨x, l, e0⟩ : ∃ x l, HF.candL f n = x :: l := by
        cases ec : HF.candL f n with
        | nil => exact absurd ec hne
        | cons x l => exact ⟨x, l, rfl⟩
      have tu' : Tups H' (HF.keyC f x :: l.map (HF.keyC f)) rs := by
        have z : ((Vbsyae.shapes f).filter fun x => decide (n ≤ x.1 * x.2)) = x :: l := e0
        rw [z] at tu
        exact tu
      have hl : ∀ y ∈ l, ∀ m, Vbsyae.cheaper f y m = HF.lexB (HF.keyC f y) (HF.keyC f m) := fun y hy m => HF.cheaper_lex (by
        have : y ∈ HF.candL f n := by rw [e0]; exact List.mem_cons_of_mem _ hy
        obtain ⟨c, d⟩ := y
        exact (HF.mem_shapes.mp (List.mem_filter.mp this).1).1.1)
      have ek : HF.minB (HF.keyC f x) (l.map (HF.keyC f)) = HF.keyC f (HF.pick (Vbsyae.cheaper f) x l) := HF.pick_key l x hl
      refine s_retMin (val_var rfl) (SqL.of hk2) tu' ek fun H2 p s2 hp e2 => ?_
      have hpH : H p = none := sm.free hp
      refine Fg.lst (sm.trans s2) hpH e2 ?_
      have e := q p hpH
      unfold leastL at e
      rw [HF.least_pick e0] at e
      exact e
theorem ok_Field_cheapest {P : Program} {w : World} {K : PySem.W.Frag} {mg : Str → Option Value} {base : Heap} {A : Ad} (T : Txt K mg A) : MOk P w K mg base CX0 A.cField "cheapest" 3 ["self", "n"] (sp_Field_cheapest K A) := by
  obtain ⟨fn, fd, hm, F⟩ := T.f_Field_cheapest
  refine ⟨fn, fd, hm, fun_okG F sc_Field_cheapest (fun vs H Q E h => ?_) (fun cdv A' outer s H vs Q E hr pl h => ⟨t_Field_cheapest K A, ?_, pure_Field_cheapest T pl h⟩), F.binds fun _ _ _ _ _ _ us hl => match us, hl with | [_, _], _ => rfl⟩
  · obtain ⟨_, _, _, rfl, _⟩ := h
    rfl
  · exact (pss_cons (ps_setLc (i := 2) (own := [("a", 3), ("b", 4)]) (g := (gTup K 2 (gCons (gName 3) (gCons (gName 4) gNil)))) (tt := (tTest (tOp rGeI (tOp rMulI (tVar 3) (tVar 4)) (tVar 1)))) rfl sc_Field_cheapest.nd rfl rfl (sw_true rfl rfl rfl (by decide +kernel)) (pi_list (pe_methM0 (pv 0) T.c_Field (ok_Field_rectangles T) (hr.mono (by decide)))) (blkOk_by (N := N_Field_cheapest) (sc := defScope s_Field_cheapest) (by decide +kernel)) (fun _ _ _ _ _ => (pg_tup rfl (pgs_cons (pg_name (i := 3) sc_Field_cheapest.nd rfl (Or.inl rfl)) (pgs_cons (pg_name (i := 4) sc_Field_cheapest.nd rfl (Or.inl rfl)) pgs_nil)))) (fun _ _ _ _ _ => (pts_one (pt_cmpR op_ge (pe_op op_mul (pv 3) (pv 4)) (pv 1) (nomark _)))) (fun _ _ _ _ _ => (pe_tup (pa_cons (pe_methM (pv 0) T.c_Field (ok_Field_rectangle_cost T) (hr.mono (by decide)) (pa_cons (pv 3) (pa_cons (pv 4) pa_nil))) (pa_cons (pe_op op_sub pe_int (pe_op op_mul (pv 3) (pv 4))) (pa_cons (pv 3) (pa_cons (pv 4) pa_nil))))))) (pss_cons (ps_if (pt_cmpR op_eq (pe_callB call_len_seq rfl T.b_len PySem.boot_len (pa_cons (pv 2) pa_nil)) pe_int (nomark _)) (pss_one (ps_ret (pe_lst pa_nil))) pss_nil) (pss_one (ps_ret (pe_callTy call_list_of rfl T.b_list PyProof.Rows.boot_list (pa_cons (pe_slice sl_tup (pe_callB (cr_minD rfl (hu64 hr)) rfl T.b_min PyProof.Rows.boot_min (pa_cons (pv 2) pa_nil)) (po_some pe_int) po_none) pa_nil))))))
end HW

namespace HW
open PySem PySem.Spec PyProof.Rows L2
theorem inV_bls (l : List Bool) : inV (.bl true) (l.map V.bl) = l.any id := by
  unfold inV
  induction l with
  | nil => rfl
  | cons a r ih =>
    rw [List.map_cons, List.any_cons, List.any_cons, ih]
    congr 1
    show eqV (V.bl a) (V.bl true) = id a
    unfold eqV
    cases a <;> rfl
theorem flat_bls (l : List Bool) : (l.map V.bl).all flatV = true := by
  rw [List.all_map]
  exact List.all_eq_true.mpr fun _ _ => rfl
/-- x in a list just made -/
theorem g_inN {σ : L2.St} {H : Hp} {ta te : TE} {K : PySem.W.Frag} {x : V} {xs : List V} (h : Val ta σ H x) (h2 : GNew te σ H xs) (fx : flatV x = true) (fa : xs.all flatV = true) : GVal (tOp (rIn K false) ta te) σ H (.bl (inV x xs)) := fun Q q =>
  h _ (h2 _ fun p H2 hp s pl e => ⟨p, xs, rfl, .inl (SqL.of e), fx, fa, q H2 s pl⟩)
/-- len of a list just made -/
theorem g_lenN {σ : L2.St} {H : Hp} {te : TE} {K : PySem.W.Frag} {xs : List V} (h2 : GNew te σ H xs) : GVal (tCB (cLen K) (tCons te tNil)) σ H (.int (xs.length : Int)) := fun Q q =>
  h2 _ fun p H2 hp s pl e => ⟨p, xs, rfl, .inl (SqL.of e), q H2 s pl⟩
theorem gn_is {te : TE} {σ : L2.St} {H : Hp} {xs ys : List V} (h : GNew te σ H xs) (e : xs = ys) : GNew te σ H ys := e ▸ h
theorem any_map_range {n : Nat} {p : Nat → Bool} : ((List.range n).map p).any id = (List.range n).any p := by
  rw [List.any_map]
  rfl
def sp0_Field_is_filled (K : PySem.W.Frag) (A : Ad) : Sp := fun vs H Q _ => ∃ (a b : Addr) (f : Vbsyae.Field) (l : List Nat), vs = [.ref a, .ref b] ∧ FieldAt A H a f ∧ SqL K H b (nts l) ∧ Q (.bl (Vbsyae.fullRow f l || Vbsyae.fullCol f l)) H
abbrev sp_Field_is_filled (K : PySem.W.Frag) (A : Ad) : Sp := Plain (sp0_Field_is_filled K A)
def t_Field_is_filled (K : PySem.W.Frag) (A : Ad) : TS := (tSeq (tIfS (tAnd (tB (tOp (rIxL K) (tFld K (tVar 0) "walled") (tC (.int (1))))) (tB (tOp (rIxL K) (tFld K (tVar 0) "walled") (tC (.int (3)))))) (tIfS (tTest (tOp (rIn K false) (tC (.bl true)) (tLc (iRng1 (tCons (tFld K (tVar 0) "rows") tNil)) (gName 2) tYes (tMeth A.cField "has_all" (sp_Field_has_all K A) [] E0 (tVar 0) (tCons (tVar 1) (tCons (tMeth A.cField "row_cells" (sp_Field_row_cells K A) [] E0 (tVar 0) (tCons (tVar 2) tNil)) tNil))) [2]))) (tRet (tC (.bl true))) tNext) tNext) (tSeq (tIfS (tAnd (tB (tOp (rIxL K) (tFld K (tVar 0) "walled") (tC (.int (0))))) (tB (tOp (rIxL K) (tFld K (tVar 0) "walled") (tC (.int (2)))))) (tRet (tOp (rIn K false) (tC (.bl true)) (tLc (iRng1 (tCons (tFld K (tVar 0) "columns") tNil)) (gName 3) tYes (tMeth A.cField "has_all" (sp_Field_has_all K A) [] E0 (tVar 0) (tCons (tVar 1) (tCons (tMeth A.cField "column_cells" (sp_Field_column_cells K A) [] E0 (tVar 0) (tCons (tVar 3) tNil)) tNil))) [3]))) tNext) (tRet (tC (.bl false)))))
theorem pure_Field_is_filled {K : PySem.W.Frag} {mg : Str → Option Value} {A : Ad} (T : Txt K mg A) {vs : List V} {H : Hp} {Q : VK} {E : XK} (pl : Pl H) (h : sp0_Field_is_filled K A vs H Q E) : t_Field_is_filled K A { nx := fun _ H' => Fg H Q .non H', rt := Fg H Q } (start N_Field_is_filled vs) H := by
  obtain ⟨a, b, f, l, rfl, F, hl, q⟩ := h
  have g := F.g
  have r8 := g.r8
  have c8 := g.c8
  -- has_all(cells, a line's cells)
  have rowC : ∀ H1, Same H H1 → Pl H1 → GNew (tLc (iRng1 (tCons (tFld K (tVar 0) "rows") tNil)) (gName 2) tYes (tMeth A.cField "has_all" (sp_Field_has_all K A) [] E0 (tVar 0) (tCons (tVar 1) (tCons (tMeth A.cField "row_cells" (sp_Field_row_cells K A) [] E0 (tVar 0) (tCons (tVar 2) tNil)) tNil))) [2]) [some (.ref a), some (.ref b), none, none] H1
      (((List.range f.rows).map fun r => (List.range f.cols).all fun k => l.contains (r * f.cols + k)).map V.bl) := by
    intro H1 s1 pl1
    obtain ⟨_, dx, w, h1, h2⟩ := F.same s1
    refine gn_is (gn_lcR1 f.rows (fun _ => true) (fun r => V.bl ((List.range f.cols).all fun k => l.contains (r * f.cols + k))) pl1 (va_cons (v_rows T h1 (val_var rfl)) va_nil) rfl (by omega) (fun r hr H2 s2 pl2 => ga_yes pl2) (fun r hr _ H2 s2 pl2 => ?_)) ?_
    · have F2 := (F.same s1).same s2
      have F2' := F2
      obtain ⟨_, dx2, w2, h3, h4⟩ := F2'
      intro Q' q'
      refine val_var (i := 0) (v := V.ref a) rfl _ ⟨a, dx2, _, rfl, h3, no_F, ?_⟩
      refine val_var (i := 1) (v := V.ref b) rfl _ ?_
      refine nw_meth (val_var rfl) h3 no_F (va_cons (val_var rfl) va_nil) (fun Q q => ⟨pl2, a, f, r, rfl, F2, hr, q⟩) _ fun p hp => ?_
      refine ⟨pl2.upd rfl, a, b, p, f, l, _, rfl, (same_new hp).seq (s2.seq (s1.seq hl)), SqL.of upd_same, by rw [List.length_map, List.length_range]; omega, ?_⟩
      rw [List.all_map]
      exact q' _ (same_new hp) (pl2.upd rfl)
    · rw [filt_true, List.map_map]
      rfl
  have colC : ∀ H1, Same H H1 → Pl H1 → GNew (tLc (iRng1 (tCons (tFld K (tVar 0) "columns") tNil)) (gName 3) tYes (tMeth A.cField "has_all" (sp_Field_has_all K A) [] E0 (tVar 0) (tCons (tVar 1) (tCons (tMeth A.cField "column_cells" (sp_Field_column_cells K A) [] E0 (tVar 0) (tCons (tVar 3) tNil)) tNil))) [3]) [some (.ref a), some (.ref b), none, none] H1
      (((List.range f.cols).map fun k => (List.range f.rows).all fun r => l.contains (r * f.cols + k)).map V.bl) := by
    intro H1 s1 pl1
    obtain ⟨_, dx, w, h1, h2⟩ := F.same s1
    refine gn_is (gn_lcR1 f.cols (fun _ => true) (fun k => V.bl ((List.range f.rows).all fun r => l.contains (r * f.cols + k))) pl1 (va_cons (v_cols T h1 (val_var rfl)) va_nil) rfl (by omega) (fun r hr H2 s2 pl2 => ga_yes pl2) (fun r hr _ H2 s2 pl2 => ?_)) ?_
    · have F2 := (F.same s1).same s2
      have F2' := F2
      obtain ⟨_, dx2, w2, h3, h4⟩ := F2'
      intro Q' q'
      refine val_var (i := 0) (v := V.ref a) rfl _ ⟨a, dx2, _, rfl, h3, no_F, ?_⟩
      refine val_var (i := 1) (v := V.ref b) rfl _ ?_
      refine nw_meth (val_var rfl) h3 no_F (va_cons (val_var rfl) va_nil) (fun Q q => ⟨pl2, a, f, r, rfl, F2, hr, q⟩) _ fun p hp => ?_
      refine ⟨pl2.upd rfl, a, b, p, f, l, _, rfl, (same_new hp).seq (s2.seq (s1.seq hl)), SqL.of upd_same, by rw [List.length_map, List.length_range]; omega, ?_⟩
      rw [List.all_map]
      exact q' _ (same_new hp) (pl2.upd rfl)
    · rw [filt_true, List.map_map]
      rfl
  obtain ⟨_, dx, w, h1, h2⟩ := F
  have F : FieldAt A H a f := ⟨g, dx, w, h1, h2⟩
  -- the second part, from any heap behind
  have second : ∀ H1, Same H H1 → Pl H1 → Vbsyae.fullRow f l = false → tSeq (tIfS (tAnd (tB (tOp (rIxL K) (tFld K (tVar 0) "walled") (tC (.int (0))))) (tB (tOp (rIxL K) (tFld K (tVar 0) "walled") (tC (.int (2)))))) (tRet (tOp (rIn K false) (tC (.bl true)) (tLc (iRng1 (tCons (tFld K (tVar 0) "columns") tNil)) (gName 3) tYes (tMeth A.cField "has_all" (sp_Field_has_all K A) [] E0 (tVar 0) (tCons (tVar 1) (tCons (tMeth A.cField "column_cells" (sp_Field_column_cells K A) [] E0 (tVar 0) (tCons (tVar 3) tNil)) tNil))) [3]))) tNext) (tRet (tC (.bl false)))
      { nx := fun _ H' => Fg H Q .non H', rt := Fg H Q } [some (.ref a), some (.ref b), none, none] H1 := by
    intro H1 s1 pl1 hR
    obtain ⟨_, dx, w, h1, h2⟩ := F.same s1
    rw [hR, Bool.false_or] at q
    unfold Vbsyae.fullCol at q
    refine q_if (an_and (an_B (v_wall (s := 0) T g h1 h2 (val_var rfl) val_c (by decide))) fun _ => an_B (v_wall (s := 2) T g h1 h2 (val_var rfl) val_c (by decide))) (fun hb => ?_) fun hb => ?_
    · rw [Bool.and_eq_true] at hb
      rw [hb.1, hb.2, Bool.true_and, Bool.true_and] at q
      refine gs_ret (g_inN val_c (colC H1 s1 pl1) rfl (flat_bls _)) fun H2 s2 pl2 => Fg.same (s1.trans s2) ?_
      rw [inV_bls, any_map_range]
      exact q
    · show Fg H Q (.bl false) H1
      refine Fg.same s1 ?_
      have e : (Vbsyae.walled f 0 && (Vbsyae.walled f 2 && (List.range f.cols).any fun k => (List.range f.rows).all fun r => l.contains (r * f.cols + k))) = false := by
        rw [← Bool.and_assoc, hb, Bool.false_and]
      rw [e] at q
      exact q
  refine q_if (an_and (an_B (v_wall (s := 1) T g h1 h2 (val_var rfl) val_c (by decide))) fun _ => an_B (v_wall (s := 3) T g h1 h2 (val_var rfl) val_c (by decide))) (fun hb => ?_) fun hb => ?_
  · rw [Bool.and_eq_true] at hb
    have eR : Vbsyae.fullRow f l = (List.range f.rows).any fun r => (List.range f.cols).all fun k => l.contains (r * f.cols + k) := by
      unfold Vbsyae.fullRow
      rw [hb.1, hb.2, Bool.true_and, Bool.true_and]
    refine gs_if (ga_test (g_inN val_c (rowC H (Same.refl H) pl) rfl (flat_bls _))) (fun hb2 H2 s2 pl2 => ?_) fun hb2 H2 s2 pl2 => ?_
    · rw [inV_bls, any_map_range, ← eR] at hb2
      rw [hb2, Bool.true_or] at q
      exact s_ret val_c (Fg.same s2 q)
    · rw [inV_bls, any_map_range, ← eR] at hb2
      exact second H2 s2 pl2 hb2
  · refine second H (Same.refl H) pl ?_
    unfold Vbsyae.fullRow
    rw [← Bool.and_assoc, hb, Bool.false_and]
theorem ok_Field_is_filled {P : Program} {w : World} {K : PySem.W.Frag} {mg : Str → Option Value} {base : Heap} {A : Ad} (T : Txt K mg A) : MOk P w K mg base CX0 A.cField "is_filled" 2 ["self", "cells"] (sp_Field_is_filled K A) := by
  obtain ⟨fn, fd, hm, F⟩ := T.f_Field_is_filled
  refine ⟨fn, fd, hm, fun_okG F sc_Field_is_filled (fun vs H Q E h => ?_) (fun cdv A' outer s H vs Q E hr pl h => ⟨t_Field_is_filled K A, ?_, pure_Field_is_filled T pl h⟩), F.binds fun _ _ _ _ _ _ us hl => match us, hl with | [_, _], _ => rfl⟩
  · obtain ⟨_, _, _, _, rfl, _⟩ := h
    rfl
  · exact (pss_cons (ps_if (PW.pt (pw_and (pt_val (pe_ix ix_list (pe_fld (pv 0) rfl) (pe_gi rfl T.g_RIGHT) (fun _ _ => rfl))) (pw_and1 (pt_val (pe_ix ix_list (pe_fld (pv 0) rfl) (pe_gi rfl T.g_LEFT) (fun _ _ => rfl)))))) (pss_one (ps_if (pt_cmpR op_in_seq pe_bl (pe_lc (own := [("row", 2)]) (g := (gName 2)) (tt := tYes) rfl sc_Field_is_filled.nd (pi_range1 rfl T.b_range (pa_cons (pe_fld (pv 0) rfl) pa_nil)) (blkOk_by (N := N_Field_is_filled) (sc := defScope s_Field_is_filled) (by decide +kernel)) (fun _ _ _ _ _ => (pg_name (i := 2) sc_Field_is_filled.nd rfl (Or.inl rfl))) (fun _ _ _ _ _ => pts_nil) (fun _ _ _ _ _ => (pe_methM (pv 0) T.c_Field (ok_Field_has_all T) (hr.mono (by decide)) (pa_cons (pv 1) (pa_cons (pe_methM (pv 0) T.c_Field (ok_Field_row_cells T) (hr.mono (by decide)) (pa_cons (pv 2) pa_nil)) pa_nil))))) (by rfl)) (pss_one (ps_ret pe_bl)) pss_nil)) pss_nil) (pss_cons (ps_if (PW.pt (pw_and (pt_val (pe_ix ix_list (pe_fld (pv 0) rfl) (pe_gi rfl T.g_ABOVE) (fun _ _ => rfl))) (pw_and1 (pt_val (pe_ix ix_list (pe_fld (pv 0) rfl) (pe_gi rfl T.g_BELOW) (fun _ _ => rfl)))))) (pss_one (ps_ret (pe_cmpR op_in_seq pe_bl (pe_lc (own := [("column", 3)]) (g := (gName 3)) (tt := tYes) rfl sc_Field_is_filled.nd (pi_range1 rfl T.b_range (pa_cons (pe_fld (pv 0) rfl) pa_nil)) (blkOk_by (N := N_Field_is_filled) (sc := defScope s_Field_is_filled) (by decide +kernel)) (fun _ _ _ _ _ => (pg_name (i := 3) sc_Field_is_filled.nd rfl (Or.inl rfl))) (fun _ _ _ _ _ => pts_nil) (fun _ _ _ _ _ => (pe_methM (pv 0) T.c_Field (ok_Field_has_all T) (hr.mono (by decide)) (pa_cons (pv 1) (pa_cons (pe_methM (pv 0) T.c_Field (ok_Field_column_cells T) (hr.mono (by decide)) (pa_cons (pv 3) pa_nil)) pa_nil))))) (by rfl)))) pss_nil) (pss_one (ps_ret pe_bl))))
def sp0_Field_rounded (K : PySem.W.Frag) (A : Ad) : Sp := fun vs H Q _ => ∃ (a b : Addr) (f : Vbsyae.Field) (l : List Nat), vs = [.ref a, .ref b] ∧ FieldAt A H a f ∧ SqL K H b (nts l) ∧ ∀ p, H p = none → Q (.ref p) (upd H p (.lst (nts [(Vbsyae.rounded f l).1, (Vbsyae.rounded f l).2])))
abbrev sp_Field_rounded (K : PySem.W.Frag) (A : Ad) : Sp := Plain (sp0_Field_rounded K A)
def t_Field_rounded (K : PySem.W.Frag) (A : Ad) : TS := (tSeq (tIfS (tB (tMeth A.cField "is_filled" (sp_Field_is_filled K A) [] E0 (tVar 0) (tCons (tVar 1) tNil))) (tRet (tLst (tCons (tFld K (tVar 0) "rows") (tCons (tFld K (tVar 0) "columns") tNil)))) tNext) (tSeq (tAsg (tCB (cLen K) (tCons (tLc (iRng1 (tCons (tFld K (tVar 0) "rows") tNil)) (gName 4) (tB (tMeth A.cField "has_any" (sp_Field_has_any K A) [] E0 (tVar 0) (tCons (tVar 1) (tCons (tMeth A.cField "row_cells" (sp_Field_row_cells K A) [] E0 (tVar 0) (tCons (tVar 4) tNil)) tNil)))) (tVar 4) [4]) tNil)) (gName 2)) (tSeq (tAsg (tCB (cLen K) (tCons (tLc (iRng1 (tCons (tFld K (tVar 0) "columns") tNil)) (gName 5) (tB (tMeth A.cField "has_any" (sp_Field_has_any K A) [] E0 (tVar 0) (tCons (tVar 1) (tCons (tMeth A.cField "column_cells" (sp_Field_column_cells K A) [] E0 (tVar 0) (tCons (tVar 5) tNil)) tNil)))) (tVar 5) [5]) tNil)) (gName 3)) (tRet (tLst (tCons (tVar 2) (tCons (tVar 3) tNil)))))))
theorem pure_Field_rounded {K : PySem.W.Frag} {mg : Str → Option Value} {A : Ad} (T : Txt K mg A) {vs : List V} {H : Hp} {Q : VK} {E : XK} (pl : Pl H) (h : sp0_Field_rounded K A vs H Q E) : t_Field_rounded K A { nx := fun _ H' => Fg H Q .non H', rt := Fg H Q } (start N_Field_rounded vs) H := by
  obtain ⟨a, b, f, l, rfl, F, hl, q⟩ := h
  have g := F.g
  have r8 := g.r8
  have c8 := g.c8
  have F' := F
  obtain ⟨_, dx, w, h1, h2⟩ := F'
  refine q_if (b := Vbsyae.fullRow f l || Vbsyae.fullCol f l) (an_B (val_meth (val_var rfl) h1 no_F (va_cons (val_var rfl) va_nil) fun Q q => ⟨pl, a, b, f, l, rfl, F, hl, q⟩)) (fun hb => ?_) fun hb => ?_
  · refine s_retN (xs := nts [f.rows, f.cols]) (nw_lst (va_cons (v_rows T h1 (val_var rfl)) (va_cons (v_cols T h1 (val_var rfl)) va_nil)) (by show 2 ≤ 100000; decide)) fun p hp => Fg.lst (same_new hp) hp upd_same ?_
    have e := q p hp
    unfold Vbsyae.rounded at e
    rw [if_pos (by simpa using hb)] at e
    exact e
  · unfold Vbsyae.rounded at q
    rw [if_neg (by rw [← Bool.or_eq_true, hb]; decide)] at q
    refine g_set (g_lenN (xs := ((List.range f.rows).filter fun r => (List.range f.cols).any fun k => l.contains (r * f.cols + k)).map fun (r : Nat) => V.int (r : Int)) (gn_lcR1 f.rows _ _ pl (va_cons (v_rows T h1 (val_var rfl)) va_nil) rfl (by omega) (fun r hr H2 s2 pl2 => ?_) fun r hr _ H2 s2 pl2 => Val.g pl2 (val_var rfl))) fun H3 s3 pl3 => ?_
    · have F2 := F.same s2
      have F2' := F2
      obtain ⟨_, dx2, w2, h3, h4⟩ := F2'
      refine ga_B ?_
      intro Q' q'
      refine val_var (i := 0) (v := V.ref a) rfl _ ⟨a, dx2, _, rfl, h3, no_F, ?_⟩
      refine val_var (i := 1) (v := V.ref b) rfl _ ?_
      refine nw_meth (val_var rfl) h3 no_F (va_cons (val_var rfl) va_nil) (fun Q q => ⟨pl2, a, f, r, rfl, F2, hr, q⟩) _ fun p hp => ?_
      refine ⟨pl2.upd rfl, a, b, p, f, l, _, rfl, (same_new hp).seq (s2.seq hl), SqL.of upd_same, by rw [List.length_map, List.length_range]; omega, ?_⟩
      rw [List.any_map]
      exact q' _ (same_new hp) (pl2.upd rfl)
    · have F3 := F.same s3
      have F3' := F3
      obtain ⟨_, dx3, w3, h5, h6⟩ := F3'
      refine g_set (g_lenN (xs := ((List.range f.cols).filter fun k => (List.range f.rows).any fun r => l.contains (r * f.cols + k)).map fun (r : Nat) => V.int (r : Int)) (gn_lcR1 f.cols _ _ pl3 (va_cons (v_cols T h5 (val_var rfl)) va_nil) rfl (by omega) (fun r hr H2 s2 pl2 => ?_) fun r hr _ H2 s2 pl2 => Val.g pl2 (val_var rfl))) fun H4 s4 pl4 => ?_
      · have F2 := F3.same s2
        have F2' := F2
        obtain ⟨_, dx2, w2, h3, h4⟩ := F2'
        refine ga_B ?_
        intro Q' q'
        refine val_var (i := 0) (v := V.ref a) rfl _ ⟨a, dx2, _, rfl, h3, no_F, ?_⟩
        refine val_var (i := 1) (v := V.ref b) rfl _ ?_
        refine nw_meth (val_var rfl) h3 no_F (va_cons (val_var rfl) va_nil) (fun Q q => ⟨pl2, a, f, r, rfl, F2, hr, q⟩) _ fun p hp => ?_
        refine ⟨pl2.upd rfl, a, b, p, f, l, _, rfl, (same_new hp).seq (s2.seq (s3.seq hl)), SqL.of upd_same, by rw [List.length_map, List.length_range]; omega, ?_⟩
        rw [List.any_map]
        exact q' _ (same_new hp) (pl2.upd rfl)
      · rw [List.length_map, List.length_map]
        refine s_retN (xs := nts [((List.range f.rows).filter fun r => (List.range f.cols).any fun k => l.contains (r * f.cols + k)).length, ((List.range f.cols).filter fun k => (List.range f.rows).any fun r => l.contains (r * f.cols + k)).length]) (nw_lst (va_cons (val_var rfl) (va_cons (val_var rfl) va_nil)) (by show 2 ≤ 100000; decide)) fun p hp => ?_
        have sm := s3.trans s4
        exact Fg.lst (same_upd sm (sm.free hp)) (sm.free hp) upd_same (q p (sm.free hp))
theorem ok_Field_rounded {P : Program} {w : World} {K : PySem.W.Frag} {mg : Str → Option Value} {base : Heap} {A : Ad} (T : Txt K mg A) : MOk P w K mg base CX0 A.cField "rounded" 3 ["self", "cells"] (sp_Field_rounded K A) := by
  obtain ⟨fn, fd, hm, F⟩ := T.f_Field_rounded
  refine ⟨fn, fd, hm, fun_okG F sc_Field_rounded (fun vs H Q E h => ?_) (fun cdv A' outer s H vs Q E hr pl h => ⟨t_Field_rounded K A, ?_, pure_Field_rounded T pl h⟩), F.binds fun _ _ _ _ _ _ us hl => match us, hl with | [_, _], _ => rfl⟩
  · obtain ⟨_, _, _, _, rfl, _⟩ := h
    rfl
  · exact (pss_cons (ps_if (pt_val (pe_methM (pv 0) T.c_Field (ok_Field_is_filled T) (hr.mono (by decide)) (pa_cons (pv 1) pa_nil))) (pss_one (ps_ret (pe_lst (pa_cons (pe_fld (pv 0) rfl) (pa_cons (pe_fld (pv 0) rfl) pa_nil))))) pss_nil) (pss_cons (ps_set (i := 2) sc_Field_rounded.nd rfl (Or.inl rfl) (pe_callB call_len_seq rfl T.b_len PySem.boot_len (pa_cons (pe_lc (own := [("row", 4)]) (g := (gName 4)) (tt := (tB (tMeth A.cField "has_any" (sp_Field_has_any K A) [] E0 (tVar 0) (tCons (tVar 1) (tCons (tMeth A.cField "row_cells" (sp_Field_row_cells K A) [] E0 (tVar 0) (tCons (tVar 4) tNil)) tNil))))) rfl sc_Field_rounded.nd (pi_range1 rfl T.b_range (pa_cons (pe_fld (pv 0) rfl) pa_nil)) (blkOk_by (N := N_Field_rounded) (sc := defScope s_Field_rounded) (by decide +kernel)) (fun _ _ _ _ _ => (pg_name (i := 4) sc_Field_rounded.nd rfl (Or.inl rfl))) (fun _ _ _ _ _ => (pts_one (pt_val (pe_methM (pv 0) T.c_Field (ok_Field_has_any T) (hr.mono (by decide)) (pa_cons (pv 1) (pa_cons (pe_methM (pv 0) T.c_Field (ok_Field_row_cells T) (hr.mono (by decide)) (pa_cons (pv 4) pa_nil)) pa_nil)))))) (fun _ _ _ _ _ => (pv 4))) pa_nil))) (pss_cons (ps_set (i := 3) sc_Field_rounded.nd rfl (Or.inl rfl) (pe_callB call_len_seq rfl T.b_len PySem.boot_len (pa_cons (pe_lc (own := [("column", 5)]) (g := (gName 5)) (tt := (tB (tMeth A.cField "has_any" (sp_Field_has_any K A) [] E0 (tVar 0) (tCons (tVar 1) (tCons (tMeth A.cField "column_cells" (sp_Field_column_cells K A) [] E0 (tVar 0) (tCons (tVar 5) tNil)) tNil))))) rfl sc_Field_rounded.nd (pi_range1 rfl T.b_range (pa_cons (pe_fld (pv 0) rfl) pa_nil)) (blkOk_by (N := N_Field_rounded) (sc := defScope s_Field_rounded) (by decide +kernel)) (fun _ _ _ _ _ => (pg_name (i := 5) sc_Field_rounded.nd rfl (Or.inl rfl))) (fun _ _ _ _ _ => (pts_one (pt_val (pe_methM (pv 0) T.c_Field (ok_Field_has_any T) (hr.mono (by decide)) (pa_cons (pv 1) (pa_cons (pe_methM (pv 0) T.c_Field (ok_Field_column_cells T) (hr.mono (by decide)) (pa_cons (pv 5) pa_nil)) pa_nil)))))) (fun _ _ _ _ _ => (pv 5))) pa_nil))) (pss_one (ps_ret (pe_lst (pa_cons (pv 2) (pa_cons (pv 3) pa_nil))))))))
def sp0_Day_cells_in (K : PySem.W.Frag) (A : Ad) : Sp := fun vs H Q _ => ∃ (a b : Addr) (f : Vbsyae.Field) (x : Vbsyae.Fold), vs = [.ref a, .ref b] ∧ DayAt A H a x ∧ FieldAt A H b f ∧ HF.Fits f x ∧ ∀ p, H p = none → Q (.ref p) (upd H p (.lst (nts (HF.dcells f x))))
abbrev sp_Day_cells_in (K : PySem.W.Frag) (A : Ad) : Sp := Plain (sp0_Day_cells_in K A)
def t_Day_cells_in (K : PySem.W.Frag) (A : Ad) : TS := (tSeq (tAsg (tLst tNil) (gName 2)) (tSeq (tFor (iRng2 (tCons (tFld K (tVar 0) "row") (tCons (tOp rAddI (tFld K (tVar 0) "row") (tFld K (tVar 0) "high")) tNil))) (gName 3) (tDrop (tBM K "list" rExtend (tVar 2) (tCons (tLc (iRng2 (tCons (tFld K (tVar 0) "column") (tCons (tOp rAddI (tFld K (tVar 0) "column") (tFld K (tVar 0) "wide")) tNil))) (gName 4) tYes (tOp rAddI (tOp rMulI (tVar 3) (tFld K (tVar 1) "columns")) (tVar 4)) [4]) tNil)))) (tRet (tVar 2))))
theorem pure_Day_cells_in {K : PySem.W.Frag} {mg : Str → Option Value} {A : Ad} (T : Txt K mg A) {vs : List V} {H : Hp} {Q : VK} {E : XK} (pl : Pl H) (h : sp0_Day_cells_in K A vs H Q E) : t_Day_cells_in K A { nx := fun _ H' => Fg H Q .non H', rt := Fg H Q } (start N_Day_cells_in vs) H := by
  obtain ⟨a, b, f, x, rfl, Da, F, ft, q⟩ := h
  have g := F.g
  have r8 := g.r8
  have c8 := g.c8
  have fh := ft.h
  have fw := ft.w
  refine q_setN (nw_lst va_nil (Nat.zero_le _)) fun p hp => ?_
  obtain ⟨dd, d1⟩ := Da.same (same_new (o := .lst []) hp)
  refine q_forR2 (lo := (x.row : Int)) x.high (va_cons (v_drow T d1 (val_var rfl)) (va_cons (val_add (v_drow T d1 (val_var rfl)) (v_dhigh T d1 (val_var rfl))) va_nil)) (by omega) ⟨by omega, by omega, by omega, by omega⟩ (fun i σ' H' => ∃ v, σ' = [some (.ref a), some (.ref b), some (.ref p), v, none] ∧ Same H H' ∧ Pl H' ∧ H' p = some (.lst (nts ((List.range i).flatMap (HF.rowOf f x)))) ∧ ((List.range i).flatMap (HF.rowOf f x)).length = i * x.wide) ?_ ?_ ?_
  · exact ⟨none, rfl, same_new hp, pl.upd rfl, upd_same, by simp⟩
  · rintro i σ' H' hi ⟨v, rfl, s1, pl1, hp1, hlen⟩
    obtain ⟨d2, e2⟩ := Da.same s1
    have hmul : i * x.wide ≤ 8 * 8 := Nat.mul_le_mul (by omega) (by omega)
    have hcomp : New (tLc (iRng2 (tCons (tFld K (tVar 0) "column") (tCons (tOp rAddI (tFld K (tVar 0) "column") (tFld K (tVar 0) "wide")) tNil))) (gName 4) tYes (tOp rAddI (tOp rMulI (tVar 3) (tFld K (tVar 1) "columns")) (tVar 4)) [4]) [some (.ref a), some (.ref b), some (.ref p), some (.int ((x.row : Int) + (i : Int))), none] H' (((List.range x.wide).filter fun _ => true).map fun j => V.int (((x.row + i) * f.cols + (x.col + j) : Nat) : Int)) := by
      refine nw_lcR2 (lo := (x.col : Int)) x.wide _ _ pl1 (va_cons (v_dcol T e2 (val_var rfl)) (va_cons (val_add (v_dcol T e2 (val_var rfl)) (v_dwide T e2 (val_var rfl))) va_nil)) (by omega) ⟨by omega, by omega, by omega, by omega⟩ (by omega) (fun j hj H2 s2 pl2 => an_yes) fun j hj _ H2 s2 pl2 => ?_
      obtain ⟨_, dx, w, h1, h2⟩ := (F.same s1).same s2
      refine val_is (val_add (val_mul (val_var rfl) (v_cols T h1 (val_var rfl)) (.inl (by omega))) (val_var rfl)) ?_
      push_cast
      rfl
    rw [filt_true] at hcomp
    refine s_ext hp1 (val_var rfl) hcomp ?_ fun r hr => ?_
    · rw [len_nts, hlen, List.length_map, List.length_range]
      omega
    · have e0 : (List.range (i + 1)).flatMap (HF.rowOf f x) = (List.range i).flatMap (HF.rowOf f x) ++ HF.rowOf f x i := by
        rw [List.range_succ, List.flatMap_append, List.flatMap_singleton]
      refine ⟨_, rfl, ?_, (pl1.upd rfl).upd rfl, ?_, ?_⟩
      · exact same_upd (same_upd s1 (s1.free hr)) hp
      · rw [upd_same, e0]
        unfold nts HF.rowOf
        rw [List.map_append, List.map_map]
        rfl
      · rw [e0, List.length_append, hlen]
        unfold HF.rowOf
        rw [List.length_map, List.length_range, Nat.add_mul, Nat.one_mul]
  · rintro σ' H' ⟨v, rfl, s1, pl1, hp1, _⟩
    exact s_ret (val_var rfl) (Fg.lst s1 hp hp1 (q p hp))
theorem ok_Day_cells_in {P : Program} {w : World} {K : PySem.W.Frag} {mg : Str → Option Value} {base : Heap} {A : Ad} (T : Txt K mg A) : MOk P w K mg base CX0 A.cDay "cells_in" 1 ["self", "field"] (sp_Day_cells_in K A) := by
  obtain ⟨fn, fd, hm, F⟩ := T.f_Day_cells_in
  refine ⟨fn, fd, hm, fun_okG F sc_Day_cells_in (fun vs H Q E h => ?_) (fun cdv A' outer s H vs Q E hr pl h => ⟨t_Day_cells_in K A, ?_, pure_Day_cells_in T pl h⟩), F.binds fun _ _ _ _ _ _ us hl => match us, hl with | [_, _], _ => rfl⟩
  · obtain ⟨_, _, _, _, rfl, _⟩ := h
    rfl
  · exact (pss_cons (ps_set (i := 2) sc_Day_cells_in.nd rfl (Or.inl rfl) (pe_lst pa_nil)) (pss_cons (ps_for PassesOwn.never rfl (pi_range2 rfl T.b_range (pa_cons (pe_fld (pv 0) rfl) (pa_cons (pe_op op_add (pe_fld (pv 0) rfl) (pe_fld (pv 0) rfl)) pa_nil))) (pg_name (i := 3) sc_Day_cells_in.nd rfl (Or.inr rfl)) (pss_one (ps_expr (pe_bm PySem.F.plainAttrs_list PySem.F.slot_list_extend PySem.F.type_list_extend mt_extend (pv 2) (pa_cons (pe_lc (own := [("column", 4)]) (g := (gName 4)) (tt := tYes) rfl sc_Day_cells_in.nd (pi_range2 rfl T.b_range (pa_cons (pe_fld (pv 0) rfl) (pa_cons (pe_op op_add (pe_fld (pv 0) rfl) (pe_fld (pv 0) rfl)) pa_nil))) (blkOk_by (N := N_Day_cells_in) (sc := defScope s_Day_cells_in) (by decide +kernel)) (fun _ _ _ _ _ => (pg_name (i := 4) sc_Day_cells_in.nd rfl (Or.inl rfl))) (fun _ _ _ _ _ => pts_nil) (fun _ _ _ _ _ => (pe_op op_add (pe_op op_mul (pv 3) (pe_fld (pv 1) rfl)) (pv 4)))) pa_nil))))) (pss_one (ps_ret (pv 2)))))
end HW

namespace HW
open PySem PySem.Spec PyProof.Rows L2
theorem st_fldN {σ : L2.St} {H : Hp} {tv : TE} {K : PySem.W.Frag} {D : Ends} {i : Nat} {a C dx : Addr} {fs : List (Str × V)} {f : Str} {xs : List V} (h : New tv σ H xs) (ha : σ[i]? = some (some (.ref a))) (ho : H a = some (.ins C dx fs)) (hc : Cls K C) (hn : NoAttr K C f) (hl : fs.length < 1000)
    (k : ∀ r, H r = none → D.nx σ (upd (upd H r (.lst xs)) a (.ins C dx (putF f (.ref r) fs)))) : sFld K (tVar i) tv f D σ H :=
  h _ fun r hr => ⟨_, ha, a, C, dx, fs, rfl, by rw [upd_ne (ne_of_none ho hr)]; exact ho, hc, hn, hl, k r hr⟩
def sp_Moves_init (K : PySem.W.Frag) (A : Ad) : Sp := fun vs H Q _ => ∃ (p dx a b : Addr) (f : Vbsyae.Field), vs = [.ref p, .ref a, .ref b] ∧ H p = some (.ins A.cMoves dx []) ∧ Pl H ∧ FieldAt A H a f ∧ DaysAt A H b f.days ∧ HF.WF f ∧ ∀ H', (∀ b o, H b = some o → b ≠ p → H' b = some o) → Pl H' → MovesAt A H' p f → Q .non H'
def t_Moves_init (K : PySem.W.Frag) (A : Ad) : TS := (tSeq (sFld K (tVar 0) (tLc (iList K (tVar 2)) (gName 3) tYes (tMeth A.cField "places" (sp_Field_places K A) [] E0 (tVar 1) (tCons (tMeth A.cDay "cells_in" (sp_Day_cells_in K A) [] E0 (tVar 3) (tCons (tVar 1) tNil)) tNil)) [3]) "spots") (sFld K (tVar 0) (tLc (iList K (tFld K (tVar 0) "spots")) (gName 4) tYes (tCB (cLen K) (tCons (tVar 4) tNil)) [4]) "sizes"))
theorem pure_Moves_init {K : PySem.W.Frag} {mg : Str → Option Value} {A : Ad} (T : Txt K mg A) {vs : List V} {H : Hp} {Q : VK} {E : XK} (h : sp_Moves_init K A vs H Q E) : t_Moves_init K A { nx := fun _ H' => Q .non H', rt := Q } (start N_Moves_init vs) H := by
  obtain ⟨p, dx, a, b, f, rfl, hp, pl, F, Ds, wf, q⟩ := h
  obtain ⟨l, el, hb, hd⟩ := Ds
  have hlen : l.length = f.days.length := by rw [← el, List.length_map]
  have few := wf.few
  have fit : ∀ x ∈ l, HF.Fits f x.1 := fun x hx => wf.fit x.1 (by rw [← el]; exact List.mem_map.mpr ⟨x, hx, rfl⟩)
  refine q_seq ?_
  refine gl_lcL (j := 3) l (fun x => V.ref x.2) (fun x => ptsI f x.1) pl (val_var rfl) (SqL.of hb) (by omega) (fun x hx H' s' pl' => ?_) _ fun Dl rs H' hD s' pl' h1 ls => ?_
  · have F2 := F.same s'
    have F2' := F2
    obtain ⟨g, dw, w, f1, f2⟩ := F2'
    have D2 := (hd x hx).same s'
    have D2' := D2
    obtain ⟨dd, d1⟩ := D2'
    intro Q' q'
    refine val_var (i := 1) (v := V.ref a) rfl _ ⟨a, dw, _, rfl, f1, no_F, ?_⟩
    refine nw_meth (val_var rfl) d1 no_D (va_cons (val_var rfl) va_nil) (fun Q q => ⟨pl', x.2, a, f, x.1, rfl, D2, F2, fit x hx, q⟩) _ fun r hr => ?_
    have hlt : ∀ c ∈ HF.dcells f x.1, c < Vbsyae.cells f := fun c hc => ((HF.mem_dcells (fit x hx)).mp hc).1
    have h64 := HF.cells_le g
    refine ⟨pl'.upd rfl, a, r, f, HF.dcells f x.1, rfl, F2.same (same_new hr), SqL.of upd_same, hlt, Nat.le_trans (HF.rising_len (HF.rising_dcells (fit x hx)) hlt) h64, fun u hu => ?_⟩
    have e : nts (plcs f (HF.dcells f x.1)) = (ptsI f x.1).map V.int := nts_eq _
    rw [e]
    have huH : H' u = none := (same_new hr).free hu
    exact q' u _ huH (same_upd (same_new hr) huH) ((pl'.upd rfl).upd rfl) upd_same
  · have hpD : Dl ≠ p := fun z => by rw [z, hp] at hD; cases hD
    refine val_var (i := 0) (v := V.ref p) rfl _ ⟨p, A.cMoves, dx, [], rfl, s' _ _ hp, T.c_Moves, T.n_Moves_spots, by show 0 < 1000; decide, ?_⟩
    generalize hH2 : upd H' p (.ins A.cMoves dx (putF "spots" (V.ref Dl) [])) = H2
    have pl2 : Pl H2 := by rw [← hH2]; exact pl'.upd rfl
    have hp2 : H2 p = some (.ins A.cMoves dx (putF "spots" (V.ref Dl) [])) := by rw [← hH2]; exact upd_same
    have hD2 : H2 Dl = some (.lst rs) := by rw [← hH2, upd_ne hpD]; exact h1
    have k2 : ∀ b o, H' b = some o → b ≠ p → H2 b = some o := fun b o e hb => by rw [← hH2, upd_ne hb]; exact e
    have ls2 : Lsts (fun t => H t = none ∧ t ≠ Dl) H2 (l.map fun x => ptsI f x.1) rs := ls.but k2 fun t n => fun z => by rw [z, hp] at n; exact nomatch n.1
    have hlr : rs.length = l.length := by rw [ls2.len, List.length_map]
    -- self.sizes = [len(row) for row in self.spots]
    refine st_fldN (nw_lcL (j := 4) (List.range l.length) (fun i => rs.getD i .non) (fun _ => true) (fun i => V.int ((HF.spot f i).length : Int)) pl2 (val_fld (val_var rfl) hp2 T.c_Moves T.n_Moves_spots (v := V.ref Dl) (lk_at (ks := ["spots"]) 0 rfl (by decide +kernel) rfl)) ?_ (by rw [List.length_range]; omega) (fun i hi H3 s3 pl3 => an_yes) (fun i hi _ H3 s3 pl3 => ?_)) rfl hp2 T.c_Moves T.n_Moves_sizes lp1 fun r hr => ?_
    · refine SqL.of ?_
      rw [hD2]
      have e : rs = (List.range l.length).map fun i => rs.getD i .non := by
        apply List.ext_getElem?
        intro i
        rw [List.getElem?_map]
        by_cases h : i < l.length
        · rw [List.getElem?_range h, Option.map_some, List.getD_eq_getElem?_getD, List.getElem?_eq_getElem (show i < rs.length by omega)]
          rfl
        · rw [List.getElem?_eq_none (by omega), List.getElem?_eq_none (by rw [List.length_range]; omega)]
          rfl
      exact congrArg _ (congrArg _ e)
    · have hi' : i < l.length := List.mem_range.mp hi
      have e0 := List.getElem?_eq_getElem hi'
      obtain ⟨t, e1, _, e2⟩ := ls2.at_ (i := i) (ns := ptsI f l[i].1) (by rw [List.getElem?_map, e0]; rfl)
      have e3 : f.days[i]? = some l[i].1 := by rw [← el, List.getElem?_map, e0]; rfl
      have e4 : rs.getD i .non = .ref t := by rw [List.getD_eq_getElem?_getD, e1]; rfl
      rw [e4]
      refine val_is (val_len (val_var rfl) (SqL.of (s3 _ _ e2))) ?_
      rw [pts_spot e3, len_nts]
    · rw [filt_true]
      have hrH' : H' r = none := by
        have : r ≠ p := fun z => by rw [z, hp2] at hr; cases hr
        rwa [← hH2, upd_ne this] at hr
      have hrp : r ≠ p := fun z => by rw [z, hp2] at hr; cases hr
      rw [put2 (by decide +kernel)]
      refine q _ (fun b o e hb => ?_) ((pl2.upd rfl).upd rfl) ⟨wf, dx, Dl, r, rs, upd_same, ?_, ?_, ?_⟩
      · have e' := s' b o e
        rw [upd_ne hb, upd_ne (ne_of_none e' hrH')]
        exact k2 b o e' hb
      · rw [upd_ne hpD, upd_ne (ne_of_none hD2 hr)]
        exact hD2
      · have e : (l.map fun x => ptsI f x.1) = f.days.map (ptsI f) := by rw [← el, List.map_map]; rfl
        rw [← e]
        refine Lsts.weak (N := fun t => t ≠ p) (fun _ _ => trivial) ?_
        have l3 := (ls2.weak (N' := fun t => t ≠ p) fun t n => fun z => by rw [z, hp] at n; exact nomatch n.1).same (same_new (o := .lst ((List.range l.length).map fun i => V.int ((HF.spot f i).length : Int))) hr)
        exact l3.but (l := p) (fun b o e hb => by rw [upd_ne hb]; exact e) fun t n => n
      · rw [upd_ne hrp, upd_same]
        unfold sizesL nts
        rw [List.map_map, hlen]
        rfl
theorem ok_Moves_init {P : Program} {w : World} {K : PySem.W.Frag} {mg : Str → Option Value} {base : Heap} {A : Ad} (T : Txt K mg A) : COk P w K mg base "Moves" A.cMoves 5 ["self", "field", "days"] (sp_Moves_init K A) := by
  obtain ⟨fn, fd, hm, F⟩ := T.f_Moves_init
  refine ⟨fn, fd, hm, F.ok sc_Moves_init (fun vs H Q E h => ?_) (fun cdv A' outer s H vs Q E hr h => ⟨t_Moves_init K A, ?_, pure_Moves_init T h⟩), F.binds fun _ _ _ _ _ _ us hl => match us, hl with | [_, _, _], _ => rfl⟩
  · obtain ⟨_, _, _, _, _, rfl, _⟩ := h
    rfl
  · exact (pss_cons (ps_fld (pv 0) (pe_lc (own := [("day", 3)]) (g := (gName 3)) (tt := tYes) rfl sc_Moves_init.nd (pi_list (pv 2)) (blkOk_by (N := N_Moves_init) (sc := defScope s_Moves_init) (by decide +kernel)) (fun _ _ _ _ _ => (pg_name (i := 3) sc_Moves_init.nd rfl (Or.inl rfl))) (fun _ _ _ _ _ => pts_nil) (fun _ _ _ _ _ => (pe_methM (pv 1) T.c_Field (ok_Field_places T) (hr.mono (by decide)) (pa_cons (pe_methM (pv 3) T.c_Day (ok_Day_cells_in T) (hr.mono (by decide)) (pa_cons (pv 1) pa_nil)) pa_nil)))) rfl) (pss_one (ps_fld (pv 0) (pe_lc (own := [("row", 4)]) (g := (gName 4)) (tt := tYes) rfl sc_Moves_init.nd (pi_list (pe_fld (pv 0) rfl)) (blkOk_by (N := N_Moves_init) (sc := defScope s_Moves_init) (by decide +kernel)) (fun _ _ _ _ _ => (pg_name (i := 4) sc_Moves_init.nd rfl (Or.inl rfl))) (fun _ _ _ _ _ => pts_nil) (fun _ _ _ _ _ => (pe_callB call_len_seq rfl T.b_len PySem.boot_len (pa_cons (pv 4) pa_nil)))) rfl)))
def sp0_Moves_staying (K : PySem.W.Frag) (A : Ad) : Sp := fun vs H Q _ => ∃ (a : Addr) (f : Vbsyae.Field) (m n : Nat), vs = [.ref a, .int (m : Int), .int (n : Int)] ∧ MovesAt A H a f ∧ m < f.days.length ∧ n < f.days.length ∧ Q (.int (HF.stay f m n : Int)) H
abbrev sp_Moves_staying (K : PySem.W.Frag) (A : Ad) : Sp := Plain (sp0_Moves_staying K A)
def t_Moves_staying (K : PySem.W.Frag) (A : Ad) : TS := (tRet (tCB (cLen K) (tCons (tLc (iList K (tOp (rIxL K) (tFld K (tVar 0) "spots") (tVar 2))) (gName 3) (tTest (tOp (rIn K false) (tVar 3) (tOp (rIxL K) (tFld K (tVar 0) "spots") (tVar 1)))) (tVar 3) [3]) tNil)))
theorem pure_Moves_staying {K : PySem.W.Frag} {mg : Str → Option Value} {A : Ad} (T : Txt K mg A) {vs : List V} {H : Hp} {Q : VK} {E : XK} (pl : Pl H) (h : sp0_Moves_staying K A vs H Q E) : t_Moves_staying K A { nx := fun _ H' => Fg H Q .non H', rt := Fg H Q } (start N_Moves_staying vs) H := by
  obtain ⟨a, f, m, n, rfl, ⟨wf, dx, p, r, rs, h1, h2, h3, h4⟩, hm, hn, q⟩ := h
  obtain ⟨tb, vb, eb⟩ := v_spot (ta := tVar 0) (tb := tVar 2) (σ := start N_Moves_staying [.ref a, .int (m : Int), .int (n : Int)]) T h1 h2 h3 (val_var rfl) (val_var rfl) hn
  have hz := HF.spot_len wf n
  refine use_len (xs := ((HF.spot f n).filter fun x => (HF.spot f m).contains x).map fun (c : Nat) => V.int (c : Int)) (nw_lcL (HF.spot f n) (fun (c : Nat) => V.int (c : Int)) (fun x => (HF.spot f m).contains x) (fun (c : Nat) => V.int (c : Int)) pl vb (SqL.of eb) (by omega) (fun c hc H2 s2 pl2 => ?_) fun c hc _ H2 s2 pl2 => val_var rfl) fun u hu => ?_
  · obtain ⟨ta, va, ea⟩ := v_spot (ta := tVar 0) (tb := tVar 1) (σ := (wipe (start N_Moves_staying [.ref a, .int (m : Int), .int (n : Int)]) [3]).set 3 (some (.int (c : Int)))) T (s2 _ _ h1) (s2 _ _ h2) (h3.same s2) (val_var rfl) (val_var rfl) hm
    exact an_test (val_is (val_in (x := .int (c : Int)) (val_var rfl) va (SqL.of ea) rfl (flat_nts _)) (by rw [inV_nts]))
  · rw [List.length_map]
    exact Fg.same (same_new hu) q
theorem ok_Moves_staying {P : Program} {w : World} {K : PySem.W.Frag} {mg : Str → Option Value} {base : Heap} {A : Ad} (T : Txt K mg A) : MOk P w K mg base CX0 A.cMoves "staying" 1 ["self", "a", "b"] (sp_Moves_staying K A) := by
  obtain ⟨fn, fd, hm, F⟩ := T.f_Moves_staying
  refine ⟨fn, fd, hm, fun_okG F sc_Moves_staying (fun vs H Q E h => ?_) (fun cdv A' outer s H vs Q E hr pl h => ⟨t_Moves_staying K A, ?_, pure_Moves_staying T pl h⟩), F.binds fun _ _ _ _ _ _ us hl => match us, hl with | [_, _, _], _ => rfl⟩
  · obtain ⟨_, _, _, _, rfl, _⟩ := h
    rfl
  · exact (pss_one (ps_ret (pe_callB call_len_seq rfl T.b_len PySem.boot_len (pa_cons (pe_lc (own := [("place", 3)]) (g := (gName 3)) (tt := (tTest (tOp (rIn K false) (tVar 3) (tOp (rIxL K) (tFld K (tVar 0) "spots") (tVar 1))))) rfl sc_Moves_staying.nd (pi_list (pe_ix ix_list (pe_fld (pv 0) rfl) (pv 2) (fun _ _ => rfl))) (blkOk_by (N := N_Moves_staying) (sc := defScope s_Moves_staying) (by decide +kernel)) (fun _ _ _ _ _ => (pg_name (i := 3) sc_Moves_staying.nd rfl (Or.inl rfl))) (fun _ _ _ _ _ => (pts_one (pt_cmpR op_in_seq (pv 3) (pe_ix ix_list (pe_fld (pv 0) rfl) (pv 1) (fun _ _ => rfl)) (by rfl)))) (fun _ _ _ _ _ => (pv 3))) pa_nil))))
def sp0_Moves_carried (K : PySem.W.Frag) (A : Ad) : Sp := fun vs H Q _ => ∃ (a : Addr) (f : Vbsyae.Field) (m n : Nat), vs = [.ref a, .int (m : Int), .int (n : Int)] ∧ MovesAt A H a f ∧ m < f.days.length ∧ n < f.days.length ∧ Q (.int (Vbsyae.carry f m n : Int)) H
abbrev sp_Moves_carried (K : PySem.W.Frag) (A : Ad) : Sp := Plain (sp0_Moves_carried K A)
def t_Moves_carried (K : PySem.W.Frag) (A : Ad) : TS := (tRet (tOp rSubI (tOp (rIxL K) (tFld K (tVar 0) "sizes") (tVar 2)) (tMeth A.cMoves "staying" (sp_Moves_staying K A) [] E0 (tVar 0) (tCons (tVar 1) (tCons (tVar 2) tNil)))))
theorem pure_Moves_carried {K : PySem.W.Frag} {mg : Str → Option Value} {A : Ad} (T : Txt K mg A) {vs : List V} {H : Hp} {Q : VK} {E : XK} (pl : Pl H) (h : sp0_Moves_carried K A vs H Q E) : t_Moves_carried K A { nx := fun _ H' => Fg H Q .non H', rt := Fg H Q } (start N_Moves_carried vs) H := by
  obtain ⟨a, f, m, n, rfl, M, hm, hn, q⟩ := h
  have M' := M
  obtain ⟨wf, dx, p, r, rs, h1, h2, h3, h4⟩ := M'
  have e := HF.carry_eq wf hm hn
  refine s_ret (val_is (val_sub (v_size T h1 h4 (val_var rfl) (val_var rfl) hn) (val_meth (val_var rfl) h1 no_M (va_cons (val_var rfl) (va_cons (val_var rfl) va_nil)) fun Q q => ⟨pl, a, f, m, n, rfl, M, hm, hn, q⟩)) ?_) (Fg.same (Same.refl H) q)
  congr 1
  omega
theorem ok_Moves_carried {P : Program} {w : World} {K : PySem.W.Frag} {mg : Str → Option Value} {base : Heap} {A : Ad} (T : Txt K mg A) : MOk P w K mg base CX0 A.cMoves "carried" 2 ["self", "a", "b"] (sp_Moves_carried K A) := by
  obtain ⟨fn, fd, hm, F⟩ := T.f_Moves_carried
  refine ⟨fn, fd, hm, fun_okG F sc_Moves_carried (fun vs H Q E h => ?_) (fun cdv A' outer s H vs Q E hr pl h => ⟨t_Moves_carried K A, ?_, pure_Moves_carried T pl h⟩), F.binds fun _ _ _ _ _ _ us hl => match us, hl with | [_, _, _], _ => rfl⟩
  · obtain ⟨_, _, _, _, rfl, _⟩ := h
    rfl
  · exact (pss_one (ps_ret (pe_op op_sub (pe_ix ix_list (pe_fld (pv 0) rfl) (pv 2) (fun _ _ => rfl)) (pe_methM (pv 0) T.c_Moves (ok_Moves_staying T) (hr.mono (by decide)) (pa_cons (pv 1) (pa_cons (pv 2) pa_nil))))))
theorem and_one : ∀ v, v < 256 → Builtin.bitAnd ((v : Nat) : Int) 1 = ((v % 2 : Nat) : Int) := by decide +kernel
/-- chosen >> day & 1 -/
theorem v_bit {σ : L2.St} {H : Hp} {ta tb : TE} {x d : Nat} (h : Val ta σ H (.int (x : Int))) (h2 : Val tb σ H (.int (d : Int))) (hx : x < 128) : Val (tOp rAndI (tOp rShrI ta tb) (tC (.int 1))) σ H (.int ((x / 2 ^ d % 2 : Nat) : Int)) := by
  refine val_op (val_op h h2 fun Q q => ⟨_, _, rfl, rfl, (by omega : (0 : Int) ≤ (d : Int)), q⟩) val_c fun Q q => ⟨_, _, rfl, rfl, ?_⟩
  have e : ((x : Int) / 2 ^ (d : Int).toNat) = ((x / 2 ^ d : Nat) : Int) := by
    rw [Int.toNat_natCast]
    push_cast
    rfl
  have hle : x / 2 ^ d ≤ x := Nat.div_le_self _ _
  show Q (.int (Builtin.bitAnd ((x : Int) / 2 ^ (d : Int).toNat) 1)) H
  rw [e, and_one _ (by omega)]
  exact q
theorem v_shl {σ : L2.St} {H : Hp} {tb : TE} {d : Nat} (h2 : Val tb σ H (.int (d : Int))) (hd : d < 100) : Val (tOp rShlI (tC (.int 1)) tb) σ H (.int ((2 ^ d : Nat) : Int)) := by
  refine val_op val_c h2 fun Q q => ⟨_, _, rfl, rfl, ⟨by omega, by omega, by decide⟩, ?_⟩
  show Q (.int (1 * 2 ^ (d : Int).toNat)) H
  rw [Int.toNat_natCast, Int.one_mul]
  have : ((2 ^ d : Nat) : Int) = (2 : Int) ^ d := by push_cast; rfl
  rw [← this]
  exact q
theorem bit_dec {x d : Nat} : decide (((x / 2 ^ d % 2 : Nat) : Int) = 1) = Vbsyae.bit x d := by
  unfold Vbsyae.bit
  by_cases h : x / 2 ^ d % 2 = 1
  · rw [h]; rfl
  · have h2 : ¬ ((x / 2 ^ d % 2 : Nat) : Int) = 1 := by omega
    simp only [h2, decide_false]
    symm
    simpa using h
theorem bit_dec0 {x d : Nat} : decide (((x / 2 ^ d % 2 : Nat) : Int) = 0) = !Vbsyae.bit x d := by
  rw [← bit_dec]
  have := Nat.mod_two_eq_zero_or_one (x / 2 ^ d)
  rcases this with h | h <;> rw [h] <;> rfl
def sp0_members (K : PySem.W.Frag) (A : Ad) : Sp := fun vs H Q _ => ∃ (x : Nat), vs = [.int (x : Int)] ∧ x < 128 ∧ ∀ p, H p = none → Q (.ref p) (upd H p (.lst (nts (HF.mems x))))
abbrev sp_members (K : PySem.W.Frag) (A : Ad) : Sp := Plain (sp0_members K A)
def t_members (K : PySem.W.Frag) (A : Ad) : TS := (tRet (tLc (iRng1 (tCons (tC (.int 20)) tNil)) (gName 1) (tTest (tOp rEq (tOp rAndI (tOp rShrI (tVar 0) (tVar 1)) (tC (.int 1))) (tC (.int 1)))) (tVar 1) [1]))
theorem pure_members {K : PySem.W.Frag} {mg : Str → Option Value} {A : Ad} (T : Txt K mg A) {vs : List V} {H : Hp} {Q : VK} {E : XK} (pl : Pl H) (h : sp0_members K A vs H Q E) : t_members K A { nx := fun _ H' => Fg H Q .non H', rt := Fg H Q } (start N_members vs) H := by
  obtain ⟨x, rfl, hx, q⟩ := h
  refine s_retN (xs := nts (HF.mems x)) (nw_is (nw_lcR1 20 (fun d => Vbsyae.bit x d) (fun d => V.int (d : Int)) pl (va_cons val_c va_nil) rfl (by decide) (fun d hd H2 s2 pl2 => ?_) fun d hd _ H2 s2 pl2 => val_var rfl) rfl) fun p hp => Fg.lst (same_new hp) hp upd_same (q p hp)
  exact an_test (val_is (val_eqI (v_bit (val_var rfl) (val_var rfl) hx) val_c) (by rw [bit_dec]))
theorem ok_members {P : Program} {w : World} {K : PySem.W.Frag} {mg : Str → Option Value} {base : Heap} {A : Ad} (T : Txt K mg A) : FOk P w K mg base CX0 "members" 1 ["chosen"] (sp_members K A) := by
  obtain ⟨fn, fd, hm, F⟩ := T.f_members
  refine ⟨fn, fd, hm, fun_okG F sc_members (fun vs H Q E h => ?_) (fun cdv A' outer s H vs Q E hr pl h => ⟨t_members K A, ?_, pure_members T pl h⟩), F.binds fun _ _ _ _ _ _ us hl => match us, hl with | [_], _ => rfl⟩
  · obtain ⟨_, rfl, _⟩ := h
    rfl
  · exact (pss_one (ps_ret (pe_lc (own := [("day", 1)]) (g := (gName 1)) (tt := (tTest (tOp rEq (tOp rAndI (tOp rShrI (tVar 0) (tVar 1)) (tC (.int 1))) (tC (.int 1))))) rfl sc_members.nd (pi_range1 rfl T.b_range (pa_cons pe_int pa_nil)) (blkOk_by (N := N_members) (sc := defScope s_members) (by decide +kernel)) (fun _ _ _ _ _ => (pg_name (i := 1) sc_members.nd rfl (Or.inl rfl))) (fun _ _ _ _ _ => (pts_one (pt_cmpR op_eq (pe_op op_and (pe_op op_shr (pv 0) (pv 1)) pe_int) pe_int (nomark _)))) (fun _ _ _ _ _ => (pv 1)))))
end HW

namespace HW
open PySem PySem.Spec PyProof.Rows L2
def sp0_Moves_carried_in (K : PySem.W.Frag) (A : Ad) : Sp := fun vs H Q _ => ∃ (a b : Addr) (f : Vbsyae.Field) (l : List Nat), vs = [.ref a, .ref b] ∧ MovesAt A H a f ∧ SqL K H b (nts l) ∧ (∀ d ∈ l, d < f.days.length) ∧ Q (.int (HF.cin f l : Int)) H
abbrev sp_Moves_carried_in (K : PySem.W.Frag) (A : Ad) : Sp := Plain (sp0_Moves_carried_in K A)
def t_Moves_carried_in (K : PySem.W.Frag) (A : Ad) : TS := (tSeq (tAsg (tC (.int 0)) (gName 2)) (tSeq (tFor (iEnum K (tCons (tVar 1) tNil)) (gTup K 2 (gCons (gName 3) (gCons (gName 4) gNil))) (tIfS (tTest (tOp rEq (tVar 3) (tC (.int 0)))) (tAsg (tOp rAddI (tVar 2) (tOp (rIxL K) (tFld K (tVar 0) "sizes") (tVar 4))) (gName 2)) (tAsg (tOp rAddI (tVar 2) (tMeth A.cMoves "carried" (sp_Moves_carried K A) [] E0 (tVar 0) (tCons (tOp (rIxL K) (tVar 1) (tOp rSubI (tVar 3) (tC (.int 1)))) (tCons (tVar 4) tNil)))) (gName 2)))) (tRet (tVar 2))))
theorem pure_Moves_carried_in {K : PySem.W.Frag} {mg : Str → Option Value} {A : Ad} (T : Txt K mg A) {vs : List V} {H : Hp} {Q : VK} {E : XK} (pl : Pl H) (h : sp0_Moves_carried_in K A vs H Q E) : t_Moves_carried_in K A { nx := fun _ H' => Fg H Q .non H', rt := Fg H Q } (start N_Moves_carried_in vs) H := by
  obtain ⟨a, b, f, l, rfl, M, hl, hd, q⟩ := h
  have wf := M.wf
  refine q_set val_c ?_
  refine q_forE (xs := nts l) (val_var rfl) hl (fun i σ' H' => ∃ v3 v4, σ' = [some (.ref a), some (.ref b), some (.int (HF.cin f (l.take i) : Int)), v3, v4] ∧ Same H H' ∧ Pl H' ∧ i ≤ l.length) ?_ ?_ ?_ ?_
  · exact ⟨none, none, rfl, Same.refl H, pl, Nat.zero_le _⟩
  · rintro i σ' H' ⟨v3, v4, rfl, s1, pl1, hi⟩
    exact ⟨s1.seq hl, by rw [len_nts]; exact hi⟩
  · rintro i x σ' H' t hx ⟨v3, v4, rfl, s1, pl1, hi⟩ ht
    obtain ⟨d, hdx, rfl⟩ : ∃ d, l[i]? = some d ∧ x = V.int (d : Int) := by
      unfold nts at hx
      rw [List.getElem?_map] at hx
      cases e : l[i]? with
      | none => rw [e] at hx; cases hx
      | some c =>
        rw [e] at hx
        exact ⟨c, rfl, (Option.some.inj hx).symm⟩
    have hil : i < l.length := (List.getElem?_eq_some_iff.mp hdx).1
    have hdn := hd d (List.mem_of_getElem? hdx)
    have s2 : Same H (upd H' t (.tup [.int (i : Nat), .int (d : Int)])) := same_upd s1 (s1.free ht)
    have pl2 : Pl (upd H' t (.tup [.int (i : Nat), .int (d : Int)])) := pl1.upd rfl
    have M2 := M.same s2
    have M2' := M2
    obtain ⟨_, dx, p, r, rs, h1, h2, h3, h4⟩ := M2'
    have et : l.take (i + 1) = l.take i ++ [d] := by
      rw [List.take_add_one, hdx]
      rfl
    refine s_if (b := decide (i = 0)) (an_test (val_is (val_eqI (val_var rfl) val_c) (by congr 1; simp))) (fun hb => ?_) fun hb => ?_
    · have hi0 : i = 0 := of_decide_eq_true hb
      subst hi0
      refine s_set (val_add (val_var rfl) (v_size T h1 h4 (val_var rfl) (val_var rfl) hdn)) ?_
      refine ⟨some (.int ((0 : Nat) : Int)), some (.int (d : Int)), ?_, s2, pl2, hil⟩
      have e : HF.cin f (l.take (0 + 1)) = (HF.spot f d).length := by
        rw [et]
        show (Vbsyae.places f d).length + 0 = _
        rw [HF.size_eq wf hdn]
        omega
      rw [e]
      show _ = _
      have e2 : (HF.cin f (l.take 0) : Int) + ((HF.spot f d).length : Int) = ((HF.spot f d).length : Int) := by
        show ((0 : Nat) : Int) + _ = _
        omega
      rw [e2]
      rfl
    · have hi0 : i ≠ 0 := of_decide_eq_false hb
      have hi1 : i - 1 < l.length := by omega
      have ec := List.getElem?_eq_getElem hi1
      have hcn := hd _ (List.getElem_mem hi1)
      have hix : atI (nts l) ((i : Int) - 1) = some (.int ((l[i - 1] : Nat) : Int)) := by
        rw [show (i : Int) - 1 = ((i - 1 : Nat) : Int) by omega]
        refine atI_nat ?_
        unfold nts
        rw [List.getElem?_map, ec]
        rfl
      refine s_set (val_add (val_var rfl) (val_meth (val_var rfl) h1 no_M (va_cons (val_ixL (val_var rfl) (val_sub (val_var rfl) val_c) (s2.seq hl) hix) (va_cons (val_var rfl) va_nil)) fun Q q => ⟨pl2, a, f, l[i - 1], d, rfl, M2, hcn, hdn, q⟩)) ?_
      refine ⟨some (.int (i : Int)), some (.int (d : Int)), ?_, s2, pl2, hil⟩
      have e1 : l.take i = l.take (i - 1) ++ [l[i - 1]] := by
        have := List.take_add_one (l := l) (i := i - 1)
        rw [show i - 1 + 1 = i by omega, ec] at this
        exact this
      have e : HF.cin f (l.take (i + 1)) = HF.cin f (l.take i) + Vbsyae.carry f l[i - 1] d := by
        rw [et, e1, List.append_assoc]
        exact HF.cin_snoc f _ _ _
      rw [e]
      push_cast
      rfl
  · rintro σ' H' ⟨v3, v4, rfl, s1, pl1, hi⟩
    rw [len_nts, List.take_length]
    exact s_ret (val_var rfl) (Fg.same s1 q)
theorem ok_Moves_carried_in {P : Program} {w : World} {K : PySem.W.Frag} {mg : Str → Option Value} {base : Heap} {A : Ad} (T : Txt K mg A) : MOk P w K mg base CX0 A.cMoves "carried_in" 3 ["self", "order"] (sp_Moves_carried_in K A) := by
  obtain ⟨fn, fd, hm, F⟩ := T.f_Moves_carried_in
  refine ⟨fn, fd, hm, fun_okG F sc_Moves_carried_in (fun vs H Q E h => ?_) (fun cdv A' outer s H vs Q E hr pl h => ⟨t_Moves_carried_in K A, ?_, pure_Moves_carried_in T pl h⟩), F.binds fun _ _ _ _ _ _ us hl => match us, hl with | [_, _], _ => rfl⟩
  · obtain ⟨_, _, _, _, rfl, _⟩ := h
    rfl
  · exact (pss_cons (ps_set (i := 2) sc_Moves_carried_in.nd rfl (Or.inl rfl) pe_int) (pss_cons (ps_for PassesOwn.never rfl (pi_enum (by rfl) T.b_enumerate (pa_cons (pv 1) pa_nil)) (pg_tup rfl (pgs_cons (pg_name (i := 3) sc_Moves_carried_in.nd rfl (Or.inl rfl)) (pgs_cons (pg_name (i := 4) sc_Moves_carried_in.nd rfl (Or.inl rfl)) pgs_nil))) (pss_one (ps_if (pt_cmpR op_eq (pv 3) pe_int (nomark _)) (pss_one (ps_set (i := 2) sc_Moves_carried_in.nd rfl (Or.inl rfl) (pe_op op_add (pv 2) (pe_ix ix_list (pe_fld (pv 0) rfl) (pv 4) (fun _ _ => rfl))))) (pss_one (ps_set (i := 2) sc_Moves_carried_in.nd rfl (Or.inl rfl) (pe_op op_add (pv 2) (pe_methM (pv 0) T.c_Moves (ok_Moves_carried T) (hr.mono (by decide)) (pa_cons (pe_ix ix_list (pv 1) (pe_op op_sub (pv 3) pe_int) (fun _ _ => rfl)) (pa_cons (pv 4) pa_nil))))))))) (pss_one (ps_ret (pv 2)))))
theorem s_retCB1 {σ : L2.St} {H : Hp} {te : TE} {D : Ends} {r : List V → Hp → VK → Prop} (h : te σ H (fun x H1 => r [x] H1 D.rt)) : tRet (tCB r (tCons te tNil)) D σ H := h
theorem row_at {f : Vbsyae.Field} {x d : Nat} (hd : d < f.days.length) : atI ((HF.rowI f x).map V.int) (d : Int) = some (.int (Vbsyae.numOr (HF.TT f x d))) := by
  refine atI_nat ?_
  unfold HF.rowI
  rw [List.getElem?_map, List.getElem?_map, List.getElem?_range hd]
  rfl
/-- table[x][d] -/
theorem v_tab {σ : L2.St} {H : Hp} {ta tb tc : TE} {K : PySem.W.Frag} {N : Addr → Prop} {b : Addr} {rs : List V} {ls : List (List Int)} {f : Vbsyae.Field} {x d : Nat} (h : Val ta σ H (.ref b)) (h2 : Val tb σ H (.int (x : Int))) (h3 : Val tc σ H (.int (d : Int))) (hb : H b = some (.lst rs)) (hl : Lsts N H ls rs) (hx : ls[x]? = some (HF.rowI f x)) (hd : d < f.days.length) :
    Val (tOp (rIxL K) (tOp (rIxL K) ta tb) tc) σ H (.int (Vbsyae.numOr (HF.TT f x d))) := by
  obtain ⟨t, e1, _, e2⟩ := hl.at_ hx
  exact val_ixL (val_ixL h h2 (SqL.of hb) (atI_nat e1)) h3 (SqL.of e2) (row_at hd)
theorem q_when {tt : TT} {t1 t3 : TS} {D : Ends} {σ : L2.St} {H : Hp} {b : Bool} (h : Ans tt σ H b) (k1 : b = true → t1 { D with nx := t3 D } σ H) (k2 : b = false → t3 D σ H) : tSeq (tIfS tt t1 tNext) t3 D σ H :=
  q_if h k1 fun e => k2 e
def sp0_Moves_least_of (K : PySem.W.Frag) (A : Ad) : Sp := fun vs H Q _ => ∃ (a b : Addr) (f : Vbsyae.Field) (rs : List V) (ls : List (List Int)) (x d : Nat), vs = [.ref a, .ref b, .int (x : Int), .int (d : Int)] ∧ MovesAt A H a f ∧ f.days.length ≤ 7 ∧ H b = some (.lst rs) ∧ Lsts (fun _ => True) H ls rs ∧ (∀ y, y < x → ls[y]? = some (HF.rowI f y)) ∧ x < 2 ^ f.days.length ∧ d < f.days.length ∧ Q (.int (Vbsyae.numOr (HF.TT f x d))) H
abbrev sp_Moves_least_of (K : PySem.W.Frag) (A : Ad) : Sp := Plain (sp0_Moves_least_of K A)
def t_Moves_least_of (K : PySem.W.Frag) (A : Ad) : TS := (tSeq (tIfS (tTest (tOp rEq (tOp rAndI (tOp rShrI (tVar 2) (tVar 3)) (tC (.int 1))) (tC (.int 0)))) (tRet (tC (.int (-1)))) tNext) (tSeq (tAsg (tOp rSubI (tVar 2) (tOp rShlI (tC (.int 1)) (tVar 3))) (gName 4)) (tSeq (tIfS (tTest (tOp rEq (tVar 4) (tC (.int 0)))) (tRet (tOp (rIxL K) (tFld K (tVar 0) "sizes") (tVar 3))) tNext) (tRet (tCB (rMin K) (tCons (tLc (iList K (tCall (sp_members K A) [] E0 (tCons (tVar 4) tNil))) (gName 5) tYes (tOp rAddI (tOp (rIxL K) (tOp (rIxL K) (tVar 1) (tVar 4)) (tVar 5)) (tMeth A.cMoves "carried" (sp_Moves_carried K A) [] E0 (tVar 0) (tCons (tVar 5) (tCons (tVar 3) tNil)))) [5]) tNil))))))
theorem pure_Moves_least_of {K : PySem.W.Frag} {mg : Str → Option Value} {A : Ad} (T : Txt K mg A) {vs : List V} {H : Hp} {Q : VK} {E : XK} (pl : Pl H) (h : sp0_Moves_least_of K A vs H Q E) : t_Moves_least_of K A { nx := fun _ H' => Fg H Q .non H', rt := Fg H Q } (start N_Moves_least_of vs) H := by
  obtain ⟨a, b, f, rs, ls, x, d, rfl, M, hn, hb, hls, hrow, hx, hd, q⟩ := h
  have wf := M.wf
  have hp := HF.pow_le hn
  have M' := M
  obtain ⟨_, dx, p, r, rs0, h1, h2, h3, h4⟩ := M'
  refine q_if (an_test (val_is (val_eqI (v_bit (val_var rfl) (val_var rfl) (by omega)) val_c) (by rw [bit_dec0]))) (fun hbt => ?_) fun hbt => ?_
  · have hbt : Vbsyae.bit x d = false := by simpa using hbt
    show Fg H Q (.int (-1)) H
    rw [HF.TT_none hn hx hd hbt] at q
    exact Fg.same (Same.refl H) q
  · have hbt : Vbsyae.bit x d = true := by simpa using hbt
    have hle := HF.bit_le x (by omega) d (by omega) hbt
    have hpos := HF.two_pow_pos' d
    refine q_set (val_sub (val_var rfl) (v_shl (val_var rfl) (by omega))) ?_
    rw [show (x : Int) - ((2 ^ d : Nat) : Int) = ((x - 2 ^ d : Nat) : Int) by omega]
    refine q_when (b := decide (x - 2 ^ d = 0)) (an_test (val_is (val_eqI (val_var rfl) val_c) (by congr 1; simp only [Int.natCast_eq_zero]))) (fun h0 => ?_) fun h0 => ?_
    · have h0 : x - 2 ^ d = 0 := of_decide_eq_true h0
      have hx2 : x = 2 ^ d := by omega
      refine s_ret (v_size T h1 h4 (val_var rfl) (val_var rfl) hd) (Fg.same (Same.refl H) ?_)
      subst hx2
      rw [HF.TT_one hn hx hd hbt, HF.size_eq wf hd] at q
      exact q
    · have h0 : x - 2 ^ d ≠ 0 := of_decide_eq_false h0
      have hx2 : x ≠ 2 ^ d := fun z => h0 (by omega)
      obtain ⟨⟨e0, he0, q0⟩, hall⟩ := HF.tv_more hn hx hd hbt hx2
      refine s_retCB1 ?_
      refine nw_lcN (j := 5) (tt := tYes) (HF.mems (x - 2 ^ d)) (fun (e : Nat) => V.int (e : Int)) (fun _ => true) (fun e => V.int ((HF.tv f (x - 2 ^ d) e + Vbsyae.carry f e d : Nat) : Int)) pl ?_ ?_ _ (fun e he H2 s2 pl2 => an_yes) (fun e he _ H2 s2 pl2 => ?_) fun u Dl hu hD => ?_
      · exact nw_call (va_cons (val_var rfl) va_nil) fun Q q => ⟨pl, x - 2 ^ d, rfl, by omega, q⟩
      · have := HF.rising_len (HF.rising_mems (x - 2 ^ d)) (n := 20) fun c hc => (HF.mem_mems hc).1
        omega
      · have hme := HF.mems_lt hn (x := x - 2 ^ d) (by omega) he
        have M2 := M.same s2
        have M2' := M2
        obtain ⟨_, dx', p', r', rs', g1, g2, g3, g4⟩ := M2'
        refine val_is (val_add (v_tab (val_var rfl) (val_var rfl) (val_var rfl) (s2 _ _ hb) (hls.same s2) (hrow _ (by omega)) hme.1) (val_meth (val_var rfl) g1 no_M (va_cons (val_var rfl) (va_cons (val_var rfl) va_nil)) fun Q q => ⟨pl2, a, f, e, d, rfl, M2, hme.1, hd, q⟩)) ?_
        rw [HF.numOr_tv hn (by omega) hme.1 hme.2]
        push_cast
        rfl
      · rw [filt_true]
        have hne : (HF.mems (x - 2 ^ d)) ≠ [] := List.ne_nil_of_mem he0
        refine ⟨Dl, (HF.mems (x - 2 ^ d)).map fun e => ((HF.tv f (x - 2 ^ d) e + Vbsyae.carry f e d : Nat) : Int), rfl, ?_, ?_, fun m hm hle' => ?_⟩
        · rw [List.map_map]
          exact SqL.of upd_same
        · rw [List.length_map]
          exact List.length_pos_iff.mpr hne
        · have em : m = (HF.tv f x d : Int) := by
            obtain ⟨e, he, rfl⟩ := List.mem_map.mp hm
            have h5 := hall e he
            have h6 := hle' _ (List.mem_map.mpr ⟨e0, he0, rfl⟩)
            omega
          subst em
          rw [HF.numOr_tv hn hx hd hbt] at q
          refine Fg.same ?_ q
          exact same_upd (same_new hu) ((same_new hu).free hD)
theorem ok_Moves_least_of {P : Program} {w : World} {K : PySem.W.Frag} {mg : Str → Option Value} {base : Heap} {A : Ad} (T : Txt K mg A) : MOk P w K mg base CX0 A.cMoves "least_of" 3 ["self", "table", "chosen", "day"] (sp_Moves_least_of K A) := by
  obtain ⟨fn, fd, hm, F⟩ := T.f_Moves_least_of
  refine ⟨fn, fd, hm, fun_okG F sc_Moves_least_of (fun vs H Q E h => ?_) (fun cdv A' outer s H vs Q E hr pl h => ⟨t_Moves_least_of K A, ?_, pure_Moves_least_of T pl h⟩), F.binds fun _ _ _ _ _ _ us hl => match us, hl with | [_, _, _, _], _ => rfl⟩
  · obtain ⟨_, _, _, _, _, _, _, rfl, _⟩ := h
    rfl
  · exact (pss_cons (ps_if (pt_cmpR op_eq (pe_op op_and (pe_op op_shr (pv 2) (pv 3)) pe_int) pe_int (nomark _)) (pss_one (ps_ret (pe_gi rfl T.g_NONE))) pss_nil) (pss_cons (ps_set (i := 4) sc_Moves_least_of.nd rfl (Or.inr rfl) (pe_op op_sub (pv 2) (pe_op op_shl pe_int (pv 3)))) (pss_cons (ps_if (pt_cmpR op_eq (pv 4) pe_int (nomark _)) (pss_one (ps_ret (pe_ix ix_list (pe_fld (pv 0) rfl) (pv 3) (fun _ _ => rfl)))) pss_nil) (pss_one (ps_ret (pe_callB (cr_min rfl) rfl T.b_min PyProof.Rows.boot_min (pa_cons (pe_lc (own := [("other", 5)]) (g := (gName 5)) (tt := tYes) rfl sc_Moves_least_of.nd (pi_list (pe_callM (ok_members T) (hr.mono (by decide)) rfl (pa_cons (pv 4) pa_nil))) (blkOk_by (N := N_Moves_least_of) (sc := defScope s_Moves_least_of) (by decide +kernel)) (fun _ _ _ _ _ => (pg_name (i := 5) sc_Moves_least_of.nd rfl (Or.inl rfl))) (fun _ _ _ _ _ => pts_nil) (fun _ _ _ _ _ => (pe_op op_add (pe_ix ix_list (pe_ix ix_list (pv 1) (pv 4) (fun _ _ => rfl)) (pv 5) (fun _ _ => rfl)) (pe_methM (pv 0) T.c_Moves (ok_Moves_carried T) (hr.mono (by decide)) (pa_cons (pv 5) (pa_cons (pv 3) pa_nil)))))) pa_nil)))))))
def sp_Moves_table (K : PySem.W.Frag) (A : Ad) : Sp := fun vs H Q _ => ∃ (a : Addr) (f : Vbsyae.Field), vs = [.ref a] ∧ Pl H ∧ MovesAt A H a f ∧ f.days.length ≤ 7 ∧ ∀ p rs H', H p = none → Same H H' → Pl H' → H' p = some (.lst rs) → Lsts (fun t => t ≠ p) H' ((List.range (2 ^ f.days.length)).map (HF.rowI f)) rs → Q (.ref p) H'
def t_Moves_table (K : PySem.W.Frag) (A : Ad) : TS := (tSeq (tAsg (tLst tNil) (gName 1)) (tSeq (tFor (iRng1 (tCons (tOp rShlI (tC (.int 1)) (tCB (cLen K) (tCons (tFld K (tVar 0) "sizes") tNil))) tNil)) (gName 2) (tDrop (tBM K "list" rAppend (tVar 1) (tCons (tLc (iRng1 (tCons (tCB (cLen K) (tCons (tFld K (tVar 0) "sizes") tNil)) tNil)) (gName 3) tYes (tMeth A.cMoves "least_of" (sp_Moves_least_of K A) [] E0 (tVar 0) (tCons (tVar 1) (tCons (tVar 2) (tCons (tVar 3) tNil)))) [3]) tNil)))) (tRet (tVar 1))))
theorem pure_Moves_table {K : PySem.W.Frag} {mg : Str → Option Value} {A : Ad} (T : Txt K mg A) {vs : List V} {H : Hp} {Q : VK} {E : XK} (h : sp_Moves_table K A vs H Q E) : t_Moves_table K A { nx := fun _ H' => Q .non H', rt := Q } (start N_Moves_table vs) H := by
  obtain ⟨a, f, rfl, pl, M, hn, q⟩ := h
  have hp2 := HF.pow_le hn
  refine q_setN (nw_lst va_nil (Nat.zero_le _)) fun p hp => ?_
  obtain ⟨_, dx, m, r, rs0, h1, h2, h3, h4⟩ := M.same (same_new (o := .lst []) hp)
  have hlen : (nts (sizesL f)).length = f.days.length := by rw [len_nts]; unfold sizesL; rw [List.length_map, List.length_range]
  refine q_forR1 (2 ^ f.days.length) (va_cons (val_is (v_shl (d := f.days.length) (val_is (val_len (v_sizes T h1 (val_var rfl)) (SqL.of h4)) (by rw [hlen])) (by omega)) rfl) va_nil) rfl (by omega) (fun i σ' H' => ∃ v rs, σ' = [some (.ref a), some (.ref p), v, none] ∧ Same H H' ∧ Pl H' ∧ H' p = some (.lst rs) ∧ Lsts (fun t => t ≠ p) H' ((List.range i).map (HF.rowI f)) rs) ?_ ?_ ?_
  · exact ⟨none, [], rfl, same_new hp, pl.upd rfl, upd_same, .nil⟩
  · rintro i σ' H' hi ⟨v, rs, rfl, s1, pl1, hp1, ls⟩
    have M1 := M.same s1
    have M1' := M1
    obtain ⟨_, dx1, m1, r1, rs1, g1, g2, g3, g4⟩ := M1'
    have hcomp : New (tLc (iRng1 (tCons (tCB (cLen K) (tCons (tFld K (tVar 0) "sizes") tNil)) tNil)) (gName 3) tYes (tMeth A.cMoves "least_of" (sp_Moves_least_of K A) [] E0 (tVar 0) (tCons (tVar 1) (tCons (tVar 2) (tCons (tVar 3) tNil)))) [3]) [some (.ref a), some (.ref p), some (.int (i : Int)), none] H' ((HF.rowI f i).map V.int) := by
      refine nw_is (nw_lcR1 f.days.length (fun _ => true) (fun d => V.int (Vbsyae.numOr (HF.TT f i d))) pl1 (va_cons (val_is (val_len (v_sizes T g1 (val_var rfl)) (SqL.of g4)) (by rw [hlen])) va_nil) rfl (by omega) (fun d hd H2 s2 pl2 => an_yes) fun d hd _ H2 s2 pl2 => ?_) ?_
      · have M2 := M1.same s2
        have M2' := M2
        obtain ⟨_, dx2, m2, r2, rs2, k1, k2, k3, k4⟩ := M2'
        refine val_meth (val_var rfl) k1 no_M (va_cons (val_var rfl) (va_cons (val_var rfl) (va_cons (val_var rfl) va_nil))) fun Q q => ⟨pl2, a, p, f, rs, (List.range i).map (HF.rowI f), i, d, rfl, M2, hn, s2 _ _ hp1, (ls.same s2).weak (fun _ _ => trivial), fun y hy => ?_, hi, hd, q⟩
        rw [List.getElem?_map, List.getElem?_range hy]
        rfl
      · rw [filt_true]
        unfold HF.rowI
        rw [List.map_map]
        rfl
    have hlr : rs.length = i := by rw [ls.len, List.length_map, List.length_range]
    refine s_appN hp1 (val_var rfl) hcomp (by omega) fun u hu => ?_
    have hup : u ≠ p := fun z => by rw [z, hp1] at hu; cases hu
    refine ⟨_, rs ++ [.ref u], rfl, ?_, (pl1.upd rfl).upd rfl, upd_same, ?_⟩
    · exact same_upd (same_upd s1 (s1.free hu)) hp
    · rw [List.range_succ, List.map_append]
      refine ((ls.same (same_new (o := .lst ((HF.rowI f i).map V.int)) hu)).but (l := p) (fun b o e hb => by rw [upd_ne hb]; exact e) fun t n => n).app (.cons ⟨u, rfl, hup, ?_⟩ .nil)
      rw [upd_ne hup, upd_same]
  · rintro σ' H' ⟨v, rs, rfl, s1, pl1, hp1, ls⟩
    exact s_ret (val_var rfl) (q p rs H' hp s1 pl1 hp1 ls)
theorem ok_Moves_table {P : Program} {w : World} {K : PySem.W.Frag} {mg : Str → Option Value} {base : Heap} {A : Ad} (T : Txt K mg A) : MOk P w K mg base CX0 A.cMoves "table" 4 ["self"] (sp_Moves_table K A) := by
  obtain ⟨fn, fd, hm, F⟩ := T.f_Moves_table
  refine ⟨fn, fd, hm, F.ok sc_Moves_table (fun vs H Q E h => ?_) (fun cdv A' outer s H vs Q E hr h => ⟨t_Moves_table K A, ?_, pure_Moves_table T h⟩), F.binds fun _ _ _ _ _ _ us hl => match us, hl with | [_], _ => rfl⟩
  · obtain ⟨_, _, rfl, _⟩ := h
    rfl
  · exact (pss_cons (ps_set (i := 1) sc_Moves_table.nd rfl (Or.inr rfl) (pe_lst pa_nil)) (pss_cons (ps_for PassesOwn.never rfl (pi_range1 rfl T.b_range (pa_cons (pe_op op_shl pe_int (pe_callB call_len_seq rfl T.b_len PySem.boot_len (pa_cons (pe_fld (pv 0) rfl) pa_nil))) pa_nil)) (pg_name (i := 2) sc_Moves_table.nd rfl (Or.inr rfl)) (pss_one (ps_expr (pe_bm PySem.F.plainAttrs_list PySem.F.slot_list_append PySem.F.type_list_append mt_append (pv 1) (pa_cons (pe_lc (own := [("day", 3)]) (g := (gName 3)) (tt := tYes) rfl sc_Moves_table.nd (pi_range1 rfl T.b_range (pa_cons (pe_callB call_len_seq rfl T.b_len PySem.boot_len (pa_cons (pe_fld (pv 0) rfl) pa_nil)) pa_nil)) (blkOk_by (N := N_Moves_table) (sc := defScope s_Moves_table) (by decide +kernel)) (fun _ _ _ _ _ => (pg_name (i := 3) sc_Moves_table.nd rfl (Or.inl rfl))) (fun _ _ _ _ _ => pts_nil) (fun _ _ _ _ _ => (pe_methM (pv 0) T.c_Moves (ok_Moves_least_of T) (hr.mono (by decide)) (pa_cons (pv 1) (pa_cons (pv 2) (pa_cons (pv 3) pa_nil)))))) pa_nil))))) (pss_one (ps_ret (pv 1)))))
/-- min(keys)[1] -/
theorem s_retMin1 {σ : L2.St} {H : Hp} {tk : TE} {K : PySem.W.Frag} {D : Ends} {k : Addr} {rs : List V} {ns : List Int} {ls : List (List Int)} {x y : Int} (hk : Val tk σ H (.ref k)) (hq : SqL K H k rs) (tu : Tups H (ns :: ls) rs) (e : HF.minB ns ls = [x, y]) (q : D.rt (.int y) H) :
    tRet (tOp (rIxT K) (tCB (rMinD K) (tCons tk tNil)) (tC (.int 1))) D σ H :=
  hk _ ⟨k, rs, ns, ls, rfl, hq, tu, fun t ht => ⟨t, _, 1, .int y, rfl, rfl, SqT.of ht, by rw [e]; rfl, q⟩⟩
def sp0_Moves_last_of (K : PySem.W.Frag) (A : Ad) : Sp := fun vs H Q _ => ∃ (a b c : Addr) (f : Vbsyae.Field) (rs : List V) (ls : List (List Int)) (x : Nat) (o : List Nat), vs = [.ref a, .ref b, .int (x : Int), .ref c] ∧ MovesAt A H a f ∧ f.days.length ≤ 7 ∧ H b = some (.lst rs) ∧ Lsts (fun _ => True) H ls rs ∧ (∀ y, y < 2 ^ f.days.length → ls[y]? = some (HF.rowI f y)) ∧ x < 2 ^ f.days.length ∧ x ≠ 0 ∧ SqL K H c (nts o) ∧ (∀ d ∈ o, d < f.days.length) ∧ ∀ e, HF.Least (HF.mems x) (fun e => HF.tv f x e + HF.hdC f o e) e → Q (.int (e : Int)) H
abbrev sp_Moves_last_of (K : PySem.W.Frag) (A : Ad) : Sp := Plain (sp0_Moves_last_of K A)
def t_Moves_last_of (K : PySem.W.Frag) (A : Ad) : TS := (tSeq (tAsg (tLst tNil) (gName 4)) (tSeq (tFor (iList K (tCall (sp_members K A) [] E0 (tCons (tVar 2) tNil))) (gName 5) (tSeq (tAsg (tOp (rIxL K) (tOp (rIxL K) (tVar 1) (tVar 2)) (tVar 5)) (gName 6)) (tSeq (tIfS (tTest (tOp rGtI (tCB (cLen K) (tCons (tVar 3) tNil)) (tC (.int 0)))) (tAsg (tOp rAddI (tVar 6) (tMeth A.cMoves "carried" (sp_Moves_carried K A) [] E0 (tVar 0) (tCons (tVar 5) (tCons (tOp (rIxL K) (tVar 3) (tC (.int 0))) tNil)))) (gName 6)) tNext) (tDrop (tBM K "list" rAppend (tVar 4) (tCons (tTup (tCons (tVar 6) (tCons (tVar 5) tNil))) tNil)))))) (tRet (tOp (rIxT K) (tCB (rMinD K) (tCons (tVar 4) tNil)) (tC (.int 1))))))
theorem pure_Moves_last_of {K : PySem.W.Frag} {mg : Str → Option Value} {A : Ad} (T : Txt K mg A) {vs : List V} {H : Hp} {Q : VK} {E : XK} (pl : Pl H) (h : sp0_Moves_last_of K A vs H Q E) : t_Moves_last_of K A { nx := fun _ H' => Fg H Q .non H', rt := Fg H Q } (start N_Moves_last_of vs) H := by
  obtain ⟨a, b, c, f, rs, ls, x, o, rfl, M, hn, hb, hls, hrow, hx, hx0, hc, ho, q⟩ := h
  have wf := M.wf
  have hp2 := HF.pow_le hn
  have hmz := HF.rising_len (HF.rising_mems x) (n := 20) fun c hc => (HF.mem_mems hc).1
  refine q_setN (nw_lst va_nil (Nat.zero_le _)) fun k hk => ?_
  refine q_forN (xs := nts (HF.mems x)) (nw_call (va_cons (val_var rfl) va_nil) fun Q q => ⟨pl.upd rfl, x, rfl, by omega, q⟩)
    (fun p i σ' H' => ∃ v5 v6 qs, σ' = [some (.ref a), some (.ref b), some (.int (x : Int)), some (.ref c), some (.ref k), v5, v6] ∧ Same H H' ∧ Pl H' ∧ H' k = some (.lst qs) ∧ H' p = some (.lst (nts (HF.mems x))) ∧ Tups H' (((HF.mems x).take i).map (HF.key2 fun e => HF.tv f x e + HF.hdC f o e)) qs) ?_ ?_ ?_ ?_
  · intro p hp
    have hpk : p ≠ k := fun z => by rw [z, upd_same] at hp; cases hp
    exact ⟨none, none, [], rfl, same_upd (same_new hk) ((same_new hk).free hp), (pl.upd rfl).upd rfl, by rw [upd_ne (Ne.symm hpk), upd_same], upd_same, .nil⟩
  · rintro p i σ' H' hp ⟨v5, v6, qs, rfl, s1, pl1, hk1, hp1, tu⟩
    exact SqL.of hp1
  · rintro p i y σ' H' hp hy ⟨v5, v6, qs, rfl, s1, pl1, hk1, hp1, tu⟩
    have hpk : p ≠ k := fun z => by rw [z, upd_same] at hp; cases hp
    obtain ⟨d, hdx, rfl⟩ : ∃ d, (HF.mems x)[i]? = some d ∧ y = V.int (d : Int) := by
      unfold nts at hy
      rw [List.getElem?_map] at hy
      cases e : (HF.mems x)[i]? with
      | none => rw [e] at hy; cases hy
      | some c =>
        rw [e] at hy
        exact ⟨c, rfl, (Option.some.inj hy).symm⟩
    have hil : i < (HF.mems x).length := (List.getElem?_eq_some_iff.mp hdx).1
    have hme := HF.mems_lt hn hx (List.mem_of_getElem? hdx)
    have M1 := M.same s1
    have M1' := M1
    obtain ⟨_, dx1, m1, r1, rs1, g1, g2, g3, g4⟩ := M1'
    have et : (HF.mems x).take (i + 1) = (HF.mems x).take i ++ [d] := by
      rw [List.take_add_one, hdx]
      rfl
    have htv := HF.numOr_tv hn hx hme.1 hme.2
    refine q_set (val_is (v_tab (val_var rfl) (val_var rfl) (val_var rfl) (s1 _ _ hb) (hls.same s1) (hrow x hx) hme.1) (by rw [htv])) ?_
    -- the append, behind the if
    have fin : ∀ m : Nat, m = HF.tv f x d + HF.hdC f o d → tDrop (tBM K "list" rAppend (tVar 4) (tCons (tTup (tCons (tVar 6) (tCons (tVar 5) tNil))) tNil)) { nx := (fun p i σ' H' => ∃ v5 v6 qs, σ' = [some (.ref a), some (.ref b), some (.int (x : Int)), some (.ref c), some (.ref k), v5, v6] ∧ Same H H' ∧ Pl H' ∧ H' k = some (.lst qs) ∧ H' p = some (.lst (nts (HF.mems x))) ∧ Tups H' (((HF.mems x).take i).map (HF.key2 fun e => HF.tv f x e + HF.hdC f o e)) qs) p (i + 1), rt := Fg H Q, ct := (fun p i σ' H' => ∃ v5 v6 qs, σ' = [some (.ref a), some (.ref b), some (.int (x : Int)), some (.ref c), some (.ref k), v5, v6] ∧ Same H H' ∧ Pl H' ∧ H' k = some (.lst qs) ∧ H' p = some (.lst (nts (HF.mems x))) ∧ Tups H' (((HF.mems x).take i).map (HF.key2 fun e => HF.tv f x e + HF.hdC f o e)) qs) p (i + 1), bk := tRet (tOp (rIxT K) (tCB (rMinD K) (tCons (tVar 4) tNil)) (tC (.int 1))) { nx := fun _ H' => Fg H Q .non H', rt := Fg H Q } }
        [some (.ref a), some (.ref b), some (.int (x : Int)), some (.ref c), some (.ref k), some (.int (d : Int)), some (.int (m : Int))] H' := by
      intro m hm
      refine s_appT (ys := (HF.key2 (fun e => HF.tv f x e + HF.hdC f o e) d).map V.int) hk1 (val_var rfl) ?_ ?_ fun t ht => ?_
      · have e : (HF.key2 (fun e => HF.tv f x e + HF.hdC f o e) d).map V.int = [.int (m : Int), .int (d : Int)] := by rw [hm]; rfl
        rw [e]
        exact nw_tup (va_cons (val_var rfl) (va_cons (val_var rfl) va_nil)) (by show 2 ≤ 100000; decide)
      · rw [tu.len, List.length_map, List.length_take]
        omega
      · have htk : t ≠ k := fun z => by rw [z, hk1] at ht; cases ht
        refine ⟨_, _, qs ++ [.ref t], rfl, same_upd (same_upd s1 (s1.free ht)) hk, (pl1.upd rfl).upd rfl, upd_same, ?_, ?_⟩
        · rw [upd_ne hpk, upd_ne (ne_of_none hp1 ht)]
          exact hp1
        · rw [et, List.map_append]
          refine ((tu.same (same_new ht)).put (l := k) (xs := qs) ?_).app (.cons ⟨t, rfl, ?_⟩ .nil)
          · rw [upd_ne (Ne.symm htk)]; exact hk1
          · rw [upd_ne htk, upd_same]
    refine q_if (b := decide (0 < (o.length : Int))) (an_test (val_is (val_cmp (val_len (val_var rfl) (s1.seq hc)) val_c) (by rw [len_nts]))) (fun h0 => ?_) fun h0 => ?_
    · obtain ⟨d0, o', rfl⟩ : ∃ d0 o', o = d0 :: o' := by
        cases o with
        | nil => exact absurd (of_decide_eq_true h0) (by simp)
        | cons d0 o' => exact ⟨d0, o', rfl⟩
      refine s_set (val_add (val_var rfl) (val_meth (val_var rfl) g1 no_M (va_cons (val_var rfl) (va_cons (val_ixL (i := 0) (v := .int (d0 : Int)) (val_var rfl) val_c (s1.seq hc) (atI_nat (j := 0) rfl)) va_nil)) fun Q q => ⟨pl1, a, f, d, d0, rfl, M1, hme.1, ho d0 List.mem_cons_self, q⟩)) ?_
      rw [show (HF.tv f x d : Int) + (Vbsyae.carry f d d0 : Int) = ((HF.tv f x d + Vbsyae.carry f d d0 : Nat) : Int) by omega]
      exact fin _ rfl
    · have : o = [] := by
        cases o with
        | nil => rfl
        | cons d0 o' =>
          have := of_decide_eq_false h0
          simp only [List.length_cons] at this
          omega
      subst this
      exact fin _ rfl
  · rintro p σ' H' hp ⟨v5, v6, qs, rfl, s1, pl1, hk1, hp1, tu⟩
    rw [len_nts, List.take_length] at tu
    have hne := HF.bit_zero x (by omega) hx0
    cases em : HF.mems x with
    | nil => exact absurd em hne
    | cons d r =>
      rw [em] at tu
      obtain ⟨e, e1, l⟩ := HF.minB_first (v := fun e => HF.tv f x e + HF.hdC f o e) (a := d) (r := r) (by rw [← em]; exact HF.rising_mems x)
      exact s_retMin1 (val_var rfl) (SqL.of hk1) tu e1 (Fg.same s1 (q e (by rw [em]; exact l)))
theorem ok_Moves_last_of {P : Program} {w : World} {K : PySem.W.Frag} {mg : Str → Option Value} {base : Heap} {A : Ad} (T : Txt K mg A) : MOk P w K mg base CX0 A.cMoves "last_of" 3 ["self", "table", "chosen", "order"] (sp_Moves_last_of K A) := by
  obtain ⟨fn, fd, hm, F⟩ := T.f_Moves_last_of
  refine ⟨fn, fd, hm, fun_okG F sc_Moves_last_of (fun vs H Q E h => ?_) (fun cdv A' outer s H vs Q E hr pl h => ⟨t_Moves_last_of K A, ?_, pure_Moves_last_of T pl h⟩), F.binds fun _ _ _ _ _ _ us hl => match us, hl with | [_, _, _, _], _ => rfl⟩
  · obtain ⟨_, _, _, _, _, _, _, _, rfl, _⟩ := h
    rfl
  · exact (pss_cons (ps_set (i := 4) sc_Moves_last_of.nd rfl (Or.inl rfl) (pe_lst pa_nil)) (pss_cons (ps_for PassesOwn.never rfl (pi_list (pe_callM (ok_members T) (hr.mono (by decide)) rfl (pa_cons (pv 2) pa_nil))) (pg_name (i := 5) sc_Moves_last_of.nd rfl (Or.inl rfl)) (pss_cons (ps_set (i := 6) sc_Moves_last_of.nd rfl (Or.inl rfl) (pe_ix ix_list (pe_ix ix_list (pv 1) (pv 2) (fun _ _ => rfl)) (pv 5) (fun _ _ => rfl))) (pss_cons (ps_if (pt_cmpR op_gt (pe_callB call_len_seq rfl T.b_len PySem.boot_len (pa_cons (pv 3) pa_nil)) pe_int (nomark _)) (pss_one (ps_set (i := 6) sc_Moves_last_of.nd rfl (Or.inl rfl) (pe_op op_add (pv 6) (pe_methM (pv 0) T.c_Moves (ok_Moves_carried T) (hr.mono (by decide)) (pa_cons (pv 5) (pa_cons (pe_ix ix_list (pv 3) pe_int (fun _ _ => rfl)) pa_nil)))))) pss_nil) (pss_one (ps_expr (pe_bm PySem.F.plainAttrs_list PySem.F.slot_list_append PySem.F.type_list_append mt_append (pv 4) (pa_cons (pe_tup (pa_cons (pv 6) (pa_cons (pv 5) pa_nil))) pa_nil))))))) (pss_one (ps_ret (pe_ix ix_tup (pe_callB (cr_minD rfl (hu64 hr)) rfl T.b_min PyProof.Rows.boot_min (pa_cons (pv 4) pa_nil)) pe_int (fun _ _ => rfl))))))
/-- [call] + a list -/
theorem q_setCat {σ : L2.St} {H : Hp} {te tb : TE} {D : Ends} {t2 : TS} {i : Nat} {b : Addr} {xs : List V} {G : V → Prop} (h : ∀ Q : VK, (∀ v, G v → Q v H) → te σ H Q) (hv : ∀ H1, Val tb σ H1 (.ref b)) (hb : H b = some (.lst xs)) (hl : xs.length < 1000)
    (k : ∀ v, G v → ∀ p q, H p = none → q ≠ p → H q = none → t2 D (σ.set i (some (.ref q))) (upd (upd H p (.lst [v])) q (.lst (v :: xs)))) : tSeq (tAsg (tOp rCat (tLst (tCons te tNil)) tb) (gName i)) t2 D σ H :=
  h _ fun v g => ⟨by show 1 ≤ sizeLine; decide, fun p hp => hv _ _ ⟨p, b, [v], xs, rfl, rfl, upd_same, by rw [upd_ne (ne_of_none hb hp)]; exact hb, by have : (1000 : Nat) < sizeLine := (by decide); simp only [List.length_cons, List.length_nil]; omega, fun q hq => by
    have hqp : q ≠ p := fun z => by rw [z, upd_same] at hq; cases hq
    exact k v g p q hp hqp (by rw [upd_ne hqp] at hq; exact hq)⟩⟩
theorem val_meth_nd {σ : L2.St} {H : Hp} {ta : TE} {t : TA} {C : Addr} {m : Str} {sp : Sp} {E : XK} {Q : VK} {a dx : Addr} {fs : List (Str × V)} {vs : List V} (h : Val ta σ H (.ref a)) (ho : H a = some (.ins C dx fs)) (hm : fs.lookup m = none) (h2 : ValA t σ H vs)
    (hs : sp (.ref a :: vs) H Q E) : tMeth C m sp [] E ta t σ H Q :=
  h _ ⟨a, dx, fs, rfl, ho, hm, h2 _ (by
      rw [List.append_nil]
      exact hs)⟩
theorem q_setM {σ : L2.St} {H : Hp} {ta : TE} {t : TA} {C : Addr} {m : Str} {sp : Sp} {E : XK} {D : Ends} {t2 : TS} {i : Nat} {a dx : Addr} {fs : List (Str × V)} {vs : List V} (h : Val ta σ H (.ref a)) (ho : H a = some (.ins C dx fs)) (hm : fs.lookup m = none) (h2 : ValA t σ H vs)
    (hs : sp (.ref a :: vs) H (fun v H' => t2 D (σ.set i (some v)) H') E) : tSeq (tAsg (tMeth C m sp [] E ta t) (gName i)) t2 D σ H :=
  h _ ⟨a, dx, fs, rfl, ho, hm, h2 _ (by
      rw [List.append_nil]
      exact hs)⟩
def sp0_Moves_best_order (K : PySem.W.Frag) (A : Ad) : Sp := fun vs H Q _ => ∃ (a : Addr) (f : Vbsyae.Field), vs = [.ref a] ∧ MovesAt A H a f ∧ f.days.length ≤ 7 ∧ ∀ p, H p = none → Q (.ref p) (upd H p (.lst (nts (Vbsyae.bestOrder f))))
abbrev sp_Moves_best_order (K : PySem.W.Frag) (A : Ad) : Sp := Plain (sp0_Moves_best_order K A)
def t_Moves_best_order (K : PySem.W.Frag) (A : Ad) : TS := (tSeq (tAsg (tMeth A.cMoves "table" (sp_Moves_table K A) [] E0 (tVar 0) tNil) (gName 1)) (tSeq (tAsg (tOp rSubI (tOp rShlI (tC (.int 1)) (tCB (cLen K) (tCons (tFld K (tVar 0) "sizes") tNil))) (tC (.int 1))) (gName 2)) (tSeq (tAsg (tLst tNil) (gName 3)) (tSeq (tWhile (tTest (tOp rGtI (tVar 2) (tC (.int 0)))) (tSeq (tAsg (tOp rCat (tLst (tCons (tMeth A.cMoves "last_of" (sp_Moves_last_of K A) [] E0 (tVar 0) (tCons (tVar 1) (tCons (tVar 2) (tCons (tVar 3) tNil)))) tNil)) (tVar 3)) (gName 3)) (tAsg (tOp rSubI (tVar 2) (tOp rShlI (tC (.int 1)) (tOp (rIxL K) (tVar 3) (tC (.int 0))))) (gName 2)))) (tRet (tVar 3))))))
theorem pure_Moves_best_order {K : PySem.W.Frag} {mg : Str → Option Value} {A : Ad} (T : Txt K mg A) {vs : List V} {H : Hp} {Q : VK} {E : XK} (pl : Pl H) (h : sp0_Moves_best_order K A vs H Q E) : t_Moves_best_order K A { nx := fun _ H' => Fg H Q .non H', rt := Fg H Q } (start N_Moves_best_order vs) H := by
  obtain ⟨a, f, rfl, M, hn, q⟩ := h
  have hp2 := HF.pow_le hn
  have hpos := HF.two_pow_pos' f.days.length
  have M0 := M
  obtain ⟨_, dx, m, r, rs0, h1, h2, h3, h4⟩ := M0
  have hlen : (nts (sizesL f)).length = f.days.length := by rw [len_nts]; unfold sizesL; rw [List.length_map, List.length_range]
  refine q_setM (val_var rfl) h1 no_M va_nil ⟨a, f, rfl, pl, M, hn, fun b rs H1 hb s1 pl1 hb1 ls => ?_⟩
  have M1 := M.same s1
  have M1' := M1
  obtain ⟨_, dx1, m1, r1, rs1, g1, g2, g3, g4⟩ := M1'
  refine q_set (val_sub (v_shl (d := f.days.length) (val_is (val_len (v_sizes T g1 (val_var rfl)) (SqL.of g4)) (by rw [hlen])) (by omega)) val_c) ?_
  rw [show ((2 ^ f.days.length : Nat) : Int) - 1 = ((2 ^ f.days.length - 1 : Nat) : Int) by omega]
  refine q_setN (nw_lst va_nil (Nat.zero_le _)) fun c hc => ?_
  have hcb : b ≠ c := ne_of_none hb1 hc
  have hcH : H c = none := s1.free hc
  refine q_while (fun x σ' H' => ∃ o c, σ' = [some (.ref a), some (.ref b), some (.int (x : Int)), some (.ref c)] ∧ Same H1 H' ∧ Pl H' ∧ H c = none ∧ b ≠ c ∧ H' c = some (.lst (nts o)) ∧ HF.Ord f o x ∧ (∀ d ∈ o, d < f.days.length) ∧ o.length + x < 128) (2 ^ f.days.length - 1) ?_ ?_
  · refine ⟨[], c, rfl, same_new hc, pl1.upd rfl, hcH, hcb, upd_same, .inl ⟨rfl, rfl⟩, by simp, ?_⟩
    show 0 + (2 ^ f.days.length - 1) < 128
    omega
  · rintro x σ' H' ⟨o, c, rfl, s2, pl2, hcH, hcb, hc', ho, hol, hm⟩
    refine ⟨decide (0 < x), an_test (val_is (val_cmp (val_var rfl) val_c) (by congr 1; simp)), fun hx => ?_, fun hx => ?_⟩
    · have hx : 0 < x := of_decide_eq_true hx
      have M2 := M1.same s2
      have M2' := M2
      obtain ⟨_, dx2, m2, r2, rs2, k1, k2, k3, k4⟩ := M2'
      refine ⟨fun σ2 H2 => ∃ x', x' < x ∧ ∃ o c, σ2 = [some (.ref a), some (.ref b), some (.int (x' : Int)), some (.ref c)] ∧ Same H1 H2 ∧ Pl H2 ∧ H c = none ∧ b ≠ c ∧ H2 c = some (.lst (nts o)) ∧ HF.Ord f o x' ∧ (∀ d ∈ o, d < f.days.length) ∧ o.length + x' < 128, fun σ2 H2 h => h, ?_⟩
      refine q_setCat (G := fun v => ∃ e : Nat, v = .int (e : Int) ∧ HF.Least (HF.mems x) (fun e => HF.tv f x e + HF.hdC f o e) e) (fun Q q => ?_) (fun H1 => val_var rfl) hc' (by rw [len_nts]; omega) ?_
      · refine val_meth_nd (val_var rfl) k1 no_M (va_cons (val_var rfl) (va_cons (val_var rfl) (va_cons (val_var rfl) va_nil))) ⟨pl2, a, b, c, f, rs, _, x, o, rfl, M2, hn, s2 _ _ hb1, (ls.same s2).weak (fun _ _ => trivial), fun y hy => ?_, ho.lt, by omega, SqL.of hc', hol, fun e he => q _ ⟨e, rfl, he⟩⟩
        rw [List.getElem?_map, List.getElem?_range hy]
        rfl
      · rintro v ⟨e, rfl, he⟩ p u hp hup hu
        obtain ⟨s3, s4, s5⟩ := ho.step hn he
        have hb2 := HF.bit_le x (by have := ho.lt; omega) e (by omega) (HF.mem_mems he.1).2
        refine s_set (val_sub (val_var rfl) (v_shl (d := e) (val_is (val_ixL (i := 0) (v := .int (e : Int)) (val_var rfl) val_c (SqL.of upd_same) (atI_nat (j := 0) rfl)) rfl) (by omega))) ?_
        rw [show (x : Int) - ((2 ^ e : Nat) : Int) = ((x - 2 ^ e : Nat) : Int) by omega]
        have hpos := HF.two_pow_pos' e
        refine ⟨_, s4, e :: o, u, rfl, same_upd (same_upd s2 (s2.free hp)) (s2.free hu), (pl2.upd rfl).upd rfl, s1.free (s2.free hu), ne_of_none (s2 _ _ hb1) hu, upd_same, s3, fun d hd => ?_, ?_⟩
        · rcases List.mem_cons.mp hd with rfl | h
          · exact s5
          · exact hol _ h
        · simp only [List.length_cons]
          omega
    · have hx : x = 0 := by have := of_decide_eq_false hx; omega
      subst hx
      rw [ho.fin hn] at hc'
      exact s_ret (val_var rfl) (Fg.lst (s1.trans s2) hcH hc' (q c hcH))
theorem ok_Moves_best_order {P : Program} {w : World} {K : PySem.W.Frag} {mg : Str → Option Value} {base : Heap} {A : Ad} (T : Txt K mg A) : MOk P w K mg base CX0 A.cMoves "best_order" 5 ["self"] (sp_Moves_best_order K A) := by
  obtain ⟨fn, fd, hm, F⟩ := T.f_Moves_best_order
  refine ⟨fn, fd, hm, fun_okG F sc_Moves_best_order (fun vs H Q E h => ?_) (fun cdv A' outer s H vs Q E hr pl h => ⟨t_Moves_best_order K A, ?_, pure_Moves_best_order T pl h⟩), F.binds fun _ _ _ _ _ _ us hl => match us, hl with | [_], _ => rfl⟩
  · obtain ⟨_, _, rfl, _⟩ := h
    rfl
  · exact (pss_cons (ps_set (i := 1) sc_Moves_best_order.nd rfl (Or.inl rfl) (pe_methM0 (pv 0) T.c_Moves (ok_Moves_table T) (hr.mono (by decide)))) (pss_cons (ps_set (i := 2) sc_Moves_best_order.nd rfl (Or.inl rfl) (pe_op op_sub (pe_op op_shl pe_int (pe_callB call_len_seq rfl T.b_len PySem.boot_len (pa_cons (pe_fld (pv 0) rfl) pa_nil))) pe_int)) (pss_cons (ps_set (i := 3) sc_Moves_best_order.nd rfl (Or.inl rfl) (pe_lst pa_nil)) (pss_cons (ps_while PassesOwn.never (pt_cmpR op_gt (pv 2) pe_int (nomark _)) (pss_cons (ps_set (i := 3) sc_Moves_best_order.nd rfl (Or.inl rfl) (pe_op op_cat (pe_lst (pa_cons (pe_methM (pv 0) T.c_Moves (ok_Moves_last_of T) (hr.mono (by decide)) (pa_cons (pv 1) (pa_cons (pv 2) (pa_cons (pv 3) pa_nil)))) pa_nil)) (pv 3))) (pss_one (ps_set (i := 2) sc_Moves_best_order.nd rfl (Or.inl rfl) (pe_op op_sub (pv 2) (pe_op op_shl pe_int (pe_ix ix_list (pv 3) pe_int (fun _ _ => rfl)))))))) (pss_one (ps_ret (pv 3)))))))
end HW

namespace HW
open PySem PySem.Spec PyProof.Rows L2
def sp_Word_init (K : PySem.W.Frag) (A : Ad) : Sp := fun vs H Q _ => ∃ (p dx q : Addr) (n : Nat), vs = [.ref p, .int (n : Int), .ref q] ∧ H p = some (.ins A.cWord dx []) ∧ Q .non (upd H p (.ins A.cWord dx (worF n q)))
def t_Word_init (K : PySem.W.Frag) (A : Ad) : TS := (tSeq (sFld K (tVar 0) (tVar 1) "place") (sFld K (tVar 0) (tVar 2) "row"))
theorem pure_Word_init {K : PySem.W.Frag} {mg : Str → Option Value} {A : Ad} (T : Txt K mg A) {vs : List V} {H : Hp} {Q : VK} {E : XK} (h : sp_Word_init K A vs H Q E) : t_Word_init K A { nx := fun _ H' => Q .non H', rt := Q } (start N_Word_init vs) H := by
  obtain ⟨p, dx, w, n, rfl, hp, q⟩ := h
  refine q_fld (val_var rfl) (val_var rfl) hp T.c_Word T.n_Word_place (by show 0 < 1000; decide) ?_
  refine st_fld (val_var rfl) (val_var rfl) upd_same T.c_Word T.n_Word_row lp1 ?_
  rw [upd_upd, put2 (by decide +kernel)]
  exact q
theorem ok_Word_init {P : Program} {w : World} {K : PySem.W.Frag} {mg : Str → Option Value} {base : Heap} {A : Ad} (T : Txt K mg A) : COk P w K mg base "Word" A.cWord 1 ["self", "place", "row"] (sp_Word_init K A) := by
  obtain ⟨fn, fd, hm, F⟩ := T.f_Word_init
  refine ⟨fn, fd, hm, F.ok sc_Word_init (fun vs H Q E h => ?_) (fun cdv A' outer s H vs Q E hr h => ⟨t_Word_init K A, ?_, pure_Word_init T h⟩), F.binds fun _ _ _ _ _ _ us hl => match us, hl with | [_, _, _], _ => rfl⟩
  · obtain ⟨_, _, _, _, rfl, _⟩ := h
    rfl
  · exact (pss_cons (ps_fld (pv 0) (pv 1) rfl) (pss_one (ps_fld (pv 0) (pv 2) rfl)))
def sp0_Word_number (K : PySem.W.Frag) (A : Ad) : Sp := fun vs H Q _ => ∃ (a : Addr) (w : VbsyCore.Word), vs = [.ref a] ∧ WordAt A (fun _ => True) H a w ∧ Q (.int (HF.wnum w.2)) H
abbrev sp_Word_number (K : PySem.W.Frag) (A : Ad) : Sp := Plain (sp0_Word_number K A)
def t_Word_number (K : PySem.W.Frag) (A : Ad) : TS := (tSeq (tAsg (tFld K (tVar 0) "row") (gName 1)) (tSeq (tIfS (tOr (tTest (tOp rLtI (tCB (cLen K) (tCons (tVar 1) tNil)) (tC (.int 1)))) (tOr (tTest (tOp rGtI (tCB (cLen K) (tCons (tVar 1) tNil)) (tC (.int 2)))) (tAnd (tTest (tOp rGtI (tCB (cLen K) (tCons (tVar 1) tNil)) (tC (.int 1)))) (tTest (tOp rEq (tOp (rIxL K) (tVar 1) (tC (.int 0))) (tC (.int 48))))))) (tRet (tUn uNegI (tC (.int 1)))) tNext) (tSeq (tAsg (tC (.int 0)) (gName 2)) (tSeq (tFor (iList K (tVar 1)) (gName 3) (tSeq (tIfS (tOr (tTest (tOp rLtI (tVar 3) (tC (.int 48)))) (tTest (tOp rGtI (tVar 3) (tC (.int 57))))) (tRet (tUn uNegI (tC (.int 1)))) tNext) (tAsg (tOp rSubI (tOp rAddI (tOp rMulI (tVar 2) (tC (.int 10))) (tVar 3)) (tC (.int 48))) (gName 2)))) (tRet (tVar 2))))))
theorem pure_Word_number {K : PySem.W.Frag} {mg : Str → Option Value} {A : Ad} (T : Txt K mg A) {vs : List V} {H : Hp} {Q : VK} {E : XK} (pl : Pl H) (h : sp0_Word_number K A vs H Q E) : t_Word_number K A { nx := fun _ H' => Fg H Q .non H', rt := Fg H Q } (start N_Word_number vs) H := by
  obtain ⟨a, w, rfl, ⟨dx, r, h1, h2, _⟩, q⟩ := h
  refine q_set (val_fld (val_var rfl) h1 T.c_Word T.n_Word_row (v := V.ref r) (lk_at (ks := kW) 1 rfl (by decide +kernel) rfl)) ?_
  have hl : (nts w.2).length = w.2.length := len_nts _
  have hs : SqL K H r (nts w.2) := SqL.of h2
  refine q_when (b := decide ((w.2.length : Int) < 1) || (decide ((2 : Int) < (w.2.length : Int)) || (decide ((1 : Int) < (w.2.length : Int)) && decide ((w.2.getD 0 0 : Int) = 48)))) (an_or (an_test (val_is (val_cmp (val_is (val_len (val_var rfl) hs) (by rw [hl])) val_c) rfl)) fun _ => an_or (an_test (val_is (val_cmp (val_is (val_len (val_var rfl) hs) (by rw [hl])) val_c) rfl)) fun _ => an_and (an_test (val_is (val_cmp (val_is (val_len (val_var rfl) hs) (by rw [hl])) val_c) rfl)) fun hb => ?_) (fun hb => ?_) fun hb => ?_
  · have hb := of_decide_eq_true hb
    refine an_test (val_eqI (val_ixL (i := 0) (v := .int ((w.2.getD 0 0 : Nat) : Int)) (val_var rfl) val_c hs (atI_nat (j := 0) ?_)) val_c)
    unfold nts
    rw [List.getElem?_map, List.getD_eq_getElem?_getD, List.getElem?_eq_getElem (show 0 < w.2.length by omega)]
    rfl
  · refine s_ret (val_neg val_c) (Fg.same (Same.refl H) ?_)
    rw [HF.wnum_no (by
      simp only [Bool.or_eq_true, Bool.and_eq_true, decide_eq_true_eq] at hb
      omega)] at q
    exact q
  · simp only [Bool.or_eq_false_iff, Bool.and_eq_false_iff, decide_eq_false_iff_not] at hb
    have hb2 : ¬ (w.2.length < 1 ∨ 2 < w.2.length ∨ (1 < w.2.length ∧ w.2.getD 0 0 = 48)) := by omega
    refine q_set val_c ?_
    refine q_forL (val_var rfl) hs (fun i σ' H' => ∃ v, σ' = [some (.ref a), some (.ref r), some (.int ((VbsyCore.valueOf 10 ((w.2.take i).map fun c => c - 48) : Nat) : Int)), v] ∧ Same H H' ∧ Pl H' ∧ (w.2.take i).all VbsyCore.isDigit = true ∧ i ≤ w.2.length) ?_ ?_ ?_ ?_
    · exact ⟨none, rfl, Same.refl H, pl, rfl, Nat.zero_le _⟩
    · rintro i σ' H' ⟨v, rfl, s1, pl1, hd, hi⟩
      exact s1.seq hs
    · rintro i x σ' H' hx ⟨v, rfl, s1, pl1, hd, hi⟩
      obtain ⟨c, hc, rfl⟩ : ∃ c, w.2[i]? = some c ∧ x = V.int (c : Int) := by
        unfold nts at hx
        rw [List.getElem?_map] at hx
        cases e : w.2[i]? with
        | none => rw [e] at hx; cases hx
        | some c =>
          rw [e] at hx
          exact ⟨c, rfl, (Option.some.inj hx).symm⟩
      have hil : i < w.2.length := (List.getElem?_eq_some_iff.mp hc).1
      have et : w.2.take (i + 1) = w.2.take i ++ [c] := by
        rw [List.take_add_one, hc]
        rfl
      refine q_when (an_or (an_test (val_cmp (val_var rfl) val_c)) fun _ => an_test (val_cmp (val_var rfl) val_c)) (fun hb => ?_) fun hb => ?_
      · simp only [Bool.or_eq_true, decide_eq_true_eq] at hb
        refine s_ret (val_neg val_c) (Fg.same s1 ?_)
        have : w.2.all VbsyCore.isDigit = false := by
          rw [List.all_eq_false]
          refine ⟨c, List.mem_of_getElem? hc, ?_⟩
          simp only [VbsyCore.isDigit, Bool.and_eq_true, decide_eq_true_eq]
          omega
        rw [HF.wnum_bad this] at q
        exact q
      · simp only [Bool.or_eq_false_iff, decide_eq_false_iff_not] at hb
        refine s_set (val_sub (val_add (val_mul (val_var rfl) val_c (.inr (by omega))) (val_var rfl)) val_c) ?_
        refine ⟨some (.int (c : Int)), ?_, s1, pl1, ?_, hil⟩
        · rw [et]
          have e : (VbsyCore.valueOf 10 ((w.2.take i ++ [c]).map fun c => c - 48) : Nat) = VbsyCore.valueOf 10 ((w.2.take i).map fun c => c - 48) * 10 + (c - 48) := by
            unfold VbsyCore.valueOf
            rw [List.map_append, List.foldl_append]
            rfl
          rw [e, show ((VbsyCore.valueOf 10 ((w.2.take i).map fun c => c - 48) * 10 + (c - 48) : Nat) : Int) = (VbsyCore.valueOf 10 ((w.2.take i).map fun c => c - 48) : Int) * 10 + (c : Int) - 48 by omega]
          rfl
        · rw [et, List.all_append, hd]
          simp only [List.all_cons, List.all_nil, VbsyCore.isDigit, Bool.and_true, Bool.true_and, Bool.and_eq_true, decide_eq_true_eq]
          omega
    · rintro σ' H' ⟨v, rfl, s1, pl1, hd, hi⟩
      rw [hl, List.take_length] at hd ⊢
      rw [HF.wnum_yes hb2 hd] at q
      exact s_ret (val_var rfl) (Fg.same s1 q)
theorem ok_Word_number {P : Program} {w : World} {K : PySem.W.Frag} {mg : Str → Option Value} {base : Heap} {A : Ad} (T : Txt K mg A) : MOk P w K mg base CX0 A.cWord "number" 1 ["self"] (sp_Word_number K A) := by
  obtain ⟨fn, fd, hm, F⟩ := T.f_Word_number
  refine ⟨fn, fd, hm, fun_okG F sc_Word_number (fun vs H Q E h => ?_) (fun cdv A' outer s H vs Q E hr pl h => ⟨t_Word_number K A, ?_, pure_Word_number T pl h⟩), F.binds fun _ _ _ _ _ _ us hl => match us, hl with | [_], _ => rfl⟩
  · obtain ⟨_, _, rfl, _⟩ := h
    rfl
  · exact (pss_cons (ps_set (i := 1) sc_Word_number.nd rfl (Or.inl rfl) (pe_fld (pv 0) rfl)) (pss_cons (ps_if (PW.pt (pw_or (pt_cmpR op_lt (pe_callB call_len_seq rfl T.b_len PySem.boot_len (pa_cons (pv 1) pa_nil)) pe_int (nomark _)) (pw_or (pt_cmpR op_gt (pe_callB call_len_seq rfl T.b_len PySem.boot_len (pa_cons (pv 1) pa_nil)) pe_int (nomark _)) (pw_or1 (PW.pt (pw_and (pt_cmpR op_gt (pe_callB call_len_seq rfl T.b_len PySem.boot_len (pa_cons (pv 1) pa_nil)) pe_int (nomark _)) (pw_and1 (pt_cmpR op_eq (pe_ix ix_list (pv 1) pe_int (fun _ _ => rfl)) pe_int (nomark _))))))))) (pss_one (ps_ret (pe_un un_neg pe_int))) pss_nil) (pss_cons (ps_set (i := 2) sc_Word_number.nd rfl (Or.inl rfl) pe_int) (pss_cons (ps_for PassesOwn.never rfl (pi_list (pv 1)) (pg_name (i := 3) sc_Word_number.nd rfl (Or.inl rfl)) (pss_cons (ps_if (PW.pt (pw_or (pt_cmpR op_lt (pv 3) pe_int (nomark _)) (pw_or1 (pt_cmpR op_gt (pv 3) pe_int (nomark _))))) (pss_one (ps_ret (pe_un un_neg pe_int))) pss_nil) (pss_one (ps_set (i := 2) sc_Word_number.nd rfl (Or.inl rfl) (pe_op op_sub (pe_op op_add (pe_op op_mul (pv 2) pe_int) (pv 3)) pe_int))))) (pss_one (ps_ret (pv 2)))))))
def sp0_bytes_of (K : PySem.W.Frag) (A : Ad) : Sp := fun vs H Q _ => ∃ (z : Str), vs = [.str z] ∧ z.cps.size ≤ 1000 ∧ ∀ p, H p = none → Q (.ref p) (upd H p (.lst (nts z.cps.toList)))
abbrev sp_bytes_of (K : PySem.W.Frag) (A : Ad) : Sp := Plain (sp0_bytes_of K A)
def t_bytes_of (K : PySem.W.Frag) (A : Ad) : TS := (tRet (tLc (iStr (tVar 0)) (gName 1) tYes (tCB cOrd (tCons (tVar 1) tNil)) [1]))
theorem pure_bytes_of {K : PySem.W.Frag} {mg : Str → Option Value} {A : Ad} (T : Txt K mg A) {vs : List V} {H : Hp} {Q : VK} {E : XK} (pl : Pl H) (h : sp0_bytes_of K A vs H Q E) : t_bytes_of K A { nx := fun _ H' => Fg H Q .non H', rt := Fg H Q } (start N_bytes_of vs) H := by
  obtain ⟨z, rfl, hz, q⟩ := h
  exact s_retN (nw_bytes (val_var rfl) hz (by show 1 < 2; decide)) fun p hp => Fg.lst (same_new hp) hp upd_same (q p hp)
theorem ok_bytes_of {P : Program} {w : World} {K : PySem.W.Frag} {mg : Str → Option Value} {base : Heap} {A : Ad} (T : Txt K mg A) : FOk P w K mg base CX0 "bytes_of" 1 ["text"] (sp_bytes_of K A) := by
  obtain ⟨fn, fd, hm, F⟩ := T.f_bytes_of
  refine ⟨fn, fd, hm, fun_okG F sc_bytes_of (fun vs H Q E h => ?_) (fun cdv A' outer s H vs Q E hr pl h => ⟨t_bytes_of K A, ?_, pure_bytes_of T pl h⟩), F.binds fun _ _ _ _ _ _ us hl => match us, hl with | [_], _ => rfl⟩
  · obtain ⟨_, rfl, _⟩ := h
    rfl
  · exact (pss_one (ps_ret (pe_lc (own := [("sign", 1)]) (g := (gName 1)) (tt := tYes) rfl sc_bytes_of.nd (pi_str (pv 0)) (blkOk_by (N := N_bytes_of) (sc := defScope s_bytes_of) (by decide +kernel)) (fun _ _ _ _ _ => (pg_name (i := 1) sc_bytes_of.nd rfl (Or.inl rfl))) (fun _ _ _ _ _ => pts_nil) (fun _ _ _ _ _ => (pe_callB call_ord rfl T.b_ord PyProof.Rows.boot_ord (pa_cons (pv 1) pa_nil))))))
def sp0_word_end (K : PySem.W.Frag) (A : Ad) : Sp := fun vs H Q _ => ∃ (a : Addr) (t : List Nat) (i : Nat), vs = [.ref a, .int (i : Int)] ∧ SqL K H a (nts t) ∧ i ≤ t.length ∧ Q (.int (HF.wend t i : Int)) H
abbrev sp_word_end (K : PySem.W.Frag) (A : Ad) : Sp := Plain (sp0_word_end K A)
def t_word_end (K : PySem.W.Frag) (A : Ad) : TS := (tSeq (tWhile (tAnd (tTest (tOp rLtI (tVar 1) (tCB (cLen K) (tCons (tVar 0) tNil)))) (tAnd (tTest (tOp rNe (tOp (rIxL K) (tVar 0) (tVar 1)) (tC (.int (32))))) (tTest (tOp rNe (tOp (rIxL K) (tVar 0) (tVar 1)) (tC (.int (10))))))) (tAsg (tOp rAddI (tVar 1) (tC (.int 1))) (gName 1))) (tRet (tVar 1)))
theorem pure_word_end {K : PySem.W.Frag} {mg : Str → Option Value} {A : Ad} (T : Txt K mg A) {vs : List V} {H : Hp} {Q : VK} {E : XK} (pl : Pl H) (h : sp0_word_end K A vs H Q E) : t_word_end K A { nx := fun _ H' => Fg H Q .non H', rt := Fg H Q } (start N_word_end vs) H := by
  obtain ⟨a, t, i, rfl, ht, hi, q⟩ := h
  have hl : (nts t).length = t.length := len_nts _
  refine q_while (fun m σ' H' => ∃ j, σ' = [some (.ref a), some (.int ((j : Nat) : Int))] ∧ H' = H ∧ m = t.length - j ∧ i ≤ j ∧ j ≤ t.length ∧ HF.wend t j = HF.wend t i) (t.length - i) ?_ ?_
  · exact ⟨i, rfl, rfl, rfl, Nat.le_refl _, hi, rfl⟩
  · rintro m σ' H' ⟨j, rfl, rfl, rfl, hij, hj, hw⟩
    refine ⟨decide ((j : Int) < (t.length : Int)) && (!decide (((t.getD j 0 : Nat) : Int) = 32) && !decide (((t.getD j 0 : Nat) : Int) = 10)), ?_, fun hb => ?_, fun hb => ?_⟩
    · refine an_and (an_test (val_is (val_cmp (val_var rfl) (val_is (val_len (val_var rfl) ht) (by rw [hl]))) rfl)) fun hb => ?_
      have hb := of_decide_eq_true hb
      have hat : atI (nts t) (j : Int) = some (.int ((t.getD j 0 : Nat) : Int)) := by
        refine atI_nat ?_
        unfold nts
        rw [List.getElem?_map, List.getD_eq_getElem?_getD, List.getElem?_eq_getElem (show j < t.length by omega)]
        rfl
      exact an_and (an_test (val_neI (val_ixL (val_var rfl) (val_var rfl) ht hat) val_c)) fun _ => an_test (val_neI (val_ixL (val_var rfl) (val_var rfl) ht hat) val_c)
    · simp only [Bool.and_eq_true, Bool.not_eq_true', decide_eq_true_eq, decide_eq_false_iff_not] at hb
      have hjl : j < t.length := by omega
      have e := List.getElem?_eq_getElem hjl
      have eg : t.getD j 0 = t[j] := by rw [List.getD_eq_getElem?_getD, e]; rfl
      have hs : HF.isSep t[j] = false := by
        rw [eg] at hb
        simp only [HF.isSep, Bool.or_eq_false_iff, beq_eq_false_iff_ne]
        omega
      refine ⟨fun σ2 H2 => ∃ m', m' < t.length - j ∧ ∃ j', σ2 = [some (.ref a), some (.int ((j' : Nat) : Int))] ∧ H2 = H' ∧ m' = t.length - j' ∧ i ≤ j' ∧ j' ≤ t.length ∧ HF.wend t j' = HF.wend t i, fun σ2 H2 h => h, ?_⟩
      refine s_set (val_add (val_var rfl) val_c) ⟨t.length - (j + 1), by omega, j + 1, rfl, rfl, rfl, by omega, by omega, ?_⟩
      rw [← hw, HF.wend_on e hs]
    · refine s_ret (val_var rfl) (Fg.same (Same.refl H') ?_)
      have ew : HF.wend t i = j := by
        rw [← hw]
        by_cases hjl : j < t.length
        · have e := List.getElem?_eq_getElem hjl
          have eg : t.getD j 0 = t[j] := by rw [List.getD_eq_getElem?_getD, e]; rfl
          refine HF.wend_at e ?_
          rw [eg, show decide ((j : Int) < (t.length : Int)) = true by simp; omega] at hb
          simp only [Bool.true_and, Bool.and_eq_false_iff, Bool.not_eq_false', decide_eq_true_eq] at hb
          simp only [HF.isSep, Bool.or_eq_true, beq_iff_eq]
          omega
        · exact HF.wend_end (by omega)
      rw [ew] at q
      exact q
theorem ok_word_end {P : Program} {w : World} {K : PySem.W.Frag} {mg : Str → Option Value} {base : Heap} {A : Ad} (T : Txt K mg A) : FOk P w K mg base CX0 "word_end" 1 ["row", "at"] (sp_word_end K A) := by
  obtain ⟨fn, fd, hm, F⟩ := T.f_word_end
  refine ⟨fn, fd, hm, fun_okG F sc_word_end (fun vs H Q E h => ?_) (fun cdv A' outer s H vs Q E hr pl h => ⟨t_word_end K A, ?_, pure_word_end T pl h⟩), F.binds fun _ _ _ _ _ _ us hl => match us, hl with | [_, _], _ => rfl⟩
  · obtain ⟨_, _, _, rfl, _⟩ := h
    rfl
  · exact (pss_cons (ps_while PassesOwn.never (PW.pt (pw_and (pt_cmpR op_lt (pv 1) (pe_callB call_len_seq rfl T.b_len PySem.boot_len (pa_cons (pv 0) pa_nil)) (nomark _)) (pw_and (pt_cmpR op_ne (pe_ix ix_list (pv 0) (pv 1) (fun _ _ => rfl)) (pe_gi rfl T.g_BLANK) (nomark _)) (pw_and1 (pt_cmpR op_ne (pe_ix ix_list (pv 0) (pv 1) (fun _ _ => rfl)) (pe_gi rfl T.g_LINE_END) (nomark _)))))) (pss_one (ps_set (i := 1) sc_word_end.nd rfl (Or.inl rfl) (pe_op op_add (pv 1) pe_int)))) (pss_one (ps_ret (pv 1))))
theorem mk_word {K : PySem.W.Frag} {mg : Str → Option Value} {A : Ad} (T : Txt K mg A) {σ : L2.St} {H : Hp} {te1 te2 : TE} {n : Nat} {b : List Nat} (pl : Pl H) (h1 : Val te1 σ H (.int (n : Int))) (h2 : New te2 σ H (nts b)) (Q : VK)
    (k : ∀ x H', Same H H' → Pl H' → H x = none → WordAt A (fun q => H q = none) H' x (n, b) → Q (.ref x) H') : tMake A.cWord (sp_Word_init K A) [] E0 (tCons te1 (tCons te2 tNil)) σ H Q :=
  h1 _ (h2 _ fun q hq x dx hx hdx hne => by
    have hxq : q ≠ x := fun z => by rw [← z, upd_same] at hx; cases hx
    have hdq : q ≠ dx := fun z => by rw [← z, upd_same] at hdx; cases hdx
    have hxH : H x = none := by rw [upd_ne (Ne.symm hxq)] at hx; exact hx
    have hdH : H dx = none := by rw [upd_ne (Ne.symm hdq)] at hdx; exact hdx
    refine ⟨x, dx, q, n, rfl, upd_same, rfl, ?_⟩
    rw [upd_upd]
    refine k x _ (same_upd (same_upd (same_upd (Same.refl H) hq) hdH) hxH) (((pl.upd rfl).upd rfl).upd rfl) hxH ⟨dx, q, upd_same, ?_, hq⟩
    rw [upd_ne hxq, upd_ne hdq, upd_same])
theorem q_appMk {σ : L2.St} {H : Hp} {te ta : TE} {K : PySem.W.Frag} {D : Ends} {t2 : TS} {p : Addr} {xs : List V} (hl : H p = some (.lst xs)) (ha : Val ta σ H (.ref p)) (hz : xs.length ≤ 1000000) (P : V → Hp → Prop) (h : ∀ Q : VK, (∀ v H1, P v H1 → Q v H1) → te σ H Q)
    (k : ∀ v H1, P v H1 → H1 p = some (.lst xs) ∧ t2 D σ (upd H1 p (.lst (xs ++ [v])))) : tSeq (tDrop (tBM K "list" rAppend ta (tCons te tNil))) t2 D σ H :=
  ha _ ⟨Or.inl ⟨rfl, xs, SqL.of hl⟩, h _ fun v H1 hp => ⟨p, xs, v, rfl, rfl, (k v H1 hp).1, Nat.lt_of_le_of_lt hz (by decide), (k v H1 hp).2⟩⟩
theorem s_appMk {σ : L2.St} {H : Hp} {te ta : TE} {K : PySem.W.Frag} {D : Ends} {p : Addr} {xs : List V} (hl : H p = some (.lst xs)) (ha : Val ta σ H (.ref p)) (hz : xs.length ≤ 1000000) (P : V → Hp → Prop) (h : ∀ Q : VK, (∀ v H1, P v H1 → Q v H1) → te σ H Q)
    (k : ∀ v H1, P v H1 → H1 p = some (.lst xs) ∧ D.nx σ (upd H1 p (.lst (xs ++ [v])))) : tDrop (tBM K "list" rAppend ta (tCons te tNil)) D σ H :=
  ha _ ⟨Or.inl ⟨rfl, xs, SqL.of hl⟩, h _ fun v H1 hp => ⟨p, xs, v, rfl, rfl, (k v H1 hp).1, Nat.lt_of_le_of_lt hz (by decide), (k v H1 hp).2⟩⟩
theorem call_nd {σ : L2.St} {H : Hp} {t : TA} {sp : Sp} {E : XK} {Q : VK} {vs : List V} (h2 : ValA t σ H vs) (hs : sp vs H Q E) : tCall sp [] E t σ H Q := h2 _ (by
  rw [List.append_nil]
  exact hs)
/-- a word more in the list at p -/
theorem words_app {A : Ad} {H H1 : Hp} {p x : Addr} {l : List (VbsyCore.Word × Addr)} {w : VbsyCore.Word} (hp : H p = some (.lst (l.map fun x => V.ref x.2))) (hl : ∀ x ∈ l, WordAt A (fun q => q ≠ p) H x.2 x.1) (s : Same H H1) (hx : H x = none) (hw : WordAt A (fun q => H q = none) H1 x w) (ys : List V) :
    ∀ y ∈ l ++ [(w, x)], WordAt A (fun q => q ≠ p) (upd H1 p (.lst ys)) y.2 y.1 := fun y hy => by
  have step : ∀ (y : VbsyCore.Word × Addr), WordAt A (fun q => q ≠ p) H1 y.2 y.1 → WordAt A (fun q => q ≠ p) (upd H1 p (.lst ys)) y.2 y.1 := fun y h =>
    h.but (l := p) (fun b o e n => by rw [upd_ne n]; exact e) (h.ne fun dx q n z => by rw [s _ _ hp] at z; cases z) fun t n => n
  rcases List.mem_append.mp hy with hy | hy
  · exact step y ((hl y hy).same s)
  · rw [List.mem_singleton.mp hy]
    obtain ⟨dx, q, h1, h2, h3⟩ := hw
    exact step (w, x) ⟨dx, q, h1, h2, fun z => by rw [z, hp] at h3; cases h3⟩
def sp_words_of (K : PySem.W.Frag) (A : Ad) : Sp := fun vs H Q _ => ∃ (a : Addr) (t : List Nat), vs = [.ref a] ∧ Pl H ∧ SqL K H a (nts t) ∧ t.length ≤ 2000 ∧ ∀ p H', H p = none → Same H H' → Pl H' → WordsAt A H' p (VbsyCore.cut 0 t) → Q (.ref p) H'
def t_words_of (K : PySem.W.Frag) (A : Ad) : TS := (tSeq (tAsg (tLst tNil) (gName 1)) (tSeq (tAsg (tC (.int 0)) (gName 2)) (tSeq (tAsg (tC (.bl true)) (gName 3)) (tSeq (tWhile (tB (tVar 3)) (tSeq (tAsg (tCall (sp_word_end K A) [] E0 (tCons (tVar 0) (tCons (tVar 2) tNil))) (gName 4)) (tSeq (tDrop (tBM K "list" rAppend (tVar 1) (tCons (tMake A.cWord (sp_Word_init K A) [] E0 (tCons (tVar 2) (tCons (tSl (rSlL K) (tVar 0) (tPart (tVar 2)) (tPart (tVar 4))) tNil))) tNil))) (tSeq (tAsg (tOp rLtI (tVar 4) (tCB (cLen K) (tCons (tVar 0) tNil))) (gName 3)) (tSeq (tIfS (tAnd (tB (tVar 3)) (tTest (tOp rEq (tOp (rIxL K) (tVar 0) (tVar 4)) (tC (.int (10)))))) (tDrop (tBM K "list" rAppend (tVar 1) (tCons (tMake A.cWord (sp_Word_init K A) [] E0 (tCons (tVar 4) (tCons (tLst (tCons (tC (.int (10))) tNil)) tNil))) tNil))) tNext) (tAsg (tOp rAddI (tVar 4) (tC (.int 1))) (gName 2))))))) (tRet (tVar 1))))))
theorem pure_words_of {K : PySem.W.Frag} {mg : Str → Option Value} {A : Ad} (T : Txt K mg A) {vs : List V} {H : Hp} {Q : VK} {E : XK} (h : sp_words_of K A vs H Q E) : t_words_of K A { nx := fun _ H' => Q .non H', rt := Q } (start N_words_of vs) H := by
  obtain ⟨a, t, rfl, pl, ht, hz, q⟩ := h
  have hlen : (nts t).length = t.length := len_nts _
  refine q_setN (nw_lst va_nil (Nat.zero_le _)) fun p hp => ?_
  refine q_set val_c (q_set val_c ?_)
  refine q_while (fun m σ' H' => ∃ (j : Nat) (b : Bool) (v : Option V) (l : List (VbsyCore.Word × Addr)), σ' = [some (.ref a), some (.ref p), some (.int (j : Int)), some (.bl b), v] ∧ Same H H' ∧ Pl H' ∧ H' p = some (.lst (l.map fun x => V.ref x.2)) ∧ (∀ x ∈ l, WordAt A (fun q => q ≠ p) H' x.2 x.1) ∧ l.length ≤ 2 * j ∧ (b = true → j ≤ t.length ∧ VbsyCore.cut 0 t = l.map (·.1) ++ VbsyCore.cut j (t.drop j)) ∧ (b = false → VbsyCore.cut 0 t = l.map (·.1)) ∧ m = if b = true then t.length + 1 - j else 0) (t.length + 1) ?_ ?_
  · exact ⟨0, true, none, [], rfl, same_new hp, pl.upd rfl, upd_same, by simp, Nat.le_refl _, fun _ => ⟨Nat.zero_le _, rfl⟩, nofun, rfl⟩
  · rintro m σ' H' ⟨j, b, v, l, rfl, s1, pl1, hp1, hw, hl2, ht1, hf1, rfl⟩
    refine ⟨b, an_B (val_var rfl), fun hb => ?_, fun hb => ?_⟩
    · subst hb
      obtain ⟨hj, hc⟩ := ht1 rfl
      obtain ⟨hwe, hcs⟩ := HF.cut_step hj
      have hge := HF.wend_ge t j
      rw [if_pos rfl]
      refine ⟨fun σ2 H2 => ∃ m', m' < t.length + 1 - j ∧ ∃ (j : Nat) (b : Bool) (v : Option V) (l : List (VbsyCore.Word × Addr)), σ2 = [some (.ref a), some (.ref p), some (.int (j : Int)), some (.bl b), v] ∧ Same H H2 ∧ Pl H2 ∧ H2 p = some (.lst (l.map fun x => V.ref x.2)) ∧ (∀ x ∈ l, WordAt A (fun q => q ≠ p) H2 x.2 x.1) ∧ l.length ≤ 2 * j ∧ (b = true → j ≤ t.length ∧ VbsyCore.cut 0 t = l.map (·.1) ++ VbsyCore.cut j (t.drop j)) ∧ (b = false → VbsyCore.cut 0 t = l.map (·.1)) ∧ m' = if b = true then t.length + 1 - j else 0, fun σ2 H2 h => h, ?_⟩
      refine q_set (val_call (va_cons (val_var rfl) (va_cons (val_var rfl) va_nil)) fun Q q => ⟨pl1, a, t, j, rfl, s1.seq ht, hj, q⟩) ?_
      refine q_appMk hp1 (val_var rfl) (by rw [List.length_map]; omega) (fun v H1 => ∃ x, v = .ref x ∧ Same H' H1 ∧ Pl H1 ∧ H' x = none ∧ WordAt A (fun q => H' q = none) H1 x (j, (t.drop j).take (HF.wend t j - j))) (fun Q q => mk_word T pl1 (val_var rfl) (by
        have := nw_sl (K := K) (xs := nts t) (i := j) (j := HF.wend t j) (ta := tVar 0) (tb := tVar 2) (tc := tVar 4) (σ := [some (.ref a), some (.ref p), some (.int (j : Int)), some (.bl true), some (.int (HF.wend t j : Int))]) (H := H') (val_var rfl) (s1.seq ht) (val_var rfl) (val_var rfl) (by rw [hlen]; exact hj) (by rw [hlen]; exact hwe)
        rw [nts_cut] at this
        exact this) Q fun x H2 s2 pl2 hx hw2 => q _ _ ⟨x, rfl, s2, pl2, hx, hw2⟩) ?_
      rintro v1 H1 ⟨x, rfl, s2, pl2, hx, hw2⟩
      refine ⟨s2 _ _ hp1, ?_⟩
      have hpx : ∀ o, H p = some o → False := fun o e => by rw [hp] at e; cases e
      have s3 : Same H (upd H1 p (.lst (l.map (fun x => V.ref x.2) ++ [V.ref x]))) := same_upd (s1.trans s2) hp
      have pl3 : Pl (upd H1 p (.lst (l.map (fun x => V.ref x.2) ++ [V.ref x]))) := pl2.upd rfl
      have hw3 := words_app hp1 hw s2 hx hw2 (l.map (fun x => V.ref x.2) ++ [V.ref x])
      have hp3 : upd H1 p (.lst (l.map (fun x => V.ref x.2) ++ [V.ref x])) p = some (.lst ((l ++ [((j, (t.drop j).take (HF.wend t j - j)), x)]).map fun x => V.ref x.2)) := by
        rw [upd_same, List.map_append]
        rfl
      generalize upd H1 p (.lst (l.map (fun x => V.ref x.2) ++ [V.ref x])) = H3 at s3 pl3 hw3 hp3
      generalize hl' : l ++ [((j, (t.drop j).take (HF.wend t j - j)), x)] = l3 at hw3 hp3
      have hl3 : l3.length = l.length + 1 := by rw [← hl', List.length_append]; rfl
      have hm3 : l3.map (·.1) = l.map (·.1) ++ [(j, (t.drop j).take (HF.wend t j - j))] := by rw [← hl', List.map_append]; rfl
      refine q_set (val_is (val_cmp (val_var rfl) (val_is (val_len (val_var rfl) (s3.seq ht)) (by rw [hlen]))) rfl) ?_
      refine q_if (b := decide ((HF.wend t j : Int) < (t.length : Int)) && decide (((t.getD (HF.wend t j) 0 : Nat) : Int) = 10)) (an_and (an_B (val_var rfl)) fun hb => ?_) (fun hb => ?_) fun hb => ?_
      · have hb := of_decide_eq_true hb
        refine an_test (val_eqI (val_ixL (v := .int ((t.getD (HF.wend t j) 0 : Nat) : Int)) (val_var rfl) (val_var rfl) (s3.seq ht) (atI_nat ?_)) val_c)
        unfold nts
        rw [List.getElem?_map, List.getD_eq_getElem?_getD, List.getElem?_eq_getElem (show HF.wend t j < t.length by omega)]
        rfl
      · simp only [Bool.and_eq_true, decide_eq_true_eq] at hb
        refine s_appMk hp3 (val_var rfl) (by rw [List.length_map]; omega) (fun v H1 => ∃ x, v = .ref x ∧ Same H3 H1 ∧ Pl H1 ∧ H3 x = none ∧ WordAt A (fun q => H3 q = none) H1 x (HF.wend t j, [10])) (fun Q q => mk_word T (b := [10]) pl3 (val_var rfl) (nw_lst (va_cons val_c va_nil) (by show 1 ≤ 100000; decide)) Q fun x H2 s2 pl2 hx hw2 => q _ _ ⟨x, rfl, s2, pl2, hx, hw2⟩) ?_
        rintro v1 H4 ⟨x4, rfl, s4, pl4, hx4, hw4⟩
        refine ⟨s4 _ _ hp3, ?_⟩
        refine s_set (val_add (val_var rfl) val_c) ?_
        refine ⟨t.length + 1 - (HF.wend t j + 1), by omega, HF.wend t j + 1, true, some (.int (HF.wend t j : Int)), l3 ++ [((HF.wend t j, [10]), x4)], ?_, same_upd (s3.trans s4) hp, pl4.upd rfl, ?_, words_app hp3 hw3 s4 hx4 hw4 _, ?_, fun _ => ⟨by omega, ?_⟩, nofun, ?_⟩
        · rw [show decide ((HF.wend t j : Int) < (t.length : Int)) = true by simp; omega]
          rfl
        · rw [upd_same, List.map_append]
          rfl
        · rw [List.length_append, hl3]
          simp only [List.length_cons, List.length_nil]
          omega
        · rw [hc, hcs, if_pos (by omega), if_pos (by omega), List.map_append, hm3]
          simp
        · rw [if_pos rfl]
      · refine s_set (val_add (val_var rfl) val_c) ?_
        by_cases hlt : HF.wend t j < t.length
        · have h10 : t.getD (HF.wend t j) 0 ≠ 10 := by
            rw [show decide ((HF.wend t j : Int) < (t.length : Int)) = true by simp; omega] at hb
            simp only [Bool.true_and, decide_eq_false_iff_not] at hb
            omega
          refine ⟨t.length + 1 - (HF.wend t j + 1), by omega, HF.wend t j + 1, true, some (.int (HF.wend t j : Int)), l3, ?_, s3, pl3, hp3, hw3, by omega, fun _ => ⟨by omega, ?_⟩, nofun, ?_⟩
          · rw [show decide ((HF.wend t j : Int) < (t.length : Int)) = true by simp; omega]
            rfl
          · rw [hc, hcs, if_pos hlt, if_neg h10, hm3]
            simp
          · rw [if_pos rfl]
        · refine ⟨0, by omega, HF.wend t j + 1, false, some (.int (HF.wend t j : Int)), l3, ?_, s3, pl3, hp3, hw3, by omega, nofun, fun _ => ?_, ?_⟩
          · rw [show decide ((HF.wend t j : Int) < (t.length : Int)) = false by simp; omega]
            rfl
          · rw [hc, hcs, if_neg hlt, hm3]
          · rfl
    · exact s_ret (val_var rfl) (q p H' hp s1 pl1 ⟨l, (hf1 hb).symm, hp1, fun x hx => by
        obtain ⟨dx, r, h1, h2, _⟩ := hw x hx
        exact ⟨dx, r, h1, h2, trivial⟩⟩)
theorem ok_words_of {P : Program} {w : World} {K : PySem.W.Frag} {mg : Str → Option Value} {base : Heap} {A : Ad} (T : Txt K mg A) : FOk P w K mg base CX0 "words_of" 3 ["row"] (sp_words_of K A) := by
  obtain ⟨fn, fd, hm, F⟩ := T.f_words_of
  refine ⟨fn, fd, hm, F.ok sc_words_of (fun vs H Q E h => ?_) (fun cdv A' outer s H vs Q E hr h => ⟨t_words_of K A, ?_, pure_words_of T h⟩), F.binds fun _ _ _ _ _ _ us hl => match us, hl with | [_], _ => rfl⟩
  · obtain ⟨_, _, rfl, _⟩ := h
    rfl
  · exact (pss_cons (ps_set (i := 1) sc_words_of.nd rfl (Or.inl rfl) (pe_lst pa_nil)) (pss_cons (ps_set (i := 2) sc_words_of.nd rfl (Or.inl rfl) pe_int) (pss_cons (ps_set (i := 3) sc_words_of.nd rfl (Or.inl rfl) pe_bl) (pss_cons (ps_while PassesOwn.never (pt_val (pv 3)) (pss_cons (ps_set (i := 4) sc_words_of.nd rfl (Or.inl rfl) (pe_callM (ok_word_end T) (hr.mono (by decide)) rfl (pa_cons (pv 0) (pa_cons (pv 2) pa_nil)))) (pss_cons (ps_expr (pe_bm PySem.F.plainAttrs_list PySem.F.slot_list_append PySem.F.type_list_append mt_append (pv 1) (pa_cons (pe_makeM (ok_Word_init T) (hr.mono (by decide)) rfl (pa_cons (pv 2) (pa_cons (pe_slice sl_list (pv 0) (po_some (pv 2)) (po_some (pv 4))) pa_nil))) pa_nil))) (pss_cons (ps_set (i := 3) sc_words_of.nd rfl (Or.inl rfl) (pe_cmpR op_lt (pv 4) (pe_callB call_len_seq rfl T.b_len PySem.boot_len (pa_cons (pv 0) pa_nil)) (nomark _))) (pss_cons (ps_if (PW.pt (pw_and (pt_val (pv 3)) (pw_and1 (pt_cmpR op_eq (pe_ix ix_list (pv 0) (pv 4) (fun _ _ => rfl)) (pe_gi rfl T.g_LINE_END) (nomark _))))) (pss_one (ps_expr (pe_bm PySem.F.plainAttrs_list PySem.F.slot_list_append PySem.F.type_list_append mt_append (pv 1) (pa_cons (pe_makeM (ok_Word_init T) (hr.mono (by decide)) rfl (pa_cons (pv 4) (pa_cons (pe_lst (pa_cons (pe_gi rfl T.g_LINE_END) pa_nil)) pa_nil))) pa_nil)))) pss_nil) (pss_one (ps_set (i := 2) sc_words_of.nd rfl (Or.inl rfl) (pe_op op_add (pv 4) pe_int)))))))) (pss_one (ps_ret (pv 1)))))))
def sp_Reader_init (K : PySem.W.Frag) (A : Ad) : Sp := fun vs H Q _ => ∃ (p dx a : Addr) (t : List Nat), vs = [.ref p, .ref a] ∧ H p = some (.ins A.cReader dx []) ∧ Pl H ∧ H a = some (.lst (nts t)) ∧ t.length ≤ 2000 ∧ ∀ w H', But p H H' → Pl H' → RdAt A H' p w t 0 → Q .non H'
def t_Reader_init (K : PySem.W.Frag) (A : Ad) : TS := (tSeq (sFld K (tVar 0) (tCall (sp_words_of K A) [] E0 (tCons (tVar 1) tNil)) "words") (tSeq (sFld K (tVar 0) (tCB (cLen K) (tCons (tVar 1) tNil)) "size") (sFld K (tVar 0) (tC (.int 0)) "at")))
theorem pure_Reader_init {K : PySem.W.Frag} {mg : Str → Option Value} {A : Ad} (T : Txt K mg A) {vs : List V} {H : Hp} {Q : VK} {E : XK} (h : sp_Reader_init K A vs H Q E) : t_Reader_init K A { nx := fun _ H' => Q .non H', rt := Q } (start N_Reader_init vs) H := by
  obtain ⟨p, dx, a, t, rfl, hp, pl, ht, hz, q⟩ := h
  refine q_seq ?_
  refine call_nd (va_cons (val_var rfl) va_nil) ⟨a, t, rfl, pl, SqL.of ht, hz, fun w H1 hw s1 pl1 ws => ?_⟩
  refine val_var (i := 0) (v := V.ref p) rfl _ ⟨p, A.cReader, dx, [], rfl, s1 _ _ hp, T.c_Reader, T.n_Reader_words, by show 0 < 1000; decide, ?_⟩
  have hn : a ≠ p := fun z => by rw [z, hp] at ht; cases ht
  have hpa : ∀ o, SqL K (upd H1 p o) a (nts t) := fun o => SqL.of (by rw [upd_ne hn]; exact s1 _ _ ht)
  refine q_fld (val_is (val_len (val_var rfl) (hpa _)) (by rw [len_nts])) (val_var rfl) upd_same T.c_Reader T.n_Reader_size lp1 ?_
  refine st_fld val_c (val_var rfl) upd_same T.c_Reader T.n_Reader_at lp2 ?_
  rw [upd_upd, upd_upd, put3 (by decide +kernel) (by decide +kernel)]
  exact q w _ (Same.but s1).upd (pl1.upd rfl) ⟨Nat.zero_le _, dx, upd_same, ws.keep (s1 _ _ hp) (by decide) But.refl.upd⟩
theorem ok_Reader_init {P : Program} {w : World} {K : PySem.W.Frag} {mg : Str → Option Value} {base : Heap} {A : Ad} (T : Txt K mg A) : COk P w K mg base "Reader" A.cReader 4 ["self", "row"] (sp_Reader_init K A) := by
  obtain ⟨fn, fd, hm, F⟩ := T.f_Reader_init
  refine ⟨fn, fd, hm, F.ok sc_Reader_init (fun vs H Q E h => ?_) (fun cdv A' outer s H vs Q E hr h => ⟨t_Reader_init K A, ?_, pure_Reader_init T h⟩), F.binds fun _ _ _ _ _ _ us hl => match us, hl with | [_, _], _ => rfl⟩
  · obtain ⟨_, _, _, _, rfl, _⟩ := h
    rfl
  · exact (pss_cons (ps_fld (pv 0) (pe_callM (ok_words_of T) (hr.mono (by decide)) rfl (pa_cons (pv 1) pa_nil)) rfl) (pss_cons (ps_fld (pv 0) (pe_callB call_len_seq rfl T.b_len PySem.boot_len (pa_cons (pv 1) pa_nil)) rfl) (pss_one (ps_fld (pv 0) pe_int rfl))))
end HW

namespace HW
open PySem PySem.Spec PyProof.Rows L2
theorem lk_rd {w : Addr} {e i : Nat} : (rdF w e i).lookup ("words" : Str) = some (V.ref w) ∧ (rdF w e i).lookup ("size" : Str) = some (V.int (e : Int)) ∧ (rdF w e i).lookup ("at" : Str) = some (V.int (i : Int)) :=
  ⟨lk_at (ks := kR) 0 rfl (by decide +kernel) rfl, lk_at (ks := kR) 1 rfl (by decide +kernel) rfl, lk_at (ks := kR) 2 rfl (by decide +kernel) rfl⟩
theorem no_R {w : Addr} {e i : Nat} {m : Str} (h : kR.contains m = false := by decide +kernel) : (rdF w e i).lookup m = none := lk_no (ks := kR) rfl h
theorem no_W {n : Nat} {q : Addr} {m : Str} (h : kW.contains m = false := by decide +kernel) : (worF n q).lookup m = none := lk_no (ks := kW) rfl h
theorem put_at {w : Addr} {e i j : Nat} : putF "at" (.int (j : Int)) (rdF w e i) = rdF w e j := by
  rw [put_old (ks := kR) 2 rfl (by decide +kernel)]
  rfl
theorem drop_empty {α : Type} (l : List α) (i : Nat) : (l.drop i).isEmpty = decide (l.length ≤ i) := by
  by_cases h : l.length ≤ i
  · rw [List.drop_eq_nil_of_le h, decide_eq_true h]
    rfl
  · rw [List.drop_eq_getElem_cons (by omega), decide_eq_false h]
    rfl
theorem s_fault {σ : L2.St} {H : Hp} {t : TE} {C : Addr} {W : WX} {D : Ends} {p : Int} (h : Val t σ H (.int p)) (k : ∀ d, H d = none → W (.ref C) (some d) σ (upd H d (.xd [(("place" : Str), .int p)]))) : tRaiseFault C W (tCons t tNil) D σ H :=
  h _ ⟨_, rfl, k⟩
def sp0_Reader_is_end (K : PySem.W.Frag) (A : Ad) : Sp := fun vs H Q _ => ∃ (r w : Addr) (t : List Nat) (i : Nat), vs = [.ref r] ∧ RdAt A H r w t i ∧ Q (.bl (nxt t i).isEmpty) H
abbrev sp_Reader_is_end (K : PySem.W.Frag) (A : Ad) : Sp := Plain (sp0_Reader_is_end K A)
def t_Reader_is_end (K : PySem.W.Frag) (A : Ad) : TS := (tRet (tOp rEq (tFld K (tVar 0) "at") (tCB (cLen K) (tCons (tFld K (tVar 0) "words") tNil))))
theorem pure_Reader_is_end {K : PySem.W.Frag} {mg : Str → Option Value} {A : Ad} (T : Txt K mg A) {vs : List V} {H : Hp} {Q : VK} {E : XK} (pl : Pl H) (h : sp0_Reader_is_end K A vs H Q E) : t_Reader_is_end K A { nx := fun _ H' => Fg H Q .non H', rt := Fg H Q } (start N_Reader_is_end vs) H := by
  obtain ⟨r, w, t, i, rfl, ⟨le, dx, h1, ws⟩, q⟩ := h
  have ws' := ws
  obtain ⟨l, l1, l2, l3⟩ := ws'
  have hl : ((l.map fun x => V.ref x.2) : List V).length = (VbsyCore.cut 0 t).length := by rw [← l1, List.length_map, List.length_map]
  refine s_ret (val_is (val_eqI (val_fld (val_var rfl) h1 T.c_Reader T.n_Reader_at lk_rd.2.2) (val_is (val_len (val_fld (val_var rfl) h1 T.c_Reader T.n_Reader_words lk_rd.1) (SqL.of l2)) (by rw [hl]))) ?_) (Fg.same (Same.refl H) q)
  congr 1
  unfold nxt
  rw [drop_empty]
  by_cases e : i = (VbsyCore.cut 0 t).length
  · rw [e]; simp
  · rw [decide_eq_false (by omega), decide_eq_false (by omega)]
theorem ok_Reader_is_end {P : Program} {w : World} {K : PySem.W.Frag} {mg : Str → Option Value} {base : Heap} {A : Ad} (T : Txt K mg A) : MOk P w K mg base CX0 A.cReader "is_end" 1 ["self"] (sp_Reader_is_end K A) := by
  obtain ⟨fn, fd, hm, F⟩ := T.f_Reader_is_end
  refine ⟨fn, fd, hm, fun_okG F sc_Reader_is_end (fun vs H Q E h => ?_) (fun cdv A' outer s H vs Q E hr pl h => ⟨t_Reader_is_end K A, ?_, pure_Reader_is_end T pl h⟩), F.binds fun _ _ _ _ _ _ us hl => match us, hl with | [_], _ => rfl⟩
  · obtain ⟨_, _, _, _, rfl, _⟩ := h
    rfl
  · exact (pss_one (ps_ret (pe_cmpR op_eq (pe_fld (pv 0) rfl) (pe_callB call_len_seq rfl T.b_len PySem.boot_len (pa_cons (pe_fld (pv 0) rfl) pa_nil)) (nomark _))))
def sp_Reader_ask (K : PySem.W.Frag) (A : Ad) : Sp := fun vs H Q E => ∃ (r w : Addr) (t : List Nat) (i : Nat) (b : Bool), vs = [.ref r, .bl b] ∧ Pl H ∧ RdAt A H r w t i ∧ (b = true → Q .non H) ∧ (b = false → RdE A H r E (VbsyCore.placeOf t.length (nxt t i)))
def t_Reader_ask (K : PySem.W.Frag) (A : Ad) (E : XK) : TS := (tIfS (tNot (tB (tVar 1))) (tSeq (tIfS (tB (tMeth A.cReader "is_end" (sp_Reader_is_end K A) [] E0 (tVar 0) tNil)) (tRaiseFault A.cFault (fun cls d _ H => E cls d H) (tCons (tFld K (tVar 0) "size") tNil)) tNext) (tRaiseFault A.cFault (fun cls d _ H => E cls d H) (tCons (tFld K (tOp (rIxL K) (tFld K (tVar 0) "words") (tFld K (tVar 0) "at")) "place") tNil))) tNext)
theorem pure_Reader_ask {K : PySem.W.Frag} {mg : Str → Option Value} {A : Ad} (T : Txt K mg A) {vs : List V} {H : Hp} {Q : VK} {E : XK} (h : sp_Reader_ask K A vs H Q E) : t_Reader_ask K A E { nx := fun _ H' => Q .non H', rt := Q } (start N_Reader_ask vs) H := by
  obtain ⟨r, w, t, i, b, rfl, pl, R, q1, q2⟩ := h
  refine s_if (an_not (an_B (val_var rfl))) (fun hb => ?_) fun hb => ?_
  · have hb : b = false := by simpa using hb
    have q2 := q2 hb
    have R' := R
    obtain ⟨le, dx, h1, ws⟩ := R'
    refine q_when (an_B (val_meth (val_var rfl) h1 no_R va_nil fun Q q => ⟨pl, r, w, t, i, rfl, R, q⟩)) (fun he => ?_) fun he => ?_
    · refine s_fault (val_fld (val_var rfl) h1 T.c_Reader T.n_Reader_size lk_rd.2.1) fun d hd => ?_
      have e : VbsyCore.placeOf t.length (nxt t i) = t.length := by
        rw [List.isEmpty_iff.mp he]
        rfl
      rw [e] at q2
      exact q2 d _ (Same.but (same_new hd)) (pl.upd rfl) upd_same
    · have hil : i < (VbsyCore.cut 0 t).length := by
        unfold nxt at he
        rw [drop_empty, decide_eq_false_iff_not] at he
        omega
      have ex := List.getElem?_eq_getElem hil
      obtain ⟨xs, a, x1, x2, x3, dy, y, y1, y2, _⟩ := RdAt.word ws ex
      refine s_fault (val_fld (val_ixL (val_fld (val_var rfl) h1 T.c_Reader T.n_Reader_words lk_rd.1) (val_fld (val_var rfl) h1 T.c_Reader T.n_Reader_at lk_rd.2.2) (SqL.of x1) (atI_nat x3)) y1 T.c_Word T.n_Word_place (v := .int (((VbsyCore.cut 0 t)[i].1 : Nat) : Int)) (lk_at (ks := kW) 0 rfl (by decide +kernel) rfl)) fun d hd => ?_
      have e : VbsyCore.placeOf t.length (nxt t i) = (VbsyCore.cut 0 t)[i].1 := by
        unfold nxt
        rw [List.drop_eq_getElem_cons hil]
        rfl
      rw [e] at q2
      exact q2 d _ (Same.but (same_new hd)) (pl.upd rfl) upd_same
  · exact q1 (by simpa using hb)
theorem ok_Reader_ask {P : Program} {w : World} {K : PySem.W.Frag} {mg : Str → Option Value} {base : Heap} {A : Ad} (T : Txt K mg A) : MOk P w K mg base (L2.CX P w) A.cReader "ask" 3 ["self", "good"] (sp_Reader_ask K A) := by
  obtain ⟨fn, fd, hm, F⟩ := T.f_Reader_ask
  refine ⟨fn, fd, hm, F.okX sc_Reader_ask (fun vs H Q E h => ?_) (fun cdv A' outer s H vs Q E hr h => ⟨t_Reader_ask K A E, ?_, pure_Reader_ask T h⟩), F.binds fun _ _ _ _ _ _ us hl => match us, hl with | [_, _], _ => rfl⟩
  · obtain ⟨_, _, _, _, _, rfl, _⟩ := h
    rfl
  · exact (pss_one (ps_if (pt_not (pt_val (pv 1))) (pss_cons (ps_if (pt_val (pe_methM0 (pv 0) T.c_Reader (ok_Reader_is_end T) (hr.mono (by decide)))) (pss_one (ps_raiseFault rfl T.fault hr (takes_of rfl rfl rfl rfl) (pa_cons (pe_fld (pv 0) rfl) pa_nil))) pss_nil) (pss_one (ps_raiseFault rfl T.fault hr (takes_of rfl rfl rfl rfl) (pa_cons (pe_fld (pe_ix ix_list (pe_fld (pv 0) rfl) (pe_fld (pv 0) rfl) (fun _ _ => rfl)) rfl) pa_nil)))) pss_nil))
def sp0_Reader_is_next (K : PySem.W.Frag) (A : Ad) : Sp := fun vs H Q _ => ∃ (r a w : Addr) (t : List Nat) (i : Nat) (m : List Nat), vs = [.ref r, .ref a] ∧ RdAt A H r w t i ∧ SqL K H a (nts m) ∧ Q (.bl (VbsyCore.ahead m (nxt t i))) H
abbrev sp_Reader_is_next (K : PySem.W.Frag) (A : Ad) : Sp := Plain (sp0_Reader_is_next K A)
def t_Reader_is_next (K : PySem.W.Frag) (A : Ad) : TS := (tRet (tAndV (tNotV (tMeth A.cReader "is_end" (sp_Reader_is_end K A) [] E0 (tVar 0) tNil)) (tOp (rEqD K) (tFld K (tOp (rIxL K) (tFld K (tVar 0) "words") (tFld K (tVar 0) "at")) "row") (tVar 1))))
theorem pure_Reader_is_next {K : PySem.W.Frag} {mg : Str → Option Value} {A : Ad} (T : Txt K mg A) {vs : List V} {H : Hp} {Q : VK} {E : XK} (pl : Pl H) (h : sp0_Reader_is_next K A vs H Q E) : t_Reader_is_next K A { nx := fun _ H' => Fg H Q .non H', rt := Fg H Q } (start N_Reader_is_next vs) H := by
  obtain ⟨r, a, w, t, i, m, rfl, R, ha, q⟩ := h
  have R' := R
  obtain ⟨le, dx, h1, ws⟩ := R'
  by_cases hil : i < (VbsyCore.cut 0 t).length
  · have ex := List.getElem?_eq_getElem hil
    obtain ⟨xs, a', x1, x2, x3, dy, y, y1, y2, _⟩ := RdAt.word ws ex
    have he : (nxt t i).isEmpty = false := by
      unfold nxt
      rw [drop_empty]
      exact decide_eq_false (by omega)
    refine s_ret (val_is (val_and (a := true) (val_is (val_not (val_meth (z := .bl (nxt t i).isEmpty) (val_var rfl) h1 no_R va_nil fun Q q => ⟨pl, r, w, t, i, rfl, R, q⟩)) (by rw [he]; rfl)) fun _ => val_eqL (val_fld (val_ixL (val_fld (val_var rfl) h1 T.c_Reader T.n_Reader_words lk_rd.1) (val_fld (val_var rfl) h1 T.c_Reader T.n_Reader_at lk_rd.2.2) (SqL.of x1) (atI_nat x3)) y1 T.c_Word T.n_Word_row (lk_at (ks := kW) 1 rfl (by decide +kernel) rfl)) (val_var rfl) (SqL.of y2) ha) ?_) (Fg.same (Same.refl H) q)
    unfold nxt
    rw [List.drop_eq_getElem_cons hil]
    rfl
  · have hn : nxt t i = [] := List.drop_eq_nil_of_le (by omega)
    refine s_ret (val_is (val_and (a := false) (b := true) (val_is (val_not (val_meth (z := .bl (nxt t i).isEmpty) (val_var rfl) h1 no_R va_nil fun Q q => ⟨pl, r, w, t, i, rfl, R, q⟩)) (by rw [hn]; rfl)) nofun) ?_) (Fg.same (Same.refl H) q)
    rw [hn]
    rfl
theorem ok_Reader_is_next {P : Program} {w : World} {K : PySem.W.Frag} {mg : Str → Option Value} {base : Heap} {A : Ad} (T : Txt K mg A) : MOk P w K mg base CX0 A.cReader "is_next" 2 ["self", "row"] (sp_Reader_is_next K A) := by
  obtain ⟨fn, fd, hm, F⟩ := T.f_Reader_is_next
  refine ⟨fn, fd, hm, fun_okG F sc_Reader_is_next (fun vs H Q E h => ?_) (fun cdv A' outer s H vs Q E hr pl h => ⟨t_Reader_is_next K A, ?_, pure_Reader_is_next T pl h⟩), F.binds fun _ _ _ _ _ _ us hl => match us, hl with | [_, _], _ => rfl⟩
  · obtain ⟨_, _, _, _, _, _, rfl, _⟩ := h
    rfl
  · exact (pss_one (ps_ret (pe_and (pe_not (pe_methM0 (pv 0) T.c_Reader (ok_Reader_is_end T) (hr.mono (by decide)))) (pe_one (pe_cmpR (op_eqD (hu64 hr)) (pe_fld (pe_ix ix_list (pe_fld (pv 0) rfl) (pe_fld (pv 0) rfl) (fun _ _ => rfl)) rfl) (pv 1) (nomark _))))))
def sp_Reader_take (K : PySem.W.Frag) (A : Ad) : Sp := fun vs H Q _ => ∃ (r w : Addr) (t : List Nat) (i : Nat), vs = [.ref r] ∧ Pl H ∧ RdAt A H r w t i ∧ i < (VbsyCore.cut 0 t).length ∧ RdQ A H r w t (i + 1) Q .non
def t_Reader_take (K : PySem.W.Frag) (A : Ad) : TS := (sFld K (tVar 0) (tOp rAddI (tFld K (tVar 0) "at") (tC (.int 1))) "at")
theorem pure_Reader_take {K : PySem.W.Frag} {mg : Str → Option Value} {A : Ad} (T : Txt K mg A) {vs : List V} {H : Hp} {Q : VK} {E : XK} (h : sp_Reader_take K A vs H Q E) : t_Reader_take K A { nx := fun _ H' => Q .non H', rt := Q } (start N_Reader_take vs) H := by
  obtain ⟨r, w, t, i, rfl, pl, R, hi, q⟩ := h
  have R' := R
  obtain ⟨le, dx, h1, ws⟩ := R'
  refine st_fld (val_is (val_add (val_fld (val_var rfl) h1 T.c_Reader T.n_Reader_at lk_rd.2.2) val_c) rfl) (val_var rfl) h1 T.c_Reader T.n_Reader_at (by show 3 < 1000; decide) ?_
  have e : putF "at" (.int ((i : Int) + 1)) (rdF w t.length i) = rdF w t.length (i + 1) := put_at (j := i + 1)
  rw [e]
  exact q _ But.refl.upd (pl.upd rfl) (R.on But.refl.upd (by omega) upd_same)
theorem ok_Reader_take {P : Program} {w : World} {K : PySem.W.Frag} {mg : Str → Option Value} {base : Heap} {A : Ad} (T : Txt K mg A) : MOk P w K mg base CX0 A.cReader "take" 1 ["self"] (sp_Reader_take K A) := by
  obtain ⟨fn, fd, hm, F⟩ := T.f_Reader_take
  refine ⟨fn, fd, hm, F.ok sc_Reader_take (fun vs H Q E h => ?_) (fun cdv A' outer s H vs Q E hr h => ⟨t_Reader_take K A, ?_, pure_Reader_take T h⟩), F.binds fun _ _ _ _ _ _ us hl => match us, hl with | [_], _ => rfl⟩
  · obtain ⟨_, _, _, _, rfl, _⟩ := h
    rfl
  · exact (pss_one (ps_fld (pv 0) (pe_op op_add (pe_fld (pv 0) rfl) pe_int) rfl))
end HW

namespace HW
open PySem PySem.Spec PyProof.Rows L2
section
variable {K : PySem.W.Frag} {mg : Str → Option Value} {A : Ad} {σ : L2.St} {H : Hp} {tr te tb tc : TE} {D : Ends} {t1 t2 : TS} {E : XK} {r w : Addr} {t : List Nat} {i j : Nat}
theorem r_next {m : List Nat} (pl : Pl H) (R : RdAt A H r w t i) (hr : Val tr σ H (.ref r)) (hb : New tb σ H (nts m)) : GVal (tMeth A.cReader "is_next" (sp_Reader_is_next K A) [] E0 tr (tCons tb tNil)) σ H (.bl (VbsyCore.ahead m (nxt t i))) := fun Q q => by
  obtain ⟨le, dx, h1, ws⟩ := id R
  exact hr _ ⟨r, dx, _, rfl, h1, no_R, hb _ fun p hp => ⟨pl.upd rfl, r, p, w, t, i, m, rfl, R.same (same_new hp), SqL.of upd_same, q _ (same_new hp) (pl.upd rfl)⟩⟩
theorem r_end (pl : Pl H) (R : RdAt A H r w t i) (hr : Val tr σ H (.ref r)) : Val (tMeth A.cReader "is_end" (sp_Reader_is_end K A) [] E0 tr tNil) σ H (.bl (nxt t i).isEmpty) := by
  obtain ⟨le, dx, h1, ws⟩ := id R
  exact val_meth hr h1 no_R va_nil fun Q q => ⟨pl, r, w, t, i, rfl, R, q⟩
theorem g_and {a b : Bool} (h : GVal tb σ H (.bl a)) (h2 : ∀ H1, Same H H1 → Pl H1 → Val tc σ H1 (.bl b)) : GVal (tAndV tb tc) σ H (.bl (a && b)) := fun Q q => h _ fun H1 s1 pl1 => ⟨a, rfl, by
  cases a with
  | true => exact h2 H1 s1 pl1 _ (q H1 s1 pl1)
  | false => exact q H1 s1 pl1⟩
theorem g_of {v : V} (pl : Pl H) (h : Val te σ H v) : GVal te σ H v := fun Q q => h Q (q H (Same.refl H) pl)
/-- reader.ask(..) -/
theorem r_ask {b : Bool} {Q : VK} (R : RdAt A H r w t i) (hr : Val tr σ H (.ref r)) (he : GVal te σ H (.bl b)) (q1 : b = true → ∀ H1, Same H H1 → Pl H1 → Q .non H1) (q2 : b = false → RdE A H r E (VbsyCore.placeOf t.length (nxt t i))) :
    tMeth A.cReader "ask" (sp_Reader_ask K A) [] E tr (tCons te tNil) σ H Q := by
  obtain ⟨le, dx, h1, ws⟩ := id R
  exact hr _ ⟨r, dx, _, rfl, h1, no_R, he _ fun H1 s1 pl1 => ⟨r, w, t, i, b, rfl, pl1, R.same s1, fun hb => q1 hb H1 s1 pl1, fun hb => (q2 hb).on (Same.but s1)⟩⟩
theorem q_ask {b : Bool} (R : RdAt A H r w t i) (hr : Val tr σ H (.ref r)) (he : GVal te σ H (.bl b)) (q1 : b = true → ∀ H1, Same H H1 → Pl H1 → RdAt A H1 r w t i → t2 D σ H1) (q2 : b = false → RdE A H r E (VbsyCore.placeOf t.length (nxt t i))) :
    tSeq (tDrop (tMeth A.cReader "ask" (sp_Reader_ask K A) [] E tr (tCons te tNil))) t2 D σ H := r_ask R hr he (fun hb H1 s1 pl1 => q1 hb H1 s1 pl1 (R.same s1)) q2
theorem r_take {Q : VK} (pl : Pl H) (R : RdAt A H r w t i) (hi : i < (VbsyCore.cut 0 t).length) (hr : Val tr σ H (.ref r)) (q : RdQ A H r w t (i + 1) Q .non) : tMeth A.cReader "take" (sp_Reader_take K A) [] E0 tr tNil σ H Q := by
  obtain ⟨le, dx, h1, ws⟩ := id R
  exact hr _ ⟨r, dx, _, rfl, h1, no_R, r, w, t, i, rfl, pl, R, hi, q⟩
theorem q_take (pl : Pl H) (R : RdAt A H r w t i) (hi : i < (VbsyCore.cut 0 t).length) (hr : Val tr σ H (.ref r)) (k : ∀ H1, But r H H1 → Pl H1 → RdAt A H1 r w t (i + 1) → t2 D σ H1) :
    tSeq (tDrop (tMeth A.cReader "take" (sp_Reader_take K A) [] E0 tr tNil)) t2 D σ H := r_take pl R hi hr k
theorem nxt_lt {b : List Nat} (h : VbsyCore.ahead b (nxt t i) = true) : i < (VbsyCore.cut 0 t).length := by
  by_cases z : i < (VbsyCore.cut 0 t).length
  · exact z
  · have : nxt t i = [] := List.drop_eq_nil_of_le (by omega)
    rw [this] at h
    cases h
theorem nxt_at (h : i < (VbsyCore.cut 0 t).length) : nxt t i = (VbsyCore.cut 0 t)[i] :: nxt t (i + 1) := List.drop_eq_getElem_cons h
theorem nxt_tail : (nxt t i).tail = nxt t (i + 1) := by
  unfold nxt
  rw [List.tail_drop]
theorem nw_bytesOf {z : Str} (pl : Pl H) (h : Val te σ H (.str z)) (hz : z.cps.size ≤ 1000) : New (tCall (sp_bytes_of K A) [] E0 (tCons te tNil)) σ H (nts z.cps.toList) := nw_call (va_cons h va_nil) fun Q q => ⟨pl, z, rfl, hz, q⟩
end
def sp_Reader_want (K : PySem.W.Frag) (A : Ad) : Sp := fun vs H Q E => ∃ (r w : Addr) (z : Str) (t : List Nat) (i : Nat), vs = [.ref r, .str z] ∧ Pl H ∧ RdAt A H r w t i ∧ z.cps.size ≤ 1000 ∧ (VbsyCore.ahead z.cps.toList (nxt t i) = true → RdQ A H r w t (i + 1) Q .non) ∧ (VbsyCore.ahead z.cps.toList (nxt t i) = false → RdE A H r E (VbsyCore.placeOf t.length (nxt t i)))
def t_Reader_want (K : PySem.W.Frag) (A : Ad) (E : XK) : TS := (tSeq (tDrop (tMeth A.cReader "ask" (sp_Reader_ask K A) [] E (tVar 0) (tCons (tMeth A.cReader "is_next" (sp_Reader_is_next K A) [] E0 (tVar 0) (tCons (tCall (sp_bytes_of K A) [] E0 (tCons (tVar 1) tNil)) tNil)) tNil))) (tDrop (tMeth A.cReader "take" (sp_Reader_take K A) [] E0 (tVar 0) tNil)))
theorem pure_Reader_want {K : PySem.W.Frag} {mg : Str → Option Value} {A : Ad} (T : Txt K mg A) {vs : List V} {H : Hp} {Q : VK} {E : XK} (h : sp_Reader_want K A vs H Q E) : t_Reader_want K A E { nx := fun _ H' => Q .non H', rt := Q } (start N_Reader_want vs) H := by
  obtain ⟨r, w, z, t, i, rfl, pl, R, hz, q1, q2⟩ := h
  refine q_ask R (val_var rfl) (r_next pl R (val_var rfl) (nw_bytesOf pl (val_var rfl) hz)) (fun hb H1 s1 pl1 R1 => ?_) q2
  exact r_take pl1 R1 (nxt_lt hb) (val_var rfl) ((q1 hb).on (Same.but s1))
theorem ok_Reader_want {P : Program} {w : World} {K : PySem.W.Frag} {mg : Str → Option Value} {base : Heap} {A : Ad} (T : Txt K mg A) : MOk P w K mg base (L2.CX P w) A.cReader "want" 4 ["self", "text"] (sp_Reader_want K A) := by
  obtain ⟨fn, fd, hm, F⟩ := T.f_Reader_want
  refine ⟨fn, fd, hm, F.okX sc_Reader_want (fun vs H Q E h => ?_) (fun cdv A' outer s H vs Q E hr h => ⟨t_Reader_want K A E, ?_, pure_Reader_want T h⟩), F.binds fun _ _ _ _ _ _ us hl => match us, hl with | [_, _], _ => rfl⟩
  · obtain ⟨_, _, _, _, _, rfl, _⟩ := h
    rfl
  · exact (pss_cons (ps_expr (pe_methMX (pv 0) T.c_Reader (ok_Reader_ask T) (hr.mono (by decide)) (passes_call (takes_of rfl rfl rfl rfl) (fun _ _ _ _ h => h)) (pa_cons (pe_methM (pv 0) T.c_Reader (ok_Reader_is_next T) (hr.mono (by decide)) (pa_cons (pe_callM (ok_bytes_of T) (hr.mono (by decide)) rfl (pa_cons (pv 1) pa_nil)) pa_nil)) pa_nil))) (pss_one (ps_expr (pe_methM0 (pv 0) T.c_Reader (ok_Reader_take T) (hr.mono (by decide))))))
def sp_Reader_want_number (K : PySem.W.Frag) (A : Ad) : Sp := fun vs H Q E => ∃ (r w : Addr) (lo hi : Nat) (t : List Nat) (i : Nat), vs = [.ref r, .int (lo : Int), .int (hi : Int)] ∧ Pl H ∧ RdAt A H r w t i ∧ (∀ n, HF.numOk lo hi (nxt t i) = some n → RdQ A H r w t (i + 1) Q (.int (n : Int))) ∧ (HF.numOk lo hi (nxt t i) = none → RdE A H r E (VbsyCore.placeOf t.length (nxt t i)))
def t_Reader_want_number (K : PySem.W.Frag) (A : Ad) (E : XK) : TS := (tSeq (tDrop (tMeth A.cReader "ask" (sp_Reader_ask K A) [] E (tVar 0) (tCons (tNotV (tMeth A.cReader "is_end" (sp_Reader_is_end K A) [] E0 (tVar 0) tNil)) tNil))) (tSeq (tAsg (tMeth A.cWord "number" (sp_Word_number K A) [] E0 (tOp (rIxL K) (tFld K (tVar 0) "words") (tFld K (tVar 0) "at")) tNil) (gName 3)) (tSeq (tDrop (tMeth A.cReader "ask" (sp_Reader_ask K A) [] E (tVar 0) (tCons (tAndV (tOp rLeI (tVar 1) (tVar 3)) (tOp rLeI (tVar 3) (tVar 2))) tNil))) (tSeq (tDrop (tMeth A.cReader "take" (sp_Reader_take K A) [] E0 (tVar 0) tNil)) (tRet (tVar 3))))))
theorem pure_Reader_want_number {K : PySem.W.Frag} {mg : Str → Option Value} {A : Ad} (T : Txt K mg A) {vs : List V} {H : Hp} {Q : VK} {E : XK} (h : sp_Reader_want_number K A vs H Q E) : t_Reader_want_number K A E { nx := fun _ H' => Q .non H', rt := Q } (start N_Reader_want_number vs) H := by
  obtain ⟨r, w, lo, hi, t, i, rfl, pl, R, q1, q2⟩ := h
  refine q_ask R (val_var rfl) (g_of pl (val_not (r_end pl R (val_var rfl)))) (fun hb H1 s1 pl1 R1 => ?_) fun hb => q2 ?_
  · have hil : i < (VbsyCore.cut 0 t).length := by
      unfold nxt at hb
      rw [drop_empty] at hb
      simp at hb
      exact hb
    have en := nxt_at hil
    have ex := List.getElem?_eq_getElem hil
    generalize (VbsyCore.cut 0 t)[i] = wo at en ex
    obtain ⟨le, dx, h1, ws⟩ := id R1
    obtain ⟨xs, a', x1, x2, x3, W⟩ := RdAt.word ws ex
    obtain ⟨dy, y, y1, y2, _⟩ := id W
    refine q_set (val_meth (z := .int (HF.wnum wo.2)) (val_ixL (val_fld (val_var rfl) h1 T.c_Reader T.n_Reader_words lk_rd.1) (val_fld (val_var rfl) h1 T.c_Reader T.n_Reader_at lk_rd.2.2) (SqL.of x1) (atI_nat x3)) y1 no_W va_nil fun Q q => ⟨pl1, a', wo, rfl, W, q⟩) ?_
    refine q_ask R1 (val_var rfl) (g_of pl1 (val_and (val_cmp (val_var rfl) (val_var rfl)) fun _ => val_cmp (val_var rfl) (val_var rfl))) (fun hb2 H2 s2 pl2 R2 => ?_) fun hb2 => ?_
    · simp only [Bool.and_eq_true, decide_eq_true_eq] at hb2
      have e : HF.numOk lo hi (nxt t i) = some (HF.wnum wo.2).toNat := by rw [en]; exact if_pos hb2
      refine q_take pl2 R2 hil (val_var rfl) fun H3 b3 pl3 R3 => ?_
      have q3 := q1 _ e H3 ((Same.but (s1.trans s2)).trans b3) pl3 R3
      rw [show (((HF.wnum wo.2).toNat : Nat) : Int) = HF.wnum wo.2 by omega] at q3
      exact s_ret (val_var rfl) q3
    · simp only [Bool.and_eq_false_iff, decide_eq_false_iff_not] at hb2
      refine (q2 ?_).on (Same.but s1)
      rw [en]
      exact if_neg (by omega)
  · have : nxt t i = [] := by
      rw [← List.isEmpty_iff]
      simpa using hb
    rw [this]
    rfl
theorem ok_Reader_want_number {P : Program} {w : World} {K : PySem.W.Frag} {mg : Str → Option Value} {base : Heap} {A : Ad} (T : Txt K mg A) : MOk P w K mg base (L2.CX P w) A.cReader "want_number" 4 ["self", "least", "most"] (sp_Reader_want_number K A) := by
  obtain ⟨fn, fd, hm, F⟩ := T.f_Reader_want_number
  refine ⟨fn, fd, hm, F.okX sc_Reader_want_number (fun vs H Q E h => ?_) (fun cdv A' outer s H vs Q E hr h => ⟨t_Reader_want_number K A E, ?_, pure_Reader_want_number T h⟩), F.binds fun _ _ _ _ _ _ us hl => match us, hl with | [_, _, _], _ => rfl⟩
  · obtain ⟨_, _, _, _, _, _, rfl, _⟩ := h
    rfl
  · exact (pss_cons (ps_expr (pe_methMX (pv 0) T.c_Reader (ok_Reader_ask T) (hr.mono (by decide)) (passes_call (takes_of rfl rfl rfl rfl) (fun _ _ _ _ h => h)) (pa_cons (pe_not (pe_methM0 (pv 0) T.c_Reader (ok_Reader_is_end T) (hr.mono (by decide)))) pa_nil))) (pss_cons (ps_set (i := 3) sc_Reader_want_number.nd rfl (Or.inl rfl) (pe_methM0 (pe_ix ix_list (pe_fld (pv 0) rfl) (pe_fld (pv 0) rfl) (fun _ _ => rfl)) T.c_Word (ok_Word_number T) (hr.mono (by decide)))) (pss_cons (ps_expr (pe_methMX (pv 0) T.c_Reader (ok_Reader_ask T) (hr.mono (by decide)) (passes_call (takes_of rfl rfl rfl rfl) (fun _ _ _ _ h => h)) (pa_cons (pe_and (pe_cmpR op_le (pv 1) (pv 3) (nomark _)) (pe_one (pe_cmpR op_le (pv 3) (pv 2) (nomark _)))) pa_nil))) (pss_cons (ps_expr (pe_methM0 (pv 0) T.c_Reader (ok_Reader_take T) (hr.mono (by decide)))) (pss_one (ps_ret (pv 3)))))))
end HW

namespace HW
open PySem PySem.Spec PyProof.Rows L2
section
variable {K : PySem.W.Frag} {mg : Str → Option Value} {A : Ad} {σ : L2.St} {H H' : Hp} {tr te tb tc tl : TE} {D : Ends} {t1 t2 : TS} {E : XK} {r w a : Addr} {t : List Nat} {i j k : Nat} {xs : List V} {f : Vbsyae.Field}
theorem walk_enumT : L2.Walk (IteT K a) xs.length (fun H => SqT K H a xs) (YPair (fun i => some (.int (i : Nat))) (fun i => xs[i]?)) := by
  refine ⟨fun i _ hi q => ⟨xs, xs[i], q, by simp [hi]⟩, fun _ q => ⟨xs, q, rfl⟩, fun i H v H' _ q y => ?_⟩
  obtain ⟨T, x, h1, h2, h3, h4⟩ := y
  exact ⟨T, .int (i : Nat), x, h1, h2, h3, rfl, h4 xs q⟩
/-- for i, x in enumerate(a tuple of the top) -/
theorem q_forET (h : Val tl σ H (.ref a)) (hx : ∀ H, SqT K H a xs) (Pv : Nat → L2.St → Hp → Prop) (h0 : Pv 0 σ H)
    (hs : ∀ i x σ' H' T, xs[i]? = some x → Pv i σ' H' → H' T = none → t1 { D with nx := Pv (i + 1), ct := Pv (i + 1), bk := t2 D } ((σ'.set j (some (.int (i : Nat)))).set k (some x)) (upd H' T (.tup [.int (i : Nat), x]))) (hd : ∀ σ' H', Pv xs.length σ' H' → t2 D σ' H') :
    tSeq (tFor (iEnumT K (tCons tl tNil)) (gTup K 2 (gCons (gName j) (gCons (gName k) gNil))) t1) t2 D σ H :=
  h _ ⟨a, xs, rfl, hx H, for_it (D := { D with nx := t2 D }) walk_enumT Pv h0 (fun _ _ _ _ _ => hx _) (fun i x σ' H' H2 hi p y => by
    obtain ⟨T, u, v, rfl, hT, rfl, h1, h2⟩ := y
    obtain rfl := Option.some.inj h1
    exact g_pair (SqT.of upd_same) (hs i v σ' H' T h2 p hT)) hd⟩
theorem s_setAt {tp ti tv : TE} {p : Addr} {v : V} (h1 : Val tv σ H v) (h2 : Val tp σ H (.ref p)) (h3 : Val ti σ H (.int (i : Int))) (hp : H p = some (.lst xs)) (hi : i < xs.length) (k : D.nx σ (upd H p (.lst (xs.set i v)))) : tAsg tv (gSub tp ti rSetL) D σ H :=
  h1 _ (h2 _ (h3 _ ⟨p, xs, i, i, rfl, rfl, hp, Evl.ixN_nat hi, k⟩))
theorem But.new {q : Addr} {o : HO} {H H1 : Hp} (b : But r H H1) (n : H q = none) : But r H (L2.upd H1 q o) := fun x u e hx => by
  rw [upd_ne (ne_of_none e n)]
  exact b x u e hx
theorem FieldAt.keep (F : FieldAt A H a f) (R : RdAt A H r w t i) (b : But r H H') : FieldAt A H' a f := by
  obtain ⟨g, dx, wl, h1, h2⟩ := F
  obtain ⟨_, dr, e, _⟩ := R
  refine ⟨g, dx, wl, b _ _ h1 fun z => ?_, b _ _ h2 fun z => by rw [z, e] at h2; cases h2⟩
  rw [z, e] at h1
  have := Option.some.inj h1
  injection this with _ _ z2
  have := congrArg (List.map Prod.fst) z2
  exact absurd this (by show kR ≠ kF; decide +kernel)
theorem DaysAt.keep {p : Addr} {days : List Vbsyae.Fold} (h : DaysAt A H p days) (R : RdAt A H r w t i) (b : But r H H') : DaysAt A H' p days := by
  obtain ⟨_, dr, e, _⟩ := R
  obtain ⟨l, l1, l2, l3⟩ := h
  refine ⟨l, l1, b _ _ l2 (fun z => by rw [z, e] at l2; exact nomatch l2), fun x hx => ?_⟩
  obtain ⟨dx, h1⟩ := l3 x hx
  refine ⟨dx, b _ _ h1 fun z => ?_⟩
  rw [z, e] at h1
  have := Option.some.inj h1
  injection this with _ _ z2
  have := congrArg (List.map Prod.fst) z2
  exact absurd this (by show kR ≠ kD; decide +kernel)
theorem q_want {z : Str} {b : List Nat} (pl : Pl H) (R : RdAt A H r w t i) (hr : Val tr σ H (.ref r)) (hb : Val tb σ H (.str z)) (hz : z.cps.size ≤ 1000) (ez : z.cps.toList = b) (q1 : VbsyCore.ahead b (nxt t i) = true → ∀ H1, But r H H1 → Pl H1 → RdAt A H1 r w t (i + 1) → t2 D σ H1)
    (q2 : VbsyCore.ahead b (nxt t i) = false → RdE A H r E (VbsyCore.placeOf t.length (nxt t i))) : tSeq (tDrop (tMeth A.cReader "want" (sp_Reader_want K A) [] E tr (tCons tb tNil))) t2 D σ H := by
  subst ez
  obtain ⟨le, dx, h1, ws⟩ := id R
  exact hr _ ⟨r, dx, _, rfl, h1, no_R, hb _ ⟨r, w, z, t, i, rfl, pl, R, hz, q1, q2⟩⟩
theorem q_wantN {lo hi : Nat} (pl : Pl H) (R : RdAt A H r w t i) (hr : Val tr σ H (.ref r)) (hb : Val tb σ H (.int (lo : Int))) (hc : Val tc σ H (.int (hi : Int))) (q1 : ∀ n, HF.numOk lo hi (nxt t i) = some n → ∀ H1, But r H H1 → Pl H1 → RdAt A H1 r w t (i + 1) → t2 D (σ.set j (some (.int (n : Int)))) H1)
    (q2 : HF.numOk lo hi (nxt t i) = none → RdE A H r E (VbsyCore.placeOf t.length (nxt t i))) : tSeq (tAsg (tMeth A.cReader "want_number" (sp_Reader_want_number K A) [] E tr (tCons tb (tCons tc tNil))) (gName j)) t2 D σ H := by
  obtain ⟨le, dx, h1, ws⟩ := id R
  exact hr _ ⟨r, dx, _, rfl, h1, no_R, hb _ (hc _ ⟨r, w, lo, hi, t, i, rfl, pl, R, q1, q2⟩)⟩
end
theorem mk_nd {σ : L2.St} {H : Hp} {t : TA} {C : Addr} {sp : Sp} {E : XK} {Q : VK} {vs : List V} (h : ValA t σ H vs) (k : ∀ x dx, H x = none → H dx = none → dx ≠ x → sp (.ref x :: vs) (upd (upd H dx (.own x)) x (.ins C dx [])) (fun v H2 => v = .non ∧ Q (.ref x) H2) E) : tMake C sp [] E t σ H Q :=
  h _ fun x dx hx hd hn => by
    rw [List.append_nil]
    exact k x dx hx hd hn
theorem s_retMk {σ : L2.St} {H : Hp} {t : TA} {C : Addr} {sp : Sp} {E : XK} {D : Ends} {vs : List V} (h : ValA t σ H vs) (k : ∀ x dx, H x = none → H dx = none → dx ≠ x → sp (.ref x :: vs) (upd (upd H dx (.own x)) x (.ins C dx [])) (fun v H2 => v = .non ∧ D.rt (.ref x) H2) E) : tRet (tMake C sp [] E t) D σ H := mk_nd h k
def sp_read_walls (K : PySem.W.Frag) (A : Ad) : Sp := fun vs H Q _ => ∃ (r w : Addr) (t : List Nat) (i : Nat), vs = [.ref r] ∧ Pl H ∧ RdAt A H r w t i ∧ ∀ wl i' H', H wl = none → But r H H' → Pl H' → RdAt A H' r w t i' → H' wl = some (.lst (bls (HF.wrun HF.NAMES (HF.l0, nxt t i)).1)) → (HF.wrun HF.NAMES (HF.l0, nxt t i)).1.length = 4 → nxt t i' = (HF.wrun HF.NAMES (HF.l0, nxt t i)).2 → Q (.ref wl) H'
def t_read_walls (K : PySem.W.Frag) (A : Ad) : TS := (tSeq (tAsg (tLst (tCons (tC (.bl false)) (tCons (tC (.bl false)) (tCons (tC (.bl false)) (tCons (tC (.bl false)) tNil))))) (gName 1)) (tSeq (tFor (iEnumT K (tCons (tC (.ref A.t_SIDE_WORDS)) tNil)) (gTup K 2 (gCons (gName 2) (gCons (gName 3) gNil))) (tIfS (tB (tMeth A.cReader "is_next" (sp_Reader_is_next K A) [] E0 (tVar 0) (tCons (tCall (sp_bytes_of K A) [] E0 (tCons (tVar 3) tNil)) tNil))) (tSeq (tDrop (tMeth A.cReader "take" (sp_Reader_take K A) [] E0 (tVar 0) tNil)) (tAsg (tC (.bl true)) (gSub (tVar 1) (tVar 2) rSetL))) tNext)) (tRet (tVar 1))))
theorem pure_read_walls {K : PySem.W.Frag} {mg : Str → Option Value} {A : Ad} (T : Txt K mg A) {vs : List V} {H : Hp} {Q : VK} {E : XK} (h : sp_read_walls K A vs H Q E) : t_read_walls K A { nx := fun _ H' => Q .non H', rt := Q } (start N_read_walls vs) H := by
  obtain ⟨r, w, t, i, rfl, pl, R, q⟩ := h
  have R0 := R
  obtain ⟨_, dr, hr0, _⟩ := R0
  refine q_setN (xs := bls HF.l0) (nw_lst (va_cons val_c (va_cons val_c (va_cons val_c (va_cons val_c va_nil)))) (by show 4 ≤ 100000; decide)) fun wl hwl => ?_
  have hwr : r ≠ wl := fun z => by rw [z, hwl] at hr0; cases hr0
  refine q_forET val_c T.q_SIDE_WORDS (fun k σ' H' => ∃ v2 v3 i', σ' = [some (.ref r), some (.ref wl), v2, v3] ∧ But r H H' ∧ Pl H' ∧ RdAt A H' r w t i' ∧ H' wl = some (.lst (bls (HF.wrun (HF.NAMES.take k) (HF.l0, nxt t i)).1)) ∧ (HF.wrun (HF.NAMES.take k) (HF.l0, nxt t i)).1.length = 4 ∧ nxt t i' = (HF.wrun (HF.NAMES.take k) (HF.l0, nxt t i)).2) ?_ ?_ ?_
  · exact ⟨none, none, i, rfl, Same.but (same_new hwl), pl.upd rfl, R.same (same_new hwl), upd_same, rfl, rfl⟩
  · rintro k x σ' H' tt hx ⟨v2, v3, i', rfl, b1, pl1, R1, hw1, hl1, hn1⟩ htt
    have hk : k < 4 := (List.getElem?_eq_some_iff.mp hx).1
    obtain ⟨z, nb, rfl, hzn, hz, hnm⟩ : ∃ (z : Str) (nb : List Nat), x = V.str z ∧ z.cps.toList = nb ∧ z.cps.size ≤ 1000 ∧ HF.NAMES[k]? = some (k, nb) := by
      have : k = 0 ∨ k = 1 ∨ k = 2 ∨ k = 3 := by omega
      rcases this with rfl | rfl | rfl | rfl
      · exact ⟨"above", Vbsyae.W "above", (Option.some.inj hx).symm, by decide +kernel, by decide +kernel, rfl⟩
      · exact ⟨"right", Vbsyae.W "right", (Option.some.inj hx).symm, by decide +kernel, by decide +kernel, rfl⟩
      · exact ⟨"below", Vbsyae.W "below", (Option.some.inj hx).symm, by decide +kernel, by decide +kernel, rfl⟩
      · exact ⟨"left", Vbsyae.W "left", (Option.some.inj hx).symm, by decide +kernel, by decide +kernel, rfl⟩
    have et : HF.wrun (HF.NAMES.take (k + 1)) (HF.l0, nxt t i) = if VbsyCore.ahead nb (nxt t i') = true then ((HF.wrun (HF.NAMES.take k) (HF.l0, nxt t i)).1.set k true, nxt t (i' + 1)) else HF.wrun (HF.NAMES.take k) (HF.l0, nxt t i) := by
      rw [List.take_add_one, hnm, HF.wrun_app, ← nxt_tail, hn1]
      rfl
    have s2 : Same H' (upd H' tt (.tup [.int (k : Nat), .str z])) := same_new htt
    have b2 := b1.trans (Same.but s2)
    have pl2 : Pl (upd H' tt (.tup [.int (k : Nat), .str z])) := pl1.upd rfl
    have R2 := R1.same s2
    have hw2 := s2 _ _ hw1
    generalize upd H' tt (.tup [.int (k : Nat), .str z]) = H2 at b2 pl2 R2 hw2
    refine gs_if (ga_B (r_next (m := nb) pl2 R2 (val_var rfl) (nw_is (nw_bytesOf pl2 (val_var rfl) hz) (by rw [hzn])))) (fun hb H3 s3 pl3 => ?_) fun hb H3 s3 pl3 => ?_
    · have R3 := R2.same s3
      refine q_take pl3 R3 (nxt_lt hb) (val_var rfl) fun H4 b4 pl4 R4 => ?_
      have hw4 := b4 _ _ (s3 _ _ hw2) (Ne.symm hwr)
      refine s_setAt val_c (val_var rfl) (val_var rfl) hw4 (by unfold bls; rw [List.length_map, hl1]; exact hk) ?_
      rw [et, if_pos hb]
      have b5 : But r H (upd H4 wl (.lst ((bls (HF.wrun (HF.NAMES.take k) (HF.l0, nxt t i)).1).set k (V.bl true)))) := ((b2.trans (Same.but s3)).trans b4).new hwl
      refine ⟨_, _, i' + 1, rfl, b5, pl4.upd rfl, ?_, ?_, ?_, rfl⟩
      · obtain ⟨l4, d4, e4, _⟩ := R4
        exact R.on b5 l4 (by rw [upd_ne hwr]; exact e4)
      · rw [upd_same]
        unfold bls
        rw [List.map_set]
      · rw [List.length_set]
        exact hl1
    · rw [et, if_neg (by rw [hb]; exact Bool.false_ne_true)]
      exact ⟨_, _, i', rfl, b2.trans (Same.but s3), pl3, R2.same s3, s3 _ _ hw2, hl1, hn1⟩
  · rintro σ' H' ⟨v2, v3, i', rfl, b1, pl1, R1, hw1, hl1, hn1⟩
    exact s_ret (val_var rfl) (q wl i' H' hwl b1 pl1 R1 hw1 hl1 hn1)
theorem ok_read_walls {P : Program} {w : World} {K : PySem.W.Frag} {mg : Str → Option Value} {base : Heap} {A : Ad} (T : Txt K mg A) : FOk P w K mg base CX0 "read_walls" 3 ["reader"] (sp_read_walls K A) := by
  obtain ⟨fn, fd, hm, F⟩ := T.f_read_walls
  refine ⟨fn, fd, hm, F.ok sc_read_walls (fun vs H Q E h => ?_) (fun cdv A' outer s H vs Q E hr h => ⟨t_read_walls K A, ?_, pure_read_walls T h⟩), F.binds fun _ _ _ _ _ _ us hl => match us, hl with | [_], _ => rfl⟩
  · obtain ⟨_, _, _, _, rfl, _⟩ := h
    rfl
  · exact (pss_cons (ps_set (i := 1) sc_read_walls.nd rfl (Or.inl rfl) (pe_lst (pa_cons pe_bl (pa_cons pe_bl (pa_cons pe_bl (pa_cons pe_bl pa_nil)))))) (pss_cons (ps_for PassesOwn.never rfl (pi_enumT (by rfl) T.b_enumerate (pa_cons (pe_gt rfl T.g_SIDE_WORDS) pa_nil)) (pg_tup rfl (pgs_cons (pg_name (i := 2) sc_read_walls.nd rfl (Or.inl rfl)) (pgs_cons (pg_name (i := 3) sc_read_walls.nd rfl (Or.inl rfl)) pgs_nil))) (pss_one (ps_if (pt_val (pe_methM (pv 0) T.c_Reader (ok_Reader_is_next T) (hr.mono (by decide)) (pa_cons (pe_callM (ok_bytes_of T) (hr.mono (by decide)) rfl (pa_cons (pv 3) pa_nil)) pa_nil))) (pss_cons (ps_expr (pe_methM0 (pv 0) T.c_Reader (ok_Reader_take T) (hr.mono (by decide)))) (pss_one (ps_asg pe_bl (pg_sub (pv 1) (pv 2) set_list)))) pss_nil))) (pss_one (ps_ret (pv 1)))))
def sp_read_day (K : PySem.W.Frag) (A : Ad) : Sp := fun vs H Q E => ∃ (r w fa : Addr) (t : List Nat) (i : Nat) (f : Vbsyae.Field), vs = [.ref r, .ref fa, .int (f.days.length : Int)] ∧ Pl H ∧ RdAt A H r w t i ∧ FieldAt A H fa f ∧ (∀ x ws', Vbsyae.foldIn f t.length (nxt t i) = .ok (x, ws') → ∀ p i' H', H p = none → But r H H' → Pl H' → RdAt A H' r w t i' → ws' = nxt t i' → i < i' → DayAt A H' p x → Q (.ref p) H') ∧ (∀ p, Vbsyae.foldIn f t.length (nxt t i) = .error p → RdE A H r E p)
def t_read_day (K : PySem.W.Frag) (A : Ad) (E : XK) : TS := (tSeq (tDrop (tMeth A.cReader "ask" (sp_Reader_ask K A) [] E (tVar 0) (tCons (tAndV (tMeth A.cReader "is_next" (sp_Reader_is_next K A) [] E0 (tVar 0) (tCons (tCall (sp_bytes_of K A) [] E0 (tCons (tC (.str "fold")) tNil)) tNil)) (tOp rLtI (tVar 2) (tC (.int (20))))) tNil))) (tSeq (tDrop (tMeth A.cReader "take" (sp_Reader_take K A) [] E0 (tVar 0) tNil)) (tSeq (tAsg (tMeth A.cReader "want_number" (sp_Reader_want_number K A) [] E (tVar 0) (tCons (tC (.int 0)) (tCons (tOp rSubI (tFld K (tVar 1) "rows") (tC (.int 1))) tNil))) (gName 3)) (tSeq (tAsg (tMeth A.cReader "want_number" (sp_Reader_want_number K A) [] E (tVar 0) (tCons (tC (.int 0)) (tCons (tOp rSubI (tFld K (tVar 1) "columns") (tC (.int 1))) tNil))) (gName 4)) (tSeq (tDrop (tMeth A.cReader "want" (sp_Reader_want K A) [] E (tVar 0) (tCons (tC (.str "high")) tNil))) (tSeq (tAsg (tMeth A.cReader "want_number" (sp_Reader_want_number K A) [] E (tVar 0) (tCons (tC (.int 1)) (tCons (tOp rSubI (tFld K (tVar 1) "rows") (tVar 3)) tNil))) (gName 5)) (tSeq (tDrop (tMeth A.cReader "want" (sp_Reader_want K A) [] E (tVar 0) (tCons (tC (.str "wide")) tNil))) (tSeq (tAsg (tMeth A.cReader "want_number" (sp_Reader_want_number K A) [] E (tVar 0) (tCons (tC (.int 1)) (tCons (tOp rSubI (tFld K (tVar 1) "columns") (tVar 4)) tNil))) (gName 6)) (tRet (tMake A.cDay (sp_Day_init K A) [] E0 (tCons (tVar 3) (tCons (tVar 4) (tCons (tVar 5) (tCons (tVar 6) tNil))))))))))))))
theorem pure_read_day {K : PySem.W.Frag} {mg : Str → Option Value} {A : Ad} (T : Txt K mg A) {vs : List V} {H : Hp} {Q : VK} {E : XK} (h : sp_read_day K A vs H Q E) : t_read_day K A E { nx := fun _ H' => Q .non H', rt := Q } (start N_read_day vs) H := by
  obtain ⟨r, w, fa, t, i, f, rfl, pl, R, F, q1, q2⟩ := h
  have g := F.g
  have r1 := g.r1
  have c1 := g.c1
  rw [HF.foldIn_eq g] at q1 q2
  simp only [nxt_tail] at q1 q2
  refine q_ask R (val_var rfl) (g_and (r_next (m := Vbsyae.W "fold") pl R (val_var rfl) (nw_is (nw_bytesOf pl val_c (by decide +kernel)) (by congr 1))) fun H1 s1 pl1 => val_cmp (val_var rfl) val_c) (fun hb H1 s1 pl1 R1 => ?_) fun hb => q2 _ (if_pos (by
    simp only [Bool.and_eq_false_iff, decide_eq_false_iff_not] at hb
    rintro ⟨h1, h2⟩
    rcases hb with h | h
    · rw [h1] at h; cases h
    · omega))
  simp only [Bool.and_eq_true, decide_eq_true_eq] at hb
  have hlt := nxt_lt hb.1
  rw [if_neg (by rw [Classical.not_not]; exact ⟨hb.1, by omega⟩)] at q1 q2
  refine q_take pl1 R1 hlt (val_var rfl) fun H2 b2 pl2 R2 => ?_
  have b02 := (Same.but s1).trans b2
  obtain ⟨dx, wl, f1, f2⟩ := (F.keep R b02).at_
  refine q_wantN (lo := 0) (hi := f.rows - 1) pl2 R2 (val_var rfl) val_c (val_is (val_sub (v_rows T f1 (val_var rfl)) val_c) (by congr 1; omega)) (fun n hn H3 b3 pl3 R3 => ?_) fun hn => (q2 _ (by rw [hn])).on b02
  rw [hn] at q1 q2
  simp only at q1 q2
  have nn := HF.numOk_le hn
  have b03 := b02.trans b3
  obtain ⟨dx, wl, f1, f2⟩ := (F.keep R b03).at_
  refine q_wantN (lo := 0) (hi := f.cols - 1) pl3 R3 (val_var rfl) val_c (val_is (val_sub (v_cols T f1 (val_var rfl)) val_c) (by congr 1; omega)) (fun c hc H4 b4 pl4 R4 => ?_) fun hn => (q2 _ (by rw [hn])).on b03
  rw [hc] at q1 q2
  simp only at q1 q2
  have cc := HF.numOk_le hc
  have b04 := b03.trans b4
  refine q_want (b := Vbsyae.W "high") pl4 R4 (val_var rfl) val_c (by decide +kernel) (by decide +kernel) (fun h4 H5 b5 pl5 R5 => ?_) fun h4 => (q2 _ (if_pos h4)).on b04
  rw [if_neg (by rw [h4]; exact Bool.noConfusion)] at q1 q2
  have b05 := b04.trans b5
  obtain ⟨dx, wl, f1, f2⟩ := (F.keep R b05).at_
  refine q_wantN (lo := 1) (hi := f.rows - n) pl5 R5 (val_var rfl) val_c (val_is (val_sub (v_rows T f1 (val_var rfl)) (val_var rfl)) (by congr 1; omega)) (fun a ha H6 b6 pl6 R6 => ?_) fun hn => (q2 _ (by rw [hn])).on b05
  rw [ha] at q1 q2
  simp only at q1 q2
  have b06 := b05.trans b6
  refine q_want (b := Vbsyae.W "wide") pl6 R6 (val_var rfl) val_c (by decide +kernel) (by decide +kernel) (fun h6 H7 b7 pl7 R7 => ?_) fun h6 => (q2 _ (if_pos h6)).on b06
  rw [if_neg (by rw [h6]; exact Bool.noConfusion)] at q1 q2
  have b07 := b06.trans b7
  obtain ⟨dx, wl, f1, f2⟩ := (F.keep R b07).at_
  refine q_wantN (lo := 1) (hi := f.cols - c) pl7 R7 (val_var rfl) val_c (val_is (val_sub (v_cols T f1 (val_var rfl)) (val_var rfl)) (by congr 1; omega)) (fun b hb H8 b8 pl8 R8 => ?_) fun hn => (q2 _ (by rw [hn])).on b07
  rw [hb] at q1
  have b08 := b07.trans b8
  refine s_retMk (va_cons (val_var rfl) (va_cons (val_var rfl) (va_cons (val_var rfl) (va_cons (val_var rfl) va_nil)))) fun x dx hx hdx hne => ⟨x, dx, ⟨n, c, a, b⟩, rfl, upd_same, rfl, ?_⟩
  rw [upd_upd]
  obtain ⟨_, dr, hr0, _⟩ := id R
  obtain ⟨_, d8, hr8, _⟩ := id R8
  have hxr : x ≠ r := fun z => by rw [z, hr8] at hx; cases hx
  have new : ∀ y, H8 y = none → H y = none := fun y hy => by
    cases e : H y with
    | none => rfl
    | some o =>
      by_cases hyr : y = r
      · rw [hyr, hr8] at hy; cases hy
      · rw [b08 _ _ e hyr] at hy; cases hy
  have s9 : Same H8 (upd (upd H8 dx (.own x)) x (.ins A.cDay dx (dayF ⟨n, c, a, b⟩))) := same_upd (same_upd (Same.refl H8) hdx) hx
  exact q1 _ _ rfl x (i + 7) _ (new x hx) (b08.trans (Same.but s9)) ((pl8.upd rfl).upd rfl) (R8.same s9) rfl (by omega) ⟨dx, upd_same⟩
theorem ok_read_day {P : Program} {w : World} {K : PySem.W.Frag} {mg : Str → Option Value} {base : Heap} {A : Ad} (T : Txt K mg A) : FOk P w K mg base (L2.CX P w) "read_day" 5 ["reader", "field", "many"] (sp_read_day K A) := by
  obtain ⟨fn, fd, hm, F⟩ := T.f_read_day
  refine ⟨fn, fd, hm, F.okX sc_read_day (fun vs H Q E h => ?_) (fun cdv A' outer s H vs Q E hr h => ⟨t_read_day K A E, ?_, pure_read_day T h⟩), F.binds fun _ _ _ _ _ _ us hl => match us, hl with | [_, _, _], _ => rfl⟩
  · obtain ⟨_, _, _, _, _, _, rfl, _⟩ := h
    rfl
  · exact (pss_cons (ps_expr (pe_methMX (pv 0) T.c_Reader (ok_Reader_ask T) (hr.mono (by decide)) (passes_call (takes_of rfl rfl rfl rfl) (fun _ _ _ _ h => h)) (pa_cons (pe_and (pe_methM (pv 0) T.c_Reader (ok_Reader_is_next T) (hr.mono (by decide)) (pa_cons (pe_callM (ok_bytes_of T) (hr.mono (by decide)) rfl (pa_cons pe_str pa_nil)) pa_nil)) (pe_one (pe_cmpR op_lt (pv 2) (pe_gi rfl T.g_MOST_DAYS) (nomark _)))) pa_nil))) (pss_cons (ps_expr (pe_methM0 (pv 0) T.c_Reader (ok_Reader_take T) (hr.mono (by decide)))) (pss_cons (ps_set (i := 3) sc_read_day.nd rfl (Or.inl rfl) (pe_methMX (pv 0) T.c_Reader (ok_Reader_want_number T) (hr.mono (by decide)) (passes_call (takes_of rfl rfl rfl rfl) (fun _ _ _ _ h => h)) (pa_cons pe_int (pa_cons (pe_op op_sub (pe_fld (pv 1) rfl) pe_int) pa_nil)))) (pss_cons (ps_set (i := 4) sc_read_day.nd rfl (Or.inl rfl) (pe_methMX (pv 0) T.c_Reader (ok_Reader_want_number T) (hr.mono (by decide)) (passes_call (takes_of rfl rfl rfl rfl) (fun _ _ _ _ h => h)) (pa_cons pe_int (pa_cons (pe_op op_sub (pe_fld (pv 1) rfl) pe_int) pa_nil)))) (pss_cons (ps_expr (pe_methMX (pv 0) T.c_Reader (ok_Reader_want T) (hr.mono (by decide)) (passes_call (takes_of rfl rfl rfl rfl) (fun _ _ _ _ h => h)) (pa_cons pe_str pa_nil))) (pss_cons (ps_set (i := 5) sc_read_day.nd rfl (Or.inl rfl) (pe_methMX (pv 0) T.c_Reader (ok_Reader_want_number T) (hr.mono (by decide)) (passes_call (takes_of rfl rfl rfl rfl) (fun _ _ _ _ h => h)) (pa_cons pe_int (pa_cons (pe_op op_sub (pe_fld (pv 1) rfl) (pv 3)) pa_nil)))) (pss_cons (ps_expr (pe_methMX (pv 0) T.c_Reader (ok_Reader_want T) (hr.mono (by decide)) (passes_call (takes_of rfl rfl rfl rfl) (fun _ _ _ _ h => h)) (pa_cons pe_str pa_nil))) (pss_cons (ps_set (i := 6) sc_read_day.nd rfl (Or.inl rfl) (pe_methMX (pv 0) T.c_Reader (ok_Reader_want_number T) (hr.mono (by decide)) (passes_call (takes_of rfl rfl rfl rfl) (fun _ _ _ _ h => h)) (pa_cons pe_int (pa_cons (pe_op op_sub (pe_fld (pv 1) rfl) (pv 4)) pa_nil)))) (pss_one (ps_ret (pe_makeM (ok_Day_init T) (hr.mono (by decide)) rfl (pa_cons (pv 3) (pa_cons (pv 4) (pa_cons (pv 5) (pa_cons (pv 6) pa_nil)))))))))))))))
end HW

namespace HW
open PySem PySem.Spec PyProof.Rows L2
def RdE0 (A : Ad) (H : Hp) (E : XK) (p : Nat) : Prop := ∀ d H', Same H H' → Pl H' → H' d = some (.xd [(("place" : Str), .int (p : Int))]) → E (.ref A.cFault) (some d) H'
theorem RdE0.at {A : Ad} {H H1 : Hp} {r : Addr} {E : XK} {p : Nat} (h : RdE0 A H E p) (n : H r = none) (s : But r H H1) : RdE A H1 r E p := fun d H' b => h d H' ((s.trans b).same n)
theorem FieldAt.put {A : Ad} {H : Hp} {a : Addr} {f : Vbsyae.Field} {l : List Vbsyae.Fold} (F : FieldAt A H a f) : FieldAt A H a { f with days := l } := by
  obtain ⟨g, dx, w, h1, h2⟩ := F
  exact ⟨⟨g.r1, g.r8, g.c1, g.c8, g.w4⟩, dx, w, h1, h2⟩
theorem s_retT {σ : L2.St} {H : Hp} {te : TE} {D : Ends} {xs : List V} (h : NewT te σ H xs) (k : ∀ p, H p = none → D.rt (.ref p) (upd H p (.tup xs))) : tRet te D σ H := h _ k
theorem q_setMk {σ : L2.St} {H : Hp} {t : TA} {C : Addr} {sp : Sp} {E : XK} {D : Ends} {t2 : TS} {j : Nat} {vs : List V} (h : ValA t σ H vs) (k : ∀ x dx, H x = none → H dx = none → dx ≠ x → sp (.ref x :: vs) (upd (upd H dx (.own x)) x (.ins C dx [])) (fun v H2 => v = .non ∧ t2 D (σ.set j (some (.ref x))) H2) E) : tSeq (tAsg (tMake C sp [] E t) (gName j)) t2 D σ H := mk_nd (Q := fun v H2 => t2 D (σ.set j (some v)) H2) h k
theorem q_setMk3 {σ : L2.St} {H : Hp} {ta tb : TE} {tc : TA} {C : Addr} {sp sp2 : Sp} {E E2 : XK} {D : Ends} {t2 : TS} {j : Nat} {v1 v2 : V} {vs : List V} (h1 : Val ta σ H v1) (h2 : Val tb σ H v2) (h3 : ValA tc σ H vs)
    (k : sp2 vs H (fun v3 H1 => ∀ x dx, H1 x = none → H1 dx = none → dx ≠ x → sp [.ref x, v1, v2, v3] (upd (upd H1 dx (.own x)) x (.ins C dx [])) (fun v H2 => v = .non ∧ t2 D (σ.set j (some (.ref x))) H2) E) E2) : tSeq (tAsg (tMake C sp [] E (tCons ta (tCons tb (tCons (tCall sp2 [] E2 tc) tNil)))) (gName j)) t2 D σ H :=
  h1 _ (h2 _ (call_nd h3 k))
/-- x = a new reader of the bytes at a -/
theorem q_reader {K : PySem.W.Frag} {A : Ad} {σ : L2.St} {H : Hp} {ta : TE} {D : Ends} {t2 : TS} {a : Addr} {t : List Nat} {j : Nat} (pl : Pl H) (ha : H a = some (.lst (nts t))) (hz : t.length ≤ 2000) (h : Val ta σ H (.ref a))
    (k : ∀ r w H', H r = none → Same H H' → Pl H' → RdAt A H' r w t 0 → t2 D (σ.set j (some (.ref r))) H') : tSeq (tAsg (tMake A.cReader (sp_Reader_init K A) [] E0 (tCons ta tNil)) (gName j)) t2 D σ H :=
  q_setMk (va_cons h va_nil) fun x dx hx hdx hne => by
    have hax : a ≠ x := fun z => by rw [z, hx] at ha; cases ha
    have had : a ≠ dx := fun z => by rw [z, hdx] at ha; cases ha
    refine ⟨x, dx, a, t, rfl, upd_same, (pl.upd rfl).upd rfl, by rw [upd_ne hax, upd_ne had]; exact ha, hz, fun w H' b pl' R => ⟨rfl, k x w H' hx (fun y o e => b y o ?_ (ne_of_none e hx)) pl' R⟩⟩
    rw [upd_ne (ne_of_none e hx), upd_ne (ne_of_none e hdx)]
    exact e
def sp_read_field (K : PySem.W.Frag) (A : Ad) : Sp := fun vs H Q E => ∃ (a : Addr) (t : List Nat), vs = [.ref a] ∧ Pl H ∧ H a = some (.lst (nts t)) ∧ t.length ≤ 2000 ∧ (∀ g, Vbsyae.readField t = .ok g → ∀ p fa da H', H p = none → H fa = none → H da = none → Same H H' → Pl H' → H' p = some (.tup [.ref fa, .ref da]) → FieldAt A H' fa g → DaysAt A H' da g.days → Q (.ref p) H') ∧ (∀ n, Vbsyae.readField t = .error n → RdE0 A H E n)
def t_read_field (K : PySem.W.Frag) (A : Ad) (E : XK) : TS := (tSeq (tAsg (tMake A.cReader (sp_Reader_init K A) [] E0 (tCons (tVar 0) tNil)) (gName 1)) (tSeq (tDrop (tMeth A.cReader "want" (sp_Reader_want K A) [] E (tVar 1) (tCons (tC (.str "field")) tNil))) (tSeq (tAsg (tMeth A.cReader "want_number" (sp_Reader_want_number K A) [] E (tVar 1) (tCons (tC (.int 1)) (tCons (tC (.int (8))) tNil))) (gName 2)) (tSeq (tAsg (tMeth A.cReader "want_number" (sp_Reader_want_number K A) [] E (tVar 1) (tCons (tC (.int 1)) (tCons (tC (.int (8))) tNil))) (gName 3)) (tSeq (tDrop (tMeth A.cReader "want" (sp_Reader_want K A) [] E (tVar 1) (tCons (tC (.str "walls")) tNil))) (tSeq (tAsg (tMake A.cField (sp_Field_init K A) [] E0 (tCons (tVar 2) (tCons (tVar 3) (tCons (tCall (sp_read_walls K A) [] E0 (tCons (tVar 1) tNil)) tNil)))) (gName 4)) (tSeq (tAsg (tLst tNil) (gName 5)) (tSeq (tWhile (tNot (tB (tMeth A.cReader "is_end" (sp_Reader_is_end K A) [] E0 (tVar 1) tNil))) (tSeq (tDrop (tMeth A.cReader "ask" (sp_Reader_ask K A) [] E (tVar 1) (tCons (tMeth A.cReader "is_next" (sp_Reader_is_next K A) [] E0 (tVar 1) (tCons (tLst (tCons (tC (.int (10))) tNil)) tNil)) tNil))) (tSeq (tDrop (tMeth A.cReader "take" (sp_Reader_take K A) [] E0 (tVar 1) tNil)) (tDrop (tBM K "list" rAppend (tVar 5) (tCons (tCall (sp_read_day K A) [] E (tCons (tVar 1) (tCons (tVar 4) (tCons (tCB (cLen K) (tCons (tVar 5) tNil)) tNil)))) tNil)))))) (tRet (tTup (tCons (tVar 4) (tCons (tVar 5) tNil))))))))))))
theorem pure_read_field {K : PySem.W.Frag} {mg : Str → Option Value} {A : Ad} (T : Txt K mg A) {vs : List V} {H : Hp} {Q : VK} {E : XK} (h : sp_read_field K A vs H Q E) : t_read_field K A E { nx := fun _ H' => Q .non H', rt := Q } (start N_read_field vs) H := by
  obtain ⟨a, t, rfl, pl, ha, hz, q1, q2⟩ := h
  refine q_reader pl ha hz (val_var rfl) fun r w H1 hr s1 pl1 R1 => ?_
  have eq0 := HF.readField_eq t
  have e0 : VbsyCore.cut 0 t = nxt t 0 := rfl
  rw [e0] at eq0
  simp only [nxt_tail] at eq0
  generalize hres : Vbsyae.readField t = res at eq0 q1 q2
  refine q_want (b := Vbsyae.W "field") pl1 R1 (val_var rfl) val_c (by decide +kernel) (by decide +kernel) (fun h0 H2 b2 pl2 R2 => ?_) fun h0 => (q2 _ (eq0.trans (if_pos h0))).at hr (Same.but s1)
  rw [if_neg (by rw [h0]; exact Bool.noConfusion)] at eq0
  have b02 := (Same.but (r := r) s1).trans b2
  refine q_wantN (lo := 1) (hi := 8) pl2 R2 (val_var rfl) val_c val_c (fun rr hrr H3 b3 pl3 R3 => ?_) fun hn => (q2 _ (by rw [eq0, hn])).at hr b02
  rw [hrr] at eq0
  simp only at eq0
  have nr := HF.numOk_le hrr
  have b03 := b02.trans b3
  refine q_wantN (lo := 1) (hi := 8) pl3 R3 (val_var rfl) val_c val_c (fun cc hcc H4 b4 pl4 R4 => ?_) fun hn => (q2 _ (by rw [eq0, hn])).at hr b03
  rw [hcc] at eq0
  simp only at eq0
  have nc := HF.numOk_le hcc
  have b04 := b03.trans b4
  refine q_want (b := Vbsyae.W "walls") pl4 R4 (val_var rfl) val_c (by decide +kernel) (by decide +kernel) (fun h4 H5 b5 pl5 R5 => ?_) fun h4 => (q2 _ (eq0.trans (if_pos h4))).at hr b04
  rw [if_neg (by rw [h4]; exact Bool.noConfusion)] at eq0
  have b05 := b04.trans b5
  -- the field
  refine q_setMk3 (val_var rfl) (val_var rfl) (va_cons (val_var rfl) va_nil) ⟨r, w, t, _, rfl, pl5, R5, fun wl i6 H6 hwl b6 pl6 R6 hw6 hl6 hn6 => ?_⟩
  intro fa dx hfa hdx hne
  generalize hW : HF.wrun HF.NAMES (HF.l0, nxt t (0 + 1 + 1 + 1 + 1)) = WR at eq0 hw6 hl6 hn6
  refine ⟨fa, dx, wl, ⟨rr, cc, WR.1, []⟩, rfl, upd_same, rfl, ?_⟩
  rw [upd_upd]
  have s7 : Same H6 (upd (upd H6 dx (.own fa)) fa (.ins A.cField dx (fldF ⟨rr, cc, WR.1, []⟩ wl))) := same_upd (same_upd (Same.refl H6) hdx) hfa
  have F7 : FieldAt A (upd (upd H6 dx (.own fa)) fa (.ins A.cField dx (fldF ⟨rr, cc, WR.1, []⟩ wl))) fa ⟨rr, cc, WR.1, []⟩ := ⟨⟨nr.1, nr.2, nc.1, nc.2, hl6⟩, dx, wl, upd_same, s7 _ _ hw6⟩
  have pl7 : Pl (upd (upd H6 dx (.own fa)) fa (.ins A.cField dx (fldF ⟨rr, cc, WR.1, []⟩ wl))) := (pl6.upd rfl).upd rfl
  have R7 := R6.same s7
  have b07 := (b05.trans b6).trans (Same.but s7)
  have hfaH : H fa = none := by
    have := (b05.trans b6).same hr
    exact this.free hfa
  generalize upd (upd H6 dx (.own fa)) fa (.ins A.cField dx (fldF ⟨rr, cc, WR.1, []⟩ wl)) = H7 at F7 pl7 R7 b07
  refine q_setN (xs := []) (nw_lst va_nil (Nat.zero_le _)) fun da hda => ?_
  have hdaH : H da = none := (b07.same hr).free hda
  have hdr : r ≠ da := fun z => by
    obtain ⟨_, d7, e7, _⟩ := R7
    rw [z, hda] at e7; cases e7
  rw [← hn6] at eq0
  refine q_while (fun m σ' H' => ∃ (k g : Nat) (f : Vbsyae.Field) (l : List (Vbsyae.Fold × Addr)), σ' = [some (.ref a), some (.ref r), some (.int (rr : Int)), some (.int (cc : Int)), some (.ref fa), some (.ref da)] ∧ But r H7 H' ∧ Pl H' ∧ RdAt A H' r w t k ∧ FieldAt A H' fa f ∧ H' da = some (.lst (l.map fun x => V.ref x.2)) ∧ (∀ x ∈ l, DayAt A H' x.2 x.1) ∧ l.map (·.1) = f.days ∧ f.days.length ≤ 20 ∧ f = { (⟨rr, cc, WR.1, []⟩ : Vbsyae.Field) with days := f.days } ∧ Vbsyae.linesIn t.length g f (nxt t k) = res ∧ (nxt t k).length < g ∧ m = (nxt t k).length) (nxt t i6).length ?_ ?_
  · exact ⟨i6, _, ⟨rr, cc, WR.1, []⟩, [], rfl, Same.but (same_new hda), pl7.upd rfl, R7.same (same_new hda), F7.same (same_new hda), upd_same, by simp, rfl, Nat.zero_le _, rfl, eq0.symm, Nat.lt_succ_self _, rfl⟩
  · rintro m σ' H' ⟨k, g, f, l, rfl, b8, pl8, R8, F8, hd8, hds8, hf8, h20, hff, hlin, hg, rfl⟩
    obtain ⟨g', rfl⟩ : ∃ g', g = g' + 1 := ⟨g - 1, by omega⟩
    rw [HF.linesIn_eq] at hlin
    have b08 := b07.trans b8
    refine ⟨!(nxt t k).isEmpty, an_not (an_B (r_end pl8 R8 (val_var rfl))), fun hb => ?_, fun hb => ?_⟩
    · have hb : (nxt t k).isEmpty = false := by simpa using hb
      rw [if_neg (by rw [hb]; exact Bool.noConfusion)] at hlin
      have hkl : k < (VbsyCore.cut 0 t).length := by
        unfold nxt at hb
        rw [drop_empty, decide_eq_false_iff_not] at hb
        omega
      have hlk := congrArg List.length (nxt_at hkl)
      simp only [List.length_cons] at hlk
      refine ⟨fun σ2 H2 => ∃ m', m' < (nxt t k).length ∧ ∃ (k g : Nat) (f : Vbsyae.Field) (l : List (Vbsyae.Fold × Addr)), σ2 = [some (.ref a), some (.ref r), some (.int (rr : Int)), some (.int (cc : Int)), some (.ref fa), some (.ref da)] ∧ But r H7 H2 ∧ Pl H2 ∧ RdAt A H2 r w t k ∧ FieldAt A H2 fa f ∧ H2 da = some (.lst (l.map fun x => V.ref x.2)) ∧ (∀ x ∈ l, DayAt A H2 x.2 x.1) ∧ l.map (·.1) = f.days ∧ f.days.length ≤ 20 ∧ f = { (⟨rr, cc, WR.1, []⟩ : Vbsyae.Field) with days := f.days } ∧ Vbsyae.linesIn t.length g f (nxt t k) = res ∧ (nxt t k).length < g ∧ m' = (nxt t k).length, fun σ2 H2 h => h, ?_⟩
      refine q_ask R8 (val_var rfl) (r_next (m := [10]) pl8 R8 (val_var rfl) (nw_lst (va_cons val_c va_nil) (by show 1 ≤ 100000; decide))) (fun h10 H9 s9 pl9 R9 => ?_) fun h10 => (q2 _ (hlin.symm.trans (if_pos h10))).at hr b08
      rw [if_neg (by rw [h10]; exact Bool.noConfusion), nxt_tail] at hlin
      refine q_take pl9 R9 hkl (val_var rfl) fun H10 b10 pl10 R10 => ?_
      have b9 : But r H' H10 := (Same.but s9).trans b10
      have hd10 := b9 _ _ hd8 (Ne.symm hdr)
      have F10 := F8.keep R8 b9
      have hll : l.length = f.days.length := by rw [← hf8, List.length_map]
      refine s_appMk (P := fun v H11 => ∃ x p i', v = .ref p ∧ Vbsyae.foldIn f t.length (nxt t (k + 1)) = .ok (x, nxt t i') ∧ H10 p = none ∧ But r H10 H11 ∧ Pl H11 ∧ RdAt A H11 r w t i' ∧ k + 1 < i' ∧ DayAt A H11 p x) hd10 (val_var rfl) (by rw [List.length_map]; omega) (fun Q q => ?_) ?_
      · refine call_nd (va_cons (val_var rfl) (va_cons (val_var rfl) (va_cons (val_is (val_len (val_var rfl) (SqL.of hd10)) (by rw [List.length_map, hll])) va_nil))) ⟨r, w, fa, t, k + 1, f, rfl, pl10, R10, F10, fun x ws' hx p i' H11 hp b11 pl11 R11 hws hki hday => q _ _ ⟨x, p, i', rfl, by rw [hx, hws], hp, b11, pl11, R11, hki, hday⟩, fun n hn => (q2 n (by rw [← hlin, hn])).at hr (b08.trans b9)⟩
      · rintro v H11 ⟨x, p, i', rfl, hx, hp, b11, pl11, R11, hki, hday⟩
        rw [hx] at hlin
        refine ⟨b11 _ _ hd10 (Ne.symm hdr), ?_⟩
        have ft := HF.foldIn_fits F8.g hx
        have b12 : But r H7 (upd H11 da (.lst (l.map (fun x => V.ref x.2) ++ [V.ref p]))) := ((b8.trans b9).trans b11).new hda
        obtain ⟨l11, d11, e11, _⟩ := id R11
        have F12 := F7.keep R7 b12
        have day12 : ∀ y : Vbsyae.Fold × Addr, DayAt A H11 y.2 y.1 → DayAt A (upd H11 da (.lst (l.map (fun x => V.ref x.2) ++ [V.ref p]))) y.2 y.1 := fun y ⟨dy, hy⟩ => ⟨dy, by
          rw [upd_ne fun z => by rw [z, b11 _ _ hd10 (Ne.symm hdr)] at hy; cases hy]
          exact hy⟩
        have hlen' : (nxt t i').length < (nxt t (k + 1)).length := by
          unfold nxt
          rw [List.length_drop, List.length_drop]
          have := R11.le
          omega
        refine ⟨(nxt t i').length, by omega, i', g', Vbsyae.putDay f x, l ++ [(x, p)], rfl, b12, pl11.upd rfl, R7.on b12 l11 (by rw [upd_ne hdr]; exact e11), ?_, by rw [upd_same, List.map_append]; rfl, fun y hy => ?_, ?_, ?_, ?_, hlin, by omega, rfl⟩
        · rw [hff]
          exact F12.put
        · rcases List.mem_append.mp hy with hy | hy
          · have D11 : DayAt A H11 y.2 y.1 := by
              obtain ⟨dy, hyy⟩ := hds8 y hy
              obtain ⟨l8, d8, e8, _⟩ := id R8
              refine ⟨dy, (b9.trans b11) _ _ hyy fun z => ?_⟩
              rw [z, e8] at hyy
              have := Option.some.inj hyy
              injection this with _ _ z2
              have := congrArg (List.map Prod.fst) z2
              exact absurd this (by show kR ≠ kD; decide +kernel)
            exact day12 y D11
          · rw [List.mem_singleton.mp hy]
            exact day12 (x, p) hday
        · rw [List.map_append, hf8]
          rfl
        · show (f.days ++ [x]).length ≤ 20
          rw [List.length_append]
          simp only [List.length_cons, List.length_nil]
          omega
        · show ({ f with days := f.days ++ [x] } : Vbsyae.Field) = { (⟨rr, cc, WR.1, []⟩ : Vbsyae.Field) with days := f.days ++ [x] }
          rw [hff]
    · have hb : (nxt t k).isEmpty = true := by simpa using hb
      rw [if_pos hb] at hlin
      refine s_retT (nw_tup (va_cons (val_var rfl) (va_cons (val_var rfl) va_nil)) (by show 2 ≤ 100000; decide)) fun p hp => ?_
      have sH : Same H H' := b08.same hr
      have pH : H p = none := sH.free hp
      have sn := same_new (o := .tup [.ref fa, .ref da]) hp
      exact q1 f hlin.symm p fa da _ pH hfaH hdaH (same_upd sH pH) (pl8.upd rfl) upd_same (F8.same sn) ⟨l, hf8, sn _ _ hd8, fun x hx => (hds8 x hx).same sn⟩
theorem ok_read_field {P : Program} {w : World} {K : PySem.W.Frag} {mg : Str → Option Value} {base : Heap} {A : Ad} (T : Txt K mg A) : FOk P w K mg base (L2.CX P w) "read_field" 6 ["row"] (sp_read_field K A) := by
  obtain ⟨fn, fd, hm, F⟩ := T.f_read_field
  refine ⟨fn, fd, hm, F.okX sc_read_field (fun vs H Q E h => ?_) (fun cdv A' outer s H vs Q E hr h => ⟨t_read_field K A E, ?_, pure_read_field T h⟩), F.binds fun _ _ _ _ _ _ us hl => match us, hl with | [_], _ => rfl⟩
  · obtain ⟨_, _, rfl, _⟩ := h
    rfl
  · exact (pss_cons (ps_set (i := 1) sc_read_field.nd rfl (Or.inl rfl) (pe_makeM (ok_Reader_init T) (hr.mono (by decide)) rfl (pa_cons (pv 0) pa_nil))) (pss_cons (ps_expr (pe_methMX (pv 1) T.c_Reader (ok_Reader_want T) (hr.mono (by decide)) (passes_call (takes_of rfl rfl rfl rfl) (fun _ _ _ _ h => h)) (pa_cons pe_str pa_nil))) (pss_cons (ps_set (i := 2) sc_read_field.nd rfl (Or.inl rfl) (pe_methMX (pv 1) T.c_Reader (ok_Reader_want_number T) (hr.mono (by decide)) (passes_call (takes_of rfl rfl rfl rfl) (fun _ _ _ _ h => h)) (pa_cons pe_int (pa_cons (pe_gi rfl T.g_MOST_SIZE) pa_nil)))) (pss_cons (ps_set (i := 3) sc_read_field.nd rfl (Or.inl rfl) (pe_methMX (pv 1) T.c_Reader (ok_Reader_want_number T) (hr.mono (by decide)) (passes_call (takes_of rfl rfl rfl rfl) (fun _ _ _ _ h => h)) (pa_cons pe_int (pa_cons (pe_gi rfl T.g_MOST_SIZE) pa_nil)))) (pss_cons (ps_expr (pe_methMX (pv 1) T.c_Reader (ok_Reader_want T) (hr.mono (by decide)) (passes_call (takes_of rfl rfl rfl rfl) (fun _ _ _ _ h => h)) (pa_cons pe_str pa_nil))) (pss_cons (ps_set (i := 4) sc_read_field.nd rfl (Or.inl rfl) (pe_makeM (ok_Field_init T) (hr.mono (by decide)) rfl (pa_cons (pv 2) (pa_cons (pv 3) (pa_cons (pe_callM (ok_read_walls T) (hr.mono (by decide)) rfl (pa_cons (pv 1) pa_nil)) pa_nil))))) (pss_cons (ps_set (i := 5) sc_read_field.nd rfl (Or.inl rfl) (pe_lst pa_nil)) (pss_cons (ps_while (passes_of rfl) (pt_not (pt_val (pe_methM0 (pv 1) T.c_Reader (ok_Reader_is_end T) (hr.mono (by decide))))) (pss_cons (ps_expr (pe_methMX (pv 1) T.c_Reader (ok_Reader_ask T) (hr.mono (by decide)) (passes_call (takes_of rfl rfl rfl rfl) (fun _ _ _ _ h => h)) (pa_cons (pe_methM (pv 1) T.c_Reader (ok_Reader_is_next T) (hr.mono (by decide)) (pa_cons (pe_lst (pa_cons (pe_gi rfl T.g_LINE_END) pa_nil)) pa_nil)) pa_nil))) (pss_cons (ps_expr (pe_methM0 (pv 1) T.c_Reader (ok_Reader_take T) (hr.mono (by decide)))) (pss_one (ps_expr (pe_bm PySem.F.plainAttrs_list PySem.F.slot_list_append PySem.F.type_list_append mt_append (pv 5) (pa_cons (pe_callMX (ok_read_day T) (hr.mono (by decide)) rfl (passes_call (takes_of rfl rfl rfl rfl) (fun _ _ _ _ h => h)) (pa_cons (pv 1) (pa_cons (pv 4) (pa_cons (pe_callB call_len_seq rfl T.b_len PySem.boot_len (pa_cons (pv 5) pa_nil)) pa_nil)))) pa_nil))))))) (pss_one (ps_ret (pe_tup (pa_cons (pv 4) (pa_cons (pv 5) pa_nil)))))))))))))
end HW

namespace HW
open PySem PySem.Spec PyProof.Rows L2
theorem q_callS {σ : L2.St} {H : Hp} {t : TA} {sp : Sp} {W : WX} {g : TG} {D : Ends} {t2 : TS} {vs : List V} (h : ValA t σ H vs) (hs : sp vs H (fun v H1 => g v σ H1 fun σ2 H2 => t2 D σ2 H2) (fun cls d H' => W cls d σ H')) : tSeq (tAsg (tCallS sp (WE W) t) g) t2 D σ H := h _ hs
theorem s_setT {σ : L2.St} {H : Hp} {te : TE} {D : Ends} {i : Nat} {xs : List V} (h : NewT te σ H xs) (k : ∀ p, H p = none → D.nx (σ.set i (some (.ref p))) (upd H p (.tup xs))) : tAsg te (gName i) D σ H := h _ k
theorem val_place {σ : L2.St} {H : Hp} {te : TE} {C a dd : Addr} {v : V} (h : Val te σ H (.ref a)) (hd : H dd = some (.xd [(("place" : Str), v)])) : Val (tPlace C a (.ref C) (some dd) te) σ H v := fun Q q => h _ ⟨rfl, rfl, dd, v, rfl, hd, q⟩
theorem q_askS {K : PySem.W.Frag} {A : Ad} {σ : L2.St} {H : Hp} {tr te : TE} {D : Ends} {t2 : TS} {W : WX} {r w : Addr} {t : List Nat} {i : Nat} {b : Bool} (R : RdAt A H r w t i) (hr : Val tr σ H (.ref r)) (he : GVal te σ H (.bl b)) (q1 : b = true → ∀ H1, Same H H1 → Pl H1 → RdAt A H1 r w t i → t2 D σ H1) (q2 : b = false → RdE A H r (fun cls d H' => W cls d σ H') (VbsyCore.placeOf t.length (nxt t i))) :
    tSeq (tDrop (tMethS A.cReader "ask" (sp_Reader_ask K A) (WE W) tr (tCons te tNil))) t2 D σ H := by
  obtain ⟨le, dx, h1, ws⟩ := id R
  exact hr _ ⟨r, dx, _, rfl, h1, no_R, he _ fun H1 s1 pl1 => ⟨r, w, t, i, b, rfl, pl1, R.same s1, fun hb => q1 hb H1 s1 pl1 (R.same s1), fun hb => (q2 hb).on (Same.but s1)⟩⟩
def sp_told_field (K : PySem.W.Frag) (A : Ad) : Sp := fun vs H Q _ => ∃ (a : Addr) (t : List Nat), vs = [.ref a] ∧ Pl H ∧ H a = some (.lst (nts t)) ∧ t.length ≤ 2000 ∧ (∀ g, Vbsyae.readField t = .ok g → ∀ p fa da H', H p = none → H fa = none → H da = none → Same H H' → Pl H' → H' p = some (.tup [.ref fa, .ref da, .int 0]) → FieldAt A H' fa g → DaysAt A H' da g.days → Q (.ref p) H') ∧ (∀ n, Vbsyae.readField t = .error n → ∀ p H', H p = none → Same H H' → Pl H' → H' p = some (.tup [.non, .non, .int (n : Int)]) → Q (.ref p) H')
def t_told_field (K : PySem.W.Frag) (A : Ad) : TS := (tSeq (tAsg (tTup (tCons (tC .non) (tCons (tC .non) (tCons (tC (.int 0)) tNil)))) (gName 1)) (tSeq (fun D σ H => (fun W => (tSeq (tAsg (tCallS (sp_read_field K A) (WE W) (tCons (tVar 0) tNil)) (gTup K 2 (gCons (gName 2) (gCons (gName 3) gNil)))) (tAsg (tTup (tCons (tVar 2) (tCons (tVar 3) (tCons (tC (.int 0)) tNil)))) (gName 1)))) (wAs K (.ref A.cFault) 4 (fun a cls d => (tAsg (tTup (tCons (tC .non) (tCons (tC .non) (tCons (tPlace A.cFault a cls d (tVar 4)) tNil)))) (gName 1))) (fun _ _ _ _ => False) D) D σ H) (tRet (tVar 1))))
theorem pure_told_field {K : PySem.W.Frag} {mg : Str → Option Value} {A : Ad} (T : Txt K mg A) {vs : List V} {H : Hp} {Q : VK} {E : XK} (h : sp_told_field K A vs H Q E) : t_told_field K A { nx := fun _ H' => Q .non H', rt := Q } (start N_told_field vs) H := by
  obtain ⟨a, t, rfl, pl, ha, hz, q1, q2⟩ := h
  refine q_setT (nw_tup (va_cons val_c (va_cons val_c (va_cons val_c va_nil))) (by show 3 ≤ 100000; decide)) fun p0 hp0 => ?_
  have s0 := same_new (o := .tup [.non, .non, .int 0]) hp0
  have pl0 : Pl (upd H p0 (.tup [.non, .non, .int 0])) := pl.upd rfl
  generalize upd H p0 (.tup [.non, .non, .int 0]) = H0 at s0 pl0
  refine q_seq ?_
  refine q_callS (va_cons (val_var rfl) va_nil) ⟨a, t, rfl, pl0, s0 _ _ ha, hz, fun g hg p fa da H1 hp hfa hda s1 pl1 hp1 F1 D1 => ?_, fun n hn d H1 s1 pl1 hd1 => ?_⟩
  · refine g_pair (SqT.of hp1) ?_
    refine s_setT (nw_tup (va_cons (val_var rfl) (va_cons (val_var rfl) (va_cons val_c va_nil))) (by show 3 ≤ 100000; decide)) fun u hu => ?_
    have s2 := same_new (o := .tup [.ref fa, .ref da, .int 0]) hu
    exact s_ret (val_var rfl) (q1 g hg u fa da _ (s0.free (s1.free hu)) (s0.free hfa) (s0.free hda) ((s0.trans s1).trans s2) (pl1.upd rfl) upd_same (F1.same s2) (D1.same s2))
  · refine ⟨true, T.fault.te, fun _ x hx => ?_, nofun⟩
    refine s_setT (nw_tup (va_cons val_c (va_cons val_c (va_cons (val_place (val_var rfl) hd1) va_nil))) (by show 3 ≤ 100000; decide)) fun u hu => ?_
    have s2 := same_new (o := .tup [.non, .non, .int (n : Int)]) hu
    exact s_ret (val_var rfl) (q2 n hn u _ (s0.free (s1.free hu)) ((s0.trans s1).trans s2) (pl1.upd rfl) upd_same)
theorem ok_told_field {P : Program} {w : World} {K : PySem.W.Frag} {mg : Str → Option Value} {base : Heap} {A : Ad} (T : Txt K mg A) : FOk P w K mg base CX0 "told_field" 7 ["row"] (sp_told_field K A) := by
  obtain ⟨fn, fd, hm, F⟩ := T.f_told_field
  refine ⟨fn, fd, hm, F.ok sc_told_field (fun vs H Q E h => ?_) (fun cdv A' outer s H vs Q E hr h => ⟨t_told_field K A, ?_, pure_told_field T h⟩), F.binds fun _ _ _ _ _ _ us hl => match us, hl with | [_], _ => rfl⟩
  · obtain ⟨_, _, rfl, _⟩ := h
    rfl
  · exact (pss_cons (ps_set (i := 1) sc_told_field.nd rfl (Or.inl rfl) (pe_tup (pa_cons pe_non (pa_cons pe_non (pa_cons pe_int pa_nil))))) (pss_cons (ps_try_as (i := 4) (tb := fun W => (tSeq (tAsg (tCallS (sp_read_field K A) (WE W) (tCons (tVar 0) tNil)) (gTup K 2 (gCons (gName 2) (gCons (gName 3) gNil)))) (tAsg (tTup (tCons (tVar 2) (tCons (tVar 3) (tCons (tC (.int 0)) tNil)))) (gName 1)))) (ts := fun a cls d => (tAsg (tTup (tCons (tC .non) (tCons (tC .non) (tCons (tPlace A.cFault a cls d (tVar 4)) tNil)))) (gName 1))) (Wout := fun _ _ _ _ => False) rfl rfl sc_told_field.nd rfl rfl ⟨rfl, by decide, Or.inl T.fault.gC⟩ takes0 (fun W pn xe tk _ => (pss_cons (ps_asg (pe_callMS (ok_read_field T) (hr.mono (by decide)) rfl (fun σ => passAt tk σ) (pa_cons (pv 0) pa_nil)) (pg_tup rfl (pgs_cons (pg_name (i := 2) sc_told_field.nd rfl (Or.inl rfl)) (pgs_cons (pg_name (i := 3) sc_told_field.nd rfl (Or.inl rfl)) pgs_nil)))) (pss_one (ps_set (i := 1) sc_told_field.nd rfl (Or.inl rfl) (pe_tup (pa_cons (pv 2) (pa_cons (pv 3) (pa_cons pe_int pa_nil)))))))) (fun a oe cls d pn hz hf => (pss_one (ps_set (i := 1) sc_told_field.nd rfl (Or.inl rfl) (pe_tup (pa_cons pe_non (pa_cons pe_non (pa_cons (pe_place T.fault hz hf (pv 4)) pa_nil)))))))) (pss_one (ps_ret (pv 1)))))
def sp_told_day (K : PySem.W.Frag) (A : Ad) : Sp := fun vs H Q _ => ∃ (a fa : Addr) (t : List Nat) (f : Vbsyae.Field), vs = [.ref a, .ref fa, .int (f.days.length : Int)] ∧ Pl H ∧ H a = some (.lst (nts t)) ∧ t.length ≤ 2000 ∧ FieldAt A H fa f ∧ (∀ x, Vbsyae.readFold f t = .ok x → ∀ p d H', H p = none → H d = none → Same H H' → Pl H' → H' p = some (.tup [.ref d, .int 0]) → DayAt A H' d x → Q (.ref p) H') ∧ (∀ n, Vbsyae.readFold f t = .error n → ∀ p H', H p = none → Same H H' → Pl H' → H' p = some (.tup [.non, .int (n : Int)]) → Q (.ref p) H')
def t_told_day (K : PySem.W.Frag) (A : Ad) : TS := (tSeq (tAsg (tTup (tCons (tC .non) (tCons (tC (.int 0)) tNil))) (gName 3)) (tSeq (fun D σ H => (fun W => (tSeq (tAsg (tMake A.cReader (sp_Reader_init K A) [] E0 (tCons (tVar 0) tNil)) (gName 4)) (tSeq (tAsg (tCallS (sp_read_day K A) (WE W) (tCons (tVar 4) (tCons (tVar 1) (tCons (tVar 2) tNil)))) (gName 5)) (tSeq (tDrop (tMethS A.cReader "ask" (sp_Reader_ask K A) (WE W) (tVar 4) (tCons (tMeth A.cReader "is_end" (sp_Reader_is_end K A) [] E0 (tVar 4) tNil) tNil))) (tAsg (tTup (tCons (tVar 5) (tCons (tC (.int 0)) tNil))) (gName 3)))))) (wAs K (.ref A.cFault) 6 (fun a cls d => (tAsg (tTup (tCons (tC .non) (tCons (tPlace A.cFault a cls d (tVar 6)) tNil))) (gName 3))) (fun _ _ _ _ => False) D) D σ H) (tRet (tVar 3))))
theorem pure_told_day {K : PySem.W.Frag} {mg : Str → Option Value} {A : Ad} (T : Txt K mg A) {vs : List V} {H : Hp} {Q : VK} {E : XK} (h : sp_told_day K A vs H Q E) : t_told_day K A { nx := fun _ H' => Q .non H', rt := Q } (start N_told_day vs) H := by
  obtain ⟨a, fa, t, f, rfl, pl, ha, hz, F, q1, q2⟩ := h
  refine q_setT (nw_tup (va_cons val_c (va_cons val_c va_nil)) (by show 2 ≤ 100000; decide)) fun p0 hp0 => ?_
  have s0 := same_new (o := .tup [.non, .int 0]) hp0
  have pl0 : Pl (upd H p0 (.tup [.non, .int 0])) := pl.upd rfl
  generalize upd H p0 (.tup [.non, .int 0]) = H0 at s0 pl0
  have eq0 := HF.readFold_eq f t
  rw [show VbsyCore.cut 0 t = nxt t 0 from rfl] at eq0
  generalize hres : Vbsyae.readFold f t = res at eq0 q1 q2
  refine q_seq ?_
  refine q_reader pl0 (s0 _ _ ha) hz (val_var rfl) fun r w H1 hr s1 pl1 R1 => ?_
  have fault : ∀ (n : Nat) (v : Option V) (d : Addr) (H' : Hp), res = .error n → But r H1 H' → Pl H' → H' d = some (.xd [(("place" : Str), .int (n : Int))]) →
      wAs K (.ref A.cFault) 6 (fun a cls d => (tAsg (tTup (tCons (tC .non) (tCons (tPlace A.cFault a cls d (tVar 6)) tNil))) (gName 3))) (fun _ _ _ _ => False) { nx := tRet (tVar 3) { nx := fun _ H' => Q .non H', rt := Q }, rt := Q } (.ref A.cFault) (some d) [some (.ref a), some (.ref fa), some (.int (f.days.length : Int)), some (.ref p0), some (.ref r), v, none] H' := by
    intro n v d H' hn b pl' hd
    have sb := ((Same.but s1).trans b).same hr
    refine ⟨true, T.fault.te, fun _ x hx => ?_, nofun⟩
    refine s_setT (nw_tup (va_cons val_c (va_cons (val_place (val_var rfl) hd) va_nil)) (by show 2 ≤ 100000; decide)) fun u hu => ?_
    have s2 := same_new (o := .tup [.non, .int (n : Int)]) hu
    exact s_ret (val_var rfl) (q2 n hn u _ (s0.free (sb.free hu)) ((s0.trans sb).trans s2) (pl'.upd rfl) upd_same)
  refine q_callS (va_cons (val_var rfl) (va_cons (val_var rfl) (va_cons (val_var rfl) va_nil))) ⟨r, w, fa, t, 0, f, rfl, pl1, R1, F.same (s0.trans s1), fun x ws' hx p i' H2 hp b2 pl2 R2 hws hi' hday => ?_, fun n hn d H2 b2 pl2 hd => fault n _ d H2 (by rw [eq0, hn]) b2 pl2 hd⟩
  subst hws
  rw [hx] at eq0
  simp only at eq0
  refine q_askS (i := i') R2 (val_var rfl) (g_of pl2 (r_end pl2 R2 (val_var rfl))) (fun hb H3 s3 pl3 R3 => ?_) fun hb d H3 b3 pl3 hd => fault _ _ d H3 (by rw [eq0, if_neg (by rw [hb]; exact Bool.noConfusion)]) (b2.trans b3) pl3 hd
  rw [if_pos hb] at eq0
  have sb := ((Same.but s1).trans (b2.trans (Same.but s3))).same hr
  have hpH : H p = none := s0.free (s1.free hp)
  refine s_setT (nw_tup (va_cons (val_var rfl) (va_cons val_c va_nil)) (by show 2 ≤ 100000; decide)) fun u hu => ?_
  have s4 := same_new (o := .tup [.ref p, .int 0]) hu
  exact s_ret (val_var rfl) (q1 x eq0 u p _ (s0.free (sb.free hu)) hpH ((s0.trans sb).trans s4) (pl3.upd rfl) upd_same ((hday.same s3).same s4))
theorem ok_told_day {P : Program} {w : World} {K : PySem.W.Frag} {mg : Str → Option Value} {base : Heap} {A : Ad} (T : Txt K mg A) : FOk P w K mg base CX0 "told_day" 6 ["row", "field", "many"] (sp_told_day K A) := by
  obtain ⟨fn, fd, hm, F⟩ := T.f_told_day
  refine ⟨fn, fd, hm, F.ok sc_told_day (fun vs H Q E h => ?_) (fun cdv A' outer s H vs Q E hr h => ⟨t_told_day K A, ?_, pure_told_day T h⟩), F.binds fun _ _ _ _ _ _ us hl => match us, hl with | [_, _, _], _ => rfl⟩
  · obtain ⟨_, _, _, _, rfl, _⟩ := h
    rfl
  · exact (pss_cons (ps_set (i := 3) sc_told_day.nd rfl (Or.inl rfl) (pe_tup (pa_cons pe_non (pa_cons pe_int pa_nil)))) (pss_cons (ps_try_as (i := 6) (tb := fun W => (tSeq (tAsg (tMake A.cReader (sp_Reader_init K A) [] E0 (tCons (tVar 0) tNil)) (gName 4)) (tSeq (tAsg (tCallS (sp_read_day K A) (WE W) (tCons (tVar 4) (tCons (tVar 1) (tCons (tVar 2) tNil)))) (gName 5)) (tSeq (tDrop (tMethS A.cReader "ask" (sp_Reader_ask K A) (WE W) (tVar 4) (tCons (tMeth A.cReader "is_end" (sp_Reader_is_end K A) [] E0 (tVar 4) tNil) tNil))) (tAsg (tTup (tCons (tVar 5) (tCons (tC (.int 0)) tNil))) (gName 3)))))) (ts := fun a cls d => (tAsg (tTup (tCons (tC .non) (tCons (tPlace A.cFault a cls d (tVar 6)) tNil))) (gName 3))) (Wout := fun _ _ _ _ => False) rfl rfl sc_told_day.nd rfl rfl ⟨rfl, by decide, Or.inl T.fault.gC⟩ takes0 (fun W pn xe tk _ => (pss_cons (ps_set (i := 4) sc_told_day.nd rfl (Or.inl rfl) (pe_makeM (ok_Reader_init T) (hr.mono (by decide)) rfl (pa_cons (pv 0) pa_nil))) (pss_cons (ps_set (i := 5) sc_told_day.nd rfl (Or.inl rfl) (pe_callMS (ok_read_day T) (hr.mono (by decide)) rfl (fun σ => passAt tk σ) (pa_cons (pv 4) (pa_cons (pv 1) (pa_cons (pv 2) pa_nil))))) (pss_cons (ps_expr (pe_methMS (pv 4) T.c_Reader (ok_Reader_ask T) (hr.mono (by decide)) (fun σ => passAt tk σ) (pa_cons (pe_methM0 (pv 4) T.c_Reader (ok_Reader_is_end T) (hr.mono (by decide))) pa_nil))) (pss_one (ps_set (i := 3) sc_told_day.nd rfl (Or.inl rfl) (pe_tup (pa_cons (pv 5) (pa_cons pe_int pa_nil))))))))) (fun a oe cls d pn hz hf => (pss_one (ps_set (i := 3) sc_told_day.nd rfl (Or.inl rfl) (pe_tup (pa_cons pe_non (pa_cons (pe_place T.fault hz hf (pv 6)) pa_nil))))))) (pss_one (ps_ret (pv 3)))))
end HW

/-! # Walk: lists joined; numbers as texts -/
namespace HF
open Vbsyae VbsyCore
theorem between_len (s : Bytes) (m : Nat) : ∀ l : List Bytes, (∀ w ∈ l, w.length ≤ m) → (between s l).length ≤ l.length * (m + s.length)
  | [], _ => Nat.zero_le _
  | [w], h => by
    show w.length ≤ 1 * (m + s.length)
    have := h w List.mem_cons_self
    omega
  | a :: b :: l, h => by
    have ih := between_len s m (b :: l) fun w hw => h w (List.mem_cons_of_mem _ hw)
    have ha := h a List.mem_cons_self
    show (a ++ s ++ between s (b :: l)).length ≤ _
    rw [List.length_append, List.length_append]
    simp only [List.length_cons] at ih ⊢
    rw [Nat.add_mul (l.length + 1) 1]
    omega
end HF
namespace HW
open PySem PySem.Spec PyProof.Rows L2
section
variable {σ : L2.St} {H H' : Hp} {ta tb tc te : TE} {K : PySem.W.Frag} {i j : Nat} {xs ys : List V} {D : Ends} {t2 : TS}
/-- a list of these items, the heap grown -/
def GL (te : TE) (σ : L2.St) (H : Hp) (xs : List V) : Prop := ∀ Q : VK, (∀ p H2, Same H H2 → Pl H2 → H2 p = some (.lst xs) → Q (.ref p) H2) → te σ H Q
theorem gl_val {a : Addr} (pl : Pl H) (h : Val te σ H (.ref a)) (ha : H a = some (.lst xs)) : GL te σ H xs := fun Q q => h Q (q a H (Same.refl H) pl ha)
theorem gl_new (h : GNew te σ H xs) : GL te σ H xs := fun Q q => h Q fun p H2 _ s pl e => q p H2 s pl e
theorem gn_new (pl : Pl H) (h : New te σ H xs) : GNew te σ H xs := HW.New.g pl h
theorem gn_cat (h : GL ta σ H xs) (h2 : ∀ H1, Same H H1 → Pl H1 → GL tb σ H1 ys) (hl : xs.length + ys.length ≤ 10000000) : GNew (tOp rCat ta tb) σ H (xs ++ ys) := fun Q q =>
  h _ fun p H1 s1 pl1 e1 => h2 H1 s1 pl1 _ fun u H2 s2 pl2 e2 => ⟨p, u, xs, ys, rfl, rfl, s2 _ _ e1, e2, Nat.le_trans hl (by decide), fun r hr => q r _ (s1.free (s2.free hr)) (same_upd (s1.trans s2) (s1.free (s2.free hr))) (pl2.upd rfl) upd_same⟩
theorem gn_rep {n : Nat} (h : GL ta σ H xs) (h2 : ∀ H1, Same H H1 → Pl H1 → Val tb σ H1 (.int (n : Int))) (hn : n ≤ 1000) (hl : xs.length ≤ 1000) : GNew (tOp rRep ta tb) σ H (List.replicate n xs).flatten := fun Q q =>
  h _ fun p H1 s1 pl1 e1 => h2 H1 s1 pl1 _ ⟨p, n, xs, rfl, rfl, e1, by omega, by omega, by
    rw [Int.toNat_natCast]
    exact Nat.le_trans (Nat.mul_le_mul hl hn) (by decide), fun r hr => q r _ (s1.free hr) (same_upd s1 (s1.free hr)) (pl1.upd rfl) (by rw [upd_same, Int.toNat_natCast])⟩
theorem gl_is (h : GL te σ H xs) (e : xs = ys) : GL te σ H ys := e ▸ h
theorem gs_setN (h : GNew te σ H xs) (k : ∀ p H2, H p = none → Same H H2 → Pl H2 → H2 p = some (.lst xs) → D.nx (σ.set i (some (.ref p))) H2) : tAsg te (gName i) D σ H := h _ k
/-- a call with one new list -/
theorem gn_callN {sp : Sp} {E : XK} (h : GNew te σ H xs) (hs : ∀ p H1 (Q : VK), H p = none → Same H H1 → Pl H1 → H1 p = some (.lst xs) → (∀ u, H1 u = none → Q (.ref u) (upd H1 u (.lst ys))) → sp [.ref p] H1 Q E) : GNew (tCall sp [] E (tCons te tNil)) σ H ys := fun Q q =>
  h _ fun p H1 n s pl e => hs p H1 _ n s pl e fun u hu => q u _ (s.free hu) (same_upd s (s.free hu)) (pl.upd rfl) upd_same
/-- str(a small number) -/
def strN (n : Nat) : Str := toString (n : Int)
theorem val_str {n : Nat} (h : Val te σ H (.int (n : Int))) (hn : n < 100) : Val (tCB cStr (tCons te tNil)) σ H (.str (strN n)) := val_cb (va_cons h va_nil) fun Q q => ⟨n, rfl, by
  rw [Int.natAbs_natCast]
  exact Nat.lt_of_le_of_lt (Nat.log2_le_self n) (by omega), q⟩
end
theorem str_nat : ∀ n, n < 21 → (strN n).cps.toList = VbsyCore.natText n := by decide +kernel
theorem num_len : ∀ n, n < 21 → (VbsyCore.natText n).length ≤ 2 := by decide +kernel
end HW

namespace HW
open PySem PySem.Spec PyProof.Rows L2
theorem rep01 (b : Bool) : ((List.replicate (if b = true then 1 else 0) (nts [32])).flatten).length ≤ 1 := by cases b <;> decide
def sp0_joined (K : PySem.W.Frag) (A : Ad) : Sp := fun vs H Q _ => ∃ (a : Addr) (zs : List Str), vs = [.ref a] ∧ SqL K H a (zs.map V.str) ∧ (∀ z ∈ zs, z.cps.toList.length ≤ 10) ∧ zs.length ≤ 20 ∧ ∀ p, H p = none → Q (.ref p) (upd H p (.lst (nts (VbsyCore.between [32] (zs.map fun z => z.cps.toList)))))
abbrev sp_joined (K : PySem.W.Frag) (A : Ad) : Sp := Plain (sp0_joined K A)
def t_joined (K : PySem.W.Frag) (A : Ad) : TS := (tSeq (tAsg (tLst tNil) (gName 1)) (tSeq (tFor (iEnum K (tCons (tVar 0) tNil)) (gTup K 2 (gCons (gName 2) (gCons (gName 3) gNil))) (tAsg (tOp rCat (tOp rCat (tVar 1) (tOp rRep (tLst (tCons (tC (.int (32))) tNil)) (tCB cIntV (tCons (tOp rGtI (tVar 2) (tC (.int 0))) tNil)))) (tCall (sp_bytes_of K A) [] E0 (tCons (tVar 3) tNil))) (gName 1))) (tRet (tVar 1))))
theorem pure_joined {K : PySem.W.Frag} {mg : Str → Option Value} {A : Ad} (T : Txt K mg A) {vs : List V} {H : Hp} {Q : VK} {E : XK} (pl : Pl H) (h : sp0_joined K A vs H Q E) : t_joined K A { nx := fun _ H' => Fg H Q .non H', rt := Fg H Q } (start N_joined vs) H := by
  obtain ⟨a, zs, rfl, ha, hz, hl, q⟩ := h
  refine q_setN (xs := []) (nw_lst va_nil (Nat.zero_le _)) fun p hp => ?_
  refine q_forE (xs := zs.map V.str) (val_var rfl) ((same_new hp).seq ha) (fun i σ' H' => ∃ u v2 v3, σ' = [some (.ref a), some (.ref u), v2, v3] ∧ Same H H' ∧ Pl H' ∧ H u = none ∧ H' u = some (.lst (nts (VbsyCore.between [32] ((zs.take i).map fun z => z.cps.toList)))) ∧ i ≤ zs.length) ?_ ?_ ?_ ?_
  · exact ⟨p, none, none, rfl, same_new hp, pl.upd rfl, hp, upd_same, Nat.zero_le _⟩
  · rintro i σ' H' ⟨u, v2, v3, rfl, s1, pl1, hu, hu1, hi⟩
    exact ⟨s1.seq ha, by rw [List.length_map]; exact hi⟩
  · rintro i x σ' H' tt hx ⟨u, v2, v3, rfl, s1, pl1, hu, hu1, hi⟩ htt
    rw [List.getElem?_map] at hx
    cases hz0 : zs[i]? with
    | none => rw [hz0] at hx; cases hx
    | some z =>
      rw [hz0] at hx
      obtain rfl := Option.some.inj hx
      have hil : i < zs.length := (List.getElem?_eq_some_iff.mp hz0).1
      have hzm := List.mem_of_getElem? hz0
      have s2 : Same H' (upd H' tt (.tup [.int (i : Nat), .str z])) := same_new htt
      have pl2 : Pl (upd H' tt (.tup [.int (i : Nat), .str z])) := pl1.upd rfl
      have hu2 := s2 _ _ hu1
      have s02 := s1.trans s2
      generalize upd H' tt (.tup [.int (i : Nat), .str z]) = H2 at s2 pl2 hu2 s02
      have bl : ∀ k, (nts (VbsyCore.between [32] ((zs.take k).map fun z => z.cps.toList))).length ≤ 1000 := fun k => by
        rw [len_nts]
        refine Nat.le_trans (HF.between_len [32] 10 _ fun w hw => ?_) ?_
        · obtain ⟨z', hz', rfl⟩ := List.mem_map.mp hw
          exact hz z' (List.mem_of_mem_take hz')
        · rw [List.length_map, List.length_take]
          have : min k zs.length ≤ 20 := by omega
          exact Nat.le_trans (Nat.mul_le_mul this (Nat.le_refl 11)) (by decide)
      have hzs := hz z hzm
      have b1 := bl i
      have b2 := rep01 (decide ((0 : Int) < (i : Int)))
      have b3 : (nts z.cps.toList).length ≤ 10 := by rw [len_nts]; exact hzs
      refine gs_setN (gn_cat (ys := nts z.cps.toList) (gl_new (gn_cat (ys := (List.replicate (if decide ((0 : Int) < (i : Int)) = true then 1 else 0) (nts [32])).flatten) (gl_val pl2 (val_var rfl) hu2) (fun H3 s3 pl3 => gl_new (gn_rep (n := if decide ((0 : Int) < (i : Int)) = true then 1 else 0) (gl_new (gn_new pl3 (nw_lst (va_cons val_c va_nil) (by show 1 ≤ 100000; decide)))) (fun H4 s4 pl4 => val_is (val_intB (val_cmp (val_var rfl) val_c)) (by split <;> rfl)) (by split <;> decide) (by show 1 ≤ 1000; decide))) (by omega))) (fun H3 s3 pl3 => gl_new (gn_new pl3 (nw_bytesOf pl3 (val_var rfl) (Nat.le_trans hzs (by decide))))) (by rw [List.length_append]; omega)) fun u' H3 hu' s3 pl3 e3 => ?_
      refine ⟨u', _, _, rfl, s02.trans s3, pl3, s02.free hu', ?_, hil⟩
      rw [e3, List.take_add_one, hz0]
      show some (HO.lst (_ ++ _ ++ _)) = some (HO.lst (nts (VbsyCore.between [32] ((zs.take i ++ [z]).map fun z => z.cps.toList))))
      rw [List.map_append, List.map_singleton, HF.between_snoc]
      by_cases h0 : i = 0
      · subst h0
        rfl
      · rw [if_pos (by simp; omega)]
        rw [if_neg (by
          rw [List.isEmpty_iff, List.map_eq_nil_iff, List.take_eq_nil_iff]
          rintro (h | h)
          · exact h0 h
          · rw [h] at hil; exact absurd hil (Nat.not_lt_zero _))]
        unfold nts
        simp
  · rintro σ' H' ⟨u, v2, v3, rfl, s1, pl1, hu, hu1, hi⟩
    rw [List.length_map, List.take_length] at hu1
    exact s_ret (val_var rfl) (Fg.lst s1 hu hu1 (q u hu))
theorem ok_joined {P : Program} {w : World} {K : PySem.W.Frag} {mg : Str → Option Value} {base : Heap} {A : Ad} (T : Txt K mg A) : FOk P w K mg base CX0 "joined" 2 ["words"] (sp_joined K A) := by
  obtain ⟨fn, fd, hm, F⟩ := T.f_joined
  refine ⟨fn, fd, hm, fun_okG F sc_joined (fun vs H Q E h => ?_) (fun cdv A' outer s H vs Q E hr pl h => ⟨t_joined K A, ?_, pure_joined T pl h⟩), F.binds fun _ _ _ _ _ _ us hl => match us, hl with | [_], _ => rfl⟩
  · obtain ⟨_, _, rfl, _⟩ := h
    rfl
  · exact (pss_cons (ps_set (i := 1) sc_joined.nd rfl (Or.inl rfl) (pe_lst pa_nil)) (pss_cons (ps_for PassesOwn.never rfl (pi_enum (by rfl) T.b_enumerate (pa_cons (pv 0) pa_nil)) (pg_tup rfl (pgs_cons (pg_name (i := 2) sc_joined.nd rfl (Or.inl rfl)) (pgs_cons (pg_name (i := 3) sc_joined.nd rfl (Or.inl rfl)) pgs_nil))) (pss_one (ps_set (i := 1) sc_joined.nd rfl (Or.inl rfl) (pe_op op_cat (pe_op op_cat (pv 1) (pe_op op_rep (pe_lst (pa_cons (pe_gi rfl T.g_BLANK) pa_nil)) (pe_callTy call_int1 rfl T.b_int PyProof.Rows.boot_int (pa_cons (pe_cmpR op_gt (pv 2) pe_int (nomark _)) pa_nil)))) (pe_callM (ok_bytes_of T) (hr.mono (by decide)) rfl (pa_cons (pv 3) pa_nil)))))) (pss_one (ps_ret (pv 1)))))
def SN : List (Nat × Str) := [(0, "above"), (1, "right"), (2, "below"), (3, "left")]
theorem sn_names (f : Vbsyae.Field) : ((SN.filter fun x => Vbsyae.walled f x.1).map fun x => x.2.cps.toList) = (HF.NAMES.filter fun x => Vbsyae.walled f x.1).map (·.2) := by
  have e0 : ("above" : Str).cps.toList = Vbsyae.W "above" := by decide +kernel
  have e1 : ("right" : Str).cps.toList = Vbsyae.W "right" := by decide +kernel
  have e2 : ("below" : Str).cps.toList = Vbsyae.W "below" := by decide +kernel
  have e3 : ("left" : Str).cps.toList = Vbsyae.W "left" := by decide +kernel
  show (List.filter _ [(0, ("above" : Str)), (1, ("right" : Str)), (2, ("below" : Str)), (3, ("left" : Str))]).map _ = (List.filter _ [(0, Vbsyae.W "above"), (1, Vbsyae.W "right"), (2, Vbsyae.W "below"), (3, Vbsyae.W "left")]).map _
  simp only [List.filter_cons, List.filter_nil]
  cases Vbsyae.walled f 0 <;> cases Vbsyae.walled f 1 <;> cases Vbsyae.walled f 2 <;> cases Vbsyae.walled f 3 <;> simp [e0, e1, e2, e3]
/-- the walls' names -/
theorem gn_wallsA {K : PySem.W.Frag} {mg : Str → Option Value} {A : Ad} (T : Txt K mg A) {H : Hp} {a : Addr} {f : Vbsyae.Field} {σ0 : List (Option V)} {ta : TA} (pl : Pl H) (F : FieldAt A H a f) (hσ : σ0.length = 5) (h0 : ValA ta (some (.ref a) :: (σ0 ++ [none, none])) H [.ref A.t_SIDE_WORDS]) :
    GNew (tLc (iEnumT K ta) (gTup K 2 (gCons (gName 6) (gCons (gName 7) gNil))) (tB (tOp (rIxL K) (tFld K (tVar 0) "walled") (tVar 6))) (tVar 7) [6, 7]) (some (.ref a) :: (σ0 ++ [none, none])) H ((SN.filter fun x => Vbsyae.walled f x.1).map fun x => V.str x.2) := by
  obtain ⟨x1, x2, x3, x4, x5, rfl⟩ : ∃ x1 x2 x3 x4 x5, σ0 = [x1, x2, x3, x4, x5] := by
    match σ0, hσ with
    | [x1, x2, x3, x4, x5], _ => exact ⟨x1, x2, x3, x4, x5, rfl⟩
  intro Q q
  refine h0 _ ⟨A.t_SIDE_WORDS, _, rfl, T.q_SIDE_WORDS H, fun Dl hD => ?_⟩
  refine lc_it (walk_enumT (K := K) (a := A.t_SIDE_WORDS) (xs := [.str "above", .str "right", .str "below", .str "left"])) (LcInv H Dl SN (fun x => Vbsyae.walled f x.1) (fun x => V.str x.2)) ⟨same_new hD, pl.upd rfl, upd_same⟩ (fun _ H _ _ => T.q_SIDE_WORDS H) (fun i x H1 H2 hi inv y => ?_) fun H' inv => ?_
  · obtain ⟨tt, u, v, rfl, hT, rfl, h1, h2⟩ := y
    obtain rfl := Option.some.inj h1
    refine g_pair (SqT.of upd_same) ⟨wipe2 (by decide), ?_⟩
    have hi : i < 4 := hi
    obtain ⟨z, rfl, hx⟩ : ∃ z : Str, v = V.str z ∧ SN[i]? = some (i, z) := by
      have : i = 0 ∨ i = 1 ∨ i = 2 ∨ i = 3 := by omega
      rcases this with rfl | rfl | rfl | rfl <;> exact ⟨_, (Option.some.inj h2).symm, rfl⟩
    obtain ⟨s1, pl1, hd⟩ := inv
    have s2 := same_new (o := .tup [.int (i : Nat), .str z]) hT
    refine lcg_step (l := SN) (p := fun x => Vbsyae.walled f x.1) (u := fun x => V.str x.2) (x := (i, z)) hD (by decide) hx ⟨s1.trans s2, pl1.upd rfl, s2 _ _ hd⟩ (fun H' s' pl' => ?_) fun _ H' s' pl' => ?_
    · obtain ⟨g, dx, w, f1, f2⟩ := F.same s'
      exact HW.Ans.g pl' (an_B (v_wall T g f1 f2 (val_var rfl) (val_var rfl) hi))
    · exact HW.Val.g pl' (val_var rfl)
  · obtain ⟨s1, pl1, hd⟩ := inv
    rw [show [V.str "above", V.str "right", V.str "below", V.str "left"].length = SN.length from rfl, List.take_length] at hd
    exact q Dl H' hD s1 pl1 hd
theorem num10 {n : Nat} (h : n < 21) : (strN n).cps.toList.length ≤ 10 := by
  rw [str_nat n h]
  exact Nat.le_trans (num_len n h) (by decide)
def sp0_written (K : PySem.W.Frag) (A : Ad) : Sp := fun vs H Q _ => ∃ (a b : Addr) (f : Vbsyae.Field), vs = [.ref a, .ref b] ∧ FieldAt A H a f ∧ DaysAt A H b f.days ∧ HF.WF f ∧ ∀ p, H p = none → Q (.ref p) (upd H p (.lst (nts (Vbsyae.fieldText f))))
abbrev sp_written (K : PySem.W.Frag) (A : Ad) : Sp := Plain (sp0_written K A)
def t_written (K : PySem.W.Frag) (A : Ad) : TS := (tSeq (tAsg (tLc (iEnumT K (tCons (tC (.ref A.t_SIDE_WORDS)) tNil)) (gTup K 2 (gCons (gName 6) (gCons (gName 7) gNil))) (tB (tOp (rIxL K) (tFld K (tVar 0) "walled") (tVar 6))) (tVar 7) [6, 7]) (gName 2)) (tSeq (tAsg (tCall (sp_joined K A) [] E0 (tCons (tOp rCat (tLst (tCons (tC (.str "field")) (tCons (tCB cStr (tCons (tFld K (tVar 0) "rows") tNil)) (tCons (tCB cStr (tCons (tFld K (tVar 0) "columns") tNil)) (tCons (tC (.str "walls")) tNil))))) (tVar 2)) tNil)) (gName 3)) (tSeq (tFor (iList K (tVar 1)) (gName 4) (tSeq (tAsg (tLst (tCons (tC (.str "fold")) (tCons (tCB cStr (tCons (tFld K (tVar 4) "row") tNil)) (tCons (tCB cStr (tCons (tFld K (tVar 4) "column") tNil)) (tCons (tC (.str "high")) (tCons (tCB cStr (tCons (tFld K (tVar 4) "high") tNil)) (tCons (tC (.str "wide")) (tCons (tCB cStr (tCons (tFld K (tVar 4) "wide") tNil)) tNil)))))))) (gName 5)) (tAsg (tOp rCat (tOp rCat (tVar 3) (tLst (tCons (tC (.int (10))) tNil))) (tCall (sp_joined K A) [] E0 (tCons (tVar 5) tNil))) (gName 3)))) (tRet (tVar 3)))))
theorem pure_written {K : PySem.W.Frag} {mg : Str → Option Value} {A : Ad} (T : Txt K mg A) {vs : List V} {H : Hp} {Q : VK} {E : XK} (pl : Pl H) (h : sp0_written K A vs H Q E) : t_written K A { nx := fun _ H' => Fg H Q .non H', rt := Fg H Q } (start N_written vs) H := by
  obtain ⟨a, b, f, rfl, F, ⟨l, l1, l2, l3⟩, wf, q⟩ := h
  have g := wf.g
  have r8 := g.r8
  have c8 := g.c8
  have few := wf.few
  have hll : l.length = f.days.length := by rw [← l1, List.length_map]
  refine g_setN (gn_wallsA T (σ0 := [some (.ref b), none, none, none, none]) pl F rfl (va_cons val_c va_nil)) fun pw H1 hpw s1 pl1 e1 => ?_
  obtain ⟨_, dx, w, f1, f2⟩ := F.same s1
  have F10 : ∀ z ∈ [("field" : Str), strN f.rows, strN f.cols, ("walls" : Str)] ++ (SN.filter fun x => Vbsyae.walled f x.1).map (·.2), z.cps.toList.length ≤ 10 := fun z hz => by
    rcases List.mem_append.mp hz with hz | hz
    · simp only [List.mem_cons, List.not_mem_nil, or_false] at hz
      rcases hz with rfl | rfl | rfl | rfl
      · decide +kernel
      · exact num10 (by omega)
      · exact num10 (by omega)
      · decide +kernel
    · obtain ⟨x, hx, rfl⟩ := List.mem_map.mp hz
      have hx := (List.mem_filter.mp hx).1
      rw [show SN = [(0, ("above" : Str)), (1, ("right" : Str)), (2, ("below" : Str)), (3, ("left" : Str))] from rfl] at hx
      simp only [List.mem_cons, List.not_mem_nil, or_false] at hx
      rcases hx with rfl | rfl | rfl | rfl <;> decide +kernel
  have hlen : ([("field" : Str), strN f.rows, strN f.cols, ("walls" : Str)] ++ (SN.filter fun x => Vbsyae.walled f x.1).map (·.2)).length ≤ 8 := by
    rw [List.length_append, List.length_map]
    have := List.length_filter_le (fun x : Nat × Str => Vbsyae.walled f x.1) SN
    have e : SN.length = 4 := rfl
    simp only [List.length_cons, List.length_nil]
    omega
  refine g_setN (gn_callN (ys := nts (VbsyCore.between [32] (([("field" : Str), strN f.rows, strN f.cols, ("walls" : Str)] ++ (SN.filter fun x => Vbsyae.walled f x.1).map (·.2)).map fun z => z.cps.toList))) (gn_cat (xs := [V.str "field", .str (strN f.rows), .str (strN f.cols), .str "walls"]) (gl_new (gn_new pl1 (nw_lst (va_cons val_c (va_cons (val_str (v_rows T f1 (val_var rfl)) (by omega)) (va_cons (val_str (v_cols T f1 (val_var rfl)) (by omega)) (va_cons val_c va_nil)))) (by show 4 ≤ 100000; decide)))) (fun H2 s2 pl2 => gl_val pl2 (val_var rfl) (s2 _ _ e1)) (by
      rw [List.length_map]
      have := List.length_filter_le (fun x : Nat × Str => Vbsyae.walled f x.1) SN
      have e : SN.length = 4 := rfl
      simp only [List.length_cons, List.length_nil]
      omega)) fun p H2 Q hp s2 pl2 e2 q => ⟨pl2, p, _, rfl, ?_, F10, Nat.le_trans hlen (by decide), q⟩) fun p0 H2 hp0 s2 pl2 e2 => ?_
  · refine SqL.of ?_
    rw [e2, List.map_append, List.map_map]
    rfl
  have hhead : VbsyCore.between [32] (([("field" : Str), strN f.rows, strN f.cols, ("walls" : Str)] ++ (SN.filter fun x => Vbsyae.walled f x.1).map (·.2)).map fun z => z.cps.toList) = VbsyCore.between [32] ([Vbsyae.W "field", Vbsyae.num f.rows, Vbsyae.num f.cols, Vbsyae.W "walls"] ++ ((List.range 4).filter (Vbsyae.walled f)).map fun s => Vbsyae.SIDES.getD s []) := by
    rw [HF.walls_names, ← sn_names, List.map_append, List.map_map]
    congr 2
    show [("field" : Str).cps.toList, (strN f.rows).cps.toList, (strN f.cols).cps.toList, ("walls" : Str).cps.toList] = _
    rw [str_nat _ (by omega), str_nat _ (by omega), show ("field" : Str).cps.toList = Vbsyae.W "field" by decide +kernel, show ("walls" : Str).cps.toList = Vbsyae.W "walls" by decide +kernel]
    rfl
  have hhl : (VbsyCore.between [32] (([("field" : Str), strN f.rows, strN f.cols, ("walls" : Str)] ++ (SN.filter fun x => Vbsyae.walled f x.1).map (·.2)).map fun z => z.cps.toList)).length ≤ 88 := by
    refine Nat.le_trans (HF.between_len [32] 10 _ fun w hw => ?_) ?_
    · obtain ⟨z', hz', rfl⟩ := List.mem_map.mp hw
      exact F10 z' hz'
    · rw [List.length_map]
      exact Nat.le_trans (Nat.mul_le_mul hlen (Nat.le_refl 11)) (by decide)
  rw [hhead] at e2 hhl
  have hres : Vbsyae.fieldText f = VbsyCore.between [10] (VbsyCore.between [32] ([Vbsyae.W "field", Vbsyae.num f.rows, Vbsyae.num f.cols, Vbsyae.W "walls"] ++ ((List.range 4).filter (Vbsyae.walled f)).map fun s => Vbsyae.SIDES.getD s []) :: f.days.map Vbsyae.foldText) := rfl
  generalize VbsyCore.between [32] ([Vbsyae.W "field", Vbsyae.num f.rows, Vbsyae.num f.cols, Vbsyae.W "walls"] ++ ((List.range 4).filter (Vbsyae.walled f)).map fun s => Vbsyae.SIDES.getD s []) = hd at e2 hhl hres
  have s02 := s1.trans s2
  have ftl : ∀ x ∈ f.days, (Vbsyae.foldText x).length ≤ 88 := fun x hx => by
    have ft := wf.fit x hx
    have a1 := ft.h
    have a2 := ft.w
    have a3 := ft.h1
    have a4 := ft.w1
    refine Nat.le_trans (HF.between_len [32] 10 _ fun w hw => ?_) (by show 7 * 11 ≤ 88; decide)
    simp only [List.mem_cons, List.not_mem_nil, or_false] at hw
    rcases hw with rfl | rfl | rfl | rfl | rfl | rfl | rfl
    · decide +kernel
    · exact Nat.le_trans (num_len _ (by omega)) (by decide)
    · exact Nat.le_trans (num_len _ (by omega)) (by decide)
    · decide +kernel
    · exact Nat.le_trans (num_len _ (by omega)) (by decide)
    · decide +kernel
    · exact Nat.le_trans (num_len _ (by omega)) (by decide)
  refine q_forL (xs := l.map fun x => V.ref x.2) (val_var rfl) (SqL.of (s02 _ _ l2)) (fun i σ' H' => ∃ u v4 v5, σ' = [some (.ref a), some (.ref b), some (.ref pw), some (.ref u), v4, v5, none, none] ∧ Same H H' ∧ Pl H' ∧ H u = none ∧ H' u = some (.lst (nts (VbsyCore.between [10] (hd :: (l.take i).map fun x => Vbsyae.foldText x.1)))) ∧ i ≤ l.length) ?_ ?_ ?_ ?_
  · exact ⟨p0, none, none, rfl, s02, pl2, s1.free hp0, e2, Nat.zero_le _⟩
  · rintro i σ' H' ⟨u, v4, v5, rfl, s3, pl3, hu, hu3, hi⟩
    exact SqL.of (s3 _ _ l2)
  · rintro i x σ' H' hx ⟨u, v4, v5, rfl, s3, pl3, hu, hu3, hi⟩
    rw [List.getElem?_map] at hx
    cases hy : l[i]? with
    | none => rw [hy] at hx; cases hx
    | some y =>
      rw [hy] at hx
      obtain rfl := Option.some.inj hx
      have hil : i < l.length := (List.getElem?_eq_some_iff.mp hy).1
      have hym := List.mem_of_getElem? hy
      have hyd : y.1 ∈ f.days := by rw [← l1]; exact List.mem_map.mpr ⟨y, hym, rfl⟩
      have ft := wf.fit y.1 hyd
      have a1 := ft.h
      have a2 := ft.w
      obtain ⟨dy, d1⟩ := (l3 y hym).same s3
      refine q_setN (nw_lst (va_cons val_c (va_cons (val_str (v_drow T d1 (val_var rfl)) (by omega)) (va_cons (val_str (v_dcol T d1 (val_var rfl)) (by omega)) (va_cons val_c (va_cons (val_str (v_dhigh T d1 (val_var rfl)) (by omega)) (va_cons val_c (va_cons (val_str (v_dwide T d1 (val_var rfl)) (by omega)) va_nil))))))) (by show 7 ≤ 100000; decide)) fun pz hpz => ?_
      have s4 := same_new (o := .lst [V.str "fold", .str (strN y.1.row), .str (strN y.1.col), .str "high", .str (strN y.1.high), .str "wide", .str (strN y.1.wide)]) hpz
      have hz10 : ∀ z ∈ [("fold" : Str), strN y.1.row, strN y.1.col, "high", strN y.1.high, "wide", strN y.1.wide], z.cps.toList.length ≤ 10 := fun z hz => by
        simp only [List.mem_cons, List.not_mem_nil, or_false] at hz
        rcases hz with rfl | rfl | rfl | rfl | rfl | rfl | rfl
        · decide +kernel
        · exact num10 (by omega)
        · exact num10 (by omega)
        · decide +kernel
        · exact num10 (by omega)
        · decide +kernel
        · exact num10 (by omega)
      have etx : (([("fold" : Str), strN y.1.row, strN y.1.col, "high", strN y.1.high, "wide", strN y.1.wide] : List Str).map fun z => z.cps.toList) = [Vbsyae.W "fold", Vbsyae.num y.1.row, Vbsyae.num y.1.col, Vbsyae.W "high", Vbsyae.num y.1.high, Vbsyae.W "wide", Vbsyae.num y.1.wide] := by
        show [("fold" : Str).cps.toList, (strN y.1.row).cps.toList, (strN y.1.col).cps.toList, ("high" : Str).cps.toList, (strN y.1.high).cps.toList, ("wide" : Str).cps.toList, (strN y.1.wide).cps.toList] = _
        rw [str_nat _ (by omega), str_nat _ (by omega), str_nat _ (by omega), str_nat _ (by omega), show ("fold" : Str).cps.toList = Vbsyae.W "fold" by decide +kernel, show ("high" : Str).cps.toList = Vbsyae.W "high" by decide +kernel, show ("wide" : Str).cps.toList = Vbsyae.W "wide" by decide +kernel]
        rfl
      have hb1 : (nts (VbsyCore.between [10] (hd :: (l.take i).map fun x => Vbsyae.foldText x.1))).length ≤ 2000 := by
        rw [len_nts]
        refine Nat.le_trans (HF.between_len [10] 88 _ fun w hw => ?_) ?_
        · rcases List.mem_cons.mp hw with rfl | hw
          · exact hhl
          · obtain ⟨x, hx, rfl⟩ := List.mem_map.mp hw
            exact ftl x.1 (by rw [← l1]; exact List.mem_map.mpr ⟨x, List.mem_of_mem_take hx, rfl⟩)
        · rw [List.length_cons, List.length_map, List.length_take]
          have : min i l.length + 1 ≤ 21 := by omega
          exact Nat.le_trans (Nat.mul_le_mul this (Nat.le_refl 89)) (by decide)
      have hb2 : (nts (Vbsyae.foldText y.1)).length ≤ 88 := by rw [len_nts]; exact ftl y.1 hyd
      refine gs_setN (gn_cat (ys := nts (Vbsyae.foldText y.1)) (gl_new (gn_cat (ys := nts [10]) (gl_val (pl3.upd rfl) (val_var rfl) (s4 _ _ hu3)) (fun H5 s5 pl5 => gl_new (gn_new pl5 (nw_lst (va_cons val_c va_nil) (by show 1 ≤ 100000; decide)))) (by show _ + 1 ≤ _; omega))) (fun H5 s5 pl5 => gl_new (gn_new pl5 (nw_call (va_cons (val_var rfl) va_nil) fun Q q => ⟨pl5, pz, [("fold" : Str), strN y.1.row, strN y.1.col, "high", strN y.1.high, "wide", strN y.1.wide], rfl, SqL.of (s5 _ _ upd_same), hz10, by show 7 ≤ 20; decide, by
        rw [etx]
        exact q⟩))) (by rw [List.length_append]; show _ + 1 + _ ≤ _; omega)) fun u' H5 hu' s5 pl5 e5 => ?_
      have s35 : Same H H5 := (s3.trans s4).trans s5
      refine ⟨u', _, _, rfl, s35, pl5, (s3.trans s4).free hu', ?_, hil⟩
      rw [e5, List.take_add_one, hy]
      show some (HO.lst (_ ++ _ ++ _)) = some (HO.lst (nts (VbsyCore.between [10] (hd :: (l.take i ++ [y]).map fun x => Vbsyae.foldText x.1))))
      rw [List.map_append, List.map_singleton, ← List.cons_append, HF.between_snoc, if_neg (by simp)]
      unfold nts
      simp
  · rintro σ' H' ⟨u, v4, v5, rfl, s3, pl3, hu, hu3, hi⟩
    rw [List.length_map, List.take_length] at hu3
    have e : (l.map fun x => Vbsyae.foldText x.1) = f.days.map Vbsyae.foldText := by rw [← l1, List.map_map]; rfl
    rw [e, ← hres] at hu3
    exact s_ret (val_var rfl) (Fg.lst s3 hu hu3 (q u hu))
theorem ok_written {P : Program} {w : World} {K : PySem.W.Frag} {mg : Str → Option Value} {base : Heap} {A : Ad} (T : Txt K mg A) : FOk P w K mg base CX0 "written" 3 ["field", "days"] (sp_written K A) := by
  obtain ⟨fn, fd, hm, F⟩ := T.f_written
  refine ⟨fn, fd, hm, fun_okG F sc_written (fun vs H Q E h => ?_) (fun cdv A' outer s H vs Q E hr pl h => ⟨t_written K A, ?_, pure_written T pl h⟩), F.binds fun _ _ _ _ _ _ us hl => match us, hl with | [_, _], _ => rfl⟩
  · obtain ⟨_, _, _, rfl, _⟩ := h
    rfl
  · exact (pss_cons (ps_setLc (i := 2) (own := [("side", 6), ("word", 7)]) (g := (gTup K 2 (gCons (gName 6) (gCons (gName 7) gNil)))) (tt := (tB (tOp (rIxL K) (tFld K (tVar 0) "walled") (tVar 6)))) rfl sc_written.nd rfl rfl (sw_true rfl rfl rfl (by decide +kernel)) (pi_enumT (by rfl) T.b_enumerate (pa_cons (pe_gt rfl T.g_SIDE_WORDS) pa_nil)) (blkOk_by (N := N_written) (sc := defScope s_written) (by decide +kernel)) (fun _ _ _ _ _ => (pg_tup rfl (pgs_cons (pg_name (i := 6) sc_written.nd rfl (Or.inl rfl)) (pgs_cons (pg_name (i := 7) sc_written.nd rfl (Or.inl rfl)) pgs_nil)))) (fun _ _ _ _ _ => (pts_one (pt_val (pe_ix ix_list (pe_fld (pv 0) rfl) (pv 6) (fun _ _ => rfl))))) (fun _ _ _ _ _ => (pv 7))) (pss_cons (ps_set (i := 3) sc_written.nd rfl (Or.inl rfl) (pe_callM (ok_joined T) (hr.mono (by decide)) rfl (pa_cons (pe_op op_cat (pe_lst (pa_cons pe_str (pa_cons (pe_callTy call_str_int rfl T.b_str PyProof.Rows.boot_str (pa_cons (pe_fld (pv 0) rfl) pa_nil)) (pa_cons (pe_callTy call_str_int rfl T.b_str PyProof.Rows.boot_str (pa_cons (pe_fld (pv 0) rfl) pa_nil)) (pa_cons pe_str pa_nil))))) (pv 2)) pa_nil))) (pss_cons (ps_for PassesOwn.never rfl (pi_list (pv 1)) (pg_name (i := 4) sc_written.nd rfl (Or.inl rfl)) (pss_cons (ps_set (i := 5) sc_written.nd rfl (Or.inl rfl) (pe_lst (pa_cons pe_str (pa_cons (pe_callTy call_str_int rfl T.b_str PyProof.Rows.boot_str (pa_cons (pe_fld (pv 4) rfl) pa_nil)) (pa_cons (pe_callTy call_str_int rfl T.b_str PyProof.Rows.boot_str (pa_cons (pe_fld (pv 4) rfl) pa_nil)) (pa_cons pe_str (pa_cons (pe_callTy call_str_int rfl T.b_str PyProof.Rows.boot_str (pa_cons (pe_fld (pv 4) rfl) pa_nil)) (pa_cons pe_str (pa_cons (pe_callTy call_str_int rfl T.b_str PyProof.Rows.boot_str (pa_cons (pe_fld (pv 4) rfl) pa_nil)) pa_nil))))))))) (pss_one (ps_set (i := 3) sc_written.nd rfl (Or.inl rfl) (pe_op op_cat (pe_op op_cat (pv 3) (pe_lst (pa_cons (pe_gi rfl T.g_LINE_END) pa_nil))) (pe_callM (ok_joined T) (hr.mono (by decide)) rfl (pa_cons (pv 5) pa_nil))))))) (pss_one (ps_ret (pv 3))))))
end HW

/-! # Walk: the house in the heap -/
namespace HW
open PySem PySem.Spec PyProof.Rows L2
def its (l : List Int) : List V := l.map V.int
theorem len_its (l : List Int) : (its l).length = l.length := List.length_map ..
theorem its_nts (m : List Nat) : its (m.map fun (n : Nat) => (n : Int)) = nts m := by
  unfold its nts
  rw [List.map_map]
  rfl
theorem its_ints (m : List Nat) : its (VbsyCore.ints m) = nts m := its_nts m
theorem its_at {l : List Int} {i : Nat} (h : i < l.length) : atI (its l) (i : Int) = some (.int (l.getD i 0)) := by
  refine atI_nat ?_
  unfold its
  rw [List.getElem?_map, List.getD_eq_getElem?_getD, List.getElem?_eq_getElem h]
  rfl
def houF (fa da : Addr) : List (Str × V) := [("field", .ref fa), ("days", .ref da)]
def kH : List Str := ["field", "days"]
structure HouseAt (A : Ad) (N : Addr → Prop) (H : Hp) (h : Addr) (f : Vbsyae.Field) : Prop where
  wf : HF.WF f
  at_ : ∃ dx fa da, H h = some (.ins A.cHouse dx (houF fa da)) ∧ FieldAt A H fa f ∧ DaysAt A H da f.days ∧ N da
section
variable {A : Ad} {N : Addr → Prop} {H H' : Hp} {h a p : Addr} {f : Vbsyae.Field} {days : List Vbsyae.Fold}
theorem HouseAt.same (s : HouseAt A N H h f) (sm : Same H H') : HouseAt A N H' h f := by
  obtain ⟨w, dx, fa, da, h1, h2, h3, h4⟩ := s
  exact ⟨w, dx, fa, da, sm _ _ h1, h2.same sm, h3.same sm, h4⟩
theorem FieldAt.keepH {C dx : Addr} {fs : List (Str × V)} (F : FieldAt A H a f) (e : H h = some (.ins C dx fs)) (hf : fs.length = 2) (b : But h H H') : FieldAt A H' a f := by
  obtain ⟨g, dy, w, h1, h2⟩ := F
  refine ⟨g, dy, w, b _ _ h1 fun z => ?_, b _ _ h2 fun z => by rw [z, e] at h2; cases h2⟩
  rw [z, e] at h1
  have := Option.some.inj h1
  injection this with _ _ z2
  rw [z2] at hf
  exact absurd hf (by show 3 ≠ 2; decide)
theorem DaysAt.keepH {C dx : Addr} {fs : List (Str × V)} (D : DaysAt A H p days) (e : H h = some (.ins C dx fs)) (hf : fs.length = 2) (b : But h H H') : DaysAt A H' p days := by
  obtain ⟨l, l1, l2, l3⟩ := D
  refine ⟨l, l1, b _ _ l2 (fun z => by rw [z, e] at l2; exact nomatch l2), fun x hx => ?_⟩
  obtain ⟨dy, h1⟩ := l3 x hx
  refine ⟨dy, b _ _ h1 fun z => ?_⟩
  rw [z, e] at h1
  have := Option.some.inj h1
  injection this with _ _ z2
  rw [z2] at hf
  exact absurd hf (by show 4 ≠ 2; decide)
/-- what is no day's list and no house stays -/
def Kp (N : Addr → Prop) (h : Addr) (H H' : Hp) : Prop := ∀ b o, H b = some o → b ≠ h → ¬ N b → H' b = some o
theorem Kp.of (s : Same H H') : Kp N h H H' := fun b o e _ _ => s b o e
theorem Kp.upd {o : HO} (k : Kp N h H H') (n : H p = none) : Kp N h H (L2.upd H' p o) := fun b u e hb nb => by
  rw [upd_ne (ne_of_none e n)]
  exact k b u e hb nb
theorem Kp.house {o : HO} (k : Kp N h H H') : Kp N h H (L2.upd H' h o) := fun b u e hb nb => by
  rw [upd_ne hb]
  exact k b u e hb nb
theorem Kp.list {o : HO} (k : Kp N h H H') (hp : N p) : Kp N h H (L2.upd H' p o) := fun b u e hb nb => by
  rw [upd_ne fun z => nb (by rw [z]; exact hp)]
  exact k b u e hb nb
end
section
variable {K : PySem.W.Frag} {mg : Str → Option Value} {A : Ad} {H : Hp} {σ : L2.St} {ta te : TE} {h dx fa da : Addr}
theorem v_field (T : Txt K mg A) (h1 : H h = some (.ins A.cHouse dx (houF fa da))) (hv : Val ta σ H (.ref h)) : Val (tFld K ta "field") σ H (.ref fa) := val_fld hv h1 T.c_House T.n_House_field (lk_at (ks := kH) 0 rfl (by decide +kernel) rfl)
theorem v_days (T : Txt K mg A) (h1 : H h = some (.ins A.cHouse dx (houF fa da))) (hv : Val ta σ H (.ref h)) : Val (tFld K ta "days") σ H (.ref da) := val_fld hv h1 T.c_House T.n_House_days (lk_at (ks := kH) 1 rfl (by decide +kernel) rfl)
theorem no_H {m : Str} (h : kH.contains m = false := by decide +kernel) : (houF fa da).lookup m = none := lk_no (ks := kH) rfl h
theorem put_field {fb : Addr} : putF "field" (.ref fb) (houF fa da) = houF fb da := by
  rw [put_old (ks := kH) 0 rfl (by decide +kernel)]
  rfl
theorem put_days {db : Addr} : putF "days" (.ref db) (houF fa da) = houF fa db := by
  rw [put_old (ks := kH) 1 rfl (by decide +kernel)]
  rfl
end
/-! ### answers of calls that change nothing -/
section
variable {σ : L2.St} {H0 H : Hp} {te : TE} {xs : List V} {ans : List Int} {Q : VK} {n b c : L2.St → Hp → Prop}
theorem fg_its {H' : Hp} {p : Addr} (s : Same H0 H') (hp : H0 p = none) (e : H' p = some (.lst (its ans))) (q : ∀ p, H0 p = none → Q (.ref p) (upd H0 p (.lst (its ans)))) : Fg H0 Q (.ref p) H' := Fg.lst s hp e (q p hp)
theorem s_its {D : Ends} (hD : D.rt = Fg H0 Q) (sm : Same H0 H) (h : GNew te σ H xs) (e : xs = its ans) (q : ∀ p, H0 p = none → Q (.ref p) (upd H0 p (.lst (its ans)))) : tRet te D σ H :=
  h _ fun p H2 hp s pl e' => by
    rw [hD]
    exact fg_its (sm.trans s) (sm.free hp) (by rw [e', e]) q
theorem s_itsV {D : Ends} (hD : D.rt = Fg H0 Q) (sm : Same H0 H) {p : Addr} (h : Val te σ H (.ref p)) (hp : H0 p = none) (e : H p = some (.lst (its ans))) (q : ∀ p, H0 p = none → Q (.ref p) (upd H0 p (.lst (its ans)))) : tRet te D σ H :=
  h _ (by
    rw [hD]
    exact fg_its sm hp e q)
end
end HW

namespace HW
open PySem PySem.Spec PyProof.Rows L2
theorem its_seq {H : Hp} {K : PySem.W.Frag} {l : List Int} {a : Addr} (h : H a = some (.lst (its l))) : SqL K H a (l.map V.int) := SqL.of h
def sp0_are_bytes (K : PySem.W.Frag) (A : Ad) : Sp := fun vs H Q _ => ∃ (a : Addr) (l : List Int), vs = [.ref a] ∧ H a = some (.lst (its l)) ∧ l.length ≤ 2000 ∧ Q (.bl (HF.isBytes l)) H
abbrev sp_are_bytes (K : PySem.W.Frag) (A : Ad) : Sp := Plain (sp0_are_bytes K A)
def t_are_bytes (K : PySem.W.Frag) (A : Ad) : TS := (tRet (tOp rEq (tCB (cLen K) (tCons (tLc (iList K (tVar 0)) (gName 1) (tOr (tTest (tOp rLtI (tVar 1) (tC (.int 0)))) (tTest (tOp rGtI (tVar 1) (tC (.int 255))))) (tVar 1) [1]) tNil)) (tC (.int 0))))
theorem pure_are_bytes {K : PySem.W.Frag} {mg : Str → Option Value} {A : Ad} (T : Txt K mg A) {vs : List V} {H : Hp} {Q : VK} {E : XK} (pl : Pl H) (h : sp0_are_bytes K A vs H Q E) : t_are_bytes K A { nx := fun _ H' => Fg H Q .non H', rt := Fg H Q } (start N_are_bytes vs) H := by
  obtain ⟨a, l, rfl, hl, hz, q⟩ := h
  refine use_len (xs := (l.filter fun c => !VbsyCore.isBetween c 0 255).map V.int) (nw_lcL l V.int (fun c => !VbsyCore.isBetween c 0 255) V.int pl (val_var rfl) (its_seq hl) (by omega) (fun c hc H2 s2 pl2 => ?_) fun c hc _ H2 s2 pl2 => val_var rfl) fun p hp => ?_
  · have e : (!VbsyCore.isBetween c 0 255) = (decide (c < 0) || decide (255 < c)) := by
      simp only [VbsyCore.isBetween, Bool.not_and, ← decide_not, Int.not_le]
    rw [e]
    exact an_or (an_test (val_cmp (val_var rfl) val_c)) fun _ => an_test (val_cmp (val_var rfl) val_c)
  · refine ⟨rfl, Fg.same (same_new hp) ?_⟩
    have e1 : decide (V.int (((l.filter fun c => !VbsyCore.isBetween c 0 255).map V.int).length : Int) = V.int 0) = HF.isBytes l := by
      rw [List.length_map]
      show _ = l.all fun c => VbsyCore.isBetween c 0 255
      rw [← filt_nil]
      simp
    rw [e1]
    exact q
theorem ok_are_bytes {P : Program} {w : World} {K : PySem.W.Frag} {mg : Str → Option Value} {base : Heap} {A : Ad} (T : Txt K mg A) : FOk P w K mg base CX0 "are_bytes" 1 ["row"] (sp_are_bytes K A) := by
  obtain ⟨fn, fd, hm, F⟩ := T.f_are_bytes
  refine ⟨fn, fd, hm, fun_okG F sc_are_bytes (fun vs H Q E h => ?_) (fun cdv A' outer s H vs Q E hr pl h => ⟨t_are_bytes K A, ?_, pure_are_bytes T pl h⟩), F.binds fun _ _ _ _ _ _ us hl => match us, hl with | [_], _ => rfl⟩
  · obtain ⟨_, _, rfl, _⟩ := h
    rfl
  · exact (pss_one (ps_ret (pe_cmpR op_eq (pe_callB call_len_seq rfl T.b_len PySem.boot_len (pa_cons (pe_lc (own := [("byte", 1)]) (g := (gName 1)) (tt := (tOr (tTest (tOp rLtI (tVar 1) (tC (.int 0)))) (tTest (tOp rGtI (tVar 1) (tC (.int 255)))))) rfl sc_are_bytes.nd (pi_list (pv 0)) (blkOk_by (N := N_are_bytes) (sc := defScope s_are_bytes) (by decide +kernel)) (fun _ _ _ _ _ => (pg_name (i := 1) sc_are_bytes.nd rfl (Or.inl rfl))) (fun _ _ _ _ _ => (pts_one (PW.pt (pw_or (pt_cmpR op_lt (pv 1) pe_int (nomark _)) (pw_or1 (pt_cmpR op_gt (pv 1) pe_int (nomark _))))))) (fun _ _ _ _ _ => (pv 1))) pa_nil)) pe_int (nomark _))))
def sp0_is_out (K : PySem.W.Frag) (A : Ad) : Sp := fun vs H Q _ => ∃ (n lo hi : Int), vs = [.int n, .int lo, .int hi] ∧ Q (.bl (!VbsyCore.isBetween n lo hi)) H
abbrev sp_is_out (K : PySem.W.Frag) (A : Ad) : Sp := Plain (sp0_is_out K A)
def t_is_out (K : PySem.W.Frag) (A : Ad) : TS := (tRet (tOrV (tOp rLtI (tVar 0) (tVar 1)) (tOp rGtI (tVar 0) (tVar 2))))
theorem pure_is_out {K : PySem.W.Frag} {mg : Str → Option Value} {A : Ad} (T : Txt K mg A) {vs : List V} {H : Hp} {Q : VK} {E : XK} (pl : Pl H) (h : sp0_is_out K A vs H Q E) : t_is_out K A { nx := fun _ H' => Fg H Q .non H', rt := Fg H Q } (start N_is_out vs) H := by
  obtain ⟨n, lo, hi, rfl, q⟩ := h
  refine s_ret (val_is (val_or (val_cmp (val_var rfl) (val_var rfl)) fun _ => val_cmp (val_var rfl) (val_var rfl)) ?_) (Fg.same (Same.refl H) q)
  simp only [VbsyCore.isBetween, Bool.not_and, ← decide_not, Int.not_le]
theorem ok_is_out {P : Program} {w : World} {K : PySem.W.Frag} {mg : Str → Option Value} {base : Heap} {A : Ad} (T : Txt K mg A) : FOk P w K mg base CX0 "is_out" 1 ["number", "least", "most"] (sp_is_out K A) := by
  obtain ⟨fn, fd, hm, F⟩ := T.f_is_out
  refine ⟨fn, fd, hm, fun_okG F sc_is_out (fun vs H Q E h => ?_) (fun cdv A' outer s H vs Q E hr pl h => ⟨t_is_out K A, ?_, pure_is_out T pl h⟩), F.binds fun _ _ _ _ _ _ us hl => match us, hl with | [_, _, _], _ => rfl⟩
  · obtain ⟨_, _, _, rfl, _⟩ := h
    rfl
  · exact (pss_one (ps_ret (pe_or (pe_cmpR op_lt (pv 0) (pv 1) (nomark _)) (pe_one (pe_cmpR op_gt (pv 0) (pv 2) (nomark _))))))
theorem v_out {K : PySem.W.Frag} {A : Ad} {σ : L2.St} {H : Hp} {ta tb tc : TE} {n lo hi : Int} (pl : Pl H) (h1 : Val ta σ H (.int n)) (h2 : Val tb σ H (.int lo)) (h3 : Val tc σ H (.int hi)) : Val (tCall (sp_is_out K A) [] E0 (tCons ta (tCons tb (tCons tc tNil)))) σ H (.bl (!VbsyCore.isBetween n lo hi)) :=
  val_call (va_cons h1 (va_cons h2 (va_cons h3 va_nil))) fun Q q => ⟨pl, n, lo, hi, rfl, q⟩
theorem v_bytes {K : PySem.W.Frag} {A : Ad} {σ : L2.St} {H : Hp} {ta : TE} {a : Addr} {l : List Int} (pl : Pl H) (h1 : Val ta σ H (.ref a)) (hl : H a = some (.lst (its l))) (hz : l.length ≤ 2000) : Val (tCall (sp_are_bytes K A) [] E0 (tCons ta tNil)) σ H (.bl (HF.isBytes l)) :=
  val_call (va_cons h1 va_nil) fun Q q => ⟨pl, a, l, rfl, hl, hz, q⟩
/-- Field(1, 1, [False, False, False, False]) -/
theorem mk_startG {K : PySem.W.Frag} {A : Ad} {σ : L2.St} {H : Hp} {ta tb tc : TE} (Q : VK) (pl : Pl H) (h1 : Val ta σ H (.int 1)) (h2 : Val tb σ H (.int 1)) (hn : New tc σ H (bls Vbsyae.start.walls)) (k : ∀ fa H', H fa = none → Same H H' → Pl H' → FieldAt A H' fa Vbsyae.start → Q (.ref fa) H') :
    tMake A.cField (sp_Field_init K A) [] E0 (tCons ta (tCons tb (tCons tc tNil))) σ H Q := by
  refine h1 _ (h2 _ (hn _ fun w hw x dx hx hdx hne => ?_))
  have hwx : w ≠ x := fun z => by rw [← z, upd_same] at hx; cases hx
  have hwd : w ≠ dx := fun z => by rw [← z, upd_same] at hdx; cases hdx
  have hxH : H x = none := by rw [upd_ne (Ne.symm hwx)] at hx; exact hx
  have hdH : H dx = none := by rw [upd_ne (Ne.symm hwd)] at hdx; exact hdx
  refine ⟨x, dx, w, Vbsyae.start, rfl, upd_same, rfl, ?_⟩
  rw [upd_upd]
  refine k x _ hxH (same_upd (same_upd (same_new hw) hdH) hxH) (((pl.upd rfl).upd rfl).upd rfl) ⟨HF.WF.start.g, dx, w, upd_same, ?_⟩
  rw [upd_ne hwx, upd_ne hwd, upd_same]
theorem mk_start {K : PySem.W.Frag} {A : Ad} {σ : L2.St} {H : Hp} (Q : VK) (pl : Pl H) (k : ∀ fa H', H fa = none → Same H H' → Pl H' → FieldAt A H' fa Vbsyae.start → Q (.ref fa) H') :
    tMake A.cField (sp_Field_init K A) [] E0 (tCons (tC (.int 1)) (tCons (tC (.int 1)) (tCons (tLst (tCons (tC (.bl false)) (tCons (tC (.bl false)) (tCons (tC (.bl false)) (tCons (tC (.bl false)) tNil))))) tNil))) σ H Q :=
  mk_startG Q pl val_c val_c (nw_lst (va_cons val_c (va_cons val_c (va_cons val_c (va_cons val_c va_nil)))) (by show 4 ≤ 100000; decide)) k
def sp_House_init (K : PySem.W.Frag) (A : Ad) : Sp := fun vs H Q _ => ∃ (p dx : Addr), vs = [.ref p] ∧ H p = some (.ins A.cHouse dx []) ∧ Pl H ∧ ∀ H', But p H H' → Pl H' → HouseAt A (fun b => H b = none) H' p Vbsyae.start → Q .non H'
def t_House_init (K : PySem.W.Frag) (A : Ad) : TS := (tSeq (sFld K (tVar 0) (tMake A.cField (sp_Field_init K A) [] E0 (tCons (tC (.int 1)) (tCons (tC (.int 1)) (tCons (tLst (tCons (tC (.bl false)) (tCons (tC (.bl false)) (tCons (tC (.bl false)) (tCons (tC (.bl false)) tNil))))) tNil)))) "field") (sFld K (tVar 0) (tLst tNil) "days"))
theorem pure_House_init {K : PySem.W.Frag} {mg : Str → Option Value} {A : Ad} (T : Txt K mg A) {vs : List V} {H : Hp} {Q : VK} {E : XK} (h : sp_House_init K A vs H Q E) : t_House_init K A { nx := fun _ H' => Q .non H', rt := Q } (start N_House_init vs) H := by
  obtain ⟨p, dx, rfl, hp, pl, q⟩ := h
  refine q_seq ?_
  refine mk_start _ pl fun fa H1 hfa s1 pl1 F1 => ?_
  refine val_var (i := 0) (v := V.ref p) rfl _ ⟨p, A.cHouse, dx, [], rfl, s1 _ _ hp, T.c_House, T.n_House_field, by show 0 < 1000; decide, ?_⟩
  refine st_fldN (nw_lst va_nil (Nat.zero_le _)) rfl upd_same T.c_House T.n_House_days lp1 fun da hda => ?_
  have hpd : da ≠ p := fun z => by rw [z, upd_same] at hda; cases hda
  have hdH1 : H1 da = none := by rw [upd_ne hpd] at hda; exact hda
  have hdH : H da = none := s1.free hdH1
  rw [put2 (by decide +kernel)]
  have b2 : But p H1 (upd (upd (upd H1 p (.ins A.cHouse dx (putF "field" (.ref fa) []))) da (.lst [])) p (.ins A.cHouse dx (houF fa da))) := fun b o e hb => by
    rw [upd_ne hb, upd_ne (ne_of_none e hdH1), upd_ne hb]
    exact e
  refine q _ ((Same.but s1).trans b2) (((pl1.upd rfl).upd rfl).upd rfl) ⟨HF.WF.start, dx, fa, da, upd_same, ?_, ⟨[], rfl, ?_, nofun⟩, hdH⟩
  · obtain ⟨g, dy, w, e1, e2⟩ := F1
    refine ⟨g, dy, w, b2 _ _ e1 fun z => ?_, b2 _ _ e2 fun z => ?_⟩
    · rw [z, s1 _ _ hp] at e1
      have := Option.some.inj e1
      injection this with _ _ z2
      exact absurd (congrArg List.length z2) (by show 0 ≠ 3; decide)
    · rw [z, s1 _ _ hp] at e2
      cases e2
  · rw [upd_ne hpd, upd_same]
    rfl
theorem ok_House_init {P : Program} {w : World} {K : PySem.W.Frag} {mg : Str → Option Value} {base : Heap} {A : Ad} (T : Txt K mg A) : COk P w K mg base "House" A.cHouse 3 ["self"] (sp_House_init K A) := by
  obtain ⟨fn, fd, hm, F⟩ := T.f_House_init
  refine ⟨fn, fd, hm, F.ok sc_House_init (fun vs H Q E h => ?_) (fun cdv A' outer s H vs Q E hr h => ⟨t_House_init K A, ?_, pure_House_init T h⟩), F.binds fun _ _ _ _ _ _ us hl => match us, hl with | [_], _ => rfl⟩
  · obtain ⟨_, _, rfl, _⟩ := h
    rfl
  · exact (pss_cons (ps_fld (pv 0) (pe_makeM (ok_Field_init T) (hr.mono (by decide)) rfl (pa_cons pe_int (pa_cons pe_int (pa_cons (pe_lst (pa_cons pe_bl (pa_cons pe_bl (pa_cons pe_bl (pa_cons pe_bl pa_nil))))) pa_nil)))) rfl) (pss_one (ps_fld (pv 0) (pe_lst pa_nil) rfl)))
def sp_House_clear (K : PySem.W.Frag) (A : Ad) : Sp := fun vs H Q _ => ∃ (N : Addr → Prop) (h : Addr) (f : Vbsyae.Field), vs = [.ref h] ∧ Pl H ∧ HouseAt A N H h f ∧ (∀ b, H b = none → N b) ∧ ∀ p H', H p = none → Kp N h H H' → Pl H' → HouseAt A N H' h Vbsyae.start → H' p = some (.lst (its [0])) → Q (.ref p) H'
def t_House_clear (K : PySem.W.Frag) (A : Ad) : TS := (tSeq (sFld K (tVar 0) (tMake A.cField (sp_Field_init K A) [] E0 (tCons (tC (.int 1)) (tCons (tC (.int 1)) (tCons (tLst (tCons (tC (.bl false)) (tCons (tC (.bl false)) (tCons (tC (.bl false)) (tCons (tC (.bl false)) tNil))))) tNil)))) "field") (tSeq (sFld K (tVar 0) (tLst tNil) "days") (tRet (tLst (tCons (tC (.int 0)) tNil)))))
theorem pure_House_clear {K : PySem.W.Frag} {mg : Str → Option Value} {A : Ad} (T : Txt K mg A) {vs : List V} {H : Hp} {Q : VK} {E : XK} (h : sp_House_clear K A vs H Q E) : t_House_clear K A { nx := fun _ H' => Q .non H', rt := Q } (start N_House_clear vs) H := by
  obtain ⟨N, h, f, rfl, pl, ⟨wf, dx, fa, da, h1, F, Ds, nd⟩, hN, q⟩ := h
  refine q_seq ?_
  refine mk_start _ pl fun fb H1 hfb s1 pl1 F1 => ?_
  refine val_var (i := 0) (v := V.ref h) rfl _ ⟨h, A.cHouse, dx, _, rfl, s1 _ _ h1, T.c_House, T.n_House_field, by show 2 < 1000; decide, ?_⟩
  rw [put_field]
  refine q_seq ?_
  refine st_fldN (nw_lst va_nil (Nat.zero_le _)) rfl upd_same T.c_House T.n_House_days (by show 2 < 1000; decide) fun db hdb => ?_
  have hpd : db ≠ h := fun z => by rw [z, upd_same] at hdb; cases hdb
  have hdH1 : H1 db = none := by rw [upd_ne hpd] at hdb; exact hdb
  have hdH : H db = none := s1.free hdH1
  rw [put_days]
  have b2 : But h H1 (upd (upd (upd H1 h (.ins A.cHouse dx (houF fb da))) db (.lst [])) h (.ins A.cHouse dx (houF fb db))) := fun b o e hb => by
    rw [upd_ne hb, upd_ne (ne_of_none e hdH1), upd_ne hb]
    exact e
  have F2 := F1.keepH (s1 _ _ h1) rfl b2
  have e2 : (upd (upd (upd H1 h (.ins A.cHouse dx (houF fb da))) db (.lst [])) h (.ins A.cHouse dx (houF fb db))) db = some (.lst []) := by rw [upd_ne hpd, upd_same]
  have e3 : (upd (upd (upd H1 h (.ins A.cHouse dx (houF fb da))) db (.lst [])) h (.ins A.cHouse dx (houF fb db))) h = some (.ins A.cHouse dx (houF fb db)) := upd_same
  have pl2 : Pl (upd (upd (upd H1 h (.ins A.cHouse dx (houF fb da))) db (.lst [])) h (.ins A.cHouse dx (houF fb db))) := ((pl1.upd rfl).upd rfl).upd rfl
  generalize upd (upd (upd H1 h (.ins A.cHouse dx (houF fb da))) db (.lst [])) h (.ins A.cHouse dx (houF fb db)) = H2 at b2 F2 e2 e3 pl2
  refine s_retN (σ := [some (.ref h)]) (te := tLst (tCons (tC (.int 0)) tNil)) (xs := its [0]) (nw_lst (va_cons val_c va_nil) (by show 1 ≤ 100000; decide)) fun p hp => ?_
  have hpH : H p = none := by
    cases e : H p with
    | none => rfl
    | some o =>
      by_cases hph : p = h
      · rw [hph, e3] at hp; cases hp
      · rw [b2 _ _ (s1 _ _ e) hph] at hp; cases hp
  have sn := same_new (o := .lst (its [0])) hp
  exact q p _ hpH (fun b o e hb nb => sn _ _ (b2 _ _ (s1 _ _ e) hb)) (pl2.upd rfl) ⟨HF.WF.start, dx, fb, db, sn _ _ e3, F2.same sn, ⟨[], rfl, sn _ _ e2, nofun⟩, hN _ hdH⟩ upd_same
theorem ok_House_clear {P : Program} {w : World} {K : PySem.W.Frag} {mg : Str → Option Value} {base : Heap} {A : Ad} (T : Txt K mg A) : MOk P w K mg base CX0 A.cHouse "clear" 3 ["self"] (sp_House_clear K A) := by
  obtain ⟨fn, fd, hm, F⟩ := T.f_House_clear
  refine ⟨fn, fd, hm, F.ok sc_House_clear (fun vs H Q E h => ?_) (fun cdv A' outer s H vs Q E hr h => ⟨t_House_clear K A, ?_, pure_House_clear T h⟩), F.binds fun _ _ _ _ _ _ us hl => match us, hl with | [_], _ => rfl⟩
  · obtain ⟨_, _, _, rfl, _⟩ := h
    rfl
  · exact (pss_cons (ps_fld (pv 0) (pe_makeM (ok_Field_init T) (hr.mono (by decide)) rfl (pa_cons pe_int (pa_cons pe_int (pa_cons (pe_lst (pa_cons pe_bl (pa_cons pe_bl (pa_cons pe_bl (pa_cons pe_bl pa_nil))))) pa_nil)))) rfl) (pss_cons (ps_fld (pv 0) (pe_lst pa_nil) rfl) (pss_one (ps_ret (pe_lst (pa_cons pe_int pa_nil))))))
end HW

namespace HW
open PySem PySem.Spec PyProof.Rows L2
section
variable {σ : L2.St} {H : Hp} {ta tb te : TE} {t : TA} {K : PySem.W.Frag} {sp : Sp} {E : XK} {D : Ends} {t2 : TS} {g : TG} {vs xs : List V} {i j k : Nat} {a b c x : V} {Q : L2.St → Hp → Prop} {u : Addr}
theorem q_callG (h : ValA t σ H vs) (hs : sp vs H (fun v H1 => g v σ H1 fun σ2 H2 => t2 D σ2 H2) E) : tSeq (tAsg (tCall sp [] E t) g) t2 D σ H := h _ (by
  rw [List.append_nil]
  exact hs)
theorem g_trip (h : SqT K H u [a, b, c]) (q : Q (((σ.set i (some a)).set j (some b)).set k (some c)) H) : gTup K 3 (gCons (gName i) (gCons (gName j) (gCons (gName k) gNil))) (.ref u) σ H Q :=
  ⟨u, [a, b, c], rfl, h, rfl, a, [b, c], rfl, b, [c], rfl, c, [], rfl, rfl, q⟩
theorem val_no (h : Val ta σ H x) : Val (tOp rIsNo ta (tC .non)) σ H (.bl (decide (x = .non))) := val_op h val_c fun Q q => ⟨rfl, q⟩
theorem nw_slN {p : Addr} (h : Val ta σ H (.ref p)) (hq : SqL K H p xs) (h3 : Val tb σ H (.int (j : Int))) (hj : j ≤ xs.length) : New (tSl (rSlL K) ta tNoPart (tPart tb)) σ H (xs.take j) := fun Q q => h _ (h3 _ ⟨_, rfl, p, xs, rfl, hq, fun p hp => by
  have e : cutV xs none (some (j : Int)) = xs.take j := by
    unfold cutV
    rw [HT.sIx_nat, HT.sIx_none, Nat.min_eq_left hj]
    rfl
  rw [e]
  exact q p hp⟩)
end
def sp_House_set_field (K : PySem.W.Frag) (A : Ad) : Sp := fun vs H Q _ => ∃ (N : Addr → Prop) (h a : Addr) (f : Vbsyae.Field) (l : List Int), vs = [.ref h, .ref a] ∧ Pl H ∧ HouseAt A N H h f ∧ (∀ b, H b = none → N b) ∧ H a = some (.lst (its l)) ∧ l.length ≤ 2000 ∧ ∀ p H', H p = none → Kp N h H H' → Pl H' → HouseAt A N H' h (HF.res f (.field l)).1 → H' p = some (.lst (its (HF.res f (.field l)).2)) → Q (.ref p) H'
def t_House_set_field (K : PySem.W.Frag) (A : Ad) : TS := (tSeq (tIfS (tNot (tB (tCall (sp_are_bytes K A) [] E0 (tCons (tVar 1) tNil)))) (tRet (tLst (tCons (tC (.int (-1))) tNil))) tNext) (tSeq (tAsg (tCall (sp_told_field K A) [] E0 (tCons (tVar 1) tNil)) (gTup K 3 (gCons (gName 2) (gCons (gName 3) (gCons (gName 4) gNil))))) (tSeq (tIfS (tTest (tOp rIsNo (tVar 2) (tC .non))) (tRet (tLst (tCons (tOp rSubI (tC (.int (-1000))) (tVar 4)) tNil))) tNext) (tSeq (sFld K (tVar 0) (tVar 2) "field") (tSeq (sFld K (tVar 0) (tVar 3) "days") (tRet (tLst (tCons (tFld K (tVar 2) "rows") (tCons (tFld K (tVar 2) "columns") (tCons (tCB (cLen K) (tCons (tVar 3) tNil)) tNil))))))))))
theorem pure_House_set_field {K : PySem.W.Frag} {mg : Str → Option Value} {A : Ad} (T : Txt K mg A) {vs : List V} {H : Hp} {Q : VK} {E : XK} (h : sp_House_set_field K A vs H Q E) : t_House_set_field K A { nx := fun _ H' => Q .non H', rt := Q } (start N_House_set_field vs) H := by
  obtain ⟨N, h, a, f, l, rfl, pl, HA, hN, ha, hz, q⟩ := h
  obtain ⟨wf, dx, fa, da, h1, F, Ds, nd⟩ := id HA
  refine q_when (an_not (an_B (v_bytes pl (val_var rfl) ha hz))) (fun hb => ?_) fun hb => ?_
  · rw [HF.res_field_no (by simpa using hb)] at q
    refine s_retN (xs := its [-1]) (nw_lst (va_cons val_c va_nil) (by show 1 ≤ 100000; decide)) fun p hp => ?_
    exact q p _ hp (Kp.of (same_new hp)) (pl.upd rfl) (HA.same (same_new hp)) upd_same
  · have hb : HF.isBytes l = true := by simpa using hb
    rw [HF.res_field_yes hb hz] at q
    have ea : H a = some (.lst (nts (l.map Int.toNat))) := by
      have e := HF.bytes_nat hb
      rw [ha, ← its_nts, ← e]
    refine q_callG (va_cons (val_var rfl) va_nil) ⟨a, _, rfl, pl, ea, by rw [List.length_map]; exact hz, fun g hg p fb db H1 hp hfb hdb s1 pl1 e1 F1 D1 => ?_, fun n hn p H1 hp s1 pl1 e1 => ?_⟩
    · rw [hg] at q
      simp only at q
      refine g_trip (SqT.of e1) ?_
      refine q_when (an_test (val_no (val_var rfl))) (fun hb => absurd hb (by simp)) fun _ => ?_
      refine q_fld (val_var rfl) (val_var rfl) (s1 _ _ h1) T.c_House T.n_House_field (by show 2 < 1000; decide) ?_
      rw [put_field]
      refine q_fld (val_var rfl) (val_var rfl) upd_same T.c_House T.n_House_days (by show 2 < 1000; decide) ?_
      rw [put_days, upd_upd]
      have b2 : But h H1 (upd H1 h (.ins A.cHouse dx (houF fb db))) := But.refl.upd
      have F2 := F1.keepH (s1 _ _ h1) rfl b2
      have D2 := D1.keepH (s1 _ _ h1) rfl b2
      have e3 : upd H1 h (.ins A.cHouse dx (houF fb db)) h = some (.ins A.cHouse dx (houF fb db)) := upd_same
      have pl2 : Pl (upd H1 h (.ins A.cHouse dx (houF fb db))) := pl1.upd rfl
      generalize upd H1 h (.ins A.cHouse dx (houF fb db)) = H2 at b2 F2 D2 e3 pl2
      obtain ⟨_, dg, w, f1, f2⟩ := id F2
      obtain ⟨ld, l1, l2, l3⟩ := id D2
      refine s_retN (xs := its [(g.rows : Int), g.cols, g.days.length]) (nw_lst (va_cons (v_rows T f1 (val_var rfl)) (va_cons (v_cols T f1 (val_var rfl)) (va_cons (val_is (val_len (val_var rfl) (SqL.of l2)) (by rw [← l1, List.length_map, List.length_map])) va_nil))) (by show 3 ≤ 100000; decide)) fun u hu => ?_
      have huH : H u = none := by
        cases e : H u with
        | none => rfl
        | some o =>
          by_cases huh : u = h
          · rw [huh, e3] at hu; cases hu
          · rw [b2 _ _ (s1 _ _ e) huh] at hu; cases hu
      have sn := same_new (o := .lst (its [(g.rows : Int), g.cols, g.days.length])) hu
      exact q u _ huH (fun b o e hb nb => sn _ _ (b2 _ _ (s1 _ _ e) hb)) (pl2.upd rfl) ⟨HF.WF.read hg, dx, fb, db, sn _ _ e3, F2.same sn, D2.same sn, hN _ hdb⟩ upd_same
    · rw [hn] at q
      simp only at q
      refine g_trip (SqT.of e1) ?_
      refine q_when (an_test (val_no (val_var rfl))) (fun _ => ?_) fun hb => absurd hb (by simp)
      refine s_retN (xs := its [-1000 - (n : Int)]) (nw_lst (va_cons (val_sub val_c (val_var rfl)) va_nil) (by show 1 ≤ 100000; decide)) fun u hu => ?_
      have s2 := s1.trans (same_new (o := .lst (its [-1000 - (n : Int)])) hu)
      exact q u _ (s1.free hu) (Kp.of s2) (pl1.upd rfl) (HA.same s2) upd_same
theorem ok_House_set_field {P : Program} {w : World} {K : PySem.W.Frag} {mg : Str → Option Value} {base : Heap} {A : Ad} (T : Txt K mg A) : MOk P w K mg base CX0 A.cHouse "set_field" 8 ["self", "row"] (sp_House_set_field K A) := by
  obtain ⟨fn, fd, hm, F⟩ := T.f_House_set_field
  refine ⟨fn, fd, hm, F.ok sc_House_set_field (fun vs H Q E h => ?_) (fun cdv A' outer s H vs Q E hr h => ⟨t_House_set_field K A, ?_, pure_House_set_field T h⟩), F.binds fun _ _ _ _ _ _ us hl => match us, hl with | [_, _], _ => rfl⟩
  · obtain ⟨_, _, _, _, _, rfl, _⟩ := h
    rfl
  · exact (pss_cons (ps_if (pt_not (pt_val (pe_callM (ok_are_bytes T) (hr.mono (by decide)) rfl (pa_cons (pv 1) pa_nil)))) (pss_one (ps_ret (pe_lst (pa_cons (pe_gi rfl T.g_NO_BYTES) pa_nil)))) pss_nil) (pss_cons (ps_asg (pe_callM (ok_told_field T) (hr.mono (by decide)) rfl (pa_cons (pv 1) pa_nil)) (pg_tup rfl (pgs_cons (pg_name (i := 2) sc_House_set_field.nd rfl (Or.inl rfl)) (pgs_cons (pg_name (i := 3) sc_House_set_field.nd rfl (Or.inl rfl)) (pgs_cons (pg_name (i := 4) sc_House_set_field.nd rfl (Or.inl rfl)) pgs_nil))))) (pss_cons (ps_if (pt_cmpR op_isN (pv 2) pe_non (nomark _)) (pss_one (ps_ret (pe_lst (pa_cons (pe_op op_sub (pe_gi rfl T.g_FAULT) (pv 4)) pa_nil)))) pss_nil) (pss_cons (ps_fld (pv 0) (pv 2) rfl) (pss_cons (ps_fld (pv 0) (pv 3) rfl) (pss_one (ps_ret (pe_lst (pa_cons (pe_fld (pv 2) rfl) (pa_cons (pe_fld (pv 2) rfl) (pa_cons (pe_callB call_len_seq rfl T.b_len PySem.boot_len (pa_cons (pv 3) pa_nil)) pa_nil)))))))))))
def sp0_House_look (K : PySem.W.Frag) (A : Ad) : Sp := fun vs H Q _ => ∃ (N : Addr → Prop) (h a : Addr) (f : Vbsyae.Field) (l : List Int), vs = [.ref h, .ref a] ∧ HouseAt A N H h f ∧ H a = some (.lst (its l)) ∧ l.length ≤ 2000 ∧ ∀ p, H p = none → Q (.ref p) (upd H p (.lst (its (HF.res f (.look l)).2)))
abbrev sp_House_look (K : PySem.W.Frag) (A : Ad) : Sp := Plain (sp0_House_look K A)
def t_House_look (K : PySem.W.Frag) (A : Ad) : TS := (tSeq (tIfS (tNot (tB (tCall (sp_are_bytes K A) [] E0 (tCons (tVar 1) tNil)))) (tRet (tLst (tCons (tC (.int (-1))) tNil))) tNext) (tSeq (tAsg (tCall (sp_told_field K A) [] E0 (tCons (tVar 1) tNil)) (gTup K 3 (gCons (gName 2) (gCons (gName 3) (gCons (gName 4) gNil))))) (tSeq (tIfS (tTest (tOp rIsNo (tVar 2) (tC .non))) (tRet (tLst (tCons (tC (.int 1)) (tCons (tVar 4) tNil)))) tNext) (tRet (tLst (tCons (tC (.int 0)) tNil))))))
theorem pure_House_look {K : PySem.W.Frag} {mg : Str → Option Value} {A : Ad} (T : Txt K mg A) {vs : List V} {H : Hp} {Q : VK} {E : XK} (pl : Pl H) (h : sp0_House_look K A vs H Q E) : t_House_look K A { nx := fun _ H' => Fg H Q .non H', rt := Fg H Q } (start N_House_look vs) H := by
  obtain ⟨N, h, a, f, l, rfl, HA, ha, hz, q⟩ := h
  refine q_when (an_not (an_B (v_bytes pl (val_var rfl) ha hz))) (fun hb => ?_) fun hb => ?_
  · rw [HF.res_look_no (by simpa using hb)] at q
    exact s_its rfl (Same.refl H) (gn_new pl (nw_lst (va_cons val_c va_nil) (by show 1 ≤ 100000; decide))) rfl q
  · have hb : HF.isBytes l = true := by simpa using hb
    rw [HF.res_look_yes hb hz] at q
    have ea : H a = some (.lst (nts (l.map Int.toNat))) := by
      have e := HF.bytes_nat hb
      rw [ha, ← its_nts, ← e]
    refine q_callG (va_cons (val_var rfl) va_nil) ⟨a, _, rfl, pl, ea, by rw [List.length_map]; exact hz, fun g hg p fb db H1 hp hfb hdb s1 pl1 e1 F1 D1 => ?_, fun n hn p H1 hp s1 pl1 e1 => ?_⟩
    · rw [hg] at q
      refine g_trip (SqT.of e1) ?_
      refine q_when (an_test (val_no (val_var rfl))) (fun hb => absurd hb (by simp)) fun _ => ?_
      exact s_its rfl s1 (gn_new pl1 (nw_lst (va_cons val_c va_nil) (by show 1 ≤ 100000; decide))) rfl q
    · rw [hn] at q
      refine g_trip (SqT.of e1) ?_
      refine q_when (an_test (val_no (val_var rfl))) (fun _ => ?_) fun hb => absurd hb (by simp)
      exact s_its rfl s1 (gn_new pl1 (nw_lst (va_cons val_c (va_cons (val_var rfl) va_nil)) (by show 2 ≤ 100000; decide))) rfl q
theorem ok_House_look {P : Program} {w : World} {K : PySem.W.Frag} {mg : Str → Option Value} {base : Heap} {A : Ad} (T : Txt K mg A) : MOk P w K mg base CX0 A.cHouse "look" 8 ["self", "row"] (sp_House_look K A) := by
  obtain ⟨fn, fd, hm, F⟩ := T.f_House_look
  refine ⟨fn, fd, hm, fun_okG F sc_House_look (fun vs H Q E h => ?_) (fun cdv A' outer s H vs Q E hr pl h => ⟨t_House_look K A, ?_, pure_House_look T pl h⟩), F.binds fun _ _ _ _ _ _ us hl => match us, hl with | [_, _], _ => rfl⟩
  · obtain ⟨_, _, _, _, _, rfl, _⟩ := h
    rfl
  · exact (pss_cons (ps_if (pt_not (pt_val (pe_callM (ok_are_bytes T) (hr.mono (by decide)) rfl (pa_cons (pv 1) pa_nil)))) (pss_one (ps_ret (pe_lst (pa_cons (pe_gi rfl T.g_NO_BYTES) pa_nil)))) pss_nil) (pss_cons (ps_asg (pe_callM (ok_told_field T) (hr.mono (by decide)) rfl (pa_cons (pv 1) pa_nil)) (pg_tup rfl (pgs_cons (pg_name (i := 2) sc_House_look.nd rfl (Or.inl rfl)) (pgs_cons (pg_name (i := 3) sc_House_look.nd rfl (Or.inl rfl)) (pgs_cons (pg_name (i := 4) sc_House_look.nd rfl (Or.inl rfl)) pgs_nil))))) (pss_cons (ps_if (pt_cmpR op_isN (pv 2) pe_non (nomark _)) (pss_one (ps_ret (pe_lst (pa_cons pe_int (pa_cons (pv 4) pa_nil))))) pss_nil) (pss_one (ps_ret (pe_lst (pa_cons pe_int pa_nil)))))))
theorem text_len {f : Vbsyae.Field} (wf : HF.WF f) : (Vbsyae.fieldText f).length ≤ 2000 := by
  have few := wf.few
  have g := wf.g
  have r8 := g.r8
  have c8 := g.c8
  have side : ∀ s : Nat, (Vbsyae.SIDES.getD s []).length ≤ 10 := fun s => by
    match s with
    | 0 => decide
    | 1 => decide
    | 2 => decide
    | 3 => decide
    | _ + 4 => exact Nat.zero_le _
  refine Nat.le_trans (HF.between_len [10] 88 _ fun w hw => ?_) ?_
  · rcases List.mem_cons.mp hw with rfl | hw
    · refine Nat.le_trans (HF.between_len [32] 10 _ fun w hw => ?_) ?_
      · rcases List.mem_append.mp hw with hw | hw
        · simp only [List.mem_cons, List.not_mem_nil, or_false] at hw
          rcases hw with rfl | rfl | rfl | rfl
          · decide
          · exact Nat.le_trans (num_len _ (by omega)) (by decide)
          · exact Nat.le_trans (num_len _ (by omega)) (by decide)
          · decide
        · obtain ⟨s, _, rfl⟩ := List.mem_map.mp hw
          exact side s
      · rw [List.length_append, List.length_map]
        have := List.length_filter_le (Vbsyae.walled f) (List.range 4)
        rw [List.length_range] at this
        exact Nat.le_trans (Nat.mul_le_mul (show 4 + _ ≤ 8 by omega) (Nat.le_refl 11)) (by decide)
    · obtain ⟨x, hx, rfl⟩ := List.mem_map.mp hw
      have ft := wf.fit x hx
      have a1 := ft.h
      have a2 := ft.w
      refine Nat.le_trans (HF.between_len [32] 10 _ fun w hw => ?_) (by show 7 * 11 ≤ 88; decide)
      simp only [List.mem_cons, List.not_mem_nil, or_false] at hw
      rcases hw with rfl | rfl | rfl | rfl | rfl | rfl | rfl
      · decide
      · exact Nat.le_trans (num_len _ (by omega)) (by decide)
      · exact Nat.le_trans (num_len _ (by omega)) (by decide)
      · decide
      · exact Nat.le_trans (num_len _ (by omega)) (by decide)
      · decide
      · exact Nat.le_trans (num_len _ (by omega)) (by decide)
  · rw [List.length_cons, List.length_map]
    exact Nat.le_trans (Nat.mul_le_mul (show f.days.length + 1 ≤ 21 by omega) (Nat.le_refl 89)) (by decide)
def sp0_House_text (K : PySem.W.Frag) (A : Ad) : Sp := fun vs H Q _ => ∃ (N : Addr → Prop) (h : Addr) (f : Vbsyae.Field), vs = [.ref h] ∧ HouseAt A N H h f ∧ ∀ p, H p = none → Q (.ref p) (upd H p (.lst (its (HF.res f .text).2)))
abbrev sp_House_text (K : PySem.W.Frag) (A : Ad) : Sp := Plain (sp0_House_text K A)
def t_House_text (K : PySem.W.Frag) (A : Ad) : TS := (tRet (tOp rCat (tLst (tCons (tC (.int 0)) tNil)) (tCall (sp_written K A) [] E0 (tCons (tFld K (tVar 0) "field") (tCons (tFld K (tVar 0) "days") tNil)))))
theorem pure_House_text {K : PySem.W.Frag} {mg : Str → Option Value} {A : Ad} (T : Txt K mg A) {vs : List V} {H : Hp} {Q : VK} {E : XK} (pl : Pl H) (h : sp0_House_text K A vs H Q E) : t_House_text K A { nx := fun _ H' => Fg H Q .non H', rt := Fg H Q } (start N_House_text vs) H := by
  obtain ⟨N, h, f, rfl, ⟨wf, dx, fa, da, h1, F, Ds, nd⟩, q⟩ := h
  refine s_its rfl (Same.refl H) (gn_cat (xs := [.int 0]) (ys := nts (Vbsyae.fieldText f)) (gl_new (gn_new pl (nw_lst (va_cons val_c va_nil) (by show 1 ≤ 100000; decide)))) (fun H1 s1 pl1 => gl_new (gn_new pl1 (nw_call (va_cons (v_field T (s1 _ _ h1) (val_var rfl)) (va_cons (v_days T (s1 _ _ h1) (val_var rfl)) va_nil)) fun Q q => ⟨pl1, fa, da, f, rfl, F.same s1, Ds.same s1, wf, q⟩))) ?_) ?_ q
  · rw [len_nts]
    have := text_len wf
    show 1 + _ ≤ _
    omega
  · show _ = its (0 :: VbsyCore.ints (Vbsyae.fieldText f))
    show _ = V.int 0 :: its (VbsyCore.ints (Vbsyae.fieldText f))
    rw [its_ints]
    rfl
theorem ok_House_text {P : Program} {w : World} {K : PySem.W.Frag} {mg : Str → Option Value} {base : Heap} {A : Ad} (T : Txt K mg A) : MOk P w K mg base CX0 A.cHouse "text" 4 ["self"] (sp_House_text K A) := by
  obtain ⟨fn, fd, hm, F⟩ := T.f_House_text
  refine ⟨fn, fd, hm, fun_okG F sc_House_text (fun vs H Q E h => ?_) (fun cdv A' outer s H vs Q E hr pl h => ⟨t_House_text K A, ?_, pure_House_text T pl h⟩), F.binds fun _ _ _ _ _ _ us hl => match us, hl with | [_], _ => rfl⟩
  · obtain ⟨_, _, _, rfl, _⟩ := h
    rfl
  · exact (pss_one (ps_ret (pe_op op_cat (pe_lst (pa_cons pe_int pa_nil)) (pe_callM (ok_written T) (hr.mono (by decide)) rfl (pa_cons (pe_fld (pv 0) rfl) (pa_cons (pe_fld (pv 0) rfl) pa_nil))))))
def sp_House_add_day (K : PySem.W.Frag) (A : Ad) : Sp := fun vs H Q _ => ∃ (N : Addr → Prop) (h a : Addr) (f : Vbsyae.Field) (l : List Int), vs = [.ref h, .ref a] ∧ Pl H ∧ HouseAt A N H h f ∧ (∀ b, H b = none → N b) ∧ H a = some (.lst (its l)) ∧ l.length ≤ 2000 ∧ ∀ p H', H p = none → Kp N h H H' → Pl H' → HouseAt A N H' h (HF.res f (.day l)).1 → H' p = some (.lst (its (HF.res f (.day l)).2)) → Q (.ref p) H'
def t_House_add_day (K : PySem.W.Frag) (A : Ad) : TS := (tSeq (tIfS (tNot (tB (tCall (sp_are_bytes K A) [] E0 (tCons (tVar 1) tNil)))) (tRet (tLst (tCons (tC (.int (-1))) tNil))) tNext) (tSeq (tAsg (tCall (sp_told_day K A) [] E0 (tCons (tVar 1) (tCons (tFld K (tVar 0) "field") (tCons (tCB (cLen K) (tCons (tFld K (tVar 0) "days") tNil)) tNil)))) (gTup K 2 (gCons (gName 2) (gCons (gName 3) gNil)))) (tSeq (tIfS (tTest (tOp rIsNo (tVar 2) (tC .non))) (tRet (tLst (tCons (tOp rSubI (tC (.int (-1000))) (tVar 3)) tNil))) tNext) (tSeq (tDrop (tBM K "list" rAppend (tFld K (tVar 0) "days") (tCons (tVar 2) tNil))) (tRet (tLst (tCons (tCB (cLen K) (tCons (tFld K (tVar 0) "days") tNil)) tNil)))))))
theorem pure_House_add_day {K : PySem.W.Frag} {mg : Str → Option Value} {A : Ad} (T : Txt K mg A) {vs : List V} {H : Hp} {Q : VK} {E : XK} (h : sp_House_add_day K A vs H Q E) : t_House_add_day K A { nx := fun _ H' => Q .non H', rt := Q } (start N_House_add_day vs) H := by
  obtain ⟨N, h, a, f, l, rfl, pl, HA, hN, ha, hz, q⟩ := h
  obtain ⟨wf, dx, fa, da, h1, F, Ds, nd⟩ := id HA
  obtain ⟨ld, l1, l2, l3⟩ := id Ds
  have hll : ld.length = f.days.length := by rw [← l1, List.length_map]
  refine q_when (an_not (an_B (v_bytes pl (val_var rfl) ha hz))) (fun hb => ?_) fun hb => ?_
  · rw [HF.res_day_no (by simpa using hb)] at q
    refine s_retN (xs := its [-1]) (nw_lst (va_cons val_c va_nil) (by show 1 ≤ 100000; decide)) fun p hp => ?_
    exact q p _ hp (Kp.of (same_new hp)) (pl.upd rfl) (HA.same (same_new hp)) upd_same
  · have hb : HF.isBytes l = true := by simpa using hb
    rw [HF.res_day_yes hb hz] at q
    have ea : H a = some (.lst (nts (l.map Int.toNat))) := by
      have e := HF.bytes_nat hb
      rw [ha, ← its_nts, ← e]
    refine q_callG (va_cons (val_var rfl) (va_cons (v_field T h1 (val_var rfl)) (va_cons (val_is (val_len (v_days T h1 (val_var rfl)) (SqL.of l2)) (by rw [List.length_map, hll])) va_nil))) ⟨a, fa, _, f, rfl, pl, ea, by rw [List.length_map]; exact hz, F, fun x hx p d H1 hp hd s1 pl1 e1 D1 => ?_, fun n hn p H1 hp s1 pl1 e1 => ?_⟩
    · rw [hx] at q
      simp only at q
      refine g_pair (SqT.of e1) ?_
      refine q_when (an_test (val_no (val_var rfl))) (fun hb => absurd hb (by simp)) fun _ => ?_
      have wf2 := wf.fold hx
      have h11 := s1 _ _ h1
      have l21 := s1 _ _ l2
      have hdh : da ≠ h := fun z => by rw [z, h1] at l2; cases l2
      refine q_seq ?_
      refine s_app l21 (v_days T h11 (val_var rfl)) (val_var rfl) (by rw [List.length_map]; have := wf.few; omega) ?_
      have k2 : ∀ b o, H1 b = some o → b ≠ da → upd H1 da (.lst (ld.map (fun x => V.ref x.2) ++ [V.ref d])) b = some o := fun b o e n => by rw [upd_ne n]; exact e
      have e2 : upd H1 da (.lst (ld.map (fun x => V.ref x.2) ++ [V.ref d])) da = some (.lst ((ld ++ [(x, d)]).map fun x => V.ref x.2)) := by rw [upd_same, List.map_append]; rfl
      have pl2 : Pl (upd H1 da (.lst (ld.map (fun x => V.ref x.2) ++ [V.ref d]))) := pl1.upd rfl
      generalize upd H1 da (.lst (ld.map (fun x => V.ref x.2) ++ [V.ref d])) = H2 at k2 e2 pl2
      have h12 := k2 _ _ h11 (Ne.symm hdh)
      have F2 : FieldAt A H2 fa (Vbsyae.putDay f x) := by
        obtain ⟨g, dg, w, f1, f2⟩ := F.same s1
        refine ⟨wf2.1.g, dg, w, k2 _ _ f1 (fun z => by rw [z, l21] at f1; exact nomatch f1), k2 _ _ f2 fun z => ?_⟩
        rw [z, l21] at f2
        have e4 := Option.some.inj f2
        injection e4 with e5
        have hw := g.w4
        unfold bls at e5
        cases hwl : f.walls with
        | nil => rw [hwl] at hw; cases hw
        | cons b0 r0 =>
          rw [hwl] at e5
          cases ld with
          | nil => cases e5
          | cons y r => cases e5
      have D2 : DaysAt A H2 da (Vbsyae.putDay f x).days := by
        refine ⟨ld ++ [(x, d)], by rw [List.map_append, l1]; rfl, e2, fun y hy => ?_⟩
        have st : ∀ y : Vbsyae.Fold × Addr, DayAt A H1 y.2 y.1 → DayAt A H2 y.2 y.1 := fun y ⟨dy, hy⟩ => ⟨dy, k2 _ _ hy fun z => by rw [z, l21] at hy; cases hy⟩
        rcases List.mem_append.mp hy with hy | hy
        · exact st y ((l3 y hy).same s1)
        · rw [List.mem_singleton.mp hy]
          exact st (x, d) D1
      refine s_retN (σ := [some (.ref h), some (.ref a), some (.ref d), some (.int 0)]) (te := tLst (tCons (tCB (cLen K) (tCons (tFld K (tVar 0) "days") tNil)) tNil)) (xs := its [((f.days.length + 1 : Nat) : Int)]) (nw_lst (va_cons (val_is (val_len (v_days T h12 (val_var rfl)) (SqL.of e2)) (by rw [List.length_map, List.length_append, hll]; rfl)) va_nil) (by show 1 ≤ 100000; decide)) fun u hu => ?_
      have huH : H u = none := by
        cases e : H u with
        | none => rfl
        | some o =>
          by_cases hud : u = da
          · rw [hud, e2] at hu; cases hu
          · rw [k2 _ _ (s1 _ _ e) hud] at hu; cases hu
      have sn := same_new (o := .lst (its [((f.days.length + 1 : Nat) : Int)])) hu
      exact q u _ huH (fun b o e hb nb => sn _ _ (k2 _ _ (s1 _ _ e) fun z => nb (by rw [z]; exact nd))) (pl2.upd rfl) ⟨wf2.1, dx, fa, da, sn _ _ h12, F2.same sn, D2.same sn, nd⟩ upd_same
    · rw [hn] at q
      simp only at q
      refine g_pair (SqT.of e1) ?_
      refine q_when (an_test (val_no (val_var rfl))) (fun _ => ?_) fun hb => absurd hb (by simp)
      refine s_retN (xs := its [-1000 - (n : Int)]) (nw_lst (va_cons (val_sub val_c (val_var rfl)) va_nil) (by show 1 ≤ 100000; decide)) fun u hu => ?_
      have s2 := s1.trans (same_new (o := .lst (its [-1000 - (n : Int)])) hu)
      exact q u _ (s1.free hu) (Kp.of s2) (pl1.upd rfl) (HA.same s2) upd_same
theorem ok_House_add_day {P : Program} {w : World} {K : PySem.W.Frag} {mg : Str → Option Value} {base : Heap} {A : Ad} (T : Txt K mg A) : MOk P w K mg base CX0 A.cHouse "add_day" 7 ["self", "row"] (sp_House_add_day K A) := by
  obtain ⟨fn, fd, hm, F⟩ := T.f_House_add_day
  refine ⟨fn, fd, hm, F.ok sc_House_add_day (fun vs H Q E h => ?_) (fun cdv A' outer s H vs Q E hr h => ⟨t_House_add_day K A, ?_, pure_House_add_day T h⟩), F.binds fun _ _ _ _ _ _ us hl => match us, hl with | [_, _], _ => rfl⟩
  · obtain ⟨_, _, _, _, _, rfl, _⟩ := h
    rfl
  · exact (pss_cons (ps_if (pt_not (pt_val (pe_callM (ok_are_bytes T) (hr.mono (by decide)) rfl (pa_cons (pv 1) pa_nil)))) (pss_one (ps_ret (pe_lst (pa_cons (pe_gi rfl T.g_NO_BYTES) pa_nil)))) pss_nil) (pss_cons (ps_asg (pe_callM (ok_told_day T) (hr.mono (by decide)) rfl (pa_cons (pv 1) (pa_cons (pe_fld (pv 0) rfl) (pa_cons (pe_callB call_len_seq rfl T.b_len PySem.boot_len (pa_cons (pe_fld (pv 0) rfl) pa_nil)) pa_nil)))) (pg_tup rfl (pgs_cons (pg_name (i := 2) sc_House_add_day.nd rfl (Or.inl rfl)) (pgs_cons (pg_name (i := 3) sc_House_add_day.nd rfl (Or.inl rfl)) pgs_nil)))) (pss_cons (ps_if (pt_cmpR op_isN (pv 2) pe_non (nomark _)) (pss_one (ps_ret (pe_lst (pa_cons (pe_op op_sub (pe_gi rfl T.g_FAULT) (pv 3)) pa_nil)))) pss_nil) (pss_cons (ps_expr (pe_bm PySem.F.plainAttrs_list PySem.F.slot_list_append PySem.F.type_list_append mt_append (pe_fld (pv 0) rfl) (pa_cons (pv 2) pa_nil))) (pss_one (ps_ret (pe_lst (pa_cons (pe_callB call_len_seq rfl T.b_len PySem.boot_len (pa_cons (pe_fld (pv 0) rfl) pa_nil)) pa_nil))))))))
def sp_House_undo (K : PySem.W.Frag) (A : Ad) : Sp := fun vs H Q _ => ∃ (N : Addr → Prop) (h : Addr) (f : Vbsyae.Field) (n : Int), vs = [.ref h, .int n] ∧ Pl H ∧ HouseAt A N H h f ∧ (∀ b, H b = none → N b) ∧ ∀ p H', H p = none → Kp N h H H' → Pl H' → HouseAt A N H' h (HF.res f (.undo n)).1 → H' p = some (.lst (its (HF.res f (.undo n)).2)) → Q (.ref p) H'
def t_House_undo (K : PySem.W.Frag) (A : Ad) : TS := (tSeq (tIfS (tB (tCall (sp_is_out K A) [] E0 (tCons (tVar 1) (tCons (tC (.int 0)) (tCons (tC (.int 20)) tNil))))) (tRet (tLst (tCons (tC (.int (-3))) tNil))) tNext) (tSeq (tIfS (tTest (tOp rGtI (tVar 1) (tCB (cLen K) (tCons (tFld K (tVar 0) "days") tNil)))) (tRet (tLst (tCons (tC (.int (-5))) tNil))) tNext) (tSeq (sFld K (tVar 0) (tSl (rSlL K) (tFld K (tVar 0) "days") tNoPart (tPart (tVar 1))) "days") (tRet (tLst (tCons (tVar 1) tNil))))))
theorem pure_House_undo {K : PySem.W.Frag} {mg : Str → Option Value} {A : Ad} (T : Txt K mg A) {vs : List V} {H : Hp} {Q : VK} {E : XK} (h : sp_House_undo K A vs H Q E) : t_House_undo K A { nx := fun _ H' => Q .non H', rt := Q } (start N_House_undo vs) H := by
  obtain ⟨N, h, f, n, rfl, pl, HA, hN, q⟩ := h
  obtain ⟨wf, dx, fa, da, h1, F, Ds, nd⟩ := id HA
  obtain ⟨ld, l1, l2, l3⟩ := id Ds
  have hll : ld.length = f.days.length := by rw [← l1, List.length_map]
  refine q_when (an_B (v_out pl (val_var rfl) val_c val_c)) (fun hb => ?_) fun hb => ?_
  · rw [HF.res_undo_no (by simpa using hb)] at q
    refine s_retN (xs := its [-3]) (nw_lst (va_cons val_c va_nil) (by show 1 ≤ 100000; decide)) fun p hp => ?_
    exact q p _ hp (Kp.of (same_new hp)) (pl.upd rfl) (HA.same (same_new hp)) upd_same
  · have hb : VbsyCore.isBetween n 0 20 = true := by simpa using hb
    have hn := HF.bet_iff.mp hb
    rw [HF.res_undo_yes hb] at q
    refine q_when (an_test (val_cmp (val_var rfl) (val_is (val_len (v_days T h1 (val_var rfl)) (SqL.of l2)) (by rw [List.length_map, hll])))) (fun hb2 => ?_) fun hb2 => ?_
    · have hb2 := of_decide_eq_true hb2
      rw [if_pos (by omega)] at q
      refine s_retN (xs := its [-5]) (nw_lst (va_cons val_c va_nil) (by show 1 ≤ 100000; decide)) fun p hp => ?_
      exact q p _ hp (Kp.of (same_new hp)) (pl.upd rfl) (HA.same (same_new hp)) upd_same
    · have hb2 := of_decide_eq_false hb2
      rw [if_neg (by omega)] at q
      refine q_seq ?_
      refine st_fldN (nw_slN (j := n.toNat) (v_days T h1 (val_var rfl)) (SqL.of l2) (val_is (val_var (v := .int n) rfl) (by congr 1; omega)) (by rw [List.length_map]; omega)) rfl h1 T.c_House T.n_House_days (by show 2 < 1000; decide) fun db hdb => ?_
      have hdbh : db ≠ h := fun z => by rw [z, h1] at hdb; cases hdb
      rw [put_days]
      have b2 : But h H (upd (upd H db (.lst ((ld.map fun x => V.ref x.2).take n.toNat))) h (.ins A.cHouse dx (houF fa db))) := (Same.but (same_new hdb)).upd
      have e2 : (upd (upd H db (.lst ((ld.map fun x => V.ref x.2).take n.toNat))) h (.ins A.cHouse dx (houF fa db))) db = some (.lst ((ld.take n.toNat).map fun x => V.ref x.2)) := by rw [upd_ne hdbh, upd_same, List.map_take]
      have e3 : (upd (upd H db (.lst ((ld.map fun x => V.ref x.2).take n.toNat))) h (.ins A.cHouse dx (houF fa db))) h = some (.ins A.cHouse dx (houF fa db)) := upd_same
      have pl2 : Pl (upd (upd H db (.lst ((ld.map fun x => V.ref x.2).take n.toNat))) h (.ins A.cHouse dx (houF fa db))) := (pl.upd rfl).upd rfl
      generalize upd (upd H db (.lst ((ld.map fun x => V.ref x.2).take n.toNat))) h (.ins A.cHouse dx (houF fa db)) = H2 at b2 e2 e3 pl2
      have F2 := F.keepH h1 rfl b2
      have D2 := Ds.keepH h1 rfl b2
      have D3 : DaysAt A H2 db (f.days.take n.toNat) := by
        refine ⟨ld.take n.toNat, by rw [List.map_take, l1], e2, fun x hx => ?_⟩
        obtain ⟨dy, hy⟩ := l3 x (List.mem_of_mem_take hx)
        refine ⟨dy, b2 _ _ hy fun z => ?_⟩
        rw [z, h1] at hy
        have := Option.some.inj hy
        injection this with _ _ z2
        exact absurd (congrArg List.length z2) (by show 2 ≠ 4; decide)
      refine s_retN (σ := [some (.ref h), some (.int n)]) (te := tLst (tCons (tVar 1) tNil)) (xs := its [n]) (nw_lst (va_cons (val_var rfl) va_nil) (by show 1 ≤ 100000; decide)) fun u hu => ?_
      have huH : H u = none := by
        cases e : H u with
        | none => rfl
        | some o =>
          by_cases hud : u = h
          · rw [hud, e3] at hu; cases hu
          · rw [b2 _ _ e hud] at hu; cases hu
      have sn := same_new (o := .lst (its [n])) hu
      refine q u _ huH (fun b o e hb nb => sn _ _ (b2 _ _ e hb)) (pl2.upd rfl) ⟨wf.take _, dx, fa, db, sn _ _ e3, (F2.put).same sn, D3.same sn, hN _ hdb⟩ ?_
      rw [upd_same]
      show some (HO.lst (its [n])) = some (HO.lst (its [((n.toNat : Nat) : Int)]))
      rw [show ((n.toNat : Nat) : Int) = n by omega]
theorem ok_House_undo {P : Program} {w : World} {K : PySem.W.Frag} {mg : Str → Option Value} {base : Heap} {A : Ad} (T : Txt K mg A) : MOk P w K mg base CX0 A.cHouse "undo" 2 ["self", "n"] (sp_House_undo K A) := by
  obtain ⟨fn, fd, hm, F⟩ := T.f_House_undo
  refine ⟨fn, fd, hm, F.ok sc_House_undo (fun vs H Q E h => ?_) (fun cdv A' outer s H vs Q E hr h => ⟨t_House_undo K A, ?_, pure_House_undo T h⟩), F.binds fun _ _ _ _ _ _ us hl => match us, hl with | [_, _], _ => rfl⟩
  · obtain ⟨_, _, _, _, rfl, _⟩ := h
    rfl
  · exact (pss_cons (ps_if (pt_val (pe_callM (ok_is_out T) (hr.mono (by decide)) rfl (pa_cons (pv 1) (pa_cons pe_int (pa_cons pe_int pa_nil))))) (pss_one (ps_ret (pe_lst (pa_cons (pe_gi rfl T.g_OUT_OF_RANGE) pa_nil)))) pss_nil) (pss_cons (ps_if (pt_cmpR op_gt (pv 1) (pe_callB call_len_seq rfl T.b_len PySem.boot_len (pa_cons (pe_fld (pv 0) rfl) pa_nil)) (nomark _)) (pss_one (ps_ret (pe_lst (pa_cons (pe_gi rfl T.g_NO_DAY) pa_nil)))) pss_nil) (pss_cons (ps_fld (pv 0) (pe_slice sl_list (pe_fld (pv 0) rfl) po_none (po_some (pv 1))) rfl) (pss_one (ps_ret (pe_lst (pa_cons (pv 1) pa_nil)))))))
def sp0_House_told (K : PySem.W.Frag) (A : Ad) : Sp := fun vs H Q _ => ∃ (N : Addr → Prop) (h : Addr) (f : Vbsyae.Field), vs = [.ref h] ∧ HouseAt A N H h f ∧ ∀ p, H p = none → Q (.ref p) (upd H p (.lst (its (HF.res f .told).2)))
abbrev sp_House_told (K : PySem.W.Frag) (A : Ad) : Sp := Plain (sp0_House_told K A)
def t_House_told (K : PySem.W.Frag) (A : Ad) : TS := (tSeq (tAsg (tLc (iList K (tFld K (tFld K (tVar 0) "field") "walled")) (gName 2) tYes (tCB cIntV (tCons (tVar 2) tNil)) [2]) (gName 1)) (tRet (tOp rCat (tOp rCat (tLst (tCons (tFld K (tFld K (tVar 0) "field") "rows") (tCons (tFld K (tFld K (tVar 0) "field") "columns") tNil))) (tVar 1)) (tLst (tCons (tCB (cLen K) (tCons (tFld K (tVar 0) "days") tNil)) tNil)))))
theorem pure_House_told {K : PySem.W.Frag} {mg : Str → Option Value} {A : Ad} (T : Txt K mg A) {vs : List V} {H : Hp} {Q : VK} {E : XK} (pl : Pl H) (h : sp0_House_told K A vs H Q E) : t_House_told K A { nx := fun _ H' => Fg H Q .non H', rt := Fg H Q } (start N_House_told vs) H := by
  obtain ⟨N, h, f, rfl, ⟨wf, dx, fa, da, h1, F, Ds, nd⟩, q⟩ := h
  obtain ⟨g, dg, w, f1, f2⟩ := id F
  obtain ⟨ld, l1, l2, l3⟩ := id Ds
  have hll : ld.length = f.days.length := by rw [← l1, List.length_map]
  have w4 := g.w4
  refine q_setN (nw_lcL f.walls V.bl (fun _ => true) (fun w => V.int (if w = true then 1 else 0)) pl (v_wal T f1 (v_field T h1 (val_var rfl))) (SqL.of f2) (by omega) (fun c hc H2 s2 pl2 => an_yes) fun c hc _ H2 s2 pl2 => val_intB (val_var rfl)) fun p hp => ?_
  rw [filt_true]
  have s1 := same_new (o := .lst (f.walls.map fun w => V.int (if w = true then 1 else 0))) hp
  have pl1 : Pl (upd H p (.lst (f.walls.map fun w => V.int (if w = true then 1 else 0)))) := pl.upd rfl
  refine s_its rfl s1 (gn_cat (xs := [.int f.rows, .int f.cols] ++ f.walls.map fun w => V.int (if w = true then 1 else 0)) (ys := [.int f.days.length]) (gl_new (gn_cat (xs := [.int f.rows, .int f.cols]) (ys := f.walls.map fun w => V.int (if w = true then 1 else 0)) (gl_new (gn_new pl1 (nw_lst (va_cons (v_rows T (s1 _ _ f1) (v_field T (s1 _ _ h1) (val_var rfl))) (va_cons (v_cols T (s1 _ _ f1) (v_field T (s1 _ _ h1) (val_var rfl))) va_nil)) (by show 2 ≤ 100000; decide)))) (fun H2 s2 pl2 => gl_val pl2 (val_var rfl) (s2 _ _ upd_same)) (by rw [List.length_map, w4]; show 2 + 4 ≤ 10000000; decide))) (fun H2 s2 pl2 => gl_new (gn_new pl2 (nw_lst (va_cons (val_is (val_len (v_days T (s2 _ _ (s1 _ _ h1)) (val_var rfl)) (SqL.of (s2 _ _ (s1 _ _ l2)))) (by rw [List.length_map, hll])) va_nil) (by show 1 ≤ 100000; decide)))) (by rw [List.length_append, List.length_map, w4]; show 2 + 4 + 1 ≤ 10000000; decide)) ?_ q
  show _ = its (VbsyCore.ints ([f.rows, f.cols] ++ (f.walls.map fun w => if w = true then 1 else 0) ++ [f.days.length]))
  rw [its_ints]
  unfold nts
  rw [List.map_append, List.map_append, List.map_map]
  congr 2
  apply List.map_congr_left
  intro w _
  cases w <;> rfl
theorem ok_House_told {P : Program} {w : World} {K : PySem.W.Frag} {mg : Str → Option Value} {base : Heap} {A : Ad} (T : Txt K mg A) : MOk P w K mg base CX0 A.cHouse "told" 1 ["self"] (sp_House_told K A) := by
  obtain ⟨fn, fd, hm, F⟩ := T.f_House_told
  refine ⟨fn, fd, hm, fun_okG F sc_House_told (fun vs H Q E h => ?_) (fun cdv A' outer s H vs Q E hr pl h => ⟨t_House_told K A, ?_, pure_House_told T pl h⟩), F.binds fun _ _ _ _ _ _ us hl => match us, hl with | [_], _ => rfl⟩
  · obtain ⟨_, _, _, rfl, _⟩ := h
    rfl
  · exact (pss_cons (ps_setLc (i := 1) (own := [("wall", 2)]) (g := (gName 2)) (tt := tYes) rfl sc_House_told.nd rfl rfl (sw_true rfl rfl rfl (by decide +kernel)) (pi_list (pe_fld (pe_fld (pv 0) rfl) rfl)) (blkOk_by (N := N_House_told) (sc := defScope s_House_told) (by decide +kernel)) (fun _ _ _ _ _ => (pg_name (i := 2) sc_House_told.nd rfl (Or.inl rfl))) (fun _ _ _ _ _ => pts_nil) (fun _ _ _ _ _ => (pe_callTy call_int1 rfl T.b_int PyProof.Rows.boot_int (pa_cons (pv 2) pa_nil)))) (pss_one (ps_ret (pe_op op_cat (pe_op op_cat (pe_lst (pa_cons (pe_fld (pe_fld (pv 0) rfl) rfl) (pa_cons (pe_fld (pe_fld (pv 0) rfl) rfl) pa_nil))) (pv 1)) (pe_lst (pa_cons (pe_callB call_len_seq rfl T.b_len PySem.boot_len (pa_cons (pe_fld (pv 0) rfl) pa_nil)) pa_nil))))))
end HW

/-! # Walk: lists of values behind which the heap may have grown -/
namespace HW
open PySem PySem.Spec PyProof.Rows L2
section
variable {σ : L2.St} {H : Hp} {ta tb te tl : TE} {t : TA} {K : PySem.W.Frag} {D : Ends} {t1 t2 t3 : TS} {tt : TT} {vs xs rs : List V} {i j k : Nat} {x y z v : V} {a : Addr}
def GValA (t : TA) (σ : L2.St) (H : Hp) (vs : List V) : Prop := ∀ Q : List V → Hp → Prop, (∀ H2, Same H H2 → Pl H2 → Q vs H2) → t σ H Q
theorem ga_nil (pl : Pl H) : GValA tNil σ H [] := fun Q q => q H (Same.refl H) pl
theorem ga_cons (h : GVal te σ H v) (h2 : ∀ H1, Same H H1 → Pl H1 → GValA t σ H1 vs) : GValA (tCons te t) σ H (v :: vs) := fun Q q => h _ fun H1 s1 pl1 => h2 H1 s1 pl1 _ fun H2 s2 pl2 => q H2 (s1.trans s2) pl2
theorem gn_lst (h : GValA t σ H vs) (hl : vs.length ≤ 100000) : GNew (tLst t) σ H vs := fun Q q => h _ fun H1 s1 pl1 => ⟨Evl.sz_of hl, fun p hp => q p _ (s1.free hp) (same_upd s1 (s1.free hp)) (pl1.upd rfl) upd_same⟩
theorem gv (pl : Pl H) (h : Val te σ H v) : GVal te σ H v := HW.Val.g pl h
theorem gv_op {r : R2} (h : GVal ta σ H x) (h2 : ∀ H1, Same H H1 → Pl H1 → Val tb σ H1 y) (hr : ∀ H1 (Q : VK), Q z H1 → r x y H1 Q) : GVal (tOp r ta tb) σ H z := fun Q q => h _ fun H1 s1 pl1 => h2 H1 s1 pl1 _ (hr H1 _ (q H1 s1 pl1))
theorem gv_cmp {g : Int → Int → Bool} {i j : Int} (h : GVal ta σ H (.int i)) (h2 : ∀ H1, Same H H1 → Pl H1 → Val tb σ H1 (.int j)) : GVal (tOp (rI0 fun i j => .bl (g i j)) ta tb) σ H (.bl (g i j)) := gv_op h h2 fun H1 Q q => ⟨i, j, rfl, rfl, q⟩
theorem gv_lenT {ls : List (List Int)} (h : NewTs te σ H ls) : GVal (tCB (cLen K) (tCons te tNil)) σ H (.int (ls.length : Int)) := fun Q q => h _ fun p rs H' hp s pl e tu => ⟨p, rs, rfl, .inl (SqL.of e), by rw [tu.len]; exact q H' s pl⟩
theorem g_when {b : Bool} (h : GAns tt σ H b) (k1 : b = true → ∀ H1, Same H H1 → Pl H1 → t1 { D with nx := t3 D } σ H1) (k2 : b = false → ∀ H1, Same H H1 → Pl H1 → t3 D σ H1) : tSeq (tIfS tt t1 tNext) t3 D σ H := g_if h k1 k2
/-- for a, b in a list of pairs -/
theorem q_forP {ls : List (Nat × Nat)} (h : Val tl σ H (.ref a)) (hx : SqL K H a rs) (hn : rs.length = ls.length) (Pv : Nat → L2.St → Hp → Prop) (h0 : Pv 0 σ H) (hl : ∀ i σ' H', Pv i σ' H' → H' a = some (.lst rs) ∧ Tups H' (ls.map pr2) rs)
    (hs : ∀ i x σ' H', ls[i]? = some x → Pv i σ' H' → t1 { D with nx := Pv (i + 1), ct := Pv (i + 1), bk := t2 D } ((σ'.set j (some (.int (x.1 : Int)))).set k (some (.int (x.2 : Int)))) H') (hd : ∀ σ' H', Pv ls.length σ' H' → t2 D σ' H') :
    tSeq (tFor (iList K tl) (gTup K 2 (gCons (gName j) (gCons (gName k) gNil))) t1) t2 D σ H :=
  h _ ⟨a, rfl, ⟨rs, hx⟩, for_list (D := { D with nx := t2 D }) Pv h0 (fun i σ' H' _ p => SqL.of (hl i σ' H' p).1) (fun i y σ' H' hi p => by
    obtain ⟨ns, t, e1, rfl, e3⟩ := (hl i σ' H' p).2.get hi
    rw [List.getElem?_map] at e1
    cases hx : ls[i]? with
    | none => rw [hx] at e1; cases e1
    | some x =>
      rw [hx] at e1
      have e1 : pr2 x = ns := Option.some.inj e1
      subst e1
      exact g_pair (a := .int (x.1 : Int)) (b := .int (x.2 : Int)) (t := t) (SqT.of e3) (hs i x σ' H' hx p)) (fun σ' H' p => by
    rw [hn] at p
    exact hd σ' H' p)⟩
/-- a, b = a list of two -/
theorem q_unL (h : Val te σ H (.ref a)) (hq : SqL K H a [x, y]) (q : t2 D ((σ.set j (some x)).set k (some y)) H) : tSeq (tAsg te (gLst K 2 (gCons (gName j) (gCons (gName k) gNil)))) t2 D σ H :=
  h _ ⟨a, [x, y], rfl, hq, rfl, x, [y], rfl, y, [], rfl, rfl, q⟩
theorem q_unLN (h : New te σ H [x, y]) (q : ∀ p, H p = none → t2 D ((σ.set j (some x)).set k (some y)) (upd H p (.lst [x, y]))) : tSeq (tAsg te (gLst K 2 (gCons (gName j) (gCons (gName k) gNil)))) t2 D σ H :=
  h _ fun p hp => ⟨p, [x, y], rfl, SqL.of upd_same, rfl, x, [y], rfl, y, [], rfl, rfl, q p hp⟩
end
end HW

namespace HW
open PySem PySem.Spec PyProof.Rows L2
theorem v_cnt {K : PySem.W.Frag} {A : Ad} {σ : L2.St} {H : Hp} {ta : TE} {fa : Addr} {f : Vbsyae.Field} (pl : Pl H) (F : FieldAt A H fa f) (h : Val ta σ H (.ref fa)) : Val (tMeth A.cField "count" (sp_Field_count K A) [] E0 ta tNil) σ H (.int (Vbsyae.cells f : Int)) := by
  obtain ⟨g, dx, w, h1, h2⟩ := id F
  exact val_meth h h1 no_F va_nil fun Q q => ⟨pl, fa, f, rfl, F, q⟩
theorem filt_any {α : Type} (l : List α) (p : α → Bool) : decide ((0 : Int) < ((l.filter fun x => !p x).length : Int)) = !l.all p := by
  rw [filt_pos]
  induction l with
  | nil => rfl
  | cons a r ih => rw [List.any_cons, List.all_cons, ih, Bool.not_and]
def sp0_House_are_cells (K : PySem.W.Frag) (A : Ad) : Sp := fun vs H Q _ => ∃ (N : Addr → Prop) (h a : Addr) (f : Vbsyae.Field) (l : List Int), vs = [.ref h, .ref a] ∧ HouseAt A N H h f ∧ H a = some (.lst (its l)) ∧ l.length ≤ 2000 ∧ Q (.bl (HF.okCells f l)) H
abbrev sp_House_are_cells (K : PySem.W.Frag) (A : Ad) : Sp := Plain (sp0_House_are_cells K A)
def t_House_are_cells (K : PySem.W.Frag) (A : Ad) : TS := (tSeq (tIfS (tTest (tOp rGtI (tCB (cLen K) (tCons (tLc (iList K (tVar 1)) (gName 2) (tB (tCall (sp_is_out K A) [] E0 (tCons (tVar 2) (tCons (tC (.int 0)) (tCons (tOp rSubI (tMeth A.cField "count" (sp_Field_count K A) [] E0 (tFld K (tVar 0) "field") tNil) (tC (.int 1))) tNil))))) (tVar 2) [2]) tNil)) (tC (.int 0)))) (tRet (tC (.bl false))) tNext) (tRet (tOp rEq (tCB (cLen K) (tCons (tLc (iRng2 (tCons (tC (.int 1)) (tCons (tCB (cLen K) (tCons (tVar 1) tNil)) tNil))) (gName 3) (tTest (tOp rLeI (tOp (rIxL K) (tVar 1) (tVar 3)) (tOp (rIxL K) (tVar 1) (tOp rSubI (tVar 3) (tC (.int 1)))))) (tVar 3) [3]) tNil)) (tC (.int 0)))))
theorem pure_House_are_cells {K : PySem.W.Frag} {mg : Str → Option Value} {A : Ad} (T : Txt K mg A) {vs : List V} {H : Hp} {Q : VK} {E : XK} (pl : Pl H) (h : sp0_House_are_cells K A vs H Q E) : t_House_are_cells K A { nx := fun _ H' => Fg H Q .non H', rt := Fg H Q } (start N_House_are_cells vs) H := by
  obtain ⟨N, h, a, f, l, rfl, ⟨wf, dx, fa, da, h1, F, Ds, nd⟩, ha, hz, q⟩ := h
  refine g_when (b := !(l.all fun c => VbsyCore.isBetween c 0 ((Vbsyae.cells f : Int) - 1))) (ga_test ?_) (fun hb H1 s1 pl1 => ?_) fun hb H1 s1 pl1 => ?_
  · have hc := gv_cmp (g := fun i j => decide (j < i)) (tb := tC (.int 0)) (σ := [some (.ref h), some (.ref a), none, none]) (H := H) (j := 0) (g_lenN (K := K) (gn_new pl (nw_lcL (K := K) (j := 2) (tt := tB (tCall (sp_is_out K A) [] E0 (tCons (tVar 2) (tCons (tC (.int 0)) (tCons (tOp rSubI (tMeth A.cField "count" (sp_Field_count K A) [] E0 (tFld K (tVar 0) "field") tNil) (tC (.int 1))) tNil))))) (te := tVar 2) l V.int (fun c => !VbsyCore.isBetween c 0 ((Vbsyae.cells f : Int) - 1)) V.int pl (val_var (i := 1) rfl) (its_seq ha) (by omega) (fun c hc H2 s2 pl2 => an_B (v_out pl2 (val_var rfl) val_c (val_sub (v_cnt pl2 (F.same s2) (v_field T (s2 _ _ h1) (val_var rfl))) val_c))) fun c hc _ H2 s2 pl2 => val_var rfl))) fun H1 s1 pl1 => val_c
    rw [List.length_map] at hc
    have e := filt_any l fun c => VbsyCore.isBetween c 0 ((Vbsyae.cells f : Int) - 1)
    rw [← e]
    exact hc
  · have e : HF.okCells f l = false := by
      unfold HF.okCells
      rw [show (l.all fun c => VbsyCore.isBetween c 0 ((Vbsyae.cells f : Int) - 1)) = false by simpa using hb]
      rfl
    rw [e] at q
    exact s_ret val_c (Fg.same s1 q)
  · have hall : (l.all fun c => VbsyCore.isBetween c 0 ((Vbsyae.cells f : Int) - 1)) = true := by simpa using hb
    have el := HF.all_nat hall
    have ha1 := s1 _ _ ha
    have hat : ∀ i, i < l.length → l.getD i 0 = (((l.map Int.toNat).getD i 0 : Nat) : Int) := fun i hi => by
      conv => lhs; rw [el]
      rw [List.getD_eq_getElem?_getD, List.getD_eq_getElem?_getD, List.getElem?_map, List.getElem?_eq_getElem (by rw [List.length_map]; exact hi)]
      rfl
    refine use_len (xs := ((List.range (l.length - 1)).filter fun x => !decide ((l.map Int.toNat).getD x 0 < (l.map Int.toNat).getD (x + 1) 0)).map fun (x : Nat) => V.int (1 + (x : Int))) (nw_lcR2 (lo := 1) (hi := (l.length : Int)) (l.length - 1) (fun x => !decide ((l.map Int.toNat).getD x 0 < (l.map Int.toNat).getD (x + 1) 0)) (fun (x : Nat) => V.int (1 + (x : Int))) pl1 (va_cons val_c (va_cons (val_is (val_len (val_var rfl) (SqL.of ha1)) (by rw [len_its])) va_nil)) (by omega) ⟨by omega, by omega, by omega, by omega⟩ (by omega) (fun x hx H2 s2 pl2 => ?_) fun x hx _ H2 s2 pl2 => val_var rfl) fun p hp => ?_
    · have hq := s2.seq (SqL.of (K := K) ha1)
      have e1 : atI (its l) (1 + (x : Int)) = some (.int (((l.map Int.toNat).getD (x + 1) 0 : Nat) : Int)) := by
        rw [show (1 : Int) + (x : Int) = ((x + 1 : Nat) : Int) by omega, its_at (by omega), hat _ (by omega)]
      have e2 : atI (its l) (1 + (x : Int) - 1) = some (.int (((l.map Int.toNat).getD x 0 : Nat) : Int)) := by
        rw [show (1 : Int) + (x : Int) - 1 = (x : Int) by omega, its_at (by omega), hat _ (by omega)]
      refine an_test (val_is (val_cmp (val_ixL (val_var rfl) (val_var rfl) hq e1) (val_ixL (val_var rfl) (val_sub (val_var rfl) val_c) hq e2)) ?_)
      congr 1
      rw [← decide_not]
      apply decide_eq_decide.mpr
      omega
    · refine ⟨rfl, Fg.same (s1.trans (same_new hp)) ?_⟩
      have e : HF.okCells f l = (List.range (l.length - 1)).all fun x => decide ((l.map Int.toNat).getD x 0 < (l.map Int.toNat).getD (x + 1) 0) := by
        unfold HF.okCells
        rw [hall, Bool.true_and, HF.rise_at, List.length_map]
      have e1 : decide (V.int ((((List.range (l.length - 1)).filter fun x => !decide ((l.map Int.toNat).getD x 0 < (l.map Int.toNat).getD (x + 1) 0)).map fun (x : Nat) => V.int (1 + (x : Int))).length : Int) = V.int 0) = HF.okCells f l := by
        rw [List.length_map, e, ← filt_nil]
        simp
      rw [e1]
      exact q
theorem ok_House_are_cells {P : Program} {w : World} {K : PySem.W.Frag} {mg : Str → Option Value} {base : Heap} {A : Ad} (T : Txt K mg A) : MOk P w K mg base CX0 A.cHouse "are_cells" 2 ["self", "row"] (sp_House_are_cells K A) := by
  obtain ⟨fn, fd, hm, F⟩ := T.f_House_are_cells
  refine ⟨fn, fd, hm, fun_okG F sc_House_are_cells (fun vs H Q E h => ?_) (fun cdv A' outer s H vs Q E hr pl h => ⟨t_House_are_cells K A, ?_, pure_House_are_cells T pl h⟩), F.binds fun _ _ _ _ _ _ us hl => match us, hl with | [_, _], _ => rfl⟩
  · obtain ⟨_, _, _, _, _, rfl, _⟩ := h
    rfl
  · exact (pss_cons (ps_if (pt_cmpR op_gt (pe_callB call_len_seq rfl T.b_len PySem.boot_len (pa_cons (pe_lc (own := [("cell", 2)]) (g := (gName 2)) (tt := (tB (tCall (sp_is_out K A) [] E0 (tCons (tVar 2) (tCons (tC (.int 0)) (tCons (tOp rSubI (tMeth A.cField "count" (sp_Field_count K A) [] E0 (tFld K (tVar 0) "field") tNil) (tC (.int 1))) tNil)))))) rfl sc_House_are_cells.nd (pi_list (pv 1)) (blkOk_by (N := N_House_are_cells) (sc := defScope s_House_are_cells) (by decide +kernel)) (fun _ _ _ _ _ => (pg_name (i := 2) sc_House_are_cells.nd rfl (Or.inl rfl))) (fun _ _ _ _ _ => (pts_one (pt_val (pe_callM (ok_is_out T) (hr.mono (by decide)) rfl (pa_cons (pv 2) (pa_cons pe_int (pa_cons (pe_op op_sub (pe_methM0 (pe_fld (pv 0) rfl) T.c_Field (ok_Field_count T) (hr.mono (by decide))) pe_int) pa_nil))))))) (fun _ _ _ _ _ => (pv 2))) pa_nil)) pe_int (nomark _)) (pss_one (ps_ret pe_bl)) pss_nil) (pss_one (ps_ret (pe_cmpR op_eq (pe_callB call_len_seq rfl T.b_len PySem.boot_len (pa_cons (pe_lc (own := [("at", 3)]) (g := (gName 3)) (tt := (tTest (tOp rLeI (tOp (rIxL K) (tVar 1) (tVar 3)) (tOp (rIxL K) (tVar 1) (tOp rSubI (tVar 3) (tC (.int 1))))))) rfl sc_House_are_cells.nd (pi_range2 rfl T.b_range (pa_cons pe_int (pa_cons (pe_callB call_len_seq rfl T.b_len PySem.boot_len (pa_cons (pv 1) pa_nil)) pa_nil))) (blkOk_by (N := N_House_are_cells) (sc := defScope s_House_are_cells) (by decide +kernel)) (fun _ _ _ _ _ => (pg_name (i := 3) sc_House_are_cells.nd rfl (Or.inl rfl))) (fun _ _ _ _ _ => (pts_one (pt_cmpR op_le (pe_ix ix_list (pv 1) (pv 3) (fun _ _ => rfl)) (pe_ix ix_list (pv 1) (pe_op op_sub (pv 3) pe_int) (fun _ _ => rfl)) (nomark _)))) (fun _ _ _ _ _ => (pv 3))) pa_nil)) pe_int (nomark _)))))
section
variable {K : PySem.W.Frag} {mg : Str → Option Value} {A : Ad} {N : Addr → Prop} {σ : L2.St} {H : Hp} {ta tb tc : TE} {fa h a b : Addr} {f : Vbsyae.Field} {l : List Int} {m : List Nat}
theorem v_cells (pl : Pl H) (HA : HouseAt A N H h f) (ha : H a = some (.lst (its l))) (hz : l.length ≤ 2000) (h1 : Val ta σ H (.ref h)) (h2 : Val tb σ H (.ref a)) : Val (tMeth A.cHouse "are_cells" (sp_House_are_cells K A) [] E0 ta (tCons tb tNil)) σ H (.bl (HF.okCells f l)) := by
  obtain ⟨wf, dx, fa, da, e1, F, Ds, nd⟩ := id HA
  exact val_meth h1 e1 no_H (va_cons h2 va_nil) fun Q q => ⟨pl, N, h, a, f, l, rfl, HA, ha, hz, q⟩
theorem v_rcost {m n : Nat} (pl : Pl H) (F : FieldAt A H fa f) (h : Val ta σ H (.ref fa)) (hb : Val tb σ H (.int (m : Int))) (hc : Val tc σ H (.int (n : Int))) (hm : m ≤ 64) (hn : n ≤ 64) : Val (tMeth A.cField "rectangle_cost" (sp_Field_rectangle_cost K A) [] E0 ta (tCons tb (tCons tc tNil))) σ H (.int (Vbsyae.rectCost f m n : Int)) := by
  obtain ⟨g, dx, w, h1, h2⟩ := id F
  exact val_meth h h1 no_F (va_cons hb (va_cons hc va_nil)) fun Q q => ⟨pl, fa, f, m, n, rfl, F, hm, hn, q⟩
theorem n_rput {m n : Nat} (pl : Pl H) (F : FieldAt A H fa f) (h : Val ta σ H (.ref fa)) (hb : Val tb σ H (.int (m : Int))) (hc : Val tc σ H (.int (n : Int))) (hm : m ≤ f.rows) (hn : n ≤ f.cols) : New (tMeth A.cField "rectangle_put" (sp_Field_rectangle_put K A) [] E0 ta (tCons tb (tCons tc tNil))) σ H (its (Vbsyae.foldRow (Vbsyae.putAt f m n))) := by
  obtain ⟨g, dx, w, h1, h2⟩ := id F
  refine nw_meth h h1 no_F (va_cons hb (va_cons hc va_nil)) fun Q q => ⟨pl, fa, f, m, n, rfl, F, hm, hn, fun p hp => ?_⟩
  have := q p hp
  rw [show its (Vbsyae.foldRow (Vbsyae.putAt f m n)) = nts [(Vbsyae.putAt f m n).row, (Vbsyae.putAt f m n).col, m, n] from its_ints _] at this
  exact this
theorem nt_hurds (pl : Pl H) (F : FieldAt A H fa f) (h : Val ta σ H (.ref fa)) (hb : Val tb σ H (.ref b)) (hm : SqL K H b (nts m)) (hl : ∀ c ∈ m, c < Vbsyae.cells f) (hz : m.length ≤ 64) : NewTs (tMeth A.cField "hurdles" (sp_Field_hurdles K A) [] E0 ta (tCons tb tNil)) σ H ((HF.hurds f m m).map pr2) := by
  obtain ⟨g, dx, w, h1, h2⟩ := id F
  exact nt_meth h h1 no_F (va_cons hb va_nil) fun Q q => ⟨fa, b, f, m, rfl, pl, F, hm, hl, hz, q⟩
theorem v_parts (pl : Pl H) (F : FieldAt A H fa f) (h : Val ta σ H (.ref fa)) (hb : Val tb σ H (.ref b)) (hm : SqL K H b (nts m)) (hr : HF.Rising m) (hl : ∀ c ∈ m, c < Vbsyae.cells f) : Val (tMeth A.cField "parts" (sp_Field_parts K A) [] E0 ta (tCons tb tNil)) σ H (.int (Vbsyae.parts f m : Int)) := by
  obtain ⟨g, dx, w, h1, h2⟩ := id F
  exact val_meth h h1 no_F (va_cons hb va_nil) fun Q q => ⟨pl, fa, b, f, m, rfl, F, hm, hr, hl, q⟩
end
def sp0_House_cost (K : PySem.W.Frag) (A : Ad) : Sp := fun vs H Q _ => ∃ (N : Addr → Prop) (h a : Addr) (f : Vbsyae.Field) (l : List Int), vs = [.ref h, .ref a] ∧ HouseAt A N H h f ∧ H a = some (.lst (its l)) ∧ l.length ≤ 2000 ∧ ∀ p, H p = none → Q (.ref p) (upd H p (.lst (its (HF.res f (.cost l)).2)))
abbrev sp_House_cost (K : PySem.W.Frag) (A : Ad) : Sp := Plain (sp0_House_cost K A)
def t_House_cost (K : PySem.W.Frag) (A : Ad) : TS := (tSeq (tIfS (tNot (tB (tMeth A.cHouse "are_cells" (sp_House_are_cells K A) [] E0 (tVar 0) (tCons (tVar 1) tNil)))) (tRet (tLst (tCons (tC (.int (-4))) tNil))) tNext) (tRet (tLst (tCons (tCB (cLen K) (tCons (tMeth A.cField "hurdles" (sp_Field_hurdles K A) [] E0 (tFld K (tVar 0) "field") (tCons (tVar 1) tNil)) tNil)) (tCons (tCB (cLen K) (tCons (tVar 1) tNil)) (tCons (tMeth A.cField "parts" (sp_Field_parts K A) [] E0 (tFld K (tVar 0) "field") (tCons (tVar 1) tNil)) tNil))))))
theorem pure_House_cost {K : PySem.W.Frag} {mg : Str → Option Value} {A : Ad} (T : Txt K mg A) {vs : List V} {H : Hp} {Q : VK} {E : XK} (pl : Pl H) (h : sp0_House_cost K A vs H Q E) : t_House_cost K A { nx := fun _ H' => Fg H Q .non H', rt := Fg H Q } (start N_House_cost vs) H := by
  obtain ⟨N, h, a, f, l, rfl, HA, ha, hz, q⟩ := h
  obtain ⟨wf, dx, fa, da, h1, F, Ds, nd⟩ := id HA
  rw [HF.res_cost] at q
  refine q_when (an_not (an_B (v_cells pl HA ha hz (val_var rfl) (val_var rfl)))) (fun hb => ?_) fun hb => ?_
  · rw [if_neg (by simpa using hb)] at q
    exact s_its rfl (Same.refl H) (gn_new pl (nw_lst (va_cons val_c va_nil) (by show 1 ≤ 100000; decide))) rfl q
  · have hb : HF.okCells f l = true := by simpa using hb
    rw [if_pos hb] at q
    obtain ⟨e1, e2, e3, e4⟩ := HF.okCells_facts wf.g hb
    have ea : H a = some (.lst (nts (l.map Int.toNat))) := by rw [ha, ← its_nts, ← e1]
    generalize l.map Int.toNat = m at e1 e2 e3 e4 ea q
    refine s_its rfl (Same.refl H) (gn_lst (ga_cons (gv_lenT (nt_hurds pl F (v_field T h1 (val_var rfl)) (val_var rfl) (SqL.of ea) e3 e4)) fun H1 s1 pl1 => ga_cons (gv pl1 (val_is (val_len (val_var rfl) (SqL.of (s1 _ _ ea))) (by rw [len_nts]))) fun H2 s2 pl2 => ga_cons (gv pl2 (v_parts pl2 (F.same (s1.trans s2)) (v_field T (s2 _ _ (s1 _ _ h1)) (val_var rfl)) (val_var rfl) (SqL.of (s2 _ _ (s1 _ _ ea))) e2 e3)) fun H3 s3 pl3 => ga_nil pl3) (by show 3 ≤ 100000; decide)) ?_ q
    rw [List.length_map, its_ints]
    unfold Vbsyae.cost
    rw [HF.sides_eq e2 e3]
    rfl
theorem ok_House_cost {P : Program} {w : World} {K : PySem.W.Frag} {mg : Str → Option Value} {base : Heap} {A : Ad} (T : Txt K mg A) : MOk P w K mg base CX0 A.cHouse "cost" 4 ["self", "row"] (sp_House_cost K A) := by
  obtain ⟨fn, fd, hm, F⟩ := T.f_House_cost
  refine ⟨fn, fd, hm, fun_okG F sc_House_cost (fun vs H Q E h => ?_) (fun cdv A' outer s H vs Q E hr pl h => ⟨t_House_cost K A, ?_, pure_House_cost T pl h⟩), F.binds fun _ _ _ _ _ _ us hl => match us, hl with | [_, _], _ => rfl⟩
  · obtain ⟨_, _, _, _, _, rfl, _⟩ := h
    rfl
  · exact (pss_cons (ps_if (pt_not (pt_val (pe_methM (pv 0) T.c_House (ok_House_are_cells T) (hr.mono (by decide)) (pa_cons (pv 1) pa_nil)))) (pss_one (ps_ret (pe_lst (pa_cons (pe_gi rfl T.g_NO_LIST) pa_nil)))) pss_nil) (pss_one (ps_ret (pe_lst (pa_cons (pe_callB call_len_seq rfl T.b_len PySem.boot_len (pa_cons (pe_methM (pe_fld (pv 0) rfl) T.c_Field (ok_Field_hurdles T) (hr.mono (by decide)) (pa_cons (pv 1) pa_nil)) pa_nil)) (pa_cons (pe_callB call_len_seq rfl T.b_len PySem.boot_len (pa_cons (pv 1) pa_nil)) (pa_cons (pe_methM (pe_fld (pv 0) rfl) T.c_Field (ok_Field_parts T) (hr.mono (by decide)) (pa_cons (pv 1) pa_nil)) pa_nil)))))))
def sp0_House_sides (K : PySem.W.Frag) (A : Ad) : Sp := fun vs H Q _ => ∃ (N : Addr → Prop) (h a : Addr) (f : Vbsyae.Field) (l : List Int), vs = [.ref h, .ref a] ∧ HouseAt A N H h f ∧ H a = some (.lst (its l)) ∧ l.length ≤ 2000 ∧ ∀ p, H p = none → Q (.ref p) (upd H p (.lst (its (HF.res f (.sides l)).2)))
abbrev sp_House_sides (K : PySem.W.Frag) (A : Ad) : Sp := Plain (sp0_House_sides K A)
def t_House_sides (K : PySem.W.Frag) (A : Ad) : TS := (tSeq (tIfS (tNot (tB (tMeth A.cHouse "are_cells" (sp_House_are_cells K A) [] E0 (tVar 0) (tCons (tVar 1) tNil)))) (tRet (tLst (tCons (tC (.int (-4))) tNil))) tNext) (tSeq (tAsg (tMeth A.cField "hurdles" (sp_Field_hurdles K A) [] E0 (tFld K (tVar 0) "field") (tCons (tVar 1) tNil)) (gName 2)) (tSeq (tAsg (tLst (tCons (tCB (cLen K) (tCons (tVar 2) tNil)) tNil)) (gName 3)) (tSeq (tFor (iList K (tVar 2)) (gTup K 2 (gCons (gName 4) (gCons (gName 5) gNil))) (tAsg (tOp rCat (tVar 3) (tLst (tCons (tVar 4) (tCons (tVar 5) tNil)))) (gName 3))) (tRet (tVar 3))))))
theorem pure_House_sides {K : PySem.W.Frag} {mg : Str → Option Value} {A : Ad} (T : Txt K mg A) {vs : List V} {H : Hp} {Q : VK} {E : XK} (pl : Pl H) (h : sp0_House_sides K A vs H Q E) : t_House_sides K A { nx := fun _ H' => Fg H Q .non H', rt := Fg H Q } (start N_House_sides vs) H := by
  obtain ⟨N, h, a, f, l, rfl, HA, ha, hz, q⟩ := h
  obtain ⟨wf, dx, fa, da, h1, F, Ds, nd⟩ := id HA
  rw [HF.res_sides] at q
  refine q_when (an_not (an_B (v_cells pl HA ha hz (val_var rfl) (val_var rfl)))) (fun hb => ?_) fun hb => ?_
  · rw [if_neg (by simpa using hb)] at q
    exact s_its rfl (Same.refl H) (gn_new pl (nw_lst (va_cons val_c va_nil) (by show 1 ≤ 100000; decide))) rfl q
  · have hb : HF.okCells f l = true := by simpa using hb
    rw [if_pos hb] at q
    obtain ⟨e1, e2, e3, e4⟩ := HF.okCells_facts wf.g hb
    have ea : H a = some (.lst (nts (l.map Int.toNat))) := by rw [ha, ← its_nts, ← e1]
    generalize l.map Int.toNat = m at e1 e2 e3 e4 ea q
    rw [HF.sides_eq e2 e3] at q
    have hhl : (HF.hurds f m m).length ≤ 256 := Nat.le_trans (HF.hurds_len f m m) (by omega)
    refine q_setTs (nt_hurds pl F (v_field T h1 (val_var rfl)) (val_var rfl) (SqL.of ea) e3 e4) fun p rs H1 hp s1 pl1 ep tu => ?_
    have hrl : rs.length = (HF.hurds f m m).length := by rw [tu.len, List.length_map]
    generalize HF.hurds f m m = hs at q hhl tu hrl
    refine q_setN (nw_lst (va_cons (val_len (val_var rfl) (SqL.of ep)) va_nil) (by show 1 ≤ 100000; decide)) fun u hu => ?_
    refine q_forP (ls := hs) (val_var rfl) (SqL.of (same_new hu _ _ ep)) hrl (fun i σ' H' => ∃ u v4 v5, σ' = [some (.ref h), some (.ref a), some (.ref p), some (.ref u), v4, v5] ∧ Same H1 H' ∧ Pl H' ∧ H1 u = none ∧ H' u = some (.lst (its ((hs.length : Int) :: (hs.take i).flatMap fun x => VbsyCore.ints [x.1, x.2])))) ?_ ?_ ?_ ?_
    · refine ⟨u, none, none, rfl, same_new hu, pl1.upd rfl, hu, ?_⟩
      rw [upd_same, hrl]
      rfl
    · rintro i σ' H' ⟨u, v4, v5, rfl, s2, pl2, hu, eu⟩
      exact ⟨s2 _ _ ep, tu.same s2⟩
    · rintro i x σ' H' hx ⟨u, v4, v5, rfl, s2, pl2, hu, eu⟩
      have hil : i < hs.length := (List.getElem?_eq_some_iff.mp hx).1
      have hfl : ∀ k : List (Nat × Nat), (k.flatMap fun x => VbsyCore.ints [x.1, x.2]).length = 2 * k.length := fun k => by
        induction k with
        | nil => rfl
        | cons y r ih =>
          rw [List.flatMap_cons, List.length_append, ih]
          show 2 + _ = _
          simp only [List.length_cons]
          omega
      refine gs_setN (gn_cat (ys := its (VbsyCore.ints [x.1, x.2])) (gl_val pl2 (val_var rfl) eu) (fun H3 s3 pl3 => gl_new (gn_new pl3 (nw_lst (va_cons (val_var rfl) (va_cons (val_var rfl) va_nil)) (by show 2 ≤ 100000; decide)))) (by
        rw [len_its, len_its, List.length_cons, hfl, List.length_take]
        show _ + 2 ≤ _
        omega)) fun u' H3 hu' s3 pl3 e3 => ?_
      refine ⟨u', _, _, rfl, s2.trans s3, pl3, s2.free hu', ?_⟩
      rw [e3, List.take_add_one, hx]
      unfold its
      rw [← List.map_append]
      show some (HO.lst (List.map V.int (_ :: _ ++ _))) = _
      rw [List.flatMap_append, List.cons_append]
      rfl
    · rintro σ' H' ⟨u, v4, v5, rfl, s2, pl2, hu, eu⟩
      rw [List.take_length] at eu
      exact s_itsV rfl (s1.trans s2) (val_var rfl) (s1.free hu) eu q
theorem ok_House_sides {P : Program} {w : World} {K : PySem.W.Frag} {mg : Str → Option Value} {base : Heap} {A : Ad} (T : Txt K mg A) : MOk P w K mg base CX0 A.cHouse "sides" 4 ["self", "row"] (sp_House_sides K A) := by
  obtain ⟨fn, fd, hm, F⟩ := T.f_House_sides
  refine ⟨fn, fd, hm, fun_okG F sc_House_sides (fun vs H Q E h => ?_) (fun cdv A' outer s H vs Q E hr pl h => ⟨t_House_sides K A, ?_, pure_House_sides T pl h⟩), F.binds fun _ _ _ _ _ _ us hl => match us, hl with | [_, _], _ => rfl⟩
  · obtain ⟨_, _, _, _, _, rfl, _⟩ := h
    rfl
  · exact (pss_cons (ps_if (pt_not (pt_val (pe_methM (pv 0) T.c_House (ok_House_are_cells T) (hr.mono (by decide)) (pa_cons (pv 1) pa_nil)))) (pss_one (ps_ret (pe_lst (pa_cons (pe_gi rfl T.g_NO_LIST) pa_nil)))) pss_nil) (pss_cons (ps_set (i := 2) sc_House_sides.nd rfl (Or.inl rfl) (pe_methM (pe_fld (pv 0) rfl) T.c_Field (ok_Field_hurdles T) (hr.mono (by decide)) (pa_cons (pv 1) pa_nil))) (pss_cons (ps_set (i := 3) sc_House_sides.nd rfl (Or.inl rfl) (pe_lst (pa_cons (pe_callB call_len_seq rfl T.b_len PySem.boot_len (pa_cons (pv 2) pa_nil)) pa_nil))) (pss_cons (ps_for PassesOwn.never rfl (pi_list (pv 2)) (pg_tup rfl (pgs_cons (pg_name (i := 4) sc_House_sides.nd rfl (Or.inl rfl)) (pgs_cons (pg_name (i := 5) sc_House_sides.nd rfl (Or.inl rfl)) pgs_nil))) (pss_one (ps_set (i := 3) sc_House_sides.nd rfl (Or.inl rfl) (pe_op op_cat (pv 3) (pe_lst (pa_cons (pv 4) (pa_cons (pv 5) pa_nil))))))) (pss_one (ps_ret (pv 3)))))))
def sp0_House_rect (K : PySem.W.Frag) (A : Ad) : Sp := fun vs H Q _ => ∃ (N : Addr → Prop) (h : Addr) (f : Vbsyae.Field) (a b : Int), vs = [.ref h, .int a, .int b] ∧ HouseAt A N H h f ∧ ∀ p, H p = none → Q (.ref p) (upd H p (.lst (its (HF.res f (.rect a b)).2)))
abbrev sp_House_rect (K : PySem.W.Frag) (A : Ad) : Sp := Plain (sp0_House_rect K A)
def t_House_rect (K : PySem.W.Frag) (A : Ad) : TS := (tSeq (tIfS (tOr (tB (tCall (sp_is_out K A) [] E0 (tCons (tVar 1) (tCons (tC (.int 1)) (tCons (tC (.int 8)) tNil))))) (tB (tCall (sp_is_out K A) [] E0 (tCons (tVar 2) (tCons (tC (.int 1)) (tCons (tC (.int 8)) tNil)))))) (tRet (tLst (tCons (tC (.int (-3))) tNil))) tNext) (tSeq (tIfS (tOr (tTest (tOp rGtI (tVar 1) (tFld K (tFld K (tVar 0) "field") "rows"))) (tTest (tOp rGtI (tVar 2) (tFld K (tFld K (tVar 0) "field") "columns")))) (tRet (tLst (tCons (tC (.int (-5))) tNil))) tNext) (tRet (tOp rCat (tLst (tCons (tMeth A.cField "rectangle_cost" (sp_Field_rectangle_cost K A) [] E0 (tFld K (tVar 0) "field") (tCons (tVar 1) (tCons (tVar 2) tNil))) tNil)) (tMeth A.cField "rectangle_put" (sp_Field_rectangle_put K A) [] E0 (tFld K (tVar 0) "field") (tCons (tVar 1) (tCons (tVar 2) tNil)))))))
theorem pure_House_rect {K : PySem.W.Frag} {mg : Str → Option Value} {A : Ad} (T : Txt K mg A) {vs : List V} {H : Hp} {Q : VK} {E : XK} (pl : Pl H) (h : sp0_House_rect K A vs H Q E) : t_House_rect K A { nx := fun _ H' => Fg H Q .non H', rt := Fg H Q } (start N_House_rect vs) H := by
  obtain ⟨N, h, f, a, b, rfl, ⟨wf, dx, fa, da, h1, F, Ds, nd⟩, q⟩ := h
  obtain ⟨g, dg, w, f1, f2⟩ := id F
  have r8 := g.r8
  have c8 := g.c8
  rw [HF.res_rect] at q
  refine q_when (b := !VbsyCore.isBetween a 1 8 || !VbsyCore.isBetween b 1 8) (an_or (an_B (v_out pl (val_var rfl) val_c val_c)) fun _ => an_B (v_out pl (val_var rfl) val_c val_c)) (fun hb => ?_) fun hb => ?_
  · rw [if_pos (by simpa using hb)] at q
    exact s_its rfl (Same.refl H) (gn_new pl (nw_lst (va_cons val_c va_nil) (by show 1 ≤ 100000; decide))) rfl q
  · have hb : VbsyCore.isBetween a 1 8 = true ∧ VbsyCore.isBetween b 1 8 = true := by simpa using hb
    rw [if_neg (by rw [hb.1, hb.2]; simp)] at q
    have h2 := HF.bet_iff.mp hb.1
    have h3 := HF.bet_iff.mp hb.2
    have ea : a = ((a.toNat : Nat) : Int) := by omega
    have eb : b = ((b.toNat : Nat) : Int) := by omega
    generalize a.toNat = m at ea q
    generalize b.toNat = n at eb q
    subst ea
    subst eb
    refine q_when (an_or (an_test (val_cmp (val_var rfl) (v_rows T f1 (v_field T h1 (val_var rfl))))) fun _ => an_test (val_cmp (val_var rfl) (v_cols T f1 (v_field T h1 (val_var rfl))))) (fun hb => ?_) fun hb => ?_
    · simp only [Bool.or_eq_true, decide_eq_true_eq] at hb
      rw [if_pos (by omega)] at q
      exact s_its rfl (Same.refl H) (gn_new pl (nw_lst (va_cons val_c va_nil) (by show 1 ≤ 100000; decide))) rfl q
    · simp only [Bool.or_eq_false_iff, decide_eq_false_iff_not] at hb
      rw [if_neg (by omega)] at q
      refine s_its rfl (Same.refl H) (gn_cat (gl_new (gn_new pl (nw_lst (va_cons (v_rcost pl F (v_field T h1 (val_var rfl)) (val_var rfl) (val_var rfl) (by omega) (by omega)) va_nil) (by show 1 ≤ 100000; decide)))) (fun H1 s1 pl1 => gl_new (gn_new pl1 (n_rput pl1 (F.same s1) (v_field T (s1 _ _ h1) (val_var rfl)) (val_var rfl) (val_var rfl) (by omega) (by omega)))) (by show 1 + 4 ≤ 10000000; decide)) rfl q
theorem ok_House_rect {P : Program} {w : World} {K : PySem.W.Frag} {mg : Str → Option Value} {base : Heap} {A : Ad} (T : Txt K mg A) : MOk P w K mg base CX0 A.cHouse "rect" 3 ["self", "a", "b"] (sp_House_rect K A) := by
  obtain ⟨fn, fd, hm, F⟩ := T.f_House_rect
  refine ⟨fn, fd, hm, fun_okG F sc_House_rect (fun vs H Q E h => ?_) (fun cdv A' outer s H vs Q E hr pl h => ⟨t_House_rect K A, ?_, pure_House_rect T pl h⟩), F.binds fun _ _ _ _ _ _ us hl => match us, hl with | [_, _, _], _ => rfl⟩
  · obtain ⟨_, _, _, _, _, rfl, _⟩ := h
    rfl
  · exact (pss_cons (ps_if (PW.pt (pw_or (pt_val (pe_callM (ok_is_out T) (hr.mono (by decide)) rfl (pa_cons (pv 1) (pa_cons pe_int (pa_cons pe_int pa_nil))))) (pw_or1 (pt_val (pe_callM (ok_is_out T) (hr.mono (by decide)) rfl (pa_cons (pv 2) (pa_cons pe_int (pa_cons pe_int pa_nil)))))))) (pss_one (ps_ret (pe_lst (pa_cons (pe_gi rfl T.g_OUT_OF_RANGE) pa_nil)))) pss_nil) (pss_cons (ps_if (PW.pt (pw_or (pt_cmpR op_gt (pv 1) (pe_fld (pe_fld (pv 0) rfl) rfl) (nomark _)) (pw_or1 (pt_cmpR op_gt (pv 2) (pe_fld (pe_fld (pv 0) rfl) rfl) (nomark _))))) (pss_one (ps_ret (pe_lst (pa_cons (pe_gi rfl T.g_NO_DAY) pa_nil)))) pss_nil) (pss_one (ps_ret (pe_op op_cat (pe_lst (pa_cons (pe_methM (pe_fld (pv 0) rfl) T.c_Field (ok_Field_rectangle_cost T) (hr.mono (by decide)) (pa_cons (pv 1) (pa_cons (pv 2) pa_nil))) pa_nil)) (pe_methM (pe_fld (pv 0) rfl) T.c_Field (ok_Field_rectangle_put T) (hr.mono (by decide)) (pa_cons (pv 1) (pa_cons (pv 2) pa_nil))))))))
def sp0_House_best (K : PySem.W.Frag) (A : Ad) : Sp := fun vs H Q _ => ∃ (N : Addr → Prop) (h : Addr) (f : Vbsyae.Field) (n : Int), vs = [.ref h, .int n] ∧ HouseAt A N H h f ∧ ∀ p, H p = none → Q (.ref p) (upd H p (.lst (its (HF.res f (.best n)).2)))
abbrev sp_House_best (K : PySem.W.Frag) (A : Ad) : Sp := Plain (sp0_House_best K A)
def t_House_best (K : PySem.W.Frag) (A : Ad) : TS := (tSeq (tIfS (tB (tCall (sp_is_out K A) [] E0 (tCons (tVar 1) (tCons (tC (.int 0)) (tCons (tC (.int 100)) tNil))))) (tRet (tLst (tCons (tC (.int (-3))) tNil))) tNext) (tSeq (tAsg (tMeth A.cField "greatest" (sp_Field_greatest K A) [] E0 (tFld K (tVar 0) "field") (tCons (tVar 1) tNil)) (gName 2)) (tSeq (tIfS (tTest (tOp rEq (tCB (cLen K) (tCons (tVar 2) tNil)) (tC (.int 0)))) (tRet (tLst (tCons (tC (.int 0)) tNil))) tNext) (tSeq (tAsg (tVar 2) (gLst K 2 (gCons (gName 3) (gCons (gName 4) gNil)))) (tRet (tOp rCat (tLst (tCons (tC (.int 1)) (tCons (tOp rMulI (tVar 3) (tVar 4)) (tCons (tMeth A.cField "rectangle_cost" (sp_Field_rectangle_cost K A) [] E0 (tFld K (tVar 0) "field") (tCons (tVar 3) (tCons (tVar 4) tNil))) tNil)))) (tMeth A.cField "rectangle_put" (sp_Field_rectangle_put K A) [] E0 (tFld K (tVar 0) "field") (tCons (tVar 3) (tCons (tVar 4) tNil)))))))))
theorem pure_House_best {K : PySem.W.Frag} {mg : Str → Option Value} {A : Ad} (T : Txt K mg A) {vs : List V} {H : Hp} {Q : VK} {E : XK} (pl : Pl H) (h : sp0_House_best K A vs H Q E) : t_House_best K A { nx := fun _ H' => Fg H Q .non H', rt := Fg H Q } (start N_House_best vs) H := by
  obtain ⟨N, h, f, n, rfl, ⟨wf, dx, fa, da, h1, F, Ds, nd⟩, q⟩ := h
  obtain ⟨g, dg, w, f1, f2⟩ := id F
  have r8 := g.r8
  have c8 := g.c8
  rw [HF.res_best] at q
  refine q_when (an_B (v_out pl (val_var rfl) val_c val_c)) (fun hb => ?_) fun hb => ?_
  · rw [if_pos (by simpa using hb)] at q
    exact s_its rfl (Same.refl H) (gn_new pl (nw_lst (va_cons val_c va_nil) (by show 1 ≤ 100000; decide))) rfl q
  · have hb : VbsyCore.isBetween n 0 100 = true := by simpa using hb
    rw [if_neg (by rw [hb]; simp)] at q
    have h2 := HF.bet_iff.mp hb
    have en : n = ((n.toNat : Nat) : Int) := by omega
    generalize n.toNat = m at en q
    subst en
    have hle := HF.best_le f m
    refine q_setN (nw_meth (v_field T h1 (val_var rfl)) f1 no_F (va_cons (val_var rfl) va_nil) fun Q q => ⟨pl, fa, f, m, rfl, F, q⟩) fun p hp => ?_
    have s1 := same_new (o := .lst (nts (bestL f m))) hp
    have pl1 : Pl (upd H p (.lst (nts (bestL f m)))) := pl.upd rfl
    refine q_when (b := decide ((Vbsyae.best f m).1 = 0)) (an_test (val_is (val_eqI (val_len (val_var rfl) (SqL.of upd_same)) val_c) ?_)) (fun hb => ?_) fun hb => ?_
    · congr 1
      rw [len_nts]
      unfold bestL
      by_cases h0 : (Vbsyae.best f m).1 = 0
      · rw [if_pos h0]; simp [h0]
      · rw [if_neg h0]; simp [h0]
    · rw [if_pos (of_decide_eq_true hb)] at q
      exact s_its rfl s1 (gn_new pl1 (nw_lst (va_cons val_c va_nil) (by show 1 ≤ 100000; decide))) rfl q
    · have h0 := of_decide_eq_false hb
      rw [if_neg h0] at q
      have eb : nts (bestL f m) = [V.int (((Vbsyae.best f m).1 : Nat) : Int), V.int (((Vbsyae.best f m).2 : Nat) : Int)] := by
        unfold bestL
        rw [if_neg h0]
        rfl
      refine q_unL (val_var rfl) (SqL.of (upd_same.trans (by rw [eb]))) ?_
      generalize (Vbsyae.best f m).1 = x at hle q
      generalize (Vbsyae.best f m).2 = y at hle q
      refine s_its rfl s1 (gn_cat (gl_new (gn_new pl1 (nw_lst (va_cons val_c (va_cons (val_is (val_mul (val_var rfl) (val_var rfl) (.inl (by omega))) rfl) (va_cons (v_rcost pl1 (F.same s1) (v_field T (s1 _ _ h1) (val_var rfl)) (val_var rfl) (val_var rfl) (by omega) (by omega)) va_nil))) (by show 3 ≤ 100000; decide)))) (fun H2 s2 pl2 => gl_new (gn_new pl2 (n_rput pl2 (F.same (s1.trans s2)) (v_field T (s2 _ _ (s1 _ _ h1)) (val_var rfl)) (val_var rfl) (val_var rfl) hle.1 hle.2.1))) (by show 3 + 4 ≤ 10000000; decide)) ?_ q
      unfold its
      rw [List.map_append]
      rfl
theorem ok_House_best {P : Program} {w : World} {K : PySem.W.Frag} {mg : Str → Option Value} {base : Heap} {A : Ad} (T : Txt K mg A) : MOk P w K mg base CX0 A.cHouse "best" 4 ["self", "h"] (sp_House_best K A) := by
  obtain ⟨fn, fd, hm, F⟩ := T.f_House_best
  refine ⟨fn, fd, hm, fun_okG F sc_House_best (fun vs H Q E h => ?_) (fun cdv A' outer s H vs Q E hr pl h => ⟨t_House_best K A, ?_, pure_House_best T pl h⟩), F.binds fun _ _ _ _ _ _ us hl => match us, hl with | [_, _], _ => rfl⟩
  · obtain ⟨_, _, _, _, rfl, _⟩ := h
    rfl
  · exact (pss_cons (ps_if (pt_val (pe_callM (ok_is_out T) (hr.mono (by decide)) rfl (pa_cons (pv 1) (pa_cons pe_int (pa_cons pe_int pa_nil))))) (pss_one (ps_ret (pe_lst (pa_cons (pe_gi rfl T.g_OUT_OF_RANGE) pa_nil)))) pss_nil) (pss_cons (ps_set (i := 2) sc_House_best.nd rfl (Or.inl rfl) (pe_methM (pe_fld (pv 0) rfl) T.c_Field (ok_Field_greatest T) (hr.mono (by decide)) (pa_cons (pv 1) pa_nil))) (pss_cons (ps_if (pt_cmpR op_eq (pe_callB call_len_seq rfl T.b_len PySem.boot_len (pa_cons (pv 2) pa_nil)) pe_int (nomark _)) (pss_one (ps_ret (pe_lst (pa_cons pe_int pa_nil)))) pss_nil) (pss_cons (ps_asg (pv 2) (pg_lst rfl (pgs_cons (pg_name (i := 3) sc_House_best.nd rfl (Or.inl rfl)) (pgs_cons (pg_name (i := 4) sc_House_best.nd rfl (Or.inl rfl)) pgs_nil)))) (pss_one (ps_ret (pe_op op_cat (pe_lst (pa_cons pe_int (pa_cons (pe_op op_mul (pv 3) (pv 4)) (pa_cons (pe_methM (pe_fld (pv 0) rfl) T.c_Field (ok_Field_rectangle_cost T) (hr.mono (by decide)) (pa_cons (pv 3) (pa_cons (pv 4) pa_nil))) pa_nil)))) (pe_methM (pe_fld (pv 0) rfl) T.c_Field (ok_Field_rectangle_put T) (hr.mono (by decide)) (pa_cons (pv 3) (pa_cons (pv 4) pa_nil))))))))))
def sp0_House_least (K : PySem.W.Frag) (A : Ad) : Sp := fun vs H Q _ => ∃ (N : Addr → Prop) (h : Addr) (f : Vbsyae.Field) (n : Int), vs = [.ref h, .int n] ∧ HouseAt A N H h f ∧ ∀ p, H p = none → Q (.ref p) (upd H p (.lst (its (HF.res f (.least n)).2)))
abbrev sp_House_least (K : PySem.W.Frag) (A : Ad) : Sp := Plain (sp0_House_least K A)
def t_House_least (K : PySem.W.Frag) (A : Ad) : TS := (tSeq (tIfS (tB (tCall (sp_is_out K A) [] E0 (tCons (tVar 1) (tCons (tC (.int 1)) (tCons (tC (.int 64)) tNil))))) (tRet (tLst (tCons (tC (.int (-3))) tNil))) tNext) (tSeq (tAsg (tMeth A.cField "cheapest" (sp_Field_cheapest K A) [] E0 (tFld K (tVar 0) "field") (tCons (tVar 1) tNil)) (gName 2)) (tSeq (tIfS (tTest (tOp rEq (tCB (cLen K) (tCons (tVar 2) tNil)) (tC (.int 0)))) (tRet (tLst (tCons (tC (.int 0)) tNil))) tNext) (tSeq (tAsg (tVar 2) (gLst K 2 (gCons (gName 3) (gCons (gName 4) gNil)))) (tRet (tOp rCat (tLst (tCons (tC (.int 1)) (tCons (tMeth A.cField "rectangle_cost" (sp_Field_rectangle_cost K A) [] E0 (tFld K (tVar 0) "field") (tCons (tVar 3) (tCons (tVar 4) tNil))) (tCons (tOp rMulI (tVar 3) (tVar 4)) tNil)))) (tMeth A.cField "rectangle_put" (sp_Field_rectangle_put K A) [] E0 (tFld K (tVar 0) "field") (tCons (tVar 3) (tCons (tVar 4) tNil)))))))))
theorem pure_House_least {K : PySem.W.Frag} {mg : Str → Option Value} {A : Ad} (T : Txt K mg A) {vs : List V} {H : Hp} {Q : VK} {E : XK} (pl : Pl H) (h : sp0_House_least K A vs H Q E) : t_House_least K A { nx := fun _ H' => Fg H Q .non H', rt := Fg H Q } (start N_House_least vs) H := by
  obtain ⟨N, h, f, n, rfl, ⟨wf, dx, fa, da, h1, F, Ds, nd⟩, q⟩ := h
  obtain ⟨g, dg, w, f1, f2⟩ := id F
  have r8 := g.r8
  have c8 := g.c8
  rw [HF.res_least] at q
  refine q_when (an_B (v_out pl (val_var rfl) val_c val_c)) (fun hb => ?_) fun hb => ?_
  · rw [if_pos (by simpa using hb)] at q
    exact s_its rfl (Same.refl H) (gn_new pl (nw_lst (va_cons val_c va_nil) (by show 1 ≤ 100000; decide))) rfl q
  · have hb : VbsyCore.isBetween n 1 64 = true := by simpa using hb
    rw [if_neg (by rw [hb]; simp)] at q
    have h2 := HF.bet_iff.mp hb
    have en : n = ((n.toNat : Nat) : Int) := by omega
    generalize n.toNat = m at en q
    subst en
    refine q_setN (nw_meth (v_field T h1 (val_var rfl)) f1 no_F (va_cons (val_var rfl) va_nil) fun Q q => ⟨pl, fa, f, m, rfl, F, q⟩) fun p hp => ?_
    have s1 := same_new (o := .lst (nts (leastL f m))) hp
    have pl1 : Pl (upd H p (.lst (nts (leastL f m)))) := pl.upd rfl
    refine q_when (b := (Vbsyae.least f m).isNone) (an_test (val_is (val_eqI (val_len (val_var rfl) (SqL.of upd_same)) val_c) ?_)) (fun hb => ?_) fun hb => ?_
    · congr 1
      rw [len_nts]
      unfold leastL
      cases Vbsyae.least f m <;> rfl
    · rw [Option.isNone_iff_eq_none.mp hb] at q
      exact s_its rfl s1 (gn_new pl1 (nw_lst (va_cons val_c va_nil) (by show 1 ≤ 100000; decide))) rfl q
    · cases hx : Vbsyae.least f m with
      | none => rw [hx] at hb; cases hb
      | some x =>
        obtain ⟨x, y⟩ := x
        have hle := HF.least_le hx
        rw [hx] at q
        have eb : nts (leastL f m) = [V.int ((x : Nat) : Int), V.int ((y : Nat) : Int)] := by
          unfold leastL
          rw [hx]
          rfl
        refine q_unL (val_var rfl) (SqL.of (upd_same.trans (by rw [eb]))) ?_
        have hle : x ≤ f.rows ∧ y ≤ f.cols := hle
        refine s_its rfl s1 (gn_cat (gl_new (gn_new pl1 (nw_lst (va_cons val_c (va_cons (v_rcost pl1 (F.same s1) (v_field T (s1 _ _ h1) (val_var rfl)) (val_var rfl) (val_var rfl) (by omega) (by omega)) (va_cons (val_is (val_mul (val_var rfl) (val_var rfl) (.inl (by omega))) rfl) va_nil))) (by show 3 ≤ 100000; decide)))) (fun H2 s2 pl2 => gl_new (gn_new pl2 (n_rput pl2 (F.same (s1.trans s2)) (v_field T (s2 _ _ (s1 _ _ h1)) (val_var rfl)) (val_var rfl) (val_var rfl) hle.1 hle.2))) (by show 3 + 4 ≤ 10000000; decide)) ?_ q
        unfold its
        rw [List.map_append]
        rfl
theorem ok_House_least {P : Program} {w : World} {K : PySem.W.Frag} {mg : Str → Option Value} {base : Heap} {A : Ad} (T : Txt K mg A) : MOk P w K mg base CX0 A.cHouse "least" 4 ["self", "n"] (sp_House_least K A) := by
  obtain ⟨fn, fd, hm, F⟩ := T.f_House_least
  refine ⟨fn, fd, hm, fun_okG F sc_House_least (fun vs H Q E h => ?_) (fun cdv A' outer s H vs Q E hr pl h => ⟨t_House_least K A, ?_, pure_House_least T pl h⟩), F.binds fun _ _ _ _ _ _ us hl => match us, hl with | [_, _], _ => rfl⟩
  · obtain ⟨_, _, _, _, rfl, _⟩ := h
    rfl
  · exact (pss_cons (ps_if (pt_val (pe_callM (ok_is_out T) (hr.mono (by decide)) rfl (pa_cons (pv 1) (pa_cons pe_int (pa_cons pe_int pa_nil))))) (pss_one (ps_ret (pe_lst (pa_cons (pe_gi rfl T.g_OUT_OF_RANGE) pa_nil)))) pss_nil) (pss_cons (ps_set (i := 2) sc_House_least.nd rfl (Or.inl rfl) (pe_methM (pe_fld (pv 0) rfl) T.c_Field (ok_Field_cheapest T) (hr.mono (by decide)) (pa_cons (pv 1) pa_nil))) (pss_cons (ps_if (pt_cmpR op_eq (pe_callB call_len_seq rfl T.b_len PySem.boot_len (pa_cons (pv 2) pa_nil)) pe_int (nomark _)) (pss_one (ps_ret (pe_lst (pa_cons pe_int pa_nil)))) pss_nil) (pss_cons (ps_asg (pv 2) (pg_lst rfl (pgs_cons (pg_name (i := 3) sc_House_least.nd rfl (Or.inl rfl)) (pgs_cons (pg_name (i := 4) sc_House_least.nd rfl (Or.inl rfl)) pgs_nil)))) (pss_one (ps_ret (pe_op op_cat (pe_lst (pa_cons pe_int (pa_cons (pe_methM (pe_fld (pv 0) rfl) T.c_Field (ok_Field_rectangle_cost T) (hr.mono (by decide)) (pa_cons (pv 3) (pa_cons (pv 4) pa_nil))) (pa_cons (pe_op op_mul (pv 3) (pv 4)) pa_nil)))) (pe_methM (pe_fld (pv 0) rfl) T.c_Field (ok_Field_rectangle_put T) (hr.mono (by decide)) (pa_cons (pv 3) (pa_cons (pv 4) pa_nil))))))))))
end HW

namespace HW
open PySem PySem.Spec PyProof.Rows L2
def sp0_House_curve (K : PySem.W.Frag) (A : Ad) : Sp := fun vs H Q _ => ∃ (N : Addr → Prop) (h : Addr) (f : Vbsyae.Field), vs = [.ref h] ∧ HouseAt A N H h f ∧ ∀ p, H p = none → Q (.ref p) (upd H p (.lst (its (HF.res f .curve).2)))
abbrev sp_House_curve (K : PySem.W.Frag) (A : Ad) : Sp := Plain (sp0_House_curve K A)
def t_House_curve (K : PySem.W.Frag) (A : Ad) : TS := (tSeq (tAsg (tLst tNil) (gName 1)) (tSeq (tFor (iRng1 (tCons (tOp rAddI (tOp rMulI (tC (.int 2)) (tOp rAddI (tFld K (tFld K (tVar 0) "field") "rows") (tFld K (tFld K (tVar 0) "field") "columns"))) (tC (.int 1))) tNil)) (gName 2) (tSeq (tAsg (tMeth A.cField "greatest" (sp_Field_greatest K A) [] E0 (tFld K (tVar 0) "field") (tCons (tVar 2) tNil)) (gName 3)) (tIfS (tTest (tOp rEq (tCB (cLen K) (tCons (tVar 3) tNil)) (tC (.int 0)))) (tDrop (tBM K "list" rAppend (tVar 1) (tCons (tC (.int 0)) tNil))) (tDrop (tBM K "list" rAppend (tVar 1) (tCons (tOp rMulI (tOp (rIxL K) (tVar 3) (tC (.int 0))) (tOp (rIxL K) (tVar 3) (tC (.int 1)))) tNil)))))) (tRet (tOp rCat (tLst (tCons (tCB (cLen K) (tCons (tVar 1) tNil)) tNil)) (tVar 1)))))
theorem pure_House_curve {K : PySem.W.Frag} {mg : Str → Option Value} {A : Ad} (T : Txt K mg A) {vs : List V} {H : Hp} {Q : VK} {E : XK} (pl : Pl H) (h : sp0_House_curve K A vs H Q E) : t_House_curve K A { nx := fun _ H' => Fg H Q .non H', rt := Fg H Q } (start N_House_curve vs) H := by
  obtain ⟨N, h, f, rfl, ⟨wf, dx, fa, da, h1, F, Ds, nd⟩, q⟩ := h
  obtain ⟨g, dg, w, f1, f2⟩ := id F
  have r8 := g.r8
  have c8 := g.c8
  refine q_setN (xs := []) (nw_lst va_nil (Nat.zero_le _)) fun p hp => ?_
  have s0 := same_new (o := .lst []) hp
  refine q_forR1 (2 * (f.rows + f.cols) + 1) (va_cons (val_is (val_add (val_mul val_c (val_add (v_rows T (s0 _ _ f1) (v_field T (s0 _ _ h1) (val_var rfl))) (v_cols T (s0 _ _ f1) (v_field T (s0 _ _ h1) (val_var rfl)))) (.inl (by omega))) val_c) rfl) va_nil) (by omega) (by omega) (fun i σ' H' => ∃ v2 v3, σ' = [some (.ref h), some (.ref p), v2, v3] ∧ Same H H' ∧ Pl H' ∧ H' p = some (.lst (nts ((List.range i).map fun h => (Vbsyae.best f h).1 * (Vbsyae.best f h).2)))) ?_ ?_ ?_
  · exact ⟨none, none, rfl, s0, pl.upd rfl, upd_same⟩
  · rintro i σ' H' hi ⟨v2, v3, rfl, s1, pl1, e1⟩
    have hle := HF.best_le f i
    refine q_setN (nw_meth (v_field T (s1 _ _ h1) (val_var rfl)) (s1 _ _ f1) no_F (va_cons (val_var rfl) va_nil) fun Q q => ⟨pl1, fa, f, i, rfl, F.same s1, q⟩) fun u hu => ?_
    have s2 := same_new (o := .lst (nts (bestL f i))) hu
    have fin : ∀ v : Nat, v = (Vbsyae.best f i).1 * (Vbsyae.best f i).2 → ∃ v2 v3, [some (V.ref h), some (.ref p), some (.int ((i : Nat) : Int)), some (.ref u)] = [some (V.ref h), some (.ref p), v2, v3] ∧ Same H (upd (upd H' u (.lst (nts (bestL f i)))) p (.lst (nts ((List.range i).map fun h => (Vbsyae.best f h).1 * (Vbsyae.best f h).2) ++ [V.int (v : Int)]))) ∧ Pl (upd (upd H' u (.lst (nts (bestL f i)))) p (.lst (nts ((List.range i).map fun h => (Vbsyae.best f h).1 * (Vbsyae.best f h).2) ++ [V.int (v : Int)]))) ∧ (upd (upd H' u (.lst (nts (bestL f i)))) p (.lst (nts ((List.range i).map fun h => (Vbsyae.best f h).1 * (Vbsyae.best f h).2) ++ [V.int (v : Int)]))) p = some (.lst (nts ((List.range (i + 1)).map fun h => (Vbsyae.best f h).1 * (Vbsyae.best f h).2))) := fun v hv => by
      refine ⟨_, _, rfl, same_upd (s1.trans s2) hp, (pl1.upd rfl).upd rfl, ?_⟩
      rw [upd_same, hv, app_nts, List.range_succ, List.map_append]
      rfl
    have hz : (nts ((List.range i).map fun h => (Vbsyae.best f h).1 * (Vbsyae.best f h).2)).length ≤ 1000000 := by rw [len_nts, List.length_map, List.length_range]; omega
    refine s_if (b := decide ((Vbsyae.best f i).1 = 0)) (an_test (val_is (val_eqI (val_len (val_var rfl) (SqL.of upd_same)) val_c) ?_)) (fun hb => ?_) fun hb => ?_
    · congr 1
      rw [len_nts]
      unfold bestL
      by_cases h0 : (Vbsyae.best f i).1 = 0
      · rw [if_pos h0]; simp [h0]
      · rw [if_neg h0]; simp [h0]
    · have h0 := of_decide_eq_true hb
      exact s_app (s2 _ _ e1) (val_var rfl) val_c hz (fin 0 (by rw [h0, Nat.zero_mul]))
    · have h0 := of_decide_eq_false hb
      have eb : nts (bestL f i) = [V.int (((Vbsyae.best f i).1 : Nat) : Int), V.int (((Vbsyae.best f i).2 : Nat) : Int)] := by
        unfold bestL
        rw [if_neg h0]
        rfl
      have hq : SqL K (upd H' u (.lst (nts (bestL f i)))) u [V.int (((Vbsyae.best f i).1 : Nat) : Int), V.int (((Vbsyae.best f i).2 : Nat) : Int)] := SqL.of (upd_same.trans (by rw [eb]))
      exact s_app (s2 _ _ e1) (val_var rfl) (val_is (val_mul (val_ixL (i := 0) (val_var rfl) val_c hq (atI_nat (j := 0) rfl)) (val_ixL (i := 1) (val_var rfl) val_c hq (atI_nat (j := 1) rfl)) (.inl (by omega))) (by push_cast; rfl)) hz (fin _ rfl)
  · rintro σ' H' ⟨v2, v3, rfl, s1, pl1, e1⟩
    refine s_its rfl s1 (gn_cat (gl_new (gn_new pl1 (nw_lst (va_cons (val_len (val_var rfl) (SqL.of e1)) va_nil) (by show 1 ≤ 100000; decide)))) (fun H2 s2 pl2 => gl_val pl2 (val_var rfl) (s2 _ _ e1)) (by
      rw [len_nts, List.length_map, List.length_range]
      show 1 + _ ≤ _
      omega)) ?_ q
    show _ = its (Vbsyae.listRow _)
    unfold Vbsyae.listRow
    rw [len_nts]
    show _ = V.int _ :: its (VbsyCore.ints _)
    rw [its_ints]
    rfl
theorem ok_House_curve {P : Program} {w : World} {K : PySem.W.Frag} {mg : Str → Option Value} {base : Heap} {A : Ad} (T : Txt K mg A) : MOk P w K mg base CX0 A.cHouse "curve" 4 ["self"] (sp_House_curve K A) := by
  obtain ⟨fn, fd, hm, F⟩ := T.f_House_curve
  refine ⟨fn, fd, hm, fun_okG F sc_House_curve (fun vs H Q E h => ?_) (fun cdv A' outer s H vs Q E hr pl h => ⟨t_House_curve K A, ?_, pure_House_curve T pl h⟩), F.binds fun _ _ _ _ _ _ us hl => match us, hl with | [_], _ => rfl⟩
  · obtain ⟨_, _, _, rfl, _⟩ := h
    rfl
  · exact (pss_cons (ps_set (i := 1) sc_House_curve.nd rfl (Or.inl rfl) (pe_lst pa_nil)) (pss_cons (ps_for PassesOwn.never rfl (pi_range1 rfl T.b_range (pa_cons (pe_op op_add (pe_op op_mul pe_int (pe_op op_add (pe_fld (pe_fld (pv 0) rfl) rfl) (pe_fld (pe_fld (pv 0) rfl) rfl))) pe_int) pa_nil)) (pg_name (i := 2) sc_House_curve.nd rfl (Or.inl rfl)) (pss_cons (ps_set (i := 3) sc_House_curve.nd rfl (Or.inl rfl) (pe_methM (pe_fld (pv 0) rfl) T.c_Field (ok_Field_greatest T) (hr.mono (by decide)) (pa_cons (pv 2) pa_nil))) (pss_one (ps_if (pt_cmpR op_eq (pe_callB call_len_seq rfl T.b_len PySem.boot_len (pa_cons (pv 3) pa_nil)) pe_int (nomark _)) (pss_one (ps_expr (pe_bm PySem.F.plainAttrs_list PySem.F.slot_list_append PySem.F.type_list_append mt_append (pv 1) (pa_cons pe_int pa_nil)))) (pss_one (ps_expr (pe_bm PySem.F.plainAttrs_list PySem.F.slot_list_append PySem.F.type_list_append mt_append (pv 1) (pa_cons (pe_op op_mul (pe_ix ix_list (pv 3) pe_int (fun _ _ => rfl)) (pe_ix ix_list (pv 3) pe_int (fun _ _ => rfl))) pa_nil)))))))) (pss_one (ps_ret (pe_op op_cat (pe_lst (pa_cons (pe_callB call_len_seq rfl T.b_len PySem.boot_len (pa_cons (pv 1) pa_nil)) pa_nil)) (pv 1))))))
def sp0_House_rounded (K : PySem.W.Frag) (A : Ad) : Sp := fun vs H Q _ => ∃ (N : Addr → Prop) (h a : Addr) (f : Vbsyae.Field) (l : List Int), vs = [.ref h, .ref a] ∧ HouseAt A N H h f ∧ H a = some (.lst (its l)) ∧ l.length ≤ 2000 ∧ ∀ p, H p = none → Q (.ref p) (upd H p (.lst (its (HF.res f (.rounded l)).2)))
abbrev sp_House_rounded (K : PySem.W.Frag) (A : Ad) : Sp := Plain (sp0_House_rounded K A)
def t_House_rounded (K : PySem.W.Frag) (A : Ad) : TS := (tSeq (tIfS (tNot (tB (tMeth A.cHouse "are_cells" (sp_House_are_cells K A) [] E0 (tVar 0) (tCons (tVar 1) tNil)))) (tRet (tLst (tCons (tC (.int (-4))) tNil))) tNext) (tSeq (tIfS (tTest (tOp rEq (tCB (cLen K) (tCons (tVar 1) tNil)) (tC (.int 0)))) (tRet (tLst (tCons (tC (.int 0)) (tCons (tC (.int 0)) (tCons (tC (.int 0)) tNil))))) tNext) (tSeq (tAsg (tMeth A.cField "rounded" (sp_Field_rounded K A) [] E0 (tFld K (tVar 0) "field") (tCons (tVar 1) tNil)) (gLst K 2 (gCons (gName 2) (gCons (gName 3) gNil)))) (tRet (tLst (tCons (tVar 2) (tCons (tVar 3) (tCons (tMeth A.cField "rectangle_cost" (sp_Field_rectangle_cost K A) [] E0 (tFld K (tVar 0) "field") (tCons (tVar 2) (tCons (tVar 3) tNil))) tNil))))))))
theorem pure_House_rounded {K : PySem.W.Frag} {mg : Str → Option Value} {A : Ad} (T : Txt K mg A) {vs : List V} {H : Hp} {Q : VK} {E : XK} (pl : Pl H) (h : sp0_House_rounded K A vs H Q E) : t_House_rounded K A { nx := fun _ H' => Fg H Q .non H', rt := Fg H Q } (start N_House_rounded vs) H := by
  obtain ⟨N, h, a, f, l, rfl, HA, ha, hz, q⟩ := h
  obtain ⟨wf, dx, fa, da, h1, F, Ds, nd⟩ := id HA
  obtain ⟨g, dg, w, f1, f2⟩ := id F
  have r8 := g.r8
  have c8 := g.c8
  rw [HF.res_rounded] at q
  refine q_when (an_not (an_B (v_cells pl HA ha hz (val_var rfl) (val_var rfl)))) (fun hb => ?_) fun hb => ?_
  · rw [if_neg (by simpa using hb)] at q
    exact s_its rfl (Same.refl H) (gn_new pl (nw_lst (va_cons val_c va_nil) (by show 1 ≤ 100000; decide))) rfl q
  · have hb : HF.okCells f l = true := by simpa using hb
    rw [if_pos hb] at q
    obtain ⟨e1, e2, e3, e4⟩ := HF.okCells_facts g hb
    have ea : H a = some (.lst (nts (l.map Int.toNat))) := by rw [ha, ← its_nts, ← e1]
    generalize l.map Int.toNat = m at e1 e2 e3 e4 ea q
    have hrd := HF.rounded_le f m
    refine q_when (b := decide (m.length = 0)) (an_test (val_is (val_eqI (val_len (val_var rfl) (SqL.of ea)) val_c) (by rw [len_nts]; congr 1; simp only [Int.natCast_eq_zero]))) (fun hb => ?_) fun hb => ?_
    · have hm : m = [] := List.length_eq_zero_iff.mp (of_decide_eq_true hb)
      subst hm
      rw [HF.rounded_nil g, show Vbsyae.rectCost f 0 0 = 0 by simp [Vbsyae.rectCost]] at q
      exact s_its rfl (Same.refl H) (gn_new pl (nw_lst (va_cons val_c (va_cons val_c (va_cons val_c va_nil))) (by show 3 ≤ 100000; decide))) rfl q
    · refine q_unLN (nw_meth (xs := [V.int (((Vbsyae.rounded f m).1 : Nat) : Int), V.int (((Vbsyae.rounded f m).2 : Nat) : Int)]) (v_field T h1 (val_var rfl)) f1 no_F (va_cons (val_var rfl) va_nil) fun Q q => ⟨pl, fa, a, f, m, rfl, F, SqL.of ea, q⟩) fun p hp => ?_
      have s1 := same_new (o := .lst [V.int (((Vbsyae.rounded f m).1 : Nat) : Int), V.int (((Vbsyae.rounded f m).2 : Nat) : Int)]) hp
      have pl1 : Pl (upd H p (.lst [V.int (((Vbsyae.rounded f m).1 : Nat) : Int), V.int (((Vbsyae.rounded f m).2 : Nat) : Int)])) := pl.upd rfl
      exact s_its rfl s1 (gn_new pl1 (nw_lst (va_cons (val_var rfl) (va_cons (val_var rfl) (va_cons (v_rcost pl1 (F.same s1) (v_field T (s1 _ _ h1) (val_var rfl)) (val_var rfl) (val_var rfl) (by omega) (by omega)) va_nil))) (by show 3 ≤ 100000; decide))) rfl q
theorem ok_House_rounded {P : Program} {w : World} {K : PySem.W.Frag} {mg : Str → Option Value} {base : Heap} {A : Ad} (T : Txt K mg A) : MOk P w K mg base CX0 A.cHouse "rounded" 4 ["self", "row"] (sp_House_rounded K A) := by
  obtain ⟨fn, fd, hm, F⟩ := T.f_House_rounded
  refine ⟨fn, fd, hm, fun_okG F sc_House_rounded (fun vs H Q E h => ?_) (fun cdv A' outer s H vs Q E hr pl h => ⟨t_House_rounded K A, ?_, pure_House_rounded T pl h⟩), F.binds fun _ _ _ _ _ _ us hl => match us, hl with | [_, _], _ => rfl⟩
  · obtain ⟨_, _, _, _, _, rfl, _⟩ := h
    rfl
  · exact (pss_cons (ps_if (pt_not (pt_val (pe_methM (pv 0) T.c_House (ok_House_are_cells T) (hr.mono (by decide)) (pa_cons (pv 1) pa_nil)))) (pss_one (ps_ret (pe_lst (pa_cons (pe_gi rfl T.g_NO_LIST) pa_nil)))) pss_nil) (pss_cons (ps_if (pt_cmpR op_eq (pe_callB call_len_seq rfl T.b_len PySem.boot_len (pa_cons (pv 1) pa_nil)) pe_int (nomark _)) (pss_one (ps_ret (pe_lst (pa_cons pe_int (pa_cons pe_int (pa_cons pe_int pa_nil)))))) pss_nil) (pss_cons (ps_asg (pe_methM (pe_fld (pv 0) rfl) T.c_Field (ok_Field_rounded T) (hr.mono (by decide)) (pa_cons (pv 1) pa_nil)) (pg_lst rfl (pgs_cons (pg_name (i := 2) sc_House_rounded.nd rfl (Or.inl rfl)) (pgs_cons (pg_name (i := 3) sc_House_rounded.nd rfl (Or.inl rfl)) pgs_nil)))) (pss_one (ps_ret (pe_lst (pa_cons (pv 2) (pa_cons (pv 3) (pa_cons (pe_methM (pe_fld (pv 0) rfl) T.c_Field (ok_Field_rectangle_cost T) (hr.mono (by decide)) (pa_cons (pv 2) (pa_cons (pv 3) pa_nil))) pa_nil)))))))))
def sp_House_moves (K : PySem.W.Frag) (A : Ad) : Sp := fun vs H Q _ => ∃ (N : Addr → Prop) (h : Addr) (f : Vbsyae.Field), vs = [.ref h] ∧ Pl H ∧ HouseAt A N H h f ∧ ∀ m H', H m = none → Same H H' → Pl H' → MovesAt A H' m f → Q (.ref m) H'
def t_House_moves (K : PySem.W.Frag) (A : Ad) : TS := (tRet (tMake A.cMoves (sp_Moves_init K A) [] E0 (tCons (tFld K (tVar 0) "field") (tCons (tFld K (tVar 0) "days") tNil))))
theorem pure_House_moves {K : PySem.W.Frag} {mg : Str → Option Value} {A : Ad} (T : Txt K mg A) {vs : List V} {H : Hp} {Q : VK} {E : XK} (h : sp_House_moves K A vs H Q E) : t_House_moves K A { nx := fun _ H' => Q .non H', rt := Q } (start N_House_moves vs) H := by
  obtain ⟨N, h, f, rfl, pl, ⟨wf, dx, fa, da, h1, F, Ds, nd⟩, q⟩ := h
  refine s_retMk (va_cons (v_field T h1 (val_var rfl)) (va_cons (v_days T h1 (val_var rfl)) va_nil)) fun x dy hx hdy hne => ?_
  have s1 : Same H (upd (upd H dy (.own x)) x (.ins A.cMoves dy [])) := same_upd (same_upd (Same.refl H) hdy) hx
  exact ⟨x, dy, fa, da, f, rfl, upd_same, (pl.upd rfl).upd rfl, F.same s1, Ds.same s1, wf, fun H' b pl' M => ⟨rfl, q x H' hx (fun c o e => b c o (s1 _ _ e) (ne_of_none e hx)) pl' M⟩⟩
theorem ok_House_moves {P : Program} {w : World} {K : PySem.W.Frag} {mg : Str → Option Value} {base : Heap} {A : Ad} (T : Txt K mg A) : MOk P w K mg base CX0 A.cHouse "moves" 7 ["self"] (sp_House_moves K A) := by
  obtain ⟨fn, fd, hm, F⟩ := T.f_House_moves
  refine ⟨fn, fd, hm, F.ok sc_House_moves (fun vs H Q E h => ?_) (fun cdv A' outer s H vs Q E hr h => ⟨t_House_moves K A, ?_, pure_House_moves T h⟩), F.binds fun _ _ _ _ _ _ us hl => match us, hl with | [_], _ => rfl⟩
  · obtain ⟨_, _, _, rfl, _⟩ := h
    rfl
  · exact (pss_one (ps_ret (pe_makeM (ok_Moves_init T) (hr.mono (by decide)) rfl (pa_cons (pe_fld (pv 0) rfl) (pa_cons (pe_fld (pv 0) rfl) pa_nil)))))
section
variable {K : PySem.W.Frag} {A : Ad} {N : Addr → Prop} {σ : L2.St} {H : Hp} {ta tb tc te : TE} {h a b : Addr} {f : Vbsyae.Field} {D : Ends} {t2 : TS} {i : Nat}
theorem r_moves (Q : VK) (pl : Pl H) (HA : HouseAt A N H h f) (hv : Val ta σ H (.ref h)) (q : ∀ m H', H m = none → Same H H' → Pl H' → MovesAt A H' m f → Q (.ref m) H') : tMeth A.cHouse "moves" (sp_House_moves K A) [] E0 ta tNil σ H Q := by
  obtain ⟨wf, dx, fa, da, e1, F, Ds, nd⟩ := id HA
  exact val_meth_nd hv e1 no_H va_nil ⟨N, h, f, rfl, pl, HA, q⟩
theorem q_moves (pl : Pl H) (HA : HouseAt A N H h f) (hv : Val ta σ H (.ref h)) (q : ∀ m H', H m = none → Same H H' → Pl H' → MovesAt A H' m f → t2 D (σ.set i (some (.ref m))) H') : tSeq (tAsg (tMeth A.cHouse "moves" (sp_House_moves K A) [] E0 ta tNil) (gName i)) t2 D σ H := r_moves _ pl HA hv q
theorem v_carried {m n : Nat} (pl : Pl H) (M : MovesAt A H a f) (h : Val ta σ H (.ref a)) (hb : Val tb σ H (.int (m : Int))) (hc : Val tc σ H (.int (n : Int))) (hm : m < f.days.length) (hn : n < f.days.length) : Val (tMeth A.cMoves "carried" (sp_Moves_carried K A) [] E0 ta (tCons tb (tCons tc tNil))) σ H (.int (Vbsyae.carry f m n : Int)) := by
  obtain ⟨_, dx, p, r, rs, h1, h2, h3, h4⟩ := id M
  exact val_meth h h1 no_M (va_cons hb (va_cons hc va_nil)) fun Q q => ⟨pl, a, f, m, n, rfl, M, hm, hn, q⟩
theorem v_staying {m n : Nat} (pl : Pl H) (M : MovesAt A H a f) (h : Val ta σ H (.ref a)) (hb : Val tb σ H (.int (m : Int))) (hc : Val tc σ H (.int (n : Int))) (hm : m < f.days.length) (hn : n < f.days.length) : Val (tMeth A.cMoves "staying" (sp_Moves_staying K A) [] E0 ta (tCons tb (tCons tc tNil))) σ H (.int (HF.stay f m n : Int)) := by
  obtain ⟨_, dx, p, r, rs, h1, h2, h3, h4⟩ := id M
  exact val_meth h h1 no_M (va_cons hb (va_cons hc va_nil)) fun Q q => ⟨pl, a, f, m, n, rfl, M, hm, hn, q⟩
theorem n_border (pl : Pl H) (M : MovesAt A H a f) (hn : f.days.length ≤ 7) (h : Val ta σ H (.ref a)) : New (tMeth A.cMoves "best_order" (sp_Moves_best_order K A) [] E0 ta tNil) σ H (nts (Vbsyae.bestOrder f)) := by
  obtain ⟨_, dx, p, r, rs, h1, h2, h3, h4⟩ := id M
  exact nw_meth h h1 no_M va_nil fun Q q => ⟨pl, a, f, rfl, M, hn, q⟩
theorem g_cin {l : List Nat} (M : MovesAt A H a f) (h : Val ta σ H (.ref a)) (hb : GNew tb σ H (nts l)) (hl : ∀ d ∈ l, d < f.days.length) : GVal (tMeth A.cMoves "carried_in" (sp_Moves_carried_in K A) [] E0 ta (tCons tb tNil)) σ H (.int (HF.cin f l : Int)) := fun Q q => by
  obtain ⟨_, dx, p, r, rs, h1, h2, h3, h4⟩ := id M
  exact h _ ⟨a, dx, _, rfl, h1, no_M, hb _ fun u H1 hu s1 pl1 e1 => ⟨pl1, a, u, f, l, rfl, M.same s1, SqL.of e1, hl, q H1 s1 pl1⟩⟩
end
def sp0_House_plan (K : PySem.W.Frag) (A : Ad) : Sp := fun vs H Q _ => ∃ (N : Addr → Prop) (h : Addr) (f : Vbsyae.Field), vs = [.ref h] ∧ HouseAt A N H h f ∧ ∀ p, H p = none → Q (.ref p) (upd H p (.lst (its (HF.res f .plan).2)))
abbrev sp_House_plan (K : PySem.W.Frag) (A : Ad) : Sp := Plain (sp0_House_plan K A)
def t_House_plan (K : PySem.W.Frag) (A : Ad) : TS := (tSeq (tAsg (tMeth A.cHouse "moves" (sp_House_moves K A) [] E0 (tVar 0) tNil) (gName 1)) (tSeq (tAsg (tLst (tCons (tCB (cLen K) (tCons (tFld K (tVar 0) "days") tNil)) tNil)) (gName 2)) (tSeq (tFor (iEnum K (tCons (tFld K (tVar 0) "days") tNil)) (gTup K 2 (gCons (gName 3) (gCons (gName 4) gNil))) (tSeq (tAsg (tOp (rIxL K) (tFld K (tVar 1) "sizes") (tVar 3)) (gName 5)) (tSeq (tIfS (tTest (tOp rGtI (tVar 3) (tC (.int 0)))) (tAsg (tMeth A.cMoves "carried" (sp_Moves_carried K A) [] E0 (tVar 1) (tCons (tOp rSubI (tVar 3) (tC (.int 1))) (tCons (tVar 3) tNil))) (gName 5)) tNext) (tAsg (tOp rCat (tVar 2) (tLst (tCons (tOp rMulI (tFld K (tVar 4) "high") (tFld K (tVar 4) "wide")) (tCons (tOp (rIxL K) (tFld K (tVar 1) "sizes") (tVar 3)) (tCons (tVar 5) tNil))))) (gName 2))))) (tRet (tVar 2)))))
theorem pure_House_plan {K : PySem.W.Frag} {mg : Str → Option Value} {A : Ad} (T : Txt K mg A) {vs : List V} {H : Hp} {Q : VK} {E : XK} (pl : Pl H) (h : sp0_House_plan K A vs H Q E) : t_House_plan K A { nx := fun _ H' => Fg H Q .non H', rt := Fg H Q } (start N_House_plan vs) H := by
  obtain ⟨N, h, f, rfl, HA, q⟩ := h
  obtain ⟨wf, dx, fa, da, h1, F, Ds, nd⟩ := id HA
  obtain ⟨ld, l1, l2, l3⟩ := id Ds
  have hll : ld.length = f.days.length := by rw [← l1, List.length_map]
  have few := wf.few
  refine q_moves pl HA (val_var rfl) fun m H1 hm s1 pl1 M => ?_
  obtain ⟨_, dm, pm, rm, rsm, m1, m2, m3, m4⟩ := id M
  refine q_setN (nw_lst (va_cons (val_is (val_len (v_days T (s1 _ _ h1) (val_var rfl)) (SqL.of (s1 _ _ l2))) (by rw [List.length_map, hll])) va_nil) (by show 1 ≤ 100000; decide)) fun p hp => ?_
  have s2 := same_new (o := .lst [V.int (f.days.length : Int)]) hp
  have rowlen : ∀ i, ((List.range i).flatMap fun d => VbsyCore.ints [(Vbsyae.dayCells f d).length, (Vbsyae.places f d).length, if d = 0 then (Vbsyae.places f d).length else Vbsyae.carry f (d - 1) d]).length = 3 * i := fun i => by
    induction i with
    | zero => rfl
    | succ i ih =>
      rw [List.range_succ, List.flatMap_append, List.length_append, ih]
      show _ + 3 = _
      omega
  refine q_forE (xs := ld.map fun x => V.ref x.2) (v_days T (s2 _ _ (s1 _ _ h1)) (val_var rfl)) (SqL.of (s2 _ _ (s1 _ _ l2))) (fun i σ' H' => ∃ u v3 v4 v5, σ' = [some (.ref h), some (.ref m), some (.ref u), v3, v4, v5] ∧ Same H1 H' ∧ Pl H' ∧ H u = none ∧ H' u = some (.lst (its ((f.days.length : Int) :: (List.range i).flatMap fun d => VbsyCore.ints [(Vbsyae.dayCells f d).length, (Vbsyae.places f d).length, if d = 0 then (Vbsyae.places f d).length else Vbsyae.carry f (d - 1) d]))) ∧ i ≤ ld.length) ?_ ?_ ?_ ?_
  · exact ⟨p, none, none, none, rfl, s2, pl1.upd rfl, s1.free hp, upd_same, Nat.zero_le _⟩
  · rintro i σ' H' ⟨u, v3, v4, v5, rfl, s3, pl3, hu, eu, hi⟩
    exact ⟨SqL.of (s3 _ _ (s1 _ _ l2)), by rw [List.length_map]; exact hi⟩
  · rintro i x σ' H' tt hx ⟨u, v3, v4, v5, rfl, s3, pl3, hu, eu, hi⟩ htt
    rw [List.getElem?_map] at hx
    cases hy : ld[i]? with
    | none => rw [hy] at hx; cases hx
    | some y =>
      rw [hy] at hx
      obtain rfl := Option.some.inj hx
      have hil : i < ld.length := (List.getElem?_eq_some_iff.mp hy).1
      have hday : f.days[i]? = some y.1 := by rw [← l1, List.getElem?_map, hy]; rfl
      have hid : i < f.days.length := by omega
      have ft := wf.fit y.1 (List.mem_of_getElem? hday)
      have s4 : Same H' (upd H' tt (.tup [.int (i : Nat), .ref y.2])) := same_new htt
      have pl4 : Pl (upd H' tt (.tup [.int (i : Nat), .ref y.2])) := pl3.upd rfl
      have s34 := s3.trans s4
      have eu4 := s4 _ _ eu
      generalize upd H' tt (.tup [.int (i : Nat), .ref y.2]) = H4 at s4 pl4 s34 eu4
      have M4 := M.same s34
      obtain ⟨dy, d1⟩ := (l3 y (List.mem_of_getElem? hy)).same (s1.trans s34)
      have a1 := ft.h
      have a2 := ft.w
      have g := wf.g
      have r8 := g.r8
      have c8 := g.c8
      refine q_set (v_size T (s34 _ _ m1) (s34 _ _ m4) (val_var rfl) (val_var rfl) hid) ?_
      have hsz := HF.size_eq wf hid
      have fin : ∀ c : Nat, c = (if i = 0 then (Vbsyae.places f i).length else Vbsyae.carry f (i - 1) i) → tAsg (tOp rCat (tVar 2) (tLst (tCons (tOp rMulI (tFld K (tVar 4) "high") (tFld K (tVar 4) "wide")) (tCons (tOp (rIxL K) (tFld K (tVar 1) "sizes") (tVar 3)) (tCons (tVar 5) tNil))))) (gName 2) { nx := (fun i σ' H' => ∃ u v3 v4 v5, σ' = [some (.ref h), some (.ref m), some (.ref u), v3, v4, v5] ∧ Same H1 H' ∧ Pl H' ∧ H u = none ∧ H' u = some (.lst (its ((f.days.length : Int) :: (List.range i).flatMap fun d => VbsyCore.ints [(Vbsyae.dayCells f d).length, (Vbsyae.places f d).length, if d = 0 then (Vbsyae.places f d).length else Vbsyae.carry f (d - 1) d]))) ∧ i ≤ ld.length) (i + 1), rt := Fg H Q, ct := (fun i σ' H' => ∃ u v3 v4 v5, σ' = [some (.ref h), some (.ref m), some (.ref u), v3, v4, v5] ∧ Same H1 H' ∧ Pl H' ∧ H u = none ∧ H' u = some (.lst (its ((f.days.length : Int) :: (List.range i).flatMap fun d => VbsyCore.ints [(Vbsyae.dayCells f d).length, (Vbsyae.places f d).length, if d = 0 then (Vbsyae.places f d).length else Vbsyae.carry f (d - 1) d]))) ∧ i ≤ ld.length) (i + 1), bk := tRet (tVar 2) { nx := fun _ H' => Fg H Q .non H', rt := Fg H Q } }
          [some (.ref h), some (.ref m), some (.ref u), some (.int (i : Int)), some (.ref y.2), some (.int (c : Int))] H4 := fun c hc => by
        refine gs_setN (gn_cat (ys := its (VbsyCore.ints [(Vbsyae.dayCells f i).length, (Vbsyae.places f i).length, c])) (gl_val pl4 (val_var rfl) eu4) (fun H5 s5 pl5 => gl_new (gn_new pl5 (nw_is (nw_lst (va_cons (val_mul (v_dhigh T (s5 _ _ d1) (val_var rfl)) (v_dwide T (s5 _ _ d1) (val_var rfl)) (.inl (by omega))) (va_cons (v_size T (s5 _ _ (s34 _ _ m1)) (s5 _ _ (s34 _ _ m4)) (val_var rfl) (val_var rfl) hid) (va_cons (val_var rfl) va_nil))) (by show 3 ≤ 100000; decide)) (by
          rw [its_ints, HF.dayCells_eq wf hday, HF.dcells_len, hsz]
          show _ = [V.int ((_ : Nat) : Int), V.int ((_ : Nat) : Int), V.int ((_ : Nat) : Int)]
          rw [Int.natCast_mul])))) (by
          rw [len_its, len_its, List.length_cons, rowlen]
          show _ + 3 ≤ _
          omega)) fun u' H5 hu' s5 pl5 e5 => ?_
        refine ⟨u', _, _, _, rfl, s34.trans s5, pl5, s1.free (s34.free hu'), ?_, hil⟩
        rw [e5, List.range_succ, List.flatMap_append]
        unfold its
        rw [← List.map_append, hc]
        rfl
      refine q_if (b := decide ((0 : Int) < (i : Int))) (an_test (val_cmp (val_var rfl) val_c)) (fun hb => ?_) fun hb => ?_
      · have hb := of_decide_eq_true hb
        refine s_set (v_carried (m := i - 1) (n := i) pl4 M4 (val_var rfl) (val_is (val_sub (val_var rfl) val_c) (by congr 1; omega)) (val_var rfl) (by omega) hid) ?_
        exact fin _ (by rw [if_neg (by omega)])
      · have hb := of_decide_eq_false hb
        rw [← hsz]
        exact fin _ (by rw [if_pos (by omega)])
  · rintro σ' H' ⟨u, v3, v4, v5, rfl, s3, pl3, hu, eu, hi⟩
    rw [List.length_map, hll] at eu
    exact s_itsV rfl (s1.trans s3) (val_var rfl) hu eu q
theorem ok_House_plan {P : Program} {w : World} {K : PySem.W.Frag} {mg : Str → Option Value} {base : Heap} {A : Ad} (T : Txt K mg A) : MOk P w K mg base CX0 A.cHouse "plan" 8 ["self"] (sp_House_plan K A) := by
  obtain ⟨fn, fd, hm, F⟩ := T.f_House_plan
  refine ⟨fn, fd, hm, fun_okG F sc_House_plan (fun vs H Q E h => ?_) (fun cdv A' outer s H vs Q E hr pl h => ⟨t_House_plan K A, ?_, pure_House_plan T pl h⟩), F.binds fun _ _ _ _ _ _ us hl => match us, hl with | [_], _ => rfl⟩
  · obtain ⟨_, _, _, rfl, _⟩ := h
    rfl
  · exact (pss_cons (ps_set (i := 1) sc_House_plan.nd rfl (Or.inl rfl) (pe_methM0 (pv 0) T.c_House (ok_House_moves T) (hr.mono (by decide)))) (pss_cons (ps_set (i := 2) sc_House_plan.nd rfl (Or.inl rfl) (pe_lst (pa_cons (pe_callB call_len_seq rfl T.b_len PySem.boot_len (pa_cons (pe_fld (pv 0) rfl) pa_nil)) pa_nil))) (pss_cons (ps_for PassesOwn.never rfl (pi_enum (by rfl) T.b_enumerate (pa_cons (pe_fld (pv 0) rfl) pa_nil)) (pg_tup rfl (pgs_cons (pg_name (i := 3) sc_House_plan.nd rfl (Or.inl rfl)) (pgs_cons (pg_name (i := 4) sc_House_plan.nd rfl (Or.inl rfl)) pgs_nil))) (pss_cons (ps_set (i := 5) sc_House_plan.nd rfl (Or.inl rfl) (pe_ix ix_list (pe_fld (pv 1) rfl) (pv 3) (fun _ _ => rfl))) (pss_cons (ps_if (pt_cmpR op_gt (pv 3) pe_int (nomark _)) (pss_one (ps_set (i := 5) sc_House_plan.nd rfl (Or.inl rfl) (pe_methM (pv 1) T.c_Moves (ok_Moves_carried T) (hr.mono (by decide)) (pa_cons (pe_op op_sub (pv 3) pe_int) (pa_cons (pv 3) pa_nil))))) pss_nil) (pss_one (ps_set (i := 2) sc_House_plan.nd rfl (Or.inl rfl) (pe_op op_cat (pv 2) (pe_lst (pa_cons (pe_op op_mul (pe_fld (pv 4) rfl) (pe_fld (pv 4) rfl)) (pa_cons (pe_ix ix_list (pe_fld (pv 1) rfl) (pv 3) (fun _ _ => rfl)) (pa_cons (pv 5) pa_nil)))))))))) (pss_one (ps_ret (pv 2))))))
def sp0_House_fewest (K : PySem.W.Frag) (A : Ad) : Sp := fun vs H Q _ => ∃ (N : Addr → Prop) (h : Addr) (f : Vbsyae.Field), vs = [.ref h] ∧ HouseAt A N H h f ∧ ∀ p, H p = none → Q (.ref p) (upd H p (.lst (its (HF.res f .fewest).2)))
abbrev sp_House_fewest (K : PySem.W.Frag) (A : Ad) : Sp := Plain (sp0_House_fewest K A)
def t_House_fewest (K : PySem.W.Frag) (A : Ad) : TS := (tSeq (tIfS (tTest (tOp rGtI (tCB (cLen K) (tCons (tFld K (tVar 0) "days") tNil)) (tC (.int (7))))) (tRet (tLst (tCons (tC (.int (-9))) tNil))) tNext) (tSeq (tAsg (tMeth A.cHouse "moves" (sp_House_moves K A) [] E0 (tVar 0) tNil) (gName 1)) (tRet (tLst (tCons (tMeth A.cMoves "carried_in" (sp_Moves_carried_in K A) [] E0 (tVar 1) (tCons (tMeth A.cMoves "best_order" (sp_Moves_best_order K A) [] E0 (tVar 1) tNil) tNil)) tNil)))))
theorem pure_House_fewest {K : PySem.W.Frag} {mg : Str → Option Value} {A : Ad} (T : Txt K mg A) {vs : List V} {H : Hp} {Q : VK} {E : XK} (pl : Pl H) (h : sp0_House_fewest K A vs H Q E) : t_House_fewest K A { nx := fun _ H' => Fg H Q .non H', rt := Fg H Q } (start N_House_fewest vs) H := by
  obtain ⟨N, h, f, rfl, HA, q⟩ := h
  obtain ⟨wf, dx, fa, da, h1, F, Ds, nd⟩ := id HA
  obtain ⟨ld, l1, l2, l3⟩ := id Ds
  have hll : ld.length = f.days.length := by rw [← l1, List.length_map]
  rw [HF.res_fewest] at q
  refine q_when (an_test (val_cmp (val_is (val_len (v_days T h1 (val_var rfl)) (SqL.of l2)) (by rw [List.length_map, hll])) val_c)) (fun hb => ?_) fun hb => ?_
  · have hb := of_decide_eq_true hb
    rw [if_neg (by omega)] at q
    exact s_its rfl (Same.refl H) (gn_new pl (nw_lst (va_cons val_c va_nil) (by show 1 ≤ 100000; decide))) rfl q
  · have hb := of_decide_eq_false hb
    have hn : f.days.length ≤ 7 := by omega
    rw [if_pos hn, HF.fewest_cin hn] at q
    refine q_moves pl HA (val_var rfl) fun m H1 hm s1 pl1 M => ?_
    exact s_its rfl s1 (gn_lst (ga_cons (g_cin M (val_var rfl) (gn_new pl1 (n_border pl1 M hn (val_var rfl))) HF.order_lt) fun H2 s2 pl2 => ga_nil pl2) (by show 1 ≤ 100000; decide)) rfl q
theorem ok_House_fewest {P : Program} {w : World} {K : PySem.W.Frag} {mg : Str → Option Value} {base : Heap} {A : Ad} (T : Txt K mg A) : MOk P w K mg base CX0 A.cHouse "fewest" 8 ["self"] (sp_House_fewest K A) := by
  obtain ⟨fn, fd, hm, F⟩ := T.f_House_fewest
  refine ⟨fn, fd, hm, fun_okG F sc_House_fewest (fun vs H Q E h => ?_) (fun cdv A' outer s H vs Q E hr pl h => ⟨t_House_fewest K A, ?_, pure_House_fewest T pl h⟩), F.binds fun _ _ _ _ _ _ us hl => match us, hl with | [_], _ => rfl⟩
  · obtain ⟨_, _, _, rfl, _⟩ := h
    rfl
  · exact (pss_cons (ps_if (pt_cmpR op_gt (pe_callB call_len_seq rfl T.b_len PySem.boot_len (pa_cons (pe_fld (pv 0) rfl) pa_nil)) (pe_gi rfl T.g_MOST_ORDERED) (nomark _)) (pss_one (ps_ret (pe_lst (pa_cons (pe_gi rfl T.g_TOO_MANY) pa_nil)))) pss_nil) (pss_cons (ps_set (i := 1) sc_House_fewest.nd rfl (Or.inl rfl) (pe_methM0 (pv 0) T.c_House (ok_House_moves T) (hr.mono (by decide)))) (pss_one (ps_ret (pe_lst (pa_cons (pe_methM (pv 1) T.c_Moves (ok_Moves_carried_in T) (hr.mono (by decide)) (pa_cons (pe_methM0 (pv 1) T.c_Moves (ok_Moves_best_order T) (hr.mono (by decide))) pa_nil)) pa_nil))))))
def sp0_House_best_order (K : PySem.W.Frag) (A : Ad) : Sp := fun vs H Q _ => ∃ (N : Addr → Prop) (h : Addr) (f : Vbsyae.Field), vs = [.ref h] ∧ HouseAt A N H h f ∧ ∀ p, H p = none → Q (.ref p) (upd H p (.lst (its (HF.res f .bestOrder).2)))
abbrev sp_House_best_order (K : PySem.W.Frag) (A : Ad) : Sp := Plain (sp0_House_best_order K A)
def t_House_best_order (K : PySem.W.Frag) (A : Ad) : TS := (tSeq (tIfS (tTest (tOp rGtI (tCB (cLen K) (tCons (tFld K (tVar 0) "days") tNil)) (tC (.int (7))))) (tRet (tLst (tCons (tC (.int (-9))) tNil))) tNext) (tSeq (tAsg (tMeth A.cMoves "best_order" (sp_Moves_best_order K A) [] E0 (tMeth A.cHouse "moves" (sp_House_moves K A) [] E0 (tVar 0) tNil) tNil) (gName 1)) (tRet (tOp rCat (tLst (tCons (tCB (cLen K) (tCons (tVar 1) tNil)) tNil)) (tVar 1)))))
theorem pure_House_best_order {K : PySem.W.Frag} {mg : Str → Option Value} {A : Ad} (T : Txt K mg A) {vs : List V} {H : Hp} {Q : VK} {E : XK} (pl : Pl H) (h : sp0_House_best_order K A vs H Q E) : t_House_best_order K A { nx := fun _ H' => Fg H Q .non H', rt := Fg H Q } (start N_House_best_order vs) H := by
  obtain ⟨N, h, f, rfl, HA, q⟩ := h
  obtain ⟨wf, dx, fa, da, h1, F, Ds, nd⟩ := id HA
  obtain ⟨ld, l1, l2, l3⟩ := id Ds
  have hll : ld.length = f.days.length := by rw [← l1, List.length_map]
  rw [HF.res_border] at q
  refine q_when (an_test (val_cmp (val_is (val_len (v_days T h1 (val_var rfl)) (SqL.of l2)) (by rw [List.length_map, hll])) val_c)) (fun hb => ?_) fun hb => ?_
  · have hb := of_decide_eq_true hb
    rw [if_neg (by omega)] at q
    exact s_its rfl (Same.refl H) (gn_new pl (nw_lst (va_cons val_c va_nil) (by show 1 ≤ 100000; decide))) rfl q
  · have hb := of_decide_eq_false hb
    have hn : f.days.length ≤ 7 := by omega
    rw [if_pos hn] at q
    refine q_seq ?_
    refine r_moves _ pl HA (val_var rfl) fun m H1 hm s1 pl1 M => ?_
    obtain ⟨_, dm, pm, rm, rsm, m1, m2, m3, m4⟩ := id M
    refine ⟨m, dm, _, rfl, m1, no_M, pl1, m, f, rfl, M, hn, fun u hu => ?_⟩
    have s2 := same_new (o := .lst (nts (Vbsyae.bestOrder f))) hu
    have pl2 : Pl (upd H1 u (.lst (nts (Vbsyae.bestOrder f)))) := pl1.upd rfl
    have ol := HF.border_len0 f
    refine s_its (te := tOp rCat (tLst (tCons (tCB (cLen K) (tCons (tVar 1) tNil)) tNil)) (tVar 1)) (σ := [some (.ref h), some (.ref u)]) rfl (s1.trans s2) (gn_cat (gl_new (gn_new pl2 (nw_lst (va_cons (val_len (val_var rfl) (SqL.of upd_same)) va_nil) (by show 1 ≤ 100000; decide)))) (fun H2 s2 pl2 => gl_val pl2 (val_var rfl) (s2 _ _ upd_same)) (by rw [len_nts]; show 1 + _ ≤ _; omega)) ?_ q
    unfold Vbsyae.listRow
    rw [len_nts]
    show _ = V.int _ :: its (VbsyCore.ints _)
    rw [its_ints]
    rfl
theorem ok_House_best_order {P : Program} {w : World} {K : PySem.W.Frag} {mg : Str → Option Value} {base : Heap} {A : Ad} (T : Txt K mg A) : MOk P w K mg base CX0 A.cHouse "best_order" 8 ["self"] (sp_House_best_order K A) := by
  obtain ⟨fn, fd, hm, F⟩ := T.f_House_best_order
  refine ⟨fn, fd, hm, fun_okG F sc_House_best_order (fun vs H Q E h => ?_) (fun cdv A' outer s H vs Q E hr pl h => ⟨t_House_best_order K A, ?_, pure_House_best_order T pl h⟩), F.binds fun _ _ _ _ _ _ us hl => match us, hl with | [_], _ => rfl⟩
  · obtain ⟨_, _, _, rfl, _⟩ := h
    rfl
  · exact (pss_cons (ps_if (pt_cmpR op_gt (pe_callB call_len_seq rfl T.b_len PySem.boot_len (pa_cons (pe_fld (pv 0) rfl) pa_nil)) (pe_gi rfl T.g_MOST_ORDERED) (nomark _)) (pss_one (ps_ret (pe_lst (pa_cons (pe_gi rfl T.g_TOO_MANY) pa_nil)))) pss_nil) (pss_cons (ps_set (i := 1) sc_House_best_order.nd rfl (Or.inl rfl) (pe_methM0 (pe_methM0 (pv 0) T.c_House (ok_House_moves T) (hr.mono (by decide))) T.c_Moves (ok_Moves_best_order T) (hr.mono (by decide)))) (pss_one (ps_ret (pe_op op_cat (pe_lst (pa_cons (pe_callB call_len_seq rfl T.b_len PySem.boot_len (pa_cons (pv 1) pa_nil)) pa_nil)) (pv 1))))))
end HW

namespace HW
open PySem PySem.Spec PyProof.Rows L2
section
variable {σ : L2.St} {H : Hp} {ta tb te tl : TE} {t : TA} {K : PySem.W.Frag} {D : Ends} {t1 t2 : TS} {xs rs : List V} {i j k : Nat} {x y z v : V} {a : Addr}
theorem s_forN (h : New tl σ H xs) (Pv : Addr → Nat → L2.St → Hp → Prop) (h0 : ∀ p, H p = none → Pv p 0 σ (upd H p (.lst xs))) (hl : ∀ p i σ' H', H p = none → Pv p i σ' H' → SqL K H' p xs)
    (hs : ∀ p i x σ' H', H p = none → xs[i]? = some x → Pv p i σ' H' → t1 { D with nx := Pv p (i + 1), ct := Pv p (i + 1), bk := D.nx } (σ'.set j (some x)) H') (hd : ∀ p σ' H', H p = none → Pv p xs.length σ' H' → D.nx σ' H') : tFor (iList K tl) (gName j) t1 D σ H :=
  q_forN (t2 := tNext) h Pv h0 hl hs hd
theorem q_forG (P : Addr → Hp → Prop) (h : ∀ Q : VK, (∀ p H1, P p H1 → Q (.ref p) H1) → tl σ H Q)
    (k : ∀ p H1, P p H1 → ∃ (rs : List V) (Pv : Nat → L2.St → Hp → Prop), SqL K H1 p rs ∧ Pv 0 σ H1 ∧ (∀ i σ' H', Pv i σ' H' → SqL K H' p rs) ∧ (∀ i x σ' H', rs[i]? = some x → Pv i σ' H' → t1 { D with nx := Pv (i + 1), ct := Pv (i + 1), bk := t2 D } (σ'.set j (some x)) H') ∧ (∀ σ' H', Pv rs.length σ' H' → t2 D σ' H')) :
    tSeq (tFor (iList K tl) (gName j) t1) t2 D σ H :=
  h _ fun p H1 hp => by
    obtain ⟨rs, Pv, h1, h2, h3, h4, h5⟩ := k p H1 hp
    exact ⟨p, rfl, ⟨rs, h1⟩, for_list (D := { D with nx := t2 D }) Pv h2 (fun i σ' H' _ q => h3 i σ' H' q) h4 h5⟩
theorem gn_sl1 (h : GL ta σ H xs) : GNew (tSl (rSlL K) ta tNoPart (tPart (tC (.int 1)))) σ H (xs.take 1) := fun Q q => h _ fun p H1 s1 pl1 e1 => ⟨1, rfl, p, xs, rfl, SqL.of e1, fun u hu => by
  have e : cutV xs none (some 1) = xs.take 1 := by
    unfold cutV
    rw [show (1 : Int) = ((1 : Nat) : Int) from rfl, HT.sIx_nat, HT.sIx_none]
    cases xs with
    | nil => rfl
    | cons x r =>
      rw [Nat.min_eq_left (by simp)]
      rfl
  rw [e]
  exact q u _ (s1.free hu) (same_upd s1 (s1.free hu)) (pl1.upd rfl) upd_same⟩
theorem eqv_ints : ∀ l m : List Int, PyData.eqvAll (pyInts l) (pyInts m) = (l == m)
  | [], [] => by simp [pyInts, PyData.eqvAll]
  | [], _ :: _ => by simp [pyInts, PyData.eqvAll]
  | _ :: _, [] => by simp [pyInts, PyData.eqvAll]
  | a :: l, b :: m => by
    show PyData.eqvAll (.int a :: pyInts l) (.int b :: pyInts m) = _
    rw [PyData.eqvAll, PyData.eqv, eqv_ints l m]
    rfl
theorem lay_ints : ∀ l : List Int, PyData.canLayAll0 (pyInts l) = true
  | [] => by simp [pyInts, PyData.canLayAll0]
  | a :: l => by
    show PyData.canLayAll0 (.int a :: pyInts l) = true
    simp [PyData.canLayAll0, PyData.canLay0, lay_ints l]
theorem shaped_ints (l : List Int) : SeqAt.shaped (.list (pyInts l)) = true := by
  unfold SeqAt.shaped
  rw [PyData.canLay0, lay_ints, PyData.depth, depth_ints]
  rfl
/-- sorted(row) != list(range(n)) -/
theorem ga_order {l : List Int} {f : Vbsyae.Field} (pl : Pl H) (h : Val ta σ H (.ref a)) (ha : H a = some (.lst (its l))) (hb : ∀ H1, Same H H1 → Val tb σ H1 (.int (f.days.length : Int))) (hn : f.days.length ≤ 20) :
    GAns (tTest (tOp (rNeD K) (tCB (rSortedI K) (tCons ta tNil)) (tLstRg (tRg1 tb)))) σ H (!HF.okOrder f l) := fun Q q =>
  h _ ⟨a, l, rfl, SqL.of ha, fun ns p hp hs hpn => hb _ (same_new hpn) _ ⟨_, rfl, RgOk.of_le (by omega) (by omega) (by omega) (by omega), fun u hu => by
    have hup : u ≠ p := fun z => by rw [z, upd_same] at hu; cases hu
    have e1 : (upd (upd H p (.lst (ns.map V.int))) u (.lst (rgV 0 (f.days.length : Int)))) p = some (.lst (ns.map V.int)) := by rw [upd_ne (Ne.symm hup), upd_same]
    have er : rgV 0 (f.days.length : Int) = ((List.range f.days.length).map fun (n : Nat) => (n : Int)).map V.int := by
      unfold rgV
      rw [List.map_map, show ((f.days.length : Int) - 0).toNat = f.days.length by omega]
      apply List.map_congr_left
      intro i _
      show V.int (0 + (i : Int)) = V.int (i : Int)
      rw [Int.zero_add]
    refine ⟨_, _, .lst (SqL.of e1) (dp_ints ns), .lst (SqL.of upd_same) (er ▸ dp_ints _), shaped_ints _, shaped_ints _, ⟨_, rfl, ?_⟩⟩
    have e2 : (!PyData.eqv (.list (pyInts ns)) (.list (pyInts ((List.range f.days.length).map fun (n : Nat) => (n : Int))))) = !HF.okOrder f l := by
      rw [PyData.eqv, eqv_ints]
      congr 1
      rw [Bool.eq_iff_iff, beq_iff_eq]
      exact HF.order_iff hp hs
    rw [e2]
    exact q _ (same_upd (same_new hpn) (by
      rw [upd_ne hup] at hu
      exact hu)) ((pl.upd rfl).upd rfl)⟩⟩
end
def sp0_House_covered (K : PySem.W.Frag) (A : Ad) : Sp := fun vs H Q _ => ∃ (N : Addr → Prop) (h : Addr) (f : Vbsyae.Field), vs = [.ref h] ∧ HouseAt A N H h f ∧ ∀ p, H p = none → Q (.ref p) (upd H p (.lst (its (HF.res f .covered).2)))
abbrev sp_House_covered (K : PySem.W.Frag) (A : Ad) : Sp := Plain (sp0_House_covered K A)
def t_House_covered (K : PySem.W.Frag) (A : Ad) : TS := (tSeq (tAsg (tOp rRep (tLst (tCons (tC (.int 0)) tNil)) (tMeth A.cField "count" (sp_Field_count K A) [] E0 (tFld K (tVar 0) "field") tNil)) (gName 1)) (tSeq (tFor (iList K (tFld K (tVar 0) "days")) (gName 2) (tFor (iList K (tMeth A.cDay "cells_in" (sp_Day_cells_in K A) [] E0 (tVar 2) (tCons (tFld K (tVar 0) "field") tNil))) (gName 3) (tAsg (tOp rAddI (tOp (rIxL K) (tVar 1) (tVar 3)) (tC (.int 1))) (gSub (tVar 1) (tVar 3) rSetL)))) (tSeq (tFor (iEnum K (tCons (tVar 1) tNil)) (gTup K 2 (gCons (gName 3) (gCons (gName 4) gNil))) (tIfS (tTest (tOp rNe (tVar 4) (tC (.int 1)))) (tRet (tLst (tCons (tC (.int 0)) (tCons (tVar 3) (tCons (tVar 4) tNil))))) tNext)) (tRet (tLst (tCons (tC (.int 1)) tNil))))))
theorem pure_House_covered {K : PySem.W.Frag} {mg : Str → Option Value} {A : Ad} (T : Txt K mg A) {vs : List V} {H : Hp} {Q : VK} {E : XK} (pl : Pl H) (h : sp0_House_covered K A vs H Q E) : t_House_covered K A { nx := fun _ H' => Fg H Q .non H', rt := Fg H Q } (start N_House_covered vs) H := by
  obtain ⟨N, h, f, rfl, HA, q⟩ := h
  obtain ⟨wf, dx, fa, da, h1, F, Ds, nd⟩ := id HA
  obtain ⟨ld, l1, l2, l3⟩ := id Ds
  have hll : ld.length = f.days.length := by rw [← l1, List.length_map]
  have g := wf.g
  have h64 := HF.cells_le g
  rw [HF.res_covered] at q
  have z0 : ∀ c, HF.dcnt f 0 c = 0 := fun c => by unfold HF.dcnt; rw [List.take_zero]; rfl
  refine g_setN (xs := its ((List.range (Vbsyae.cells f)).map fun c => (HF.dcnt f 0 c : Int))) (gn_is (gn_rep (n := Vbsyae.cells f) (gl_new (gn_new pl (nw_lst (va_cons val_c va_nil) (by show 1 ≤ 100000; decide)))) (fun H1 s1 pl1 => v_cnt pl1 (F.same s1) (v_field T (s1 _ _ h1) (val_var rfl))) (by omega) (by show 1 ≤ 1000; decide)) ?_) fun p H1 hp s1 pl1 e1 => ?_
  · have := HF.rep_zero (Vbsyae.cells f)
    have e := congrArg its this
    unfold its at e ⊢
    rw [List.map_flatten, List.map_replicate] at e
    refine Eq.trans e ?_
    simp only [z0]
    rfl
  refine q_forL (xs := ld.map fun x => V.ref x.2) (v_days T (s1 _ _ h1) (val_var rfl)) (SqL.of (s1 _ _ l2)) (fun i σ' H' => ∃ v2 v3, σ' = [some (.ref h), some (.ref p), v2, v3, none] ∧ Same H H' ∧ Pl H' ∧ H' p = some (.lst (its ((List.range (Vbsyae.cells f)).map fun c => (HF.dcnt f i c : Int))))) ?_ ?_ ?_ ?_
  · exact ⟨none, none, rfl, s1, pl1, e1⟩
  · rintro i σ' H' ⟨v2, v3, rfl, s2, pl2, e2⟩
    exact SqL.of (s2 _ _ l2)
  · rintro i x σ' H' hx ⟨v2, v3, rfl, s2, pl2, e2⟩
    rw [List.getElem?_map] at hx
    cases hy : ld[i]? with
    | none => rw [hy] at hx; cases hx
    | some y =>
      rw [hy] at hx
      obtain rfl := Option.some.inj hx
      have hday : f.days[i]? = some y.1 := by rw [← l1, List.getElem?_map, hy]; rfl
      have ft := wf.fit y.1 (List.mem_of_getElem? hday)
      have D1 := (l3 y (List.mem_of_getElem? hy)).same s2
      obtain ⟨dy, d1⟩ := id D1
      have hris := HF.rising_dcells ft
      have hlt : ∀ c ∈ HF.dcells f y.1, c < Vbsyae.cells f := fun c hc => ((HF.mem_dcells ft).mp hc).1
      refine s_forN (nw_meth (xs := nts (HF.dcells f y.1)) (val_var rfl) d1 no_D (va_cons (v_field T (s2 _ _ h1) (val_var rfl)) va_nil) fun Q q => ⟨pl2, y.2, fa, f, y.1, rfl, D1, F.same s2, ft, q⟩)
        (fun u j σ' H2 => ∃ v3, σ' = [some (.ref h), some (.ref p), some (.ref y.2), v3, none] ∧ Same H H2 ∧ Pl H2 ∧ H2 u = some (.lst (nts (HF.dcells f y.1))) ∧ H2 p = some (.lst (its ((List.range (Vbsyae.cells f)).map fun c => ((HF.dcnt f i c + (if ((HF.dcells f y.1).take j).contains c = true then 1 else 0) : Nat) : Int))))) ?_ ?_ ?_ ?_
      · intro u hu
        have hpu : p ≠ u := ne_of_none e2 hu
        exact ⟨v3, rfl, same_upd s2 (s2.free hu), pl2.upd rfl, upd_same, by rw [upd_ne hpu, e2]; rfl⟩
      · rintro u j σ' H2 hu ⟨v3, rfl, s3, pl3, eu, e3⟩
        exact SqL.of eu
      · rintro u j z σ' H2 hu hz ⟨v3, rfl, s3, pl3, eu, e3⟩
        have hpu : p ≠ u := ne_of_none e2 hu
        obtain ⟨c, hc, rfl⟩ : ∃ c, (HF.dcells f y.1)[j]? = some c ∧ z = V.int (c : Int) := by
          unfold nts at hz
          rw [List.getElem?_map] at hz
          cases e : (HF.dcells f y.1)[j]? with
          | none => rw [e] at hz; cases hz
          | some c =>
            rw [e] at hz
            exact ⟨c, rfl, (Option.some.inj hz).symm⟩
        have hcl := hlt c (List.mem_of_getElem? hc)
        have hnin := HF.rising_nodup hris hc
        have hat : atI (its ((List.range (Vbsyae.cells f)).map fun c => ((HF.dcnt f i c + (if ((HF.dcells f y.1).take j).contains c = true then 1 else 0) : Nat) : Int))) (c : Int) = some (.int (HF.dcnt f i c : Int)) := by
          refine atI_nat ?_
          unfold its
          rw [List.getElem?_map, List.getElem?_map, List.getElem?_range hcl]
          show some (V.int ((HF.dcnt f i c + (if ((HF.dcells f y.1).take j).contains c = true then 1 else 0) : Nat) : Int)) = _
          rw [if_neg (by rw [List.contains_iff_mem]; exact hnin)]
          rfl
        refine s_setAt (v := .int ((HF.dcnt f i c : Int) + 1)) (val_add (val_ixL (val_var rfl) (val_var rfl) (SqL.of e3) hat) val_c) (val_var rfl) (val_var rfl) e3 (by unfold its; rw [List.length_map, List.length_map, List.length_range]; exact hcl) ?_
        refine ⟨_, rfl, same_upd s3 hp, pl3.upd rfl, by rw [upd_ne (Ne.symm hpu)]; exact eu, ?_⟩
        rw [upd_same]
        have et : (HF.dcells f y.1).take (j + 1) = (HF.dcells f y.1).take j ++ [c] := by rw [List.take_add_one, hc]; rfl
        unfold its
        rw [← List.map_set (f := V.int)]
        have := HF.set_map (n := Vbsyae.cells f) (c := c) (g := fun c => ((HF.dcnt f i c + (if ((HF.dcells f y.1).take j).contains c = true then 1 else 0) : Nat) : Int)) (g' := fun c => ((HF.dcnt f i c + (if ((HF.dcells f y.1).take (j + 1)).contains c = true then 1 else 0) : Nat) : Int)) hcl fun x hx => by
          show ((HF.dcnt f i x + _ : Nat) : Int) = ((HF.dcnt f i x + _ : Nat) : Int)
          have e : ((HF.dcells f y.1).take (j + 1)).contains x = ((HF.dcells f y.1).take j).contains x := by
            rw [et, Bool.eq_iff_iff, List.contains_iff_mem, List.contains_iff_mem, List.mem_append, List.mem_singleton]
            exact ⟨fun h => h.resolve_right hx, .inl⟩
          rw [e]
        rw [← this]
        congr 4
        show (HF.dcnt f i c : Int) + 1 = ((HF.dcnt f i c + _ : Nat) : Int)
        rw [if_pos (by rw [et, List.contains_iff_mem]; simp)]
        omega
      · rintro u σ' H2 hu ⟨v3, rfl, s3, pl3, eu, e3⟩
        rw [len_nts, List.take_length] at e3
        refine ⟨_, v3, rfl, s3, pl3, ?_⟩
        rw [e3]
        congr 3
        apply List.map_congr_left
        intro c _
        rw [HF.dcnt_succ hday]
  · rintro σ' H' ⟨v2, v3, rfl, s2, pl2, e2⟩
    rw [List.length_map, hll] at e2
    have ec : ((List.range (Vbsyae.cells f)).map fun c => (HF.dcnt f f.days.length c : Int)) = (List.range (Vbsyae.cells f)).map fun c => (Vbsyae.times f c : Int) := by
      apply List.map_congr_left
      intro c _
      rw [HF.times_cnt wf]
    rw [ec] at e2
    refine q_forE (xs := its ((List.range (Vbsyae.cells f)).map fun c => (Vbsyae.times f c : Int))) (val_var rfl) (SqL.of e2) (fun i σ' H3 => ∃ v3 v4, σ' = [some (.ref h), some (.ref p), v2, v3, v4] ∧ Same H H3 ∧ Pl H3 ∧ H3 p = some (.lst (its ((List.range (Vbsyae.cells f)).map fun c => (Vbsyae.times f c : Int)))) ∧ i ≤ Vbsyae.cells f ∧ ∀ c, c < i → Vbsyae.times f c = 1) ?_ ?_ ?_ ?_
    · exact ⟨v3, none, rfl, s2, pl2, e2, Nat.zero_le _, nofun⟩
    · rintro i σ' H3 ⟨v3, v4, rfl, s3, pl3, e3, hi, h1⟩
      exact ⟨SqL.of e3, by rw [len_its, List.length_map, List.length_range]; exact hi⟩
    · rintro i x σ' H3 tt hx ⟨v3, v4, rfl, s3, pl3, e3, hi, h1⟩ htt
      have hil : i < Vbsyae.cells f := by
        have := (List.getElem?_eq_some_iff.mp hx).1
        rw [len_its, List.length_map, List.length_range] at this
        exact this
      obtain rfl : x = V.int (Vbsyae.times f i : Int) := by
        unfold its at hx
        rw [List.getElem?_map, List.getElem?_map, List.getElem?_range hil] at hx
        exact (Option.some.inj hx).symm
      have s4 := s3.trans (same_new (o := .tup [.int (i : Nat), .int (Vbsyae.times f i : Int)]) htt)
      have pl4 : Pl (upd H3 tt (.tup [.int (i : Nat), .int (Vbsyae.times f i : Int)])) := pl3.upd rfl
      refine s_if (an_test (val_neI (val_var rfl) val_c)) (fun hb => ?_) fun hb => ?_
      · have hb : Vbsyae.times f i ≠ 1 := by
          simp only [Bool.not_eq_true', decide_eq_false_iff_not] at hb
          omega
        rw [HF.find_some hil (fun c hc => by rw [h1 c hc]; rfl) (by simpa using hb)] at q
        exact s_its rfl s4 (gn_new pl4 (nw_lst (va_cons val_c (va_cons (val_var rfl) (va_cons (val_var rfl) va_nil))) (by show 3 ≤ 100000; decide))) rfl q
      · have hb : Vbsyae.times f i = 1 := by
          simp only [Bool.not_eq_false', decide_eq_true_eq] at hb
          omega
        refine ⟨_, _, rfl, s4, pl4, same_new htt _ _ e3, hil, fun c hc => ?_⟩
        by_cases hci : c = i
        · rw [hci]; exact hb
        · exact h1 c (by omega)
    · rintro σ' H3 ⟨v3, v4, rfl, s3, pl3, e3, hi, h1⟩
      rw [len_its, List.length_map, List.length_range] at h1
      rw [HF.find_none fun c hc => by rw [h1 c hc]; rfl] at q
      exact s_its rfl s3 (gn_new pl3 (nw_lst (va_cons val_c va_nil) (by show 1 ≤ 100000; decide))) rfl q
theorem ok_House_covered {P : Program} {w : World} {K : PySem.W.Frag} {mg : Str → Option Value} {base : Heap} {A : Ad} (T : Txt K mg A) : MOk P w K mg base CX0 A.cHouse "covered" 2 ["self"] (sp_House_covered K A) := by
  obtain ⟨fn, fd, hm, F⟩ := T.f_House_covered
  refine ⟨fn, fd, hm, fun_okG F sc_House_covered (fun vs H Q E h => ?_) (fun cdv A' outer s H vs Q E hr pl h => ⟨t_House_covered K A, ?_, pure_House_covered T pl h⟩), F.binds fun _ _ _ _ _ _ us hl => match us, hl with | [_], _ => rfl⟩
  · obtain ⟨_, _, _, rfl, _⟩ := h
    rfl
  · exact (pss_cons (ps_set (i := 1) sc_House_covered.nd rfl (Or.inl rfl) (pe_op op_rep (pe_lst (pa_cons pe_int pa_nil)) (pe_methM0 (pe_fld (pv 0) rfl) T.c_Field (ok_Field_count T) (hr.mono (by decide))))) (pss_cons (ps_for PassesOwn.never rfl (pi_list (pe_fld (pv 0) rfl)) (pg_name (i := 2) sc_House_covered.nd rfl (Or.inl rfl)) (pss_one (ps_for PassesOwn.never rfl (pi_list (pe_methM (pv 2) T.c_Day (ok_Day_cells_in T) (hr.mono (by decide)) (pa_cons (pe_fld (pv 0) rfl) pa_nil))) (pg_name (i := 3) sc_House_covered.nd rfl (Or.inl rfl)) (pss_one (ps_asg (pe_op op_add (pe_ix ix_list (pv 1) (pv 3) (fun _ _ => rfl)) pe_int) (pg_sub (pv 1) (pv 3) set_list)))))) (pss_cons (ps_for PassesOwn.never rfl (pi_enum (by rfl) T.b_enumerate (pa_cons (pv 1) pa_nil)) (pg_tup rfl (pgs_cons (pg_name (i := 3) sc_House_covered.nd rfl (Or.inl rfl)) (pgs_cons (pg_name (i := 4) sc_House_covered.nd rfl (Or.inl rfl)) pgs_nil))) (pss_one (ps_if (pt_cmpR op_ne (pv 4) pe_int (nomark _)) (pss_one (ps_ret (pe_lst (pa_cons pe_int (pa_cons (pv 3) (pa_cons (pv 4) pa_nil)))))) pss_nil))) (pss_one (ps_ret (pe_lst (pa_cons pe_int pa_nil)))))))
def sp0_House_order (K : PySem.W.Frag) (A : Ad) : Sp := fun vs H Q _ => ∃ (N : Addr → Prop) (h a : Addr) (f : Vbsyae.Field) (l : List Int), vs = [.ref h, .ref a] ∧ HouseAt A N H h f ∧ H a = some (.lst (its l)) ∧ ∀ p, H p = none → Q (.ref p) (upd H p (.lst (its (HF.res f (.order l)).2)))
abbrev sp_House_order (K : PySem.W.Frag) (A : Ad) : Sp := Plain (sp0_House_order K A)
def t_House_order (K : PySem.W.Frag) (A : Ad) : TS := (tSeq (tIfS (tTest (tOp (rNeD K) (tCB (rSortedI K) (tCons (tVar 1) tNil)) (tLstRg (tRg1 (tCB (cLen K) (tCons (tFld K (tVar 0) "days") tNil)))))) (tRet (tLst (tCons (tC (.int (-4))) tNil))) tNext) (tSeq (tAsg (tMeth A.cHouse "moves" (sp_House_moves K A) [] E0 (tVar 0) tNil) (gName 2)) (tRet (tLst (tCons (tMeth A.cMoves "carried_in" (sp_Moves_carried_in K A) [] E0 (tVar 2) (tCons (tVar 1) tNil)) (tCons (tCB (rMax K) (tCons (tOp rCat (tLst (tCons (tC (.int 0)) tNil)) (tFld K (tVar 2) "sizes")) tNil)) tNil))))))
theorem pure_House_order {K : PySem.W.Frag} {mg : Str → Option Value} {A : Ad} (T : Txt K mg A) {vs : List V} {H : Hp} {Q : VK} {E : XK} (pl : Pl H) (h : sp0_House_order K A vs H Q E) : t_House_order K A { nx := fun _ H' => Fg H Q .non H', rt := Fg H Q } (start N_House_order vs) H := by
  obtain ⟨N, h, a, f, l, rfl, HA, ha, q⟩ := h
  obtain ⟨wf, dx, fa, da, h1, F, Ds, nd⟩ := id HA
  obtain ⟨ld, l1, l2, l3⟩ := id Ds
  have hll : ld.length = f.days.length := by rw [← l1, List.length_map]
  rw [HF.res_order] at q
  refine g_when (ga_order (f := f) (l := l) pl (val_var rfl) ha (fun H1 s1 => val_is (val_len (v_days T (s1 _ _ h1) (val_var rfl)) (SqL.of (s1 _ _ l2))) (by rw [List.length_map, hll])) wf.few) (fun hb H1 s1 pl1 => ?_) fun hb H1 s1 pl1 => ?_
  · rw [if_neg (by simpa using hb)] at q
    exact s_its rfl s1 (gn_new pl1 (nw_lst (va_cons val_c va_nil) (by show 1 ≤ 100000; decide))) rfl q
  · have hb : HF.okOrder f l = true := by simpa using hb
    rw [if_pos hb] at q
    have hb' := hb
    unfold HF.okOrder at hb'
    rw [Bool.and_eq_true] at hb'
    have el := HF.all_nat hb'.1
    have hlt : ∀ d ∈ l.map Int.toNat, d < f.days.length := fun d hd => by
      obtain ⟨z, hz, rfl⟩ := List.mem_map.mp hd
      have := HF.bet_iff.mp (List.all_eq_true.mp hb'.1 z hz)
      omega
    have ea : H a = some (.lst (nts (l.map Int.toNat))) := by rw [ha, ← its_nts, ← el]
    generalize l.map Int.toNat = m at el hlt ea q
    refine q_moves pl1 (HA.same s1) (val_var rfl) fun u H2 hu s2 pl2 M => ?_
    obtain ⟨_, dm, pm, rm, rsm, m1, m2, m3, m4⟩ := id M
    have hmax : ∀ x : Int, x ∈ ((0 : Int) :: (sizesL f).map fun (n : Nat) => (n : Int)) → (∀ y, y ∈ ((0 : Int) :: (sizesL f).map fun (n : Nat) => (n : Int)) → y ≤ x) → x = (Vbsyae.most f : Int) := fun x hx hy => by
      have es : (Vbsyae.order f).map (fun d => (Vbsyae.places f d).length) = sizesL f := by
        unfold Vbsyae.order sizesL
        apply List.map_congr_left
        intro d hd
        exact HF.size_eq wf (List.mem_range.mp hd)
      have e : Vbsyae.most f = (sizesL f).foldl max 0 := by
        unfold Vbsyae.most
        rw [es]
      obtain ⟨k1, k2, k3⟩ := HF.foldmax (sizesL f) 0
      rw [← e] at k1 k2 k3
      have a1 : x ≤ (Vbsyae.most f : Int) := by
        rcases List.mem_cons.mp hx with rfl | hx
        · omega
        · obtain ⟨n, hn, rfl⟩ := List.mem_map.mp hx
          have := k2 n hn
          omega
      have a2 : (Vbsyae.most f : Int) ≤ x := by
        rcases k3 with k3 | k3
        · rw [k3]
          exact hy 0 List.mem_cons_self
        · exact hy _ (List.mem_cons_of_mem _ (List.mem_map.mpr ⟨_, k3, rfl⟩))
      omega
    have hsl : (sizesL f).length ≤ 20 := by unfold sizesL; rw [List.length_map, List.length_range]; exact wf.few
    refine s_its rfl (s1.trans s2) (gn_lst (vs := [V.int (HF.cin f m : Int), V.int (Vbsyae.most f : Int)]) (ga_cons (gv pl2 (val_meth (val_var rfl) m1 no_M (va_cons (val_var rfl) va_nil) fun Q q => ⟨pl2, u, a, f, m, rfl, M, SqL.of (s2 _ _ (s1 _ _ ea)), hlt, q⟩)) fun H3 s3 pl3 => ga_cons (fun Q q => gn_cat (xs := [V.int 0]) (ys := nts (sizesL f)) (gl_new (gn_new pl3 (nw_lst (va_cons val_c va_nil) (by show 1 ≤ 100000; decide)))) (fun H4 s4 pl4 => gl_val pl4 (v_sizes T (s4 _ _ (s3 _ _ m1)) (val_var rfl)) (s4 _ _ (s3 _ _ m4))) (by rw [len_nts]; show 1 + _ ≤ _; omega) _ fun w H4 hw s4 pl4 e4 => ⟨w, (0 : Int) :: (sizesL f).map fun (n : Nat) => (n : Int), rfl, SqL.of (by rw [e4, ← its_nts]; rfl), Nat.succ_pos _, fun x hx hy => by rw [hmax x hx hy]; exact q H4 s4 pl4⟩) fun H4 s4 pl4 => ga_nil pl4) (by show 2 ≤ 100000; decide)) ?_ q
    rw [its_ints, HF.carries_cin]
    rfl
theorem ok_House_order {P : Program} {w : World} {K : PySem.W.Frag} {mg : Str → Option Value} {base : Heap} {A : Ad} (T : Txt K mg A) : MOk P w K mg base CX0 A.cHouse "order" 8 ["self", "row"] (sp_House_order K A) := by
  obtain ⟨fn, fd, hm, F⟩ := T.f_House_order
  refine ⟨fn, fd, hm, fun_okG F sc_House_order (fun vs H Q E h => ?_) (fun cdv A' outer s H vs Q E hr pl h => ⟨t_House_order K A, ?_, pure_House_order T pl h⟩), F.binds fun _ _ _ _ _ _ us hl => match us, hl with | [_, _], _ => rfl⟩
  · obtain ⟨_, _, _, _, _, rfl, _⟩ := h
    rfl
  · exact (pss_cons (ps_if (pt_cmpR (op_neD (hu64 hr)) (pe_callB cr_sortedI rfl T.b_sorted PyProof.Rows.boot_sorted (pa_cons (pv 1) pa_nil)) (pe_listRg rfl rfl T.b_list (prg_1 rfl T.b_range (pe_callB call_len_seq rfl T.b_len PySem.boot_len (pa_cons (pe_fld (pv 0) rfl) pa_nil)))) (nomark _)) (pss_one (ps_ret (pe_lst (pa_cons (pe_gi rfl T.g_NO_LIST) pa_nil)))) pss_nil) (pss_cons (ps_set (i := 2) sc_House_order.nd rfl (Or.inl rfl) (pe_methM0 (pv 0) T.c_House (ok_House_moves T) (hr.mono (by decide)))) (pss_one (ps_ret (pe_lst (pa_cons (pe_methM (pv 2) T.c_Moves (ok_Moves_carried_in T) (hr.mono (by decide)) (pa_cons (pv 1) pa_nil)) (pa_cons (pe_callB (cr_max rfl) rfl T.b_max PyProof.Rows.boot_max (pa_cons (pe_op op_cat (pe_lst (pa_cons pe_int pa_nil)) (pe_fld (pv 2) rfl)) pa_nil)) pa_nil)))))))
def sp0_House_labels (K : PySem.W.Frag) (A : Ad) : Sp := fun vs H Q _ => ∃ (N : Addr → Prop) (h : Addr) (f : Vbsyae.Field), vs = [.ref h] ∧ HouseAt A N H h f ∧ ∀ p, H p = none → Q (.ref p) (upd H p (.lst (its (HF.res f .labels).2)))
abbrev sp_House_labels (K : PySem.W.Frag) (A : Ad) : Sp := Plain (sp0_House_labels K A)
def t_House_labels (K : PySem.W.Frag) (A : Ad) : TS := (tSeq (tIfS (tTest (tOp rGtI (tCB (cLen K) (tCons (tFld K (tVar 0) "days") tNil)) (tC (.int (7))))) (tRet (tLst (tCons (tC (.int (-9))) tNil))) tNext) (tSeq (tAsg (tLst tNil) (gName 1)) (tSeq (tFor (iList K (tMeth A.cMoves "table" (sp_Moves_table K A) [] E0 (tMeth A.cHouse "moves" (sp_House_moves K A) [] E0 (tVar 0) tNil) tNil)) (gName 2) (tAsg (tOp rCat (tVar 1) (tVar 2)) (gName 1))) (tRet (tOp rCat (tLst (tCons (tCB (cLen K) (tCons (tVar 1) tNil)) tNil)) (tVar 1))))))
theorem pure_House_labels {K : PySem.W.Frag} {mg : Str → Option Value} {A : Ad} (T : Txt K mg A) {vs : List V} {H : Hp} {Q : VK} {E : XK} (pl : Pl H) (h : sp0_House_labels K A vs H Q E) : t_House_labels K A { nx := fun _ H' => Fg H Q .non H', rt := Fg H Q } (start N_House_labels vs) H := by
  obtain ⟨N, h, f, rfl, HA, q⟩ := h
  obtain ⟨wf, dx, fa, da, h1, F, Ds, nd⟩ := id HA
  obtain ⟨ld, l1, l2, l3⟩ := id Ds
  have hll : ld.length = f.days.length := by rw [← l1, List.length_map]
  rw [HF.res_labels] at q
  refine q_when (an_test (val_cmp (val_is (val_len (v_days T h1 (val_var rfl)) (SqL.of l2)) (by rw [List.length_map, hll])) val_c)) (fun hb => ?_) fun hb => ?_
  · have hb := of_decide_eq_true hb
    rw [if_neg (by omega)] at q
    exact s_its rfl (Same.refl H) (gn_new pl (nw_lst (va_cons val_c va_nil) (by show 1 ≤ 100000; decide))) rfl q
  · have hb := of_decide_eq_false hb
    have hn : f.days.length ≤ 7 := by omega
    have hp2 := HF.pow_le hn
    rw [if_pos hn] at q
    have rl : ∀ y, (HF.rowI f y).length = f.days.length := fun y => by unfold HF.rowI; rw [List.length_map, List.length_range]
    have fl : ∀ i, ((List.range i).flatMap (HF.rowI f)).length = i * f.days.length := fun i => by
      induction i with
      | zero => simp
      | succ i ih => rw [List.range_succ, List.flatMap_append, List.length_append, ih, List.flatMap_singleton, rl, Nat.succ_mul]
    refine q_setN (xs := []) (nw_lst va_nil (Nat.zero_le _)) fun p hp => ?_
    have s0 := same_new (o := .lst []) hp
    refine q_forG (fun b H1 => ∃ rs, Same (upd H p (.lst [])) H1 ∧ Pl H1 ∧ H1 b = some (.lst rs) ∧ Lsts (fun t => t ≠ b) H1 ((List.range (2 ^ f.days.length)).map (HF.rowI f)) rs) (fun Q q => r_moves _ (pl.upd rfl) (HA.same s0) (val_var rfl) fun m H1 hm s1 pl1 M => ?_) ?_
    · obtain ⟨_, dm, pm, rm, rsm, m1, m2, m3, m4⟩ := id M
      exact ⟨m, dm, _, rfl, m1, no_M, m, f, rfl, pl1, M, hn, fun b rs H2 hb s2 pl2 e2 ls => q b H2 ⟨rs, s1.trans s2, pl2, e2, ls⟩⟩
    · rintro b H1 ⟨rs, s1, pl1, e1, ls⟩
      have hrl : rs.length = 2 ^ f.days.length := by rw [ls.len, List.length_map, List.length_range]
      refine ⟨rs, fun i σ' H' => ∃ u v2, σ' = [some (.ref h), some (.ref u), v2] ∧ Same H1 H' ∧ Pl H' ∧ H u = none ∧ H' u = some (.lst (its ((List.range i).flatMap (HF.rowI f)))) ∧ i ≤ rs.length, SqL.of e1, ⟨p, none, rfl, Same.refl H1, pl1, hp, s1 _ _ upd_same, Nat.zero_le _⟩, ?_, ?_, ?_⟩
      · rintro i σ' H' ⟨u, v2, rfl, s2, pl2, hu, eu, hi⟩
        exact SqL.of (s2 _ _ e1)
      · rintro i x σ' H' hx ⟨u, v2, rfl, s2, pl2, hu, eu, hi⟩
        have hil : i < rs.length := (List.getElem?_eq_some_iff.mp hx).1
        have hip : i < 2 ^ f.days.length := by omega
        obtain ⟨t, t1, _, t2⟩ := ls.at_ (i := i) (ns := HF.rowI f i) (by rw [List.getElem?_map, List.getElem?_range hip]; rfl)
        rw [hx] at t1
        obtain rfl := Option.some.inj t1
        have hbd : i * f.days.length ≤ 128 * 7 := Nat.mul_le_mul (by omega) hn
        refine gs_setN (gn_cat (ys := its (HF.rowI f i)) (gl_val pl2 (val_var rfl) eu) (fun H3 s3 pl3 => gl_val pl3 (val_var rfl) (s3 _ _ (s2 _ _ t2))) (by rw [len_its, len_its, fl, rl]; omega)) fun u' H3 hu' s3 pl3 e3 => ?_
        refine ⟨u', _, rfl, s2.trans s3, pl3, (s0.trans (s1.trans s2)).free hu', ?_, hil⟩
        rw [e3, List.range_succ, List.flatMap_append, List.flatMap_singleton]
        unfold its
        rw [List.map_append]
      · rintro σ' H' ⟨u, v2, rfl, s2, pl2, hu, eu, hi⟩
        rw [hrl] at eu
        have hbd : 2 ^ f.days.length * f.days.length ≤ 128 * 7 := Nat.mul_le_mul hp2 hn
        refine s_its rfl (s0.trans (s1.trans s2)) (gn_cat (gl_new (gn_new pl2 (nw_lst (va_cons (val_len (val_var rfl) (SqL.of eu)) va_nil) (by show 1 ≤ 100000; decide)))) (fun H3 s3 pl3 => gl_val pl3 (val_var rfl) (s3 _ _ eu)) (by rw [len_its, fl]; show 1 + _ ≤ _; omega)) ?_ q
        rw [len_its]
        rfl
theorem ok_House_labels {P : Program} {w : World} {K : PySem.W.Frag} {mg : Str → Option Value} {base : Heap} {A : Ad} (T : Txt K mg A) : MOk P w K mg base CX0 A.cHouse "labels" 8 ["self"] (sp_House_labels K A) := by
  obtain ⟨fn, fd, hm, F⟩ := T.f_House_labels
  refine ⟨fn, fd, hm, fun_okG F sc_House_labels (fun vs H Q E h => ?_) (fun cdv A' outer s H vs Q E hr pl h => ⟨t_House_labels K A, ?_, pure_House_labels T pl h⟩), F.binds fun _ _ _ _ _ _ us hl => match us, hl with | [_], _ => rfl⟩
  · obtain ⟨_, _, _, rfl, _⟩ := h
    rfl
  · exact (pss_cons (ps_if (pt_cmpR op_gt (pe_callB call_len_seq rfl T.b_len PySem.boot_len (pa_cons (pe_fld (pv 0) rfl) pa_nil)) (pe_gi rfl T.g_MOST_ORDERED) (nomark _)) (pss_one (ps_ret (pe_lst (pa_cons (pe_gi rfl T.g_TOO_MANY) pa_nil)))) pss_nil) (pss_cons (ps_set (i := 1) sc_House_labels.nd rfl (Or.inl rfl) (pe_lst pa_nil)) (pss_cons (ps_for PassesOwn.never rfl (pi_list (pe_methM0 (pe_methM0 (pv 0) T.c_House (ok_House_moves T) (hr.mono (by decide))) T.c_Moves (ok_Moves_table T) (hr.mono (by decide)))) (pg_name (i := 2) sc_House_labels.nd rfl (Or.inl rfl)) (pss_one (ps_set (i := 1) sc_House_labels.nd rfl (Or.inl rfl) (pe_op op_cat (pv 1) (pv 2))))) (pss_one (ps_ret (pe_op op_cat (pe_lst (pa_cons (pe_callB call_len_seq rfl T.b_len PySem.boot_len (pa_cons (pv 1) pa_nil)) pa_nil)) (pv 1)))))))
def sp0_House_day_fault (K : PySem.W.Frag) (A : Ad) : Sp := fun vs H Q _ => ∃ (N : Addr → Prop) (h : Addr) (f : Vbsyae.Field) (d : Int), vs = [.ref h, .int d] ∧ HouseAt A N H h f ∧ ∀ p, H p = none → Q (.ref p) (upd H p (.lst (its (HF.dfault f d))))
abbrev sp_House_day_fault (K : PySem.W.Frag) (A : Ad) : Sp := Plain (sp0_House_day_fault K A)
def t_House_day_fault (K : PySem.W.Frag) (A : Ad) : TS := (tSeq (tIfS (tB (tCall (sp_is_out K A) [] E0 (tCons (tVar 1) (tCons (tC (.int 0)) (tCons (tC (.int 19)) tNil))))) (tRet (tLst (tCons (tC (.int (-3))) tNil))) tNext) (tSeq (tIfS (tTest (tOp rGeI (tVar 1) (tCB (cLen K) (tCons (tFld K (tVar 0) "days") tNil)))) (tRet (tLst (tCons (tC (.int (-5))) tNil))) tNext) (tRet (tLst tNil))))
theorem pure_House_day_fault {K : PySem.W.Frag} {mg : Str → Option Value} {A : Ad} (T : Txt K mg A) {vs : List V} {H : Hp} {Q : VK} {E : XK} (pl : Pl H) (h : sp0_House_day_fault K A vs H Q E) : t_House_day_fault K A { nx := fun _ H' => Fg H Q .non H', rt := Fg H Q } (start N_House_day_fault vs) H := by
  obtain ⟨N, h, f, d, rfl, HA, q⟩ := h
  obtain ⟨wf, dx, fa, da, h1, F, Ds, nd⟩ := id HA
  obtain ⟨ld, l1, l2, l3⟩ := id Ds
  have hll : ld.length = f.days.length := by rw [← l1, List.length_map]
  unfold HF.dfault at q
  refine q_when (an_B (v_out pl (val_var rfl) val_c val_c)) (fun hb => ?_) fun hb => ?_
  · rw [if_pos (by simpa using hb)] at q
    exact s_its rfl (Same.refl H) (gn_new pl (nw_lst (va_cons val_c va_nil) (by show 1 ≤ 100000; decide))) rfl q
  · have hb : VbsyCore.isBetween d 0 19 = true := by simpa using hb
    rw [if_neg (by rw [hb]; simp)] at q
    have hd := HF.bet_iff.mp hb
    refine q_when (an_test (val_cmp (val_var rfl) (val_is (val_len (v_days T h1 (val_var rfl)) (SqL.of l2)) (by rw [List.length_map, hll])))) (fun hb => ?_) fun hb => ?_
    · have hb := of_decide_eq_true hb
      rw [if_pos (by omega)] at q
      exact s_its rfl (Same.refl H) (gn_new pl (nw_lst (va_cons val_c va_nil) (by show 1 ≤ 100000; decide))) rfl q
    · have hb := of_decide_eq_false hb
      rw [if_neg (by omega)] at q
      exact s_its rfl (Same.refl H) (gn_new pl (nw_lst va_nil (Nat.zero_le _))) rfl q
theorem ok_House_day_fault {P : Program} {w : World} {K : PySem.W.Frag} {mg : Str → Option Value} {base : Heap} {A : Ad} (T : Txt K mg A) : MOk P w K mg base CX0 A.cHouse "day_fault" 2 ["self", "d"] (sp_House_day_fault K A) := by
  obtain ⟨fn, fd, hm, F⟩ := T.f_House_day_fault
  refine ⟨fn, fd, hm, fun_okG F sc_House_day_fault (fun vs H Q E h => ?_) (fun cdv A' outer s H vs Q E hr pl h => ⟨t_House_day_fault K A, ?_, pure_House_day_fault T pl h⟩), F.binds fun _ _ _ _ _ _ us hl => match us, hl with | [_, _], _ => rfl⟩
  · obtain ⟨_, _, _, _, rfl, _⟩ := h
    rfl
  · exact (pss_cons (ps_if (pt_val (pe_callM (ok_is_out T) (hr.mono (by decide)) rfl (pa_cons (pv 1) (pa_cons pe_int (pa_cons pe_int pa_nil))))) (pss_one (ps_ret (pe_lst (pa_cons (pe_gi rfl T.g_OUT_OF_RANGE) pa_nil)))) pss_nil) (pss_cons (ps_if (pt_cmpR op_ge (pv 1) (pe_callB call_len_seq rfl T.b_len PySem.boot_len (pa_cons (pe_fld (pv 0) rfl) pa_nil)) (nomark _)) (pss_one (ps_ret (pe_lst (pa_cons (pe_gi rfl T.g_NO_DAY) pa_nil)))) pss_nil) (pss_one (ps_ret (pe_lst pa_nil)))))
def sp0_House_between (K : PySem.W.Frag) (A : Ad) : Sp := fun vs H Q _ => ∃ (N : Addr → Prop) (h : Addr) (f : Vbsyae.Field) (a b : Int), vs = [.ref h, .int a, .int b] ∧ HouseAt A N H h f ∧ ∀ p, H p = none → Q (.ref p) (upd H p (.lst (its (HF.res f (.between a b)).2)))
abbrev sp_House_between (K : PySem.W.Frag) (A : Ad) : Sp := Plain (sp0_House_between K A)
def t_House_between (K : PySem.W.Frag) (A : Ad) : TS := (tSeq (tAsg (tSl (rSlL K) (tOp rCat (tMeth A.cHouse "day_fault" (sp_House_day_fault K A) [] E0 (tVar 0) (tCons (tVar 1) tNil)) (tMeth A.cHouse "day_fault" (sp_House_day_fault K A) [] E0 (tVar 0) (tCons (tVar 2) tNil))) tNoPart (tPart (tC (.int 1)))) (gName 3)) (tSeq (tIfS (tTest (tOp rGtI (tCB (cLen K) (tCons (tVar 3) tNil)) (tC (.int 0)))) (tRet (tVar 3)) tNext) (tSeq (tAsg (tMeth A.cHouse "moves" (sp_House_moves K A) [] E0 (tVar 0) tNil) (gName 4)) (tRet (tLst (tCons (tMeth A.cMoves "carried" (sp_Moves_carried K A) [] E0 (tVar 4) (tCons (tVar 1) (tCons (tVar 2) tNil))) (tCons (tMeth A.cMoves "staying" (sp_Moves_staying K A) [] E0 (tVar 4) (tCons (tVar 1) (tCons (tVar 2) tNil))) tNil)))))))
theorem pure_House_between {K : PySem.W.Frag} {mg : Str → Option Value} {A : Ad} (T : Txt K mg A) {vs : List V} {H : Hp} {Q : VK} {E : XK} (pl : Pl H) (h : sp0_House_between K A vs H Q E) : t_House_between K A { nx := fun _ H' => Fg H Q .non H', rt := Fg H Q } (start N_House_between vs) H := by
  obtain ⟨N, h, f, a, b, rfl, HA, q⟩ := h
  obtain ⟨wf, dx, fa, da, h1, F, Ds, nd⟩ := id HA
  have dl : ∀ d, (HF.dfault f d).length ≤ 1 := fun d => by
    unfold HF.dfault
    split
    · exact Nat.le_refl _
    · split
      · exact Nat.le_refl _
      · exact Nat.zero_le _
  have hda := dl a
  have hdb := dl b
  rw [HF.res_between] at q
  refine g_setN (xs := its ((HF.dfault f a ++ HF.dfault f b).take 1)) (gn_is (gn_sl1 (gl_new (gn_cat (xs := its (HF.dfault f a)) (ys := its (HF.dfault f b)) (gl_new (gn_new pl (nw_meth (val_var rfl) h1 no_H (va_cons (val_var rfl) va_nil) fun Q q => ⟨pl, N, h, f, a, rfl, HA, q⟩))) (fun H1 s1 pl1 => gl_new (gn_new pl1 (nw_meth (val_var rfl) (s1 _ _ h1) no_H (va_cons (val_var rfl) va_nil) fun Q q => ⟨pl1, N, h, f, b, rfl, HA.same s1, q⟩))) (by rw [len_its, len_its]; omega)))) (by unfold its; rw [← List.map_append, ← List.map_take])) fun p H1 hp s1 pl1 e1 => ?_
  refine q_when (b := decide ((0 : Int) < (((HF.dfault f a ++ HF.dfault f b).take 1).length : Int))) (an_test (val_is (val_cmp (val_len (val_var rfl) (SqL.of e1)) val_c) (by rw [len_its]))) (fun hb => ?_) fun hb => ?_
  · have hb := of_decide_eq_true hb
    cases hr : (HF.dfault f a ++ HF.dfault f b).take 1 with
    | nil => rw [hr] at hb; exact absurd hb (by simp)
    | cons x r =>
      rw [hr] at q e1
      exact s_itsV rfl s1 (val_var rfl) hp e1 q
  · have hb := of_decide_eq_false hb
    have hr : (HF.dfault f a ++ HF.dfault f b).take 1 = [] := by
      rw [← List.length_eq_zero_iff]
      omega
    have hr2 : HF.dfault f a ++ HF.dfault f b = [] := by
      rcases List.take_eq_nil_iff.mp hr with h | h
      · cases h
      · exact h
    rw [hr] at q
    have fa0 := (List.append_eq_nil_iff.mp hr2).1
    have fb0 := (List.append_eq_nil_iff.mp hr2).2
    have ok : ∀ d, HF.dfault f d = [] → d = ((d.toNat : Nat) : Int) ∧ d.toNat < f.days.length := fun d hd => by
      unfold HF.dfault at hd
      split at hd
      · cases hd
      · rename_i h2
        split at hd
        · cases hd
        · have : VbsyCore.isBetween d 0 19 = true := by simpa using h2
          have := HF.bet_iff.mp this
          omega
    obtain ⟨ea, la⟩ := ok a fa0
    obtain ⟨eb, lb⟩ := ok b fb0
    simp only at q
    rw [HF.stay_eq wf la lb] at q
    generalize a.toNat = m at ea la q
    generalize b.toNat = n at eb lb q
    subst ea
    subst eb
    refine q_moves pl1 (HA.same s1) (val_var rfl) fun u H2 hu s2 pl2 M => ?_
    exact s_its rfl (s1.trans s2) (gn_new pl2 (nw_lst (va_cons (v_carried pl2 M (val_var rfl) (val_var rfl) (val_var rfl) la lb) (va_cons (v_staying pl2 M (val_var rfl) (val_var rfl) (val_var rfl) la lb) va_nil)) (by show 2 ≤ 100000; decide))) rfl q
theorem ok_House_between {P : Program} {w : World} {K : PySem.W.Frag} {mg : Str → Option Value} {base : Heap} {A : Ad} (T : Txt K mg A) : MOk P w K mg base CX0 A.cHouse "between" 8 ["self", "a", "b"] (sp_House_between K A) := by
  obtain ⟨fn, fd, hm, F⟩ := T.f_House_between
  refine ⟨fn, fd, hm, fun_okG F sc_House_between (fun vs H Q E h => ?_) (fun cdv A' outer s H vs Q E hr pl h => ⟨t_House_between K A, ?_, pure_House_between T pl h⟩), F.binds fun _ _ _ _ _ _ us hl => match us, hl with | [_, _, _], _ => rfl⟩
  · obtain ⟨_, _, _, _, _, rfl, _⟩ := h
    rfl
  · exact (pss_cons (ps_set (i := 3) sc_House_between.nd rfl (Or.inl rfl) (pe_slice sl_list (pe_op op_cat (pe_methM (pv 0) T.c_House (ok_House_day_fault T) (hr.mono (by decide)) (pa_cons (pv 1) pa_nil)) (pe_methM (pv 0) T.c_House (ok_House_day_fault T) (hr.mono (by decide)) (pa_cons (pv 2) pa_nil))) po_none (po_some pe_int))) (pss_cons (ps_if (pt_cmpR op_gt (pe_callB call_len_seq rfl T.b_len PySem.boot_len (pa_cons (pv 3) pa_nil)) pe_int (nomark _)) (pss_one (ps_ret (pv 3))) pss_nil) (pss_cons (ps_set (i := 4) sc_House_between.nd rfl (Or.inl rfl) (pe_methM0 (pv 0) T.c_House (ok_House_moves T) (hr.mono (by decide)))) (pss_one (ps_ret (pe_lst (pa_cons (pe_methM (pv 4) T.c_Moves (ok_Moves_carried T) (hr.mono (by decide)) (pa_cons (pv 1) (pa_cons (pv 2) pa_nil))) (pa_cons (pe_methM (pv 4) T.c_Moves (ok_Moves_staying T) (hr.mono (by decide)) (pa_cons (pv 1) (pa_cons (pv 2) pa_nil))) pa_nil))))))))
end HW

namespace HW
open PySem PySem.Spec PyProof.Rows L2
/-- what a call's end must give -/
def Kq (A : Ad) (N : Addr → Prop) (H : Hp) (h : Addr) (f : Vbsyae.Field) (c : Vbsyae.Call) (Q : VK) : Prop := ∀ p H', H p = none → Kp N h H H' → Pl H' → HouseAt A N H' h (HF.res f c).1 → H' p = some (.lst (its (HF.res f c).2)) → Q (.ref p) H'
theorem Kq.G {A : Ad} {N : Addr → Prop} {H : Hp} {h : Addr} {f : Vbsyae.Field} {c : Vbsyae.Call} {Q : VK} (k : Kq A N H h f c Q) (e : (HF.res f c).1 = f) (pl : Pl H) (HA : HouseAt A N H h f) : ∀ p, H p = none → Q (.ref p) (upd H p (.lst (its (HF.res f c).2))) := fun p hp =>
  k p _ hp (Kp.of (same_new hp)) (pl.upd rfl) (by rw [e]; exact HA.same (same_new hp)) upd_same
section
variable {σ : L2.St} {H : Hp} {ta : TE} {t : TA} {C : Addr} {m : Str} {sp : Sp} {E : XK} {D : Ends} {t1 t3 : TS} {a dx : Addr} {fs : List (Str × V)} {vs : List V} {i j : Int}
theorem s_retMeth (h : Val ta σ H (.ref a)) (ho : H a = some (.ins C dx fs)) (hm : fs.lookup m = none) (h2 : ValA t σ H vs) (hs : sp (.ref a :: vs) H D.rt E) : tRet (tMeth C m sp [] E ta t) D σ H := val_meth_nd h ho hm h2 hs
theorem q_case (h : Val ta σ H (.int i)) (k1 : i = j → t1 { D with nx := t3 D } σ H) (k2 : i ≠ j → t3 D σ H) : tSeq (tIfS (tTest (tOp rEq ta (tC (.int j)))) t1 tNext) t3 D σ H :=
  q_when (an_test (val_eqI h val_c)) (fun hb => k1 (of_decide_eq_true hb)) fun hb => k2 (of_decide_eq_false hb)
end
theorem res_G {f : Vbsyae.Field} {c : Vbsyae.Call} (h : c = .text ∨ c = .told ∨ c = .curve ∨ c = .plan ∨ (∃ l, c = .look l)) : (HF.res f c).1 = f := by
  rcases h with rfl | rfl | rfl | rfl | ⟨l, rfl⟩
  · rfl
  · rfl
  · rfl
  · rfl
  · unfold HF.res
    rw [HF.run_look]
    simp only [bind, Except.bind]
    cases Vbsyae.textIn l with
    | error e => rfl
    | ok b =>
      simp only
      cases Vbsyae.readField b <;> rfl
def sp_told_of_row (K : PySem.W.Frag) (A : Ad) : Sp := fun vs H Q _ => ∃ (N : Addr → Prop) (h a : Addr) (f : Vbsyae.Field) (k : Int) (l : List Int), vs = [.ref h, .int k, .ref a] ∧ Pl H ∧ HouseAt A N H h f ∧ (∀ b, H b = none → N b) ∧ H a = some (.lst (its l)) ∧ l.length ≤ 2000 ∧ Kq A N H h f (HF.rowCall k l) Q
def t_told_of_row (K : PySem.W.Frag) (A : Ad) : TS := (tSeq (tIfS (tTest (tOp rEq (tVar 1) (tC (.int 1)))) (tRet (tMeth A.cHouse "set_field" (sp_House_set_field K A) [] E0 (tVar 0) (tCons (tVar 2) tNil))) tNext) (tSeq (tIfS (tTest (tOp rEq (tVar 1) (tC (.int 2)))) (tRet (tMeth A.cHouse "look" (sp_House_look K A) [] E0 (tVar 0) (tCons (tVar 2) tNil))) tNext) (tSeq (tIfS (tTest (tOp rEq (tVar 1) (tC (.int 4)))) (tRet (tMeth A.cHouse "add_day" (sp_House_add_day K A) [] E0 (tVar 0) (tCons (tVar 2) tNil))) tNext) (tSeq (tIfS (tTest (tOp rEq (tVar 1) (tC (.int 7)))) (tRet (tMeth A.cHouse "cost" (sp_House_cost K A) [] E0 (tVar 0) (tCons (tVar 2) tNil))) tNext) (tSeq (tIfS (tTest (tOp rEq (tVar 1) (tC (.int 8)))) (tRet (tMeth A.cHouse "sides" (sp_House_sides K A) [] E0 (tVar 0) (tCons (tVar 2) tNil))) tNext) (tSeq (tIfS (tTest (tOp rEq (tVar 1) (tC (.int 13)))) (tRet (tMeth A.cHouse "rounded" (sp_House_rounded K A) [] E0 (tVar 0) (tCons (tVar 2) tNil))) tNext) (tRet (tMeth A.cHouse "order" (sp_House_order K A) [] E0 (tVar 0) (tCons (tVar 2) tNil)))))))))
theorem pure_told_of_row {K : PySem.W.Frag} {mg : Str → Option Value} {A : Ad} (T : Txt K mg A) {vs : List V} {H : Hp} {Q : VK} {E : XK} (h : sp_told_of_row K A vs H Q E) : t_told_of_row K A { nx := fun _ H' => Q .non H', rt := Q } (start N_told_of_row vs) H := by
  obtain ⟨N, h, a, f, k, l, rfl, pl, HA, hN, ha, hz, q⟩ := h
  obtain ⟨wf, dx, fa, da, h1, F, Ds, nd⟩ := id HA
  unfold HF.rowCall at q
  refine q_case (val_var rfl) (fun e => ?_) fun e => ?_
  · rw [if_pos e] at q
    exact s_retMeth (val_var rfl) h1 no_H (va_cons (val_var rfl) va_nil) ⟨N, h, a, f, l, rfl, pl, HA, hN, ha, hz, q⟩
  rw [if_neg e] at q
  refine q_case (val_var rfl) (fun e => ?_) fun e => ?_
  · rw [if_pos e] at q
    exact s_retMeth (val_var rfl) h1 no_H (va_cons (val_var rfl) va_nil) ⟨pl, N, h, a, f, l, rfl, HA, ha, hz, q.G (res_G (.inr (.inr (.inr (.inr ⟨l, rfl⟩))))) pl HA⟩
  rw [if_neg e] at q
  refine q_case (val_var rfl) (fun e => ?_) fun e => ?_
  · rw [if_pos e] at q
    exact s_retMeth (val_var rfl) h1 no_H (va_cons (val_var rfl) va_nil) ⟨N, h, a, f, l, rfl, pl, HA, hN, ha, hz, q⟩
  rw [if_neg e] at q
  refine q_case (val_var rfl) (fun e => ?_) fun e => ?_
  · rw [if_pos e] at q
    exact s_retMeth (val_var rfl) h1 no_H (va_cons (val_var rfl) va_nil) ⟨pl, N, h, a, f, l, rfl, HA, ha, hz, q.G (by rw [HF.res_cost]) pl HA⟩
  rw [if_neg e] at q
  refine q_case (val_var rfl) (fun e => ?_) fun e => ?_
  · rw [if_pos e] at q
    exact s_retMeth (val_var rfl) h1 no_H (va_cons (val_var rfl) va_nil) ⟨pl, N, h, a, f, l, rfl, HA, ha, hz, q.G (by rw [HF.res_sides]) pl HA⟩
  rw [if_neg e] at q
  refine q_case (val_var rfl) (fun e => ?_) fun e => ?_
  · rw [if_pos e] at q
    exact s_retMeth (val_var rfl) h1 no_H (va_cons (val_var rfl) va_nil) ⟨pl, N, h, a, f, l, rfl, HA, ha, hz, q.G (by rw [HF.res_rounded]) pl HA⟩
  rw [if_neg e] at q
  exact s_retMeth (val_var rfl) h1 no_H (va_cons (val_var rfl) va_nil) ⟨pl, N, h, a, f, l, rfl, HA, ha, q.G (by rw [HF.res_order]) pl HA⟩
theorem ok_told_of_row {P : Program} {w : World} {K : PySem.W.Frag} {mg : Str → Option Value} {base : Heap} {A : Ad} (T : Txt K mg A) : FOk P w K mg base CX0 "told_of_row" 9 ["house", "kind", "row"] (sp_told_of_row K A) := by
  obtain ⟨fn, fd, hm, F⟩ := T.f_told_of_row
  refine ⟨fn, fd, hm, F.ok sc_told_of_row (fun vs H Q E h => ?_) (fun cdv A' outer s H vs Q E hr h => ⟨t_told_of_row K A, ?_, pure_told_of_row T h⟩), F.binds fun _ _ _ _ _ _ us hl => match us, hl with | [_, _, _], _ => rfl⟩
  · obtain ⟨_, _, _, _, _, _, rfl, _⟩ := h
    rfl
  · exact (pss_cons (ps_if (pt_cmpR op_eq (pv 1) pe_int (nomark _)) (pss_one (ps_ret (pe_methM (pv 0) T.c_House (ok_House_set_field T) (hr.mono (by decide)) (pa_cons (pv 2) pa_nil)))) pss_nil) (pss_cons (ps_if (pt_cmpR op_eq (pv 1) pe_int (nomark _)) (pss_one (ps_ret (pe_methM (pv 0) T.c_House (ok_House_look T) (hr.mono (by decide)) (pa_cons (pv 2) pa_nil)))) pss_nil) (pss_cons (ps_if (pt_cmpR op_eq (pv 1) pe_int (nomark _)) (pss_one (ps_ret (pe_methM (pv 0) T.c_House (ok_House_add_day T) (hr.mono (by decide)) (pa_cons (pv 2) pa_nil)))) pss_nil) (pss_cons (ps_if (pt_cmpR op_eq (pv 1) pe_int (nomark _)) (pss_one (ps_ret (pe_methM (pv 0) T.c_House (ok_House_cost T) (hr.mono (by decide)) (pa_cons (pv 2) pa_nil)))) pss_nil) (pss_cons (ps_if (pt_cmpR op_eq (pv 1) pe_int (nomark _)) (pss_one (ps_ret (pe_methM (pv 0) T.c_House (ok_House_sides T) (hr.mono (by decide)) (pa_cons (pv 2) pa_nil)))) pss_nil) (pss_cons (ps_if (pt_cmpR op_eq (pv 1) pe_int (nomark _)) (pss_one (ps_ret (pe_methM (pv 0) T.c_House (ok_House_rounded T) (hr.mono (by decide)) (pa_cons (pv 2) pa_nil)))) pss_nil) (pss_one (ps_ret (pe_methM (pv 0) T.c_House (ok_House_order T) (hr.mono (by decide)) (pa_cons (pv 2) pa_nil))))))))))
def sp_told_of_numbers (K : PySem.W.Frag) (A : Ad) : Sp := fun vs H Q _ => ∃ (N : Addr → Prop) (h a : Addr) (f : Vbsyae.Field) (k : Int) (l : List Int), vs = [.ref h, .int k, .ref a] ∧ Pl H ∧ HouseAt A N H h f ∧ (∀ b, H b = none → N b) ∧ H a = some (.lst (its l)) ∧ 1 ≤ l.length ∧ (HF.isOne k ∨ 2 ≤ l.length) ∧ Kq A N H h f (HF.numCall k (l.getD 0 0) (l.getD 1 0)) Q
def t_told_of_numbers (K : PySem.W.Frag) (A : Ad) : TS := (tSeq (tIfS (tTest (tOp rEq (tVar 1) (tC (.int 5)))) (tRet (tMeth A.cHouse "undo" (sp_House_undo K A) [] E0 (tVar 0) (tCons (tOp (rIxL K) (tVar 2) (tC (.int 0))) tNil))) tNext) (tSeq (tIfS (tTest (tOp rEq (tVar 1) (tC (.int 9)))) (tRet (tMeth A.cHouse "rect" (sp_House_rect K A) [] E0 (tVar 0) (tCons (tOp (rIxL K) (tVar 2) (tC (.int 0))) (tCons (tOp (rIxL K) (tVar 2) (tC (.int 1))) tNil)))) tNext) (tSeq (tIfS (tTest (tOp rEq (tVar 1) (tC (.int 10)))) (tRet (tMeth A.cHouse "best" (sp_House_best K A) [] E0 (tVar 0) (tCons (tOp (rIxL K) (tVar 2) (tC (.int 0))) tNil))) tNext) (tSeq (tIfS (tTest (tOp rEq (tVar 1) (tC (.int 11)))) (tRet (tMeth A.cHouse "least" (sp_House_least K A) [] E0 (tVar 0) (tCons (tOp (rIxL K) (tVar 2) (tC (.int 0))) tNil))) tNext) (tRet (tMeth A.cHouse "between" (sp_House_between K A) [] E0 (tVar 0) (tCons (tOp (rIxL K) (tVar 2) (tC (.int 0))) (tCons (tOp (rIxL K) (tVar 2) (tC (.int 1))) tNil))))))))
theorem pure_told_of_numbers {K : PySem.W.Frag} {mg : Str → Option Value} {A : Ad} (T : Txt K mg A) {vs : List V} {H : Hp} {Q : VK} {E : XK} (h : sp_told_of_numbers K A vs H Q E) : t_told_of_numbers K A { nx := fun _ H' => Q .non H', rt := Q } (start N_told_of_numbers vs) H := by
  obtain ⟨N, h, a, f, k, l, rfl, pl, HA, hN, ha, hz, h2, q⟩ := h
  obtain ⟨wf, dx, fa, da, h1, F, Ds, nd⟩ := id HA
  have e0 : atI (its l) 0 = some (.int (l.getD 0 0)) := its_at (i := 0) (by omega)
  have e1 : k ≠ 5 → k ≠ 10 → k ≠ 11 → atI (its l) 1 = some (.int (l.getD 1 0)) := fun a1 a2 a3 => its_at (i := 1) (by
    rcases h2 with (h | h | h) | h
    · exact absurd h a1
    · exact absurd h a2
    · exact absurd h a3
    · omega)
  generalize l.getD 0 0 = x at e0 q
  generalize l.getD 1 0 = y at e1 q
  unfold HF.numCall at q
  refine q_case (val_var rfl) (fun e => ?_) fun e5 => ?_
  · rw [if_pos e] at q
    exact s_retMeth (val_var rfl) h1 no_H (va_cons (val_ixL (val_var rfl) val_c (SqL.of ha) e0) va_nil) ⟨N, h, f, x, rfl, pl, HA, hN, q⟩
  rw [if_neg e5] at q
  refine q_case (val_var rfl) (fun e => ?_) fun e9 => ?_
  · rw [if_pos e] at q
    exact s_retMeth (val_var rfl) h1 no_H (va_cons (val_ixL (val_var rfl) val_c (SqL.of ha) e0) (va_cons (val_ixL (val_var rfl) val_c (SqL.of ha) (e1 (by omega) (by omega) (by omega))) va_nil)) ⟨pl, N, h, f, x, y, rfl, HA, q.G (by rw [HF.res_rect]) pl HA⟩
  rw [if_neg e9] at q
  refine q_case (val_var rfl) (fun e => ?_) fun e10 => ?_
  · rw [if_pos e] at q
    exact s_retMeth (val_var rfl) h1 no_H (va_cons (val_ixL (val_var rfl) val_c (SqL.of ha) e0) va_nil) ⟨pl, N, h, f, x, rfl, HA, q.G (by rw [HF.res_best]) pl HA⟩
  rw [if_neg e10] at q
  refine q_case (val_var rfl) (fun e => ?_) fun e11 => ?_
  · rw [if_pos e] at q
    exact s_retMeth (val_var rfl) h1 no_H (va_cons (val_ixL (val_var rfl) val_c (SqL.of ha) e0) va_nil) ⟨pl, N, h, f, x, rfl, HA, q.G (by rw [HF.res_least]) pl HA⟩
  rw [if_neg e11] at q
  exact s_retMeth (val_var rfl) h1 no_H (va_cons (val_ixL (val_var rfl) val_c (SqL.of ha) e0) (va_cons (val_ixL (val_var rfl) val_c (SqL.of ha) (e1 e5 e10 e11)) va_nil)) ⟨pl, N, h, f, x, y, rfl, HA, q.G (by rw [HF.res_between]) pl HA⟩
theorem ok_told_of_numbers {P : Program} {w : World} {K : PySem.W.Frag} {mg : Str → Option Value} {base : Heap} {A : Ad} (T : Txt K mg A) : FOk P w K mg base CX0 "told_of_numbers" 9 ["house", "kind", "n"] (sp_told_of_numbers K A) := by
  obtain ⟨fn, fd, hm, F⟩ := T.f_told_of_numbers
  refine ⟨fn, fd, hm, F.ok sc_told_of_numbers (fun vs H Q E h => ?_) (fun cdv A' outer s H vs Q E hr h => ⟨t_told_of_numbers K A, ?_, pure_told_of_numbers T h⟩), F.binds fun _ _ _ _ _ _ us hl => match us, hl with | [_, _, _], _ => rfl⟩
  · obtain ⟨_, _, _, _, _, _, rfl, _⟩ := h
    rfl
  · exact (pss_cons (ps_if (pt_cmpR op_eq (pv 1) pe_int (nomark _)) (pss_one (ps_ret (pe_methM (pv 0) T.c_House (ok_House_undo T) (hr.mono (by decide)) (pa_cons (pe_ix ix_list (pv 2) pe_int (fun _ _ => rfl)) pa_nil)))) pss_nil) (pss_cons (ps_if (pt_cmpR op_eq (pv 1) pe_int (nomark _)) (pss_one (ps_ret (pe_methM (pv 0) T.c_House (ok_House_rect T) (hr.mono (by decide)) (pa_cons (pe_ix ix_list (pv 2) pe_int (fun _ _ => rfl)) (pa_cons (pe_ix ix_list (pv 2) pe_int (fun _ _ => rfl)) pa_nil))))) pss_nil) (pss_cons (ps_if (pt_cmpR op_eq (pv 1) pe_int (nomark _)) (pss_one (ps_ret (pe_methM (pv 0) T.c_House (ok_House_best T) (hr.mono (by decide)) (pa_cons (pe_ix ix_list (pv 2) pe_int (fun _ _ => rfl)) pa_nil)))) pss_nil) (pss_cons (ps_if (pt_cmpR op_eq (pv 1) pe_int (nomark _)) (pss_one (ps_ret (pe_methM (pv 0) T.c_House (ok_House_least T) (hr.mono (by decide)) (pa_cons (pe_ix ix_list (pv 2) pe_int (fun _ _ => rfl)) pa_nil)))) pss_nil) (pss_one (ps_ret (pe_methM (pv 0) T.c_House (ok_House_between T) (hr.mono (by decide)) (pa_cons (pe_ix ix_list (pv 2) pe_int (fun _ _ => rfl)) (pa_cons (pe_ix ix_list (pv 2) pe_int (fun _ _ => rfl)) pa_nil)))))))))
def sp_told_alone (K : PySem.W.Frag) (A : Ad) : Sp := fun vs H Q _ => ∃ (N : Addr → Prop) (h : Addr) (f : Vbsyae.Field) (k : Int), vs = [.ref h, .int k] ∧ Pl H ∧ HouseAt A N H h f ∧ (∀ b, H b = none → N b) ∧ Kq A N H h f (HF.aloneCall k) Q
def t_told_alone (K : PySem.W.Frag) (A : Ad) : TS := (tSeq (tIfS (tTest (tOp rEq (tVar 1) (tC (.int 0)))) (tRet (tMeth A.cHouse "clear" (sp_House_clear K A) [] E0 (tVar 0) tNil)) tNext) (tSeq (tIfS (tTest (tOp rEq (tVar 1) (tC (.int 3)))) (tRet (tMeth A.cHouse "text" (sp_House_text K A) [] E0 (tVar 0) tNil)) tNext) (tSeq (tIfS (tTest (tOp rEq (tVar 1) (tC (.int 6)))) (tRet (tMeth A.cHouse "told" (sp_House_told K A) [] E0 (tVar 0) tNil)) tNext) (tSeq (tIfS (tTest (tOp rEq (tVar 1) (tC (.int 12)))) (tRet (tMeth A.cHouse "curve" (sp_House_curve K A) [] E0 (tVar 0) tNil)) tNext) (tSeq (tIfS (tTest (tOp rEq (tVar 1) (tC (.int 14)))) (tRet (tMeth A.cHouse "plan" (sp_House_plan K A) [] E0 (tVar 0) tNil)) tNext) (tSeq (tIfS (tTest (tOp rEq (tVar 1) (tC (.int 15)))) (tRet (tMeth A.cHouse "covered" (sp_House_covered K A) [] E0 (tVar 0) tNil)) tNext) (tSeq (tIfS (tTest (tOp rEq (tVar 1) (tC (.int 17)))) (tRet (tMeth A.cHouse "fewest" (sp_House_fewest K A) [] E0 (tVar 0) tNil)) tNext) (tSeq (tIfS (tTest (tOp rEq (tVar 1) (tC (.int 18)))) (tRet (tMeth A.cHouse "best_order" (sp_House_best_order K A) [] E0 (tVar 0) tNil)) tNext) (tRet (tMeth A.cHouse "labels" (sp_House_labels K A) [] E0 (tVar 0) tNil))))))))))
theorem pure_told_alone {K : PySem.W.Frag} {mg : Str → Option Value} {A : Ad} (T : Txt K mg A) {vs : List V} {H : Hp} {Q : VK} {E : XK} (h : sp_told_alone K A vs H Q E) : t_told_alone K A { nx := fun _ H' => Q .non H', rt := Q } (start N_told_alone vs) H := by
  obtain ⟨N, h, f, k, rfl, pl, HA, hN, q⟩ := h
  obtain ⟨wf, dx, fa, da, h1, F, Ds, nd⟩ := id HA
  unfold HF.aloneCall at q
  refine q_case (val_var rfl) (fun e => ?_) fun e => ?_
  · rw [if_pos e] at q
    exact s_retMeth (val_var rfl) h1 no_H va_nil ⟨N, h, f, rfl, pl, HA, hN, q⟩
  rw [if_neg e] at q
  refine q_case (val_var rfl) (fun e => ?_) fun e => ?_
  · rw [if_pos e] at q
    exact s_retMeth (val_var rfl) h1 no_H va_nil ⟨pl, N, h, f, rfl, HA, q.G (res_G (.inl rfl)) pl HA⟩
  rw [if_neg e] at q
  refine q_case (val_var rfl) (fun e => ?_) fun e => ?_
  · rw [if_pos e] at q
    exact s_retMeth (val_var rfl) h1 no_H va_nil ⟨pl, N, h, f, rfl, HA, q.G (res_G (.inr (.inl rfl))) pl HA⟩
  rw [if_neg e] at q
  refine q_case (val_var rfl) (fun e => ?_) fun e => ?_
  · rw [if_pos e] at q
    exact s_retMeth (val_var rfl) h1 no_H va_nil ⟨pl, N, h, f, rfl, HA, q.G (res_G (.inr (.inr (.inl rfl)))) pl HA⟩
  rw [if_neg e] at q
  refine q_case (val_var rfl) (fun e => ?_) fun e => ?_
  · rw [if_pos e] at q
    exact s_retMeth (val_var rfl) h1 no_H va_nil ⟨pl, N, h, f, rfl, HA, q.G (res_G (.inr (.inr (.inr (.inl rfl))))) pl HA⟩
  rw [if_neg e] at q
  refine q_case (val_var rfl) (fun e => ?_) fun e => ?_
  · rw [if_pos e] at q
    exact s_retMeth (val_var rfl) h1 no_H va_nil ⟨pl, N, h, f, rfl, HA, q.G (by rw [HF.res_covered]) pl HA⟩
  rw [if_neg e] at q
  refine q_case (val_var rfl) (fun e => ?_) fun e => ?_
  · rw [if_pos e] at q
    exact s_retMeth (val_var rfl) h1 no_H va_nil ⟨pl, N, h, f, rfl, HA, q.G (by rw [HF.res_fewest]) pl HA⟩
  rw [if_neg e] at q
  refine q_case (val_var rfl) (fun e => ?_) fun e => ?_
  · rw [if_pos e] at q
    exact s_retMeth (val_var rfl) h1 no_H va_nil ⟨pl, N, h, f, rfl, HA, q.G (by rw [HF.res_border]) pl HA⟩
  rw [if_neg e] at q
  exact s_retMeth (val_var rfl) h1 no_H va_nil ⟨pl, N, h, f, rfl, HA, q.G (by rw [HF.res_labels]) pl HA⟩
theorem ok_told_alone {P : Program} {w : World} {K : PySem.W.Frag} {mg : Str → Option Value} {base : Heap} {A : Ad} (T : Txt K mg A) : FOk P w K mg base CX0 "told_alone" 9 ["house", "kind"] (sp_told_alone K A) := by
  obtain ⟨fn, fd, hm, F⟩ := T.f_told_alone
  refine ⟨fn, fd, hm, F.ok sc_told_alone (fun vs H Q E h => ?_) (fun cdv A' outer s H vs Q E hr h => ⟨t_told_alone K A, ?_, pure_told_alone T h⟩), F.binds fun _ _ _ _ _ _ us hl => match us, hl with | [_, _], _ => rfl⟩
  · obtain ⟨_, _, _, _, rfl, _⟩ := h
    rfl
  · exact (pss_cons (ps_if (pt_cmpR op_eq (pv 1) pe_int (nomark _)) (pss_one (ps_ret (pe_methM0 (pv 0) T.c_House (ok_House_clear T) (hr.mono (by decide))))) pss_nil) (pss_cons (ps_if (pt_cmpR op_eq (pv 1) pe_int (nomark _)) (pss_one (ps_ret (pe_methM0 (pv 0) T.c_House (ok_House_text T) (hr.mono (by decide))))) pss_nil) (pss_cons (ps_if (pt_cmpR op_eq (pv 1) pe_int (nomark _)) (pss_one (ps_ret (pe_methM0 (pv 0) T.c_House (ok_House_told T) (hr.mono (by decide))))) pss_nil) (pss_cons (ps_if (pt_cmpR op_eq (pv 1) pe_int (nomark _)) (pss_one (ps_ret (pe_methM0 (pv 0) T.c_House (ok_House_curve T) (hr.mono (by decide))))) pss_nil) (pss_cons (ps_if (pt_cmpR op_eq (pv 1) pe_int (nomark _)) (pss_one (ps_ret (pe_methM0 (pv 0) T.c_House (ok_House_plan T) (hr.mono (by decide))))) pss_nil) (pss_cons (ps_if (pt_cmpR op_eq (pv 1) pe_int (nomark _)) (pss_one (ps_ret (pe_methM0 (pv 0) T.c_House (ok_House_covered T) (hr.mono (by decide))))) pss_nil) (pss_cons (ps_if (pt_cmpR op_eq (pv 1) pe_int (nomark _)) (pss_one (ps_ret (pe_methM0 (pv 0) T.c_House (ok_House_fewest T) (hr.mono (by decide))))) pss_nil) (pss_cons (ps_if (pt_cmpR op_eq (pv 1) pe_int (nomark _)) (pss_one (ps_ret (pe_methM0 (pv 0) T.c_House (ok_House_best_order T) (hr.mono (by decide))))) pss_nil) (pss_one (ps_ret (pe_methM0 (pv 0) T.c_House (ok_House_labels T) (hr.mono (by decide)))))))))))))
end HW

namespace HW
open PySem PySem.Spec PyProof.Rows L2
def NUMS : List V := [.int (0), .int (0), .int (0), .int (0), .int (0), .int (1), .int (0), .int (0), .int (0), .int (2), .int (1), .int (1), .int (0), .int (0), .int (0), .int (0), .int (0), .int (0), .int (0), .int (0), .int (2)]
def ROWS : List V := [.int (1), .int (2), .int (4), .int (7), .int (8), .int (13), .int (16)]
theorem nums_row {k : Int} (h : HF.isRow k) : atI NUMS k = some (.int 0) ∧ inV (.int k) ROWS = true := by
  rcases h with rfl | rfl | rfl | rfl | rfl | rfl | rfl <;> exact ⟨rfl, by decide⟩
theorem nums_one {k : Int} (h : HF.isOne k) : atI NUMS k = some (.int 1) ∧ inV (.int k) ROWS = false := by
  rcases h with rfl | rfl | rfl <;> exact ⟨rfl, by decide⟩
theorem nums_two {k : Int} (h : HF.isTwo k) : atI NUMS k = some (.int 2) ∧ inV (.int k) ROWS = false := by
  rcases h with rfl | rfl <;> exact ⟨rfl, by decide⟩
theorem nums_alone {k : Int} (h : HF.isAlone k) : atI NUMS k = some (.int 0) ∧ inV (.int k) ROWS = false := by
  rcases h with rfl | rfl | rfl | rfl | rfl | rfl | rfl | rfl | rfl <;> exact ⟨rfl, by decide⟩
section
variable {σ : L2.St} {H : Hp} {ta te : TE} {t : TA} {K : PySem.W.Frag} {sp : Sp} {E : XK} {D : Ends} {t2 : TS} {vs xs ys : List V} {i : Nat} {l : Addr} {v : V}
theorem s_callG (h : ValA t σ H vs) (hs : sp vs H (fun v H1 => D.nx (σ.set i (some v)) H1) E) : tAsg (tCall sp [] E t) (gName i) D σ H := h _ (by
  rw [List.append_nil]
  exact hs)
theorem q_app2 (hl : H l = some (.lst xs)) (ha : Val ta σ H (.ref l)) (h : Val te σ H v) (hz : xs.length < 16777216) (k : t2 D σ (upd H l (.lst (xs ++ [v])))) : tSeq (tDrop (tBM K "list" rAppend ta (tCons te tNil))) t2 D σ H :=
  ha _ ⟨Or.inl ⟨rfl, xs, SqL.of hl⟩, h _ ⟨l, xs, v, rfl, rfl, hl, by rw [sizeLine_eq]; exact hz, k⟩⟩
theorem its_seqA {l : List Int} {a : Addr} {i : Nat} (h : i < l.length) : atI (l.map V.int) (i : Int) = some (.int (l.getD i 0)) := its_at h
end
theorem HouseAt.weak {A : Ad} {N N' : Addr → Prop} {H : Hp} {h : Addr} {f : Vbsyae.Field} (s : HouseAt A N H h f) (hn : ∀ b, N b → H b ≠ none → N' b) : HouseAt A N' H h f := by
  obtain ⟨w, dx, fa, da, h1, h2, h3, h4⟩ := s
  obtain ⟨l, l1, l2, l3⟩ := h3
  exact ⟨w, dx, fa, da, h1, h2, ⟨l, l1, l2, l3⟩, hn da h4 (by rw [l2]; exact Option.some_ne_none _)⟩
theorem told_cons {f g : Vbsyae.Field} {r : List Int} {c : List (List Int)} {cs : List (List (List Int))} (h : VbsyaeNeutral.step f (PyVbsyae.whole c) = (g, r)) : PyFlat.told (PyFlat.played VbsyaeNeutral.step f ((c :: cs).map PyVbsyae.whole)) = ((r.length : Int) :: r) ++ PyFlat.told (PyFlat.played VbsyaeNeutral.step g (cs.map PyVbsyae.whole)) := by
  show PyFlat.told ((VbsyaeNeutral.step f (PyVbsyae.whole c)).2 :: PyFlat.played VbsyaeNeutral.step (VbsyaeNeutral.step f (PyVbsyae.whole c)).1 (cs.map PyVbsyae.whole)) = _
  rw [h]
  rfl
def sp_answers (K : PySem.W.Frag) (A : Ad) : Sp := fun vs H Q _ => ∃ (a : Addr) (l : List Int), vs = [.ref a] ∧ Pl H ∧ SqL K H a (its l) ∧ PyVbsyae.answers_asked l = true ∧ ∀ p H', H' p = some (.lst (its (PyVbsyae.answers l))) → Q (.ref p) H'
def t_answers (K : PySem.W.Frag) (A : Ad) : TS := (tSeq (tAsg (tMake A.cHouse (sp_House_init K A) [] E0 tNil) (gName 1)) (tSeq (tAsg (tLst tNil) (gName 2)) (tSeq (tAsg (tC (.int 0)) (gName 3)) (tSeq (tWhile (tTest (tOp rLtI (tVar 3) (tCB (cLen K) (tCons (tVar 0) tNil)))) (tSeq (tAsg (tOp (rIxL K) (tVar 0) (tVar 3)) (gName 4)) (tSeq (tAsg (tOp rAddI (tOp rAddI (tVar 3) (tC (.int 1))) (tOp (rIxT K) (tC (.ref A.t_NUMBERS)) (tVar 4))) (gName 5)) (tSeq (tAsg (tSl (rSlL K) (tVar 0) (tPart (tOp rAddI (tVar 3) (tC (.int 1)))) (tPart (tVar 5))) (gName 6)) (tSeq (tAsg (tLst tNil) (gName 7)) (tSeq (tIfS (tTest (tOp (rIn K false) (tVar 4) (tC (.ref A.t_WITH_ROW)))) (tSeq (tAsg (tSl (rSlL K) (tVar 0) (tPart (tOp rAddI (tVar 5) (tC (.int 1)))) (tPart (tOp rAddI (tOp rAddI (tVar 5) (tC (.int 1))) (tOp (rIxL K) (tVar 0) (tVar 5))))) (gName 7)) (tAsg (tOp rAddI (tOp rAddI (tVar 5) (tC (.int 1))) (tOp (rIxL K) (tVar 0) (tVar 5))) (gName 5))) tNext) (tSeq (tAsg (tVar 5) (gName 3)) (tSeq (tIfS (tTest (tOp (rIn K false) (tVar 4) (tC (.ref A.t_WITH_ROW)))) (tAsg (tCall (sp_told_of_row K A) [] E0 (tCons (tVar 1) (tCons (tVar 4) (tCons (tVar 7) tNil)))) (gName 8)) (tIfS (tTest (tOp rGtI (tOp (rIxT K) (tC (.ref A.t_NUMBERS)) (tVar 4)) (tC (.int 0)))) (tAsg (tCall (sp_told_of_numbers K A) [] E0 (tCons (tVar 1) (tCons (tVar 4) (tCons (tVar 6) tNil)))) (gName 8)) (tAsg (tCall (sp_told_alone K A) [] E0 (tCons (tVar 1) (tCons (tVar 4) tNil))) (gName 8)))) (tSeq (tDrop (tBM K "list" rAppend (tVar 2) (tCons (tCB (cLen K) (tCons (tVar 8) tNil)) tNil))) (tDrop (tBM K "list" rExtend (tVar 2) (tCons (tVar 8) tNil)))))))))))) (tRet (tVar 2))))))
theorem pure_answers {K : PySem.W.Frag} {mg : Str → Option Value} {A : Ad} (T : Txt K mg A) {vs : List V} {H : Hp} {Q : VK} {E : XK} (h : sp_answers K A vs H Q E) : t_answers K A { nx := fun _ H' => Q .non H', rt := Q } (start N_answers vs) H := by
  obtain ⟨a, l, rfl, pl, hl, hask, q⟩ := h
  obtain ⟨raw, hraw, hbound, hans, hshort⟩ := HF.asked_facts hask
  generalize PyVbsyae.answers l = ans at hans hshort q
  have hlen : (its l).length = l.length := len_its l
  refine q_setMk va_nil fun h dx hh hdx hne => ⟨h, dx, rfl, upd_same, (pl.upd rfl).upd rfl, fun H1 b1 pl1 HA1 => ⟨rfl, ?_⟩⟩
  have s1 : Same H H1 := fun b o e => b1 b o (by rw [upd_ne (ne_of_none e hh), upd_ne (ne_of_none e hdx)]; exact e) (ne_of_none e hh)
  have HA2 : HouseAt A (fun b => H b = none) H1 h Vbsyae.start := HA1.weak fun b nb _ => by
    cases e : H b with
    | none => rfl
    | some o => rw [upd_ne (ne_of_none e hh), upd_ne (ne_of_none e hdx), e] at nb; cases nb
  refine q_setN (xs := its []) (nw_lst va_nil (Nat.zero_le _)) fun fd hfd => ?_
  have hfH : H fd = none := s1.free hfd
  have hhH : H h = none := hh
  have hfh : fd ≠ h := fun z => by
    obtain ⟨_, d1, _, _, e1, _⟩ := HA2
    rw [z, e1] at hfd; cases hfd
  have HA3 : HouseAt A (fun b => H b = none ∧ b ≠ fd) (upd H1 fd (.lst (its []))) h Vbsyae.start := HouseAt.same (HA2.weak fun b nb hb => ⟨nb, fun z => hb (by rw [z]; exact hfd)⟩) (same_new hfd)
  refine q_set val_c ?_
  refine q_while (fun m σ' H' => ∃ (i : Nat) (f : Vbsyae.Field) (fl : List Int) (n : Nat) (cs : List (List (List Int))) (v4 v5 v6 v7 v8 : Option V), σ' = [some (.ref a), some (.ref h), some (.ref fd), some (.int (i : Int)), v4, v5, v6, v7, v8] ∧ Same H H' ∧ Pl H' ∧ HouseAt A (fun b => H b = none ∧ b ≠ fd) H' h f ∧ H' fd = some (.lst (its fl)) ∧ i ≤ l.length ∧ PyFlat.calls PyVbsyae.shape n (l.drop i) = some cs ∧ fl ++ PyFlat.told (PyFlat.played VbsyaeNeutral.step f (cs.map PyVbsyae.whole)) = ans ∧ (∀ c ∈ cs, VbsyaeNeutral.asked1 (PyVbsyae.whole c) = true) ∧ m = l.length - i) l.length ?_ ?_
  · exact ⟨0, Vbsyae.start, [], l.length, raw, none, none, none, none, none, rfl, s1.trans (same_new hfd), pl1.upd rfl, HA3, upd_same, Nat.zero_le _, hraw, hans.symm, hbound, rfl⟩
  · rintro m σ' H' ⟨i, f, fl, n, cs, v4, v5, v6, v7, v8, rfl, s2, pl2, HA, efd, hi, hcs, hfl, hbd, rfl⟩
    have hq := s2.seq hl
    refine ⟨decide ((i : Int) < (l.length : Int)), an_test (val_cmp (val_var rfl) (val_is (val_len (val_var rfl) hq) (by rw [hlen]))), fun hb => ?_, fun hb => ?_⟩
    · have hil : i < l.length := by have := of_decide_eq_true hb; omega
      refine ⟨fun σ2 H2 => ∃ m', m' < l.length - i ∧ ∃ (i : Nat) (f : Vbsyae.Field) (fl : List Int) (n : Nat) (cs : List (List (List Int))) (v4 v5 v6 v7 v8 : Option V), σ2 = [some (.ref a), some (.ref h), some (.ref fd), some (.int (i : Int)), v4, v5, v6, v7, v8] ∧ Same H H2 ∧ Pl H2 ∧ HouseAt A (fun b => H b = none ∧ b ≠ fd) H2 h f ∧ H2 fd = some (.lst (its fl)) ∧ i ≤ l.length ∧ PyFlat.calls PyVbsyae.shape n (l.drop i) = some cs ∧ fl ++ PyFlat.told (PyFlat.played VbsyaeNeutral.step f (cs.map PyVbsyae.whole)) = ans ∧ (∀ c ∈ cs, VbsyaeNeutral.asked1 (PyVbsyae.whole c) = true) ∧ m' = l.length - i, fun σ2 H2 h => h, ?_⟩
      obtain ⟨n', c, cs', rfl, hform⟩ := HF.calls_step hcs hil
      have hc1 := hbd c List.mem_cons_self
      have hbd' : ∀ x ∈ cs', VbsyaeNeutral.asked1 (PyVbsyae.whole x) = true := fun x hx => hbd x (List.mem_cons_of_mem _ hx)
      have hat0 : atI (its l) (i : Int) = some (.int (l.getD i 0)) := its_at hil
      -- behind the call
      have fin : ∀ (call : Vbsyae.Call) (i' : Nat) (w4 w5 w6 w7 : Option V) (H3 : Hp), VbsyaeNeutral.step f (PyVbsyae.whole c) = HF.res f call → i < i' → i' ≤ l.length → PyFlat.calls PyVbsyae.shape n' (l.drop i') = some cs' → Same H' H3 →
          Kq A (fun b => H b = none ∧ b ≠ fd) H3 h f call (fun v H1 => tSeq (tDrop (tBM K "list" rAppend (tVar 2) (tCons (tCB (cLen K) (tCons (tVar 8) tNil)) tNil))) (tDrop (tBM K "list" rExtend (tVar 2) (tCons (tVar 8) tNil))) { nx := fun σ2 H2 => ∃ m', m' < l.length - i ∧ ∃ (i : Nat) (f : Vbsyae.Field) (fl : List Int) (n : Nat) (cs : List (List (List Int))) (v4 v5 v6 v7 v8 : Option V), σ2 = [some (.ref a), some (.ref h), some (.ref fd), some (.int (i : Int)), v4, v5, v6, v7, v8] ∧ Same H H2 ∧ Pl H2 ∧ HouseAt A (fun b => H b = none ∧ b ≠ fd) H2 h f ∧ H2 fd = some (.lst (its fl)) ∧ i ≤ l.length ∧ PyFlat.calls PyVbsyae.shape n (l.drop i) = some cs ∧ fl ++ PyFlat.told (PyFlat.played VbsyaeNeutral.step f (cs.map PyVbsyae.whole)) = ans ∧ (∀ c ∈ cs, VbsyaeNeutral.asked1 (PyVbsyae.whole c) = true) ∧ m' = l.length - i, rt := Q, ct := fun σ2 H2 => ∃ m', m' < l.length - i ∧ ∃ (i : Nat) (f : Vbsyae.Field) (fl : List Int) (n : Nat) (cs : List (List (List Int))) (v4 v5 v6 v7 v8 : Option V), σ2 = [some (.ref a), some (.ref h), some (.ref fd), some (.int (i : Int)), v4, v5, v6, v7, v8] ∧ Same H H2 ∧ Pl H2 ∧ HouseAt A (fun b => H b = none ∧ b ≠ fd) H2 h f ∧ H2 fd = some (.lst (its fl)) ∧ i ≤ l.length ∧ PyFlat.calls PyVbsyae.shape n (l.drop i) = some cs ∧ fl ++ PyFlat.told (PyFlat.played VbsyaeNeutral.step f (cs.map PyVbsyae.whole)) = ans ∧ (∀ c ∈ cs, VbsyaeNeutral.asked1 (PyVbsyae.whole c) = true) ∧ m' = l.length - i, bk := tRet (tVar 2) { nx := fun _ H' => Q .non H', rt := Q } } [some (.ref a), some (.ref h), some (.ref fd), some (.int (i' : Int)), w4, w5, w6, w7, some v] H1) := by
        intro call i' w4 w5 w6 w7 H3 hstep hii hi'l hcs' s3 u H4 hu k4 pl4 HA4 eu
        have efd3 := s3 _ _ efd
        have efd4 : H4 fd = some (.lst (its fl)) := k4 _ _ efd3 hfh fun z => z.2 rfl
        have huf : u ≠ fd := fun z => by rw [z, efd3] at hu; cases hu
        have hs4 : Same H H4 := fun b o e => k4 _ _ (s3 _ _ (s2 _ _ e)) (ne_of_none e hhH) fun z => by rw [z.1] at e; cases e
        generalize hrs : HF.res f call = rs at HA4 eu hstep
        obtain ⟨g, r⟩ := rs
        have htc := told_cons (cs := cs') hstep
        rw [htc] at hfl
        simp only at HA4 eu
        have hln := congrArg List.length hfl
        rw [List.length_append, List.length_append, List.length_cons] at hln
        refine q_app2 efd4 (val_var rfl) (val_len (val_var rfl) (SqL.of eu)) (by rw [len_its]; omega) ?_
        have s5 : ∀ b o, H4 b = some o → b ≠ fd → upd H4 fd (.lst (its fl ++ [V.int ((its r).length : Int)])) b = some o := fun b o e hb => by rw [upd_ne hb]; exact e
        have hd4 : ∃ dx fa da, H4 h = some (.ins A.cHouse dx (houF fa da)) := by
          obtain ⟨_, d, x, y, e, _⟩ := HA4
          exact ⟨d, x, y, e⟩
        have keepF : ∀ (o : HO) (ys : List Int), o = .lst (its ys) → HouseAt A (fun b => H b = none ∧ b ≠ fd) (upd H4 fd o) h g := fun o ys ho => by
          obtain ⟨wf, d, x, y, e, F, Dl, nd⟩ := HA4
          have kk : ∀ b o', H4 b = some o' → b ≠ fd → upd H4 fd o b = some o' := fun b o' e hb => by rw [upd_ne hb]; exact e
          refine ⟨wf, d, x, y, kk _ _ e (Ne.symm hfh), ?_, ?_, nd⟩
          · obtain ⟨gg, dg, w, f1, f2⟩ := F
            refine ⟨gg, dg, w, kk _ _ f1 (fun z => by rw [z, efd4] at f1; exact nomatch f1), kk _ _ f2 fun z => ?_⟩
            rw [z, efd4] at f2
            have e4 := Option.some.inj f2
            injection e4 with e5
            have hw := gg.w4
            unfold bls its at e5
            cases hwl : g.walls with
            | nil => rw [hwl] at hw; cases hw
            | cons b0 r0 =>
              rw [hwl] at e5
              cases fl with
              | nil => cases e5
              | cons y r => cases e5
          · obtain ⟨ld, l1, l2, l3⟩ := Dl
            refine ⟨ld, l1, kk _ _ l2 nd.2, fun x hx => ?_⟩
            obtain ⟨dy, hy⟩ := l3 x hx
            exact ⟨dy, kk _ _ hy fun z => by rw [z, efd4] at hy; cases hy⟩
        refine s_extV (xs := its (fl ++ [(r.length : Int)])) (ys := its r) (l := fd) (b := u) ?_ (val_var rfl) (val_var rfl) (s5 _ _ eu huf) (by rw [len_its, len_its, List.length_append]; simp only [List.length_cons, List.length_nil]; omega) ?_
        · rw [upd_same, len_its]
          unfold its
          rw [List.map_append]
          rfl
        · rw [upd_upd]
          refine ⟨l.length - i', by omega, i', g, fl ++ [(r.length : Int)] ++ r, n', cs', w4, w5, w6, w7, some (.ref u), rfl, same_upd hs4 hfH, pl4.upd rfl, keepF _ (fl ++ [(r.length : Int)] ++ r) ?_, ?_, hi'l, hcs', ?_, hbd', rfl⟩
          · simp [its]
          · rw [upd_same]
            simp [its]
          · rw [← hfl]
            simp
      -- the call
      have hNf : ∀ (H3 : Hp), Same H' H3 → ∀ b, H3 b = none → H b = none ∧ b ≠ fd := fun H3 s3 b hb => ⟨s2.free (s3.free hb), fun z => by rw [z, s3 _ _ efd] at hb; cases hb⟩
      refine q_set (val_ixL (val_var rfl) (val_var rfl) hq hat0) ?_
      rcases hform with ⟨mm, hk, hm, hle, hcc, hcs'⟩ | ⟨hk, hle, hcc, hcs'⟩ | ⟨hk, hle, hcc, hcs'⟩ | ⟨hk, hcc, hcs'⟩
      · obtain ⟨k1, k2⟩ := nums_row hk
        have hat1 : atI (its l) ((i + 1 : Nat) : Int) = some (.int (l.getD (i + 1) 0)) := its_at (by omega)
        generalize l.getD i 0 = k at hk k1 k2 hcc
        refine q_set (val_is (val_add (val_add (val_var rfl) val_c) (val_ixT val_c (val_var rfl) (T.q_NUMBERS H') k1)) (x := .int ((i + 1 : Nat) : Int)) (by congr 1 <;> omega)) ?_
        refine q_setN (nw_sl (i := i + 1) (j := i + 1) (val_var rfl) hq (val_is (val_add (val_var rfl) val_c) (by congr 1 <;> omega)) (val_var rfl) (by rw [hlen]; omega) (by rw [hlen]; omega)) fun p6 hp6 => ?_
        have s6 := same_new (o := .lst (((its l).drop (i + 1)).take (i + 1 - (i + 1)))) hp6
        have pl6 : Pl (upd H' p6 (.lst (((its l).drop (i + 1)).take (i + 1 - (i + 1))))) := pl2.upd rfl
        generalize upd H' p6 (.lst (((its l).drop (i + 1)).take (i + 1 - (i + 1)))) = H6 at s6 pl6
        refine q_setN (nw_lst va_nil (Nat.zero_le _)) fun p7 hp7 => ?_
        have s7 := s6.trans (same_new (o := .lst []) hp7)
        have pl7 : Pl (upd H6 p7 (.lst [])) := pl6.upd rfl
        generalize upd H6 p7 (.lst []) = H7 at s7 pl7
        have hq7 := s7.seq hq
        refine q_if (an_test (val_inT (x := .int k) (val_var rfl) val_c (T.q_WITH_ROW H7) rfl rfl)) (fun _ => ?_) fun hb => absurd (k2.symm.trans hb) (by simp)
        rw [hm] at hat1
        refine q_setN (nw_sl (i := i + 2) (j := i + 2 + mm) (val_var rfl) hq7 (val_is (val_add (val_var rfl) val_c) (by congr 1 <;> omega)) (val_is (val_add (val_add (val_var rfl) val_c) (val_ixL (val_var rfl) (val_var rfl) hq7 hat1)) (by congr 1 <;> omega)) (by rw [hlen]; omega) (by rw [hlen]; omega)) fun p8 hp8 => ?_
        rw [show i + 2 + mm - (i + 2) = mm by omega, show ((its l).drop (i + 2)).take mm = its ((l.drop (i + 2)).take mm) by unfold its; rw [List.map_take, List.map_drop]]
        have s8 := s7.trans (same_new (o := .lst (its ((l.drop (i + 2)).take mm))) hp8)
        have pl8 : Pl (upd H7 p8 (.lst (its ((l.drop (i + 2)).take mm)))) := pl7.upd rfl
        have e8 : upd H7 p8 (.lst (its ((l.drop (i + 2)).take mm))) p8 = some (.lst (its ((l.drop (i + 2)).take mm))) := upd_same
        generalize upd H7 p8 (.lst (its ((l.drop (i + 2)).take mm))) = H8 at s8 pl8 e8
        refine s_set (val_is (val_add (val_add (val_var rfl) val_c) (val_ixL (val_var rfl) (val_var rfl) (s8.seq hq) hat1)) (x := .int ((i + 2 + mm : Nat) : Int)) (by congr 1 <;> omega)) ?_
        refine q_set (val_var rfl) ?_
        refine q_if (an_test (val_inT (x := .int k) (val_var rfl) val_c (T.q_WITH_ROW H8) rfl rfl)) (fun _ => ?_) fun hb => absurd (k2.symm.trans hb) (by simp)
        obtain ⟨st1, st2⟩ := HF.row_step (f := f) (l := (l.drop (i + 2)).take mm) hk
        refine s_callG (va_cons (val_var rfl) (va_cons (val_var rfl) (va_cons (val_var rfl) va_nil))) ⟨_, h, p8, f, k, (l.drop (i + 2)).take mm, rfl, pl8, HA.same s8, hNf _ s8, e8, st2 (by rw [← hcc]; exact hc1), ?_⟩
        exact fin _ (i + 2 + mm) _ _ _ _ H8 (by rw [hcc]; exact st1) (by omega) hle hcs' s8
      · obtain ⟨k1, k2⟩ := nums_one hk
        have hnum : ((its l).drop (i + 1)).take (i + 2 - (i + 1)) = its [l.getD (i + 1) 0] := by
          unfold its
          rw [← List.map_drop, ← List.map_take, show i + 2 - (i + 1) = 1 by omega, List.drop_eq_getElem_cons (by omega), List.getD_eq_getElem?_getD, List.getElem?_eq_getElem (by omega)]
          rfl
        generalize l.getD i 0 = k at hk k1 k2 hcc
        refine q_set (val_is (val_add (val_add (val_var rfl) val_c) (val_ixT val_c (val_var rfl) (T.q_NUMBERS H') k1)) (x := .int ((i + 2 : Nat) : Int)) (by congr 1 <;> omega)) ?_
        refine q_setN (nw_sl (i := i + 1) (j := i + 2) (val_var rfl) hq (val_is (val_add (val_var rfl) val_c) (by congr 1 <;> omega)) (val_var rfl) (by rw [hlen]; omega) (by rw [hlen]; omega)) fun p6 hp6 => ?_
        rw [hnum]
        have s6 := same_new (o := .lst (its [l.getD (i + 1) 0])) hp6
        have pl6 : Pl (upd H' p6 (.lst (its [l.getD (i + 1) 0]))) := pl2.upd rfl
        have e6 : upd H' p6 (.lst (its [l.getD (i + 1) 0])) p6 = some (.lst (its [l.getD (i + 1) 0])) := upd_same
        generalize upd H' p6 (.lst (its [l.getD (i + 1) 0])) = H6 at s6 pl6 e6
        refine q_setN (nw_lst va_nil (Nat.zero_le _)) fun p7 hp7 => ?_
        have e7 := same_new (o := .lst []) hp7 _ _ e6
        have s7 := s6.trans (same_new (o := .lst []) hp7)
        have pl7 : Pl (upd H6 p7 (.lst [])) := pl6.upd rfl
        generalize upd H6 p7 (.lst []) = H7 at s7 pl7 e7
        refine q_when (an_test (val_inT (x := .int k) (val_var rfl) val_c (T.q_WITH_ROW H7) rfl rfl)) (fun hb => absurd (k2.symm.trans hb) (by simp)) fun _ => ?_
        refine q_set (val_var rfl) ?_
        refine q_if (an_test (val_inT (x := .int k) (val_var rfl) val_c (T.q_WITH_ROW H7) rfl rfl)) (fun hb => absurd (k2.symm.trans hb) (by simp)) fun _ => ?_
        refine s_if (an_test (val_cmp (val_ixT val_c (val_var rfl) (T.q_NUMBERS H7) k1) val_c)) (fun _ => ?_) fun hb => absurd hb (by decide)
        refine s_callG (va_cons (val_var rfl) (va_cons (val_var rfl) (va_cons (val_var rfl) va_nil))) ⟨_, h, p6, f, k, [l.getD (i + 1) 0], rfl, pl7, HA.same s7, hNf _ s7, e7, Nat.le_refl 1, .inl hk, ?_⟩
        exact fin _ (i + 2) _ _ _ _ H7 (by rw [hcc]; exact HF.one_step hk) (by omega) hle hcs' s7
      · obtain ⟨k1, k2⟩ := nums_two hk
        have hnum : ((its l).drop (i + 1)).take (i + 3 - (i + 1)) = its [l.getD (i + 1) 0, l.getD (i + 2) 0] := by
          unfold its
          rw [← List.map_drop, ← List.map_take, show i + 3 - (i + 1) = 2 by omega, List.drop_eq_getElem_cons (by omega), List.drop_eq_getElem_cons (show i + 1 + 1 < l.length by omega), List.getD_eq_getElem?_getD, List.getElem?_eq_getElem (show i + 1 < l.length by omega), List.getD_eq_getElem?_getD, List.getElem?_eq_getElem (show i + 2 < l.length by omega)]
          rfl
        generalize l.getD i 0 = k at hk k1 k2 hcc
        refine q_set (val_is (val_add (val_add (val_var rfl) val_c) (val_ixT val_c (val_var rfl) (T.q_NUMBERS H') k1)) (x := .int ((i + 3 : Nat) : Int)) (by congr 1 <;> omega)) ?_
        refine q_setN (nw_sl (i := i + 1) (j := i + 3) (val_var rfl) hq (val_is (val_add (val_var rfl) val_c) (by congr 1 <;> omega)) (val_var rfl) (by rw [hlen]; omega) (by rw [hlen]; omega)) fun p6 hp6 => ?_
        rw [hnum]
        have s6 := same_new (o := .lst (its [l.getD (i + 1) 0, l.getD (i + 2) 0])) hp6
        have pl6 : Pl (upd H' p6 (.lst (its [l.getD (i + 1) 0, l.getD (i + 2) 0]))) := pl2.upd rfl
        have e6 : upd H' p6 (.lst (its [l.getD (i + 1) 0, l.getD (i + 2) 0])) p6 = some (.lst (its [l.getD (i + 1) 0, l.getD (i + 2) 0])) := upd_same
        generalize upd H' p6 (.lst (its [l.getD (i + 1) 0, l.getD (i + 2) 0])) = H6 at s6 pl6 e6
        refine q_setN (nw_lst va_nil (Nat.zero_le _)) fun p7 hp7 => ?_
        have e7 := same_new (o := .lst []) hp7 _ _ e6
        have s7 := s6.trans (same_new (o := .lst []) hp7)
        have pl7 : Pl (upd H6 p7 (.lst [])) := pl6.upd rfl
        generalize upd H6 p7 (.lst []) = H7 at s7 pl7 e7
        refine q_when (an_test (val_inT (x := .int k) (val_var rfl) val_c (T.q_WITH_ROW H7) rfl rfl)) (fun hb => absurd (k2.symm.trans hb) (by simp)) fun _ => ?_
        refine q_set (val_var rfl) ?_
        refine q_if (an_test (val_inT (x := .int k) (val_var rfl) val_c (T.q_WITH_ROW H7) rfl rfl)) (fun hb => absurd (k2.symm.trans hb) (by simp)) fun _ => ?_
        refine s_if (an_test (val_cmp (val_ixT val_c (val_var rfl) (T.q_NUMBERS H7) k1) val_c)) (fun _ => ?_) fun hb => absurd hb (by decide)
        refine s_callG (va_cons (val_var rfl) (va_cons (val_var rfl) (va_cons (val_var rfl) va_nil))) ⟨_, h, p6, f, k, [l.getD (i + 1) 0, l.getD (i + 2) 0], rfl, pl7, HA.same s7, hNf _ s7, e7, by show 1 ≤ 2; decide, .inr (Nat.le_refl 2), ?_⟩
        exact fin _ (i + 3) _ _ _ _ H7 (by rw [hcc]; exact HF.two_step hk) (by omega) hle hcs' s7
      · obtain ⟨k1, k2⟩ := nums_alone hk
        generalize l.getD i 0 = k at hk k1 k2 hcc
        refine q_set (val_is (val_add (val_add (val_var rfl) val_c) (val_ixT val_c (val_var rfl) (T.q_NUMBERS H') k1)) (x := .int ((i + 1 : Nat) : Int)) (by congr 1 <;> omega)) ?_
        refine q_setN (nw_sl (i := i + 1) (j := i + 1) (val_var rfl) hq (val_is (val_add (val_var rfl) val_c) (by congr 1 <;> omega)) (val_var rfl) (by rw [hlen]; omega) (by rw [hlen]; omega)) fun p6 hp6 => ?_
        have s6 := same_new (o := .lst (((its l).drop (i + 1)).take (i + 1 - (i + 1)))) hp6
        have pl6 : Pl (upd H' p6 (.lst (((its l).drop (i + 1)).take (i + 1 - (i + 1))))) := pl2.upd rfl
        generalize upd H' p6 (.lst (((its l).drop (i + 1)).take (i + 1 - (i + 1)))) = H6 at s6 pl6
        refine q_setN (nw_lst va_nil (Nat.zero_le _)) fun p7 hp7 => ?_
        have s7 := s6.trans (same_new (o := .lst []) hp7)
        have pl7 : Pl (upd H6 p7 (.lst [])) := pl6.upd rfl
        generalize upd H6 p7 (.lst []) = H7 at s7 pl7
        refine q_when (an_test (val_inT (x := .int k) (val_var rfl) val_c (T.q_WITH_ROW H7) rfl rfl)) (fun hb => absurd (k2.symm.trans hb) (by simp)) fun _ => ?_
        refine q_set (val_var rfl) ?_
        refine q_if (an_test (val_inT (x := .int k) (val_var rfl) val_c (T.q_WITH_ROW H7) rfl rfl)) (fun hb => absurd (k2.symm.trans hb) (by simp)) fun _ => ?_
        refine s_if (an_test (val_cmp (val_ixT val_c (val_var rfl) (T.q_NUMBERS H7) k1) val_c)) (fun hb => absurd hb (by decide)) fun _ => ?_
        refine s_callG (va_cons (val_var rfl) (va_cons (val_var rfl) va_nil)) ⟨_, h, f, k, rfl, pl7, HA.same s7, hNf _ s7, ?_⟩
        exact fin _ (i + 1) _ _ _ _ H7 (by rw [hcc]; exact HF.alone_step hk) (by omega) (by omega) hcs' s7
    · have hil : ¬ i < l.length := by have := of_decide_eq_false hb; omega
      rw [List.drop_eq_nil_of_le (by omega)] at hcs
      have := HF.calls_nil hcs
      subst this
      have hfl2 : fl = ans := by
        rw [← hfl]
        show fl = fl ++ []
        rw [List.append_nil]
      rw [hfl2] at efd
      exact s_ret (val_var rfl) (q fd H' efd)
theorem ok_answers {P : Program} {w : World} {K : PySem.W.Frag} {mg : Str → Option Value} {base : Heap} {A : Ad} (T : Txt K mg A) : FOk P w K mg base CX0 "answers" 10 ["calls"] (sp_answers K A) := by
  obtain ⟨fn, fd, hm, F⟩ := T.f_answers
  refine ⟨fn, fd, hm, F.ok sc_answers (fun vs H Q E h => ?_) (fun cdv A' outer s H vs Q E hr h => ⟨t_answers K A, ?_, pure_answers T h⟩), F.binds fun _ _ _ _ _ _ us hl => match us, hl with | [_], _ => rfl⟩
  · obtain ⟨_, _, rfl, _⟩ := h
    rfl
  · exact (pss_cons (ps_set (i := 1) sc_answers.nd rfl (Or.inl rfl) (pe_makeM0 (ok_House_init T) (hr.mono (by decide)) rfl)) (pss_cons (ps_set (i := 2) sc_answers.nd rfl (Or.inl rfl) (pe_lst pa_nil)) (pss_cons (ps_set (i := 3) sc_answers.nd rfl (Or.inl rfl) pe_int) (pss_cons (ps_while PassesOwn.never (pt_cmpR op_lt (pv 3) (pe_callB call_len_seq rfl T.b_len PySem.boot_len (pa_cons (pv 0) pa_nil)) (nomark _)) (pss_cons (ps_set (i := 4) sc_answers.nd rfl (Or.inl rfl) (pe_ix ix_list (pv 0) (pv 3) (fun _ _ => rfl))) (pss_cons (ps_set (i := 5) sc_answers.nd rfl (Or.inl rfl) (pe_op op_add (pe_op op_add (pv 3) pe_int) (pe_ix ix_tup (pe_gt rfl T.g_NUMBERS) (pv 4) (fun _ _ => rfl)))) (pss_cons (ps_set (i := 6) sc_answers.nd rfl (Or.inl rfl) (pe_slice sl_list (pv 0) (po_some (pe_op op_add (pv 3) pe_int)) (po_some (pv 5)))) (pss_cons (ps_set (i := 7) sc_answers.nd rfl (Or.inl rfl) (pe_lst pa_nil)) (pss_cons (ps_if (pt_cmpR op_in_seq (pv 4) (pe_gt rfl T.g_WITH_ROW) (by rfl)) (pss_cons (ps_set (i := 7) sc_answers.nd rfl (Or.inl rfl) (pe_slice sl_list (pv 0) (po_some (pe_op op_add (pv 5) pe_int)) (po_some (pe_op op_add (pe_op op_add (pv 5) pe_int) (pe_ix ix_list (pv 0) (pv 5) (fun _ _ => rfl)))))) (pss_one (ps_set (i := 5) sc_answers.nd rfl (Or.inl rfl) (pe_op op_add (pe_op op_add (pv 5) pe_int) (pe_ix ix_list (pv 0) (pv 5) (fun _ _ => rfl)))))) pss_nil) (pss_cons (ps_set (i := 3) sc_answers.nd rfl (Or.inl rfl) (pv 5)) (pss_cons (ps_if (pt_cmpR op_in_seq (pv 4) (pe_gt rfl T.g_WITH_ROW) (by rfl)) (pss_one (ps_set (i := 8) sc_answers.nd rfl (Or.inl rfl) (pe_callM (ok_told_of_row T) (hr.mono (by decide)) rfl (pa_cons (pv 1) (pa_cons (pv 4) (pa_cons (pv 7) pa_nil)))))) (pss_one (ps_if (pt_cmpR op_gt (pe_ix ix_tup (pe_gt rfl T.g_NUMBERS) (pv 4) (fun _ _ => rfl)) pe_int (nomark _)) (pss_one (ps_set (i := 8) sc_answers.nd rfl (Or.inl rfl) (pe_callM (ok_told_of_numbers T) (hr.mono (by decide)) rfl (pa_cons (pv 1) (pa_cons (pv 4) (pa_cons (pv 6) pa_nil)))))) (pss_one (ps_set (i := 8) sc_answers.nd rfl (Or.inl rfl) (pe_callM (ok_told_alone T) (hr.mono (by decide)) rfl (pa_cons (pv 1) (pa_cons (pv 4) pa_nil)))))))) (pss_cons (ps_expr (pe_bm PySem.F.plainAttrs_list PySem.F.slot_list_append PySem.F.type_list_append mt_append (pv 2) (pa_cons (pe_callB call_len_seq rfl T.b_len PySem.boot_len (pa_cons (pv 8) pa_nil)) pa_nil))) (pss_one (ps_expr (pe_bm PySem.F.plainAttrs_list PySem.F.slot_list_extend PySem.F.type_list_extend mt_extend (pv 2) (pa_cons (pv 8) pa_nil))))))))))))) (pss_one (ps_ret (pv 2)))))))
end HW

/-! ### the end: what the top has written -/
namespace HW
open PySem PySem.Spec PyProof.Rows L2
section
variable {K : PySem.W.Frag} {mg : Str → Option Value} {h : Heap}
theorem mkM {C : Addr} {m qual : Str} {f : Addr} {od an : Option Addr} {osl : Array (Option Value)} {oc kV doc pm cdv ct : Value} {st : Stmt} (a : PySem.W.findIn K (.ref C) m = some (some (.ref f))) (i : PySem.W.isFn K (.ref f) = true) (l : K.lookup f = some ⟨oc, od, .func (PySem.W.fnOf m qual (defArgs st) (defBody st) (defScope st) .none kV doc pm an cdv ct), osl⟩) (c : PySem.W.codeIn K cdv qual = true) (k : PySem.W.keepIn K (.ref f) = true) : ∃ f fd, Meth K C m f ∧ Fun K m qual st f fd := ⟨f, _, ⟨a, i, k⟩, fun_mk l c k⟩
theorem mkC {C : Addr} {n qual : Str} {f : Addr} {od an : Option Addr} {osl : Array (Option Value)} {oc kV doc pm cdv ct : Value} {st : Stmt} (X : K.In h) (G : h.Ns mainGlobals mg) (g : PySem.W.nsIn K mainGlobals n = some (some (.ref C))) (mk : PySem.W.makesIn K C = true) (kc : PySem.W.keepIn K (.ref C) = true) (a : PySem.W.findIn K (.ref C) "__init__" = some (some (.ref f))) (i : PySem.W.isFn K (.ref f) = true) (l : K.lookup f = some ⟨oc, od, .func (PySem.W.fnOf "__init__" qual (defArgs st) (defBody st) (defScope st) .none kV doc pm an cdv ct), osl⟩) (c : PySem.W.codeIn K cdv qual = true) (k : PySem.W.keepIn K (.ref f) = true) : ∃ f fd, (Mk K C f ∧ mg n = some (.ref C)) ∧ Fun K "__init__" qual st f fd := ⟨f, _, ⟨⟨mk, a, i, kc⟩, PySem.W.mg_of X G g⟩, fun_mk l c k⟩
theorem mkF {n : Str} {f : Addr} {od an : Option Addr} {osl : Array (Option Value)} {oc kV doc pm cdv ct : Value} {st : Stmt} (X : K.In h) (G : h.Ns mainGlobals mg) (g : PySem.W.nsIn K mainGlobals n = some (some (.ref f))) (l : K.lookup f = some ⟨oc, od, .func (PySem.W.fnOf n n (defArgs st) (defBody st) (defScope st) .none kV doc pm an cdv ct), osl⟩) (c : PySem.W.codeIn K cdv n = true) (k : PySem.W.keepIn K (.ref f) = true) : ∃ f fd, (mg n = some (.ref f) ∧ PySem.W.keepIn K (.ref f) = true) ∧ Fun K n n st f fd := ⟨f, _, ⟨PySem.W.mg_of X G g, k⟩, fun_mk l c k⟩
theorem exm_own {S : Addr} (h1 : PySem.W.subIn K (.ref S) (.type "BaseException") = some true) (h2 : PySem.W.isClsIn K S = true) (h3 : PySem.W.typeIn K (.ref S) = some (.type "type")) (h4 : PySem.W.subIn K (.ref S) (.ref S) = some true) : PySem.W.exmOne K (.ref S) (.ref S) = some true := by
  have e1 : (PySem.W.subIn K (.ref S) (.type "BaseException") == some true) = true := by rw [h1] <;> rfl
  have e2 : ((PySem.W.clsIn K S).isSome && PySem.W.typeIn K (.ref S) == some (.type "type")) = true := by
    have h2q : (PySem.W.clsIn K S).isSome = true := h2
    rw [h2q, h3] <;> rfl
  show (if (PySem.W.subIn K (.ref S) (.type "BaseException") == some true) = true then (if ((PySem.W.clsIn K S).isSome && PySem.W.typeIn K (.ref S) == some (.type "type")) = true then PySem.W.subIn K (.ref S) (.ref S) else none) else none) = some true
  rw [if_pos e1, if_pos e2]
  exact h4
theorem tup_ROW_STEPS {t : Addr} {d : Option Addr} {n : Nat} {sl : Array (Option Value)} {k0 k1 k2 k3 : Tok} (l : K.lookup t = some ⟨.type "tuple", d, .seq #[.int (-1) k0, .int (0) k1, .int (1) k2, .int (0) k3] n, sl⟩) (H : Hp) : SqT K H t [.int (-1), .int (0), .int (1), .int (0)] := Or.inr ⟨_, _, _, l, rfl, rfl, by show 4 ≤ sizeLine; decide, .cons ⟨_, rfl⟩ (.cons ⟨_, rfl⟩ (.cons ⟨_, rfl⟩ (.cons ⟨_, rfl⟩ (.nil))))⟩
theorem tup_COLUMN_STEPS {t : Addr} {d : Option Addr} {n : Nat} {sl : Array (Option Value)} {k0 k1 k2 k3 : Tok} (l : K.lookup t = some ⟨.type "tuple", d, .seq #[.int (0) k0, .int (1) k1, .int (0) k2, .int (-1) k3] n, sl⟩) (H : Hp) : SqT K H t [.int (0), .int (1), .int (0), .int (-1)] := Or.inr ⟨_, _, _, l, rfl, rfl, by show 4 ≤ sizeLine; decide, .cons ⟨_, rfl⟩ (.cons ⟨_, rfl⟩ (.cons ⟨_, rfl⟩ (.cons ⟨_, rfl⟩ (.nil))))⟩
theorem tup_SIDE_WORDS {t : Addr} {d : Option Addr} {n : Nat} {sl : Array (Option Value)} {k0 k1 k2 k3 : Tok} (l : K.lookup t = some ⟨.type "tuple", d, .seq #[.str "above" k0, .str "right" k1, .str "below" k2, .str "left" k3] n, sl⟩) (H : Hp) : SqT K H t [.str "above", .str "right", .str "below", .str "left"] := Or.inr ⟨_, _, _, l, rfl, rfl, by show 4 ≤ sizeLine; decide, .cons ⟨_, rfl⟩ (.cons ⟨_, rfl⟩ (.cons ⟨_, rfl⟩ (.cons ⟨_, rfl⟩ (.nil))))⟩
theorem tup_NUMBERS {t : Addr} {d : Option Addr} {n : Nat} {sl : Array (Option Value)} {k0 k1 k2 k3 k4 k5 k6 k7 k8 k9 k10 k11 k12 k13 k14 k15 k16 k17 k18 k19 k20 : Tok} (l : K.lookup t = some ⟨.type "tuple", d, .seq #[.int (0) k0, .int (0) k1, .int (0) k2, .int (0) k3, .int (0) k4, .int (1) k5, .int (0) k6, .int (0) k7, .int (0) k8, .int (2) k9, .int (1) k10, .int (1) k11, .int (0) k12, .int (0) k13, .int (0) k14, .int (0) k15, .int (0) k16, .int (0) k17, .int (0) k18, .int (0) k19, .int (2) k20] n, sl⟩) (H : Hp) : SqT K H t [.int (0), .int (0), .int (0), .int (0), .int (0), .int (1), .int (0), .int (0), .int (0), .int (2), .int (1), .int (1), .int (0), .int (0), .int (0), .int (0), .int (0), .int (0), .int (0), .int (0), .int (2)] := Or.inr ⟨_, _, _, l, rfl, rfl, by show 21 ≤ sizeLine; decide, .cons ⟨_, rfl⟩ (.cons ⟨_, rfl⟩ (.cons ⟨_, rfl⟩ (.cons ⟨_, rfl⟩ (.cons ⟨_, rfl⟩ (.cons ⟨_, rfl⟩ (.cons ⟨_, rfl⟩ (.cons ⟨_, rfl⟩ (.cons ⟨_, rfl⟩ (.cons ⟨_, rfl⟩ (.cons ⟨_, rfl⟩ (.cons ⟨_, rfl⟩ (.cons ⟨_, rfl⟩ (.cons ⟨_, rfl⟩ (.cons ⟨_, rfl⟩ (.cons ⟨_, rfl⟩ (.cons ⟨_, rfl⟩ (.cons ⟨_, rfl⟩ (.cons ⟨_, rfl⟩ (.cons ⟨_, rfl⟩ (.cons ⟨_, rfl⟩ (.nil)))))))))))))))))))))⟩
theorem tup_WITH_ROW {t : Addr} {d : Option Addr} {n : Nat} {sl : Array (Option Value)} {k0 k1 k2 k3 k4 k5 k6 : Tok} (l : K.lookup t = some ⟨.type "tuple", d, .seq #[.int (1) k0, .int (2) k1, .int (4) k2, .int (7) k3, .int (8) k4, .int (13) k5, .int (16) k6] n, sl⟩) (H : Hp) : SqT K H t [.int (1), .int (2), .int (4), .int (7), .int (8), .int (13), .int (16)] := Or.inr ⟨_, _, _, l, rfl, rfl, by show 7 ≤ sizeLine; decide, .cons ⟨_, rfl⟩ (.cons ⟨_, rfl⟩ (.cons ⟨_, rfl⟩ (.cons ⟨_, rfl⟩ (.cons ⟨_, rfl⟩ (.cons ⟨_, rfl⟩ (.cons ⟨_, rfl⟩ (.nil)))))))⟩
theorem mkFault {C f : Addr} {nm q : Str} {N : Addr} {bs : List Value} {sn : List Str} {sub : List Value} {ab : Bool} {col : Option Bool} {dd : Option Addr} {m0 m1 m2 m3 m5 : Option Value} {od an : Option Addr} {osl : Array (Option Value)} {oc doc pm cdv ct : Value} (X : K.In h) (G : h.Ns mainGlobals mg)
    (aC : PySem.W.nsIn K mainGlobals "Fault" = some (some (.ref C))) (xL : K.lookup C = some (excClassObj nm q C N bs [.type "ValueError", .type "Exception", .type "BaseException", .type "object"] true sn sub ab col dd m0 m1 m2 m3 m5 "ValueError.__new__"))
    (sa : PySem.W.findIn K (.ref C) "__setattr__" = some (some (.builtin "object.__setattr__"))) (ga : PySem.W.findIn K (.ref C) "__getattribute__" = some (some (.builtin "BaseException.__getattribute__"))) (gg : PySem.W.findIn K (.ref C) "__getattr__" = some none) (nb : PySem.W.findIn K (.ref C) "place" = some none)
    (a1 : PySem.W.findIn K (.ref C) "__init__" = some (some (.ref f))) (t1 : PySem.W.typeIn K (.ref f) = some (.type "function")) (l1 : K.lookup f = some ⟨oc, od, .func (PySem.W.fnOf "__init__" "Fault.__init__" (PySem.FltX.iA ⟨205, 17, 205, 21⟩ ⟨205, 23, 205, 28⟩) (PySem.FltX.iB ⟨206, 8, 206, 12⟩ ⟨206, 8, 206, 18⟩ ⟨206, 21, 206, 26⟩ ⟨206, 8, 206, 26⟩) PySem.FltX.iS .none .none doc pm an cdv ct), osl⟩) (c1 : PySem.W.codeIn K cdv "Fault.__init__" = true)
    (kC : PySem.W.keepIn K (.ref C) = true) (eC : PySem.W.subIn K (.ref C) (.type "BaseException") = some true) (tC : PySem.W.typeIn K (.ref C) = some (.type "type")) (hC : PySem.W.hasDictIn K C = true) (iC : PySem.W.isClsIn K C = true) (sC : PySem.W.subIn K (.ref C) (.ref C) = some true) : FaultTxt K mg C f :=
  { gC := PySem.W.mg_of X G aC, cls := ⟨nm, q, N, bs, _, sn, sub, ab, col, dd, m0, m1, m2, m3, m5, xL, by decide +kernel⟩, sa := sa, ga := ga, gg := gg, noN := nb, iC := a1, tC := t1, kC := kC, exC := eC, tyC := tC, hdC := hC, te := exm_own eC iC tC sC, fn := ⟨_, _, _, _, _, _, _, _, _, _, _, _, _, _, l1, c1⟩ }
theorem ok2_answers {P : Program} {w : World} {base : Heap} {A : Ad} (T : Txt K mg A) {fn : Addr} {fd : FuncData} (F : Fun K "answers" "answers" s_answers fn fd) : FnOk P w K mg base CX0 10 fn fd ["calls"] (sp_answers K A) := by
  refine F.ok sc_answers (fun vs H Q E h => ?_) (fun cdv A' outer s H vs Q E hr h => ⟨t_answers K A, ?_, pure_answers T h⟩)
  · obtain ⟨_, _, rfl, _⟩ := h
    rfl
  · exact (pss_cons (ps_set (i := 1) sc_answers.nd rfl (Or.inl rfl) (pe_makeM0 (ok_House_init T) (hr.mono (by decide)) rfl)) (pss_cons (ps_set (i := 2) sc_answers.nd rfl (Or.inl rfl) (pe_lst pa_nil)) (pss_cons (ps_set (i := 3) sc_answers.nd rfl (Or.inl rfl) pe_int) (pss_cons (ps_while PassesOwn.never (pt_cmpR op_lt (pv 3) (pe_callB call_len_seq rfl T.b_len PySem.boot_len (pa_cons (pv 0) pa_nil)) (nomark _)) (pss_cons (ps_set (i := 4) sc_answers.nd rfl (Or.inl rfl) (pe_ix ix_list (pv 0) (pv 3) (fun _ _ => rfl))) (pss_cons (ps_set (i := 5) sc_answers.nd rfl (Or.inl rfl) (pe_op op_add (pe_op op_add (pv 3) pe_int) (pe_ix ix_tup (pe_gt rfl T.g_NUMBERS) (pv 4) (fun _ _ => rfl)))) (pss_cons (ps_set (i := 6) sc_answers.nd rfl (Or.inl rfl) (pe_slice sl_list (pv 0) (po_some (pe_op op_add (pv 3) pe_int)) (po_some (pv 5)))) (pss_cons (ps_set (i := 7) sc_answers.nd rfl (Or.inl rfl) (pe_lst pa_nil)) (pss_cons (ps_if (pt_cmpR op_in_seq (pv 4) (pe_gt rfl T.g_WITH_ROW) (by rfl)) (pss_cons (ps_set (i := 7) sc_answers.nd rfl (Or.inl rfl) (pe_slice sl_list (pv 0) (po_some (pe_op op_add (pv 5) pe_int)) (po_some (pe_op op_add (pe_op op_add (pv 5) pe_int) (pe_ix ix_list (pv 0) (pv 5) (fun _ _ => rfl)))))) (pss_one (ps_set (i := 5) sc_answers.nd rfl (Or.inl rfl) (pe_op op_add (pe_op op_add (pv 5) pe_int) (pe_ix ix_list (pv 0) (pv 5) (fun _ _ => rfl)))))) pss_nil) (pss_cons (ps_set (i := 3) sc_answers.nd rfl (Or.inl rfl) (pv 5)) (pss_cons (ps_if (pt_cmpR op_in_seq (pv 4) (pe_gt rfl T.g_WITH_ROW) (by rfl)) (pss_one (ps_set (i := 8) sc_answers.nd rfl (Or.inl rfl) (pe_callM (ok_told_of_row T) (hr.mono (by decide)) rfl (pa_cons (pv 1) (pa_cons (pv 4) (pa_cons (pv 7) pa_nil)))))) (pss_one (ps_if (pt_cmpR op_gt (pe_ix ix_tup (pe_gt rfl T.g_NUMBERS) (pv 4) (fun _ _ => rfl)) pe_int (nomark _)) (pss_one (ps_set (i := 8) sc_answers.nd rfl (Or.inl rfl) (pe_callM (ok_told_of_numbers T) (hr.mono (by decide)) rfl (pa_cons (pv 1) (pa_cons (pv 4) (pa_cons (pv 6) pa_nil)))))) (pss_one (ps_set (i := 8) sc_answers.nd rfl (Or.inl rfl) (pe_callM (ok_told_alone T) (hr.mono (by decide)) rfl (pa_cons (pv 1) (pa_cons (pv 4) pa_nil)))))))) (pss_cons (ps_expr (pe_bm PySem.F.plainAttrs_list PySem.F.slot_list_append PySem.F.type_list_append mt_append (pv 2) (pa_cons (pe_callB call_len_seq rfl T.b_len PySem.boot_len (pa_cons (pv 8) pa_nil)) pa_nil))) (pss_one (ps_expr (pe_bm PySem.F.plainAttrs_list PySem.F.slot_list_extend PySem.F.type_list_extend mt_extend (pv 2) (pa_cons (pv 8) pa_nil))))))))))))) (pss_one (ps_ret (pv 2)))))))
def A0 : Ad := ⟨0, 0, 0, 0, 0, 0, 0, 0, 0, 0, 0, 0, 0⟩
theorem end_mk {P : Program} {w : World} {fa : Addr} {cDay cField cMoves cWord cReader cHouse cFault t_ROW_STEPS t_COLUMN_STEPS t_SIDE_WORDS t_NUMBERS t_WITH_ROW fFault : Addr} (X : K.In h) (G : h.Ns mainGlobals mg) (hfa : mg "answers" = some (.ref fa))
    (z_Day : PySem.W.nsIn K mainGlobals "Day" = some (some (.ref cDay)))
    (z_Field : PySem.W.nsIn K mainGlobals "Field" = some (some (.ref cField)))
    (z_Moves : PySem.W.nsIn K mainGlobals "Moves" = some (some (.ref cMoves)))
    (z_Word : PySem.W.nsIn K mainGlobals "Word" = some (some (.ref cWord)))
    (z_Reader : PySem.W.nsIn K mainGlobals "Reader" = some (some (.ref cReader)))
    (z_House : PySem.W.nsIn K mainGlobals "House" = some (some (.ref cHouse)))
    (y_ROW_STEPS : PySem.W.nsIn K mainGlobals "ROW_STEPS" = some (some (.ref t_ROW_STEPS)))
    (y_COLUMN_STEPS : PySem.W.nsIn K mainGlobals "COLUMN_STEPS" = some (some (.ref t_COLUMN_STEPS)))
    (y_SIDE_WORDS : PySem.W.nsIn K mainGlobals "SIDE_WORDS" = some (some (.ref t_SIDE_WORDS)))
    (y_NUMBERS : PySem.W.nsIn K mainGlobals "NUMBERS" = some (some (.ref t_NUMBERS)))
    (y_WITH_ROW : PySem.W.nsIn K mainGlobals "WITH_ROW" = some (some (.ref t_WITH_ROW)))
    (b_len : PySem.W.nsIn K mainGlobals "len" = some none)
    (b_int : PySem.W.nsIn K mainGlobals "int" = some none)
    (b_str : PySem.W.nsIn K mainGlobals "str" = some none)
    (b_list : PySem.W.nsIn K mainGlobals "list" = some none)
    (b_min : PySem.W.nsIn K mainGlobals "min" = some none)
    (b_max : PySem.W.nsIn K mainGlobals "max" = some none)
    (b_sorted : PySem.W.nsIn K mainGlobals "sorted" = some none)
    (b_ord : PySem.W.nsIn K mainGlobals "ord" = some none)
    (b_range : PySem.W.nsIn K mainGlobals "range" = some none)
    (b_enumerate : PySem.W.nsIn K mainGlobals "enumerate" = some none)
    {k_ABOVE : Tok} (g_ABOVE : PySem.W.nsIn K mainGlobals "ABOVE" = some (some (.int (0) k_ABOVE)))
    {k_RIGHT : Tok} (g_RIGHT : PySem.W.nsIn K mainGlobals "RIGHT" = some (some (.int (1) k_RIGHT)))
    {k_BELOW : Tok} (g_BELOW : PySem.W.nsIn K mainGlobals "BELOW" = some (some (.int (2) k_BELOW)))
    {k_LEFT : Tok} (g_LEFT : PySem.W.nsIn K mainGlobals "LEFT" = some (some (.int (3) k_LEFT)))
    {k_SIDES : Tok} (g_SIDES : PySem.W.nsIn K mainGlobals "SIDES" = some (some (.int (4) k_SIDES)))
    {k_UPRIGHT : Tok} (g_UPRIGHT : PySem.W.nsIn K mainGlobals "UPRIGHT" = some (some (.int (100) k_UPRIGHT)))
    {k_NONE : Tok} (g_NONE : PySem.W.nsIn K mainGlobals "NONE" = some (some (.int (-1) k_NONE)))
    {k_BLANK : Tok} (g_BLANK : PySem.W.nsIn K mainGlobals "BLANK" = some (some (.int (32) k_BLANK)))
    {k_LINE_END : Tok} (g_LINE_END : PySem.W.nsIn K mainGlobals "LINE_END" = some (some (.int (10) k_LINE_END)))
    {k_MOST_SIZE : Tok} (g_MOST_SIZE : PySem.W.nsIn K mainGlobals "MOST_SIZE" = some (some (.int (8) k_MOST_SIZE)))
    {k_MOST_DAYS : Tok} (g_MOST_DAYS : PySem.W.nsIn K mainGlobals "MOST_DAYS" = some (some (.int (20) k_MOST_DAYS)))
    {k_NO_BYTES : Tok} (g_NO_BYTES : PySem.W.nsIn K mainGlobals "NO_BYTES" = some (some (.int (-1) k_NO_BYTES)))
    {k_OUT_OF_RANGE : Tok} (g_OUT_OF_RANGE : PySem.W.nsIn K mainGlobals "OUT_OF_RANGE" = some (some (.int (-3) k_OUT_OF_RANGE)))
    {k_NO_LIST : Tok} (g_NO_LIST : PySem.W.nsIn K mainGlobals "NO_LIST" = some (some (.int (-4) k_NO_LIST)))
    {k_NO_DAY : Tok} (g_NO_DAY : PySem.W.nsIn K mainGlobals "NO_DAY" = some (some (.int (-5) k_NO_DAY)))
    {k_TOO_MANY : Tok} (g_TOO_MANY : PySem.W.nsIn K mainGlobals "TOO_MANY" = some (some (.int (-9) k_TOO_MANY)))
    {k_FAULT : Tok} (g_FAULT : PySem.W.nsIn K mainGlobals "FAULT" = some (some (.int (-1000) k_FAULT)))
    {k_MOST_ORDERED : Tok} (g_MOST_ORDERED : PySem.W.nsIn K mainGlobals "MOST_ORDERED" = some (some (.int (7) k_MOST_ORDERED)))
    (q_ROW_STEPS : ∀ H, SqT K H t_ROW_STEPS [.int (-1), .int (0), .int (1), .int (0)])
    (q_COLUMN_STEPS : ∀ H, SqT K H t_COLUMN_STEPS [.int (0), .int (1), .int (0), .int (-1)])
    (q_SIDE_WORDS : ∀ H, SqT K H t_SIDE_WORDS [.str "above", .str "right", .str "below", .str "left"])
    (q_NUMBERS : ∀ H, SqT K H t_NUMBERS [.int (0), .int (0), .int (0), .int (0), .int (0), .int (1), .int (0), .int (0), .int (0), .int (2), .int (1), .int (1), .int (0), .int (0), .int (0), .int (0), .int (0), .int (0), .int (0), .int (0), .int (2)])
    (q_WITH_ROW : ∀ H, SqT K H t_WITH_ROW [.int (1), .int (2), .int (4), .int (7), .int (8), .int (13), .int (16)])
    (c_Day : Cls K cDay)
    (n_Day_row : PySem.W.findIn K (.ref cDay) "row" = some none)
    (n_Day_column : PySem.W.findIn K (.ref cDay) "column" = some none)
    (n_Day_high : PySem.W.findIn K (.ref cDay) "high" = some none)
    (n_Day_wide : PySem.W.findIn K (.ref cDay) "wide" = some none)
    (c_Field : Cls K cField)
    (n_Field_rows : PySem.W.findIn K (.ref cField) "rows" = some none)
    (n_Field_columns : PySem.W.findIn K (.ref cField) "columns" = some none)
    (n_Field_walled : PySem.W.findIn K (.ref cField) "walled" = some none)
    (c_Moves : Cls K cMoves)
    (n_Moves_spots : PySem.W.findIn K (.ref cMoves) "spots" = some none)
    (n_Moves_sizes : PySem.W.findIn K (.ref cMoves) "sizes" = some none)
    (c_Word : Cls K cWord)
    (n_Word_place : PySem.W.findIn K (.ref cWord) "place" = some none)
    (n_Word_row : PySem.W.findIn K (.ref cWord) "row" = some none)
    (c_Reader : Cls K cReader)
    (n_Reader_words : PySem.W.findIn K (.ref cReader) "words" = some none)
    (n_Reader_size : PySem.W.findIn K (.ref cReader) "size" = some none)
    (n_Reader_at : PySem.W.findIn K (.ref cReader) "at" = some none)
    (c_House : Cls K cHouse)
    (n_House_field : PySem.W.findIn K (.ref cHouse) "field" = some none)
    (n_House_days : PySem.W.findIn K (.ref cHouse) "days" = some none)
    (f_Day_init : ∃ f fd, (Mk K cDay f ∧ mg "Day" = some (.ref cDay)) ∧ Fun K "__init__" "Day.__init__" s_Day_init f fd)
    (f_Day_cells_in : ∃ f fd, Meth K cDay "cells_in" f ∧ Fun K "cells_in" "Day.cells_in" s_Day_cells_in f fd)
    (f_Field_init : ∃ f fd, (Mk K cField f ∧ mg "Field" = some (.ref cField)) ∧ Fun K "__init__" "Field.__init__" s_Field_init f fd)
    (f_Field_count : ∃ f fd, Meth K cField "count" f ∧ Fun K "count" "Field.count" s_Field_count f fd)
    (f_Field_beyond : ∃ f fd, Meth K cField "beyond" f ∧ Fun K "beyond" "Field.beyond" s_Field_beyond f fd)
    (f_Field_needs_hurdle : ∃ f fd, Meth K cField "needs_hurdle" f ∧ Fun K "needs_hurdle" "Field.needs_hurdle" s_Field_needs_hurdle f fd)
    (f_Field_hurdles : ∃ f fd, Meth K cField "hurdles" f ∧ Fun K "hurdles" "Field.hurdles" s_Field_hurdles f fd)
    (f_Field_place_of : ∃ f fd, Meth K cField "place_of" f ∧ Fun K "place_of" "Field.place_of" s_Field_place_of f fd)
    (f_Field_places : ∃ f fd, Meth K cField "places" f ∧ Fun K "places" "Field.places" s_Field_places f fd)
    (f_Field_parts : ∃ f fd, Meth K cField "parts" f ∧ Fun K "parts" "Field.parts" s_Field_parts f fd)
    (f_Field_line_cost : ∃ f fd, Meth K cField "line_cost" f ∧ Fun K "line_cost" "Field.line_cost" s_Field_line_cost f fd)
    (f_Field_rectangle_cost : ∃ f fd, Meth K cField "rectangle_cost" f ∧ Fun K "rectangle_cost" "Field.rectangle_cost" s_Field_rectangle_cost f fd)
    (f_Field_rectangle_put : ∃ f fd, Meth K cField "rectangle_put" f ∧ Fun K "rectangle_put" "Field.rectangle_put" s_Field_rectangle_put f fd)
    (f_Field_rectangles : ∃ f fd, Meth K cField "rectangles" f ∧ Fun K "rectangles" "Field.rectangles" s_Field_rectangles f fd)
    (f_Field_greatest : ∃ f fd, Meth K cField "greatest" f ∧ Fun K "greatest" "Field.greatest" s_Field_greatest f fd)
    (f_Field_cheapest : ∃ f fd, Meth K cField "cheapest" f ∧ Fun K "cheapest" "Field.cheapest" s_Field_cheapest f fd)
    (f_Field_row_cells : ∃ f fd, Meth K cField "row_cells" f ∧ Fun K "row_cells" "Field.row_cells" s_Field_row_cells f fd)
    (f_Field_column_cells : ∃ f fd, Meth K cField "column_cells" f ∧ Fun K "column_cells" "Field.column_cells" s_Field_column_cells f fd)
    (f_Field_has_all : ∃ f fd, Meth K cField "has_all" f ∧ Fun K "has_all" "Field.has_all" s_Field_has_all f fd)
    (f_Field_has_any : ∃ f fd, Meth K cField "has_any" f ∧ Fun K "has_any" "Field.has_any" s_Field_has_any f fd)
    (f_Field_is_filled : ∃ f fd, Meth K cField "is_filled" f ∧ Fun K "is_filled" "Field.is_filled" s_Field_is_filled f fd)
    (f_Field_rounded : ∃ f fd, Meth K cField "rounded" f ∧ Fun K "rounded" "Field.rounded" s_Field_rounded f fd)
    (f_Moves_init : ∃ f fd, (Mk K cMoves f ∧ mg "Moves" = some (.ref cMoves)) ∧ Fun K "__init__" "Moves.__init__" s_Moves_init f fd)
    (f_Moves_staying : ∃ f fd, Meth K cMoves "staying" f ∧ Fun K "staying" "Moves.staying" s_Moves_staying f fd)
    (f_Moves_carried : ∃ f fd, Meth K cMoves "carried" f ∧ Fun K "carried" "Moves.carried" s_Moves_carried f fd)
    (f_Moves_carried_in : ∃ f fd, Meth K cMoves "carried_in" f ∧ Fun K "carried_in" "Moves.carried_in" s_Moves_carried_in f fd)
    (f_members : ∃ f fd, (mg "members" = some (.ref f) ∧ PySem.W.keepIn K (.ref f) = true) ∧ Fun K "members" "members" s_members f fd)
    (f_Moves_least_of : ∃ f fd, Meth K cMoves "least_of" f ∧ Fun K "least_of" "Moves.least_of" s_Moves_least_of f fd)
    (f_Moves_table : ∃ f fd, Meth K cMoves "table" f ∧ Fun K "table" "Moves.table" s_Moves_table f fd)
    (f_Moves_last_of : ∃ f fd, Meth K cMoves "last_of" f ∧ Fun K "last_of" "Moves.last_of" s_Moves_last_of f fd)
    (f_Moves_best_order : ∃ f fd, Meth K cMoves "best_order" f ∧ Fun K "best_order" "Moves.best_order" s_Moves_best_order f fd)
    (f_Word_init : ∃ f fd, (Mk K cWord f ∧ mg "Word" = some (.ref cWord)) ∧ Fun K "__init__" "Word.__init__" s_Word_init f fd)
    (f_Word_number : ∃ f fd, Meth K cWord "number" f ∧ Fun K "number" "Word.number" s_Word_number f fd)
    (f_bytes_of : ∃ f fd, (mg "bytes_of" = some (.ref f) ∧ PySem.W.keepIn K (.ref f) = true) ∧ Fun K "bytes_of" "bytes_of" s_bytes_of f fd)
    (f_word_end : ∃ f fd, (mg "word_end" = some (.ref f) ∧ PySem.W.keepIn K (.ref f) = true) ∧ Fun K "word_end" "word_end" s_word_end f fd)
    (f_words_of : ∃ f fd, (mg "words_of" = some (.ref f) ∧ PySem.W.keepIn K (.ref f) = true) ∧ Fun K "words_of" "words_of" s_words_of f fd)
    (f_Reader_init : ∃ f fd, (Mk K cReader f ∧ mg "Reader" = some (.ref cReader)) ∧ Fun K "__init__" "Reader.__init__" s_Reader_init f fd)
    (f_Reader_is_end : ∃ f fd, Meth K cReader "is_end" f ∧ Fun K "is_end" "Reader.is_end" s_Reader_is_end f fd)
    (f_Reader_ask : ∃ f fd, Meth K cReader "ask" f ∧ Fun K "ask" "Reader.ask" s_Reader_ask f fd)
    (f_Reader_is_next : ∃ f fd, Meth K cReader "is_next" f ∧ Fun K "is_next" "Reader.is_next" s_Reader_is_next f fd)
    (f_Reader_take : ∃ f fd, Meth K cReader "take" f ∧ Fun K "take" "Reader.take" s_Reader_take f fd)
    (f_Reader_want : ∃ f fd, Meth K cReader "want" f ∧ Fun K "want" "Reader.want" s_Reader_want f fd)
    (f_Reader_want_number : ∃ f fd, Meth K cReader "want_number" f ∧ Fun K "want_number" "Reader.want_number" s_Reader_want_number f fd)
    (f_read_walls : ∃ f fd, (mg "read_walls" = some (.ref f) ∧ PySem.W.keepIn K (.ref f) = true) ∧ Fun K "read_walls" "read_walls" s_read_walls f fd)
    (f_read_day : ∃ f fd, (mg "read_day" = some (.ref f) ∧ PySem.W.keepIn K (.ref f) = true) ∧ Fun K "read_day" "read_day" s_read_day f fd)
    (f_read_field : ∃ f fd, (mg "read_field" = some (.ref f) ∧ PySem.W.keepIn K (.ref f) = true) ∧ Fun K "read_field" "read_field" s_read_field f fd)
    (f_told_field : ∃ f fd, (mg "told_field" = some (.ref f) ∧ PySem.W.keepIn K (.ref f) = true) ∧ Fun K "told_field" "told_field" s_told_field f fd)
    (f_told_day : ∃ f fd, (mg "told_day" = some (.ref f) ∧ PySem.W.keepIn K (.ref f) = true) ∧ Fun K "told_day" "told_day" s_told_day f fd)
    (f_joined : ∃ f fd, (mg "joined" = some (.ref f) ∧ PySem.W.keepIn K (.ref f) = true) ∧ Fun K "joined" "joined" s_joined f fd)
    (f_written : ∃ f fd, (mg "written" = some (.ref f) ∧ PySem.W.keepIn K (.ref f) = true) ∧ Fun K "written" "written" s_written f fd)
    (f_are_bytes : ∃ f fd, (mg "are_bytes" = some (.ref f) ∧ PySem.W.keepIn K (.ref f) = true) ∧ Fun K "are_bytes" "are_bytes" s_are_bytes f fd)
    (f_is_out : ∃ f fd, (mg "is_out" = some (.ref f) ∧ PySem.W.keepIn K (.ref f) = true) ∧ Fun K "is_out" "is_out" s_is_out f fd)
    (f_House_init : ∃ f fd, (Mk K cHouse f ∧ mg "House" = some (.ref cHouse)) ∧ Fun K "__init__" "House.__init__" s_House_init f fd)
    (f_House_clear : ∃ f fd, Meth K cHouse "clear" f ∧ Fun K "clear" "House.clear" s_House_clear f fd)
    (f_House_set_field : ∃ f fd, Meth K cHouse "set_field" f ∧ Fun K "set_field" "House.set_field" s_House_set_field f fd)
    (f_House_look : ∃ f fd, Meth K cHouse "look" f ∧ Fun K "look" "House.look" s_House_look f fd)
    (f_House_text : ∃ f fd, Meth K cHouse "text" f ∧ Fun K "text" "House.text" s_House_text f fd)
    (f_House_add_day : ∃ f fd, Meth K cHouse "add_day" f ∧ Fun K "add_day" "House.add_day" s_House_add_day f fd)
    (f_House_undo : ∃ f fd, Meth K cHouse "undo" f ∧ Fun K "undo" "House.undo" s_House_undo f fd)
    (f_House_told : ∃ f fd, Meth K cHouse "told" f ∧ Fun K "told" "House.told" s_House_told f fd)
    (f_House_are_cells : ∃ f fd, Meth K cHouse "are_cells" f ∧ Fun K "are_cells" "House.are_cells" s_House_are_cells f fd)
    (f_House_cost : ∃ f fd, Meth K cHouse "cost" f ∧ Fun K "cost" "House.cost" s_House_cost f fd)
    (f_House_sides : ∃ f fd, Meth K cHouse "sides" f ∧ Fun K "sides" "House.sides" s_House_sides f fd)
    (f_House_rect : ∃ f fd, Meth K cHouse "rect" f ∧ Fun K "rect" "House.rect" s_House_rect f fd)
    (f_House_best : ∃ f fd, Meth K cHouse "best" f ∧ Fun K "best" "House.best" s_House_best f fd)
    (f_House_least : ∃ f fd, Meth K cHouse "least" f ∧ Fun K "least" "House.least" s_House_least f fd)
    (f_House_curve : ∃ f fd, Meth K cHouse "curve" f ∧ Fun K "curve" "House.curve" s_House_curve f fd)
    (f_House_rounded : ∃ f fd, Meth K cHouse "rounded" f ∧ Fun K "rounded" "House.rounded" s_House_rounded f fd)
    (f_House_moves : ∃ f fd, Meth K cHouse "moves" f ∧ Fun K "moves" "House.moves" s_House_moves f fd)
    (f_House_plan : ∃ f fd, Meth K cHouse "plan" f ∧ Fun K "plan" "House.plan" s_House_plan f fd)
    (f_House_covered : ∃ f fd, Meth K cHouse "covered" f ∧ Fun K "covered" "House.covered" s_House_covered f fd)
    (f_House_order : ∃ f fd, Meth K cHouse "order" f ∧ Fun K "order" "House.order" s_House_order f fd)
    (f_House_fewest : ∃ f fd, Meth K cHouse "fewest" f ∧ Fun K "fewest" "House.fewest" s_House_fewest f fd)
    (f_House_best_order : ∃ f fd, Meth K cHouse "best_order" f ∧ Fun K "best_order" "House.best_order" s_House_best_order f fd)
    (f_House_labels : ∃ f fd, Meth K cHouse "labels" f ∧ Fun K "labels" "House.labels" s_House_labels f fd)
    (f_House_day_fault : ∃ f fd, Meth K cHouse "day_fault" f ∧ Fun K "day_fault" "House.day_fault" s_House_day_fault f fd)
    (f_House_between : ∃ f fd, Meth K cHouse "between" f ∧ Fun K "between" "House.between" s_House_between f fd)
    (f_told_of_row : ∃ f fd, (mg "told_of_row" = some (.ref f) ∧ PySem.W.keepIn K (.ref f) = true) ∧ Fun K "told_of_row" "told_of_row" s_told_of_row f fd)
    (f_told_of_numbers : ∃ f fd, (mg "told_of_numbers" = some (.ref f) ∧ PySem.W.keepIn K (.ref f) = true) ∧ Fun K "told_of_numbers" "told_of_numbers" s_told_of_numbers f fd)
    (f_told_alone : ∃ f fd, (mg "told_alone" = some (.ref f) ∧ PySem.W.keepIn K (.ref f) = true) ∧ Fun K "told_alone" "told_alone" s_told_alone f fd)
    (f_answers : ∃ f fd, (mg "answers" = some (.ref f) ∧ PySem.W.keepIn K (.ref f) = true) ∧ Fun K "answers" "answers" s_answers f fd)
    (fault : FaultTxt K mg cFault fFault)
    : ∃ fd : FuncData, (∀ (s : Shared) (us : List Value), us.length = (["calls"] : List Str).length → BindsTo s fd ⟨us, []⟩ ((["calls"] : List Str).zip us)) ∧ ∀ base : Heap, K.In base → base.Ns mainGlobals mg → FnOk P w K mg base CX0 10 fa fd ["calls"] (sp_answers K A0) := by
  have T : Txt K mg ⟨cDay, cField, cMoves, cWord, cReader, cHouse, cFault, t_ROW_STEPS, t_COLUMN_STEPS, t_SIDE_WORDS, t_NUMBERS, t_WITH_ROW, fFault⟩ := { b_len := PySem.W.mg_none_of X G b_len, b_int := PySem.W.mg_none_of X G b_int, b_str := PySem.W.mg_none_of X G b_str, b_list := PySem.W.mg_none_of X G b_list, b_min := PySem.W.mg_none_of X G b_min, b_max := PySem.W.mg_none_of X G b_max, b_sorted := PySem.W.mg_none_of X G b_sorted, b_ord := PySem.W.mg_none_of X G b_ord, b_range := PySem.W.mg_none_of X G b_range, b_enumerate := PySem.W.mg_none_of X G b_enumerate, g_ABOVE := ⟨_, PySem.W.mg_of X G g_ABOVE⟩, g_RIGHT := ⟨_, PySem.W.mg_of X G g_RIGHT⟩, g_BELOW := ⟨_, PySem.W.mg_of X G g_BELOW⟩, g_LEFT := ⟨_, PySem.W.mg_of X G g_LEFT⟩, g_SIDES := ⟨_, PySem.W.mg_of X G g_SIDES⟩, g_UPRIGHT := ⟨_, PySem.W.mg_of X G g_UPRIGHT⟩, g_NONE := ⟨_, PySem.W.mg_of X G g_NONE⟩, g_BLANK := ⟨_, PySem.W.mg_of X G g_BLANK⟩, g_LINE_END := ⟨_, PySem.W.mg_of X G g_LINE_END⟩, g_MOST_SIZE := ⟨_, PySem.W.mg_of X G g_MOST_SIZE⟩, g_MOST_DAYS := ⟨_, PySem.W.mg_of X G g_MOST_DAYS⟩, g_NO_BYTES := ⟨_, PySem.W.mg_of X G g_NO_BYTES⟩, g_OUT_OF_RANGE := ⟨_, PySem.W.mg_of X G g_OUT_OF_RANGE⟩, g_NO_LIST := ⟨_, PySem.W.mg_of X G g_NO_LIST⟩, g_NO_DAY := ⟨_, PySem.W.mg_of X G g_NO_DAY⟩, g_TOO_MANY := ⟨_, PySem.W.mg_of X G g_TOO_MANY⟩, g_FAULT := ⟨_, PySem.W.mg_of X G g_FAULT⟩, g_MOST_ORDERED := ⟨_, PySem.W.mg_of X G g_MOST_ORDERED⟩, g_ROW_STEPS := PySem.W.mg_of X G y_ROW_STEPS, q_ROW_STEPS := q_ROW_STEPS, g_COLUMN_STEPS := PySem.W.mg_of X G y_COLUMN_STEPS, q_COLUMN_STEPS := q_COLUMN_STEPS, g_SIDE_WORDS := PySem.W.mg_of X G y_SIDE_WORDS, q_SIDE_WORDS := q_SIDE_WORDS, g_NUMBERS := PySem.W.mg_of X G y_NUMBERS, q_NUMBERS := q_NUMBERS, g_WITH_ROW := PySem.W.mg_of X G y_WITH_ROW, q_WITH_ROW := q_WITH_ROW, c_Day := c_Day, n_Day_row := n_Day_row, n_Day_column := n_Day_column, n_Day_high := n_Day_high, n_Day_wide := n_Day_wide, c_Field := c_Field, n_Field_rows := n_Field_rows, n_Field_columns := n_Field_columns, n_Field_walled := n_Field_walled, c_Moves := c_Moves, n_Moves_spots := n_Moves_spots, n_Moves_sizes := n_Moves_sizes, c_Word := c_Word, n_Word_place := n_Word_place, n_Word_row := n_Word_row, c_Reader := c_Reader, n_Reader_words := n_Reader_words, n_Reader_size := n_Reader_size, n_Reader_at := n_Reader_at, c_House := c_House, n_House_field := n_House_field, n_House_days := n_House_days, f_Day_init := f_Day_init, f_Day_cells_in := f_Day_cells_in, f_Field_init := f_Field_init, f_Field_count := f_Field_count, f_Field_beyond := f_Field_beyond, f_Field_needs_hurdle := f_Field_needs_hurdle, f_Field_hurdles := f_Field_hurdles, f_Field_place_of := f_Field_place_of, f_Field_places := f_Field_places, f_Field_parts := f_Field_parts, f_Field_line_cost := f_Field_line_cost, f_Field_rectangle_cost := f_Field_rectangle_cost, f_Field_rectangle_put := f_Field_rectangle_put, f_Field_rectangles := f_Field_rectangles, f_Field_greatest := f_Field_greatest, f_Field_cheapest := f_Field_cheapest, f_Field_row_cells := f_Field_row_cells, f_Field_column_cells := f_Field_column_cells, f_Field_has_all := f_Field_has_all, f_Field_has_any := f_Field_has_any, f_Field_is_filled := f_Field_is_filled, f_Field_rounded := f_Field_rounded, f_Moves_init := f_Moves_init, f_Moves_staying := f_Moves_staying, f_Moves_carried := f_Moves_carried, f_Moves_carried_in := f_Moves_carried_in, f_members := f_members, f_Moves_least_of := f_Moves_least_of, f_Moves_table := f_Moves_table, f_Moves_last_of := f_Moves_last_of, f_Moves_best_order := f_Moves_best_order, f_Word_init := f_Word_init, f_Word_number := f_Word_number, f_bytes_of := f_bytes_of, f_word_end := f_word_end, f_words_of := f_words_of, f_Reader_init := f_Reader_init, f_Reader_is_end := f_Reader_is_end, f_Reader_ask := f_Reader_ask, f_Reader_is_next := f_Reader_is_next, f_Reader_take := f_Reader_take, f_Reader_want := f_Reader_want, f_Reader_want_number := f_Reader_want_number, f_read_walls := f_read_walls, f_read_day := f_read_day, f_read_field := f_read_field, f_told_field := f_told_field, f_told_day := f_told_day, f_joined := f_joined, f_written := f_written, f_are_bytes := f_are_bytes, f_is_out := f_is_out, f_House_init := f_House_init, f_House_clear := f_House_clear, f_House_set_field := f_House_set_field, f_House_look := f_House_look, f_House_text := f_House_text, f_House_add_day := f_House_add_day, f_House_undo := f_House_undo, f_House_told := f_House_told, f_House_are_cells := f_House_are_cells, f_House_cost := f_House_cost, f_House_sides := f_House_sides, f_House_rect := f_House_rect, f_House_best := f_House_best, f_House_least := f_House_least, f_House_curve := f_House_curve, f_House_rounded := f_House_rounded, f_House_moves := f_House_moves, f_House_plan := f_House_plan, f_House_covered := f_House_covered, f_House_order := f_House_order, f_House_fewest := f_House_fewest, f_House_best_order := f_House_best_order, f_House_labels := f_House_labels, f_House_day_fault := f_House_day_fault, f_House_between := f_House_between, f_told_of_row := f_told_of_row, f_told_of_numbers := f_told_of_numbers, f_told_alone := f_told_alone, f_answers := f_answers, fault := fault }
  obtain ⟨f, fd, ⟨gm, kf⟩, F⟩ := T.f_answers
  have e := hfa.symm.trans gm
  cases e
  have F2 := F
  obtain ⟨⟨oc, od, kV, doc, pm, an, cdv, ct, osl, rfl, l, c⟩, k⟩ := F2
  exact ⟨_, fun s us hu => match us, hu with | [_], _ => .of_eq rfl, fun base _ _ => ok2_answers T F⟩
theorem pl_only {H : Hp} (hO : OnlyF H) : Pl H := fun b o e => by
  rcases hO b with z | ⟨o2, u, z⟩
  · rw [z] at e; cases e
  · rw [z] at e; cases e; rfl
end
end HW

open PySem PySem.W PyProof.Rows HW
set_option maxRecDepth 100000 in
set_option maxHeartbeats 0 in
theorem PySem.Challenge.cw_hurdlefolds_s01_answers_holds : PySem.Challenge.rw_hurdlefolds_s01_answers.Holds := by
  w_on; k_headS; (case hw => exact ⟨[.list [.int 0]], by decide +kernel, by decide +kernel⟩)
  k_fillS
  refine L2.walk_specK (r := PySem.Challenge.rw_hurdlefolds_s01_answers) (k := 10) (CX := L2.CX0) (ps := ["calls"]) (sp := fun K => HW.sp_answers K HW.A0) (by decide +kernel) rfl rfl ⟨rfl, by decide, by decide⟩ (fun w h Y => PySem.W.kIn_of Y) ?F ?S (fun _ _ _ _ z => z)
  case F =>
    intro w mg fa h Y KX G hmg
    refine' HW.end_mk KX G hmg ?z_Day ?z_Field ?z_Moves ?z_Word ?z_Reader ?z_House ?y_ROW_STEPS ?y_COLUMN_STEPS ?y_SIDE_WORDS ?y_NUMBERS ?y_WITH_ROW ?b_len ?b_int ?b_str ?b_list ?b_min ?b_max ?b_sorted ?b_ord ?b_range ?b_enumerate ?g_ABOVE ?g_RIGHT ?g_BELOW ?g_LEFT ?g_SIDES ?g_UPRIGHT ?g_NONE ?g_BLANK ?g_LINE_END ?g_MOST_SIZE ?g_MOST_DAYS ?g_NO_BYTES ?g_OUT_OF_RANGE ?g_NO_LIST ?g_NO_DAY ?g_TOO_MANY ?g_FAULT ?g_MOST_ORDERED ?q_ROW_STEPS ?q_COLUMN_STEPS ?q_SIDE_WORDS ?q_NUMBERS ?q_WITH_ROW ?c_Day ?n_Day_row ?n_Day_column ?n_Day_high ?n_Day_wide ?c_Field ?n_Field_rows ?n_Field_columns ?n_Field_walled ?c_Moves ?n_Moves_spots ?n_Moves_sizes ?c_Word ?n_Word_place ?n_Word_row ?c_Reader ?n_Reader_words ?n_Reader_size ?n_Reader_at ?c_House ?n_House_field ?n_House_days ?f_Day_init ?f_Day_cells_in ?f_Field_init ?f_Field_count ?f_Field_beyond ?f_Field_needs_hurdle ?f_Field_hurdles ?f_Field_place_of ?f_Field_places ?f_Field_parts ?f_Field_line_cost ?f_Field_rectangle_cost ?f_Field_rectangle_put ?f_Field_rectangles ?f_Field_greatest ?f_Field_cheapest ?f_Field_row_cells ?f_Field_column_cells ?f_Field_has_all ?f_Field_has_any ?f_Field_is_filled ?f_Field_rounded ?f_Moves_init ?f_Moves_staying ?f_Moves_carried ?f_Moves_carried_in ?f_members ?f_Moves_least_of ?f_Moves_table ?f_Moves_last_of ?f_Moves_best_order ?f_Word_init ?f_Word_number ?f_bytes_of ?f_word_end ?f_words_of ?f_Reader_init ?f_Reader_is_end ?f_Reader_ask ?f_Reader_is_next ?f_Reader_take ?f_Reader_want ?f_Reader_want_number ?f_read_walls ?f_read_day ?f_read_field ?f_told_field ?f_told_day ?f_joined ?f_written ?f_are_bytes ?f_is_out ?f_House_init ?f_House_clear ?f_House_set_field ?f_House_look ?f_House_text ?f_House_add_day ?f_House_undo ?f_House_told ?f_House_are_cells ?f_House_cost ?f_House_sides ?f_House_rect ?f_House_best ?f_House_least ?f_House_curve ?f_House_rounded ?f_House_moves ?f_House_plan ?f_House_covered ?f_House_order ?f_House_fewest ?f_House_best_order ?f_House_labels ?f_House_day_fault ?f_House_between ?f_told_of_row ?f_told_of_numbers ?f_told_alone ?f_answers ?fault
    (case z_Day => k_is)
    (case z_Field => k_is)
    (case z_Moves => k_is)
    (case z_Word => k_is)
    (case z_Reader => k_is)
    (case z_House => k_is)
    (case y_ROW_STEPS => k_is)
    (case y_COLUMN_STEPS => k_is)
    (case y_SIDE_WORDS => k_is)
    (case y_NUMBERS => k_is)
    (case y_WITH_ROW => k_is)
    (case b_len => k_is)
    (case b_int => k_is)
    (case b_str => k_is)
    (case b_list => k_is)
    (case b_min => k_is)
    (case b_max => k_is)
    (case b_sorted => k_is)
    (case b_ord => k_is)
    (case b_range => k_is)
    (case b_enumerate => k_is)
    (case g_ABOVE => k_is)
    (case g_RIGHT => k_is)
    (case g_BELOW => k_is)
    (case g_LEFT => k_is)
    (case g_SIDES => k_is)
    (case g_UPRIGHT => k_is)
    (case g_NONE => k_is)
    (case g_BLANK => k_is)
    (case g_LINE_END => k_is)
    (case g_MOST_SIZE => k_is)
    (case g_MOST_DAYS => k_is)
    (case g_NO_BYTES => k_is)
    (case g_OUT_OF_RANGE => k_is)
    (case g_NO_LIST => k_is)
    (case g_NO_DAY => k_is)
    (case g_TOO_MANY => k_is)
    (case g_FAULT => k_is)
    (case g_MOST_ORDERED => k_is)
    (case q_ROW_STEPS => refine' tup_ROW_STEPS ?l; (case l => k_is))
    (case q_COLUMN_STEPS => refine' tup_COLUMN_STEPS ?l; (case l => k_is))
    (case q_SIDE_WORDS => refine' tup_SIDE_WORDS ?l; (case l => k_is))
    (case q_NUMBERS => refine' tup_NUMBERS ?l; (case l => k_is))
    (case q_WITH_ROW => refine' tup_WITH_ROW ?l; (case l => k_is))
    (case c_Day => refine' ⟨?pg, ?hd, ?po, ?sa⟩; (case pg => k_is); (case hd => k_is); (case po => k_is); (case sa => k_is))
    (case n_Day_row => k_is)
    (case n_Day_column => k_is)
    (case n_Day_high => k_is)
    (case n_Day_wide => k_is)
    (case c_Field => refine' ⟨?pg, ?hd, ?po, ?sa⟩; (case pg => k_is); (case hd => k_is); (case po => k_is); (case sa => k_is))
    (case n_Field_rows => k_is)
    (case n_Field_columns => k_is)
    (case n_Field_walled => k_is)
    (case c_Moves => refine' ⟨?pg, ?hd, ?po, ?sa⟩; (case pg => k_is); (case hd => k_is); (case po => k_is); (case sa => k_is))
    (case n_Moves_spots => k_is)
    (case n_Moves_sizes => k_is)
    (case c_Word => refine' ⟨?pg, ?hd, ?po, ?sa⟩; (case pg => k_is); (case hd => k_is); (case po => k_is); (case sa => k_is))
    (case n_Word_place => k_is)
    (case n_Word_row => k_is)
    (case c_Reader => refine' ⟨?pg, ?hd, ?po, ?sa⟩; (case pg => k_is); (case hd => k_is); (case po => k_is); (case sa => k_is))
    (case n_Reader_words => k_is)
    (case n_Reader_size => k_is)
    (case n_Reader_at => k_is)
    (case c_House => refine' ⟨?pg, ?hd, ?po, ?sa⟩; (case pg => k_is); (case hd => k_is); (case po => k_is); (case sa => k_is))
    (case n_House_field => k_is)
    (case n_House_days => k_is)
    (case f_Day_init => refine' mkC KX G ?g ?mk ?kc ?a ?i ?l ?c ?k; (case g => k_is); (case mk => k_is); (case kc => k_is); (case a => k_is); (case i => k_is); (case l => k_is); (case c => k_is); (case k => k_is))
    (case f_Day_cells_in => refine' mkM ?a ?i ?l ?c ?k; (case a => k_is); (case i => k_is); (case l => k_is); (case c => k_is); (case k => k_is))
    (case f_Field_init => refine' mkC KX G ?g ?mk ?kc ?a ?i ?l ?c ?k; (case g => k_is); (case mk => k_is); (case kc => k_is); (case a => k_is); (case i => k_is); (case l => k_is); (case c => k_is); (case k => k_is))
    (case f_Field_count => refine' mkM ?a ?i ?l ?c ?k; (case a => k_is); (case i => k_is); (case l => k_is); (case c => k_is); (case k => k_is))
    (case f_Field_beyond => refine' mkM ?a ?i ?l ?c ?k; (case a => k_is); (case i => k_is); (case l => k_is); (case c => k_is); (case k => k_is))
    (case f_Field_needs_hurdle => refine' mkM ?a ?i ?l ?c ?k; (case a => k_is); (case i => k_is); (case l => k_is); (case c => k_is); (case k => k_is))
    (case f_Field_hurdles => refine' mkM ?a ?i ?l ?c ?k; (case a => k_is); (case i => k_is); (case l => k_is); (case c => k_is); (case k => k_is))
    (case f_Field_place_of => refine' mkM ?a ?i ?l ?c ?k; (case a => k_is); (case i => k_is); (case l => k_is); (case c => k_is); (case k => k_is))
    (case f_Field_places => refine' mkM ?a ?i ?l ?c ?k; (case a => k_is); (case i => k_is); (case l => k_is); (case c => k_is); (case k => k_is))
    (case f_Field_parts => refine' mkM ?a ?i ?l ?c ?k; (case a => k_is); (case i => k_is); (case l => k_is); (case c => k_is); (case k => k_is))
    (case f_Field_line_cost => refine' mkM ?a ?i ?l ?c ?k; (case a => k_is); (case i => k_is); (case l => k_is); (case c => k_is); (case k => k_is))
    (case f_Field_rectangle_cost => refine' mkM ?a ?i ?l ?c ?k; (case a => k_is); (case i => k_is); (case l => k_is); (case c => k_is); (case k => k_is))
    (case f_Field_rectangle_put => refine' mkM ?a ?i ?l ?c ?k; (case a => k_is); (case i => k_is); (case l => k_is); (case c => k_is); (case k => k_is))
    (case f_Field_rectangles => refine' mkM ?a ?i ?l ?c ?k; (case a => k_is); (case i => k_is); (case l => k_is); (case c => k_is); (case k => k_is))
    (case f_Field_greatest => refine' mkM ?a ?i ?l ?c ?k; (case a => k_is); (case i => k_is); (case l => k_is); (case c => k_is); (case k => k_is))
    (case f_Field_cheapest => refine' mkM ?a ?i ?l ?c ?k; (case a => k_is); (case i => k_is); (case l => k_is); (case c => k_is); (case k => k_is))
    (case f_Field_row_cells => refine' mkM ?a ?i ?l ?c ?k; (case a => k_is); (case i => k_is); (case l => k_is); (case c => k_is); (case k => k_is))
    (case f_Field_column_cells => refine' mkM ?a ?i ?l ?c ?k; (case a => k_is); (case i => k_is); (case l => k_is); (case c => k_is); (case k => k_is))
    (case f_Field_has_all => refine' mkM ?a ?i ?l ?c ?k; (case a => k_is); (case i => k_is); (case l => k_is); (case c => k_is); (case k => k_is))
    (case f_Field_has_any => refine' mkM ?a ?i ?l ?c ?k; (case a => k_is); (case i => k_is); (case l => k_is); (case c => k_is); (case k => k_is))
    (case f_Field_is_filled => refine' mkM ?a ?i ?l ?c ?k; (case a => k_is); (case i => k_is); (case l => k_is); (case c => k_is); (case k => k_is))
    (case f_Field_rounded => refine' mkM ?a ?i ?l ?c ?k; (case a => k_is); (case i => k_is); (case l => k_is); (case c => k_is); (case k => k_is))
    (case f_Moves_init => refine' mkC KX G ?g ?mk ?kc ?a ?i ?l ?c ?k; (case g => k_is); (case mk => k_is); (case kc => k_is); (case a => k_is); (case i => k_is); (case l => k_is); (case c => k_is); (case k => k_is))
    (case f_Moves_staying => refine' mkM ?a ?i ?l ?c ?k; (case a => k_is); (case i => k_is); (case l => k_is); (case c => k_is); (case k => k_is))
    (case f_Moves_carried => refine' mkM ?a ?i ?l ?c ?k; (case a => k_is); (case i => k_is); (case l => k_is); (case c => k_is); (case k => k_is))
    (case f_Moves_carried_in => refine' mkM ?a ?i ?l ?c ?k; (case a => k_is); (case i => k_is); (case l => k_is); (case c => k_is); (case k => k_is))
    (case f_members => refine' mkF KX G ?g ?l ?c ?k; (case g => k_is); (case l => k_is); (case c => k_is); (case k => k_is))
    (case f_Moves_least_of => refine' mkM ?a ?i ?l ?c ?k; (case a => k_is); (case i => k_is); (case l => k_is); (case c => k_is); (case k => k_is))
    (case f_Moves_table => refine' mkM ?a ?i ?l ?c ?k; (case a => k_is); (case i => k_is); (case l => k_is); (case c => k_is); (case k => k_is))
    (case f_Moves_last_of => refine' mkM ?a ?i ?l ?c ?k; (case a => k_is); (case i => k_is); (case l => k_is); (case c => k_is); (case k => k_is))
    (case f_Moves_best_order => refine' mkM ?a ?i ?l ?c ?k; (case a => k_is); (case i => k_is); (case l => k_is); (case c => k_is); (case k => k_is))
    (case f_Word_init => refine' mkC KX G ?g ?mk ?kc ?a ?i ?l ?c ?k; (case g => k_is); (case mk => k_is); (case kc => k_is); (case a => k_is); (case i => k_is); (case l => k_is); (case c => k_is); (case k => k_is))
    (case f_Word_number => refine' mkM ?a ?i ?l ?c ?k; (case a => k_is); (case i => k_is); (case l => k_is); (case c => k_is); (case k => k_is))
    (case f_bytes_of => refine' mkF KX G ?g ?l ?c ?k; (case g => k_is); (case l => k_is); (case c => k_is); (case k => k_is))
    (case f_word_end => refine' mkF KX G ?g ?l ?c ?k; (case g => k_is); (case l => k_is); (case c => k_is); (case k => k_is))
    (case f_words_of => refine' mkF KX G ?g ?l ?c ?k; (case g => k_is); (case l => k_is); (case c => k_is); (case k => k_is))
    (case f_Reader_init => refine' mkC KX G ?g ?mk ?kc ?a ?i ?l ?c ?k; (case g => k_is); (case mk => k_is); (case kc => k_is); (case a => k_is); (case i => k_is); (case l => k_is); (case c => k_is); (case k => k_is))
    (case f_Reader_is_end => refine' mkM ?a ?i ?l ?c ?k; (case a => k_is); (case i => k_is); (case l => k_is); (case c => k_is); (case k => k_is))
    (case f_Reader_ask => refine' mkM ?a ?i ?l ?c ?k; (case a => k_is); (case i => k_is); (case l => k_is); (case c => k_is); (case k => k_is))
    (case f_Reader_is_next => refine' mkM ?a ?i ?l ?c ?k; (case a => k_is); (case i => k_is); (case l => k_is); (case c => k_is); (case k => k_is))
    (case f_Reader_take => refine' mkM ?a ?i ?l ?c ?k; (case a => k_is); (case i => k_is); (case l => k_is); (case c => k_is); (case k => k_is))
    (case f_Reader_want => refine' mkM ?a ?i ?l ?c ?k; (case a => k_is); (case i => k_is); (case l => k_is); (case c => k_is); (case k => k_is))
    (case f_Reader_want_number => refine' mkM ?a ?i ?l ?c ?k; (case a => k_is); (case i => k_is); (case l => k_is); (case c => k_is); (case k => k_is))
    (case f_read_walls => refine' mkF KX G ?g ?l ?c ?k; (case g => k_is); (case l => k_is); (case c => k_is); (case k => k_is))
    (case f_read_day => refine' mkF KX G ?g ?l ?c ?k; (case g => k_is); (case l => k_is); (case c => k_is); (case k => k_is))
    (case f_read_field => refine' mkF KX G ?g ?l ?c ?k; (case g => k_is); (case l => k_is); (case c => k_is); (case k => k_is))
    (case f_told_field => refine' mkF KX G ?g ?l ?c ?k; (case g => k_is); (case l => k_is); (case c => k_is); (case k => k_is))
    (case f_told_day => refine' mkF KX G ?g ?l ?c ?k; (case g => k_is); (case l => k_is); (case c => k_is); (case k => k_is))
    (case f_joined => refine' mkF KX G ?g ?l ?c ?k; (case g => k_is); (case l => k_is); (case c => k_is); (case k => k_is))
    (case f_written => refine' mkF KX G ?g ?l ?c ?k; (case g => k_is); (case l => k_is); (case c => k_is); (case k => k_is))
    (case f_are_bytes => refine' mkF KX G ?g ?l ?c ?k; (case g => k_is); (case l => k_is); (case c => k_is); (case k => k_is))
    (case f_is_out => refine' mkF KX G ?g ?l ?c ?k; (case g => k_is); (case l => k_is); (case c => k_is); (case k => k_is))
    (case f_House_init => refine' mkC KX G ?g ?mk ?kc ?a ?i ?l ?c ?k; (case g => k_is); (case mk => k_is); (case kc => k_is); (case a => k_is); (case i => k_is); (case l => k_is); (case c => k_is); (case k => k_is))
    (case f_House_clear => refine' mkM ?a ?i ?l ?c ?k; (case a => k_is); (case i => k_is); (case l => k_is); (case c => k_is); (case k => k_is))
    (case f_House_set_field => refine' mkM ?a ?i ?l ?c ?k; (case a => k_is); (case i => k_is); (case l => k_is); (case c => k_is); (case k => k_is))
    (case f_House_look => refine' mkM ?a ?i ?l ?c ?k; (case a => k_is); (case i => k_is); (case l => k_is); (case c => k_is); (case k => k_is))
    (case f_House_text => refine' mkM ?a ?i ?l ?c ?k; (case a => k_is); (case i => k_is); (case l => k_is); (case c => k_is); (case k => k_is))
    (case f_House_add_day => refine' mkM ?a ?i ?l ?c ?k; (case a => k_is); (case i => k_is); (case l => k_is); (case c => k_is); (case k => k_is))
    (case f_House_undo => refine' mkM ?a ?i ?l ?c ?k; (case a => k_is); (case i => k_is); (case l => k_is); (case c => k_is); (case k => k_is))
    (case f_House_told => refine' mkM ?a ?i ?l ?c ?k; (case a => k_is); (case i => k_is); (case l => k_is); (case c => k_is); (case k => k_is))
    (case f_House_are_cells => refine' mkM ?a ?i ?l ?c ?k; (case a => k_is); (case i => k_is); (case l => k_is); (case c => k_is); (case k => k_is))
    (case f_House_cost => refine' mkM ?a ?i ?l ?c ?k; (case a => k_is); (case i => k_is); (case l => k_is); (case c => k_is); (case k => k_is))
    (case f_House_sides => refine' mkM ?a ?i ?l ?c ?k; (case a => k_is); (case i => k_is); (case l => k_is); (case c => k_is); (case k => k_is))
    (case f_House_rect => refine' mkM ?a ?i ?l ?c ?k; (case a => k_is); (case i => k_is); (case l => k_is); (case c => k_is); (case k => k_is))
    (case f_House_best => refine' mkM ?a ?i ?l ?c ?k; (case a => k_is); (case i => k_is); (case l => k_is); (case c => k_is); (case k => k_is))
    (case f_House_least => refine' mkM ?a ?i ?l ?c ?k; (case a => k_is); (case i => k_is); (case l => k_is); (case c => k_is); (case k => k_is))
    (case f_House_curve => refine' mkM ?a ?i ?l ?c ?k; (case a => k_is); (case i => k_is); (case l => k_is); (case c => k_is); (case k => k_is))
    (case f_House_rounded => refine' mkM ?a ?i ?l ?c ?k; (case a => k_is); (case i => k_is); (case l => k_is); (case c => k_is); (case k => k_is))
    (case f_House_moves => refine' mkM ?a ?i ?l ?c ?k; (case a => k_is); (case i => k_is); (case l => k_is); (case c => k_is); (case k => k_is))
    (case f_House_plan => refine' mkM ?a ?i ?l ?c ?k; (case a => k_is); (case i => k_is); (case l => k_is); (case c => k_is); (case k => k_is))
    (case f_House_covered => refine' mkM ?a ?i ?l ?c ?k; (case a => k_is); (case i => k_is); (case l => k_is); (case c => k_is); (case k => k_is))
    (case f_House_order => refine' mkM ?a ?i ?l ?c ?k; (case a => k_is); (case i => k_is); (case l => k_is); (case c => k_is); (case k => k_is))
    (case f_House_fewest => refine' mkM ?a ?i ?l ?c ?k; (case a => k_is); (case i => k_is); (case l => k_is); (case c => k_is); (case k => k_is))
    (case f_House_best_order => refine' mkM ?a ?i ?l ?c ?k; (case a => k_is); (case i => k_is); (case l => k_is); (case c => k_is); (case k => k_is))
    (case f_House_labels => refine' mkM ?a ?i ?l ?c ?k; (case a => k_is); (case i => k_is); (case l => k_is); (case c => k_is); (case k => k_is))
    (case f_House_day_fault => refine' mkM ?a ?i ?l ?c ?k; (case a => k_is); (case i => k_is); (case l => k_is); (case c => k_is); (case k => k_is))
    (case f_House_between => refine' mkM ?a ?i ?l ?c ?k; (case a => k_is); (case i => k_is); (case l => k_is); (case c => k_is); (case k => k_is))
    (case f_told_of_row => refine' mkF KX G ?g ?l ?c ?k; (case g => k_is); (case l => k_is); (case c => k_is); (case k => k_is))
    (case f_told_of_numbers => refine' mkF KX G ?g ?l ?c ?k; (case g => k_is); (case l => k_is); (case c => k_is); (case k => k_is))
    (case f_told_alone => refine' mkF KX G ?g ?l ?c ?k; (case g => k_is); (case l => k_is); (case c => k_is); (case k => k_is))
    (case f_answers => refine' mkF KX G ?g ?l ?c ?k; (case g => k_is); (case l => k_is); (case c => k_is); (case k => k_is))
    (case fault => refine' mkFault KX G ?aC ?xL ?sa ?ga ?gg ?nb ?a1 ?t1 ?l1 ?c1 ?kC ?eC ?tC ?hC ?iC ?sC; (case aC => k_is); (case xL => k_is); (case sa => k_is); (case ga => k_is); (case gg => k_is); (case nb => k_is); (case a1 => k_is); (case t1 => k_is); (case l1 => k_is); (case c1 => k_is); (case kC => k_is); (case eC => k_is); (case tC => k_is); (case hC => k_is); (case iC => k_is); (case sC => first | rfl | k_is))
  case S =>
    intro K H xs a hO hwi hask hx
    cases hx with
    | cons h1 h2 =>
      cases h2
      cases h1 with
      | lst hs ha =>
        have e := L2.ints_dw a.1 _ ha
        subst e
        exact ⟨_, a.1, rfl, HW.pl_only hO, hs, hask, fun p H' hp => .lst (L2.SqL.of hp) (L2.dw_ints _)⟩

