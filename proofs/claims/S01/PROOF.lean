import PyProof.Rows.All
import Wide.All
import OpenK.AllK
import Wide.FinOn
import Open.SpecLaws
import KE.OsGo
import HandS.ForSpec
import HandS.Comp
import HandS.Iter
import HandS.Walk
import PySem.Challenge.RW_lacededges_s01_answers
set_option Elab.async false
/-! The mathematics: the specification's best, told by levels (all lacings of n knots that fit), as the program walks them. -/
namespace Lace
open Uw23

theorem ups_nil : ups [] = 0 := rfl
theorem lows_nil : lows [] = 0 := rfl
theorem ups_snoc (l : List Knot) (k : Knot) : ups (l ++ [k]) = ups l + k.up := by
  unfold ups
  rw [List.map_append, List.foldl_append]
  rfl
theorem lows_snoc (l : List Knot) (k : Knot) : lows (l ++ [k]) = lows l + k.low := by
  unfold lows
  rw [List.map_append, List.foldl_append]
  rfl

/-- what the edges may be -/
structure Good (s : Seam) : Prop where
  up : s.up ≤ 8
  low : s.low ≤ 8
  m1 : 1 ≤ s.most
  m4 : s.most ≤ 4
theorem good_init : Good Uw23.init := ⟨by decide, by decide, by decide, by decide⟩

def knotsL (m : Nat) : List Knot := (List.range m).map (fun i => ⟨1, i + 1⟩) ++ (List.range (m - 1)).map (fun i => ⟨i + 2, 1⟩)
theorem knots_eq {s : Seam} (g : Good s) : s.knots = knotsL s.most := by
  obtain ⟨u, w, m, c⟩ := s
  have h1 := g.m1
  have h4 := g.m4
  have e : m = 1 ∨ m = 2 ∨ m = 3 ∨ m = 4 := by
    have h1 : 1 ≤ m := h1
    have h4 : m ≤ 4 := h4
    omega
  rcases e with rfl | rfl | rfl | rfl <;> rfl
theorem knotsL_length {m : Nat} (h : m ≤ 4) : (knotsL m).length ≤ 7 := by
  unfold knotsL
  simp
  omega
theorem knotsL_pos {m : Nat} {k : Knot} (h : k ∈ knotsL m) : 1 ≤ k.up ∧ 1 ≤ k.low := by
  unfold knotsL at h
  rcases List.mem_append.mp h with h | h
  · obtain ⟨i, _, rfl⟩ := List.mem_map.mp h
    exact ⟨Nat.le_refl _, Nat.succ_le_succ (Nat.zero_le _)⟩
  · obtain ⟨i, _, rfl⟩ := List.mem_map.mp h
    exact ⟨Nat.succ_le_succ (Nat.zero_le _), Nat.le_refl _⟩

def lastHeavy (l : List Knot) : Bool := match l.getLast? with
  | none => false
  | some k => heavy k
theorem lastHeavy_snoc (l : List Knot) (k : Knot) : lastHeavy (l ++ [k]) = heavy k := by
  unfold lastHeavy
  rw [List.getLast?_append]
  rfl
def mayStand (s : Seam) (a b : Bool) : Bool := s.close || (!a || !b)
def follows (s : Seam) (l : List Knot) (k : Knot) : Bool := mayStand s (heavy k) (lastHeavy l) && (decide (ups l + k.up ≤ s.up) && decide (lows l + k.low ≤ s.low))
def stepL (s : Seam) (l : List Knot) : List (List Knot) := ((knotsL s.most).filter (follows s l)).map fun k => l ++ [k]
def longer (s : Seam) (ls : List (List Knot)) : List (List Knot) := ls.flatMap (stepL s)
def level (s : Seam) : Nat → List (List Knot)
  | 0 => [[]]
  | n + 1 => longer s (level s n)
def isAll (s : Seam) (l : List Knot) : Bool := decide (ups l = s.up) && decide (lows l = s.low)
def wholeN (s : Seam) (n : Nat) : List (List Knot) := (level s n).filter (isAll s)

/-! ### sizes -/
theorem flatMap_len {α β : Type} (f : α → List β) (c : Nat) : ∀ l : List α, (∀ x ∈ l, (f x).length ≤ c) → (l.flatMap f).length ≤ l.length * c
  | [], _ => by simp
  | x :: r, h => by
    rw [List.flatMap_cons, List.length_append, List.length_cons]
    have h1 := h x List.mem_cons_self
    have h2 := flatMap_len f c r fun y hy => h y (List.mem_cons_of_mem _ hy)
    rw [Nat.add_mul]
    omega
theorem stepL_len {s : Seam} (g : Good s) (l : List Knot) : (stepL s l).length ≤ 7 := by
  unfold stepL
  rw [List.length_map]
  exact Nat.le_trans (List.length_filter_le _ _) (knotsL_length g.m4)
theorem level_pow {s : Seam} (g : Good s) : ∀ n, (level s n).length ≤ 7 ^ n
  | 0 => Nat.le_refl _
  | n + 1 => by
    show ((level s n).flatMap (stepL s)).length ≤ 7 ^ (n + 1)
    refine Nat.le_trans (flatMap_len _ 7 _ fun l _ => stepL_len g l) ?_
    rw [Nat.pow_succ]
    exact Nat.mul_le_mul_right 7 (level_pow g n)
/-- a lacing of level n: n knots, at least n meshes of each edge, within both -/
theorem level_mem {s : Seam} : ∀ {n : Nat} {l : List Knot}, l ∈ level s n → l.length = n ∧ n ≤ ups l ∧ n ≤ lows l ∧ ups l ≤ s.up ∧ lows l ≤ s.low
  | 0, l, h => by
    have e : l = [] := by
      have h : l ∈ [([] : List Knot)] := h
      simpa using h
    subst e
    exact ⟨rfl, Nat.zero_le _, Nat.zero_le _, Nat.zero_le _, Nat.zero_le _⟩
  | n + 1, l, h => by
    obtain ⟨m, hm, hl⟩ := List.mem_flatMap.mp (show l ∈ (level s n).flatMap (stepL s) from h)
    obtain ⟨h1, h2, h3, h4, h5⟩ := level_mem hm
    obtain ⟨k, hk, rfl⟩ := List.mem_map.mp (show l ∈ ((knotsL s.most).filter (follows s m)).map fun k => m ++ [k] from hl)
    obtain ⟨k1, k2⟩ := List.mem_filter.mp hk
    have kp := knotsL_pos k1
    unfold follows at k2
    simp only [Bool.and_eq_true, decide_eq_true_eq] at k2
    rw [ups_snoc, lows_snoc, List.length_append, List.length_singleton]
    omega
theorem level_nil {s : Seam} {n : Nat} (h : min s.up s.low < n) : level s n = [] := by
  cases e : level s n with
  | nil => rfl
  | cons l r =>
    have hm : l ∈ level s n := by rw [e]; exact List.mem_cons_self
    have := level_mem hm
    omega
theorem level_size {s : Seam} (g : Good s) (n : Nat) : (level s n).length ≤ 5764801 := by
  by_cases h : n ≤ 8
  · refine Nat.le_trans (level_pow g n) ?_
    exact Nat.le_trans (Nat.pow_le_pow_right (by decide) h) (by decide)
  · rw [level_nil (by have := g.up; omega)]
    exact Nat.zero_le _

/-! ### by depth first -/
def walkL (s : Seam) : Nat → List Knot → List (List Knot)
  | 0, l => [l]
  | n + 1, l => (stepL s l).flatMap (walkL s n)
theorem walk_last (s : Seam) : ∀ (n : Nat) (l : List Knot), walkL s (n + 1) l = (walkL s n l).flatMap (stepL s)
  | 0, l => by
    show (stepL s l).flatMap (walkL s 0) = [l].flatMap (stepL s)
    rw [List.flatMap_singleton]
    show (stepL s l).flatMap (fun l => [l]) = stepL s l
    exact List.flatMap_singleton' _
  | n + 1, l => by
    show (stepL s l).flatMap (walkL s (n + 1)) = ((stepL s l).flatMap (walkL s n)).flatMap (stepL s)
    rw [List.flatMap_assoc]
    congr 1
    funext m
    exact walk_last s n m
theorem level_walk (s : Seam) : ∀ n, level s n = walkL s n []
  | 0 => rfl
  | n + 1 => by
    rw [walk_last, ← level_walk s n]
    rfl
/-- the right lacings of just n knots, from so many meshes left -/
def enum (s : Seam) : Nat → Nat → Nat → Bool → List (List Knot)
  | 0, u, w, _ => if u = 0 ∧ w = 0 then [[]] else []
  | n + 1, u, w, h => (knotsL s.most).flatMap fun k => if k.up ≤ u ∧ k.low ≤ w ∧ (s.close = true ∨ h = false ∨ heavy k = false) then (enum s n (u - k.up) (w - k.low) (heavy k)).map fun l => k :: l else []
theorem filter_flatMap' {α β : Type} (p : β → Bool) (f : α → List β) : ∀ l : List α, (l.flatMap f).filter p = l.flatMap fun x => (f x).filter p
  | [] => rfl
  | x :: r => by rw [List.flatMap_cons, List.filter_append, filter_flatMap' p f r, List.flatMap_cons]
theorem flatMap_map' {α β γ : Type} (g : α → β) (f : β → List γ) : ∀ l : List α, (l.map g).flatMap f = l.flatMap fun x => f (g x)
  | [] => rfl
  | x :: r => by rw [List.map_cons, List.flatMap_cons, flatMap_map' g f r, List.flatMap_cons]
theorem flatMap_filter' {α β : Type} (p : α → Bool) (f : α → List β) : ∀ l : List α, (l.filter p).flatMap f = l.flatMap fun x => if p x = true then f x else []
  | [] => rfl
  | x :: r => by
    rw [List.flatMap_cons, ← flatMap_filter' p f r]
    cases h : p x
    · rw [List.filter_cons_of_neg (by rw [h]; exact Bool.false_ne_true), if_neg Bool.false_ne_true]
      rfl
    · rw [List.filter_cons_of_pos h, if_pos rfl, List.flatMap_cons]
theorem map_flatMap' {α β γ : Type} (g : β → γ) (f : α → List β) : ∀ l : List α, (l.flatMap f).map g = l.flatMap fun x => (f x).map g
  | [] => rfl
  | x :: r => by rw [List.flatMap_cons, List.map_append, map_flatMap' g f r, List.flatMap_cons]
theorem flatMap_congr' {α β : Type} {f g : α → List β} : ∀ {l : List α}, (∀ x ∈ l, f x = g x) → l.flatMap f = l.flatMap g
  | [], _ => rfl
  | x :: r, h => by rw [List.flatMap_cons, List.flatMap_cons, h x List.mem_cons_self, flatMap_congr' fun y hy => h y (List.mem_cons_of_mem _ hy)]
theorem walk_enum (s : Seam) : ∀ (n : Nat) (l : List Knot), ups l ≤ s.up → lows l ≤ s.low →
    (walkL s n l).filter (isAll s) = (enum s n (s.up - ups l) (s.low - lows l) (lastHeavy l)).map fun r => l ++ r
  | 0, l, hu, hl => by
    show [l].filter (isAll s) = (if s.up - ups l = 0 ∧ s.low - lows l = 0 then [[]] else []).map fun r => l ++ r
    by_cases c : s.up - ups l = 0 ∧ s.low - lows l = 0
    · rw [if_pos c, List.filter_cons_of_pos]
      · simp
      · unfold isAll
        simp only [Bool.and_eq_true, decide_eq_true_eq]
        omega
    · rw [if_neg c, List.filter_cons_of_neg]
      · rfl
      · unfold isAll
        simp only [Bool.and_eq_true, decide_eq_true_eq]
        omega
  | n + 1, l, hu, hl => by
    show ((stepL s l).flatMap (walkL s n)).filter (isAll s) = ((knotsL s.most).flatMap fun k => if k.up ≤ s.up - ups l ∧ k.low ≤ s.low - lows l ∧ (s.close = true ∨ lastHeavy l = false ∨ heavy k = false) then (enum s n (s.up - ups l - k.up) (s.low - lows l - k.low) (heavy k)).map fun l => k :: l else []).map fun r => l ++ r
    rw [filter_flatMap', map_flatMap']
    unfold stepL
    rw [flatMap_map', flatMap_filter']
    refine flatMap_congr' fun k _ => ?_
    by_cases c : follows s l k = true
    · rw [if_pos c]
      have c' := c
      unfold follows mayStand at c'
      simp only [Bool.and_eq_true, decide_eq_true_eq, Bool.or_eq_true, Bool.not_eq_true'] at c'
      obtain ⟨c1, c2, c3⟩ := c'
      rw [if_pos ⟨by omega, by omega, by rcases c1 with c1 | c1 | c1 <;> simp [c1]⟩]
      rw [walk_enum s n (l ++ [k]) (by rw [ups_snoc]; exact c2) (by rw [lows_snoc]; exact c3)]
      rw [ups_snoc, lows_snoc, lastHeavy_snoc, Nat.sub_add_eq, Nat.sub_add_eq, List.map_map]
      refine List.map_congr_left fun r _ => ?_
      show l ++ [k] ++ r = l ++ (k :: r)
      rw [List.append_assoc]
      rfl
    · rw [if_neg c]
      rw [if_neg]
      · rfl
      · rintro ⟨d1, d2, d3⟩
        refine c ?_
        unfold follows mayStand
        simp only [Bool.and_eq_true, decide_eq_true_eq, Bool.or_eq_true, Bool.not_eq_true']
        refine ⟨?_, by omega, by omega⟩
        rcases d3 with d | d | d <;> simp [d]
theorem whole_enum (s : Seam) (n : Nat) : wholeN s n = enum s n s.up s.low false := by
  unfold wholeN
  rw [level_walk, walk_enum s n [] (Nat.zero_le _) (Nat.zero_le _)]
  show (enum s n (s.up - 0) (s.low - 0) false).map (fun r => [] ++ r) = _
  simp
theorem all_enum {s : Seam} (g : Good s) : ∀ (f n u w : Nat) (h : Bool), u + w ≤ f → (s.all_ f u w h).filter (fun l => decide (l.length = n)) = enum s n u w h
  | 0, n, u, w, h, hf => by
    have hu : u = 0 := by omega
    have hw : w = 0 := by omega
    subst hu hw
    show ([[]] : List (List Knot)).filter (fun l => decide (l.length = n)) = enum s n 0 0 h
    cases n with
    | zero => rfl
    | succ n =>
      show [] = (knotsL s.most).flatMap fun k => if k.up ≤ 0 ∧ k.low ≤ 0 ∧ (s.close = true ∨ h = false ∨ heavy k = false) then (enum s n (0 - k.up) (0 - k.low) (heavy k)).map fun l => k :: l else []
      symm
      refine (flatMap_congr' (g := fun _ => []) fun k hk => ?_).trans (by simp)
      rw [if_neg]
      have := knotsL_pos hk
      omega
  | f + 1, n, u, w, h, hf => by
    by_cases c : u = 0 ∧ w = 0
    · obtain ⟨hu, hw⟩ := c
      subst hu hw
      show ([[]] : List (List Knot)).filter (fun l => decide (l.length = n)) = enum s n 0 0 h
      cases n with
      | zero => rfl
      | succ n =>
        show [] = (knotsL s.most).flatMap fun k => if k.up ≤ 0 ∧ k.low ≤ 0 ∧ (s.close = true ∨ h = false ∨ heavy k = false) then (enum s n (0 - k.up) (0 - k.low) (heavy k)).map fun l => k :: l else []
        symm
        refine (flatMap_congr' (g := fun _ => []) fun k hk => ?_).trans (by simp)
        rw [if_neg]
        have := knotsL_pos hk
        omega
    · have e : s.all_ (f + 1) u w h = (knotsL s.most).flatMap fun k => if k.up ≤ u ∧ k.low ≤ w ∧ (s.close = true ∨ h = false ∨ heavy k = false) then (s.all_ f (u - k.up) (w - k.low) (heavy k)).map fun l => k :: l else [] := by
        rw [← knots_eq g]
        unfold Seam.all_
        rw [if_neg c]
        cases f <;> rfl
      rw [e, filter_flatMap']
      cases n with
      | zero =>
        show _ = if u = 0 ∧ w = 0 then [[]] else []
        rw [if_neg c]
        refine (flatMap_congr' (g := fun _ => []) fun k hk => ?_).trans (by simp)
        split
        · rw [List.filter_map]
          simp
        · rfl
      | succ n =>
        refine flatMap_congr' fun k hk => ?_
        have kp := knotsL_pos hk
        by_cases d : k.up ≤ u ∧ k.low ≤ w ∧ (s.close = true ∨ h = false ∨ heavy k = false)
        · rw [if_pos d, if_pos d, List.filter_map, ← all_enum g f n (u - k.up) (w - k.low) (heavy k) (by omega)]
          congr 1
          refine List.filter_congr fun l _ => ?_
          simp
        · rw [if_neg d, if_neg d]
          rfl
theorem whole_all {s : Seam} (g : Good s) (n : Nat) : wholeN s n = (s.all_ (s.up + s.low) s.up s.low false).filter fun l => decide (l.length = n) := by
  rw [whole_enum, all_enum g _ n _ _ _ (Nat.le_refl _)]
end Lace

set_option Elab.async false
/-! The mathematics, further: the specification's fold over all lacings; how uneven; the first two heavy ones; the calls' list. -/
namespace Lace
open Uw23

/-! ### the fold -/
def bstep (s : Seam) (b : Option Best) (l : List Knot) : Option Best := match b with
  | none => some ⟨l.length, s.uneven l, 1, l⟩
  | some x => if l.length < x.knots ∨ (l.length = x.knots ∧ s.uneven l < x.uneven) then some ⟨l.length, s.uneven l, 1, l⟩ else if l.length = x.knots ∧ s.uneven l = x.uneven then some { x with many := x.many + 1 } else some x
def allOf (s : Seam) : List (List Knot) := s.all_ (s.up + s.low) s.up s.low false
theorem best_fold (s : Seam) : s.best = (allOf s).foldl (bstep s) none := by
  unfold Seam.best allOf
  congr 1
def sel (s : Seam) (n e : Nat) (l : List Knot) : Bool := decide (l.length = n) && decide (s.uneven l = e)
theorem sel_iff {s : Seam} {n e : Nat} {l : List Knot} : sel s n e l = true ↔ l.length = n ∧ s.uneven l = e := by
  unfold sel
  rw [Bool.and_eq_true, decide_eq_true_eq, decide_eq_true_eq]
structure BInv (s : Seam) (L : List (List Knot)) (x : Best) : Prop where
  least : ∀ l ∈ L, x.knots < l.length ∨ (x.knots = l.length ∧ x.uneven ≤ s.uneven l)
  many : x.many = (L.filter (sel s x.knots x.uneven)).length
  head : (L.filter (sel s x.knots x.uneven)).head? = some x.row
theorem binv_one (s : Seam) (l : List Knot) : BInv s [l] ⟨l.length, s.uneven l, 1, l⟩ := by
  have e : [l].filter (sel s l.length (s.uneven l)) = [l] := List.filter_cons_of_pos (sel_iff.mpr ⟨rfl, rfl⟩)
  refine ⟨fun m hm => ?_, ?_, ?_⟩
  · have : m = l := by simpa using hm
    subst this
    exact .inr ⟨rfl, Nat.le_refl _⟩
  · show 1 = ([l].filter (sel s l.length (s.uneven l))).length
    rw [e]
    rfl
  · show ([l].filter (sel s l.length (s.uneven l))).head? = some l
    rw [e]
    rfl
theorem binv_step {s : Seam} {L : List (List Knot)} {x : Best} (I : BInv s L x) (l : List Knot) : ∃ y, bstep s (some x) l = some y ∧ BInv s (L ++ [l]) y := by
  unfold bstep
  by_cases c : l.length < x.knots ∨ (l.length = x.knots ∧ s.uneven l < x.uneven)
  · refine ⟨_, if_pos c, ?_⟩
    have e : (L ++ [l]).filter (sel s l.length (s.uneven l)) = [l] := by
      rw [List.filter_append, List.filter_cons_of_pos (sel_iff.mpr ⟨rfl, rfl⟩)]
      rw [List.filter_eq_nil_iff.mpr]
      · rfl
      · intro m hm hs
        have h1 := sel_iff.mp hs
        have h2 := I.least m hm
        omega
    refine ⟨fun m hm => ?_, ?_, ?_⟩
    · show l.length < m.length ∨ (l.length = m.length ∧ s.uneven l ≤ s.uneven m)
      rcases List.mem_append.mp hm with hm | hm
      · have h2 := I.least m hm
        omega
      · have : m = l := by simpa using hm
        subst this
        exact .inr ⟨rfl, Nat.le_refl _⟩
    · show 1 = ((L ++ [l]).filter (sel s l.length (s.uneven l))).length
      rw [e]
      rfl
    · show ((L ++ [l]).filter (sel s l.length (s.uneven l))).head? = some l
      rw [e]
      rfl
  · by_cases d : l.length = x.knots ∧ s.uneven l = x.uneven
    · refine ⟨_, (if_neg c).trans (if_pos d), ?_⟩
      have e : (L ++ [l]).filter (sel s x.knots x.uneven) = L.filter (sel s x.knots x.uneven) ++ [l] := by
        rw [List.filter_append, List.filter_cons_of_pos (sel_iff.mpr d)]
        rfl
      refine ⟨fun m hm => ?_, ?_, ?_⟩
      · show x.knots < m.length ∨ (x.knots = m.length ∧ x.uneven ≤ s.uneven m)
        rcases List.mem_append.mp hm with hm | hm
        · exact I.least m hm
        · have : m = l := by simpa using hm
          subst this
          omega
      · show x.many + 1 = ((L ++ [l]).filter (sel s x.knots x.uneven)).length
        rw [e, List.length_append, ← I.many]
        rfl
      · show ((L ++ [l]).filter (sel s x.knots x.uneven)).head? = some x.row
        rw [e, List.head?_append, I.head]
        rfl
    · refine ⟨_, (if_neg c).trans (if_neg d), ?_⟩
      have e : (L ++ [l]).filter (sel s x.knots x.uneven) = L.filter (sel s x.knots x.uneven) := by
        rw [List.filter_append, List.filter_cons_of_neg (fun h => d (sel_iff.mp h))]
        exact List.append_nil _
      refine ⟨fun m hm => ?_, ?_, ?_⟩
      · rcases List.mem_append.mp hm with hm | hm
        · exact I.least m hm
        · have : m = l := by simpa using hm
          subst this
          omega
      · rw [e]
        exact I.many
      · rw [e]
        exact I.head
theorem binv_fold {s : Seam} : ∀ (L2 L1 : List (List Knot)) (x : Best), BInv s L1 x → ∃ y, L2.foldl (bstep s) (some x) = some y ∧ BInv s (L1 ++ L2) y
  | [], L1, x, I => ⟨x, rfl, by rw [List.append_nil]; exact I⟩
  | l :: r, L1, x, I => by
    obtain ⟨y, e, J⟩ := binv_step I l
    obtain ⟨z, e2, J2⟩ := binv_fold r (L1 ++ [l]) y J
    refine ⟨z, ?_, ?_⟩
    · rw [List.foldl_cons, e]
      exact e2
    · rw [List.append_assoc] at J2
      exact J2
theorem best_inv {s : Seam} (h : allOf s ≠ []) : ∃ x, s.best = some x ∧ BInv s (allOf s) x := by
  rw [best_fold]
  cases e : allOf s with
  | nil => exact absurd e h
  | cons l r =>
    obtain ⟨y, e1, J⟩ := binv_fold r [l] _ (binv_one s l)
    exact ⟨y, e1, J⟩
/-- what fewest_right hands back -/
def FR (s : Seam) (r : List (List Knot)) : Prop := (r = [] ∧ ∀ n, wholeN s n = []) ∨ (∃ n, r = wholeN s n ∧ r ≠ [] ∧ ∀ m, m < n → wholeN s m = [])
theorem fr_none {s : Seam} (g : Good s) (h : FR s []) : s.best = none := by
  rcases h with ⟨_, h⟩ | ⟨n, _, h, _⟩
  · rw [best_fold]
    have e : allOf s = [] := by
      cases e : allOf s with
      | nil => rfl
      | cons l r =>
        have hl := whole_all g l.length
        rw [h] at hl
        have hm : l ∈ (allOf s).filter fun m => decide (m.length = l.length) := List.mem_filter.mpr ⟨by rw [e]; exact List.mem_cons_self, decide_eq_true rfl⟩
        unfold allOf at hm
        rw [← hl] at hm
        cases hm
    rw [e]
    rfl
  · exact absurd rfl h
theorem fr_best {s : Seam} {r : List (List Knot)} {m : Nat} (g : Good s) (h : FR s r) (hne : r ≠ []) (hm : ∃ l ∈ r, s.uneven l = m) (hmin : ∀ l ∈ r, m ≤ s.uneven l) :
    ∃ g0 gs, r.filter (fun l => decide (s.uneven l = m)) = g0 :: gs ∧ s.best = some ⟨g0.length, m, gs.length + 1, g0⟩ ∧ g0.length ≤ 8 := by
  rcases h with ⟨h, _⟩ | ⟨n, rfl, _, hn⟩
  · exact absurd h hne
  · have hw := whole_all g n
    have hA : wholeN s n = (allOf s).filter fun l => decide (l.length = n) := hw
    obtain ⟨l0, hl0, hu0⟩ := hm
    have hl0' := hl0
    rw [hA] at hl0'
    obtain ⟨a1, a2⟩ := List.mem_filter.mp hl0'
    have a2 : l0.length = n := of_decide_eq_true a2
    obtain ⟨x, e, I⟩ := best_inv (s := s) (fun z => by rw [z] at a1; cases a1)
    -- x.row is one of all
    have hrow : x.row ∈ (allOf s).filter (sel s x.knots x.uneven) := List.mem_of_mem_head? (by rw [I.head]; exact rfl)
    obtain ⟨r1, r2⟩ := List.mem_filter.mp hrow
    obtain ⟨r2, r3⟩ := sel_iff.mp r2
    -- n ≤ x.knots
    have h1 : n ≤ x.knots := by
      rcases Nat.lt_or_ge x.knots n with c | c
      · have z := hn x.knots c
        have q : wholeN s x.knots = (allOf s).filter fun l => decide (l.length = x.knots) := whole_all g x.knots
        rw [z] at q
        have : x.row ∈ (allOf s).filter fun l => decide (l.length = x.knots) := List.mem_filter.mpr ⟨r1, decide_eq_true r2⟩
        rw [← q] at this
        cases this
      · exact c
    have h2 := I.least l0 a1
    have h3 : x.knots = n := by omega
    have h4 : x.row ∈ wholeN s n := by
      rw [hA]
      exact List.mem_filter.mpr ⟨r1, decide_eq_true (r2.trans h3)⟩
    have h5 : m ≤ x.uneven := by
      rw [← r3]
      exact hmin _ h4
    have h6 : x.uneven = m := by omega
    have hg : (wholeN s n).filter (fun l => decide (s.uneven l = m)) = (allOf s).filter (sel s x.knots x.uneven) := by
      rw [hA, List.filter_filter, h3, h6]
      refine List.filter_congr fun l _ => ?_
      unfold sel
      exact Bool.and_comm _ _
    have hd := I.head
    have hmy := I.many
    rw [← hg] at hd hmy
    cases q : (wholeN s n).filter (fun l => decide (s.uneven l = m)) with
    | nil =>
      rw [q] at hd
      cases hd
    | cons g0 gs =>
      rw [q] at hd hmy
      have eg : g0 = x.row := Option.some.inj hd
      refine ⟨g0, gs, rfl, ?_, ?_⟩
      · rw [e, eg, r2, ← h6]
        congr 1
        cases x with
        | mk a b c d =>
          congr 1
      · rw [eg, r2, h3]
        have hl : l0 ∈ level s n := (List.mem_filter.mp hl0).1
        have := level_mem hl
        have := g.up
        omega

/-! ### how uneven -/
def unevenTo (s : Seam) (l : List Knot) (i : Nat) : Nat := ((List.range (i + 1)).map fun k => s.ahead l k).foldl max 0
theorem unevenTo_all (s : Seam) (l : List Knot) : s.uneven l = unevenTo s l l.length := rfl
theorem unevenTo_zero (s : Seam) (l : List Knot) : unevenTo s l 0 = 0 := by
  show max 0 (s.ahead l 0) = 0
  have e : s.ahead l 0 = 0 := by
    show (ups (l.take 0) * s.low - lows (l.take 0) * s.up) + (lows (l.take 0) * s.up - ups (l.take 0) * s.low) = 0
    rw [List.take_zero, ups_nil, lows_nil]
    simp
  rw [e]
  rfl
theorem unevenTo_succ (s : Seam) (l : List Knot) (i : Nat) : unevenTo s l (i + 1) = max (unevenTo s l i) (s.ahead l (i + 1)) := by
  unfold unevenTo
  rw [List.range_succ, List.map_append, List.foldl_append]
  rfl
theorem ahead_int (s : Seam) (l : List Knot) (k : Nat) : (if ((ups (l.take k) : Nat) : Int) * (s.low : Nat) - ((lows (l.take k) : Nat) : Int) * (s.up : Nat) < 0 then -(((ups (l.take k) : Nat) : Int) * (s.low : Nat) - ((lows (l.take k) : Nat) : Int) * (s.up : Nat)) else ((ups (l.take k) : Nat) : Int) * (s.low : Nat) - ((lows (l.take k) : Nat) : Int) * (s.up : Nat)) = ((s.ahead l k : Nat) : Int) := by
  have e : s.ahead l k = (ups (l.take k) * s.low - lows (l.take k) * s.up) + (lows (l.take k) * s.up - ups (l.take k) * s.low) := rfl
  rw [e, ← Int.natCast_mul, ← Int.natCast_mul]
  generalize ups (l.take k) * s.low = a
  generalize lows (l.take k) * s.up = b
  split <;> omega
theorem take_more {α : Type} : ∀ {l : List α} {i : Nat} {x : α}, l[i]? = some x → l.take (i + 1) = l.take i ++ [x]
  | [], i, x, h => by simp at h
  | a :: l, 0, x, h => by
    have e : a = x := Option.some.inj h
    subst e
    rfl
  | a :: l, i + 1, x, h => by
    have ih := take_more (l := l) (i := i) (x := x) h
    show a :: l.take (i + 1) = a :: l.take i ++ [x]
    rw [ih]
    rfl

/-! ### two heavy ones side by side -/
def crowd (l : List Knot) (i : Nat) : Bool := heavy (l.getD i ⟨0, 0⟩) && heavy (l.getD (i + 1) ⟨0, 0⟩)
theorem beside_some {l : List Knot} {i : Nat} (hi : i + 1 < l.length) (h0 : ∀ j, j < i → crowd l j = false) (h1 : crowd l i = true) : beside l = some i := by
  unfold beside
  rw [List.find?_range_eq_some]
  refine ⟨h1, by rw [List.mem_range]; omega, fun j hj => ?_⟩
  have := h0 j hj
  unfold crowd at this
  rw [this]
  rfl
theorem beside_none {l : List Knot} (h0 : ∀ j, j + 1 < l.length → crowd l j = false) : beside l = none := by
  unfold beside
  rw [List.find?_range_eq_none]
  intro j hj
  have := h0 j (by omega)
  unfold crowd at this
  rw [this]
  rfl

/-! ### the list of calls -/
def pairsOf : List Nat → List Knot
  | a :: b :: l => ⟨a, b⟩ :: pairsOf l
  | _ => []
theorem pairsOf_length : ∀ l : List Nat, (pairsOf l).length = l.length / 2
  | [] => by simp [pairsOf]
  | [_] => by simp [pairsOf]
  | a :: b :: l => by
    show (pairsOf l).length + 1 = (l.length + 1 + 1) / 2
    rw [pairsOf_length l]
    omega
theorem pairsOf_get : ∀ (l : List Nat) (i x y : Nat), l[2 * i]? = some x → l[2 * i + 1]? = some y → (pairsOf l)[i]? = some ⟨x, y⟩
  | [], i, x, y, h, _ => by simp at h
  | [a], i, x, y, _, h => by simp at h
  | a :: b :: l, 0, x, y, h1, h2 => by
    have e1 : a = x := Option.some.inj h1
    have e2 : b = y := Option.some.inj h2
    subst e1 e2
    rfl
  | a :: b :: l, i + 1, x, y, h1, h2 => pairsOf_get l i x y h1 h2
theorem knotsIn_pairs : ∀ (l : List Nat) (ks : List Knot), Uw23Neutral.knotsIn l = some ks → ks = pairsOf l ∧ l.length % 2 = 0
  | [], ks, h => by
    have h : some ([] : List Knot) = some ks := h
    cases h
    exact ⟨rfl, rfl⟩
  | [a], ks, h => by
    have h : (none : Option (List Knot)) = some ks := h
    cases h
  | a :: b :: l, ks, h => by
    have h : (Uw23Neutral.knotsIn l).map (fun r => (⟨a, b⟩ : Knot) :: r) = some ks := h
    cases e : Uw23Neutral.knotsIn l with
    | none =>
      rw [e] at h
      cases h
    | some r =>
      rw [e] at h
      have h : some ((⟨a, b⟩ : Knot) :: r) = some ks := h
      cases h
      obtain ⟨h1, h2⟩ := knotsIn_pairs l r e
      refine ⟨by rw [h1]; rfl, ?_⟩
      rw [List.length_cons, List.length_cons]
      omega
/-- one call at the head of what is left -/
inductive One : List Int → Uw23.Call → List Int → Prop where
  | begins (a b c d : Nat) (rest : List Int) : One (0 :: (a : Int) :: (b : Int) :: (c : Int) :: (d : Int) :: rest) (.begins a b c d) rest
  | best (rest : List Int) : One (1 :: rest) .best rest
  | check (ms : List Nat) (rest : List Int) (he : ms.length % 2 = 0) (hl : ms.length ≤ 50) : One (2 :: (ms.length : Int) :: (ms.map (fun (n : Nat) => (n : Int)) ++ rest)) (.check (pairsOf ms)) rest
  | fewest (rest : List Int) : One (3 :: rest) .fewest rest
def Sfx (s : Seam) (rest out : List Int) : Prop := ∃ f raw, PyFlat.calls PyUw23.shape f rest = some raw ∧ (raw.map PyUw23.whole).all (fun c => Uw23Neutral.asked1 (c.headD [])) = true ∧
  out = PyFlat.told (PyFlat.played (fun s c => Uw23Neutral.step s (c.headD [])) s (raw.map PyUw23.whole))
def ansOf (s : Seam) (c : Uw23.Call) : List Int := Uw23Neutral.out (Uw23.step s c).2
theorem nats_of : ∀ {l : List Int}, l.all Uw23Neutral.nat = true → ∃ ms : List Nat, l = ms.map (fun (n : Nat) => (n : Int)) ∧ l.map Int.toNat = ms
  | [], _ => ⟨[], rfl, rfl⟩
  | x :: r, h => by
    rw [List.all_cons, Bool.and_eq_true] at h
    obtain ⟨ms, e, e2⟩ := nats_of h.2
    have hx := h.1
    unfold Uw23Neutral.nat at hx
    rw [Bool.and_eq_true, decide_eq_true_eq, decide_eq_true_eq] at hx
    refine ⟨x.toNat :: ms, ?_, ?_⟩
    · rw [List.map_cons, ← e]
      congr 1
      exact (Int.toNat_of_nonneg hx.1).symm
    · rw [List.map_cons, e2]
theorem callOf_some {l : List Int} {x : Uw23.Call} (h : Uw23Neutral.callOf l = some x) : ∃ ms : List Nat, l = ms.map (fun (n : Nat) => (n : Int)) ∧ Uw23Neutral.callIn ms = some x := by
  unfold Uw23Neutral.callOf at h
  split at h
  · cases h
  · rename_i hn
    obtain ⟨ms, e1, e2⟩ := nats_of (l := l) (by revert hn; cases l.all Uw23Neutral.nat <;> simp)
    exact ⟨ms, e1, by rw [← e2]; exact h⟩
theorem sfx_step {s : Seam} {c : List (List Int)} {x : Uw23.Call} {cs : List (List (List Int))} (hx : Uw23Neutral.callOf (c.headD []) = some x) :
    PyFlat.told (PyFlat.played (fun s c => Uw23Neutral.step s (c.headD [])) s (c :: cs)) = ((ansOf s x).length : Int) :: ansOf s x ++ PyFlat.told (PyFlat.played (fun s c => Uw23Neutral.step s (c.headD [])) (Uw23.step s x).1 cs) := by
  have e : Uw23Neutral.step s (c.headD []) = ((Uw23.step s x).1, ansOf s x) := by
    unfold Uw23Neutral.step
    rw [hx]
    rfl
  show PyFlat.told ((Uw23Neutral.step s (c.headD [])).2 :: PyFlat.played (fun s c => Uw23Neutral.step s (c.headD [])) (Uw23Neutral.step s (c.headD [])).1 cs) = _
  rw [e]
  unfold PyFlat.told
  rw [List.flatMap_cons]
theorem sfx_cases {s : Seam} {rest out : List Int} (h : Sfx s rest out) : (rest = [] ∧ out = []) ∨
    ∃ c rest' out', One rest c rest' ∧ Sfx (Uw23.step s c).1 rest' out' ∧ out = ((ansOf s c).length : Int) :: ansOf s c ++ out' := by
  obtain ⟨f, raw, h1, h2, h3⟩ := h
  cases rest with
  | nil =>
    left
    refine ⟨rfl, ?_⟩
    have e : raw = [] := by
      cases f with
      | zero => exact (Option.some.inj h1).symm
      | succ f => exact (Option.some.inj h1).symm
    subst e
    exact h3
  | cons p r =>
    right
    cases f with
    | zero => cases h1
    | succ f =>
      have h1 : (match PyFlat.call PyUw23.shape (p :: r) with
        | none => none
        | some (c, t) => match PyFlat.calls PyUw23.shape f t with
          | none => none
          | some cs => some (c :: cs)) = some raw := h1
      cases e1 : PyFlat.call PyUw23.shape (p :: r) with
      | none =>
        rw [e1] at h1
        cases h1
      | some ct =>
        obtain ⟨c, t⟩ := ct
        rw [e1] at h1
        have h1 : (match PyFlat.calls PyUw23.shape f t with
          | none => none
          | some cs => some (c :: cs)) = some raw := h1
        cases e2 : PyFlat.calls PyUw23.shape f t with
        | none =>
          rw [e2] at h1
          cases h1
        | some cs =>
          rw [e2] at h1
          have h1 : some (c :: cs) = some raw := h1
          cases h1
          rw [List.map_cons, List.all_cons, Bool.and_eq_true] at h2
          obtain ⟨h2, h2'⟩ := h2
          have h2 : (Uw23Neutral.callOf ((PyUw23.whole c).headD [])).isSome = true := h2
          obtain ⟨x, hx⟩ := Option.isSome_iff_exists.mp h2
          rw [List.map_cons, sfx_step hx] at h3
          suffices q : One (p :: r) x t from ⟨x, t, _, q, ⟨f, cs, e2, h2', rfl⟩, h3⟩
          clear h3 h2 h2' e2
          have e1 : (match PyUw23.shape p with
            | none => none
            | some (n, k) => if r.length < n then none else match PyFlat.rows k (r.drop n) with
              | none => none
              | some (xs, t) => some ((p :: r.take n) :: xs, t)) = some (c, t) := e1
          by_cases p0 : p = 0
          · subst p0
            have e1 : (if r.length < 4 then none else some ([(0 : Int) :: r.take 4], r.drop 4)) = some (c, t) := e1
            split at e1
            · cases e1
            · rename_i hl
              match r, hl with
              | a :: b :: c' :: d :: r', _ =>
                have e1 : some ([[(0 : Int), a, b, c', d]], r') = some (c, t) := e1
                cases e1
                have hx : Uw23Neutral.callOf [0, a, b, c', d] = some x := hx
                obtain ⟨ms, m1, m2⟩ := callOf_some hx
                match ms, m1 with
                | [z, na, nb, nc, nd], m1 =>
                  simp only [List.map_cons, List.map_nil, List.cons.injEq, and_true] at m1
                  obtain ⟨z0, rfl, rfl, rfl, rfl⟩ := m1
                  have : z = 0 := by omega
                  subst this
                  have m2 : some (Uw23.Call.begins na nb nc nd) = some x := m2
                  cases m2
                  exact One.begins na nb nc nd t
              | [], h => exact absurd (by decide) h
              | [_], h => exact absurd (by simp) h
              | [_, _], h => exact absurd (by simp) h
              | [_, _, _], h => exact absurd (by simp) h
          · by_cases p1 : p = 1
            · subst p1
              have e1 : some ([[(1 : Int)]], r) = some (c, t) := e1
              cases e1
              have hx : some Uw23.Call.best = some x := hx
              cases hx
              exact One.best _
            · by_cases p2 : p = 2
              · subst p2
                have e1 : (match PyFlat.rows 1 r with
                  | none => none
                  | some (xs, t) => some ([(2 : Int)] :: xs, t)) = some (c, t) := e1
                cases r with
                | nil => cases e1
                | cons n r' =>
                  by_cases hn : 0 ≤ n ∧ n.toNat ≤ r'.length
                  · have er : PyFlat.rows 1 (n :: r') = some ([r'.take n.toNat], r'.drop n.toNat) := by
                      show (match (if 0 ≤ n ∧ n.toNat ≤ r'.length then some (r'.take n.toNat, r'.drop n.toNat) else none) with
                        | none => none
                        | some (x, s) => match PyFlat.rows 0 s with
                          | none => none
                          | some (xs, t) => some (x :: xs, t)) = _
                      rw [if_pos hn]
                      rfl
                    rw [er] at e1
                    have e1 : some ([[(2 : Int)], r'.take n.toNat], r'.drop n.toNat) = some (c, t) := e1
                    cases e1
                    have hx : Uw23Neutral.callOf (2 :: r'.take n.toNat) = some x := hx
                    obtain ⟨ms, m1, m2⟩ := callOf_some hx
                    cases ms with
                    | nil => cases m1
                    | cons z ms =>
                      rw [List.map_cons, List.cons.injEq] at m1
                      obtain ⟨z0, m1⟩ := m1
                      have : z = 2 := by omega
                      subst this
                      have m2 : (if ms.length ≤ 50 then (Uw23Neutral.knotsIn ms).map Uw23.Call.check else none) = some x := m2
                      split at m2
                      · rename_i h50
                        cases ek : Uw23Neutral.knotsIn ms with
                        | none =>
                          rw [ek] at m2
                          cases m2
                        | some ks =>
                          rw [ek] at m2
                          have m2 : some (Uw23.Call.check ks) = some x := m2
                          cases m2
                          obtain ⟨rfl, hev⟩ := knotsIn_pairs ms ks ek
                          have hlen : ms.length = n.toNat := by
                            have := congrArg List.length m1
                            rw [List.length_take, List.length_map] at this
                            omega
                          have e3 : n :: r' = ((ms.length : Nat) : Int) :: (ms.map (fun (n : Nat) => (n : Int)) ++ r'.drop n.toNat) := by
                            rw [← m1, List.take_append_drop, hlen, Int.toNat_of_nonneg hn.1]
                          rw [e3]
                          exact One.check ms _ hev h50
                      · cases m2
                  · have er : PyFlat.rows 1 (n :: r') = none := by
                      show (match (if 0 ≤ n ∧ n.toNat ≤ r'.length then some (r'.take n.toNat, r'.drop n.toNat) else none) with
                        | none => none
                        | some (x, s) => match PyFlat.rows 0 s with
                          | none => none
                          | some (xs, t) => some (x :: xs, t)) = _
                      rw [if_neg hn]
                    rw [er] at e1
                    cases e1
              · by_cases p3 : p = 3
                · subst p3
                  have e1 : some ([[(3 : Int)]], r) = some (c, t) := e1
                  cases e1
                  have hx : some Uw23.Call.fewest = some x := hx
                  cases hx
                  exact One.fewest _
                · have : PyUw23.shape p = none := by
                    unfold PyUw23.shape
                    rw [if_neg p0, if_neg p1, if_neg p2, if_neg p3]
                  rw [this] at e1
                  cases e1
theorem one_length {l r : List Int} {c : Uw23.Call} (h : One l c r) : r.length < l.length := by
  cases h <;> simp <;> omega
theorem step_good {s : Seam} (g : Good s) (c : Uw23.Call) : Good (Uw23.step s c).1 := by
  cases c with
  | begins u w m b =>
    show Good (if EDGE < u ∨ EDGE < w ∨ m < 1 ∨ MOST < m ∨ 1 < b then (s, ok (-1)) else (⟨u, w, m, b == 1⟩, ok 0)).1
    split
    · exact g
    · rename_i h
      have e1 : EDGE = 8 := rfl
      have e2 : MOST = 4 := rfl
      rw [e1, e2] at h
      exact ⟨show u ≤ 8 by omega, show w ≤ 8 by omega, show 1 ≤ m by omega, show m ≤ 4 by omega⟩
  | best => exact g
  | check l =>
    show Good (if KNOTS < l.length ∨ (l.all s.may) = false then (s, ok (-1)) else (s, _)).1
    split <;> exact g
  | fewest => exact g
/-- what is asked of a request, as the walk uses it -/
theorem asked_sfx {l : List Int} (h : PyUw23.answers_asked l = true) : Sfx Uw23.init l (PyUw23.answers l) ∧ (PyUw23.answers l).length ≤ 10000000 := by
  unfold PyUw23.answers_asked at h
  cases e : PyFlat.calls PyUw23.shape l.length l with
  | none =>
    rw [e] at h
    cases h
  | some raw =>
    rw [e] at h
    simp only [Bool.and_eq_true] at h
    obtain ⟨⟨_, ha⟩, hs⟩ := h
    have ea : PyUw23.answers l = PyFlat.told (PyFlat.played (fun s c => Uw23Neutral.step s (c.headD [])) Uw23Neutral.start (raw.map PyUw23.whole)) := by
      unfold PyUw23.answers PyUw23.calls
      rw [e]
    refine ⟨⟨l.length, raw, e, ?_, ea⟩, of_decide_eq_true hs⟩
    unfold Uw23Neutral.asked at ha
    rw [Bool.and_eq_true] at ha
    have ha := ha.1
    rw [List.all_map] at ha
    exact ha
end Lace

set_option Elab.async false
set_option maxRecDepth 100000
set_option maxHeartbeats 2000000
/-! How knots, lacings, edges lie in the heap; a rule for max of a tuple of two; the text by places. -/
namespace Lace
open PySem PySem.Spec PyProof.Rows L2
abbrev Knot := Uw23.Knot
abbrev Lacing := List Uw23.Knot

/-! ### max(t), t a tuple of two ints -/
section
variable {prog : Program} {w : World} {A : Around} {E : Value → Shared → Prop} {s : Shared} {l : Addr} {its : Array Value}
theorem iter_anyTup {Q : Value → Shared → Prop} (hl : s.heap.IsTuple l its)
    (h : ∀ s2 : Shared, s2 = { s with heap := s.heap.push { cls := .type "tuple_iterator", data := .fields #[.ref l, .int 0 0] } } →
      (s2.heap.IsTupleIter s.heap.objs.size l 0 ∧ s2.heap.IsTuple l its) → (∀ b ∈ [s.heap.objs.size, l], b < s2.heap.objs.size) → l ≠ s.heap.objs.size → Q (.ref s.heap.objs.size) s2) :
    wpAny (model prog w) A (pyIter (.ref l)) Q E s := by
  have hlt : l < s.heap.objs.size := by
    obtain ⟨_, e, _⟩ := hl
    exact Heap.lt_size e
  refine wpAny_pyIter_tuple hl (h _ rfl ⟨⟨_, Heap.get?_push_size _ rfl, rfl, rfl⟩, hl.push _⟩ (fun b hb => ?_) (Nat.ne_of_lt hlt))
  show b < (s.heap.push _).objs.size
  rw [Heap.size_push]
  rcases List.mem_cons.mp hb with rfl | hb
  · exact Nat.lt_succ_self _
  · rcases List.mem_cons.mp hb with rfl | hb
    · exact Nat.lt_succ_of_lt hlt
    · cases hb
theorem max_tup2 {Q : Value → Shared → Prop} {i j : Int} {t u : Tok} (hh : A.handled = none) (hl : s.heap.IsTuple l #[.int i t, .int j u])
    (h : ∀ h' tk t', (∀ b o, s.heap.get? b = some o → h'.get? b = some o) → Q (.int (if j > i then j else i) t') { s with heap := h', toks := tk }) :
    wpAny (model prog w) A (call (.builtin "max") [.ref l]) Q E s := by
  refine call_max_walk (iter_anyTup hl fun s2 e st hfp hlI => ?_)
  subst e
  refine ⟨_, _, _, _, _, _, _, rfl, Walks.tuple (A := A.in1) hh _ l hlI #[.int i t, .int j u], st, hfp, by simp, CmpOf.ints_gt (fun n => if n = 0 then i else j) (fun n v hv => ?_), fun v h' tk hP hk => ?_⟩
  · match n, hv with
    | 0, hv => exact ⟨t, (Option.some.inj hv).symm⟩
    | 1, hv => exact ⟨u, (Option.some.inj hv).symm⟩
    | n + 2, hv => exact absurd hv (by simp)
  · have hk2 : ∀ b o, s.heap.get? b = some o → h'.get? b = some o := fun b o e => by
      refine hk b o (fun hm => ?_) (Heap.get?_push_of_some _ e)
      rcases List.mem_cons.mp hm with e1 | hm
      · exact absurd (e1 ▸ Heap.lt_size e) (Nat.lt_irrefl _)
      · cases hm
    have hP : (#[Value.int i t, Value.int j u] : Array Value)[if decide (j > i) = true then 1 else 0]? = some v := hP
    by_cases c : j > i
    · rw [decide_eq_true c, if_pos rfl] at hP
      have e : Value.int j u = v := Option.some.inj hP
      have q := h h' tk u hk2
      rw [if_pos c, e] at q
      exact q
    · rw [decide_eq_false c, if_neg Bool.false_ne_true] at hP
      have e : Value.int i t = v := Option.some.inj hP
      have q := h h' tk t hk2
      rw [if_neg c, e] at q
      exact q
end
section
variable {X : Cx}
def rMaxT2 (K : PySem.W.Frag) : List V → Hp → VK → Prop := fun vs H Q => ∃ (a : Addr) (i j : Int), vs = [V.ref a] ∧ SqT K H a [.int i, .int j] ∧ Q (.int (if j > i then j else i)) H
theorem cr_maxT2 (hc : X.calm = true) : CallR X (.builtin "max") (rMaxT2 X.K) := by
  intro pins s σ H vs us Q I r h
  obtain ⟨a, i, j, rfl, hs, q⟩ := h
  obtain ⟨its, rv, hl, _⟩ := I.tuple hs
  rw [Vals.ref1 r]
  obtain ⟨t, u, rfl⟩ := Vals.int2 rv
  exact max_tup2 (I.ok.hd hc) hl fun h' tk t' hk => ⟨.int _, H, I.kept hk, ⟨_, rfl⟩, q⟩
end

/-! ### lists of things -/
def Rep {α : Type} (R : Hp → V → α → Prop) (H : Hp) : List V → List α → Prop
  | [], [] => True
  | v :: vs, x :: xs => R H v x ∧ Rep R H vs xs
  | _, _ => False
section
variable {α : Type} {R : Hp → V → α → Prop} {H H' : Hp}
theorem Rep.length : ∀ {vs : List V} {xs : List α}, Rep R H vs xs → vs.length = xs.length
  | [], [], _ => rfl
  | _ :: _, _ :: _, h => congrArg (· + 1) (Rep.length h.2)
  | [], _ :: _, h => h.elim
  | _ :: _, [], h => h.elim
theorem Rep.get : ∀ {vs : List V} {xs : List α} {i : Nat} {v : V}, Rep R H vs xs → vs[i]? = some v → ∃ x, xs[i]? = some x ∧ R H v x
  | [], [], _, _, _, e => by simp at e
  | v :: vs, x :: xs, 0, _, h, e => by
    have e : v = _ := Option.some.inj e
    subst e
    exact ⟨x, rfl, h.1⟩
  | _ :: vs, _ :: xs, i + 1, v, h, e => Rep.get (i := i) (v := v) h.2 (by simpa using e)
  | [], _ :: _, _, _, h, _ => h.elim
  | _ :: _, [], _, _, h, _ => h.elim
theorem Rep.mono (m : ∀ v x, R H v x → R H' v x) : ∀ {vs : List V} {xs : List α}, Rep R H vs xs → Rep R H' vs xs
  | [], [], _ => trivial
  | _ :: _, _ :: _, h => ⟨m _ _ h.1, Rep.mono m h.2⟩
  | [], _ :: _, h => h.elim
  | _ :: _, [], h => h.elim
theorem Rep.append : ∀ {vs ws : List V} {xs ys : List α}, Rep R H vs xs → Rep R H ws ys → Rep R H (vs ++ ws) (xs ++ ys)
  | [], _, [], _, _, k => k
  | _ :: _, _, _ :: _, _, h, k => ⟨h.1, Rep.append h.2 k⟩
  | [], _, _ :: _, _, h, _ => h.elim
  | _ :: _, _, [], _, h, _ => h.elim
theorem Rep.snoc {vs : List V} {xs : List α} {v : V} {x : α} (h : Rep R H vs xs) (k : R H v x) : Rep R H (vs ++ [v]) (xs ++ [x]) := h.append ⟨k, trivial⟩
theorem Rep.nil : Rep R H [] [] := trivial
theorem Rep.nil_iff {vs : List V} {xs : List α} (h : Rep R H vs xs) : vs = [] ↔ xs = [] := by
  have := h.length
  constructor
  · rintro rfl
    exact List.length_eq_zero_iff.mp this.symm
  · rintro rfl
    exact List.length_eq_zero_iff.mp this
end
theorem Same.seqT {K : PySem.W.Frag} {H H' : Hp} {a : Addr} {xs : List V} (e : Same H H') (h : SqT K H a xs) : SqT K H' a xs := by
  rcases h with (h | ⟨o, h⟩) | h
  · exact .inl (.inl (e _ _ h))
  · exact .inl (.inr ⟨o, e _ _ h⟩)
  · exact .inr h
theorem Same.new {H : Hp} {p : Addr} {o : HO} (h : H p = none) : Same H (upd H p o) := fun b u e => by
  rw [upd_ne (ne_of_none e h)]
  exact e
/-- a thing that was not tracked at first is written -/
theorem Same.over {H H1 : Hp} {p : Addr} {o : HO} (s : Same H H1) (h : H p = none) : Same H (upd H1 p o) := fun b u e => by
  rw [upd_ne (ne_of_none e h)]
  exact s _ _ e
/-- a pair of numbers -/
def pairO (x y : Nat) : HO := .tup [.int (x : Int), .int (y : Int)]
def KnotV (H : Hp) (v : V) (k : Knot) : Prop := ∃ t, v = .ref t ∧ H t = some (pairO k.up k.low)
def TkV (K : PySem.W.Frag) (H : Hp) (v : V) (x y : Nat) : Prop := ∃ t, v = .ref t ∧ SqT K H t [.int (x : Int), .int (y : Int)]
def LacV (H : Hp) (v : V) (l : Lacing) : Prop := ∃ a vs, v = .ref a ∧ H a = some (.lst vs) ∧ Rep KnotV H vs l
def LacsV (H : Hp) (v : V) (ls : List Lacing) : Prop := ∃ a vs, v = .ref a ∧ H a = some (.lst vs) ∧ Rep LacV H vs ls
section
variable {H H' : Hp}
theorem KnotV.mono (s : Same H H') {v : V} {k : Knot} : KnotV H v k → KnotV H' v k
  | ⟨t, e, h⟩ => ⟨t, e, s _ _ h⟩
theorem KnotV.tk (K : PySem.W.Frag) {v : V} {k : Knot} : KnotV H v k → TkV K H v k.up k.low
  | ⟨t, e, h⟩ => ⟨t, e, SqT.of h⟩
theorem TkV.mono {K : PySem.W.Frag} (s : Same H H') {v : V} {x y : Nat} : TkV K H v x y → TkV K H' v x y
  | ⟨t, e, h⟩ => ⟨t, e, Same.seqT s h⟩
theorem knots_mono (s : Same H H') {vs : List V} {l : Lacing} (h : Rep KnotV H vs l) : Rep KnotV H' vs l := h.mono fun _ _ => KnotV.mono s
theorem LacV.mono (s : Same H H') {v : V} {l : Lacing} : LacV H v l → LacV H' v l
  | ⟨a, vs, e, h, r⟩ => ⟨a, vs, e, s _ _ h, knots_mono s r⟩
theorem lacs_mono (s : Same H H') {vs : List V} {ls : List Lacing} (h : Rep LacV H vs ls) : Rep LacV H' vs ls := h.mono fun _ _ => LacV.mono s
theorem LacsV.mono (s : Same H H') {v : V} {ls : List Lacing} : LacsV H v ls → LacsV H' v ls
  | ⟨a, vs, e, h, r⟩ => ⟨a, vs, e, s _ _ h, lacs_mono s r⟩
end
/-! ### as data, for == -/
def knotD (k : Knot) : PyData := .tuple [.int k.up, .int k.low]
end Lace

set_option Elab.async false
set_option maxRecDepth 100000
set_option maxHeartbeats 2000000
/-! knots.py: each def keeps its promise. -/
namespace Lace
open PySem PySem.Spec PyProof.Rows L2
def top (i : Nat) : Stmt := PySem.Challenge.pw_lacededges_s01_answers.main.body.getD i (.Pass ⟨0, 0, 0, 0⟩)
/-- the built-ins that are used stand as they are -/
structure Blt (mg : Str → Option Value) : Prop where
  range : mg "range" = none
  len : mg "len" = none
  max : mg "max" = none
  min : mg "min" = none
  abs : mg "abs" = none
  all : mg "all" = none
section
variable (P : Program) (w : World) (K : PySem.W.Frag) (mg : Str → Option Value) (base : Heap)
/-- the module's def x keeps the promise sp -/
def Has (k : Nat) (x : Str) (ps : List Str) (sp : Sp) : Prop := ∃ f fd, mg x = some (.ref f) ∧ PySem.W.keepIn K (.ref f) = true ∧ Binds K fd ps [] ∧ FnOk P w K mg base CX0 k f fd ps sp
/-- the method m of the class at C keeps the promise sp -/
def HasM (C : Addr) (k : Nat) (m : Str) (ps : List Str) (sp : Sp) : Prop := ∃ f fd, Meth K C m f ∧ Binds K fd ps [] ∧ FnOk P w K mg base CX0 k f fd ps sp
/-- the class x, at C, made by an __init__ that keeps the promise sp -/
def HasC (C : Addr) (k : Nat) (x : Str) (ps : List Str) (sp : Sp) : Prop := ∃ f fd, mg x = some (.ref C) ∧ Mk K C f ∧ Binds K fd ps [] ∧ FnOk P w K mg base CX0 k f fd ps sp
end
theorem yes_ {σ : L2.St} {H : Hp} {Q : Bool → Hp → Prop} (h : Q true H) : tYes σ H Q := h
theorem small_of {n : Nat} (m : Nat) (h : n ≤ m) (hm : m < 16777216 := by decide) : n < sizeLine := Nat.lt_of_le_of_lt h (by rw [sizeLine_eq]; exact hm)

section
variable {P : Program} {w : World} {K : PySem.W.Frag} {mg : Str → Option Value} {base : Heap}

/-! ### is_knot -/
abbrev sIsKnot : Stmt := top 1
def mayM (m : Nat) (k : Knot) : Bool := (Uw23.Seam.mk 0 0 m true).may k
theorem mayM_of (s : Uw23.Seam) (k : Knot) : s.may k = mayM s.most k := rfl
theorem mayM_iff {m : Nat} {k : Knot} : mayM m k = true ↔ (1 ≤ k.up ∧ 1 ≤ k.low ∧ k.up ≤ m ∧ k.low ≤ m ∧ (k.up = 1 ∨ k.low = 1)) := by
  unfold mayM Uw23.Seam.may
  simp
def spIsKnot : Sp := fun vs H Q _ => ∃ (t : Addr) (k : Knot) (m : Nat), vs = [.ref t, .int (m : Int)] ∧ H t = some (pairO k.up k.low) ∧ Q (.bl (mayM m k)) H
theorem scIsKnot : FnScope ["knot", "most", "upper", "lower"] ["knot", "most"] (defScope sIsKnot) := ⟨rfl, rfl, rfl, by decide +kernel, rfl, by decide +kernel, by decide +kernel⟩
theorem ok_isKnot {f : Addr} {fd : FuncData} (F : Fun K "is_knot" "is_knot" sIsKnot f fd) (B : Blt mg) : FnOk P w K mg base CX0 1 f fd ["knot", "most"] spIsKnot := by
  refine F.ok scIsKnot (fun vs H Q E h => ?_) (fun cdv A outer s H vs Q E hr h => ?_)
  · obtain ⟨t, k, m, rfl, _⟩ := h
    rfl
  · obtain ⟨t, k, m, rfl, ht, q⟩ := h
    refine ⟨_, pss_cons (ps_asg (pv 0) (pg_tup rfl (pgs_cons (pg_name (i := 2) scIsKnot.nd rfl (.inl rfl)) (pgs_cons (pg_name (i := 3) scIsKnot.nd rfl (.inl rfl)) pgs_nil))))
      (pss_one (ps_ret (pe_and (pe_cmpR op_eq (pe_callB (call_min2 rfl) (by rfl) B.min (by decide +kernel) (pa_cons (pv 2) (pa_cons (pv 3) pa_nil))) pe_int (nomark _))
        (pe_one (pe_cmpR op_le (pe_callB (call_max2 rfl) (by rfl) B.max (by decide +kernel) (pa_cons (pv 2) (pa_cons (pv 3) pa_nil))) (pv 1) (nomark _)))))), ?_⟩
    refine ⟨_, rfl, t, _, rfl, SqT.of ht, rfl, _, _, rfl, _, _, rfl, rfl, ?_⟩
    refine ⟨_, rfl, _, rfl, _, _, rfl, rfl, _, rfl, ?_⟩
    have e : decide (V.int (if ((k.low : Nat) : Int) < ((k.up : Nat) : Int) then ((k.low : Nat) : Int) else ((k.up : Nat) : Int)) = V.int 1) = decide (min k.up k.low = 1) := by
      rw [dec_int, Bool.beq_eq_decide_eq]
      refine decide_eq_decide.mpr ?_
      split <;> omega
    show if decide (V.int (if ((k.low : Nat) : Int) < ((k.up : Nat) : Int) then ((k.low : Nat) : Int) else ((k.up : Nat) : Int)) = V.int 1) = true then _ else _
    rw [e]
    by_cases c : min k.up k.low = 1
    · rw [decide_eq_true c]
      refine iteT ?_
      refine ⟨_, rfl, _, rfl, _, _, rfl, _, rfl, _, _, rfl, rfl, ?_⟩
      have e2 : decide ((if ((k.low : Nat) : Int) > ((k.up : Nat) : Int) then ((k.low : Nat) : Int) else ((k.up : Nat) : Int)) ≤ ((m : Nat) : Int)) = mayM m k := by
        rw [Bool.eq_iff_iff, decide_eq_true_eq, mayM_iff]
        split <;> omega
      show Q (V.bl (decide ((if ((k.low : Nat) : Int) > ((k.up : Nat) : Int) then ((k.low : Nat) : Int) else ((k.up : Nat) : Int)) ≤ ((m : Nat) : Int)))) H
      rw [e2]
      exact q
    · rw [decide_eq_false c]
      refine iteF ?_
      have e2 : mayM m k = false := by
        rw [Bool.eq_false_iff, Ne, mayM_iff]
        omega
      rw [e2] at q
      exact q

/-! ### is_heavy -/
abbrev sIsHeavy : Stmt := top 2
def spIsHeavy : Sp := fun vs H Q _ => ∃ (t : Addr) (k : Knot), vs = [.ref t] ∧ H t = some (pairO k.up k.low) ∧ Q (.bl (Uw23.heavy k)) H
theorem scIsHeavy : FnScope ["knot"] ["knot"] (defScope sIsHeavy) := ⟨rfl, rfl, rfl, by decide +kernel, rfl, by decide +kernel, by decide +kernel⟩
theorem ok_isHeavy {f : Addr} {fd : FuncData} (F : Fun K "is_heavy" "is_heavy" sIsHeavy f fd) (B : Blt mg) : FnOk P w K mg base CX0 1 f fd ["knot"] spIsHeavy := by
  refine F.ok scIsHeavy (fun vs H Q E h => ?_) (fun cdv A outer s H vs Q E hr h => ?_)
  · obtain ⟨t, k, rfl, _⟩ := h
    rfl
  · obtain ⟨t, k, rfl, ht, q⟩ := h
    refine ⟨_, pss_one (ps_ret (pe_cmpR op_gt (pe_callB (cr_maxT2 rfl) (by rfl) B.max (by decide +kernel) (pa_cons (pv 0) pa_nil)) pe_int (nomark _))), ?_⟩
    refine ⟨_, rfl, t, _, _, rfl, SqT.of ht, _, _, rfl, rfl, ?_⟩
    have e : decide ((1 : Int) < (if ((k.low : Nat) : Int) > ((k.up : Nat) : Int) then ((k.low : Nat) : Int) else ((k.up : Nat) : Int))) = Uw23.heavy k := by
      unfold Uw23.heavy
      rw [Bool.eq_iff_iff, decide_eq_true_eq, Bool.or_eq_true, decide_eq_true_eq, decide_eq_true_eq]
      split <;> omega
    show Q (V.bl (decide ((1 : Int) < (if ((k.low : Nat) : Int) > ((k.up : Nat) : Int) then ((k.low : Nat) : Int) else ((k.up : Nat) : Int))))) H
    rw [e]
    exact q

/-! ### knots_of -/
theorem KnotV.wr {H : Hp} {D : Addr} {acc : List V} {o : HO} (hD : H D = some (.lst acc)) {v : V} {k : Knot} : KnotV H v k → KnotV (upd H D o) v k
  | ⟨t, e, h⟩ => ⟨t, e, (upd_ne (ne_of h hD (by intro z; cases z))).trans h⟩
theorem knots_wr {H : Hp} {D : Addr} {acc : List V} {o : HO} (hD : H D = some (.lst acc)) {vs : List V} {l : Lacing} (h : Rep KnotV H vs l) : Rep KnotV (upd H D o) vs l := h.mono fun _ _ => KnotV.wr hD
theorem range_more {α : Type} (f : Nat → α) (i : Nat) : (List.range (i + 1)).map f = (List.range i).map f ++ [f i] := by
  rw [List.range_succ, List.map_append]
  rfl
abbrev sKnotsOf : Stmt := top 3
def spKnotsOf : Sp := fun vs H Q _ => ∃ m : Nat, vs = [.int (m : Int)] ∧ m ≤ 4 ∧ ∀ H' r, Same H H' → LacV H' r (knotsL m) → Q r H'
theorem scKnotsOf : FnScope ["most", "found", "upper", "lower"] ["most"] (defScope sKnotsOf) := ⟨rfl, rfl, rfl, by decide +kernel, rfl, by decide +kernel, by decide +kernel⟩
theorem ok_knotsOf {f : Addr} {fd : FuncData} (F : Fun K "knots_of" "knots_of" sKnotsOf f fd) (B : Blt mg) : FnOk P w K mg base CX0 1 f fd ["most"] spKnotsOf := by
  refine F.ok scKnotsOf (fun vs H Q E h => ?_) (fun cdv A outer s H vs Q E hr h => ?_)
  · obtain ⟨m, rfl, _⟩ := h
    rfl
  · obtain ⟨m, rfl, hm, q⟩ := h
    refine ⟨_, pss_cons (ps_setLc (i := 1) (own := [("lower", 3)]) (g := gName 3) (tt := tYes) rfl scKnotsOf.nd rfl rfl (sw_true rfl rfl rfl (by decide +kernel))
        (pi_range2 (by rfl) B.range (pa_cons pe_int (pa_cons (pe_op op_add (pv 0) pe_int) pa_nil)))
        (blkOk_by (own := [("lower", 3)]) (N := ["most", "found", "upper", "lower"]) (sc := defScope sKnotsOf) (by decide +kernel))
        (fun _ _ _ _ _ => pg_name (i := 3) scKnotsOf.nd rfl (Or.inl rfl)) (fun _ _ _ _ _ => pts_nil) (fun _ _ _ _ _ => pe_tup (pa_cons pe_int (pa_cons (pv 3) pa_nil))))
      (pss_cons (ps_for PassesOwn.never rfl (pi_range2 (by rfl) B.range (pa_cons pe_int (pa_cons (pe_op op_add (pv 0) pe_int) pa_nil))) (pg_name (i := 2) scKnotsOf.nd rfl (.inl rfl))
        (pss_one (ps_expr (pe_bm PySem.F.plainAttrs_list PySem.F.slot_list_append PySem.F.type_list_append mt_append (pv 1) (pa_cons (pe_tup (pa_cons (pv 2) (pa_cons pe_int pa_nil))) pa_nil)))))
      (pss_one (ps_ret (pv 1)))), ?_⟩
    refine ⟨_, rfl, _, _, rfl, rfl, _, _, rfl, ⟨by decide, by decide, by omega, by omega⟩, fun D hD => ?_⟩
    refine lc_range (fun i H' => Same H H' ∧ ∃ acc, H' D = some (.lst acc) ∧ Rep KnotV H' acc ((List.range i).map fun j => (⟨1, j + 1⟩ : Knot))) ?_ ?_ ?_
    · exact ⟨Same.new hD, [], upd_same, trivial⟩
    · rintro i H1 hi ⟨s1, acc, hA, hR⟩
      refine ⟨rfl, yes_ (iteT ?_)⟩
      refine ⟨_, rfl, (by show 2 ≤ sizeLine; decide), fun p hp => ?_⟩
      have nDp : D ≠ p := ne_of_none hA hp
      have hA2 : upd H1 p (.tup [.int 1, .int (1 + (i : Int))]) D = some (.lst acc) := (upd_ne nDp).trans hA
      have hl := hR.length
      refine ⟨acc, hA2, ?_, ?_, _, upd_same, ?_⟩
      · refine small_of 10 ?_
        rw [hl, List.length_map, List.length_range]
        omega
      · exact Same.over (s1.trans (Same.new hp)) hD
      · rw [range_more]
        refine Rep.snoc (knots_wr hA2 (knots_mono (Same.new hp) hR)) ⟨p, rfl, ?_⟩
        rw [upd_ne nDp.symm, upd_same]
        show some (HO.tup [.int 1, .int (1 + (i : Int))]) = some (pairO 1 (i + 1))
        unfold pairO
        rw [show (1 + (i : Int)) = (((i + 1 : Nat)) : Int) by omega]
        rfl
    · rintro H1 ⟨s1, acc, hA, hR⟩
      have en : ((((m : Nat) : Int) + 1 - 1).toNat) = m := by omega
      have hR : Rep KnotV H1 acc ((List.range ((((m : Nat) : Int) + 1 - 1).toNat)).map fun j => (⟨1, j + 1⟩ : Knot)) := hR
      rw [en] at hR
      refine ⟨_, rfl, _, _, rfl, rfl, _, _, rfl, ⟨by decide, by decide, by omega, by omega⟩, ?_⟩
      refine for_range (fun i σ H' => ∃ v, σ = [some (.int (m : Int)), some (.ref D), v, none] ∧ Same H H' ∧ ∃ acc, H' D = some (.lst acc) ∧ Rep KnotV H' acc (((List.range m).map fun j => (⟨1, j + 1⟩ : Knot)) ++ (List.range i).map fun j => (⟨j + 2, 1⟩ : Knot))) ?_ ?_ ?_
      · refine ⟨none, rfl, s1, acc, hA, ?_⟩
        rw [List.range_zero, List.map_nil, List.append_nil]
        exact hR
      · rintro i σ H2 hi ⟨v, rfl, s2, acc2, hA2, hR2⟩
        refine ⟨_, rfl, .inl ⟨rfl, _, SqL.of hA2⟩, _, rfl, (by show 2 ≤ sizeLine; decide), fun p hp => ?_⟩
        have nDp : D ≠ p := ne_of_none hA2 hp
        have hA3 : upd H2 p (.tup [.int (2 + (i : Int)), .int 1]) D = some (.lst acc2) := (upd_ne nDp).trans hA2
        have hl := hR2.length
        refine ⟨D, acc2, _, rfl, rfl, hA3, ?_, _, rfl, Same.over (s2.trans (Same.new hp)) hD, _, upd_same, ?_⟩
        · refine small_of 20 ?_
          rw [hl, List.length_append, List.length_map, List.length_range, List.length_map, List.length_range]
          omega
        · rw [range_more, ← List.append_assoc]
          refine Rep.snoc (knots_wr hA3 (knots_mono (Same.new hp) hR2)) ⟨p, rfl, ?_⟩
          rw [upd_ne nDp.symm, upd_same]
          show some (HO.tup [.int (2 + (i : Int)), .int 1]) = some (pairO (i + 2) 1)
          unfold pairO
          rw [show (2 + (i : Int)) = (((i + 2 : Nat)) : Int) by omega]
          rfl
      · rintro σ H2 ⟨v, rfl, s2, acc2, hA2, hR2⟩
        have en2 : ((((m : Nat) : Int) + 1 - 2).toNat) = m - 1 := by omega
        have hR2 : Rep KnotV H2 acc2 (((List.range m).map fun j => (⟨1, j + 1⟩ : Knot)) ++ (List.range ((((m : Nat) : Int) + 1 - 2).toNat)).map fun j => (⟨j + 2, 1⟩ : Knot)) := hR2
        rw [en2] at hR2
        exact ⟨_, rfl, q _ _ s2 ⟨D, acc2, rfl, hA2, hR2⟩⟩
end
end Lace

set_option Elab.async false
set_option maxRecDepth 100000
set_option maxHeartbeats 2000000
/-! knots.py, further: in_pairs, in_a_row. -/
namespace Lace
open PySem PySem.Spec PyProof.Rows L2
section
variable {P : Program} {w : World} {K : PySem.W.Frag} {mg : Str → Option Value} {base : Heap}
/-! ### in_pairs -/
def natV (n : Nat) : V := .int (n : Int)
theorem rg2 : ∀ n : Nat, n ≤ 60 → RgC 0 ((n : Int) - 1) 2 (n / 2) := by
  intro n hn
  have h : ∀ n : Fin 61, Builtin.Range.small 0 (((n : Nat) : Int) - 1) 2 = true ∧ Builtin.Range.rangeSize 0 (((n : Nat) : Int) - 1) 2 = (((n : Nat) / 2 : Nat) : Int) := by decide
  exact ⟨by decide, by decide, (h ⟨n, by omega⟩).1, (h ⟨n, by omega⟩).2⟩
abbrev sInPairs : Stmt := top 4
def spInPairs (K : PySem.W.Frag) : Sp := fun vs H Q _ => ∃ (a : Addr) (ms : List Nat), vs = [.ref a] ∧ SqL K H a (ms.map natV) ∧ ms.length ≤ 60 ∧ ∀ H' r, Same H H' → LacV H' r (pairsOf ms) → Q r H'
theorem scInPairs : FnScope ["numbers", "k"] ["numbers"] (defScope sInPairs) := ⟨rfl, rfl, rfl, by decide +kernel, rfl, by decide +kernel, by decide +kernel⟩
theorem take_get {α : Type} {l : List α} {i : Nat} {x : α} (h : l[i]? = some x) : l.take (i + 1) = l.take i ++ [x] := take_more h
theorem ok_inPairs {f : Addr} {fd : FuncData} (F : Fun K "in_pairs" "in_pairs" sInPairs f fd) (B : Blt mg) : FnOk P w K mg base CX0 1 f fd ["numbers"] (spInPairs K) := by
  refine F.ok scInPairs (fun vs H Q E h => ?_) (fun cdv A outer s H vs Q E hr h => ?_)
  · obtain ⟨a, ms, rfl, _⟩ := h
    rfl
  · obtain ⟨a, ms, rfl, hS, hl, q⟩ := h
    refine ⟨_, pss_one (ps_ret (pe_lc (own := [("k", 1)]) (g := gName 1) (tt := tYes) (te := tTup (tCons (tOp (rIxL K) (tVar 0) (tVar 1)) (tCons (tOp (rIxL K) (tVar 0) (tOp (rI0 fun i j => .int (i + j)) (tVar 1) (tC (.int 1)))) tNil))) rfl scInPairs.nd
      (pi_range3 (by rfl) B.range (pa_cons pe_int (pa_cons (pe_op op_sub (pe_callB call_len_seq (by rfl) B.len PySem.boot_len (pa_cons (pv 0) pa_nil)) pe_int) (pa_cons pe_int pa_nil))))
      (blkOk_by (own := [("k", 1)]) (N := ["numbers", "k"]) (sc := defScope sInPairs) (by decide +kernel))
      (fun _ _ _ _ _ => pg_name (i := 1) scInPairs.nd rfl (Or.inl rfl)) (fun _ _ _ _ _ => pts_nil)
      (fun _ _ _ _ _ => pe_tup (pa_cons (pe_ix ix_list (pv 0) (pv 1) (fun _ _ => rfl)) (pa_cons (pe_ix ix_list (pv 0) (pe_op op_add (pv 1) pe_int) (fun _ _ => rfl)) pa_nil))))), ?_⟩
    have hn : (ms.map natV).length = ms.length := List.length_map _
    refine ⟨_, rfl, a, _, rfl, .inl hS, _, _, rfl, rfl, _, _, _, ms.length / 2, rfl, ?_, fun D hD => ?_⟩
    · rw [hn]
      exact rg2 ms.length hl
    · refine lc_it walk_rangeC (fun i H' => Same H H' ∧ ∃ acc, H' D = some (.lst acc) ∧ Rep KnotV H' acc ((pairsOf ms).take i)) ?_ (fun _ _ _ _ => trivial) ?_ ?_
      · exact ⟨Same.new hD, [], upd_same, trivial⟩
      · rintro i x H1 H1' hi ⟨s1, acc, hA, hR⟩ ⟨rfl, rfl⟩
        have h1 : 2 * i < ms.length := by omega
        have h2 : 2 * i + 1 < ms.length := by omega
        have g1 : (ms.map natV)[2 * i]? = some (natV ms[2 * i]) := by
          rw [List.getElem?_map, List.getElem?_eq_getElem h1]
          rfl
        have g2 : (ms.map natV)[2 * i + 1]? = some (natV ms[2 * i + 1]) := by
          rw [List.getElem?_map, List.getElem?_eq_getElem h2]
          rfl
        refine ⟨rfl, yes_ (iteT ?_)⟩
        refine ⟨_, rfl, _, rfl, a, _, _, _, rfl, rfl, s1.seq hS, at_of (by omega) g1, _, rfl, _, rfl, _, _, rfl, rfl, a, _, _, _, rfl, rfl, s1.seq hS, at_of (by omega) g2, (by show 2 ≤ sizeLine; decide), fun p hp => ?_⟩
        have nDp : D ≠ p := ne_of_none hA hp
        have hA2 : upd H1' p (.tup [natV ms[2 * i], natV ms[2 * i + 1]]) D = some (.lst acc) := (upd_ne nDp).trans hA
        have hlen := hR.length
        have hk : (pairsOf ms)[i]? = some ⟨ms[2 * i], ms[2 * i + 1]⟩ := pairsOf_get ms i _ _ (List.getElem?_eq_getElem h1) (List.getElem?_eq_getElem h2)
        refine ⟨acc, hA2, ?_, Same.over (s1.trans (Same.new hp)) hD, _, upd_same, ?_⟩
        · refine small_of 100 ?_
          rw [hlen, List.length_take]
          omega
        · rw [take_get hk]
          refine Rep.snoc (knots_wr hA2 (knots_mono (Same.new hp) hR)) ⟨p, rfl, ?_⟩
          rw [upd_ne nDp.symm, upd_same]
          rfl
      · rintro H1 ⟨s1, acc, hA, hR⟩
        rw [List.take_of_length_le (by rw [pairsOf_length]; exact Nat.le_refl _)] at hR
        exact q _ _ s1 ⟨D, acc, rfl, hA, hR⟩

/-! ### in_a_row -/
abbrev sInRow : Stmt := top 5
def spInRow : Sp := fun vs H Q _ => ∃ (v : V) (l : Lacing), vs = [v] ∧ LacV H v l ∧ l.length ≤ 1000 ∧ ∀ H' r, Same H H' → H r = none → H' r = some (.lst ((Uw23.flat l).map natV)) → Q (.ref r) H'
theorem scInRow : FnScope ["lacing", "found", "upper", "lower"] ["lacing"] (defScope sInRow) := ⟨rfl, rfl, rfl, by decide +kernel, rfl, by decide +kernel, by decide +kernel⟩
theorem flat_snoc (l : Lacing) (k : Knot) : Uw23.flat (l ++ [k]) = Uw23.flat l ++ [k.up, k.low] := by
  unfold Uw23.flat
  rw [List.flatMap_append]
  rfl
theorem flat_length : ∀ l : Lacing, (Uw23.flat l).length = 2 * l.length
  | [] => rfl
  | k :: l => by
    show (k.up :: k.low :: Uw23.flat l).length = 2 * (l.length + 1)
    rw [List.length_cons, List.length_cons, flat_length l]
    omega
theorem ok_inRow {f : Addr} {fd : FuncData} (F : Fun K "in_a_row" "in_a_row" sInRow f fd) : FnOk P w K mg base CX0 1 f fd ["lacing"] spInRow := by
  refine F.ok scInRow (fun vs H Q E h => ?_) (fun cdv A outer s H vs Q E hr h => ?_)
  · obtain ⟨v, l, rfl, _⟩ := h
    rfl
  · obtain ⟨v, l, rfl, ⟨a, vs, rfl, ha, hR⟩, hl, q⟩ := h
    refine ⟨_, pss_cons (ps_set (i := 1) scInRow.nd rfl (.inl rfl) (pe_lst pa_nil))
      (pss_cons (ps_for PassesOwn.never rfl (pi_list (pv 0)) (pg_tup rfl (pgs_cons (pg_name (i := 2) scInRow.nd rfl (.inl rfl)) (pgs_cons (pg_name (i := 3) scInRow.nd rfl (.inl rfl)) pgs_nil)))
        (pss_one (ps_expr (pe_bm PySem.F.plainAttrs_list PySem.F.slot_list_extend PySem.F.type_list_extend mt_extend (pv 1) (pa_cons (pe_lst (pa_cons (pv 2) (pa_cons (pv 3) pa_nil))) pa_nil)))))
      (pss_one (ps_ret (pv 1)))), ?_⟩
    refine ⟨Nat.zero_le _, fun D hD => ?_⟩
    refine ⟨_, rfl, a, rfl, ⟨_, SqL.of ((Same.new hD) _ _ ha)⟩, for_list (K := K) (a := a) (xs := vs) (fun i σ H' => ∃ x y, σ = [some (.ref a), some (.ref D), x, y] ∧ Same H H' ∧ H' D = some (.lst ((Uw23.flat (l.take i)).map natV))) ?_ ?_ ?_ ?_⟩
    · exact ⟨none, none, rfl, Same.new hD, upd_same⟩
    · rintro i σ H1 _ ⟨x, y, rfl, s1, hA⟩
      exact SqL.of (s1 _ _ ha)
    · rintro i v σ H1 hi ⟨x, y, rfl, s1, hA⟩
      obtain ⟨k, hk, t, rfl, ht⟩ := hR.get hi
      have ht1 := s1 _ _ ht
      refine ⟨t, _, rfl, SqT.of ht1, rfl, _, _, rfl, _, _, rfl, rfl, ?_⟩
      refine ⟨_, rfl, .inl ⟨rfl, _, SqL.of hA⟩, _, rfl, _, rfl, (by show 2 ≤ sizeLine; decide), fun p hp => ?_⟩
      have nDp : D ≠ p := ne_of_none hA hp
      refine ⟨D, p, _, _, rfl, rfl, (upd_ne nDp).trans hA, upd_same, ?_, _, _, rfl, Same.over (s1.trans (Same.new hp)) hD, ?_⟩
      · refine Nat.le_of_lt (small_of 3000 ?_)
        rw [List.length_map, flat_length, List.length_take]
        show _ + 2 ≤ 3000
        omega
      · rw [upd_same, take_get hk, flat_snoc, List.map_append]
        rfl
    · rintro σ H1 ⟨x, y, rfl, s1, hA⟩
      rw [List.take_of_length_le (by rw [hR.length]; exact Nat.le_refl _)] at hA
      exact ⟨_, rfl, q _ _ s1 hD hA⟩
end
end Lace

set_option Elab.async false
set_option maxRecDepth 100000
set_option maxHeartbeats 2000000
/-! edges.py: each def keeps its promise. -/
namespace Lace
open PySem PySem.Spec PyProof.Rows L2
/-! ### attributes -/
theorem lk_here {k : Str} {v : V} {r : List (Str × V)} : List.lookup k ((k, v) :: r) = some v := by
  have e : (k == k) = true := beq_self_eq_true k
  simp only [List.lookup, e]
theorem lk_past {k g : Str} {v : V} {r : List (Str × V)} (h : (k == g) = false) : List.lookup k ((g, v) :: r) = List.lookup k r := by
  simp only [List.lookup, h]
theorem put_here {f : Str} {v x : V} {r : List (Str × V)} : putF f v ((f, x) :: r) = (f, v) :: r := if_pos rfl
theorem put_past {f g : Str} {v x : V} {r : List (Str × V)} (h : ¬ g = f) : putF f v ((g, x) :: r) = (g, x) :: putF f v r := if_neg h
def eF (s : Uw23.Seam) : List (Str × V) := [("upper", natV s.up), ("lower", natV s.low), ("most", natV s.most), ("beside", natV (if s.close = true then 1 else 0))]
theorem eF_upper (s : Uw23.Seam) : (eF s).lookup ("upper" : Str) = some (natV s.up) := lk_here
theorem eF_lower (s : Uw23.Seam) : (eF s).lookup ("lower" : Str) = some (natV s.low) := (lk_past (by decide +kernel)).trans lk_here
theorem eF_most (s : Uw23.Seam) : (eF s).lookup ("most" : Str) = some (natV s.most) := (lk_past (by decide +kernel)).trans ((lk_past (by decide +kernel)).trans lk_here)
theorem eF_beside (s : Uw23.Seam) : (eF s).lookup ("beside" : Str) = some (natV (if s.close = true then 1 else 0)) := (lk_past (by decide +kernel)).trans ((lk_past (by decide +kernel)).trans ((lk_past (by decide +kernel)).trans lk_here))
theorem eF_no (s : Uw23.Seam) {m : Str} (h1 : (m == "upper") = false) (h2 : (m == "lower") = false) (h3 : (m == "most") = false) (h4 : (m == "beside") = false) : (eF s).lookup m = none :=
  (lk_past h1).trans ((lk_past h2).trans ((lk_past h3).trans ((lk_past h4).trans rfl)))
theorem eF_new {u w' m c : Nat} (hc : c ≤ 1) : putF "beside" (natV c) (putF "most" (natV m) (putF "lower" (natV w') (putF "upper" (natV u) []))) = eF ⟨u, w', m, c == 1⟩ := by
  have e : (if (c == 1) = true then 1 else 0) = c := by
    have : c = 0 ∨ c = 1 := by omega
    rcases this with rfl | rfl <;> rfl
  have e1 : putF ("lower" : Str) (natV w') (putF "upper" (natV u) []) = ([("upper", natV u), ("lower", natV w')] : List (Str × V)) := (put_past (by decide +kernel)).trans rfl
  have e2 : putF ("most" : Str) (natV m) ([("upper", natV u), ("lower", natV w')] : List (Str × V)) = ([("upper", natV u), ("lower", natV w'), ("most", natV m)] : List (Str × V)) := (put_past (by decide +kernel)).trans (congrArg _ ((put_past (by decide +kernel)).trans rfl))
  have e3 : putF ("beside" : Str) (natV c) ([("upper", natV u), ("lower", natV w'), ("most", natV m)] : List (Str × V)) = ([("upper", natV u), ("lower", natV w'), ("most", natV m), ("beside", natV c)] : List (Str × V)) := (put_past (by decide +kernel)).trans (congrArg _ ((put_past (by decide +kernel)).trans (congrArg _ ((put_past (by decide +kernel)).trans rfl))))
  rw [e1, e2, e3]
  unfold eF
  rw [e]
theorem if_true_of {c : Bool} {A B : Prop} (hc : c = true) (h : A) : if c = true then A else B := by
  rw [if_pos hc]
  exact h
theorem if_false_of {c : Bool} {A B : Prop} (hc : c = false) (h : B) : if c = true then A else B := by
  rw [hc, if_neg Bool.false_ne_true]
  exact h
/-- edges lie at v -/
def EdgesV (C : Addr) (H : Hp) (v : V) (s : Uw23.Seam) : Prop := ∃ a dx, v = .ref a ∧ H a = some (.ins C dx (eF s))
theorem EdgesV.mono {C : Addr} {H H' : Hp} (e : Same H H') {v : V} {s : Uw23.Seam} : EdgesV C H v s → EdgesV C H' v s
  | ⟨a, dx, h, k⟩ => ⟨a, dx, h, e _ _ k⟩
/-- what the top has written of the class Edges -/
structure ETxt (K : PySem.W.Frag) (C : Addr) : Prop where
  cl : Cls K C
  nU : NoAttr K C "upper"
  nL : NoAttr K C "lower"
  nM : NoAttr K C "most"
  nB : NoAttr K C "beside"

section
variable {P : Program} {w : World} {K : PySem.W.Frag} {mg : Str → Option Value} {base : Heap} {C : Addr}
/-! ### Edges.__init__ -/
abbrev sEInit : Stmt := inClass (top 9) 0
def spEInit (C : Addr) : Sp := fun vs H Q _ => ∃ (p dx : Addr) (u w m c : Nat), vs = [.ref p, natV u, natV w, natV m, natV c] ∧ c ≤ 1 ∧ H p = some (.ins C dx []) ∧
  ∀ H' : Hp, EdgesV C H' (.ref p) ⟨u, w, m, c == 1⟩ → (∀ b o, H b = some o → b ≠ p → H' b = some o) → Q .non H'
theorem scEInit : FnScope ["self", "upper", "lower", "most", "beside"] ["self", "upper", "lower", "most", "beside"] (defScope sEInit) := ⟨rfl, rfl, rfl, by decide +kernel, rfl, by decide +kernel, by decide +kernel⟩
theorem ok_eInit {f : Addr} {fd : FuncData} (F : Fun K "__init__" "Edges.__init__" sEInit f fd) (T : ETxt K C) : FnOk P w K mg base CX0 1 f fd ["self", "upper", "lower", "most", "beside"] (spEInit C) := by
  refine F.ok scEInit (fun vs H Q E h => ?_) (fun cdv A outer s H vs Q E hr h => ?_)
  · obtain ⟨p, dx, u, w', m, c, rfl, _⟩ := h
    rfl
  · obtain ⟨p, dx, u, w', m, c, rfl, hc, hp, k⟩ := h
    refine ⟨_, pss_cons (ps_fld (pv 0) (pv 1) rfl) (pss_cons (ps_fld (pv 0) (pv 2) rfl) (pss_cons (ps_fld (pv 0) (pv 3) rfl) (pss_one (ps_fld (pv 0) (pv 4) rfl)))), ?_⟩
    refine ⟨_, rfl, _, rfl, p, C, dx, [], rfl, hp, T.cl, T.nU, (by show 0 < 1000; decide), ?_⟩
    refine ⟨_, rfl, _, rfl, p, C, dx, _, rfl, upd_same, T.cl, T.nL, (by show 1 < 1000; decide), ?_⟩
    refine ⟨_, rfl, _, rfl, p, C, dx, _, rfl, upd_same, T.cl, T.nM, ?_, ?_⟩
    · exact Nat.lt_of_le_of_lt (length_putF _ _ _) (by show 1 + 1 < 1000; decide)
    refine ⟨_, rfl, _, rfl, p, C, dx, _, rfl, upd_same, T.cl, T.nB, ?_, ?_⟩
    · exact Nat.lt_of_le_of_lt (length_putF _ _ _) (Nat.lt_of_le_of_lt (Nat.succ_le_succ (length_putF _ _ _)) (by show 1 + 1 + 1 < 1000; decide))
    refine k _ ⟨p, dx, rfl, Eq.trans upd_same (congrArg (fun q => some (HO.ins C dx q)) (eF_new hc))⟩ fun b o e hb => ?_
    rw [upd_ne hb, upd_ne hb, upd_ne hb, upd_ne hb]
    exact e

/-! ### longest, shortest -/
abbrev sLongest : Stmt := inClass (top 9) 1
abbrev sShortest : Stmt := inClass (top 9) 2
def spLongest (C : Addr) : Sp := fun vs H Q _ => ∃ (v : V) (s : Uw23.Seam), vs = [v] ∧ EdgesV C H v s ∧ Q (natV (max s.up s.low)) H
def spShortest (C : Addr) : Sp := fun vs H Q _ => ∃ (v : V) (s : Uw23.Seam), vs = [v] ∧ EdgesV C H v s ∧ Q (natV (min s.up s.low)) H
theorem scLongest : FnScope ["self"] ["self"] (defScope sLongest) := ⟨rfl, rfl, rfl, by decide +kernel, rfl, by decide +kernel, by decide +kernel⟩
theorem scShortest : FnScope ["self"] ["self"] (defScope sShortest) := ⟨rfl, rfl, rfl, by decide +kernel, rfl, by decide +kernel, by decide +kernel⟩
theorem ok_longest {f : Addr} {fd : FuncData} (F : Fun K "longest" "Edges.longest" sLongest f fd) (T : ETxt K C) (B : Blt mg) : FnOk P w K mg base CX0 1 f fd ["self"] (spLongest C) := by
  refine F.ok scLongest (fun vs H Q E h => ?_) (fun cdv A outer s H vs Q E hr h => ?_)
  · obtain ⟨v, s, rfl, _⟩ := h
    rfl
  · obtain ⟨v, s, rfl, ⟨a, dx, rfl, ha⟩, q⟩ := h
    refine ⟨_, pss_one (ps_ret (pe_callB (call_max2 rfl) (by rfl) B.max (by decide +kernel) (pa_cons (pe_fld (pv 0) rfl) (pa_cons (pe_fld (pv 0) rfl) pa_nil)))), ?_⟩
    refine ⟨_, rfl, a, C, dx, _, _, rfl, ha, T.cl, T.nU, eF_upper s, _, rfl, a, C, dx, _, _, rfl, ha, T.cl, T.nL, eF_lower s, _, _, rfl, ?_⟩
    have e : (if ((s.low : Nat) : Int) > ((s.up : Nat) : Int) then ((s.low : Nat) : Int) else ((s.up : Nat) : Int)) = ((max s.up s.low : Nat) : Int) := by
      split <;> omega
    show Q (V.int (if ((s.low : Nat) : Int) > ((s.up : Nat) : Int) then ((s.low : Nat) : Int) else ((s.up : Nat) : Int))) H
    rw [e]
    exact q
theorem ok_shortest {f : Addr} {fd : FuncData} (F : Fun K "shortest" "Edges.shortest" sShortest f fd) (T : ETxt K C) (B : Blt mg) : FnOk P w K mg base CX0 1 f fd ["self"] (spShortest C) := by
  refine F.ok scShortest (fun vs H Q E h => ?_) (fun cdv A outer s H vs Q E hr h => ?_)
  · obtain ⟨v, s, rfl, _⟩ := h
    rfl
  · obtain ⟨v, s, rfl, ⟨a, dx, rfl, ha⟩, q⟩ := h
    refine ⟨_, pss_one (ps_ret (pe_callB (call_min2 rfl) (by rfl) B.min (by decide +kernel) (pa_cons (pe_fld (pv 0) rfl) (pa_cons (pe_fld (pv 0) rfl) pa_nil)))), ?_⟩
    refine ⟨_, rfl, a, C, dx, _, _, rfl, ha, T.cl, T.nU, eF_upper s, _, rfl, a, C, dx, _, _, rfl, ha, T.cl, T.nL, eF_lower s, _, _, rfl, ?_⟩
    have e : (if ((s.low : Nat) : Int) < ((s.up : Nat) : Int) then ((s.low : Nat) : Int) else ((s.up : Nat) : Int)) = ((min s.up s.low : Nat) : Int) := by
      split <;> omega
    show Q (V.int (if ((s.low : Nat) : Int) < ((s.up : Nat) : Int) then ((s.low : Nat) : Int) else ((s.up : Nat) : Int))) H
    rw [e]
    exact q

/-! ### is_all, has_room -/
abbrev sIsAll : Stmt := inClass (top 9) 3
def spIsAll (K : PySem.W.Frag) (C : Addr) : Sp := fun vs H Q _ => ∃ (v t : V) (s : Uw23.Seam) (x y : Nat), vs = [v, t] ∧ EdgesV C H v s ∧ TkV K H t x y ∧ ∀ H', Same H H' → Q (.bl (decide (x = s.up) && decide (y = s.low))) H'
theorem scIsAll : FnScope ["self", "taken"] ["self", "taken"] (defScope sIsAll) := ⟨rfl, rfl, rfl, by decide +kernel, rfl, by decide +kernel, by decide +kernel⟩
theorem ok_isAll {f : Addr} {fd : FuncData} (F : Fun K "is_all" "Edges.is_all" sIsAll f fd) (T : ETxt K C) : FnOk P w K mg base CX0 1 f fd ["self", "taken"] (spIsAll K C) := by
  refine F.ok scIsAll (fun vs H Q E h => ?_) (fun cdv A outer s H vs Q E hr h => ?_)
  · obtain ⟨v, t, s, x, y, rfl, _⟩ := h
    rfl
  · obtain ⟨v, t, s, x, y, rfl, ⟨a, dx, rfl, ha⟩, ⟨t, rfl, ht⟩, q⟩ := h
    refine ⟨_, pss_one (ps_ret (pe_cmpR (op_eqD hr.units) (pv 1) (pe_tup (pa_cons (pe_fld (pv 0) rfl) (pa_cons (pe_fld (pv 0) rfl) pa_nil))) (nomark _))), ?_⟩
    refine ⟨_, rfl, _, rfl, a, C, dx, _, _, rfl, ha, T.cl, T.nU, eF_upper s, _, rfl, a, C, dx, _, _, rfl, ha, T.cl, T.nL, eF_lower s, (by show 2 ≤ sizeLine; decide), fun p hp => ?_⟩
    refine ⟨.tuple [.int x, .int y], .tuple [.int s.up, .int s.low], .tup (Same.seqT (Same.new hp) ht) (.cons (.int _) (.cons (.int _) .nil)), .tup (SqT.of upd_same) (.cons (.int _) (.cons (.int _) .nil)), rfl, rfl, ?_⟩
    have e : PyData.eqv (.tuple [.int x, .int y]) (.tuple [.int s.up, .int s.low]) = (decide (x = s.up) && decide (y = s.low)) := by
      show (((x : Nat) : Int) == ((s.up : Nat) : Int) && (((y : Nat) : Int) == ((s.low : Nat) : Int) && true)) = _
      rw [Bool.eq_iff_iff]
      simp
      omega
    rw [e]
    exact q _ (Same.new hp)
abbrev sHasRoom : Stmt := inClass (top 9) 4
def spHasRoom (K : PySem.W.Frag) (C : Addr) : Sp := fun vs H Q _ => ∃ (v t : V) (s : Uw23.Seam) (x y : Nat), vs = [v, t] ∧ EdgesV C H v s ∧ TkV K H t x y ∧ Q (.bl (decide (x ≤ s.up) && decide (y ≤ s.low))) H
theorem scHasRoom : FnScope ["self", "taken"] ["self", "taken"] (defScope sHasRoom) := ⟨rfl, rfl, rfl, by decide +kernel, rfl, by decide +kernel, by decide +kernel⟩
theorem ok_hasRoom {f : Addr} {fd : FuncData} (F : Fun K "has_room" "Edges.has_room" sHasRoom f fd) (T : ETxt K C) : FnOk P w K mg base CX0 1 f fd ["self", "taken"] (spHasRoom K C) := by
  refine F.ok scHasRoom (fun vs H Q E h => ?_) (fun cdv A outer s H vs Q E hr h => ?_)
  · obtain ⟨v, t, s, x, y, rfl, _⟩ := h
    rfl
  · obtain ⟨v, t, s, x, y, rfl, ⟨a, dx, rfl, ha⟩, ⟨t, rfl, ht⟩, q⟩ := h
    refine ⟨_, pss_one (ps_ret (pe_and (pe_cmpR op_le (pe_ix ix_tup (pv 1) pe_int (fun _ _ => rfl)) (pe_fld (pv 0) rfl) (nomark _))
      (pe_one (pe_cmpR op_le (pe_ix ix_tup (pv 1) pe_int (fun _ _ => rfl)) (pe_fld (pv 0) rfl) (nomark _))))), ?_⟩
    refine ⟨_, rfl, t, _, _, _, rfl, rfl, ht, at_of (j := 0) rfl rfl, _, rfl, a, C, dx, _, _, rfl, ha, T.cl, T.nU, eF_upper s, _, _, rfl, rfl, _, rfl, ?_⟩
    have e1 : decide (((x : Nat) : Int) ≤ ((s.up : Nat) : Int)) = decide (x ≤ s.up) := decide_eq_decide.mpr (by omega)
    have e2 : decide (((y : Nat) : Int) ≤ ((s.low : Nat) : Int)) = decide (y ≤ s.low) := decide_eq_decide.mpr (by omega)
    show if decide (((x : Nat) : Int) ≤ ((s.up : Nat) : Int)) = true then _ else _
    rw [e1]
    by_cases c : x ≤ s.up
    · rw [decide_eq_true c] at q ⊢
      refine iteT ?_
      refine ⟨_, rfl, t, _, _, _, rfl, rfl, ht, at_of (j := 1) rfl rfl, _, rfl, a, C, dx, _, _, rfl, ha, T.cl, T.nL, eF_lower s, _, _, rfl, rfl, ?_⟩
      show Q (V.bl (decide (((y : Nat) : Int) ≤ ((s.low : Nat) : Int)))) H
      rw [e2]
      exact q
    · rw [decide_eq_false c] at q ⊢
      exact iteF q

/-! ### may_stand -/
abbrev sMayStand : Stmt := inClass (top 9) 5
def spMayStand (C : Addr) : Sp := fun vs H Q _ => ∃ (v a b : V) (s : Uw23.Seam) (k o : Knot), vs = [v, a, b] ∧ EdgesV C H v s ∧ KnotV H a k ∧ KnotV H b o ∧ Q (.bl (mayStand s (Uw23.heavy k) (Uw23.heavy o))) H
theorem scMayStand : FnScope ["self", "knot", "other"] ["self", "knot", "other"] (defScope sMayStand) := ⟨rfl, rfl, rfl, by decide +kernel, rfl, by decide +kernel, by decide +kernel⟩
theorem ok_mayStand {f : Addr} {fd : FuncData} (F : Fun K "may_stand" "Edges.may_stand" sMayStand f fd) (T : ETxt K C) (hH : Has P w K mg base 1 "is_heavy" ["knot"] spIsHeavy) : FnOk P w K mg base CX0 2 f fd ["self", "knot", "other"] (spMayStand C) := by
  obtain ⟨fh, fdh, mgh, kph, bh, Gh⟩ := hH
  refine F.ok scMayStand (fun vs H Q E h => ?_) (fun cdv A outer s H vs Q E hr h => ?_)
  · obtain ⟨v, a, b, s, k, o, rfl, _⟩ := h
    rfl
  · obtain ⟨v, a, b, s, k, o, rfl, ⟨e, dx, rfl, he⟩, ⟨t1, rfl, h1⟩, ⟨t2, rfl, h2⟩, q⟩ := h
    refine ⟨_, pss_one (ps_ret (pe_or (pe_cmpR op_eq (pe_fld (pv 0) rfl) pe_int (nomark _)) (pe_or (pe_not (pe_call Gh hr (by rfl) mgh kph bh .nil pass0 (pa_cons (pv 1) pa_nil)))
      (pe_one (pe_not (pe_call Gh hr (by rfl) mgh kph bh .nil pass0 (pa_cons (pv 2) pa_nil))))))), ?_⟩
    refine ⟨_, rfl, e, C, dx, _, _, rfl, he, T.cl, T.nB, eF_beside s, rfl, _, rfl, ?_⟩
    unfold mayStand at q
    cases hc : s.close with
    | true =>
      refine iteT ?_
      rw [hc] at q
      exact q
    | false =>
      refine iteF ?_
      rw [hc] at q
      refine ⟨_, rfl, t1, k, rfl, h1, _, rfl, _, rfl, ?_⟩
      cases hk : Uw23.heavy k with
      | false =>
        refine iteT ?_
        rw [hk] at q
        exact q
      | true =>
        refine iteF ?_
        rw [hk] at q
        exact ⟨_, rfl, t2, o, rfl, h2, _, rfl, q⟩

/-! ### apart -/
abbrev sApart : Stmt := inClass (top 9) 6
def apartI (s : Uw23.Seam) (x y : Nat) : Int := if (x : Int) * (s.low : Nat) - (y : Int) * (s.up : Nat) < 0 then -((x : Int) * (s.low : Nat) - (y : Int) * (s.up : Nat)) else (x : Int) * (s.low : Nat) - (y : Int) * (s.up : Nat)
def spApart (K : PySem.W.Frag) (C : Addr) : Sp := fun vs H Q _ => ∃ (v t : V) (s : Uw23.Seam) (x y : Nat), vs = [v, t] ∧ EdgesV C H v s ∧ Good s ∧ TkV K H t x y ∧ Q (.int (apartI s x y)) H
theorem scApart : FnScope ["self", "taken"] ["self", "taken"] (defScope sApart) := ⟨rfl, rfl, rfl, by decide +kernel, rfl, by decide +kernel, by decide +kernel⟩
theorem cmul_right {i : Int} {n : Nat} (h : n ≤ 8) : CMul i (n : Int) := .inr ⟨by omega, by omega⟩
theorem ok_apart {f : Addr} {fd : FuncData} (F : Fun K "apart" "Edges.apart" sApart f fd) (T : ETxt K C) (B : Blt mg) : FnOk P w K mg base CX0 1 f fd ["self", "taken"] (spApart K C) := by
  refine F.ok scApart (fun vs H Q E h => ?_) (fun cdv A outer s H vs Q E hr h => ?_)
  · obtain ⟨v, t, s, x, y, rfl, _⟩ := h
    rfl
  · obtain ⟨v, t, s, x, y, rfl, ⟨a, dx, rfl, ha⟩, g, ⟨t, rfl, ht⟩, q⟩ := h
    refine ⟨_, pss_one (ps_ret (pe_callB call_abs (by rfl) B.abs (by decide +kernel) (pa_cons (pe_op op_sub (pe_op op_mul (pe_ix ix_tup (pv 1) pe_int (fun _ _ => rfl)) (pe_fld (pv 0) rfl))
      (pe_op op_mul (pe_ix ix_tup (pv 1) pe_int (fun _ _ => rfl)) (pe_fld (pv 0) rfl))) pa_nil))), ?_⟩
    refine ⟨_, rfl, t, _, _, _, rfl, rfl, ht, at_of (j := 0) rfl rfl, _, rfl, a, C, dx, _, _, rfl, ha, T.cl, T.nL, eF_lower s, _, _, rfl, rfl, cmul_right g.low, ?_⟩
    refine ⟨_, rfl, t, _, _, _, rfl, rfl, ht, at_of (j := 1) rfl rfl, _, rfl, a, C, dx, _, _, rfl, ha, T.cl, T.nU, eF_upper s, _, _, rfl, rfl, cmul_right g.up, ?_⟩
    exact ⟨_, _, rfl, rfl, _, rfl, q⟩

/-! ### fewest -/
abbrev sFewest : Stmt := inClass (top 9) 7
def spFewest (C : Addr) : Sp := fun vs H Q _ => ∃ (v : V) (s : Uw23.Seam), vs = [v] ∧ EdgesV C H v s ∧ Good s ∧ Q (natV s.bound) H
theorem scFewest : FnScope ["self"] ["self"] (defScope sFewest) := ⟨rfl, rfl, rfl, by decide +kernel, rfl, by decide +kernel, by decide +kernel⟩
theorem ok_fewest {f : Addr} {fd : FuncData} (F : Fun K "fewest" "Edges.fewest" sFewest f fd) (T : ETxt K C) (hL : HasM P w K mg base C 1 "longest" ["self"] (spLongest C)) : FnOk P w K mg base CX0 2 f fd ["self"] (spFewest C) := by
  obtain ⟨fl, fdl, ml, bl, Gl⟩ := hL
  refine F.ok scFewest (fun vs H Q E h => ?_) (fun cdv A outer s H vs Q E hr h => ?_)
  · obtain ⟨v, s, rfl, _⟩ := h
    rfl
  · obtain ⟨v, s, rfl, ⟨a, dx, rfl, ha⟩, g, q⟩ := h
    refine ⟨_, pss_one (ps_ret (pe_op op_fdiv (pe_op op_sub (pe_op op_add (pe_meth0 (pv 0) T.cl ml Gl hr bl .nil pass0) (pe_fld (pv 0) rfl)) pe_int) (pe_fld (pv 0) rfl))), ?_⟩
    refine ⟨_, rfl, a, dx, _, rfl, ha, eF_no s (by decide +kernel) (by decide +kernel) (by decide +kernel) (by decide +kernel), _, s, rfl, ⟨a, dx, rfl, ha⟩, ?_⟩
    refine ⟨_, rfl, a, C, dx, _, _, rfl, ha, T.cl, T.nM, eF_most s, _, _, rfl, rfl, _, _, rfl, rfl, _, rfl, a, C, dx, _, _, rfl, ha, T.cl, T.nM, eF_most s, _, _, rfl, rfl, ?_, ?_⟩
    · have h1 := g.m1
      have h4 := g.m4
      exact ⟨by omega, by omega⟩
    · have e : (((max s.up s.low : Nat) : Int) + ((s.most : Nat) : Int) - 1) / ((s.most : Nat) : Int) = ((s.bound : Nat) : Int) := by
        unfold Uw23.Seam.bound
        rw [Int.natCast_ediv]
        congr 1
        have h1 := g.m1
        omega
      show Q (V.int ((((max s.up s.low : Nat) : Int) + ((s.most : Nat) : Int) - 1) / ((s.most : Nat) : Int))) H
      rw [e]
      exact q

/-! ### are_edges -/
abbrev sAreEdges : Stmt := top 10
def badE (u w m c : Nat) : Prop := 8 < u ∨ 8 < w ∨ m < 1 ∨ 4 < m ∨ 1 < c
instance (u w m c : Nat) : Decidable (badE u w m c) := by
  unfold badE
  infer_instance
def spAreEdges : Sp := fun vs H Q _ => ∃ (u w m c : Nat), vs = [natV u, natV w, natV m, natV c] ∧ ∀ H', Same H H' → Q (.bl (!decide (badE u w m c))) H'
theorem scAreEdges : FnScope ["upper", "lower", "most", "beside"] ["upper", "lower", "most", "beside"] (defScope sAreEdges) := ⟨rfl, rfl, rfl, by decide +kernel, rfl, by decide +kernel, by decide +kernel⟩
theorem ok_areEdges {f : Addr} {fd : FuncData} {t1 t2 : Tok} (F : Fun K "are_edges" "are_edges" sAreEdges f fd) (c1 : mg "MOST_MESHES" = some (.int 8 t1)) (c2 : mg "MOST_TAKEN" = some (.int 4 t2)) : FnOk P w K mg base CX0 1 f fd ["upper", "lower", "most", "beside"] spAreEdges := by
  refine F.ok scAreEdges (fun vs H Q E h => ?_) (fun cdv A outer s H vs Q E hr h => ?_)
  · obtain ⟨u, w', m, c, rfl, _⟩ := h
    rfl
  · obtain ⟨u, w', m, c, rfl, q⟩ := h
    refine ⟨_, pss_cons (ps_if (PW.pt (pw_or (pt_cmpR op_gt (pv 0) (pe_glob (v := .int 8) rfl c1 ⟨_, rfl⟩) (nomark _)) (pw_or (pt_cmpR op_gt (pv 1) (pe_glob (v := .int 8) rfl c1 ⟨_, rfl⟩) (nomark _))
        (pw_or (pt_cmpR op_lt (pv 0) pe_int (nomark _)) (pw_or1 (pt_cmpR op_lt (pv 1) pe_int (nomark _))))))) (pss_one (ps_ret pe_bl)) pss_nil)
      (pss_one (ps_ret (pe_and (pe_chain op_le op_le pe_int (pv 2) (pe_glob (v := .int 4) rfl c2 ⟨_, rfl⟩)) (pe_one (pe_cmpR op_in_seq (pv 3) (pe_tup (pa_cons pe_int (pa_cons pe_int pa_nil))) rfl))))), ?_⟩
    refine ⟨_, rfl, _, _, rfl, rfl, _, rfl, ?_⟩
    have done : badE u w' m c → Q (.bl false) H := fun b => by
      have z := q H (Same.refl H)
      rw [decide_eq_true b] at z
      exact z
    by_cases c1 : 8 < u
    · refine if_true_of (decide_eq_true (by omega)) ?_
      exact iteT (done (.inl c1))
    refine if_false_of (decide_eq_false (by omega)) ?_
    refine ⟨_, rfl, _, _, rfl, rfl, _, rfl, ?_⟩
    by_cases c2 : 8 < w'
    · refine if_true_of (decide_eq_true (by omega)) ?_
      exact iteT (done (.inr (.inl c2)))
    refine if_false_of (decide_eq_false (by omega)) ?_
    refine ⟨_, rfl, _, _, rfl, rfl, _, rfl, ?_⟩
    refine if_false_of (decide_eq_false (by omega)) ?_
    refine ⟨_, rfl, _, _, rfl, rfl, _, rfl, ?_⟩
    refine if_false_of (decide_eq_false (by omega)) ?_
    refine ⟨_, rfl, _, _, rfl, rfl, _, rfl, ?_⟩
    by_cases c3 : m < 1
    · refine if_false_of (decide_eq_false (by omega)) ?_
      exact ⟨_, rfl, iteF (done (.inr (.inr (.inl c3))))⟩
    refine if_true_of (decide_eq_true (by omega)) ?_
    refine ⟨_, _, rfl, rfl, _, rfl, ?_⟩
    by_cases c4 : 4 < m
    · refine if_false_of (decide_eq_false (by omega)) ?_
      exact done (.inr (.inr (.inr (.inl c4))))
    refine if_true_of (decide_eq_true (by omega)) ?_
    refine ⟨_, rfl, (by show 2 ≤ sizeLine; decide), fun p hp => ?_⟩
    refine ⟨p, _, rfl, .inr (SqT.of upd_same), rfl, rfl, ?_⟩
    have e : inV (natV c) [.int 0, .int 1] = !decide (badE u w' m c) := by
      show (((0 : Int) == ((c : Nat) : Int)) || (((1 : Int) == ((c : Nat) : Int)) || false)) = _
      unfold badE
      rw [Bool.eq_iff_iff]
      simp
      omega
    show Q (.bl (inV (natV c) [.int 0, .int 1])) _
    rw [e]
    exact q _ (Same.new hp)
end
end Lace

set_option Elab.async false
set_option maxRecDepth 100000
set_option maxHeartbeats 2000000
/-! lacings.py, the first defs: with_knot, taken_by, uneven, first_crowded, may_follow. -/
namespace Lace
open PySem PySem.Spec PyProof.Rows L2
section
variable {P : Program} {w : World} {K : PySem.W.Frag} {mg : Str → Option Value} {base : Heap} {C : Addr}
/-! ### with_knot -/
abbrev sWith : Stmt := top 13
def spWith (K : PySem.W.Frag) : Sp := fun vs H Q _ => ∃ (v k : V) (x y a b : Nat), vs = [v, k] ∧ TkV K H v x y ∧ TkV K H k a b ∧ ∀ H' r, Same H H' → TkV K H' r (x + a) (y + b) → Q r H'
theorem scWith : FnScope ["taken", "knot"] ["taken", "knot"] (defScope sWith) := ⟨rfl, rfl, rfl, by decide +kernel, rfl, by decide +kernel, by decide +kernel⟩
theorem ok_with {f : Addr} {fd : FuncData} (F : Fun K "with_knot" "with_knot" sWith f fd) : FnOk P w K mg base CX0 1 f fd ["taken", "knot"] (spWith K) := by
  refine F.ok scWith (fun vs H Q E h => ?_) (fun cdv A outer s H vs Q E hr h => ?_)
  · obtain ⟨v, k, x, y, a, b, rfl, _⟩ := h
    rfl
  · obtain ⟨v, k, x, y, a, b, rfl, ⟨t, rfl, ht⟩, ⟨u, rfl, hu⟩, q⟩ := h
    refine ⟨_, pss_one (ps_ret (pe_tup (pa_cons (pe_op op_add (pe_ix ix_tup (pv 0) pe_int (fun _ _ => rfl)) (pe_ix ix_tup (pv 1) pe_int (fun _ _ => rfl)))
      (pa_cons (pe_op op_add (pe_ix ix_tup (pv 0) pe_int (fun _ _ => rfl)) (pe_ix ix_tup (pv 1) pe_int (fun _ _ => rfl))) pa_nil)))), ?_⟩
    refine ⟨_, rfl, t, _, _, _, rfl, rfl, ht, at_of (j := 0) rfl rfl, _, rfl, u, _, _, _, rfl, rfl, hu, at_of (j := 0) rfl rfl, _, _, rfl, rfl, ?_⟩
    refine ⟨_, rfl, t, _, _, _, rfl, rfl, ht, at_of (j := 1) rfl rfl, _, rfl, u, _, _, _, rfl, rfl, hu, at_of (j := 1) rfl rfl, _, _, rfl, rfl, ?_⟩
    refine ⟨(by show 2 ≤ sizeLine; decide), fun p hp => ?_⟩
    refine q _ _ (Same.new hp) ⟨p, rfl, SqT.of ?_⟩
    rw [upd_same, Int.natCast_add, Int.natCast_add]

/-! ### taken_by -/
abbrev sTaken : Stmt := top 14
def spTaken (K : PySem.W.Frag) : Sp := fun vs H Q _ => ∃ (v : V) (l : Lacing), vs = [v] ∧ LacV H v l ∧ ∀ H' r, Same H H' → TkV K H' r (Uw23.ups l) (Uw23.lows l) → Q r H'
theorem scTaken : FnScope ["lacing", "found", "knot"] ["lacing"] (defScope sTaken) := ⟨rfl, rfl, rfl, by decide +kernel, rfl, by decide +kernel, by decide +kernel⟩
/-- the module's NOTHING -/
def Noth (K : PySem.W.Frag) (mg : Str → Option Value) : Prop := ∃ a, mg "NOTHING" = some (.ref a) ∧ ∀ H, SqT K H a [.int 0, .int 0]
theorem ok_taken {f : Addr} {fd : FuncData} (F : Fun K "taken_by" "taken_by" sTaken f fd) (hN : Noth K mg) (hW : Has P w K mg base 1 "with_knot" ["taken", "knot"] (spWith K)) : FnOk P w K mg base CX0 2 f fd ["lacing"] (spTaken K) := by
  obtain ⟨fw, fdw, mgw, kpw, bw, Gw⟩ := hW
  obtain ⟨z, mgz, hz⟩ := hN
  refine F.ok scTaken (fun vs H Q E h => ?_) (fun cdv A outer s H vs Q E hr h => ?_)
  · obtain ⟨v, l, rfl, _⟩ := h
    rfl
  · obtain ⟨v, l, rfl, ⟨a, vs, rfl, ha, hR⟩, q⟩ := h
    refine ⟨_, pss_cons (ps_set (i := 1) scTaken.nd rfl (.inl rfl) (pe_glob (v := .ref z) rfl mgz rfl))
      (pss_cons (ps_for PassesOwn.never rfl (pi_list (pv 0)) (pg_name (i := 2) scTaken.nd rfl (.inl rfl))
        (pss_one (ps_set (i := 1) scTaken.nd rfl (.inl rfl) (pe_call Gw hr (by rfl) mgw kpw bw .nil pass0 (pa_cons (pv 1) (pa_cons (pv 2) pa_nil))))))
      (pss_one (ps_ret (pv 1)))), ?_⟩
    refine ⟨_, rfl, a, rfl, ⟨_, SqL.of ha⟩, for_list (K := K) (a := a) (xs := vs) (fun i σ H' => ∃ r x, σ = [some (.ref a), some r, x] ∧ Same H H' ∧ TkV K H' r (Uw23.ups (l.take i)) (Uw23.lows (l.take i))) ?_ ?_ ?_ ?_⟩
    · exact ⟨.ref z, none, rfl, Same.refl H, z, rfl, hz H⟩
    · rintro i σ H1 _ ⟨r, x, rfl, s1, hT⟩
      exact SqL.of (s1 _ _ ha)
    · rintro i v σ H1 hi ⟨r, x, rfl, s1, hT⟩
      obtain ⟨k, hk, hkv⟩ := hR.get hi
      refine ⟨_, rfl, _, rfl, r, v, _, _, _, _, rfl, hT, (hkv.mono s1).tk K, fun H2 r2 s2 hT2 => ?_⟩
      refine ⟨r2, _, rfl, s1.trans s2, ?_⟩
      rw [take_get hk, ups_snoc, lows_snoc]
      exact hT2
    · rintro σ H1 ⟨r, x, rfl, s1, hT⟩
      rw [List.take_of_length_le (by rw [hR.length]; exact Nat.le_refl _)] at hT
      exact ⟨_, rfl, q _ _ s1 hT⟩

/-! ### uneven -/
abbrev sUneven : Stmt := top 15
def spUneven (C : Addr) : Sp := fun vs H Q _ => ∃ (e v : V) (s : Uw23.Seam) (l : Lacing), vs = [e, v] ∧ EdgesV C H e s ∧ Good s ∧ LacV H v l ∧ ∀ H', Same H H' → Q (natV (s.uneven l)) H'
theorem scUneven : FnScope ["edges", "lacing", "found", "taken", "knot"] ["edges", "lacing"] (defScope sUneven) := ⟨rfl, rfl, rfl, by decide +kernel, rfl, by decide +kernel, by decide +kernel⟩
theorem ok_uneven {f : Addr} {fd : FuncData} (F : Fun K "uneven" "uneven" sUneven f fd) (T : ETxt K C) (B : Blt mg) (hN : Noth K mg) (hW : Has P w K mg base 1 "with_knot" ["taken", "knot"] (spWith K)) (hA : HasM P w K mg base C 1 "apart" ["self", "taken"] (spApart K C)) :
    FnOk P w K mg base CX0 2 f fd ["edges", "lacing"] (spUneven C) := by
  obtain ⟨fw, fdw, mgw, kpw, bw, Gw⟩ := hW
  obtain ⟨fa, fda, ma, ba, Ga⟩ := hA
  obtain ⟨z, mgz, hz⟩ := hN
  refine F.ok scUneven (fun vs H Q E h => ?_) (fun cdv A outer s H vs Q E hr h => ?_)
  · obtain ⟨e, v, s, l, rfl, _⟩ := h
    rfl
  · obtain ⟨e, v, s, l, rfl, ⟨ea, dx, rfl, he⟩, g, ⟨a, vs, rfl, ha, hR⟩, q⟩ := h
    refine ⟨_, pss_cons (ps_set (i := 2) scUneven.nd rfl (.inl rfl) pe_int) (pss_cons (ps_set (i := 3) scUneven.nd rfl (.inl rfl) (pe_glob (v := .ref z) rfl mgz rfl))
      (pss_cons (ps_for PassesOwn.never rfl (pi_list (pv 1)) (pg_name (i := 4) scUneven.nd rfl (.inl rfl))
        (pss_cons (ps_set (i := 3) scUneven.nd rfl (.inl rfl) (pe_call Gw hr (by rfl) mgw kpw bw .nil pass0 (pa_cons (pv 3) (pa_cons (pv 4) pa_nil))))
          (pss_one (ps_set (i := 2) scUneven.nd rfl (.inl rfl) (pe_callB (call_max2 rfl) (by rfl) B.max (by decide +kernel) (pa_cons (pv 2) (pa_cons (pe_meth (pv 0) T.cl ma Ga hr ba .nil pass0 (pa_cons (pv 3) pa_nil)) pa_nil)))))))
      (pss_one (ps_ret (pv 2))))), ?_⟩
    refine ⟨_, rfl, a, rfl, ⟨_, SqL.of ha⟩, for_list (K := K) (a := a) (xs := vs) (fun i σ H' => ∃ r x, σ = [some (.ref ea), some (.ref a), some (natV (unevenTo s l i)), some r, x] ∧ Same H H' ∧ TkV K H' r (Uw23.ups (l.take i)) (Uw23.lows (l.take i))) ?_ ?_ ?_ ?_⟩
    · refine ⟨.ref z, none, ?_, Same.refl H, z, rfl, hz H⟩
      rw [unevenTo_zero]
      rfl
    · rintro i σ H1 _ ⟨r, x, rfl, s1, hT⟩
      exact SqL.of (s1 _ _ ha)
    · rintro i v σ H1 hi ⟨r, x, rfl, s1, hT⟩
      obtain ⟨k, hk, hkv⟩ := hR.get hi
      refine ⟨_, rfl, _, rfl, r, v, _, _, _, _, rfl, hT, (hkv.mono s1).tk K, fun H2 r2 s2 hT2 => ?_⟩
      have s12 := s1.trans s2
      refine ⟨_, rfl, _, rfl, ea, dx, _, rfl, s12 _ _ he, eF_no s (by decide +kernel) (by decide +kernel) (by decide +kernel) (by decide +kernel), _, rfl, .ref ea, r2, s, _, _, rfl, ⟨ea, dx, rfl, s12 _ _ he⟩, g, hT2, ?_⟩
      refine ⟨_, _, rfl, r2, some v, ?_, s12, ?_⟩
      · have e1 : apartI s (Uw23.ups (l.take i) + k.up) (Uw23.lows (l.take i) + k.low) = ((s.ahead l (i + 1) : Nat) : Int) := by
          rw [← ahead_int s l (i + 1), take_get hk, ups_snoc, lows_snoc]
          rfl
        rw [e1, unevenTo_succ]
        have e2 : (if ((s.ahead l (i + 1) : Nat) : Int) > ((unevenTo s l i : Nat) : Int) then ((s.ahead l (i + 1) : Nat) : Int) else ((unevenTo s l i : Nat) : Int)) = ((max (unevenTo s l i) (s.ahead l (i + 1)) : Nat) : Int) := by
          split <;> omega
        rw [e2]
        rfl
      · rw [take_get hk, ups_snoc, lows_snoc]
        exact hT2
    · rintro σ H1 ⟨r, x, rfl, s1, hT⟩
      rw [hR.length, ← unevenTo_all]
      exact ⟨_, rfl, q _ s1⟩

/-! ### first_crowded -/
abbrev sCrowded : Stmt := top 16
def optV : Option Nat → V
  | none => .non
  | some i => natV i
def crowdedAt (s : Uw23.Seam) (l : Lacing) : Option Nat := if s.close = true then none else Uw23.beside l
def spCrowded (C : Addr) : Sp := fun vs H Q _ => ∃ (e v : V) (s : Uw23.Seam) (l : Lacing), vs = [e, v] ∧ EdgesV C H e s ∧ LacV H v l ∧ l.length ≤ 1000 ∧ Q (optV (crowdedAt s l)) H
theorem scCrowded : FnScope ["edges", "lacing", "k"] ["edges", "lacing"] (defScope sCrowded) := ⟨rfl, rfl, rfl, by decide +kernel, rfl, by decide +kernel, by decide +kernel⟩
theorem getD_of {l : Lacing} {i : Nat} {k : Knot} (h : l[i]? = some k) : l.getD i ⟨0, 0⟩ = k := by
  rw [List.getD_eq_getElem?_getD, h]
  rfl
theorem ok_crowded {f : Addr} {fd : FuncData} (F : Fun K "first_crowded" "first_crowded" sCrowded f fd) (T : ETxt K C) (B : Blt mg) (hS : HasM P w K mg base C 2 "may_stand" ["self", "knot", "other"] (spMayStand C)) :
    FnOk P w K mg base CX0 3 f fd ["edges", "lacing"] (spCrowded C) := by
  obtain ⟨fm, fdm, mm, bm, Gm⟩ := hS
  refine F.ok scCrowded (fun vs H Q E h => ?_) (fun cdv A outer s H vs Q E hr h => ?_)
  · obtain ⟨e, v, s, l, rfl, _⟩ := h
    rfl
  · obtain ⟨e, v, s, l, rfl, ⟨ea, dx, rfl, he⟩, ⟨a, vs, rfl, ha, hR⟩, hl, q⟩ := h
    refine ⟨_, pss_cons (ps_for PassesOwn.never rfl (pi_range2 (by rfl) B.range (pa_cons pe_int (pa_cons (pe_callB call_len_seq (by rfl) B.len PySem.boot_len (pa_cons (pv 1) pa_nil)) pa_nil))) (pg_name (i := 2) scCrowded.nd rfl (.inl rfl))
        (pss_one (ps_if (pt_not (pt_val (pe_meth (pv 0) T.cl mm Gm hr bm .nil pass0 (pa_cons (pe_ix ix_list (pv 1) (pv 2) (fun _ _ => rfl)) (pa_cons (pe_ix ix_list (pv 1) (pe_op op_sub (pv 2) pe_int) (fun _ _ => rfl)) pa_nil)))))
          (pss_one (ps_ret (pe_op op_sub (pv 2) pe_int))) pss_nil)))
      (pss_one (ps_ret pe_non)), ?_⟩
    have hlen := hR.length
    refine ⟨_, rfl, a, _, rfl, .inl (SqL.of ha), _, _, rfl, ⟨by decide, by decide, by omega, by omega⟩, ?_⟩
    refine for_range (fun i σ H' => ∃ x, σ = [some (.ref ea), some (.ref a), x] ∧ H' = H ∧ ∀ j, j < i → s.close = true ∨ crowd l j = false) ?_ ?_ ?_
    · exact ⟨none, rfl, rfl, fun j hj => absurd hj (Nat.not_lt_zero _)⟩
    · rintro i σ H1 hi ⟨x, rfl, rfl, hJ⟩
      have hi1 : i + 1 < vs.length := by omega
      have g1 : vs[i + 1]? = some vs[i + 1] := List.getElem?_eq_getElem hi1
      have g0 : vs[i]? = some vs[i] := List.getElem?_eq_getElem (by omega)
      obtain ⟨k1, hk1, hv1⟩ := hR.get g1
      obtain ⟨k0, hk0, hv0⟩ := hR.get g0
      refine ⟨_, rfl, ea, dx, _, rfl, he, eF_no s (by decide +kernel) (by decide +kernel) (by decide +kernel) (by decide +kernel), ?_⟩
      refine ⟨_, rfl, _, rfl, a, _, _, _, rfl, rfl, SqL.of ha, at_of (by omega) g1, _, rfl, _, rfl, _, _, rfl, rfl, a, _, _, _, rfl, rfl, SqL.of ha, at_of (by omega) g0, ?_⟩
      refine ⟨_, _, _, s, k1, k0, rfl, ⟨ea, dx, rfl, he⟩, hv1, hv0, _, rfl, ?_⟩
      have ec : crowd l i = (Uw23.heavy k0 && Uw23.heavy k1) := by
        unfold crowd
        rw [getD_of hk0, getD_of hk1]
      cases hm : mayStand s (Uw23.heavy k1) (Uw23.heavy k0) with
      | true =>
        refine iteF ?_
        refine ⟨_, rfl, rfl, fun j hj => ?_⟩
        rcases Nat.lt_or_ge j i with c | c
        · exact hJ j c
        · have : j = i := by omega
          subst this
          rw [ec]
          unfold mayStand at hm
          revert hm
          cases s.close <;> cases Uw23.heavy k1 <;> cases Uw23.heavy k0 <;> simp
      | false =>
        refine iteT ?_
        have hc : s.close = false ∧ crowd l i = true := by
          rw [ec]
          unfold mayStand at hm
          revert hm
          cases s.close <;> cases Uw23.heavy k1 <;> cases Uw23.heavy k0 <;> simp
        refine ⟨_, rfl, _, _, rfl, rfl, ?_⟩
        have e1 : crowdedAt s l = some i := by
          unfold crowdedAt
          rw [hc.1, if_neg Bool.false_ne_true]
          refine beside_some (by omega) (fun j hj => ?_) hc.2
          rcases hJ j hj with z | z
          · rw [hc.1] at z
            cases z
          · exact z
        rw [e1] at q
        have e2 : (1 + (i : Int) - 1) = (i : Int) := by omega
        show Q (V.int (1 + (i : Int) - 1)) _
        rw [e2]
        exact q
    · rintro σ H1 ⟨x, rfl, rfl, hJ⟩
      have e1 : crowdedAt s l = none := by
        unfold crowdedAt
        cases hc : s.close with
        | true => rfl
        | false =>
          rw [if_neg Bool.false_ne_true]
          refine beside_none fun j hj => ?_
          rcases hJ j (by omega) with z | z
          · rw [hc] at z
            cases z
          · exact z
      rw [e1] at q
      exact q

/-! ### may_follow -/
theorem dp_knots {H : Hp} : ∀ {vs : List V} {l : Lacing}, Rep KnotV H vs l → DpAll K H vs (l.map knotD)
  | [], [], _ => .nil
  | _ :: _, _ :: _, ⟨⟨_, rfl, ht⟩, h⟩ => .cons (.tup (SqT.of ht) (.cons (.int _) (.cons (.int _) .nil))) (dp_knots h)
  | [], _ :: _, h => h.elim
  | _ :: _, [], h => h.elim
def lacD (l : Lacing) : PyData := .list (l.map knotD)
theorem can_knots : ∀ l : Lacing, PyData.canLayAll0 (l.map knotD) = true
  | [] => rfl
  | k :: l => by
    show (PyData.canLay0 (knotD k) && PyData.canLayAll0 (l.map knotD)) = true
    rw [can_knots l]
    rfl
theorem depth_knots : ∀ l : Lacing, PyData.depthAll (l.map knotD) ≤ 1
  | [] => Nat.zero_le _
  | k :: l => by
    show max (PyData.depth (knotD k)) (PyData.depthAll (l.map knotD)) ≤ 1
    have h1 := depth_knots l
    have h2 : PyData.depth (knotD k) = 1 := rfl
    omega
theorem shaped_lac (l : Lacing) : SeqAt.shaped (lacD l) = true := by
  show (PyData.canLayAll0 (l.map knotD) && decide (PyData.depthAll (l.map knotD) + 1 ≤ 64)) = true
  rw [can_knots, decide_eq_true (by have := depth_knots l; omega)]
  rfl
theorem eqv_nil_lac (l : Lacing) : PyData.eqv (lacD l) (.list []) = l.isEmpty := by
  cases l <;> rfl
abbrev sMayFollow : Stmt := top 17
def spMayFollow (C : Addr) : Sp := fun vs H Q _ => ∃ (e v kv : V) (s : Uw23.Seam) (l : Lacing) (k : Knot), vs = [e, v, kv] ∧ EdgesV C H e s ∧ LacV H v l ∧ KnotV H kv k ∧ ∀ H', Same H H' → Q (.bl (follows s l k)) H'
theorem scMayFollow : FnScope ["edges", "lacing", "knot"] ["edges", "lacing", "knot"] (defScope sMayFollow) := ⟨rfl, rfl, rfl, by decide +kernel, rfl, by decide +kernel, by decide +kernel⟩
theorem ok_mayFollow {f : Addr} {fd : FuncData} (F : Fun K "may_follow" "may_follow" sMayFollow f fd) (T : ETxt K C) (hS : HasM P w K mg base C 2 "may_stand" ["self", "knot", "other"] (spMayStand C)) (hRm : HasM P w K mg base C 1 "has_room" ["self", "taken"] (spHasRoom K C))
    (hW : Has P w K mg base 1 "with_knot" ["taken", "knot"] (spWith K)) (hT : Has P w K mg base 2 "taken_by" ["lacing"] (spTaken K)) : FnOk P w K mg base CX0 3 f fd ["edges", "lacing", "knot"] (spMayFollow C) := by
  obtain ⟨fm, fdm, mm, bm, Gm⟩ := hS
  obtain ⟨fr, fdr, mr, br, Gr⟩ := hRm
  obtain ⟨fw, fdw, mgw, kpw, bw, Gw⟩ := hW
  obtain ⟨ft, fdt, mgt, kpt, bt, Gt⟩ := hT
  refine F.ok scMayFollow (fun vs H Q E h => ?_) (fun cdv A outer s H vs Q E hr h => ?_)
  · obtain ⟨e, v, kv, s, l, k, rfl, _⟩ := h
    rfl
  · obtain ⟨e, v, kv, s, l, k, rfl, ⟨ea, dx, rfl, he⟩, ⟨a, vs, rfl, ha, hR⟩, hk, q⟩ := h
    have hr1 : Room 1 _ := hr.mono (by decide)
    refine ⟨_, pss_cons (ps_if (PW.pt (pw_and (pt_cmpR (op_neD hr.units) (pv 1) (pe_lst pa_nil) (nomark _))
        (pw_and1 (pt_not (pt_val (pe_meth (pv 0) T.cl mm Gm hr bm .nil pass0 (pa_cons (pv 2) (pa_cons (pe_ix ix_list (pv 1) (pe_un un_neg pe_int) (fun _ _ => rfl)) pa_nil))))))))
        (pss_one (ps_ret pe_bl)) pss_nil)
      (pss_one (ps_ret (pe_meth (pv 0) T.cl mr Gr hr1 br .nil pass0 (pa_cons (pe_call Gw hr1 (by rfl) mgw kpw bw .nil pass0 (pa_cons (pe_call Gt hr (by rfl) mgt kpt bt .nil pass0 (pa_cons (pv 1) pa_nil)) (pa_cons (pv 2) pa_nil))) pa_nil)))), ?_⟩
    -- the rest, from any heap behind the test
    have fin : ∀ H1, Same H H1 → mayStand s (Uw23.heavy k) (lastHeavy l) = true → (tRet (tMeth C "has_room" (spHasRoom K C) [] E0 (tVar 0) (tCons (tCall (spWith K) [] E0 (tCons (tCall (spTaken K) [] E0 (tCons (tVar 1) tNil)) (tCons (tVar 2) tNil))) tNil)))
        { nx := fun _ H' => Q .non H', rt := Q } [some (.ref ea), some (.ref a), some kv] H1 := fun H1 s1 hm => by
      refine ⟨_, rfl, ea, dx, _, rfl, s1 _ _ he, eF_no s (by decide +kernel) (by decide +kernel) (by decide +kernel) (by decide +kernel), ?_⟩
      refine ⟨_, rfl, .ref a, l, rfl, ⟨a, vs, rfl, s1 _ _ ha, knots_mono s1 hR⟩, fun H2 r s2 hT2 => ?_⟩
      refine ⟨_, rfl, r, kv, _, _, _, _, rfl, hT2, ((hk.mono s1).mono s2).tk K, fun H3 r3 s3 hT3 => ?_⟩
      have s13 := (s1.trans s2).trans s3
      refine ⟨.ref ea, r3, s, _, _, rfl, ⟨ea, dx, rfl, s13 _ _ he⟩, hT3, ?_⟩
      have z := q H3 s13
      unfold follows at z
      rw [hm] at z
      exact z
    refine ⟨_, rfl, Nat.zero_le _, fun p hp => ?_⟩
    have s1 : Same H (upd H p (.lst [])) := Same.new hp
    refine ⟨lacD l, .list [], .lst (SqL.of (s1 _ _ ha)) (dp_knots (knots_mono s1 hR)), .lst (SqL.of upd_same) .nil, shaped_lac l, rfl, _, rfl, ?_⟩
    rw [eqv_nil_lac]
    cases hl : l.getLast? with
    | none =>
      have e : l = [] := List.getLast?_eq_none_iff.mp hl
      subst e
      refine if_false_of rfl (iteF ?_)
      refine fin _ s1 ?_
      unfold mayStand lastHeavy
      simp
    | some o =>
      obtain ⟨l', rfl⟩ := List.getLast?_eq_some_iff.mp hl
      have hlen := hR.length
      rw [List.length_append, List.length_singleton] at hlen
      have gl : vs[l'.length]? = some vs[l'.length] := List.getElem?_eq_getElem (by omega)
      obtain ⟨o', ho', hov⟩ := hR.get gl
      have eo : o' = o := by
        rw [List.getElem?_append_right (Nat.le_refl _), Nat.sub_self] at ho'
        exact (Option.some.inj ho').symm
      subst eo
      refine if_true_of (by simp) ?_
      refine ⟨_, rfl, ea, dx, _, rfl, s1 _ _ he, eF_no s (by decide +kernel) (by decide +kernel) (by decide +kernel) (by decide +kernel), ?_⟩
      have hix : atI vs (-1) = some vs[l'.length] := by
        unfold atI ixN
        rw [if_neg (by decide), if_pos (by omega)]
        have : ((-1 : Int) + (vs.length : Int)).toNat = l'.length := by omega
        rw [this]
        exact gl
      refine ⟨_, rfl, _, rfl, _, rfl, a, _, _, _, rfl, rfl, SqL.of (s1 _ _ ha), hix, ?_⟩
      refine ⟨_, _, _, s, k, o', rfl, ⟨ea, dx, rfl, s1 _ _ he⟩, hk.mono s1, hov.mono s1, _, rfl, ?_⟩
      cases hm : mayStand s (Uw23.heavy k) (Uw23.heavy o') with
      | true =>
        refine iteF ?_
        refine fin _ s1 ?_
        rw [lastHeavy_snoc]
        exact hm
      | false =>
        refine iteT ?_
        have z := q _ s1
        unfold follows at z
        rw [lastHeavy_snoc, hm] at z
        exact z
end
end Lace

set_option Elab.async false
set_option maxRecDepth 100000
set_option maxHeartbeats 2000000
/-! lacings.py, further: one_longer, fewest_right, least_uneven. -/
namespace Lace
open PySem PySem.Spec PyProof.Rows L2
theorem Rep.imp {α : Type} {R R' : Hp → V → α → Prop} {H H' : Hp} (m : ∀ v x, R H v x → R' H' v x) : ∀ {vs : List V} {xs : List α}, Rep R H vs xs → Rep R' H' vs xs
  | [], [], _ => trivial
  | _ :: _, _ :: _, h => ⟨m _ _ h.1, Rep.imp m h.2⟩
  | [], _ :: _, h => h.elim
  | _ :: _, [], h => h.elim
/-- a lacing that lies at none of some addresses -/
def LacA (ds : List Addr) (H : Hp) (v : V) (l : Lacing) : Prop := ∃ a vs, v = .ref a ∧ a ∉ ds ∧ H a = some (.lst vs) ∧ Rep KnotV H vs l
section
variable {H H' : Hp} {ds ds' : List Addr} {v : V} {l : Lacing}
theorem LacA.mono (s : Same H H') : LacA ds H v l → LacA ds H' v l
  | ⟨a, vs, e, n, h, r⟩ => ⟨a, vs, e, n, s _ _ h, knots_mono s r⟩
theorem LacA.wr {D : Addr} {acc : List V} {o : HO} (hD : H D = some (.lst acc)) (hm : D ∈ ds) : LacA ds H v l → LacA ds (upd H D o) v l
  | ⟨a, vs, e, n, h, r⟩ => ⟨a, vs, e, n, (upd_ne (fun z : a = D => n (by rw [z]; exact hm))).trans h, knots_wr hD r⟩
theorem LacA.sub (hs : ∀ d ∈ ds', d ∈ ds) : LacA ds H v l → LacA ds' H v l
  | ⟨a, vs, e, n, h, r⟩ => ⟨a, vs, e, fun z => n (hs a z), h, r⟩
theorem LacA.lac : LacA ds H v l → LacV H v l
  | ⟨a, vs, e, _, h, r⟩ => ⟨a, vs, e, h, r⟩
end
theorem take_filter {α : Type} {p : α → Bool} {l : List α} {i : Nat} {x : α} (h : l[i]? = some x) : (l.take (i + 1)).filter p = (l.take i).filter p ++ (if p x = true then [x] else []) := by
  rw [take_get h, List.filter_append]
  congr 1
  cases e : p x
  · rw [List.filter_cons_of_neg (by rw [e]; exact Bool.false_ne_true)]
    rfl
  · rw [List.filter_cons_of_pos e]
    rfl
theorem take_flatMap_le {α β : Type} (f : α → List β) (l : List α) (i : Nat) : ((l.take i).flatMap f).length ≤ (l.flatMap f).length := by
  have e : l.flatMap f = (l.take i).flatMap f ++ (l.drop i).flatMap f := by
    rw [← List.flatMap_append, List.take_append_drop]
  rw [e, List.length_append]
  exact Nat.le_add_right _ _
section
variable {P : Program} {w : World} {K : PySem.W.Frag} {mg : Str → Option Value} {base : Heap} {C : Addr}
/-! ### one_longer -/
abbrev sLonger : Stmt := top 18
def spLonger (C : Addr) : Sp := fun vs H Q _ => ∃ (e v : V) (s : Uw23.Seam) (ls : List Lacing), vs = [e, v] ∧ EdgesV C H e s ∧ Good s ∧ LacsV H v ls ∧ (∀ l ∈ ls, l.length ≤ 1000) ∧ (longer s ls).length ≤ sizeLine ∧ ∀ H' r, Same H H' → LacsV H' r (longer s ls) → Q r H'
theorem scLonger : FnScope ["edges", "lacings", "found", "lacing", "knot"] ["edges", "lacings"] (defScope sLonger) := ⟨rfl, rfl, rfl, by decide +kernel, rfl, by decide +kernel, by decide +kernel⟩
theorem ok_longer {f : Addr} {fd : FuncData} (F : Fun K "one_longer" "one_longer" sLonger f fd) (T : ETxt K C) (hKn : Has P w K mg base 1 "knots_of" ["most"] spKnotsOf) (hF : Has P w K mg base 3 "may_follow" ["edges", "lacing", "knot"] (spMayFollow C)) :
    FnOk P w K mg base CX0 4 f fd ["edges", "lacings"] (spLonger C) := by
  obtain ⟨fk, fdk, mgk, kpk, bk, Gk⟩ := hKn
  obtain ⟨ff, fdf, mgf, kpf, bf, Gf⟩ := hF
  refine F.ok scLonger (fun vs H Q E h => ?_) (fun cdv A outer s H vs Q E hr h => ?_)
  · obtain ⟨e, v, s, ls, rfl, _⟩ := h
    rfl
  · obtain ⟨e, v, s, ls, rfl, ⟨ea, dx, rfl, he⟩, g, ⟨a, vs, rfl, ha, hR⟩, hl, hz, q⟩ := h
    have hr1 : Room 1 _ := hr.mono (by decide)
    refine ⟨_, pss_cons (ps_set (i := 2) scLonger.nd rfl (.inl rfl) (pe_lst pa_nil))
      (pss_cons (ps_for PassesOwn.never rfl (pi_list (pv 1)) (pg_name (i := 3) scLonger.nd rfl (.inr rfl))
        (pss_one (ps_expr (pe_bm PySem.F.plainAttrs_list PySem.F.slot_list_extend PySem.F.type_list_extend mt_extend (pv 2) (pa_cons
          (pe_lc (own := [("knot", 4)]) (g := gName 4) (tt := tB (tCall (spMayFollow C) [] E0 (tCons (tVar 0) (tCons (tVar 3) (tCons (tVar 4) tNil))))) (te := tOp rCat (tVar 3) (tLst (tCons (tVar 4) tNil))) rfl scLonger.nd
            (pi_list (pe_call Gk hr1 (by rfl) mgk kpk bk .nil pass0 (pa_cons (pe_fld (pv 0) rfl) pa_nil)))
            (blkOk_by (own := [("knot", 4)]) (N := ["edges", "lacings", "found", "lacing", "knot"]) (sc := defScope sLonger) (by decide +kernel))
            (fun _ _ _ _ _ => pg_name (i := 4) scLonger.nd rfl (Or.inl rfl))
            (fun _ _ _ _ _ => pts_one (pt_val (pe_call Gf hr (by rfl) mgf kpf bf .nil pass0 (pa_cons (pv 0) (pa_cons (pv 3) (pa_cons (pv 4) pa_nil))))))
            (fun _ _ _ _ _ => pe_op op_cat (pv 3) (pe_lst (pa_cons (pv 4) pa_nil)))) pa_nil)))))
      (pss_one (ps_ret (pv 2)))), ?_⟩
    refine ⟨Nat.zero_le _, fun Fd hFd => ?_⟩
    have s0 : Same H (upd H Fd (.lst [])) := Same.new hFd
    refine ⟨_, rfl, a, rfl, ⟨_, SqL.of (s0 _ _ ha)⟩, for_list (K := K) (a := a) (xs := vs) (fun i σ H' => ∃ x, σ = [some (.ref ea), some (.ref a), some (.ref Fd), x, none] ∧ Same H H' ∧ ∃ acc, H' Fd = some (.lst acc) ∧ Rep (LacA [Fd]) H' acc ((ls.take i).flatMap (stepL s))) ?_ ?_ ?_ ?_⟩
    · exact ⟨none, rfl, s0, [], upd_same, trivial⟩
    · rintro i σ H1 _ ⟨x, rfl, s1, _⟩
      exact SqL.of (s1 _ _ ha)
    · rintro i v σ H1 hi ⟨x, rfl, s1, acc, hA, hRa⟩
      obtain ⟨l, hli, lv, lvs, rfl, hlv, hlR⟩ := hR.get hi
      have hl1 := hl l (List.mem_of_getElem? hli)
      have hlen := hlR.length
      refine ⟨_, rfl, .inl ⟨rfl, _, SqL.of hA⟩, ?_⟩
      refine ⟨_, rfl, ea, C, dx, _, _, rfl, s1 _ _ he, T.cl, T.nM, eF_most s, s.most, rfl, g.m4, fun H2 r s2 hk => ?_⟩
      obtain ⟨ka, kvs, rfl, hka, hkR⟩ := hk
      refine ⟨ka, rfl, ⟨_, SqL.of hka⟩, fun D hD => ?_⟩
      have s12 := s1.trans s2
      have hFd2 : H2 Fd = some (.lst acc) := s2 _ _ hA
      have nDF : Fd ≠ D := ne_of_none hFd2 hD
      refine lc_list (K := K) (a := ka) (xs := kvs) (fun j H' => Same H2 H' ∧ ∃ bcc, H' D = some (.lst bcc) ∧ Rep (LacA [D, Fd]) H' bcc ((((knotsL s.most).take j).filter (follows s l)).map fun k => l ++ [k])) ?_ ?_ ?_ ?_
      · exact ⟨Same.new hD, [], upd_same, trivial⟩
      · rintro j H3 _ ⟨s3, _⟩
        exact SqL.of (s3 _ _ hka)
      · rintro j kv H3 hj ⟨s3, bcc, hB, hRb⟩
        obtain ⟨k, hkj, hkv⟩ := hkR.get hj
        have s13 := s12.trans s3
        refine ⟨rfl, ?_⟩
        refine ⟨_, rfl, _, rfl, _, rfl, _, _, _, s, l, k, rfl, ⟨ea, dx, rfl, s13 _ _ he⟩, ⟨lv, lvs, rfl, s13 _ _ hlv, knots_mono s13 hlR⟩, hkv.mono s3, fun H4 s4 => ⟨_, rfl, ?_⟩⟩
        have s34 := s3.trans s4
        have s14 := s13.trans s4
        have hB4 : H4 D = some (.lst bcc) := s4 _ _ hB
        cases hf : follows s l k with
        | false =>
          refine iteF ⟨s34, bcc, hB4, ?_⟩
          rw [take_filter hkj, hf, if_neg Bool.false_ne_true, List.append_nil]
          exact hRb.mono fun _ _ => LacA.mono s4
        | true =>
          refine iteT ?_
          refine ⟨_, rfl, _, rfl, (by show 1 ≤ sizeLine; decide), fun p hp => ?_⟩
          have s5 : Same H4 (upd H4 p (.lst [kv])) := Same.new hp
          refine ⟨lv, p, lvs, [kv], rfl, rfl, s5 _ _ (s14 _ _ hlv), upd_same, ?_, fun p2 hp2 => ?_⟩
          · show lvs.length + 1 ≤ sizeLine
            exact Nat.le_of_lt (small_of 2000 (by omega))
          have s6 : Same (upd H4 p (.lst [kv])) (upd (upd H4 p (.lst [kv])) p2 (.lst (lvs ++ [kv]))) := Same.new hp2
          have s46 := s5.trans s6
          have hB6 := s46 _ _ hB4
          have n1 : p2 ≠ D := fun z => by
            have := s5 _ _ hB4
            rw [← z, hp2] at this
            cases this
          have n2 : p2 ≠ Fd := fun z => by
            have := s5 _ _ (s34 _ _ hFd2)
            rw [← z, hp2] at this
            cases this
          refine ⟨bcc, hB6, ?_, Same.over (s34.trans s46) hD, _, upd_same, ?_⟩
          · refine small_of 10 ?_
            rw [hRb.length, List.length_map]
            refine Nat.le_trans (List.length_filter_le _ _) ?_
            rw [List.length_take]
            have := knotsL_length g.m4
            omega
          · rw [take_filter hkj, hf, if_pos rfl, List.map_append]
            refine Rep.append (hRb.mono fun _ _ x => ?_) ⟨?_, trivial⟩
            · exact LacA.wr hB6 (List.mem_cons_self) (LacA.mono s46 (LacA.mono s4 x))
            · refine LacA.wr hB6 (List.mem_cons_self) ⟨p2, lvs ++ [kv], rfl, ?_, upd_same, ?_⟩
              · intro z
                rcases List.mem_cons.mp z with z | z
                · exact n1 z
                · rcases List.mem_cons.mp z with z | z
                  · exact n2 z
                  · cases z
              · exact Rep.snoc (knots_mono (s14.trans s46) hlR) (KnotV.mono (s34.trans s46) hkv)
      · rintro H3 ⟨s3, bcc, hB, hRb⟩
        rw [List.take_of_length_le (by rw [hkR.length]; exact Nat.le_refl _)] at hRb
        have hRb : Rep (LacA [D, Fd]) H3 bcc (stepL s l) := hRb
        have hA3 : H3 Fd = some (.lst acc) := s3 _ _ hFd2
        have et : (ls.take (i + 1)).flatMap (stepL s) = (ls.take i).flatMap (stepL s) ++ stepL s l := by
          rw [take_get hli, List.flatMap_append]
          congr 1
          rw [List.flatMap_cons]
          exact List.append_nil _
        refine ⟨Fd, D, acc, bcc, rfl, rfl, hA3, hB, ?_, _, rfl, ?_, _, upd_same, ?_⟩
        · rw [hRa.length, hRb.length, ← List.length_append, ← et]
          exact Nat.le_trans (take_flatMap_le _ _ _) hz
        · exact Same.over (s12.trans s3) hFd
        · rw [et]
          refine Rep.append (Rep.imp (fun _ _ x => ?_) hRa) (Rep.imp (fun _ _ x => ?_) hRb)
          · exact LacA.wr hA3 List.mem_cons_self (LacA.mono (s2.trans s3) x)
          · exact LacA.wr hA3 List.mem_cons_self (LacA.sub (fun d hd => List.mem_cons_of_mem _ hd) x)
    · rintro σ H1 ⟨x, rfl, s1, acc, hA, hRa⟩
      rw [List.take_of_length_le (by rw [hR.length]; exact Nat.le_refl _)] at hRa
      exact ⟨_, rfl, q _ _ s1 ⟨Fd, acc, rfl, hA, Rep.imp (fun _ _ => LacA.lac) hRa⟩⟩

/-! ### fewest_right -/
def lacsD (ls : List Lacing) : PyData := .list (ls.map lacD)
theorem dp_lacs {H : Hp} : ∀ {vs : List V} {ls : List Lacing}, Rep LacV H vs ls → DpAll K H vs (ls.map lacD)
  | [], [], _ => .nil
  | _ :: _, _ :: _, ⟨⟨_, _, rfl, ha, hr⟩, h⟩ => .cons (.lst (SqL.of ha) (dp_knots hr)) (dp_lacs h)
  | [], _ :: _, h => h.elim
  | _ :: _, [], h => h.elim
theorem can_lacs : ∀ ls : List Lacing, PyData.canLayAll0 (ls.map lacD) = true
  | [] => rfl
  | l :: ls => by
    show (PyData.canLayAll0 (l.map knotD) && PyData.canLayAll0 (ls.map lacD)) = true
    rw [can_lacs ls, can_knots]
    rfl
theorem depth_lacs : ∀ ls : List Lacing, PyData.depthAll (ls.map lacD) ≤ 2
  | [] => Nat.zero_le _
  | l :: ls => by
    show max (PyData.depthAll (l.map knotD) + 1) (PyData.depthAll (ls.map lacD)) ≤ 2
    have h1 := depth_lacs ls
    have h2 := depth_knots l
    omega
theorem shaped_lacs (ls : List Lacing) : SeqAt.shaped (lacsD ls) = true := by
  show (PyData.canLayAll0 (ls.map lacD) && decide (PyData.depthAll (ls.map lacD) + 1 ≤ 64)) = true
  rw [can_lacs, decide_eq_true (by have := depth_lacs ls; omega)]
  rfl
theorem eqv_nil_lacs (ls : List Lacing) : PyData.eqv (lacsD ls) (.list []) = ls.isEmpty := by
  cases ls <;> rfl
abbrev sFewestR : Stmt := top 19
def spFewestR (C : Addr) : Sp := fun vs H Q _ => ∃ (e : V) (s : Uw23.Seam), vs = [e] ∧ EdgesV C H e s ∧ Good s ∧ ∀ H' r ls, Same H H' → LacsV H' r ls → FR s ls → Q r H'
theorem scFewestR : FnScope ["edges", "some", "turn", "whole", "lacing"] ["edges"] (defScope sFewestR) := ⟨rfl, rfl, rfl, by decide +kernel, rfl, by decide +kernel, by decide +kernel⟩
theorem ok_fewestR {f : Addr} {fd : FuncData} (F : Fun K "fewest_right" "fewest_right" sFewestR f fd) (T : ETxt K C) (B : Blt mg) (hS : HasM P w K mg base C 1 "shortest" ["self"] (spShortest C)) (hI : HasM P w K mg base C 1 "is_all" ["self", "taken"] (spIsAll K C))
    (hT : Has P w K mg base 2 "taken_by" ["lacing"] (spTaken K)) (hL : Has P w K mg base 4 "one_longer" ["edges", "lacings"] (spLonger C)) : FnOk P w K mg base CX0 5 f fd ["edges"] (spFewestR C) := by
  obtain ⟨fs, fds, ms, bs, Gs⟩ := hS
  obtain ⟨fi, fdi, mi, bi, Gi⟩ := hI
  obtain ⟨ft, fdt, mgt, kpt, bt, Gt⟩ := hT
  obtain ⟨fl, fdl, mgl, kpl, bl, Gl⟩ := hL
  refine F.ok scFewestR (fun vs H Q E h => ?_) (fun cdv A outer s H vs Q E hr h => ?_)
  · obtain ⟨e, s, rfl, _⟩ := h
    rfl
  · obtain ⟨e, s, rfl, ⟨ea, dx, rfl, he⟩, g, q⟩ := h
    have hr1 : Room 1 _ := hr.mono (by decide)
    have hr2 : Room 2 _ := hr.mono (by decide)
    refine ⟨_, pss_cons (ps_set (i := 1) scFewestR.nd rfl (.inl rfl) (pe_lst (pa_cons (pe_lst pa_nil) pa_nil)))
      (pss_cons (ps_for PassesOwn.never rfl (pi_range1 (by rfl) B.range (pa_cons (pe_op op_add (pe_meth0 (pv 0) T.cl ms Gs hr1 bs .nil pass0) pe_int) pa_nil)) (pg_name (i := 2) scFewestR.nd rfl (.inl rfl))
        (pss_cons (ps_setLc (i := 3) (own := [("lacing", 4)]) (g := gName 4) (tt := tB (tMeth C "is_all" (spIsAll K C) [] E0 (tVar 0) (tCons (tCall (spTaken K) [] E0 (tCons (tVar 4) tNil)) tNil))) (te := tVar 4) rfl scFewestR.nd rfl rfl (sw_true rfl rfl rfl (by decide +kernel))
            (pi_list (pv 1))
            (blkOk_by (own := [("lacing", 4)]) (N := ["edges", "some", "turn", "whole", "lacing"]) (sc := defScope sFewestR) (by decide +kernel))
            (fun _ _ _ _ _ => pg_name (i := 4) scFewestR.nd rfl (Or.inl rfl))
            (fun _ _ _ _ _ => pts_one (pt_val (pe_meth (pv 0) T.cl mi Gi hr1 bi .nil pass0 (pa_cons (pe_call Gt hr2 (by rfl) mgt kpt bt .nil pass0 (pa_cons (pv 4) pa_nil)) pa_nil))))
            (fun _ _ _ _ _ => pv 4))
          (pss_cons (ps_if (pt_cmpR (op_neD hr.units) (pv 3) (pe_lst pa_nil) (nomark _)) (pss_one (ps_ret (pv 3))) pss_nil)
            (pss_one (ps_set (i := 1) scFewestR.nd rfl (.inl rfl) (pe_call Gl hr (by rfl) mgl kpl bl .nil pass0 (pa_cons (pv 0) (pa_cons (pv 1) pa_nil))))))))
      (pss_one (ps_ret (pe_lst pa_nil)))), ?_⟩
    refine ⟨Nat.zero_le _, fun p0 hp0 => ⟨(by show 1 ≤ sizeLine; decide), fun p1 hp1 => ?_⟩⟩
    have s0 : Same H (upd (upd H p0 (.lst [])) p1 (.lst [.ref p0])) := (Same.new hp0).trans (Same.new hp1)
    have n01 : p0 ≠ p1 := fun z => by
      rw [← z, upd_same] at hp1
      cases hp1
    refine ⟨_, rfl, ea, dx, _, rfl, s0 _ _ he, eF_no s (by decide +kernel) (by decide +kernel) (by decide +kernel) (by decide +kernel), _, s, rfl, ⟨ea, dx, rfl, s0 _ _ he⟩, ?_⟩
    refine ⟨_, _, rfl, rfl, _, rfl, (by omega), (by have := g.up; omega), ?_⟩
    have en : (((min s.up s.low : Nat) : Int) + 1).toNat = min s.up s.low + 1 := by omega
    refine for_range (lo := 0) (fun i σ H' => ∃ v t wv, σ = [some (.ref ea), some v, t, wv, none] ∧ Same H H' ∧ LacsV H' v (level s i) ∧ ∀ m, m < i → wholeN s m = []) ?_ ?_ ?_
    · refine ⟨.ref p1, none, none, rfl, s0, ⟨p1, [.ref p0], rfl, upd_same, ⟨p0, [], rfl, ?_, trivial⟩, trivial⟩, fun m hm => absurd hm (Nat.not_lt_zero _)⟩
      rw [upd_ne n01, upd_same]
    · rintro i σ H1 hi ⟨v, t, wv, rfl, s1, ⟨a, vs, rfl, ha, hR⟩, hJ⟩
      refine ⟨_, rfl, a, rfl, ⟨_, SqL.of ha⟩, fun D hD => ?_⟩
      refine lc_list (K := K) (a := a) (xs := vs) (fun j H' => Same H1 H' ∧ ∃ acc, H' D = some (.lst acc) ∧ Rep LacV H1 acc (((level s i).take j).filter (isAll s))) ?_ ?_ ?_ ?_
      · exact ⟨Same.new hD, [], upd_same, trivial⟩
      · rintro j H2 _ ⟨s2, _⟩
        exact SqL.of (s2 _ _ ha)
      · rintro j lv H2 hj ⟨s2, acc, hA, hRa⟩
        obtain ⟨l, hlj, hl⟩ := hR.get hj
        have s12 := s1.trans s2
        refine ⟨rfl, ?_⟩
        refine ⟨_, rfl, ea, dx, _, rfl, s12 _ _ he, eF_no s (by decide +kernel) (by decide +kernel) (by decide +kernel) (by decide +kernel), ?_⟩
        refine ⟨_, rfl, lv, l, rfl, hl.mono s2, fun H3 r s3 hT => ?_⟩
        have s13 := s12.trans s3
        refine ⟨_, _, s, _, _, rfl, ⟨ea, dx, rfl, s13 _ _ he⟩, hT, fun H4 s4 => ⟨_, rfl, ?_⟩⟩
        have s24 := (s2.trans s3).trans s4
        have hA4 := (s3.trans s4) _ _ hA
        have ei : (decide (Uw23.ups l = s.up) && decide (Uw23.lows l = s.low)) = isAll s l := rfl
        rw [ei]
        cases hc : isAll s l with
        | false =>
          refine iteF ⟨s24, acc, hA4, ?_⟩
          rw [take_filter hlj, hc, if_neg Bool.false_ne_true, List.append_nil]
          exact hRa
        | true =>
          refine iteT ⟨_, rfl, acc, hA4, ?_, Same.over s24 hD, _, upd_same, ?_⟩
          · refine small_of 5764801 ?_
            rw [hRa.length]
            refine Nat.le_trans (List.length_filter_le _ _) ?_
            rw [List.length_take]
            have := level_size g i
            omega
          · rw [take_filter hlj, hc, if_pos rfl]
            exact Rep.snoc hRa hl
      · rintro H2 ⟨s2, acc, hA, hRa⟩
        rw [List.take_of_length_le (by rw [hR.length]; exact Nat.le_refl _)] at hRa
        have hRa : Rep LacV H1 acc (wholeN s i) := hRa
        have s12 := s1.trans s2
        have hRa2 := lacs_mono s2 hRa
        refine ⟨_, rfl, Nat.zero_le _, fun p hp => ?_⟩
        have s3 : Same H2 (upd H2 p (.lst [])) := Same.new hp
        refine ⟨lacsD (wholeN s i), .list [], .lst (SqL.of (s3 _ _ hA)) (dp_lacs (lacs_mono s3 hRa2)), .lst (SqL.of upd_same) .nil, shaped_lacs _, rfl, _, rfl, ?_⟩
        rw [eqv_nil_lacs]
        cases hc : wholeN s i with
        | cons l0 r0 =>
          refine iteT ?_
          refine ⟨_, rfl, q _ _ (wholeN s i) (s12.trans s3) ⟨D, acc, rfl, s3 _ _ hA, lacs_mono s3 hRa2⟩ (.inr ⟨i, rfl, fun z => ?_, hJ⟩)⟩
          rw [hc] at z
          cases z
        | nil =>
          refine iteF ?_
          refine ⟨_, rfl, _, rfl, .ref ea, .ref a, s, level s i, rfl, ⟨ea, dx, rfl, (s12.trans s3) _ _ he⟩, g, ⟨a, vs, rfl, (s2.trans s3) _ _ ha, lacs_mono (s2.trans s3) hR⟩, fun l hl => ?_, ?_, fun H4 r s4 hL => ?_⟩
          · have := level_mem hl
            have := g.up
            omega
          · have := level_size g (i + 1)
            exact Nat.le_of_lt (small_of 5764801 this)
          · refine ⟨r, _, _, rfl, (s12.trans s3).trans s4, hL, fun m hm => ?_⟩
            rcases Nat.lt_or_ge m i with z | z
            · exact hJ m z
            · have : m = i := by omega
              subst this
              exact hc
    · rintro σ H1 ⟨v, t, wv, rfl, s1, _, hJ⟩
      refine ⟨Nat.zero_le _, fun p hp => ?_⟩
      refine q _ _ [] (s1.trans (Same.new hp)) ⟨p, [], rfl, upd_same, trivial⟩ (.inl ⟨rfl, fun n => ?_⟩)
      rcases Nat.lt_or_ge n (min s.up s.low + 1) with z | z
      · exact hJ n (by omega)
      · unfold wholeN
        rw [level_nil (by omega)]
        rfl

/-! ### least_uneven -/
theorem fr_size {s : Uw23.Seam} (g : Good s) {r : List Lacing} (h : FR s r) : r.length ≤ 5764801 := by
  rcases h with ⟨rfl, _⟩ | ⟨n, rfl, _⟩
  · exact Nat.zero_le _
  · exact Nat.le_trans (List.length_filter_le _ _) (level_size g n)
abbrev sLeast : Stmt := top 20
def spLeast (C : Addr) : Sp := fun vs H Q _ => ∃ (e v : V) (s : Uw23.Seam) (ls : List Lacing), vs = [e, v] ∧ EdgesV C H e s ∧ Good s ∧ LacsV H v ls ∧ ls ≠ [] ∧ ls.length ≤ 5764801 ∧
  ∀ H' t gd m, Same H H' → H' t = some (.tup [natV m, gd]) → LacsV H' gd (ls.filter fun l => decide (s.uneven l = m)) → (∃ l ∈ ls, s.uneven l = m) → (∀ l ∈ ls, m ≤ s.uneven l) → Q (.ref t) H'
theorem scLeast : FnScope ["edges", "lacings", "least", "lacing"] ["edges", "lacings"] (defScope sLeast) := ⟨rfl, rfl, rfl, by decide +kernel, rfl, by decide +kernel, by decide +kernel⟩
theorem ok_least {f : Addr} {fd : FuncData} (F : Fun K "least_uneven" "least_uneven" sLeast f fd) (B : Blt mg) (hU : Has P w K mg base 2 "uneven" ["edges", "lacing"] (spUneven C)) :
    FnOk P w K mg base CX0 3 f fd ["edges", "lacings"] (spLeast C) := by
  obtain ⟨fu, fdu, mgu, kpu, bu, Gu⟩ := hU
  refine F.ok scLeast (fun vs H Q E h => ?_) (fun cdv A outer s H vs Q E hr h => ?_)
  · obtain ⟨e, v, s, ls, rfl, _⟩ := h
    rfl
  · obtain ⟨e, v, s, ls, rfl, ⟨ea, dx, rfl, he⟩, g, ⟨a, vs, rfl, ha, hR⟩, hne, hz, q⟩ := h
    refine ⟨_, pss_cons (ps_set (i := 2) scLeast.nd rfl (.inr rfl) (pe_callB (cr_min rfl) (by rfl) B.min (by decide +kernel) (pa_cons
        (pe_lc (own := [("lacing", 3)]) (g := gName 3) (tt := tYes) (te := tCall (spUneven C) [] E0 (tCons (tVar 0) (tCons (tVar 3) tNil))) rfl scLeast.nd
          (pi_list (pv 1)) (blkOk_by (own := [("lacing", 3)]) (N := ["edges", "lacings", "least", "lacing"]) (sc := defScope sLeast) (by decide +kernel))
          (fun _ _ _ _ _ => pg_name (i := 3) scLeast.nd rfl (Or.inl rfl)) (fun _ _ _ _ _ => pts_nil)
          (fun _ _ _ _ _ => pe_call Gu hr (by rfl) mgu kpu bu .nil pass0 (pa_cons (pv 0) (pa_cons (pv 3) pa_nil)))) pa_nil)))
      (pss_one (ps_ret (pe_tup (pa_cons (pv 2) (pa_cons
        (pe_lc (own := [("lacing", 3)]) (g := gName 3) (tt := tTest (tOp rEq (tCall (spUneven C) [] E0 (tCons (tVar 0) (tCons (tVar 3) tNil))) (tVar 2))) (te := tVar 3) rfl scLeast.nd
          (pi_list (pv 1)) (blkOk_by (own := [("lacing", 3)]) (N := ["edges", "lacings", "least", "lacing"]) (sc := defScope sLeast) (by decide +kernel))
          (fun _ _ _ _ _ => pg_name (i := 3) scLeast.nd rfl (Or.inl rfl)) (fun _ _ _ _ _ => pts_one (pt_cmpR op_eq (pe_call Gu hr (by rfl) mgu kpu bu .nil pass0 (pa_cons (pv 0) (pa_cons (pv 3) pa_nil))) (pv 2) (nomark _)))
          (fun _ _ _ _ _ => pv 3)) pa_nil))))), ?_⟩
    refine ⟨_, rfl, a, rfl, ⟨_, SqL.of ha⟩, fun D hD => ?_⟩
    refine lc_list (K := K) (a := a) (xs := vs) (fun j H' => Same H H' ∧ H' D = some (.lst (((ls.take j).map fun l => ((s.uneven l : Nat) : Int)).map V.int))) ?_ ?_ ?_ ?_
    · exact ⟨Same.new hD, upd_same⟩
    · rintro j H1 _ ⟨s1, _⟩
      exact SqL.of (s1 _ _ ha)
    · rintro j lv H1 hj ⟨s1, hA⟩
      obtain ⟨l, hlj, hl⟩ := hR.get hj
      refine ⟨rfl, yes_ (iteT ?_)⟩
      refine ⟨_, rfl, _, rfl, _, _, s, l, rfl, ⟨ea, dx, rfl, s1 _ _ he⟩, g, hl.mono s1, fun H2 s2 => ?_⟩
      refine ⟨_, s2 _ _ hA, ?_, Same.over (s1.trans s2) hD, ?_⟩
      · refine small_of 5764801 ?_
        rw [List.length_map, List.length_map, List.length_take]
        omega
      · rw [upd_same, take_get hlj, List.map_append, List.map_append]
        rfl
    · rintro H1 ⟨s1, hA⟩
      rw [List.take_of_length_le (by rw [hR.length]; exact Nat.le_refl _)] at hA
      refine ⟨D, _, rfl, SqL.of hA, ?_, fun m hm hle => ?_⟩
      · rw [List.length_map]
        exact List.length_pos_iff.mpr hne
      obtain ⟨lm, hlm, rfl⟩ := List.mem_map.mp hm
      have hmin : ∀ l ∈ ls, s.uneven lm ≤ s.uneven l := fun l hl => by
        have := hle _ (List.mem_map_of_mem (f := fun l => ((s.uneven l : Nat) : Int)) hl)
        omega
      refine ⟨_, rfl, _, rfl, a, rfl, ⟨_, SqL.of (s1 _ _ ha)⟩, fun G hG => ?_⟩
      refine lc_list (K := K) (a := a) (xs := vs) (fun j H' => Same H1 H' ∧ ∃ acc, H' G = some (.lst acc) ∧ Rep LacV H1 acc ((ls.take j).filter fun l => decide (s.uneven l = s.uneven lm))) ?_ ?_ ?_ ?_
      · exact ⟨Same.new hG, [], upd_same, trivial⟩
      · rintro j H2 _ ⟨s2, _⟩
        exact SqL.of ((s1.trans s2) _ _ ha)
      · rintro j lv H2 hj ⟨s2, acc, hAc, hRa⟩
        obtain ⟨l, hlj, hl⟩ := hR.get hj
        have s12 := s1.trans s2
        refine ⟨rfl, ?_⟩
        refine ⟨_, rfl, _, rfl, _, _, s, l, rfl, ⟨ea, dx, rfl, s12 _ _ he⟩, g, hl.mono s12, fun H3 s3 => ?_⟩
        refine ⟨_, rfl, rfl, _, rfl, ?_⟩
        have ed : decide (natV (s.uneven l) = V.int ((s.uneven lm : Nat) : Int)) = decide (s.uneven l = s.uneven lm) := by
          refine decide_eq_decide.mpr ⟨fun z => ?_, fun z => by rw [z]; rfl⟩
          have := V.int.inj z
          omega
        rw [ed]
        by_cases c : s.uneven l = s.uneven lm
        · rw [decide_eq_true c]
          refine iteT ⟨_, rfl, acc, s3 _ _ hAc, ?_, Same.over (s2.trans s3) hG, _, upd_same, ?_⟩
          · refine small_of 5764801 ?_
            rw [hRa.length]
            refine Nat.le_trans (List.length_filter_le _ _) ?_
            rw [List.length_take]
            omega
          · rw [take_filter hlj, if_pos (decide_eq_true c)]
            exact Rep.snoc hRa (hl.mono s1)
        · rw [decide_eq_false c]
          refine iteF ⟨s2.trans s3, acc, s3 _ _ hAc, ?_⟩
          rw [take_filter hlj, if_neg (by rw [decide_eq_false c]; exact Bool.false_ne_true), List.append_nil]
          exact hRa
      · rintro H2 ⟨s2, acc, hAc, hRa⟩
        rw [List.take_of_length_le (by rw [hR.length]; exact Nat.le_refl _)] at hRa
        refine ⟨(by show 2 ≤ sizeLine; decide), fun p hp => ?_⟩
        have s3 : Same H2 (upd H2 p (.tup [V.int ((s.uneven lm : Nat) : Int), .ref G])) := Same.new hp
        exact q _ p (.ref G) (s.uneven lm) ((s1.trans s2).trans s3) upd_same ⟨G, acc, rfl, s3 _ _ hAc, lacs_mono (s2.trans s3) hRa⟩ ⟨lm, hlm, rfl⟩ hmin
end
end Lace

set_option Elab.async false
set_option maxRecDepth 100000
set_option maxHeartbeats 2000000
/-! seam.py, the class Seam. -/
namespace Lace
open PySem PySem.Spec PyProof.Rows L2
/-- the object lies at q -/
def SeamAt (C CE : Addr) (H : Hp) (q : Addr) (s : Uw23.Seam) : Prop := ∃ dx e, H q = some (.ins C dx [("edges", e)]) ∧ EdgesV CE H e s
structure STxt (K : PySem.W.Frag) (C : Addr) : Prop where
  cl : Cls K C
  nE : NoAttr K C "edges"
theorem sF_edges (e : V) : List.lookup ("edges" : Str) [("edges", e)] = some e := lk_here
theorem sF_no (e : V) {m : Str} (h : (m == "edges") = false) : List.lookup m [("edges", e)] = none := (lk_past h).trans rfl
/-- all stands but what lies at q -/
def But (q : Addr) (H H' : Hp) : Prop := ∀ b o, H b = some o → b ≠ q → H' b = some o
theorem But.of {q : Addr} {H H' : Hp} (s : Same H H') : But q H H' := fun b o e _ => s b o e
theorem But.same {q : Addr} {H H1 H' : Hp} (s : Same H H1) (b : But q H1 H') : But q H H' := fun c o e n => b c o (s c o e) n
theorem But.more {q : Addr} {H H1 H' : Hp} (b : But q H H1) (s : Same H1 H') : But q H H' := fun c o e n => s c o (b c o e n)
/-- what a call of the object's answers, and what it leaves -/
def Told (C CE : Addr) (H : Hp) (q : Addr) (s : Uw23.Seam) (c : Uw23.Call) (Q : VK) : Prop := ∀ H' r, But q H H' → SeamAt C CE H' q (Uw23.step s c).1 → H r = none → H' r = some (.lst ((ansOf s c).map V.int)) → Q (.ref r) H'
theorem SeamAt.mono {C CE q : Addr} {H H' : Hp} {s : Uw23.Seam} (e : Same H H') : SeamAt C CE H q s → SeamAt C CE H' q s
  | ⟨dx, v, h, k⟩ => ⟨dx, v, e _ _ h, k.mono e⟩
/-- a def of the object that leaves it as it is -/
theorem Told.keep {C CE q r : Addr} {H H' : Hp} {s : Uw23.Seam} {c : Uw23.Call} {Q : VK} {xs : List V} (t : Told C CE H q s c Q) (h : SeamAt C CE H q s) (hc : (Uw23.step s c).1 = s) (e : Same H H') (hr : H r = none) (hx : H' r = some (.lst xs)) (ha : (ansOf s c).map V.int = xs) : Q (.ref r) H' :=
  t H' r (But.of e) (by rw [hc]; exact h.mono e) hr (by rw [ha]; exact hx)
section
variable {P : Program} {w : World} {K : PySem.W.Frag} {mg : Str → Option Value} {base : Heap} {C CE : Addr}
/-! ### Seam.__init__ -/
abbrev sSInit : Stmt := inClass (top 30) 0
abbrev eArgs : List Str := ["self", "upper", "lower", "most", "beside"]
def spSInit (C CE : Addr) : Sp := fun vs H Q _ => ∃ (p dx : Addr), vs = [.ref p] ∧ H p = some (.ins C dx []) ∧ ∀ H' : Hp, SeamAt C CE H' p Uw23.init → But p H H' → Q .non H'
theorem scSInit : FnScope ["self"] ["self"] (defScope sSInit) := ⟨rfl, rfl, rfl, by decide +kernel, rfl, by decide +kernel, by decide +kernel⟩
/-- a new Edges at x: what was tracked stands -/
theorem made_same {H H1 : Hp} {x dx : Addr} (nx : H x = none) (nd : H dx = none) (kp : ∀ b o, upd (upd H dx (.own x)) x (.ins CE dx []) b = some o → b ≠ x → H1 b = some o) : Same H H1 := Same.made nx nd kp
theorem ok_sInit {f : Addr} {fd : FuncData} (F : Fun K "__init__" "Seam.__init__" sSInit f fd) (T : STxt K C) (hE : HasC P w K mg base CE 1 "Edges" eArgs (spEInit CE)) : FnOk P w K mg base CX0 3 f fd ["self"] (spSInit C CE) := by
  obtain ⟨fe, fde, mge, Me, be, Ge⟩ := hE
  refine F.ok scSInit (fun vs H Q E h => ?_) (fun cdv A outer s H vs Q E hr h => ?_)
  · obtain ⟨p, dx, rfl, _⟩ := h
    rfl
  · obtain ⟨p, dx, rfl, hp, k⟩ := h
    refine ⟨_, pss_one (ps_fld (pv 0) (pe_make Me Ge hr (by rfl) mge be .nil pass0 (pa_cons pe_int (pa_cons pe_int (pa_cons pe_int (pa_cons pe_int pa_nil))))) rfl), ?_⟩
    intro x dx' nx nd ne
    refine ⟨x, dx', 0, 0, 1, 1, rfl, Nat.le_refl _, upd_same, fun H1 hE kp => ⟨rfl, ?_⟩⟩
    have s1 : Same H H1 := Same.made nx nd kp
    have hp1 := s1 _ _ hp
    refine ⟨_, rfl, p, C, dx, [], rfl, hp1, T.cl, T.nE, (by show 0 < 1000; decide), ?_⟩
    obtain ⟨ea, edx, e1, hE⟩ := hE
    have npe : ea ≠ p := fun z => by
      cases e1
      rw [← z, nx] at hp
      cases hp
    refine k _ ⟨dx, .ref x, upd_same, ea, edx, e1, (upd_ne npe).trans hE⟩ fun b o e nb => ?_
    rw [upd_ne nb]
    exact s1 _ _ e

/-! ### begins -/
abbrev sBegins : Stmt := inClass (top 30) 1
def spBegins (C CE : Addr) : Sp := fun vs H Q _ => ∃ (q : Addr) (s : Uw23.Seam) (u w m c : Nat), vs = [.ref q, natV u, natV w, natV m, natV c] ∧ SeamAt C CE H q s ∧ Told C CE H q s (.begins u w m c) Q
theorem scBegins : FnScope eArgs eArgs (defScope sBegins) := ⟨rfl, rfl, rfl, by decide +kernel, rfl, by decide +kernel, by decide +kernel⟩
theorem begins_bad {s : Uw23.Seam} {u w m c : Nat} (h : badE u w m c) : Uw23.step s (.begins u w m c) = (s, Uw23.ok (-1)) := if_pos h
theorem begins_good {s : Uw23.Seam} {u w m c : Nat} (h : ¬ badE u w m c) : Uw23.step s (.begins u w m c) = (⟨u, w, m, c == 1⟩, Uw23.ok 0) := if_neg h
theorem ok_begins {f : Addr} {fd : FuncData} {t1 : Tok} (F : Fun K "begins" "Seam.begins" sBegins f fd) (T : STxt K C) (c1 : mg "NOT_SO" = some (.int (-1) t1)) (hE : HasC P w K mg base CE 1 "Edges" eArgs (spEInit CE))
    (hA : Has P w K mg base 1 "are_edges" ["upper", "lower", "most", "beside"] spAreEdges) : FnOk P w K mg base CX0 3 f fd eArgs (spBegins C CE) := by
  obtain ⟨fe, fde, mge, Me, be, Ge⟩ := hE
  obtain ⟨fa, fda, mga, kpa, ba, Ga⟩ := hA
  refine F.ok scBegins (fun vs H Q E h => ?_) (fun cdv A outer s H vs Q E hr h => ?_)
  · obtain ⟨q, s, u, w', m, c, rfl, _⟩ := h
    rfl
  · obtain ⟨q, s, u, w', m, c, rfl, hS, k⟩ := h
    have hr1 : Room 1 _ := hr.mono (by decide)
    refine ⟨_, pss_cons (ps_if (pt_not (pt_val (pe_call Ga hr1 (by rfl) mga kpa ba .nil pass0 (pa_cons (pv 1) (pa_cons (pv 2) (pa_cons (pv 3) (pa_cons (pv 4) pa_nil))))))) (pss_one (ps_ret (pe_lst (pa_cons (pe_glob (v := .int (-1)) rfl c1 ⟨_, rfl⟩) pa_nil)))) pss_nil)
      (pss_cons (ps_fld (pv 0) (pe_make Me Ge hr (by rfl) mge be .nil pass0 (pa_cons (pv 1) (pa_cons (pv 2) (pa_cons (pv 3) (pa_cons (pv 4) pa_nil))))) rfl)
        (pss_one (ps_ret (pe_lst (pa_cons pe_int pa_nil))))), ?_⟩
    refine ⟨_, rfl, _, rfl, _, rfl, _, rfl, u, w', m, c, rfl, fun H1 s1 => ⟨_, rfl, ?_⟩⟩
    by_cases hb : badE u w' m c
    · rw [decide_eq_true hb]
      refine iteT ⟨(by show 1 ≤ sizeLine; decide), fun p hp => ?_⟩
      have e := begins_bad (s := s) hb
      refine k.keep hS (by rw [e]) (s1.trans (Same.new hp)) (s1.free hp) upd_same ?_
      unfold ansOf
      rw [e]
      rfl
    · rw [decide_eq_false hb]
      refine iteF ?_
      refine ⟨_, rfl, _, rfl, _, rfl, _, rfl, fun x dx' nx nd ne => ?_⟩
      refine ⟨x, dx', u, w', m, c, rfl, (by unfold badE at hb; omega), upd_same, fun H2 hE kp => ⟨rfl, ?_⟩⟩
      have s2 : Same H1 H2 := Same.made nx nd kp
      have s12 := s1.trans s2
      obtain ⟨dx, e0, hq, _⟩ := hS
      have hq2 := s12 _ _ hq
      refine ⟨_, rfl, q, C, dx, _, rfl, hq2, T.cl, T.nE, (by show 1 < 1000; decide), ?_⟩
      refine ⟨(by show 1 ≤ sizeLine; decide), fun p hp => ?_⟩
      obtain ⟨ea, edx, e1, hE⟩ := hE
      have nqe : ea ≠ q := fun z => by
        cases e1
        have := s1 _ _ hq
        rw [← z, nx] at this
        cases this
      have npq : p ≠ q := fun z => by
        rw [z, upd_same] at hp
        cases hp
      have hp2 : H2 p = none := by
        rw [upd_ne npq] at hp
        exact hp
      have e := begins_good (s := s) hb
      refine k _ p (fun b o eb nb => ?_) ?_ (s12.free hp2) ?_
      · rw [upd_ne (ne_of_none (s12 _ _ eb) hp2), upd_ne nb]
        exact s12 _ _ eb
      · rw [e]
        refine ⟨dx, .ref x, ?_, ea, edx, e1, ?_⟩
        · rw [upd_ne npq.symm, upd_same]
          exact congrArg (fun z => some (HO.ins C dx z)) put_here
        · have nep : ea ≠ p := ne_of_none hE hp2
          rw [upd_ne nep, upd_ne nqe]
          exact hE
      · unfold ansOf
        rw [e]
        exact upd_same

/-! ### best -/
abbrev sBest : Stmt := inClass (top 30) 2
def spBest (C CE : Addr) : Sp := fun vs H Q _ => ∃ (q : Addr) (s : Uw23.Seam), vs = [.ref q] ∧ SeamAt C CE H q s ∧ Good s ∧ Told C CE H q s .best Q
theorem scBest : FnScope ["self", "lacings", "least", "good"] ["self"] (defScope sBest) := ⟨rfl, rfl, rfl, by decide +kernel, rfl, by decide +kernel, by decide +kernel⟩
theorem best_ans_none {s : Uw23.Seam} (h : s.best = none) : ansOf s .best = [-6] := by
  show Uw23Neutral.out (match s.best with
    | none => Uw23.ok (-6)
    | some b => ⟨(b.knots : Nat), b.uneven :: b.many :: Uw23.flat b.row⟩) = [-6]
  rw [h]
  rfl
theorem best_ans_some {s : Uw23.Seam} {b : Uw23.Best} (h : s.best = some b) : (ansOf s .best).map V.int = [natV b.knots, natV b.uneven, natV b.many] ++ (Uw23.flat b.row).map natV := by
  have e : ansOf s .best = (b.knots : Int) :: (b.uneven : Int) :: (b.many : Int) :: (Uw23.flat b.row).map fun (n : Nat) => (n : Int) := by
    show Uw23Neutral.out (match s.best with
      | none => Uw23.ok (-6)
      | some b => ⟨(b.knots : Nat), b.uneven :: b.many :: Uw23.flat b.row⟩) = _
    rw [h]
    rfl
  rw [e, List.map_cons, List.map_cons, List.map_cons, List.map_map]
  rfl
theorem ok_best {f : Addr} {fd : FuncData} {t1 : Tok} (F : Fun K "best" "Seam.best" sBest f fd) (T : STxt K C) (B : Blt mg) (c1 : mg "NOT_ALL" = some (.int (-6) t1)) (hF : Has P w K mg base 5 "fewest_right" ["edges"] (spFewestR CE))
    (hL : Has P w K mg base 3 "least_uneven" ["edges", "lacings"] (spLeast CE)) (hR : Has P w K mg base 1 "in_a_row" ["lacing"] spInRow) : FnOk P w K mg base CX0 6 f fd ["self"] (spBest C CE) := by
  obtain ⟨ff, fdf, mgf, kpf, bf, Gf⟩ := hF
  obtain ⟨fl, fdl, mgl, kpl, bl, Gl⟩ := hL
  obtain ⟨fr, fdr, mgr, kpr, br, Gr⟩ := hR
  refine F.ok scBest (fun vs H Q E h => ?_) (fun cdv A outer s H vs Q E hr h => ?_)
  · obtain ⟨q, s, rfl, _⟩ := h
    rfl
  · obtain ⟨q, s, rfl, hS, g, k⟩ := h
    have hr1 : Room 1 _ := hr.mono (by decide)
    have hr3 : Room 3 _ := hr.mono (by decide)
    obtain ⟨dx, e0, hq, he⟩ := id hS
    refine ⟨_, pss_cons (ps_set (i := 1) scBest.nd rfl (.inl rfl) (pe_call Gf hr (by rfl) mgf kpf bf .nil pass0 (pa_cons (pe_fld (pv 0) rfl) pa_nil)))
      (pss_cons (ps_if (pt_cmpR (op_eqD hr.units) (pv 1) (pe_lst pa_nil) (nomark _)) (pss_one (ps_ret (pe_lst (pa_cons (pe_glob (v := .int (-6)) rfl c1 ⟨_, rfl⟩) pa_nil)))) pss_nil)
      (pss_cons (ps_asg (pe_call Gl hr3 (by rfl) mgl kpl bl .nil pass0 (pa_cons (pe_fld (pv 0) rfl) (pa_cons (pv 1) pa_nil))) (pg_tup rfl (pgs_cons (pg_name (i := 2) scBest.nd rfl (.inl rfl)) (pgs_cons (pg_name (i := 3) scBest.nd rfl (.inl rfl)) pgs_nil))))
      (pss_one (ps_ret (pe_op op_cat (pe_lst (pa_cons (pe_callB call_len_seq (by rfl) B.len PySem.boot_len (pa_cons (pe_ix ix_list (pv 3) pe_int (fun _ _ => rfl)) pa_nil)) (pa_cons (pv 2) (pa_cons (pe_callB call_len_seq (by rfl) B.len PySem.boot_len (pa_cons (pv 3) pa_nil)) pa_nil))))
        (pe_call Gr hr1 (by rfl) mgr kpr br .nil pass0 (pa_cons (pe_ix ix_list (pv 3) pe_int (fun _ _ => rfl)) pa_nil))))))), ?_⟩
    refine ⟨_, rfl, q, C, dx, _, _, rfl, hq, T.cl, T.nE, sF_edges e0, e0, s, rfl, he, g, fun H1 r ls s1 hL1 hFR => ?_⟩
    obtain ⟨la, lvs, rfl, hla, hlR⟩ := hL1
    refine ⟨_, rfl, Nat.zero_le _, fun p hp => ?_⟩
    have s2 : Same H1 (upd H1 p (.lst [])) := Same.new hp
    refine ⟨lacsD ls, .list [], .lst (SqL.of (s2 _ _ hla)) (dp_lacs (lacs_mono s2 hlR)), .lst (SqL.of upd_same) .nil, shaped_lacs _, rfl, _, rfl, ?_⟩
    rw [eqv_nil_lacs]
    have s12 := s1.trans s2
    by_cases hne : ls = []
    · subst hne
      refine iteT ⟨(by show 1 ≤ sizeLine; decide), fun p2 hp2 => ?_⟩
      refine k.keep hS rfl (s12.trans (Same.new hp2)) (s12.free hp2) upd_same ?_
      rw [best_ans_none (fr_none g hFR)]
      rfl
    · have hie : ls.isEmpty = false := by
        cases ls with
        | nil => exact absurd rfl hne
        | cons _ _ => rfl
      rw [hie]
      refine iteF ?_
      refine ⟨_, rfl, q, C, dx, _, _, rfl, s12 _ _ hq, T.cl, T.nE, sF_edges e0, _, rfl, e0, .ref la, s, ls, rfl, he.mono s12, g, ⟨la, lvs, rfl, s2 _ _ hla, lacs_mono s2 hlR⟩, hne, fr_size g hFR, fun H3 t gd m s3 ht hgd hex hmin => ?_⟩
      obtain ⟨g0, gs, eg, hb, hg8⟩ := fr_best g hFR hne hex hmin
      rw [eg] at hgd
      obtain ⟨ga, gvs, rfl, hga, hgR⟩ := hgd
      have glen := hgR.length
      match gvs, hgR with
      | gv :: gvs', hgR =>
        obtain ⟨⟨l0, l0s, rfl, hl0, hl0R⟩, _⟩ := hgR
        have l0len := hl0R.length
        refine ⟨t, _, rfl, SqT.of ht, rfl, _, _, rfl, _, _, rfl, rfl, ?_⟩
        refine ⟨_, rfl, ga, _, _, _, rfl, rfl, SqL.of hga, at_of (j := 0) rfl rfl, l0, _, rfl, .inl (SqL.of hl0), _, rfl, _, rfl, ga, _, rfl, .inl (SqL.of hga), (by show 3 ≤ sizeLine; decide), fun p3 hp3 => ?_⟩
        have s4 : Same H3 (upd H3 p3 (.lst [.int (l0s.length : Nat), natV m, .int ((V.ref l0 :: gvs').length : Nat)])) := Same.new hp3
        refine ⟨_, rfl, ga, _, _, _, rfl, rfl, SqL.of (s4 _ _ hga), at_of (j := 0) rfl rfl, .ref l0, g0, rfl, ⟨l0, l0s, rfl, s4 _ _ hl0, knots_mono s4 hl0R⟩, (by omega), fun H5 r5 s5 hn5 hr5 => ?_⟩
        refine ⟨p3, r5, _, _, rfl, rfl, s5 _ _ upd_same, hr5, ?_, fun p6 hp6 => ?_⟩
        · refine Nat.le_of_lt (small_of 100 ?_)
          show 3 + _ ≤ 100
          rw [List.length_map, flat_length]
          omega
        · have s15 := ((s12.trans s3).trans s4).trans s5
          refine k.keep hS rfl (s15.trans (Same.new hp6)) (s15.free hp6) upd_same ?_
          rw [best_ans_some hb]
          have e1 : ((V.ref l0 :: gvs').length) = gs.length + 1 := glen
          rw [e1, l0len]
          rfl
      | [], hgR => exact hgR.elim
end
end Lace

set_option Elab.async false
set_option maxRecDepth 100000
set_option maxHeartbeats 2000000
/-! seam.py, further: check, answer, call_at, answers. -/
namespace Lace
open PySem PySem.Spec PyProof.Rows L2
section
variable {P : Program} {w : World} {K : PySem.W.Frag} {mg : Str → Option Value} {base : Heap} {C CE : Addr}
/-! ### check -/
abbrev sCheck : Stmt := inClass (top 30) 3
def spCheck (C CE : Addr) : Sp := fun vs H Q _ => ∃ (q : Addr) (v : V) (s : Uw23.Seam) (l : Lacing), vs = [.ref q, v] ∧ SeamAt C CE H q s ∧ Good s ∧ LacV H v l ∧ l.length ≤ 1000 ∧ Told C CE H q s (.check l) Q
theorem scCheck : FnScope ["self", "lacing", "upper", "lower", "place", "knot"] ["self", "lacing"] (defScope sCheck) := ⟨rfl, rfl, rfl, by decide +kernel, rfl, by decide +kernel, by decide +kernel⟩
theorem check_keep (s : Uw23.Seam) (l : Lacing) : (Uw23.step s (.check l)).1 = s := by
  show (if Uw23.KNOTS < l.length ∨ (l.all s.may) = false then (s, Uw23.ok (-1)) else (s, _)).1 = s
  split <;> rfl
theorem check_bad {s : Uw23.Seam} {l : Lacing} (h : 20 < l.length ∨ (l.all s.may) = false) : ansOf s (.check l) = [-1] := by
  have e : Uw23.step s (.check l) = (s, Uw23.ok (-1)) := if_pos h
  unfold ansOf
  rw [e]
  rfl
theorem check_go {s : Uw23.Seam} {l : Lacing} (h : ¬ (20 < l.length ∨ (l.all s.may) = false)) : ansOf s (.check l) = Uw23Neutral.out (if Uw23.ups l ≠ s.up ∨ Uw23.lows l ≠ s.low then ⟨-6, [Uw23.ups l, Uw23.lows l]⟩ else match (if s.close = true then none else Uw23.beside l) with
    | some i => ⟨-7, [i]⟩
    | none => Uw23.ok (s.uneven l : Nat)) := by
  have e : Uw23.step s (.check l) = (s, if Uw23.ups l ≠ s.up ∨ Uw23.lows l ≠ s.low then ⟨-6, [Uw23.ups l, Uw23.lows l]⟩ else match (if s.close = true then none else Uw23.beside l) with
    | some i => ⟨-7, [i]⟩
    | none => Uw23.ok (s.uneven l : Nat)) := if_neg h
  unfold ansOf
  rw [e]
theorem check_not {s : Uw23.Seam} {l : Lacing} (h : ¬ (20 < l.length ∨ (l.all s.may) = false)) (h2 : isAll s l = false) : ansOf s (.check l) = [-6, (Uw23.ups l : Int), (Uw23.lows l : Int)] := by
  have h3 : Uw23.ups l ≠ s.up ∨ Uw23.lows l ≠ s.low := by
    unfold isAll at h2
    rw [Bool.and_eq_false_iff, decide_eq_false_iff_not, decide_eq_false_iff_not] at h2
    exact h2
  rw [check_go h, if_pos h3]
  rfl
theorem check_crowd {s : Uw23.Seam} {l : Lacing} {i : Nat} (h : ¬ (20 < l.length ∨ (l.all s.may) = false)) (h2 : isAll s l = true) (h3 : crowdedAt s l = some i) : ansOf s (.check l) = [-7, (i : Int)] := by
  have h4 : ¬ (Uw23.ups l ≠ s.up ∨ Uw23.lows l ≠ s.low) := by
    unfold isAll at h2
    rw [Bool.and_eq_true, decide_eq_true_eq, decide_eq_true_eq] at h2
    omega
  have h3 : (if s.close = true then none else Uw23.beside l) = some i := h3
  rw [check_go h, if_neg h4, h3]
  rfl
theorem check_ok {s : Uw23.Seam} {l : Lacing} (h : ¬ (20 < l.length ∨ (l.all s.may) = false)) (h2 : isAll s l = true) (h3 : crowdedAt s l = none) : ansOf s (.check l) = [(s.uneven l : Int)] := by
  have h4 : ¬ (Uw23.ups l ≠ s.up ∨ Uw23.lows l ≠ s.low) := by
    unfold isAll at h2
    rw [Bool.and_eq_true, decide_eq_true_eq, decide_eq_true_eq] at h2
    omega
  have h3 : (if s.close = true then none else Uw23.beside l) = none := h3
  rw [check_go h, if_neg h4, h3]
  rfl
theorem ok_check {f : Addr} {fd : FuncData} {t1 t2 t3 t4 : Tok} (F : Fun K "check" "Seam.check" sCheck f fd) (T : STxt K C) (TE : ETxt K CE) (B : Blt mg) (c1 : mg "NOT_SO" = some (.int (-1) t1)) (c2 : mg "NOT_ALL" = some (.int (-6) t2)) (c3 : mg "CROWDED" = some (.int (-7) t3)) (c4 : mg "MOST_KNOTS" = some (.int 20 t4))
    (hIk : Has P w K mg base 1 "is_knot" ["knot", "most"] spIsKnot) (hT : Has P w K mg base 2 "taken_by" ["lacing"] (spTaken K)) (hI : HasM P w K mg base CE 1 "is_all" ["self", "taken"] (spIsAll K CE)) (hCr : Has P w K mg base 3 "first_crowded" ["edges", "lacing"] (spCrowded CE))
    (hU : Has P w K mg base 2 "uneven" ["edges", "lacing"] (spUneven CE)) : FnOk P w K mg base CX0 4 f fd ["self", "lacing"] (spCheck C CE) := by
  obtain ⟨fk, fdk, mgk, kpk, bk, Gk⟩ := hIk
  obtain ⟨ft, fdt, mgt, kpt, bt, Gt⟩ := hT
  obtain ⟨fi, fdi, mi, bi, Gi⟩ := hI
  obtain ⟨fc, fdc, mgc, kpc, bc, Gc⟩ := hCr
  obtain ⟨fu, fdu, mgu, kpu, bu, Gu⟩ := hU
  refine F.ok scCheck (fun vs H Q E h => ?_) (fun cdv A outer s H vs Q E hr h => ?_)
  · obtain ⟨q, v, s, l, rfl, _⟩ := h
    rfl
  · obtain ⟨q, v, s, l, rfl, hS, g, ⟨a, vs, rfl, ha, hR⟩, hl, k⟩ := h
    have hr1 : Room 1 _ := hr.mono (by decide)
    have hr2 : Room 2 _ := hr.mono (by decide)
    obtain ⟨dx, e0, hq, he⟩ := id hS
    refine ⟨_, pss_cons (ps_if (PW.pt (pw_or (pt_cmpR op_gt (pe_callB call_len_seq (by rfl) B.len PySem.boot_len (pa_cons (pv 1) pa_nil)) (pe_glob (v := .int 20) rfl c4 ⟨_, rfl⟩) (nomark _))
        (pw_or1 (pt_not (pt_val (pe_callB (cr_all rfl) (by rfl) B.all (by decide +kernel) (pa_cons
          (pe_lc (own := [("knot", 5)]) (g := gName 5) (tt := tYes) (te := tCall spIsKnot [] E0 (tCons (tVar 5) (tCons (tFld K (tFld K (tVar 0) "edges") "most") tNil))) rfl scCheck.nd
            (pi_list (pv 1)) (blkOk_by (own := [("knot", 5)]) (N := ["self", "lacing", "upper", "lower", "place", "knot"]) (sc := defScope sCheck) (by decide +kernel))
            (fun _ _ _ _ _ => pg_name (i := 5) scCheck.nd rfl (Or.inl rfl)) (fun _ _ _ _ _ => pts_nil)
            (fun _ _ _ _ _ => pe_call Gk hr1 (by rfl) mgk kpk bk .nil pass0 (pa_cons (pv 5) (pa_cons (pe_fld (pe_fld (pv 0) rfl) rfl) pa_nil)))) pa_nil)))))))
        (pss_one (ps_ret (pe_lst (pa_cons (pe_glob (v := .int (-1)) rfl c1 ⟨_, rfl⟩) pa_nil)))) pss_nil)
      (pss_cons (ps_asg (pe_call Gt hr2 (by rfl) mgt kpt bt .nil pass0 (pa_cons (pv 1) pa_nil)) (pg_tup rfl (pgs_cons (pg_name (i := 2) scCheck.nd rfl (.inl rfl)) (pgs_cons (pg_name (i := 3) scCheck.nd rfl (.inl rfl)) pgs_nil))))
      (pss_cons (ps_if (pt_not (pt_val (pe_meth (pe_fld (pv 0) rfl) TE.cl mi Gi hr1 bi .nil pass0 (pa_cons (pe_tup (pa_cons (pv 2) (pa_cons (pv 3) pa_nil))) pa_nil))))
        (pss_one (ps_ret (pe_lst (pa_cons (pe_glob (v := .int (-6)) rfl c2 ⟨_, rfl⟩) (pa_cons (pv 2) (pa_cons (pv 3) pa_nil)))))) pss_nil)
      (pss_cons (ps_set (i := 4) scCheck.nd rfl (.inl rfl) (pe_call Gc hr (by rfl) mgc kpc bc .nil pass0 (pa_cons (pe_fld (pv 0) rfl) (pa_cons (pv 1) pa_nil))))
      (pss_cons (ps_if (pt_cmpR op_notN (pv 4) pe_non (nomark _)) (pss_one (ps_ret (pe_lst (pa_cons (pe_glob (v := .int (-7)) rfl c3 ⟨_, rfl⟩) (pa_cons (pv 4) pa_nil))))) pss_nil)
      (pss_one (ps_ret (pe_lst (pa_cons (pe_call Gu hr2 (by rfl) mgu kpu bu .nil pass0 (pa_cons (pe_fld (pv 0) rfl) (pa_cons (pv 1) pa_nil))) pa_nil)))))))), ?_⟩
    have hlen := hR.length
    have bad : ∀ H1, Same H H1 → (20 < l.length ∨ (l.all s.may) = false) → ∀ p, H1 p = none → Q (.ref p) (upd H1 p (.lst [.int (-1)])) := fun H1 s1 hb p hp => by
      refine k.keep hS (check_keep s l) (s1.trans (Same.new hp)) (s1.free hp) upd_same ?_
      rw [check_bad hb]
      rfl
    refine ⟨_, rfl, a, _, rfl, .inl (SqL.of ha), _, _, rfl, rfl, _, rfl, ?_⟩
    by_cases h20 : 20 < l.length
    · refine if_true_of (decide_eq_true (by omega)) (iteT ?_)
      exact ⟨(by show 1 ≤ sizeLine; decide), bad H (Same.refl H) (.inl h20)⟩
    refine if_false_of (decide_eq_false (by omega)) ?_
    refine ⟨_, rfl, a, rfl, ⟨_, SqL.of ha⟩, fun D hD => ?_⟩
    refine lc_list (K := K) (a := a) (xs := vs) (fun j H' => Same H H' ∧ H' D = some (.lst (((l.take j).map s.may).map V.bl))) ?_ ?_ ?_ ?_
    · exact ⟨Same.new hD, upd_same⟩
    · rintro j H1 _ ⟨s1, _⟩
      exact SqL.of (s1 _ _ ha)
    · rintro j kv H1 hj ⟨s1, hA⟩
      obtain ⟨kn, hkj, t, rfl, ht⟩ := hR.get hj
      obtain ⟨ea, edx, rfl, hea⟩ := id he
      refine ⟨rfl, yes_ (iteT ?_)⟩
      refine ⟨_, rfl, _, rfl, q, C, dx, _, _, rfl, s1 _ _ hq, T.cl, T.nE, sF_edges _, ea, CE, edx, _, _, rfl, s1 _ _ hea, TE.cl, TE.nM, eF_most s, t, kn, s.most, rfl, s1 _ _ ht, ?_⟩
      refine ⟨_, hA, ?_, Same.over s1 hD, ?_⟩
      · refine small_of 1000 ?_
        rw [List.length_map, List.length_map, List.length_take]
        omega
      · rw [upd_same, take_get hkj, List.map_append, List.map_append]
        rfl
    · rintro H1 ⟨s1, hA⟩
      rw [List.take_of_length_le (by rw [hR.length]; exact Nat.le_refl _)] at hA
      refine ⟨D, _, rfl, SqL.of hA, _, rfl, ?_⟩
      have ea : (l.map s.may).all id = l.all s.may := by
        rw [List.all_map]
        rfl
      rw [ea]
      cases hall : l.all s.may with
      | false =>
        refine iteT ?_
        exact ⟨(by show 1 ≤ sizeLine; decide), bad H1 s1 (.inr hall)⟩
      | true =>
        refine iteF ?_
        have hgo : ¬ (20 < l.length ∨ (l.all s.may) = false) := by
          rw [hall]
          rintro (z | z)
          · exact h20 z
          · cases z
        refine ⟨_, rfl, .ref a, l, rfl, ⟨a, vs, rfl, s1 _ _ ha, knots_mono s1 hR⟩, fun H2 r s2 hT => ?_⟩
        obtain ⟨t, rfl, ht⟩ := hT
        have s12 := s1.trans s2
        refine ⟨t, _, rfl, ht, rfl, _, _, rfl, _, _, rfl, rfl, ?_⟩
        obtain ⟨ea, edx, rfl, hea⟩ := id he
        refine ⟨_, rfl, q, C, dx, _, _, rfl, s12 _ _ hq, T.cl, T.nE, sF_edges _, ea, edx, _, rfl, s12 _ _ hea, eF_no s (by decide +kernel) (by decide +kernel) (by decide +kernel) (by decide +kernel), ?_⟩
        refine ⟨_, rfl, _, rfl, (by show 2 ≤ sizeLine; decide), fun p hp => ?_⟩
        have s3 : Same H2 (upd H2 p (.tup [.int (Uw23.ups l : Nat), .int (Uw23.lows l : Nat)])) := Same.new hp
        have s13 := s12.trans s3
        refine ⟨_, _, s, _, _, rfl, ⟨ea, edx, rfl, s13 _ _ hea⟩, ⟨p, rfl, SqT.of upd_same⟩, fun H4 s4 => ⟨_, rfl, ?_⟩⟩
        have s14 := s13.trans s4
        have ei : (decide (Uw23.ups l = s.up) && decide (Uw23.lows l = s.low)) = isAll s l := rfl
        rw [ei]
        cases hia : isAll s l with
        | false =>
          refine iteT ?_
          refine ⟨_, rfl, _, rfl, (by show 3 ≤ sizeLine; decide), fun p2 hp2 => ?_⟩
          refine k.keep hS (check_keep s l) (s14.trans (Same.new hp2)) (s14.free hp2) upd_same ?_
          rw [check_not hgo hia]
          rfl
        | true =>
          refine iteF ?_
          refine ⟨_, rfl, q, C, dx, _, _, rfl, s14 _ _ hq, T.cl, T.nE, sF_edges _, _, rfl, _, _, s, l, rfl, ⟨ea, edx, rfl, s14 _ _ hea⟩, ⟨a, vs, rfl, s14 _ _ ha, knots_mono s14 hR⟩, hl, ?_⟩
          refine ⟨_, rfl, rfl, _, rfl, ?_⟩
          cases hcr : crowdedAt s l with
          | some i =>
            refine iteT ?_
            refine ⟨_, rfl, (by show 2 ≤ sizeLine; decide), fun p2 hp2 => ?_⟩
            refine k.keep hS (check_keep s l) (s14.trans (Same.new hp2)) (s14.free hp2) upd_same ?_
            rw [check_crowd hgo hia hcr]
            rfl
          | none =>
            refine iteF ?_
            refine ⟨_, rfl, q, C, dx, _, _, rfl, s14 _ _ hq, T.cl, T.nE, sF_edges _, _, rfl, _, _, s, l, rfl, ⟨ea, edx, rfl, s14 _ _ hea⟩, g, ⟨a, vs, rfl, s14 _ _ ha, knots_mono s14 hR⟩, fun H5 s5 => ?_⟩
            have s15 := s14.trans s5
            refine ⟨(by show 1 ≤ sizeLine; decide), fun p2 hp2 => ?_⟩
            refine k.keep hS (check_keep s l) (s15.trans (Same.new hp2)) (s15.free hp2) upd_same ?_
            rw [check_ok hgo hia hcr]
            rfl

/-! ### answer -/
/-- a call, as the def answer is handed it: its place, its numbers, its row -/
inductive Arg : Uw23.Call → Int → List Int → List Int → Prop where
  | begins (a b c d : Nat) : Arg (.begins a b c d) 0 [(a : Int), (b : Int), (c : Int), (d : Int)] []
  | best : Arg .best 1 [] []
  | check (ms : List Nat) (hl : ms.length ≤ 50) : Arg (.check (pairsOf ms)) 2 [] (ms.map fun (n : Nat) => (n : Int))
  | fewest : Arg .fewest 3 [] []
abbrev sAnswer : Stmt := inClass (top 30) 4
def spAnswer (C CE : Addr) : Sp := fun vs H Q _ => ∃ (q n r : Addr) (s : Uw23.Seam) (c : Uw23.Call) (code : Int) (nums row : List Int), vs = [.ref q, .int code, .ref n, .ref r] ∧ Arg c code nums row ∧ SeamAt C CE H q s ∧ Good s ∧
  H n = some (.lst (nums.map V.int)) ∧ H r = some (.lst (row.map V.int)) ∧ Told C CE H q s c Q
theorem scAnswer : FnScope ["self", "call", "numbers", "row"] ["self", "call", "numbers", "row"] (defScope sAnswer) := ⟨rfl, rfl, rfl, by decide +kernel, rfl, by decide +kernel, by decide +kernel⟩
theorem ok_answer {f : Addr} {fd : FuncData} {t1 t2 t3 : Tok} (F : Fun K "answer" "Seam.answer" sAnswer f fd) (T : STxt K C) (TE : ETxt K CE) (c1 : mg "BEGINS" = some (.int 0 t1)) (c2 : mg "BEST" = some (.int 1 t2)) (c3 : mg "CHECK" = some (.int 2 t3))
    (hBg : HasM P w K mg base C 3 "begins" eArgs (spBegins C CE)) (hBs : HasM P w K mg base C 6 "best" ["self"] (spBest C CE)) (hCk : HasM P w K mg base C 4 "check" ["self", "lacing"] (spCheck C CE)) (hP : Has P w K mg base 1 "in_pairs" ["numbers"] (spInPairs K))
    (hFw : HasM P w K mg base CE 2 "fewest" ["self"] (spFewest CE)) : FnOk P w K mg base CX0 7 f fd ["self", "call", "numbers", "row"] (spAnswer C CE) := by
  obtain ⟨fb, fdb, mb, bb, Gb⟩ := hBg
  obtain ⟨fs, fds, ms, bs, Gs⟩ := hBs
  obtain ⟨fc, fdc, mc, bc, Gc⟩ := hCk
  obtain ⟨fp, fdp, mgp, kpp, bp, Gp⟩ := hP
  obtain ⟨fw, fdw, mw, bw, Gw⟩ := hFw
  refine F.ok scAnswer (fun vs H Q E h => ?_) (fun cdv A outer s H vs Q E hr h => ?_)
  · obtain ⟨q, n, r, s, c, code, nums, row, rfl, _⟩ := h
    rfl
  · obtain ⟨q, n, r, s, c, code, nums, row, rfl, ar, hS, g, hn, hrw, k⟩ := h
    have hr1 : Room 1 _ := hr.mono (by decide)
    have hr2 : Room 2 _ := hr.mono (by decide)
    have hr3 : Room 3 _ := hr.mono (by decide)
    have hr4 : Room 4 _ := hr.mono (by decide)
    obtain ⟨dx, e0, hq, he⟩ := id hS
    refine ⟨_, pss_cons (ps_if (pt_cmpR op_eq (pv 1) (pe_glob (v := .int 0) rfl c1 ⟨_, rfl⟩) (nomark _))
        (pss_one (ps_ret (pe_meth (pv 0) T.cl mb Gb hr3 bb .nil pass0 (pa_cons (pe_ix ix_list (pv 2) pe_int (fun _ _ => rfl)) (pa_cons (pe_ix ix_list (pv 2) pe_int (fun _ _ => rfl)) (pa_cons (pe_ix ix_list (pv 2) pe_int (fun _ _ => rfl)) (pa_cons (pe_ix ix_list (pv 2) pe_int (fun _ _ => rfl)) pa_nil))))))) pss_nil)
      (pss_cons (ps_if (pt_cmpR op_eq (pv 1) (pe_glob (v := .int 1) rfl c2 ⟨_, rfl⟩) (nomark _)) (pss_one (ps_ret (pe_meth0 (pv 0) T.cl ms Gs hr bs .nil pass0))) pss_nil)
      (pss_one (ps_ret (pe_ifExp (pt_cmpR op_eq (pv 1) (pe_glob (v := .int 2) rfl c3 ⟨_, rfl⟩) (nomark _))
        (pe_meth (pv 0) T.cl mc Gc hr4 bc .nil pass0 (pa_cons (pe_call Gp hr1 (by rfl) mgp kpp bp .nil pass0 (pa_cons (pv 3) pa_nil)) pa_nil))
        (pe_lst (pa_cons (pe_meth0 (pe_fld (pv 0) rfl) TE.cl mw Gw hr2 bw .nil pass0) pa_nil)))))), ?_⟩
    refine ⟨_, rfl, rfl, _, rfl, ?_⟩
    cases ar with
    | begins a b c' d =>
      refine iteT ?_
      refine ⟨_, rfl, q, dx, _, rfl, hq, sF_no _ (by decide +kernel), ?_⟩
      refine ⟨_, rfl, n, _, _, _, rfl, rfl, SqL.of hn, at_of (j := 0) rfl rfl, _, rfl, n, _, _, _, rfl, rfl, SqL.of hn, at_of (j := 1) rfl rfl, _, rfl, n, _, _, _, rfl, rfl, SqL.of hn, at_of (j := 2) rfl rfl, _, rfl, n, _, _, _, rfl, rfl, SqL.of hn, at_of (j := 3) rfl rfl, ?_⟩
      exact ⟨q, s, a, b, c', d, rfl, hS, k⟩
    | best =>
      refine iteF ⟨_, rfl, rfl, _, rfl, iteT ?_⟩
      exact ⟨_, rfl, q, dx, _, rfl, hq, sF_no _ (by decide +kernel), q, s, rfl, hS, g, k⟩
    | check ms hl =>
      refine iteF ⟨_, rfl, rfl, _, rfl, iteF ⟨_, rfl, rfl, _, rfl, iteT ?_⟩⟩
      refine ⟨_, rfl, q, dx, _, rfl, hq, sF_no _ (by decide +kernel), ?_⟩
      refine ⟨_, rfl, r, ms, rfl, ?_, (by omega), fun H1 v s1 hL => ?_⟩
      · rw [List.map_map] at hrw
        exact SqL.of hrw
      · refine ⟨q, v, s, pairsOf ms, rfl, hS.mono s1, g, hL, ?_, fun H' r' b' hS' hn' hr' => ?_⟩
        · rw [pairsOf_length]
          omega
        · exact k H' r' (But.same s1 b') hS' (s1.free hn') hr'
    | fewest =>
      refine iteF ⟨_, rfl, rfl, _, rfl, iteF ⟨_, rfl, rfl, _, rfl, iteF ?_⟩⟩
      obtain ⟨ea, edx, rfl, hea⟩ := id he
      refine ⟨_, rfl, q, C, dx, _, _, rfl, hq, T.cl, T.nE, sF_edges _, ea, edx, _, rfl, hea, eF_no s (by decide +kernel) (by decide +kernel) (by decide +kernel) (by decide +kernel), _, s, rfl, ⟨ea, edx, rfl, hea⟩, g, ?_⟩
      refine ⟨(by show 1 ≤ sizeLine; decide), fun p hp => ?_⟩
      exact k.keep hS rfl (Same.new hp) hp upd_same rfl

/-! ### call_at -/
abbrev sCallAt : Stmt := top 31
def spCallAt (K : PySem.W.Frag) : Sp := fun vs H Q _ => ∃ (a : Addr) (ns : List Int) (i : Nat) (c : Uw23.Call) (rest : List Int), vs = [.ref a, natV i] ∧ SqL K H a (ns.map V.int) ∧ One (ns.drop i) c rest ∧
  ∀ (H' : Hp) (t n r : Addr) (code : Int) (nums row : List Int) (j : Nat), Same H H' → H' t = some (.tup [.ref n, .ref r, natV j]) → H' n = some (.lst (nums.map V.int)) → H' r = some (.lst (row.map V.int)) → Arg c code nums row → ns[i]? = some code → ns.drop j = rest → i < j → j ≤ ns.length → Q (.ref t) H'
theorem scCallAt : FnScope ["calls", "at", "begin", "end"] ["calls", "at"] (defScope sCallAt) := ⟨rfl, rfl, rfl, by decide +kernel, rfl, by decide +kernel, by decide +kernel⟩
theorem cut_nat (xs : List V) {i j : Nat} {x y : Int} (hx : x = (i : Int)) (hy : y = (j : Int)) (h : j ≤ xs.length) (hij : i ≤ j) : cutV xs (some x) (some y) = (xs.drop i).take (j - i) := by
  unfold cutV
  rw [hx, hy, HT.sIx_nat, HT.sIx_nat, Nat.min_eq_left h, Nat.min_eq_left (Nat.le_trans hij h)]
theorem drop_get {l : List Int} {i : Nat} {x : Int} {r : List Int} (h : l.drop i = x :: r) : l[i]? = some x := by
  have e : (l.drop i)[0]? = some x := by
    rw [h]
    rfl
  rw [List.getElem?_drop] at e
  exact e
theorem drop_more {l : List Int} {i : Nat} {x : Int} {r : List Int} (h : l.drop i = x :: r) : l.drop (i + 1) = r := by
  rw [← List.drop_drop, h]
  rfl
theorem drop_len {l : List Int} {i : Nat} {x : Int} {r : List Int} (h : l.drop i = x :: r) : i + 1 + r.length = l.length := by
  have e := congrArg List.length h
  rw [List.length_drop, List.length_cons] at e
  omega
theorem get_int {ns : List Int} {i : Nat} {x : Int} (h : ns[i]? = some x) : (ns.map V.int)[i]? = some (.int x) := by
  rw [List.getElem?_map, h]
  rfl
theorem ok_callAt {f : Addr} {fd : FuncData} {t1 t2 t3 : Tok} (F : Fun K "call_at" "call_at" sCallAt f fd) (c1 : mg "BEGINS" = some (.int 0 t1)) (c2 : mg "NUMBERS" = some (.int 4 t2)) (c3 : mg "CHECK" = some (.int 2 t3)) : FnOk P w K mg base CX0 1 f fd ["calls", "at"] (spCallAt K) := by
  refine F.ok scCallAt (fun vs H Q E h => ?_) (fun cdv A outer s H vs Q E hr h => ?_)
  · obtain ⟨a, ns, i, c, rest, rfl, _⟩ := h
    rfl
  · obtain ⟨a, ns, i, c, rest, rfl, hS, ho, q⟩ := h
    refine ⟨_, pss_cons (ps_set (i := 2) scCallAt.nd rfl (.inl rfl) (pe_op op_add (pv 1) pe_int))
      (pss_cons (ps_if (pt_cmpR op_eq (pe_ix ix_list (pv 0) (pv 1) (fun _ _ => rfl)) (pe_glob (v := .int 0) rfl c1 ⟨_, rfl⟩) (nomark _))
        (pss_one (ps_ret (pe_tup (pa_cons (pe_slice sl_list (pv 0) (po_some (pv 2)) (po_some (pe_op op_add (pv 2) (pe_glob (v := .int 4) rfl c2 ⟨_, rfl⟩)))) (pa_cons (pe_lst pa_nil) (pa_cons (pe_op op_add (pv 2) (pe_glob (v := .int 4) rfl c2 ⟨_, rfl⟩)) pa_nil)))))) pss_nil)
      (pss_cons (ps_if (pt_cmpR op_eq (pe_ix ix_list (pv 0) (pv 1) (fun _ _ => rfl)) (pe_glob (v := .int 2) rfl c3 ⟨_, rfl⟩) (nomark _))
        (pss_cons (ps_set (i := 3) scCallAt.nd rfl (.inl rfl) (pe_op op_add (pe_op op_add (pv 2) pe_int) (pe_ix ix_list (pv 0) (pv 2) (fun _ _ => rfl))))
          (pss_one (ps_ret (pe_tup (pa_cons (pe_lst pa_nil) (pa_cons (pe_slice sl_list (pv 0) (po_some (pe_op op_add (pv 2) pe_int)) (po_some (pv 3))) (pa_cons (pv 3) pa_nil))))))) pss_nil)
      (pss_one (ps_ret (pe_tup (pa_cons (pe_lst pa_nil) (pa_cons (pe_lst pa_nil) (pa_cons (pv 2) pa_nil)))))))), ?_⟩
    obtain ⟨x, r, hd⟩ : ∃ x r, ns.drop i = x :: r := by
      generalize ns.drop i = L at ho
      cases ho <;> exact ⟨_, _, rfl⟩
    have hx := drop_get hd
    have hln := drop_len hd
    have hdm := drop_more hd
    rw [hd] at ho
    refine ⟨_, rfl, _, _, rfl, rfl, ?_⟩
    refine ⟨_, rfl, _, rfl, a, _, _, _, rfl, rfl, hS, at_of rfl (get_int hx), rfl, _, rfl, ?_⟩
    -- the plain ways: two empty lists
    have plain : ∀ (hc : Arg c x [] []) (hr : r = rest), (tRet (tTup (tCons (tLst tNil) (tCons (tLst tNil) (tCons (tVar 2) tNil))))) { nx := fun _ H' => Q .non H', rt := Q } [some (.ref a), some (natV i), some (.int ((i : Int) + 1)), none] H := fun hc hrr => by
      refine ⟨Nat.zero_le _, fun p1 hp1 => ⟨Nat.zero_le _, fun p2 hp2 => ?_⟩⟩
      refine ⟨_, rfl, (by show 3 ≤ sizeLine; decide), fun p3 hp3 => ?_⟩
      have s1 : Same H (upd H p1 (.lst [])) := Same.new hp1
      have s2 := Same.new (o := .lst []) hp2
      have s3 := Same.new (o := .tup [.ref p1, .ref p2, .int ((i : Int) + 1)]) hp3
      refine q _ p3 p1 p2 x [] [] (i + 1) ((s1.trans s2).trans s3) ?_ (s3 _ _ (s2 _ _ upd_same)) (s3 _ _ upd_same) hc hx (hdm.trans hrr) (Nat.lt_succ_self _) (by omega)
      rw [upd_same]
      show some (HO.tup [.ref p1, .ref p2, .int ((i : Int) + 1)]) = some (HO.tup [.ref p1, .ref p2, .int ((i + 1 : Nat) : Int)])
      rw [Int.natCast_add]
      rfl
    cases ho with
    | begins na nb nc nd =>
      refine iteT ?_
      have hl5 : i + 5 ≤ (ns.map V.int).length := by
        rw [List.length_map]
        simp only [List.length_cons] at hln
        omega
      refine ⟨_, rfl, _, rfl, _, rfl, _, rfl, _, _, rfl, rfl, _, rfl, a, _, rfl, hS, fun p1 hp1 => ?_⟩
      refine ⟨Nat.zero_le _, fun p2 hp2 => ?_⟩
      refine ⟨_, rfl, _, _, rfl, rfl, (by show 3 ≤ sizeLine; decide), fun p3 hp3 => ?_⟩
      have e1 : cutV (ns.map V.int) (some ((i : Int) + 1)) (some ((i : Int) + 1 + 4)) = [(na : Int), (nb : Int), (nc : Int), (nd : Int)].map V.int := by
        rw [cut_nat _ (i := i + 1) (j := i + 5) (by omega) (by omega) hl5 (by omega), ← List.map_drop, hdm]
        show (((na : Int) :: (nb : Int) :: (nc : Int) :: (nd : Int) :: rest).map V.int).take (i + 5 - (i + 1)) = _
        rw [show i + 5 - (i + 1) = 4 by omega]
        rfl
      rw [e1] at hp2 hp3 ⊢
      have s1 := Same.new (o := .lst ([(na : Int), (nb : Int), (nc : Int), (nd : Int)].map V.int)) hp1
      have s2 := Same.new (o := .lst []) hp2
      have s3 := Same.new (o := .tup [.ref p1, .ref p2, .int ((i : Int) + 1 + 4)]) hp3
      refine q _ p3 p1 p2 0 _ [] (i + 5) ((s1.trans s2).trans s3) ?_ (s3 _ _ (s2 _ _ upd_same)) (s3 _ _ upd_same) (Arg.begins na nb nc nd) hx ?_ (by omega) (by rw [List.length_map] at hl5; exact hl5)
      · rw [upd_same]
        show some (HO.tup [.ref p1, .ref p2, .int ((i : Int) + 1 + 4)]) = some (HO.tup [.ref p1, .ref p2, .int ((i + 5 : Nat) : Int)])
        rw [show ((i : Int) + 1 + 4) = ((i + 5 : Nat) : Int) by omega]
      · rw [show i + 5 = (i + 1) + 4 by omega, ← List.drop_drop, hdm]
        rfl
    | best =>
      refine iteF ⟨_, rfl, _, rfl, a, _, _, _, rfl, rfl, hS, at_of rfl (get_int hx), rfl, _, rfl, iteF ?_⟩
      exact plain .best rfl
    | fewest =>
      refine iteF ⟨_, rfl, _, rfl, a, _, _, _, rfl, rfl, hS, at_of rfl (get_int hx), rfl, _, rfl, iteF ?_⟩
      exact plain .fewest rfl
    | check ms _ hev hl =>
      refine iteF ⟨_, rfl, _, rfl, a, _, _, _, rfl, rfl, hS, at_of rfl (get_int hx), rfl, _, rfl, iteT ?_⟩
      have hx2 := drop_get hdm
      have hdm2 := drop_more hdm
      have hle : i + 2 + ms.length ≤ (ns.map V.int).length := by
        rw [List.length_map]
        simp only [List.length_cons, List.length_append, List.length_map] at hln
        omega
      refine ⟨_, rfl, _, _, rfl, rfl, _, rfl, _, rfl, a, _, _, _, rfl, rfl, hS, at_of (by omega) (get_int hx2), _, _, rfl, rfl, ?_⟩
      refine ⟨Nat.zero_le _, fun p1 hp1 => ?_⟩
      have s1 := Same.new (o := .lst []) hp1
      refine ⟨_, rfl, _, rfl, _, _, rfl, rfl, _, rfl, _, rfl, _, rfl, a, _, rfl, s1.seq hS, fun p2 hp2 => ?_⟩
      refine ⟨_, rfl, (by show 3 ≤ sizeLine; decide), fun p3 hp3 => ?_⟩
      have e1 : cutV (ns.map V.int) (some ((i : Int) + 1 + 1)) (some ((i : Int) + 1 + 1 + (ms.length : Nat))) = (ms.map fun (n : Nat) => (n : Int)).map V.int := by
        rw [cut_nat _ (i := i + 2) (j := i + 2 + ms.length) (by omega) (by omega) hle (by omega), ← List.map_drop, show i + 2 = i + 1 + 1 by omega, hdm2, ← List.map_take]
        congr 1
        rw [show i + 1 + 1 + ms.length - (i + 1 + 1) = (ms.map fun (n : Nat) => (n : Int)).length by rw [List.length_map]; omega]
        exact List.take_left' rfl
      rw [e1] at hp3 ⊢
      have s2 := Same.new (o := .lst ((ms.map fun (n : Nat) => (n : Int)).map V.int)) hp2
      have s3 := Same.new (o := .tup [.ref p1, .ref p2, .int ((i : Int) + 1 + 1 + (ms.length : Nat))]) hp3
      refine q _ p3 p1 p2 2 [] _ (i + 2 + ms.length) ((s1.trans s2).trans s3) ?_ (s3 _ _ (s2 _ _ upd_same)) (s3 _ _ upd_same) (Arg.check ms hl) hx ?_ (by omega) (by rw [List.length_map] at hle; exact hle)
      · rw [upd_same]
        show some (HO.tup [.ref p1, .ref p2, .int ((i : Int) + 1 + 1 + (ms.length : Nat))]) = some (HO.tup [.ref p1, .ref p2, .int ((i + 2 + ms.length : Nat) : Int)])
        rw [show ((i : Int) + 1 + 1 + (ms.length : Nat)) = ((i + 2 + ms.length : Nat) : Int) by omega]
      · rw [← List.drop_drop, show i + 2 = i + 1 + 1 by omega, hdm2]
        have e : ms.length = (ms.map fun (n : Nat) => (n : Int)).length := by rw [List.length_map]
        rw [e]
        exact List.drop_left' rfl
end
end Lace

set_option Elab.async false
set_option maxRecDepth 100000
set_option maxHeartbeats 2000000
/-! seam.py, the last: answers. -/
namespace Lace
open PySem PySem.Spec PyProof.Rows L2
section
variable {P : Program} {w : World} {K : PySem.W.Frag} {mg : Str → Option Value} {base : Heap} {C CE : Addr}
abbrev sAnswers : Stmt := top 32
def spAnswers (K : PySem.W.Frag) : Sp := fun vs H Q _ => ∃ (a : Addr) (ns : List Int), vs = [.ref a] ∧ SqL K H a (ns.map V.int) ∧ Sfx Uw23.init ns (PyUw23.answers ns) ∧ (PyUw23.answers ns).length ≤ 10000000 ∧
  ∀ (H' : Hp) (p : Addr), H' p = some (.lst ((PyUw23.answers ns).map V.int)) → Q (.ref p) H'
abbrev nAns : List Str := ["calls", "seam", "found", "at", "numbers", "row", "behind", "made"]
theorem scAnswers : FnScope nAns ["calls"] (defScope sAnswers) := ⟨rfl, rfl, rfl, by decide +kernel, rfl, by decide +kernel, by decide +kernel⟩
theorem ok_answers {f : Addr} {fd : FuncData} (F : Fun K "answers" "answers" sAnswers f fd) (T : STxt K C) (B : Blt mg) (hM : HasC P w K mg base C 3 "Seam" ["self"] (spSInit C CE)) (hCa : Has P w K mg base 1 "call_at" ["calls", "at"] (spCallAt K))
    (hAn : HasM P w K mg base C 7 "answer" ["self", "call", "numbers", "row"] (spAnswer C CE)) : FnOk P w K mg base CX0 8 f fd ["calls"] (spAnswers K) := by
  obtain ⟨fs, fds, mgs, Ms, bs, Gs⟩ := hM
  obtain ⟨fc, fdc, mgc, kpc, bc, Gc⟩ := hCa
  obtain ⟨fa, fda, ma, ba, Ga⟩ := hAn
  refine F.ok scAnswers (fun vs H Q E h => ?_) (fun cdv A outer s H vs Q E hr h => ?_)
  · obtain ⟨a, ns, rfl, _⟩ := h
    rfl
  · obtain ⟨a, ns, rfl, hS, hX, hz, k⟩ := h
    have hr1 : Room 1 _ := hr.mono (by decide)
    have hr4 : Room 4 _ := hr.mono (by decide)
    refine ⟨_, pss_cons (ps_set (i := 1) scAnswers.nd rfl (.inl rfl) (pe_make0 Ms Gs hr4 (by rfl) mgs bs .nil pass0))
      (pss_cons (ps_set (i := 2) scAnswers.nd rfl (.inl rfl) (pe_lst pa_nil))
      (pss_cons (ps_set (i := 3) scAnswers.nd rfl (.inl rfl) pe_int)
      (pss_cons (ps_while PassesOwn.never (pt_cmpR op_lt (pv 3) (pe_callB call_len_seq (by rfl) B.len PySem.boot_len (pa_cons (pv 0) pa_nil)) (nomark _))
        (pss_cons (ps_asg (pe_call Gc hr1 (by rfl) mgc kpc bc .nil pass0 (pa_cons (pv 0) (pa_cons (pv 3) pa_nil))) (pg_tup rfl (pgs_cons (pg_name (i := 4) scAnswers.nd rfl (.inl rfl)) (pgs_cons (pg_name (i := 5) scAnswers.nd rfl (.inl rfl)) (pgs_cons (pg_name (i := 6) scAnswers.nd rfl (.inl rfl)) pgs_nil)))))
        (pss_cons (ps_set (i := 7) scAnswers.nd rfl (.inl rfl) (pe_meth (pv 1) T.cl ma Ga hr ba .nil pass0 (pa_cons (pe_ix ix_list (pv 0) (pv 3) (fun _ _ => rfl)) (pa_cons (pv 4) (pa_cons (pv 5) pa_nil)))))
        (pss_cons (ps_expr (pe_bm PySem.F.plainAttrs_list PySem.F.slot_list_append PySem.F.type_list_append mt_append (pv 2) (pa_cons (pe_callB call_len_seq (by rfl) B.len PySem.boot_len (pa_cons (pv 7) pa_nil)) pa_nil)))
        (pss_cons (ps_expr (pe_bm PySem.F.plainAttrs_list PySem.F.slot_list_extend PySem.F.type_list_extend mt_extend (pv 2) (pa_cons (pv 7) pa_nil)))
        (pss_one (ps_set (i := 3) scAnswers.nd rfl (.inl rfl) (pv 6))))))))
      (pss_one (ps_ret (pv 2)))))), ?_⟩
    intro x dx nx ndx nex
    have s0 : Same H (upd (upd H dx (.own x)) x (.ins C dx [])) := fun b o e => by
      rw [upd_ne (ne_of_none e nx), upd_ne (ne_of_none e ndx)]
      exact e
    refine ⟨x, dx, rfl, upd_same, fun H1 hS1 kp => ⟨rfl, ?_⟩⟩
    have s1 : Same H H1 := Same.made nx ndx kp
    refine ⟨Nat.zero_le _, fun Fd hFd => ?_⟩
    have hF0 : H Fd = none := s1.free hFd
    have s2 : Same H1 (upd H1 Fd (.lst [])) := Same.new hFd
    -- the loop
    refine ⟨fun m σ H' => ∃ (i : Nat) (z : Uw23.Seam) (fnd out : List Int) (v4 v5 v6 v7 : Option V), σ = [some (.ref a), some (.ref x), some (.ref Fd), some (natV i), v4, v5, v6, v7] ∧ m + i = ns.length ∧ Same H H' ∧ SeamAt C CE H' x z ∧ Good z ∧
      H' Fd = some (.lst (fnd.map V.int)) ∧ Sfx z (ns.drop i) out ∧ fnd ++ out = PyUw23.answers ns, ⟨ns.length, 0, Uw23.init, [], PyUw23.answers ns, none, none, none, none, rfl, rfl, s1.trans s2, hS1.mono s2, good_init, upd_same, hX, rfl⟩, ?_⟩
    rintro m σ H2 ⟨i, z, fnd, out, v4, v5, v6, v7, rfl, hm, s3, hSz, gz, hF, hX2, hans⟩
    refine ⟨_, rfl, _, rfl, a, _, rfl, .inl (s3.seq hS), _, _, rfl, rfl, _, rfl, ?_⟩
    have hlen : (ns.map V.int).length = ns.length := List.length_map _
    rcases sfx_cases hX2 with ⟨hd, ho⟩ | ⟨c, rest, out', hone, hX3, hout⟩
    · have hge : ns.length ≤ i := by
        have := congrArg List.length hd
        rw [List.length_drop, List.length_nil] at this
        omega
      refine if_false_of (decide_eq_false (by rw [hlen]; omega)) ?_
      refine ⟨_, rfl, k _ Fd ?_⟩
      rw [← hans, ho, List.append_nil]
      exact hF
    · have hlt : i < ns.length := by
        have h1 := one_length hone
        rw [List.length_drop] at h1
        omega
      refine if_true_of (decide_eq_true (by rw [hlen]; omega)) ?_
      refine ⟨fun σ' H' => ∃ m', m' < m ∧ ∃ (i : Nat) (z : Uw23.Seam) (fnd out : List Int) (v4 v5 v6 v7 : Option V), σ' = [some (.ref a), some (.ref x), some (.ref Fd), some (natV i), v4, v5, v6, v7] ∧ m' + i = ns.length ∧ Same H H' ∧ SeamAt C CE H' x z ∧ Good z ∧
        H' Fd = some (.lst (fnd.map V.int)) ∧ Sfx z (ns.drop i) out ∧ fnd ++ out = PyUw23.answers ns, fun _ _ z => z, ?_⟩
      refine ⟨_, rfl, _, rfl, a, ns, i, c, rest, rfl, s3.seq hS, hone, fun H3 t n r code nums row j s4 ht hn hrw har hcode hdj hij hjl => ?_⟩
      refine ⟨t, _, rfl, SqT.of ht, rfl, _, _, rfl, _, _, rfl, _, _, rfl, rfl, ?_⟩
      have s34 := s3.trans s4
      have hSz3 := hSz.mono s4
      obtain ⟨qdx, e0, hq, _⟩ := id hSz3
      refine ⟨_, rfl, x, qdx, _, rfl, hq, sF_no _ (by decide +kernel), ?_⟩
      refine ⟨_, rfl, _, rfl, a, _, _, _, rfl, rfl, s34.seq hS, at_of rfl (get_int hcode), _, rfl, _, rfl, ?_⟩
      refine ⟨x, n, r, z, c, code, nums, row, rfl, har, hSz3, gz, hn, hrw, fun H5 r5 hb hS5 hn5 hr5 => ?_⟩
      have hF3 : H3 Fd = some (.lst (fnd.map V.int)) := s4 _ _ hF
      have nFx : Fd ≠ x := ne_of hF3 hq (by intro z; cases z)
      have hF5 : H5 Fd = some (.lst (fnd.map V.int)) := hb _ _ hF3 nFx
      have s5 : Same H H5 := fun b o e => hb b o (s34 _ _ e) (ne_of_none e nx)
      have nrF : r5 ≠ Fd := fun z => by
        rw [z, hF3] at hn5
        cases hn5
      have htot : fnd.length + ((ansOf z c).length + 1) ≤ 10000000 := by
        have := congrArg List.length hans
        rw [hout, List.length_append, List.length_append, List.length_cons] at this
        omega
      refine ⟨_, rfl, .inl ⟨rfl, _, SqL.of hF5⟩, _, rfl, r5, _, rfl, .inl (SqL.of hr5), Fd, _, _, rfl, rfl, hF5, ?_, ?_⟩
      · refine small_of 10000000 ?_
        rw [List.length_map]
        omega
      have hr6 : upd H5 Fd (.lst (fnd.map V.int ++ [V.int (((ansOf z c).map V.int).length : Nat)])) r5 = some (.lst ((ansOf z c).map V.int)) := (upd_ne nrF).trans hr5
      refine ⟨_, rfl, .inl ⟨rfl, _, SqL.of upd_same⟩, _, rfl, Fd, r5, _, _, rfl, rfl, upd_same, hr6, ?_, ?_⟩
      · refine Nat.le_of_lt (small_of 10000000 ?_)
        rw [List.length_append, List.length_map, List.length_map, List.length_singleton]
        omega
      refine ⟨_, rfl, m - (j - i), by omega, j, _, fnd ++ (((ansOf z c).length : Int) :: ansOf z c), out', _, _, _, _, rfl, by omega, ?_, ?_, step_good gz c, ?_, ?_, ?_⟩
      · exact Same.over (Same.over s5 hF0) hF0
      · obtain ⟨dx5, e5, hq5, ea5, edx5, hee, he5⟩ := hS5
        have nxF : x ≠ Fd := nFx.symm
        have neF : ea5 ≠ Fd := ne_of he5 hF5 (by intro z; cases z)
        exact ⟨dx5, e5, by rw [upd_ne nxF, upd_ne nxF]; exact hq5, ea5, edx5, hee, by rw [upd_ne neF, upd_ne neF]; exact he5⟩
      · rw [upd_same, List.map_append, List.map_cons, List.append_assoc, List.length_map]
        rfl
      · rw [hdj]
        exact hX3
      · rw [← hans, hout, List.append_assoc]
end
end Lace

set_option Elab.async false
set_option maxRecDepth 100000
set_option maxHeartbeats 4000000
/-! The end: what the top has written, every address a letter. -/
namespace Lace
open PySem PySem.Spec PyProof.Rows L2
theorem all_mk {P : Program} {w : World} {K : PySem.W.Frag} {h : Heap} {mg : Str → Option Value} {fa CE C aN f1 f2 f3 f4 f5 f6 f7 f8 f9 f10 f11 f12 f13 f14 f15 f16 f17 f18 f19 f20 f21 f22 f23 f24 f25 f26 f27 f28 f29 : Addr} (X : K.In h) (G : h.Ns mainGlobals mg) (hfa : mg "answers" = some (.ref fa))
    {odN od1 an1 od2 an2 od3 an3 od4 an4 od5 an5 od6 an6 od7 an7 od8 an8 od9 an9 od10 an10 od11 an11 od12 an12 od13 an13 od14 an14 od15 an15 od16 an16 od17 an17 od18 an18 od19 an19 od20 an20 od21 an21 od22 an22 od23 an23 od24 an24 od25 an25 od26 an26 od27 an27 od28 an28 od29 an29 : Option Addr} {slN sl1 sl2 sl3 sl4 sl5 sl6 sl7 sl8 sl9 sl10 sl11 sl12 sl13 sl14 sl15 sl16 sl17 sl18 sl19 sl20 sl21 sl22 sl23 sl24 sl25 sl26 sl27 sl28 sl29 : Array (Option Value)} {nN : Nat} {tN1 tN2 tMOST_MESHES tMOST_TAKEN tNOT_SO tNOT_ALL tCROWDED tMOST_KNOTS tBEGINS tBEST tCHECK tNUMBERS : Tok}
    {oc1 kV1 dc1 pm1 cd1 ct1 oc2 kV2 dc2 pm2 cd2 ct2 oc3 kV3 dc3 pm3 cd3 ct3 oc4 kV4 dc4 pm4 cd4 ct4 oc5 kV5 dc5 pm5 cd5 ct5 oc6 kV6 dc6 pm6 cd6 ct6 oc7 kV7 dc7 pm7 cd7 ct7 oc8 kV8 dc8 pm8 cd8 ct8 oc9 kV9 dc9 pm9 cd9 ct9 oc10 kV10 dc10 pm10 cd10 ct10 oc11 kV11 dc11 pm11 cd11 ct11 oc12 kV12 dc12 pm12 cd12 ct12 oc13 kV13 dc13 pm13 cd13 ct13 oc14 kV14 dc14 pm14 cd14 ct14 oc15 kV15 dc15 pm15 cd15 ct15 oc16 kV16 dc16 pm16 cd16 ct16 oc17 kV17 dc17 pm17 cd17 ct17 oc18 kV18 dc18 pm18 cd18 ct18 oc19 kV19 dc19 pm19 cd19 ct19 oc20 kV20 dc20 pm20 cd20 ct20 oc21 kV21 dc21 pm21 cd21 ct21 oc22 kV22 dc22 pm22 cd22 ct22 oc23 kV23 dc23 pm23 cd23 ct23 oc24 kV24 dc24 pm24 cd24 ct24 oc25 kV25 dc25 pm25 cd25 ct25 oc26 kV26 dc26 pm26 cd26 ct26 oc27 kV27 dc27 pm27 cd27 ct27 oc28 kV28 dc28 pm28 cd28 ct28 oc29 kV29 dc29 pm29 cd29 ct29 : Value}
    (aCEdges : PySem.W.nsIn K mainGlobals "Edges" = some (some (.ref CE)))
    (aCSeam : PySem.W.nsIn K mainGlobals "Seam" = some (some (.ref C)))
    (a1 : PySem.W.nsIn K mainGlobals "is_knot" = some (some (.ref f1)))
    (l1 : K.lookup f1 = some ⟨oc1, od1, .func (PySem.W.fnOf "is_knot" "is_knot" (defArgs sIsKnot) (defBody sIsKnot) (defScope sIsKnot) .none kV1 dc1 pm1 an1 cd1 ct1), sl1⟩)
    (c1 : PySem.W.codeIn K cd1 "is_knot" = true)
    (k1 : PySem.W.keepIn K (.ref f1) = true)
    (a2 : PySem.W.nsIn K mainGlobals "is_heavy" = some (some (.ref f2)))
    (l2 : K.lookup f2 = some ⟨oc2, od2, .func (PySem.W.fnOf "is_heavy" "is_heavy" (defArgs sIsHeavy) (defBody sIsHeavy) (defScope sIsHeavy) .none kV2 dc2 pm2 an2 cd2 ct2), sl2⟩)
    (c2 : PySem.W.codeIn K cd2 "is_heavy" = true)
    (k2 : PySem.W.keepIn K (.ref f2) = true)
    (a3 : PySem.W.nsIn K mainGlobals "knots_of" = some (some (.ref f3)))
    (l3 : K.lookup f3 = some ⟨oc3, od3, .func (PySem.W.fnOf "knots_of" "knots_of" (defArgs sKnotsOf) (defBody sKnotsOf) (defScope sKnotsOf) .none kV3 dc3 pm3 an3 cd3 ct3), sl3⟩)
    (c3 : PySem.W.codeIn K cd3 "knots_of" = true)
    (k3 : PySem.W.keepIn K (.ref f3) = true)
    (a4 : PySem.W.nsIn K mainGlobals "in_pairs" = some (some (.ref f4)))
    (l4 : K.lookup f4 = some ⟨oc4, od4, .func (PySem.W.fnOf "in_pairs" "in_pairs" (defArgs sInPairs) (defBody sInPairs) (defScope sInPairs) .none kV4 dc4 pm4 an4 cd4 ct4), sl4⟩)
    (c4 : PySem.W.codeIn K cd4 "in_pairs" = true)
    (k4 : PySem.W.keepIn K (.ref f4) = true)
    (a5 : PySem.W.nsIn K mainGlobals "in_a_row" = some (some (.ref f5)))
    (l5 : K.lookup f5 = some ⟨oc5, od5, .func (PySem.W.fnOf "in_a_row" "in_a_row" (defArgs sInRow) (defBody sInRow) (defScope sInRow) .none kV5 dc5 pm5 an5 cd5 ct5), sl5⟩)
    (c5 : PySem.W.codeIn K cd5 "in_a_row" = true)
    (k5 : PySem.W.keepIn K (.ref f5) = true)
    (a6 : PySem.W.findIn K (.ref CE) "__init__" = some (some (.ref f6)))
    (i6 : PySem.W.isFn K (.ref f6) = true)
    (l6 : K.lookup f6 = some ⟨oc6, od6, .func (PySem.W.fnOf "__init__" "Edges.__init__" (defArgs sEInit) (defBody sEInit) (defScope sEInit) .none kV6 dc6 pm6 an6 cd6 ct6), sl6⟩)
    (c6 : PySem.W.codeIn K cd6 "Edges.__init__" = true)
    (k6 : PySem.W.keepIn K (.ref f6) = true)
    (a7 : PySem.W.findIn K (.ref CE) "longest" = some (some (.ref f7)))
    (i7 : PySem.W.isFn K (.ref f7) = true)
    (l7 : K.lookup f7 = some ⟨oc7, od7, .func (PySem.W.fnOf "longest" "Edges.longest" (defArgs sLongest) (defBody sLongest) (defScope sLongest) .none kV7 dc7 pm7 an7 cd7 ct7), sl7⟩)
    (c7 : PySem.W.codeIn K cd7 "Edges.longest" = true)
    (k7 : PySem.W.keepIn K (.ref f7) = true)
    (a8 : PySem.W.findIn K (.ref CE) "shortest" = some (some (.ref f8)))
    (i8 : PySem.W.isFn K (.ref f8) = true)
    (l8 : K.lookup f8 = some ⟨oc8, od8, .func (PySem.W.fnOf "shortest" "Edges.shortest" (defArgs sShortest) (defBody sShortest) (defScope sShortest) .none kV8 dc8 pm8 an8 cd8 ct8), sl8⟩)
    (c8 : PySem.W.codeIn K cd8 "Edges.shortest" = true)
    (k8 : PySem.W.keepIn K (.ref f8) = true)
    (a9 : PySem.W.findIn K (.ref CE) "is_all" = some (some (.ref f9)))
    (i9 : PySem.W.isFn K (.ref f9) = true)
    (l9 : K.lookup f9 = some ⟨oc9, od9, .func (PySem.W.fnOf "is_all" "Edges.is_all" (defArgs sIsAll) (defBody sIsAll) (defScope sIsAll) .none kV9 dc9 pm9 an9 cd9 ct9), sl9⟩)
    (c9 : PySem.W.codeIn K cd9 "Edges.is_all" = true)
    (k9 : PySem.W.keepIn K (.ref f9) = true)
    (a10 : PySem.W.findIn K (.ref CE) "has_room" = some (some (.ref f10)))
    (i10 : PySem.W.isFn K (.ref f10) = true)
    (l10 : K.lookup f10 = some ⟨oc10, od10, .func (PySem.W.fnOf "has_room" "Edges.has_room" (defArgs sHasRoom) (defBody sHasRoom) (defScope sHasRoom) .none kV10 dc10 pm10 an10 cd10 ct10), sl10⟩)
    (c10 : PySem.W.codeIn K cd10 "Edges.has_room" = true)
    (k10 : PySem.W.keepIn K (.ref f10) = true)
    (a11 : PySem.W.findIn K (.ref CE) "may_stand" = some (some (.ref f11)))
    (i11 : PySem.W.isFn K (.ref f11) = true)
    (l11 : K.lookup f11 = some ⟨oc11, od11, .func (PySem.W.fnOf "may_stand" "Edges.may_stand" (defArgs sMayStand) (defBody sMayStand) (defScope sMayStand) .none kV11 dc11 pm11 an11 cd11 ct11), sl11⟩)
    (c11 : PySem.W.codeIn K cd11 "Edges.may_stand" = true)
    (k11 : PySem.W.keepIn K (.ref f11) = true)
    (a12 : PySem.W.findIn K (.ref CE) "apart" = some (some (.ref f12)))
    (i12 : PySem.W.isFn K (.ref f12) = true)
    (l12 : K.lookup f12 = some ⟨oc12, od12, .func (PySem.W.fnOf "apart" "Edges.apart" (defArgs sApart) (defBody sApart) (defScope sApart) .none kV12 dc12 pm12 an12 cd12 ct12), sl12⟩)
    (c12 : PySem.W.codeIn K cd12 "Edges.apart" = true)
    (k12 : PySem.W.keepIn K (.ref f12) = true)
    (a13 : PySem.W.findIn K (.ref CE) "fewest" = some (some (.ref f13)))
    (i13 : PySem.W.isFn K (.ref f13) = true)
    (l13 : K.lookup f13 = some ⟨oc13, od13, .func (PySem.W.fnOf "fewest" "Edges.fewest" (defArgs sFewest) (defBody sFewest) (defScope sFewest) .none kV13 dc13 pm13 an13 cd13 ct13), sl13⟩)
    (c13 : PySem.W.codeIn K cd13 "Edges.fewest" = true)
    (k13 : PySem.W.keepIn K (.ref f13) = true)
    (a14 : PySem.W.nsIn K mainGlobals "are_edges" = some (some (.ref f14)))
    (l14 : K.lookup f14 = some ⟨oc14, od14, .func (PySem.W.fnOf "are_edges" "are_edges" (defArgs sAreEdges) (defBody sAreEdges) (defScope sAreEdges) .none kV14 dc14 pm14 an14 cd14 ct14), sl14⟩)
    (c14 : PySem.W.codeIn K cd14 "are_edges" = true)
    (k14 : PySem.W.keepIn K (.ref f14) = true)
    (a15 : PySem.W.nsIn K mainGlobals "with_knot" = some (some (.ref f15)))
    (l15 : K.lookup f15 = some ⟨oc15, od15, .func (PySem.W.fnOf "with_knot" "with_knot" (defArgs sWith) (defBody sWith) (defScope sWith) .none kV15 dc15 pm15 an15 cd15 ct15), sl15⟩)
    (c15 : PySem.W.codeIn K cd15 "with_knot" = true)
    (k15 : PySem.W.keepIn K (.ref f15) = true)
    (a16 : PySem.W.nsIn K mainGlobals "taken_by" = some (some (.ref f16)))
    (l16 : K.lookup f16 = some ⟨oc16, od16, .func (PySem.W.fnOf "taken_by" "taken_by" (defArgs sTaken) (defBody sTaken) (defScope sTaken) .none kV16 dc16 pm16 an16 cd16 ct16), sl16⟩)
    (c16 : PySem.W.codeIn K cd16 "taken_by" = true)
    (k16 : PySem.W.keepIn K (.ref f16) = true)
    (a17 : PySem.W.nsIn K mainGlobals "uneven" = some (some (.ref f17)))
    (l17 : K.lookup f17 = some ⟨oc17, od17, .func (PySem.W.fnOf "uneven" "uneven" (defArgs sUneven) (defBody sUneven) (defScope sUneven) .none kV17 dc17 pm17 an17 cd17 ct17), sl17⟩)
    (c17 : PySem.W.codeIn K cd17 "uneven" = true)
    (k17 : PySem.W.keepIn K (.ref f17) = true)
    (a18 : PySem.W.nsIn K mainGlobals "first_crowded" = some (some (.ref f18)))
    (l18 : K.lookup f18 = some ⟨oc18, od18, .func (PySem.W.fnOf "first_crowded" "first_crowded" (defArgs sCrowded) (defBody sCrowded) (defScope sCrowded) .none kV18 dc18 pm18 an18 cd18 ct18), sl18⟩)
    (c18 : PySem.W.codeIn K cd18 "first_crowded" = true)
    (k18 : PySem.W.keepIn K (.ref f18) = true)
    (a19 : PySem.W.nsIn K mainGlobals "may_follow" = some (some (.ref f19)))
    (l19 : K.lookup f19 = some ⟨oc19, od19, .func (PySem.W.fnOf "may_follow" "may_follow" (defArgs sMayFollow) (defBody sMayFollow) (defScope sMayFollow) .none kV19 dc19 pm19 an19 cd19 ct19), sl19⟩)
    (c19 : PySem.W.codeIn K cd19 "may_follow" = true)
    (k19 : PySem.W.keepIn K (.ref f19) = true)
    (a20 : PySem.W.nsIn K mainGlobals "one_longer" = some (some (.ref f20)))
    (l20 : K.lookup f20 = some ⟨oc20, od20, .func (PySem.W.fnOf "one_longer" "one_longer" (defArgs sLonger) (defBody sLonger) (defScope sLonger) .none kV20 dc20 pm20 an20 cd20 ct20), sl20⟩)
    (c20 : PySem.W.codeIn K cd20 "one_longer" = true)
    (k20 : PySem.W.keepIn K (.ref f20) = true)
    (a21 : PySem.W.nsIn K mainGlobals "fewest_right" = some (some (.ref f21)))
    (l21 : K.lookup f21 = some ⟨oc21, od21, .func (PySem.W.fnOf "fewest_right" "fewest_right" (defArgs sFewestR) (defBody sFewestR) (defScope sFewestR) .none kV21 dc21 pm21 an21 cd21 ct21), sl21⟩)
    (c21 : PySem.W.codeIn K cd21 "fewest_right" = true)
    (k21 : PySem.W.keepIn K (.ref f21) = true)
    (a22 : PySem.W.nsIn K mainGlobals "least_uneven" = some (some (.ref f22)))
    (l22 : K.lookup f22 = some ⟨oc22, od22, .func (PySem.W.fnOf "least_uneven" "least_uneven" (defArgs sLeast) (defBody sLeast) (defScope sLeast) .none kV22 dc22 pm22 an22 cd22 ct22), sl22⟩)
    (c22 : PySem.W.codeIn K cd22 "least_uneven" = true)
    (k22 : PySem.W.keepIn K (.ref f22) = true)
    (a23 : PySem.W.findIn K (.ref C) "__init__" = some (some (.ref f23)))
    (i23 : PySem.W.isFn K (.ref f23) = true)
    (l23 : K.lookup f23 = some ⟨oc23, od23, .func (PySem.W.fnOf "__init__" "Seam.__init__" (defArgs sSInit) (defBody sSInit) (defScope sSInit) .none kV23 dc23 pm23 an23 cd23 ct23), sl23⟩)
    (c23 : PySem.W.codeIn K cd23 "Seam.__init__" = true)
    (k23 : PySem.W.keepIn K (.ref f23) = true)
    (a24 : PySem.W.findIn K (.ref C) "begins" = some (some (.ref f24)))
    (i24 : PySem.W.isFn K (.ref f24) = true)
    (l24 : K.lookup f24 = some ⟨oc24, od24, .func (PySem.W.fnOf "begins" "Seam.begins" (defArgs sBegins) (defBody sBegins) (defScope sBegins) .none kV24 dc24 pm24 an24 cd24 ct24), sl24⟩)
    (c24 : PySem.W.codeIn K cd24 "Seam.begins" = true)
    (k24 : PySem.W.keepIn K (.ref f24) = true)
    (a25 : PySem.W.findIn K (.ref C) "best" = some (some (.ref f25)))
    (i25 : PySem.W.isFn K (.ref f25) = true)
    (l25 : K.lookup f25 = some ⟨oc25, od25, .func (PySem.W.fnOf "best" "Seam.best" (defArgs sBest) (defBody sBest) (defScope sBest) .none kV25 dc25 pm25 an25 cd25 ct25), sl25⟩)
    (c25 : PySem.W.codeIn K cd25 "Seam.best" = true)
    (k25 : PySem.W.keepIn K (.ref f25) = true)
    (a26 : PySem.W.findIn K (.ref C) "check" = some (some (.ref f26)))
    (i26 : PySem.W.isFn K (.ref f26) = true)
    (l26 : K.lookup f26 = some ⟨oc26, od26, .func (PySem.W.fnOf "check" "Seam.check" (defArgs sCheck) (defBody sCheck) (defScope sCheck) .none kV26 dc26 pm26 an26 cd26 ct26), sl26⟩)
    (c26 : PySem.W.codeIn K cd26 "Seam.check" = true)
    (k26 : PySem.W.keepIn K (.ref f26) = true)
    (a27 : PySem.W.findIn K (.ref C) "answer" = some (some (.ref f27)))
    (i27 : PySem.W.isFn K (.ref f27) = true)
    (l27 : K.lookup f27 = some ⟨oc27, od27, .func (PySem.W.fnOf "answer" "Seam.answer" (defArgs sAnswer) (defBody sAnswer) (defScope sAnswer) .none kV27 dc27 pm27 an27 cd27 ct27), sl27⟩)
    (c27 : PySem.W.codeIn K cd27 "Seam.answer" = true)
    (k27 : PySem.W.keepIn K (.ref f27) = true)
    (a28 : PySem.W.nsIn K mainGlobals "call_at" = some (some (.ref f28)))
    (l28 : K.lookup f28 = some ⟨oc28, od28, .func (PySem.W.fnOf "call_at" "call_at" (defArgs sCallAt) (defBody sCallAt) (defScope sCallAt) .none kV28 dc28 pm28 an28 cd28 ct28), sl28⟩)
    (c28 : PySem.W.codeIn K cd28 "call_at" = true)
    (k28 : PySem.W.keepIn K (.ref f28) = true)
    (a29 : PySem.W.nsIn K mainGlobals "answers" = some (some (.ref f29)))
    (l29 : K.lookup f29 = some ⟨oc29, od29, .func (PySem.W.fnOf "answers" "answers" (defArgs sAnswers) (defBody sAnswers) (defScope sAnswers) .none kV29 dc29 pm29 an29 cd29 ct29), sl29⟩)
    (c29 : PySem.W.codeIn K cd29 "answers" = true)
    (k29 : PySem.W.keepIn K (.ref f29) = true)
    (pgEdges : PySem.W.plainGet K CE Str.empty = true)
    (hdEdges : PySem.W.hasDictIn K CE = true)
    (poEdges : PySem.W.plainOver K CE = true)
    (saEdges : PySem.W.findIn K (.ref CE) "__setattr__" = some (some (.builtin "object.__setattr__")))
    (mkEdges : PySem.W.makesIn K CE = true)
    (kcEdges : PySem.W.keepIn K (.ref CE) = true)
    (nEdges_upper : PySem.W.findIn K (.ref CE) "upper" = some none)
    (nEdges_lower : PySem.W.findIn K (.ref CE) "lower" = some none)
    (nEdges_most : PySem.W.findIn K (.ref CE) "most" = some none)
    (nEdges_beside : PySem.W.findIn K (.ref CE) "beside" = some none)
    (pgSeam : PySem.W.plainGet K C Str.empty = true)
    (hdSeam : PySem.W.hasDictIn K C = true)
    (poSeam : PySem.W.plainOver K C = true)
    (saSeam : PySem.W.findIn K (.ref C) "__setattr__" = some (some (.builtin "object.__setattr__")))
    (mkSeam : PySem.W.makesIn K C = true)
    (kcSeam : PySem.W.keepIn K (.ref C) = true)
    (nSeam_edges : PySem.W.findIn K (.ref C) "edges" = some none)
    (gMOST_MESHES : PySem.W.nsIn K mainGlobals "MOST_MESHES" = some (some (.int 8 tMOST_MESHES)))
    (gMOST_TAKEN : PySem.W.nsIn K mainGlobals "MOST_TAKEN" = some (some (.int 4 tMOST_TAKEN)))
    (gNOT_SO : PySem.W.nsIn K mainGlobals "NOT_SO" = some (some (.int (-1) tNOT_SO)))
    (gNOT_ALL : PySem.W.nsIn K mainGlobals "NOT_ALL" = some (some (.int (-6) tNOT_ALL)))
    (gCROWDED : PySem.W.nsIn K mainGlobals "CROWDED" = some (some (.int (-7) tCROWDED)))
    (gMOST_KNOTS : PySem.W.nsIn K mainGlobals "MOST_KNOTS" = some (some (.int 20 tMOST_KNOTS)))
    (gBEGINS : PySem.W.nsIn K mainGlobals "BEGINS" = some (some (.int 0 tBEGINS)))
    (gBEST : PySem.W.nsIn K mainGlobals "BEST" = some (some (.int 1 tBEST)))
    (gCHECK : PySem.W.nsIn K mainGlobals "CHECK" = some (some (.int 2 tCHECK)))
    (gNUMBERS : PySem.W.nsIn K mainGlobals "NUMBERS" = some (some (.int 4 tNUMBERS)))
    (gNOTHING : PySem.W.nsIn K mainGlobals "NOTHING" = some (some (.ref aN)))
    (lNOTHING : K.lookup aN = some ⟨.type "tuple", odN, .seq #[.int 0 tN1, .int 0 tN2] nN, slN⟩)
    (zrange : PySem.W.nsIn K mainGlobals "range" = some none)
    (zlen : PySem.W.nsIn K mainGlobals "len" = some none)
    (zmax : PySem.W.nsIn K mainGlobals "max" = some none)
    (zmin : PySem.W.nsIn K mainGlobals "min" = some none)
    (zabs : PySem.W.nsIn K mainGlobals "abs" = some none)
    (zall : PySem.W.nsIn K mainGlobals "all" = some none)
    : ∃ fd : FuncData, (∀ (s : Shared) (us : List Value), us.length = (["calls"] : List Str).length → BindsTo s fd ⟨us, []⟩ ((["calls"] : List Str).zip us)) ∧ ∀ base : Heap, K.In base → base.Ns mainGlobals mg → FnOk P w K mg base CX0 8 fa fd ["calls"] (spAnswers K) := by
  have e := hfa.symm.trans (PySem.W.mg_of X G a29)
  cases e
  have B : Blt mg := ⟨PySem.W.mg_none_of X G zrange, PySem.W.mg_none_of X G zlen, PySem.W.mg_none_of X G zmax, PySem.W.mg_none_of X G zmin, PySem.W.mg_none_of X G zabs, PySem.W.mg_none_of X G zall⟩
  have TE : ETxt K CE := ⟨⟨pgEdges, hdEdges, poEdges, saEdges⟩, nEdges_upper, nEdges_lower, nEdges_most, nEdges_beside⟩
  have TS : STxt K C := ⟨⟨pgSeam, hdSeam, poSeam, saSeam⟩, nSeam_edges⟩
  have N : Noth K mg := ⟨aN, PySem.W.mg_of X G gNOTHING, fun H => .inr ⟨_, _, _, lNOTHING, rfl, rfl, (by show 2 ≤ sizeLine; decide), .cons ⟨_, rfl⟩ (.cons ⟨_, rfl⟩ .nil)⟩⟩
  have F1 := fun_mk (st := sIsKnot) l1 c1 k1
  have b1 := F1.binds (ps := ["knot", "most"]) fun _ _ _ _ _ _ us hl => match us, hl with | [_, _], _ => rfl
  have F2 := fun_mk (st := sIsHeavy) l2 c2 k2
  have b2 := F2.binds (ps := ["knot"]) fun _ _ _ _ _ _ us hl => match us, hl with | [_], _ => rfl
  have F3 := fun_mk (st := sKnotsOf) l3 c3 k3
  have b3 := F3.binds (ps := ["most"]) fun _ _ _ _ _ _ us hl => match us, hl with | [_], _ => rfl
  have F4 := fun_mk (st := sInPairs) l4 c4 k4
  have b4 := F4.binds (ps := ["numbers"]) fun _ _ _ _ _ _ us hl => match us, hl with | [_], _ => rfl
  have F5 := fun_mk (st := sInRow) l5 c5 k5
  have b5 := F5.binds (ps := ["lacing"]) fun _ _ _ _ _ _ us hl => match us, hl with | [_], _ => rfl
  have F6 := fun_mk (st := sEInit) l6 c6 k6
  have b6 := F6.binds (ps := ["self", "upper", "lower", "most", "beside"]) fun _ _ _ _ _ _ us hl => match us, hl with | [_, _, _, _, _], _ => rfl
  have F7 := fun_mk (st := sLongest) l7 c7 k7
  have b7 := F7.binds (ps := ["self"]) fun _ _ _ _ _ _ us hl => match us, hl with | [_], _ => rfl
  have F8 := fun_mk (st := sShortest) l8 c8 k8
  have b8 := F8.binds (ps := ["self"]) fun _ _ _ _ _ _ us hl => match us, hl with | [_], _ => rfl
  have F9 := fun_mk (st := sIsAll) l9 c9 k9
  have b9 := F9.binds (ps := ["self", "taken"]) fun _ _ _ _ _ _ us hl => match us, hl with | [_, _], _ => rfl
  have F10 := fun_mk (st := sHasRoom) l10 c10 k10
  have b10 := F10.binds (ps := ["self", "taken"]) fun _ _ _ _ _ _ us hl => match us, hl with | [_, _], _ => rfl
  have F11 := fun_mk (st := sMayStand) l11 c11 k11
  have b11 := F11.binds (ps := ["self", "knot", "other"]) fun _ _ _ _ _ _ us hl => match us, hl with | [_, _, _], _ => rfl
  have F12 := fun_mk (st := sApart) l12 c12 k12
  have b12 := F12.binds (ps := ["self", "taken"]) fun _ _ _ _ _ _ us hl => match us, hl with | [_, _], _ => rfl
  have F13 := fun_mk (st := sFewest) l13 c13 k13
  have b13 := F13.binds (ps := ["self"]) fun _ _ _ _ _ _ us hl => match us, hl with | [_], _ => rfl
  have F14 := fun_mk (st := sAreEdges) l14 c14 k14
  have b14 := F14.binds (ps := ["upper", "lower", "most", "beside"]) fun _ _ _ _ _ _ us hl => match us, hl with | [_, _, _, _], _ => rfl
  have F15 := fun_mk (st := sWith) l15 c15 k15
  have b15 := F15.binds (ps := ["taken", "knot"]) fun _ _ _ _ _ _ us hl => match us, hl with | [_, _], _ => rfl
  have F16 := fun_mk (st := sTaken) l16 c16 k16
  have b16 := F16.binds (ps := ["lacing"]) fun _ _ _ _ _ _ us hl => match us, hl with | [_], _ => rfl
  have F17 := fun_mk (st := sUneven) l17 c17 k17
  have b17 := F17.binds (ps := ["edges", "lacing"]) fun _ _ _ _ _ _ us hl => match us, hl with | [_, _], _ => rfl
  have F18 := fun_mk (st := sCrowded) l18 c18 k18
  have b18 := F18.binds (ps := ["edges", "lacing"]) fun _ _ _ _ _ _ us hl => match us, hl with | [_, _], _ => rfl
  have F19 := fun_mk (st := sMayFollow) l19 c19 k19
  have b19 := F19.binds (ps := ["edges", "lacing", "knot"]) fun _ _ _ _ _ _ us hl => match us, hl with | [_, _, _], _ => rfl
  have F20 := fun_mk (st := sLonger) l20 c20 k20
  have b20 := F20.binds (ps := ["edges", "lacings"]) fun _ _ _ _ _ _ us hl => match us, hl with | [_, _], _ => rfl
  have F21 := fun_mk (st := sFewestR) l21 c21 k21
  have b21 := F21.binds (ps := ["edges"]) fun _ _ _ _ _ _ us hl => match us, hl with | [_], _ => rfl
  have F22 := fun_mk (st := sLeast) l22 c22 k22
  have b22 := F22.binds (ps := ["edges", "lacings"]) fun _ _ _ _ _ _ us hl => match us, hl with | [_, _], _ => rfl
  have F23 := fun_mk (st := sSInit) l23 c23 k23
  have b23 := F23.binds (ps := ["self"]) fun _ _ _ _ _ _ us hl => match us, hl with | [_], _ => rfl
  have F24 := fun_mk (st := sBegins) l24 c24 k24
  have b24 := F24.binds (ps := ["self", "upper", "lower", "most", "beside"]) fun _ _ _ _ _ _ us hl => match us, hl with | [_, _, _, _, _], _ => rfl
  have F25 := fun_mk (st := sBest) l25 c25 k25
  have b25 := F25.binds (ps := ["self"]) fun _ _ _ _ _ _ us hl => match us, hl with | [_], _ => rfl
  have F26 := fun_mk (st := sCheck) l26 c26 k26
  have b26 := F26.binds (ps := ["self", "lacing"]) fun _ _ _ _ _ _ us hl => match us, hl with | [_, _], _ => rfl
  have F27 := fun_mk (st := sAnswer) l27 c27 k27
  have b27 := F27.binds (ps := ["self", "call", "numbers", "row"]) fun _ _ _ _ _ _ us hl => match us, hl with | [_, _, _, _], _ => rfl
  have F28 := fun_mk (st := sCallAt) l28 c28 k28
  have b28 := F28.binds (ps := ["calls", "at"]) fun _ _ _ _ _ _ us hl => match us, hl with | [_, _], _ => rfl
  have F29 := fun_mk (st := sAnswers) l29 c29 k29
  have b29 := F29.binds (ps := ["calls"]) fun _ _ _ _ _ _ us hl => match us, hl with | [_], _ => rfl
  refine ⟨PySem.W.fnOf "answers" "answers" (defArgs sAnswers) (defBody sAnswers) (defScope sAnswers) .none kV29 dc29 pm29 an29 cd29 ct29, fun s us hu => match us, hu with | [_], _ => .of_eq rfl, fun base _ _ => ?_⟩
  have hIsKnot : Has P w K mg base 1 "is_knot" ["knot", "most"] spIsKnot := ⟨f1, _, PySem.W.mg_of X G a1, k1, b1, ok_isKnot F1 B⟩
  have hIsHeavy : Has P w K mg base 1 "is_heavy" ["knot"] spIsHeavy := ⟨f2, _, PySem.W.mg_of X G a2, k2, b2, ok_isHeavy F2 B⟩
  have hKnotsOf : Has P w K mg base 1 "knots_of" ["most"] spKnotsOf := ⟨f3, _, PySem.W.mg_of X G a3, k3, b3, ok_knotsOf F3 B⟩
  have hInPairs : Has P w K mg base 1 "in_pairs" ["numbers"] (spInPairs K) := ⟨f4, _, PySem.W.mg_of X G a4, k4, b4, ok_inPairs F4 B⟩
  have hInRow : Has P w K mg base 1 "in_a_row" ["lacing"] spInRow := ⟨f5, _, PySem.W.mg_of X G a5, k5, b5, ok_inRow F5⟩
  have hEdges : HasC P w K mg base CE 1 "Edges" ["self", "upper", "lower", "most", "beside"] (spEInit CE) := ⟨f6, _, PySem.W.mg_of X G aCEdges, ⟨mkEdges, a6, i6, kcEdges⟩, b6, ok_eInit F6 TE⟩
  have hLongest : HasM P w K mg base CE 1 "longest" ["self"] (spLongest CE) := ⟨f7, _, ⟨a7, i7, k7⟩, b7, ok_longest F7 TE B⟩
  have hShortest : HasM P w K mg base CE 1 "shortest" ["self"] (spShortest CE) := ⟨f8, _, ⟨a8, i8, k8⟩, b8, ok_shortest F8 TE B⟩
  have hIsAll : HasM P w K mg base CE 1 "is_all" ["self", "taken"] (spIsAll K CE) := ⟨f9, _, ⟨a9, i9, k9⟩, b9, ok_isAll F9 TE⟩
  have hHasRoom : HasM P w K mg base CE 1 "has_room" ["self", "taken"] (spHasRoom K CE) := ⟨f10, _, ⟨a10, i10, k10⟩, b10, ok_hasRoom F10 TE⟩
  have hMayStand : HasM P w K mg base CE 2 "may_stand" ["self", "knot", "other"] (spMayStand CE) := ⟨f11, _, ⟨a11, i11, k11⟩, b11, ok_mayStand F11 TE hIsHeavy⟩
  have hApart : HasM P w K mg base CE 1 "apart" ["self", "taken"] (spApart K CE) := ⟨f12, _, ⟨a12, i12, k12⟩, b12, ok_apart F12 TE B⟩
  have hFewest : HasM P w K mg base CE 2 "fewest" ["self"] (spFewest CE) := ⟨f13, _, ⟨a13, i13, k13⟩, b13, ok_fewest F13 TE hLongest⟩
  have hAreEdges : Has P w K mg base 1 "are_edges" ["upper", "lower", "most", "beside"] spAreEdges := ⟨f14, _, PySem.W.mg_of X G a14, k14, b14, ok_areEdges F14 (PySem.W.mg_of X G gMOST_MESHES) (PySem.W.mg_of X G gMOST_TAKEN)⟩
  have hWith : Has P w K mg base 1 "with_knot" ["taken", "knot"] (spWith K) := ⟨f15, _, PySem.W.mg_of X G a15, k15, b15, ok_with F15⟩
  have hTaken : Has P w K mg base 2 "taken_by" ["lacing"] (spTaken K) := ⟨f16, _, PySem.W.mg_of X G a16, k16, b16, ok_taken F16 N hWith⟩
  have hUneven : Has P w K mg base 2 "uneven" ["edges", "lacing"] (spUneven CE) := ⟨f17, _, PySem.W.mg_of X G a17, k17, b17, ok_uneven F17 TE B N hWith hApart⟩
  have hCrowded : Has P w K mg base 3 "first_crowded" ["edges", "lacing"] (spCrowded CE) := ⟨f18, _, PySem.W.mg_of X G a18, k18, b18, ok_crowded F18 TE B hMayStand⟩
  have hMayFollow : Has P w K mg base 3 "may_follow" ["edges", "lacing", "knot"] (spMayFollow CE) := ⟨f19, _, PySem.W.mg_of X G a19, k19, b19, ok_mayFollow F19 TE hMayStand hHasRoom hWith hTaken⟩
  have hLonger : Has P w K mg base 4 "one_longer" ["edges", "lacings"] (spLonger CE) := ⟨f20, _, PySem.W.mg_of X G a20, k20, b20, ok_longer F20 TE hKnotsOf hMayFollow⟩
  have hFewestR : Has P w K mg base 5 "fewest_right" ["edges"] (spFewestR CE) := ⟨f21, _, PySem.W.mg_of X G a21, k21, b21, ok_fewestR F21 TE B hShortest hIsAll hTaken hLonger⟩
  have hLeast : Has P w K mg base 3 "least_uneven" ["edges", "lacings"] (spLeast CE) := ⟨f22, _, PySem.W.mg_of X G a22, k22, b22, ok_least F22 B hUneven⟩
  have hSeam : HasC P w K mg base C 3 "Seam" ["self"] (spSInit C CE) := ⟨f23, _, PySem.W.mg_of X G aCSeam, ⟨mkSeam, a23, i23, kcSeam⟩, b23, ok_sInit F23 TS hEdges⟩
  have hBegins : HasM P w K mg base C 3 "begins" ["self", "upper", "lower", "most", "beside"] (spBegins C CE) := ⟨f24, _, ⟨a24, i24, k24⟩, b24, ok_begins F24 TS (PySem.W.mg_of X G gNOT_SO) hEdges hAreEdges⟩
  have hBest : HasM P w K mg base C 6 "best" ["self"] (spBest C CE) := ⟨f25, _, ⟨a25, i25, k25⟩, b25, ok_best F25 TS B (PySem.W.mg_of X G gNOT_ALL) hFewestR hLeast hInRow⟩
  have hCheck : HasM P w K mg base C 4 "check" ["self", "lacing"] (spCheck C CE) := ⟨f26, _, ⟨a26, i26, k26⟩, b26, ok_check F26 TS TE B (PySem.W.mg_of X G gNOT_SO) (PySem.W.mg_of X G gNOT_ALL) (PySem.W.mg_of X G gCROWDED) (PySem.W.mg_of X G gMOST_KNOTS) hIsKnot hTaken hIsAll hCrowded hUneven⟩
  have hAnswer : HasM P w K mg base C 7 "answer" ["self", "call", "numbers", "row"] (spAnswer C CE) := ⟨f27, _, ⟨a27, i27, k27⟩, b27, ok_answer F27 TS TE (PySem.W.mg_of X G gBEGINS) (PySem.W.mg_of X G gBEST) (PySem.W.mg_of X G gCHECK) hBegins hBest hCheck hInPairs hFewest⟩
  have hCallAt : Has P w K mg base 1 "call_at" ["calls", "at"] (spCallAt K) := ⟨f28, _, PySem.W.mg_of X G a28, k28, b28, ok_callAt F28 (PySem.W.mg_of X G gBEGINS) (PySem.W.mg_of X G gNUMBERS) (PySem.W.mg_of X G gCHECK)⟩
  exact ok_answers F29 TS B hSeam hCallAt hAnswer
end Lace

set_option Elab.async false
open PySem PySem.W PyProof.Rows
set_option maxRecDepth 100000 in
set_option maxHeartbeats 0 in
theorem PySem.Challenge.cw_lacededges_s01_answers_holds : PySem.Challenge.rw_lacededges_s01_answers.Holds := by
  w_on; k_headS; (case hw => exact ⟨[.list [.int 3]], by decide +kernel, by decide +kernel⟩)
  k_fillS
  refine L2.walk_specK (r := PySem.Challenge.rw_lacededges_s01_answers) (k := 8) (CX := L2.CX0) (ps := ["calls"]) (sp := Lace.spAnswers) (by decide +kernel) rfl rfl ⟨rfl, by decide, by decide⟩ (fun w h Y => PySem.W.kIn_of Y) ?F ?S (fun _ _ _ _ z => z)
  case F =>
    intro w mg fa h Y KX G hmg
    refine' Lace.all_mk KX G hmg ?aCEdges ?aCSeam ?a1 ?l1 ?c1 ?k1 ?a2 ?l2 ?c2 ?k2 ?a3 ?l3 ?c3 ?k3 ?a4 ?l4 ?c4 ?k4 ?a5 ?l5 ?c5 ?k5 ?a6 ?i6 ?l6 ?c6 ?k6 ?a7 ?i7 ?l7 ?c7 ?k7 ?a8 ?i8 ?l8 ?c8 ?k8 ?a9 ?i9 ?l9 ?c9 ?k9 ?a10 ?i10 ?l10 ?c10 ?k10 ?a11 ?i11 ?l11 ?c11 ?k11 ?a12 ?i12 ?l12 ?c12 ?k12 ?a13 ?i13 ?l13 ?c13 ?k13 ?a14 ?l14 ?c14 ?k14 ?a15 ?l15 ?c15 ?k15 ?a16 ?l16 ?c16 ?k16 ?a17 ?l17 ?c17 ?k17 ?a18 ?l18 ?c18 ?k18 ?a19 ?l19 ?c19 ?k19 ?a20 ?l20 ?c20 ?k20 ?a21 ?l21 ?c21 ?k21 ?a22 ?l22 ?c22 ?k22 ?a23 ?i23 ?l23 ?c23 ?k23 ?a24 ?i24 ?l24 ?c24 ?k24 ?a25 ?i25 ?l25 ?c25 ?k25 ?a26 ?i26 ?l26 ?c26 ?k26 ?a27 ?i27 ?l27 ?c27 ?k27 ?a28 ?l28 ?c28 ?k28 ?a29 ?l29 ?c29 ?k29 ?pgEdges ?hdEdges ?poEdges ?saEdges ?mkEdges ?kcEdges ?nEdges_upper ?nEdges_lower ?nEdges_most ?nEdges_beside ?pgSeam ?hdSeam ?poSeam ?saSeam ?mkSeam ?kcSeam ?nSeam_edges ?gMOST_MESHES ?gMOST_TAKEN ?gNOT_SO ?gNOT_ALL ?gCROWDED ?gMOST_KNOTS ?gBEGINS ?gBEST ?gCHECK ?gNUMBERS ?gNOTHING ?lNOTHING ?zrange ?zlen ?zmax ?zmin ?zabs ?zall
    (case aCEdges => k_is)
    (case aCSeam => k_is)
    (case a1 => k_is)
    (case l1 => k_is)
    (case c1 => k_is)
    (case k1 => k_is)
    (case a2 => k_is)
    (case l2 => k_is)
    (case c2 => k_is)
    (case k2 => k_is)
    (case a3 => k_is)
    (case l3 => k_is)
    (case c3 => k_is)
    (case k3 => k_is)
    (case a4 => k_is)
    (case l4 => k_is)
    (case c4 => k_is)
    (case k4 => k_is)
    (case a5 => k_is)
    (case l5 => k_is)
    (case c5 => k_is)
    (case k5 => k_is)
    (case a6 => k_is)
    (case i6 => k_is)
    (case l6 => k_is)
    (case c6 => k_is)
    (case k6 => k_is)
    (case a7 => k_is)
    (case i7 => k_is)
    (case l7 => k_is)
    (case c7 => k_is)
    (case k7 => k_is)
    (case a8 => k_is)
    (case i8 => k_is)
    (case l8 => k_is)
    (case c8 => k_is)
    (case k8 => k_is)
    (case a9 => k_is)
    (case i9 => k_is)
    (case l9 => k_is)
    (case c9 => k_is)
    (case k9 => k_is)
    (case a10 => k_is)
    (case i10 => k_is)
    (case l10 => k_is)
    (case c10 => k_is)
    (case k10 => k_is)
    (case a11 => k_is)
    (case i11 => k_is)
    (case l11 => k_is)
    (case c11 => k_is)
    (case k11 => k_is)
    (case a12 => k_is)
    (case i12 => k_is)
    (case l12 => k_is)
    (case c12 => k_is)
    (case k12 => k_is)
    (case a13 => k_is)
    (case i13 => k_is)
    (case l13 => k_is)
    (case c13 => k_is)
    (case k13 => k_is)
    (case a14 => k_is)
    (case l14 => k_is)
    (case c14 => k_is)
    (case k14 => k_is)
    (case a15 => k_is)
    (case l15 => k_is)
    (case c15 => k_is)
    (case k15 => k_is)
    (case a16 => k_is)
    (case l16 => k_is)
    (case c16 => k_is)
    (case k16 => k_is)
    (case a17 => k_is)
    (case l17 => k_is)
    (case c17 => k_is)
    (case k17 => k_is)
    (case a18 => k_is)
    (case l18 => k_is)
    (case c18 => k_is)
    (case k18 => k_is)
    (case a19 => k_is)
    (case l19 => k_is)
    (case c19 => k_is)
    (case k19 => k_is)
    (case a20 => k_is)
    (case l20 => k_is)
    (case c20 => k_is)
    (case k20 => k_is)
    (case a21 => k_is)
    (case l21 => k_is)
    (case c21 => k_is)
    (case k21 => k_is)
    (case a22 => k_is)
    (case l22 => k_is)
    (case c22 => k_is)
    (case k22 => k_is)
    (case a23 => k_is)
    (case i23 => k_is)
    (case l23 => k_is)
    (case c23 => k_is)
    (case k23 => k_is)
    (case a24 => k_is)
    (case i24 => k_is)
    (case l24 => k_is)
    (case c24 => k_is)
    (case k24 => k_is)
    (case a25 => k_is)
    (case i25 => k_is)
    (case l25 => k_is)
    (case c25 => k_is)
    (case k25 => k_is)
    (case a26 => k_is)
    (case i26 => k_is)
    (case l26 => k_is)
    (case c26 => k_is)
    (case k26 => k_is)
    (case a27 => k_is)
    (case i27 => k_is)
    (case l27 => k_is)
    (case c27 => k_is)
    (case k27 => k_is)
    (case a28 => k_is)
    (case l28 => k_is)
    (case c28 => k_is)
    (case k28 => k_is)
    (case a29 => k_is)
    (case l29 => k_is)
    (case c29 => k_is)
    (case k29 => k_is)
    (case pgEdges => k_is)
    (case hdEdges => k_is)
    (case poEdges => k_is)
    (case saEdges => k_is)
    (case mkEdges => k_is)
    (case kcEdges => k_is)
    (case nEdges_upper => k_is)
    (case nEdges_lower => k_is)
    (case nEdges_most => k_is)
    (case nEdges_beside => k_is)
    (case pgSeam => k_is)
    (case hdSeam => k_is)
    (case poSeam => k_is)
    (case saSeam => k_is)
    (case mkSeam => k_is)
    (case kcSeam => k_is)
    (case nSeam_edges => k_is)
    (case gMOST_MESHES => k_is)
    (case gMOST_TAKEN => k_is)
    (case gNOT_SO => k_is)
    (case gNOT_ALL => k_is)
    (case gCROWDED => k_is)
    (case gMOST_KNOTS => k_is)
    (case gBEGINS => k_is)
    (case gBEST => k_is)
    (case gCHECK => k_is)
    (case gNUMBERS => k_is)
    (case gNOTHING => k_is)
    (case lNOTHING => k_is)
    (case zrange => k_is)
    (case zlen => k_is)
    (case zmax => k_is)
    (case zmin => k_is)
    (case zabs => k_is)
    (case zall => k_is)
  case S =>
    intro K H xs a hO hwi hask hx
    cases hx with
    | cons h1 h2 =>
      cases h2
      cases h1 with
      | lst hs ha =>
        have e := L2.ints_dw a.1 _ ha
        subst e
        have hq : PyUw23.answers_asked a.1 = true := hask
        obtain ⟨hX, hz⟩ := Lace.asked_sfx hq
        exact ⟨_, a.1, rfl, hs, hX, hz, fun H' p hp => .lst (L2.SqL.of hp) (L2.dw_ints _)⟩
#print axioms PySem.Challenge.cw_lacededges_s01_answers_holds
