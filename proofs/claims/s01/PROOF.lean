import PyProof.Rows.All
import Wide.All
import OpenK.AllK
import Wide.FinOn
import Open.SpecLaws
import KE.OsGo
import KE.DataMinMax
import KE.GoesZip
import HandS.ForSpec
import HandS.Comp
import HandS.Iter
import HandS.Zip
import HandS.Walk
import HandS.More
import HandS.SetFor
import HandS.ExcInit
import KE.GoesMore
import KE.KEqSeq
import HandS.ExcField
import PySem.Challenge.RW_spiderfly_s01_answers
import PySy73
import PyFlatLaws
/-! ## Math1 -/
set_option Elab.async false
/-! The program's laid faces (origin, steps) against the specification's. -/
namespace Fly
open Sy73

/-- a face as the program lays it: where 0 0 0 is, a step along each axis -/
structure ML where
  origin : Flat
  steps : List Flat
def moved (p s : Flat) (n : Int) : Flat := ⟨p.x + s.x * n, p.y + s.y * n⟩
def turned (s : Flat) (b : Bool) : Flat := if b = true then ⟨0 - s.x, 0 - s.y⟩ else s
def sqBetween (a b : Flat) : Int := (b.x - a.x) * (b.x - a.x) + (b.y - a.y) * (b.y - a.y)
def stepOf (l : ML) (k : Nat) : Flat := l.steps.getD k ⟨0, 0⟩
def placeOf (l : ML) (p : Three) : Flat := moved (moved (moved l.origin (stepOf l 0) (nth p 0)) (stepOf l 1) (nth p 1)) (stepOf l 2) (nth p 2)
def firstLaid (f : Nat) : ML := ⟨⟨0, 0⟩, ([⟨1, 0⟩, ⟨0, 1⟩] : List Flat).insertIdx (axis f) ⟨0, 0⟩⟩
def b2n (b : Bool) : Int := if b = true then 1 else 0
def edgeOf (box : Three) (l : ML) (f g : Nat) : Flat × Flat :=
  let begin_ := moved l.origin (stepOf l (axis g)) (nth box (axis g) * b2n (atFar g))
  let along := 3 - axis f - axis g
  (begin_, moved begin_ (stepOf l along) (nth box along))
def nextLaid (box : Three) (l : ML) (f g : Nat) : ML :=
  let out := turned (stepOf l (axis g)) (!atFar g)
  let begin_ := (edgeOf box l f g).1
  ⟨moved begin_ out (nth box (axis f) * b2n (atFar f)), (l.steps.set (axis g) ⟨0, 0⟩).set (axis f) (turned out (atFar f))⟩

/-- as the specification lays it -/
def toML (l : Laid) : ML := ⟨image l [0, 0, 0], l.ways⟩
/-- what holds of every face that the specification lays -/
structure Good (l : Laid) : Prop where
  face : l.face < 6
  ways : ∃ u v w, l.ways = [u, v, w]
  flat : wayOf l (axis l.face) = ⟨0, 0⟩

theorem cases6 {P : Nat → Prop} {f : Nat} (h : f < 6) (h0 : P 0) (h1 : P 1) (h2 : P 2) (h3 : P 3) (h4 : P 4) (h5 : P 5) : P f := by
  match f, h with
  | 0, _ => exact h0
  | 1, _ => exact h1
  | 2, _ => exact h2
  | 3, _ => exact h3
  | 4, _ => exact h4
  | 5, _ => exact h5
  | n + 6, h => omega

theorem good_first (box : Three) {f : Nat} (h : f < 6) : Good (first box f) := by
  refine ⟨h, ⟨_, _, _, rfl⟩, ?_⟩
  revert h
  intro h
  refine cases6 (P := fun f => wayOf (first box f) (axis f) = ⟨0, 0⟩) h rfl rfl rfl rfl rfl rfl
theorem good_next (box : Three) {l : Laid} {g : Nat} (_hl : Good l) (h : g < 6) : Good (unfolded box l g) := by
  refine ⟨h, ⟨_, _, _, rfl⟩, ?_⟩
  refine cases6 (P := fun g => wayOf (unfolded box l g) (axis g) = ⟨0, 0⟩) h rfl rfl rfl rfl rfl rfl

theorem flat_ext {a b : Flat} (h1 : a.x = b.x) (h2 : a.y = b.y) : a = b := by
  cases a; cases b; simp_all

/-- a point of the face, by the place of 0 0 0 -/
theorem image_is {l : Laid} (G : Good l) (p : Three) : image l p = placeOf (toML l) p := by
  obtain ⟨f, co, o, ws⟩ := l
  obtain ⟨hf, ⟨u, v, w, hw⟩, hz⟩ := G
  dsimp only at hf hw hz
  subst hw
  revert hz
  refine cases6 (P := fun f => wayOf ⟨f, co, o, [u, v, w]⟩ (axis f) = ⟨0, 0⟩ → image ⟨f, co, o, [u, v, w]⟩ p = placeOf (toML ⟨f, co, o, [u, v, w]⟩) p) hf ?_ ?_ ?_ ?_ ?_ ?_ <;>
  · intro hz
    simp [wayOf, axis] at hz
    subst hz
    apply flat_ext <;> simp [image, placeOf, toML, stepOf, wayOf, axis, nth, moved, plus, scaled, List.range, List.range.loop] <;> grind

theorem edge_is {box : Three} {l : Laid} (G : Good l) {g : Nat} (hg : g < 6) (hb : axis l.face ≠ axis g) :
    edgeOf box (toML l) l.face g = (image l (edge box l.face g).1, image l (edge box l.face g).2) := by
  rw [image_is G, image_is G]
  obtain ⟨f, co, o, ws⟩ := l
  obtain ⟨hf, ⟨u, v, w, hw⟩, hz⟩ := G
  dsimp only at hf hw hz hb ⊢
  subst hw
  revert hz hb
  refine cases6 (P := fun f => axis f ≠ axis g → wayOf ⟨f, co, o, [u, v, w]⟩ (axis f) = ⟨0, 0⟩ → edgeOf box (toML ⟨f, co, o, [u, v, w]⟩) f g = (placeOf (toML ⟨f, co, o, [u, v, w]⟩) (edge box f g).1, placeOf (toML ⟨f, co, o, [u, v, w]⟩) (edge box f g).2)) hf ?_ ?_ ?_ ?_ ?_ ?_ <;>
  (refine cases6 (P := fun g => _ ≠ axis g → _ → edgeOf box _ _ g = (placeOf _ (edge box _ g).1, placeOf _ (edge box _ g).2)) hg ?_ ?_ ?_ ?_ ?_ ?_ <;>
  · intro hb hz
    first
    | exact absurd rfl hb
    | (simp [wayOf, axis] at hz
       subst hz
       refine Prod.ext (flat_ext ?_ ?_) (flat_ext ?_ ?_) <;> simp [edgeOf, edge, placeOf, toML, stepOf, axis, nth, moved, level, atFar, b2n, List.range, List.range.loop] <;> grind))
theorem next_is {box : Three} {l : Laid} (G : Good l) {g : Nat} (hg : g < 6) (hb : axis l.face ≠ axis g) :
    nextLaid box (toML l) l.face g = toML (unfolded box l g) := by
  have e1 := edge_is (box := box) G hg hb
  have e2 : toML (unfolded box l g) = ⟨image (unfolded box l g) [0, 0, 0], (unfolded box l g).ways⟩ := rfl
  unfold nextLaid
  rw [e1, e2]
  dsimp only
  obtain ⟨f, co, o, ws⟩ := l
  obtain ⟨hf, ⟨u, v, w, hw⟩, hz⟩ := G
  dsimp only at hf hw hz hb ⊢
  subst hw
  generalize hI : image ⟨f, co, o, [u, v, w]⟩ (edge box f g).1 = I
  have hU : unfolded box ⟨f, co, o, [u, v, w]⟩ g = ⟨g, (edge box f g).1, I, (unfolded box ⟨f, co, o, [u, v, w]⟩ g).ways⟩ := by
    rw [← hI]; rfl
  rw [hU]
  clear hU hI e1 e2
  revert hz hb
  refine cases6 (P := fun f => axis f ≠ axis g → wayOf ⟨f, co, o, [u, v, w]⟩ (axis f) = ⟨0, 0⟩ → ML.mk (moved I (turned (stepOf (toML ⟨f, co, o, [u, v, w]⟩) (axis g)) !atFar g) (nth box (axis f) * b2n (atFar f))) (((toML ⟨f, co, o, [u, v, w]⟩).steps.set (axis g) ⟨0, 0⟩).set (axis f) (turned (turned (stepOf (toML ⟨f, co, o, [u, v, w]⟩) (axis g)) !atFar g) (atFar f))) =
    ⟨image ⟨g, (edge box f g).1, I, (unfolded box ⟨f, co, o, [u, v, w]⟩ g).ways⟩ [0, 0, 0], (unfolded box ⟨f, co, o, [u, v, w]⟩ g).ways⟩) hf ?_ ?_ ?_ ?_ ?_ ?_ <;>
  (refine cases6 (P := fun g => _ ≠ axis g → _ → ML.mk (moved I (turned (stepOf _ (axis g)) !atFar g) _) (((toML _).steps.set (axis g) ⟨0, 0⟩).set _ (turned (turned (stepOf _ (axis g)) !atFar g) _)) = ⟨image ⟨g, (edge box _ g).1, I, (unfolded box _ g).ways⟩ [0, 0, 0], (unfolded box _ g).ways⟩) hg ?_ ?_ ?_ ?_ ?_ ?_ <;>
  · intro hb hz
    first
    | exact absurd rfl hb
    | (simp [wayOf, axis] at hz
       subst hz
       simp [moved, turned, stepOf, toML, image, unfolded, edge, nth, atFar, axis, wayOf, level, b2n, scaled, plus, List.range, List.range.loop]
       try grind))
end Fly

/-! ## Math2 -/
/-! Rows, laid: the program's from the left against the specification's chain; straight lines through edges. -/
namespace Fly
open Sy73

structure MR where
  faces : List Nat
  first : ML
  last : ML
  edges : List (Flat × Flat)
/-- the row f, r as the specification lays it -/
def mr (box : Three) (f : Nat) (r : List Nat) : MR :=
  ⟨f :: r, toML (first box f), toML (chain box (first box f) r).1, (chain box (first box f) r).2⟩
def longer (box : Three) (m : MR) (h g : Nat) : MR := ⟨m.faces ++ [g], m.first, nextLaid box m.last h g, m.edges ++ [edgeOf box m.last h g]⟩

theorem chain_more (box : Three) : ∀ (r : List Nat) (l : Laid) (g : Nat), chain box l (r ++ [g]) =
    (unfolded box (chain box l r).1 g, (chain box l r).2 ++ [(image (chain box l r).1 (edge box (chain box l r).1.face g).1, image (chain box l r).1 (edge box (chain box l r).1.face g).2)])
  | [], l, g => rfl
  | h :: r, l, g => by
    rw [List.cons_append]
    unfold chain
    rw [chain_more box r (unfolded box l h) g]
    rfl
/-- a row whose faces are beside each other -/
def Linked : Nat → List Nat → Prop
  | f, [] => f < 6
  | f, g :: r => f < 6 ∧ axis f ≠ axis g ∧ Linked g r
theorem Linked.head {f : Nat} : ∀ {r : List Nat}, Linked f r → f < 6
  | [], h => h
  | _ :: _, h => h.1
def lastOf : Nat → List Nat → Nat
  | f, [] => f
  | _, g :: r => lastOf g r
theorem lastOf_more : ∀ (f : Nat) (r : List Nat) (g : Nat), lastOf f (r ++ [g]) = g
  | _, [], _ => rfl
  | _, h :: r, g => lastOf_more h r g
theorem lastOf_get : ∀ (f : Nat) (r : List Nat), (f :: r).getLast? = some (lastOf f r)
  | _, [] => rfl
  | f, h :: r => by
    rw [List.getLast?_cons_cons, lastOf_get h r]
    rfl
theorem Linked.last : ∀ {f : Nat} {r : List Nat}, Linked f r → lastOf f r < 6
  | _, [], h => h
  | _, g :: r, h => Linked.last (f := g) (r := r) h.2.2
theorem Linked.more : ∀ {f : Nat} {r : List Nat} {g : Nat}, Linked f r → g < 6 → axis (lastOf f r) ≠ axis g → Linked f (r ++ [g])
  | _, [], _, h, hg, hb => ⟨h, hb, hg⟩
  | _, _ :: r, _, h, hg, hb => ⟨h.1, h.2.1, Linked.more (r := r) h.2.2 hg hb⟩
theorem chain_good (box : Three) : ∀ (r : List Nat) (l : Laid), Good l → Linked l.face r → Good (chain box l r).1 ∧ (chain box l r).1.face = lastOf l.face r
  | [], l, G, _ => ⟨G, rfl⟩
  | g :: r, l, G, h => chain_good box r (unfolded box l g) (good_next box G h.2.2.head) h.2.2
theorem longer_is {box : Three} {f : Nat} {r : List Nat} {g : Nat} (h : Linked f r) (hg : g < 6) (hb : axis (lastOf f r) ≠ axis g) :
    longer box (mr box f r) (lastOf f r) g = mr box f (r ++ [g]) := by
  obtain ⟨G, e⟩ := chain_good box r (first box f) (good_first box h.head) h
  have e' : (chain box (first box f) r).1.face = lastOf f r := e
  have hb' : axis (chain box (first box f) r).1.face ≠ axis g := by rw [e']; exact hb
  have e1 := next_is (box := box) G hg hb'
  have e2 := edge_is (box := box) G hg hb'
  rw [e'] at e1 e2
  unfold longer mr
  rw [chain_more box r (first box f) g]
  dsimp only
  rw [e1, e2, e']
  rfl

/-! ### straight lines through edges -/
def imin (a b : Int) : Int := if b < a then b else a
def imax (a b : Int) : Int := if b > a then b else a
def iabs (a : Int) : Int := if a < 0 then -a else a
theorem imin_eq (a b : Int) : imin a b = min a b := by unfold imin; split <;> omega
theorem imax_eq (a b : Int) : imax a b = max a b := by unfold imax; split <;> omega
def crossesUp (a b : Flat) (e : Flat × Flat) : Bool :=
  let low := imin e.1.y e.2.y
  let high := imax e.1.y e.2.y
  if ¬ (imin a.x b.x ≤ e.1.x ∧ e.1.x ≤ imax a.x b.x) then false
  else if a.x = b.x then decide (imax low (imin a.y b.y) ≤ imin high (imax a.y b.y))
  else
    let wide := iabs (b.x - a.x)
    let height := a.y * wide + (b.y - a.y) * iabs (e.1.x - a.x)
    decide (low * wide ≤ height) && decide (height ≤ high * wide)
def swapped (a : Flat) : Flat := ⟨a.y, a.x⟩
def crosses (a b : Flat) (e : Flat × Flat) : Bool :=
  if e.1.x = e.2.x then crossesUp a b e else crossesUp (swapped a) (swapped b) (swapped e.1, swapped e.2)

theorem meets_swap (a b : Flat) (e : Flat × Flat) : meets (swapped a) (swapped b) (swapped e.1, swapped e.2) = meets a b e := by
  have h : ∀ u v : Flat, cross (minus (swapped u) (swapped v)) (minus (swapped u) (swapped v)) = 0 := fun u v => by simp [cross]; grind
  have c : ∀ u v w z : Flat, cross (minus (swapped u) (swapped v)) (minus (swapped w) (swapped z)) = - cross (minus u v) (minus w z) := fun u v w z => by
    simp [cross, minus, swapped]; grind
  unfold meets
  dsimp only
  rw [c, c, c, c, Int.neg_mul_neg, Int.neg_mul_neg]

theorem mul_le_zero_of {a b : Int} (h : a ≤ 0 ∧ 0 ≤ b ∨ 0 ≤ a ∧ b ≤ 0) : a * b ≤ 0 := by
  rcases h with ⟨h1, h2⟩ | ⟨h1, h2⟩
  · exact Int.mul_nonpos_of_nonpos_of_nonneg h1 h2
  · exact Int.mul_nonpos_of_nonneg_of_nonpos h1 h2
theorem of_mul_le_zero {a b : Int} (h : a * b ≤ 0) : a ≤ 0 ∧ 0 ≤ b ∨ 0 ≤ a ∧ b ≤ 0 := by
  rcases Int.lt_trichotomy a 0 with h1 | h1 | h1
  · rcases Int.lt_trichotomy b 0 with h2 | h2 | h2
    · have := Int.mul_pos_of_neg_of_neg h1 h2; omega
    · omega
    · omega
  · omega
  · rcases Int.lt_trichotomy b 0 with h2 | h2 | h2
    · omega
    · omega
    · have := Int.mul_pos h1 h2; omega

/-- an upright edge's second product: x between -/
theorem side_up {a b : Flat} {e : Flat × Flat} (he : e.1.x = e.2.x) (hn : e.1.y ≠ e.2.y) :
    (cross (minus e.2 e.1) (minus a e.1) * cross (minus e.2 e.1) (minus b e.1) ≤ 0) ↔ (imin a.x b.x ≤ e.1.x ∧ e.1.x ≤ imax a.x b.x) := by
  have c : ∀ u : Flat, cross (minus e.2 e.1) (minus u e.1) = (e.2.y - e.1.y) * (e.1.x - u.x) := fun u => by
    simp [cross, minus, he]; grind
  rw [c, c]
  have e1 : (e.2.y - e.1.y) * (e.1.x - a.x) * ((e.2.y - e.1.y) * (e.1.x - b.x)) = ((e.2.y - e.1.y) * (e.2.y - e.1.y)) * ((e.1.x - a.x) * (e.1.x - b.x)) := by grind
  rw [e1]
  have hp : 0 < (e.2.y - e.1.y) * (e.2.y - e.1.y) := by
    rcases Int.lt_or_gt_of_ne (show e.2.y - e.1.y ≠ 0 by omega) with h | h
    · exact Int.mul_pos_of_neg_of_neg h h
    · exact Int.mul_pos h h
  constructor
  · intro h
    have h2 : (e.1.x - a.x) * (e.1.x - b.x) ≤ 0 := by
      rcases of_mul_le_zero h with ⟨h1, h2⟩ | ⟨h1, h2⟩
      · omega
      · exact h2
    rw [imin_eq, imax_eq]
    rcases of_mul_le_zero h2 with ⟨h1, h2⟩ | ⟨h1, h2⟩ <;> omega
  · intro h
    have h2 : (e.1.x - a.x) * (e.1.x - b.x) ≤ 0 := by
      apply mul_le_zero_of
      rw [imin_eq, imax_eq] at h
      omega
    exact Int.mul_nonpos_of_nonneg_of_nonpos (Int.le_of_lt hp) h2
theorem first_up {a b : Flat} {e : Flat × Flat} (he : e.1.x = e.2.x) (hab : a.x ≠ b.x) (hx : imin a.x b.x ≤ e.1.x ∧ e.1.x ≤ imax a.x b.x) :
    (cross (minus b a) (minus e.1 a) * cross (minus b a) (minus e.2 a) ≤ 0) ↔
    (imin e.1.y e.2.y * iabs (b.x - a.x) ≤ a.y * iabs (b.x - a.x) + (b.y - a.y) * iabs (e.1.x - a.x) ∧ a.y * iabs (b.x - a.x) + (b.y - a.y) * iabs (e.1.x - a.x) ≤ imax e.1.y e.2.y * iabs (b.x - a.x)) := by
  generalize hw : iabs (b.x - a.x) = w
  generalize hv : iabs (e.1.x - a.x) = v
  have hpos : 0 < w := by rw [← hw]; unfold iabs; split <;> omega
  -- the crosses, by w and v
  have key : ∃ s : Int, (s = 1 ∨ s = -1) ∧ b.x - a.x = s * w ∧ e.1.x - a.x = s * v := by
    rcases Int.lt_or_gt_of_ne hab with h | h
    · refine ⟨1, .inl rfl, ?_, ?_⟩
      · rw [← hw]; unfold iabs; split <;> omega
      · rw [← hv]; unfold iabs; rw [imin_eq, imax_eq] at hx; split <;> omega
    · refine ⟨-1, .inr rfl, ?_, ?_⟩
      · rw [← hw]; unfold iabs; split <;> omega
      · rw [← hv]; unfold iabs; rw [imin_eq, imax_eq] at hx; split <;> omega
  obtain ⟨s, hs, e1, e2⟩ := key
  have ss : s * s = 1 := by rcases hs with h | h <;> rw [h] <;> rfl
  have c1 : cross (minus b a) (minus e.1 a) = s * (e.1.y * w - (a.y * w + (b.y - a.y) * v)) := by
    simp only [cross, minus]; rw [e1, e2]; grind
  have c2 : cross (minus b a) (minus e.2 a) = s * (e.2.y * w - (a.y * w + (b.y - a.y) * v)) := by
    simp only [cross, minus]; rw [e1, ← he, e2]; grind
  rw [c1, c2]
  generalize a.y * w + (b.y - a.y) * v = t
  have e3 : s * (e.1.y * w - t) * (s * (e.2.y * w - t)) = (s * s) * ((e.1.y * w - t) * (e.2.y * w - t)) := by grind
  rw [e3, ss, Int.one_mul]
  have le : ∀ {p q : Int}, p ≤ q → p * w ≤ q * w := fun h => Int.mul_le_mul_of_nonneg_right h (Int.le_of_lt hpos)
  constructor
  · intro h
    have m1 := le (p := min e.1.y e.2.y) (q := e.1.y) (by omega)
    have m2 := le (p := min e.1.y e.2.y) (q := e.2.y) (by omega)
    have m3 := le (q := max e.1.y e.2.y) (p := e.1.y) (by omega)
    have m4 := le (q := max e.1.y e.2.y) (p := e.2.y) (by omega)
    rw [imin_eq, imax_eq]
    rcases of_mul_le_zero h with ⟨h1, h2⟩ | ⟨h1, h2⟩ <;> constructor <;> omega
  · intro h
    apply mul_le_zero_of
    rw [imin_eq, imax_eq] at h
    rcases Int.le_total e.1.y e.2.y with q | q
    · rw [Int.min_eq_left q, Int.max_eq_right q] at h; omega
    · rw [Int.min_eq_right q, Int.max_eq_left q] at h; omega
/-- off the edge's line both tests are the same -/
theorem up_is {a b : Flat} {e : Flat × Flat} (he : e.1.x = e.2.x) (hn : e.1.y ≠ e.2.y) (hoff : ¬ (a.x = e.1.x ∧ b.x = e.1.x)) : crossesUp a b e = meets a b e := by
  unfold meets
  have s := side_up (a := a) (b := b) he hn
  rw [Bool.eq_iff_iff, Bool.and_eq_true, decide_eq_true_eq, decide_eq_true_eq, s]
  unfold crossesUp
  dsimp only
  by_cases hx : imin a.x b.x ≤ e.1.x ∧ e.1.x ≤ imax a.x b.x
  · have hab : a.x ≠ b.x := by
      intro h
      rw [imin_eq, imax_eq] at hx
      omega
    rw [if_neg (not_not_intro hx), if_neg hab, first_up he hab hx, Bool.and_eq_true, decide_eq_true_eq, decide_eq_true_eq]
    exact ⟨fun h => ⟨h, hx⟩, fun h => h.1⟩
  · rw [if_pos hx]
    exact ⟨fun h => absurd h Bool.false_ne_true, fun h => absurd h.2 hx⟩
theorem up_meets {a b : Flat} {e : Flat × Flat} (he : e.1.x = e.2.x) (hn : e.1.y ≠ e.2.y) (h : crossesUp a b e = true) : meets a b e = true := by
  by_cases c : a.x = e.1.x ∧ b.x = e.1.x
  · unfold meets
    rw [Bool.and_eq_true, decide_eq_true_eq, decide_eq_true_eq, side_up he hn]
    have z : cross (minus b a) (minus e.1 a) = 0 := by simp [cross, minus]; grind
    rw [z, Int.zero_mul]
    refine ⟨Int.le_refl _, ?_⟩
    rw [imin_eq, imax_eq]
    omega
  · rw [← up_is he hn c]
    exact h
/-- on the edge's line: they overlap -/
theorem up_line {a b : Flat} {e : Flat × Flat} (ha : a.x = e.1.x) (hb : b.x = e.1.x) {y : Int} (h1 : imin e.1.y e.2.y ≤ y) (h2 : y ≤ imax e.1.y e.2.y) (h3 : imin a.y b.y ≤ y) (h4 : y ≤ imax a.y b.y) : crossesUp a b e = true := by
  unfold crossesUp
  dsimp only
  have hx : imin a.x b.x ≤ e.1.x ∧ e.1.x ≤ imax a.x b.x := by rw [imin_eq, imax_eq]; omega
  rw [if_neg (not_not_intro hx), if_pos (ha.trans hb.symm), decide_eq_true_eq]
  generalize imin e.1.y e.2.y = p at *
  generalize imax e.1.y e.2.y = q at *
  generalize imin a.y b.y = r at *
  generalize imax a.y b.y = s at *
  rw [imin_eq, imax_eq]
  omega
end Fly

/-! ## Math3 -/
/-! Over a whole row: the program's test of all edges is the specification's. -/
namespace Fly
open Sy73

def OnLine (a : Flat) (e : Flat × Flat) : Prop := (e.1.x = e.2.x ∧ a.x = e.1.x) ∨ (e.1.y = e.2.y ∧ e.1.x ≠ e.2.x ∧ a.y = e.1.y)
def EdgeOk (e : Flat × Flat) : Prop := (e.1.x = e.2.x ∧ e.1.y ≠ e.2.y) ∨ (e.1.y = e.2.y ∧ e.1.x ≠ e.2.x)
/-- two sides of one rectangle -/
def Sides (d e : Flat × Flat) : Prop :=
  (d.1.x = d.2.x ∧ d.1.y ≠ d.2.y ∧ e.1.x = e.2.x ∧ d.1.x ≠ e.1.x) ∨ (d.1.y = d.2.y ∧ d.1.x ≠ d.2.x ∧ e.1.y = e.2.y ∧ d.1.y ≠ e.1.y) ∨
  (d.1.x = d.2.x ∧ d.1.y ≠ d.2.y ∧ e.1.y = e.2.y ∧ (d.1.x = e.1.x ∨ d.1.x = e.2.x)) ∨ (d.1.y = d.2.y ∧ d.1.x ≠ d.2.x ∧ e.1.x = e.2.x ∧ (d.1.y = e.1.y ∨ d.1.y = e.2.y))

theorem cross_meets {a b : Flat} {e : Flat × Flat} (ok : EdgeOk e) (h : crosses a b e = true) : meets a b e = true := by
  unfold crosses at h
  rcases ok with ⟨h1, h2⟩ | ⟨h1, h2⟩
  · rw [if_pos h1] at h
    exact up_meets h1 h2 h
  · rw [if_neg h2] at h
    rw [← meets_swap]
    exact up_meets h1 h2 h
theorem off_is {a b : Flat} {e : Flat × Flat} (ok : EdgeOk e) (h : ¬ (OnLine a e ∧ OnLine b e)) : crosses a b e = meets a b e := by
  unfold crosses
  rcases ok with ⟨h1, h2⟩ | ⟨h1, h2⟩
  · rw [if_pos h1]
    exact up_is h1 h2 fun z => h ⟨.inl ⟨h1, z.1⟩, .inl ⟨h1, z.2⟩⟩
  · rw [if_neg h2, ← meets_swap]
    exact up_is (a := swapped a) (b := swapped b) (e := (swapped e.1, swapped e.2)) h1 h2 fun z => h ⟨.inr ⟨h1, h2, z.1⟩, .inr ⟨h1, h2, z.2⟩⟩
theorem between {a b : Flat} {d : Flat × Flat} (h1 : d.1.x = d.2.x) (h2 : d.1.y ≠ d.2.y) (h : meets a b d = true) : imin a.x b.x ≤ d.1.x ∧ d.1.x ≤ imax a.x b.x := by
  unfold meets at h
  rw [Bool.and_eq_true, decide_eq_true_eq, decide_eq_true_eq] at h
  exact (side_up h1 h2).mp h.2
theorem between' {a b : Flat} {d : Flat × Flat} (h1 : d.1.y = d.2.y) (h2 : d.1.x ≠ d.2.x) (h : meets a b d = true) : imin a.y b.y ≤ d.1.y ∧ d.1.y ≤ imax a.y b.y := by
  rw [← meets_swap] at h
  exact between (a := swapped a) (b := swapped b) (d := (swapped d.1, swapped d.2)) h1 h2 h
theorem line_prior {a b : Flat} {d e : Flat × Flat} (s : Sides d e) (ok : EdgeOk e) (ha : OnLine a e) (hb : OnLine b e) (h : meets a b d = true) : crosses a b e = true := by
  unfold crosses
  rcases ok with ⟨h1, h2⟩ | ⟨h1, h2⟩
  · rw [if_pos h1]
    have ax : a.x = e.1.x := by rcases ha with z | z; exact z.2; exact absurd h1 z.2.1
    have bx : b.x = e.1.x := by rcases hb with z | z; exact z.2; exact absurd h1 z.2.1
    rcases s with ⟨d1, d2, _, d4⟩ | ⟨d1, d2, d3, d4⟩ | ⟨d1, d2, d3, d4⟩ | ⟨d1, d2, d3, d4⟩
    · have q := between d1 d2 h
      rw [imin_eq, imax_eq] at q
      omega
    · omega
    · omega
    · have q := between' d1 d2 h
      refine up_line ax bx (y := d.1.y) ?_ ?_ q.1 q.2
      · rw [imin_eq]; omega
      · rw [imax_eq]; omega
  · rw [if_neg h2]
    have ay : a.y = e.1.y := by rcases ha with z | z; exact absurd z.1 h2; exact z.2.2
    have bY : b.y = e.1.y := by rcases hb with z | z; exact absurd z.1 h2; exact z.2.2
    rcases s with ⟨d1, d2, d3, d4⟩ | ⟨d1, d2, d3, d4⟩ | ⟨d1, d2, d3, d4⟩ | ⟨d1, d2, d3, d4⟩
    · omega
    · have q := between' d1 d2 h
      rw [imin_eq, imax_eq] at q
      omega
    · have q := between d1 d2 h
      refine up_line (a := swapped a) (b := swapped b) (e := (swapped e.1, swapped e.2)) ay bY (y := d.1.x) ?_ ?_ q.1 q.2
      · rw [imin_eq]; show min e.1.x e.2.x ≤ _; omega
      · rw [imax_eq]; show _ ≤ max e.1.x e.2.x; omega
    · omega
/-- a within the edge -/
theorem line_within {a b : Flat} {e : Flat × Flat} (ok : EdgeOk e) (ha : OnLine a e) (hb : OnLine b e)
    (hw : (imin e.1.x e.2.x ≤ a.x ∧ a.x ≤ imax e.1.x e.2.x) ∧ (imin e.1.y e.2.y ≤ a.y ∧ a.y ≤ imax e.1.y e.2.y)) : crosses a b e = true := by
  unfold crosses
  rcases ok with ⟨h1, h2⟩ | ⟨h1, h2⟩
  · rw [if_pos h1]
    have ax : a.x = e.1.x := by rcases ha with z | z; exact z.2; exact absurd h1 z.2.1
    have bx : b.x = e.1.x := by rcases hb with z | z; exact z.2; exact absurd h1 z.2.1
    refine up_line ax bx (y := a.y) hw.2.1 hw.2.2 ?_ ?_
    · rw [imin_eq]; omega
    · rw [imax_eq]; omega
  · rw [if_neg h2]
    have ay : a.y = e.1.y := by rcases ha with z | z; exact absurd z.1 h2; exact z.2.2
    have bY : b.y = e.1.y := by rcases hb with z | z; exact absurd z.1 h2; exact z.2.2
    refine up_line (a := swapped a) (b := swapped b) (e := (swapped e.1, swapped e.2)) ay bY (y := a.x) hw.1.1 hw.1.2 ?_ ?_
    · rw [imin_eq]; show min a.x b.x ≤ _; omega
    · rw [imax_eq]; show _ ≤ max a.x b.x; omega

/-! ### unit steps -/
def Orth (u v : Flat) : Prop := (u.y = 0 ∧ v.x = 0 ∧ (u.x = 1 ∨ u.x = -1) ∧ (v.y = 1 ∨ v.y = -1)) ∨ (u.x = 0 ∧ v.y = 0 ∧ (u.y = 1 ∨ u.y = -1) ∧ (v.x = 1 ∨ v.x = -1))
theorem Orth.symm {u v : Flat} (h : Orth u v) : Orth v u := by
  rcases h with ⟨h1, h2, h3, h4⟩ | ⟨h1, h2, h3, h4⟩
  · exact .inr ⟨h2, h1, h4, h3⟩
  · exact .inl ⟨h2, h1, h4, h3⟩
/-- a laid face whose steps are three, none across face f, the other two unit and upright on each other -/
structure GoodL (L : ML) (f : Nat) : Prop where
  face : f < 6
  three : ∃ u v w, L.steps = [u, v, w]
  flat : stepOf L (axis f) = ⟨0, 0⟩
  orth : ∀ i j, i < 3 → j < 3 → i ≠ j → i ≠ axis f → j ≠ axis f → Orth (stepOf L i) (stepOf L j)
theorem axis_lt {f : Nat} (h : f < 6) : axis f < 3 := by unfold axis; omega

theorem Orth.turned {u v : Flat} (h : Orth u v) (b : Bool) : Orth (turned u b) v := by
  unfold Fly.turned
  cases b
  · exact h
  · rw [if_pos rfl]
    rcases h with ⟨h1, h2, h3, h4⟩ | ⟨h1, h2, h3, h4⟩
    · refine .inl ⟨?_, h2, ?_, h4⟩ <;> dsimp only <;> omega
    · refine .inr ⟨?_, h2, ?_, h4⟩ <;> dsimp only <;> omega
theorem getD_set {l : List Flat} {i j : Nat} {x : Flat} (h : i < l.length) : (l.set i x).getD j ⟨0, 0⟩ = if i = j then x else l.getD j ⟨0, 0⟩ := by
  rw [List.getD_eq_getElem?_getD, List.getD_eq_getElem?_getD, List.getElem?_set]
  split
  · first | rfl | (subst_vars; rw [if_pos h]; rfl)
  · rfl
theorem step_next {box : Three} {L : ML} {f g : Nat} (G : GoodL L f) (hg : g < 6) (hb : axis f ≠ axis g) (k : Nat) :
    stepOf (nextLaid box L f g) k = if axis f = k then turned (turned (stepOf L (axis g)) (!atFar g)) (atFar f) else if axis g = k then ⟨0, 0⟩ else stepOf L k := by
  obtain ⟨u, v, w, h3⟩ := G.three
  have h1 := axis_lt G.face
  have h2 := axis_lt hg
  unfold stepOf nextLaid
  dsimp only
  rw [getD_set (by rw [List.length_set, h3]; exact h1), getD_set (by rw [h3]; exact h2)]
  rfl
theorem GoodL.next {box : Three} {L : ML} {f g : Nat} (G : GoodL L f) (hg : g < 6) (hb : axis f ≠ axis g) : GoodL (nextLaid box L f g) g := by
  have hs := step_next (box := box) G hg hb
  refine ⟨hg, ?_, ?_, ?_⟩
  · obtain ⟨u, v, w, h3⟩ := G.three
    have : (nextLaid box L f g).steps.length = 3 := by
      show ((L.steps.set _ _).set _ _).length = 3
      rw [List.length_set, List.length_set, h3] <;> rfl
    match (nextLaid box L f g).steps, this with
    | [u, v, w], _ => exact ⟨u, v, w, rfl⟩
  · rw [hs, if_neg hb, if_pos rfl]
  · intro i j hi hj hij h1 h2
    have key : ∀ k, k < 3 → k ≠ axis f → k ≠ axis g → Orth (stepOf (nextLaid box L f g) (axis f)) (stepOf (nextLaid box L f g) k) := by
      intro k hk k1 k2
      rw [hs, hs, if_pos rfl, if_neg (Ne.symm k1), if_neg (Ne.symm k2)]
      exact ((G.orth (axis g) k (axis_lt hg) hk (Ne.symm k2) (Ne.symm hb) k1).turned _).turned _
    have f3 := axis_lt G.face
    have g3 := axis_lt hg
    by_cases c : i = axis f
    · subst c
      exact key j hj (Ne.symm hij) h2
    · have : j = axis f := by omega
      subst this
      exact (key i hi c h1).symm
theorem goodL_first (box : Three) {f : Nat} (h : f < 6) : GoodL (toML (first box f)) f := by
  refine ⟨h, ⟨_, _, _, rfl⟩, ?_, ?_⟩
  · refine cases6 (P := fun f => stepOf (toML (first box f)) (axis f) = ⟨0, 0⟩) h rfl rfl rfl rfl rfl rfl
  · intro i j hi hj
    revert i j
    refine cases6 (P := fun f => ∀ i j, i < 3 → j < 3 → i ≠ j → i ≠ axis f → j ≠ axis f → Orth (stepOf (toML (first box f)) i) (stepOf (toML (first box f)) j)) h ?_ ?_ ?_ ?_ ?_ ?_ <;>
    · intro i j hi hj hij h1 h2
      match i, j, hi, hj with
      | 0, 0, _, _ => exact absurd rfl hij
      | 1, 1, _, _ => exact absurd rfl hij
      | 2, 2, _, _ => exact absurd rfl hij
      | 0, 1, _, _ => first | exact absurd rfl h1 | exact absurd rfl h2 | (simp [Orth, stepOf, toML, first, axis, List.range, List.range.loop])
      | 0, 2, _, _ => first | exact absurd rfl h1 | exact absurd rfl h2 | (simp [Orth, stepOf, toML, first, axis, List.range, List.range.loop])
      | 1, 0, _, _ => first | exact absurd rfl h1 | exact absurd rfl h2 | (simp [Orth, stepOf, toML, first, axis, List.range, List.range.loop])
      | 1, 2, _, _ => first | exact absurd rfl h1 | exact absurd rfl h2 | (simp [Orth, stepOf, toML, first, axis, List.range, List.range.loop])
      | 2, 0, _, _ => first | exact absurd rfl h1 | exact absurd rfl h2 | (simp [Orth, stepOf, toML, first, axis, List.range, List.range.loop])
      | 2, 1, _, _ => first | exact absurd rfl h1 | exact absurd rfl h2 | (simp [Orth, stepOf, toML, first, axis, List.range, List.range.loop])

/-! ### edges -/
def PosBox (box : Three) : Prop := ∀ k, k < 3 → 1 ≤ nth box k
/-- an edge by its two steps: u across to it, v along it -/
theorem edge_ok {box : Three} {L : ML} {f g : Nat} (B : PosBox box) (G : GoodL L f) (hg : g < 6) (hb : axis f ≠ axis g) : EdgeOk (edgeOf box L f g) := by
  have f3 := axis_lt G.face
  have g3 := axis_lt hg
  have o := G.orth (axis g) (3 - axis f - axis g) g3 (by omega) (by omega) (Ne.symm hb) (by omega)
  have p := B (3 - axis f - axis g) (by omega)
  unfold edgeOf EdgeOk moved
  dsimp only
  generalize stepOf L (axis g) = u at *
  generalize stepOf L (3 - axis f - axis g) = v at *
  generalize nth box (3 - axis f - axis g) = n at *
  generalize (nth box (axis g) : Int) * b2n (atFar g) = m at *
  rcases o with ⟨h1, h2, h3 | h3, h4 | h4⟩ | ⟨h1, h2, h3 | h3, h4 | h4⟩ <;> rw [h1, h2, h3, h4] <;> omega
theorem far_eq {g h : Nat} (ha : axis g = axis h) (hf : atFar g = atFar h) : g = h := by
  unfold axis at ha
  unfold atFar at hf
  have : g % 2 = h % 2 := by
    rcases Nat.mod_two_eq_zero_or_one g with c | c <;> rcases Nat.mod_two_eq_zero_or_one h with d | d <;> rw [c, d] at hf ⊢ <;> cases hf
  omega
theorem edges_sides {box : Three} {L : ML} {f g h : Nat} (B : PosBox box) (G : GoodL L f) (hg : g < 6) (hb : axis f ≠ axis g) (hh : h < 6) (hb' : axis f ≠ axis h) (hne : g ≠ h) :
    Sides (edgeOf box L f g) (edgeOf box L f h) := by
  have f3 := axis_lt G.face
  have g3 := axis_lt hg
  have h3' := axis_lt hh
  by_cases c : axis g = axis h
  · have hfar : atFar g ≠ atFar h := fun z => hne (far_eq c z)
    have o := G.orth (axis g) (3 - axis f - axis g) g3 (by omega) (by omega) (Ne.symm hb) (by omega)
    have p := B (3 - axis f - axis g) (by omega)
    have p2 := B (axis g) g3
    unfold edgeOf Sides moved
    dsimp only
    rw [← c]
    generalize stepOf L (axis g) = u at *
    generalize stepOf L (3 - axis f - axis g) = v at *
    generalize nth box (3 - axis f - axis g) = n at *
    generalize nth box (axis g) = m at *
    cases hgf : atFar g <;> cases hhf : atFar h <;> simp only [b2n, hgf, hhf, ne_eq, not_true_eq_false, reduceCtorEq, not_false_eq_true] at hfar ⊢ <;>
    (rcases o with ⟨h1, h2, h3 | h3, h4 | h4⟩ | ⟨h1, h2, h3 | h3, h4 | h4⟩ <;> rw [h1, h2, h3, h4] <;> simp <;> omega)
  · have t1 : 3 - axis f - axis g = axis h := by omega
    have t2 : 3 - axis f - axis h = axis g := by omega
    have o := G.orth (axis g) (axis h) g3 h3' c (Ne.symm hb) (Ne.symm hb')
    have p := B (axis h) h3'
    have p2 := B (axis g) g3
    unfold edgeOf Sides moved
    dsimp only
    rw [t1, t2]
    generalize stepOf L (axis g) = u at *
    generalize stepOf L (axis h) = v at *
    generalize nth box (axis h) = n at *
    generalize nth box (axis g) = m at *
    cases hgf : atFar g <;> cases hhf : atFar h <;> simp only [b2n] <;>
    (rcases o with ⟨h1, h2, h3 | h3, h4 | h4⟩ | ⟨h1, h2, h3 | h3, h4 | h4⟩ <;> rw [h1, h2, h3, h4] <;> simp <;> omega)
/-- the common edge lies alike from both sides -/
theorem edge_back {box : Three} {L : ML} {f g : Nat} (G : GoodL L f) (hg : g < 6) (hb : axis f ≠ axis g) : edgeOf box (nextLaid box L f g) g f = edgeOf box L f g := by
  have f3 := axis_lt G.face
  have g3 := axis_lt hg
  have hs := step_next (box := box) G hg hb
  have e1 : 3 - axis g - axis f = 3 - axis f - axis g := by omega
  have e2 : stepOf (nextLaid box L f g) (3 - axis f - axis g) = stepOf L (3 - axis f - axis g) := by rw [hs, if_neg (by omega), if_neg (by omega)]
  have e3 : stepOf (nextLaid box L f g) (axis f) = turned (turned (stepOf L (axis g)) (!atFar g)) (atFar f) := by rw [hs, if_pos rfl]
  unfold edgeOf
  dsimp only
  rw [e1, e2, e3]
  have e4 : moved (nextLaid box L f g).origin (turned (turned (stepOf L (axis g)) (!atFar g)) (atFar f)) (nth box (axis f) * b2n (atFar f)) = moved L.origin (stepOf L (axis g)) (nth box (axis g) * b2n (atFar g)) := by
    unfold nextLaid edgeOf
    dsimp only
    generalize stepOf L (axis g) = u
    generalize nth box (axis g) * b2n (atFar g) = m
    generalize atFar g = p
    generalize nth box (axis f) = n
    cases atFar f
    · apply flat_ext <;> simp [moved, turned, b2n]
    · cases p <;> apply flat_ext <;> simp [moved, turned, b2n] <;> grind
  rw [e4]
/-- a point of the face by the two steps -/
theorem place_by {L : ML} {f g : Nat} (G : GoodL L f) (hg : g < 6) (hb : axis f ≠ axis g) (p : Three) :
    placeOf L p = moved (moved L.origin (stepOf L (axis g)) (nth p (axis g))) (stepOf L (3 - axis f - axis g)) (nth p (3 - axis f - axis g)) := by
  have f3 := axis_lt G.face
  have g3 := axis_lt hg
  have hz := G.flat
  unfold placeOf
  generalize axis f = i at *
  generalize axis g = j at *
  match i, j, f3, g3 with
  | 0, 0, _, _ => exact absurd rfl hb
  | 1, 1, _, _ => exact absurd rfl hb
  | 2, 2, _, _ => exact absurd rfl hb
  | 0, 1, _, _ => rw [hz]; apply flat_ext <;> simp [moved] <;> grind
  | 0, 2, _, _ => rw [hz]; apply flat_ext <;> simp [moved] <;> grind
  | 1, 0, _, _ => rw [hz]; apply flat_ext <;> simp [moved] <;> grind
  | 1, 2, _, _ => rw [hz]; apply flat_ext <;> simp [moved] <;> grind
  | 2, 0, _, _ => rw [hz]; apply flat_ext <;> simp [moved] <;> grind
  | 2, 1, _, _ => rw [hz]; apply flat_ext <;> simp [moved] <;> grind
def Within (box p : Three) : Prop := ∀ k, k < 3 → nth p k ≤ nth box k
/-- a point of the face that lies on an edge's line lies in the edge -/
theorem first_line {box p : Three} {L : ML} {f g : Nat} (B : PosBox box) (W : Within box p) (G : GoodL L f) (hg : g < 6) (hb : axis f ≠ axis g) (h : OnLine (placeOf L p) (edgeOf box L f g)) :
    (imin (edgeOf box L f g).1.x (edgeOf box L f g).2.x ≤ (placeOf L p).x ∧ (placeOf L p).x ≤ imax (edgeOf box L f g).1.x (edgeOf box L f g).2.x) ∧
    (imin (edgeOf box L f g).1.y (edgeOf box L f g).2.y ≤ (placeOf L p).y ∧ (placeOf L p).y ≤ imax (edgeOf box L f g).1.y (edgeOf box L f g).2.y) := by
  have f3 := axis_lt G.face
  have g3 := axis_lt hg
  have o := G.orth (axis g) (3 - axis f - axis g) g3 (by omega) (by omega) (Ne.symm hb) (by omega)
  have p1 := B (3 - axis f - axis g) (by omega)
  have p2 := W (3 - axis f - axis g) (by omega)
  rw [place_by G hg hb] at h ⊢
  revert h
  unfold edgeOf OnLine moved
  rw [imin_eq, imin_eq, imax_eq, imax_eq]
  dsimp only
  generalize stepOf L (axis g) = u at *
  generalize stepOf L (3 - axis f - axis g) = v at *
  generalize nth box (3 - axis f - axis g) = n at *
  generalize nth p (3 - axis f - axis g) = n' at *
  generalize nth p (axis g) = m' at *
  generalize (nth box (axis g) : Int) * b2n (atFar g) = m at *
  rcases o with ⟨h1, h2, h3 | h3, h4 | h4⟩ | ⟨h1, h2, h3 | h3, h4 | h4⟩ <;> rw [h1, h2, h3, h4] <;> omega

/-! ### the row -/
theorem good_face {l : Laid} (G : Good l) : l.face < 6 := G.face
theorem all_is {box : Three} (B : PosBox box) {a b : Flat} : ∀ (r : List Nat) (l : Laid) (S : List Nat), Good l → GoodL (toML l) l.face → Linked l.face r → (l.face :: r).Nodup → (∀ g ∈ r, g ∉ S) →
    (∀ g, g < 6 → axis l.face ≠ axis g → g ∉ S → OnLine a (edgeOf box (toML l) l.face g) → OnLine b (edgeOf box (toML l) l.face g) → crosses a b (edgeOf box (toML l) l.face g) = true) →
    (chain box l r).2.all (meets a b) = (chain box l r).2.all (crosses a b)
  | [], _, _, _, _, _, _, _, _ => rfl
  | g :: r, l, S, G, GL, hl, nd, hS, H => by
    have hg := hl.2.2.head
    have hb := hl.2.1
    have e1 := edge_is (box := box) G hg hb
    have e2 := next_is (box := box) G hg hb
    have ok := edge_ok B GL hg hb
    show (meets a b (image l (edge box l.face g).1, image l (edge box l.face g).2) && _) = (crosses a b (image l (edge box l.face g).1, image l (edge box l.face g).2) && _)
    rw [← e1]
    have same : crosses a b (edgeOf box (toML l) l.face g) = meets a b (edgeOf box (toML l) l.face g) := by
      by_cases c : OnLine a (edgeOf box (toML l) l.face g) ∧ OnLine b (edgeOf box (toML l) l.face g)
      · have q := H g hg hb (hS g List.mem_cons_self) c.1 c.2
        rw [q, cross_meets ok q]
      · exact off_is ok c
    rw [same]
    cases hm : meets a b (edgeOf box (toML l) l.face g) with
    | false => rfl
    | true =>
      rw [Bool.true_and, Bool.true_and]
      have GL' : GoodL (toML (unfolded box l g)) g := by rw [← e2]; exact GL.next hg hb
      have nd' := List.nodup_cons.mp nd
      refine all_is B r (unfolded box l g) [l.face] (good_next box G hg) GL' hl.2.2 nd'.2 ?_ ?_
      · intro k hk z
        have z' := List.mem_singleton.mp z
        subst z'
        exact nd'.1 (List.mem_cons_of_mem _ hk)
      · intro k hk hbk hkS ha hb'
        have s := edges_sides B GL' (box := box) (g := l.face) (h := k) G.face (Ne.symm hb) hk hbk (fun z => hkS (List.mem_singleton.mpr z.symm))
        refine line_prior s (edge_ok B GL' hk hbk) ha hb' ?_
        have e3 := edge_back (box := box) GL hg hb
        rw [e2] at e3
        rw [e3]
        exact hm
/-- the program's straight way over a row -/
def sqOf (m : MR) (p q : Three) : Option Int :=
  let a := placeOf m.first p
  let b := placeOf m.last q
  if m.edges.all (crosses a b) = true then some (sqBetween a b) else none
theorem sq_is {box p q : Three} {f : Nat} {r : List Nat} (B : PosBox box) (W : Within box p) (hl : Linked f r) (nd : (f :: r).Nodup) : sqOf (mr box f r) p q = along box p q (f :: r) := by
  have G := good_first box hl.head
  have GL := goodL_first box hl.head
  obtain ⟨Gz, ez⟩ := chain_good box r (first box f) G hl
  have e1 : placeOf (mr box f r).first p = image (first box f) p := (image_is G p).symm
  have e2 : placeOf (mr box f r).last q = image (chain box (first box f) r).1 q := (image_is Gz q).symm
  unfold sqOf along
  dsimp only
  rw [e1, e2]
  have h := all_is B (a := image (first box f) p) (b := image (chain box (first box f) r).1 q) r (first box f) [] G GL hl nd (fun _ _ z => nomatch z) (fun g hg hb _ ha hb' => ?_)
  · rw [h]
    show (if (chain box (first box f) r).2.all _ = true then some (sqBetween _ _) else none) = _
    have e3 : ∀ a b : Flat, sqBetween a b = square (minus b a) := fun a b => rfl
    rw [e3]
  · rw [image_is G] at ha ⊢
    exact line_within (edge_ok B GL hg hb) ha hb' (first_line B W GL hg hb ha)
end Fly

/-! ## Math4 -/
/-! How far away a laid row may lie. -/
namespace Fly
open Sy73
def Near (N : Nat) (p : Flat) : Prop := -(N : Int) ≤ p.x ∧ p.x ≤ N ∧ -(N : Int) ≤ p.y ∧ p.y ≤ N
theorem Near.mono {N M : Nat} {p : Flat} (h : Near N p) (le : N ≤ M) : Near M p := by
  obtain ⟨h1, h2, h3, h4⟩ := h
  exact ⟨by omega, by omega, by omega, by omega⟩
def UnitS (s : Flat) : Prop := (s.x = -1 ∨ s.x = 0 ∨ s.x = 1) ∧ (s.y = -1 ∨ s.y = 0 ∨ s.y = 1)
theorem Orth.unit {u v : Flat} (h : Orth u v) : UnitS u := by
  rcases h with ⟨h1, h2, h3, h4⟩ | ⟨h1, h2, h3, h4⟩
  · exact ⟨by omega, by omega⟩
  · exact ⟨by omega, by omega⟩
theorem GoodL.unit {L : ML} {f k : Nat} (G : GoodL L f) (hk : k < 3) : UnitS (stepOf L k) := by
  have f3 := axis_lt G.face
  by_cases c : k = axis f
  · rw [c, G.flat]
    exact ⟨.inr (.inl rfl), .inr (.inl rfl)⟩
  · -- another axis beside
    have : ∃ j, j < 3 ∧ k ≠ j ∧ j ≠ axis f := ⟨3 - k - axis f, by omega, by omega, by omega⟩
    obtain ⟨j, hj, h1, h2⟩ := this
    exact (G.orth k j hk hj h1 c h2).unit
theorem UnitS.turned {s : Flat} (h : UnitS s) (b : Bool) : UnitS (turned s b) := by
  unfold Fly.turned
  cases b
  · exact h
  · obtain ⟨h1, h2⟩ := h
    rw [if_pos rfl]
    exact ⟨by dsimp only; omega, by dsimp only; omega⟩
theorem moved_near {N : Nat} {p s : Flat} {n : Int} (h : Near N p) (u : UnitS s) (h0 : 0 ≤ n) (h1 : n ≤ 40) : Near (N + 40) (moved p s n) := by
  obtain ⟨a1, a2, a3, a4⟩ := h
  obtain ⟨ux, uy⟩ := u
  unfold Near moved
  dsimp only
  rcases ux with e | e | e <;> rcases uy with e' | e' | e' <;> rw [e, e'] <;> omega
theorem b2n_bd (n : Nat) (h : n ≤ 40) (b : Bool) : 0 ≤ (n : Int) * b2n b ∧ (n : Int) * b2n b ≤ 40 := by
  cases b
  · rw [show b2n false = 0 from rfl, Int.mul_zero]; omega
  · rw [show b2n true = 1 from rfl, Int.mul_one]; omega
theorem edge_near {N : Nat} {box : Three} {L : ML} {f g : Nat} (b40 : ∀ k, k < 3 → nth box k ≤ 40) (G : GoodL L f) (hg : g < 6) (hb : axis f ≠ axis g) (h : Near N L.origin) :
    Near (N + 40) (edgeOf box L f g).1 ∧ Near (N + 80) (edgeOf box L f g).2 := by
  have f3 := axis_lt G.face
  have g3 := axis_lt hg
  have m := b2n_bd _ (b40 _ g3) (atFar g)
  have h1 : Near (N + 40) (edgeOf box L f g).1 := moved_near h (G.unit g3) m.1 m.2
  have b := b40 (3 - axis f - axis g) (by omega)
  exact ⟨h1, moved_near h1 (G.unit (by omega)) (by omega) (by omega)⟩
theorem next_near {N : Nat} {box : Three} {L : ML} {f g : Nat} (b40 : ∀ k, k < 3 → nth box k ≤ 40) (G : GoodL L f) (hg : g < 6) (hb : axis f ≠ axis g) (h : Near N L.origin) : Near (N + 80) (nextLaid box L f g).origin := by
  have m := b2n_bd _ (b40 _ (axis_lt G.face)) (atFar f)
  exact moved_near (edge_near b40 G hg hb h).1 ((G.unit (axis_lt hg)).turned _) m.1 m.2
theorem place_near {N : Nat} {L : ML} {f : Nat} {p : Three} (G : GoodL L f) (p40 : ∀ k, k < 3 → nth p k ≤ 40) (h : Near N L.origin) : Near (N + 120) (placeOf L p) := by
  have a := p40 0 (by decide)
  have b := p40 1 (by decide)
  have c := p40 2 (by decide)
  exact moved_near (moved_near (moved_near h (G.unit (by decide)) (by omega) (by omega)) (G.unit (by decide)) (by omega) (by omega)) (G.unit (by decide)) (by omega) (by omega)
theorem chain_near {box : Three} (b40 : ∀ k, k < 3 → nth box k ≤ 40) : ∀ (r : List Nat) (l : Laid) (N : Nat), Good l → GoodL (toML l) l.face → Linked l.face r → Near N (toML l).origin →
    (∀ e ∈ (chain box l r).2, Near (N + 80 * r.length) e.1 ∧ Near (N + 80 * r.length) e.2) ∧ Near (N + 80 * r.length) (toML (chain box l r).1).origin ∧ GoodL (toML (chain box l r).1) (lastOf l.face r)
  | [], l, N, G, GL, _, h => ⟨fun e he => (List.not_mem_nil he).elim, h, GL⟩
  | g :: r, l, N, G, GL, hl, h => by
    have hg := hl.2.2.head
    have hb := hl.2.1
    have e1 := edge_is (box := box) G hg hb
    have e2 := next_is (box := box) G hg hb
    have n1 := edge_near b40 GL hg hb h
    have n2 := next_near b40 GL hg hb h
    have GL' : GoodL (toML (unfolded box l g)) g := by rw [← e2]; exact GL.next hg hb
    rw [e2] at n2
    obtain ⟨i1, i2, i3⟩ := chain_near b40 r (unfolded box l g) (N + 80) (good_next box G hg) GL' hl.2.2 n2
    have le : N + 80 + 80 * r.length = N + 80 * (g :: r).length := by rw [List.length_cons]; omega
    rw [le] at i1 i2
    refine ⟨fun e he => ?_, i2, i3⟩
    rcases List.mem_cons.mp (show e ∈ (image l (edge box l.face g).1, image l (edge box l.face g).2) :: (chain box (unfolded box l g) r).2 from he) with z | z
    · rw [z, ← e1]
      exact ⟨n1.1.mono (by rw [List.length_cons]; omega), n1.2.mono (by rw [List.length_cons]; omega)⟩
    · exact i1 e z
/-- all of a row lies near -/
theorem row_near {box p q : Three} {f : Nat} {r : List Nat} (b40 : ∀ k, k < 3 → nth box k ≤ 40) (hl : Linked f r) (p40 : ∀ k, k < 3 → nth p k ≤ 40) (q40 : ∀ k, k < 3 → nth q k ≤ 40) :
    (∀ e ∈ (mr box f r).edges, Near (120 + 80 * r.length) e.1 ∧ Near (120 + 80 * r.length) e.2) ∧ Near (120 + 80 * r.length) (placeOf (mr box f r).first p) ∧ Near (120 + 80 * r.length) (placeOf (mr box f r).last q) := by
  have G := good_first box hl.head
  have GL := goodL_first box hl.head
  have h0 : Near 0 (toML (first box f)).origin := by
    rw [image_origin box hl.head]
    exact ⟨by decide, by decide, by decide, by decide⟩
  obtain ⟨i1, i2, i3⟩ := chain_near b40 r (first box f) 0 G GL hl h0
  refine ⟨fun e he => ⟨(i1 e he).1.mono (by omega), (i1 e he).2.mono (by omega)⟩, (place_near GL p40 h0).mono (by omega), (place_near i3 q40 i2).mono (by omega)⟩
where
  image_origin (box : Three) {f : Nat} (h : f < 6) : (toML (first box f)).origin = ⟨0, 0⟩ := by
    refine cases6 (P := fun f => (toML (first box f)).origin = ⟨0, 0⟩) h ?_ ?_ ?_ ?_ ?_ ?_ <;>
      simp [toML, first, image, axis, plus, scaled, nth, wayOf, List.range, List.range.loop]
end Fly

/-! ## Math5 -/
/-! All rows of faces. -/
namespace Fly
open Sy73
/-- the face may come next -/
def guard (L : List Nat) (g : Nat) : Bool := !L.contains g && (L.getLast?).any (beside g)
/-- the rows that go on behind L by a face below i -/
def tails : Nat → List Nat → Nat → List (List Nat)
  | 0, _, _ => []
  | n + 1, L, i => ((List.range i).filter (guard L)).flatMap fun g => (rows n (L ++ [g])).map fun r => g :: r
theorem rows_is : ∀ (n : Nat) (L : List Nat), rows n L = [] :: tails n L 6
  | 0, _ => rfl
  | _ + 1, _ => rfl
theorem tails_next (n : Nat) (L : List Nat) (i : Nat) : tails (n + 1) L (i + 1) = tails (n + 1) L i ++ (if guard L i = true then (rows n (L ++ [i])).map fun r => i :: r else []) := by
  show ((List.range (i + 1)).filter (guard L)).flatMap (fun g => (rows n (L ++ [g])).map fun r => g :: r) = ((List.range i).filter (guard L)).flatMap (fun g => (rows n (L ++ [g])).map fun r => g :: r) ++ _
  rw [List.range_succ, List.filter_append, List.flatMap_append]
  congr 1
  by_cases h : guard L i = true
  · rw [if_pos h, List.filter_cons_of_pos h, List.filter_nil, List.flatMap_cons, List.flatMap_nil, List.append_nil]
  · rw [if_neg h, List.filter_cons_of_neg h, List.filter_nil, List.flatMap_nil]
/-- a row: faces beside each other, none twice -/
structure RowL (f : Nat) (r : List Nat) : Prop where
  l : Linked f r
  nd : (f :: r).Nodup
theorem Linked.lt6 : ∀ {f : Nat} {r : List Nat}, Linked f r → ∀ g ∈ f :: r, g < 6
  | f, [], h, g, hg => by rw [List.mem_singleton.mp hg]; exact h
  | f, h' :: r, h, g, hg => by
    rcases List.mem_cons.mp hg with z | z
    · rw [z]; exact h.1
    · exact Linked.lt6 h.2.2 g z
theorem nodup_len : ∀ (n : Nat) (l : List Nat), l.Nodup → (∀ g ∈ l, g < n) → l.length ≤ n
  | 0, [], _, _ => Nat.le_refl _
  | 0, a :: l, _, h => absurd (h a List.mem_cons_self) (Nat.not_lt_zero _)
  | n + 1, l, nd, h => by
    have h1 : (l.erase n).length ≤ n := nodup_len n (l.erase n) (nd.erase n) fun g hg => by
      have h2 := (List.Nodup.mem_erase_iff nd).mp hg
      have h3 := h g h2.2
      have h4 := h2.1
      omega
    have h5 := List.length_erase_le (a := n) (l := l)
    have h6 : l.length ≤ (l.erase n).length + 1 := by
      rw [List.length_erase]
      split <;> omega
    omega
theorem RowL.len {f : Nat} {r : List Nat} (R : RowL f r) : r.length ≤ 5 := by
  have := nodup_len 6 (f :: r) R.nd R.l.lt6
  rw [List.length_cons] at this
  omega
theorem guard_iff {f : Nat} {r : List Nat} {g : Nat} : guard (f :: r) g = true ↔ g ∉ f :: r ∧ axis (lastOf f r) ≠ axis g := by
  unfold guard
  rw [lastOf_get, Bool.and_eq_true, Bool.not_eq_true', List.contains_eq_mem, decide_eq_false_iff_not]
  show _ ∧ (axis g != axis (lastOf f r)) = true ↔ _
  rw [bne_iff_ne]
  exact ⟨fun h => ⟨h.1, Ne.symm h.2⟩, fun h => ⟨h.1, Ne.symm h.2⟩⟩
theorem RowL.more {f : Nat} {r : List Nat} {g : Nat} (R : RowL f r) (hg : g < 6) (h : guard (f :: r) g = true) : RowL f (r ++ [g]) := by
  have h' := guard_iff.mp h
  refine ⟨R.l.more hg h'.2, ?_⟩
  show ((f :: r) ++ [g]).Nodup
  rw [List.nodup_append]
  exact ⟨R.nd, by simp, fun x hx y hy e => by rw [List.mem_singleton.mp hy] at e; exact h'.1 (e ▸ hx)⟩
/-- a full row goes on by no face -/
theorem guard_full {f : Nat} {r : List Nat} (R : RowL f r) (h : r.length = 5) {g : Nat} (hg : g < 6) : guard (f :: r) g = false := by
  rw [Bool.eq_false_iff]
  intro z
  have := (R.more hg z).len
  rw [List.length_append, h] at this
  exact absurd this (by show ¬ 5 + 1 ≤ 5; decide)
theorem rows_valid : ∀ (n : Nat) (f : Nat) (r : List Nat), RowL f r → ∀ s ∈ rows n (f :: r), RowL f (r ++ s)
  | 0, f, r, R, s, hs => by
    have : s = [] := List.mem_singleton.mp hs
    subst this
    rw [List.append_nil]
    exact R
  | n + 1, f, r, R, s, hs => by
    rw [rows_is] at hs
    rcases List.mem_cons.mp hs with z | z
    · subst z
      rw [List.append_nil]
      exact R
    · unfold tails at z
      obtain ⟨g, hg, hs2⟩ := List.mem_flatMap.mp z
      obtain ⟨hg1, hg2⟩ := List.mem_filter.mp hg
      obtain ⟨s', hs', e⟩ := List.mem_map.mp hs2
      subst e
      have ih := rows_valid n f (r ++ [g]) (R.more (List.mem_range.mp hg1) hg2) s' hs'
      rw [List.append_assoc] at ih
      exact ih
theorem flat_len {α : Type} (k : Nat) (f : Nat → List α) : ∀ l : List Nat, (∀ g ∈ l, (f g).length ≤ k) → (l.flatMap f).length ≤ l.length * k
  | [], _ => by simp
  | a :: l, h => by
    rw [List.flatMap_cons, List.length_append, List.length_cons, Nat.succ_mul]
    have h1 := h a List.mem_cons_self
    have h2 := flat_len k f l fun g hg => h g (List.mem_cons_of_mem _ hg)
    omega
theorem rows_len : ∀ (n : Nat) (L : List Nat), (rows n L).length ≤ 7 ^ n
  | 0, _ => Nat.le_refl _
  | n + 1, L => by
    have one : ∀ m : Nat, 1 ≤ 7 ^ m := fun m => Nat.pos_of_ne_zero (by simp)
    rw [rows_is, List.length_cons]
    have h : (tails (n + 1) L 6).length ≤ 6 * 7 ^ n := by
      unfold tails
      refine Nat.le_trans (flat_len (7 ^ n) _ _ fun g _ => by rw [List.length_map]; exact rows_len n (L ++ [g])) ?_
      refine Nat.mul_le_mul_right _ ?_
      have := List.length_filter_le (guard L) (List.range 6)
      rw [List.length_range] at this
      exact this
    have := one n
    rw [Nat.pow_succ]
    omega
/-- all rows whose first face p is on -/
def rowsL (box p : Three) : List (List Nat) := (facesOf box p).flatMap fun f => (rows 5 [f]).map fun r => f :: r
def lastL : List Nat → Nat
  | [] => 0
  | f :: r => lastOf f r
def mrL (box : Three) : List Nat → MR
  | [] => mr box 0 []
  | f :: r => mr box f r
def RowLL : List Nat → Prop
  | [] => False
  | f :: r => RowL f r
theorem facesOf_lt {box p : Three} {f : Nat} (h : f ∈ facesOf box p) : f < 6 := List.mem_range.mp (List.mem_filter.mp h).1
theorem row1 {f : Nat} (h : f < 6) : RowL f [] := ⟨h, by simp⟩
theorem rowsL_valid {box p : Three} : ∀ L ∈ rowsL box p, RowLL L := fun L hL => by
  obtain ⟨f, hf, h⟩ := List.mem_flatMap.mp hL
  obtain ⟨s, hs, e⟩ := List.mem_map.mp h
  subst e
  exact rows_valid 5 f [] (row1 (facesOf_lt hf)) s hs
theorem rowsL_len (box p : Three) : (rowsL box p).length ≤ 200000 := by
  unfold rowsL
  refine Nat.le_trans (flat_len (7 ^ 5) _ _ fun g _ => by rw [List.length_map]; exact rows_len 5 [g]) ?_
  have h : (facesOf box p).length ≤ 6 := by
    have := List.length_filter_le (onFace box p) (List.range 6)
    rw [List.length_range] at this
    exact this
  exact Nat.le_trans (Nat.mul_le_mul_right _ h) (by decide)
end Fly

/-! ## Math6 -/
/-! There is always a straight way. -/
namespace Fly
open Sy73
/-- a strip: both ends within the edge's range, the edge between -/
theorem strip_up {a b : Flat} {e : Flat × Flat} (he : e.1.x = e.2.x) (hn : e.1.y ≠ e.2.y) (ha : imin e.1.y e.2.y ≤ a.y ∧ a.y ≤ imax e.1.y e.2.y) (hb : imin e.1.y e.2.y ≤ b.y ∧ b.y ≤ imax e.1.y e.2.y)
    (hx : imin a.x b.x ≤ e.1.x ∧ e.1.x ≤ imax a.x b.x) : meets a b e = true := by
  unfold meets
  rw [Bool.and_eq_true, decide_eq_true_eq, decide_eq_true_eq]
  refine ⟨?_, (side_up he hn).mpr hx⟩
  have c1 : cross (minus b a) (minus e.1 a) = (b.x - e.1.x) * (e.1.y - a.y) + (e.1.x - a.x) * (e.1.y - b.y) := by simp only [cross, minus]; grind
  have c2 : cross (minus b a) (minus e.2 a) = (b.x - e.1.x) * (e.2.y - a.y) + (e.1.x - a.x) * (e.2.y - b.y) := by simp only [cross, minus]; rw [← he]; grind
  rw [c1, c2]
  rw [imin_eq, imax_eq] at ha hb hx
  have pp : ∀ {s t : Int}, 0 ≤ s → 0 ≤ t → 0 ≤ s * t := fun h1 h2 => Int.mul_nonneg h1 h2
  have pn : ∀ {s t : Int}, 0 ≤ s → t ≤ 0 → s * t ≤ 0 := fun h1 h2 => Int.mul_nonpos_of_nonneg_of_nonpos h1 h2
  have np : ∀ {s t : Int}, s ≤ 0 → 0 ≤ t → s * t ≤ 0 := fun h1 h2 => Int.mul_nonpos_of_nonpos_of_nonneg h1 h2
  have nn : ∀ {s t : Int}, s ≤ 0 → t ≤ 0 → 0 ≤ s * t := fun h1 h2 => Int.mul_nonneg_of_nonpos_of_nonpos h1 h2
  apply mul_le_zero_of
  have hs : (0 ≤ b.x - e.1.x ∧ 0 ≤ e.1.x - a.x) ∨ (b.x - e.1.x ≤ 0 ∧ e.1.x - a.x ≤ 0) := by omega
  have hy : (e.1.y - a.y ≤ 0 ∧ e.1.y - b.y ≤ 0 ∧ 0 ≤ e.2.y - a.y ∧ 0 ≤ e.2.y - b.y) ∨ (0 ≤ e.1.y - a.y ∧ 0 ≤ e.1.y - b.y ∧ e.2.y - a.y ≤ 0 ∧ e.2.y - b.y ≤ 0) := by omega
  rcases hs with ⟨s1, s2⟩ | ⟨s1, s2⟩ <;> rcases hy with ⟨y1, y2, y3, y4⟩ | ⟨y1, y2, y3, y4⟩
  · have := pn s1 y1; have := pn s2 y2; have := pp s1 y3; have := pp s2 y4; omega
  · have := pp s1 y1; have := pp s2 y2; have := pn s1 y3; have := pn s2 y4; omega
  · have := nn s1 y1; have := nn s2 y2; have := np s1 y3; have := np s2 y4; omega
  · have := np s1 y1; have := np s2 y2; have := nn s1 y3; have := nn s2 y4; omega
/-- an edge that an upright or a level strip crosses -/
def Strip (a b : Flat) (e : Flat × Flat) : Prop :=
  (e.1.x = e.2.x ∧ e.1.y ≠ e.2.y ∧ (min e.1.y e.2.y ≤ a.y ∧ a.y ≤ max e.1.y e.2.y) ∧ (min e.1.y e.2.y ≤ b.y ∧ b.y ≤ max e.1.y e.2.y) ∧ min a.x b.x ≤ e.1.x ∧ e.1.x ≤ max a.x b.x) ∨
  (e.1.y = e.2.y ∧ e.1.x ≠ e.2.x ∧ (min e.1.x e.2.x ≤ a.x ∧ a.x ≤ max e.1.x e.2.x) ∧ (min e.1.x e.2.x ≤ b.x ∧ b.x ≤ max e.1.x e.2.x) ∧ min a.y b.y ≤ e.1.y ∧ e.1.y ≤ max a.y b.y)
theorem Strip.meets {a b : Flat} {e : Flat × Flat} (h : Strip a b e) : meets a b e = true := by
  rcases h with ⟨h1, h2, h3, h4, h5⟩ | ⟨h1, h2, h3, h4, h5⟩
  · exact strip_up h1 h2 (by rw [imin_eq, imax_eq]; exact h3) (by rw [imin_eq, imax_eq]; exact h4) (by rw [imin_eq, imax_eq]; exact h5)
  · rw [← meets_swap]
    exact strip_up (a := swapped a) (b := swapped b) (e := (swapped e.1, swapped e.2)) h1 h2 (by rw [imin_eq, imax_eq]; exact h3) (by rw [imin_eq, imax_eq]; exact h4) (by rw [imin_eq, imax_eq]; exact h5)
def mid (f : Nat) : Nat := if axis f = 0 then 2 else 0
def direct (f h : Nat) : List Nat := if f = h then [] else if axis f = axis h then [mid f, h] else [h]
theorem direct_all : ((List.range 6).all fun f => (List.range 6).all fun h => (rows 5 [f]).contains (direct f h) && (lastOf f (direct f h) == h)) = true := by decide +kernel
theorem direct_in {f h : Nat} (hf : f < 6) (hh : h < 6) : direct f h ∈ rows 5 [f] ∧ lastOf f (direct f h) = h := by
  have z := List.all_eq_true.mp (List.all_eq_true.mp direct_all f (List.mem_range.mpr hf)) h (List.mem_range.mpr hh)
  rw [Bool.and_eq_true, List.contains_eq_mem, decide_eq_true_eq, beq_iff_eq] at z
  exact z
theorem along_one {box p q : Three} {f : Nat} : (along box p q [f]).isSome = true := rfl
/-- two faces beside each other are one strip -/
theorem along_two (b0 b1 b2 p0 p1 p2 q0 q1 q2 : Nat) (h0 : 1 ≤ b0) (h1 : 1 ≤ b1) (h2 : 1 ≤ b2) (hp0 : p0 ≤ b0) (hp1 : p1 ≤ b1) (hp2 : p2 ≤ b2) (hq0 : q0 ≤ b0) (hq1 : q1 ≤ b1) (hq2 : q2 ≤ b2) {f h : Nat} (hf : f < 6) (hh : h < 6) (hb : axis f ≠ axis h)
    (of : onFace [b0, b1, b2] [p0, p1, p2] f = true) (oh : onFace [b0, b1, b2] [q0, q1, q2] h = true) : (along [b0, b1, b2] [p0, p1, p2] [q0, q1, q2] [f, h]).isSome = true := by
  have key : Strip (image (first [b0, b1, b2] f) [p0, p1, p2]) (image (unfolded [b0, b1, b2] (first [b0, b1, b2] f) h) [q0, q1, q2]) (image (first [b0, b1, b2] f) (edge [b0, b1, b2] f h).1, image (first [b0, b1, b2] f) (edge [b0, b1, b2] f h).2) := by
    revert hb of oh
    refine cases6 (P := fun f => axis f ≠ axis h → onFace [b0, b1, b2] [p0, p1, p2] f = true → onFace [b0, b1, b2] [q0, q1, q2] h = true → Strip (image (first [b0, b1, b2] f) [p0, p1, p2]) (image (unfolded [b0, b1, b2] (first [b0, b1, b2] f) h) [q0, q1, q2]) (image (first [b0, b1, b2] f) (edge [b0, b1, b2] f h).1, image (first [b0, b1, b2] f) (edge [b0, b1, b2] f h).2)) hf ?_ ?_ ?_ ?_ ?_ ?_ <;>
    (refine cases6 (P := fun h => _ ≠ axis h → _ → onFace [b0, b1, b2] [q0, q1, q2] h = true → Strip _ (image (unfolded [b0, b1, b2] _ h) [q0, q1, q2]) (image _ (edge [b0, b1, b2] _ h).1, image _ (edge [b0, b1, b2] _ h).2)) hh ?_ ?_ ?_ ?_ ?_ ?_ <;>
    · intro hb of oh
      first
      | exact absurd rfl hb
      | (simp [onFace, nth, axis, level, atFar] at of oh
         simp [Strip, image, first, unfolded, edge, axis, level, atFar, nth, wayOf, plus, scaled, List.range, List.range.loop]
         omega))
  have e : along [b0, b1, b2] [p0, p1, p2] [q0, q1, q2] [f, h] = if ((image (first [b0, b1, b2] f) (edge [b0, b1, b2] (first [b0, b1, b2] f).face h).1, image (first [b0, b1, b2] f) (edge [b0, b1, b2] (first [b0, b1, b2] f).face h).2) :: ([] : List (Flat × Flat))).all (meets (image (first [b0, b1, b2] f) [p0, p1, p2]) (image (unfolded [b0, b1, b2] (first [b0, b1, b2] f) h) [q0, q1, q2])) = true then some _ else none := rfl
  rw [e, if_pos]
  · rfl
  · rw [List.all_cons, List.all_nil, Bool.and_true]
    exact key.meets
end Fly

/-! ## Math7 -/
/-! There is always a straight way, on: opposite faces; the shortest of them. -/
namespace Fly
open Sy73
theorem pair6 {P : Nat → Nat → Prop} {f h : Nat} (hf : f < 6) (hh : h < 6) (ha : axis f = axis h) (hn : f ≠ h) (h01 : P 0 1) (h10 : P 1 0) (h23 : P 2 3) (h32 : P 3 2) (h45 : P 4 5) (h54 : P 5 4) : P f h := by
  unfold axis at ha
  have : (f = 0 ∧ h = 1) ∨ (f = 1 ∧ h = 0) ∨ (f = 2 ∧ h = 3) ∨ (f = 3 ∧ h = 2) ∨ (f = 4 ∧ h = 5) ∨ (f = 5 ∧ h = 4) := by omega
  rcases this with ⟨rfl, rfl⟩ | ⟨rfl, rfl⟩ | ⟨rfl, rfl⟩ | ⟨rfl, rfl⟩ | ⟨rfl, rfl⟩ | ⟨rfl, rfl⟩ <;> assumption
/-- three faces in a line are one strip -/
theorem along_three (b0 b1 b2 p0 p1 p2 q0 q1 q2 : Nat) (h0 : 1 ≤ b0) (h1 : 1 ≤ b1) (h2 : 1 ≤ b2) (hp0 : p0 ≤ b0) (hp1 : p1 ≤ b1) (hp2 : p2 ≤ b2) (hq0 : q0 ≤ b0) (hq1 : q1 ≤ b1) (hq2 : q2 ≤ b2) {f h : Nat} (hf : f < 6) (hh : h < 6) (hb : axis f = axis h) (hn : f ≠ h)
    (of : onFace [b0, b1, b2] [p0, p1, p2] f = true) (oh : onFace [b0, b1, b2] [q0, q1, q2] h = true) : (along [b0, b1, b2] [p0, p1, p2] [q0, q1, q2] [f, mid f, h]).isSome = true := by
  have key : ∀ (l1 l2 l3 : Laid), first [b0, b1, b2] f = l1 → unfolded [b0, b1, b2] l1 (mid f) = l2 → unfolded [b0, b1, b2] l2 h = l3 →
      Strip (image l1 [p0, p1, p2]) (image l3 [q0, q1, q2]) (image l1 (edge [b0, b1, b2] f (mid f)).1, image l1 (edge [b0, b1, b2] f (mid f)).2) ∧
      Strip (image l1 [p0, p1, p2]) (image l3 [q0, q1, q2]) (image l2 (edge [b0, b1, b2] (mid f) h).1, image l2 (edge [b0, b1, b2] (mid f) h).2) := by
    revert of oh
    refine pair6 (P := fun f h => onFace [b0, b1, b2] [p0, p1, p2] f = true → onFace [b0, b1, b2] [q0, q1, q2] h = true → ∀ (l1 l2 l3 : Laid), first [b0, b1, b2] f = l1 → unfolded [b0, b1, b2] l1 (mid f) = l2 → unfolded [b0, b1, b2] l2 h = l3 →
      Strip (image l1 [p0, p1, p2]) (image l3 [q0, q1, q2]) (image l1 (edge [b0, b1, b2] f (mid f)).1, image l1 (edge [b0, b1, b2] f (mid f)).2) ∧
      Strip (image l1 [p0, p1, p2]) (image l3 [q0, q1, q2]) (image l2 (edge [b0, b1, b2] (mid f) h).1, image l2 (edge [b0, b1, b2] (mid f) h).2)) hf hh hb hn ?_ ?_ ?_ ?_ ?_ ?_ <;>
    · intro of oh l1 l2 l3 e1 e2 e3
      simp [onFace, nth, axis, level, atFar] at of oh
      simp [first, axis, level, atFar, nth, List.range, List.range.loop] at e1
      subst e1
      simp [unfolded, mid, image, edge, axis, level, atFar, nth, wayOf, plus, scaled, List.range, List.range.loop] at e2
      subst e2
      simp [unfolded, mid, image, edge, axis, level, atFar, nth, wayOf, plus, scaled, List.range, List.range.loop] at e3
      subst e3
      constructor <;>
      · simp [Strip, mid, image, edge, axis, level, atFar, nth, wayOf, plus, scaled, List.range, List.range.loop]
        omega
  obtain ⟨k1, k2⟩ := key _ _ _ rfl rfl rfl
  have e : along [b0, b1, b2] [p0, p1, p2] [q0, q1, q2] [f, mid f, h] = if ((image (first [b0, b1, b2] f) (edge [b0, b1, b2] (first [b0, b1, b2] f).face (mid f)).1, image (first [b0, b1, b2] f) (edge [b0, b1, b2] (first [b0, b1, b2] f).face (mid f)).2) ::
      (image (unfolded [b0, b1, b2] (first [b0, b1, b2] f) (mid f)) (edge [b0, b1, b2] (mid f) h).1, image (unfolded [b0, b1, b2] (first [b0, b1, b2] f) (mid f)) (edge [b0, b1, b2] (mid f) h).2) :: ([] : List (Flat × Flat))).all
      (meets (image (first [b0, b1, b2] f) [p0, p1, p2]) (image (unfolded [b0, b1, b2] (unfolded [b0, b1, b2] (first [b0, b1, b2] f) (mid f)) h) [q0, q1, q2])) = true then some _ else none := rfl
  rw [e, if_pos]
  · rfl
  · rw [List.all_cons, List.all_cons, List.all_nil, Bool.and_true, Bool.and_eq_true]
    exact ⟨k1.meets, k2.meets⟩
/-- a point on the box -/
structure OnBox (box p : Three) : Prop where
  p3 : p.length = 3
  le : ∀ k, k < 3 → nth p k ≤ nth box k
  face : facesOf box p ≠ []
theorem face_of {box p : Three} (h : facesOf box p ≠ []) : ∃ f, f < 6 ∧ f ∈ facesOf box p ∧ onFace box p f = true := by
  obtain ⟨f, hf⟩ := List.exists_mem_of_ne_nil _ h
  have := List.mem_filter.mp hf
  exact ⟨f, List.mem_range.mp this.1, hf, this.2⟩
/-- the straight way over a row that joins -/
def way1 (box p q : Three) (L : List Nat) : Option Int := if onFace box q (lastL L) = true then along box p q L else none
theorem ways_some {box p q : Three} (b3 : box.length = 3) (B : PosBox box) (hp : OnBox box p) (hq : OnBox box q) : ∃ L ∈ rowsL box p, (way1 box p q L).isSome = true := by
  obtain ⟨f, f6, fm, fo⟩ := face_of hp.face
  obtain ⟨h, h6, _, ho⟩ := face_of hq.face
  obtain ⟨d1, d2⟩ := direct_in f6 h6
  refine ⟨f :: direct f h, List.mem_flatMap.mpr ⟨f, fm, List.mem_map.mpr ⟨_, d1, rfl⟩⟩, ?_⟩
  unfold way1
  rw [show lastL (f :: direct f h) = h from d2, if_pos ho]
  obtain ⟨b0, b1, b2, rfl⟩ : ∃ a b c, box = [a, b, c] := match box, b3 with | [a, b, c], _ => ⟨a, b, c, rfl⟩
  obtain ⟨p0, p1, p2, rfl⟩ : ∃ a b c, p = [a, b, c] := match p, hp.p3 with | [a, b, c], _ => ⟨a, b, c, rfl⟩
  obtain ⟨q0, q1, q2, rfl⟩ : ∃ a b c, q = [a, b, c] := match q, hq.p3 with | [a, b, c], _ => ⟨a, b, c, rfl⟩
  have x0 : 1 ≤ b0 := B 0 (by decide)
  have x1 : 1 ≤ b1 := B 1 (by decide)
  have x2 : 1 ≤ b2 := B 2 (by decide)
  have y0 : p0 ≤ b0 := hp.le 0 (by decide)
  have y1 : p1 ≤ b1 := hp.le 1 (by decide)
  have y2 : p2 ≤ b2 := hp.le 2 (by decide)
  have z0 : q0 ≤ b0 := hq.le 0 (by decide)
  have z1 : q1 ≤ b1 := hq.le 1 (by decide)
  have z2 : q2 ≤ b2 := hq.le 2 (by decide)
  unfold direct
  by_cases c : f = h
  · rw [if_pos c]
    exact along_one
  · rw [if_neg c]
    by_cases c2 : axis f = axis h
    · rw [if_pos c2]
      exact along_three b0 b1 b2 p0 p1 p2 q0 q1 q2 x0 x1 x2 y0 y1 y2 z0 z1 z2 f6 h6 c2 c fo ho
    · rw [if_neg c2]
      exact along_two b0 b1 b2 p0 p1 p2 q0 q1 q2 x0 x1 x2 y0 y1 y2 z0 z1 z2 f6 h6 c2 fo ho
end Fly

/-! ## Math8 -/
/-! The shortest of the straight ways, the farthest point. -/
namespace Fly
open Sy73
/-- a row, its square, its number -/
abbrev Cand := List Nat × Int × Nat
def oneC (way : List Nat → Option Int) (L : List Nat) (k : Nat) : List Cand := match way L with
  | none => []
  | some d => [(L, d, k)]
def cL (way : List Nat → Option Int) : List (List Nat) → Nat → List Cand
  | [], _ => []
  | L :: r, k => oneC way L k ++ cL way r (k + 1)
theorem cL_snoc (way : List Nat → Option Int) (L : List Nat) : ∀ (Ls : List (List Nat)) (k : Nat), cL way (Ls ++ [L]) k = cL way Ls k ++ oneC way L (k + Ls.length)
  | [], k => by
    show oneC way L k ++ [] = [] ++ _
    rw [List.append_nil]
    rfl
  | M :: Ls, k => by
    show oneC way M k ++ cL way (Ls ++ [L]) (k + 1) = oneC way M k ++ cL way Ls (k + 1) ++ _
    rw [cL_snoc way L Ls (k + 1), List.append_assoc, List.length_cons, show k + 1 + Ls.length = k + (Ls.length + 1) by omega]
theorem cL_at (way : List Nat → Option Int) : ∀ (Ls : List (List Nat)) (k : Nat) (c : Cand), c ∈ cL way Ls k → k ≤ c.2.2 ∧ Ls[c.2.2 - k]? = some c.1 ∧ way c.1 = some c.2.1
  | [], k, c, h => (List.not_mem_nil h).elim
  | L :: r, k, c, h => by
    rcases List.mem_append.mp h with h | h
    · unfold oneC at h
      cases e : way L with
      | none => rw [e] at h; exact (List.not_mem_nil h).elim
      | some d =>
        rw [e] at h
        have := List.mem_singleton.mp h
        subst this
        exact ⟨Nat.le_refl _, by rw [Nat.sub_self]; rfl, e⟩
    · obtain ⟨h1, h2, h3⟩ := cL_at way r (k + 1) c h
      refine ⟨by omega, ?_, h3⟩
      rw [show c.2.2 - k = (c.2.2 - (k + 1)) + 1 by omega, List.getElem?_cons_succ]
      exact h2
theorem cL_up (way : List Nat → Option Int) : ∀ (Ls : List (List Nat)) (k : Nat), (cL way Ls k).Pairwise fun c d => c.2.2 < d.2.2
  | [], _ => .nil
  | L :: r, k => by
    refine List.pairwise_append.mpr ⟨?_, cL_up way r (k + 1), fun c hc d hd => ?_⟩
    · unfold oneC
      cases way L
      · exact .nil
      · exact List.pairwise_singleton _ _
    · have := (cL_at way r (k + 1) d hd).1
      unfold oneC at hc
      cases e : way L with
      | none => rw [e] at hc; exact (List.not_mem_nil hc).elim
      | some z =>
        rw [e] at hc
        have := List.mem_singleton.mp hc
        subst this
        show k < _
        omega
theorem cL_some {way : List Nat → Option Int} {L : List Nat} (h : (way L).isSome = true) : ∀ (Ls : List (List Nat)) (k : Nat), L ∈ Ls → cL way Ls k ≠ []
  | [], _, hm => (List.not_mem_nil hm).elim
  | M :: r, k, hm => by
    intro z
    obtain ⟨z1, z2⟩ := List.append_eq_nil_iff.mp z
    rcases List.mem_cons.mp hm with e | e
    · subst e
      unfold oneC at z1
      cases e : way L with
      | none => rw [e] at h; cases h
      | some d => rw [e] at z1; cases z1
    · exact cL_some h r (k + 1) e z2
theorem cL_ext {w1 w2 : List Nat → Option Int} : ∀ (Ls : List (List Nat)) (k : Nat), (∀ L ∈ Ls, w1 L = w2 L) → cL w1 Ls k = cL w2 Ls k
  | [], _, _ => rfl
  | L :: r, k, h => by
    show oneC w1 L k ++ _ = oneC w2 L k ++ _
    unfold oneC
    rw [h L List.mem_cons_self, cL_ext r (k + 1) fun M hM => h M (List.mem_cons_of_mem _ hM)]
/-- less: the square, then how many faces, then the number -/
def LtC (a b : Cand) : Prop := a.2.1 < b.2.1 ∨ a.2.1 = b.2.1 ∧ (a.1.length < b.1.length ∨ a.1.length = b.1.length ∧ a.2.2 < b.2.2)
def stepC (m y : Cand) : Cand := if y.2.1 < m.2.1 ∨ (y.2.1 = m.2.1 ∧ y.1.length < m.1.length) then y else m
theorem fold_least : ∀ (l : List Cand) (x : Cand), (x :: l).Pairwise (fun c d => c.2.2 < d.2.2) → l.foldl stepC x ∈ x :: l ∧ ∀ y ∈ x :: l, ¬ LtC y (l.foldl stepC x)
  | [], x, _ => ⟨List.mem_cons_self, fun y hy => by
    rw [List.mem_singleton.mp hy]
    show ¬ LtC x x
    unfold LtC
    omega⟩
  | y :: l, x, h => by
    obtain ⟨h1, h2⟩ := List.pairwise_cons.mp h
    obtain ⟨h3, h4⟩ := List.pairwise_cons.mp h2
    have hxy := h1 y List.mem_cons_self
    by_cases c : y.2.1 < x.2.1 ∨ (y.2.1 = x.2.1 ∧ y.1.length < x.1.length)
    · have e : (y :: l).foldl stepC x = l.foldl stepC y := by
        show l.foldl stepC (stepC x y) = _
        unfold stepC
        rw [if_pos c]
      rw [e]
      obtain ⟨i1, i2⟩ := fold_least l y h2
      refine ⟨List.mem_cons_of_mem _ i1, fun z hz => ?_⟩
      rcases List.mem_cons.mp hz with q | q
      · subst q
        have := i2 y List.mem_cons_self
        generalize l.foldl stepC y = r at *
        unfold LtC at *
        omega
      · exact i2 z q
    · have e : (y :: l).foldl stepC x = l.foldl stepC x := by
        show l.foldl stepC (stepC x y) = _
        congr 1
        exact if_neg c
      rw [e]
      obtain ⟨i1, i2⟩ := fold_least l x (List.pairwise_cons.mpr ⟨fun z hz => h1 z (List.mem_cons_of_mem _ hz), h4⟩)
      refine ⟨?_, fun z hz => ?_⟩
      · rcases List.mem_cons.mp i1 with q | q
        · rw [q]; exact List.mem_cons_self
        · exact List.mem_cons_of_mem _ (List.mem_cons_of_mem _ q)
      · rcases List.mem_cons.mp hz with q | q
        · exact i2 z (q ▸ List.mem_cons_self)
        · rcases List.mem_cons.mp q with q | q
          · subst q
            have := i2 x List.mem_cons_self
            generalize l.foldl stepC x = r at *
            unfold LtC at *
            omega
          · exact i2 z (List.mem_cons_of_mem _ q)
/-- the candidates for two points -/
def cands (box p q : Three) : List Cand := cL (way1 box p q) (rowsL box p) 0
theorem filterMap_cL (way : List Nat → Option Int) : ∀ (Ls : List (List Nat)) (k : Nat), (Ls.filterMap fun L => (way L).map fun d => (L, d)) = (cL way Ls k).map fun c => (c.1, c.2.1)
  | [], _ => rfl
  | L :: r, k => by
    show _ = (oneC way L k ++ cL way r (k + 1)).map _
    rw [List.map_append, ← filterMap_cL way r (k + 1)]
    unfold oneC
    cases e : way L with
    | none => rw [List.filterMap_cons_none (by rw [e]; rfl)]; rfl
    | some d => rw [List.filterMap_cons_some (b := (L, d)) (by rw [e]; rfl)]; rfl
theorem ways_is (box p q : Three) : ways box p q = (cands box p q).map fun c => (c.1, c.2.1) := by
  unfold cands
  rw [← filterMap_cL]
  unfold ways
  show (rowsL box p).filterMap _ = _
  refine filterMap_mem _ _ _ fun L hL => ?_
  have hv := rowsL_valid L hL
  cases L with
  | nil => exact hv.elim
  | cons f r =>
    rw [lastOf_get]
    show (if onFace box q (lastOf f r) = true then _ else none) = Option.map _ (if onFace box q (lastOf f r) = true then _ else none)
    split <;> rfl
where
  filterMap_mem {α β : Type} (f g : α → Option β) : ∀ l : List α, (∀ x ∈ l, f x = g x) → l.filterMap f = l.filterMap g
    | [], _ => rfl
    | a :: l, h => by
      have e := h a List.mem_cons_self
      have ih := filterMap_mem f g l fun x hx => h x (List.mem_cons_of_mem _ hx)
      cases q : g a with
      | none => rw [List.filterMap_cons_none (e.trans q), List.filterMap_cons_none q, ih]
      | some b => rw [List.filterMap_cons_some (e.trans q), List.filterMap_cons_some q, ih]
theorem fold_map (l : List Cand) : ∀ x : Cand, (l.map fun c => ((c.1, c.2.1) : List Nat × Int)).foldl (fun (m y : List Nat × Int) => if y.2 < m.2 ∨ (y.2 = m.2 ∧ y.1.length < m.1.length) then y else m) (x.1, x.2.1) = ((l.foldl stepC x).1, (l.foldl stepC x).2.1) := by
  induction l with
  | nil => intro x; rfl
  | cons y l ih =>
    intro x
    rw [List.map_cons, List.foldl_cons, List.foldl_cons]
    show List.foldl _ (if y.2.1 < x.2.1 ∨ (y.2.1 = x.2.1 ∧ y.1.length < x.1.length) then ((y.1, y.2.1) : List Nat × Int) else (x.1, x.2.1)) _ = _
    unfold stepC
    split
    · exact ih y
    · exact ih x
theorem same_no {l : List Cand} (h : l.Pairwise fun c d => c.2.2 < d.2.2) {a b : Cand} (ha : a ∈ l) (hb : b ∈ l) (e : a.2.2 = b.2.2) : a = b := by
  induction l with
  | nil => exact (List.not_mem_nil ha).elim
  | cons x l ih =>
    obtain ⟨h1, h2⟩ := List.pairwise_cons.mp h
    rcases List.mem_cons.mp ha with p | p <;> rcases List.mem_cons.mp hb with q | q
    · rw [p, q]
    · have := h1 b q; rw [p] at e; omega
    · have := h1 a p; rw [q] at e; omega
    · exact ih h2 p q
/-- the least candidate is the specification's shortest way -/
theorem least_is {box p q : Three} {c : Cand} (hc : c ∈ cands box p q) (hl : ∀ d ∈ cands box p q, ¬ LtC d c) : shortest box p q = some (c.1, c.2.1) ∧ (rowsL box p)[c.2.2]? = some c.1 := by
  have up := cL_up (way1 box p q) (rowsL box p) 0
  refine ⟨?_, (cL_at _ _ _ _ hc).2.1⟩
  unfold shortest
  rw [ways_is]
  cases e : cands box p q with
  | nil => rw [e] at hc; exact (List.not_mem_nil hc).elim
  | cons x l =>
    rw [show cL (way1 box p q) (rowsL box p) 0 = x :: l from e] at up
    rw [e] at hc hl
    obtain ⟨f1, f2⟩ := fold_least l x up
    have e2 := fold_map l x
    have same : l.foldl stepC x = c := by
      refine same_no up f1 hc ?_
      have a := hl _ f1
      have b := f2 _ hc
      unfold LtC at a b
      omega
    rw [same] at e2
    exact congrArg some e2
theorem dist_of {box p q : Three} {x : List Nat × Int} (h : shortest box p q = some x) : dist box p q = x.2 := by
  unfold dist
  rw [h]
  rfl
theorem cands_some {box p q : Three} (b3 : box.length = 3) (B : PosBox box) (hp : OnBox box p) (hq : OnBox box q) : cands box p q ≠ [] := by
  obtain ⟨L, h1, h2⟩ := ways_some b3 B hp hq
  exact cL_some h2 _ _ h1
/-- there is a least one, and its square is the least of all -/
theorem dist_least {box p q : Three} (h : cands box p q ≠ []) : (∃ c ∈ cands box p q, c.2.1 = dist box p q) ∧ ∀ c ∈ cands box p q, dist box p q ≤ c.2.1 := by
  have up := cL_up (way1 box p q) (rowsL box p) 0
  cases e : cands box p q with
  | nil => exact absurd e h
  | cons x l =>
    rw [show cL (way1 box p q) (rowsL box p) 0 = x :: l from e] at up
    obtain ⟨f1, f2⟩ := fold_least l x up
    have z := least_is (box := box) (p := p) (q := q) (c := l.foldl stepC x) (by rw [e]; exact f1) (by rw [e]; exact f2)
    have d := dist_of z.1
    rw [d]
    refine ⟨⟨_, f1, rfl⟩, fun c hc => ?_⟩
    have := f2 c hc
    unfold LtC at this
    show (l.foldl stepC x).2.1 ≤ _
    omega
theorem sq_nonneg (x : Int) : 0 ≤ x * x := by
  rcases Int.le_total 0 x with h | h
  · exact Int.mul_nonneg h h
  · exact Int.mul_nonneg_of_nonpos_of_nonpos h h
theorem along_nonneg {box p q : Three} {L : List Nat} {d : Int} (h : along box p q L = some d) : 0 ≤ d := by
  cases L with
  | nil => cases h
  | cons f r =>
    unfold along at h
    dsimp only at h
    split at h
    · cases h
      exact Int.add_nonneg (sq_nonneg _) (sq_nonneg _)
    · cases h
theorem cand_nonneg {box p q : Three} {c : Cand} (h : c ∈ cands box p q) : 0 ≤ c.2.1 := by
  have := (cL_at _ _ _ _ h).2.2
  unfold way1 at this
  split at this
  · exact along_nonneg this
  · cases this
theorem dist_nonneg {box p q : Three} (h : cands box p q ≠ []) : 0 ≤ dist box p q := by
  obtain ⟨⟨c, h1, h2⟩, _⟩ := dist_least h
  rw [← h2]
  exact cand_nonneg h1
/-- many: how many are as short -/
theorem count_is {box p q : Three} (d : Int) : ((ways box p q).filter fun x => x.2 == d).length = ((cands box p q).map fun c => c.2.1).count d := by
  rw [ways_is, List.filter_map, List.length_map, List.count_eq_length_filter, List.filter_map, List.length_map]
  rfl
theorem ways_len (box p q : Three) : (ways box p q).length = (cands box p q).length := by
  rw [ways_is, List.length_map]

/-! ### the farthest -/
def stepF (m : Three × Int × Nat) (x : Three × Int) : Three × Int × Nat := if m.2.1 < x.2 then (x.1, x.2, 1) else if x.2 = m.2.1 then (m.1, x.2, m.2.2 + 1) else m
theorem far_fold (M : Int) : ∀ (l : List (Three × Int)) (m : Three × Int × Nat), m.2.1 ≤ M → (∀ x ∈ l, x.2 ≤ M) → (m.2.1 = M ∨ ∃ x ∈ l, x.2 = M) →
    l.foldl stepF m = (if m.2.1 = M then m.1 else ((l.filter fun x => decide (x.2 = M)).head?.map Prod.fst).getD m.1, M, (if m.2.1 = M then m.2.2 else 0) + (l.filter fun x => decide (x.2 = M)).length)
  | [], m, _, _, h3 => by
    have e : m.2.1 = M := by
      rcases h3 with h | ⟨x, hx, _⟩
      · exact h
      · exact (List.not_mem_nil hx).elim
    obtain ⟨a, b, c⟩ := m
    simp only at e
    subst e
    simp
  | x :: l, m, h1, h2, h3 => by
    have hx := h2 x List.mem_cons_self
    have hl : ∀ y ∈ l, y.2 ≤ M := fun y hy => h2 y (List.mem_cons_of_mem _ hy)
    rw [List.foldl_cons]
    by_cases c1 : m.2.1 < x.2
    · have e : stepF m x = (x.1, x.2, 1) := if_pos c1
      have hm : m.2.1 ≠ M := by omega
      rw [e, if_neg hm, if_neg hm]
      by_cases c2 : x.2 = M
      · rw [far_fold M l (x.1, x.2, 1) hx hl (.inl c2), if_pos c2, if_pos c2, List.filter_cons_of_pos (by simpa using c2)]
        simp only [List.head?_cons, Option.map_some, Option.getD_some, List.length_cons]
        rw [Nat.zero_add, Nat.add_comm]
      · have h3' : ∃ y ∈ l, y.2 = M := by
          rcases h3 with h | ⟨y, hy, ey⟩
          · exact absurd h hm
          · rcases List.mem_cons.mp hy with z | z
            · exact absurd (z ▸ ey) c2
            · exact ⟨y, z, ey⟩
        rw [far_fold M l (x.1, x.2, 1) hx hl (.inr h3'), if_neg c2, if_neg c2, List.filter_cons_of_neg (by simpa using c2)]
        obtain ⟨y, hy, ey⟩ := h3'
        have hne : (l.filter fun x => decide (x.2 = M)) ≠ [] := List.ne_nil_of_mem (List.mem_filter.mpr ⟨hy, by simpa using ey⟩)
        cases hf : l.filter fun x => decide (x.2 = M) with
        | nil => exact absurd hf hne
        | cons z r => rfl
    · by_cases c2 : x.2 = m.2.1
      · have e : stepF m x = (m.1, x.2, m.2.2 + 1) := by
          unfold stepF
          rw [if_neg c1, if_pos c2]
        rw [e]
        by_cases c3 : m.2.1 = M
        · have c4 : x.2 = M := c2.trans c3
          rw [far_fold M l (m.1, x.2, m.2.2 + 1) hx hl (.inl c4), if_pos c4, if_pos c4, if_pos c3, if_pos c3, List.filter_cons_of_pos (by simpa using c4), List.length_cons]
          simp only
          rw [show m.2.2 + 1 + (l.filter fun x => decide (x.2 = M)).length = m.2.2 + ((l.filter fun x => decide (x.2 = M)).length + 1) by omega]
        · have c4 : ¬ x.2 = M := fun z => c3 (c2.symm.trans z)
          have h3' : ∃ y ∈ l, y.2 = M := by
            rcases h3 with h | ⟨y, hy, ey⟩
            · exact absurd h c3
            · rcases List.mem_cons.mp hy with z | z
              · exact absurd (z ▸ ey) c4
              · exact ⟨y, z, ey⟩
          rw [far_fold M l (m.1, x.2, m.2.2 + 1) hx hl (.inr h3'), if_neg c4, if_neg c4, if_neg c3, if_neg c3, List.filter_cons_of_neg (by simpa using c4)]
      · have e : stepF m x = m := by
          unfold stepF
          rw [if_neg c1, if_neg c2]
        have c4 : ¬ x.2 = M := by omega
        have h3' : m.2.1 = M ∨ ∃ y ∈ l, y.2 = M := by
          rcases h3 with h | ⟨y, hy, ey⟩
          · exact .inl h
          · rcases List.mem_cons.mp hy with z | z
            · exact absurd (z ▸ ey) c4
            · exact .inr ⟨y, z, ey⟩
        rw [e, far_fold M l m h1 hl h3', List.filter_cons_of_neg (by simpa using c4)]
theorem farthest_is (box p : Three) : farthest box p = ((points box).map fun q => (q, dist box p q)).foldl stepF ([0, 0, 0], -1, 0) := by
  unfold farthest
  rw [List.foldl_map]
  rfl
/-- of all points: the first with the greatest square, the square, how many have it -/
theorem farthest_of {box p : Three} {M : Int} {q0 : Three} {r : List Three} (hM : 0 ≤ M) (h2 : ∀ q ∈ points box, dist box p q ≤ M) (h3 : (points box).filter (fun q => decide (dist box p q = M)) = q0 :: r) :
    farthest box p = (q0, M, (q0 :: r).length) := by
  have hm : q0 ∈ (points box).filter fun q => decide (dist box p q = M) := by rw [h3]; exact List.mem_cons_self
  obtain ⟨m1, m2⟩ := List.mem_filter.mp hm
  rw [farthest_is, far_fold M _ _ (by show (-1 : Int) ≤ M; omega) (fun x hx => ?_) (.inr ⟨(q0, dist box p q0), List.mem_map.mpr ⟨q0, m1, rfl⟩, of_decide_eq_true m2⟩)]
  · have hn : ¬ (-1 : Int) = M := by omega
    rw [List.filter_map, List.length_map, show ((fun x : Three × Int => decide (x.2 = M)) ∘ fun q => (q, dist box p q)) = fun q => decide (dist box p q = M) from rfl, h3]
    simp only
    rw [if_neg hn, if_neg hn, Nat.zero_add]
    rfl
  · obtain ⟨q, hq, e⟩ := List.mem_map.mp hx
    rw [← e]
    exact h2 q hq
theorem mem_points {box q : Three} : q ∈ points box ↔ (∃ x y z, q = [x, y, z] ∧ x ≤ nth box 0 ∧ y ≤ nth box 1 ∧ z ≤ nth box 2) ∧ facesOf box q ≠ [] := by
  unfold points
  rw [List.mem_filter]
  constructor
  · rintro ⟨h1, h2⟩
    obtain ⟨x, hx, h⟩ := List.mem_flatMap.mp h1
    obtain ⟨y, hy, h⟩ := List.mem_flatMap.mp h
    obtain ⟨z, hz, e⟩ := List.mem_map.mp h
    rw [List.mem_range] at hx hy hz
    refine ⟨⟨x, y, z, e.symm, by omega, by omega, by omega⟩, fun z => ?_⟩
    rw [z] at h2
    cases h2
  · rintro ⟨⟨x, y, z, rfl, hx, hy, hz⟩, h⟩
    refine ⟨List.mem_flatMap.mpr ⟨x, List.mem_range.mpr (by omega), List.mem_flatMap.mpr ⟨y, List.mem_range.mpr (by omega), List.mem_map.mpr ⟨z, List.mem_range.mpr (by omega), rfl⟩⟩⟩, ?_⟩
    cases e : facesOf box [x, y, z] with
    | nil => exact absurd e h
    | cons a b => rfl
theorem points_on {box q : Three} (h : q ∈ points box) : OnBox box q := by
  obtain ⟨⟨x, y, z, rfl, hx, hy, hz⟩, hf⟩ := mem_points.mp h
  refine ⟨rfl, fun k hk => ?_, hf⟩
  match k, hk with
  | 0, _ => exact hx
  | 1, _ => exact hy
  | 2, _ => exact hz
theorem on_points {box q : Three} (h : OnBox box q) : q ∈ points box := by
  obtain ⟨p0, p1, p2, rfl⟩ : ∃ a b c, q = [a, b, c] := match q, h.p3 with | [a, b, c], _ => ⟨a, b, c, rfl⟩
  exact mem_points.mpr ⟨⟨p0, p1, p2, rfl, h.le 0 (by decide), h.le 1 (by decide), h.le 2 (by decide)⟩, h.face⟩
end Fly

/-! ## Math9 -/
/-! The calls read, one behind another; the box's state stays well. -/
namespace Fly
open Sy73
/-- a call by its number, its whole numbers, its row -/
def callP : Nat → List Nat → List Nat → Option Call
  | 0, [a, b, c], _ => some (.begins a b c)
  | 1, [a, b, c], _ => some (.spider a b c)
  | 2, [a, b, c], _ => some (.fly a b c)
  | 3, [], _ => some .way
  | 4, [], l => some (.over l)
  | 5, [], _ => some .many
  | 6, [], _ => some .straight
  | 7, [], _ => some .farthest
  | 8, [n], _ => some (.within n)
  | 9, [], _ => some .faces
  | 10, [], _ => some .state
  | _, _, _ => none
theorem natIn_some {x : Int} {l : List Int} {y : Nat × List Int} (h : Sy73Neutral.natIn (x :: l) = some y) : 0 ≤ x ∧ y = (x.toNat, l) := by
  replace h : (if 0 ≤ x ∧ x < 2 ^ 32 then some (x.toNat, l) else none) = some y := h
  by_cases c : 0 ≤ x ∧ x < 2 ^ 32
  · rw [if_pos c] at h
    cases h
    exact ⟨c.1, rfl⟩
  · rw [if_neg c] at h
    cases h
theorem many_some : ∀ (l r : List Int) {y : List Nat × List Int}, Sy73Neutral.many_ Sy73Neutral.natIn l.length (l ++ r) = some y → (∀ x ∈ l, 0 ≤ x) ∧ y = (l.map Int.toNat, r)
  | [], r, y, h => by
    cases h
    exact ⟨fun x hx => (List.not_mem_nil hx).elim, rfl⟩
  | a :: l, r, y, h => by
    have h' : ((Sy73Neutral.natIn (a :: (l ++ r))).bind fun (x : Nat × List Int) => (Sy73Neutral.many_ Sy73Neutral.natIn l.length x.2).map fun (y : List Nat × List Int) => (x.1 :: y.1, y.2)) = some y := h
    cases e : Sy73Neutral.natIn (a :: (l ++ r)) with
    | none => rw [e] at h'; cases h'
    | some z =>
      obtain ⟨h0, ez⟩ := natIn_some e
      rw [e, Option.bind_some, ez] at h'
      dsimp only at h'
      cases e2 : Sy73Neutral.many_ Sy73Neutral.natIn l.length (l ++ r) with
      | none => rw [e2] at h'; cases h'
      | some u =>
        obtain ⟨i1, i2⟩ := many_some l r e2
        rw [e2, i2] at h'
        cases h'
        refine ⟨fun x hx => ?_, rfl⟩
        rcases List.mem_cons.mp hx with q | q
        · rw [q]; exact h0
        · exact i1 x q
/-- the numbers of a call, all of them -/
theorem nums_some {l : List Int} {A : Type} {g : List Nat → A} (h : ((Sy73Neutral.all_ (Sy73Neutral.some_ l.length l)).map g).isSome = true) : (∀ x ∈ l, 0 ≤ x) ∧ (Sy73Neutral.all_ (Sy73Neutral.some_ l.length l)).map g = some (g (l.map Int.toNat)) := by
  unfold Sy73Neutral.some_ at h ⊢
  cases e : Sy73Neutral.many_ Sy73Neutral.natIn l.length l with
  | none => rw [e] at h; cases h
  | some y =>
    obtain ⟨h1, h2⟩ := many_some l [] (y := y) (by rw [List.append_nil]; exact e)
    subst h2
    exact ⟨h1, rfl⟩
theorem cast_back {l : List Int} (h : ∀ x ∈ l, 0 ≤ x) : l = Sy73.ints (l.map Int.toNat) := by
  unfold Sy73.ints
  rw [List.map_map]
  conv => lhs; rw [← List.map_id l]
  refine List.map_congr_left fun x hx => ?_
  have := h x hx
  show x = ((x.toNat : Nat) : Int)
  omega
/-- how many whole numbers a call has -/
def nums : List Nat := [3, 3, 3, 0, 0, 0, 0, 0, 1, 0, 0]
/-- a call of the list, by its number, numbers and row -/
structure Form (c : List (List Int)) (k : Nat) (ns l : List Nat) (x : Call) : Prop where
  p : callP k ns l = some x
  k10 : k ≤ 10
  l60 : l.length ≤ 60
  n : nums[k]? = some ns.length
  of : Sy73Neutral.callOf ((PySy73.whole c).headD []) = some x
  put : PyFlat.put1 c = (k : Int) :: (Sy73.ints ns ++ (if k = 4 then (l.length : Int) :: Sy73.ints l else []))
theorem form_of {c : List (List Int)} (h : PyFlat.okCall PySy73.shape c) (ha : (Sy73Neutral.callOf ((PySy73.whole c).headD [])).isSome = true) : ∃ k ns l x, Form c k ns l x := by
  obtain ⟨p, a, xs, rfl, hs⟩ := h
  unfold PySy73.shape at hs
  have three : ∀ {a : List Int} {xs : List (List Int)}, some ((3, 0) : Nat × Nat) = some (a.length, xs.length) → xs = [] ∧ ∃ x y z, a = [x, y, z] := fun {a xs} e => by
    have e := Option.some.inj e
    obtain ⟨e1, e2⟩ := Prod.mk.inj e
    refine ⟨List.eq_nil_of_length_eq_zero e2.symm, ?_⟩
    match a, e1 with
    | [x, y, z], _ => exact ⟨x, y, z, rfl⟩
  have none_ : ∀ {a : List Int} {xs : List (List Int)}, some ((0, 0) : Nat × Nat) = some (a.length, xs.length) → xs = [] ∧ a = [] := fun {a xs} e => by
    obtain ⟨e1, e2⟩ := Prod.mk.inj (Option.some.inj e)
    exact ⟨List.eq_nil_of_length_eq_zero e2.symm, List.eq_nil_of_length_eq_zero e1.symm⟩
  by_cases c0 : p = 0
  · rw [if_pos c0] at hs
    obtain ⟨rfl, x, y, z, rfl⟩ := three hs
    subst c0
    obtain ⟨h1, h2⟩ := nums_some (l := [x, y, z]) (g := fun (x : List Nat) => Call.begins (Sy73Neutral.g x 0) (Sy73Neutral.g x 1) (Sy73Neutral.g x 2)) ha
    exact ⟨0, _, [], _, rfl, by decide, by decide, rfl, h2, by rw [← cast_back h1]; rfl⟩
  rw [if_neg c0] at hs
  by_cases c1 : p = 1
  · rw [if_pos c1] at hs
    obtain ⟨rfl, x, y, z, rfl⟩ := three hs
    subst c1
    obtain ⟨h1, h2⟩ := nums_some (l := [x, y, z]) (g := fun (x : List Nat) => Call.spider (Sy73Neutral.g x 0) (Sy73Neutral.g x 1) (Sy73Neutral.g x 2)) ha
    exact ⟨1, _, [], _, rfl, by decide, by decide, rfl, h2, by rw [← cast_back h1]; rfl⟩
  rw [if_neg c1] at hs
  by_cases c2 : p = 2
  · rw [if_pos c2] at hs
    obtain ⟨rfl, x, y, z, rfl⟩ := three hs
    subst c2
    obtain ⟨h1, h2⟩ := nums_some (l := [x, y, z]) (g := fun (x : List Nat) => Call.fly (Sy73Neutral.g x 0) (Sy73Neutral.g x 1) (Sy73Neutral.g x 2)) ha
    exact ⟨2, _, [], _, rfl, by decide, by decide, rfl, h2, by rw [← cast_back h1]; rfl⟩
  rw [if_neg c2] at hs
  by_cases c3 : p = 3
  · rw [if_pos c3] at hs
    obtain ⟨rfl, rfl⟩ := none_ hs
    subst c3
    exact ⟨3, [], [], .way, rfl, by decide, by decide, rfl, rfl, rfl⟩
  rw [if_neg c3] at hs
  by_cases c4 : p = 4
  · rw [if_pos c4] at hs
    obtain ⟨e1, e2⟩ := Prod.mk.inj (Option.some.inj hs)
    obtain rfl := List.eq_nil_of_length_eq_zero e1.symm
    subst c4
    obtain ⟨r, rfl⟩ : ∃ r, xs = [r] := by
      match xs, e2 with
      | [r], _ => exact ⟨r, rfl⟩
    have ha' : ((Sy73Neutral.all_ (Sy73Neutral.rowIn ((r.length : Int) :: r))).map fun (y : List Nat) => Call.over y).isSome = true := ha
    have of' : Sy73Neutral.callOf ((PySy73.whole [[4], r]).headD []) = (Sy73Neutral.all_ (Sy73Neutral.rowIn ((r.length : Int) :: r))).map fun (y : List Nat) => Call.over y := rfl
    have er : Sy73Neutral.rowIn ((r.length : Int) :: r) = if 0 ≤ (r.length : Int) ∧ (r.length : Int) ≤ 60 then Sy73Neutral.many_ Sy73Neutral.natIn r.length r else none := rfl
    rw [er] at ha' of'
    by_cases hl : 0 ≤ (r.length : Int) ∧ (r.length : Int) ≤ 60
    · rw [if_pos hl] at ha' of'
      have ha2 : ((Sy73Neutral.all_ (Sy73Neutral.some_ r.length r)).map fun (y : List Nat) => Call.over y).isSome = true := ha'
      obtain ⟨h1, h2⟩ := nums_some (l := r) (g := fun (y : List Nat) => Call.over y) ha2
      refine ⟨4, [], r.map Int.toNat, .over (r.map Int.toNat), rfl, by decide, ?_, rfl, of'.trans h2, ?_⟩
      · rw [List.length_map]
        omega
      · rw [← cast_back h1, if_pos rfl, List.length_map]
        show [4] ++ (((r.length : Int) :: r) ++ []) = _
        rw [List.append_nil]
        rfl
    · rw [if_neg hl] at ha'
      cases ha'
  rw [if_neg c4] at hs
  by_cases c5 : p = 5
  · rw [if_pos c5] at hs
    obtain ⟨rfl, rfl⟩ := none_ hs
    subst c5
    exact ⟨5, [], [], .many, rfl, by decide, by decide, rfl, rfl, rfl⟩
  rw [if_neg c5] at hs
  by_cases c6 : p = 6
  · rw [if_pos c6] at hs
    obtain ⟨rfl, rfl⟩ := none_ hs
    subst c6
    exact ⟨6, [], [], .straight, rfl, by decide, by decide, rfl, rfl, rfl⟩
  rw [if_neg c6] at hs
  by_cases c7 : p = 7
  · rw [if_pos c7] at hs
    obtain ⟨rfl, rfl⟩ := none_ hs
    subst c7
    exact ⟨7, [], [], .farthest, rfl, by decide, by decide, rfl, rfl, rfl⟩
  rw [if_neg c7] at hs
  by_cases c8 : p = 8
  · rw [if_pos c8] at hs
    obtain ⟨e1, e2⟩ := Prod.mk.inj (Option.some.inj hs)
    obtain rfl := List.eq_nil_of_length_eq_zero e2.symm
    subst c8
    obtain ⟨x, rfl⟩ : ∃ x, a = [x] := by
      match a, e1 with
      | [x], _ => exact ⟨x, rfl⟩
    obtain ⟨h1, h2⟩ := nums_some (l := [x]) (g := fun (x : List Nat) => Call.within (Sy73Neutral.g x 0)) ha
    exact ⟨8, _, [], _, rfl, by decide, by decide, rfl, h2, by rw [← cast_back h1]; rfl⟩
  rw [if_neg c8] at hs
  by_cases c9 : p = 9
  · rw [if_pos c9] at hs
    obtain ⟨rfl, rfl⟩ := none_ hs
    subst c9
    exact ⟨9, [], [], .faces, rfl, by decide, by decide, rfl, rfl, rfl⟩
  rw [if_neg c9] at hs
  by_cases c10 : p = 10
  · rw [if_pos c10] at hs
    obtain ⟨rfl, rfl⟩ := none_ hs
    subst c10
    exact ⟨10, [], [], .state, rfl, by decide, by decide, rfl, rfl, rfl⟩
  rw [if_neg c10] at hs
  cases hs
end Fly

/-! ## Math10 -/
/-! The whole list of calls: what is due, and the box's state on the way. -/
namespace Fly
open Sy73
structure StOk (s : St) : Prop where
  b3 : s.box.length = 3
  pos : PosBox s.box
  b40 : ∀ k, k < 3 → nth s.box k ≤ 40
  sp : OnBox s.box s.spider
  fl : OnBox s.box s.fly
theorem face_mem {box p : Three} {f : Nat} (hf : f < 6) (h : onFace box p f = true) : facesOf box p ≠ [] :=
  List.ne_nil_of_mem (List.mem_filter.mpr ⟨List.mem_range.mpr hf, h⟩)
theorem begun_ok (a b c : Nat) (h : ¬ (a < 1 ∨ 40 < a ∨ b < 1 ∨ 40 < b ∨ c < 1 ∨ 40 < c)) : StOk ⟨[a, b, c], [0, 0, 0], [a, b, c]⟩ := by
  refine ⟨rfl, fun k hk => ?_, fun k hk => ?_, ⟨rfl, fun k hk => ?_, face_mem (f := 0) (by decide) rfl⟩, ⟨rfl, fun k hk => Nat.le_refl _, face_mem (f := 1) (by decide) ?_⟩⟩
  · match k, hk with
    | 0, _ => show 1 ≤ a; omega
    | 1, _ => show 1 ≤ b; omega
    | 2, _ => show 1 ≤ c; omega
  · match k, hk with
    | 0, _ => show a ≤ 40; omega
    | 1, _ => show b ≤ 40; omega
    | 2, _ => show c ≤ 40; omega
  · match k, hk with
    | 0, _ => exact Nat.zero_le _
    | 1, _ => exact Nat.zero_le _
    | 2, _ => exact Nat.zero_le _
  · show (a == a) = true
    exact beq_self_eq_true a
theorem init_ok : StOk init := begun_ok 1 1 1 (by decide)
theorem on_of {box p : Three} (h : ¬ (inBox box p = false ∨ (facesOf box p).isEmpty = true)) : OnBox box p := by
  have h1 : inBox box p = true := by
    cases e : inBox box p with
    | true => rfl
    | false => exact absurd (.inl e) h
  have h2 : facesOf box p ≠ [] := fun z => h (.inr (by rw [z]; rfl))
  unfold inBox at h1
  rw [Bool.and_eq_true, beq_iff_eq, List.all_eq_true] at h1
  exact ⟨h1.1, fun k hk => of_decide_eq_true (h1.2 k (List.mem_range.mpr hk)), h2⟩
theorem step_ok {s : St} (ok : StOk s) (x : Call) : StOk (step s x).1 := by
  cases x with
  | begins a b c =>
    show StOk (if a < 1 ∨ 40 < a ∨ b < 1 ∨ 40 < b ∨ c < 1 ∨ 40 < c then (s, Sy73.ok (-1)) else ((⟨[a, b, c], [0, 0, 0], [a, b, c]⟩ : St), Sy73.ok 0)).1
    by_cases h : a < 1 ∨ 40 < a ∨ b < 1 ∨ 40 < b ∨ c < 1 ∨ 40 < c
    · rw [if_pos h]; exact ok
    · rw [if_neg h]; exact begun_ok a b c h
  | spider x y z =>
    show StOk (place s [x, y, z] (fun p => { s with spider := p })).1
    unfold place
    by_cases h : inBox s.box [x, y, z] = false ∨ (facesOf s.box [x, y, z]).isEmpty = true
    · rw [if_pos h]; exact ok
    · rw [if_neg h]; exact ⟨ok.b3, ok.pos, ok.b40, on_of h, ok.fl⟩
  | fly x y z =>
    show StOk (place s [x, y, z] (fun p => { s with fly := p })).1
    unfold place
    by_cases h : inBox s.box [x, y, z] = false ∨ (facesOf s.box [x, y, z]).isEmpty = true
    · rw [if_pos h]; exact ok
    · rw [if_neg h]; exact ⟨ok.b3, ok.pos, ok.b40, ok.sp, on_of h⟩
  | way => exact ok
  | over l => exact ok
  | many => exact ok
  | straight => exact ok
  | farthest => exact ok
  | within n => exact ok
  | faces => exact ok
  | state => exact ok
/-- one call of the list, as it lies there -/
def stepR (s : St) (c : List (List Int)) : St × List Int := Sy73Neutral.step s ((PySy73.whole c).headD [])
def stTo : St → List (List (List Int)) → St
  | s, [] => s
  | s, c :: r => stTo (stepR s c).1 r
def playR : St → List (List (List Int)) → List (List Int)
  | _, [] => []
  | s, c :: r => (stepR s c).2 :: playR (stepR s c).1 r
theorem playR_append : ∀ (l m : List (List (List Int))) (s : St), playR s (l ++ m) = playR s l ++ playR (stTo s l) m
  | [], _, _ => rfl
  | c :: l, m, s => congrArg (List.cons _) (playR_append l m (stepR s c).1)
theorem stTo_append : ∀ (l m : List (List (List Int))) (s : St), stTo s (l ++ m) = stTo (stTo s l) m
  | [], _, _ => rfl
  | c :: l, m, s => stTo_append l m (stepR s c).1
theorem played_is : ∀ (l : List (List (List Int))) (s : St), PyFlat.played (fun s c => Sy73Neutral.step s (c.headD [])) s (l.map PySy73.whole) = playR s l
  | [], _ => rfl
  | c :: l, s => congrArg (List.cons _) (played_is l (stepR s c).1)
theorem stepR_is {c : List (List Int)} {k : Nat} {ns l : List Nat} {x : Call} (F : Form c k ns l x) (s : St) : stepR s c = ((step s x).1, Sy73Neutral.out (step s x).2) := by
  unfold stepR Sy73Neutral.step
  rw [F.of]
theorem told_append (l m : List (List Int)) : PyFlat.told (l ++ m) = PyFlat.told l ++ PyFlat.told m := List.flatMap_append
theorem put_append : ∀ l m : List (List (List Int)), PyFlat.put (l ++ m) = PyFlat.put l ++ PyFlat.put m
  | [], _ => rfl
  | c :: l, m => by
    show PyFlat.put1 c ++ PyFlat.put (l ++ m) = PyFlat.put1 c ++ PyFlat.put l ++ PyFlat.put m
    rw [put_append l m, List.append_assoc]
/-- what is asked of the list that is handed in -/
structure Asked (ns : List Int) (raw : List (List (List Int))) : Prop where
  put : ns = PyFlat.put raw
  form : ∀ c ∈ raw, ∃ k ns l x, Form c k ns l x
  ans : PySy73.answers ns = PyFlat.told (playR init raw)
  short : (PySy73.answers ns).length ≤ 10000000
theorem asked_of {ns : List Int} (h : PySy73.answers_asked ns = true) : ∃ raw, Asked ns raw := by
  unfold PySy73.answers_asked at h
  cases e : PyFlat.calls PySy73.shape ns.length ns with
  | none => rw [e] at h; cases h
  | some raw =>
    rw [e] at h
    dsimp only at h
    rw [Bool.and_eq_true, Bool.and_eq_true] at h
    obtain ⟨⟨_, h2⟩, h3⟩ := h
    obtain ⟨p1, p2⟩ := PyFlat.put_calls _ _ _ e
    unfold Sy73Neutral.asked at h2
    rw [Bool.and_eq_true] at h2
    refine ⟨raw, p1, fun c hc => form_of (p2 c hc) ?_, ?_, of_decide_eq_true h3⟩
    · exact List.all_eq_true.mp h2.1 _ (List.mem_map.mpr ⟨PySy73.whole c, List.mem_map.mpr ⟨c, hc, rfl⟩, rfl⟩)
    · unfold PySy73.answers PySy73.calls
      rw [e]
      exact congrArg PyFlat.told (played_is raw init)
theorem stTo_ok : ∀ (l : List (List (List Int))) {s : St}, (∀ c ∈ l, ∃ k ns l x, Form c k ns l x) → StOk s → StOk (stTo s l)
  | [], _, _, h => h
  | c :: l, s, hf, h => by
    obtain ⟨k, ns, r, x, F⟩ := hf c List.mem_cons_self
    refine stTo_ok l (fun d hd => hf d (List.mem_cons_of_mem _ hd)) ?_
    rw [stepR_is F]
    exact step_ok h x
end Fly

/-! ## W0 -/
set_option linter.all false
set_option maxRecDepth 100000
set_option maxHeartbeats 2000000
namespace Fly
open PySem PySem.Spec PyProof.Rows L2
/-! ### the text -/
def topS (i : Nat) : Stmt := PySem.Challenge.pw_spiderfly_s01_answers.main.body.getD i (.Pass ⟨0, 0, 0, 0⟩)
/-! ### values -/
def nV (n : Nat) : V := .int (n : Int)
theorem nV_map (l : List Nat) (i : Nat) : (l.map nV)[i]? = (l[i]?).map nV := List.getElem?_map
theorem nth_at {l : List Nat} {i : Nat} (h : i < l.length) : (l.map nV)[i]? = some (nV (Sy73.nth l i)) := by
  rw [nV_map, List.getElem?_eq_getElem h]
  unfold Sy73.nth
  rw [List.getD_eq_getElem?_getD, List.getElem?_eq_getElem h]
  rfl
/-- a list or a tuple -/
def SqA (K : PySem.W.Frag) (H : Hp) (a : Addr) (xs : List V) : Prop := SqL K H a xs ∨ SqT K H a xs
theorem same_upd {H : Hp} {p : Addr} {o : HO} (h : H p = none) : Same H (upd H p o) := fun b x e => by
  rw [upd_ne (ne_of_none e h)]
  exact e
theorem Same.seqT {K : PySem.W.Frag} {H H' : Hp} {a : Addr} {xs : List V} (e : Same H H') (h : SqT K H a xs) : SqT K H' a xs := by
  rcases h with (h | ⟨o, h⟩) | h
  · exact .inl (.inl (e _ _ h))
  · exact .inl (.inr ⟨o, e _ _ h⟩)
  · exact .inr h
theorem Same.seqA {K : PySem.W.Frag} {H H' : Hp} {a : Addr} {xs : List V} (e : Same H H') (h : SqA K H a xs) : SqA K H' a xs := by
  rcases h with h | h
  · exact .inl (e.seq h)
  · exact .inr (Same.seqT e h)
/-- G: what stands for good; H: the heap. From one pair to a later one -/
structure Grow (G H G' H' : Hp) : Prop where
  st : Same G H
  gg : Same G G'
  gh : Same G' H'
  hh : Same H H'
  new : ∀ b, G b = none → H b ≠ none → G' b = none
theorem Grow.refl {G H : Hp} (s : Same G H) : Grow G H G H := ⟨s, Same.refl _, s, Same.refl _, fun b h _ => h⟩
theorem some_of_same {H H' : Hp} {b : Addr} (s : Same H H') (h : H b ≠ none) : H' b ≠ none := by
  cases e : H b with
  | none => exact absurd e h
  | some o => rw [s b o e]; exact fun z => nomatch z
theorem Grow.trans {G H G1 H1 G2 H2 : Hp} (a : Grow G H G1 H1) (b : Grow G1 H1 G2 H2) : Grow G H G2 H2 :=
  ⟨a.st, a.gg.trans b.gg, b.gh, a.hh.trans b.hh, fun c h h' => b.new c (a.new c h h') (some_of_same a.hh h')⟩
/-- a new object, for good -/
theorem Grow.add {G H : Hp} {p : Addr} {o : HO} (s : Same G H) (h : H p = none) : Grow G H (upd G p o) (upd H p o) := by
  have hg : G p = none := s.free h
  refine ⟨s, same_upd hg, fun b x e => ?_, same_upd h, fun b hb hb' => ?_⟩
  · by_cases c : b = p
    · subst c; rw [upd_same] at e ⊢; exact e
    · rw [upd_ne c] at e ⊢; exact s b x e
  · have c : b ≠ p := fun e => by subst e; exact hb' h
    rw [upd_ne c]; exact hb
/-- a new object, for a while -/
theorem Grow.tmp {G H H' : Hp} (s : Same G H) (t : Same H H') : Grow G H G H' := ⟨s, Same.refl _, s.trans t, t, fun b h _ => h⟩
/-- what was made for a while from G on stays for good -/
theorem Grow.keep {G H G' H' : Hp} {p : Addr} {o : HO} (g : Grow G H G' H') (h : H p = none) (e : H' p = some o) : Grow G H (upd G' p o) H' := by
  refine ⟨g.st, fun b x q => ?_, fun b x q => ?_, g.hh, fun b hb hb' => ?_⟩
  · have c : b ≠ p := ne_of_none (g.st b x q) h
    rw [upd_ne c]; exact g.gg b x q
  · by_cases c : b = p
    · subst c; rw [upd_same] at q; cases q; exact e
    · rw [upd_ne c] at q; exact g.gh b x q
  · have c : b ≠ p := fun z => by subst z; exact hb' h
    rw [upd_ne c]; exact g.new b hb hb'
end Fly

/-! ## W0b -/
namespace Fly
open PySem PySem.Spec PyProof.Rows L2
/-! ### min of a list of tuples of whole numbers -/
/-- v is the tuple of these whole numbers -/
def IsTs (K : PySem.W.Frag) (H : Hp) (v : V) (t : List Int) : Prop := ∃ b, v = .ref b ∧ SqT K H b (t.map V.int)
def rMinT (K : PySem.W.Frag) : List V → Hp → VK → Prop := fun vs H Q => ∃ (a : Addr) (xs : List V) (ts : List (List Int)), vs = [.ref a] ∧ SqL K H a xs ∧ Paired (IsTs K H) xs ts ∧ 0 < ts.length ∧
  ∀ (i : Nat) (v : V) (t : List Int), xs[i]? = some v → ts[i]? = some t → (∀ t' ∈ ts, HT.lexLt t' t = false) → Q v H
theorem paired_get {α β : Type} {F : α → β → Prop} : ∀ {l : List α} {m : List β} {i : Nat} {x : α}, Paired F l m → l[i]? = some x → ∃ y, m[i]? = some y ∧ F x y
  | _, _, _, _, .nil, e => by simp at e
  | _, _, 0, _, .cons r _, e => by simp at e; subst e; exact ⟨_, rfl, r⟩
  | _, _, i + 1, x, .cons _ t, e => by
    obtain ⟨u, h1, h2⟩ := paired_get (i := i) (x := x) t (by simpa using e)
    exact ⟨u, by simpa using h1, h2⟩
theorem paired_get' {α β : Type} {F : α → β → Prop} : ∀ {l : List α} {m : List β} {i : Nat} {y : β}, Paired F l m → m[i]? = some y → ∃ x, l[i]? = some x ∧ F x y
  | _, _, _, _, .nil, e => by simp at e
  | _, _, 0, _, .cons r _, e => by simp at e; subst e; exact ⟨_, rfl, r⟩
  | _, _, i + 1, x, .cons _ t, e => by
    obtain ⟨u, h1, h2⟩ := paired_get' (i := i) (y := x) t (by simpa using e)
    exact ⟨u, by simpa using h1, h2⟩
/-- the place of the least of the first k + 1 -/
theorem argBest_least (ts : Nat → List Int) : ∀ k, argBest (fun i j => HT.lexLt (ts i) (ts j)) k ≤ k ∧ ∀ j, j ≤ k → HT.lexLt (ts j) (ts (argBest (fun i j => HT.lexLt (ts i) (ts j)) k)) = false
  | 0 => ⟨Nat.le_refl _, fun j hj => by
    have : j = 0 := by omega
    subst this
    exact lex_self _⟩
  | k + 1 => by
    obtain ⟨i1, i2⟩ := argBest_least ts k
    by_cases hb : HT.lexLt (ts (k + 1)) (ts (argBest (fun i j => HT.lexLt (ts i) (ts j)) k)) = true
    · have ea : argBest (fun i j => HT.lexLt (ts i) (ts j)) (k + 1) = k + 1 := if_pos hb
      rw [ea]
      refine ⟨Nat.le_refl _, fun j hj => ?_⟩
      by_cases c : j = k + 1
      · subst c; exact lex_self _
      · exact lex_tr _ _ _ (lex_asym _ _ hb) (i2 j (by omega))
    · have ea : argBest (fun i j => HT.lexLt (ts i) (ts j)) (k + 1) = argBest (fun i j => HT.lexLt (ts i) (ts j)) k := if_neg hb
      rw [ea]
      refine ⟨Nat.le_succ_of_le i1, fun j hj => ?_⟩
      by_cases c : j = k + 1
      · subst c; exact Bool.eq_false_iff.mpr hb
      · exact i2 j (by omega)
where
  lex_self : ∀ xs : List Int, HT.lexLt xs xs = false
    | [] => rfl
    | x :: xs => by rw [HT.lexLt_cons, if_pos rfl]; exact lex_self xs
  lex_asym : ∀ xs ys : List Int, HT.lexLt xs ys = true → HT.lexLt ys xs = false
    | [], [], h => by rw [HT.lexLt_nil_nil] at h; cases h
    | [], y :: ys, _ => rfl
    | x :: xs, [], h => by rw [HT.lexLt_cons_nil] at h; cases h
    | x :: xs, y :: ys, h => by
      rw [HT.lexLt_cons] at h ⊢
      by_cases c : x = y
      · subst c; rw [if_pos rfl] at h ⊢; exact lex_asym xs ys h
      · rw [if_neg c, decide_eq_true_eq] at h; rw [if_neg (Ne.symm c), decide_eq_false_iff_not]; omega
  lex_tr : ∀ xs ys zs : List Int, HT.lexLt ys xs = false → HT.lexLt zs ys = false → HT.lexLt zs xs = false
    | [], _, zs, _, _ => by cases zs <;> rfl
    | x :: xs, [], zs, h, _ => by rw [HT.lexLt_nil_cons] at h; cases h
    | x :: xs, y :: ys, [], _, h => by rw [HT.lexLt_nil_cons] at h; cases h
    | x :: xs, y :: ys, z :: zs, h1, h2 => by
      rw [HT.lexLt_cons] at h1 h2 ⊢
      by_cases a : y = x
      · by_cases b : z = y
        · rw [if_pos a] at h1; rw [if_pos b] at h2; rw [if_pos (b.trans a)]; exact lex_tr xs ys zs h1 h2
        · rw [if_neg b, decide_eq_false_iff_not] at h2; rw [if_neg (by omega), decide_eq_false_iff_not]; omega
      · rw [if_neg a, decide_eq_false_iff_not] at h1
        by_cases b : z = y
        · rw [if_neg (by omega), decide_eq_false_iff_not]; omega
        · rw [if_neg b, decide_eq_false_iff_not] at h2
          by_cases c : z = x
          · omega
          · rw [if_neg c, decide_eq_false_iff_not]; omega
theorem ints_are : ∀ {ns : List Int} {us : List Value}, Vals (ns.map V.int) us → PyProof.Rows.IntsAre us ns
  | [], _, .nil => .nil
  | n :: ns, _, .cons r t => by
    obtain ⟨k, rfl⟩ := r
    exact .cons n k (ints_are t)
section
variable {X : Cx}
theorem cr_minT (hc : X.calm = true) (hu : X.A.units + 1 < cLine) : CallR X (.builtin "min") (rMinT X.K) := by
  intro pins s σ H vs us Q I r h
  obtain ⟨a, xs, ts, rfl, hs, hp, hne, q⟩ := h
  obtain ⟨its, rv, hl, _⟩ := I.list hs
  rw [Vals.ref1 r]
  have len : its.length = ts.length := by rw [← rv.length, Paired.length hp]
  -- the i-th item as it stands
  have at_ : ∀ (i : Nat) (v : Value), its.toArray[i]? = some v → ∃ (x : V) (t : List Int) (b : Addr) (vs : List Value), xs[i]? = some x ∧ ts[i]? = some t ∧ x = .ref b ∧ v = .ref b ∧ IsTup s.heap b vs.toArray ∧ IntsAre vs.toArray.toList t := fun i v hv => by
    have hv' : its[i]? = some v := by simpa using hv
    have hi : i < xs.length := by rw [rv.length]; exact (List.getElem?_eq_some_iff.mp hv').1
    have hx : xs[i]? = some xs[i] := List.getElem?_eq_getElem hi
    obtain ⟨u, hu', ru⟩ := rv.get hx
    rw [hv'] at hu'
    cases hu'
    obtain ⟨t, ht, b, eb, hb⟩ := paired_get hp hx
    obtain ⟨vs, r1, p1, _⟩ := I.tuple hb
    rw [eb] at ru
    exact ⟨_, t, b, vs, hx, ht, eb, ru, p1, ints_are r1⟩
  refine call_min_walkH (PySem.W.iter_listW (A := X.A.in1) (I.ok.hd hc) hl.isList fun s₂ e W st hfp hw hk => ?_)
  refine ⟨_, _, _, _, _, _, _, s.heap, fun i j => HT.lexLt (ts.getD i []) (ts.getD j []), rfl, W, st, hfp, (by rw [List.size_toArray, len]; exact hne), hw, hk, ?_, fun v s' hP m => ?_⟩
  · intro i j vi vj s1 Q1 E1 keep hi hj hq
    obtain ⟨x1, t1, b1, vs1, _, ht1, _, rfl, p1, i1⟩ := at_ i vi hi
    obtain ⟨x2, t2, b2, vs2, _, ht2, _, rfl, p2, i2⟩ := at_ j vj hj
    have e1 : ts.getD i [] = t1 := by rw [List.getD_eq_getElem?_getD, ht1] <;> rfl
    have e2 : ts.getD j [] = t2 := by rw [List.getD_eq_getElem?_getD, ht2] <;> rfl
    replace hq : Q1 (Value.bool (HT.lexLt (ts.getD i []) (ts.getD j []))) s1 := hq
    rw [e1, e2] at hq
    exact HT.lt_tupInts (let ⟨o, ho, z⟩ := p1; ⟨o, keep _ _ ho, z⟩) (let ⟨o, ho, z⟩ := p2; ⟨o, keep _ _ ho, z⟩) i1 i2 hu hq
  · obtain ⟨h', tk, rfl, hk'⟩ := PySem.W.moved_old e rfl m
    obtain ⟨x, t, b, vs, hx, ht, ex, rfl, _, _⟩ := at_ _ v hP
    obtain ⟨b1, b2⟩ := argBest_least (fun i => ts.getD i []) (its.toArray.size - 1)
    have e1 : ts.getD (argBest (fun i j => HT.lexLt (ts.getD i []) (ts.getD j [])) (its.toArray.size - 1)) [] = t := by rw [List.getD_eq_getElem?_getD, ht] <;> rfl
    refine ⟨x, H, I.kept hk', by rw [ex]; rfl, q _ x t hx ht fun t' ht' => ?_⟩
    obtain ⟨j, hj⟩ := List.mem_iff_getElem?.mp ht'
    have hjl := (List.getElem?_eq_some_iff.mp hj).1
    have z := b2 j (by rw [List.size_toArray, len]; omega)
    rw [e1, List.getD_eq_getElem?_getD, hj] at z
    exact z
end
end Fly

/-! ## W0c -/
namespace Fly
open PySem PySem.Spec PyProof.Rows L2
/-! ### zip of a tuple and a list -/
def ItzM (K : PySem.W.Frag) (a b : Addr) : It where
  go := fun i H => ∃ (xs ys : List V) (x y : V), (SqT K H a xs ∧ SqL K H b ys) ∧ xs[i]? = some x ∧ ys[i]? = some y
  yld := fun i H v H' => ∃ T x y, v = .ref T ∧ H T = none ∧ H' = upd H T (.tup [x, y]) ∧ (∀ xs, SqT K H a xs → xs[i]? = some x) ∧ ∀ ys, SqL K H b ys → ys[i]? = some y
  stop := fun i H => ∃ xs ys : List V, (SqT K H a xs ∧ SqL K H b ys) ∧ (xs.length = i ∧ i ≤ ys.length ∨ ys.length = i ∧ i ≤ xs.length)
theorem sep_of {z TI TO i1 i2 l1 l2 : Addr} (D : ZipApart z TI TO i1 i2 l1 l2) : ZipSep2 z TI TO i1 i2 [i1, l1] [i2, l2] := by
  have n2 : ∀ {a b c : Addr}, a ≠ b → a ≠ c → a ∉ [b, c] := fun h1 h2 h => by
    rcases List.mem_cons.mp h with e | h
    · exact h1 e
    · exact h2 (List.mem_singleton.mp h)
  exact ⟨D.TIz, D.TOz, D.TITO, D.TIi1, List.mem_cons_self, n2 D.i1z.symm D.l1z.symm, n2 D.TOi1 D.l1TO.symm, D.TIi2, List.mem_cons_self, n2 D.i2z.symm D.l2z.symm, n2 D.TOi2 D.l2TO.symm, n2 D.i12 D.l2i1.symm, n2 D.i12.symm D.l1i2.symm⟩
/-- the five cells of a zip over a tuple and a list -/
def ZmAt (a b z TI TO i1 i2 : Addr) (f : Value) (j : Nat) (h : Heap) : Prop :=
  IsZip h z TI TO f ∧ IsTupOf2 h TI (.ref i1) (.ref i2) ∧ (∃ x y, IsTupOf2 h TO x y) ∧ h.IsTupleIter i1 a j ∧ h.IsListIter i2 b j
theorem ZmAt.keep {a b z TI TO i1 i2 : Addr} {f : Value} {j : Nat} {h h' : Heap} (st : ZmAt a b z TI TO i1 i2 f j h) (k : ∀ c ∈ [z, TI, TO, i1, i2], ∀ o, h.get? c = some o → h'.get? c = some o) : ZmAt a b z TI TO i1 i2 f j h' :=
  let ⟨q1, q2, ⟨x, y, q3⟩, q4, q5⟩ := st
  ⟨k z (by simp) _ q1, k TI (by simp) _ q2, ⟨x, y, k TO (by simp) _ q3⟩, q4.at fun o => k i1 (by simp) o, q5.at fun o => k i2 (by simp) o⟩
theorem ZmAt.obj {a b z TI TO i1 i2 : Addr} {f : Value} {j : Nat} {h : Heap} (st : ZmAt a b z TI TO i1 i2 f j h) : ∀ c ∈ [z, TI, TO, i1, i2], ∃ o, h.get? c = some o ∧ ∀ v, o.data ≠ .cell v := by
  obtain ⟨q1, q2, ⟨x, y, q3⟩, ⟨o1, e1, _, d1⟩, ⟨o2, e2, _, d2⟩⟩ := st
  intro c hc
  simp only [List.mem_cons, List.not_mem_nil, or_false] at hc
  rcases hc with rfl | rfl | rfl | rfl | rfl
  · exact ⟨_, q1, fun v z => nomatch z⟩
  · exact ⟨_, q2, fun v z => nomatch z⟩
  · exact ⟨_, q3, fun v z => nomatch z⟩
  · exact ⟨o1, e1, fun v z => by rw [d1] at z; cases z⟩
  · exact ⟨o2, e2, fun v z => by rw [d2] at z; cases z⟩
theorem turn_zipM {P : Program} {w : World} {K : PySem.W.Frag} {elts : List Expr} {kk : Nat} {tpos : Pos} {a b z TI TO i1 i2 : Addr} (D : ZipApart z TI TO i1 i2 a b) :
    Turn P w K (.Tuple elts kk tpos) (ItzM K a b) [z, TI, TO, i1, i2] z (ZmAt a b z TI TO i1 i2 .none) where
  mem := List.mem_cons_self
  obj := fun i h st => st.obj
  keep := fun i h h' st k => st.keep k
  self := fun A i s Q E st q => wpAny_pyIter_zip st.1 q
  item := by
    rintro X rfl rfl rfl hc i pins s σ H E I hf st ⟨xs, ys, x, y, ⟨sx, sy⟩, hx, hy⟩
    have lt5 : ∀ c ∈ [z, TI, TO, i1, i2], c < s.heap.objs.size := fun c hcm => let ⟨_, e, _⟩ := st.obj c hcm; Heap.lt_size e
    obtain ⟨q1, q2, ⟨x0, y0, q3⟩, q4, q5⟩ := st
    obtain ⟨its, rv, p, _⟩ := I.tuple sx
    obtain ⟨its2, rv2, p2, _⟩ := I.list sy
    obtain ⟨u, hu, ru⟩ := rv.get hx
    obtain ⟨u2, hu2, ru2⟩ := rv2.get hy
    have hi1 : i < its.toArray.size := by simpa using (List.getElem?_eq_some_iff.mp hu).1
    have hi2 : i < its2.toArray.size := by simpa using (List.getElem?_eq_some_iff.mp hu2).1
    refine wpAny_pyNext_zipD2_item (sep_of D) (Draws.tuple (A := X.A.in1) (I.ok.hd hc) i1 a D.l1i1 its.toArray) (Draws.list (A := X.A.in1) (I.ok.hd hc) i2 b D.l2i2 its2.toArray) q1 q2 q3 ⟨q4, p⟩ ⟨q5, p2.isList⟩ hi1 hi2
      fun x1 x2 h' tk g1 g2 r1 r2 st1 st2 r5 r6 r7 => ?_
    have ex1 : x1 = u := Option.some.inj (g1.symm.trans (by simpa using hu))
    have ex2 : x2 = u2 := Option.some.inj (g2.symm.trans (by simpa using hu2))
    subst ex1 ex2
    refine ⟨_, rfl, wpAny_letOwnedTupleGo_zip (s := { s with heap := h', toks := tk }) r1 fun h2 z2 sb => ?_⟩
    have old : ∀ c o, c ∉ [z, TI, TO, i1, i2] → s.heap.get? c = some o → h2.get? c = some o := fun c o hcm e => by
      simp only [List.mem_cons, List.not_mem_nil, or_false, not_or] at hcm
      exact (sb.2 c hcm.1).trans (r7 c o hcm.1 hcm.2.2.1 hcm.2.2.2.1 hcm.2.2.2.2 e)
    have new : h2.get? s.heap.objs.size = some { cls := .type "tuple", data := .seq #[x1, x2] } := (sb.2 _ (Nat.ne_of_gt (lt5 z (by simp)))).trans r5
    have J : Inv X pins σ (upd H s.heap.objs.size (.tup [x, y])) { s with heap := h2, toks := tk } :=
      I.turnedNew old hf (Nat.le_refl _) ⟨(by decide : 2 ≤ sizeLine), [x1, x2], .cons ru (.cons ru2 .nil), _, new, rfl, _, rfl⟩
    refine ⟨.ref s.heap.objs.size, _, J, rfl, ⟨_, x, y, rfl, I.hok.fresh (Nat.le_refl _), rfl, fun l hl => ?_, fun l hl => ?_⟩, ⟨z2, ?_, ⟨x1, x2, ?_⟩, ?_, ?_⟩, fun c hcm => ?_⟩
    · rw [I.tuple_inj hl sx]; exact hx
    · rw [I.list_inj hl sy]; exact hy
    · exact (sb.2 _ D.TIz).trans (r7 _ _ D.TIz D.TITO D.TIi1 D.TIi2 q2)
    · exact (sb.2 _ D.TOz).trans r2
    · exact st1.1.at fun o q => (sb.2 _ D.i1z).trans q
    · exact st2.1.at fun o q => (sb.2 _ D.i2z).trans q
    · rw [upd_ne (Nat.ne_of_lt (lt5 c hcm))]
      exact (hf c hcm).1
  done := by
    rintro X rfl rfl rfl hc i pins s σ H E I hf ⟨q1, q2, ⟨x0, y0, q3⟩, q4, q5⟩ ⟨xs, ys, ⟨sx, sy⟩, hend⟩
    obtain ⟨its, rv, p, _⟩ := I.tuple sx
    obtain ⟨its2, rv2, p2, _⟩ := I.list sy
    have l1 : its.toArray.size = xs.length := by rw [List.size_toArray]; exact rv.length.symm
    have l2 : its2.toArray.size = ys.length := by rw [List.size_toArray]; exact rv2.length.symm
    refine wpAny_pyNext_zipD2_end (sep_of D) (Draws.tuple (A := X.A.in1) (I.ok.hd hc) i1 a D.l1i1 its.toArray) (Draws.list (A := X.A.in1) (I.ok.hd hc) i2 b D.l2i2 its2.toArray) q1 q2 q3 ⟨q4, p⟩ ⟨q5, p2.isList⟩ (by omega) (by omega) (by omega)
      fun h' tk hk => ⟨rfl, I.turnedL (ch := [z, TI, TO, i1, i2]) (fun c o hcm q => ?_) hf⟩
    simp only [List.mem_cons, List.not_mem_nil, or_false, not_or] at hcm
    exact hk c o hcm.1 hcm.2.2.1 hcm.2.2.2.1 hcm.2.2.2.2 q
/-- zip(a, b): b a list; a a list or a tuple -/
def iZipAL (K : PySem.W.Frag) (ta : TA) : TI := fun σ H R => ta σ H fun vs H1 => ∃ a b xs ys, vs = [.ref a, .ref b] ∧ SqL K H1 b ys ∧ (SqL K H1 a xs ∧ R (Itz K a b) H1 ∨ SqT K H1 a xs ∧ R (ItzM K a b) H1)
theorem pi_zipAL {X : Cx} {e e2 : Expr} {ta : TA} {p pos tpos : Pos} {elts : List Expr} {kk : Nat} (hg : Gl X "zip") (hm : X.mg "zip" = none) (ha : PA X [e, e2] ta)
    (hs : starEach [e, e2] X.env = (false, eval e X.env) :: starEach [e2] X.env := by rfl) (hpl : (backTo pos (starEach [e2] X.env)).any (·.1) = false := by rfl) :
    PI X (.Tuple elts kk tpos) (.Call (.Name "zip" p) [e, e2] [] pos) (iZipAL X.K ta) := by
  refine ⟨fun pins s σ H R I h => ?_⟩
  refine Call_ (ld_blt I hg hm PyProof.Rows.boot_zip (PyProof.Rows.callWith_type1 (thn (ha.run pos pins s σ H _ I h) fun us s1 hh => ?_) hs hpl))
  obtain ⟨vs, H1, I1, r1, a, b, xs, ys, rfl, sy, alt⟩ := hh
  obtain ⟨us1, us2, rfl, ra, rb⟩ : ∃ u v, us = [u, v] ∧ RelV (.ref a) u ∧ RelV (.ref b) v := by
    cases r1 with
    | cons r rr => cases rr with
      | cons r' r2 => cases r2; exact ⟨_, _, rfl, r, r'⟩
  obtain rfl : us1 = Value.ref a := ra
  obtain rfl : us2 = Value.ref b := rb
  have young : ∀ c ∈ [s1.heap.objs.size + 4, s1.heap.objs.size + 2, s1.heap.objs.size + 3, s1.heap.objs.size, s1.heap.objs.size + 1], FpOk X pins H1 c := fun c hcm => by
    have hle : s1.heap.objs.size ≤ c := by
      simp only [List.mem_cons, List.not_mem_nil, or_false] at hcm
      rcases hcm with z | z | z | z | z <;> subst z <;> first | exact Nat.le_refl _ | exact Nat.le_add_right _ _
    exact I1.fpOk hle (I1.hok.fresh hle)
  obtain ⟨its2, rv2, p2, _⟩ := I1.list sy
  rcases alt with ⟨sx, q⟩ | ⟨sx, q⟩
  · obtain ⟨its, rv, p1, _⟩ := I1.list sx
    refine call_zip_2 p1.isList p2.isList fun h' hz hTI hTO h1 h2 hsz hk => wpAny_pyIter_zip hz ?_
    exact ⟨_, _, _, _, H1, rfl, I1.kept (t' := s1.toks) hk, turn_zip (PySem.W.ktu_apart s1.heap.objs.size a b p1.lt p2.lt), ⟨hz, hTI, ⟨_, _, hTO⟩, h1, h2⟩, young, q⟩
  · obtain ⟨its, rv, p1, _⟩ := I1.tuple sx
    have la : a < s1.heap.objs.size := let ⟨_, e, _⟩ := p1; Heap.lt_size e
    refine zip_begins2 (begins_tuple a its.toArray) (begins_list b its2.toArray) p1 p2.isList fun h' hz hTI hTO h1 h2 hsz hk => wpAny_pyIter_zip hz ?_
    exact ⟨_, _, _, _, H1, rfl, I1.kept (t' := s1.toks) hk, turn_zipM (PySem.W.ktu_apart s1.heap.objs.size a b la p2.lt), ⟨hz, hTI, ⟨_, _, hTO⟩, ⟨_, h1, rfl, rfl⟩, ⟨_, h2, rfl, rfl⟩⟩, young, q⟩
theorem walk_zipM {K : PySem.W.Frag} {a b : Addr} {xs ys : List V} {n : Nat} (h1 : xs.length = n) (h2 : ys.length = n) : Walk (ItzM K a b) n (fun H => SqT K H a xs ∧ SqL K H b ys) (YPair (fun i => xs[i]?) (fun i => ys[i]?)) := by
  subst h1
  refine ⟨fun i _ hi q => ?_, fun _ q => ⟨xs, ys, q, .inl ⟨rfl, by omega⟩⟩, fun i H v H' _ q y => ?_⟩
  · have hi2 : i < ys.length := by omega
    exact ⟨xs, ys, xs[i], ys[i], q, by simp [hi], by simp [hi2]⟩
  · obtain ⟨T, x, z, h1, h2, h3, h4, h5⟩ := y
    exact ⟨T, x, z, h1, h2, h3, h4 xs q.1, h5 ys q.2⟩

/-! ### len(set(xs)) -/
def tLenSet' (K : PySem.W.Frag) (ta : TE) : TE := fun σ H Q => ta σ H fun x H1 => ∃ (l : Addr) (ns : List Int), x = .ref l ∧ SqL K H1 l (ns.map V.int) ∧ ns.length ≤ 4000 ∧ Q (.int ((PyProof.Rows.firstMet (fun i => ns.getD i 0) ns.length).length : Nat)) H1
theorem pe_lenSet' {X : Cx} {a : Expr} {ta : TE} {p p2 q pos : Pos} (hg : Gl X "len") (hm : X.mg "len" = none) (hg2 : Gl X "set") (hm2 : X.mg "set" = none) (ha : PE X a ta) (hc : X.calm = true := by rfl)
    (na : starEach [a] X.env = (false, eval a X.env) :: starEach [] X.env := by rfl) : PE X (.Call (.Name "len" p) [.Call (.Name "set" p2) [a] [] q] [] pos) (tLenSet' X.K ta) := by
  refine ⟨fun pins s σ H Q I h => ?_⟩
  refine Call_ (ld_blt I hg hm boot_len (PyProof.Rows.callWith_builtin1 (PyProof.Rows.args_cons ?_ rfl) rfl rfl))
  refine Call_ (ld_blt I hg2 hm2 boot_set (PyProof.Rows.callWith_type1 (PyProof.Rows.args_cons (thn (ha.run pins s σ H _ I h) fun v s1 hh => PyProof.Rows.args_nil ?_) na) na rfl))
  obtain ⟨x, H1, I1, r1, l, ns, rfl, hq, hl, q1⟩ := hh
  obtain rfl : v = Value.ref l := r1
  obtain ⟨its, r, pl, hz⟩ := I1.list hq
  have hlen : its.toArray.size = ns.length := by rw [List.size_toArray, ← r.length, List.length_map]
  refine call_set_list (I1.ok.hd hc) pl.isList (by simpa using ints_are r) (by rw [hlen]; unfold scanBound; omega) fun h' tk hS hk => PyProof.Rows.args_nil ?_
  rw [hlen] at hS
  obtain ⟨o, es, ep, t, ho, hex, hd, _, _, _, hf, hn⟩ := hS
  have le := PyProof.Rows.firstMet_length_le (fun i => ns.getD i 0) ns.length
  exact call_len_set ho hex hd hf (by rw [hn] <;> omega) ⟨.int _, H1, (I1.kept fun b o e => hk b o (Heap.lt_size e) e).tok _, ⟨_, by rw [hn]⟩, q1⟩
/-- fewer met than there are: some number twice -/
theorem firstMet_all (ns : List Int) : ∀ i, i ≤ ns.length → ((PyProof.Rows.firstMet (fun i => ns.getD i 0) i).length < i ↔ ¬ (ns.take i).Nodup) ∧ ∀ x, x ∈ PyProof.Rows.firstMet (fun i => ns.getD i 0) i ↔ x ∈ ns.take i
  | 0, _ => ⟨by simp [PyProof.Rows.firstMet_zero], by simp [PyProof.Rows.firstMet_zero]⟩
  | i + 1, hi => by
    obtain ⟨h1, h2⟩ := firstMet_all ns i (by omega)
    have hx : ns[i]? = some ns[i] := List.getElem?_eq_getElem (by omega)
    have ev : ns.getD i 0 = ns[i] := by rw [List.getD_eq_getElem?_getD, hx] <;> rfl
    have et : ns.take (i + 1) = ns.take i ++ [ns[i]] := by rw [List.take_add_one, hx] <;> rfl
    have le := PyProof.Rows.firstMet_length_le (fun i => ns.getD i 0) i
    have es : PyProof.Rows.firstMet (fun i => ns.getD i 0) (i + 1) = if (PyProof.Rows.firstMet (fun i => ns.getD i 0) i).any (· == ns[i]) then PyProof.Rows.firstMet (fun i => ns.getD i 0) i else PyProof.Rows.firstMet (fun i => ns.getD i 0) i ++ [ns[i]] := by
      rw [PyProof.Rows.firstMet_succ, ev] <;> rfl
    have nd : (ns.take (i + 1)).Nodup ↔ (ns.take i).Nodup ∧ ns[i] ∉ ns.take i := by
      rw [et, List.nodup_append]
      constructor
      · rintro ⟨a, _, c⟩
        exact ⟨a, fun z => c _ z _ (List.mem_singleton.mpr rfl) rfl⟩
      · rintro ⟨a, b⟩
        exact ⟨a, by simp, fun x hx y hy e => by rw [List.mem_singleton.mp hy] at e; exact b (e ▸ hx)⟩
    by_cases hm : ns[i] ∈ ns.take i
    · have ha : ((PyProof.Rows.firstMet (fun i => ns.getD i 0) i).any (· == ns[i])) = true := List.any_eq_true.mpr ⟨_, (h2 _).mpr hm, by simp⟩
      rw [es, if_pos ha]
      refine ⟨⟨fun _ z => (nd.mp z).2 hm, fun _ => by omega⟩, fun x => ?_⟩
      rw [h2, et, List.mem_append, List.mem_singleton]
      exact ⟨.inl, fun z => z.elim id fun z => z ▸ hm⟩
    · have ha : ¬ ((PyProof.Rows.firstMet (fun i => ns.getD i 0) i).any (· == ns[i])) = true := fun z => by
        obtain ⟨y, hy, e⟩ := List.any_eq_true.mp z
        have e' : y = ns[i] := eq_of_beq e
        exact hm ((h2 _).mp (e' ▸ hy))
      rw [es, if_neg ha]
      refine ⟨?_, fun x => by rw [List.mem_append, h2, et, List.mem_append]⟩
      rw [List.length_append, List.length_singleton, nd]
      constructor
      · intro z y
        exact (h1.mp (by omega)) y.1
      · intro z
        have : ¬ (ns.take i).Nodup := fun y => z ⟨y, hm⟩
        have := h1.mpr this
        omega
theorem lenSet_lt (ns : List Int) : ((PyProof.Rows.firstMet (fun i => ns.getD i 0) ns.length).length < ns.length) ↔ ¬ ns.Nodup := by
  have h := (firstMet_all ns ns.length (Nat.le_refl _)).1
  rw [List.take_length] at h
  exact h
end Fly

/-! ## W1 -/
namespace Fly
open PySem PySem.Spec PyProof.Rows L2
section
variable {P : Program} {w : World} {K : PySem.W.Frag} {mg : Str → Option Value} {base : Heap}

/-- a def of the module, as its callers want it -/
structure Def (K : PySem.W.Frag) (mg : Str → Option Value) (x : Str) (st : Stmt) (ps : List Str) (f : Addr) (fd : FuncData) : Prop where
  fn : Fun K x x st f fd
  bi : Binds K fd ps []
  g : mg x = some (.ref f)

/-! ### axis_of, is_far, are_beside, third_axis -/
abbrev sAxis : Stmt := topS 4
theorem scAxis : FnScope ["face"] ["face"] (defScope sAxis) := ⟨rfl, rfl, rfl, by decide +kernel, rfl, by decide +kernel, by decide +kernel⟩
def spAxis : Sp := fun vs H Q _ => ∃ f : Nat, vs = [nV f] ∧ Q (nV (Sy73.axis f)) H
theorem fdiv2 (f : Nat) : ((f : Int)).fdiv 2 = ((f / 2 : Nat) : Int) := by
  rw [Int.fdiv_eq_ediv_of_nonneg _ (by decide)]; rfl
theorem ok_axis {f : Addr} {fd : FuncData} (D : Def K mg "axis_of" sAxis ["face"] f fd) : FnOk P w K mg base CX0 1 f fd ["face"] spAxis := by
  refine D.fn.ok scAxis (fun vs H Q E h => ?_) (fun cdv A outer s H vs Q E hr h => ?_)
  · obtain ⟨n, rfl, _⟩ := h
    rfl
  · obtain ⟨n, rfl, q⟩ := h
    refine ⟨_, pss_one (ps_ret (pe_op op_fdivN (pv 0) pe_int)), ?_⟩
    refine ⟨_, rfl, _, _, rfl, rfl, ⟨by decide, by decide⟩, ?_⟩
    show Q (V.int ((n : Int).fdiv 2)) H
    rw [fdiv2]
    exact q
abbrev sFar : Stmt := topS 5
theorem scFar : FnScope ["face"] ["face"] (defScope sFar) := ⟨rfl, rfl, rfl, by decide +kernel, rfl, by decide +kernel, by decide +kernel⟩
def spFar : Sp := fun vs H Q _ => ∃ f : Nat, vs = [nV f] ∧ Q (.bl (Sy73.atFar f)) H
theorem fmod2 (f : Nat) : decide (((f : Int)).fmod 2 = 1) = Sy73.atFar f := by
  rw [Int.fmod_eq_emod_of_nonneg _ (by decide)]
  unfold Sy73.atFar
  rw [Bool.eq_iff_iff, decide_eq_true_eq, beq_iff_eq]
  omega
theorem V_int_eq (a b : Int) : decide (V.int a = V.int b) = decide (a = b) := by
  by_cases h : a = b
  · rw [decide_eq_true h, decide_eq_true (congrArg V.int h)]
  · rw [decide_eq_false h, decide_eq_false fun e => h (V.int.inj e)]
theorem V_int_ne (a b : Int) : (!decide (V.int a = V.int b)) = !decide (a = b) := by rw [V_int_eq]
theorem ok_far {f : Addr} {fd : FuncData} (D : Def K mg "is_far" sFar ["face"] f fd) : FnOk P w K mg base CX0 1 f fd ["face"] spFar := by
  refine D.fn.ok scFar (fun vs H Q E h => ?_) (fun cdv A outer s H vs Q E hr h => ?_)
  · obtain ⟨n, rfl, _⟩ := h
    rfl
  · obtain ⟨n, rfl, q⟩ := h
    refine ⟨_, pss_one (ps_ret (pe_cmpR op_eq (pe_op op_modN (pv 0) pe_int) pe_int (nomark _))), ?_⟩
    refine ⟨_, rfl, _, _, rfl, rfl, (by show (2 : Int) ≠ 0; decide), rfl, ?_⟩
    show Q (.bl (decide (V.int ((n : Int).fmod 2) = V.int 1))) H
    rw [V_int_eq, fmod2]
    exact q
abbrev sBeside : Stmt := topS 6
theorem scBeside : FnScope ["one", "other"] ["one", "other"] (defScope sBeside) := ⟨rfl, rfl, rfl, by decide +kernel, rfl, by decide +kernel, by decide +kernel⟩
def spBeside : Sp := fun vs H Q _ => ∃ f g : Nat, vs = [nV f, nV g] ∧ Q (.bl (Sy73.beside f g)) H
theorem nV_ne (a b : Nat) : (!decide (nV a = nV b)) = (a != b) := by
  unfold nV
  rw [V_int_eq]
  by_cases h : a = b
  · subst h; simp
  · have h' : ¬ ((a : Int) = (b : Int)) := by omega
    rw [decide_eq_false h', (bne_iff_ne).mpr h]; rfl
theorem ok_beside {f fA : Addr} {fd fdA : FuncData} (D : Def K mg "are_beside" sBeside ["one", "other"] f fd) (DA : Def K mg "axis_of" sAxis ["face"] fA fdA) : FnOk P w K mg base CX0 2 f fd ["one", "other"] spBeside := by
  refine D.fn.ok scBeside (fun vs H Q E h => ?_) (fun cdv A outer s H vs Q E hr h => ?_)
  · obtain ⟨n, m, rfl, _⟩ := h
    rfl
  · obtain ⟨n, m, rfl, q⟩ := h
    have GA : FnOk P w K mg base CX0 1 fA fdA ["face"] spAxis := ok_axis DA
    refine ⟨_, pss_one (ps_ret (pe_cmpR op_ne (pe_call GA hr rfl DA.g DA.fn.kp DA.bi .nil pass0 (pa_cons (pv 0) pa_nil)) (pe_call GA hr rfl DA.g DA.fn.kp DA.bi .nil pass0 (pa_cons (pv 1) pa_nil)) (nomark _))), ?_⟩
    refine ⟨_, rfl, n, rfl, _, rfl, m, rfl, rfl, ?_⟩
    rw [nV_ne]
    exact q
abbrev sThird : Stmt := topS 7
theorem scThird : FnScope ["one", "other"] ["one", "other"] (defScope sThird) := ⟨rfl, rfl, rfl, by decide +kernel, rfl, by decide +kernel, by decide +kernel⟩
def spThird : Sp := fun vs H Q _ => ∃ f g : Nat, vs = [nV f, nV g] ∧ f + g ≤ 3 ∧ Q (nV (3 - f - g)) H
theorem ok_third {f : Addr} {fd : FuncData} {t : Tok} (D : Def K mg "third_axis" sThird ["one", "other"] f fd) (gA : mg "AXES" = some (.int 3 t)) : FnOk P w K mg base CX0 1 f fd ["one", "other"] spThird := by
  refine D.fn.ok scThird (fun vs H Q E h => ?_) (fun cdv A outer s H vs Q E hr h => ?_)
  · obtain ⟨n, m, rfl, _⟩ := h
    rfl
  · obtain ⟨n, m, rfl, le, q⟩ := h
    refine ⟨_, pss_one (ps_ret (pe_op op_sub (pe_op op_sub (pe_glob (v := .int 3) rfl gA ⟨_, rfl⟩) (pv 0)) (pv 1))), ?_⟩
    refine ⟨_, rfl, 3, _, rfl, rfl, _, rfl, _, _, rfl, rfl, ?_⟩
    have e : (3 : Int) - (n : Int) - (m : Int) = ((3 - n - m : Nat) : Int) := by omega
    show Q (V.int (3 - (n : Int) - (m : Int))) H
    rw [e]
    exact q
end
end Fly

/-! ## W2 -/
namespace Fly
open PySem PySem.Spec PyProof.Rows L2
section
variable {P : Program} {w : World} {K : PySem.W.Frag} {mg : Str → Option Value} {base : Heap}

abbrev sLens : Stmt := topS 8
theorem scLens : FnScope ["lengths", "length"] ["lengths"] (defScope sLens) := ⟨rfl, rfl, rfl, by decide +kernel, rfl, by decide +kernel, by decide +kernel⟩
def lensOk (l : List Nat) : Bool := l.all fun n => decide (1 ≤ n) && decide (n ≤ 40)
def spLens (K : PySem.W.Frag) : Sp := fun vs H Q _ => ∃ (a : Addr) (l : List Nat), vs = [.ref a] ∧ SqL K H a (l.map nV) ∧ l.length ≤ 1000 ∧ ∀ H', Same H H' → Q (.bl (lensOk l)) H'
theorem take_next {α : Type} : ∀ {l : List α} {i : Nat} {x : α}, l[i]? = some x → l.take (i + 1) = l.take i ++ [x]
  | [], i, x, h => by simp at h
  | a :: l, 0, x, h => by
    have e : a = x := Option.some.inj h
    subst e
    rfl
  | a :: l, i + 1, x, h => by
    rw [List.take_succ_cons, List.take_succ_cons, take_next (l := l) (i := i) h]
    rfl
theorem same_at {H H' : Hp} {D : Addr} {o : HO} (s : Same H H') (h : H D = none) : Same H (upd H' D o) := fun b x e => by
  rw [upd_ne (ne_of_none e h)]
  exact s b x e
theorem ok_lens {f : Addr} {fd : FuncData} {t : Tok} (D : Def K mg "are_lengths" sLens ["lengths"] f fd) (mAll : mg "all" = none) (gL : mg "LONGEST" = some (.int 40 t)) : FnOk P w K mg base CX0 1 f fd ["lengths"] (spLens K) := by
  refine D.fn.ok scLens (fun vs H Q E h => ?_) (fun cdv A outer s H vs Q E hr h => ?_)
  · obtain ⟨a, l, rfl, _⟩ := h
    rfl
  · obtain ⟨a, l, rfl, hl, hz, q⟩ := h
    refine ⟨_, pss_one (ps_ret (pe_callB (cr_all rfl) (by rfl) mAll (by decide +kernel) (pa_cons (pe_lc (own := [("length", 1)]) (g := gName 1) (by rfl) scLens.nd (pi_list (pv 0))
      (blkOk_by (N := ["lengths", "length"]) (sc := defScope sLens) (by decide +kernel)) (fun _ _ _ _ _ => pg_name (i := 1) scLens.nd rfl (Or.inl rfl)) (fun _ _ _ _ _ => pts_nil)
      (fun _ _ _ _ _ => pe_chain op_le op_le pe_int (pv 1) (pe_glob (v := .int 40) rfl gL ⟨_, rfl⟩))) pa_nil))), ?_⟩
    refine ⟨_, rfl, a, rfl, ⟨_, hl⟩, fun D hD => lc_list (K := K) (a := a) (xs := l.map nV)
      (fun i H' => Same H H' ∧ H' D = some (.lst (((l.take i).map fun n => decide (1 ≤ n) && decide (n ≤ 40)).map V.bl))) ⟨same_upd hD, upd_same⟩ (fun i H' _ h => h.1.seq hl) ?_ ?_⟩
    · intro i x H' hx h
      rw [nV_map] at hx
      obtain ⟨n, hn, rfl⟩ := Option.map_eq_some_iff.mp hx
      have fin : ∀ b : Bool, b = (decide (1 ≤ n) && decide (n ≤ 40)) → ∃ acc, H' D = some (HO.lst acc) ∧ acc.length < sizeLine ∧ Same H (upd H' D (HO.lst (acc ++ [V.bl b]))) ∧
          upd H' D (HO.lst (acc ++ [V.bl b])) D = some (HO.lst (((l.take (i + 1)).map fun n => decide (1 ≤ n) && decide (n ≤ 40)).map V.bl)) := fun b hb =>
        ⟨_, h.2, small1000 (by rw [List.length_map, List.length_map, List.length_take]; omega), same_at h.1 hD, by
          rw [upd_same, take_next hn, List.map_append, List.map_append, hb]; rfl⟩
      refine ⟨rfl, _, rfl, 1, _, rfl, rfl, _, rfl, ite2 (fun c1 => ?_) (fun c1 => fin false ?_)⟩
      · refine ⟨_, 40, rfl, rfl, fin _ ?_⟩
        have c1' := of_decide_eq_true c1
        rw [decide_eq_true (show 1 ≤ n by omega), Bool.true_and, Bool.eq_iff_iff, decide_eq_true_eq, decide_eq_true_eq]
        omega
      · have c1' : ¬ (1 : Int) ≤ (n : Int) := fun z => c1 (decide_eq_true z)
        rw [decide_eq_false (show ¬ 1 ≤ n by omega), Bool.false_and]
    · intro H' h
      rw [List.length_map, List.take_length] at h
      refine ⟨D, _, rfl, .inl (.inl h.2), ?_⟩
      have e := q H' h.1
      unfold lensOk at e
      rw [List.all_map]
      exact e
end
end Fly

/-! ## W3 -/
namespace Fly
open PySem PySem.Spec PyProof.Rows L2
section
variable {P : Program} {w : World} {K : PySem.W.Frag} {mg : Str → Option Value} {base : Heap}

theorem nV_eq (a b : Nat) : decide (nV a = nV b) = (a == b) := by
  have h := nV_ne a b
  unfold bne at h
  cases h1 : decide (nV a = nV b) <;> cases h2 : (a == b) <;> rw [h1, h2] at h <;> first | rfl | cases h
/-! ### is_on -/
abbrev sIsOn : Stmt := topS 9
theorem scIsOn : FnScope ["lengths", "point", "face", "axis"] ["lengths", "point", "face"] (defScope sIsOn) := ⟨rfl, rfl, rfl, by decide +kernel, rfl, by decide +kernel, by decide +kernel⟩
def spIsOn (K : PySem.W.Frag) : Sp := fun vs H Q _ => ∃ (a b : Addr) (box p : List Nat) (f : Nat), vs = [.ref a, .ref b, nV f] ∧ SqL K H a (box.map nV) ∧ box.length = 3 ∧ SqA K H b (p.map nV) ∧ p.length = 3 ∧ f < 6 ∧ Q (.bl (Sy73.onFace box p f)) H
theorem ix_of {K : PySem.W.Frag} {H : Hp} {a : Addr} {xs : List V} {i : Nat} {v : V} {Q : VK} (h : SqA K H a xs) (hi : xs[i]? = some v) (q : Q v H) : rIx K (.ref a) (nV i) H Q := by
  rcases h with h | h
  · exact .inl ⟨a, xs, _, v, rfl, rfl, h, atI_nat hi, q⟩
  · exact .inr (.inl ⟨a, xs, _, v, rfl, rfl, h, atI_nat hi, q⟩)
theorem ok_isOn {f fA fF : Addr} {fd fdA fdF : FuncData} (D : Def K mg "is_on" sIsOn ["lengths", "point", "face"] f fd) (DA : Def K mg "axis_of" sAxis ["face"] fA fdA) (DF : Def K mg "is_far" sFar ["face"] fF fdF) :
    FnOk P w K mg base CX0 2 f fd ["lengths", "point", "face"] (spIsOn K) := by
  refine D.fn.ok scIsOn (fun vs H Q E h => ?_) (fun cdv A outer s H vs Q E hr h => ?_)
  · obtain ⟨_, _, _, _, _, rfl, _⟩ := h
    rfl
  · obtain ⟨a, b, box, p, n, rfl, ha, hba, hb, hpl, hn, q⟩ := h
    have GA : FnOk P w K mg base CX0 1 fA fdA ["face"] spAxis := ok_axis DA
    have GF : FnOk P w K mg base CX0 1 fF fdF ["face"] spFar := ok_far DF
    have hax := axis_lt hn
    refine ⟨_, pss_cons (ps_set (i := 3) scIsOn.nd rfl (Or.inl rfl) (pe_call GA hr rfl DA.g DA.fn.kp DA.bi .nil pass0 (pa_cons (pv 2) pa_nil)))
      (pss_one (ps_ret (pe_cmpR op_eq (pe_ix ix_seq (pv 1) (pv 3) (fun _ _ => rfl)) (pe_ifExp (pt_val (pe_call GF hr rfl DF.g DF.fn.kp DF.bi .nil pass0 (pa_cons (pv 2) pa_nil))) (pe_ix ix_seq (pv 0) (pv 3) (fun _ _ => rfl)) pe_int) (nomark _)))), ?_⟩
    refine ⟨_, rfl, n, rfl, _, rfl, _, rfl, ix_of hb (nth_at (by rw [hpl]; exact hax)) ?_⟩
    refine ⟨_, rfl, n, rfl, _, rfl, ?_⟩
    have e : Sy73.onFace box p n = (Sy73.nth p (Sy73.axis n) == (if Sy73.atFar n = true then Sy73.nth box (Sy73.axis n) else 0)) := rfl
    cases hf : Sy73.atFar n with
    | true =>
      rw [e, hf, if_pos rfl] at q
      refine iteT ⟨_, rfl, _, rfl, ix_of (.inl ha) (nth_at (by rw [hba]; exact hax)) ⟨rfl, ?_⟩⟩
      rw [nV_eq]
      exact q
    | false =>
      rw [e, hf, if_neg Bool.false_ne_true] at q
      refine iteF ⟨rfl, ?_⟩
      have z := nV_eq (Sy73.nth p (Sy73.axis n)) 0
      rw [show V.int 0 = nV 0 from rfl, z]
      exact q
/-! ### faces_of -/
abbrev sFacesOf : Stmt := topS 10
theorem scFacesOf : FnScope ["lengths", "point", "face"] ["lengths", "point"] (defScope sFacesOf) := ⟨rfl, rfl, rfl, by decide +kernel, rfl, by decide +kernel, by decide +kernel⟩
def spFacesOf (K : PySem.W.Frag) : Sp := fun vs H Q _ => ∃ (a b : Addr) (box p : List Nat), vs = [.ref a, .ref b] ∧ SqL K H a (box.map nV) ∧ box.length = 3 ∧ SqA K H b (p.map nV) ∧ p.length = 3 ∧
  ∀ H' D, Same H H' → H D = none → H' D = some (.lst ((Sy73.facesOf box p).map nV)) → Q (.ref D) H'
theorem filter_next (g : Nat → Bool) (i : Nat) : (List.range (i + 1)).filter g = (List.range i).filter g ++ (if g i = true then [i] else []) := by
  rw [List.range_succ, List.filter_append]
  by_cases h : g i = true
  · rw [if_pos h, List.filter_cons_of_pos h, List.filter_nil]
  · rw [if_neg h, List.filter_cons_of_neg h, List.filter_nil]
theorem ok_facesOf {f fI fA fF : Addr} {fd fdI fdA fdF : FuncData} {t : Tok} (D : Def K mg "faces_of" sFacesOf ["lengths", "point"] f fd) (DI : Def K mg "is_on" sIsOn ["lengths", "point", "face"] fI fdI)
    (DA : Def K mg "axis_of" sAxis ["face"] fA fdA) (DF : Def K mg "is_far" sFar ["face"] fF fdF) (mR : mg "range" = none) (gF : mg "FACES" = some (.int 6 t)) :
    FnOk P w K mg base CX0 3 f fd ["lengths", "point"] (spFacesOf K) := by
  refine D.fn.ok scFacesOf (fun vs H Q E h => ?_) (fun cdv A outer s H vs Q E hr h => ?_)
  · obtain ⟨_, _, _, _, rfl, _⟩ := h
    rfl
  · obtain ⟨a, b, box, p, rfl, ha, hba, hb, hpl, q⟩ := h
    have GI : FnOk P w K mg base CX0 2 fI fdI ["lengths", "point", "face"] (spIsOn K) := ok_isOn DI DA DF
    refine ⟨_, pss_one (ps_ret (pe_lc (own := [("face", 2)]) (g := gName 2) (by rfl) scFacesOf.nd (pi_range1 (by rfl) mR (pa_cons (pe_glob (v := .int 6) rfl gF ⟨_, rfl⟩) pa_nil))
      (blkOk_by (N := ["lengths", "point", "face"]) (sc := defScope sFacesOf) (by decide +kernel)) (fun _ _ _ _ _ => pg_name (i := 2) scFacesOf.nd rfl (Or.inl rfl))
      (fun _ _ _ _ _ => pts_one (pt_val (pe_call GI hr rfl DI.g DI.fn.kp DI.bi .nil pass0 (pa_cons (pv 0) (pa_cons (pv 1) (pa_cons (pv 2) pa_nil))))))
      (fun _ _ _ _ _ => pv 2))), ?_⟩
    refine ⟨6, rfl, by decide, by decide, fun D hD => lc_range (lo := 0) (n := 6)
      (fun i H' => Same H H' ∧ H' D = some (.lst (((List.range i).filter (Sy73.onFace box p)).map nV))) ⟨same_upd hD, upd_same⟩ ?_ ?_⟩
    · intro i H' hi h
      rw [Int.zero_add]
      refine ⟨rfl, _, rfl, _, rfl, _, rfl, a, b, box, p, i, rfl, h.1.seq ha, hba, Same.seqA h.1 hb, hpl, hi, _, rfl, ?_⟩
      cases ho : Sy73.onFace box p i with
      | true =>
        refine iteT ⟨_, rfl, _, h.2, small1000 ?_, same_at h.1 hD, ?_⟩
        · rw [List.length_map]
          have := List.length_filter_le (Sy73.onFace box p) (List.range i)
          rw [List.length_range] at this
          omega
        · rw [upd_same, filter_next, ho, if_pos rfl, List.map_append]
          rfl
      | false =>
        refine iteF ⟨h.1, ?_⟩
        rw [h.2, filter_next, ho, if_neg Bool.false_ne_true, List.append_nil]
    · intro H' h
      exact q H' D h.1 hD h.2
end
end Fly

/-! ## W4 -/
namespace Fly
open PySem PySem.Spec PyProof.Rows L2
section
variable {P : Program} {w : World} {K : PySem.W.Frag} {mg : Str → Option Value} {base : Heap}
/-! ### is_on_box -/
abbrev sIsOnBox : Stmt := topS 11
theorem scIsOnBox : FnScope ["lengths", "point", "at", "length"] ["lengths", "point"] (defScope sIsOnBox) := ⟨rfl, rfl, rfl, by decide +kernel, rfl, by decide +kernel, by decide +kernel⟩
def onBox (box p : List Nat) : Bool := Sy73.inBox box p && !(Sy73.facesOf box p).isEmpty
def spIsOnBox (K : PySem.W.Frag) : Sp := fun vs H Q _ => ∃ (a b : Addr) (box p : List Nat), vs = [.ref a, .ref b] ∧ SqL K H a (box.map nV) ∧ box.length = 3 ∧ SqA K H b (p.map nV) ∧ p.length = 3 ∧
  ∀ H', Same H H' → Q (.bl (onBox box p)) H'
theorem range_snoc {α : Type} (g : Nat → α) (i : Nat) : (List.range (i + 1)).map g = (List.range i).map g ++ [g i] := by
  rw [List.range_succ, List.map_append]
  rfl
theorem nV_ints (l : List Nat) : l.map nV = (Sy73.ints l).map V.int := by
  unfold Sy73.ints
  rw [List.map_map]
  rfl
theorem dp_ints' {K : PySem.W.Frag} {H : Hp} : ∀ l : List Int, DpAll K H (l.map V.int) (l.map PyData.int)
  | [] => .nil
  | n :: r => .cons (.int n) (dp_ints' r)
theorem dp_nats {K : PySem.W.Frag} {H : Hp} (l : List Nat) : DpAll K H (l.map nV) ((Sy73.ints l).map PyData.int) := by
  rw [nV_ints]
  exact dp_ints' _
theorem eqv_nil (l : List Nat) : PyData.eqv (.list ((Sy73.ints l).map PyData.int)) (.list []) = l.isEmpty := by
  cases l <;> rfl
theorem ok_isOnBox {f fO fI fA fF : Addr} {fd fdO fdI fdA fdF : FuncData} {t : Tok} (D : Def K mg "is_on_box" sIsOnBox ["lengths", "point"] f fd) (DO : Def K mg "faces_of" sFacesOf ["lengths", "point"] fO fdO) (DI : Def K mg "is_on" sIsOn ["lengths", "point", "face"] fI fdI)
    (DA : Def K mg "axis_of" sAxis ["face"] fA fdA) (DF : Def K mg "is_far" sFar ["face"] fF fdF) (mR : mg "range" = none) (gF : mg "FACES" = some (.int 6 t)) (mAll : mg "all" = none) (mZ : mg "zip" = none) :
    FnOk P w K mg base CX0 4 f fd ["lengths", "point"] (spIsOnBox K) := by
  refine D.fn.ok scIsOnBox (fun vs H Q E h => ?_) (fun cdv A outer s H vs Q E hr h => ?_)
  · obtain ⟨_, _, _, _, rfl, _⟩ := h
    rfl
  · obtain ⟨a, b, box, p, rfl, ha, hba, hb, hpl, q⟩ := h
    have GO : FnOk P w K mg base CX0 3 fO fdO ["lengths", "point"] (spFacesOf K) := ok_facesOf DO DI DA DF mR gF
    refine ⟨_, pss_one (ps_ret (pe_and (pe_callB (cr_all rfl) (by rfl) mAll (by decide +kernel) (pa_cons (pe_lc (own := [("at", 2), ("length", 3)]) (g := gTup K 2 (gCons (gName 2) (gCons (gName 3) gNil))) (by rfl) scIsOnBox.nd
        (pi_zipAL (by rfl) mZ (pa_cons (pv 1) (pa_cons (pv 0) pa_nil)))
        (blkOk_by (N := ["lengths", "point", "at", "length"]) (sc := defScope sIsOnBox) (by decide +kernel))
        (fun _ _ _ _ _ => pg_tup rfl (pgs_cons (pg_name (i := 2) scIsOnBox.nd rfl (.inl rfl)) (pgs_cons (pg_name (i := 3) scIsOnBox.nd rfl (.inl rfl)) pgs_nil)))
        (fun _ _ _ _ _ => pts_nil) (fun _ _ _ _ _ => pe_cmpR op_le (pv 2) (pv 3) (nomark _))) pa_nil))
      (pe_one (pe_cmpR (op_neD hr.units) (pe_call GO hr rfl DO.g DO.fn.kp DO.bi .nil pass0 (pa_cons (pv 0) (pa_cons (pv 1) pa_nil))) (pe_lst pa_nil) (nomark _))))), ?_⟩
    refine ⟨_, rfl, _, rfl, b, a, p.map nV, box.map nV, rfl, ha, ?_⟩
    have turn : ∀ (D : Addr) (i : Nat) (T : Addr) (x y : V) (H' : Hp), H D = none → i < 3 → (p.map nV)[i]? = some x → (box.map nV)[i]? = some y → H' T = none →
        (Same H H' ∧ H' D = some (.lst (((List.range i).map fun k => decide (Sy73.nth p k ≤ Sy73.nth box k)).map V.bl))) →
        ∃ acc, upd H' T (.tup [x, y]) D = some (.lst acc) ∧ acc.length < sizeLine ∧ Same H (upd (upd H' T (.tup [x, y])) D (.lst (acc ++ [V.bl (decide (Sy73.nth p i ≤ Sy73.nth box i))]))) ∧
          upd (upd H' T (.tup [x, y])) D (.lst (acc ++ [V.bl (decide (Sy73.nth p i ≤ Sy73.nth box i))])) D = some (.lst (((List.range (i + 1)).map fun k => decide (Sy73.nth p k ≤ Sy73.nth box k)).map V.bl)) := by
      intro D i T x y H' hD hi hx hy hT h
      have ne : D ≠ T := ne_of_none h.2 hT
      refine ⟨_, (upd_ne ne).trans h.2, small1000 (by rw [List.length_map, List.length_map, List.length_range]; omega), same_at (h.1.trans (same_upd hT)) hD, ?_⟩
      rw [upd_same, range_snoc, List.map_append]
      rfl
    have fin : ∀ (D : Addr) (H1 : Hp), Same H H1 → H1 D = some (.lst (((List.range 3).map fun k => decide (Sy73.nth p k ≤ Sy73.nth box k)).map V.bl)) →
        rAll K [V.ref D] H1 fun x H1 => ∃ c, x = V.bl c ∧ if c = true then ∃ v, some (some (V.ref a)) = some (some v) ∧ ∃ v2, some (some (V.ref b)) = some (some v2) ∧ spFacesOf K [v, v2] H1 (fun x H2 => Nat.zero ≤ sizeLine ∧ ∀ l, H2 l = none → rNeD K x (.ref l) (upd H2 l (.lst [])) Q) E0 else Q (.bl false) H1 := by
      intro D H1 s1 h1
      refine ⟨D, _, rfl, .inl (.inl h1), _, rfl, ?_⟩
      have ein : Sy73.inBox box p = ((List.range 3).map fun k => decide (Sy73.nth p k ≤ Sy73.nth box k)).all id := by
        unfold Sy73.inBox
        rw [hpl, List.all_map]
        rfl
      cases hc : ((List.range 3).map fun k => decide (Sy73.nth p k ≤ Sy73.nth box k)).all id with
      | false =>
        refine iteF ?_
        have z := q H1 s1
        unfold onBox at z
        rw [ein, hc, Bool.false_and] at z
        exact z
      | true =>
        refine iteT ⟨_, rfl, _, rfl, a, b, box, p, rfl, s1.seq ha, hba, Same.seqA s1 hb, hpl, fun H2 D2 s2 n2 h2 => ⟨Nat.zero_le _, fun l hl => ?_⟩⟩
        have nel : D2 ≠ l := ne_of_none h2 hl
        refine ⟨_, _, .lst (.inl (.inl ((upd_ne nel).trans h2))) (dp_nats _), .lst (.inl (.inl upd_same)) .nil, PySem.W.ke_shaped_ints _, rfl, ?_⟩
        rw [eqv_nil]
        have z := q (upd H2 l (.lst [])) ((s1.trans s2).trans (same_upd hl))
        unfold onBox at z
        rw [ein, hc, Bool.true_and] at z
        exact z
    rcases hb with hb | hb
    · refine .inl ⟨hb, fun D hD => lc_it (walk_zip (K := K) (a := b) (b := a) (xs := p.map nV) (ys := box.map nV) (n := 3) (by rw [List.length_map, List.length_map, hpl, hba] <;> rfl))
        (fun i H' => Same H H' ∧ H' D = some (.lst (((List.range i).map fun k => decide (Sy73.nth p k ≤ Sy73.nth box k)).map V.bl))) ⟨same_upd hD, upd_same⟩ (fun i H' _ h => ⟨h.1.seq hb, h.1.seq ha⟩) ?_ ?_⟩
      · rintro i v H' H2 hi h ⟨T, x, y, rfl, hT, rfl, hx, hy⟩
        replace hx : (p.map nV)[i]? = some x := hx
        replace hy : (box.map nV)[i]? = some y := hy
        obtain rfl : nV (Sy73.nth p i) = x := Option.some.inj ((nth_at (by omega)).symm.trans hx)
        obtain rfl : nV (Sy73.nth box i) = y := Option.some.inj ((nth_at (by omega)).symm.trans hy)
        refine ⟨T, _, rfl, .inl (.inl upd_same), rfl, _, _, rfl, _, _, rfl, rfl, rfl, _, rfl, _, rfl, _, _, rfl, rfl, ?_⟩
        have t := turn D i T _ _ H' hD hi hx hy hT h
        have e : decide ((Sy73.nth p i : Int) ≤ (Sy73.nth box i : Int)) = decide (Sy73.nth p i ≤ Sy73.nth box i) := by
          rw [Bool.eq_iff_iff, decide_eq_true_eq, decide_eq_true_eq]
          omega
        rw [← e] at t
        exact t
      · intro H' h
        exact fin D H' h.1 h.2
    · refine .inr ⟨hb, fun D hD => lc_it (walk_zipM (K := K) (a := b) (b := a) (xs := p.map nV) (ys := box.map nV) (n := 3) (by rw [List.length_map, hpl]) (by rw [List.length_map, hba]))
        (fun i H' => Same H H' ∧ H' D = some (.lst (((List.range i).map fun k => decide (Sy73.nth p k ≤ Sy73.nth box k)).map V.bl))) ⟨same_upd hD, upd_same⟩ (fun i H' _ h => ⟨Same.seqT h.1 hb, h.1.seq ha⟩) ?_ ?_⟩
      · rintro i v H' H2 hi h ⟨T, x, y, rfl, hT, rfl, hx, hy⟩
        replace hx : (p.map nV)[i]? = some x := hx
        replace hy : (box.map nV)[i]? = some y := hy
        obtain rfl : nV (Sy73.nth p i) = x := Option.some.inj ((nth_at (by omega)).symm.trans hx)
        obtain rfl : nV (Sy73.nth box i) = y := Option.some.inj ((nth_at (by omega)).symm.trans hy)
        refine ⟨T, _, rfl, .inl (.inl upd_same), rfl, _, _, rfl, _, _, rfl, rfl, rfl, _, rfl, _, rfl, _, _, rfl, rfl, ?_⟩
        have t := turn D i T _ _ H' hD hi hx hy hT h
        have e : decide ((Sy73.nth p i : Int) ≤ (Sy73.nth box i : Int)) = decide (Sy73.nth p i ≤ Sy73.nth box i) := by
          rw [Bool.eq_iff_iff, decide_eq_true_eq, decide_eq_true_eq]
          omega
        rw [← e] at t
        exact t
      · intro H' h
        exact fin D H' h.1 h.2
end
end Fly

/-! ## W5 -/
namespace Fly
open PySem PySem.Spec PyProof.Rows L2
/-- what was made on the way changes -/
theorem Grow.mut {G H G' H' : Hp} {D : Addr} {o : HO} (g : Grow G H G' H') (h : H D = none) (hg : G' D = none) : Grow G H G' (upd H' D o) :=
  ⟨g.st, g.gg, fun b x e => by rw [upd_ne (ne_of_none e hg)]; exact g.gh b x e, same_at g.hh h, g.new⟩
theorem paired_snoc {α β : Type} {F : α → β → Prop} {x : α} {y : β} (h : F x y) : ∀ {l : List α} {m : List β}, Paired F l m → Paired F (l ++ [x]) (m ++ [y])
  | _, _, .nil => .cons h .nil
  | _, _, .cons r t => .cons r (paired_snoc h t)
theorem paired_append {α β : Type} {F : α → β → Prop} {l2 : List α} {m2 : List β} (h : Paired F l2 m2) : ∀ {l : List α} {m : List β}, Paired F l m → Paired F (l ++ l2) (m ++ m2)
  | _, _, .nil => h
  | _, _, .cons r t => .cons r (paired_append h t)
theorem paired_len {α β : Type} {F : α → β → Prop} : ∀ {l : List α} {m : List β}, Paired F l m → l.length = m.length
  | _, _, .nil => rfl
  | _, _, .cons _ t => congrArg Nat.succ (paired_len t)
/-- v is the tuple of these -/
def IsNT (K : PySem.W.Frag) (H : Hp) (v : V) (p : List Nat) : Prop := ∃ b, v = .ref b ∧ SqT K H b (p.map nV)
theorem IsNT.same {K : PySem.W.Frag} {H H' : Hp} (s : Same H H') (v : V) (p : List Nat) (h : IsNT K H v p) : IsNT K H' v p :=
  let ⟨b, e, q⟩ := h
  ⟨b, e, Same.seqT s q⟩
/-- a list that grows at D while what it holds stands in G -/
structure Grows (F : Hp → V → α → Prop) (G0 H0 G H : Hp) (D : Addr) (vs : List V) (l : List α) : Prop where
  g : Grow G0 H0 G H
  d : H D = some (.lst vs)
  dg : G D = none
  its : Paired (F G) vs l
def rowZ (x y k : Nat) : List (List Nat) := (List.range k).map fun z => [x, y, z]
def rowY (c x k : Nat) : List (List Nat) := (List.range k).flatMap fun y => rowZ x y c
def rowX (b c k : Nat) : List (List Nat) := (List.range k).flatMap fun x => rowY c x b
theorem rowZ_next (x y k : Nat) : rowZ x y (k + 1) = rowZ x y k ++ [[x, y, k]] := range_snoc _ _
theorem rowY_next (c x k : Nat) : rowY c x (k + 1) = rowY c x k ++ rowZ x k c := by
  unfold rowY
  rw [List.range_succ, List.flatMap_append, List.flatMap_cons, List.flatMap_nil, List.append_nil]
theorem rowX_next (b c k : Nat) : rowX b c (k + 1) = rowX b c k ++ rowY c k b := by
  unfold rowX
  rw [List.range_succ, List.flatMap_append, List.flatMap_cons, List.flatMap_nil, List.append_nil]
def keepP (box : List Nat) (p : List Nat) : Bool := !(Sy73.facesOf box p).isEmpty
theorem points_is (box : List Nat) : Sy73.points box = (rowX (Sy73.nth box 1 + 1) (Sy73.nth box 2 + 1) (Sy73.nth box 0 + 1)).filter (keepP box) := rfl
theorem len_rowZ (x y k : Nat) : (rowZ x y k).length = k := by unfold rowZ; rw [List.length_map, List.length_range]
theorem len_rowY (c x : Nat) : ∀ k, (rowY c x k).length = k * c
  | 0 => by rw [Nat.zero_mul]; rfl
  | k + 1 => by rw [rowY_next, List.length_append, len_rowY c x k, len_rowZ, Nat.succ_mul]
theorem len_rowX (b c : Nat) : ∀ k, (rowX b c k).length = k * (b * c)
  | 0 => by rw [Nat.zero_mul]; rfl
  | k + 1 => by rw [rowX_next, List.length_append, len_rowX b c k, len_rowY, Nat.succ_mul]
section
variable {P : Program} {w : World} {K : PySem.W.Frag} {mg : Str → Option Value} {base : Heap}
abbrev sAllPoints : Stmt := topS 12
theorem scAllPoints : FnScope ["lengths", "found", "x", "y", "z"] ["lengths"] (defScope sAllPoints) := ⟨rfl, rfl, rfl, by decide +kernel, rfl, by decide +kernel, by decide +kernel⟩
def spAllPoints (K : PySem.W.Frag) : Sp := fun vs H Q _ => ∃ (G : Hp) (a : Addr) (box : List Nat), vs = [.ref a] ∧ Same G H ∧ SqL K G a (box.map nV) ∧ box.length = 3 ∧ (∀ k, k < 3 → Sy73.nth box k ≤ 40) ∧
  ∀ G' H' D ps, Grow G H G' H' → G' D = some (.lst ps) → Paired (IsNT K G') ps (Sy73.points box) → Q (.ref D) H'
theorem toNat_succ (n : Nat) : ((n : Int) + 1).toNat = n + 1 := rfl
theorem ok_allPoints {f fB fO fI fA fF : Addr} {fd fdB fdO fdI fdA fdF : FuncData} {t : Tok} (D : Def K mg "all_points" sAllPoints ["lengths"] f fd) (DB : Def K mg "is_on_box" sIsOnBox ["lengths", "point"] fB fdB)
    (GB : FnOk P w K mg base CX0 4 fB fdB ["lengths", "point"] (spIsOnBox K)) (mR : mg "range" = none) :
    FnOk P w K mg base CX0 5 f fd ["lengths"] (spAllPoints K) := by
  refine D.fn.ok scAllPoints (fun vs H Q E h => ?_) (fun cdv A outer s H vs Q E hr h => ?_)
  · obtain ⟨_, _, _, rfl, _⟩ := h
    rfl
  · obtain ⟨G, a, box, rfl, sG, ha, hba, h40, q⟩ := h
    refine ⟨_, pss_cons (ps_set (i := 1) scAllPoints.nd rfl (.inl rfl) (pe_lst pa_nil))
      (pss_cons (ps_for PassesOwn.never rfl (pi_range1 (by rfl) mR (pa_cons (pe_op op_add (pe_ix ix_seq (pv 0) pe_int (fun _ _ => rfl)) pe_int) pa_nil)) (pg_name (i := 2) scAllPoints.nd rfl (.inl rfl))
        (pss_one (ps_for PassesOwn.never rfl (pi_range1 (by rfl) mR (pa_cons (pe_op op_add (pe_ix ix_seq (pv 0) pe_int (fun _ _ => rfl)) pe_int) pa_nil)) (pg_name (i := 3) scAllPoints.nd rfl (.inl rfl))
          (pss_one (ps_for PassesOwn.never rfl (pi_range1 (by rfl) mR (pa_cons (pe_op op_add (pe_ix ix_seq (pv 0) pe_int (fun _ _ => rfl)) pe_int) pa_nil)) (pg_name (i := 4) scAllPoints.nd rfl (.inl rfl))
            (pss_one (ps_if (pt_val (pe_call GB hr rfl DB.g DB.fn.kp DB.bi .nil pass0 (pa_cons (pv 0) (pa_cons (pe_tup (pa_cons (pv 2) (pa_cons (pv 3) (pa_cons (pv 4) pa_nil)))) pa_nil))))
              (pss_one (ps_expr (pe_bm PySem.F.plainAttrs_list PySem.F.slot_list_append PySem.F.type_list_append mt_append (pv 1) (pa_cons (pe_tup (pa_cons (pv 2) (pa_cons (pv 3) (pa_cons (pv 4) pa_nil)))) pa_nil)))) pss_nil)))))))
      (pss_one (ps_ret (pv 1)))), ?_⟩
    obtain ⟨n0, n1, n2, rfl⟩ : ∃ a b c, box = [a, b, c] := match box, hba with | [a, b, c], _ => ⟨a, b, c, rfl⟩
    have b0 : n0 ≤ 40 := h40 0 (by decide)
    have b1 : n1 ≤ 40 := h40 1 (by decide)
    have b2 : n2 ≤ 40 := h40 2 (by decide)
    have bnd : ∀ n : Nat, n ≤ 40 → -(2 ^ 62 : Int) ≤ (n : Int) + 1 ∧ (n : Int) + 1 < 2 ^ 62 := fun n h => by constructor <;> omega
    refine ⟨Nat.zero_le _, fun D hD => ?_⟩
    have haH : ∀ {G' H' : Hp}, Grow G H G' H' → SqL K H' a (([n0, n1, n2] : List Nat).map nV) := fun g => (g.gg.trans g.gh).seq ha
    -- the lists
    have cap : ∀ l : List (List Nat), l.length ≤ 41 * (41 * 41) + 41 * 41 + 41 → ((l.filter (keepP [n0, n1, n2])).length) < sizeLine := fun l hl => Nat.lt_of_le_of_lt (Nat.le_trans (List.length_filter_le _ _) hl) (by decide)
    refine ⟨_, rfl, ix_of (.inl ((same_upd hD).seq (sG.seq ha))) (v := nV n0) rfl ⟨_, _, rfl, rfl, _, rfl, (bnd n0 b0).1, (bnd n0 b0).2, ?_⟩⟩
    refine for_range (lo := 0) (n := n0 + 1) (fun i σ H' => ∃ y3 y4 y5 G' vs, σ = [some (.ref a), some (.ref D), y3, y4, y5] ∧ Grows (IsNT K) G H G' H' D vs ((rowX (n1 + 1) (n2 + 1) i).filter (keepP [n0, n1, n2])))
      ⟨none, none, none, G, [], rfl, ⟨Grow.tmp sG (same_upd hD), upd_same, sG.free hD, .nil⟩⟩ ?_ ?_
    · rintro i σ H1 hi ⟨y3, y4, y5, G1, vs, rfl, W⟩
      rw [Int.zero_add]
      refine ⟨_, rfl, ix_of (.inl (haH W.g)) (v := nV n1) rfl ⟨_, _, rfl, rfl, _, rfl, (bnd n1 b1).1, (bnd n1 b1).2, ?_⟩⟩
      refine for_range (lo := 0) (n := n1 + 1) (fun j σ H' => ∃ y4 y5 G' vs, σ = [some (.ref a), some (.ref D), some (nV i), y4, y5] ∧ Grows (IsNT K) G H G' H' D vs ((rowX (n1 + 1) (n2 + 1) i ++ rowY (n2 + 1) i j).filter (keepP [n0, n1, n2])))
        ⟨y4, y5, G1, vs, rfl, by rw [show rowY (n2 + 1) i 0 = [] from rfl, List.append_nil]; exact W⟩ ?_ ?_
      · rintro j σ H2 hj ⟨y4, y5, G2, vs, rfl, W⟩
        rw [Int.zero_add]
        refine ⟨_, rfl, ix_of (.inl (haH W.g)) (v := nV n2) rfl ⟨_, _, rfl, rfl, _, rfl, (bnd n2 b2).1, (bnd n2 b2).2, ?_⟩⟩
        refine for_range (lo := 0) (n := n2 + 1) (fun k σ H' => ∃ y5 G' vs, σ = [some (.ref a), some (.ref D), some (nV i), some (nV j), y5] ∧ Grows (IsNT K) G H G' H' D vs ((rowX (n1 + 1) (n2 + 1) i ++ rowY (n2 + 1) i j ++ rowZ i j k).filter (keepP [n0, n1, n2])))
          ⟨y5, G2, vs, rfl, by rw [show rowZ i j 0 = [] from rfl, List.append_nil]; exact W⟩ ?_ ?_
        · rintro k σ H3 hk ⟨y5, G3, vs, rfl, W⟩
          rw [Int.zero_add]
          refine ⟨_, rfl, _, rfl, _, rfl, _, rfl, (by decide : 3 ≤ sizeLine), fun T1 hT1 => ?_⟩
          refine ⟨a, T1, [n0, n1, n2], [i, j, k], rfl, (same_upd hT1).seq (haH W.g), rfl, .inr (.inl (.inl upd_same)), rfl, fun H4 s4 => ⟨_, rfl, ?_⟩⟩
          have s34 : Same H3 H4 := (same_upd hT1).trans s4
          have g4 : Grow G H G3 H4 := W.g.trans (Grow.tmp W.g.gh s34)
          have d4 : H4 D = some (.lst vs) := s34 _ _ W.d
          have ek : onBox [n0, n1, n2] [i, j, k] = keepP [n0, n1, n2] [i, j, k] := by
            have z : Sy73.inBox [n0, n1, n2] [i, j, k] = true := by
              have e0 : i ≤ n0 := by omega
              have e1 : j ≤ n1 := by omega
              have e2 : k ≤ n2 := by omega
              simp [Sy73.inBox, Sy73.nth, List.range, List.range.loop, e0, e1, e2]
            unfold onBox keepP
            rw [z, Bool.true_and]
          rw [ek]
          cases hkeep : keepP [n0, n1, n2] [i, j, k] with
          | true =>
            refine iteT ⟨_, rfl, .inl ⟨rfl, _, .inl (.inl d4)⟩, _, rfl, _, rfl, _, rfl, (by decide : 3 ≤ sizeLine), fun T2 hT2 => ?_⟩
            have neD : D ≠ T2 := ne_of_none d4 hT2
            refine ⟨D, vs, _, rfl, rfl, (upd_ne neD).trans d4, ?_, some (nV k), upd G3 T2 (.tup [nV i, nV j, nV k]), vs ++ [.ref T2], rfl, ?_⟩
            · rw [paired_len W.its]
              refine cap _ ?_
              rw [List.length_append, List.length_append, len_rowX, len_rowY, len_rowZ]
              have m1 : i * ((n1 + 1) * (n2 + 1)) ≤ 41 * (41 * 41) := Nat.mul_le_mul (by omega) (Nat.mul_le_mul (by omega) (by omega))
              have m2 : j * (n2 + 1) ≤ 41 * 41 := Nat.mul_le_mul (by omega) (by omega)
              omega
            · refine ⟨((g4.trans (Grow.add g4.gh hT2)).mut hD ((upd_ne neD).trans W.dg)), upd_same, (upd_ne neD).trans W.dg, ?_⟩
              rw [rowZ_next, ← List.append_assoc, List.filter_append, List.filter_cons_of_pos hkeep, List.filter_nil]
              exact paired_snoc ⟨T2, rfl, .inl (.inl upd_same)⟩ (Paired.mapP W.its (IsNT.same (same_upd (g4.gh.free hT2))))
          | false =>
            refine iteF ⟨some (nV k), G3, vs, rfl, g4, d4, W.dg, ?_⟩
            rw [rowZ_next, ← List.append_assoc, List.filter_append, List.filter_cons_of_neg (by rw [hkeep]; exact Bool.false_ne_true), List.filter_nil, List.append_nil]
            exact W.its
        · rintro σ H3 ⟨y5, G3, vs, rfl, W⟩
          refine ⟨some (nV j), y5, G3, vs, rfl, ?_⟩
          rw [rowY_next, ← List.append_assoc]
          exact W
      · rintro σ H3 ⟨y4, y5, G3, vs, rfl, W⟩
        refine ⟨some (nV i), y4, y5, G3, vs, rfl, ?_⟩
        rw [rowX_next]
        exact W
    · rintro σ H3 ⟨y3, y4, y5, G3, vs, rfl, W⟩
      exact ⟨_, rfl, q _ H3 D vs (W.g.keep hD W.d) upd_same (Paired.mapP W.its (IsNT.same (same_upd W.dg)))⟩
end
end Fly

/-! ## W6 -/
namespace Fly
open PySem PySem.Spec PyProof.Rows L2
/-! ### are_row -/
def rowOk (l : List Nat) : Bool := !l.isEmpty && l.all (fun f => decide (f < 6)) && Sy73.distinct l && Sy73.linked l
theorem distinct_iff : ∀ l : List Nat, Sy73.distinct l = true ↔ l.Nodup
  | [] => by simp [Sy73.distinct]
  | a :: l => by
    unfold Sy73.distinct
    rw [Bool.and_eq_true, distinct_iff l, List.nodup_cons, Bool.not_eq_true', List.contains_eq_mem, decide_eq_false_iff_not]
theorem nodup_ints (l : List Nat) : (Sy73.ints l).Nodup ↔ l.Nodup := by
  unfold Sy73.ints
  constructor
  · intro h
    exact (List.pairwise_map.mp h).imp fun h e => h (by rw [e])
  · intro h
    exact List.pairwise_map.mpr (h.imp fun h e => h (by omega))
theorem linked_range : ∀ l : List Nat, Sy73.linked l = ((List.range (l.length - 1)).map fun k => Sy73.beside (Sy73.nth l k) (Sy73.nth l (k + 1))).all id
  | [] => rfl
  | [a] => rfl
  | a :: b :: l => by
    have ih := linked_range (b :: l)
    show (Sy73.beside a b && Sy73.linked (b :: l)) = _
    rw [ih]
    show _ = ((List.range (l.length + 1)).map _).all id
    rw [List.range_succ_eq_map, List.map_cons, List.all_cons, List.map_map]
    rfl
theorem cut1 (xs : List V) : cutV xs (some 1) none = xs.drop 1 := by
  unfold cutV
  rw [show HT.sIx xs.length 0 (some 1) = min 1 xs.length from HT.sIx_nat xs.length 0 1, HT.sIx_none]
  cases xs with
  | nil => rfl
  | cons x r =>
    rw [show min 1 (x :: r).length = 1 by rw [List.length_cons]; omega]
    show (List.take ((x :: r).length - 1) r) = r
    rw [List.length_cons, Nat.add_sub_cancel]
    exact List.take_length
section
variable {P : Program} {w : World} {K : PySem.W.Frag} {mg : Str → Option Value} {base : Heap}
abbrev sAreRow : Stmt := topS 13
theorem scAreRow : FnScope ["faces", "face", "one", "other"] ["faces"] (defScope sAreRow) := ⟨rfl, rfl, rfl, by decide +kernel, rfl, by decide +kernel, by decide +kernel⟩
def spAreRow (K : PySem.W.Frag) : Sp := fun vs H Q _ => ∃ (a : Addr) (l : List Nat), vs = [.ref a] ∧ SqL K H a (l.map nV) ∧ l.length ≤ 100 ∧ ∀ H', Same H H' → Q (.bl (rowOk l)) H'
theorem ok_areRow {f fS fA : Addr} {fd fdS fdA : FuncData} {t : Tok} (D : Def K mg "are_row" sAreRow ["faces"] f fd) (DS : Def K mg "are_beside" sBeside ["one", "other"] fS fdS) (DA : Def K mg "axis_of" sAxis ["face"] fA fdA)
    (mAll : mg "all" = none) (mZ : mg "zip" = none) (mLen : mg "len" = none) (mSet : mg "set" = none) (gF : mg "FACES" = some (.int 6 t)) :
    FnOk P w K mg base CX0 3 f fd ["faces"] (spAreRow K) := by
  refine D.fn.ok scAreRow (fun vs H Q E h => ?_) (fun cdv A outer s H vs Q E hr h => ?_)
  · obtain ⟨_, _, rfl, _⟩ := h
    rfl
  · obtain ⟨a, l, rfl, ha, hl, q⟩ := h
    have GS : FnOk P w K mg base CX0 2 fS fdS ["one", "other"] spBeside := ok_beside DS DA
    refine ⟨_, pss_cons (ps_if (PW.pt (pw_or (pt_cmpR (op_eqD hr.units) (pv 0) (pe_lst pa_nil) (nomark _)) (pw_or (pt_not (pt_val (pe_callB (cr_all rfl) (by rfl) mAll (by decide +kernel) (pa_cons (pe_lc (own := [("face", 1)]) (g := gName 1) (by rfl) scAreRow.nd (pi_list (pv 0))
            (blkOk_by (N := ["faces", "face", "one", "other"]) (sc := defScope sAreRow) (by decide +kernel)) (fun _ _ _ _ _ => pg_name (i := 1) scAreRow.nd rfl (Or.inl rfl)) (fun _ _ _ _ _ => pts_nil)
            (fun _ _ _ _ _ => pe_cmpR op_lt (pv 1) (pe_glob (v := .int 6) rfl gF ⟨_, rfl⟩) (nomark _))) pa_nil))))
          (pw_or1 (pt_cmpR op_lt (pe_lenSet' (by rfl) mLen (by rfl) mSet (pv 0)) (pe_callB call_len_seq (by rfl) mLen PySem.boot_len (pa_cons (pv 0) pa_nil)) (nomark _))))))
        (pss_one (ps_ret pe_bl)) pss_nil)
      (pss_one (ps_ret (pe_callB (cr_all rfl) (by rfl) mAll (by decide +kernel) (pa_cons (pe_lc (own := [("one", 2), ("other", 3)]) (g := gTup K 2 (gCons (gName 2) (gCons (gName 3) gNil))) (by rfl) scAreRow.nd
        (pi_zip (by rfl) mZ (pa_cons (pv 0) (pa_cons (pe_slice sl_list (pv 0) (po_some pe_int) po_none) pa_nil)))
        (blkOk_by (N := ["faces", "face", "one", "other"]) (sc := defScope sAreRow) (by decide +kernel))
        (fun _ _ _ _ _ => pg_tup rfl (pgs_cons (pg_name (i := 2) scAreRow.nd rfl (.inl rfl)) (pgs_cons (pg_name (i := 3) scAreRow.nd rfl (.inl rfl)) pgs_nil)))
        (fun _ _ _ _ _ => pts_nil) (fun _ _ _ _ _ => pe_call GS hr rfl DS.g DS.fn.kp DS.bi .nil pass0 (pa_cons (pv 2) (pa_cons (pv 3) pa_nil)))) pa_nil)))), ?_⟩
    -- faces == []
    refine ⟨_, rfl, Nat.zero_le _, fun c0 hc0 => ?_⟩
    have s0 : Same H (upd H c0 (.lst [])) := same_upd hc0
    refine ⟨_, _, .lst (s0.seq ha) (dp_nats _), .lst (.inl (.inl upd_same)) .nil, PySem.W.ke_shaped_ints _, rfl, _, rfl, ?_⟩
    rw [eqv_nil]
    cases he : l.isEmpty with
    | true =>
      refine iteT ?_
      have z := q _ s0
      unfold rowOk at z
      rw [he] at z
      exact z
    | false =>
      refine iteF ?_
      refine ⟨_, rfl, a, rfl, ⟨_, s0.seq ha⟩, fun D hD => lc_list (K := K) (a := a) (xs := l.map nV)
        (fun i H' => Same (upd H c0 (.lst [])) H' ∧ H' D = some (.lst (((l.take i).map fun f => decide (f < 6)).map V.bl))) ⟨same_upd hD, upd_same⟩ (fun i H' _ h => h.1.seq (s0.seq ha)) ?_ ?_⟩
      · intro i x H' hx h
        rw [nV_map] at hx
        obtain ⟨n, hn, rfl⟩ := Option.map_eq_some_iff.mp hx
        refine ⟨rfl, _, rfl, _, 6, rfl, rfl, _, h.2, small1000 (by rw [List.length_map, List.length_map, List.length_take]; omega), same_at h.1 hD, ?_⟩
        have e : decide ((n : Int) < 6) = decide (n < 6) := by
          rw [Bool.eq_iff_iff, decide_eq_true_eq, decide_eq_true_eq]
          omega
        rw [upd_same, take_next hn, List.map_append, List.map_append]
        show some (HO.lst (_ ++ [V.bl (decide ((n : Int) < 6))])) = _
        rw [e]
        rfl
      · intro H1 h
        rw [List.length_map, List.take_length] at h
        have s1 : Same H H1 := s0.trans h.1
        refine ⟨D, _, rfl, .inl (.inl h.2), _, rfl, ?_⟩
        have eall : (l.map fun f => decide (f < 6)).all id = l.all fun f => decide (f < 6) := by rw [List.all_map]; rfl
        rw [eall]
        cases hal : l.all fun f => decide (f < 6) with
        | false =>
          refine iteT ?_
          have z := q _ s1
          unfold rowOk at z
          rw [hal, Bool.and_false] at z
          exact z
        | true =>
          refine iteF ?_
          have hN := s1.seq ha
          rw [nV_ints] at hN
          refine ⟨_, rfl, a, _, rfl, hN, (by unfold Sy73.ints; rw [List.length_map]; omega), _, rfl, a, _, rfl, .inl (s1.seq ha), _, _, rfl, rfl, _, rfl, ?_⟩
          have lt := lenSet_lt (Sy73.ints l)
          rw [nodup_ints, ← distinct_iff] at lt
          have len1 : (Sy73.ints l).length = l.length := List.length_map ..
          have len2 : (l.map nV).length = l.length := List.length_map ..
          refine ite2 (fun hc => ?_) (fun hc => ?_)
          · have hc' := of_decide_eq_true hc
            have nd : Sy73.distinct l = false := by
              rw [Bool.eq_false_iff]
              refine lt.mp ?_
              rw [len2] at hc'
              omega
            have z := q _ s1
            unfold rowOk at z
            rw [nd, Bool.and_false, Bool.false_and] at z
            exact z
          · have nd : Sy73.distinct l = true := by
              cases hdd : Sy73.distinct l with
              | true => rfl
              | false =>
                refine absurd ?_ hc
                refine decide_eq_true ?_
                have := lt.mpr (by rw [hdd]; exact Bool.false_ne_true)
                rw [len2]
                omega
            -- the pairs
            refine ⟨_, rfl, _, rfl, 1, rfl, a, _, rfl, s1.seq ha, fun c nc => ?_⟩
            have s2 : Same H1 (upd H1 c (.lst (cutV (l.map nV) (some 1) none))) := same_upd nc
            rw [cut1] at s2 ⊢
            refine ⟨a, c, _, _, rfl, s2.seq (s1.seq ha), .inl (.inl upd_same), fun D2 hD2 => ?_⟩
            have sc2 : SqL K (upd H1 c (.lst ((l.map nV).drop 1))) c ((l.map nV).drop 1) := .inl (.inl upd_same)
            refine lc_it (walk_zip (K := K) (a := a) (b := c) (xs := l.map nV) (ys := (l.map nV).drop 1) (n := l.length - 1) (by rw [List.length_drop, List.length_map]; omega))
              (fun i H' => Same (upd H1 c (.lst ((l.map nV).drop 1))) H' ∧ H' D2 = some (.lst (((List.range i).map fun k => Sy73.beside (Sy73.nth l k) (Sy73.nth l (k + 1))).map V.bl))) ⟨same_upd hD2, upd_same⟩
              (fun i H' _ h => ⟨h.1.seq (s2.seq (s1.seq ha)), h.1.seq sc2⟩) ?_ ?_
            · rintro i v H' H2 hi h ⟨T, x, y, rfl, hT, rfl, hx, hy⟩
              replace hx : (l.map nV)[i]? = some x := hx
              replace hy : ((l.map nV).drop 1)[i]? = some y := hy
              rw [List.getElem?_drop, Nat.add_comm 1 i] at hy
              obtain rfl : nV (Sy73.nth l i) = x := Option.some.inj ((nth_at (by omega)).symm.trans hx)
              obtain rfl : nV (Sy73.nth l (i + 1)) = y := Option.some.inj ((nth_at (by omega)).symm.trans hy)
              have ne : D2 ≠ T := ne_of_none h.2 hT
              refine ⟨T, _, rfl, .inl (.inl upd_same), rfl, _, _, rfl, _, _, rfl, rfl, rfl, _, rfl, _, rfl, _, _, rfl, _, (upd_ne ne).trans h.2, small1000 (by rw [List.length_map, List.length_map, List.length_range]; omega), same_at (h.1.trans (same_upd hT)) hD2, ?_⟩
              rw [upd_same, range_snoc, List.map_append]
              rfl
            · intro H2 h2
              refine ⟨D2, _, rfl, .inl (.inl h2.2), ?_⟩
              have z := q H2 ((s1.trans s2).trans h2.1)
              unfold rowOk at z
              rw [he, hal, nd, linked_range] at z
              exact z
end
end Fly

/-! ## W7 -/
namespace Fly
open PySem PySem.Spec PyProof.Rows L2
open Sy73 (Flat)
/-- v is the tuple of a place, or a step -/
def fV (p : Flat) : List V := [.int p.x, .int p.y]
def IsPt (K : PySem.W.Frag) (H : Hp) (v : V) (p : Flat) : Prop := ∃ a, v = .ref a ∧ SqT K H a (fV p)
theorem IsPt.same {K : PySem.W.Frag} {H H' : Hp} (s : Same H H') (v : V) (p : Flat) (h : IsPt K H v p) : IsPt K H' v p :=
  let ⟨b, e, q⟩ := h
  ⟨b, e, Same.seqT s q⟩
def Small (n : Int) : Prop := -(2 ^ 64) < n ∧ n < 2 ^ 64
/-- a step is 1, 0 or -1 along each side -/
def Unit (s : Flat) : Prop := Small s.x ∧ Small s.y
theorem lk_here {k : Str} {v : V} {r : List (Str × V)} : List.lookup k ((k, v) :: r) = some v := by
  have e : (k == k) = true := beq_self_eq_true k
  simp only [List.lookup, e]
theorem lk_past {k g : Str} {v : V} {r : List (Str × V)} (h : (k == g) = false) : List.lookup k ((g, v) :: r) = List.lookup k r := by
  simp only [List.lookup, h]
theorem put_here {f : Str} {v x : V} {r : List (Str × V)} : putF f v ((f, x) :: r) = (f, v) :: r := if_pos rfl
theorem put_past {f g : Str} {v x : V} {r : List (Str × V)} (h : ¬ g = f) : putF f v ((g, x) :: r) = (g, x) :: putF f v r := if_neg h
section
variable {P : Program} {w : World} {K : PySem.W.Frag} {mg : Str → Option Value} {base : Heap}
theorem ptx {H : Hp} {v : V} {p : Flat} {Q : VK} (h : IsPt K H v p) (q : Q (.int p.x) H) : rIx K v (.int 0) H Q := by
  obtain ⟨a, rfl, h⟩ := h
  exact ix_of (i := 0) (.inr h) rfl q
theorem pty {H : Hp} {v : V} {p : Flat} {Q : VK} (h : IsPt K H v p) (q : Q (.int p.y) H) : rIx K v (.int 1) H Q := by
  obtain ⟨a, rfl, h⟩ := h
  exact ix_of (i := 1) (.inr h) rfl q
/-! ### moved -/
abbrev sMoved : Stmt := topS 18
theorem scMoved : FnScope ["place", "step", "many"] ["place", "step", "many"] (defScope sMoved) := ⟨rfl, rfl, rfl, by decide +kernel, rfl, by decide +kernel, by decide +kernel⟩
def spMoved (K : PySem.W.Frag) : Sp := fun vs H Q _ => ∃ (v1 v2 : V) (p s : Flat) (n : Int), vs = [v1, v2, .int n] ∧ IsPt K H v1 p ∧ IsPt K H v2 s ∧ Small n ∧ ∀ T, H T = none → Q (.ref T) (upd H T (.tup (fV (moved p s n))))
theorem ok_moved {f : Addr} {fd : FuncData} (D : Def K mg "moved" sMoved ["place", "step", "many"] f fd) : FnOk P w K mg base CX0 1 f fd ["place", "step", "many"] (spMoved K) := by
  refine D.fn.ok scMoved (fun vs H Q E h => ?_) (fun cdv A outer s H vs Q E hr h => ?_)
  · obtain ⟨_, _, _, _, _, rfl, _⟩ := h
    rfl
  · obtain ⟨v1, v2, p, s, n, rfl, h1, h2, hn, q⟩ := h
    refine ⟨_, pss_one (ps_ret (pe_tup (pa_cons (pe_op op_add (pe_ix ix_seq (pv 0) pe_int (fun _ _ => rfl)) (pe_op op_mul (pe_ix ix_seq (pv 1) pe_int (fun _ _ => rfl)) (pv 2)))
      (pa_cons (pe_op op_add (pe_ix ix_seq (pv 0) pe_int (fun _ _ => rfl)) (pe_op op_mul (pe_ix ix_seq (pv 1) pe_int (fun _ _ => rfl)) (pv 2))) pa_nil)))), ?_⟩
    exact ⟨_, rfl, ptx h1 ⟨_, rfl, ptx h2 ⟨_, rfl, _, _, rfl, rfl, .inr hn, _, _, rfl, rfl, _, rfl, pty h1 ⟨_, rfl, pty h2 ⟨_, rfl, _, _, rfl, rfl, .inr hn, _, _, rfl, rfl, (by decide : 2 ≤ sizeLine), q⟩⟩⟩⟩⟩
/-! ### turned -/
abbrev sTurned : Stmt := topS 19
theorem scTurned : FnScope ["step", "is_back"] ["step", "is_back"] (defScope sTurned) := ⟨rfl, rfl, rfl, by decide +kernel, rfl, by decide +kernel, by decide +kernel⟩
def spTurned (K : PySem.W.Frag) : Sp := fun vs H Q _ => ∃ (G : Hp) (v : V) (s : Flat) (b : Bool), vs = [v, .bl b] ∧ Same G H ∧ IsPt K G v s ∧ ∀ G' H' v', Grow G H G' H' → IsPt K G' v' (turned s b) → Q v' H'
theorem ok_turned {f : Addr} {fd : FuncData} (D : Def K mg "turned" sTurned ["step", "is_back"] f fd) : FnOk P w K mg base CX0 1 f fd ["step", "is_back"] (spTurned K) := by
  refine D.fn.ok scTurned (fun vs H Q E h => ?_) (fun cdv A outer s H vs Q E hr h => ?_)
  · obtain ⟨_, _, _, _, rfl, _⟩ := h
    rfl
  · obtain ⟨G, v, s, b, rfl, sG, h1, q⟩ := h
    refine ⟨_, pss_one (ps_ret (pe_ifExp (pt_val (pv 1)) (pe_tup (pa_cons (pe_op op_sub pe_int (pe_ix ix_seq (pv 0) pe_int (fun _ _ => rfl))) (pa_cons (pe_op op_sub pe_int (pe_ix ix_seq (pv 0) pe_int (fun _ _ => rfl))) pa_nil))) (pv 0))), ?_⟩
    have h2 : IsPt K H v s := IsPt.same sG v s h1
    refine ⟨_, rfl, b, rfl, ?_⟩
    cases b with
    | true => exact iteT ⟨_, rfl, ptx h2 ⟨_, _, rfl, rfl, _, rfl, pty h2 ⟨_, _, rfl, rfl, (by decide : 2 ≤ sizeLine), fun T hT => q _ _ _ (Grow.add sG hT) ⟨T, rfl, .inl (.inl upd_same)⟩⟩⟩⟩
    | false => exact iteF ⟨_, rfl, q _ _ _ (Grow.refl sG) h1⟩
/-! ### square_between -/
abbrev sSqB : Stmt := topS 20
theorem scSqB : FnScope ["one", "other", "x", "y"] ["one", "other"] (defScope sSqB) := ⟨rfl, rfl, rfl, by decide +kernel, rfl, by decide +kernel, by decide +kernel⟩
/-- a place near enough -/
def Bd (p : Flat) : Prop := (-(2 ^ 60) < p.x ∧ p.x < 2 ^ 60) ∧ (-(2 ^ 60) < p.y ∧ p.y < 2 ^ 60)
def spSqB (K : PySem.W.Frag) : Sp := fun vs H Q _ => ∃ (v1 v2 : V) (p s : Flat), vs = [v1, v2] ∧ IsPt K H v1 p ∧ IsPt K H v2 s ∧ Bd p ∧ Bd s ∧ Q (.int (sqBetween p s)) H
theorem ok_sqB {f : Addr} {fd : FuncData} (D : Def K mg "square_between" sSqB ["one", "other"] f fd) : FnOk P w K mg base CX0 1 f fd ["one", "other"] (spSqB K) := by
  refine D.fn.ok scSqB (fun vs H Q E h => ?_) (fun cdv A outer s H vs Q E hr h => ?_)
  · obtain ⟨_, _, _, _, rfl, _⟩ := h
    rfl
  · obtain ⟨v1, v2, p, s, rfl, h1, h2, b1, b2, q⟩ := h
    refine ⟨_, pss_cons (ps_par (i := 2) (j := 3) (by rfl) scSqB.nd rfl rfl (by decide) rfl rfl (pa_cons (pe_op op_sub (pe_ix ix_seq (pv 1) pe_int (fun _ _ => rfl)) (pe_ix ix_seq (pv 0) pe_int (fun _ _ => rfl)))
        (pa_cons (pe_op op_sub (pe_ix ix_seq (pv 1) pe_int (fun _ _ => rfl)) (pe_ix ix_seq (pv 0) pe_int (fun _ _ => rfl))) pa_nil)) (by rfl))
      (pss_one (ps_ret (pe_op op_add (pe_op op_mul (pv 2) (pv 2)) (pe_op op_mul (pv 3) (pv 3))))), ?_⟩
    obtain ⟨⟨a1, a2⟩, ⟨a3, a4⟩⟩ := b1
    obtain ⟨⟨c1, c2⟩, ⟨c3, c4⟩⟩ := b2
    have sx : Small (s.x - p.x) := by constructor <;> omega
    have sy : Small (s.y - p.y) := by constructor <;> omega
    refine ⟨_, rfl, ptx h2 ⟨_, rfl, ptx h1 ⟨_, _, rfl, rfl, _, rfl, pty h2 ⟨_, rfl, pty h1 ⟨_, _, rfl, rfl, _, _, rfl, ?_⟩⟩⟩⟩⟩
    exact ⟨_, rfl, _, rfl, _, _, rfl, rfl, .inl sx, _, rfl, _, rfl, _, _, rfl, rfl, .inl sy, _, _, rfl, rfl, q⟩
/-! ### the class Laid -/
abbrev sLaidInit : Stmt := inClass (topS 21) 0
abbrev sPlaceOf : Stmt := inClass (topS 21) 1
theorem scLaidInit : FnScope ["self", "origin", "steps"] ["self", "origin", "steps"] (defScope sLaidInit) := ⟨rfl, rfl, rfl, by decide +kernel, rfl, by decide +kernel, by decide +kernel⟩
def laidF (o s : V) : List (Str × V) := [("origin", o), ("steps", s)]
theorem laidF_o (o s : V) : (laidF o s).lookup ("origin" : Str) = some o := lk_here
theorem laidF_s (o s : V) : (laidF o s).lookup ("steps" : Str) = some s := (lk_past (by decide +kernel)).trans lk_here
theorem laidF_p (o s : V) : (laidF o s).lookup ("place_of" : Str) = none := (lk_past (by decide +kernel)).trans ((lk_past (by decide +kernel)).trans rfl)
theorem laidF_new (o s : V) : putF "steps" s (putF "origin" o []) = laidF o s := (put_past (by decide +kernel)).trans rfl
structure LaidC (K : PySem.W.Frag) (mg : Str → Option Value) (C fI : Addr) (fdI : FuncData) : Prop where
  cl : Cls K C
  nO : NoAttr K C "origin"
  nS : NoAttr K C "steps"
  g : mg "Laid" = some (.ref C)
  mkr : Mk K C fI
  fi : Fun K "__init__" "Laid.__init__" sLaidInit fI fdI
  bi : Binds K fdI ["self", "origin", "steps"] []
/-- __init__: the fields are those handed in -/
def spInit (C : Addr) (n : Nat) (F : List V → List (Str × V)) : Sp := fun vs H Q _ => ∃ (p dx : Addr) (ws : List V), vs = .ref p :: ws ∧ ws.length = n ∧ H p = some (.ins C dx []) ∧
  ∀ H' : Hp, H' p = some (.ins C dx (F ws)) → (∀ b u, H b = some u → b ≠ p → H' b = some u) → Q .non H'
def laidW : List V → List (Str × V) := fun ws => laidF (ws.getD 0 .non) (ws.getD 1 .non)
theorem ok_laidInit {C fI : Addr} {fdI : FuncData} (T : LaidC K mg C fI fdI) : FnOk P w K mg base CX0 1 fI fdI ["self", "origin", "steps"] (spInit C 2 laidW) := by
  refine T.fi.ok scLaidInit (fun vs H Q E h => ?_) (fun cdv A outer s H vs Q E hr h => ?_)
  · obtain ⟨_, _, ws, rfl, hl, _⟩ := h
    rw [List.length_cons, hl] <;> rfl
  · obtain ⟨p, dx, ws, rfl, hl, hp, q⟩ := h
    obtain ⟨o, sv, rfl⟩ : ∃ a b, ws = [a, b] := match ws, hl with | [a, b], _ => ⟨a, b, rfl⟩
    refine ⟨_, pss_cons (ps_fld (pv 0) (pv 1) rfl) (pss_one (ps_fld (pv 0) (pv 2) rfl)), ?_⟩
    refine ⟨_, rfl, _, rfl, p, C, dx, [], rfl, hp, T.cl, T.nO, (by show 0 < 1000; decide), ?_⟩
    refine ⟨_, rfl, _, rfl, p, C, dx, _, rfl, upd_same, T.cl, T.nS, (by show 1 < 1000; decide), ?_⟩
    exact q _ (upd_same.trans (congrArg (fun z => some (HO.ins C dx z)) (laidF_new o sv))) fun b u e hb => by
      rw [upd_ne hb, upd_ne hb]
      exact e
/-- a laid face -/
def IsLaid (K : PySem.W.Frag) (C : Addr) (H : Hp) (v : V) (l : ML) : Prop := ∃ (a dx s : Addr) (o : V) (sl : List V), v = .ref a ∧ H a = some (.ins C dx (laidF o (.ref s))) ∧ IsPt K H o l.origin ∧ SqL K H s sl ∧ Paired (IsPt K H) sl l.steps
theorem IsLaid.same {C : Addr} {H H' : Hp} (s : Same H H') (v : V) (l : ML) (h : IsLaid K C H v l) : IsLaid K C H' v l :=
  let ⟨a, dx, t, o, sl, e, h1, h2, h3, h4⟩ := h
  ⟨a, dx, t, o, sl, e, s _ _ h1, IsPt.same s _ _ h2, s.seq h3, Paired.mapP h4 (IsPt.same s)⟩
/-- Laid(o, s): made, for good -/
theorem made_laid {C : Addr} {G H1 H2 : Hp} {x dx s : Addr} {o : V} {sl : List V} {l : ML} (sG : Same G H1) (nx : H1 x = none) (nd : H1 dx = none) (e : H2 x = some (.ins C dx (laidF o (.ref s))))
    (k : ∀ b u, (upd (upd H1 dx (.own x)) x (.ins C dx [])) b = some u → b ≠ x → H2 b = some u) (h1 : IsPt K G o l.origin) (h2 : SqL K G s sl) (h3 : Paired (IsPt K G) sl l.steps) :
    Grow G H1 (upd G x (.ins C dx (laidF o (.ref s)))) H2 ∧ IsLaid K C (upd G x (.ins C dx (laidF o (.ref s)))) (.ref x) l := by
  have s12 : Same H1 H2 := Same.made nx nd k
  have sx : Same G (upd G x (.ins C dx (laidF o (.ref s)))) := same_upd (sG.free nx)
  exact ⟨(Grow.tmp sG s12).keep nx e, x, dx, s, o, sl, rfl, upd_same, IsPt.same sx _ _ h1, sx.seq h2, Paired.mapP h3 (IsPt.same sx)⟩
/-! ### place_of -/
theorem scPlaceOf : FnScope ["self", "point", "found", "axis"] ["self", "point"] (defScope sPlaceOf) := ⟨rfl, rfl, rfl, by decide +kernel, rfl, by decide +kernel, by decide +kernel⟩
structure MDef (K : PySem.W.Frag) (C : Addr) (m q : Str) (st : Stmt) (ps : List Str) (f : Addr) (fd : FuncData) : Prop where
  fn : Fun K m q st f fd
  bi : Binds K fd ps []
  m : Meth K C m f
def spPlaceOf (K : PySem.W.Frag) (C : Addr) : Sp := fun vs H Q _ => ∃ (G : Hp) (v : V) (b : Addr) (l : ML) (p : List Nat), vs = [v, .ref b] ∧ Same G H ∧ IsLaid K C G v l ∧ l.steps.length = 3 ∧ SqA K G b (p.map nV) ∧ p.length = 3 ∧ (∀ k, k < 3 → Sy73.nth p k ≤ 40) ∧
  ∀ G' H' v', Grow G H G' H' → IsPt K G' v' (placeOf l p) → Q v' H'
def placeTo (l : ML) (p : List Nat) (i : Nat) : Flat := (List.range i).foldl (fun s k => moved s (stepOf l k) (Sy73.nth p k)) l.origin
theorem placeTo_next (l : ML) (p : List Nat) (i : Nat) : placeTo l p (i + 1) = moved (placeTo l p i) (stepOf l i) (Sy73.nth p i) := by
  unfold placeTo
  rw [List.range_succ, List.foldl_append]
  rfl
theorem step_at {H : Hp} {sl : List V} {l : ML} {i : Nat} (h : Paired (IsPt K H) sl l.steps) (hi : i < l.steps.length) : ∃ v, sl[i]? = some v ∧ IsPt K H v (stepOf l i) := by
  obtain ⟨v, h1, h2⟩ := paired_get' h (List.getElem?_eq_getElem hi)
  refine ⟨v, h1, ?_⟩
  unfold stepOf
  rw [List.getD_eq_getElem?_getD, List.getElem?_eq_getElem hi]
  exact h2
theorem ok_placeOf {C fI f fM : Addr} {fdI fd fdM : FuncData} {t : Tok} (T : LaidC K mg C fI fdI) (D : MDef K C "place_of" "Laid.place_of" sPlaceOf ["self", "point"] f fd) (DM : Def K mg "moved" sMoved ["place", "step", "many"] fM fdM)
    (mR : mg "range" = none) (gA : mg "AXES" = some (.int 3 t)) : FnOk P w K mg base CX0 2 f fd ["self", "point"] (spPlaceOf K C) := by
  refine D.fn.ok scPlaceOf (fun vs H Q E h => ?_) (fun cdv A outer s H vs Q E hr h => ?_)
  · obtain ⟨_, _, _, _, _, rfl, _⟩ := h
    rfl
  · obtain ⟨G, v, b, l, p, rfl, sG, hL, h3, hb, hpl, h40, q⟩ := h
    have GM : FnOk P w K mg base CX0 1 fM fdM ["place", "step", "many"] (spMoved K) := ok_moved DM
    refine ⟨_, pss_cons (ps_set (i := 2) scPlaceOf.nd rfl (.inl rfl) (pe_fld (pv 0) rfl))
      (pss_cons (ps_for PassesOwn.never rfl (pi_range1 (by rfl) mR (pa_cons (pe_glob (v := .int 3) rfl gA ⟨_, rfl⟩) pa_nil)) (pg_name (i := 3) scPlaceOf.nd rfl (.inl rfl))
        (pss_one (ps_set (i := 2) scPlaceOf.nd rfl (.inl rfl) (pe_call GM hr rfl DM.g DM.fn.kp DM.bi .nil pass0 (pa_cons (pv 2) (pa_cons (pe_ix ix_seq (pe_fld (pv 0) rfl) (pv 3) (fun _ _ => rfl)) (pa_cons (pe_ix ix_seq (pv 1) (pv 3) (fun _ _ => rfl)) pa_nil)))))))
      (pss_one (ps_ret (pv 2)))), ?_⟩
    obtain ⟨a, dx, st, o, sl, rfl, ha, ho, hs, hsl⟩ := hL
    refine ⟨_, rfl, a, C, dx, _, _, rfl, sG _ _ ha, T.cl, T.nO, laidF_o o _, ?_⟩
    refine ⟨3, rfl, by decide, by decide, for_range (lo := 0) (n := 3) (fun i σ H' => ∃ v3 y4 G', σ = [some (.ref a), some (.ref b), some v3, y4] ∧ Grow G H G' H' ∧ IsPt K G' v3 (placeTo l p i))
      ⟨o, none, G, rfl, Grow.refl sG, ho⟩ ?_ ?_⟩
    · rintro i σ H' hi ⟨v3, y4, G', rfl, g, h⟩
      rw [Int.zero_add]
      have gh := g.gg.trans g.gh
      obtain ⟨sv, e1, e2⟩ := step_at hsl (show i < l.steps.length by omega)
      refine ⟨_, rfl, _, rfl, a, C, dx, _, _, rfl, gh _ _ ha, T.cl, T.nS, laidF_s o _, _, rfl, ix_of (.inl (gh.seq hs)) e1 ⟨_, rfl, _, rfl, ix_of (Same.seqA gh hb) (nth_at (by omega)) ?_⟩⟩
      have hk := h40 i hi
      refine ⟨v3, sv, placeTo l p i, stepOf l i, _, rfl, IsPt.same g.gh _ _ h, IsPt.same gh _ _ e2, ⟨by omega, by omega⟩, fun T hT => ?_⟩
      refine ⟨_, some (nV i), _, rfl, g.trans (Grow.add g.gh hT), T, rfl, .inl (.inl ?_)⟩
      rw [upd_same, placeTo_next]
    · rintro σ H' ⟨v3, y4, G', rfl, g, h⟩
      exact ⟨_, rfl, q G' H' v3 g h⟩
end
end Fly

/-! ## W8 -/
namespace Fly
open PySem PySem.Spec PyProof.Rows L2
open Sy73 (Flat)
theorem firstLaid_is (box : Sy73.Three) {f : Nat} (h : f < 6) : firstLaid f = toML (Sy73.first box f) := by
  refine cases6 (P := fun f => firstLaid f = toML (Sy73.first box f)) h ?_ ?_ ?_ ?_ ?_ ?_ <;>
    simp [firstLaid, toML, Sy73.first, Sy73.image, Sy73.axis, Sy73.plus, Sy73.scaled, Sy73.nth, Sy73.wayOf, List.range, List.range.loop, List.insertIdx]
theorem ixN_nat {n k : Nat} (h : k < n) : ixN n (k : Int) = some k := by
  unfold ixN
  rw [if_pos (by omega), if_pos (by omega)]
  rfl
theorem paired_set {α β : Type} {F : α → β → Prop} {x : α} {y : β} (h : F x y) : ∀ {l : List α} {m : List β} (i : Nat), Paired F l m → Paired F (l.set i x) (m.set i y)
  | _, _, _, .nil => .nil
  | _, _, 0, .cons _ t => .cons h t
  | _, _, i + 1, .cons r t => .cons r (paired_set h i t)
/-- the written steps -/
structure Consts (K : PySem.W.Frag) (mg : Str → Option Value) (aS aR aU : Addr) : Prop where
  gS : mg "STAY" = some (.ref aS)
  gR : mg "RIGHT" = some (.ref aR)
  gU : mg "UP" = some (.ref aU)
  tS : ∀ H, SqT K H aS (fV ⟨0, 0⟩)
  tR : ∀ H, SqT K H aR (fV ⟨1, 0⟩)
  tU : ∀ H, SqT K H aU (fV ⟨0, 1⟩)
/-- an edge: two places -/
def IsEdge (K : PySem.W.Frag) (H : Hp) (v : V) (e : Flat × Flat) : Prop := ∃ (a : Addr) (v1 v2 : V), v = .ref a ∧ SqT K H a [v1, v2] ∧ IsPt K H v1 e.1 ∧ IsPt K H v2 e.2
theorem IsEdge.same {K : PySem.W.Frag} {H H' : Hp} (s : Same H H') (v : V) (e : Flat × Flat) (h : IsEdge K H v e) : IsEdge K H' v e :=
  let ⟨a, v1, v2, q, h1, h2, h3⟩ := h
  ⟨a, v1, v2, q, Same.seqT s h1, IsPt.same s _ _ h2, IsPt.same s _ _ h3⟩
section
variable {P : Program} {w : World} {K : PySem.W.Frag} {mg : Str → Option Value} {base : Heap}
/-! ### first_laid -/
abbrev sFirst : Stmt := topS 22
theorem scFirst : FnScope ["face", "steps"] ["face"] (defScope sFirst) := ⟨rfl, rfl, rfl, by decide +kernel, rfl, by decide +kernel, by decide +kernel⟩
def spFirst (K : PySem.W.Frag) (C : Addr) : Sp := fun vs H Q _ => ∃ (G : Hp) (f : Nat), vs = [nV f] ∧ f < 6 ∧ Same G H ∧ ∀ G' H' v, Grow G H G' H' → IsLaid K C G' v (firstLaid f) → Q v H'
theorem ok_first {C fI f fA : Addr} {fdI fd fdA : FuncData} {aS aR aU : Addr} (T : LaidC K mg C fI fdI) (D : Def K mg "first_laid" sFirst ["face"] f fd) (DA : Def K mg "axis_of" sAxis ["face"] fA fdA) (U : Consts K mg aS aR aU) :
    FnOk P w K mg base CX0 3 f fd ["face"] (spFirst K C) := by
  refine D.fn.ok scFirst (fun vs H Q E h => ?_) (fun cdv A outer s H vs Q E hr h => ?_)
  · obtain ⟨_, _, rfl, _⟩ := h
    rfl
  · obtain ⟨G, n, rfl, hn, sG, q⟩ := h
    have GA : FnOk P w K mg base CX0 1 fA fdA ["face"] spAxis := ok_axis DA
    have GI : FnOk P w K mg base CX0 1 fI fdI ["self", "origin", "steps"] (spInit C 2 laidW) := ok_laidInit T
    refine ⟨_, pss_cons (ps_set (i := 1) scFirst.nd rfl (.inl rfl) (pe_lst (pa_cons (pe_glob (v := .ref aR) rfl U.gR rfl) (pa_cons (pe_glob (v := .ref aU) rfl U.gU rfl) pa_nil))))
      (pss_cons (ps_expr (pe_bm PySem.F.plainAttrs_list PySem.F.slot_list_insert PySem.F.type_list_insert mt_insert (pv 1) (pa_cons (pe_call GA (hr.mono (by decide)) rfl DA.g DA.fn.kp DA.bi .nil pass0 (pa_cons (pv 0) pa_nil)) (pa_cons (pe_glob (v := .ref aS) rfl U.gS rfl) pa_nil))))
      (pss_one (ps_ret (pe_make T.mkr GI hr rfl T.g T.bi .nil pass0 (pa_cons (pe_tup (pa_cons pe_int (pa_cons pe_int pa_nil))) (pa_cons (pv 1) pa_nil)))))), ?_⟩
    refine ⟨(by decide : 2 ≤ sizeLine), fun S hS => ?_⟩
    have hax := axis_lt hn
    refine ⟨_, rfl, .inl ⟨rfl, _, .inl (.inl upd_same)⟩, _, rfl, n, rfl, S, _, (Sy73.axis n : Nat), _, rfl, rfl, upd_same, (by decide : 2 < sizeLine), by omega, by omega, ?_⟩
    rw [show upd (upd H S (.lst [V.ref aR, V.ref aU])) S _ = upd H S _ from upd_upd]
    refine ⟨(by decide : 2 ≤ sizeLine), fun T1 hT1 => ⟨_, rfl, fun x dx nx nd ne => ?_⟩⟩
    refine ⟨x, dx, [.ref T1, .ref S], rfl, rfl, upd_same, fun H2 e k => ⟨rfl, ?_⟩⟩
    have g1 : Grow G H (upd G S (.lst (([V.ref aR, V.ref aU] : List V).take (Sy73.axis n : Int).toNat ++ [V.ref aS] ++ ([V.ref aR, V.ref aU] : List V).drop (Sy73.axis n : Int).toNat))) _ := Grow.add sG hS
    have g2 := g1.trans (Grow.add (o := .tup (fV ⟨0, 0⟩)) g1.gh hT1)
    have neST : S ≠ T1 := ne_of_none upd_same hT1
    have h3 : ∀ G, Paired (IsPt K G) (([V.ref aR, V.ref aU] : List V).take (Sy73.axis n : Int).toNat ++ [V.ref aS] ++ ([V.ref aR, V.ref aU] : List V).drop (Sy73.axis n : Int).toNat) (firstLaid n).steps := by
      intro G
      have pS : IsPt K G (.ref aS) ⟨0, 0⟩ := ⟨aS, rfl, U.tS G⟩
      have pR : IsPt K G (.ref aR) ⟨1, 0⟩ := ⟨aR, rfl, U.tR G⟩
      have pU : IsPt K G (.ref aU) ⟨0, 1⟩ := ⟨aU, rfl, U.tU G⟩
      have ea : Sy73.axis n = 0 ∨ Sy73.axis n = 1 ∨ Sy73.axis n = 2 := by omega
      unfold firstLaid
      dsimp only
      rcases ea with z | z | z <;> rw [z]
      · exact .cons pS (.cons pR (.cons pU .nil))
      · exact .cons pR (.cons pS (.cons pU .nil))
      · exact .cons pR (.cons pU (.cons pS .nil))
    obtain ⟨gm, hm⟩ := made_laid (K := K) (l := firstLaid n) (o := .ref T1) (s := S) g2.gh nx nd e k ⟨T1, rfl, .inl (.inl upd_same)⟩ (.inl (.inl ((upd_ne neST).trans upd_same))) (h3 _)
    exact q _ _ _ (g2.trans gm) hm
/-! ### edge_of -/
abbrev sEdge : Stmt := topS 23
theorem scEdge : FnScope ["lengths", "laid", "face", "other", "axis", "along", "begin"] ["lengths", "laid", "face", "other"] (defScope sEdge) := ⟨rfl, rfl, rfl, by decide +kernel, rfl, by decide +kernel, by decide +kernel⟩
/-- a box's lengths, a laid face, two faces beside each other -/
structure BxL (K : PySem.W.Frag) (C : Addr) (G H : Hp) (a : Addr) (v : V) (box : List Nat) (l : ML) (f g : Nat) : Prop where
  sG : Same G H
  ha : SqL K G a (box.map nV)
  b3 : box.length = 3
  b40 : ∀ k, k < 3 → Sy73.nth box k ≤ 40
  hl : IsLaid K C G v l
  l3 : l.steps.length = 3
  f6 : f < 6
  g6 : g < 6
  be : Sy73.axis f ≠ Sy73.axis g
def spEdge (K : PySem.W.Frag) (C : Addr) : Sp := fun vs H Q _ => ∃ (G : Hp) (a : Addr) (v : V) (box : List Nat) (l : ML) (f g : Nat), vs = [.ref a, v, nV f, nV g] ∧ BxL K C G H a v box l f g ∧
  ∀ G' H' v', Grow G H G' H' → IsEdge K G' v' (edgeOf box l f g) → Q v' H'
theorem b2n_of (b : Bool) : (if b then 1 else 0 : Int) = b2n b := by cases b <;> rfl
theorem small_b2n (n : Nat) (h : n ≤ 40) (b : Bool) : Small ((n : Int) * b2n b) := by
  cases b
  · rw [show b2n false = 0 from rfl, Int.mul_zero]; exact ⟨by decide, by decide⟩
  · rw [show b2n true = 1 from rfl, Int.mul_one]; exact ⟨by omega, by omega⟩
theorem ok_edge {C fI f fA fF fT fM : Addr} {fdI fd fdA fdF fdT fdM : FuncData} {t : Tok} (T : LaidC K mg C fI fdI) (D : Def K mg "edge_of" sEdge ["lengths", "laid", "face", "other"] f fd) (DA : Def K mg "axis_of" sAxis ["face"] fA fdA)
    (DF : Def K mg "is_far" sFar ["face"] fF fdF) (DT : Def K mg "third_axis" sThird ["one", "other"] fT fdT) (DM : Def K mg "moved" sMoved ["place", "step", "many"] fM fdM) (gA : mg "AXES" = some (.int 3 t)) (mI : mg "int" = none) :
    FnOk P w K mg base CX0 2 f fd ["lengths", "laid", "face", "other"] (spEdge K C) := by
  refine D.fn.ok scEdge (fun vs H Q E h => ?_) (fun cdv A outer s H vs Q E hr h => ?_)
  · obtain ⟨_, _, _, _, _, _, _, rfl, _⟩ := h
    rfl
  · obtain ⟨G, a, v, box, l, n, m, rfl, B, q⟩ := h
    have GA : FnOk P w K mg base CX0 1 fA fdA ["face"] spAxis := ok_axis DA
    have GF : FnOk P w K mg base CX0 1 fF fdF ["face"] spFar := ok_far DF
    have GT : FnOk P w K mg base CX0 1 fT fdT ["one", "other"] spThird := ok_third DT gA
    have GM : FnOk P w K mg base CX0 1 fM fdM ["place", "step", "many"] (spMoved K) := ok_moved DM
    refine ⟨_, pss_cons (ps_set (i := 4) scEdge.nd rfl (.inl rfl) (pe_call GA hr rfl DA.g DA.fn.kp DA.bi .nil pass0 (pa_cons (pv 3) pa_nil)))
      (pss_cons (ps_set (i := 5) scEdge.nd rfl (.inl rfl) (pe_call GT hr rfl DT.g DT.fn.kp DT.bi .nil pass0 (pa_cons (pe_call GA hr rfl DA.g DA.fn.kp DA.bi .nil pass0 (pa_cons (pv 2) pa_nil)) (pa_cons (pv 4) pa_nil))))
      (pss_cons (ps_set (i := 6) scEdge.nd rfl (.inl rfl) (pe_call GM hr rfl DM.g DM.fn.kp DM.bi .nil pass0 (pa_cons (pe_fld (pv 1) rfl) (pa_cons (pe_ix ix_seq (pe_fld (pv 1) rfl) (pv 4) (fun _ _ => rfl))
          (pa_cons (pe_op op_mul (pe_ix ix_seq (pv 0) (pv 4) (fun _ _ => rfl)) (pe_callTy call_int1 (by rfl) mI PyProof.Rows.boot_int (pa_cons (pe_call GF hr rfl DF.g DF.fn.kp DF.bi .nil pass0 (pa_cons (pv 3) pa_nil)) pa_nil))) pa_nil)))))
      (pss_one (ps_ret (pe_tup (pa_cons (pv 6) (pa_cons (pe_call GM hr rfl DM.g DM.fn.kp DM.bi .nil pass0 (pa_cons (pv 6) (pa_cons (pe_ix ix_seq (pe_fld (pv 1) rfl) (pv 5) (fun _ _ => rfl)) (pa_cons (pe_ix ix_seq (pv 0) (pv 5) (fun _ _ => rfl)) pa_nil)))) pa_nil))))))), ?_⟩
    have f3 := axis_lt B.f6
    have g3 := axis_lt B.g6
    have be := B.be
    have k3 : 3 - Sy73.axis n - Sy73.axis m < 3 := by omega
    have sG := B.sG
    obtain ⟨p, dx, st, o, sl, rfl, hp, ho, hs, hsl⟩ := B.hl
    obtain ⟨w1, e1, p1⟩ := step_at hsl (show Sy73.axis m < l.steps.length by rw [B.l3]; exact g3)
    obtain ⟨w2, e2, p2⟩ := step_at hsl (show 3 - Sy73.axis n - Sy73.axis m < l.steps.length by rw [B.l3]; exact k3)
    refine ⟨_, rfl, m, rfl, _, rfl, n, rfl, _, rfl, Sy73.axis n, Sy73.axis m, rfl, by omega, ?_⟩
    refine ⟨_, rfl, p, C, dx, _, _, rfl, sG _ _ hp, T.cl, T.nO, laidF_o o _, _, rfl, p, C, dx, _, _, rfl, sG _ _ hp, T.cl, T.nS, laidF_s o _, _, rfl, ix_of (.inl (sG.seq hs)) e1 ?_⟩
    have n40 := B.b40 _ g3
    refine ⟨_, rfl, _, rfl, ix_of (.inl (sG.seq B.ha)) (nth_at (by rw [B.b3]; exact g3)) ⟨_, rfl, m, rfl, .inr ⟨_, rfl, _, _, rfl, rfl, .inl ⟨by omega, by omega⟩, ?_⟩⟩⟩
    rw [b2n_of]
    refine ⟨_, _, l.origin, stepOf l (Sy73.axis m), _, rfl, IsPt.same sG _ _ ho, IsPt.same sG _ _ p1, small_b2n _ n40 _, fun T1 hT1 => ?_⟩
    have g1 := Grow.add (o := .tup (fV (moved l.origin (stepOf l (Sy73.axis m)) ((Sy73.nth box (Sy73.axis m) : Int) * b2n (Sy73.atFar m))))) sG hT1
    have gh := g1.gg.trans g1.gh
    have pT1 : IsPt K _ (.ref T1) (moved l.origin (stepOf l (Sy73.axis m)) ((Sy73.nth box (Sy73.axis m) : Int) * b2n (Sy73.atFar m))) := ⟨T1, rfl, .inl (.inl (upd_same (H := G)))⟩
    refine ⟨_, rfl, _, rfl, _, rfl, p, C, dx, _, _, rfl, gh _ _ hp, T.cl, T.nS, laidF_s o _, _, rfl, ix_of (.inl (gh.seq hs)) e2 ⟨_, rfl, _, rfl, ix_of (.inl (gh.seq B.ha)) (nth_at (by rw [B.b3]; exact k3)) ?_⟩⟩
    have m40 := B.b40 _ k3
    refine ⟨_, _, _, stepOf l (3 - Sy73.axis n - Sy73.axis m), _, rfl, IsPt.same g1.gh _ _ pT1, IsPt.same gh _ _ p2, ⟨by omega, by omega⟩, fun T2 hT2 => ⟨(by decide : 2 ≤ sizeLine), fun T3 hT3 => ?_⟩⟩
    have g2 := g1.trans (Grow.add (o := .tup (fV (edgeOf box l n m).2)) g1.gh hT2)
    have g3' := g2.trans (Grow.add (o := .tup [.ref T1, .ref T2]) g2.gh hT3)
    refine q _ _ _ g3' ⟨T3, .ref T1, .ref T2, rfl, .inl (.inl upd_same), ?_, ?_⟩
    · exact IsPt.same ((same_upd (g1.gh.free hT2)).trans (same_upd (g2.gh.free hT3))) _ _ pT1
    · exact IsPt.same (same_upd (g2.gh.free hT3)) _ _ ⟨T2, rfl, .inl (.inl upd_same)⟩
end
end Fly

/-! ## W9 -/
namespace Fly
open PySem PySem.Spec PyProof.Rows L2
open Sy73 (Flat)
section
variable {P : Program} {w : World} {K : PySem.W.Frag} {mg : Str → Option Value} {base : Heap}
/-! ### next_laid -/
abbrev sNext : Stmt := topS 24
theorem scNext : FnScope ["lengths", "laid", "face", "other", "own", "axis", "out", "begin", "steps"] ["lengths", "laid", "face", "other"] (defScope sNext) := ⟨rfl, rfl, rfl, by decide +kernel, rfl, by decide +kernel, by decide +kernel⟩
def spNext (K : PySem.W.Frag) (C : Addr) : Sp := fun vs H Q _ => ∃ (G : Hp) (a : Addr) (v : V) (box : List Nat) (l : ML) (f g : Nat), vs = [.ref a, v, nV f, nV g] ∧ BxL K C G H a v box l f g ∧
  ∀ G' H' v', Grow G H G' H' → IsLaid K C G' v' (nextLaid box l f g) → Q v' H'
theorem ok_next {C fI f fA fF fM fE fR : Addr} {fdI fd fdA fdF fdM fdE fdR : FuncData} {aS aR aU : Addr} (T : LaidC K mg C fI fdI) (D : Def K mg "next_laid" sNext ["lengths", "laid", "face", "other"] f fd) (DA : Def K mg "axis_of" sAxis ["face"] fA fdA)
    (DF : Def K mg "is_far" sFar ["face"] fF fdF) (DM : Def K mg "moved" sMoved ["place", "step", "many"] fM fdM) (DE : Def K mg "edge_of" sEdge ["lengths", "laid", "face", "other"] fE fdE) (GE : FnOk P w K mg base CX0 2 fE fdE ["lengths", "laid", "face", "other"] (spEdge K C))
    (DR : Def K mg "turned" sTurned ["step", "is_back"] fR fdR) (U : Consts K mg aS aR aU) (mI : mg "int" = none) (mL : mg "list" = none) :
    FnOk P w K mg base CX0 3 f fd ["lengths", "laid", "face", "other"] (spNext K C) := by
  refine D.fn.ok scNext (fun vs H Q E h => ?_) (fun cdv A outer s H vs Q E hr h => ?_)
  · obtain ⟨_, _, _, _, _, _, _, rfl, _⟩ := h
    rfl
  · obtain ⟨G, a, v, box, l, n, m, rfl, B, q⟩ := h
    have hr1 : Room 1 _ := hr.mono (by decide)
    have GA : FnOk P w K mg base CX0 1 fA fdA ["face"] spAxis := ok_axis DA
    have GF : FnOk P w K mg base CX0 1 fF fdF ["face"] spFar := ok_far DF
    have GM : FnOk P w K mg base CX0 1 fM fdM ["place", "step", "many"] (spMoved K) := ok_moved DM
    have GR : FnOk P w K mg base CX0 1 fR fdR ["step", "is_back"] (spTurned K) := ok_turned DR
    have GI : FnOk P w K mg base CX0 1 fI fdI ["self", "origin", "steps"] (spInit C 2 laidW) := ok_laidInit T
    refine ⟨_, pss_cons (ps_set (i := 4) scNext.nd rfl (.inl rfl) (pe_call GA hr1 rfl DA.g DA.fn.kp DA.bi .nil pass0 (pa_cons (pv 2) pa_nil)))
      (pss_cons (ps_set (i := 5) scNext.nd rfl (.inl rfl) (pe_call GA hr1 rfl DA.g DA.fn.kp DA.bi .nil pass0 (pa_cons (pv 3) pa_nil)))
      (pss_cons (ps_set (i := 6) scNext.nd rfl (.inl rfl) (pe_call GR hr1 rfl DR.g DR.fn.kp DR.bi .nil pass0 (pa_cons (pe_ix ix_seq (pe_fld (pv 1) rfl) (pv 5) (fun _ _ => rfl)) (pa_cons (pe_not (pe_call GF hr1 rfl DF.g DF.fn.kp DF.bi .nil pass0 (pa_cons (pv 3) pa_nil))) pa_nil))))
      (pss_cons (ps_set (i := 7) scNext.nd rfl (.inl rfl) (pe_ix ix_seq (pe_call GE hr rfl DE.g DE.fn.kp DE.bi .nil pass0 (pa_cons (pv 0) (pa_cons (pv 1) (pa_cons (pv 2) (pa_cons (pv 3) pa_nil))))) pe_int (fun _ _ => rfl)))
      (pss_cons (ps_set (i := 8) scNext.nd rfl (.inl rfl) (pe_callTy call_list_of (by rfl) mL PyProof.Rows.boot_list (pa_cons (pe_fld (pv 1) rfl) pa_nil)))
      (pss_cons (ps_asg (pe_glob (v := .ref aS) rfl U.gS rfl) (pg_sub (pv 8) (pv 5) set_list))
      (pss_cons (ps_asg (pe_call GR hr1 rfl DR.g DR.fn.kp DR.bi .nil pass0 (pa_cons (pv 6) (pa_cons (pe_call GF hr1 rfl DF.g DF.fn.kp DF.bi .nil pass0 (pa_cons (pv 2) pa_nil)) pa_nil))) (pg_sub (pv 8) (pv 4) set_list))
      (pss_one (ps_ret (pe_make T.mkr GI hr rfl T.g T.bi .nil pass0 (pa_cons (pe_call GM hr1 rfl DM.g DM.fn.kp DM.bi .nil pass0 (pa_cons (pv 7) (pa_cons (pv 6)
        (pa_cons (pe_op op_mul (pe_ix ix_seq (pv 0) (pv 4) (fun _ _ => rfl)) (pe_callTy call_int1 (by rfl) mI PyProof.Rows.boot_int (pa_cons (pe_call GF hr1 rfl DF.g DF.fn.kp DF.bi .nil pass0 (pa_cons (pv 2) pa_nil)) pa_nil))) pa_nil)))) (pa_cons (pv 8) pa_nil))))))))))), ?_⟩
    have f3 := axis_lt B.f6
    have g3 := axis_lt B.g6
    have be := B.be
    have sG := B.sG
    obtain ⟨p, dx, st, o, sl, rfl, hp, ho, hs, hsl⟩ := B.hl
    have hlen : sl.length = 3 := (paired_len hsl).trans B.l3
    obtain ⟨w1, e1, p1⟩ := step_at hsl (show Sy73.axis m < l.steps.length by rw [B.l3]; exact g3)
    -- own, axis, out
    refine ⟨_, rfl, n, rfl, _, rfl, m, rfl, _, rfl, p, C, dx, _, _, rfl, sG _ _ hp, T.cl, T.nS, laidF_s o _, _, rfl, ix_of (.inl (sG.seq hs)) e1 ⟨_, rfl, m, rfl, _, rfl, ?_⟩⟩
    refine ⟨G, w1, stepOf l (Sy73.axis m), _, rfl, sG, p1, fun G1 H1 vo g1 po => ?_⟩
    -- begin
    refine ⟨_, rfl, _, rfl, _, rfl, _, rfl, G1, a, .ref p, box, l, n, m, rfl, ⟨g1.gh, g1.gg.seq B.ha, B.b3, B.b40, IsLaid.same g1.gg _ _ ⟨p, dx, st, o, sl, rfl, hp, ho, hs, hsl⟩, B.l3, B.f6, B.g6, B.be⟩, fun G2 H2 ve g2 pe => ?_⟩
    obtain ⟨ae, vb, vb2, rfl, te, pb, _⟩ := pe
    refine ix_of (i := 0) (.inr (Same.seqT g2.gh te)) (v := vb) rfl ?_
    have g12 := g1.trans g2
    have gh2 := g12.gg.trans g2.gh
    -- steps = list(laid.steps)
    refine ⟨_, rfl, p, C, dx, _, _, rfl, gh2 _ _ hp, T.cl, T.nS, laidF_s o _, st, sl, rfl, .inl (gh2.seq hs), fun S hS => ?_⟩
    have hS0 : H S = none := g12.hh.free hS
    have g3' : Grow G H G2 (upd H2 S (.lst sl)) := g12.trans (Grow.tmp g2.gh (same_upd hS))
    -- steps[axis] = STAY
    refine ⟨_, rfl, _, rfl, S, sl, _, Sy73.axis m, rfl, rfl, upd_same, ixN_nat (by rw [hlen]; exact g3), ?_⟩
    have g4 : Grow G H G2 (upd (upd H2 S (.lst sl)) S (.lst (sl.set (Sy73.axis m) (.ref aS)))) := g3'.mut hS0 (g2.gh.free hS)
    -- steps[own] = turned(out, is_far(face))
    refine ⟨_, rfl, _, rfl, n, rfl, G2, vo, _, _, rfl, g4.gh, IsPt.same g2.gg _ _ po, fun G5 H5 vt g5 pt => ?_⟩
    have d5 : H5 S = some (.lst (sl.set (Sy73.axis m) (.ref aS))) := g5.hh _ _ upd_same
    have n5 : G5 S = none := g5.new _ (g2.gh.free hS) (by rw [upd_same]; exact fun z => nomatch z)
    refine ⟨_, rfl, _, rfl, S, _, _, Sy73.axis n, rfl, rfl, d5, ixN_nat (by rw [List.length_set, hlen]; exact f3), ?_⟩
    have g6 : Grow G H G5 (upd H5 S (.lst ((sl.set (Sy73.axis m) (.ref aS)).set (Sy73.axis n) vt))) := (g4.trans g5).mut hS0 n5
    have gh6 := g6.gg.trans g6.gh
    -- Laid(moved(..), steps)
    have n40 := B.b40 _ f3
    refine ⟨_, rfl, _, rfl, _, rfl, _, rfl, ix_of (.inl (gh6.seq B.ha)) (nth_at (by rw [B.b3]; exact f3)) ⟨_, rfl, n, rfl, .inr ⟨_, rfl, _, _, rfl, rfl, .inl ⟨by omega, by omega⟩, ?_⟩⟩⟩
    rw [b2n_of]
    refine ⟨vb, vo, _, _, _, rfl, IsPt.same (g5.gg.trans g6.gh) _ _ pb, IsPt.same ((g2.gg.trans g5.gg).trans g6.gh) _ _ po, small_b2n _ n40 _, fun T1 hT1 => ⟨_, rfl, fun x dx1 nx nd ne => ?_⟩⟩
    have g7 := g6.trans (Grow.add (o := .tup (fV (moved (edgeOf box l n m).1 (turned (stepOf l (Sy73.axis m)) (!Sy73.atFar m)) ((Sy73.nth box (Sy73.axis n) : Int) * b2n (Sy73.atFar n))))) g6.gh hT1)
    have neST : S ≠ T1 := ne_of_none upd_same hT1
    have g8 := g7.keep hS0 ((upd_ne neST).trans upd_same)
    refine ⟨x, dx1, [.ref T1, .ref S], rfl, rfl, upd_same, fun H9 e9 k9 => ⟨rfl, ?_⟩⟩
    have n5' : upd G5 T1 (.tup (fV (moved (edgeOf box l n m).1 (turned (stepOf l (Sy73.axis m)) (!Sy73.atFar m)) ((Sy73.nth box (Sy73.axis n) : Int) * b2n (Sy73.atFar n))))) S = none := (upd_ne neST).trans n5
    have s58 : Same G5 _ := (same_upd (g6.gh.free hT1)).trans (same_upd n5' (o := .lst ((sl.set (Sy73.axis m) (.ref aS)).set (Sy73.axis n) vt)))
    obtain ⟨gm, hm⟩ := made_laid (K := K) (l := nextLaid box l n m) (o := .ref T1) (s := S) g8.gh nx nd e9 k9 ⟨T1, rfl, .inl (.inl ((upd_ne (Ne.symm neST)).trans upd_same))⟩ (.inl (.inl upd_same))
      (paired_set (IsPt.same s58 _ _ pt) _ (paired_set ⟨aS, rfl, U.tS _⟩ _ (Paired.mapP hsl (IsPt.same ((g12.gg.trans g5.gg).trans s58)))))
    exact q _ _ _ (g8.trans gm) hm
end
end Fly

/-! ## W10 -/
namespace Fly
open PySem PySem.Spec PyProof.Rows L2
open Sy73 (Flat)
section
variable {P : Program} {w : World} {K : PySem.W.Frag} {mg : Str → Option Value} {base : Heap}
/-! ### swapped -/
abbrev sSwapped : Stmt := topS 25
theorem scSwapped : FnScope ["place"] ["place"] (defScope sSwapped) := ⟨rfl, rfl, rfl, by decide +kernel, rfl, by decide +kernel, by decide +kernel⟩
def spSwapped (K : PySem.W.Frag) : Sp := fun vs H Q _ => ∃ (v : V) (p : Flat), vs = [v] ∧ IsPt K H v p ∧ ∀ T, H T = none → Q (.ref T) (upd H T (.tup (fV (swapped p))))
theorem ok_swapped {f : Addr} {fd : FuncData} (D : Def K mg "swapped" sSwapped ["place"] f fd) : FnOk P w K mg base CX0 1 f fd ["place"] (spSwapped K) := by
  refine D.fn.ok scSwapped (fun vs H Q E h => ?_) (fun cdv A outer s H vs Q E hr h => ?_)
  · obtain ⟨_, _, rfl, _⟩ := h
    rfl
  · obtain ⟨v, p, rfl, h1, q⟩ := h
    refine ⟨_, pss_one (ps_ret (pe_tup (pa_cons (pe_ix ix_seq (pv 0) pe_int (fun _ _ => rfl)) (pa_cons (pe_ix ix_seq (pv 0) pe_int (fun _ _ => rfl)) pa_nil)))), ?_⟩
    exact ⟨_, rfl, pty h1 ⟨_, rfl, ptx h1 ⟨(by decide : 2 ≤ sizeLine), q⟩⟩⟩
/-! ### crosses_upright -/
abbrev sUp : Stmt := topS 26
theorem scUp : FnScope ["one", "other", "edge", "x", "low", "high", "wide", "height"] ["one", "other", "edge"] (defScope sUp) := ⟨rfl, rfl, rfl, by decide +kernel, rfl, by decide +kernel, by decide +kernel⟩
structure BdE (a b : Flat) (e : Flat × Flat) : Prop where
  a : Bd a
  b : Bd b
  e1 : Bd e.1
  e2 : Bd e.2
def spUp (K : PySem.W.Frag) : Sp := fun vs H Q _ => ∃ (v1 v2 v3 : V) (a b : Flat) (e : Flat × Flat), vs = [v1, v2, v3] ∧ IsPt K H v1 a ∧ IsPt K H v2 b ∧ IsEdge K H v3 e ∧ BdE a b e ∧ Q (.bl (crossesUp a b e)) H
theorem ed1 {H : Hp} {v : V} {e : Flat × Flat} {Q : VK} (h : IsEdge K H v e) (q : ∀ u, IsPt K H u e.1 → Q u H) : rIx K v (.int 0) H Q := by
  obtain ⟨a, v1, v2, rfl, t, h1, _⟩ := h
  exact ix_of (i := 0) (.inr t) rfl (q _ h1)
theorem ed2 {H : Hp} {v : V} {e : Flat × Flat} {Q : VK} (h : IsEdge K H v e) (q : ∀ u, IsPt K H u e.2 → Q u H) : rIx K v (.int 1) H Q := by
  obtain ⟨a, v1, v2, rfl, t, _, h2⟩ := h
  exact ix_of (i := 1) (.inr t) rfl (q _ h2)
theorem imin_small {a b : Int} (h1 : -(2 ^ 60) < a ∧ a < 2 ^ 60) (h2 : -(2 ^ 60) < b ∧ b < 2 ^ 60) : Small (imin a b) := by
  rw [imin_eq]; constructor <;> omega
theorem imax_small {a b : Int} (h1 : -(2 ^ 60) < a ∧ a < 2 ^ 60) (h2 : -(2 ^ 60) < b ∧ b < 2 ^ 60) : Small (imax a b) := by
  rw [imax_eq]; constructor <;> omega
theorem ok_up {f : Addr} {fd : FuncData} (D : Def K mg "crosses_upright" sUp ["one", "other", "edge"] f fd) (mMin : mg "min" = none) (mMax : mg "max" = none) (mAbs : mg "abs" = none) :
    FnOk P w K mg base CX0 1 f fd ["one", "other", "edge"] (spUp K) := by
  refine D.fn.ok scUp (fun vs H Q E h => ?_) (fun cdv A outer s H vs Q E hr h => ?_)
  · obtain ⟨_, _, _, _, _, _, rfl, _⟩ := h
    rfl
  · obtain ⟨v1, v2, v3, a, b, e, rfl, h1, h2, h3, B, q⟩ := h
    refine ⟨_, pss_cons (ps_set (i := 3) scUp.nd rfl (.inl rfl) (pe_ix ix_seq (pe_ix ix_seq (pv 2) pe_int (fun _ _ => rfl)) pe_int (fun _ _ => rfl)))
      (pss_cons (ps_par (i := 4) (j := 5) (by rfl) scUp.nd rfl rfl (by decide) rfl rfl
        (pa_cons (pe_callB (call_min2 rfl) (by rfl) mMin (by decide +kernel) (pa_cons (pe_ix ix_seq (pe_ix ix_seq (pv 2) pe_int (fun _ _ => rfl)) pe_int (fun _ _ => rfl)) (pa_cons (pe_ix ix_seq (pe_ix ix_seq (pv 2) pe_int (fun _ _ => rfl)) pe_int (fun _ _ => rfl)) pa_nil)))
          (pa_cons (pe_callB (call_max2 rfl) (by rfl) mMax (by decide +kernel) (pa_cons (pe_ix ix_seq (pe_ix ix_seq (pv 2) pe_int (fun _ _ => rfl)) pe_int (fun _ _ => rfl)) (pa_cons (pe_ix ix_seq (pe_ix ix_seq (pv 2) pe_int (fun _ _ => rfl)) pe_int (fun _ _ => rfl)) pa_nil))) pa_nil)) (by rfl))
      (pss_cons (ps_if (pt_not (pt_chain op_le op_le (pe_callB (call_min2 rfl) (by rfl) mMin (by decide +kernel) (pa_cons (pe_ix ix_seq (pv 0) pe_int (fun _ _ => rfl)) (pa_cons (pe_ix ix_seq (pv 1) pe_int (fun _ _ => rfl)) pa_nil))) (pv 3)
            (pe_callB (call_max2 rfl) (by rfl) mMax (by decide +kernel) (pa_cons (pe_ix ix_seq (pv 0) pe_int (fun _ _ => rfl)) (pa_cons (pe_ix ix_seq (pv 1) pe_int (fun _ _ => rfl)) pa_nil)))))
          (pss_one (ps_ret pe_bl)) pss_nil)
      (pss_cons (ps_if (pt_cmpR op_eq (pe_ix ix_seq (pv 0) pe_int (fun _ _ => rfl)) (pe_ix ix_seq (pv 1) pe_int (fun _ _ => rfl)) (nomark _))
          (pss_one (ps_ret (pe_cmpR op_le (pe_callB (call_max2 rfl) (by rfl) mMax (by decide +kernel) (pa_cons (pv 4) (pa_cons (pe_callB (call_min2 rfl) (by rfl) mMin (by decide +kernel) (pa_cons (pe_ix ix_seq (pv 0) pe_int (fun _ _ => rfl)) (pa_cons (pe_ix ix_seq (pv 1) pe_int (fun _ _ => rfl)) pa_nil))) pa_nil)))
            (pe_callB (call_min2 rfl) (by rfl) mMin (by decide +kernel) (pa_cons (pv 5) (pa_cons (pe_callB (call_max2 rfl) (by rfl) mMax (by decide +kernel) (pa_cons (pe_ix ix_seq (pv 0) pe_int (fun _ _ => rfl)) (pa_cons (pe_ix ix_seq (pv 1) pe_int (fun _ _ => rfl)) pa_nil))) pa_nil))) (nomark _)))) pss_nil)
      (pss_cons (ps_set (i := 6) scUp.nd rfl (.inl rfl) (pe_callB call_abs (by rfl) mAbs (by decide +kernel) (pa_cons (pe_op op_sub (pe_ix ix_seq (pv 1) pe_int (fun _ _ => rfl)) (pe_ix ix_seq (pv 0) pe_int (fun _ _ => rfl))) pa_nil)))
      (pss_cons (ps_set (i := 7) scUp.nd rfl (.inl rfl) (pe_op op_add (pe_op op_mul (pe_ix ix_seq (pv 0) pe_int (fun _ _ => rfl)) (pv 6))
          (pe_op op_mul (pe_op op_sub (pe_ix ix_seq (pv 1) pe_int (fun _ _ => rfl)) (pe_ix ix_seq (pv 0) pe_int (fun _ _ => rfl))) (pe_callB call_abs (by rfl) mAbs (by decide +kernel) (pa_cons (pe_op op_sub (pv 3) (pe_ix ix_seq (pv 0) pe_int (fun _ _ => rfl))) pa_nil)))))
      (pss_one (ps_ret (pe_chain op_le op_le (pe_op op_mul (pv 4) (pv 6)) (pv 7) (pe_op op_mul (pv 5) (pv 6)))))))))), ?_⟩
    -- x; low, high
    refine ⟨_, rfl, ed1 h3 fun u1 p1 => ptx p1 ?_⟩
    refine ⟨_, rfl, ed1 h3 fun u2 p2 => pty p2 ⟨_, rfl, ed2 h3 fun u3 p3 => pty p3 ⟨_, _, rfl, ?_⟩⟩⟩
    refine ⟨_, rfl, ed1 h3 fun u2 p2 => pty p2 ⟨_, rfl, ed2 h3 fun u3 p3 => pty p3 ⟨_, _, rfl, ⟨_, _, rfl, ?_⟩⟩⟩⟩
    -- if not
    refine ⟨_, rfl, ptx h1 ⟨_, rfl, ptx h2 ⟨_, _, rfl, _, rfl, _, _, rfl, rfl, _, rfl, ?_⟩⟩⟩
    have E : crossesUp a b e = if ¬ (imin a.x b.x ≤ e.1.x ∧ e.1.x ≤ imax a.x b.x) then false
      else if a.x = b.x then decide (imax (imin e.1.y e.2.y) (imin a.y b.y) ≤ imin (imax e.1.y e.2.y) (imax a.y b.y))
      else decide (imin e.1.y e.2.y * iabs (b.x - a.x) ≤ a.y * iabs (b.x - a.x) + (b.y - a.y) * iabs (e.1.x - a.x)) && decide (a.y * iabs (b.x - a.x) + (b.y - a.y) * iabs (e.1.x - a.x) ≤ imax e.1.y e.2.y * iabs (b.x - a.x)) := rfl
    refine ite2 (fun c1 => ?_) (fun c1 => ?_)
    · have d1 : imin a.x b.x ≤ e.1.x := of_decide_eq_true c1
      refine ⟨_, rfl, ptx h1 ⟨_, rfl, ptx h2 ⟨_, _, rfl, _, _, rfl, rfl, _, rfl, ?_⟩⟩⟩
      by_cases d2 : e.1.x ≤ imax a.x b.x
      · have k2 : (!decide (e.1.x ≤ if b.x > a.x then b.x else a.x)) = false := by
          rw [show decide (e.1.x ≤ if b.x > a.x then b.x else a.x) = true from decide_eq_true d2]; rfl
        show if (!decide (e.1.x ≤ if b.x > a.x then b.x else a.x)) = true then _ else _
        rw [k2]
        refine iteF ?_
        rw [E, if_neg (not_not_intro (And.intro d1 d2))] at q
        -- if one[0] == other[0]
        refine ⟨_, rfl, ptx h1 ⟨_, rfl, ptx h2 ⟨rfl, _, rfl, ite2 (fun c2 => ?_) (fun c2 => ?_)⟩⟩⟩
        · have d3 : a.x = b.x := V.int.inj (of_decide_eq_true c2)
          rw [if_pos d3] at q
          exact ⟨_, rfl, _, rfl, pty h1 ⟨_, rfl, pty h2 ⟨_, _, rfl, _, _, rfl, _, rfl, _, rfl, pty h1 ⟨_, rfl, pty h2 ⟨_, _, rfl, _, _, rfl, _, _, rfl, rfl, q⟩⟩⟩⟩⟩
        · have d3 : ¬ a.x = b.x := fun z => c2 (decide_eq_true (congrArg V.int z))
          rw [if_neg d3] at q
          have sb : Small (b.y - a.y) := by
            obtain ⟨_, ⟨x1, x2⟩⟩ := B.a
            obtain ⟨_, ⟨y1, y2⟩⟩ := B.b
            constructor <;> omega
          have sa : Small a.y := by
            obtain ⟨_, ⟨x1, x2⟩⟩ := B.a
            constructor <;> omega
          have slo : Small (imin e.1.y e.2.y) := imin_small B.e1.2 B.e2.2
          have shi : Small (imax e.1.y e.2.y) := imax_small B.e1.2 B.e2.2
          refine ⟨_, rfl, ptx h2 ⟨_, rfl, ptx h1 ⟨_, _, rfl, rfl, _, rfl, ?_⟩⟩⟩
          refine ⟨_, rfl, pty h1 ⟨_, rfl, _, _, rfl, rfl, .inl sa, _, rfl, pty h2 ⟨_, rfl, pty h1 ⟨_, _, rfl, rfl, _, rfl, _, rfl, ptx h1 ⟨_, _, rfl, rfl, _, rfl, _, _, rfl, rfl, .inl sb, _, _, rfl, rfl, ?_⟩⟩⟩⟩⟩
          refine ⟨_, rfl, _, rfl, _, _, rfl, rfl, .inl slo, _, rfl, _, _, rfl, rfl, _, rfl, ite2 (fun c4 => ?_) (fun c4 => ?_)⟩
          · refine ⟨_, rfl, _, rfl, _, _, rfl, rfl, .inl shi, _, _, rfl, rfl, ?_⟩
            have d4 : decide (imin e.1.y e.2.y * iabs (b.x - a.x) ≤ a.y * iabs (b.x - a.x) + (b.y - a.y) * iabs (e.1.x - a.x)) = true := c4
            rw [d4, Bool.true_and] at q
            exact q
          · have d4 : decide (imin e.1.y e.2.y * iabs (b.x - a.x) ≤ a.y * iabs (b.x - a.x) + (b.y - a.y) * iabs (e.1.x - a.x)) = false := Bool.eq_false_iff.mpr c4
            rw [d4, Bool.false_and] at q
            exact q
      · have k2 : (!decide (e.1.x ≤ if b.x > a.x then b.x else a.x)) = true := by
          rw [show decide (e.1.x ≤ if b.x > a.x then b.x else a.x) = false from decide_eq_false d2]; rfl
        show if (!decide (e.1.x ≤ if b.x > a.x then b.x else a.x)) = true then _ else _
        rw [k2]
        refine iteT ?_
        rw [E, if_pos fun z => d2 z.2] at q
        exact q
    · have d1 : ¬ imin a.x b.x ≤ e.1.x := fun z => c1 (decide_eq_true z)
      refine ⟨_, rfl, ?_⟩
      rw [E, if_pos fun z => d1 z.1] at q
      exact q
/-! ### crosses -/
abbrev sCrosses : Stmt := topS 27
theorem scCrosses : FnScope ["one", "other", "edge"] ["one", "other", "edge"] (defScope sCrosses) := ⟨rfl, rfl, rfl, by decide +kernel, rfl, by decide +kernel, by decide +kernel⟩
def spCrosses (K : PySem.W.Frag) : Sp := fun vs H Q _ => ∃ (v1 v2 v3 : V) (a b : Flat) (e : Flat × Flat), vs = [v1, v2, v3] ∧ IsPt K H v1 a ∧ IsPt K H v2 b ∧ IsEdge K H v3 e ∧ BdE a b e ∧ ∀ H', Same H H' → Q (.bl (crosses a b e)) H'
theorem swap_bd {p : Flat} (h : Bd p) : Bd (swapped p) := ⟨h.2, h.1⟩
theorem ok_crosses {f fU fS : Addr} {fd fdU fdS : FuncData} (D : Def K mg "crosses" sCrosses ["one", "other", "edge"] f fd) (DU : Def K mg "crosses_upright" sUp ["one", "other", "edge"] fU fdU) (DS : Def K mg "swapped" sSwapped ["place"] fS fdS)
    (mMin : mg "min" = none) (mMax : mg "max" = none) (mAbs : mg "abs" = none) : FnOk P w K mg base CX0 2 f fd ["one", "other", "edge"] (spCrosses K) := by
  refine D.fn.ok scCrosses (fun vs H Q E h => ?_) (fun cdv A outer s H vs Q E hr h => ?_)
  · obtain ⟨_, _, _, _, _, _, rfl, _⟩ := h
    rfl
  · obtain ⟨v1, v2, v3, a, b, e, rfl, h1, h2, h3, B, q⟩ := h
    have GU : FnOk P w K mg base CX0 1 fU fdU ["one", "other", "edge"] (spUp K) := ok_up DU mMin mMax mAbs
    have GS : FnOk P w K mg base CX0 1 fS fdS ["place"] (spSwapped K) := ok_swapped DS
    refine ⟨_, pss_cons (ps_if (pt_cmpR op_eq (pe_ix ix_seq (pe_ix ix_seq (pv 2) pe_int (fun _ _ => rfl)) pe_int (fun _ _ => rfl)) (pe_ix ix_seq (pe_ix ix_seq (pv 2) pe_int (fun _ _ => rfl)) pe_int (fun _ _ => rfl)) (nomark _))
        (pss_one (ps_ret (pe_call GU hr rfl DU.g DU.fn.kp DU.bi .nil pass0 (pa_cons (pv 0) (pa_cons (pv 1) (pa_cons (pv 2) pa_nil)))))) pss_nil)
      (pss_one (ps_ret (pe_call GU hr rfl DU.g DU.fn.kp DU.bi .nil pass0 (pa_cons (pe_call GS hr rfl DS.g DS.fn.kp DS.bi .nil pass0 (pa_cons (pv 0) pa_nil)) (pa_cons (pe_call GS hr rfl DS.g DS.fn.kp DS.bi .nil pass0 (pa_cons (pv 1) pa_nil))
        (pa_cons (pe_tup (pa_cons (pe_call GS hr rfl DS.g DS.fn.kp DS.bi .nil pass0 (pa_cons (pe_ix ix_seq (pv 2) pe_int (fun _ _ => rfl)) pa_nil)) (pa_cons (pe_call GS hr rfl DS.g DS.fn.kp DS.bi .nil pass0 (pa_cons (pe_ix ix_seq (pv 2) pe_int (fun _ _ => rfl)) pa_nil)) pa_nil))) pa_nil)))))), ?_⟩
    have E : crosses a b e = if e.1.x = e.2.x then crossesUp a b e else crossesUp (swapped a) (swapped b) (swapped e.1, swapped e.2) := rfl
    refine ⟨_, rfl, ed1 h3 fun u1 p1 => ptx p1 ⟨_, rfl, ed2 h3 fun u2 p2 => ptx p2 ⟨rfl, _, rfl, ite2 (fun c => ?_) (fun c => ?_)⟩⟩⟩
    · have d : e.1.x = e.2.x := V.int.inj (of_decide_eq_true c)
      rw [E, if_pos d] at q
      exact ⟨_, rfl, _, rfl, _, rfl, v1, v2, v3, a, b, e, rfl, h1, h2, h3, B, q H (Same.refl H)⟩
    · have d : ¬ e.1.x = e.2.x := fun z => c (decide_eq_true (congrArg V.int z))
      rw [E, if_neg d] at q
      refine ⟨_, rfl, v1, a, rfl, h1, fun T1 n1 => ⟨_, rfl, v2, b, rfl, IsPt.same (same_upd n1) _ _ h2, fun T2 n2 => ?_⟩⟩
      have s12 := (same_upd n1).trans (same_upd n2 (o := .tup (fV (swapped b))))
      refine ⟨_, rfl, ed1 (IsEdge.same s12 _ _ h3) fun u3 p3 => ⟨u3, e.1, rfl, p3, fun T3 n3 => ?_⟩⟩
      have s13 := s12.trans (same_upd n3 (o := .tup (fV (swapped e.1))))
      refine ⟨_, rfl, ed2 (IsEdge.same s13 _ _ h3) fun u4 p4 => ⟨u4, e.2, rfl, p4, fun T4 n4 => ⟨(by decide : 2 ≤ sizeLine), fun T5 n5 => ?_⟩⟩⟩
      have s23 := (same_upd n3 (o := .tup (fV (swapped e.1)))).trans ((same_upd n4 (o := .tup (fV (swapped e.2)))).trans (same_upd n5 (o := .tup [.ref T3, .ref T4])))
      refine ⟨_, _, _, swapped a, swapped b, (swapped e.1, swapped e.2), rfl, ⟨T1, rfl, ?_⟩, ⟨T2, rfl, ?_⟩, ⟨T5, _, _, rfl, .inl (.inl upd_same), ⟨T3, rfl, ?_⟩, ⟨T4, rfl, ?_⟩⟩, ⟨swap_bd B.a, swap_bd B.b, swap_bd B.e1, swap_bd B.e2⟩, q _ ((same_upd n1).trans ((same_upd n2).trans s23))⟩
      · exact Same.seqT ((same_upd n2).trans s23) (.inl (.inl upd_same))
      · exact Same.seqT s23 (.inl (.inl upd_same))
      · exact Same.seqT ((same_upd n4).trans (same_upd n5)) (.inl (.inl upd_same))
      · exact Same.seqT (same_upd n5) (.inl (.inl upd_same))
end
end Fly

/-! ## W11 -/
namespace Fly
open PySem PySem.Spec PyProof.Rows L2
open Sy73 (Flat)
/-! ### the class Row -/
abbrev sRowInit : Stmt := inClass (topS 29) 0
abbrev sLonger : Stmt := inClass (topS 29) 1
abbrev sSquare : Stmt := inClass (topS 29) 2
def rowF (f fi la e : V) : List (Str × V) := [("faces", f), ("first", fi), ("last", la), ("edges", e)]
theorem rowF_f (f fi la e : V) : (rowF f fi la e).lookup ("faces" : Str) = some f := lk_here
theorem rowF_fi (f fi la e : V) : (rowF f fi la e).lookup ("first" : Str) = some fi := (lk_past (by decide +kernel)).trans lk_here
theorem rowF_la (f fi la e : V) : (rowF f fi la e).lookup ("last" : Str) = some la := (lk_past (by decide +kernel)).trans ((lk_past (by decide +kernel)).trans lk_here)
theorem rowF_e (f fi la e : V) : (rowF f fi la e).lookup ("edges" : Str) = some e := (lk_past (by decide +kernel)).trans ((lk_past (by decide +kernel)).trans ((lk_past (by decide +kernel)).trans lk_here))
theorem rowF_no (f fi la e : V) (m : Str) (h1 : (m == ("faces" : Str)) = false) (h2 : (m == ("first" : Str)) = false) (h3 : (m == ("last" : Str)) = false) (h4 : (m == ("edges" : Str)) = false) : (rowF f fi la e).lookup m = none :=
  (lk_past h1).trans ((lk_past h2).trans ((lk_past h3).trans ((lk_past h4).trans rfl)))
theorem rowF_new (f fi la e : V) : putF "edges" e (putF "last" la (putF "first" fi (putF "faces" f []))) = rowF f fi la e := by
  have e1 : putF "faces" f [] = [(("faces" : Str), f)] := rfl
  have e2 : putF "first" fi [(("faces" : Str), f)] = ([("faces", f), ("first", fi)] : List (Str × V)) := (put_past (by decide +kernel)).trans rfl
  have e3 : putF "last" la [(("faces" : Str), f), (("first" : Str), fi)] = ([("faces", f), ("first", fi), ("last", la)] : List (Str × V)) := (put_past (by decide +kernel)).trans (congrArg _ ((put_past (by decide +kernel)).trans rfl))
  have e4 : putF "edges" e [(("faces" : Str), f), (("first" : Str), fi), (("last" : Str), la)] = rowF f fi la e := (put_past (by decide +kernel)).trans (congrArg _ ((put_past (by decide +kernel)).trans (congrArg _ ((put_past (by decide +kernel)).trans rfl))))
  rw [e1, e2, e3, e4]
structure RowC (K : PySem.W.Frag) (mg : Str → Option Value) (C fI : Addr) (fdI : FuncData) : Prop where
  cl : Cls K C
  nF : NoAttr K C "faces"
  nFi : NoAttr K C "first"
  nL : NoAttr K C "last"
  nE : NoAttr K C "edges"
  g : mg "Row" = some (.ref C)
  mkr : Mk K C fI
  fi : Fun K "__init__" "Row.__init__" sRowInit fI fdI
  bi : Binds K fdI ["self", "faces", "first", "last", "edges"] []
def rowW : List V → List (Str × V) := fun ws => rowF (ws.getD 0 .non) (ws.getD 1 .non) (ws.getD 2 .non) (ws.getD 3 .non)
/-- a row, laid -/
def IsRow (K : PySem.W.Frag) (CL CR : Addr) (H : Hp) (v : V) (m : MR) : Prop := ∃ (a dx f e : Addr) (fi la : V) (es : List V), v = .ref a ∧ H a = some (.ins CR dx (rowF (.ref f) fi la (.ref e))) ∧ H f = some (.lst (m.faces.map nV)) ∧
  IsLaid K CL H fi m.first ∧ IsLaid K CL H la m.last ∧ H e = some (.lst es) ∧ Paired (IsEdge K H) es m.edges
theorem IsRow.same {K : PySem.W.Frag} {CL CR : Addr} {H H' : Hp} (s : Same H H') (v : V) (m : MR) (h : IsRow K CL CR H v m) : IsRow K CL CR H' v m :=
  let ⟨a, dx, f, e, fi, la, es, q, h1, h2, h3, h4, h5, h6⟩ := h
  ⟨a, dx, f, e, fi, la, es, q, s _ _ h1, s _ _ h2, IsLaid.same s _ _ h3, IsLaid.same s _ _ h4, s _ _ h5, Paired.mapP h6 (IsEdge.same s)⟩
section
variable {P : Program} {w : World} {K : PySem.W.Frag} {mg : Str → Option Value} {base : Heap}
theorem scRowInit : FnScope ["self", "faces", "first", "last", "edges"] ["self", "faces", "first", "last", "edges"] (defScope sRowInit) := ⟨rfl, rfl, rfl, by decide +kernel, rfl, by decide +kernel, by decide +kernel⟩
theorem ok_rowInit {C fI : Addr} {fdI : FuncData} (T : RowC K mg C fI fdI) : FnOk P w K mg base CX0 1 fI fdI ["self", "faces", "first", "last", "edges"] (spInit C 4 rowW) := by
  refine T.fi.ok scRowInit (fun vs H Q E h => ?_) (fun cdv A outer s H vs Q E hr h => ?_)
  · obtain ⟨_, _, ws, rfl, hl, _⟩ := h
    rw [List.length_cons, hl] <;> rfl
  · obtain ⟨p, dx, ws, rfl, hl, hp, q⟩ := h
    obtain ⟨f, fi, la, e, rfl⟩ : ∃ a b c d, ws = [a, b, c, d] := match ws, hl with | [a, b, c, d], _ => ⟨a, b, c, d, rfl⟩
    refine ⟨_, pss_cons (ps_fld (pv 0) (pv 1) rfl) (pss_cons (ps_fld (pv 0) (pv 2) rfl) (pss_cons (ps_fld (pv 0) (pv 3) rfl) (pss_one (ps_fld (pv 0) (pv 4) rfl)))), ?_⟩
    refine ⟨_, rfl, _, rfl, p, C, dx, [], rfl, hp, T.cl, T.nF, (by show 0 < 1000; decide), ?_⟩
    refine ⟨_, rfl, _, rfl, p, C, dx, _, rfl, upd_same, T.cl, T.nFi, (by show 1 < 1000; decide), ?_⟩
    refine ⟨_, rfl, _, rfl, p, C, dx, _, rfl, upd_same, T.cl, T.nL, (by show 2 < 1000; decide), ?_⟩
    refine ⟨_, rfl, _, rfl, p, C, dx, _, rfl, upd_same, T.cl, T.nE, (by show 3 < 1000; decide), ?_⟩
    exact q _ (upd_same.trans (congrArg (fun z => some (HO.ins C dx z)) (rowF_new f fi la e))) fun b u e hb => by
      rw [upd_ne hb, upd_ne hb, upd_ne hb, upd_ne hb]
      exact e
/-- Row(..): made, for good -/
theorem made_row {CL CR : Addr} {G H1 H2 : Hp} {x dx f e : Addr} {fi la : V} {es : List V} {m : MR} (sG : Same G H1) (nx : H1 x = none) (nd : H1 dx = none) (h : H2 x = some (.ins CR dx (rowF (.ref f) fi la (.ref e))))
    (k : ∀ b u, (upd (upd H1 dx (.own x)) x (.ins CR dx [])) b = some u → b ≠ x → H2 b = some u) (h1 : G f = some (.lst (m.faces.map nV))) (h2 : IsLaid K CL G fi m.first) (h3 : IsLaid K CL G la m.last) (h4 : G e = some (.lst es)) (h5 : Paired (IsEdge K G) es m.edges) :
    Grow G H1 (upd G x (.ins CR dx (rowF (.ref f) fi la (.ref e)))) H2 ∧ IsRow K CL CR (upd G x (.ins CR dx (rowF (.ref f) fi la (.ref e)))) (.ref x) m := by
  have s12 : Same H1 H2 := Same.made nx nd k
  have sx : Same G (upd G x (.ins CR dx (rowF (.ref f) fi la (.ref e)))) := same_upd (sG.free nx)
  exact ⟨(Grow.tmp sG s12).keep nx h, x, dx, f, e, fi, la, es, rfl, upd_same, sx _ _ h1, IsLaid.same sx _ _ h2, IsLaid.same sx _ _ h3, sx _ _ h4, Paired.mapP h5 (IsEdge.same sx)⟩
theorem steps3 {l : Sy73.Laid} (G : Good l) : (toML l).steps.length = 3 := by
  obtain ⟨u, v, w, h⟩ := G.ways
  show l.ways.length = 3
  rw [h] <;> rfl
/-! ### longer -/
theorem scLonger : FnScope ["self", "lengths", "face", "edge", "last"] ["self", "lengths", "face"] (defScope sLonger) := ⟨rfl, rfl, rfl, by decide +kernel, rfl, by decide +kernel, by decide +kernel⟩
def spLonger (K : PySem.W.Frag) (CL CR : Addr) : Sp := fun vs H Q _ => ∃ (G : Hp) (v : V) (a : Addr) (box : List Nat) (f : Nat) (r : List Nat) (g : Nat), vs = [v, .ref a, nV g] ∧ Same G H ∧ IsRow K CL CR G v (mr box f r) ∧ SqL K G a (box.map nV) ∧ box.length = 3 ∧
  (∀ k, k < 3 → Sy73.nth box k ≤ 40) ∧ Linked f r ∧ r.length ≤ 100 ∧ g < 6 ∧ Sy73.axis (lastOf f r) ≠ Sy73.axis g ∧ ∀ G' H' v', Grow G H G' H' → IsRow K CL CR G' v' (mr box f (r ++ [g])) → Q v' H'
theorem chain_len (box : List Nat) : ∀ (r : List Nat) (l : Sy73.Laid), (Sy73.chain box l r).2.length = r.length
  | [], _ => rfl
  | g :: r, l => congrArg Nat.succ (chain_len box r (Sy73.unfolded box l g))
theorem last_map : ∀ (f : Nat) (r : List Nat), ∃ i, (f :: r).map nV = i ++ [nV (lastOf f r)]
  | f, [] => ⟨[], rfl⟩
  | f, g :: r => by
    obtain ⟨i, h⟩ := last_map g r
    refine ⟨nV f :: i, ?_⟩
    show nV f :: (g :: r).map nV = _
    rw [h]
    rfl
theorem ok_longer {CL CR fL fI f fE fN : Addr} {fdL fdI fd fdE fdN : FuncData} (TL : LaidC K mg CL fL fdL) (T : RowC K mg CR fI fdI) (D : MDef K CR "longer" "Row.longer" sLonger ["self", "lengths", "face"] f fd)
    (DE : Def K mg "edge_of" sEdge ["lengths", "laid", "face", "other"] fE fdE) (GE : FnOk P w K mg base CX0 2 fE fdE ["lengths", "laid", "face", "other"] (spEdge K CL))
    (DN : Def K mg "next_laid" sNext ["lengths", "laid", "face", "other"] fN fdN) (GN : FnOk P w K mg base CX0 3 fN fdN ["lengths", "laid", "face", "other"] (spNext K CL)) :
    FnOk P w K mg base CX0 4 f fd ["self", "lengths", "face"] (spLonger K CL CR) := by
  refine D.fn.ok scLonger (fun vs H Q E h => ?_) (fun cdv A outer s H vs Q E hr h => ?_)
  · obtain ⟨_, _, _, _, _, _, _, rfl, _⟩ := h
    rfl
  · obtain ⟨G, v, a, box, n, r, m, rfl, sG, hR, ha, b3, b40, hlk, hrl, m6, be, q⟩ := h
    have hr2 : Room 2 _ := hr.mono (by decide)
    have GI : FnOk P w K mg base CX0 1 fI fdI ["self", "faces", "first", "last", "edges"] (spInit CR 4 rowW) := ok_rowInit T
    refine ⟨_, pss_cons (ps_set (i := 3) scLonger.nd rfl (.inl rfl) (pe_call GE hr2 rfl DE.g DE.fn.kp DE.bi .nil pass0 (pa_cons (pv 1) (pa_cons (pe_fld (pv 0) rfl) (pa_cons (pe_ix ix_seq (pe_fld (pv 0) rfl) (pe_un un_neg pe_int) (fun _ _ => rfl)) (pa_cons (pv 2) pa_nil))))))
      (pss_cons (ps_set (i := 4) scLonger.nd rfl (.inl rfl) (pe_call GN hr rfl DN.g DN.fn.kp DN.bi .nil pass0 (pa_cons (pv 1) (pa_cons (pe_fld (pv 0) rfl) (pa_cons (pe_ix ix_seq (pe_fld (pv 0) rfl) (pe_un un_neg pe_int) (fun _ _ => rfl)) (pa_cons (pv 2) pa_nil))))))
      (pss_one (ps_ret (pe_make T.mkr GI hr2 rfl T.g T.bi .nil pass0 (pa_cons (pe_op op_cat (pe_fld (pv 0) rfl) (pe_lst (pa_cons (pv 2) pa_nil))) (pa_cons (pe_fld (pv 0) rfl) (pa_cons (pv 4) (pa_cons (pe_op op_cat (pe_fld (pv 0) rfl) (pe_lst (pa_cons (pv 3) pa_nil))) pa_nil)))))))), ?_⟩
    have isR := hR
    obtain ⟨p, dx, fa, ea, fi, la, es, rfl, hp, hf, hfi, hla, he, hes⟩ := hR
    obtain ⟨i0, hlast⟩ := last_map n r
    have hf' : G fa = some (.lst (i0 ++ [nV (lastOf n r)])) := by rw [← hlast]; exact hf
    obtain ⟨Gz, ez⟩ := chain_good box r (Sy73.first box n) (good_first box hlk.head) hlk
    have l3 : (mr box n r).last.steps.length = 3 := steps3 Gz
    have at1 : ∀ {H' : Hp} {Q : VK}, Same G H' → Q (nV (lastOf n r)) H' → rIx K (.ref fa) (.int (-1)) H' Q := fun s q => .inl ⟨fa, _, -1, _, rfl, rfl, .inl (.inl (s _ _ hf')), atI_last _ _, q⟩
    -- edge
    refine ⟨_, rfl, _, rfl, p, CR, dx, _, _, rfl, sG _ _ hp, T.cl, T.nL, rowF_la _ _ _ _, _, rfl, p, CR, dx, _, _, rfl, sG _ _ hp, T.cl, T.nF, rowF_f _ _ _ _, 1, rfl, at1 sG ⟨_, rfl, ?_⟩⟩
    refine ⟨G, a, la, box, (mr box n r).last, lastOf n r, m, rfl, ⟨sG, ha, b3, b40, hla, l3, hlk.last, m6, be⟩, fun G1 H1 ve g1 pe => ?_⟩
    have gh1 := g1.gg.trans g1.gh
    -- last
    refine ⟨_, rfl, _, rfl, p, CR, dx, _, _, rfl, gh1 _ _ hp, T.cl, T.nL, rowF_la _ _ _ _, _, rfl, p, CR, dx, _, _, rfl, gh1 _ _ hp, T.cl, T.nF, rowF_f _ _ _ _, 1, rfl, at1 gh1 ⟨_, rfl, ?_⟩⟩
    refine ⟨G1, a, la, box, (mr box n r).last, lastOf n r, m, rfl, ⟨g1.gh, g1.gg.seq ha, b3, b40, IsLaid.same g1.gg _ _ hla, l3, hlk.last, m6, be⟩, fun G2 H2 vl g2 pl => ?_⟩
    have g12 := g1.trans g2
    have gh2 := g12.gg.trans g2.gh
    -- Row(..)
    have lenF : ((mr box n r).faces.map nV).length = r.length + 1 := List.length_map ..
    have lenE : es.length = r.length := (paired_len hes).trans (chain_len box r _)
    refine ⟨_, rfl, p, CR, dx, _, _, rfl, gh2 _ _ hp, T.cl, T.nF, rowF_f _ _ _ _, _, rfl, (by decide : 1 ≤ sizeLine), fun L1 n1 => ?_⟩
    have gA := g12.trans (Grow.add (o := .lst [nV m]) g12.gh n1)
    have ghA := gA.gg.trans gA.gh
    refine ⟨fa, L1, _, _, rfl, rfl, ghA _ _ hf, upd_same, Nat.le_of_lt (small1000 (by rw [lenF]; show r.length + 1 + 1 ≤ 1000; omega)), fun L2 n2 => ?_⟩
    have gB := gA.trans (Grow.add (o := .lst ((mr box n r).faces.map nV ++ [nV m])) gA.gh n2)
    have ghB := gB.gg.trans gB.gh
    refine ⟨_, rfl, p, CR, dx, _, _, rfl, ghB _ _ hp, T.cl, T.nFi, rowF_fi _ _ _ _, _, rfl, _, rfl, p, CR, dx, _, _, rfl, ghB _ _ hp, T.cl, T.nE, rowF_e _ _ _ _, _, rfl, (by decide : 1 ≤ sizeLine), fun L3 n3 => ?_⟩
    have gC := gB.trans (Grow.add (o := .lst [ve]) gB.gh n3)
    have ghC := gC.gg.trans gC.gh
    refine ⟨ea, L3, _, _, rfl, rfl, ghC _ _ he, upd_same, Nat.le_of_lt (small1000 (by rw [lenE]; show r.length + 1 ≤ 1000; omega)), fun L4 n4 => ?_⟩
    have gD := gC.trans (Grow.add (o := .lst (es ++ [ve])) gC.gh n4)
    intro x dx1 nx nd ne
    refine ⟨x, dx1, [.ref L2, fi, vl, .ref L4], rfl, rfl, upd_same, fun H9 e9 k9 => ⟨rfl, ?_⟩⟩
    have n32 : L2 ≠ L3 := ne_of_none upd_same n3
    have n42 : L2 ≠ L4 := ne_of_none ((upd_ne n32).trans upd_same) n4
    have sAB : Same G2 _ := (same_upd (g12.gh.free n1) (o := .lst [nV m])).trans ((same_upd (gA.gh.free n2) (o := .lst ((mr box n r).faces.map nV ++ [nV m]))).trans ((same_upd (gB.gh.free n3) (o := .lst [ve])).trans (same_upd (gC.gh.free n4) (o := .lst (es ++ [ve])))))
    have eLong := longer_is (box := box) (f := n) (r := r) (g := m) hlk m6 be
    obtain ⟨gm, hm⟩ := made_row (K := K) (CL := CL) (m := longer box (mr box n r) (lastOf n r) m) (es := es ++ [ve]) (fi := fi) (la := vl) (f := L2) (e := L4) gD.gh nx nd e9 k9
      (((upd_ne n42).trans ((upd_ne n32).trans upd_same)).trans (by show _ = some (HO.lst (((mr box n r).faces ++ [m]).map nV)); rw [List.map_append]; rfl))
      (IsLaid.same gD.gg _ _ hfi) (IsLaid.same sAB _ _ pl) upd_same (paired_snoc (IsEdge.same (g2.gg.trans sAB) _ _ pe) (Paired.mapP hes (IsEdge.same gD.gg)))
    rw [eLong] at hm
    exact q _ _ _ (gD.trans gm) hm
end
end Fly

/-! ## W12 -/
namespace Fly
open PySem PySem.Spec PyProof.Rows L2
open Sy73 (Flat)
theorem near_bd {N : Nat} {p : Flat} (h : Near N p) (hN : N ≤ 1000000) : Bd p := by
  obtain ⟨a, b, c, d⟩ := h
  exact ⟨⟨by omega, by omega⟩, ⟨by omega, by omega⟩⟩
def optV : Option Int → V
  | none => .non
  | some d => .int d
/-- a point on the box, as a list or a tuple -/
structure IsP (K : PySem.W.Frag) (G : Hp) (b : Addr) (p : List Nat) : Prop where
  s : SqA K G b (p.map nV)
  p3 : p.length = 3
  p40 : ∀ k, k < 3 → Sy73.nth p k ≤ 40
theorem IsP.same {K : PySem.W.Frag} {G G' : Hp} {b : Addr} {p : List Nat} (s : Same G G') (h : IsP K G b p) : IsP K G' b p := ⟨Same.seqA s h.s, h.p3, h.p40⟩
/-- a box's lengths -/
structure IsB (K : PySem.W.Frag) (G : Hp) (a : Addr) (box : List Nat) : Prop where
  s : SqL K G a (box.map nV)
  b3 : box.length = 3
  b40 : ∀ k, k < 3 → Sy73.nth box k ≤ 40
theorem IsB.same {K : PySem.W.Frag} {G G' : Hp} {a : Addr} {box : List Nat} (s : Same G G') (h : IsB K G a box) : IsB K G' a box := ⟨s.seq h.s, h.b3, h.b40⟩
section
variable {P : Program} {w : World} {K : PySem.W.Frag} {mg : Str → Option Value} {base : Heap}
/-! ### square -/
theorem scSquare : FnScope ["self", "one", "other", "begin", "end", "edge"] ["self", "one", "other"] (defScope sSquare) := ⟨rfl, rfl, rfl, by decide +kernel, rfl, by decide +kernel, by decide +kernel⟩
def spSquare (K : PySem.W.Frag) (CL CR : Addr) : Sp := fun vs H Q _ => ∃ (G : Hp) (v : V) (b1 b2 : Addr) (box : List Nat) (f : Nat) (r p q : List Nat), vs = [v, .ref b1, .ref b2] ∧ Same G H ∧ IsRow K CL CR G v (mr box f r) ∧ IsP K G b1 p ∧ IsP K G b2 q ∧
  (∀ k, k < 3 → Sy73.nth box k ≤ 40) ∧ Linked f r ∧ r.length ≤ 100 ∧ ∀ H', Same H H' → Q (optV (sqOf (mr box f r) p q)) H'
theorem ok_square {CL CR fL fI f fP fC fB : Addr} {fdL fdI fd fdP fdC fdB : FuncData} (TL : LaidC K mg CL fL fdL) (T : RowC K mg CR fI fdI) (D : MDef K CR "square" "Row.square" sSquare ["self", "one", "other"] f fd)
    (DP : MDef K CL "place_of" "Laid.place_of" sPlaceOf ["self", "point"] fP fdP) (GP : FnOk P w K mg base CX0 2 fP fdP ["self", "point"] (spPlaceOf K CL))
    (DC : Def K mg "crosses" sCrosses ["one", "other", "edge"] fC fdC) (GC : FnOk P w K mg base CX0 2 fC fdC ["one", "other", "edge"] (spCrosses K))
    (DB : Def K mg "square_between" sSqB ["one", "other"] fB fdB) (mAll : mg "all" = none) :
    FnOk P w K mg base CX0 3 f fd ["self", "one", "other"] (spSquare K CL CR) := by
  refine D.fn.ok scSquare (fun vs H Q E h => ?_) (fun cdv A outer s H vs Q E hr h => ?_)
  · obtain ⟨_, _, _, _, _, _, _, _, _, rfl, _⟩ := h
    rfl
  · obtain ⟨G, v, b1, b2, box, n, r, p, pq, rfl, sG, hR, hp1, hp2, b40, hlk, hrl, q⟩ := h
    have hr1 : Room 1 _ := hr.mono (by decide)
    have GB : FnOk P w K mg base CX0 1 fB fdB ["one", "other"] (spSqB K) := ok_sqB DB
    refine ⟨_, pss_cons (ps_asg (pe_tup (pa_cons (pe_meth (pe_fld (pv 0) rfl) TL.cl DP.m GP hr DP.bi .nil pass0 (pa_cons (pv 1) pa_nil)) (pa_cons (pe_meth (pe_fld (pv 0) rfl) TL.cl DP.m GP hr DP.bi .nil pass0 (pa_cons (pv 2) pa_nil)) pa_nil)))
          (pg_tup rfl (pgs_cons (pg_name (i := 3) scSquare.nd rfl (.inr rfl)) (pgs_cons (pg_name (i := 4) scSquare.nd rfl (.inr rfl)) pgs_nil))))
      (pss_cons (ps_if (pt_val (pe_callB (cr_all rfl) (by rfl) mAll (by decide +kernel) (pa_cons (pe_lc (own := [("edge", 5)]) (g := gName 5) (by rfl) scSquare.nd (pi_list (pe_fld (pv 0) rfl))
            (blkOk_by (N := ["self", "one", "other", "begin", "end", "edge"]) (sc := defScope sSquare) (by decide +kernel)) (fun _ _ _ _ _ => pg_name (i := 5) scSquare.nd rfl (Or.inl rfl)) (fun _ _ _ _ _ => pts_nil)
            (fun _ _ _ _ _ => pe_call GC hr rfl DC.g DC.fn.kp DC.bi .nil pass0 (pa_cons (pv 3) (pa_cons (pv 4) (pa_cons (pv 5) pa_nil))))) pa_nil)))
          (pss_one (ps_ret (pe_call GB hr1 rfl DB.g DB.fn.kp DB.bi .nil pass0 (pa_cons (pv 3) (pa_cons (pv 4) pa_nil))))) pss_nil)
      (pss_one (ps_ret pe_non))), ?_⟩
    obtain ⟨Gz, ez⟩ := chain_good box r (Sy73.first box n) (good_first box hlk.head) hlk
    have l3 : (mr box n r).last.steps.length = 3 := steps3 Gz
    have f3 : (mr box n r).first.steps.length = 3 := steps3 (good_first box hlk.head)
    obtain ⟨N1, N2, N3⟩ := row_near b40 hlk hp1.p40 hp2.p40
    have N : 120 + 80 * r.length ≤ 1000000 := by omega
    obtain ⟨a, dx, fa, ea, fi, la, es, rfl, hp, hf, hfi, hla, he, hes⟩ := hR
    have pm : ∀ o s, (laidF o s).lookup ("place_of" : Str) = none := laidF_p
    obtain ⟨a1, dx1, st1, o1, sl1, rfl, hq1, hq2, hq3, hq4⟩ := hfi
    obtain ⟨a2, dx2, st2, o2, sl2, rfl, hq1', hq2', hq3', hq4'⟩ := hla
    refine ⟨_, rfl, a, CR, dx, _, _, rfl, sG _ _ hp, T.cl, T.nFi, rowF_fi _ _ _ _, a1, dx1, _, rfl, sG _ _ hq1, laidF_p _ _, _, rfl, ?_⟩
    refine ⟨G, .ref a1, b1, (mr box n r).first, p, rfl, sG, ⟨a1, dx1, st1, o1, sl1, rfl, hq1, hq2, hq3, hq4⟩, f3, hp1.s, hp1.p3, hp1.p40, fun G1 H1 vb g1 pb => ?_⟩
    have gh1 := g1.gg.trans g1.gh
    refine ⟨_, rfl, a, CR, dx, _, _, rfl, gh1 _ _ hp, T.cl, T.nL, rowF_la _ _ _ _, a2, dx2, _, rfl, gh1 _ _ hq1', laidF_p _ _, _, rfl, ?_⟩
    refine ⟨G1, .ref a2, b2, (mr box n r).last, pq, rfl, g1.gh, IsLaid.same g1.gg _ _ ⟨a2, dx2, st2, o2, sl2, rfl, hq1', hq2', hq3', hq4'⟩, l3, Same.seqA g1.gg hp2.s, hp2.p3, hp2.p40, fun G2 H2 ve g2 pe => ?_⟩
    have g12 := g1.trans g2
    refine ⟨(by decide : 2 ≤ sizeLine), fun T1 hT1 => ⟨T1, _, rfl, .inl (.inl upd_same), rfl, _, _, rfl, _, _, rfl, rfl, ?_⟩⟩
    have g3 := g12.trans (Grow.add (o := .tup [vb, ve]) g12.gh hT1)
    have gh3 := g3.gg.trans g3.gh
    have pb3 : IsPt K _ vb (placeOf (mr box n r).first p) := IsPt.same (g2.gg.trans (same_upd (g12.gh.free hT1) (o := .tup [vb, ve]))) _ _ pb
    have pe3 : IsPt K _ ve (placeOf (mr box n r).last pq) := IsPt.same (same_upd (g12.gh.free hT1) (o := .tup [vb, ve])) _ _ pe
    -- all(..)
    refine ⟨_, rfl, a, CR, dx, _, _, rfl, gh3 _ _ hp, T.cl, T.nE, rowF_e _ _ _ _, ea, rfl, ⟨_, .inl (.inl (gh3 _ _ he))⟩, fun D hD => lc_list (K := K) (a := ea) (xs := es)
      (fun i H' => Same (upd H2 T1 (.tup [vb, ve])) H' ∧ H' D = some (.lst ((((mr box n r).edges.take i).map (crosses (placeOf (mr box n r).first p) (placeOf (mr box n r).last pq))).map V.bl))) ⟨same_upd hD, upd_same⟩ (fun i H' _ h => h.1.seq (.inl (.inl (gh3 _ _ he)))) ?_ ?_⟩
    · intro i x H' hx h
      obtain ⟨e, hee, px⟩ := paired_get hes hx
      have hmem : e ∈ (mr box n r).edges := List.mem_of_getElem? hee
      have s3 := g3.gh.trans h.1
      refine ⟨rfl, _, rfl, _, rfl, _, rfl, vb, ve, x, _, _, e, rfl, IsPt.same s3 _ _ pb3, IsPt.same s3 _ _ pe3, IsEdge.same (g3.gg.trans s3) _ _ px, ⟨near_bd N2 N, near_bd N3 N, near_bd (N1 e hmem).1 N, near_bd (N1 e hmem).2 N⟩, fun H4 s4 => ?_⟩
      refine ⟨_, s4 _ _ h.2, small1000 ?_, same_at (h.1.trans s4) hD, ?_⟩
      · rw [List.length_map, List.length_map, List.length_take]
        have : (mr box n r).edges.length = r.length := chain_len box r _
        omega
      · rw [upd_same, take_next hee, List.map_append, List.map_append]
        rfl
    · intro H' h
      rw [paired_len hes, List.take_length] at h
      refine ⟨D, _, rfl, .inl (.inl h.2), _, rfl, ?_⟩
      rw [List.all_map]
      have e2 : sqOf (mr box n r) p pq = if ((mr box n r).edges.all (crosses (placeOf (mr box n r).first p) (placeOf (mr box n r).last pq))) = true then some (sqBetween (placeOf (mr box n r).first p) (placeOf (mr box n r).last pq)) else none := rfl
      have s' := g3.gh.trans h.1
      have z := q H' (g3.hh.trans h.1)
      rw [e2] at z
      show if ((mr box n r).edges.all (crosses (placeOf (mr box n r).first p) (placeOf (mr box n r).last pq))) = true then _ else _
      refine ite2 (fun c => ?_) (fun c => ?_)
      · rw [if_pos c] at z
        exact ⟨_, rfl, _, rfl, vb, ve, _, _, rfl, IsPt.same s' _ _ pb3, IsPt.same s' _ _ pe3, near_bd N2 N, near_bd N3 N, z⟩
      · rw [if_neg c] at z
        exact z
end
end Fly

/-! ## W13 -/
namespace Fly
open PySem PySem.Spec PyProof.Rows L2
theorem linked_take : ∀ {f : Nat} {r : List Nat} (i : Nat), Linked f r → Linked f (r.take i)
  | f, [], i, h => by rw [List.take_nil]; exact h
  | f, g :: r, 0, h => h.1
  | f, g :: r, i + 1, h => ⟨h.1, h.2.1, linked_take i h.2.2⟩
theorem linked_at : ∀ {f : Nat} {r : List Nat} {i g : Nat}, Linked f r → r[i]? = some g → g < 6 ∧ Sy73.axis (lastOf f (r.take i)) ≠ Sy73.axis g
  | f, [], i, g, h, e => by simp at e
  | f, a :: r, 0, g, h, e => by
    obtain rfl : a = g := Option.some.inj e
    exact ⟨h.2.2.head, h.2.1⟩
  | f, a :: r, i + 1, g, h, e => linked_at (f := a) (r := r) (i := i) h.2.2 e
section
variable {P : Program} {w : World} {K : PySem.W.Frag} {mg : Str → Option Value} {base : Heap}
theorem cut_to1 (x : V) (xs : List V) : cutV (x :: xs) none (some 1) = [x] := by
  unfold cutV
  rw [show HT.sIx (x :: xs).length (x :: xs).length (some 1) = min 1 (x :: xs).length from HT.sIx_nat (x :: xs).length (x :: xs).length 1, HT.sIx_none, List.length_cons, show min 1 (xs.length + 1) = 1 by omega]
  rfl
/-! ### row_of -/
abbrev sRowOf : Stmt := topS 30
theorem scRowOf : FnScope ["lengths", "faces", "laid", "found", "face"] ["lengths", "faces"] (defScope sRowOf) := ⟨rfl, rfl, rfl, by decide +kernel, rfl, by decide +kernel, by decide +kernel⟩
def spRowOf (K : PySem.W.Frag) (CL CR : Addr) : Sp := fun vs H Q _ => ∃ (G : Hp) (a b : Addr) (box : List Nat) (f : Nat) (r : List Nat), vs = [.ref a, .ref b] ∧ Same G H ∧ IsB K G a box ∧ SqL K G b ((f :: r).map nV) ∧ Linked f r ∧ r.length ≤ 90 ∧
  ∀ G' H' v, Grow G H G' H' → IsRow K CL CR G' v (mr box f r) → Q v H'
theorem ok_rowOf {CL CR fL fI f fF fO : Addr} {fdL fdI fd fdF fdO : FuncData} (TL : LaidC K mg CL fL fdL) (T : RowC K mg CR fI fdI) (D : Def K mg "row_of" sRowOf ["lengths", "faces"] f fd)
    (DF : Def K mg "first_laid" sFirst ["face"] fF fdF) (GF : FnOk P w K mg base CX0 3 fF fdF ["face"] (spFirst K CL))
    (DO : MDef K CR "longer" "Row.longer" sLonger ["self", "lengths", "face"] fO fdO) (GO : FnOk P w K mg base CX0 4 fO fdO ["self", "lengths", "face"] (spLonger K CL CR)) :
    FnOk P w K mg base CX0 5 f fd ["lengths", "faces"] (spRowOf K CL CR) := by
  refine D.fn.ok scRowOf (fun vs H Q E h => ?_) (fun cdv A outer s H vs Q E hr h => ?_)
  · obtain ⟨_, _, _, _, _, _, rfl, _⟩ := h
    rfl
  · obtain ⟨G, a, b, box, n, r, rfl, sG, hB, hb, hlk, hrl, q⟩ := h
    have hr3 : Room 3 _ := hr.mono (by decide)
    have hr2 : Room 2 _ := hr.mono (by decide)
    have GI : FnOk P w K mg base CX0 1 fI fdI ["self", "faces", "first", "last", "edges"] (spInit CR 4 rowW) := ok_rowInit T
    refine ⟨_, pss_cons (ps_set (i := 2) scRowOf.nd rfl (.inl rfl) (pe_call GF hr3 rfl DF.g DF.fn.kp DF.bi .nil pass0 (pa_cons (pe_ix ix_seq (pv 1) pe_int (fun _ _ => rfl)) pa_nil)))
      (pss_cons (ps_set (i := 3) scRowOf.nd rfl (.inl rfl) (pe_make T.mkr GI hr2 rfl T.g T.bi .nil pass0 (pa_cons (pe_slice sl_list (pv 1) po_none (po_some pe_int)) (pa_cons (pv 2) (pa_cons (pv 2) (pa_cons (pe_lst pa_nil) pa_nil))))))
      (pss_cons (ps_for PassesOwn.never rfl (pi_list (pe_slice sl_list (pv 1) (po_some pe_int) po_none)) (pg_name (i := 4) scRowOf.nd rfl (.inl rfl))
        (pss_one (ps_set (i := 3) scRowOf.nd rfl (.inl rfl) (pe_meth (pv 3) T.cl DO.m GO hr DO.bi .nil pass0 (pa_cons (pv 0) (pa_cons (pv 4) pa_nil))))))
      (pss_one (ps_ret (pv 3))))), ?_⟩
    -- laid
    refine ⟨_, rfl, ix_of (i := 0) (.inl (sG.seq hb)) (v := nV n) rfl ⟨G, n, rfl, hlk.head, sG, fun G1 H1 vl g1 pl => ?_⟩⟩
    have gh1 := g1.gg.trans g1.gh
    -- Row(faces[:1], laid, laid, [])
    refine ⟨_, rfl, 1, rfl, b, _, rfl, gh1.seq hb, fun F nF => ⟨_, rfl, _, rfl, Nat.zero_le _, fun Ed nE => fun x dx nx nd ne => ?_⟩⟩
    rw [show ((n :: r).map nV) = nV n :: r.map nV from rfl, cut_to1] at nx nd nE ⊢
    have gF := g1.trans (Grow.add (o := .lst [nV n]) g1.gh nF)
    have gE := gF.trans (Grow.add (o := .lst []) gF.gh nE)
    have nFE : F ≠ Ed := ne_of_none upd_same nE
    refine ⟨x, dx, [.ref F, vl, vl, .ref Ed], rfl, rfl, upd_same, fun H2 e2 k2 => ⟨rfl, ?_⟩⟩
    have s12 : Same _ _ := (same_upd (g1.gh.free nF) (o := .lst [nV n])).trans (same_upd (gF.gh.free nE) (o := .lst []))
    have efl : firstLaid n = toML (Sy73.first box n) := firstLaid_is box hlk.head
    rw [efl] at pl
    obtain ⟨gm, hm⟩ := made_row (K := K) (CL := CL) (m := mr box n []) (es := []) (fi := vl) (la := vl) (f := F) (e := Ed) gE.gh nx nd e2 k2
      ((upd_ne nFE).trans upd_same) (IsLaid.same s12 _ _ pl) (IsLaid.same s12 _ _ pl) upd_same .nil
    have g2 := gE.trans gm
    have gh2 := g2.gg.trans g2.gh
    -- for face in faces[1:]
    refine ⟨_, rfl, 1, rfl, b, _, rfl, gh2.seq hb, fun L nL => ?_⟩
    rw [show cutV ((n :: r).map nV) (some 1) none = r.map nV from cut1 _]
    have g3 := g2.trans (Grow.add (o := .lst (r.map nV)) g2.gh nL)
    refine ⟨L, rfl, ⟨_, .inl (.inl upd_same)⟩, for_list (K := K) (a := L) (xs := r.map nV) (fun i σ H' => ∃ v y4 G', σ = [some (.ref a), some (.ref b), some vl, some v, y4] ∧ Grow G H G' H' ∧ G' L = some (.lst (r.map nV)) ∧ IsRow K CL CR G' v (mr box n (r.take i)))
      ⟨_, none, _, rfl, g3, upd_same, IsRow.same (same_upd (g2.gh.free nL)) _ _ hm⟩ (fun i σ H' _ ⟨v, y4, G', _, g, hL, _⟩ => .inl (.inl (g.gh _ _ hL))) ?_ ?_⟩
    · rintro i y σ H' hi ⟨v, y4, G', rfl, g, hL, hR⟩
      rw [nV_map] at hi
      obtain ⟨m, hm, rfl⟩ := Option.map_eq_some_iff.mp hi
      obtain ⟨m6, be⟩ := linked_at hlk hm
      have hR' := hR
      obtain ⟨ar, dxr, _, _, _, _, _, rfl, hpr, _⟩ := hR'
      refine ⟨_, rfl, ar, dxr, _, rfl, g.gh _ _ hpr, rowF_no _ _ _ _ _ (by decide +kernel) (by decide +kernel) (by decide +kernel) (by decide +kernel), _, rfl, _, rfl, ?_⟩
      refine ⟨G', .ref ar, a, box, n, r.take i, m, rfl, g.gh, hR, g.gg.seq hB.s, hB.b3, hB.b40, linked_take i hlk, by rw [List.length_take]; omega, m6, be, fun G4 H4 v4 g4 p4 => ?_⟩
      refine ⟨v4, some (nV m), G4, rfl, g.trans g4, g4.gg _ _ hL, ?_⟩
      rw [take_next hm]
      exact p4
    · rintro σ H' ⟨v, y4, G', rfl, g, hL, hR⟩
      rw [List.length_map, List.take_length] at hR
      exact ⟨_, rfl, q _ _ _ g hR⟩
/-! ### rows_behind -/
abbrev sBehind : Stmt := topS 31
theorem scBehind : FnScope ["lengths", "row", "found", "face"] ["lengths", "row"] (defScope sBehind) := ⟨rfl, rfl, rfl, by decide +kernel, rfl, by decide +kernel, by decide +kernel⟩
def spBehind (K : PySem.W.Frag) (CL CR : Addr) (n : Nat) : Sp := fun vs H Q _ => ∃ (G : Hp) (a : Addr) (v : V) (box : List Nat) (f : Nat) (r : List Nat), vs = [.ref a, v] ∧ Same G H ∧ IsB K G a box ∧ IsRow K CL CR G v (mr box f r) ∧ RowL f r ∧ r.length + n = 5 ∧
  ∀ G' H' D ps, Grow G H G' H' → G' D = some (.lst ps) → Paired (IsRow K CL CR G') ps ((Sy73.rows n (f :: r)).map fun s => mr box f (r ++ s)) → Q (.ref D) H'
def spBehind' (K : PySem.W.Frag) (CL CR : Addr) : Nat → Sp
  | 0 => fun _ _ _ _ => False
  | n + 1 => spBehind K CL CR n
theorem nV_in (l : List Nat) (g : Nat) : inV (nV g) (l.map nV) = l.contains g := by
  unfold inV
  rw [List.any_map, List.contains_eq_any_beq]
  congr 1
  funext x
  show ((x : Int) == (g : Int)) = (g == x)
  rw [Bool.eq_iff_iff, beq_iff_eq, beq_iff_eq]
  omega
theorem flat_nats (l : List Nat) : (l.map nV).all flatV = true := by
  rw [List.all_map, List.all_eq_true]
  intro x _
  rfl
theorem behind_one {CL CR fI f fO fS fA : Addr} {fdI fd fdO fdS fdA : FuncData} {t : Tok} (n k : Nat) (hk : 4 ≤ k) (T : RowC K mg CR fI fdI) (D : Def K mg "rows_behind" sBehind ["lengths", "row"] f fd)
    (GB : FnOk P w K mg base CX0 k f fd ["lengths", "row"] (spBehind' K CL CR n))
    (DO : MDef K CR "longer" "Row.longer" sLonger ["self", "lengths", "face"] fO fdO) (GO : FnOk P w K mg base CX0 4 fO fdO ["self", "lengths", "face"] (spLonger K CL CR))
    (DS : Def K mg "are_beside" sBeside ["one", "other"] fS fdS) (DA : Def K mg "axis_of" sAxis ["face"] fA fdA) (mR : mg "range" = none) (gF : mg "FACES" = some (.int 6 t)) :
    FnOk P w K mg base CX0 (k + 1) f fd ["lengths", "row"] (spBehind K CL CR n) := by
  refine D.fn.ok scBehind (fun vs H Q E h => ?_) (fun cdv A outer s H vs Q E hr h => ?_)
  · obtain ⟨_, _, _, _, _, _, rfl, _⟩ := h
    rfl
  · obtain ⟨G, a, v, box, n1, r, rfl, sG, hB, hR, RL, hlen, q⟩ := h
    have hr4 : Room 4 _ := hr.mono hk
    have hr2 : Room 2 _ := hr.mono (Nat.le_trans (by decide) hk)
    have GS : FnOk P w K mg base CX0 2 fS fdS ["one", "other"] spBeside := ok_beside DS DA
    refine ⟨_, pss_cons (ps_set (i := 2) scBehind.nd rfl (.inl rfl) (pe_lst (pa_cons (pv 1) pa_nil)))
      (pss_cons (ps_for PassesOwn.never rfl (pi_range1 (by rfl) mR (pa_cons (pe_glob (v := .int 6) rfl gF ⟨_, rfl⟩) pa_nil)) (pg_name (i := 3) scBehind.nd rfl (.inl rfl))
        (pss_one (ps_if (PW.pt (pw_and (pt_cmpR op_notIn_seq (pv 3) (pe_fld (pv 1) rfl) rfl) (pw_and1 (pt_val (pe_call GS hr2 rfl DS.g DS.fn.kp DS.bi .nil pass0 (pa_cons (pe_ix ix_seq (pe_fld (pv 1) rfl) (pe_un un_neg pe_int) (fun _ _ => rfl)) (pa_cons (pv 3) pa_nil)))))))
          (pss_one (ps_expr (pe_bm PySem.F.plainAttrs_list PySem.F.slot_list_extend PySem.F.type_list_extend mt_extend (pv 2) (pa_cons (pe_call GB hr rfl D.g D.fn.kp D.bi .nil pass0 (pa_cons (pv 0) (pa_cons (pe_meth (pv 1) T.cl DO.m GO hr4 DO.bi .nil pass0 (pa_cons (pv 0) (pa_cons (pv 3) pa_nil))) pa_nil))) pa_nil)))) pss_nil)))
      (pss_one (ps_ret (pv 2)))), ?_⟩
    refine ⟨_, rfl, (by decide : 1 ≤ sizeLine), fun D0 nD => ?_⟩
    have hR' := hR
    obtain ⟨p, dx, fa, ea, fi, la, es, rfl, hp, hf, _⟩ := hR'
    obtain ⟨i0, hlast⟩ := last_map n1 r
    have g0 : Grow G H G (upd H D0 (.lst [.ref p])) := Grow.tmp sG (same_upd nD)
    refine ⟨6, rfl, by decide, by decide, for_range (lo := 0) (n := 6) (fun i σ H' => ∃ y3 G' vs, σ = [some (.ref a), some (.ref p), some (.ref D0), y3] ∧ Grows (IsRow K CL CR) G H G' H' D0 vs (([] :: tails n (n1 :: r) i).map fun s => mr box n1 (r ++ s)))
      ⟨none, G, [.ref p], rfl, ⟨g0, upd_same, sG.free nD, ?_⟩⟩ ?_ ?_⟩
    · have e0 : tails n (n1 :: r) 0 = [] := by cases n <;> rfl
      rw [e0, List.map_cons, List.append_nil]
      exact .cons hR .nil
    · rintro i σ H1 hi ⟨y3, G1, vs, rfl, W⟩
      rw [Int.zero_add]
      have gh1 := W.g.gg.trans W.g.gh
      have hf1 : H1 fa = some (.lst (i0 ++ [nV (lastOf n1 r)])) := by rw [← hlast]; exact gh1 _ _ hf
      refine ⟨_, rfl, _, rfl, p, CR, dx, _, _, rfl, gh1 _ _ hp, T.cl, T.nF, rowF_f _ _ _ _, fa, _, rfl, .inl (.inl (.inl (gh1 _ _ hf))), rfl, flat_nats _, _, rfl, ?_⟩
      have ein : inV (V.int (i : Int)) ((mr box n1 r).faces.map nV) = (n1 :: r).contains i := nV_in (n1 :: r) i
      rw [ein]
      -- no: the loop goes on
      have no : guard (n1 :: r) i = false → ∀ H2, Same H1 H2 → ∃ y3 G' vs, [some (V.ref a), some (.ref p), some (.ref D0), some (nV i)] = [some (V.ref a), some (.ref p), some (.ref D0), y3] ∧ Grows (IsRow K CL CR) G H G' H2 D0 vs (([] :: tails n (n1 :: r) (i + 1)).map fun s => mr box n1 (r ++ s)) := fun hg H2 s2 => by
        refine ⟨_, G1, vs, rfl, W.g.trans (Grow.tmp W.g.gh s2), s2 _ _ W.d, W.dg, ?_⟩
        have et : tails n (n1 :: r) (i + 1) = tails n (n1 :: r) i := by
          cases n with
          | zero => rfl
          | succ n => rw [tails_next, hg, if_neg Bool.false_ne_true, List.append_nil]
        rw [et]
        exact W.its
      cases hc : (n1 :: r).contains i with
      | true =>
        refine iteF (no ?_ H1 (Same.refl _))
        unfold guard
        rw [hc]
        rfl
      | false =>
        refine iteT ?_
        refine ⟨_, rfl, p, CR, dx, _, _, rfl, gh1 _ _ hp, T.cl, T.nF, rowF_f _ _ _ _, 1, rfl, .inl ⟨fa, _, -1, _, rfl, rfl, .inl (.inl hf1), atI_last _ _, ?_⟩⟩
        refine ⟨_, rfl, lastOf n1 r, i, rfl, _, rfl, ?_⟩
        have eg : guard (n1 :: r) i = Sy73.beside (lastOf n1 r) i := by
          unfold guard
          rw [hc, lastOf_get]
          show Sy73.beside i (lastOf n1 r) = Sy73.beside (lastOf n1 r) i
          unfold Sy73.beside
          exact bne_comm
        rw [← eg]
        cases hg : guard (n1 :: r) i with
        | false => exact iteF (no hg H1 (Same.refl _))
        | true =>
          refine iteT ?_
          have hg' := guard_iff.mp hg
          cases n with
          | zero =>
            rw [guard_full RL (by omega) hi] at hg
            cases hg
          | succ n =>
            refine ⟨_, rfl, .inl ⟨rfl, _, .inl (.inl W.d)⟩, _, rfl, _, rfl, p, dx, _, rfl, gh1 _ _ hp, rowF_no _ _ _ _ _ (by decide +kernel) (by decide +kernel) (by decide +kernel) (by decide +kernel), _, rfl, _, rfl, ?_⟩
            have hlr := RL.len
            refine ⟨G1, .ref p, a, box, n1, r, i, rfl, W.g.gh, IsRow.same W.g.gg _ _ hR, W.g.gg.seq hB.s, hB.b3, hB.b40, RL.l, by omega, hi, hg'.2, fun G2 H2 v2 g2 p2 => ?_⟩
            refine ⟨G2, a, v2, box, n1, r ++ [i], rfl, g2.gh, IsB.same (W.g.gg.trans g2.gg) hB, p2, RL.more hi hg, by rw [List.length_append]; show r.length + 1 + n = 5; omega, fun G3 H3 D3 ps g3 h3 hps => ?_⟩
            have g23 := g2.trans g3
            have d3 : H3 D0 = some (.lst vs) := g23.hh _ _ W.d
            have n3 : G3 D0 = none := g23.new _ W.dg (by rw [W.d]; exact fun z => nomatch z)
            refine ⟨D0, D3, vs, ps, rfl, rfl, d3, g3.gh _ _ h3, ?_, ?_⟩
            · have l1 : vs.length ≤ 7 ^ (n + 1) := by
                rw [paired_len W.its, List.length_map]
                have z := rows_len (n + 1) (n1 :: r)
                rw [rows_is] at z
                refine Nat.le_trans ?_ z
                rw [List.length_cons, List.length_cons]
                refine Nat.succ_le_succ ?_
                show (((List.range i).filter (guard (n1 :: r))).flatMap _).length ≤ (((List.range 6).filter (guard (n1 :: r))).flatMap _).length
                have er : List.range 6 = List.range i ++ (List.range (6 - i)).map (i + ·) := by
                  rw [← List.range_add]
                  congr 1
                  omega
                rw [er, List.filter_append, List.flatMap_append, List.length_append]
                exact Nat.le_add_right _ _
              have l2 : ps.length ≤ 7 ^ n := by
                rw [paired_len hps, List.length_map]
                exact rows_len n _
              have hn4 : n ≤ 4 := by omega
              have p1 : 7 ^ (n + 1) ≤ 7 ^ 5 := Nat.pow_le_pow_right (by decide) (by omega)
              have p2 : 7 ^ n ≤ 7 ^ 5 := Nat.pow_le_pow_right (by decide) (by omega)
              exact Nat.le_trans (Nat.add_le_add (Nat.le_trans l1 p1) (Nat.le_trans l2 p2)) (by decide)
            · refine ⟨some (nV i), G3, vs ++ ps, rfl, (W.g.trans g23).mut nD n3, upd_same, n3, ?_⟩
              have e1 : ([] :: tails (n + 1) (n1 :: r) (i + 1)).map (fun s => mr box n1 (r ++ s)) = ([] :: tails (n + 1) (n1 :: r) i).map (fun s => mr box n1 (r ++ s)) ++ (Sy73.rows n (n1 :: (r ++ [i]))).map fun s => mr box n1 (r ++ [i] ++ s) := by
                rw [tails_next, if_pos hg, ← List.cons_append, List.map_append, List.map_map]
                congr 1
                refine List.map_congr_left fun s _ => ?_
                show mr box n1 (r ++ i :: s) = mr box n1 (r ++ [i] ++ s)
                rw [List.append_assoc]
                rfl
              rw [e1]
              exact paired_append hps (Paired.mapP W.its (IsRow.same g23.gg))
    · rintro σ H1 ⟨y3, G1, vs, rfl, W⟩
      rw [← rows_is] at W
      exact ⟨_, rfl, q _ H1 D0 vs (W.g.keep nD W.d) upd_same (Paired.mapP W.its (IsRow.same (same_upd W.dg)))⟩
end
end Fly

/-! ## W14 -/
namespace Fly
open PySem PySem.Spec PyProof.Rows L2
section
variable {P : Program} {w : World} {K : PySem.W.Frag} {mg : Str → Option Value} {base : Heap}
theorem ok_behind {CL CR fI f fO fS fA : Addr} {fdI fd fdO fdS fdA : FuncData} {t : Tok} (T : RowC K mg CR fI fdI) (D : Def K mg "rows_behind" sBehind ["lengths", "row"] f fd)
    (DO : MDef K CR "longer" "Row.longer" sLonger ["self", "lengths", "face"] fO fdO) (GO : FnOk P w K mg base CX0 4 fO fdO ["self", "lengths", "face"] (spLonger K CL CR))
    (DS : Def K mg "are_beside" sBeside ["one", "other"] fS fdS) (DA : Def K mg "axis_of" sAxis ["face"] fA fdA) (mR : mg "range" = none) (gF : mg "FACES" = some (.int 6 t)) :
    ∀ n, FnOk P w K mg base CX0 (5 + n) f fd ["lengths", "row"] (spBehind K CL CR n)
  | 0 => behind_one (CL := CL) 0 4 (Nat.le_refl _) T D ⟨fun _ _ _ _ h => False.elim h, fun _ _ _ _ _ _ _ _ _ _ _ _ _ h => False.elim h⟩ DO GO DS DA mR gF
  | n + 1 => behind_one (CL := CL) (n + 1) (5 + n) (by omega) T D (ok_behind T D DO GO DS DA mR gF n) DO GO DS DA mR gF
/-! ### rows_from -/
abbrev sFrom : Stmt := topS 32
theorem scFrom : FnScope ["lengths", "point", "found", "face"] ["lengths", "point"] (defScope sFrom) := ⟨rfl, rfl, rfl, by decide +kernel, rfl, by decide +kernel, by decide +kernel⟩
def spFrom (K : PySem.W.Frag) (CL CR : Addr) : Sp := fun vs H Q _ => ∃ (G : Hp) (a b : Addr) (box p : List Nat), vs = [.ref a, .ref b] ∧ Same G H ∧ IsB K G a box ∧ IsP K G b p ∧
  ∀ G' H' D ps, Grow G H G' H' → G' D = some (.lst ps) → Paired (IsRow K CL CR G') ps ((rowsL box p).map (mrL box)) → Q (.ref D) H'
def rowsTo (box p : List Nat) (i : Nat) : List (List Nat) := ((Sy73.facesOf box p).take i).flatMap fun f => (Sy73.rows 5 [f]).map fun r => f :: r
theorem rowsTo_next {box p : List Nat} {i f : Nat} (h : (Sy73.facesOf box p)[i]? = some f) : rowsTo box p (i + 1) = rowsTo box p i ++ (Sy73.rows 5 [f]).map fun r => f :: r := by
  unfold rowsTo
  rw [take_next h, List.flatMap_append, List.flatMap_cons, List.flatMap_nil, List.append_nil]
theorem rowsTo_len (box p : List Nat) (i : Nat) : (rowsTo box p i).length ≤ 200000 := by
  unfold rowsTo
  refine Nat.le_trans (flat_len (7 ^ 5) _ _ fun g _ => by rw [List.length_map]; exact rows_len 5 [g]) ?_
  have h : ((Sy73.facesOf box p).take i).length ≤ 6 := by
    have h1 := List.length_filter_le (Sy73.onFace box p) (List.range 6)
    rw [List.length_range] at h1
    rw [List.length_take]
    exact Nat.le_trans (Nat.min_le_right _ _) h1
  exact Nat.le_trans (Nat.mul_le_mul_right _ h) (by decide)
theorem ok_from {CL CR f fO fB fR : Addr} {fd fdO fdB fdR : FuncData} (D : Def K mg "rows_from" sFrom ["lengths", "point"] f fd)
    (DO : Def K mg "faces_of" sFacesOf ["lengths", "point"] fO fdO) (GO : FnOk P w K mg base CX0 3 fO fdO ["lengths", "point"] (spFacesOf K))
    (DB : Def K mg "rows_behind" sBehind ["lengths", "row"] fB fdB) (GB : FnOk P w K mg base CX0 10 fB fdB ["lengths", "row"] (spBehind K CL CR 5))
    (DR : Def K mg "row_of" sRowOf ["lengths", "faces"] fR fdR) (GR : FnOk P w K mg base CX0 5 fR fdR ["lengths", "faces"] (spRowOf K CL CR)) :
    FnOk P w K mg base CX0 11 f fd ["lengths", "point"] (spFrom K CL CR) := by
  refine D.fn.ok scFrom (fun vs H Q E h => ?_) (fun cdv A outer s H vs Q E hr h => ?_)
  · obtain ⟨_, _, _, _, _, rfl, _⟩ := h
    rfl
  · obtain ⟨G, a, b, box, p, rfl, sG, hB, hP, q⟩ := h
    have hr3 : Room 3 _ := hr.mono (by decide)
    have hr5 : Room 5 _ := hr.mono (by decide)
    refine ⟨_, pss_cons (ps_set (i := 2) scFrom.nd rfl (.inl rfl) (pe_lst pa_nil))
      (pss_cons (ps_for PassesOwn.never rfl (pi_list (pe_call GO hr3 rfl DO.g DO.fn.kp DO.bi .nil pass0 (pa_cons (pv 0) (pa_cons (pv 1) pa_nil)))) (pg_name (i := 3) scFrom.nd rfl (.inl rfl))
        (pss_one (ps_expr (pe_bm PySem.F.plainAttrs_list PySem.F.slot_list_extend PySem.F.type_list_extend mt_extend (pv 2) (pa_cons (pe_call GB hr rfl DB.g DB.fn.kp DB.bi .nil pass0 (pa_cons (pv 0)
          (pa_cons (pe_call GR hr5 rfl DR.g DR.fn.kp DR.bi .nil pass0 (pa_cons (pv 0) (pa_cons (pe_lst (pa_cons (pv 3) pa_nil)) pa_nil))) pa_nil))) pa_nil)))))
      (pss_one (ps_ret (pv 2)))), ?_⟩
    refine ⟨Nat.zero_le _, fun D0 nD => ?_⟩
    have g0 : Grow G H G (upd H D0 (.lst [])) := Grow.tmp sG (same_upd nD)
    refine ⟨_, rfl, _, rfl, a, b, box, p, rfl, g0.gh.seq hB.s, hB.b3, Same.seqA g0.gh hP.s, hP.p3, fun H1 F s1 nF hF => ?_⟩
    have nFD : F ≠ D0 := fun z => by rw [z, upd_same] at nF; cases nF
    have gF : Grow G H (upd G F (.lst ((Sy73.facesOf box p).map nV))) H1 := (g0.trans (Grow.tmp g0.gh s1)).keep (by rw [upd_ne nFD] at nF; exact nF) hF
    refine ⟨F, rfl, ⟨_, .inl (.inl hF)⟩, for_list (K := K) (a := F) (xs := (Sy73.facesOf box p).map nV) (fun i σ H' => ∃ y3 G' vs, σ = [some (.ref a), some (.ref b), some (.ref D0), y3] ∧ Grows (IsRow K CL CR) G H G' H' D0 vs ((rowsTo box p i).map (mrL box)) ∧ G' F = some (.lst ((Sy73.facesOf box p).map nV)))
      ⟨none, _, [], rfl, ⟨gF, s1 _ _ upd_same, by rw [upd_ne (Ne.symm nFD)]; exact sG.free nD, .nil⟩, upd_same⟩ (fun i σ H' _ ⟨y3, G', vs, _, W, hf⟩ => .inl (.inl (W.g.gh _ _ hf))) ?_ ?_⟩
    · rintro i y σ H2 hi ⟨y3, G2, vs, rfl, W, hf⟩
      rw [nV_map] at hi
      obtain ⟨m, hm, rfl⟩ := Option.map_eq_some_iff.mp hi
      have m6 : m < 6 := facesOf_lt (List.mem_of_getElem? hm)
      refine ⟨_, rfl, .inl ⟨rfl, _, .inl (.inl W.d)⟩, _, rfl, _, rfl, _, rfl, (by decide : 1 ≤ sizeLine), fun L nL => ?_⟩
      have gL := Grow.add (o := .lst [nV m]) W.g.gh nL
      refine ⟨_, a, L, box, m, [], rfl, gL.gh, IsB.same (W.g.gg.trans gL.gg) hB, .inl (.inl upd_same), m6, Nat.zero_le _, fun G3 H3 v3 g3 p3 => ?_⟩
      refine ⟨G3, a, v3, box, m, [], rfl, g3.gh, IsB.same ((W.g.gg.trans gL.gg).trans g3.gg) hB, p3, row1 m6, rfl, fun G4 H4 D4 ps g4 h4 hps => ?_⟩
      have gAll := (gL.trans g3).trans g4
      have d4 : H4 D0 = some (.lst vs) := gAll.hh _ _ W.d
      have n4 : G4 D0 = none := gAll.new _ W.dg (by rw [W.d]; exact fun z => nomatch z)
      refine ⟨D0, D4, vs, ps, rfl, rfl, d4, g4.gh _ _ h4, ?_, ?_⟩
      · rw [paired_len W.its, paired_len hps, List.length_map, List.length_map]
        exact Nat.le_trans (Nat.add_le_add (rowsTo_len box p i) (rows_len 5 [m])) (by decide)
      · refine ⟨some (nV m), G4, vs ++ ps, rfl, ⟨(W.g.trans gAll).mut nD n4, upd_same, n4, ?_⟩, gAll.gg _ _ hf⟩
        rw [rowsTo_next hm, List.map_append, List.map_map]
        exact paired_append hps (Paired.mapP W.its (IsRow.same gAll.gg))
    · rintro σ H2 ⟨y3, G2, vs, rfl, W, hf⟩
      have e : rowsTo box p ((Sy73.facesOf box p).map nV).length = rowsL box p := by
        unfold rowsTo rowsL
        rw [List.length_map, List.take_length]
      rw [e] at W
      exact ⟨_, rfl, q _ H2 D0 vs (W.g.keep nD W.d) upd_same (Paired.mapP W.its (IsRow.same (same_upd W.dg)))⟩
/-! ### straight_ways -/
abbrev sSW : Stmt := topS 33
theorem scSW : FnScope ["lengths", "rows", "one", "other", "found", "k", "row", "square"] ["lengths", "rows", "one", "other"] (defScope sSW) := ⟨rfl, rfl, rfl, by decide +kernel, rfl, by decide +kernel, by decide +kernel⟩
/-- the straight way over a row, as the program reckons it -/
def wayP (box p q : List Nat) (L : List Nat) : Option Int := if Sy73.onFace box q (lastL L) = true then sqOf (mrL box L) p q else none
def ts3 (c : Cand) : List Int := [c.2.1, (c.1.length : Int), (c.2.2 : Int)]
structure SwPre (K : PySem.W.Frag) (CL CR : Addr) (G H : Hp) (a c b1 b2 : Addr) (box : List Nat) (Ls : List (List Nat)) (p q : List Nat) : Prop where
  sG : Same G H
  hB : IsB K G a box
  hR : ∃ rs, G c = some (.lst rs) ∧ Paired (IsRow K CL CR G) rs (Ls.map (mrL box))
  val : ∀ L ∈ Ls, RowLL L
  len : Ls.length ≤ 200000
  hp : IsP K G b1 p
  hq : IsP K G b2 q
def spSW (K : PySem.W.Frag) (CL CR : Addr) : Sp := fun vs H Q _ => ∃ (G : Hp) (a c b1 b2 : Addr) (box : List Nat) (Ls : List (List Nat)) (p q : List Nat), vs = [.ref a, .ref c, .ref b1, .ref b2] ∧ SwPre K CL CR G H a c b1 b2 box Ls p q ∧
  ∀ G' H' D ps, Grow G H G' H' → G' D = some (.lst ps) → Paired (IsTs K G') ps ((cL (wayP box p q) Ls 0).map ts3) → Q (.ref D) H'
theorem IsTs.same {K : PySem.W.Frag} {H H' : Hp} (s : Same H H') (v : V) (t : List Int) (h : IsTs K H v t) : IsTs K H' v t :=
  let ⟨b, e, q⟩ := h
  ⟨b, e, Same.seqT s q⟩
theorem oneC_len (way : List Nat → Option Int) (L : List Nat) (k : Nat) : (oneC way L k).length ≤ 1 := by
  unfold oneC
  cases way L <;> simp
theorem cL_len (way : List Nat → Option Int) : ∀ (Ls : List (List Nat)) (k : Nat), (cL way Ls k).length ≤ Ls.length
  | [], _ => Nat.le_refl _
  | L :: r, k => by
    show (oneC way L k ++ cL way r (k + 1)).length ≤ r.length + 1
    rw [List.length_append]
    have h1 := oneC_len way L k
    have h2 := cL_len way r (k + 1)
    omega
theorem ok_sw {CL CR fI f fO fS : Addr} {fdI fd fdO fdS : FuncData} (T : RowC K mg CR fI fdI) (D : Def K mg "straight_ways" sSW ["lengths", "rows", "one", "other"] f fd)
    (DO : Def K mg "is_on" sIsOn ["lengths", "point", "face"] fO fdO) (GO : FnOk P w K mg base CX0 2 fO fdO ["lengths", "point", "face"] (spIsOn K))
    (DS : MDef K CR "square" "Row.square" sSquare ["self", "one", "other"] fS fdS) (GS : FnOk P w K mg base CX0 3 fS fdS ["self", "one", "other"] (spSquare K CL CR))
    (mE : mg "enumerate" = none) (mLen : mg "len" = none) :
    FnOk P w K mg base CX0 4 f fd ["lengths", "rows", "one", "other"] (spSW K CL CR) := by
  refine D.fn.ok scSW (fun vs H Q E h => ?_) (fun cdv A outer s H vs Q E hr h => ?_)
  · obtain ⟨_, _, _, _, _, _, _, _, _, rfl, _⟩ := h
    rfl
  · obtain ⟨G, a, c, b1, b2, box, Ls, p, pq, rfl, S, q⟩ := h
    have hr2 : Room 2 _ := hr.mono (by decide)
    refine ⟨_, pss_cons (ps_set (i := 4) scSW.nd rfl (.inl rfl) (pe_lst pa_nil))
      (pss_cons (ps_for PassesOwn.never rfl (pi_enum (by rfl) mE (pa_cons (pv 1) pa_nil)) (pg_tup rfl (pgs_cons (pg_name (i := 5) scSW.nd rfl (.inl rfl)) (pgs_cons (pg_name (i := 6) scSW.nd rfl (.inl rfl)) pgs_nil)))
        (pss_one (ps_if (pt_val (pe_call GO hr2 rfl DO.g DO.fn.kp DO.bi .nil pass0 (pa_cons (pv 0) (pa_cons (pv 3) (pa_cons (pe_ix ix_seq (pe_fld (pv 6) rfl) (pe_un un_neg pe_int) (fun _ _ => rfl)) pa_nil)))))
          (pss_cons (ps_set (i := 7) scSW.nd rfl (.inl rfl) (pe_meth (pv 6) T.cl DS.m GS hr DS.bi .nil pass0 (pa_cons (pv 2) (pa_cons (pv 3) pa_nil))))
            (pss_one (ps_if (pt_cmpR op_notN (pv 7) pe_non (nomark _)) (pss_one (ps_expr (pe_bm PySem.F.plainAttrs_list PySem.F.slot_list_append PySem.F.type_list_append mt_append (pv 4)
              (pa_cons (pe_tup (pa_cons (pv 7) (pa_cons (pe_callB call_len_seq (by rfl) mLen PySem.boot_len (pa_cons (pe_fld (pv 6) rfl) pa_nil)) (pa_cons (pv 5) pa_nil)))) pa_nil)))) pss_nil))) pss_nil)))
      (pss_one (ps_ret (pv 4)))), ?_⟩
    obtain ⟨rs, hrs, hprs⟩ := S.hR
    have sG := S.sG
    have lrs : rs.length = Ls.length := (paired_len hprs).trans (List.length_map ..)
    refine ⟨Nat.zero_le _, fun D0 nD => ?_⟩
    have g0 : Grow G H G (upd H D0 (.lst [])) := Grow.tmp sG (same_upd nD)
    refine ⟨_, rfl, c, rs, rfl, .inl (.inl (g0.gh _ _ hrs)), for_it (walk_enum (K := K) (a := c) (xs := rs)) (fun i σ H' => ∃ y5 y6 y7 G' vs, σ = [some (.ref a), some (.ref c), some (.ref b1), some (.ref b2), some (.ref D0), y5, y6, y7] ∧
        Grows (IsTs K) G H G' H' D0 vs ((cL (wayP box p pq) (Ls.take i) 0).map ts3))
      ⟨none, none, none, G, [], rfl, ⟨g0, upd_same, sG.free nD, .nil⟩⟩ (fun i σ H' _ ⟨_, _, _, G', vs, _, W⟩ => .inl (.inl ((W.g.gg.trans W.g.gh) _ _ hrs))) ?_ ?_⟩
    · rintro i v σ H1 H1' hi ⟨y5, y6, y7, G1, vs, rfl, W⟩ ⟨T0, x, y, rfl, hT, rfl, hx, hy⟩
      have hx' : V.int (i : Nat) = x := Option.some.inj hx
      subst hx'
      replace hy : rs[i]? = some y := hy
      obtain ⟨m, hm, hrow⟩ := paired_get hprs hy
      rw [List.getElem?_map] at hm
      obtain ⟨L, hL, rfl⟩ := Option.map_eq_some_iff.mp hm
      have hv := S.val L (List.mem_of_getElem? hL)
      obtain ⟨n1, r, rfl⟩ : ∃ n1 r, L = n1 :: r := by
        cases L with
        | nil => exact hv.elim
        | cons n1 r => exact ⟨n1, r, rfl⟩
      have RL : RowL n1 r := hv
      have hlr := RL.len
      have gT := W.g.trans (Grow.tmp W.g.gh (same_upd hT (o := .tup [V.int (i : Nat), y])))
      have ghT := gT.gg.trans gT.gh
      have dT : upd H1 T0 (.tup [V.int (i : Nat), y]) D0 = some (.lst vs) := (upd_ne (ne_of_none W.d hT)).trans W.d
      have nxt : cL (wayP box p pq) (Ls.take (i + 1)) 0 = cL (wayP box p pq) (Ls.take i) 0 ++ oneC (wayP box p pq) (n1 :: r) i := by
        rw [take_next hL, cL_snoc, List.length_take, Nat.zero_add, Nat.min_eq_left (by omega)]
      have skip : wayP box p pq (n1 :: r) = none → ∀ H2 y7, Same (upd H1 T0 (.tup [V.int (i : Nat), y])) H2 → ∃ y5 y6 y7' G' vs, [some (V.ref a), some (.ref c), some (.ref b1), some (.ref b2), some (.ref D0), some (V.int (i : Nat)), some y, y7] = [some (V.ref a), some (.ref c), some (.ref b1), some (.ref b2), some (.ref D0), y5, y6, y7'] ∧
          Grows (IsTs K) G H G' H2 D0 vs ((cL (wayP box p pq) (Ls.take (i + 1)) 0).map ts3) := fun hw H2 y7 s2 => by
        refine ⟨_, _, _, G1, vs, rfl, gT.trans (Grow.tmp gT.gh s2), s2 _ _ dT, W.dg, ?_⟩
        have e : oneC (wayP box p pq) (n1 :: r) i = [] := by unfold oneC; rw [hw]
        rw [nxt, e, List.append_nil]
        exact W.its
      have hrow' := hrow
      obtain ⟨ar, dxr, far, ear, fir, lar, esr, rfl, hpr, hfr, _⟩ := hrow'
      obtain ⟨i0, hlast⟩ := last_map n1 r
      have hfr' : G far = some (.lst (i0 ++ [nV (lastOf n1 r)])) := by rw [← hlast]; exact hfr
      refine ⟨T0, _, rfl, .inl (.inl upd_same), rfl, _, _, rfl, _, _, rfl, rfl, ?_⟩
      refine ⟨_, rfl, _, rfl, _, rfl, ar, CR, dxr, _, _, rfl, ghT _ _ hpr, T.cl, T.nF, rowF_f _ _ _ _, 1, rfl, .inl ⟨far, _, -1, _, rfl, rfl, .inl (.inl (ghT _ _ hfr')), atI_last _ _, ?_⟩⟩
      refine ⟨a, b2, box, pq, lastOf n1 r, rfl, ghT.seq S.hB.s, S.hB.b3, Same.seqA ghT S.hq.s, S.hq.p3, RL.l.last, _, rfl, ?_⟩
      have ew : wayP box p pq (n1 :: r) = if Sy73.onFace box pq (lastOf n1 r) = true then sqOf (mr box n1 r) p pq else none := rfl
      cases ho : Sy73.onFace box pq (lastOf n1 r) with
      | false =>
        rw [ho, if_neg Bool.false_ne_true] at ew
        exact iteF (skip ew _ _ (Same.refl _))
      | true =>
        rw [ho, if_pos rfl] at ew
        refine iteT ?_
        refine ⟨_, rfl, ar, dxr, _, rfl, ghT _ _ hpr, rowF_no _ _ _ _ _ (by decide +kernel) (by decide +kernel) (by decide +kernel) (by decide +kernel), _, rfl, _, rfl, ?_⟩
        refine ⟨G, .ref ar, b1, b2, box, n1, r, p, pq, rfl, ghT, hrow, S.hp, S.hq, S.hB.b40, RL.l, by omega, fun H2 s2 => ?_⟩
        refine ⟨_, rfl, rfl, _, rfl, ?_⟩
        cases hs : sqOf (mr box n1 r) p pq with
        | none =>
          rw [hs] at ew
          exact iteF (skip ew H2 _ s2)
        | some d =>
          rw [hs] at ew
          refine iteT ?_
          have g2 := gT.trans (Grow.tmp gT.gh s2)
          have gh2 := g2.gg.trans g2.gh
          have d2 : H2 D0 = some (.lst vs) := s2 _ _ dT
          refine ⟨_, rfl, .inl ⟨rfl, _, .inl (.inl d2)⟩, _, rfl, _, rfl, ar, CR, dxr, _, _, rfl, gh2 _ _ hpr, T.cl, T.nF, rowF_f _ _ _ _, far, _, rfl, .inl (.inl (.inl (gh2 _ _ hfr))), _, rfl, (by decide : 3 ≤ sizeLine), fun T2 hT2 => ?_⟩
          have neD : D0 ≠ T2 := ne_of_none d2 hT2
          refine ⟨D0, vs, _, rfl, rfl, (upd_ne neD).trans d2, ?_, ?_⟩
          · rw [paired_len W.its, List.length_map]
            have h1 := cL_len (wayP box p pq) (Ls.take i) 0
            have h2 : (Ls.take i).length ≤ 200000 := by rw [List.length_take]; have := S.len; omega
            exact Nat.lt_of_le_of_lt (Nat.le_trans h1 h2) (by decide)
          · refine ⟨_, _, _, upd G1 T2 (.tup [.int d, .int (((mr box n1 r).faces.map nV).length : Nat), .int (i : Nat)]), vs ++ [.ref T2], rfl, (g2.trans (Grow.add g2.gh hT2)).mut nD ((upd_ne neD).trans W.dg), upd_same, (upd_ne neD).trans W.dg, ?_⟩
            have e : oneC (wayP box p pq) (n1 :: r) i = [(n1 :: r, d, i)] := by unfold oneC; rw [ew]
            rw [nxt, e, List.map_append]
            refine paired_snoc ⟨T2, rfl, .inl (.inl ?_)⟩ (Paired.mapP W.its (IsTs.same (same_upd (g2.gh.free hT2))))
            rw [upd_same, List.length_map]
            rfl
    · rintro σ H1 ⟨y5, y6, y7, G1, vs, rfl, W⟩
      rw [lrs, List.take_length] at W
      exact ⟨_, rfl, q _ H1 D0 vs (W.g.keep nD W.d) upd_same (Paired.mapP W.its (IsTs.same (same_upd W.dg)))⟩
end
end Fly

/-! ## W15 -/
namespace Fly
open PySem PySem.Spec PyProof.Rows L2
theorem lex3 {a b : Cand} (h : HT.lexLt (ts3 a) (ts3 b) = false) : ¬ LtC a b := by
  have e : HT.lexLt (ts3 a) (ts3 b) = if a.2.1 = b.2.1 then (if (a.1.length : Int) = (b.1.length : Int) then (if (a.2.2 : Int) = (b.2.2 : Int) then false else decide ((a.2.2 : Int) < (b.2.2 : Int))) else decide ((a.1.length : Int) < (b.1.length : Int))) else decide (a.2.1 < b.2.1) := rfl
  rw [e] at h
  unfold LtC
  by_cases h1 : a.2.1 = b.2.1
  · rw [if_pos h1] at h
    by_cases h2 : (a.1.length : Int) = (b.1.length : Int)
    · rw [if_pos h2] at h
      by_cases h3 : (a.2.2 : Int) = (b.2.2 : Int)
      · omega
      · rw [if_neg h3, decide_eq_false_iff_not] at h
        omega
    · rw [if_neg h2, decide_eq_false_iff_not] at h
      omega
  · rw [if_neg h1, decide_eq_false_iff_not] at h
    omega
/-- over the rows from a point the program's straight ways are the specification's -/
theorem wayP_is {box p q : List Nat} (B : PosBox box) (W : Within box p) : cL (wayP box p q) (rowsL box p) 0 = cands box p q := by
  refine cL_ext _ _ fun L hL => ?_
  have hv := rowsL_valid L hL
  cases L with
  | nil => exact hv.elim
  | cons f r =>
    have R : RowL f r := hv
    show (if Sy73.onFace box q (lastOf f r) = true then sqOf (mr box f r) p q else none) = (if Sy73.onFace box q (lastOf f r) = true then Sy73.along box p q (f :: r) else none)
    rw [sq_is B W R.l R.nd]
section
variable {P : Program} {w : World} {K : PySem.W.Frag} {mg : Str → Option Value} {base : Heap}
/-! ### shortest -/
abbrev sShort : Stmt := topS 34
theorem scShort : FnScope ["lengths", "rows", "one", "other"] ["lengths", "rows", "one", "other"] (defScope sShort) := ⟨rfl, rfl, rfl, by decide +kernel, rfl, by decide +kernel, by decide +kernel⟩
def spShort (K : PySem.W.Frag) (CL CR : Addr) : Sp := fun vs H Q _ => ∃ (G : Hp) (a c b1 b2 : Addr) (box : List Nat) (Ls : List (List Nat)) (p q : List Nat), vs = [.ref a, .ref c, .ref b1, .ref b2] ∧ SwPre K CL CR G H a c b1 b2 box Ls p q ∧ cL (wayP box p q) Ls 0 ≠ [] ∧
  ∀ G' H' v (x : Cand), Grow G H G' H' → IsTs K G' v (ts3 x) → x ∈ cL (wayP box p q) Ls 0 → (∀ d ∈ cL (wayP box p q) Ls 0, ¬ LtC d x) → Q v H'
theorem ok_short {CL CR f fS : Addr} {fd fdS : FuncData} (D : Def K mg "shortest" sShort ["lengths", "rows", "one", "other"] f fd)
    (DS : Def K mg "straight_ways" sSW ["lengths", "rows", "one", "other"] fS fdS) (GS : FnOk P w K mg base CX0 4 fS fdS ["lengths", "rows", "one", "other"] (spSW K CL CR)) (mMin : mg "min" = none) :
    FnOk P w K mg base CX0 5 f fd ["lengths", "rows", "one", "other"] (spShort K CL CR) := by
  refine D.fn.ok scShort (fun vs H Q E h => ?_) (fun cdv A outer s H vs Q E hr h => ?_)
  · obtain ⟨_, _, _, _, _, _, _, _, _, rfl, _⟩ := h
    rfl
  · obtain ⟨G, a, c, b1, b2, box, Ls, p, pq, rfl, S, hne, q⟩ := h
    refine ⟨_, pss_one (ps_ret (pe_callB (cr_minT rfl (hu_of hr)) (by rfl) mMin (by decide +kernel) (pa_cons (pe_call GS hr rfl DS.g DS.fn.kp DS.bi .nil pass0 (pa_cons (pv 0) (pa_cons (pv 1) (pa_cons (pv 2) (pa_cons (pv 3) pa_nil))))) pa_nil))), ?_⟩
    refine ⟨_, rfl, _, rfl, _, rfl, _, rfl, G, a, c, b1, b2, box, Ls, p, pq, rfl, S, fun G1 H1 D ps g1 hD hps => ?_⟩
    refine ⟨D, ps, _, rfl, .inl (.inl (g1.gh _ _ hD)), Paired.mapP hps (IsTs.same g1.gh), by rw [List.length_map]; exact List.length_pos_iff.mpr hne, fun i v t hv ht least => ?_⟩
    rw [List.getElem?_map] at ht
    obtain ⟨x, hx, rfl⟩ := Option.map_eq_some_iff.mp ht
    obtain ⟨t', ht', hts⟩ := paired_get hps hv
    rw [List.getElem?_map, hx] at ht'
    have e : ts3 x = t' := Option.some.inj ht'
    subst e
    exact q G1 H1 v x g1 hts (List.mem_of_getElem? hx) fun d hd => lex3 (least _ (List.mem_map.mpr ⟨d, hd, rfl⟩))
/-! ### all_squares -/
abbrev sAllSq : Stmt := topS 35
theorem scAllSq : FnScope ["lengths", "one", "rows", "point"] ["lengths", "one"] (defScope sAllSq) := ⟨rfl, rfl, rfl, by decide +kernel, rfl, by decide +kernel, by decide +kernel⟩
def IsPS (K : PySem.W.Frag) (H : Hp) (v : V) (x : List Nat × Int) : Prop := ∃ b pv, v = .ref b ∧ SqT K H b [pv, .int x.2] ∧ IsNT K H pv x.1
theorem IsPS.same {K : PySem.W.Frag} {H H' : Hp} (s : Same H H') (v : V) (x : List Nat × Int) (h : IsPS K H v x) : IsPS K H' v x :=
  let ⟨b, pv, e, q1, q2⟩ := h
  ⟨b, pv, e, Same.seqT s q1, IsNT.same s _ _ q2⟩
def sqsOf (box p : List Nat) : List (List Nat × Int) := (Sy73.points box).map fun q => (q, Sy73.dist box p q)
def spAllSq (K : PySem.W.Frag) : Sp := fun vs H Q _ => ∃ (G : Hp) (a b : Addr) (box p : List Nat), vs = [.ref a, .ref b] ∧ Same G H ∧ IsB K G a box ∧ IsP K G b p ∧ PosBox box ∧ OnBox box p ∧
  ∀ G' H' D ps, Grow G H G' H' → G' D = some (.lst ps) → Paired (IsPS K G') ps (sqsOf box p) → Q (.ref D) H'
theorem on_isP {G : Hp} {a b : Addr} {box p : List Nat} (hB : IsB K G a box) (h : OnBox box p) (hs : SqA K G b (p.map nV)) : IsP K G b p :=
  ⟨hs, h.p3, fun k hk => Nat.le_trans (h.le k hk) (hB.b40 k hk)⟩
theorem points_len {box : List Nat} (b40 : ∀ k, k < 3 → Sy73.nth box k ≤ 40) : (Sy73.points box).length ≤ 41 * (41 * 41) := by
  rw [points_is]
  refine Nat.le_trans (List.length_filter_le _ _) ?_
  rw [len_rowX]
  have a := b40 0 (by decide)
  have b := b40 1 (by decide)
  have c := b40 2 (by decide)
  exact Nat.mul_le_mul (by omega) (Nat.mul_le_mul (by omega) (by omega))
theorem ok_allSq {CL CR f fF fP fS : Addr} {fd fdF fdP fdS : FuncData} (D : Def K mg "all_squares" sAllSq ["lengths", "one"] f fd)
    (DF : Def K mg "rows_from" sFrom ["lengths", "point"] fF fdF) (GF : FnOk P w K mg base CX0 11 fF fdF ["lengths", "point"] (spFrom K CL CR))
    (DP : Def K mg "all_points" sAllPoints ["lengths"] fP fdP) (GP : FnOk P w K mg base CX0 5 fP fdP ["lengths"] (spAllPoints K))
    (DS : Def K mg "shortest" sShort ["lengths", "rows", "one", "other"] fS fdS) (GS : FnOk P w K mg base CX0 5 fS fdS ["lengths", "rows", "one", "other"] (spShort K CL CR)) :
    FnOk P w K mg base CX0 12 f fd ["lengths", "one"] (spAllSq K) := by
  refine D.fn.ok scAllSq (fun vs H Q E h => ?_) (fun cdv A outer s H vs Q E hr h => ?_)
  · obtain ⟨_, _, _, _, _, rfl, _⟩ := h
    rfl
  · obtain ⟨G, a, b, box, p, rfl, sG, hB, hP, pos, on, q⟩ := h
    have hr5 : Room 5 _ := hr.mono (by decide)
    refine ⟨_, pss_cons (ps_set (i := 2) scAllSq.nd rfl (.inr rfl) (pe_call GF hr rfl DF.g DF.fn.kp DF.bi .nil pass0 (pa_cons (pv 0) (pa_cons (pv 1) pa_nil))))
      (pss_one (ps_ret (pe_lc (own := [("point", 3)]) (g := gName 3) (by rfl) scAllSq.nd (pi_list (pe_call GP hr5 rfl DP.g DP.fn.kp DP.bi .nil pass0 (pa_cons (pv 0) pa_nil)))
        (blkOk_by (N := ["lengths", "one", "rows", "point"]) (sc := defScope sAllSq) (by decide +kernel)) (fun _ _ _ _ _ => pg_name (i := 3) scAllSq.nd rfl (Or.inl rfl)) (fun _ _ _ _ _ => pts_nil)
        (fun _ _ _ _ _ => pe_tup (pa_cons (pv 3) (pa_cons (pe_ix (show IxR _ (rIx K) from ix_seq) (pe_call GS hr5 rfl DS.g DS.fn.kp DS.bi .nil pass0 (pa_cons (pv 0) (pa_cons (pv 2) (pa_cons (pv 1) (pa_cons (pv 3) pa_nil))))) pe_int (fun _ _ => rfl)) pa_nil)))))), ?_⟩
    refine ⟨_, rfl, _, rfl, G, a, b, box, p, rfl, sG, hB, hP, fun G1 H1 R rs g1 hR hrs => ?_⟩
    refine ⟨_, rfl, G1, a, box, rfl, g1.gh, g1.gg.seq hB.s, hB.b3, hB.b40, fun G2 H2 L ps g2 hL hps => ?_⟩
    have g12 := g1.trans g2
    refine ⟨L, rfl, ⟨_, .inl (.inl (g2.gh _ _ hL))⟩, fun D0 nD => lc_list (K := K) (a := L) (xs := ps) (fun i H' => ∃ G' vs, Grows (IsPS K) G2 H2 G' H' D0 vs ((sqsOf box p).take i))
      ⟨G2, [], Grow.tmp g2.gh (same_upd nD), upd_same, g2.gh.free nD, .nil⟩ (fun i H' _ ⟨G', vs, W⟩ => .inl (.inl ((W.g.gg.trans W.g.gh) _ _ hL))) ?_ ?_⟩
    · rintro i x H3 hx ⟨G3, vs, W⟩
      obtain ⟨pt, hpt, hnt⟩ := paired_get hps hx
      have onq : OnBox box pt := points_on (List.mem_of_getElem? hpt)
      obtain ⟨bp, rfl, tp⟩ := hnt
      have s23 := W.g.gg
      have s13 := g2.gg.trans s23
      have s03 := g12.gg.trans s23
      have hB3 := IsB.same s03 hB
      have wis : cL (wayP box p pt) (rowsL box p) 0 = cands box p pt := wayP_is pos on.le
      refine ⟨rfl, _, rfl, _, rfl, _, rfl, _, rfl, _, rfl, ?_⟩
      refine ⟨G3, a, R, b, bp, box, rowsL box p, p, pt, rfl, ⟨W.g.gh, hB3, ⟨rs, s13 _ _ hR, Paired.mapP hrs (IsRow.same s13)⟩, rowsL_valid, rowsL_len box p, IsP.same s03 hP, on_isP hB3 onq (.inr (Same.seqT s23 tp))⟩, ?_, fun G4 H4 v4 c g4 ht hc hl => ?_⟩
      · rw [wis]
        exact cands_some hB.b3 pos on onq
      · rw [wis] at hc hl
        have hd := dist_of (least_is hc hl).1
        obtain ⟨b4, rfl, t4⟩ := ht
        refine ix_of (i := 0) (.inr (Same.seqT g4.gh t4)) (v := .int c.2.1) rfl ⟨(by decide : 2 ≤ sizeLine), fun T hT => ?_⟩
        have d4 : H4 D0 = some (.lst vs) := g4.hh _ _ W.d
        have n4 : G4 D0 = none := g4.new _ W.dg (by rw [W.d]; exact fun z => nomatch z)
        have neD : D0 ≠ T := ne_of_none d4 hT
        have ei : (sqsOf box p)[i]? = some (pt, Sy73.dist box p pt) := by
          unfold sqsOf
          rw [List.getElem?_map, hpt]
          rfl
        refine ⟨vs, (upd_ne neD).trans d4, ?_, upd G4 T (.tup [.ref bp, .int c.2.1]), vs ++ [.ref T], ((W.g.trans g4).trans (Grow.add g4.gh hT)).mut nD ((upd_ne neD).trans n4), upd_same, (upd_ne neD).trans n4, ?_⟩
        · rw [paired_len W.its, List.length_take]
          have := points_len hB.b40
          have l : (sqsOf box p).length ≤ 41 * (41 * 41) := by unfold sqsOf; rw [List.length_map]; exact this
          exact Nat.lt_of_le_of_lt (Nat.le_trans (Nat.min_le_right _ _) l) (by decide)
        · rw [take_next ei]
          have sx := g4.gg.trans (same_upd (g4.gh.free hT) (o := .tup [.ref bp, .int c.2.1]))
          refine paired_snoc ⟨T, .ref bp, rfl, .inl (.inl ?_), bp, rfl, Same.seqT sx (Same.seqT s23 tp)⟩ (Paired.mapP W.its (IsPS.same sx))
          rw [upd_same, hd]
    · rintro H3 ⟨G3, vs, W⟩
      have e : ps.length = (sqsOf box p).length := by unfold sqsOf; rw [List.length_map]; exact paired_len hps
      rw [e, List.take_length] at W
      exact q _ H3 D0 vs (g12.trans (W.g.keep nD W.d)) upd_same (Paired.mapP W.its (IsPS.same (same_upd W.dg)))
end
end Fly

/-! ## W16 -/
namespace Fly
open PySem PySem.Spec PyProof.Rows L2
section
variable {P : Program} {w : World} {K : PySem.W.Frag} {mg : Str → Option Value} {base : Heap}
/-! ### the error -/
abbrev sRefInit : Stmt := inClass (topS 44) 0
theorem scRefInit : FnScope ["self", "refusal"] ["self", "refusal"] (defScope sRefInit) := ⟨rfl, rfl, rfl, by decide +kernel, rfl, by decide +kernel, by decide +kernel⟩
structure RefC (K : PySem.W.Frag) (mg : Str → Option Value) (C fI : Addr) (fdI : FuncData) : Prop where
  o : OexC K C
  xf : XfC K C
  nR : PySem.W.findIn K (.ref C) "refusal" = some none
  iC : PySem.W.findIn K (.ref C) "__init__" = some (some (.ref fI))
  tI : PySem.W.typeIn K (.ref fI) = some (.type "function")
  g : mg "Refused" = some (.ref C)
  fi : Fun K "__init__" "Refused.__init__" sRefInit fI fdI
  bi : Binds K fdI ["self", "refusal"] []
  vV : PySem.W.findCls K (.type "ValueError") (.type "type") "__init__" = some (.val (.builtin "ValueError.__init__"))
  mV : mg "ValueError" = none
  te : PySem.W.exmOne K (.ref C) (.ref C) = some true
def spRefInit (C : Addr) : Sp := fun vs H Q _ => ∃ (a : Addr) (r : Int), vs = [.ref a, .int r] ∧ H a = some (exo a C none) ∧ ∀ d, H d = none → d ≠ a → Q .non (upd (upd H d (exd d [("refusal", .int r)])) a (exo a C (some d)))
theorem ok_refInit {C fI : Addr} {fdI : FuncData} (T : RefC K mg C fI fdI) : FnOk P w K mg base CX0 1 fI fdI ["self", "refusal"] (spRefInit C) := by
  refine T.fi.ok scRefInit (fun vs H Q E h => ?_) (fun cdv A outer s H vs Q E hr h => ?_)
  · obtain ⟨_, _, rfl, _⟩ := h
    rfl
  · obtain ⟨a, r, rfl, ha, q⟩ := h
    refine ⟨_, pss_cons (ps_expr (pe_veinit (by rfl) T.mV T.vV (pa_cons (pv 0) (pa_cons pe_str pa_nil)))) (pss_one (ps_ost (pv 0) (pv 1))), ?_⟩
    refine ⟨_, rfl, a, C, _, rfl, (by show 1 ≤ 1000; decide), T.o, ha, ?_⟩
    exact ⟨_, rfl, _, rfl, a, C, rfl, T.o, T.nR, .inl ⟨ha, q⟩⟩
/-! ### want -/
abbrev sWant : Stmt := topS 45
theorem scWant : FnScope ["good", "refusal"] ["good", "refusal"] (defScope sWant) := ⟨rfl, rfl, rfl, by decide +kernel, rfl, by decide +kernel, by decide +kernel⟩
def spWant (C : Addr) : Sp := fun vs H Q E => ∃ (b : Bool) (r : Int), vs = [.bl b, .int r] ∧ (b = true → Q .non H) ∧ (b = false → ∀ d, H d = none → E (.ref C) (some d) (upd H d (.xd [("refusal", .int r)])))
theorem raised_heap {H : Hp} {a d C : Addr} {e f o : HO} {z : HO} (ha : H a = none) (hd : d ≠ a) : upd (L2.del (upd (upd (upd H a e) d f) a o) a) d z = upd H d z := by
  funext b
  by_cases h1 : b = d
  · subst h1; rw [upd_same, upd_same]
  · rw [upd_ne h1, upd_ne h1]
    by_cases h2 : b = a
    · subst h2; rw [del_same, ha]
    · rw [del_ne h2, upd_ne h2, upd_ne h1, upd_ne h2]
theorem ok_want {C fI f : Addr} {fdI fd : FuncData} (T : RefC K mg C fI fdI) (D : Def K mg "want" sWant ["good", "refusal"] f fd) : FnOk P w K mg base (L2.CX P w) 3 f fd ["good", "refusal"] (spWant C) := by
  refine D.fn.okX scWant (fun vs H Q E h => ?_) (fun cdv A outer s H vs Q E hr h => ?_)
  · obtain ⟨_, _, rfl, _⟩ := h
    rfl
  · obtain ⟨b, r, rfl, q1, q2⟩ := h
    have GI : FnOk P w K mg base CX0 1 fI fdI ["self", "refusal"] (spRefInit C) := ok_refInit T
    refine ⟨_, pss_one (ps_if (pt_not (pt_val (pv 0))) (pss_one (ps_raise rfl (takes_of rfl rfl rfl rfl) (pmk_oex T.o T.iC T.tI GI hr T.bi .nil pass0 (by rfl) T.g (pa_cons (pv 1) pa_nil)))) pss_nil), ?_⟩
    refine ⟨_, rfl, b, rfl, ?_⟩
    cases b with
    | true => exact iteF (q1 rfl)
    | false =>
      refine iteT ?_
      refine ⟨_, rfl, (by show 1 ≤ 1000; decide), fun a ha => ⟨a, r, rfl, upd_same, fun d hd hne => ?_⟩⟩
      have hd' : H d = none := by rw [upd_ne hne] at hd; exact hd
      refine ⟨rfl, d, _, upd_same, (upd_ne hne).trans upd_same, hd', ?_⟩
      rw [raised_heap (C := C) ha hne]
      exact q2 rfl d hd'
/-! ### listed -/
abbrev sListed : Stmt := topS 46
theorem scListed : FnScope ["some"] ["some"] (defScope sListed) := ⟨rfl, rfl, rfl, by decide +kernel, rfl, by decide +kernel, by decide +kernel⟩
def spListed (K : PySem.W.Frag) : Sp := fun vs H Q _ => ∃ (G : Hp) (a : Addr) (xs : List V), vs = [.ref a] ∧ Same G H ∧ SqA K H a xs ∧ xs.length ≤ 1000 ∧ ∀ G' H' D, Grow G H G' H' → G' D = some (.lst (.int (xs.length : Nat) :: xs)) → Q (.ref D) H'
theorem ok_listed {f : Addr} {fd : FuncData} (D : Def K mg "listed" sListed ["some"] f fd) (mLen : mg "len" = none) (mList : mg "list" = none) : FnOk P w K mg base CX0 1 f fd ["some"] (spListed K) := by
  refine D.fn.ok scListed (fun vs H Q E h => ?_) (fun cdv A outer s H vs Q E hr h => ?_)
  · obtain ⟨_, _, _, rfl, _⟩ := h
    rfl
  · obtain ⟨G, a, xs, rfl, sG, hx, hl, q⟩ := h
    refine ⟨_, pss_one (ps_ret (pe_op op_cat (pe_lst (pa_cons (pe_callB call_len_seq (by rfl) mLen PySem.boot_len (pa_cons (pv 0) pa_nil)) pa_nil)) (pe_callTy call_list_of (by rfl) mList PyProof.Rows.boot_list (pa_cons (pv 0) pa_nil)))), ?_⟩
    refine ⟨_, rfl, a, xs, rfl, hx, (by decide : 1 ≤ sizeLine), fun L1 n1 => ⟨_, rfl, a, xs, rfl, Same.seqA (same_upd n1) hx, fun L2 n2 => ?_⟩⟩
    have ne : L1 ≠ L2 := ne_of_none upd_same n2
    refine ⟨L1, L2, _, _, rfl, rfl, (upd_ne ne).trans upd_same, upd_same, Nat.le_of_lt (small1000' (by show 1 + xs.length ≤ 2000; omega)), fun L3 n3 => ?_⟩
    have g1 := Grow.add (o := .lst [.int (xs.length : Nat)]) sG n1
    have g2 := g1.trans (Grow.add (o := .lst xs) g1.gh n2)
    exact q _ _ L3 (g2.trans (Grow.add (o := .lst ([.int (xs.length : Nat)] ++ xs)) g2.gh n3)) upd_same
where
  small1000' {n : Nat} (h : n ≤ 2000) : n < sizeLine := Nat.lt_of_le_of_lt h (by decide)
/-! ### the box -/
abbrev sBoxM (i : Nat) : Stmt := inClass (topS 47) i
def boxF (l s f : V) : List (Str × V) := [("lengths", l), ("spider", s), ("fly", f)]
theorem boxF_l (l s f : V) : (boxF l s f).lookup ("lengths" : Str) = some l := lk_here
theorem boxF_s (l s f : V) : (boxF l s f).lookup ("spider" : Str) = some s := (lk_past (by decide +kernel)).trans lk_here
theorem boxF_f (l s f : V) : (boxF l s f).lookup ("fly" : Str) = some f := (lk_past (by decide +kernel)).trans ((lk_past (by decide +kernel)).trans lk_here)
theorem boxF_no (l s f : V) (m : Str) (h1 : (m == ("lengths" : Str)) = false) (h2 : (m == ("spider" : Str)) = false) (h3 : (m == ("fly" : Str)) = false) : (boxF l s f).lookup m = none :=
  (lk_past h1).trans ((lk_past h2).trans ((lk_past h3).trans rfl))
theorem boxF_new (l s f : V) : putF "fly" f (putF "spider" s (putF "lengths" l [])) = boxF l s f := by
  have e1 : putF "lengths" l [] = [(("lengths" : Str), l)] := rfl
  have e2 : putF "spider" s [(("lengths" : Str), l)] = ([("lengths", l), ("spider", s)] : List (Str × V)) := (put_past (by decide +kernel)).trans rfl
  have e3 : putF "fly" f ([("lengths", l), ("spider", s)] : List (Str × V)) = boxF l s f := (put_past (by decide +kernel)).trans (congrArg _ ((put_past (by decide +kernel)).trans rfl))
  rw [e1, e2, e3]
theorem boxF_pl (l s f z : V) : putF "lengths" z (boxF l s f) = boxF z s f := put_here
theorem boxF_ps (l s f z : V) : putF "spider" z (boxF l s f) = boxF l z f := (put_past (by decide +kernel)).trans (congrArg _ put_here)
theorem boxF_pf (l s f z : V) : putF "fly" z (boxF l s f) = boxF l s z := (put_past (by decide +kernel)).trans (congrArg _ ((put_past (by decide +kernel)).trans (congrArg _ put_here)))
structure BoxC (K : PySem.W.Frag) (C : Addr) : Prop where
  cl : Cls K C
  nL : NoAttr K C "lengths"
  nS : NoAttr K C "spider"
  nF : NoAttr K C "fly"
/-- the box's state stands at B -/
structure BoxAt (K : PySem.W.Frag) (C : Addr) (G H : Hp) (B : Addr) (s : Sy73.St) : Prop where
  at_ : ∃ dx L S F, H B = some (.ins C dx (boxF (.ref L) (.ref S) (.ref F))) ∧ SqL K G L (s.box.map nV) ∧ SqT K G S (s.spider.map nV) ∧ SqT K G F (s.fly.map nV)
structure MPre (K : PySem.W.Frag) (C : Addr) (G H : Hp) (B : Addr) (s : Sy73.St) : Prop where
  sG : Same G H
  nB : G B = none
  b : BoxAt K C G H B s
  ok : StOk s
/-- all stands but the box at B -/
structure MGrow (B : Addr) (G H G' H' : Hp) : Prop where
  gg : Same G G'
  gh : Same G' H'
  hh : ∀ b o, b ≠ B → H b = some o → H' b = some o
  bb : H B ≠ none → H' B ≠ none
  new : ∀ b, G b = none → H b ≠ none → G' b = none
theorem Grow.m {B : Addr} {G H G' H' : Hp} (g : Grow G H G' H') : MGrow B G H G' H' := ⟨g.gg, g.gh, fun b o _ h => g.hh b o h, some_of_same g.hh, g.new⟩
theorem BoxAt.grow {C : Addr} {G H G' H' : Hp} {B : Addr} {s : Sy73.St} (g : Grow G H G' H') (h : BoxAt K C G H B s) : BoxAt K C G' H' B s :=
  let ⟨dx, L, S, F, h1, h2, h3, h4⟩ := h.at_
  ⟨⟨dx, L, S, F, g.hh _ _ h1, g.gg.seq h2, Same.seqT g.gg h3, Same.seqT g.gg h4⟩⟩
theorem MPre.grow {C : Addr} {G H G' H' : Hp} {B : Addr} {s : Sy73.St} (g : Grow G H G' H') (h : MPre K C G H B s) : MPre K C G' H' B s := by
  obtain ⟨dx, L, S, F, h1, _⟩ := h.b.at_
  exact ⟨g.gh, g.new _ h.nB (by rw [h1]; exact fun z => nomatch z), h.b.grow g, h.ok⟩
def outA (a : Sy73.Ans) : List Int := Sy73Neutral.out a
/-- what a method may end in, by the specification's step -/
def MRet (K : PySem.W.Frag) (C CF : Addr) (G H : Hp) (B : Addr) (s : Sy73.St) (r : Sy73.St × Sy73.Ans) (Q : VK) (E : XK) : Prop :=
  (∀ G' H' D, MGrow B G H G' H' → BoxAt K C G' H' B r.1 → G' D = some (.lst ((outA r.2).map V.int)) → Q (.ref D) H') ∧
  (∀ d H' n, Grow G H G H' → H' d = some (.xd [("refusal", .int n)]) → outA r.2 = [n] → r.1 = s → E (.ref CF) (some d) H')
end
end Fly

/-! ## W17 -/
namespace Fly
open PySem PySem.Spec PyProof.Rows L2
theorem MGrow.trans {B : Addr} {G H G1 H1 G2 H2 : Hp} (a : MGrow B G H G1 H1) (b : MGrow B G1 H1 G2 H2) : MGrow B G H G2 H2 := by
  refine ⟨a.gg.trans b.gg, b.gh, fun c o h e => b.hh c o h (a.hh c o h e), fun h => b.bb (a.bb h), fun c h h' => ?_⟩
  refine b.new c (a.new c h h') ?_
  by_cases e : c = B
  · subst e
    exact a.bb h'
  · cases q : H c with
    | none => exact absurd q h'
    | some o => rw [a.hh c o e q]; exact fun q => nomatch q
/-- the box changes -/
theorem MGrow.set {B : Addr} {G H G' H' : Hp} {o : HO} (g : MGrow B G H G' H') (h : G' B = none) : MGrow B G H G' (upd H' B o) :=
  ⟨g.gg, fun b x e => by rw [upd_ne (ne_of_none e h)]; exact g.gh b x e, fun b x hb e => by rw [upd_ne hb]; exact g.hh b x hb e, fun _ => by rw [upd_same]; exact (fun z => nomatch z), g.new⟩
section
variable {P : Program} {w : World} {K : PySem.W.Frag} {mg : Str → Option Value} {base : Heap}
/-- a refusal: want's error is the method's -/
theorem MRet.err {C CF : Addr} {G H : Hp} {B : Addr} {s : Sy73.St} {r : Sy73.St × Sy73.Ans} {Q : VK} {E : XK} {H' : Hp} {d : Addr} {n : Int} (m : MRet K C CF G H B s r Q E) (s' : Same G H) (sH : Same H H') (hd : H' d = none) (e1 : outA r.2 = [n]) (e2 : r.1 = s) :
    E (.ref CF) (some d) (upd H' d (.xd [("refusal", .int n)])) :=
  m.2 d _ n (Grow.tmp s' (sH.trans (same_upd hd))) upd_same e1 e2
theorem out_ok (v : Int) : outA (Sy73.ok v) = [v] := rfl
/-! ### Box.__init__ -/
theorem scBoxInit : FnScope ["self"] ["self"] (defScope (sBoxM 0)) := ⟨rfl, rfl, rfl, by decide +kernel, rfl, by decide +kernel, by decide +kernel⟩
def spBoxInit (K : PySem.W.Frag) (C : Addr) : Sp := fun vs H Q _ => ∃ (p dx : Addr), vs = [.ref p] ∧ H p = some (.ins C dx []) ∧ ∃ G0 : Hp, Same G0 (L2.del H p) ∧
  ∀ G' H', Grow G0 (L2.del H p) G' (L2.del H' p) → BoxAt K C G' H' p Sy73.init → Q .non H'
theorem del_upd {H : Hp} {p : Addr} {o : HO} : L2.del (upd H p o) p = L2.del H p := by
  funext b
  by_cases h : b = p
  · subst h; rw [del_same, del_same]
  · rw [del_ne h, del_ne h, upd_ne h]
theorem del_upd_ne {H : Hp} {p b : Addr} {o : HO} (h : b ≠ p) : L2.del (upd H b o) p = upd (L2.del H p) b o := by
  funext c
  by_cases h1 : c = p
  · subst h1; rw [del_same, upd_ne (Ne.symm h), del_same]
  · rw [del_ne h1]
    by_cases h2 : c = b
    · subst h2; rw [upd_same, upd_same]
    · rw [upd_ne h2, upd_ne h2, del_ne h1]
theorem ok_boxInit {C f : Addr} {fd : FuncData} (T : BoxC K C) (F : Fun K "__init__" "Box.__init__" (sBoxM 0) f fd) : FnOk P w K mg base CX0 1 f fd ["self"] (spBoxInit K C) := by
  refine F.ok scBoxInit (fun vs H Q E h => ?_) (fun cdv A outer s H vs Q E hr h => ?_)
  · obtain ⟨_, _, rfl, _⟩ := h
    rfl
  · obtain ⟨p, dx, rfl, hp, G0, sG0, q⟩ := h
    refine ⟨_, pss_cons (ps_fld (pv 0) (pe_lst (pa_cons pe_int (pa_cons pe_int (pa_cons pe_int pa_nil)))) rfl)
      (pss_cons (ps_fld (pv 0) (pe_tup (pa_cons pe_int (pa_cons pe_int (pa_cons pe_int pa_nil)))) rfl)
      (pss_one (ps_fld (pv 0) (pe_tup (pa_cons pe_int (pa_cons pe_int (pa_cons pe_int pa_nil)))) rfl))), ?_⟩
    refine ⟨(by decide : 3 ≤ sizeLine), fun L nL => ?_⟩
    have nLp : L ≠ p := (ne_of_none hp nL).symm
    refine ⟨_, rfl, p, C, dx, [], rfl, (upd_ne (Ne.symm nLp)).trans hp, T.cl, T.nL, (by show 0 < 1000; decide), ?_⟩
    refine ⟨(by decide : 3 ≤ sizeLine), fun S nS => ?_⟩
    have nSp : S ≠ p := (ne_of_none upd_same nS).symm
    have nLS : L ≠ S := ne_of_none ((upd_ne nLp).trans upd_same) nS
    refine ⟨_, rfl, p, C, dx, _, rfl, (upd_ne (Ne.symm nSp)).trans upd_same, T.cl, T.nS, (by show 1 < 1000; decide), ?_⟩
    refine ⟨(by decide : 3 ≤ sizeLine), fun F nF => ?_⟩
    have nFp : F ≠ p := (ne_of_none upd_same nF).symm
    have nLF : L ≠ F := ne_of_none ((upd_ne nLp).trans ((upd_ne nLS).trans ((upd_ne nLp).trans upd_same))) nF
    have nSF : S ≠ F := ne_of_none ((upd_ne nSp).trans upd_same) nF
    refine ⟨_, rfl, p, C, dx, _, rfl, (upd_ne (Ne.symm nFp)).trans upd_same, T.cl, T.nF, (by show 2 < 1000; decide), ?_⟩
    have nL0 : L2.del H p L = none := (del_ne nLp).trans nL
    have nS1 : upd (L2.del H p) L (.lst [.int 1, .int 1, .int 1]) S = none := by
      rw [upd_ne nSp, upd_ne (Ne.symm nLS)] at nS
      rw [upd_ne (Ne.symm nLS), del_ne nSp]
      exact nS
    have nF1 : upd (upd (L2.del H p) L (.lst [.int 1, .int 1, .int 1])) S (.tup [.int 0, .int 0, .int 0]) F = none := by
      rw [upd_ne nFp, upd_ne (Ne.symm nSF), upd_ne nFp, upd_ne (Ne.symm nLF)] at nF
      rw [upd_ne (Ne.symm nSF), upd_ne (Ne.symm nLF), del_ne nFp]
      exact nF
    have g1 := Grow.add (o := .lst [.int 1, .int 1, .int 1]) sG0 nL0
    have g2 := g1.trans (Grow.add (o := .tup [.int 0, .int 0, .int 0]) g1.gh nS1)
    have g3 := g2.trans (Grow.add (o := .tup [.int 1, .int 1, .int 1]) g2.gh nF1)
    refine q (upd (upd (upd G0 L (.lst [.int 1, .int 1, .int 1])) S (.tup [.int 0, .int 0, .int 0])) F (.tup [.int 1, .int 1, .int 1])) _ ?_ ⟨dx, L, S, F, upd_same.trans (congrArg (fun z => some (HO.ins C dx z)) (boxF_new _ _ _)), .inl (.inl ((upd_ne nLF).trans ((upd_ne nLS).trans upd_same))), .inl (.inl ((upd_ne nSF).trans upd_same)), .inl (.inl upd_same)⟩
    rw [del_upd, del_upd_ne nFp, del_upd, del_upd_ne nSp, del_upd, del_upd_ne nLp]
    exact g3
/-! ### begins -/
theorem scBegins : FnScope ["self", "n"] ["self", "n"] (defScope (sBoxM 1)) := ⟨rfl, rfl, rfl, by decide +kernel, rfl, by decide +kernel, by decide +kernel⟩
def spBegins (K : PySem.W.Frag) (C CF : Addr) : Sp := fun vs H Q E => ∃ (G : Hp) (B a : Addr) (s : Sy73.St) (x y z : Nat), vs = [.ref B, .ref a] ∧ MPre K C G H B s ∧ SqL K G a (([x, y, z] : List Nat).map nV) ∧ MRet K C CF G H B s (Sy73.step s (.begins x y z)) Q E
theorem ok_begins {C CF fRI f fW fL : Addr} {fdRI fd fdW fdL : FuncData} {t : Tok} (T : BoxC K C) (R : RefC K mg CF fRI fdRI) (D : MDef K C "begins" "Box.begins" (sBoxM 1) ["self", "n"] f fd)
    (DW : Def K mg "want" sWant ["good", "refusal"] fW fdW) (GW : FnOk P w K mg base (L2.CX P w) 3 fW fdW ["good", "refusal"] (spWant CF))
    (DL : Def K mg "are_lengths" sLens ["lengths"] fL fdL) (GL : FnOk P w K mg base CX0 1 fL fdL ["lengths"] (spLens K)) (gB : mg "BAD" = some (.int (-1) t)) (mList : mg "list" = none) (mTup : mg "tuple" = none) :
    FnOk P w K mg base (L2.CX P w) 4 f fd ["self", "n"] (spBegins K C CF) := by
  refine D.fn.okX scBegins (fun vs H Q E h => ?_) (fun cdv A outer s H vs Q E hr h => ?_)
  · obtain ⟨_, _, _, _, _, _, _, rfl, _⟩ := h
    rfl
  · obtain ⟨G, B, a, s, x, y, z, rfl, M, ha, ret⟩ := h
    have hr1 : Room 1 _ := hr.mono (by decide)
    refine ⟨_, pss_cons (ps_expr (pe_call (E := E) GW hr rfl DW.g DW.fn.kp DW.bi .nil (passes_call (takes_of rfl rfl rfl rfl) (fun _ _ _ _ h => h)) (pa_cons (pe_call GL hr1 rfl DL.g DL.fn.kp DL.bi .nil pass0 (pa_cons (pv 1) pa_nil)) (pa_cons (pe_glob (v := .int (-1)) rfl gB ⟨_, rfl⟩) pa_nil))))
      (pss_cons (ps_fld (pv 0) (pe_callTy call_list_of (by rfl) mList PyProof.Rows.boot_list (pa_cons (pv 1) pa_nil)) rfl)
      (pss_cons (ps_fld (pv 0) (pe_tup (pa_cons pe_int (pa_cons pe_int (pa_cons pe_int pa_nil)))) rfl)
      (pss_cons (ps_fld (pv 0) (pe_callTy call_tuple_of (by rfl) mTup PyProof.Rows.boot_tuple (pa_cons (pv 1) pa_nil)) rfl)
      (pss_one (ps_ret (pe_lst (pa_cons pe_int pa_nil))))))), ?_⟩
    have sG := M.sG
    refine ⟨_, rfl, a, [x, y, z], rfl, sG.seq ha, (by show 3 ≤ 1000; decide), fun H1 s1 => ⟨_, _, rfl, fun hb => ?_, fun hb d hd => ?_⟩⟩
    · have hlen : lensOk [x, y, z] = true := hb
      have cond : ¬ (x < 1 ∨ 40 < x ∨ y < 1 ∨ 40 < y ∨ z < 1 ∨ 40 < z) := by
        unfold lensOk at hlen
        simp at hlen
        omega
      have es : Sy73.step s (.begins x y z) = (⟨[x, y, z], [0, 0, 0], [x, y, z]⟩, Sy73.ok 0) := if_neg cond
      rw [es] at ret
      have g1 := (Grow.tmp sG s1).m (B := B)
      have n1 : G B = none := M.nB
      obtain ⟨dx, L0, S0, F0, hB, _, _, _⟩ := M.b.at_
      have hB1 : H1 B = some (.ins C dx (boxF (.ref L0) (.ref S0) (.ref F0))) := s1 _ _ hB
      -- self.lengths = list(n)
      refine ⟨_, rfl, a, _, rfl, .inl ((s1.seq (sG.seq ha))), fun L nL => ?_⟩
      have nLB : L ≠ B := (ne_of_none hB1 nL).symm
      have gA := g1.trans (Grow.add (o := .lst (([x, y, z] : List Nat).map nV)) g1.gh nL).m
      have nA : upd G L (.lst (([x, y, z] : List Nat).map nV)) B = none := (upd_ne (Ne.symm nLB)).trans n1
      refine ⟨_, rfl, B, C, dx, _, rfl, (upd_ne (Ne.symm nLB)).trans hB1, T.cl, T.nL, (by show 3 < 1000; decide), ?_⟩
      rw [boxF_pl]
      have gB := gA.set (o := .ins C dx (boxF (.ref L) (.ref S0) (.ref F0))) nA
      -- self.spider = (0, 0, 0)
      refine ⟨(by decide : 3 ≤ sizeLine), fun S nS => ?_⟩
      have nSB : S ≠ B := (ne_of_none upd_same nS).symm
      have gC := gB.trans (Grow.add (o := .tup [.int 0, .int 0, .int 0]) gB.gh nS).m
      have nC : upd (upd G L (.lst (([x, y, z] : List Nat).map nV))) S (.tup [.int 0, .int 0, .int 0]) B = none := (upd_ne (Ne.symm nSB)).trans nA
      refine ⟨_, rfl, B, C, dx, _, rfl, (upd_ne (Ne.symm nSB)).trans upd_same, T.cl, T.nS, (by show 3 < 1000; decide), ?_⟩
      rw [boxF_ps]
      have gD := gC.set (o := .ins C dx (boxF (.ref L) (.ref S) (.ref F0))) nC
      -- self.fly = tuple(n)
      refine ⟨_, rfl, a, _, rfl, .inl ⟨(gD.gg.trans gD.gh).seq ha, fun F nF => ?_⟩⟩
      have nFB : F ≠ B := (ne_of_none upd_same nF).symm
      have gE := gD.trans (Grow.add (o := .tup (([x, y, z] : List Nat).map nV)) gD.gh nF).m
      have nE : upd (upd (upd G L (.lst (([x, y, z] : List Nat).map nV))) S (.tup [.int 0, .int 0, .int 0])) F (.tup (([x, y, z] : List Nat).map nV)) B = none := (upd_ne (Ne.symm nFB)).trans nC
      refine ⟨_, rfl, B, C, dx, _, rfl, (upd_ne (Ne.symm nFB)).trans upd_same, T.cl, T.nF, (by show 3 < 1000; decide), ?_⟩
      rw [boxF_pf]
      have gF := gE.set (o := .ins C dx (boxF (.ref L) (.ref S) (.ref F))) nE
      -- return [0]
      refine ⟨(by decide : 1 ≤ sizeLine), fun O nO => ?_⟩
      have gG := gF.trans (Grow.add (o := .lst [.int 0]) gF.gh nO).m
      have nOB : O ≠ B := (ne_of_none upd_same nO).symm
      have gLS := gB.gh.free nS
      have gLF := gD.gh.free nF
      have gLO := gF.gh.free nO
      have sx : Same (upd G L (.lst (([x, y, z] : List Nat).map nV))) _ := (same_upd gLS (o := .tup [.int 0, .int 0, .int 0])).trans ((same_upd gLF (o := .tup (([x, y, z] : List Nat).map nV))).trans (same_upd gLO (o := .lst [.int 0])))
      have sy : Same (upd (upd G L (.lst (([x, y, z] : List Nat).map nV))) S (.tup [.int 0, .int 0, .int 0])) _ := (same_upd gLF (o := .tup (([x, y, z] : List Nat).map nV))).trans (same_upd gLO (o := .lst [.int 0]))
      have sz : Same (upd (upd (upd G L (.lst (([x, y, z] : List Nat).map nV))) S (.tup [.int 0, .int 0, .int 0])) F (.tup (([x, y, z] : List Nat).map nV))) _ := same_upd gLO (o := .lst [.int 0])
      exact ret.1 _ _ O gG ⟨dx, L, S, F, (upd_ne (Ne.symm nOB)).trans upd_same, .inl (.inl (sx _ _ upd_same)), .inl (.inl (sy _ _ upd_same)), .inl (.inl (sz _ _ upd_same))⟩ upd_same
    · have hlen : lensOk [x, y, z] = false := hb
      have cond : (x < 1 ∨ 40 < x ∨ y < 1 ∨ 40 < y ∨ z < 1 ∨ 40 < z) := by
        unfold lensOk at hlen
        simp at hlen
        omega
      have es : Sy73.step s (.begins x y z) = (s, Sy73.ok (-1)) := if_pos cond
      rw [es] at ret
      exact ret.err sG s1 hd rfl rfl
end
end Fly

/-! ## W18 -/
namespace Fly
open PySem PySem.Spec PyProof.Rows L2
section
variable {P : Program} {w : World} {K : PySem.W.Frag} {mg : Str → Option Value} {base : Heap}
/-- what a method that refuses nothing ends in -/
def MOut (K : PySem.W.Frag) (C : Addr) (G H : Hp) (B : Addr) (r : Sy73.St × Sy73.Ans) (Q : VK) : Prop :=
  ∀ G' H' D, MGrow B G H G' H' → BoxAt K C G' H' B r.1 → G' D = some (.lst ((outA r.2).map V.int)) → Q (.ref D) H'
theorem onBox_iff {box p : List Nat} (h : p.length = 3) : onBox box p = true ↔ OnBox box p := by
  unfold onBox Sy73.inBox
  rw [h]
  simp only [beq_self_eq_true, Bool.true_and, Bool.and_eq_true, List.all_eq_true, List.mem_range, decide_eq_true_eq, Bool.not_eq_true', List.isEmpty_eq_false_iff]
  exact ⟨fun z => ⟨h, z.1, z.2⟩, fun z => ⟨z.le, z.face⟩⟩
/-! ### put_spider -/
theorem scPutSpider : FnScope ["self", "n"] ["self", "n"] (defScope (sBoxM 2)) := ⟨rfl, rfl, rfl, by decide +kernel, rfl, by decide +kernel, by decide +kernel⟩
def spPutSpider (K : PySem.W.Frag) (C CF : Addr) : Sp := fun vs H Q E => ∃ (G : Hp) (B a : Addr) (s : Sy73.St) (x y z : Nat), vs = [.ref B, .ref a] ∧ MPre K C G H B s ∧ SqL K G a (([x, y, z] : List Nat).map nV) ∧ MRet K C CF G H B s (Sy73.step s (.spider x y z)) Q E
theorem ok_putSpider {C CF fRI f fW fL fO : Addr} {fdRI fd fdW fdL fdO : FuncData} {t : Tok} (T : BoxC K C) (R : RefC K mg CF fRI fdRI) (D : MDef K C "put_spider" "Box.put_spider" (sBoxM 2) ["self", "n"] f fd)
    (DW : Def K mg "want" sWant ["good", "refusal"] fW fdW) (GW : FnOk P w K mg base (L2.CX P w) 3 fW fdW ["good", "refusal"] (spWant CF))
    (DL : Def K mg "is_on_box" sIsOnBox ["lengths", "point"] fL fdL) (GL : FnOk P w K mg base CX0 4 fL fdL ["lengths", "point"] (spIsOnBox K))
    (DO : Def K mg "faces_of" sFacesOf ["lengths", "point"] fO fdO) (GO : FnOk P w K mg base CX0 3 fO fdO ["lengths", "point"] (spFacesOf K)) (gB : mg "BAD" = some (.int (-1) t)) (mLen : mg "len" = none) (mTup : mg "tuple" = none) :
    FnOk P w K mg base (L2.CX P w) 5 f fd ["self", "n"] (spPutSpider K C CF) := by
  refine D.fn.okX scPutSpider (fun vs H Q E h => ?_) (fun cdv A outer s H vs Q E hr h => ?_)
  · obtain ⟨_, _, _, _, _, _, _, rfl, _⟩ := h
    rfl
  · obtain ⟨G, B, a, s, x, y, z, rfl, M, ha, ret⟩ := h
    have hr3 : Room 3 _ := hr.mono (by decide)
    refine ⟨_, pss_cons (ps_expr (pe_call (E := E) GW hr3 rfl DW.g DW.fn.kp DW.bi .nil (passes_call (takes_of rfl rfl rfl rfl) (fun _ _ _ _ h => h)) (pa_cons (pe_call GL hr rfl DL.g DL.fn.kp DL.bi .nil pass0 (pa_cons (pe_fld (pv 0) rfl) (pa_cons (pv 1) pa_nil))) (pa_cons (pe_glob (v := .int (-1)) rfl gB ⟨_, rfl⟩) pa_nil))))
      (pss_cons (ps_fld (pv 0) (pe_callTy call_tuple_of (by rfl) mTup PyProof.Rows.boot_tuple (pa_cons (pv 1) pa_nil)) rfl)
      (pss_one (ps_ret (pe_lst (pa_cons (pe_callB call_len_seq (by rfl) mLen PySem.boot_len (pa_cons (pe_call GO hr3 rfl DO.g DO.fn.kp DO.bi .nil pass0 (pa_cons (pe_fld (pv 0) rfl) (pa_cons (pv 1) pa_nil))) pa_nil)) pa_nil))))), ?_⟩
    have sG := M.sG
    have n1 : G B = none := M.nB
    obtain ⟨dx, L0, S0, F0, hB, hL, hS, hF⟩ := M.b.at_
    refine ⟨_, rfl, B, C, dx, _, _, rfl, hB, T.cl, T.nL, boxF_l _ _ _, _, rfl, L0, a, s.box, [x, y, z], rfl, sG.seq hL, M.ok.b3, .inl (sG.seq ha), rfl, fun H1 s1 => ⟨_, _, rfl, fun hb => ?_, fun hb d hd => ?_⟩⟩
    · have on := (onBox_iff rfl).mp hb
      have c1 : Sy73.inBox s.box [x, y, z] = true := by
        unfold onBox at hb
        exact (Bool.and_eq_true_iff.mp hb).1
      have c2 : (Sy73.facesOf s.box [x, y, z]).isEmpty = false := List.isEmpty_eq_false_iff.mpr on.face
      have es : Sy73.step s (.spider x y z) = ({ s with spider := [x, y, z] }, Sy73.ok ((Sy73.facesOf s.box [x, y, z]).length : Nat)) := by
        show Sy73.place s [x, y, z] (fun p => { s with spider := p }) = _
        unfold Sy73.place
        rw [if_neg (by rw [c1, c2]; simp)]
      rw [es] at ret
      have g1 := (Grow.tmp sG s1).m (B := B)
      have hB1 : H1 B = some (.ins C dx (boxF (.ref L0) (.ref S0) (.ref F0))) := s1 _ _ hB
      -- self.spider = tuple(n)
      refine ⟨_, rfl, a, _, rfl, .inl ⟨s1.seq (sG.seq ha), fun N nN => ?_⟩⟩
      have nNB : N ≠ B := (ne_of_none hB1 nN).symm
      have gA := g1.trans (Grow.add (o := .tup (([x, y, z] : List Nat).map nV)) g1.gh nN).m
      have nA : upd G N (.tup (([x, y, z] : List Nat).map nV)) B = none := (upd_ne (Ne.symm nNB)).trans n1
      refine ⟨_, rfl, B, C, dx, _, rfl, (upd_ne (Ne.symm nNB)).trans hB1, T.cl, T.nS, (by show 3 < 1000; decide), ?_⟩
      rw [boxF_ps]
      have gB := gA.set (o := .ins C dx (boxF (.ref L0) (.ref N) (.ref F0))) nA
      have ghB := gB.gg.trans gB.gh
      -- return [len(faces_of(self.lengths, n))]
      refine ⟨_, rfl, B, C, dx, _, _, rfl, upd_same, T.cl, T.nL, boxF_l _ _ _, _, rfl, L0, a, s.box, [x, y, z], rfl, ghB.seq hL, M.ok.b3, .inl (ghB.seq ha), rfl, fun H2 D s2 nD hD => ?_⟩
      refine ⟨D, _, rfl, .inl (.inl (.inl hD)), (by decide : 1 ≤ sizeLine), fun O nO => ?_⟩
      have gC := gB.trans (Grow.tmp gB.gh s2).m
      have gD := gC.trans (Grow.add (o := .lst [.int (((Sy73.facesOf s.box [x, y, z]).map nV).length : Nat)]) gC.gh nO).m
      have hB2 : H2 B = some (.ins C dx (boxF (.ref L0) (.ref N) (.ref F0))) := s2 _ _ upd_same
      have nOB : O ≠ B := (ne_of_none hB2 nO).symm
      have sx : Same (upd G N (.tup (([x, y, z] : List Nat).map nV))) _ := same_upd (gC.gh.free nO) (o := .lst [.int (((Sy73.facesOf s.box [x, y, z]).map nV).length : Nat)])
      refine ret.1 _ _ O gD ⟨dx, L0, N, F0, (upd_ne (Ne.symm nOB)).trans hB2, gD.gg.seq hL, .inl (.inl (sx _ _ upd_same)), Same.seqT gD.gg hF⟩ ?_
      rw [upd_same, List.length_map]
      rfl
    · have c : Sy73.inBox s.box [x, y, z] = false ∨ (Sy73.facesOf s.box [x, y, z]).isEmpty = true := by
        have hb' : onBox s.box [x, y, z] = false := hb
        unfold onBox at hb'
        rcases Bool.and_eq_false_iff.mp hb' with h | h
        · exact .inl h
        · exact .inr (by simpa using h)
      have es : Sy73.step s (.spider x y z) = (s, Sy73.ok (-1)) := by
        show Sy73.place s [x, y, z] (fun p => { s with spider := p }) = _
        unfold Sy73.place
        rw [if_pos c]
      rw [es] at ret
      exact ret.err sG s1 hd rfl rfl
/-! ### put_fly -/
theorem scPutFly : FnScope ["self", "n"] ["self", "n"] (defScope (sBoxM 3)) := ⟨rfl, rfl, rfl, by decide +kernel, rfl, by decide +kernel, by decide +kernel⟩
def spPutFly (K : PySem.W.Frag) (C CF : Addr) : Sp := fun vs H Q E => ∃ (G : Hp) (B a : Addr) (s : Sy73.St) (x y z : Nat), vs = [.ref B, .ref a] ∧ MPre K C G H B s ∧ SqL K G a (([x, y, z] : List Nat).map nV) ∧ MRet K C CF G H B s (Sy73.step s (.fly x y z)) Q E
theorem ok_putFly {C CF fRI f fW fL fO : Addr} {fdRI fd fdW fdL fdO : FuncData} {t : Tok} (T : BoxC K C) (R : RefC K mg CF fRI fdRI) (D : MDef K C "put_fly" "Box.put_fly" (sBoxM 3) ["self", "n"] f fd)
    (DW : Def K mg "want" sWant ["good", "refusal"] fW fdW) (GW : FnOk P w K mg base (L2.CX P w) 3 fW fdW ["good", "refusal"] (spWant CF))
    (DL : Def K mg "is_on_box" sIsOnBox ["lengths", "point"] fL fdL) (GL : FnOk P w K mg base CX0 4 fL fdL ["lengths", "point"] (spIsOnBox K))
    (DO : Def K mg "faces_of" sFacesOf ["lengths", "point"] fO fdO) (GO : FnOk P w K mg base CX0 3 fO fdO ["lengths", "point"] (spFacesOf K)) (gB : mg "BAD" = some (.int (-1) t)) (mLen : mg "len" = none) (mTup : mg "tuple" = none) :
    FnOk P w K mg base (L2.CX P w) 5 f fd ["self", "n"] (spPutFly K C CF) := by
  refine D.fn.okX scPutFly (fun vs H Q E h => ?_) (fun cdv A outer s H vs Q E hr h => ?_)
  · obtain ⟨_, _, _, _, _, _, _, rfl, _⟩ := h
    rfl
  · obtain ⟨G, B, a, s, x, y, z, rfl, M, ha, ret⟩ := h
    have hr3 : Room 3 _ := hr.mono (by decide)
    refine ⟨_, pss_cons (ps_expr (pe_call (E := E) GW hr3 rfl DW.g DW.fn.kp DW.bi .nil (passes_call (takes_of rfl rfl rfl rfl) (fun _ _ _ _ h => h)) (pa_cons (pe_call GL hr rfl DL.g DL.fn.kp DL.bi .nil pass0 (pa_cons (pe_fld (pv 0) rfl) (pa_cons (pv 1) pa_nil))) (pa_cons (pe_glob (v := .int (-1)) rfl gB ⟨_, rfl⟩) pa_nil))))
      (pss_cons (ps_fld (pv 0) (pe_callTy call_tuple_of (by rfl) mTup PyProof.Rows.boot_tuple (pa_cons (pv 1) pa_nil)) rfl)
      (pss_one (ps_ret (pe_lst (pa_cons (pe_callB call_len_seq (by rfl) mLen PySem.boot_len (pa_cons (pe_call GO hr3 rfl DO.g DO.fn.kp DO.bi .nil pass0 (pa_cons (pe_fld (pv 0) rfl) (pa_cons (pv 1) pa_nil))) pa_nil)) pa_nil))))), ?_⟩
    have sG := M.sG
    have n1 : G B = none := M.nB
    obtain ⟨dx, L0, S0, F0, hB, hL, hS, hF⟩ := M.b.at_
    refine ⟨_, rfl, B, C, dx, _, _, rfl, hB, T.cl, T.nL, boxF_l _ _ _, _, rfl, L0, a, s.box, [x, y, z], rfl, sG.seq hL, M.ok.b3, .inl (sG.seq ha), rfl, fun H1 s1 => ⟨_, _, rfl, fun hb => ?_, fun hb d hd => ?_⟩⟩
    · have on := (onBox_iff rfl).mp hb
      have c1 : Sy73.inBox s.box [x, y, z] = true := by
        unfold onBox at hb
        exact (Bool.and_eq_true_iff.mp hb).1
      have c2 : (Sy73.facesOf s.box [x, y, z]).isEmpty = false := List.isEmpty_eq_false_iff.mpr on.face
      have es : Sy73.step s (.fly x y z) = ({ s with fly := [x, y, z] }, Sy73.ok ((Sy73.facesOf s.box [x, y, z]).length : Nat)) := by
        show Sy73.place s [x, y, z] (fun p => { s with fly := p }) = _
        unfold Sy73.place
        rw [if_neg (by rw [c1, c2]; simp)]
      rw [es] at ret
      have g1 := (Grow.tmp sG s1).m (B := B)
      have hB1 : H1 B = some (.ins C dx (boxF (.ref L0) (.ref S0) (.ref F0))) := s1 _ _ hB
      -- self.fly = tuple(n)
      refine ⟨_, rfl, a, _, rfl, .inl ⟨s1.seq (sG.seq ha), fun N nN => ?_⟩⟩
      have nNB : N ≠ B := (ne_of_none hB1 nN).symm
      have gA := g1.trans (Grow.add (o := .tup (([x, y, z] : List Nat).map nV)) g1.gh nN).m
      have nA : upd G N (.tup (([x, y, z] : List Nat).map nV)) B = none := (upd_ne (Ne.symm nNB)).trans n1
      refine ⟨_, rfl, B, C, dx, _, rfl, (upd_ne (Ne.symm nNB)).trans hB1, T.cl, T.nF, (by show 3 < 1000; decide), ?_⟩
      rw [boxF_pf]
      have gB := gA.set (o := .ins C dx (boxF (.ref L0) (.ref S0) (.ref N))) nA
      have ghB := gB.gg.trans gB.gh
      -- return [len(faces_of(self.lengths, n))]
      refine ⟨_, rfl, B, C, dx, _, _, rfl, upd_same, T.cl, T.nL, boxF_l _ _ _, _, rfl, L0, a, s.box, [x, y, z], rfl, ghB.seq hL, M.ok.b3, .inl (ghB.seq ha), rfl, fun H2 D s2 nD hD => ?_⟩
      refine ⟨D, _, rfl, .inl (.inl (.inl hD)), (by decide : 1 ≤ sizeLine), fun O nO => ?_⟩
      have gC := gB.trans (Grow.tmp gB.gh s2).m
      have gD := gC.trans (Grow.add (o := .lst [.int (((Sy73.facesOf s.box [x, y, z]).map nV).length : Nat)]) gC.gh nO).m
      have hB2 : H2 B = some (.ins C dx (boxF (.ref L0) (.ref S0) (.ref N))) := s2 _ _ upd_same
      have nOB : O ≠ B := (ne_of_none hB2 nO).symm
      have sx : Same (upd G N (.tup (([x, y, z] : List Nat).map nV))) _ := same_upd (gC.gh.free nO) (o := .lst [.int (((Sy73.facesOf s.box [x, y, z]).map nV).length : Nat)])
      refine ret.1 _ _ O gD ⟨dx, L0, S0, N, (upd_ne (Ne.symm nOB)).trans hB2, gD.gg.seq hL, Same.seqT gD.gg hS, .inl (.inl (sx _ _ upd_same))⟩ ?_
      rw [upd_same, List.length_map]
      rfl
    · have c : Sy73.inBox s.box [x, y, z] = false ∨ (Sy73.facesOf s.box [x, y, z]).isEmpty = true := by
        have hb' : onBox s.box [x, y, z] = false := hb
        unfold onBox at hb'
        rcases Bool.and_eq_false_iff.mp hb' with h | h
        · exact .inl h
        · exact .inr (by simpa using h)
      have es : Sy73.step s (.fly x y z) = (s, Sy73.ok (-1)) := by
        show Sy73.place s [x, y, z] (fun p => { s with fly := p }) = _
        unfold Sy73.place
        rw [if_pos c]
      rw [es] at ret
      exact ret.err sG s1 hd rfl rfl
end
end Fly

/-! ## W19 -/
namespace Fly
open PySem PySem.Spec PyProof.Rows L2
section
variable {P : Program} {w : World} {K : PySem.W.Frag} {mg : Str → Option Value} {base : Heap}
/-- the box's parts as the other defs want them -/
theorem isB_of {G : Hp} {L : Addr} {s : Sy73.St} (ok : StOk s) (h : SqL K G L (s.box.map nV)) : IsB K G L s.box := ⟨h, ok.b3, ok.b40⟩
theorem isP_of {G : Hp} {S : Addr} {box p : List Nat} (b40 : ∀ k, k < 3 → Sy73.nth box k ≤ 40) (on : OnBox box p) (h : SqT K G S (p.map nV)) : IsP K G S p := ⟨.inr h, on.p3, fun k hk => Nat.le_trans (on.le k hk) (b40 k hk)⟩
def spM0 (K : PySem.W.Frag) (C : Addr) (c : Sy73.Call) : Sp := fun vs H Q _ => ∃ (G : Hp) (B : Addr) (s : Sy73.St), vs = [.ref B] ∧ MPre K C G H B s ∧ MOut K C G H B (Sy73.step s c) Q
/-- the end of a method that leaves the box as it was -/
theorem MOut.fin {C : Addr} {G H G' H' : Hp} {B D : Addr} {s : Sy73.St} {a : Sy73.Ans} {Q : VK} (m : MOut K C G H B (s, a) Q) (b : BoxAt K C G H B s) (g : Grow G H G' H') (h : G' D = some (.lst ((outA a).map V.int))) : Q (.ref D) H' :=
  m G' H' D g.m (b.grow g) h
/-! ### way -/
theorem scWay : FnScope ["self", "rows", "square", "many", "k"] ["self"] (defScope (sBoxM 4)) := ⟨rfl, rfl, rfl, by decide +kernel, rfl, by decide +kernel, by decide +kernel⟩
theorem wis_of {s : Sy73.St} (ok : StOk s) : cL (wayP s.box s.spider s.fly) (rowsL s.box s.spider) 0 = cands s.box s.spider s.fly := wayP_is ok.pos ok.sp.le
theorem ok_way {C CL CR f fF fS fL : Addr} {fd fdF fdS fdL : FuncData} {fI : Addr} {fdI : FuncData} (T : BoxC K C) (TR : RowC K mg CR fI fdI) (D : MDef K C "way" "Box.way" (sBoxM 4) ["self"] f fd)
    (DF : Def K mg "rows_from" sFrom ["lengths", "point"] fF fdF) (GF : FnOk P w K mg base CX0 11 fF fdF ["lengths", "point"] (spFrom K CL CR))
    (DS : Def K mg "shortest" sShort ["lengths", "rows", "one", "other"] fS fdS) (GS : FnOk P w K mg base CX0 5 fS fdS ["lengths", "rows", "one", "other"] (spShort K CL CR))
    (DL : Def K mg "listed" sListed ["some"] fL fdL) (GL : FnOk P w K mg base CX0 1 fL fdL ["some"] (spListed K)) :
    FnOk P w K mg base CX0 12 f fd ["self"] (spM0 K C .way) := by
  refine D.fn.ok scWay (fun vs H Q E h => ?_) (fun cdv A outer s H vs Q E hr h => ?_)
  · obtain ⟨_, _, _, rfl, _⟩ := h
    rfl
  · obtain ⟨G, B, s, rfl, M, ret⟩ := h
    have hr5 : Room 5 _ := hr.mono (by decide)
    have hr1 : Room 1 _ := hr.mono (by decide)
    refine ⟨_, pss_cons (ps_set (i := 1) scWay.nd rfl (.inl rfl) (pe_call GF hr rfl DF.g DF.fn.kp DF.bi .nil pass0 (pa_cons (pe_fld (pv 0) rfl) (pa_cons (pe_fld (pv 0) rfl) pa_nil))))
      (pss_cons (ps_asg (pe_call GS hr5 rfl DS.g DS.fn.kp DS.bi .nil pass0 (pa_cons (pe_fld (pv 0) rfl) (pa_cons (pv 1) (pa_cons (pe_fld (pv 0) rfl) (pa_cons (pe_fld (pv 0) rfl) pa_nil)))))
          (pg_tup rfl (pgs_cons (pg_name (i := 2) scWay.nd rfl (.inl rfl)) (pgs_cons (pg_name (i := 3) scWay.nd rfl (.inl rfl)) (pgs_cons (pg_name (i := 4) scWay.nd rfl (.inl rfl)) pgs_nil)))))
      (pss_one (ps_ret (pe_op op_cat (pe_lst (pa_cons (pv 2) pa_nil)) (pe_call GL hr1 rfl DL.g DL.fn.kp DL.bi .nil pass0 (pa_cons (pe_fld (pe_ix ix_seq (pv 1) (pv 4) (fun _ _ => rfl)) rfl) pa_nil)))))), ?_⟩
    have sG := M.sG
    obtain ⟨dx, L0, S0, F0, hB, hL, hS, hF⟩ := M.b.at_
    have iB := isB_of M.ok hL
    have iS := isP_of M.ok.b40 M.ok.sp hS
    have iF := isP_of M.ok.b40 M.ok.fl hF
    refine ⟨_, rfl, B, C, dx, _, _, rfl, hB, T.cl, T.nL, boxF_l _ _ _, _, rfl, B, C, dx, _, _, rfl, hB, T.cl, T.nS, boxF_s _ _ _, ?_⟩
    refine ⟨G, L0, S0, s.box, s.spider, rfl, sG, iB, iS, fun G1 H1 R rs g1 hR hrs => ?_⟩
    have hB1 := g1.hh _ _ hB
    refine ⟨_, rfl, B, C, dx, _, _, rfl, hB1, T.cl, T.nL, boxF_l _ _ _, _, rfl, _, rfl, B, C, dx, _, _, rfl, hB1, T.cl, T.nS, boxF_s _ _ _, _, rfl, B, C, dx, _, _, rfl, hB1, T.cl, T.nF, boxF_f _ _ _, ?_⟩
    have wis := wis_of M.ok
    refine ⟨G1, L0, R, S0, F0, s.box, rowsL s.box s.spider, s.spider, s.fly, rfl, ⟨g1.gh, IsB.same g1.gg iB, ⟨rs, hR, hrs⟩, rowsL_valid, rowsL_len _ _, IsP.same g1.gg iS, IsP.same g1.gg iF⟩, ?_, fun G2 H2 v c g2 ht hc hl => ?_⟩
    · rw [wis]
      exact cands_some M.ok.b3 M.ok.pos M.ok.sp M.ok.fl
    · rw [wis] at hc hl
      obtain ⟨sh, hk⟩ := least_is hc hl
      obtain ⟨b2, rfl, t2⟩ := ht
      refine ⟨b2, _, rfl, Same.seqT g2.gh t2, rfl, _, _, rfl, _, _, rfl, _, _, rfl, rfl, ?_⟩
      have g12 := g1.trans g2
      have hrk : ((rowsL s.box s.spider).map (mrL s.box))[c.2.2]? = some (mrL s.box c.1) := by rw [List.getElem?_map, hk]; rfl
      obtain ⟨rv, hrv, hrow⟩ := paired_get' hrs hrk
      have hv := rowsL_valid c.1 (List.mem_of_getElem? hk)
      obtain ⟨n1, r, ec⟩ : ∃ n1 r, c.1 = n1 :: r := by
        cases e : c.1 with
        | nil => rw [e] at hv; exact hv.elim
        | cons n1 r => exact ⟨n1, r, rfl⟩
      have RL : RowL n1 r := by rw [ec] at hv; exact hv
      rw [ec] at hrow
      obtain ⟨ar, dxr, far, _, _, _, _, rfl, hpr, hfr, _⟩ := hrow
      have gh2 := g2.gg.trans g2.gh
      refine ⟨_, rfl, (by decide : 1 ≤ sizeLine), fun O1 n1' => ?_⟩
      have gA := g12.trans (Grow.add (o := .lst [.int c.2.1]) g12.gh n1')
      have gh3 : Same G1 _ := g2.gg.trans ((same_upd (g12.gh.free n1')).trans gA.gh)
      refine ⟨_, rfl, _, rfl, ix_of (i := c.2.2) (.inl (.inl (.inl (gh3 _ _ hR)))) hrv ⟨ar, CR, dxr, _, _, rfl, gh3 _ _ hpr, TR.cl, TR.nF, rowF_f _ _ _ _, ?_⟩⟩
      refine ⟨_, far, _, rfl, gA.gh, .inl (.inl (.inl (gh3 _ _ hfr))), ?_, fun G4 H4 D g4 hD => ?_⟩
      · rw [List.length_map]
        show r.length + 1 ≤ 1000
        have := RL.len
        omega
      · have gB := gA.trans g4
        refine ⟨O1, D, _, _, rfl, rfl, g4.hh _ _ upd_same, g4.gh _ _ hD, ?_, fun O2 n2 => ?_⟩
        · rw [List.length_cons, List.length_cons, List.length_map]
          have := RL.len
          exact Nat.le_of_lt (small1000 (by show 0 + 1 + (r.length + 1 + 1) ≤ 1000; omega))
        · have gC := gB.trans (Grow.add (o := .lst (([.int c.2.1] : List V) ++ (V.int (((mr s.box n1 r).faces.map nV).length : Nat) :: (mr s.box n1 r).faces.map nV))) gB.gh n2)
          have es : Sy73.step s .way = (s, ⟨c.2.1, [Sy73.ints c.1]⟩) := by
            show (s, _) = _
            rw [sh]
          rw [es] at ret
          refine ret.fin M.b gC ?_
          rw [upd_same, ec]
          show some (HO.lst _) = some (HO.lst ((c.2.1 :: (((Sy73.ints (n1 :: r)).length : Int) :: Sy73.ints (n1 :: r) ++ [])).map V.int))
          rw [List.append_nil, List.map_cons, List.map_cons, ← nV_ints]
          show some (HO.lst (_ :: V.int (((n1 :: r).map nV).length : Nat) :: (n1 :: r).map nV)) = _
          rw [List.length_map, show (Sy73.ints (n1 :: r)).length = (n1 :: r).length from List.length_map ..]
end
end Fly

/-! ## W20 -/
namespace Fly
open PySem PySem.Spec PyProof.Rows L2
theorem linked_of : ∀ {f : Nat} {r : List Nat}, (∀ g ∈ f :: r, g < 6) → Sy73.linked (f :: r) = true → Linked f r
  | f, [], h, _ => h f List.mem_cons_self
  | f, g :: r, h, e => by
    have e' : (Sy73.beside f g && Sy73.linked (g :: r)) = true := e
    rw [Bool.and_eq_true] at e'
    exact ⟨h f List.mem_cons_self, bne_iff_ne.mp e'.1, linked_of (fun x hx => h x (List.mem_cons_of_mem _ hx)) e'.2⟩
theorem rowOk_row {l : List Nat} (h : rowOk l = true) : ∃ f r, l = f :: r ∧ RowL f r := by
  unfold rowOk at h
  rw [Bool.and_eq_true, Bool.and_eq_true, Bool.and_eq_true] at h
  obtain ⟨⟨⟨h1, h2⟩, h3⟩, h4⟩ := h
  cases l with
  | nil => cases h1
  | cons f r =>
    have h6 : ∀ g ∈ f :: r, g < 6 := fun g hg => of_decide_eq_true (List.all_eq_true.mp h2 g hg)
    exact ⟨f, r, rfl, linked_of h6 h4, (distinct_iff _).mp h3⟩
theorem rowOk_cond (l : List Nat) : (l.isEmpty = true ∨ l.any (fun (f : Nat) => decide (5 < f)) = true ∨ Sy73.distinct l = false ∨ Sy73.linked l = false) ↔ rowOk l = false := by
  have e : l.any (fun (f : Nat) => decide (5 < f)) = !(l.all fun f => decide (f < 6)) := by
    rw [List.not_all_eq_any_not]
    congr 1
    funext f
    by_cases h : f < 6
    · rw [decide_eq_true h, decide_eq_false (by omega)]; rfl
    · rw [decide_eq_false h, decide_eq_true (by omega)]; rfl
  unfold rowOk
  rw [e]
  cases l.isEmpty <;> cases (l.all fun f => decide (f < 6)) <;> cases Sy73.distinct l <;> cases Sy73.linked l <;> simp
section
variable {P : Program} {w : World} {K : PySem.W.Frag} {mg : Str → Option Value} {base : Heap}
/-! ### over -/
theorem scOver : FnScope ["self", "faces", "joins", "found"] ["self", "faces"] (defScope (sBoxM 5)) := ⟨rfl, rfl, rfl, by decide +kernel, rfl, by decide +kernel, by decide +kernel⟩
def spOver (K : PySem.W.Frag) (C CF : Addr) : Sp := fun vs H Q E => ∃ (G : Hp) (B b : Addr) (s : Sy73.St) (l : List Nat), vs = [.ref B, .ref b] ∧ MPre K C G H B s ∧ SqL K G b (l.map nV) ∧ l.length ≤ 60 ∧ MRet K C CF G H B s (Sy73.step s (.over l)) Q E
theorem bool_cases {b : Bool} {A : Prop} (h1 : b = true → A) (h2 : b = false → A) : A := by cases b; exact h2 rfl; exact h1 rfl
theorem ok_over {C CF CL CR fRI f fW fA fO fR fS : Addr} {fdRI fd fdW fdA fdO fdR fdS : FuncData} {fI : Addr} {fdI : FuncData} {t t4 t6 : Tok} (T : BoxC K C) (R : RefC K mg CF fRI fdRI) (TR : RowC K mg CR fI fdI) (D : MDef K C "over" "Box.over" (sBoxM 5) ["self", "faces"] f fd)
    (DW : Def K mg "want" sWant ["good", "refusal"] fW fdW) (GW : FnOk P w K mg base (L2.CX P w) 3 fW fdW ["good", "refusal"] (spWant CF))
    (DA : Def K mg "are_row" sAreRow ["faces"] fA fdA) (GA : FnOk P w K mg base CX0 3 fA fdA ["faces"] (spAreRow K))
    (DO : Def K mg "is_on" sIsOn ["lengths", "point", "face"] fO fdO) (GO : FnOk P w K mg base CX0 2 fO fdO ["lengths", "point", "face"] (spIsOn K))
    (DR : Def K mg "row_of" sRowOf ["lengths", "faces"] fR fdR) (GR : FnOk P w K mg base CX0 5 fR fdR ["lengths", "faces"] (spRowOf K CL CR))
    (DS : MDef K CR "square" "Row.square" sSquare ["self", "one", "other"] fS fdS) (GS : FnOk P w K mg base CX0 3 fS fdS ["self", "one", "other"] (spSquare K CL CR))
    (gB : mg "BAD" = some (.int (-1) t)) (g4 : mg "NOT_JOINED" = some (.int (-4) t4)) (g6 : mg "NOT_STRAIGHT" = some (.int (-6) t6)) :
    FnOk P w K mg base (L2.CX P w) 6 f fd ["self", "faces"] (spOver K C CF) := by
  refine D.fn.okX scOver (fun vs H Q E h => ?_) (fun cdv A outer s H vs Q E hr h => ?_)
  · obtain ⟨_, _, _, _, _, rfl, _⟩ := h
    rfl
  · obtain ⟨G, B, b, s, l, rfl, M, hb, hl60, ret⟩ := h
    have hr3 : Room 3 _ := hr.mono (by decide)
    have hr2 : Room 2 _ := hr.mono (by decide)
    refine ⟨_, pss_cons (ps_expr (pe_call (E := E) GW hr3 rfl DW.g DW.fn.kp DW.bi .nil (passes_call (takes_of rfl rfl rfl rfl) (fun _ _ _ _ h => h)) (pa_cons (pe_call GA hr3 rfl DA.g DA.fn.kp DA.bi .nil pass0 (pa_cons (pv 1) pa_nil)) (pa_cons (pe_glob (v := .int (-1)) rfl gB ⟨_, rfl⟩) pa_nil))))
      (pss_cons (ps_set (i := 2) scOver.nd rfl (.inl rfl) (pe_and (pe_call GO hr2 rfl DO.g DO.fn.kp DO.bi .nil pass0 (pa_cons (pe_fld (pv 0) rfl) (pa_cons (pe_fld (pv 0) rfl) (pa_cons (pe_ix ix_seq (pv 1) pe_int (fun _ _ => rfl)) pa_nil))))
          (pe_one (pe_call GO hr2 rfl DO.g DO.fn.kp DO.bi .nil pass0 (pa_cons (pe_fld (pv 0) rfl) (pa_cons (pe_fld (pv 0) rfl) (pa_cons (pe_ix ix_seq (pv 1) (pe_un un_neg pe_int) (fun _ _ => rfl)) pa_nil)))))))
      (pss_cons (ps_expr (pe_call (E := E) GW hr3 rfl DW.g DW.fn.kp DW.bi .nil (passes_call (takes_of rfl rfl rfl rfl) (fun _ _ _ _ h => h)) (pa_cons (pv 2) (pa_cons (pe_glob (v := .int (-4)) rfl g4 ⟨_, rfl⟩) pa_nil))))
      (pss_cons (ps_set (i := 3) scOver.nd rfl (.inl rfl) (pe_meth (pe_call GR hr rfl DR.g DR.fn.kp DR.bi .nil pass0 (pa_cons (pe_fld (pv 0) rfl) (pa_cons (pv 1) pa_nil))) TR.cl DS.m GS hr3 DS.bi .nil pass0 (pa_cons (pe_fld (pv 0) rfl) (pa_cons (pe_fld (pv 0) rfl) pa_nil))))
      (pss_cons (ps_expr (pe_call (E := E) GW hr3 rfl DW.g DW.fn.kp DW.bi .nil (passes_call (takes_of rfl rfl rfl rfl) (fun _ _ _ _ h => h)) (pa_cons (pe_cmpR op_notN (pv 3) pe_non (nomark _)) (pa_cons (pe_glob (v := .int (-6)) rfl g6 ⟨_, rfl⟩) pa_nil))))
      (pss_one (ps_ret (pe_lst (pa_cons (pv 3) pa_nil)))))))), ?_⟩
    have sG := M.sG
    obtain ⟨dx, L0, S0, F0, hB, hL, hS, hF⟩ := M.b.at_
    have es : Sy73.step s (.over l) = (s, if l.isEmpty = true ∨ l.any (fun (f : Nat) => decide (5 < f)) = true ∨ Sy73.distinct l = false ∨ Sy73.linked l = false then Sy73.ok (-1) else if (l.head?).any (Sy73.onFace s.box s.spider) = false ∨ (l.getLast?).any (Sy73.onFace s.box s.fly) = false then Sy73.ok (-4) else match Sy73.along s.box s.spider s.fly l with
      | none => Sy73.ok (-6)
      | some d => Sy73.ok d) := rfl
    rw [es] at ret
    refine ⟨_, rfl, b, l, rfl, sG.seq hb, by omega, fun H1 s1 => ⟨_, _, rfl, fun hrow => ?_, fun hrow d hd => ?_⟩⟩
    · rw [if_neg (fun z => by rw [(rowOk_cond l).mp z] at hrow; cases hrow)] at ret
      obtain ⟨n1, r, rfl, RL⟩ := rowOk_row hrow
      have g1 := Grow.tmp sG s1
      have hB1 := s1 _ _ hB
      obtain ⟨i0, hlast⟩ := last_map n1 r
      have at0 : ∀ {H' : Hp} {Q : VK}, Same G H' → Q (nV n1) H' → rIx K (.ref b) (.int 0) H' Q := fun s q => ix_of (i := 0) (.inl (s.seq hb)) rfl q
      have at1 : ∀ {H' : Hp} {Q : VK}, Same G H' → Q (nV (lastOf n1 r)) H' → rIx K (.ref b) (.int (-1)) H' Q := fun s q => .inl ⟨b, _, -1, _, rfl, rfl, s.seq hb, by rw [hlast]; exact atI_last _ _, q⟩
      have eh : ((n1 :: r).head?).any (Sy73.onFace s.box s.spider) = Sy73.onFace s.box s.spider n1 := rfl
      have el : ((n1 :: r).getLast?).any (Sy73.onFace s.box s.fly) = Sy73.onFace s.box s.fly (lastOf n1 r) := by rw [lastOf_get]; rfl
      rw [eh, el] at ret
      have sG1 := sG.trans s1
      -- want(joins, NOT_JOINED) and on
      have rest : ∀ (j : Bool) H2, Same H1 H2 → j = (Sy73.onFace s.box s.spider n1 && Sy73.onFace s.box s.fly (lastOf n1 r)) → _ → _ := fun _ _ _ _ (x : True) => x
      clear rest
      refine ⟨_, rfl, B, C, dx, _, _, rfl, hB1, T.cl, T.nL, boxF_l _ _ _, _, rfl, B, C, dx, _, _, rfl, hB1, T.cl, T.nS, boxF_s _ _ _, _, rfl, at0 sG1 ⟨L0, S0, s.box, s.spider, n1, rfl, sG1.seq hL, M.ok.b3, .inr (Same.seqT sG1 hS), M.ok.sp.p3, RL.l.head, _, rfl, ?_⟩⟩
      cases o1 : Sy73.onFace s.box s.spider n1 with
      | false =>
        rw [o1, if_pos (.inl rfl)] at ret
        refine iteF ⟨_, rfl, _, _, rfl, (fun z => nomatch z), fun _ d hd => ret.err sG s1 hd rfl rfl⟩
      | true =>
        refine iteT ⟨_, rfl, B, C, dx, _, _, rfl, hB1, T.cl, T.nL, boxF_l _ _ _, _, rfl, B, C, dx, _, _, rfl, hB1, T.cl, T.nF, boxF_f _ _ _, _, rfl, 1, rfl, at1 sG1 ⟨L0, F0, s.box, s.fly, lastOf n1 r, rfl, sG1.seq hL, M.ok.b3, .inr (Same.seqT sG1 hF), M.ok.fl.p3, RL.l.last, ?_⟩⟩
        cases o2 : Sy73.onFace s.box s.fly (lastOf n1 r) with
        | false =>
          rw [o2, if_pos (.inr rfl)] at ret
          exact ⟨_, rfl, _, _, rfl, (fun z => nomatch z), fun _ d hd => ret.err sG s1 hd rfl rfl⟩
        | true =>
          rw [o1, o2, if_neg (by simp)] at ret
          refine ⟨_, rfl, _, _, rfl, fun _ => ?_, (fun z => nomatch z)⟩
          refine ⟨_, rfl, B, C, dx, _, _, rfl, hB1, T.cl, T.nL, boxF_l _ _ _, _, rfl, ?_⟩
          refine ⟨G, L0, b, s.box, n1, r, rfl, sG1, isB_of M.ok hL, hb, RL.l, by have := RL.len; omega, fun G2 H2 v2 g2 p2 => ?_⟩
          have hB2 := g2.hh _ _ hB1
          have p2' := p2
          obtain ⟨ar, dxr, _, _, _, _, _, rfl, hpr, _⟩ := p2'
          refine ⟨ar, dxr, _, rfl, g2.gh _ _ hpr, rowF_no _ _ _ _ _ (by decide +kernel) (by decide +kernel) (by decide +kernel) (by decide +kernel), _, rfl, B, C, dx, _, _, rfl, hB2, T.cl, T.nS, boxF_s _ _ _, _, rfl, B, C, dx, _, _, rfl, hB2, T.cl, T.nF, boxF_f _ _ _, ?_⟩
          refine ⟨G2, .ref ar, S0, F0, s.box, n1, r, s.spider, s.fly, rfl, g2.gh, p2, IsP.same g2.gg (isP_of M.ok.b40 M.ok.sp hS), IsP.same g2.gg (isP_of M.ok.b40 M.ok.fl hF), M.ok.b40, RL.l, by have := RL.len; omega, fun H3 s3 => ?_⟩
          rw [sq_is M.ok.pos M.ok.sp.le RL.l RL.nd]
          have g3 : Grow G H G2 H3 := (g1.trans g2).trans (Grow.tmp g2.gh s3)
          refine ⟨_, rfl, rfl, _, _, rfl, ?_⟩
          cases ha : Sy73.along s.box s.spider s.fly (n1 :: r) with
          | none =>
            rw [ha] at ret
            exact ⟨(fun z => nomatch z), fun _ d hd => ret.err sG g3.hh hd rfl rfl⟩
          | some dd =>
            rw [ha] at ret
            refine ⟨fun _ => ⟨_, rfl, (by decide : 1 ≤ sizeLine), fun O nO => ?_⟩, (fun z => nomatch z)⟩
            have gC := g3.trans (Grow.add (o := .lst [.int dd]) g3.gh nO)
            exact ret.1 _ _ O gC.m (M.b.grow gC) upd_same
    · have hrow' : rowOk l = false := hrow
      rw [if_pos ((rowOk_cond l).mpr hrow')] at ret
      exact ret.err sG s1 hd rfl rfl
end
end Fly

/-! ## W21 -/
namespace Fly
open PySem PySem.Spec PyProof.Rows L2
section
variable {P : Program} {w : World} {K : PySem.W.Frag} {mg : Str → Option Value} {base : Heap}
/-! ### many -/
theorem scMany : FnScope ["self", "rows", "squares", "way"] ["self"] (defScope (sBoxM 6)) := ⟨rfl, rfl, rfl, by decide +kernel, rfl, by decide +kernel, by decide +kernel⟩
theorem ok_many {C CL CR f fF fS : Addr} {fd fdF fdS : FuncData} (T : BoxC K C) (D : MDef K C "many" "Box.many" (sBoxM 6) ["self"] f fd)
    (DF : Def K mg "rows_from" sFrom ["lengths", "point"] fF fdF) (GF : FnOk P w K mg base CX0 11 fF fdF ["lengths", "point"] (spFrom K CL CR))
    (DS : Def K mg "straight_ways" sSW ["lengths", "rows", "one", "other"] fS fdS) (GS : FnOk P w K mg base CX0 4 fS fdS ["lengths", "rows", "one", "other"] (spSW K CL CR)) (mLen : mg "len" = none) (mMin : mg "min" = none) :
    FnOk P w K mg base CX0 12 f fd ["self"] (spM0 K C .many) := by
  refine D.fn.ok scMany (fun vs H Q E h => ?_) (fun cdv A outer s H vs Q E hr h => ?_)
  · obtain ⟨_, _, _, rfl, _⟩ := h
    rfl
  · obtain ⟨G, B, s, rfl, M, ret⟩ := h
    have hr4 : Room 4 _ := hr.mono (by decide)
    refine ⟨_, pss_cons (ps_set (i := 1) scMany.nd rfl (.inl rfl) (pe_call GF hr rfl DF.g DF.fn.kp DF.bi .nil pass0 (pa_cons (pe_fld (pv 0) rfl) (pa_cons (pe_fld (pv 0) rfl) pa_nil))))
      (pss_cons (ps_setLc (i := 2) (own := [("way", 3)]) (g := gName 3) (by rfl) scMany.nd rfl rfl (sw_true rfl rfl rfl (by decide +kernel))
          (pi_list (pe_call GS hr4 rfl DS.g DS.fn.kp DS.bi .nil pass0 (pa_cons (pe_fld (pv 0) rfl) (pa_cons (pv 1) (pa_cons (pe_fld (pv 0) rfl) (pa_cons (pe_fld (pv 0) rfl) pa_nil))))))
          (blkOk_by (N := ["self", "rows", "squares", "way"]) (sc := defScope (sBoxM 6)) (by decide +kernel)) (fun _ _ _ _ _ => pg_name (i := 3) scMany.nd rfl (Or.inl rfl)) (fun _ _ _ _ _ => pts_nil)
          (fun _ _ _ _ _ => pe_ix (show IxR _ (rIx K) from ix_seq) (pv 3) pe_int (fun _ _ => rfl)))
      (pss_one (ps_ret (pe_lst (pa_cons (pe_callB call_len_seq (by rfl) mLen PySem.boot_len (pa_cons (pv 2) pa_nil)) (pa_cons pe_int (pa_cons (pe_bm PySem.F.plainAttrs_list PySem.F.slot_list_count PySem.F.type_list_count mt_lcount (pv 2)
        (pa_cons (pe_callB (cr_min rfl) (by rfl) mMin (by decide +kernel) (pa_cons (pv 2) pa_nil)) pa_nil)) pa_nil))))))), ?_⟩
    have sG := M.sG
    obtain ⟨dx, L0, S0, F0, hB, hL, hS, hF⟩ := M.b.at_
    have iB := isB_of M.ok hL
    have iS := isP_of M.ok.b40 M.ok.sp hS
    have iF := isP_of M.ok.b40 M.ok.fl hF
    refine ⟨_, rfl, B, C, dx, _, _, rfl, hB, T.cl, T.nL, boxF_l _ _ _, _, rfl, B, C, dx, _, _, rfl, hB, T.cl, T.nS, boxF_s _ _ _, ?_⟩
    refine ⟨G, L0, S0, s.box, s.spider, rfl, sG, iB, iS, fun G1 H1 R rs g1 hR hrs => ?_⟩
    have hB1 := g1.hh _ _ hB
    refine ⟨_, rfl, B, C, dx, _, _, rfl, hB1, T.cl, T.nL, boxF_l _ _ _, _, rfl, _, rfl, B, C, dx, _, _, rfl, hB1, T.cl, T.nS, boxF_s _ _ _, _, rfl, B, C, dx, _, _, rfl, hB1, T.cl, T.nF, boxF_f _ _ _, ?_⟩
    refine ⟨G1, L0, R, S0, F0, s.box, rowsL s.box s.spider, s.spider, s.fly, rfl, ⟨g1.gh, IsB.same g1.gg iB, ⟨rs, hR, hrs⟩, rowsL_valid, rowsL_len _ _, IsP.same g1.gg iS, IsP.same g1.gg iF⟩, fun G2 H2 D2 ps g2 hD hps => ?_⟩
    rw [wis_of M.ok] at hps
    have g12 := g1.trans g2
    have lps : ps.length = (cands s.box s.spider s.fly).length := (paired_len hps).trans (List.length_map ..)
    have lc : (cands s.box s.spider s.fly).length ≤ 200000 := Nat.le_trans (cL_len _ _ _) (rowsL_len _ _)
    refine ⟨D2, rfl, ⟨_, .inl (.inl (g2.gh _ _ hD))⟩, fun D0 nD => lc_list (K := K) (a := D2) (xs := ps)
      (fun i H' => Same H2 H' ∧ H' D0 = some (.lst ((((cands s.box s.spider s.fly).take i).map fun c => c.2.1).map V.int))) ⟨same_upd nD, upd_same⟩ (fun i H' _ h => .inl (.inl (h.1 _ _ (g2.gh _ _ hD)))) ?_ ?_⟩
    · rintro i x H' hx ⟨s2, hd⟩
      obtain ⟨t, ht, b, rfl, tt⟩ := paired_get hps hx
      rw [List.getElem?_map] at ht
      obtain ⟨c, hc, rfl⟩ := Option.map_eq_some_iff.mp ht
      refine ⟨rfl, _, rfl, ix_of (i := 0) (.inr (Same.seqT (g2.gh.trans s2) tt)) (v := .int c.2.1) rfl ⟨_, hd, ?_, same_at s2 nD, ?_⟩⟩
      · rw [List.length_map, List.length_map, List.length_take]
        exact Nat.lt_of_le_of_lt (Nat.le_trans (Nat.min_le_right _ _) lc) (by decide)
      · rw [upd_same, take_next hc, List.map_append, List.map_append]
        rfl
    · rintro H3 ⟨s2, hd⟩
      rw [lps, List.take_length] at hd
      have hne : cands s.box s.spider s.fly ≠ [] := cands_some M.ok.b3 M.ok.pos M.ok.sp M.ok.fl
      obtain ⟨⟨c0, hc0, e0⟩, least⟩ := dist_least hne
      refine ⟨_, rfl, D0, _, rfl, .inl (.inl (.inl hd)), _, rfl, .inl ⟨rfl, _, .inl (.inl hd)⟩, _, rfl, D0, _, rfl, .inl (.inl hd), ?_, fun m hm hle => ?_⟩
      · rw [List.length_map]
        exact List.length_pos_iff.mpr hne
      · have em : m = Sy73.dist s.box s.spider s.fly := by
          obtain ⟨c1, hc1, e1⟩ := List.mem_map.mp hm
          have a := hle c0.2.1 (List.mem_map.mpr ⟨c0, hc0, rfl⟩)
          have b := least c1 hc1
          omega
        subst em
        refine ⟨D0, _, _, rfl, rfl, .inl (.inl hd), (by decide : 3 ≤ sizeLine), fun O nO => ?_⟩
        have g3 := g12.trans (Grow.tmp g12.gh s2)
        have gC := g3.trans (Grow.add (o := .lst [.int ((((cands s.box s.spider s.fly).map fun c => c.2.1).map V.int).length : Nat), .int 1, .int ((((cands s.box s.spider s.fly).map fun c => c.2.1).count (Sy73.dist s.box s.spider s.fly) : Nat))]) g3.gh nO)
        refine MOut.fin (C := C) (s := s) (a := _) ret M.b gC ?_
        rw [upd_same]
        show _ = some (HO.lst ((((Sy73.ways s.box s.spider s.fly).length : Int) :: ((([((((Sy73.ways s.box s.spider s.fly).filter fun (x : List Nat × Int) => x.2 == Sy73.dist s.box s.spider s.fly).length : Nat) : Int)] : List Int).length : Int) :: [((((Sy73.ways s.box s.spider s.fly).filter fun (x : List Nat × Int) => x.2 == Sy73.dist s.box s.spider s.fly).length : Nat) : Int)] ++ [])).map V.int))
        rw [count_is, ways_len, List.length_map, List.length_map]
        rfl
/-! ### straight -/
theorem scStraight : FnScope ["self", "one", "other"] ["self"] (defScope (sBoxM 7)) := ⟨rfl, rfl, rfl, by decide +kernel, rfl, by decide +kernel, by decide +kernel⟩
theorem walk_zipT {a b : Addr} {xs ys : List V} {n : Nat} (h1 : xs.length = n) (h2 : ys.length = n) : Walk (RZ.ItzT K a b) n (fun H => SqT K H a xs ∧ SqT K H b ys) (YPair (fun i => xs[i]?) (fun i => ys[i]?)) := by
  subst h1
  refine ⟨fun i _ hi q => ?_, fun _ q => ⟨xs, ys, q.1, q.2, .inl (Nat.le_refl _)⟩, fun i H v H' _ q y => ?_⟩
  · have hi2 : i < ys.length := by omega
    exact ⟨xs, ys, xs[i], ys[i], q.1, q.2, by simp [hi], by simp [hi2]⟩
  · obtain ⟨T, x, z, h1, h2, h3, h4, h5⟩ := y
    exact ⟨T, x, z, h1, h2, h3, h4 xs q.1, h5 ys q.2⟩
def sqd (s : Sy73.St) (k : Nat) : Int := ((Sy73.nth s.spider k : Int) - (Sy73.nth s.fly k : Int)) * ((Sy73.nth s.spider k : Int) - (Sy73.nth s.fly k : Int))
theorem ok_straight {C f : Addr} {fd : FuncData} (T : BoxC K C) (D : MDef K C "straight" "Box.straight" (sBoxM 7) ["self"] f fd) (mSum : mg "sum" = none) (mZ : mg "zip" = none) :
    FnOk P w K mg base CX0 1 f fd ["self"] (spM0 K C .straight) := by
  refine D.fn.ok scStraight (fun vs H Q E h => ?_) (fun cdv A outer s H vs Q E hr h => ?_)
  · obtain ⟨_, _, _, rfl, _⟩ := h
    rfl
  · obtain ⟨G, B, s, rfl, M, ret⟩ := h
    refine ⟨_, pss_one (ps_ret (pe_lst (pa_cons (pe_callB (cr_sum rfl) (by rfl) mSum (by decide +kernel) (pa_cons (pe_lc (own := [("one", 1), ("other", 2)]) (g := gTup K 2 (gCons (gName 1) (gCons (gName 2) gNil))) (by rfl) scStraight.nd
        (RZ.pi_zipA (by rfl) mZ (pa_cons (pe_fld (pv 0) rfl) (pa_cons (pe_fld (pv 0) rfl) pa_nil)))
        (blkOk_by (N := ["self", "one", "other"]) (sc := defScope (sBoxM 7)) (by decide +kernel))
        (fun _ _ _ _ _ => pg_tup rfl (pgs_cons (pg_name (i := 1) scStraight.nd rfl (.inl rfl)) (pgs_cons (pg_name (i := 2) scStraight.nd rfl (.inl rfl)) pgs_nil)))
        (fun _ _ _ _ _ => pts_nil) (fun _ _ _ _ _ => pe_op op_mul (pe_op op_sub (pv 1) (pv 2)) (pe_op op_sub (pv 1) (pv 2)))) pa_nil)) pa_nil))), ?_⟩
    have sG := M.sG
    obtain ⟨dx, L0, S0, F0, hB, hL, hS, hF⟩ := M.b.at_
    have ls : (s.spider.map nV).length = 3 := by rw [List.length_map, M.ok.sp.p3]
    have lf : (s.fly.map nV).length = 3 := by rw [List.length_map, M.ok.fl.p3]
    refine ⟨_, rfl, B, C, dx, _, _, rfl, hB, T.cl, T.nS, boxF_s _ _ _, _, rfl, B, C, dx, _, _, rfl, hB, T.cl, T.nF, boxF_f _ _ _, S0, F0, _, _, rfl, .inr ⟨Same.seqT sG hS, Same.seqT sG hF, fun D0 nD => ?_⟩⟩
    refine lc_it (walk_zipT (K := K) (a := S0) (b := F0) ls lf) (fun i H' => Same H H' ∧ H' D0 = some (.lst (((List.range i).map (sqd s)).map V.int))) ⟨same_upd nD, upd_same⟩ (fun i H' _ h => ⟨Same.seqT (sG.trans h.1) hS, Same.seqT (sG.trans h.1) hF⟩) ?_ ?_
    · rintro i v H' H2 hi h ⟨T0, x, y, rfl, hT, rfl, hx, hy⟩
      replace hx : (s.spider.map nV)[i]? = some x := hx
      replace hy : (s.fly.map nV)[i]? = some y := hy
      obtain rfl : nV (Sy73.nth s.spider i) = x := Option.some.inj ((nth_at (by rw [M.ok.sp.p3]; exact hi)).symm.trans hx)
      obtain rfl : nV (Sy73.nth s.fly i) = y := Option.some.inj ((nth_at (by rw [M.ok.fl.p3]; exact hi)).symm.trans hy)
      have ne : D0 ≠ T0 := ne_of_none h.2 hT
      have a1 := M.ok.sp.le i hi
      have a2 := M.ok.fl.le i hi
      have a3 := M.ok.b40 i hi
      refine ⟨T0, _, rfl, .inl (.inl upd_same), rfl, _, _, rfl, _, _, rfl, rfl, rfl, _, rfl, _, rfl, _, _, rfl, rfl, _, rfl, _, rfl, _, _, rfl, rfl, _, _, rfl, rfl, .inl ⟨by omega, by omega⟩, _, (upd_ne ne).trans h.2, small1000 (by rw [List.length_map, List.length_map, List.length_range]; omega), same_at (h.1.trans (same_upd hT)) nD, ?_⟩
      rw [upd_same, range_snoc, List.map_append]
      rfl
    · rintro H3 ⟨s3, hd⟩
      refine ⟨D0, _, rfl, .inl (.inl hd), (by decide : 1 ≤ sizeLine), fun O nO => ?_⟩
      have g1 := Grow.tmp sG s3
      have gC := g1.trans (Grow.add (o := .lst [.int ((List.range 3).map (sqd s)).sum]) g1.gh nO)
      exact MOut.fin (C := C) (s := s) (a := _) ret M.b gC upd_same
/-! ### touched -/
theorem scTouched : FnScope ["self", "one", "other"] ["self"] (defScope (sBoxM 11)) := ⟨rfl, rfl, rfl, by decide +kernel, rfl, by decide +kernel, by decide +kernel⟩
theorem facesOf_len (box p : List Nat) : (Sy73.facesOf box p).length ≤ 6 := by
  have h1 := List.length_filter_le (Sy73.onFace box p) (List.range 6)
  rw [List.length_range] at h1
  exact h1
theorem ok_touched {C f fO fL : Addr} {fd fdO fdL : FuncData} (T : BoxC K C) (D : MDef K C "touched" "Box.touched" (sBoxM 11) ["self"] f fd)
    (DO : Def K mg "faces_of" sFacesOf ["lengths", "point"] fO fdO) (GO : FnOk P w K mg base CX0 3 fO fdO ["lengths", "point"] (spFacesOf K))
    (DL : Def K mg "listed" sListed ["some"] fL fdL) (GL : FnOk P w K mg base CX0 1 fL fdL ["some"] (spListed K)) (mLen : mg "len" = none) :
    FnOk P w K mg base CX0 4 f fd ["self"] (spM0 K C .faces) := by
  refine D.fn.ok scTouched (fun vs H Q E h => ?_) (fun cdv A outer s H vs Q E hr h => ?_)
  · obtain ⟨_, _, _, rfl, _⟩ := h
    rfl
  · obtain ⟨G, B, s, rfl, M, ret⟩ := h
    have hr1 : Room 1 _ := hr.mono (by decide)
    refine ⟨_, pss_cons (ps_par (i := 1) (j := 2) (by rfl) scTouched.nd rfl rfl (by decide) rfl rfl
        (pa_cons (pe_call GO hr rfl DO.g DO.fn.kp DO.bi .nil pass0 (pa_cons (pe_fld (pv 0) rfl) (pa_cons (pe_fld (pv 0) rfl) pa_nil))) (pa_cons (pe_call GO hr rfl DO.g DO.fn.kp DO.bi .nil pass0 (pa_cons (pe_fld (pv 0) rfl) (pa_cons (pe_fld (pv 0) rfl) pa_nil))) pa_nil)) (by rfl))
      (pss_one (ps_ret (pe_op op_cat (pe_op op_cat (pe_lst (pa_cons (pe_callB call_len_seq (by rfl) mLen PySem.boot_len (pa_cons (pv 1) pa_nil)) pa_nil)) (pe_call GL hr1 rfl DL.g DL.fn.kp DL.bi .nil pass0 (pa_cons (pv 1) pa_nil)))
        (pe_call GL hr1 rfl DL.g DL.fn.kp DL.bi .nil pass0 (pa_cons (pv 2) pa_nil))))), ?_⟩
    have sG := M.sG
    obtain ⟨dx, L0, S0, F0, hB, hL, hS, hF⟩ := M.b.at_
    have l1 := facesOf_len s.box s.spider
    have l2 := facesOf_len s.box s.fly
    refine ⟨_, rfl, B, C, dx, _, _, rfl, hB, T.cl, T.nL, boxF_l _ _ _, _, rfl, B, C, dx, _, _, rfl, hB, T.cl, T.nS, boxF_s _ _ _, ?_⟩
    refine ⟨L0, S0, s.box, s.spider, rfl, sG.seq hL, M.ok.b3, .inr (Same.seqT sG hS), M.ok.sp.p3, fun H1 D1 s1 n1 h1 => ?_⟩
    have hB1 := s1 _ _ hB
    refine ⟨_, rfl, B, C, dx, _, _, rfl, hB1, T.cl, T.nL, boxF_l _ _ _, _, rfl, B, C, dx, _, _, rfl, hB1, T.cl, T.nF, boxF_f _ _ _, ?_⟩
    have sG1 := sG.trans s1
    refine ⟨L0, F0, s.box, s.fly, rfl, sG1.seq hL, M.ok.b3, .inr (Same.seqT sG1 hF), M.ok.fl.p3, fun H2 D2 s2 n2 h2 => ⟨_, _, rfl, ?_⟩⟩
    have g1 := Grow.tmp sG (s1.trans s2)
    have h1' : H2 D1 = some (.lst ((Sy73.facesOf s.box s.spider).map nV)) := s2 _ _ h1
    refine ⟨_, rfl, D1, _, rfl, .inl (.inl (.inl h1')), (by decide : 1 ≤ sizeLine), fun O1 m1 => ?_⟩
    have gA := g1.trans (Grow.add (o := .lst [.int (((Sy73.facesOf s.box s.spider).map nV).length : Nat)]) g1.gh m1)
    have sA := same_upd m1 (o := .lst [.int (((Sy73.facesOf s.box s.spider).map nV).length : Nat)])
    refine ⟨_, rfl, _, D1, _, rfl, gA.gh, .inl (.inl (.inl (sA _ _ h1'))), by rw [List.length_map]; omega, fun G4 H4 D4 g4 h4 => ?_⟩
    have gB := gA.trans g4
    refine ⟨O1, D4, _, _, rfl, rfl, g4.hh _ _ upd_same, g4.gh _ _ h4, ?_, fun O2 m2 => ?_⟩
    · rw [List.length_cons, List.length_cons, List.length_map]
      exact Nat.le_of_lt (small1000 (by show 0 + 1 + ((Sy73.facesOf s.box s.spider).length + 1) ≤ 1000; omega))
    have gC := gB.trans (Grow.add (o := .lst (([.int (((Sy73.facesOf s.box s.spider).map nV).length : Nat)] : List V) ++ (V.int (((Sy73.facesOf s.box s.spider).map nV).length : Nat) :: (Sy73.facesOf s.box s.spider).map nV))) gB.gh m2)
    have s24 : Same H2 _ := sA.trans (g4.hh.trans (same_upd m2 (o := .lst (([.int (((Sy73.facesOf s.box s.spider).map nV).length : Nat)] : List V) ++ (V.int (((Sy73.facesOf s.box s.spider).map nV).length : Nat) :: (Sy73.facesOf s.box s.spider).map nV)))))
    refine ⟨_, rfl, _, D2, _, rfl, gC.gh, .inl (.inl (.inl (s24 _ _ h2))), by rw [List.length_map]; omega, fun G5 H5 D5 g5 h5 => ?_⟩
    have gD := gC.trans g5
    refine ⟨O2, D5, _, _, rfl, rfl, g5.hh _ _ upd_same, g5.gh _ _ h5, ?_, fun O3 m3 => ?_⟩
    · rw [List.length_append, List.length_cons, List.length_cons, List.length_cons, List.length_map, List.length_map]
      exact Nat.le_of_lt (small1000 (by show 0 + 1 + ((Sy73.facesOf s.box s.spider).length + 1) + ((Sy73.facesOf s.box s.fly).length + 1) ≤ 1000; omega))
    have gE := gD.trans (Grow.add (o := .lst ((([.int (((Sy73.facesOf s.box s.spider).map nV).length : Nat)] : List V) ++ (V.int (((Sy73.facesOf s.box s.spider).map nV).length : Nat) :: (Sy73.facesOf s.box s.spider).map nV)) ++ (V.int (((Sy73.facesOf s.box s.fly).map nV).length : Nat) :: (Sy73.facesOf s.box s.fly).map nV))) gD.gh m3)
    refine MOut.fin (C := C) (s := s) (a := _) ret M.b gE ?_
    rw [upd_same]
    show _ = some (HO.lst ((((Sy73.facesOf s.box s.spider).length : Int) :: (((Sy73.ints (Sy73.facesOf s.box s.spider)).length : Int) :: Sy73.ints (Sy73.facesOf s.box s.spider) ++ (((Sy73.ints (Sy73.facesOf s.box s.fly)).length : Int) :: Sy73.ints (Sy73.facesOf s.box s.fly) ++ []))).map V.int))
    rw [List.append_nil, List.map_cons, List.map_append, List.map_cons, List.map_cons, ← nV_ints, ← nV_ints, List.length_map, List.length_map]
    rw [show (Sy73.ints (Sy73.facesOf s.box s.spider)).length = (Sy73.facesOf s.box s.spider).length from List.length_map .., show (Sy73.ints (Sy73.facesOf s.box s.fly)).length = (Sy73.facesOf s.box s.fly).length from List.length_map ..]
    rfl
end
end Fly

/-! ## W22 -/
namespace Fly
open PySem PySem.Spec PyProof.Rows L2
section
variable {P : Program} {w : World} {K : PySem.W.Frag} {mg : Str → Option Value} {base : Heap}
/-! ### squares -/
theorem scSquares : FnScope ["self"] ["self"] (defScope (sBoxM 8)) := ⟨rfl, rfl, rfl, by decide +kernel, rfl, by decide +kernel, by decide +kernel⟩
def spSquares (K : PySem.W.Frag) (C CF : Addr) : Sp := fun vs H Q E => ∃ (G : Hp) (B : Addr) (s : Sy73.St), vs = [.ref B] ∧ MPre K C G H B s ∧
  (Sy73.small s.box = true → ∀ G' H' D ps, Grow G H G' H' → G' D = some (.lst ps) → Paired (IsPS K G') ps (sqsOf s.box s.spider) → Q (.ref D) H') ∧
  (Sy73.small s.box = false → ∀ d H', Grow G H G H' → H' d = some (.xd [("refusal", .int (-9))]) → E (.ref CF) (some d) H')
theorem ok_squares {C CF fRI f fW fA : Addr} {fdRI fd fdW fdA : FuncData} {t4 t9 : Tok} (T : BoxC K C) (R : RefC K mg CF fRI fdRI) (D : MDef K C "squares" "Box.squares" (sBoxM 8) ["self"] f fd)
    (DW : Def K mg "want" sWant ["good", "refusal"] fW fdW) (GW : FnOk P w K mg base (L2.CX P w) 3 fW fdW ["good", "refusal"] (spWant CF))
    (DA : Def K mg "all_squares" sAllSq ["lengths", "one"] fA fdA) (GA : FnOk P w K mg base CX0 12 fA fdA ["lengths", "one"] (spAllSq K))
    (g4 : mg "MOST_FOR_ALL" = some (.int 4 t4)) (g9 : mg "TOO_LARGE" = some (.int (-9) t9)) (mMax : mg "max" = none) :
    FnOk P w K mg base (L2.CX P w) 13 f fd ["self"] (spSquares K C CF) := by
  refine D.fn.okX scSquares (fun vs H Q E h => ?_) (fun cdv A outer s H vs Q E hr h => ?_)
  · obtain ⟨_, _, _, rfl, _⟩ := h
    rfl
  · obtain ⟨G, B, s, rfl, M, q1, q2⟩ := h
    have hr3 : Room 3 _ := hr.mono (by decide)
    refine ⟨_, pss_cons (ps_expr (pe_call (E := E) GW hr3 rfl DW.g DW.fn.kp DW.bi .nil (passes_call (takes_of rfl rfl rfl rfl) (fun _ _ _ _ h => h))
        (pa_cons (pe_cmpR op_le (pe_callB (cr_max rfl) (by rfl) mMax (by decide +kernel) (pa_cons (pe_fld (pv 0) rfl) pa_nil)) (pe_glob (v := .int 4) rfl g4 ⟨_, rfl⟩) (nomark _)) (pa_cons (pe_glob (v := .int (-9)) rfl g9 ⟨_, rfl⟩) pa_nil))))
      (pss_one (ps_ret (pe_call GA hr rfl DA.g DA.fn.kp DA.bi .nil pass0 (pa_cons (pe_fld (pv 0) rfl) (pa_cons (pe_fld (pv 0) rfl) pa_nil))))), ?_⟩
    have sG := M.sG
    obtain ⟨dx, L0, S0, F0, hB, hL, hS, hF⟩ := M.b.at_
    have hL' := sG.seq hL
    rw [nV_ints] at hL'
    have lb : (Sy73.ints s.box).length = 3 := (List.length_map ..).trans M.ok.b3
    refine ⟨_, rfl, B, C, dx, _, _, rfl, hB, T.cl, T.nL, boxF_l _ _ _, L0, _, rfl, hL', by omega, fun m hm hle => ⟨_, _, rfl, rfl, ?_⟩⟩
    have esm : Sy73.small s.box = decide (m ≤ 4) := by
      obtain ⟨b0, b1, b2, eb⟩ : ∃ a b c, s.box = [a, b, c] := match s.box, M.ok.b3 with | [a, b, c], _ => ⟨a, b, c, rfl⟩
      rw [eb] at hm hle ⊢
      have e0 := hle b0 (by simp [Sy73.ints])
      have e1 := hle b1 (by simp [Sy73.ints])
      have e2 := hle b2 (by simp [Sy73.ints])
      simp [Sy73.ints] at hm
      unfold Sy73.small
      rw [Bool.eq_iff_iff, decide_eq_true_eq]
      simp [Sy73.nth, List.range, List.range.loop]
      omega
    refine ⟨_, _, rfl, fun hb => ?_, fun hb d hd => ?_⟩
    · refine ⟨_, rfl, B, C, dx, _, _, rfl, hB, T.cl, T.nL, boxF_l _ _ _, _, rfl, B, C, dx, _, _, rfl, hB, T.cl, T.nS, boxF_s _ _ _, ?_⟩
      exact ⟨G, L0, S0, s.box, s.spider, rfl, sG, isB_of M.ok hL, isP_of M.ok.b40 M.ok.sp hS, M.ok.pos, M.ok.sp, q1 (esm.trans hb)⟩
    · exact q2 (esm.trans hb) d _ (Grow.tmp sG (same_upd hd)) upd_same
/-! ### farthest -/
theorem scFarthest : FnScope ["self", "some", "greatest", "points", "point", "square"] ["self"] (defScope (sBoxM 9)) := ⟨rfl, rfl, rfl, by decide +kernel, rfl, by decide +kernel, by decide +kernel⟩
def spM0X (K : PySem.W.Frag) (C CF : Addr) (c : Sy73.Call) : Sp := fun vs H Q E => ∃ (G : Hp) (B : Addr) (s : Sy73.St), vs = [.ref B] ∧ MPre K C G H B s ∧ MRet K C CF G H B s (Sy73.step s c) Q E
theorem filt_next {α : Type} {l : List α} {i : Nat} {x : α} (p : α → Bool) (h : l[i]? = some x) : (l.take (i + 1)).filter p = (l.take i).filter p ++ (if p x = true then [x] else []) := by
  rw [take_next h, List.filter_append]
  by_cases c : p x = true
  · rw [if_pos c, List.filter_cons_of_pos c, List.filter_nil]
  · rw [if_neg c, List.filter_cons_of_neg c, List.filter_nil]
theorem sqs_len {s : Sy73.St} (ok : StOk s) : (sqsOf s.box s.spider).length ≤ 41 * (41 * 41) := by
  unfold sqsOf
  rw [List.length_map]
  exact points_len ok.b40
theorem sqs_dist {s : Sy73.St} {x : List Nat × Int} (h : x ∈ sqsOf s.box s.spider) : x.1 ∈ Sy73.points s.box ∧ x.2 = Sy73.dist s.box s.spider x.1 := by
  obtain ⟨q, hq, e⟩ := List.mem_map.mp h
  subst e
  exact ⟨hq, rfl⟩
theorem ok_farthest {C CF fRI f fS fL : Addr} {fdRI fd fdS fdL : FuncData} (T : BoxC K C) (R : RefC K mg CF fRI fdRI) (D : MDef K C "farthest" "Box.farthest" (sBoxM 9) ["self"] f fd)
    (DS : MDef K C "squares" "Box.squares" (sBoxM 8) ["self"] fS fdS) (GS : FnOk P w K mg base (L2.CX P w) 13 fS fdS ["self"] (spSquares K C CF))
    (DL : Def K mg "listed" sListed ["some"] fL fdL) (GL : FnOk P w K mg base CX0 1 fL fdL ["some"] (spListed K)) (mMax : mg "max" = none) (mLen : mg "len" = none) :
    FnOk P w K mg base (L2.CX P w) 14 f fd ["self"] (spM0X K C CF .farthest) := by
  refine D.fn.okX scFarthest (fun vs H Q E h => ?_) (fun cdv A outer s H vs Q E hr h => ?_)
  · obtain ⟨_, _, _, rfl, _⟩ := h
    rfl
  · obtain ⟨G, B, s, rfl, M, ret⟩ := h
    have hr1 : Room 1 _ := hr.mono (by decide)
    refine ⟨_, pss_cons (ps_set (i := 1) scFarthest.nd rfl (.inl rfl) (pe_meth0 (E := E) (pv 0) T.cl DS.m GS hr DS.bi .nil (passes_call (takes_of rfl rfl rfl rfl) (fun _ _ _ _ h => h))))
      (pss_cons (ps_set (i := 2) scFarthest.nd rfl (.inr rfl) (pe_callB (cr_max rfl) (by rfl) mMax (by decide +kernel) (pa_cons (pe_lc (own := [("point", 4), ("square", 5)]) (g := gTup K 2 (gCons (gName 4) (gCons (gName 5) gNil))) (by rfl) scFarthest.nd (pi_list (pv 1))
          (blkOk_by (N := ["self", "some", "greatest", "points", "point", "square"]) (sc := defScope (sBoxM 9)) (by decide +kernel))
          (fun _ _ _ _ _ => pg_tup rfl (pgs_cons (pg_name (i := 4) scFarthest.nd rfl (.inl rfl)) (pgs_cons (pg_name (i := 5) scFarthest.nd rfl (.inl rfl)) pgs_nil)))
          (fun _ _ _ _ _ => pts_nil) (fun _ _ _ _ _ => pv 5)) pa_nil)))
      (pss_cons (ps_setLc (i := 3) (own := [("point", 4), ("square", 5)]) (g := gTup K 2 (gCons (gName 4) (gCons (gName 5) gNil))) (by rfl) scFarthest.nd rfl rfl (sw_true rfl rfl rfl (by decide +kernel)) (pi_list (pv 1))
          (blkOk_by (N := ["self", "some", "greatest", "points", "point", "square"]) (sc := defScope (sBoxM 9)) (by decide +kernel))
          (fun _ _ _ _ _ => pg_tup rfl (pgs_cons (pg_name (i := 4) scFarthest.nd rfl (.inl rfl)) (pgs_cons (pg_name (i := 5) scFarthest.nd rfl (.inl rfl)) pgs_nil)))
          (fun _ _ _ _ _ => pts_one (pt_cmpR op_eq (pv 5) (pv 2) (nomark _))) (fun _ _ _ _ _ => pv 4))
      (pss_one (ps_ret (pe_op op_cat (pe_op op_cat (pe_lst (pa_cons (pv 2) pa_nil)) (pe_call GL hr1 rfl DL.g DL.fn.kp DL.bi .nil pass0 (pa_cons (pe_ix ix_seq (pv 3) pe_int (fun _ _ => rfl)) pa_nil)))
        (pe_lst (pa_cons pe_int (pa_cons (pe_callB call_len_seq (by rfl) mLen PySem.boot_len (pa_cons (pv 3) pa_nil)) pa_nil)))))))), ?_⟩
    have sG := M.sG
    obtain ⟨dx, L0, S0, F0, hB, hL, hS, hF⟩ := M.b.at_
    have es : Sy73.step s .farthest = (s, if Sy73.small s.box = false then Sy73.ok (-9) else ⟨(Sy73.farthest s.box s.spider).2.1, [Sy73.ints (Sy73.farthest s.box s.spider).1, [((Sy73.farthest s.box s.spider).2.2 : Int)]]⟩) := rfl
    rw [es] at ret
    refine ⟨_, rfl, B, dx, _, rfl, hB, boxF_no _ _ _ _ (by decide +kernel) (by decide +kernel) (by decide +kernel), ?_⟩
    refine ⟨G, B, s, rfl, M, fun hsm G1 H1 D1 ps g1 hD hps => ?_, fun hsm d H' g hd => ?_⟩
    · rw [if_neg (by rw [hsm]; simp)] at ret
      have lps : ps.length = (sqsOf s.box s.spider).length := paired_len hps
      have cap := sqs_len M.ok
      have hDH := g1.gh _ _ hD
      -- greatest
      refine ⟨_, rfl, D1, rfl, ⟨_, .inl (.inl hDH)⟩, fun D0 nD => lc_list (K := K) (a := D1) (xs := ps)
        (fun i H' => Same H1 H' ∧ H' D0 = some (.lst ((((sqsOf s.box s.spider).take i).map Prod.snd).map V.int))) ⟨same_upd nD, upd_same⟩ (fun i H' _ h => .inl (.inl (h.1 _ _ hDH))) ?_ ?_⟩
      · rintro i x H' hx ⟨s2, hd⟩
        obtain ⟨t, ht, b, pw, rfl, tt, _⟩ := paired_get hps hx
        refine ⟨b, _, rfl, Same.seqT (g1.gh.trans s2) tt, rfl, _, _, rfl, _, _, rfl, rfl, rfl, _, rfl, _, hd, ?_, same_at s2 nD, ?_⟩
        · rw [List.length_map, List.length_map, List.length_take]
          exact Nat.lt_of_le_of_lt (Nat.le_trans (Nat.min_le_right _ _) cap) (by decide)
        · rw [upd_same, take_next ht, List.map_append, List.map_append]
          rfl
      · rintro H2 ⟨s2, hd⟩
        rw [lps, List.take_length] at hd
        have hon := on_points M.ok.sp
        have hne : sqsOf s.box s.spider ≠ [] := List.ne_nil_of_mem (List.mem_map.mpr ⟨_, hon, rfl⟩)
        refine ⟨D0, _, rfl, .inl (.inl hd), by rw [List.length_map]; exact List.length_pos_iff.mpr hne, fun m hm hle => ?_⟩
        obtain ⟨x0, hx0, ex0⟩ := List.mem_map.mp hm
        have h2 : ∀ q ∈ Sy73.points s.box, Sy73.dist s.box s.spider q ≤ m := fun q hq => hle _ (List.mem_map.mpr ⟨(q, Sy73.dist s.box s.spider q), List.mem_map.mpr ⟨q, hq, rfl⟩, rfl⟩)
        have m0 : 0 ≤ m := by
          rw [← ex0, (sqs_dist hx0).2]
          exact dist_nonneg (cands_some M.ok.b3 M.ok.pos M.ok.sp (points_on (sqs_dist hx0).1))
        -- points
        refine ⟨_, rfl, D1, rfl, ⟨_, .inl (.inl (s2 _ _ hDH))⟩, fun D5 n5 => lc_list (K := K) (a := D1) (xs := ps)
          (fun i H' => ∃ pvs, Same H2 H' ∧ H' D5 = some (.lst pvs) ∧ Paired (IsNT K G1) pvs ((((sqsOf s.box s.spider).take i).filter fun x => decide (x.2 = m)).map Prod.fst)) ⟨[], same_upd n5, upd_same, .nil⟩ (fun i H' _ ⟨_, h, _⟩ => .inl (.inl (h _ _ (s2 _ _ hDH)))) ?_ ?_⟩
        · rintro i x H' hx ⟨pvs, s3, hd5, hpv⟩
          obtain ⟨t, ht, b, pw, rfl, tt, nt⟩ := paired_get hps hx
          refine ⟨b, _, rfl, Same.seqT ((g1.gh.trans s2).trans s3) tt, rfl, _, _, rfl, _, _, rfl, rfl, rfl, _, rfl, _, rfl, rfl, _, rfl, ?_⟩
          have ed : decide (V.int t.2 = V.int m) = decide (t.2 = m) := V_int_eq _ _
          rw [ed]
          have nx := filt_next (fun x : List Nat × Int => decide (x.2 = m)) ht
          cases hk : decide (t.2 = m) with
          | true =>
            rw [hk, if_pos rfl] at nx
            refine iteT ⟨_, rfl, pvs, hd5, ?_, pvs ++ [pw], same_at s3 n5, upd_same, ?_⟩
            · rw [paired_len hpv, List.length_map]
              refine Nat.lt_of_le_of_lt (Nat.le_trans (List.length_filter_le _ _) ?_) (by decide : 41 * (41 * 41) < sizeLine)
              rw [List.length_take]
              exact Nat.le_trans (Nat.min_le_right _ _) cap
            · rw [nx, List.map_append]
              exact paired_snoc nt hpv
          | false =>
            rw [hk, if_neg Bool.false_ne_true, List.append_nil] at nx
            refine iteF ⟨pvs, s3, hd5, ?_⟩
            rw [nx]
            exact hpv
        · rintro H3 ⟨pvs, s3, hd5, hpv⟩
          rw [lps, List.take_length] at hpv
          have efil : ((sqsOf s.box s.spider).filter fun x => decide (x.2 = m)).map Prod.fst = (Sy73.points s.box).filter fun q => decide (Sy73.dist s.box s.spider q = m) := by
            unfold sqsOf
            rw [List.filter_map, List.map_map]
            show List.map id _ = _
            rw [List.map_id]
            rfl
          rw [efil] at hpv
          obtain ⟨q0, r, eq0⟩ : ∃ q0 r, ((Sy73.points s.box).filter fun q => decide (Sy73.dist s.box s.spider q = m)) = q0 :: r := by
            cases e : (Sy73.points s.box).filter fun q => decide (Sy73.dist s.box s.spider q = m) with
            | cons a b => exact ⟨a, b, rfl⟩
            | nil =>
              have : x0.1 ∈ (Sy73.points s.box).filter fun q => decide (Sy73.dist s.box s.spider q = m) := List.mem_filter.mpr ⟨(sqs_dist hx0).1, decide_eq_true ((sqs_dist hx0).2.symm.trans ex0)⟩
              rw [e] at this
              exact (List.not_mem_nil this).elim
          have far := farthest_of (box := s.box) (p := s.spider) m0 h2 eq0
          rw [far] at ret
          rw [eq0] at hpv
          have hp0 : ∃ pv0 pr, pvs = pv0 :: pr ∧ IsNT K G1 pv0 q0 ∧ pr.length = r.length := by
            cases hpv with
            | cons a b => exact ⟨_, _, rfl, a, paired_len b⟩
          obtain ⟨pv0, pr, rfl, ⟨bq, rfl, tq⟩, lpr⟩ := hp0
          have q03 : q0.length = 3 := by
            have : q0 ∈ (Sy73.points s.box).filter fun q => decide (Sy73.dist s.box s.spider q = m) := by rw [eq0]; exact List.mem_cons_self
            exact (points_on (List.mem_filter.mp this).1).p3
          have gA := g1.trans (Grow.tmp g1.gh (s2.trans s3))
          refine ⟨_, rfl, (by decide : 1 ≤ sizeLine), fun O1 m1 => ?_⟩
          have gB := gA.trans (Grow.add (o := .lst [.int m]) gA.gh m1)
          have sB : Same H3 _ := same_upd m1 (o := .lst [.int m])
          refine ⟨_, rfl, ix_of (i := 0) (.inl (.inl (.inl (sB _ _ hd5)))) (v := .ref bq) rfl ?_⟩
          refine ⟨_, bq, _, rfl, gB.gh, .inr (Same.seqT ((same_upd (gA.gh.free m1)).trans gB.gh) tq), by rw [List.length_map]; omega, fun G6 H6 D6 g6 h6 => ?_⟩
          have gC := gB.trans g6
          refine ⟨O1, D6, _, _, rfl, rfl, g6.hh _ _ upd_same, g6.gh _ _ h6, ?_, fun O2 m2 => ?_⟩
          · rw [List.length_cons, List.length_cons, List.length_map, q03]
            decide
          have gD := gC.trans (Grow.add (o := .lst (([.int m] : List V) ++ (V.int ((q0.map nV).length : Nat) :: q0.map nV))) gC.gh m2)
          have sD : Same H3 _ := sB.trans (g6.hh.trans (same_upd m2 (o := .lst (([.int m] : List V) ++ (V.int ((q0.map nV).length : Nat) :: q0.map nV)))))
          refine ⟨_, rfl, D5, _, rfl, .inl (.inl (.inl (sD _ _ hd5))), (by decide : 2 ≤ sizeLine), fun O3 m3 => ?_⟩
          have gE := gD.trans (Grow.add (o := .lst [.int 1, .int (((.ref bq :: pr : List V)).length : Nat)]) gD.gh m3)
          have ne23 : O2 ≠ O3 := ne_of_none upd_same m3
          refine ⟨O2, O3, _, _, rfl, rfl, (upd_ne ne23).trans upd_same, upd_same, ?_, fun O4 m4 => ?_⟩
          · rw [List.length_append, List.length_cons, List.length_cons, List.length_map, q03]
            exact (by decide : 0 + 1 + (3 + 1) + 2 ≤ sizeLine)
          have gF := gE.trans (Grow.add (o := .lst ((([.int m] : List V) ++ (V.int ((q0.map nV).length : Nat) :: q0.map nV)) ++ [.int 1, .int (((.ref bq :: pr : List V)).length : Nat)])) gE.gh m4)
          refine ret.1 _ _ O4 gF.m (M.b.grow gF) ?_
          rw [upd_same]
          show _ = some (HO.lst ((m :: (((Sy73.ints q0).length : Int) :: Sy73.ints q0 ++ (1 :: [((q0 :: r).length : Int)] ++ []))).map V.int))
          rw [List.append_nil, List.map_cons, List.map_append, List.map_cons, ← nV_ints, List.length_map, List.length_cons, List.length_cons, lpr, show (Sy73.ints q0).length = q0.length from List.length_map ..]
          rfl
    · rw [if_pos hsm] at ret
      exact ret.2 d H' _ g hd rfl rfl
/-! ### within -/
theorem scWithin : FnScope ["self", "most", "point", "square"] ["self", "most"] (defScope (sBoxM 10)) := ⟨rfl, rfl, rfl, by decide +kernel, rfl, by decide +kernel, by decide +kernel⟩
def spWithin (K : PySem.W.Frag) (C CF : Addr) : Sp := fun vs H Q E => ∃ (G : Hp) (B : Addr) (s : Sy73.St) (n : Nat), vs = [.ref B, nV n] ∧ MPre K C G H B s ∧ MRet K C CF G H B s (Sy73.step s (.within n)) Q E
theorem ok_within {C CF fRI f fS : Addr} {fdRI fd fdS : FuncData} (T : BoxC K C) (R : RefC K mg CF fRI fdRI) (D : MDef K C "within" "Box.within" (sBoxM 10) ["self", "most"] f fd)
    (DS : MDef K C "squares" "Box.squares" (sBoxM 8) ["self"] fS fdS) (GS : FnOk P w K mg base (L2.CX P w) 13 fS fdS ["self"] (spSquares K C CF)) (mLen : mg "len" = none) :
    FnOk P w K mg base (L2.CX P w) 14 f fd ["self", "most"] (spWithin K C CF) := by
  refine D.fn.okX scWithin (fun vs H Q E h => ?_) (fun cdv A outer s H vs Q E hr h => ?_)
  · obtain ⟨_, _, _, _, rfl, _⟩ := h
    rfl
  · obtain ⟨G, B, s, n, rfl, M, ret⟩ := h
    refine ⟨_, pss_one (ps_ret (pe_lst (pa_cons (pe_callB call_len_seq (by rfl) mLen PySem.boot_len (pa_cons (pe_lc (own := [("point", 2), ("square", 3)]) (g := gTup K 2 (gCons (gName 2) (gCons (gName 3) gNil))) (by rfl) scWithin.nd
          (pi_list (pe_meth0 (E := E) (pv 0) T.cl DS.m GS hr DS.bi .nil (passes_call (takes_of rfl rfl rfl rfl) (fun _ _ _ _ h => h))))
          (blkOk_by (N := ["self", "most", "point", "square"]) (sc := defScope (sBoxM 10)) (by decide +kernel))
          (fun _ _ _ _ _ => pg_tup rfl (pgs_cons (pg_name (i := 2) scWithin.nd rfl (.inl rfl)) (pgs_cons (pg_name (i := 3) scWithin.nd rfl (.inl rfl)) pgs_nil)))
          (fun _ _ _ _ _ => pts_one (pt_cmpR op_le (pv 3) (pv 1) (nomark _))) (fun _ _ _ _ _ => pv 3)) pa_nil)) pa_nil))), ?_⟩
    have sG := M.sG
    obtain ⟨dx, L0, S0, F0, hB, hL, hS, hF⟩ := M.b.at_
    have es : Sy73.step s (.within n) = (s, if Sy73.small s.box = false then Sy73.ok (-9) else Sy73.ok (((Sy73.points s.box).filter fun (q : Sy73.Three) => decide (Sy73.dist s.box s.spider q ≤ (n : Int))).length : Nat)) := rfl
    rw [es] at ret
    refine ⟨_, rfl, B, dx, _, rfl, hB, boxF_no _ _ _ _ (by decide +kernel) (by decide +kernel) (by decide +kernel), ?_⟩
    refine ⟨G, B, s, rfl, M, fun hsm G1 H1 D1 ps g1 hD hps => ?_, fun hsm d H' g hd => ?_⟩
    · rw [if_neg (by rw [hsm]; simp)] at ret
      have lps : ps.length = (sqsOf s.box s.spider).length := paired_len hps
      have cap := sqs_len M.ok
      have hDH := g1.gh _ _ hD
      refine ⟨D1, rfl, ⟨_, .inl (.inl hDH)⟩, fun D0 nD => lc_list (K := K) (a := D1) (xs := ps)
        (fun i H' => Same H1 H' ∧ H' D0 = some (.lst (((((sqsOf s.box s.spider).take i).filter fun x => decide (x.2 ≤ (n : Int))).map Prod.snd).map V.int))) ⟨same_upd nD, upd_same⟩ (fun i H' _ h => .inl (.inl (h.1 _ _ hDH))) ?_ ?_⟩
      · rintro i x H' hx ⟨s2, hd⟩
        obtain ⟨t, ht, b, pw, rfl, tt, _⟩ := paired_get hps hx
        refine ⟨b, _, rfl, Same.seqT (g1.gh.trans s2) tt, rfl, _, _, rfl, _, _, rfl, rfl, rfl, _, rfl, _, rfl, _, _, rfl, rfl, _, rfl, ?_⟩
        have nx := filt_next (fun x : List Nat × Int => decide (x.2 ≤ (n : Int))) ht
        show if decide (t.2 ≤ (n : Int)) = true then _ else _
        cases hk : decide (t.2 ≤ (n : Int)) with
        | true =>
          rw [hk, if_pos rfl] at nx
          refine iteT ⟨_, rfl, _, hd, ?_, same_at s2 nD, ?_⟩
          · rw [List.length_map, List.length_map]
            refine Nat.lt_of_le_of_lt (Nat.le_trans (List.length_filter_le _ _) ?_) (by decide : 41 * (41 * 41) < sizeLine)
            rw [List.length_take]
            exact Nat.le_trans (Nat.min_le_right _ _) cap
          · rw [upd_same, nx, List.map_append, List.map_append]
            rfl
        | false =>
          rw [hk, if_neg Bool.false_ne_true, List.append_nil] at nx
          refine iteF ⟨s2, ?_⟩
          rw [nx]
          exact hd
      · rintro H2 ⟨s2, hd⟩
        rw [lps, List.take_length] at hd
        refine ⟨D0, _, rfl, .inl (.inl (.inl hd)), (by decide : 1 ≤ sizeLine), fun O nO => ?_⟩
        have gA := g1.trans (Grow.tmp g1.gh s2)
        have gB := gA.trans (Grow.add (o := .lst [.int (((((sqsOf s.box s.spider).filter fun x => decide (x.2 ≤ (n : Int))).map Prod.snd).map V.int).length : Nat)]) gA.gh nO)
        refine ret.1 _ _ O gB.m (M.b.grow gB) ?_
        rw [upd_same, List.length_map, List.length_map]
        have e : ((sqsOf s.box s.spider).filter fun x => decide (x.2 ≤ (n : Int))).length = ((Sy73.points s.box).filter fun (q : Sy73.Three) => decide (Sy73.dist s.box s.spider q ≤ (n : Int))).length := by
          unfold sqsOf
          rw [List.filter_map, List.length_map]
          rfl
        rw [e]
        rfl
    · rw [if_pos hsm] at ret
      exact ret.2 d H' _ g hd rfl rfl
end
end Fly

/-! ## W23 -/
namespace Fly
open PySem PySem.Spec PyProof.Rows L2
theorem if_ne {k : Nat} {z : Int} {A B : Prop} (h : (k : Int) ≠ z) (b : B) : if decide (nV k = V.int z) = true then A else B := by
  rw [show decide (nV k = V.int z) = false from decide_eq_false fun e => h (V.int.inj e)]
  exact iteF b
theorem if_eq {k : Nat} {z : Int} {A B : Prop} (h : (k : Int) = z) (a : A) : if decide (nV k = V.int z) = true then A else B := by
  rw [show decide (nV k = V.int z) = true from decide_eq_true (congrArg V.int h)]
  exact iteT a
theorem callP_le {k : Nat} {ns l : List Nat} {x : Sy73.Call} (h : callP k ns l = some x) : k ≤ 10 := by
  rcases Nat.lt_or_ge 10 k with c | c
  · obtain ⟨m, rfl⟩ : ∃ m, k = m + 11 := ⟨k - 11, by omega⟩
    cases h
  · exact c
theorem callP_3 {k : Nat} {ns l : List Nat} {x : Sy73.Call} (h : callP k ns l = some x) (hk : k = 0 ∨ k = 1 ∨ k = 2) : ∃ a b c, ns = [a, b, c] := by
  rcases hk with rfl | rfl | rfl
  all_goals
    match ns, h with
    | [a, b, c], _ => exact ⟨a, b, c, rfl⟩
theorem callP_0 {k : Nat} {ns l : List Nat} {x : Sy73.Call} (h : callP k ns l = some x) (hk : k = 3 ∨ k = 4 ∨ k = 5 ∨ k = 6 ∨ k = 7 ∨ k = 9 ∨ k = 10) : ns = [] := by
  rcases hk with rfl | rfl | rfl | rfl | rfl | rfl | rfl
  all_goals
    match ns, h with
    | [], _ => rfl
theorem callP_8 {ns l : List Nat} {x : Sy73.Call} (h : callP 8 ns l = some x) : ∃ a, ns = [a] := by
  match ns, h with
  | [a], _ => exact ⟨a, rfl⟩
section
variable {P : Program} {w : World} {K : PySem.W.Frag} {mg : Str → Option Value} {base : Heap}
/-! ### of_call -/
theorem scOfCall : FnScope ["self", "call", "n", "row"] ["self", "call", "n", "row"] (defScope (sBoxM 12)) := ⟨rfl, rfl, rfl, by decide +kernel, rfl, by decide +kernel, by decide +kernel⟩
structure CPre (K : PySem.W.Frag) (C : Addr) (G H : Hp) (B an ar : Addr) (s : Sy73.St) (k : Nat) (ns l : List Nat) (x : Sy73.Call) : Prop where
  m : MPre K C G H B s
  n : SqL K G an (ns.map nV)
  r : SqL K G ar (l.map nV)
  l60 : l.length ≤ 60
  x : callP k ns l = some x
def spOfCall (K : PySem.W.Frag) (C CF : Addr) : Sp := fun vs H Q E => ∃ (G : Hp) (B an ar : Addr) (s : Sy73.St) (k : Nat) (ns l : List Nat) (x : Sy73.Call), vs = [.ref B, nV k, .ref an, .ref ar] ∧ CPre K C G H B an ar s k ns l x ∧ MRet K C CF G H B s (Sy73.step s x) Q E
/-- the methods, as of_call wants them -/
structure Meths (P : Program) (w : World) (K : PySem.W.Frag) (mg : Str → Option Value) (base : Heap) (C CF : Addr) (f0 f1 f2 f3 f4 f5 f6 f7 f8 f9 fL : Addr) (d0 d1 d2 d3 d4 d5 d6 d7 d8 d9 dL : FuncData) : Prop where
  D0 : MDef K C "begins" "Box.begins" (sBoxM 1) ["self", "n"] f0 d0
  G0 : FnOk P w K mg base (L2.CX P w) 4 f0 d0 ["self", "n"] (spBegins K C CF)
  D1 : MDef K C "put_spider" "Box.put_spider" (sBoxM 2) ["self", "n"] f1 d1
  G1 : FnOk P w K mg base (L2.CX P w) 5 f1 d1 ["self", "n"] (spPutSpider K C CF)
  D2 : MDef K C "put_fly" "Box.put_fly" (sBoxM 3) ["self", "n"] f2 d2
  G2 : FnOk P w K mg base (L2.CX P w) 5 f2 d2 ["self", "n"] (spPutFly K C CF)
  D3 : MDef K C "way" "Box.way" (sBoxM 4) ["self"] f3 d3
  G3 : FnOk P w K mg base CX0 12 f3 d3 ["self"] (spM0 K C .way)
  D4 : MDef K C "over" "Box.over" (sBoxM 5) ["self", "faces"] f4 d4
  G4 : FnOk P w K mg base (L2.CX P w) 6 f4 d4 ["self", "faces"] (spOver K C CF)
  D5 : MDef K C "many" "Box.many" (sBoxM 6) ["self"] f5 d5
  G5 : FnOk P w K mg base CX0 12 f5 d5 ["self"] (spM0 K C .many)
  D6 : MDef K C "straight" "Box.straight" (sBoxM 7) ["self"] f6 d6
  G6 : FnOk P w K mg base CX0 1 f6 d6 ["self"] (spM0 K C .straight)
  D7 : MDef K C "farthest" "Box.farthest" (sBoxM 9) ["self"] f7 d7
  G7 : FnOk P w K mg base (L2.CX P w) 14 f7 d7 ["self"] (spM0X K C CF .farthest)
  D8 : MDef K C "within" "Box.within" (sBoxM 10) ["self", "most"] f8 d8
  G8 : FnOk P w K mg base (L2.CX P w) 14 f8 d8 ["self", "most"] (spWithin K C CF)
  D9 : MDef K C "touched" "Box.touched" (sBoxM 11) ["self"] f9 d9
  G9 : FnOk P w K mg base CX0 4 f9 d9 ["self"] (spM0 K C .faces)
  DL : Def K mg "listed" sListed ["some"] fL dL
  GL : FnOk P w K mg base CX0 1 fL dL ["some"] (spListed K)
theorem ok_ofCall {C CF f f0 f1 f2 f3 f4 f5 f6 f7 f8 f9 fL : Addr} {fd d0 d1 d2 d3 d4 d5 d6 d7 d8 d9 dL : FuncData} {t : Tok} (T : BoxC K C) (D : MDef K C "of_call" "Box.of_call" (sBoxM 12) ["self", "call", "n", "row"] f fd)
    (X : Meths P w K mg base C CF f0 f1 f2 f3 f4 f5 f6 f7 f8 f9 fL d0 d1 d2 d3 d4 d5 d6 d7 d8 d9 dL) (gO : mg "OVER" = some (.int 4 t)) :
    FnOk P w K mg base (L2.CX P w) 15 f fd ["self", "call", "n", "row"] (spOfCall K C CF) := by
  refine D.fn.okX scOfCall (fun vs H Q E h => ?_) (fun cdv A outer s H vs Q E hr h => ?_)
  · obtain ⟨_, _, _, _, _, _, _, _, _, rfl, _⟩ := h
    rfl
  · obtain ⟨G, B, an, ar, s, k, ns, l, x, rfl, Cp, ret⟩ := h
    have M := Cp.m
    have hr1 : Room 1 _ := hr.mono (by decide)
    have hr4 : Room 4 _ := hr.mono (by decide)
    have hr5 : Room 5 _ := hr.mono (by decide)
    have hr6 : Room 6 _ := hr.mono (by decide)
    have hr12 : Room 12 _ := hr.mono (by decide)
    refine ⟨_, pss_cons (ps_if (pt_cmpR op_eq (pv 1) pe_int (nomark _)) (pss_one (ps_ret (pe_meth (E := E) (pv 0) T.cl X.D0.m X.G0 hr4 X.D0.bi .nil (passes_call (takes_of rfl rfl rfl rfl) (fun _ _ _ _ h => h)) (pa_cons (pv 2) pa_nil)))) pss_nil)
      (pss_cons (ps_if (pt_cmpR op_eq (pv 1) pe_int (nomark _)) (pss_one (ps_ret (pe_meth (E := E) (pv 0) T.cl X.D1.m X.G1 hr5 X.D1.bi .nil (passes_call (takes_of rfl rfl rfl rfl) (fun _ _ _ _ h => h)) (pa_cons (pv 2) pa_nil)))) pss_nil)
      (pss_cons (ps_if (pt_cmpR op_eq (pv 1) pe_int (nomark _)) (pss_one (ps_ret (pe_meth (E := E) (pv 0) T.cl X.D2.m X.G2 hr5 X.D2.bi .nil (passes_call (takes_of rfl rfl rfl rfl) (fun _ _ _ _ h => h)) (pa_cons (pv 2) pa_nil)))) pss_nil)
      (pss_cons (ps_if (pt_cmpR op_eq (pv 1) pe_int (nomark _)) (pss_one (ps_ret (pe_meth0 (pv 0) T.cl X.D3.m X.G3 hr12 X.D3.bi .nil pass0))) pss_nil)
      (pss_cons (ps_if (pt_cmpR op_eq (pv 1) (pe_glob (v := .int 4) rfl gO ⟨_, rfl⟩) (nomark _)) (pss_one (ps_ret (pe_meth (E := E) (pv 0) T.cl X.D4.m X.G4 hr6 X.D4.bi .nil (passes_call (takes_of rfl rfl rfl rfl) (fun _ _ _ _ h => h)) (pa_cons (pv 3) pa_nil)))) pss_nil)
      (pss_cons (ps_if (pt_cmpR op_eq (pv 1) pe_int (nomark _)) (pss_one (ps_ret (pe_meth0 (pv 0) T.cl X.D5.m X.G5 hr12 X.D5.bi .nil pass0))) pss_nil)
      (pss_cons (ps_if (pt_cmpR op_eq (pv 1) pe_int (nomark _)) (pss_one (ps_ret (pe_meth0 (pv 0) T.cl X.D6.m X.G6 hr1 X.D6.bi .nil pass0))) pss_nil)
      (pss_cons (ps_if (pt_cmpR op_eq (pv 1) pe_int (nomark _)) (pss_one (ps_ret (pe_meth0 (E := E) (pv 0) T.cl X.D7.m X.G7 hr X.D7.bi .nil (passes_call (takes_of rfl rfl rfl rfl) (fun _ _ _ _ h => h))))) pss_nil)
      (pss_cons (ps_if (pt_cmpR op_eq (pv 1) pe_int (nomark _)) (pss_one (ps_ret (pe_meth (E := E) (pv 0) T.cl X.D8.m X.G8 hr X.D8.bi .nil (passes_call (takes_of rfl rfl rfl rfl) (fun _ _ _ _ h => h)) (pa_cons (pe_ix ix_seq (pv 2) pe_int (fun _ _ => rfl)) pa_nil)))) pss_nil)
      (pss_cons (ps_if (pt_cmpR op_eq (pv 1) pe_int (nomark _)) (pss_one (ps_ret (pe_meth0 (pv 0) T.cl X.D9.m X.G9 hr4 X.D9.bi .nil pass0))) pss_nil)
      (pss_one (ps_ret (pe_op op_cat (pe_op op_cat (pe_op op_cat (pe_lst (pa_cons pe_int pa_nil)) (pe_call X.GL hr1 rfl X.DL.g X.DL.fn.kp X.DL.bi .nil pass0 (pa_cons (pe_fld (pv 0) rfl) pa_nil)))
        (pe_call X.GL hr1 rfl X.DL.g X.DL.fn.kp X.DL.bi .nil pass0 (pa_cons (pe_fld (pv 0) rfl) pa_nil))) (pe_call X.GL hr1 rfl X.DL.g X.DL.fn.kp X.DL.bi .nil pass0 (pa_cons (pe_fld (pv 0) rfl) pa_nil)))))))))))))), ?_⟩
    have sG := M.sG
    obtain ⟨dx, L0, S0, F0, hB, hL, hS, hF⟩ := M.b.at_
    have no : ∀ m : Str, (m == ("lengths" : Str)) = false → (m == ("spider" : Str)) = false → (m == ("fly" : Str)) = false → (boxF (.ref L0) (.ref S0) (.ref F0)).lookup m = none := fun m => boxF_no _ _ _ m
    have hx := Cp.x
    by_cases e0 : k = 0
    · subst e0
      obtain ⟨a, b, c, rfl⟩ := callP_3 hx (by decide)
      cases hx
      exact ⟨_, rfl, rfl, _, rfl, if_eq rfl ⟨_, rfl, B, dx, _, rfl, hB, no _ (by decide +kernel) (by decide +kernel) (by decide +kernel), _, rfl, G, B, an, s, a, b, c, rfl, M, Cp.n, ret⟩⟩
    refine ⟨_, rfl, rfl, _, rfl, if_ne (by omega) ?_⟩
    by_cases e1 : k = 1
    · subst e1
      obtain ⟨a, b, c, rfl⟩ := callP_3 hx (by decide)
      cases hx
      exact ⟨_, rfl, rfl, _, rfl, if_eq rfl ⟨_, rfl, B, dx, _, rfl, hB, no _ (by decide +kernel) (by decide +kernel) (by decide +kernel), _, rfl, G, B, an, s, a, b, c, rfl, M, Cp.n, ret⟩⟩
    refine ⟨_, rfl, rfl, _, rfl, if_ne (by omega) ?_⟩
    by_cases e2 : k = 2
    · subst e2
      obtain ⟨a, b, c, rfl⟩ := callP_3 hx (by decide)
      cases hx
      exact ⟨_, rfl, rfl, _, rfl, if_eq rfl ⟨_, rfl, B, dx, _, rfl, hB, no _ (by decide +kernel) (by decide +kernel) (by decide +kernel), _, rfl, G, B, an, s, a, b, c, rfl, M, Cp.n, ret⟩⟩
    refine ⟨_, rfl, rfl, _, rfl, if_ne (by omega) ?_⟩
    by_cases e3 : k = 3
    · subst e3
      obtain rfl := callP_0 hx (by decide)
      cases hx
      exact ⟨_, rfl, rfl, _, rfl, if_eq rfl ⟨_, rfl, B, dx, _, rfl, hB, no _ (by decide +kernel) (by decide +kernel) (by decide +kernel), G, B, s, rfl, M, ret.1⟩⟩
    refine ⟨_, rfl, rfl, _, rfl, if_ne (by omega) ?_⟩
    by_cases e4 : k = 4
    · subst e4
      obtain rfl := callP_0 hx (by decide)
      cases hx
      exact ⟨_, rfl, rfl, _, rfl, if_eq rfl ⟨_, rfl, B, dx, _, rfl, hB, no _ (by decide +kernel) (by decide +kernel) (by decide +kernel), _, rfl, G, B, ar, s, l, rfl, M, Cp.r, Cp.l60, ret⟩⟩
    refine ⟨_, rfl, rfl, _, rfl, if_ne (by omega) ?_⟩
    by_cases e5 : k = 5
    · subst e5
      obtain rfl := callP_0 hx (by decide)
      cases hx
      exact ⟨_, rfl, rfl, _, rfl, if_eq rfl ⟨_, rfl, B, dx, _, rfl, hB, no _ (by decide +kernel) (by decide +kernel) (by decide +kernel), G, B, s, rfl, M, ret.1⟩⟩
    refine ⟨_, rfl, rfl, _, rfl, if_ne (by omega) ?_⟩
    by_cases e6 : k = 6
    · subst e6
      obtain rfl := callP_0 hx (by decide)
      cases hx
      exact ⟨_, rfl, rfl, _, rfl, if_eq rfl ⟨_, rfl, B, dx, _, rfl, hB, no _ (by decide +kernel) (by decide +kernel) (by decide +kernel), G, B, s, rfl, M, ret.1⟩⟩
    refine ⟨_, rfl, rfl, _, rfl, if_ne (by omega) ?_⟩
    by_cases e7 : k = 7
    · subst e7
      obtain rfl := callP_0 hx (by decide)
      cases hx
      exact ⟨_, rfl, rfl, _, rfl, if_eq rfl ⟨_, rfl, B, dx, _, rfl, hB, no _ (by decide +kernel) (by decide +kernel) (by decide +kernel), G, B, s, rfl, M, ret⟩⟩
    refine ⟨_, rfl, rfl, _, rfl, if_ne (by omega) ?_⟩
    by_cases e8 : k = 8
    · subst e8
      obtain ⟨a, rfl⟩ := callP_8 hx
      cases hx
      exact ⟨_, rfl, rfl, _, rfl, if_eq rfl ⟨_, rfl, B, dx, _, rfl, hB, no _ (by decide +kernel) (by decide +kernel) (by decide +kernel), _, rfl, ix_of (i := 0) (.inl (sG.seq Cp.n)) rfl ⟨G, B, s, a, rfl, M, ret⟩⟩⟩
    refine ⟨_, rfl, rfl, _, rfl, if_ne (by omega) ?_⟩
    by_cases e9 : k = 9
    · subst e9
      obtain rfl := callP_0 hx (by decide)
      cases hx
      exact ⟨_, rfl, rfl, _, rfl, if_eq rfl ⟨_, rfl, B, dx, _, rfl, hB, no _ (by decide +kernel) (by decide +kernel) (by decide +kernel), G, B, s, rfl, M, ret.1⟩⟩
    refine ⟨_, rfl, rfl, _, rfl, if_ne (by omega) ?_⟩
    have e10 : k = 10 := by have := callP_le hx; omega
    subst e10
    obtain rfl := callP_0 hx (by decide)
    cases hx
    -- state
    have lb : (s.box.map nV).length = 3 := by rw [List.length_map, M.ok.b3]
    have lsp : (s.spider.map nV).length = 3 := by rw [List.length_map, M.ok.sp.p3]
    have lfl : (s.fly.map nV).length = 3 := by rw [List.length_map, M.ok.fl.p3]
    refine ⟨(by decide : 1 ≤ sizeLine), fun O1 m1 => ?_⟩
    have gA := Grow.add (o := .lst [.int 0]) sG m1
    have sA := same_upd m1 (o := .lst [.int 0])
    refine ⟨_, rfl, B, C, dx, _, _, rfl, sA _ _ hB, T.cl, T.nL, boxF_l _ _ _, _, L0, _, rfl, gA.gh, .inl ((sG.trans sA).seq hL), by omega, fun G2 H2 D2 g2 h2 => ?_⟩
    have gB := gA.trans g2
    refine ⟨O1, D2, _, _, rfl, rfl, g2.hh _ _ upd_same, g2.gh _ _ h2, by rw [List.length_cons, List.length_cons, lb]; decide, fun O2 m2 => ?_⟩
    have gC := gB.trans (Grow.add (o := .lst (([.int 0] : List V) ++ (V.int ((s.box.map nV).length : Nat) :: s.box.map nV))) gB.gh m2)
    have ghC := gC.gg.trans gC.gh
    refine ⟨_, rfl, B, C, dx, _, _, rfl, gC.hh _ _ hB, T.cl, T.nS, boxF_s _ _ _, _, S0, _, rfl, gC.gh, .inr (Same.seqT ghC hS), by omega, fun G3 H3 D3 g3 h3 => ?_⟩
    have gD := gC.trans g3
    refine ⟨O2, D3, _, _, rfl, rfl, g3.hh _ _ upd_same, g3.gh _ _ h3, by rw [List.length_append, List.length_cons, List.length_cons, List.length_cons, lb, lsp]; decide, fun O3 m3 => ?_⟩
    have gE := gD.trans (Grow.add (o := .lst ((([.int 0] : List V) ++ (V.int ((s.box.map nV).length : Nat) :: s.box.map nV)) ++ (V.int ((s.spider.map nV).length : Nat) :: s.spider.map nV))) gD.gh m3)
    have ghE := gE.gg.trans gE.gh
    refine ⟨_, rfl, B, C, dx, _, _, rfl, gE.hh _ _ hB, T.cl, T.nF, boxF_f _ _ _, _, F0, _, rfl, gE.gh, .inr (Same.seqT ghE hF), by omega, fun G4 H4 D4 g4 h4 => ?_⟩
    have gF := gE.trans g4
    refine ⟨O3, D4, _, _, rfl, rfl, g4.hh _ _ upd_same, g4.gh _ _ h4, by rw [List.length_append, List.length_append, List.length_cons, List.length_cons, List.length_cons, List.length_cons, lb, lsp, lfl]; decide, fun O4 m4 => ?_⟩
    have gG := gF.trans (Grow.add (o := .lst (((([.int 0] : List V) ++ (V.int ((s.box.map nV).length : Nat) :: s.box.map nV)) ++ (V.int ((s.spider.map nV).length : Nat) :: s.spider.map nV)) ++ (V.int ((s.fly.map nV).length : Nat) :: s.fly.map nV))) gF.gh m4)
    refine ret.1 _ _ O4 gG.m (M.b.grow gG) ?_
    rw [upd_same]
    show _ = some (HO.lst ((0 :: (((Sy73.ints s.box).length : Int) :: Sy73.ints s.box ++ (((Sy73.ints s.spider).length : Int) :: Sy73.ints s.spider ++ (((Sy73.ints s.fly).length : Int) :: Sy73.ints s.fly ++ [])))).map V.int))
    have el : ∀ p : List Nat, (Sy73.ints p).length = (p.map nV).length := fun p => by rw [List.length_map]; exact List.length_map ..
    rw [List.append_nil, List.map_cons, List.map_append, List.map_cons, List.map_append, List.map_cons, List.map_cons, ← nV_ints, ← nV_ints, ← nV_ints, el, el, el, List.append_assoc, List.append_assoc]
    rfl
end
end Fly

/-! ## W24 -/
namespace Fly
open PySem PySem.Spec PyProof.Rows L2
/-! ### a method's call within a try (the skeleton 30_by_hand's words) -/
/-- o.m(e, ..) within a try: what it raises is wished for at the slots as they stand -/
def tMethT (C : Addr) (m : Str) (sp : Sp) (E : L2.St → XK) (ta : TE) (t : TA) : TE := fun σ H Q => ta σ H fun x H1 => ∃ a dx fs, x = .ref a ∧ H1 a = some (.ins C dx fs) ∧ fs.lookup m = none ∧ t σ H1 fun vs H2 => sp (x :: vs) H2 Q (E σ)
theorem pe_methT {X : Cx} {CX : CXT} {k : Nat} {f C : Addr} {fd : FuncData} {ps : List Str} {sp : Sp} {E : L2.St → XK} {m : Str} {pos apos : Pos} {e o : Expr} {es : List Expr} {ta : TE} {t : TA} {pl : Sem Bool} (he : PE X o ta) (c : Cls X.K C) (hm : Meth X.K C m f)
    (F : FnOk X.prog X.w X.K X.mg X.base CX k f fd ps sp) (hr : Room k X.A) (hb : Binds X.K fd ps []) (hx : ∀ σ, PassesAt CX X σ (E σ)) (ha : PA X (e :: es) t)
    (hst : starEach (e :: es) X.env = (false, eval e X.env) :: starEach es X.env := by rfl) (hpl : (backTo pos (starEach es X.env)).any (·.1) = false := by rfl)
    (ht : eval (.Call (.Attribute o m apos) (e :: es) [] pos) X.env = (do
      let ov ← eval o X.env
      standAt apos.atName
      let (f, first) ← holding [ov] (getMethod ov m pl)
      callWith pos f first (backTo pos (starEach (e :: es) X.env)) (backToKw pos (keywordEach [] X.env))) := by rfl) :
    PE X (.Call (.Attribute o m apos) (e :: es) [] pos) (tMethT C m sp E ta t) := by
  refine ⟨fun pins s σ H Q I h => ?_⟩
  refine PySem.W.methodCall_KW (pl := pl) (thn (he.run pins s σ H _ I h) fun u s1 ⟨x, H1, I1, rx, a, dx, fs, ex, ea, l, q⟩ => ?_) ht
  subst ex
  obtain rfl : u = Value.ref a := rx
  refine getmeth_ok I1 ea c hm l ?_
  refine PySem.W.callWith_K (first := [.ref a]) (h₀ := X.base) I1.ok.mod.kin hm.kp (thn (ha.run pos pins s1 σ H1 _ I1 q) fun us s2 ⟨vs, H2, I2, r, q2⟩ => ⟨I2.kIn, ?_⟩) hst hpl
  exact run_fnS (us := .ref a :: us) (vs := .ref a :: vs) F hr hb (hx σ) I2 (.cons rfl r) q2
section
variable {P : Program} {w : World} {K : PySem.W.Frag} {mg : Str → Option Value} {base : Heap}
/-! ### answer -/
theorem scAnswer : FnScope ["self", "call", "n", "row", "found", "e"] ["self", "call", "n", "row"] (defScope (sBoxM 13)) := ⟨rfl, rfl, rfl, by decide +kernel, rfl, by decide +kernel, by decide +kernel⟩
def spAnswer (K : PySem.W.Frag) (C : Addr) : Sp := fun vs H Q _ => ∃ (G : Hp) (B an ar : Addr) (s : Sy73.St) (k : Nat) (ns l : List Nat) (x : Sy73.Call), vs = [.ref B, nV k, .ref an, .ref ar] ∧ CPre K C G H B an ar s k ns l x ∧ MOut K C G H B (Sy73.step s x) Q
theorem ok_answer {C CF fRI f fO : Addr} {fdRI fd fdO : FuncData} (T : BoxC K C) (R : RefC K mg CF fRI fdRI) (D : MDef K C "answer" "Box.answer" (sBoxM 13) ["self", "call", "n", "row"] f fd)
    (DO : MDef K C "of_call" "Box.of_call" (sBoxM 12) ["self", "call", "n", "row"] fO fdO) (GO : FnOk P w K mg base (L2.CX P w) 15 fO fdO ["self", "call", "n", "row"] (spOfCall K C CF)) :
    FnOk P w K mg base CX0 16 f fd ["self", "call", "n", "row"] (spAnswer K C) := by
  refine D.fn.ok scAnswer (fun vs H Q E h => ?_) (fun cdv A outer s H vs Q E hr h => ?_)
  · obtain ⟨_, _, _, _, _, _, _, _, _, rfl, _⟩ := h
    rfl
  · obtain ⟨G, B, an, ar, s, k, ns, l, x, rfl, Cp, ret⟩ := h
    refine ⟨_, pss_cons (ps_set (i := 4) scAnswer.nd rfl (.inl rfl) (pe_lst pa_nil))
      (pss_cons (ps_try_as (i := 5) (tb := fun W => tAsg (tMethT C "of_call" (spOfCall K C CF) (WE W) (tVar 0) (tCons (tVar 1) (tCons (tVar 2) (tCons (tVar 3) tNil)))) (gName 4))
          (ts := fun a cls d => tAsg (tLst (tCons (tXf a cls d CF "refusal" (tVar 5)) tNil)) (gName 4)) (Wout := fun _ _ _ _ => False) rfl rfl scAnswer.nd rfl rfl ⟨rfl, by decide, Or.inl R.g⟩ takes0
          (fun W pn xe tk _ => pss_one (ps_set (i := 4) scAnswer.nd rfl (Or.inl rfl) (by exact (pe_methT (pv 0) T.cl DO.m GO hr DO.bi (fun σ => passAt tk σ) (by exact (pa_cons (pv 1) (pa_cons (pv 2) (pa_cons (pv 3) pa_nil))))))))
          (fun a oe cls d pn hz hf => pss_one (ps_set (i := 4) scAnswer.nd rfl (Or.inl rfl) (by exact (pe_lst (pa_cons (pe_xf R.xf R.nR hz hf (pv 5)) pa_nil))))))
      (pss_one (ps_ret (pv 4)))), ?_⟩
    have M := Cp.m
    obtain ⟨dx, L0, S0, F0, hB, hL, hS, hF⟩ := M.b.at_
    refine ⟨Nat.zero_le _, fun L nL => ?_⟩
    have g0 : Grow G H G (upd H L (.lst [])) := Grow.tmp M.sG (same_upd nL)
    have M0 : MPre K C G (upd H L (.lst [])) B s := M.grow g0
    have hB0 := g0.hh _ _ hB
    refine ⟨_, rfl, B, dx, _, rfl, hB0, boxF_no _ _ _ _ (by decide +kernel) (by decide +kernel) (by decide +kernel), _, rfl, _, rfl, _, rfl, ?_⟩
    refine ⟨G, B, an, ar, s, k, ns, l, x, rfl, ⟨M0, Cp.n, Cp.r, Cp.l60, Cp.x⟩, fun G' H' D gm hb hd => ?_, fun d H' n g hd ho hs => ?_⟩
    · exact ⟨_, rfl, ret G' H' D (g0.m.trans gm) hb hd⟩
    · refine ⟨true, R.te, fun _ a0 na => ?_, fun q => Bool.noConfusion q⟩
      refine ⟨_, rfl, rfl, rfl, d, _, _, rfl, hd, lk_here, (by decide : 1 ≤ sizeLine), fun O nO => ?_⟩
      have gA := (g0.trans g).trans (Grow.add (o := .lst [.int n]) g.gh nO)
      refine ⟨_, rfl, ret _ _ O gA.m ?_ ?_⟩
      · rw [hs]
        exact M.b.grow gA
      · rw [upd_same, ho]
        rfl
end
end Fly

/-! ## W25 -/
namespace Fly
open PySem PySem.Spec PyProof.Rows L2
theorem Grow.box {B : Addr} {G H G1 H1 G2 H2 : Hp} (a : Grow G H G1 H1) (hB : H B = none) (b : MGrow B G1 H1 G2 H2) : Grow G H G2 H2 :=
  ⟨a.st, a.gg.trans b.gg, b.gh, fun c o e => b.hh c o (ne_of_none e hB) (a.hh c o e), fun c h h' => b.new c (a.new c h h') (some_of_same a.hh h')⟩
theorem cut_nat (xs : List V) {i j : Nat} (hi : i ≤ xs.length) (hj : j ≤ xs.length) : cutV xs (some (i : Int)) (some (j : Int)) = (xs.drop i).take (j - i) := by
  unfold cutV
  rw [HT.sIx_nat, HT.sIx_nat, Nat.min_eq_left hi, Nat.min_eq_left hj]
theorem mid_cut {α : Type} (a b c : List α) : ((a ++ (b ++ c)).drop a.length).take (a.length + b.length - a.length) = b := by
  rw [List.drop_left, Nat.add_sub_cancel_left, List.take_left]
theorem ints_V (l : List Nat) : (Sy73.ints l).map V.int = l.map nV := (nV_ints l).symm
theorem told_next {raw : List (List (List Int))} {i : Nat} {c : List (List Int)} {k : Nat} {ns l : List Nat} {x : Sy73.Call} (hc : raw[i]? = some c) (F : Form c k ns l x) :
    PyFlat.told (playR Sy73.init (raw.take (i + 1))) = PyFlat.told (playR Sy73.init (raw.take i)) ++ (((outA (Sy73.step (stTo Sy73.init (raw.take i)) x).2).length : Int) :: outA (Sy73.step (stTo Sy73.init (raw.take i)) x).2) ∧
    stTo Sy73.init (raw.take (i + 1)) = (Sy73.step (stTo Sy73.init (raw.take i)) x).1 := by
  rw [take_next hc, playR_append, told_append, stTo_append]
  constructor
  · congr 1
    show ((((stepR (stTo Sy73.init (raw.take i)) c).2.length : Int) :: (stepR (stTo Sy73.init (raw.take i)) c).2) ++ []) = _
    rw [List.append_nil, stepR_is F]
    rfl
  · show (stepR (stTo Sy73.init (raw.take i)) c).1 = _
    rw [stepR_is F]
theorem told_short {ns : List Int} {raw : List (List (List Int))} (A : Asked ns raw) (i : Nat) : (PyFlat.told (playR Sy73.init (raw.take i))).length ≤ 10000000 := by
  have h := A.short
  rw [A.ans, ← List.take_append_drop i raw, playR_append, told_append, List.length_append] at h
  omega
def putTo (raw : List (List (List Int))) (i : Nat) : List Int := PyFlat.put (raw.take i)
theorem put_at {ns : List Int} {raw : List (List (List Int))} (A : Asked ns raw) {i : Nat} {c : List (List Int)} {k : Nat} {nn l : List Nat} {x : Sy73.Call} (hc : raw[i]? = some c) (F : Form c k nn l x) :
    ns = putTo raw i ++ ((k : Int) :: (Sy73.ints nn ++ ((if k = 4 then (l.length : Int) :: Sy73.ints l else []) ++ PyFlat.put (raw.drop (i + 1))))) ∧
    (putTo raw (i + 1)).length = (putTo raw i).length + 1 + nn.length + (if k = 4 then 1 + l.length else 0) := by
  have e : raw = raw.take i ++ ([c] ++ raw.drop (i + 1)) := by
    rw [← List.append_assoc, ← take_next hc, List.take_append_drop]
  have e1 : PyFlat.put [c] = (k : Int) :: (Sy73.ints nn ++ (if k = 4 then (l.length : Int) :: Sy73.ints l else [])) := by
    show PyFlat.put1 c ++ [] = _
    rw [List.append_nil, F.put]
  constructor
  · have h := A.put
    rw [e, put_append, put_append, e1] at h
    rw [h, List.cons_append, List.append_assoc]
    rfl
  · unfold putTo
    rw [take_next hc, put_append, e1, List.length_append, List.length_cons, List.length_append]
    have l1 : (Sy73.ints nn).length = nn.length := List.length_map ..
    have l2 : (Sy73.ints l).length = l.length := List.length_map ..
    rw [l1]
    split
    · rw [List.length_cons, l2]; omega
    · rw [List.length_nil]; omega
theorem callP_row {k : Nat} {ns l : List Nat} {x : Sy73.Call} (hk : k ≠ 4) (h : callP k ns l = some x) : callP k ns [] = some x := by
  have le := callP_le h
  match k, le with
  | 0, _ => match ns, h with | [_, _, _], h => exact h
  | 1, _ => match ns, h with | [_, _, _], h => exact h
  | 2, _ => match ns, h with | [_, _, _], h => exact h
  | 3, _ => match ns, h with | [], h => exact h
  | 4, _ => exact absurd rfl hk
  | 5, _ => match ns, h with | [], h => exact h
  | 6, _ => match ns, h with | [], h => exact h
  | 7, _ => match ns, h with | [], h => exact h
  | 8, _ => match ns, h with | [_], h => exact h
  | 9, _ => match ns, h with | [], h => exact h
  | 10, _ => match ns, h with | [], h => exact h
section
variable {P : Program} {w : World} {K : PySem.W.Frag} {mg : Str → Option Value} {base : Heap}
abbrev sAnswers : Stmt := topS 48
theorem scAnswers : FnScope ["calls", "found", "box", "place", "call", "behind", "n", "row", "answer"] ["calls"] (defScope sAnswers) := ⟨rfl, rfl, rfl, by decide +kernel, rfl, by decide +kernel, by decide +kernel⟩
def spAnswers (K : PySem.W.Frag) : Sp := fun vs H Q _ => ∃ (a : Addr) (ns : List Int), vs = [.ref a] ∧ SqL K H a (ns.map V.int) ∧ PySy73.answers_asked ns = true ∧ ∀ (H' : Hp) (p : Addr), H' p = some (.lst ((PySy73.answers ns).map V.int)) → Q (.ref p) H'
def numV : List V := nums.map nV
/-- the loop's own state, behind i calls -/
structure Loop (K : PySem.W.Frag) (C : Addr) (H H' G' : Hp) (D B : Addr) (raw : List (List (List Int))) (i : Nat) : Prop where
  g : Grow H H G' H'
  d : H' D = some (.lst ((PyFlat.told (playR Sy73.init (raw.take i))).map V.int))
  dg : G' D = none
  bg : G' B = none
  b : BoxAt K C G' H' B (stTo Sy73.init (raw.take i))
theorem ok_answers {C fI f fA : Addr} {fdI fd fdA : FuncData} {aN : Addr} {t : Tok} (T : BoxC K C) (D : Def K mg "answers" sAnswers ["calls"] f fd) (mk : Mk K C fI) (FI : Fun K "__init__" "Box.__init__" (sBoxM 0) fI fdI) (bI : Binds K fdI ["self"] []) (gC : mg "Box" = some (.ref C))
    (DA : MDef K C "answer" "Box.answer" (sBoxM 13) ["self", "call", "n", "row"] fA fdA) (GA : FnOk P w K mg base CX0 16 fA fdA ["self", "call", "n", "row"] (spAnswer K C))
    (gN : mg "NUMBERS" = some (.ref aN)) (tN : ∀ H, SqT K H aN numV) (gO : mg "OVER" = some (.int 4 t)) (mLen : mg "len" = none) :
    FnOk P w K mg base CX0 17 f fd ["calls"] (spAnswers K) := by
  refine D.fn.ok scAnswers (fun vs H Q E h => ?_) (fun cdv A outer s H vs Q E hr h => ?_)
  · obtain ⟨_, _, rfl, _⟩ := h
    rfl
  · obtain ⟨a, ns, rfl, ha, hask, q⟩ := h
    obtain ⟨raw, AK⟩ := asked_of hask
    have hr2 : Room 2 _ := hr.mono (by decide)
    have GI : FnOk P w K mg base CX0 1 fI fdI ["self"] (spBoxInit K C) := ok_boxInit T FI
    refine ⟨_, pss_cons (ps_set (i := 1) scAnswers.nd rfl (.inl rfl) (pe_lst pa_nil))
      (pss_cons (ps_set (i := 2) scAnswers.nd rfl (.inl rfl) (pe_make0 mk GI hr2 rfl gC bI .nil pass0))
      (pss_cons (ps_set (i := 3) scAnswers.nd rfl (.inl rfl) pe_int)
      (pss_cons (ps_while PassesOwn.never (pt_cmpR op_lt (pv 3) (pe_callB call_len_seq (by rfl) mLen PySem.boot_len (pa_cons (pv 0) pa_nil)) (nomark _))
        (pss_cons (ps_set (i := 4) scAnswers.nd rfl (.inl rfl) (pe_ix ix_seq (pv 0) (pv 3) (fun _ _ => rfl)))
        (pss_cons (ps_set (i := 5) scAnswers.nd rfl (.inl rfl) (pe_op op_add (pe_op op_add (pv 3) pe_int) (pe_ix ix_seq (pe_glob (v := .ref aN) rfl gN rfl) (pv 4) (fun _ _ => rfl))))
        (pss_cons (ps_set (i := 6) scAnswers.nd rfl (.inl rfl) (pe_slice sl_list (pv 0) (po_some (pe_op op_add (pv 3) pe_int)) (po_some (pv 5))))
        (pss_cons (ps_set (i := 7) scAnswers.nd rfl (.inl rfl) (pe_lst pa_nil))
        (pss_cons (ps_if (pt_cmpR op_eq (pv 4) (pe_glob (v := .int 4) rfl gO ⟨_, rfl⟩) (nomark _))
          (pss_cons (ps_set (i := 7) scAnswers.nd rfl (.inl rfl) (pe_slice sl_list (pv 0) (po_some (pe_op op_add (pv 5) pe_int)) (po_some (pe_op op_add (pe_op op_add (pv 5) pe_int) (pe_ix ix_seq (pv 0) (pv 5) (fun _ _ => rfl))))))
            (pss_one (ps_set (i := 5) scAnswers.nd rfl (.inl rfl) (pe_op op_add (pe_op op_add (pv 5) pe_int) (pe_callB call_len_seq (by rfl) mLen PySem.boot_len (pa_cons (pv 7) pa_nil)))))) pss_nil)
        (pss_cons (ps_set (i := 8) scAnswers.nd rfl (.inl rfl) (pe_meth (pv 2) T.cl DA.m GA hr DA.bi .nil pass0 (pa_cons (pv 4) (pa_cons (pv 6) (pa_cons (pv 7) pa_nil)))))
        (pss_cons (ps_expr (pe_bm PySem.F.plainAttrs_list PySem.F.slot_list_append PySem.F.type_list_append mt_append (pv 1) (pa_cons (pe_callB call_len_seq (by rfl) mLen PySem.boot_len (pa_cons (pv 8) pa_nil)) pa_nil)))
        (pss_cons (ps_expr (pe_bm PySem.F.plainAttrs_list PySem.F.slot_list_extend PySem.F.type_list_extend mt_extend (pv 1) (pa_cons (pv 8) pa_nil)))
        (pss_one (ps_set (i := 3) scAnswers.nd rfl (.inl rfl) (pv 5))))))))))))
      (pss_one (ps_ret (pv 1)))))), ?_⟩
    -- found = [], box = Box(), place = 0
    refine ⟨Nat.zero_le _, fun D0 nD => ?_⟩
    intro B dx nB ndx ne
    have s0 : Same H (upd H D0 (.lst [])) := same_upd nD
    have nDB : D0 ≠ B := ne_of_none upd_same nB
    have nDd : D0 ≠ dx := ne_of_none upd_same ndx
    have hB0 : H B = none := by rw [upd_ne (Ne.symm nDB)] at nB; exact nB
    have sx : Same (upd H D0 (.lst [])) (L2.del (upd (upd (upd H D0 (.lst [])) dx (.own B)) B (.ins C dx [])) B) := fun b o e => by
      have h1 : b ≠ B := ne_of_none e nB
      have h2 : b ≠ dx := ne_of_none e ndx
      rw [del_ne h1, upd_ne h1, upd_ne h2]
      exact e
    refine ⟨B, dx, rfl, upd_same, H, s0.trans sx, fun G1 H1 g1 hb1 => ⟨rfl, ?_⟩⟩
    have sdel : ∀ {X : Hp}, Same (L2.del X B) X := fun b o e => by
      have : b ≠ B := fun z => by rw [z, del_same] at e; cases e
      rw [del_ne this] at e
      exact e
    have gg : Grow H H G1 H1 := ⟨Same.refl _, g1.gg, g1.gh.trans sdel, ((s0.trans sx).trans g1.hh).trans sdel, fun b h h' => absurd h h'⟩
    have d1 : H1 D0 = some (.lst []) := (sx.trans (g1.hh.trans sdel)) _ _ upd_same
    have dg1 : G1 D0 = none := g1.new _ nD (by rw [sx _ _ upd_same]; exact fun z => nomatch z)
    have bg1 : G1 B = none := by
      cases e : G1 B with
      | none => rfl
      | some o =>
        have := g1.gh _ _ e
        rw [del_same] at this
        cases this
    have okR : ∀ i, StOk (stTo Sy73.init (raw.take i)) := fun i => stTo_ok _ (fun c hc => AK.form c (List.mem_of_mem_take hc)) init_ok
    have lenNs : (ns.map V.int).length = ns.length := List.length_map ..
    -- the loop
    refine ⟨fun m σ H' => ∃ i y4 y5 y6 y7 y8 G', m + i = raw.length ∧ σ = [some (.ref a), some (.ref D0), some (.ref B), some (nV (putTo raw i).length), y4, y5, y6, y7, y8] ∧ Loop K C H H' G' D0 B raw i,
      ⟨raw.length, 0, none, none, none, none, none, G1, rfl, rfl, ⟨gg, d1, dg1, bg1, hb1⟩⟩, ?_⟩
    rintro m σ H2 ⟨i, y4, y5, y6, y7, y8, G2, hm, rfl, W⟩
    have gh2 := W.g.hh
    have ha2 := gh2.seq ha
    refine ⟨_, rfl, _, rfl, a, _, rfl, .inl ha2, _, _, rfl, rfl, _, rfl, ?_⟩
    rw [lenNs]
    by_cases hi : i < raw.length
    · -- one more call
      obtain ⟨c, hc⟩ : ∃ c, raw[i]? = some c := ⟨_, List.getElem?_eq_getElem hi⟩
      obtain ⟨k, nn, l, x, F⟩ := AK.form c (List.mem_of_getElem? hc)
      obtain ⟨ens, elen⟩ := put_at AK hc F
      have hP : (putTo raw i).length < ns.length := by
        rw [ens, List.length_append, List.length_cons]; omega
      have ht : decide (((putTo raw i).length : Int) < (ns.length : Int)) = true := decide_eq_true (by omega)
      show if decide (((putTo raw i).length : Int) < (ns.length : Int)) = true then _ else _
      rw [ht]
      refine iteT ⟨fun σ' H' => ∃ y4 y5 y6 y7 y8 G', σ' = [some (.ref a), some (.ref D0), some (.ref B), some (nV (putTo raw (i + 1)).length), y4, y5, y6, y7, y8] ∧ Loop K C H H' G' D0 B raw (i + 1),
        fun σ' H' ⟨z4, z5, z6, z7, z8, G', es, W'⟩ => ⟨m - 1, by omega, i + 1, z4, z5, z6, z7, z8, G', by omega, es, W'⟩, ?_⟩
      -- what stands in the list
      have lp : (putTo raw i).length = ((putTo raw i).map V.int).length := (List.length_map ..).symm
      have lnn : (Sy73.ints nn).length = nn.length := List.length_map ..
      have eV : ns.map V.int = (putTo raw i).map V.int ++ (nV k :: (nn.map nV ++ (((if k = 4 then (l.length : Int) :: Sy73.ints l else []) ++ PyFlat.put (raw.drop (i + 1))).map V.int))) := by
        rw [ens, List.map_append, List.map_cons, List.map_append, ints_V]
        rfl
      have at0 : (ns.map V.int)[(putTo raw i).length]? = some (nV k) := by
        rw [eV, lp, List.getElem?_append_right (Nat.le_refl _), Nat.sub_self]
        rfl
      have lenTot : ns.length = (putTo raw i).length + 1 + nn.length + ((if k = 4 then (l.length : Int) :: Sy73.ints l else []) ++ PyFlat.put (raw.drop (i + 1))).length := by
        rw [ens, List.length_append, List.length_cons, List.length_append, lnn]
        omega
      -- call
      refine ⟨_, rfl, _, rfl, ix_of (.inl ha2) at0 ?_⟩
      -- behind
      have hnum : numV[k]? = some (nV nn.length) := by
        unfold numV
        rw [nV_map, F.n]
        rfl
      refine ⟨_, rfl, _, _, rfl, rfl, _, rfl, ix_of (.inr (tN _)) hnum ⟨_, _, rfl, rfl, ?_⟩⟩
      have eb : ((putTo raw i).length : Int) + 1 + (nn.length : Int) = (((putTo raw i).length + 1 + nn.length : Nat) : Int) := by omega
      have eb1 : ((putTo raw i).length : Int) + 1 = (((putTo raw i).length + 1 : Nat) : Int) := by omega
      -- n
      have ecut : cutV (ns.map V.int) (some (((putTo raw i).length + 1 : Nat) : Int)) (some (((putTo raw i).length + 1 + nn.length : Nat) : Int)) = nn.map nV := by
        rw [cut_nat _ (by rw [lenNs]; omega) (by rw [lenNs, lenTot]; omega), eV, lp]
        have e : ((putTo raw i).map V.int ++ (nV k :: (nn.map nV ++ (((if k = 4 then (l.length : Int) :: Sy73.ints l else []) ++ PyFlat.put (raw.drop (i + 1))).map V.int)))) = ((putTo raw i).map V.int ++ [nV k]) ++ (nn.map nV ++ (((if k = 4 then (l.length : Int) :: Sy73.ints l else []) ++ PyFlat.put (raw.drop (i + 1))).map V.int)) := by
          rw [List.append_assoc]
          rfl
        have z := mid_cut ((putTo raw i).map V.int ++ [nV k]) (nn.map nV) (((if k = 4 then (l.length : Int) :: Sy73.ints l else []) ++ PyFlat.put (raw.drop (i + 1))).map V.int)
        rw [List.length_append, List.length_singleton, List.length_map (as := nn)] at z
        rw [e]
        exact z
      refine ⟨_, rfl, _, rfl, _, _, rfl, rfl, (((putTo raw i).length + 1 : Nat) : Int), congrArg V.int eb1, _, rfl, (((putTo raw i).length + 1 + nn.length : Nat) : Int), congrArg V.int eb, a, _, rfl, ha2, fun N nN => ?_⟩
      rw [ecut]
      refine ⟨Nat.zero_le _, fun R0 nR0 => ?_⟩
      have gN := W.g.trans (Grow.add (o := .lst (nn.map nV)) W.g.gh nN)
      have gR := gN.trans (Grow.add (o := .lst []) gN.gh nR0)
      have neNR : N ≠ R0 := ne_of_none upd_same nR0
      have sNR : Same H2 (upd (upd H2 N (.lst (nn.map nV))) R0 (.lst [])) := (same_upd nN).trans (same_upd nR0)
      have gNR : Grow G2 H2 (upd (upd G2 N (.lst (nn.map nV))) R0 (.lst [])) (upd (upd H2 N (.lst (nn.map nV))) R0 (.lst [])) := (Grow.add (o := .lst (nn.map nV)) W.g.gh nN).trans (Grow.add (o := .lst []) gN.gh nR0)
      by_cases hk : k = 4
      · subst hk
        obtain rfl := callP_0 F.p (by decide)
        refine ⟨_, rfl, rfl, _, rfl, if_eq rfl ?_⟩
        -- row
        have ha4 := sNR.seq ha2
        have at1 : (ns.map V.int)[(putTo raw i).length + 1 + ([] : List Nat).length]? = some (nV l.length) := by
          rw [eV, lp, show ((putTo raw i).map V.int).length + 1 + ([] : List Nat).length = ((putTo raw i).map V.int).length + 1 from rfl, List.getElem?_append_right (Nat.le_add_right _ _), Nat.add_sub_cancel_left]
          rfl
        have ll : (Sy73.ints l).length = l.length := List.length_map ..
        have lenTot4 : ns.length = (putTo raw i).length + 1 + 0 + (1 + l.length + (PyFlat.put (raw.drop (i + 1))).length) := by
          rw [lenTot, if_pos rfl, List.length_append, List.length_cons, ll]
          show _ + 1 + 0 + _ = _
          omega
        have ec1 : ((putTo raw i).length : Int) + 1 + (([] : List Nat).length : Int) + 1 = (((putTo raw i).length + 2 : Nat) : Int) := by
          show ((putTo raw i).length : Int) + 1 + 0 + 1 = _
          omega
        have ec2 : ((putTo raw i).length : Int) + 1 + (([] : List Nat).length : Int) + 1 + (l.length : Int) = (((putTo raw i).length + 2 + l.length : Nat) : Int) := by
          show ((putTo raw i).length : Int) + 1 + 0 + 1 + _ = _
          omega
        have ecut4 : cutV (ns.map V.int) (some (((putTo raw i).length + 2 : Nat) : Int)) (some (((putTo raw i).length + 2 + l.length : Nat) : Int)) = l.map nV := by
          rw [cut_nat _ (by rw [lenNs]; omega) (by rw [lenNs]; omega), eV, lp]
          have e : ((putTo raw i).map V.int ++ (nV 4 :: (([] : List Nat).map nV ++ (((if 4 = 4 then (l.length : Int) :: Sy73.ints l else []) ++ PyFlat.put (raw.drop (i + 1))).map V.int)))) = ((putTo raw i).map V.int ++ [nV 4, nV l.length]) ++ (l.map nV ++ (PyFlat.put (raw.drop (i + 1))).map V.int) := by
            rw [if_pos rfl, List.map_append, List.map_cons, ints_V, List.append_assoc]
            rfl
          have z := mid_cut ((putTo raw i).map V.int ++ [nV 4, nV l.length]) (l.map nV) ((PyFlat.put (raw.drop (i + 1))).map V.int)
          rw [List.length_append, List.length_map (as := l)] at z
          rw [e]
          exact z
        refine ⟨_, rfl, _, rfl, _, _, rfl, rfl, (((putTo raw i).length + 2 : Nat) : Int), congrArg V.int ec1, _, rfl, _, _, rfl, rfl, _, rfl, _, rfl, ?_⟩
        show rIx K (.ref a) (V.int (((putTo raw i).length : Int) + 1 + (([] : List Nat).length : Int))) _ _
        rw [eb]
        refine ix_of (.inl ha4) at1 ⟨_, _, rfl, rfl, (((putTo raw i).length + 2 + l.length : Nat) : Int), congrArg V.int ec2, a, _, rfl, ha4, fun R nR => ?_⟩
        rw [ecut4]
        refine ⟨_, rfl, _, _, rfl, rfl, _, rfl, R, _, rfl, .inl (.inl (.inl upd_same)), _, _, rfl, rfl, ?_⟩
        have gx := gR.trans (Grow.add (o := .lst (l.map nV)) gR.gh nR)
        have gxs : Grow G2 H2 _ _ := gNR.trans (Grow.add (o := .lst (l.map nV)) gR.gh nR)
        generalize eG : upd (upd (upd G2 N (.lst (([] : List Nat).map nV))) R0 (.lst [])) R (.lst (l.map nV)) = Gx at gx gxs
        have neN2 : N ≠ R := ne_of_none ((upd_ne neNR).trans upd_same) nR
        have hN : Gx N = some (.lst (([] : List Nat).map nV)) := by rw [← eG, upd_ne neN2, upd_ne neNR, upd_same]
        have hR : Gx R = some (.lst (l.map nV)) := by rw [← eG, upd_same]
        have bx := W.b.grow gxs
        have dx0 := gxs.hh _ _ W.d
        have dgx : Gx D0 = none := gxs.new _ W.dg (by rw [W.d]; exact fun z => nomatch z)
        have bgx : Gx B = none := gxs.new _ W.bg (by
          obtain ⟨_, _, _, _, z, _⟩ := W.b.at_
          rw [z]; exact fun z => nomatch z)
        have ev : V.int (((putTo raw i).length : Int) + 1 + (([] : List Nat).length : Int) + 1 + ((l.map nV).length : Int)) = nV (putTo raw (i + 1)).length := by
          rw [elen, if_pos rfl, List.length_map]
          refine congrArg V.int ?_
          show ((putTo raw i).length : Int) + 1 + 0 + 1 + _ = (((putTo raw i).length + 1 + 0 + (1 + l.length) : Nat) : Int)
          omega
        -- answer
        obtain ⟨dxb, Lb, Sb, Fb, hBx, hLb, hSb, hFb⟩ := bx.at_
        refine ⟨_, rfl, B, dxb, _, rfl, hBx, boxF_no _ _ _ _ (by decide +kernel) (by decide +kernel) (by decide +kernel), _, rfl, _, rfl, _, rfl, ?_⟩
        refine ⟨Gx, B, N, R, stTo Sy73.init (raw.take i), 4, [], l, x, rfl, ⟨⟨gx.gh, bgx, bx, okR i⟩, .inl (.inl hN), .inl (.inl hR), F.l60, F.p⟩, fun G5 H5 O gm hb5 hO => ?_⟩
        have g5 : Grow H H G5 H5 := gx.box hB0 gm
        have d5 : H5 D0 = some (.lst ((PyFlat.told (playR Sy73.init (raw.take i))).map V.int)) := gm.hh _ _ nDB dx0
        have dg5 : G5 D0 = none := gm.new _ dgx (by rw [dx0]; exact fun z => nomatch z)
        have bg5 : G5 B = none := gm.new _ bgx (by rw [hBx]; exact fun z => nomatch z)
        have oD : D0 ≠ O := fun z => by rw [z, hO] at dg5; cases dg5
        obtain ⟨tn1, tn2⟩ := told_next hc F
        have sh := told_short AK (i + 1)
        rw [tn1, List.length_append, List.length_cons] at sh
        have hO5 := gm.gh _ _ hO
        refine ⟨_, rfl, .inl ⟨rfl, _, .inl (.inl d5)⟩, _, rfl, O, _, rfl, .inl (.inl (.inl hO5)), D0, _, _, rfl, rfl, d5, ?_, ?_⟩
        · rw [List.length_map]
          exact Nat.lt_of_le_of_lt (show (PyFlat.told (playR Sy73.init (raw.take i))).length ≤ 10000000 by omega) (by decide)
        refine ⟨_, rfl, .inl ⟨rfl, _, .inl (.inl upd_same)⟩, _, rfl, D0, O, _, _, rfl, rfl, upd_same, (upd_ne (Ne.symm oD)).trans hO5, ?_, ?_⟩
        · rw [List.length_append, List.length_map, List.length_map]
          exact Nat.le_of_lt (Nat.lt_of_le_of_lt (show (PyFlat.told (playR Sy73.init (raw.take i))).length + 1 + (outA (Sy73.step (stTo Sy73.init (raw.take i)) x).2).length ≤ 10000000 by omega) (by decide))
        obtain ⟨dxe, Le, Se, Fe, hBe, hLe, hSe, hFe⟩ := hb5.at_
        refine ⟨_, rfl, some (nV 4), some (V.int (((putTo raw i).length : Int) + 1 + (([] : List Nat).length : Int) + 1 + ((l.map nV).length : Int))), some (.ref N), some (.ref R), some (.ref O), G5, ?_, ⟨(g5.mut nD dg5).mut nD dg5, ?_, dg5, bg5, ⟨dxe, Le, Se, Fe, (upd_ne (Ne.symm nDB)).trans ((upd_ne (Ne.symm nDB)).trans hBe), ?_, ?_, ?_⟩⟩⟩
        · rw [← ev]
          rfl
        · rw [upd_same, tn1, List.map_append, List.map_cons, List.length_map, List.append_assoc]
          rfl
        · rw [tn2]; exact hLe
        · rw [tn2]; exact hSe
        · rw [tn2]; exact hFe
      · refine ⟨_, rfl, rfl, _, rfl, if_ne (by omega) ?_⟩
        have gx := gR
        have gxs := gNR
        generalize eG : upd (upd G2 N (.lst (nn.map nV))) R0 (.lst []) = Gx at gx gxs
        have hN : Gx N = some (.lst (nn.map nV)) := by rw [← eG, upd_ne neNR, upd_same]
        have hR : Gx R0 = some (.lst (([] : List Nat).map nV)) := by rw [← eG, upd_same]; rfl
        have bx := W.b.grow gxs
        have dx0 := gxs.hh _ _ W.d
        have dgx : Gx D0 = none := gxs.new _ W.dg (by rw [W.d]; exact fun z => nomatch z)
        have bgx : Gx B = none := gxs.new _ W.bg (by
          obtain ⟨_, _, _, _, z, _⟩ := W.b.at_
          rw [z]; exact fun z => nomatch z)
        have ev : V.int (((putTo raw i).length : Int) + 1 + (nn.length : Int)) = nV (putTo raw (i + 1)).length := by
          rw [elen, if_neg hk]
          refine congrArg V.int ?_
          omega
        -- answer
        obtain ⟨dxb, Lb, Sb, Fb, hBx, hLb, hSb, hFb⟩ := bx.at_
        refine ⟨_, rfl, B, dxb, _, rfl, hBx, boxF_no _ _ _ _ (by decide +kernel) (by decide +kernel) (by decide +kernel), _, rfl, _, rfl, _, rfl, ?_⟩
        refine ⟨Gx, B, N, R0, stTo Sy73.init (raw.take i), k, nn, [], x, rfl, ⟨⟨gx.gh, bgx, bx, okR i⟩, .inl (.inl hN), .inl (.inl hR), Nat.zero_le _, callP_row hk F.p⟩, fun G5 H5 O gm hb5 hO => ?_⟩
        have g5 : Grow H H G5 H5 := gx.box hB0 gm
        have d5 : H5 D0 = some (.lst ((PyFlat.told (playR Sy73.init (raw.take i))).map V.int)) := gm.hh _ _ nDB dx0
        have dg5 : G5 D0 = none := gm.new _ dgx (by rw [dx0]; exact fun z => nomatch z)
        have bg5 : G5 B = none := gm.new _ bgx (by rw [hBx]; exact fun z => nomatch z)
        have oD : D0 ≠ O := fun z => by rw [z, hO] at dg5; cases dg5
        obtain ⟨tn1, tn2⟩ := told_next hc F
        have sh := told_short AK (i + 1)
        rw [tn1, List.length_append, List.length_cons] at sh
        have hO5 := gm.gh _ _ hO
        refine ⟨_, rfl, .inl ⟨rfl, _, .inl (.inl d5)⟩, _, rfl, O, _, rfl, .inl (.inl (.inl hO5)), D0, _, _, rfl, rfl, d5, ?_, ?_⟩
        · rw [List.length_map]
          exact Nat.lt_of_le_of_lt (show (PyFlat.told (playR Sy73.init (raw.take i))).length ≤ 10000000 by omega) (by decide)
        refine ⟨_, rfl, .inl ⟨rfl, _, .inl (.inl upd_same)⟩, _, rfl, D0, O, _, _, rfl, rfl, upd_same, (upd_ne (Ne.symm oD)).trans hO5, ?_, ?_⟩
        · rw [List.length_append, List.length_map, List.length_map]
          exact Nat.le_of_lt (Nat.lt_of_le_of_lt (show (PyFlat.told (playR Sy73.init (raw.take i))).length + 1 + (outA (Sy73.step (stTo Sy73.init (raw.take i)) x).2).length ≤ 10000000 by omega) (by decide))
        obtain ⟨dxe, Le, Se, Fe, hBe, hLe, hSe, hFe⟩ := hb5.at_
        refine ⟨_, rfl, some (nV k), some (V.int (((putTo raw i).length : Int) + 1 + (nn.length : Int))), some (.ref N), some (.ref R0), some (.ref O), G5, ?_, ⟨(g5.mut nD dg5).mut nD dg5, ?_, dg5, bg5, ⟨dxe, Le, Se, Fe, (upd_ne (Ne.symm nDB)).trans ((upd_ne (Ne.symm nDB)).trans hBe), ?_, ?_, ?_⟩⟩⟩
        · rw [← ev]
          rfl
        · rw [upd_same, tn1, List.map_append, List.map_cons, List.length_map, List.append_assoc]
          rfl
        · rw [tn2]; exact hLe
        · rw [tn2]; exact hSe
        · rw [tn2]; exact hFe
    · -- the end
      have ei : raw.take i = raw := List.take_of_length_le (by omega)
      have hf : decide (((putTo raw i).length : Int) < (ns.length : Int)) = false := by
        refine decide_eq_false ?_
        unfold putTo
        rw [ei, ← AK.put]
        omega
      show if decide (((putTo raw i).length : Int) < (ns.length : Int)) = true then _ else _
      rw [hf]
      refine iteF ⟨_, rfl, q H2 D0 ?_⟩
      have d := W.d
      rw [ei, ← AK.ans] at d
      exact d
end
end Fly

/-! ## W26 -/
set_option maxHeartbeats 8000000
namespace Fly
open PySem PySem.Spec PyProof.Rows L2
/-! ### the end: what the top has written -/
/-- an error of the class at S is what «except S» names -/
theorem exm_self {K : PySem.W.Frag} {S : Addr} (h1 : PySem.W.subIn K (.ref S) (.type "BaseException") = some true) (h2 : PySem.W.isClsIn K S = true) (h3 : PySem.W.typeIn K (.ref S) = some (.type "type")) (h4 : PySem.W.subIn K (.ref S) (.ref S) = some true) :
    PySem.W.exmOne K (.ref S) (.ref S) = some true := by
  have e1 : (PySem.W.subIn K (.ref S) (.type "BaseException") == some true) = true := by rw [h1] <;> rfl
  have e2 : ((PySem.W.clsIn K S).isSome && PySem.W.typeIn K (.ref S) == some (.type "type")) = true := by
    have h2' : (PySem.W.clsIn K S).isSome = true := h2
    rw [h2', h3] <;> rfl
  show (if (PySem.W.subIn K (.ref S) (.type "BaseException") == some true) = true then (if ((PySem.W.clsIn K S).isSome && PySem.W.typeIn K (.ref S) == some (.type "type")) = true then PySem.W.subIn K (.ref S) (.ref S) else none) else none) = some true
  rw [if_pos e1, if_pos e2]
  exact h4
theorem def_mk {K : PySem.W.Frag} {h : Heap} {mg : Str → Option Value} {x : Str} {st : Stmt} {ps : List Str} {f : Addr} {oc : Value} {od an : Option Addr} {osl : Array (Option Value)} {kV doc pm cdv ct : Value} (X : K.In h) (G : h.Ns mainGlobals mg)
    (a : PySem.W.nsIn K mainGlobals x = some (some (.ref f))) (l : K.lookup f = some ⟨oc, od, .func (PySem.W.fnOf x x (defArgs st) (defBody st) (defScope st) .none kV doc pm an cdv ct), osl⟩) (c : PySem.W.codeIn K cdv x = true) (k : PySem.W.keepIn K (.ref f) = true)
    (b : ∀ (kV doc pm : Value) (an : Option Addr) (cdv ct : Value) (us : List Value), us.length = ps.length → bindArgs (PySem.W.fnOf x x (defArgs st) (defBody st) (defScope st) .none kV doc pm an cdv ct) ⟨us, []⟩ = pure (ps.zip us)) :
    Def K mg x st ps f (PySem.W.fnOf x x (defArgs st) (defBody st) (defScope st) .none kV doc pm an cdv ct) := ⟨fun_mk l c k, (fun_mk l c k).binds b, PySem.W.mg_of X G a⟩
theorem mdef_mk {K : PySem.W.Frag} {C : Addr} {m q : Str} {st : Stmt} {ps : List Str} {f : Addr} {oc : Value} {od an : Option Addr} {osl : Array (Option Value)} {kV doc pm cdv ct : Value}
    (a : PySem.W.findIn K (.ref C) m = some (some (.ref f))) (i : PySem.W.isFn K (.ref f) = true) (l : K.lookup f = some ⟨oc, od, .func (PySem.W.fnOf m q (defArgs st) (defBody st) (defScope st) .none kV doc pm an cdv ct), osl⟩) (c : PySem.W.codeIn K cdv q = true) (k : PySem.W.keepIn K (.ref f) = true)
    (b : ∀ (kV doc pm : Value) (an : Option Addr) (cdv ct : Value) (us : List Value), us.length = ps.length → bindArgs (PySem.W.fnOf m q (defArgs st) (defBody st) (defScope st) .none kV doc pm an cdv ct) ⟨us, []⟩ = pure (ps.zip us)) :
    MDef K C m q st ps f (PySem.W.fnOf m q (defArgs st) (defBody st) (defScope st) .none kV doc pm an cdv ct) := ⟨fun_mk l c k, (fun_mk l c k).binds b, ⟨a, i, k⟩⟩
theorem tup_mk {K : PySem.W.Frag} {a : Addr} {od : Option Addr} {its : Array Value} {n : Nat} {sl : Array (Option Value)} {xs : List V} (l : K.lookup a = some ⟨.type "tuple", od, .seq its n, sl⟩) (s : its.size ≤ sizeLine) (v : Vals xs its.toList) (H : Hp) : SqT K H a xs :=
  .inr ⟨_, its, n, l, rfl, rfl, s, v⟩
theorem all_mk {P : Program} {w : World} {K : PySem.W.Frag} {h : Heap} {mg : Str → Option Value} {fa f_axis f_far f_bes f_third f_lens f_ison f_fof f_iob f_pts f_arow f_mov f_tur f_sqb f_fst f_edg f_nxt f_swa f_upr f_cro f_rof f_beh f_frm f_sw f_sho f_asq f_wan f_lst f_ans CL f_iL CR f_iR CB f_iB f_pof f_lon f_squ f_b1 f_b2 f_b3 f_b4 f_b5 f_b6 f_b7 f_b8 f_b9 f_b10 f_b11 f_b12 f_b13 CF f_iF p_STAY p_RIGHT p_UP p_NUMBERS : Addr} (X : K.In h) (G : h.Ns mainGlobals mg) (hfa : mg "answers" = some (.ref fa))
    {od_axis an_axis : Option Addr} {sl_axis : Array (Option Value)} {oc_axis kV_axis dc_axis pm_axis cd_axis ct_axis : Value}
    {od_far an_far : Option Addr} {sl_far : Array (Option Value)} {oc_far kV_far dc_far pm_far cd_far ct_far : Value}
    {od_bes an_bes : Option Addr} {sl_bes : Array (Option Value)} {oc_bes kV_bes dc_bes pm_bes cd_bes ct_bes : Value}
    {od_third an_third : Option Addr} {sl_third : Array (Option Value)} {oc_third kV_third dc_third pm_third cd_third ct_third : Value}
    {od_lens an_lens : Option Addr} {sl_lens : Array (Option Value)} {oc_lens kV_lens dc_lens pm_lens cd_lens ct_lens : Value}
    {od_ison an_ison : Option Addr} {sl_ison : Array (Option Value)} {oc_ison kV_ison dc_ison pm_ison cd_ison ct_ison : Value}
    {od_fof an_fof : Option Addr} {sl_fof : Array (Option Value)} {oc_fof kV_fof dc_fof pm_fof cd_fof ct_fof : Value}
    {od_iob an_iob : Option Addr} {sl_iob : Array (Option Value)} {oc_iob kV_iob dc_iob pm_iob cd_iob ct_iob : Value}
    {od_pts an_pts : Option Addr} {sl_pts : Array (Option Value)} {oc_pts kV_pts dc_pts pm_pts cd_pts ct_pts : Value}
    {od_arow an_arow : Option Addr} {sl_arow : Array (Option Value)} {oc_arow kV_arow dc_arow pm_arow cd_arow ct_arow : Value}
    {od_mov an_mov : Option Addr} {sl_mov : Array (Option Value)} {oc_mov kV_mov dc_mov pm_mov cd_mov ct_mov : Value}
    {od_tur an_tur : Option Addr} {sl_tur : Array (Option Value)} {oc_tur kV_tur dc_tur pm_tur cd_tur ct_tur : Value}
    {od_sqb an_sqb : Option Addr} {sl_sqb : Array (Option Value)} {oc_sqb kV_sqb dc_sqb pm_sqb cd_sqb ct_sqb : Value}
    {od_fst an_fst : Option Addr} {sl_fst : Array (Option Value)} {oc_fst kV_fst dc_fst pm_fst cd_fst ct_fst : Value}
    {od_edg an_edg : Option Addr} {sl_edg : Array (Option Value)} {oc_edg kV_edg dc_edg pm_edg cd_edg ct_edg : Value}
    {od_nxt an_nxt : Option Addr} {sl_nxt : Array (Option Value)} {oc_nxt kV_nxt dc_nxt pm_nxt cd_nxt ct_nxt : Value}
    {od_swa an_swa : Option Addr} {sl_swa : Array (Option Value)} {oc_swa kV_swa dc_swa pm_swa cd_swa ct_swa : Value}
    {od_upr an_upr : Option Addr} {sl_upr : Array (Option Value)} {oc_upr kV_upr dc_upr pm_upr cd_upr ct_upr : Value}
    {od_cro an_cro : Option Addr} {sl_cro : Array (Option Value)} {oc_cro kV_cro dc_cro pm_cro cd_cro ct_cro : Value}
    {od_rof an_rof : Option Addr} {sl_rof : Array (Option Value)} {oc_rof kV_rof dc_rof pm_rof cd_rof ct_rof : Value}
    {od_beh an_beh : Option Addr} {sl_beh : Array (Option Value)} {oc_beh kV_beh dc_beh pm_beh cd_beh ct_beh : Value}
    {od_frm an_frm : Option Addr} {sl_frm : Array (Option Value)} {oc_frm kV_frm dc_frm pm_frm cd_frm ct_frm : Value}
    {od_sw an_sw : Option Addr} {sl_sw : Array (Option Value)} {oc_sw kV_sw dc_sw pm_sw cd_sw ct_sw : Value}
    {od_sho an_sho : Option Addr} {sl_sho : Array (Option Value)} {oc_sho kV_sho dc_sho pm_sho cd_sho ct_sho : Value}
    {od_asq an_asq : Option Addr} {sl_asq : Array (Option Value)} {oc_asq kV_asq dc_asq pm_asq cd_asq ct_asq : Value}
    {od_wan an_wan : Option Addr} {sl_wan : Array (Option Value)} {oc_wan kV_wan dc_wan pm_wan cd_wan ct_wan : Value}
    {od_lst an_lst : Option Addr} {sl_lst : Array (Option Value)} {oc_lst kV_lst dc_lst pm_lst cd_lst ct_lst : Value}
    {od_ans an_ans : Option Addr} {sl_ans : Array (Option Value)} {oc_ans kV_ans dc_ans pm_ans cd_ans ct_ans : Value}
    {od_iL an_iL : Option Addr} {sl_iL : Array (Option Value)} {oc_iL kV_iL dc_iL pm_iL cd_iL ct_iL : Value}
    {od_iR an_iR : Option Addr} {sl_iR : Array (Option Value)} {oc_iR kV_iR dc_iR pm_iR cd_iR ct_iR : Value}
    {od_iB an_iB : Option Addr} {sl_iB : Array (Option Value)} {oc_iB kV_iB dc_iB pm_iB cd_iB ct_iB : Value}
    {od_pof an_pof : Option Addr} {sl_pof : Array (Option Value)} {oc_pof kV_pof dc_pof pm_pof cd_pof ct_pof : Value}
    {od_lon an_lon : Option Addr} {sl_lon : Array (Option Value)} {oc_lon kV_lon dc_lon pm_lon cd_lon ct_lon : Value}
    {od_squ an_squ : Option Addr} {sl_squ : Array (Option Value)} {oc_squ kV_squ dc_squ pm_squ cd_squ ct_squ : Value}
    {od_b1 an_b1 : Option Addr} {sl_b1 : Array (Option Value)} {oc_b1 kV_b1 dc_b1 pm_b1 cd_b1 ct_b1 : Value}
    {od_b2 an_b2 : Option Addr} {sl_b2 : Array (Option Value)} {oc_b2 kV_b2 dc_b2 pm_b2 cd_b2 ct_b2 : Value}
    {od_b3 an_b3 : Option Addr} {sl_b3 : Array (Option Value)} {oc_b3 kV_b3 dc_b3 pm_b3 cd_b3 ct_b3 : Value}
    {od_b4 an_b4 : Option Addr} {sl_b4 : Array (Option Value)} {oc_b4 kV_b4 dc_b4 pm_b4 cd_b4 ct_b4 : Value}
    {od_b5 an_b5 : Option Addr} {sl_b5 : Array (Option Value)} {oc_b5 kV_b5 dc_b5 pm_b5 cd_b5 ct_b5 : Value}
    {od_b6 an_b6 : Option Addr} {sl_b6 : Array (Option Value)} {oc_b6 kV_b6 dc_b6 pm_b6 cd_b6 ct_b6 : Value}
    {od_b7 an_b7 : Option Addr} {sl_b7 : Array (Option Value)} {oc_b7 kV_b7 dc_b7 pm_b7 cd_b7 ct_b7 : Value}
    {od_b8 an_b8 : Option Addr} {sl_b8 : Array (Option Value)} {oc_b8 kV_b8 dc_b8 pm_b8 cd_b8 ct_b8 : Value}
    {od_b9 an_b9 : Option Addr} {sl_b9 : Array (Option Value)} {oc_b9 kV_b9 dc_b9 pm_b9 cd_b9 ct_b9 : Value}
    {od_b10 an_b10 : Option Addr} {sl_b10 : Array (Option Value)} {oc_b10 kV_b10 dc_b10 pm_b10 cd_b10 ct_b10 : Value}
    {od_b11 an_b11 : Option Addr} {sl_b11 : Array (Option Value)} {oc_b11 kV_b11 dc_b11 pm_b11 cd_b11 ct_b11 : Value}
    {od_b12 an_b12 : Option Addr} {sl_b12 : Array (Option Value)} {oc_b12 kV_b12 dc_b12 pm_b12 cd_b12 ct_b12 : Value}
    {od_b13 an_b13 : Option Addr} {sl_b13 : Array (Option Value)} {oc_b13 kV_b13 dc_b13 pm_b13 cd_b13 ct_b13 : Value}
    {nm q : Str} {N : Addr} {bs : List Value} {sn : List Str} {sub : List Value} {ab : Bool} {col : Option Bool} {dd : Option Addr} {m0 m1 m2 m3 m5 : Option Value}
    {od_iF an_iF : Option Addr} {sl_iF : Array (Option Value)} {oc_iF kV_iF dc_iF pm_iF cd_iF ct_iF : Value}
    {t_AXES : Tok}
    {t_FACES : Tok}
    {t_LONGEST : Tok}
    {t_BAD : Tok}
    {t_NOT_JOINED : Tok}
    {t_NOT_STRAIGHT : Tok}
    {t_TOO_LARGE : Tok}
    {t_MOST_FOR_ALL : Tok}
    {t_OVER : Tok}
    {u0_STAY u1_STAY : Tok} {od_STAY : Option Addr} {n_STAY : Nat} {sl_STAY : Array (Option Value)}
    {u0_RIGHT u1_RIGHT : Tok} {od_RIGHT : Option Addr} {n_RIGHT : Nat} {sl_RIGHT : Array (Option Value)}
    {u0_UP u1_UP : Tok} {od_UP : Option Addr} {n_UP : Nat} {sl_UP : Array (Option Value)}
    {u0_NUMBERS u1_NUMBERS u2_NUMBERS u3_NUMBERS u4_NUMBERS u5_NUMBERS u6_NUMBERS u7_NUMBERS u8_NUMBERS u9_NUMBERS u10_NUMBERS : Tok} {od_NUMBERS : Option Addr} {n_NUMBERS : Nat} {sl_NUMBERS : Array (Option Value)}
    (a_axis : PySem.W.nsIn K mainGlobals "axis_of" = some (some (.ref f_axis)))
    (l_axis : K.lookup f_axis = some ⟨oc_axis, od_axis, .func (PySem.W.fnOf "axis_of" "axis_of" (defArgs sAxis) (defBody sAxis) (defScope sAxis) .none kV_axis dc_axis pm_axis an_axis cd_axis ct_axis), sl_axis⟩)
    (c_axis : PySem.W.codeIn K cd_axis "axis_of" = true)
    (k_axis : PySem.W.keepIn K (.ref f_axis) = true)
    (a_far : PySem.W.nsIn K mainGlobals "is_far" = some (some (.ref f_far)))
    (l_far : K.lookup f_far = some ⟨oc_far, od_far, .func (PySem.W.fnOf "is_far" "is_far" (defArgs sFar) (defBody sFar) (defScope sFar) .none kV_far dc_far pm_far an_far cd_far ct_far), sl_far⟩)
    (c_far : PySem.W.codeIn K cd_far "is_far" = true)
    (k_far : PySem.W.keepIn K (.ref f_far) = true)
    (a_bes : PySem.W.nsIn K mainGlobals "are_beside" = some (some (.ref f_bes)))
    (l_bes : K.lookup f_bes = some ⟨oc_bes, od_bes, .func (PySem.W.fnOf "are_beside" "are_beside" (defArgs sBeside) (defBody sBeside) (defScope sBeside) .none kV_bes dc_bes pm_bes an_bes cd_bes ct_bes), sl_bes⟩)
    (c_bes : PySem.W.codeIn K cd_bes "are_beside" = true)
    (k_bes : PySem.W.keepIn K (.ref f_bes) = true)
    (a_third : PySem.W.nsIn K mainGlobals "third_axis" = some (some (.ref f_third)))
    (l_third : K.lookup f_third = some ⟨oc_third, od_third, .func (PySem.W.fnOf "third_axis" "third_axis" (defArgs sThird) (defBody sThird) (defScope sThird) .none kV_third dc_third pm_third an_third cd_third ct_third), sl_third⟩)
    (c_third : PySem.W.codeIn K cd_third "third_axis" = true)
    (k_third : PySem.W.keepIn K (.ref f_third) = true)
    (a_lens : PySem.W.nsIn K mainGlobals "are_lengths" = some (some (.ref f_lens)))
    (l_lens : K.lookup f_lens = some ⟨oc_lens, od_lens, .func (PySem.W.fnOf "are_lengths" "are_lengths" (defArgs sLens) (defBody sLens) (defScope sLens) .none kV_lens dc_lens pm_lens an_lens cd_lens ct_lens), sl_lens⟩)
    (c_lens : PySem.W.codeIn K cd_lens "are_lengths" = true)
    (k_lens : PySem.W.keepIn K (.ref f_lens) = true)
    (a_ison : PySem.W.nsIn K mainGlobals "is_on" = some (some (.ref f_ison)))
    (l_ison : K.lookup f_ison = some ⟨oc_ison, od_ison, .func (PySem.W.fnOf "is_on" "is_on" (defArgs sIsOn) (defBody sIsOn) (defScope sIsOn) .none kV_ison dc_ison pm_ison an_ison cd_ison ct_ison), sl_ison⟩)
    (c_ison : PySem.W.codeIn K cd_ison "is_on" = true)
    (k_ison : PySem.W.keepIn K (.ref f_ison) = true)
    (a_fof : PySem.W.nsIn K mainGlobals "faces_of" = some (some (.ref f_fof)))
    (l_fof : K.lookup f_fof = some ⟨oc_fof, od_fof, .func (PySem.W.fnOf "faces_of" "faces_of" (defArgs sFacesOf) (defBody sFacesOf) (defScope sFacesOf) .none kV_fof dc_fof pm_fof an_fof cd_fof ct_fof), sl_fof⟩)
    (c_fof : PySem.W.codeIn K cd_fof "faces_of" = true)
    (k_fof : PySem.W.keepIn K (.ref f_fof) = true)
    (a_iob : PySem.W.nsIn K mainGlobals "is_on_box" = some (some (.ref f_iob)))
    (l_iob : K.lookup f_iob = some ⟨oc_iob, od_iob, .func (PySem.W.fnOf "is_on_box" "is_on_box" (defArgs sIsOnBox) (defBody sIsOnBox) (defScope sIsOnBox) .none kV_iob dc_iob pm_iob an_iob cd_iob ct_iob), sl_iob⟩)
    (c_iob : PySem.W.codeIn K cd_iob "is_on_box" = true)
    (k_iob : PySem.W.keepIn K (.ref f_iob) = true)
    (a_pts : PySem.W.nsIn K mainGlobals "all_points" = some (some (.ref f_pts)))
    (l_pts : K.lookup f_pts = some ⟨oc_pts, od_pts, .func (PySem.W.fnOf "all_points" "all_points" (defArgs sAllPoints) (defBody sAllPoints) (defScope sAllPoints) .none kV_pts dc_pts pm_pts an_pts cd_pts ct_pts), sl_pts⟩)
    (c_pts : PySem.W.codeIn K cd_pts "all_points" = true)
    (k_pts : PySem.W.keepIn K (.ref f_pts) = true)
    (a_arow : PySem.W.nsIn K mainGlobals "are_row" = some (some (.ref f_arow)))
    (l_arow : K.lookup f_arow = some ⟨oc_arow, od_arow, .func (PySem.W.fnOf "are_row" "are_row" (defArgs sAreRow) (defBody sAreRow) (defScope sAreRow) .none kV_arow dc_arow pm_arow an_arow cd_arow ct_arow), sl_arow⟩)
    (c_arow : PySem.W.codeIn K cd_arow "are_row" = true)
    (k_arow : PySem.W.keepIn K (.ref f_arow) = true)
    (a_mov : PySem.W.nsIn K mainGlobals "moved" = some (some (.ref f_mov)))
    (l_mov : K.lookup f_mov = some ⟨oc_mov, od_mov, .func (PySem.W.fnOf "moved" "moved" (defArgs sMoved) (defBody sMoved) (defScope sMoved) .none kV_mov dc_mov pm_mov an_mov cd_mov ct_mov), sl_mov⟩)
    (c_mov : PySem.W.codeIn K cd_mov "moved" = true)
    (k_mov : PySem.W.keepIn K (.ref f_mov) = true)
    (a_tur : PySem.W.nsIn K mainGlobals "turned" = some (some (.ref f_tur)))
    (l_tur : K.lookup f_tur = some ⟨oc_tur, od_tur, .func (PySem.W.fnOf "turned" "turned" (defArgs sTurned) (defBody sTurned) (defScope sTurned) .none kV_tur dc_tur pm_tur an_tur cd_tur ct_tur), sl_tur⟩)
    (c_tur : PySem.W.codeIn K cd_tur "turned" = true)
    (k_tur : PySem.W.keepIn K (.ref f_tur) = true)
    (a_sqb : PySem.W.nsIn K mainGlobals "square_between" = some (some (.ref f_sqb)))
    (l_sqb : K.lookup f_sqb = some ⟨oc_sqb, od_sqb, .func (PySem.W.fnOf "square_between" "square_between" (defArgs sSqB) (defBody sSqB) (defScope sSqB) .none kV_sqb dc_sqb pm_sqb an_sqb cd_sqb ct_sqb), sl_sqb⟩)
    (c_sqb : PySem.W.codeIn K cd_sqb "square_between" = true)
    (k_sqb : PySem.W.keepIn K (.ref f_sqb) = true)
    (a_fst : PySem.W.nsIn K mainGlobals "first_laid" = some (some (.ref f_fst)))
    (l_fst : K.lookup f_fst = some ⟨oc_fst, od_fst, .func (PySem.W.fnOf "first_laid" "first_laid" (defArgs sFirst) (defBody sFirst) (defScope sFirst) .none kV_fst dc_fst pm_fst an_fst cd_fst ct_fst), sl_fst⟩)
    (c_fst : PySem.W.codeIn K cd_fst "first_laid" = true)
    (k_fst : PySem.W.keepIn K (.ref f_fst) = true)
    (a_edg : PySem.W.nsIn K mainGlobals "edge_of" = some (some (.ref f_edg)))
    (l_edg : K.lookup f_edg = some ⟨oc_edg, od_edg, .func (PySem.W.fnOf "edge_of" "edge_of" (defArgs sEdge) (defBody sEdge) (defScope sEdge) .none kV_edg dc_edg pm_edg an_edg cd_edg ct_edg), sl_edg⟩)
    (c_edg : PySem.W.codeIn K cd_edg "edge_of" = true)
    (k_edg : PySem.W.keepIn K (.ref f_edg) = true)
    (a_nxt : PySem.W.nsIn K mainGlobals "next_laid" = some (some (.ref f_nxt)))
    (l_nxt : K.lookup f_nxt = some ⟨oc_nxt, od_nxt, .func (PySem.W.fnOf "next_laid" "next_laid" (defArgs sNext) (defBody sNext) (defScope sNext) .none kV_nxt dc_nxt pm_nxt an_nxt cd_nxt ct_nxt), sl_nxt⟩)
    (c_nxt : PySem.W.codeIn K cd_nxt "next_laid" = true)
    (k_nxt : PySem.W.keepIn K (.ref f_nxt) = true)
    (a_swa : PySem.W.nsIn K mainGlobals "swapped" = some (some (.ref f_swa)))
    (l_swa : K.lookup f_swa = some ⟨oc_swa, od_swa, .func (PySem.W.fnOf "swapped" "swapped" (defArgs sSwapped) (defBody sSwapped) (defScope sSwapped) .none kV_swa dc_swa pm_swa an_swa cd_swa ct_swa), sl_swa⟩)
    (c_swa : PySem.W.codeIn K cd_swa "swapped" = true)
    (k_swa : PySem.W.keepIn K (.ref f_swa) = true)
    (a_upr : PySem.W.nsIn K mainGlobals "crosses_upright" = some (some (.ref f_upr)))
    (l_upr : K.lookup f_upr = some ⟨oc_upr, od_upr, .func (PySem.W.fnOf "crosses_upright" "crosses_upright" (defArgs sUp) (defBody sUp) (defScope sUp) .none kV_upr dc_upr pm_upr an_upr cd_upr ct_upr), sl_upr⟩)
    (c_upr : PySem.W.codeIn K cd_upr "crosses_upright" = true)
    (k_upr : PySem.W.keepIn K (.ref f_upr) = true)
    (a_cro : PySem.W.nsIn K mainGlobals "crosses" = some (some (.ref f_cro)))
    (l_cro : K.lookup f_cro = some ⟨oc_cro, od_cro, .func (PySem.W.fnOf "crosses" "crosses" (defArgs sCrosses) (defBody sCrosses) (defScope sCrosses) .none kV_cro dc_cro pm_cro an_cro cd_cro ct_cro), sl_cro⟩)
    (c_cro : PySem.W.codeIn K cd_cro "crosses" = true)
    (k_cro : PySem.W.keepIn K (.ref f_cro) = true)
    (a_rof : PySem.W.nsIn K mainGlobals "row_of" = some (some (.ref f_rof)))
    (l_rof : K.lookup f_rof = some ⟨oc_rof, od_rof, .func (PySem.W.fnOf "row_of" "row_of" (defArgs sRowOf) (defBody sRowOf) (defScope sRowOf) .none kV_rof dc_rof pm_rof an_rof cd_rof ct_rof), sl_rof⟩)
    (c_rof : PySem.W.codeIn K cd_rof "row_of" = true)
    (k_rof : PySem.W.keepIn K (.ref f_rof) = true)
    (a_beh : PySem.W.nsIn K mainGlobals "rows_behind" = some (some (.ref f_beh)))
    (l_beh : K.lookup f_beh = some ⟨oc_beh, od_beh, .func (PySem.W.fnOf "rows_behind" "rows_behind" (defArgs sBehind) (defBody sBehind) (defScope sBehind) .none kV_beh dc_beh pm_beh an_beh cd_beh ct_beh), sl_beh⟩)
    (c_beh : PySem.W.codeIn K cd_beh "rows_behind" = true)
    (k_beh : PySem.W.keepIn K (.ref f_beh) = true)
    (a_frm : PySem.W.nsIn K mainGlobals "rows_from" = some (some (.ref f_frm)))
    (l_frm : K.lookup f_frm = some ⟨oc_frm, od_frm, .func (PySem.W.fnOf "rows_from" "rows_from" (defArgs sFrom) (defBody sFrom) (defScope sFrom) .none kV_frm dc_frm pm_frm an_frm cd_frm ct_frm), sl_frm⟩)
    (c_frm : PySem.W.codeIn K cd_frm "rows_from" = true)
    (k_frm : PySem.W.keepIn K (.ref f_frm) = true)
    (a_sw : PySem.W.nsIn K mainGlobals "straight_ways" = some (some (.ref f_sw)))
    (l_sw : K.lookup f_sw = some ⟨oc_sw, od_sw, .func (PySem.W.fnOf "straight_ways" "straight_ways" (defArgs sSW) (defBody sSW) (defScope sSW) .none kV_sw dc_sw pm_sw an_sw cd_sw ct_sw), sl_sw⟩)
    (c_sw : PySem.W.codeIn K cd_sw "straight_ways" = true)
    (k_sw : PySem.W.keepIn K (.ref f_sw) = true)
    (a_sho : PySem.W.nsIn K mainGlobals "shortest" = some (some (.ref f_sho)))
    (l_sho : K.lookup f_sho = some ⟨oc_sho, od_sho, .func (PySem.W.fnOf "shortest" "shortest" (defArgs sShort) (defBody sShort) (defScope sShort) .none kV_sho dc_sho pm_sho an_sho cd_sho ct_sho), sl_sho⟩)
    (c_sho : PySem.W.codeIn K cd_sho "shortest" = true)
    (k_sho : PySem.W.keepIn K (.ref f_sho) = true)
    (a_asq : PySem.W.nsIn K mainGlobals "all_squares" = some (some (.ref f_asq)))
    (l_asq : K.lookup f_asq = some ⟨oc_asq, od_asq, .func (PySem.W.fnOf "all_squares" "all_squares" (defArgs sAllSq) (defBody sAllSq) (defScope sAllSq) .none kV_asq dc_asq pm_asq an_asq cd_asq ct_asq), sl_asq⟩)
    (c_asq : PySem.W.codeIn K cd_asq "all_squares" = true)
    (k_asq : PySem.W.keepIn K (.ref f_asq) = true)
    (a_wan : PySem.W.nsIn K mainGlobals "want" = some (some (.ref f_wan)))
    (l_wan : K.lookup f_wan = some ⟨oc_wan, od_wan, .func (PySem.W.fnOf "want" "want" (defArgs sWant) (defBody sWant) (defScope sWant) .none kV_wan dc_wan pm_wan an_wan cd_wan ct_wan), sl_wan⟩)
    (c_wan : PySem.W.codeIn K cd_wan "want" = true)
    (k_wan : PySem.W.keepIn K (.ref f_wan) = true)
    (a_lst : PySem.W.nsIn K mainGlobals "listed" = some (some (.ref f_lst)))
    (l_lst : K.lookup f_lst = some ⟨oc_lst, od_lst, .func (PySem.W.fnOf "listed" "listed" (defArgs sListed) (defBody sListed) (defScope sListed) .none kV_lst dc_lst pm_lst an_lst cd_lst ct_lst), sl_lst⟩)
    (c_lst : PySem.W.codeIn K cd_lst "listed" = true)
    (k_lst : PySem.W.keepIn K (.ref f_lst) = true)
    (a_ans : PySem.W.nsIn K mainGlobals "answers" = some (some (.ref f_ans)))
    (l_ans : K.lookup f_ans = some ⟨oc_ans, od_ans, .func (PySem.W.fnOf "answers" "answers" (defArgs sAnswers) (defBody sAnswers) (defScope sAnswers) .none kV_ans dc_ans pm_ans an_ans cd_ans ct_ans), sl_ans⟩)
    (c_ans : PySem.W.codeIn K cd_ans "answers" = true)
    (k_ans : PySem.W.keepIn K (.ref f_ans) = true)
    (a_CL : PySem.W.nsIn K mainGlobals "Laid" = some (some (.ref CL)))
    (a_iL : PySem.W.findIn K (.ref CL) "__init__" = some (some (.ref f_iL)))
    (i_iL : PySem.W.isFn K (.ref f_iL) = true)
    (l_iL : K.lookup f_iL = some ⟨oc_iL, od_iL, .func (PySem.W.fnOf "__init__" "Laid.__init__" (defArgs sLaidInit) (defBody sLaidInit) (defScope sLaidInit) .none kV_iL dc_iL pm_iL an_iL cd_iL ct_iL), sl_iL⟩)
    (c_iL : PySem.W.codeIn K cd_iL "Laid.__init__" = true)
    (k_iL : PySem.W.keepIn K (.ref f_iL) = true)
    (pgL : PySem.W.plainGet K CL Str.empty = true)
    (hdL : PySem.W.hasDictIn K CL = true)
    (poL : PySem.W.plainOver K CL = true)
    (saL : PySem.W.findIn K (.ref CL) "__setattr__" = some (some (.builtin "object.__setattr__")))
    (mkL : PySem.W.makesIn K CL = true)
    (kcL : PySem.W.keepIn K (.ref CL) = true)
    (nL_origin : PySem.W.findIn K (.ref CL) "origin" = some none)
    (nL_steps : PySem.W.findIn K (.ref CL) "steps" = some none)
    (a_CR : PySem.W.nsIn K mainGlobals "Row" = some (some (.ref CR)))
    (a_iR : PySem.W.findIn K (.ref CR) "__init__" = some (some (.ref f_iR)))
    (i_iR : PySem.W.isFn K (.ref f_iR) = true)
    (l_iR : K.lookup f_iR = some ⟨oc_iR, od_iR, .func (PySem.W.fnOf "__init__" "Row.__init__" (defArgs sRowInit) (defBody sRowInit) (defScope sRowInit) .none kV_iR dc_iR pm_iR an_iR cd_iR ct_iR), sl_iR⟩)
    (c_iR : PySem.W.codeIn K cd_iR "Row.__init__" = true)
    (k_iR : PySem.W.keepIn K (.ref f_iR) = true)
    (pgR : PySem.W.plainGet K CR Str.empty = true)
    (hdR : PySem.W.hasDictIn K CR = true)
    (poR : PySem.W.plainOver K CR = true)
    (saR : PySem.W.findIn K (.ref CR) "__setattr__" = some (some (.builtin "object.__setattr__")))
    (mkR : PySem.W.makesIn K CR = true)
    (kcR : PySem.W.keepIn K (.ref CR) = true)
    (nR_faces : PySem.W.findIn K (.ref CR) "faces" = some none)
    (nR_first : PySem.W.findIn K (.ref CR) "first" = some none)
    (nR_last : PySem.W.findIn K (.ref CR) "last" = some none)
    (nR_edges : PySem.W.findIn K (.ref CR) "edges" = some none)
    (a_CB : PySem.W.nsIn K mainGlobals "Box" = some (some (.ref CB)))
    (a_iB : PySem.W.findIn K (.ref CB) "__init__" = some (some (.ref f_iB)))
    (i_iB : PySem.W.isFn K (.ref f_iB) = true)
    (l_iB : K.lookup f_iB = some ⟨oc_iB, od_iB, .func (PySem.W.fnOf "__init__" "Box.__init__" (defArgs (sBoxM 0)) (defBody (sBoxM 0)) (defScope (sBoxM 0)) .none kV_iB dc_iB pm_iB an_iB cd_iB ct_iB), sl_iB⟩)
    (c_iB : PySem.W.codeIn K cd_iB "Box.__init__" = true)
    (k_iB : PySem.W.keepIn K (.ref f_iB) = true)
    (pgB : PySem.W.plainGet K CB Str.empty = true)
    (hdB : PySem.W.hasDictIn K CB = true)
    (poB : PySem.W.plainOver K CB = true)
    (saB : PySem.W.findIn K (.ref CB) "__setattr__" = some (some (.builtin "object.__setattr__")))
    (mkB : PySem.W.makesIn K CB = true)
    (kcB : PySem.W.keepIn K (.ref CB) = true)
    (nB_lengths : PySem.W.findIn K (.ref CB) "lengths" = some none)
    (nB_spider : PySem.W.findIn K (.ref CB) "spider" = some none)
    (nB_fly : PySem.W.findIn K (.ref CB) "fly" = some none)
    (a_pof : PySem.W.findIn K (.ref CL) "place_of" = some (some (.ref f_pof)))
    (i_pof : PySem.W.isFn K (.ref f_pof) = true)
    (l_pof : K.lookup f_pof = some ⟨oc_pof, od_pof, .func (PySem.W.fnOf "place_of" "Laid.place_of" (defArgs sPlaceOf) (defBody sPlaceOf) (defScope sPlaceOf) .none kV_pof dc_pof pm_pof an_pof cd_pof ct_pof), sl_pof⟩)
    (c_pof : PySem.W.codeIn K cd_pof "Laid.place_of" = true)
    (k_pof : PySem.W.keepIn K (.ref f_pof) = true)
    (a_lon : PySem.W.findIn K (.ref CR) "longer" = some (some (.ref f_lon)))
    (i_lon : PySem.W.isFn K (.ref f_lon) = true)
    (l_lon : K.lookup f_lon = some ⟨oc_lon, od_lon, .func (PySem.W.fnOf "longer" "Row.longer" (defArgs sLonger) (defBody sLonger) (defScope sLonger) .none kV_lon dc_lon pm_lon an_lon cd_lon ct_lon), sl_lon⟩)
    (c_lon : PySem.W.codeIn K cd_lon "Row.longer" = true)
    (k_lon : PySem.W.keepIn K (.ref f_lon) = true)
    (a_squ : PySem.W.findIn K (.ref CR) "square" = some (some (.ref f_squ)))
    (i_squ : PySem.W.isFn K (.ref f_squ) = true)
    (l_squ : K.lookup f_squ = some ⟨oc_squ, od_squ, .func (PySem.W.fnOf "square" "Row.square" (defArgs sSquare) (defBody sSquare) (defScope sSquare) .none kV_squ dc_squ pm_squ an_squ cd_squ ct_squ), sl_squ⟩)
    (c_squ : PySem.W.codeIn K cd_squ "Row.square" = true)
    (k_squ : PySem.W.keepIn K (.ref f_squ) = true)
    (a_b1 : PySem.W.findIn K (.ref CB) "begins" = some (some (.ref f_b1)))
    (i_b1 : PySem.W.isFn K (.ref f_b1) = true)
    (l_b1 : K.lookup f_b1 = some ⟨oc_b1, od_b1, .func (PySem.W.fnOf "begins" "Box.begins" (defArgs (sBoxM 1)) (defBody (sBoxM 1)) (defScope (sBoxM 1)) .none kV_b1 dc_b1 pm_b1 an_b1 cd_b1 ct_b1), sl_b1⟩)
    (c_b1 : PySem.W.codeIn K cd_b1 "Box.begins" = true)
    (k_b1 : PySem.W.keepIn K (.ref f_b1) = true)
    (a_b2 : PySem.W.findIn K (.ref CB) "put_spider" = some (some (.ref f_b2)))
    (i_b2 : PySem.W.isFn K (.ref f_b2) = true)
    (l_b2 : K.lookup f_b2 = some ⟨oc_b2, od_b2, .func (PySem.W.fnOf "put_spider" "Box.put_spider" (defArgs (sBoxM 2)) (defBody (sBoxM 2)) (defScope (sBoxM 2)) .none kV_b2 dc_b2 pm_b2 an_b2 cd_b2 ct_b2), sl_b2⟩)
    (c_b2 : PySem.W.codeIn K cd_b2 "Box.put_spider" = true)
    (k_b2 : PySem.W.keepIn K (.ref f_b2) = true)
    (a_b3 : PySem.W.findIn K (.ref CB) "put_fly" = some (some (.ref f_b3)))
    (i_b3 : PySem.W.isFn K (.ref f_b3) = true)
    (l_b3 : K.lookup f_b3 = some ⟨oc_b3, od_b3, .func (PySem.W.fnOf "put_fly" "Box.put_fly" (defArgs (sBoxM 3)) (defBody (sBoxM 3)) (defScope (sBoxM 3)) .none kV_b3 dc_b3 pm_b3 an_b3 cd_b3 ct_b3), sl_b3⟩)
    (c_b3 : PySem.W.codeIn K cd_b3 "Box.put_fly" = true)
    (k_b3 : PySem.W.keepIn K (.ref f_b3) = true)
    (a_b4 : PySem.W.findIn K (.ref CB) "way" = some (some (.ref f_b4)))
    (i_b4 : PySem.W.isFn K (.ref f_b4) = true)
    (l_b4 : K.lookup f_b4 = some ⟨oc_b4, od_b4, .func (PySem.W.fnOf "way" "Box.way" (defArgs (sBoxM 4)) (defBody (sBoxM 4)) (defScope (sBoxM 4)) .none kV_b4 dc_b4 pm_b4 an_b4 cd_b4 ct_b4), sl_b4⟩)
    (c_b4 : PySem.W.codeIn K cd_b4 "Box.way" = true)
    (k_b4 : PySem.W.keepIn K (.ref f_b4) = true)
    (a_b5 : PySem.W.findIn K (.ref CB) "over" = some (some (.ref f_b5)))
    (i_b5 : PySem.W.isFn K (.ref f_b5) = true)
    (l_b5 : K.lookup f_b5 = some ⟨oc_b5, od_b5, .func (PySem.W.fnOf "over" "Box.over" (defArgs (sBoxM 5)) (defBody (sBoxM 5)) (defScope (sBoxM 5)) .none kV_b5 dc_b5 pm_b5 an_b5 cd_b5 ct_b5), sl_b5⟩)
    (c_b5 : PySem.W.codeIn K cd_b5 "Box.over" = true)
    (k_b5 : PySem.W.keepIn K (.ref f_b5) = true)
    (a_b6 : PySem.W.findIn K (.ref CB) "many" = some (some (.ref f_b6)))
    (i_b6 : PySem.W.isFn K (.ref f_b6) = true)
    (l_b6 : K.lookup f_b6 = some ⟨oc_b6, od_b6, .func (PySem.W.fnOf "many" "Box.many" (defArgs (sBoxM 6)) (defBody (sBoxM 6)) (defScope (sBoxM 6)) .none kV_b6 dc_b6 pm_b6 an_b6 cd_b6 ct_b6), sl_b6⟩)
    (c_b6 : PySem.W.codeIn K cd_b6 "Box.many" = true)
    (k_b6 : PySem.W.keepIn K (.ref f_b6) = true)
    (a_b7 : PySem.W.findIn K (.ref CB) "straight" = some (some (.ref f_b7)))
    (i_b7 : PySem.W.isFn K (.ref f_b7) = true)
    (l_b7 : K.lookup f_b7 = some ⟨oc_b7, od_b7, .func (PySem.W.fnOf "straight" "Box.straight" (defArgs (sBoxM 7)) (defBody (sBoxM 7)) (defScope (sBoxM 7)) .none kV_b7 dc_b7 pm_b7 an_b7 cd_b7 ct_b7), sl_b7⟩)
    (c_b7 : PySem.W.codeIn K cd_b7 "Box.straight" = true)
    (k_b7 : PySem.W.keepIn K (.ref f_b7) = true)
    (a_b8 : PySem.W.findIn K (.ref CB) "squares" = some (some (.ref f_b8)))
    (i_b8 : PySem.W.isFn K (.ref f_b8) = true)
    (l_b8 : K.lookup f_b8 = some ⟨oc_b8, od_b8, .func (PySem.W.fnOf "squares" "Box.squares" (defArgs (sBoxM 8)) (defBody (sBoxM 8)) (defScope (sBoxM 8)) .none kV_b8 dc_b8 pm_b8 an_b8 cd_b8 ct_b8), sl_b8⟩)
    (c_b8 : PySem.W.codeIn K cd_b8 "Box.squares" = true)
    (k_b8 : PySem.W.keepIn K (.ref f_b8) = true)
    (a_b9 : PySem.W.findIn K (.ref CB) "farthest" = some (some (.ref f_b9)))
    (i_b9 : PySem.W.isFn K (.ref f_b9) = true)
    (l_b9 : K.lookup f_b9 = some ⟨oc_b9, od_b9, .func (PySem.W.fnOf "farthest" "Box.farthest" (defArgs (sBoxM 9)) (defBody (sBoxM 9)) (defScope (sBoxM 9)) .none kV_b9 dc_b9 pm_b9 an_b9 cd_b9 ct_b9), sl_b9⟩)
    (c_b9 : PySem.W.codeIn K cd_b9 "Box.farthest" = true)
    (k_b9 : PySem.W.keepIn K (.ref f_b9) = true)
    (a_b10 : PySem.W.findIn K (.ref CB) "within" = some (some (.ref f_b10)))
    (i_b10 : PySem.W.isFn K (.ref f_b10) = true)
    (l_b10 : K.lookup f_b10 = some ⟨oc_b10, od_b10, .func (PySem.W.fnOf "within" "Box.within" (defArgs (sBoxM 10)) (defBody (sBoxM 10)) (defScope (sBoxM 10)) .none kV_b10 dc_b10 pm_b10 an_b10 cd_b10 ct_b10), sl_b10⟩)
    (c_b10 : PySem.W.codeIn K cd_b10 "Box.within" = true)
    (k_b10 : PySem.W.keepIn K (.ref f_b10) = true)
    (a_b11 : PySem.W.findIn K (.ref CB) "touched" = some (some (.ref f_b11)))
    (i_b11 : PySem.W.isFn K (.ref f_b11) = true)
    (l_b11 : K.lookup f_b11 = some ⟨oc_b11, od_b11, .func (PySem.W.fnOf "touched" "Box.touched" (defArgs (sBoxM 11)) (defBody (sBoxM 11)) (defScope (sBoxM 11)) .none kV_b11 dc_b11 pm_b11 an_b11 cd_b11 ct_b11), sl_b11⟩)
    (c_b11 : PySem.W.codeIn K cd_b11 "Box.touched" = true)
    (k_b11 : PySem.W.keepIn K (.ref f_b11) = true)
    (a_b12 : PySem.W.findIn K (.ref CB) "of_call" = some (some (.ref f_b12)))
    (i_b12 : PySem.W.isFn K (.ref f_b12) = true)
    (l_b12 : K.lookup f_b12 = some ⟨oc_b12, od_b12, .func (PySem.W.fnOf "of_call" "Box.of_call" (defArgs (sBoxM 12)) (defBody (sBoxM 12)) (defScope (sBoxM 12)) .none kV_b12 dc_b12 pm_b12 an_b12 cd_b12 ct_b12), sl_b12⟩)
    (c_b12 : PySem.W.codeIn K cd_b12 "Box.of_call" = true)
    (k_b12 : PySem.W.keepIn K (.ref f_b12) = true)
    (a_b13 : PySem.W.findIn K (.ref CB) "answer" = some (some (.ref f_b13)))
    (i_b13 : PySem.W.isFn K (.ref f_b13) = true)
    (l_b13 : K.lookup f_b13 = some ⟨oc_b13, od_b13, .func (PySem.W.fnOf "answer" "Box.answer" (defArgs (sBoxM 13)) (defBody (sBoxM 13)) (defScope (sBoxM 13)) .none kV_b13 dc_b13 pm_b13 an_b13 cd_b13 ct_b13), sl_b13⟩)
    (c_b13 : PySem.W.codeIn K cd_b13 "Box.answer" = true)
    (k_b13 : PySem.W.keepIn K (.ref f_b13) = true)
    (a_CF : PySem.W.nsIn K mainGlobals "Refused" = some (some (.ref CF)))
    (xL : K.lookup CF = some (excClassObj nm q CF N bs [.type "ValueError", .type "Exception", .type "BaseException", .type "object"] true sn sub ab col dd m0 m1 m2 m3 m5 "ValueError.__new__"))
    (saF : PySem.W.findIn K (.ref CF) "__setattr__" = some (some (.builtin "object.__setattr__")))
    (gaF : PySem.W.findIn K (.ref CF) "__getattribute__" = some (some (.builtin "BaseException.__getattribute__")))
    (ggF : PySem.W.findIn K (.ref CF) "__getattr__" = some none)
    (nRF : PySem.W.findIn K (.ref CF) "refusal" = some none)
    (a_iF : PySem.W.findIn K (.ref CF) "__init__" = some (some (.ref f_iF)))
    (t_iF : PySem.W.typeIn K (.ref f_iF) = some (.type "function"))
    (l_iF : K.lookup f_iF = some ⟨oc_iF, od_iF, .func (PySem.W.fnOf "__init__" "Refused.__init__" (defArgs sRefInit) (defBody sRefInit) (defScope sRefInit) .none kV_iF dc_iF pm_iF an_iF cd_iF ct_iF), sl_iF⟩)
    (c_iF : PySem.W.codeIn K cd_iF "Refused.__init__" = true)
    (k_iF : PySem.W.keepIn K (.ref f_iF) = true)
    (kCF : PySem.W.keepIn K (.ref CF) = true)
    (eCF : PySem.W.subIn K (.ref CF) (.type "BaseException") = some true)
    (tCF : PySem.W.typeIn K (.ref CF) = some (.type "type"))
    (hCF : PySem.W.hasDictIn K CF = true)
    (iCF : PySem.W.isClsIn K CF = true)
    (sCF : PySem.W.subIn K (.ref CF) (.ref CF) = some true)
    (vVF : PySem.W.findCls K (.type "ValueError") (.type "type") "__init__" = some (.val (.builtin "ValueError.__init__")))
    (g_AXES : PySem.W.nsIn K mainGlobals "AXES" = some (some (.int 3 t_AXES)))
    (g_FACES : PySem.W.nsIn K mainGlobals "FACES" = some (some (.int 6 t_FACES)))
    (g_LONGEST : PySem.W.nsIn K mainGlobals "LONGEST" = some (some (.int 40 t_LONGEST)))
    (g_BAD : PySem.W.nsIn K mainGlobals "BAD" = some (some (.int (-1) t_BAD)))
    (g_NOT_JOINED : PySem.W.nsIn K mainGlobals "NOT_JOINED" = some (some (.int (-4) t_NOT_JOINED)))
    (g_NOT_STRAIGHT : PySem.W.nsIn K mainGlobals "NOT_STRAIGHT" = some (some (.int (-6) t_NOT_STRAIGHT)))
    (g_TOO_LARGE : PySem.W.nsIn K mainGlobals "TOO_LARGE" = some (some (.int (-9) t_TOO_LARGE)))
    (g_MOST_FOR_ALL : PySem.W.nsIn K mainGlobals "MOST_FOR_ALL" = some (some (.int 4 t_MOST_FOR_ALL)))
    (g_OVER : PySem.W.nsIn K mainGlobals "OVER" = some (some (.int 4 t_OVER)))
    (g_STAY : PySem.W.nsIn K mainGlobals "STAY" = some (some (.ref p_STAY)))
    (l_STAY : K.lookup p_STAY = some ⟨.type "tuple", od_STAY, .seq #[.int 0 u0_STAY, .int 0 u1_STAY] n_STAY, sl_STAY⟩)
    (g_RIGHT : PySem.W.nsIn K mainGlobals "RIGHT" = some (some (.ref p_RIGHT)))
    (l_RIGHT : K.lookup p_RIGHT = some ⟨.type "tuple", od_RIGHT, .seq #[.int 1 u0_RIGHT, .int 0 u1_RIGHT] n_RIGHT, sl_RIGHT⟩)
    (g_UP : PySem.W.nsIn K mainGlobals "UP" = some (some (.ref p_UP)))
    (l_UP : K.lookup p_UP = some ⟨.type "tuple", od_UP, .seq #[.int 0 u0_UP, .int 1 u1_UP] n_UP, sl_UP⟩)
    (g_NUMBERS : PySem.W.nsIn K mainGlobals "NUMBERS" = some (some (.ref p_NUMBERS)))
    (l_NUMBERS : K.lookup p_NUMBERS = some ⟨.type "tuple", od_NUMBERS, .seq #[.int 3 u0_NUMBERS, .int 3 u1_NUMBERS, .int 3 u2_NUMBERS, .int 0 u3_NUMBERS, .int 0 u4_NUMBERS, .int 0 u5_NUMBERS, .int 0 u6_NUMBERS, .int 0 u7_NUMBERS, .int 1 u8_NUMBERS, .int 0 u9_NUMBERS, .int 0 u10_NUMBERS] n_NUMBERS, sl_NUMBERS⟩)
    (m_all : PySem.W.nsIn K mainGlobals "all" = some none)
    (m_zip : PySem.W.nsIn K mainGlobals "zip" = some none)
    (m_range : PySem.W.nsIn K mainGlobals "range" = some none)
    (m_len : PySem.W.nsIn K mainGlobals "len" = some none)
    (m_set : PySem.W.nsIn K mainGlobals "set" = some none)
    (m_int : PySem.W.nsIn K mainGlobals "int" = some none)
    (m_list : PySem.W.nsIn K mainGlobals "list" = some none)
    (m_tuple : PySem.W.nsIn K mainGlobals "tuple" = some none)
    (m_min : PySem.W.nsIn K mainGlobals "min" = some none)
    (m_max : PySem.W.nsIn K mainGlobals "max" = some none)
    (m_abs : PySem.W.nsIn K mainGlobals "abs" = some none)
    (m_enumerate : PySem.W.nsIn K mainGlobals "enumerate" = some none)
    (m_sum : PySem.W.nsIn K mainGlobals "sum" = some none)
    (m_ValueError : PySem.W.nsIn K mainGlobals "ValueError" = some none) :
    ∃ fd : FuncData, (∀ (s : Shared) (us : List Value), us.length = (["calls"] : List Str).length → BindsTo s fd ⟨us, []⟩ ((["calls"] : List Str).zip us)) ∧ ∀ base : Heap, K.In base → base.Ns mainGlobals mg → FnOk P w K mg base CX0 17 fa fd ["calls"] (spAnswers K) := by
  have e := hfa.symm.trans (PySem.W.mg_of X G a_ans)
  cases e
  have D_axis := def_mk (st := sAxis) (ps := ["face"]) X G a_axis l_axis c_axis k_axis (fun _ _ _ _ _ _ us hl => match us, hl with | [_], _ => rfl)
  have D_far := def_mk (st := sFar) (ps := ["face"]) X G a_far l_far c_far k_far (fun _ _ _ _ _ _ us hl => match us, hl with | [_], _ => rfl)
  have D_bes := def_mk (st := sBeside) (ps := ["one", "other"]) X G a_bes l_bes c_bes k_bes (fun _ _ _ _ _ _ us hl => match us, hl with | [_, _], _ => rfl)
  have D_third := def_mk (st := sThird) (ps := ["one", "other"]) X G a_third l_third c_third k_third (fun _ _ _ _ _ _ us hl => match us, hl with | [_, _], _ => rfl)
  have D_lens := def_mk (st := sLens) (ps := ["lengths"]) X G a_lens l_lens c_lens k_lens (fun _ _ _ _ _ _ us hl => match us, hl with | [_], _ => rfl)
  have D_ison := def_mk (st := sIsOn) (ps := ["lengths", "point", "face"]) X G a_ison l_ison c_ison k_ison (fun _ _ _ _ _ _ us hl => match us, hl with | [_, _, _], _ => rfl)
  have D_fof := def_mk (st := sFacesOf) (ps := ["lengths", "point"]) X G a_fof l_fof c_fof k_fof (fun _ _ _ _ _ _ us hl => match us, hl with | [_, _], _ => rfl)
  have D_iob := def_mk (st := sIsOnBox) (ps := ["lengths", "point"]) X G a_iob l_iob c_iob k_iob (fun _ _ _ _ _ _ us hl => match us, hl with | [_, _], _ => rfl)
  have D_pts := def_mk (st := sAllPoints) (ps := ["lengths"]) X G a_pts l_pts c_pts k_pts (fun _ _ _ _ _ _ us hl => match us, hl with | [_], _ => rfl)
  have D_arow := def_mk (st := sAreRow) (ps := ["faces"]) X G a_arow l_arow c_arow k_arow (fun _ _ _ _ _ _ us hl => match us, hl with | [_], _ => rfl)
  have D_mov := def_mk (st := sMoved) (ps := ["place", "step", "many"]) X G a_mov l_mov c_mov k_mov (fun _ _ _ _ _ _ us hl => match us, hl with | [_, _, _], _ => rfl)
  have D_tur := def_mk (st := sTurned) (ps := ["step", "is_back"]) X G a_tur l_tur c_tur k_tur (fun _ _ _ _ _ _ us hl => match us, hl with | [_, _], _ => rfl)
  have D_sqb := def_mk (st := sSqB) (ps := ["one", "other"]) X G a_sqb l_sqb c_sqb k_sqb (fun _ _ _ _ _ _ us hl => match us, hl with | [_, _], _ => rfl)
  have D_fst := def_mk (st := sFirst) (ps := ["face"]) X G a_fst l_fst c_fst k_fst (fun _ _ _ _ _ _ us hl => match us, hl with | [_], _ => rfl)
  have D_edg := def_mk (st := sEdge) (ps := ["lengths", "laid", "face", "other"]) X G a_edg l_edg c_edg k_edg (fun _ _ _ _ _ _ us hl => match us, hl with | [_, _, _, _], _ => rfl)
  have D_nxt := def_mk (st := sNext) (ps := ["lengths", "laid", "face", "other"]) X G a_nxt l_nxt c_nxt k_nxt (fun _ _ _ _ _ _ us hl => match us, hl with | [_, _, _, _], _ => rfl)
  have D_swa := def_mk (st := sSwapped) (ps := ["place"]) X G a_swa l_swa c_swa k_swa (fun _ _ _ _ _ _ us hl => match us, hl with | [_], _ => rfl)
  have D_upr := def_mk (st := sUp) (ps := ["one", "other", "edge"]) X G a_upr l_upr c_upr k_upr (fun _ _ _ _ _ _ us hl => match us, hl with | [_, _, _], _ => rfl)
  have D_cro := def_mk (st := sCrosses) (ps := ["one", "other", "edge"]) X G a_cro l_cro c_cro k_cro (fun _ _ _ _ _ _ us hl => match us, hl with | [_, _, _], _ => rfl)
  have D_rof := def_mk (st := sRowOf) (ps := ["lengths", "faces"]) X G a_rof l_rof c_rof k_rof (fun _ _ _ _ _ _ us hl => match us, hl with | [_, _], _ => rfl)
  have D_beh := def_mk (st := sBehind) (ps := ["lengths", "row"]) X G a_beh l_beh c_beh k_beh (fun _ _ _ _ _ _ us hl => match us, hl with | [_, _], _ => rfl)
  have D_frm := def_mk (st := sFrom) (ps := ["lengths", "point"]) X G a_frm l_frm c_frm k_frm (fun _ _ _ _ _ _ us hl => match us, hl with | [_, _], _ => rfl)
  have D_sw := def_mk (st := sSW) (ps := ["lengths", "rows", "one", "other"]) X G a_sw l_sw c_sw k_sw (fun _ _ _ _ _ _ us hl => match us, hl with | [_, _, _, _], _ => rfl)
  have D_sho := def_mk (st := sShort) (ps := ["lengths", "rows", "one", "other"]) X G a_sho l_sho c_sho k_sho (fun _ _ _ _ _ _ us hl => match us, hl with | [_, _, _, _], _ => rfl)
  have D_asq := def_mk (st := sAllSq) (ps := ["lengths", "one"]) X G a_asq l_asq c_asq k_asq (fun _ _ _ _ _ _ us hl => match us, hl with | [_, _], _ => rfl)
  have D_wan := def_mk (st := sWant) (ps := ["good", "refusal"]) X G a_wan l_wan c_wan k_wan (fun _ _ _ _ _ _ us hl => match us, hl with | [_, _], _ => rfl)
  have D_lst := def_mk (st := sListed) (ps := ["some"]) X G a_lst l_lst c_lst k_lst (fun _ _ _ _ _ _ us hl => match us, hl with | [_], _ => rfl)
  have D_ans := def_mk (st := sAnswers) (ps := ["calls"]) X G a_ans l_ans c_ans k_ans (fun _ _ _ _ _ _ us hl => match us, hl with | [_], _ => rfl)
  have D_pof := mdef_mk (st := sPlaceOf) (ps := ["self", "point"]) a_pof i_pof l_pof c_pof k_pof (fun _ _ _ _ _ _ us hl => match us, hl with | [_, _], _ => rfl)
  have D_lon := mdef_mk (st := sLonger) (ps := ["self", "lengths", "face"]) a_lon i_lon l_lon c_lon k_lon (fun _ _ _ _ _ _ us hl => match us, hl with | [_, _, _], _ => rfl)
  have D_squ := mdef_mk (st := sSquare) (ps := ["self", "one", "other"]) a_squ i_squ l_squ c_squ k_squ (fun _ _ _ _ _ _ us hl => match us, hl with | [_, _, _], _ => rfl)
  have D_b1 := mdef_mk (st := (sBoxM 1)) (ps := ["self", "n"]) a_b1 i_b1 l_b1 c_b1 k_b1 (fun _ _ _ _ _ _ us hl => match us, hl with | [_, _], _ => rfl)
  have D_b2 := mdef_mk (st := (sBoxM 2)) (ps := ["self", "n"]) a_b2 i_b2 l_b2 c_b2 k_b2 (fun _ _ _ _ _ _ us hl => match us, hl with | [_, _], _ => rfl)
  have D_b3 := mdef_mk (st := (sBoxM 3)) (ps := ["self", "n"]) a_b3 i_b3 l_b3 c_b3 k_b3 (fun _ _ _ _ _ _ us hl => match us, hl with | [_, _], _ => rfl)
  have D_b4 := mdef_mk (st := (sBoxM 4)) (ps := ["self"]) a_b4 i_b4 l_b4 c_b4 k_b4 (fun _ _ _ _ _ _ us hl => match us, hl with | [_], _ => rfl)
  have D_b5 := mdef_mk (st := (sBoxM 5)) (ps := ["self", "faces"]) a_b5 i_b5 l_b5 c_b5 k_b5 (fun _ _ _ _ _ _ us hl => match us, hl with | [_, _], _ => rfl)
  have D_b6 := mdef_mk (st := (sBoxM 6)) (ps := ["self"]) a_b6 i_b6 l_b6 c_b6 k_b6 (fun _ _ _ _ _ _ us hl => match us, hl with | [_], _ => rfl)
  have D_b7 := mdef_mk (st := (sBoxM 7)) (ps := ["self"]) a_b7 i_b7 l_b7 c_b7 k_b7 (fun _ _ _ _ _ _ us hl => match us, hl with | [_], _ => rfl)
  have D_b8 := mdef_mk (st := (sBoxM 8)) (ps := ["self"]) a_b8 i_b8 l_b8 c_b8 k_b8 (fun _ _ _ _ _ _ us hl => match us, hl with | [_], _ => rfl)
  have D_b9 := mdef_mk (st := (sBoxM 9)) (ps := ["self"]) a_b9 i_b9 l_b9 c_b9 k_b9 (fun _ _ _ _ _ _ us hl => match us, hl with | [_], _ => rfl)
  have D_b10 := mdef_mk (st := (sBoxM 10)) (ps := ["self", "most"]) a_b10 i_b10 l_b10 c_b10 k_b10 (fun _ _ _ _ _ _ us hl => match us, hl with | [_, _], _ => rfl)
  have D_b11 := mdef_mk (st := (sBoxM 11)) (ps := ["self"]) a_b11 i_b11 l_b11 c_b11 k_b11 (fun _ _ _ _ _ _ us hl => match us, hl with | [_], _ => rfl)
  have D_b12 := mdef_mk (st := (sBoxM 12)) (ps := ["self", "call", "n", "row"]) a_b12 i_b12 l_b12 c_b12 k_b12 (fun _ _ _ _ _ _ us hl => match us, hl with | [_, _, _, _], _ => rfl)
  have D_b13 := mdef_mk (st := (sBoxM 13)) (ps := ["self", "call", "n", "row"]) a_b13 i_b13 l_b13 c_b13 k_b13 (fun _ _ _ _ _ _ us hl => match us, hl with | [_, _, _, _], _ => rfl)
  have F_iL := fun_mk (st := sLaidInit) l_iL c_iL k_iL
  have b_iL := F_iL.binds (ps := ["self", "origin", "steps"]) (fun _ _ _ _ _ _ us hl => match us, hl with | [_, _, _], _ => rfl)
  have M_L : Mk K CL f_iL := ⟨mkL, a_iL, i_iL, kcL⟩
  have F_iR := fun_mk (st := sRowInit) l_iR c_iR k_iR
  have b_iR := F_iR.binds (ps := ["self", "faces", "first", "last", "edges"]) (fun _ _ _ _ _ _ us hl => match us, hl with | [_, _, _, _, _], _ => rfl)
  have M_R : Mk K CR f_iR := ⟨mkR, a_iR, i_iR, kcR⟩
  have F_iB := fun_mk (st := (sBoxM 0)) l_iB c_iB k_iB
  have b_iB := F_iB.binds (ps := ["self"]) (fun _ _ _ _ _ _ us hl => match us, hl with | [_], _ => rfl)
  have M_B : Mk K CB f_iB := ⟨mkB, a_iB, i_iB, kcB⟩
  have TL : LaidC K mg CL f_iL _ := ⟨⟨pgL, hdL, poL, saL⟩, nL_origin, nL_steps, PySem.W.mg_of X G a_CL, M_L, F_iL, b_iL⟩
  have TR : RowC K mg CR f_iR _ := ⟨⟨pgR, hdR, poR, saR⟩, nR_faces, nR_first, nR_last, nR_edges, PySem.W.mg_of X G a_CR, M_R, F_iR, b_iR⟩
  have TB : BoxC K CB := ⟨⟨pgB, hdB, poB, saB⟩, nB_lengths, nB_spider, nB_fly⟩
  have F_iF := fun_mk (st := sRefInit) l_iF c_iF k_iF
  have b_iF := F_iF.binds (ps := ["self", "refusal"]) (fun _ _ _ _ _ _ us hl => match us, hl with | [_, _], _ => rfl)
  have q_AXES := PySem.W.mg_of X G g_AXES
  have q_FACES := PySem.W.mg_of X G g_FACES
  have q_LONGEST := PySem.W.mg_of X G g_LONGEST
  have q_BAD := PySem.W.mg_of X G g_BAD
  have q_NOT_JOINED := PySem.W.mg_of X G g_NOT_JOINED
  have q_NOT_STRAIGHT := PySem.W.mg_of X G g_NOT_STRAIGHT
  have q_TOO_LARGE := PySem.W.mg_of X G g_TOO_LARGE
  have q_MOST_FOR_ALL := PySem.W.mg_of X G g_MOST_FOR_ALL
  have q_OVER := PySem.W.mg_of X G g_OVER
  have z_all := PySem.W.mg_none_of X G m_all
  have z_zip := PySem.W.mg_none_of X G m_zip
  have z_range := PySem.W.mg_none_of X G m_range
  have z_len := PySem.W.mg_none_of X G m_len
  have z_set := PySem.W.mg_none_of X G m_set
  have z_int := PySem.W.mg_none_of X G m_int
  have z_list := PySem.W.mg_none_of X G m_list
  have z_tuple := PySem.W.mg_none_of X G m_tuple
  have z_min := PySem.W.mg_none_of X G m_min
  have z_max := PySem.W.mg_none_of X G m_max
  have z_abs := PySem.W.mg_none_of X G m_abs
  have z_enumerate := PySem.W.mg_none_of X G m_enumerate
  have z_sum := PySem.W.mg_none_of X G m_sum
  have z_ValueError := PySem.W.mg_none_of X G m_ValueError
  have TF : RefC K mg CF f_iF _ := ⟨⟨⟨nm, q, N, bs, _, sn, sub, ab, col, dd, m0, m1, m2, m3, m5, xL, by decide +kernel⟩, saF, eCF, tCF, kCF⟩, ⟨gaF, ggF, eCF, hCF⟩, nRF, a_iF, t_iF, PySem.W.mg_of X G a_CF, F_iF, b_iF, vVF, z_ValueError, exm_self eCF iCF tCF sCF⟩
  have v_STAY : ∀ H, SqT K H p_STAY (fV ⟨0, 0⟩) := tup_mk l_STAY (by show 2 ≤ 2 ^ 24; decide) (.cons ⟨_, rfl⟩ (.cons ⟨_, rfl⟩ .nil))
  have v_RIGHT : ∀ H, SqT K H p_RIGHT (fV ⟨1, 0⟩) := tup_mk l_RIGHT (by show 2 ≤ 2 ^ 24; decide) (.cons ⟨_, rfl⟩ (.cons ⟨_, rfl⟩ .nil))
  have v_UP : ∀ H, SqT K H p_UP (fV ⟨0, 1⟩) := tup_mk l_UP (by show 2 ≤ 2 ^ 24; decide) (.cons ⟨_, rfl⟩ (.cons ⟨_, rfl⟩ .nil))
  have v_NUMBERS : ∀ H, SqT K H p_NUMBERS (numV) := tup_mk l_NUMBERS (by show 11 ≤ 2 ^ 24; decide) (.cons ⟨_, rfl⟩ (.cons ⟨_, rfl⟩ (.cons ⟨_, rfl⟩ (.cons ⟨_, rfl⟩ (.cons ⟨_, rfl⟩ (.cons ⟨_, rfl⟩ (.cons ⟨_, rfl⟩ (.cons ⟨_, rfl⟩ (.cons ⟨_, rfl⟩ (.cons ⟨_, rfl⟩ (.cons ⟨_, rfl⟩ .nil)))))))))))
  have U : Consts K mg p_STAY p_RIGHT p_UP := ⟨PySem.W.mg_of X G g_STAY, PySem.W.mg_of X G g_RIGHT, PySem.W.mg_of X G g_UP, v_STAY, v_RIGHT, v_UP⟩
  refine ⟨PySem.W.fnOf "answers" "answers" (defArgs sAnswers) (defBody sAnswers) (defScope sAnswers) .none kV_ans dc_ans pm_ans an_ans cd_ans ct_ans, fun s us hu => match us, hu with | [_], _ => .of_eq rfl, fun base _ _ => ?_⟩
  have O_fof : FnOk P w K mg base CX0 3 f_fof _ ["lengths", "point"] (spFacesOf K) := ok_facesOf D_fof D_ison D_axis D_far z_range q_FACES
  have O_ison : FnOk P w K mg base CX0 2 f_ison _ ["lengths", "point", "face"] (spIsOn K) := ok_isOn D_ison D_axis D_far
  have O_iob : FnOk P w K mg base CX0 4 f_iob _ ["lengths", "point"] (spIsOnBox K) := ok_isOnBox D_iob D_fof D_ison D_axis D_far z_range q_FACES z_all z_zip
  have O_pts : FnOk P w K mg base CX0 5 f_pts _ ["lengths"] (spAllPoints K) := ok_allPoints (t := 0) (fO := 0) (fI := 0) (fA := 0) (fF := 0) (fdO := default) (fdI := default) (fdA := default) (fdF := default) D_pts D_iob O_iob z_range
  have O_arow : FnOk P w K mg base CX0 3 f_arow _ ["faces"] (spAreRow K) := ok_areRow D_arow D_bes D_axis z_all z_zip z_len z_set q_FACES
  have O_lens : FnOk P w K mg base CX0 1 f_lens _ ["lengths"] (spLens K) := ok_lens D_lens z_all q_LONGEST
  have O_pof : FnOk P w K mg base CX0 2 f_pof _ ["self", "point"] (spPlaceOf K CL) := ok_placeOf TL D_pof D_mov z_range q_AXES
  have O_fst : FnOk P w K mg base CX0 3 f_fst _ ["face"] (spFirst K CL) := ok_first TL D_fst D_axis U
  have O_edg : FnOk P w K mg base CX0 2 f_edg _ ["lengths", "laid", "face", "other"] (spEdge K CL) := ok_edge TL D_edg D_axis D_far D_third D_mov q_AXES z_int
  have O_nxt : FnOk P w K mg base CX0 3 f_nxt _ ["lengths", "laid", "face", "other"] (spNext K CL) := ok_next TL D_nxt D_axis D_far D_mov D_edg O_edg D_tur U z_int z_list
  have O_cro : FnOk P w K mg base CX0 2 f_cro _ ["one", "other", "edge"] (spCrosses K) := ok_crosses D_cro D_upr D_swa z_min z_max z_abs
  have O_lon : FnOk P w K mg base CX0 4 f_lon _ ["self", "lengths", "face"] (spLonger K CL CR) := ok_longer TL TR D_lon D_edg O_edg D_nxt O_nxt
  have O_squ : FnOk P w K mg base CX0 3 f_squ _ ["self", "one", "other"] (spSquare K CL CR) := ok_square TL TR D_squ D_pof O_pof D_cro O_cro D_sqb z_all
  have O_rof : FnOk P w K mg base CX0 5 f_rof _ ["lengths", "faces"] (spRowOf K CL CR) := ok_rowOf TL TR D_rof D_fst O_fst D_lon O_lon
  have O_beh : FnOk P w K mg base CX0 10 f_beh _ ["lengths", "row"] (spBehind K CL CR 5) := ok_behind (CL := CL) TR D_beh D_lon O_lon D_bes D_axis z_range q_FACES 5
  have O_frm : FnOk P w K mg base CX0 11 f_frm _ ["lengths", "point"] (spFrom K CL CR) := ok_from D_frm D_fof O_fof D_beh O_beh D_rof O_rof
  have O_sw : FnOk P w K mg base CX0 4 f_sw _ ["lengths", "rows", "one", "other"] (spSW K CL CR) := ok_sw TR D_sw D_ison O_ison D_squ O_squ z_enumerate z_len
  have O_sho : FnOk P w K mg base CX0 5 f_sho _ ["lengths", "rows", "one", "other"] (spShort K CL CR) := ok_short D_sho D_sw O_sw z_min
  have O_asq : FnOk P w K mg base CX0 12 f_asq _ ["lengths", "one"] (spAllSq K) := ok_allSq D_asq D_frm O_frm D_pts O_pts D_sho O_sho
  have O_wan : FnOk P w K mg base (L2.CX P w) 3 f_wan _ ["good", "refusal"] (spWant CF) := ok_want TF D_wan
  have O_lst : FnOk P w K mg base CX0 1 f_lst _ ["some"] (spListed K) := ok_listed D_lst z_len z_list
  have O_b8 : FnOk P w K mg base (L2.CX P w) 13 f_b8 _ ["self"] (spSquares K CB CF) := ok_squares TB TF D_b8 D_wan O_wan D_asq O_asq q_MOST_FOR_ALL q_TOO_LARGE z_max
  have XM : Meths P w K mg base CB CF f_b1 f_b2 f_b3 f_b4 f_b5 f_b6 f_b7 f_b9 f_b10 f_b11 f_lst _ _ _ _ _ _ _ _ _ _ _ :=
    { D0 := D_b1, G0 := ok_begins TB TF D_b1 D_wan O_wan D_lens O_lens q_BAD z_list z_tuple
      D1 := D_b2, G1 := ok_putSpider TB TF D_b2 D_wan O_wan D_iob O_iob D_fof O_fof q_BAD z_len z_tuple
      D2 := D_b3, G2 := ok_putFly TB TF D_b3 D_wan O_wan D_iob O_iob D_fof O_fof q_BAD z_len z_tuple
      D3 := D_b4, G3 := ok_way TB TR D_b4 D_frm O_frm D_sho O_sho D_lst O_lst
      D4 := D_b5, G4 := ok_over TB TF TR D_b5 D_wan O_wan D_arow O_arow D_ison O_ison D_rof O_rof D_squ O_squ q_BAD q_NOT_JOINED q_NOT_STRAIGHT
      D5 := D_b6, G5 := ok_many TB D_b6 D_frm O_frm D_sw O_sw z_len z_min
      D6 := D_b7, G6 := ok_straight TB D_b7 z_sum z_zip
      D7 := D_b9, G7 := ok_farthest TB TF D_b9 D_b8 O_b8 D_lst O_lst z_max z_len
      D8 := D_b10, G8 := ok_within TB TF D_b10 D_b8 O_b8 z_len
      D9 := D_b11, G9 := ok_touched TB D_b11 D_fof O_fof D_lst O_lst z_len
      DL := D_lst, GL := O_lst }
  have O_b12 := ok_ofCall TB D_b12 XM q_OVER
  have O_b13 := ok_answer TB TF D_b13 D_b12 O_b12
  exact ok_answers TB D_ans M_B F_iB b_iB (PySem.W.mg_of X G a_CB) D_b13 O_b13 (PySem.W.mg_of X G g_NUMBERS) v_NUMBERS q_OVER z_len
end Fly

/-! ## Z -/
open PySem PySem.W PyProof.Rows
set_option maxRecDepth 100000 in
set_option maxHeartbeats 200000000 in
theorem PySem.Challenge.cw_spiderfly_s01_answers_holds : PySem.Challenge.rw_spiderfly_s01_answers.Holds := by
  w_on; k_headS; (case hw => exact ⟨[.list [.int 10]], by decide +kernel, by decide +kernel⟩)
  k_fillS
  refine L2.walk_specK (r := PySem.Challenge.rw_spiderfly_s01_answers) (k := 17) (CX := L2.CX0) (ps := ["calls"]) (sp := Fly.spAnswers) (by decide +kernel) rfl rfl ⟨rfl, by decide, by decide⟩ (fun w h Y => PySem.W.kIn_of Y) ?F ?S (fun _ _ _ _ z => z)
  case F =>
    intro w mg fa h Y KX G hmg
    refine' Fly.all_mk KX G hmg ?a_axis ?l_axis ?c_axis ?k_axis ?a_far ?l_far ?c_far ?k_far ?a_bes ?l_bes ?c_bes ?k_bes ?a_third ?l_third ?c_third ?k_third ?a_lens ?l_lens ?c_lens ?k_lens ?a_ison ?l_ison ?c_ison ?k_ison ?a_fof ?l_fof ?c_fof ?k_fof ?a_iob ?l_iob ?c_iob ?k_iob ?a_pts ?l_pts ?c_pts ?k_pts ?a_arow ?l_arow ?c_arow ?k_arow ?a_mov ?l_mov ?c_mov ?k_mov ?a_tur ?l_tur ?c_tur ?k_tur ?a_sqb ?l_sqb ?c_sqb ?k_sqb ?a_fst ?l_fst ?c_fst ?k_fst ?a_edg ?l_edg ?c_edg ?k_edg ?a_nxt ?l_nxt ?c_nxt ?k_nxt ?a_swa ?l_swa ?c_swa ?k_swa ?a_upr ?l_upr ?c_upr ?k_upr ?a_cro ?l_cro ?c_cro ?k_cro ?a_rof ?l_rof ?c_rof ?k_rof ?a_beh ?l_beh ?c_beh ?k_beh ?a_frm ?l_frm ?c_frm ?k_frm ?a_sw ?l_sw ?c_sw ?k_sw ?a_sho ?l_sho ?c_sho ?k_sho ?a_asq ?l_asq ?c_asq ?k_asq ?a_wan ?l_wan ?c_wan ?k_wan ?a_lst ?l_lst ?c_lst ?k_lst ?a_ans ?l_ans ?c_ans ?k_ans ?a_CL ?a_iL ?i_iL ?l_iL ?c_iL ?k_iL ?pgL ?hdL ?poL ?saL ?mkL ?kcL ?nL_origin ?nL_steps ?a_CR ?a_iR ?i_iR ?l_iR ?c_iR ?k_iR ?pgR ?hdR ?poR ?saR ?mkR ?kcR ?nR_faces ?nR_first ?nR_last ?nR_edges ?a_CB ?a_iB ?i_iB ?l_iB ?c_iB ?k_iB ?pgB ?hdB ?poB ?saB ?mkB ?kcB ?nB_lengths ?nB_spider ?nB_fly ?a_pof ?i_pof ?l_pof ?c_pof ?k_pof ?a_lon ?i_lon ?l_lon ?c_lon ?k_lon ?a_squ ?i_squ ?l_squ ?c_squ ?k_squ ?a_b1 ?i_b1 ?l_b1 ?c_b1 ?k_b1 ?a_b2 ?i_b2 ?l_b2 ?c_b2 ?k_b2 ?a_b3 ?i_b3 ?l_b3 ?c_b3 ?k_b3 ?a_b4 ?i_b4 ?l_b4 ?c_b4 ?k_b4 ?a_b5 ?i_b5 ?l_b5 ?c_b5 ?k_b5 ?a_b6 ?i_b6 ?l_b6 ?c_b6 ?k_b6 ?a_b7 ?i_b7 ?l_b7 ?c_b7 ?k_b7 ?a_b8 ?i_b8 ?l_b8 ?c_b8 ?k_b8 ?a_b9 ?i_b9 ?l_b9 ?c_b9 ?k_b9 ?a_b10 ?i_b10 ?l_b10 ?c_b10 ?k_b10 ?a_b11 ?i_b11 ?l_b11 ?c_b11 ?k_b11 ?a_b12 ?i_b12 ?l_b12 ?c_b12 ?k_b12 ?a_b13 ?i_b13 ?l_b13 ?c_b13 ?k_b13 ?a_CF ?xL ?saF ?gaF ?ggF ?nRF ?a_iF ?t_iF ?l_iF ?c_iF ?k_iF ?kCF ?eCF ?tCF ?hCF ?iCF ?sCF ?vVF ?g_AXES ?g_FACES ?g_LONGEST ?g_BAD ?g_NOT_JOINED ?g_NOT_STRAIGHT ?g_TOO_LARGE ?g_MOST_FOR_ALL ?g_OVER ?g_STAY ?l_STAY ?g_RIGHT ?l_RIGHT ?g_UP ?l_UP ?g_NUMBERS ?l_NUMBERS ?m_all ?m_zip ?m_range ?m_len ?m_set ?m_int ?m_list ?m_tuple ?m_min ?m_max ?m_abs ?m_enumerate ?m_sum ?m_ValueError
    (case a_axis => k_is); (case l_axis => k_is); (case c_axis => k_is); (case k_axis => k_is); (case a_far => k_is)
    (case l_far => k_is); (case c_far => k_is); (case k_far => k_is); (case a_bes => k_is); (case l_bes => k_is)
    (case c_bes => k_is); (case k_bes => k_is); (case a_third => k_is); (case l_third => k_is); (case c_third => k_is)
    (case k_third => k_is); (case a_lens => k_is); (case l_lens => k_is); (case c_lens => k_is); (case k_lens => k_is)
    (case a_ison => k_is); (case l_ison => k_is); (case c_ison => k_is); (case k_ison => k_is); (case a_fof => k_is)
    (case l_fof => k_is); (case c_fof => k_is); (case k_fof => k_is); (case a_iob => k_is); (case l_iob => k_is)
    (case c_iob => k_is); (case k_iob => k_is); (case a_pts => k_is); (case l_pts => k_is); (case c_pts => k_is)
    (case k_pts => k_is); (case a_arow => k_is); (case l_arow => k_is); (case c_arow => k_is); (case k_arow => k_is)
    (case a_mov => k_is); (case l_mov => k_is); (case c_mov => k_is); (case k_mov => k_is); (case a_tur => k_is)
    (case l_tur => k_is); (case c_tur => k_is); (case k_tur => k_is); (case a_sqb => k_is); (case l_sqb => k_is)
    (case c_sqb => k_is); (case k_sqb => k_is); (case a_fst => k_is); (case l_fst => k_is); (case c_fst => k_is)
    (case k_fst => k_is); (case a_edg => k_is); (case l_edg => k_is); (case c_edg => k_is); (case k_edg => k_is)
    (case a_nxt => k_is); (case l_nxt => k_is); (case c_nxt => k_is); (case k_nxt => k_is); (case a_swa => k_is)
    (case l_swa => k_is); (case c_swa => k_is); (case k_swa => k_is); (case a_upr => k_is); (case l_upr => k_is)
    (case c_upr => k_is); (case k_upr => k_is); (case a_cro => k_is); (case l_cro => k_is); (case c_cro => k_is)
    (case k_cro => k_is); (case a_rof => k_is); (case l_rof => k_is); (case c_rof => k_is); (case k_rof => k_is)
    (case a_beh => k_is); (case l_beh => k_is); (case c_beh => k_is); (case k_beh => k_is); (case a_frm => k_is)
    (case l_frm => k_is); (case c_frm => k_is); (case k_frm => k_is); (case a_sw => k_is); (case l_sw => k_is)
    (case c_sw => k_is); (case k_sw => k_is); (case a_sho => k_is); (case l_sho => k_is); (case c_sho => k_is)
    (case k_sho => k_is); (case a_asq => k_is); (case l_asq => k_is); (case c_asq => k_is); (case k_asq => k_is)
    (case a_wan => k_is); (case l_wan => k_is); (case c_wan => k_is); (case k_wan => k_is); (case a_lst => k_is)
    (case l_lst => k_is); (case c_lst => k_is); (case k_lst => k_is); (case a_ans => k_is); (case l_ans => k_is)
    (case c_ans => k_is); (case k_ans => k_is); (case a_CL => k_is); (case a_iL => k_is); (case i_iL => k_is)
    (case l_iL => k_is); (case c_iL => k_is); (case k_iL => k_is); (case pgL => k_is); (case hdL => k_is)
    (case poL => k_is); (case saL => k_is); (case mkL => k_is); (case kcL => k_is); (case nL_origin => k_is)
    (case nL_steps => k_is); (case a_CR => k_is); (case a_iR => k_is); (case i_iR => k_is); (case l_iR => k_is)
    (case c_iR => k_is); (case k_iR => k_is); (case pgR => k_is); (case hdR => k_is); (case poR => k_is)
    (case saR => k_is); (case mkR => k_is); (case kcR => k_is); (case nR_faces => k_is); (case nR_first => k_is)
    (case nR_last => k_is); (case nR_edges => k_is); (case a_CB => k_is); (case a_iB => k_is); (case i_iB => k_is)
    (case l_iB => k_is); (case c_iB => k_is); (case k_iB => k_is); (case pgB => k_is); (case hdB => k_is)
    (case poB => k_is); (case saB => k_is); (case mkB => k_is); (case kcB => k_is); (case nB_lengths => k_is)
    (case nB_spider => k_is); (case nB_fly => k_is); (case a_pof => k_is); (case i_pof => k_is); (case l_pof => k_is)
    (case c_pof => k_is); (case k_pof => k_is); (case a_lon => k_is); (case i_lon => k_is); (case l_lon => k_is)
    (case c_lon => k_is); (case k_lon => k_is); (case a_squ => k_is); (case i_squ => k_is); (case l_squ => k_is)
    (case c_squ => k_is); (case k_squ => k_is); (case a_b1 => k_is); (case i_b1 => k_is); (case l_b1 => k_is)
    (case c_b1 => k_is); (case k_b1 => k_is); (case a_b2 => k_is); (case i_b2 => k_is); (case l_b2 => k_is)
    (case c_b2 => k_is); (case k_b2 => k_is); (case a_b3 => k_is); (case i_b3 => k_is); (case l_b3 => k_is)
    (case c_b3 => k_is); (case k_b3 => k_is); (case a_b4 => k_is); (case i_b4 => k_is); (case l_b4 => k_is)
    (case c_b4 => k_is); (case k_b4 => k_is); (case a_b5 => k_is); (case i_b5 => k_is); (case l_b5 => k_is)
    (case c_b5 => k_is); (case k_b5 => k_is); (case a_b6 => k_is); (case i_b6 => k_is); (case l_b6 => k_is)
    (case c_b6 => k_is); (case k_b6 => k_is); (case a_b7 => k_is); (case i_b7 => k_is); (case l_b7 => k_is)
    (case c_b7 => k_is); (case k_b7 => k_is); (case a_b8 => k_is); (case i_b8 => k_is); (case l_b8 => k_is)
    (case c_b8 => k_is); (case k_b8 => k_is); (case a_b9 => k_is); (case i_b9 => k_is); (case l_b9 => k_is)
    (case c_b9 => k_is); (case k_b9 => k_is); (case a_b10 => k_is); (case i_b10 => k_is); (case l_b10 => k_is)
    (case c_b10 => k_is); (case k_b10 => k_is); (case a_b11 => k_is); (case i_b11 => k_is); (case l_b11 => k_is)
    (case c_b11 => k_is); (case k_b11 => k_is); (case a_b12 => k_is); (case i_b12 => k_is); (case l_b12 => k_is)
    (case c_b12 => k_is); (case k_b12 => k_is); (case a_b13 => k_is); (case i_b13 => k_is); (case l_b13 => k_is)
    (case c_b13 => k_is); (case k_b13 => k_is); (case a_CF => k_is); (case xL => k_is); (case saF => k_is)
    (case gaF => k_is); (case ggF => k_is); (case nRF => k_is); (case a_iF => k_is); (case t_iF => k_is)
    (case l_iF => k_is); (case c_iF => k_is); (case k_iF => k_is); (case kCF => k_is); (case eCF => k_is)
    (case tCF => k_is); (case hCF => k_is); (case iCF => k_is); (case sCF => first | rfl | k_is); (case vVF => k_is)
    (case g_AXES => k_is); (case g_FACES => k_is); (case g_LONGEST => k_is); (case g_BAD => k_is); (case g_NOT_JOINED => k_is)
    (case g_NOT_STRAIGHT => k_is); (case g_TOO_LARGE => k_is); (case g_MOST_FOR_ALL => k_is); (case g_OVER => k_is); (case g_STAY => k_is)
    (case l_STAY => k_is); (case g_RIGHT => k_is); (case l_RIGHT => k_is); (case g_UP => k_is); (case l_UP => k_is)
    (case g_NUMBERS => k_is); (case l_NUMBERS => k_is); (case m_all => k_is); (case m_zip => k_is); (case m_range => k_is)
    (case m_len => k_is); (case m_set => k_is); (case m_int => k_is); (case m_list => k_is); (case m_tuple => k_is)
    (case m_min => k_is); (case m_max => k_is); (case m_abs => k_is); (case m_enumerate => k_is); (case m_sum => k_is)
    (case m_ValueError => k_is)
  case S =>
    intro K H xs a hO hwi hask hx
    cases hx with
    | cons h1 h2 =>
      cases h2
      cases h1 with
      | lst hs ha =>
        have e := L2.ints_dw a.1 _ ha
        subst e
        exact ⟨_, a.1, rfl, hs, hask, fun H' p hp => .lst (L2.SqL.of hp) (L2.dw_ints _)⟩
#print axioms PySem.Challenge.cw_spiderfly_s01_answers_holds
