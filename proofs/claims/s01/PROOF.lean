import PyProof.Rows.All
import Wide.All
import OpenK.AllK
import Wide.FinOn
import Open.SpecLaws
import KE.OsGo
import KE.KDictKeyed
import HandS.ForMost
import HandS.ForSpec
import HandS.Spec
import HandS.Conv
import HandS.TupAny
import HandS.Zip
import HandS.Evl
import PySem.Challenge.RW_sproutlines_s01_answers
set_option Elab.async false
set_option linter.all false
set_option maxRecDepth 100000
set_option maxHeartbeats 4000000
/-! ### text SgA -/
namespace Sg
open Uw61

/-! ## numbers -/
theorem sum_foldl : ∀ (l : List Nat) (a : Nat), l.foldl (fun a b => a + b) a = a + l.sum
  | [], a => by simp
  | x :: r, a => by rw [List.foldl_cons, sum_foldl r, List.sum_cons]; omega
theorem sum_eq (l : List Nat) : Uw61.sum l = l.sum := by
  unfold Uw61.sum; rw [sum_foldl]; omega

def mayEnd (d : Drawing) (x y : Nat) : Bool :=
  if x = y then decide (2 ≤ lives d x) else decide (1 ≤ lives d x) && decide (1 ≤ lives d y)
theorem canBe_eq (d : Drawing) (x : Line) : canBe d x = mayEnd d (endsOf d x).1 (endsOf d x).2 := rfl
theorem mayEnd_symm (d : Drawing) (x y : Nat) : mayEnd d x y = mayEnd d y x := by
  unfold mayEnd
  by_cases h : x = y
  · subst h; rfl
  · rw [if_neg h, if_neg (fun e => h e.symm), Bool.and_comm]
theorem mayEnd_left {d : Drawing} {x y : Nat} (h : mayEnd d x y = true) : 1 ≤ lives d x := by
  unfold mayEnd at h
  by_cases e : x = y
  · rw [if_pos e] at h; have := of_decide_eq_true h; omega
  · rw [if_neg e, Bool.and_eq_true] at h; exact of_decide_eq_true h.1
theorem mayEnd_right {d : Drawing} {x y : Nat} (h : mayEnd d x y = true) : 1 ≤ lives d y :=
  mayEnd_left (mayEnd_symm d x y ▸ h)
theorem mayEnd_two {d : Drawing} {x : Nat} (h : mayEnd d x x = true) : 2 ≤ lives d x := by
  unfold mayEnd at h; rw [if_pos rfl] at h; exact of_decide_eq_true h

theorem more_eq (l : List Nat) (x : Nat) : more l x = l.modify x (· + 1) := by
  apply List.ext_getElem?
  intro k
  unfold more
  rw [List.getElem?_map, List.getElem?_zipIdx, List.getElem?_modify]
  cases l[k]? with
  | none => rfl
  | some a =>
    simp only [Option.map_some, Nat.zero_add]
    by_cases h : k = x
    · subst h; simp
    · have h' : ¬ x = k := fun e => h e.symm
      simp [h, h']
theorem more_length (l : List Nat) (x : Nat) : (more l x).length = l.length := by rw [more_eq, List.length_modify]
theorem more_get (l : List Nat) (x k : Nat) : (more l x).getD k 3 = if k = x ∧ k < l.length then l.getD k 3 + 1 else l.getD k 3 := by
  rw [more_eq, List.getD_eq_getElem?_getD, List.getElem?_modify, List.getD_eq_getElem?_getD]
  by_cases h : k < l.length
  · rw [List.getElem?_eq_getElem h]
    by_cases e : k = x
    · subst e; simp [h]
    · have e' : ¬ x = k := fun q => e q.symm
      simp [e, e']
  · rw [List.getElem?_eq_none (by omega)]
    simp [h]
theorem more_sum : ∀ (l : List Nat) (x : Nat), x < l.length → l.getD x 3 ≤ 2 → ((more l x).map (3 - ·)).sum + 1 = (l.map (3 - ·)).sum
  | [], x, h, _ => by simp at h
  | a :: r, 0, _, h2 => by
    rw [more_eq]
    simp only [List.modify_zero_cons, List.map_cons, List.sum_cons]
    have : a ≤ 2 := by simpa using h2
    omega
  | a :: r, x + 1, h, h2 => by
    have ih := more_sum r x (by simpa using h) (by simpa using h2)
    rw [more_eq] at ih ⊢
    simp only [List.modify_succ_cons, List.map_cons, List.sum_cons]
    omega

theorem lives_ge {d : Drawing} {x : Nat} (h : 1 ≤ lives d x) : x < d.ends.length := by
  unfold lives at h
  rw [List.getD_eq_getElem?_getD] at h
  by_cases c : x < d.ends.length
  · exact c
  · rw [List.getElem?_eq_none (by omega)] at h; simp at h

theorem allLives_eq (d : Drawing) : allLives d = (d.ends.map (3 - ·)).sum := by
  unfold allLives
  rw [sum_eq]
  congr 1
  apply List.ext_getElem?
  intro k
  rw [List.getElem?_map, List.getElem?_map]
  by_cases c : k < d.ends.length
  · rw [List.getElem?_range c, List.getElem?_eq_getElem c]
    simp [lives, List.getD_eq_getElem?_getD, c]
  · rw [List.getElem?_eq_none (by simpa using Nat.le_of_not_lt c), List.getElem?_eq_none (by omega)]
    rfl

/-- the ends behind a line from x to y -/
def ends2 (d : Drawing) (x y : Nat) : List Nat := more (more d.ends x) y ++ [2]
theorem ends2_length (d : Drawing) (x y : Nat) : (ends2 d x y).length = d.ends.length + 1 := by
  unfold ends2; rw [List.length_append, more_length, more_length]; rfl
theorem lives_old {d : Drawing} {x y : Nat} {rs : List (List (List Nat))} {k : Nat} (h : k < d.ends.length) :
    lives ⟨ends2 d x y, rs⟩ k = lives d k - (if k = x then 1 else 0) - (if k = y then 1 else 0) := by
  unfold lives ends2
  have h2 : k < (more (more d.ends x) y).length := by rw [more_length, more_length]; exact h
  have e : (more (more d.ends x) y ++ [2]).getD k 3 = (more (more d.ends x) y).getD k 3 := by
    rw [List.getD_eq_getElem?_getD, List.getD_eq_getElem?_getD, List.getElem?_append_left h2]
  show 3 - (more (more d.ends x) y ++ [2]).getD k 3 = _
  rw [e, more_get, more_get, more_length]
  by_cases a : k = x <;> by_cases b : k = y <;> simp only [a, b, h, and_true, true_and, if_true, if_false, false_and] <;> simp_all <;> omega
theorem lives_new {d : Drawing} {x y : Nat} {rs : List (List (List Nat))} : lives ⟨ends2 d x y, rs⟩ d.ends.length = 1 := by
  unfold lives ends2
  show 3 - (more (more d.ends x) y ++ [2]).getD d.ends.length 3 = 1
  rw [List.getD_eq_getElem?_getD, List.getElem?_append_right (by rw [more_length, more_length]; exact Nat.le_refl _), more_length, more_length]
  simp
theorem lives_beyond {d : Drawing} {k : Nat} (h : d.ends.length ≤ k) : lives d k = 0 := by
  cases c : lives d k with
  | zero => rfl
  | succ n => have := lives_ge (d := d) (x := k) (by omega); omega
theorem lives_getD {d : Drawing} {x : Nat} (h : 1 ≤ lives d x) : d.ends.getD x 3 ≤ 2 := by
  unfold lives at h; omega
theorem allLives_ends2 {d : Drawing} {x y : Nat} {rs : List (List (List Nat))} (h : mayEnd d x y = true) : allLives ⟨ends2 d x y, rs⟩ + 1 = allLives d := by
  rw [allLives_eq, allLives_eq]
  have hx := mayEnd_left h
  have hy := mayEnd_right h
  have lx := lives_ge hx
  have ly := lives_ge hy
  have s1 := more_sum d.ends x lx (lives_getD hx)
  have gy : (more d.ends x).getD y 3 ≤ 2 := by
    rw [more_get]
    by_cases e : y = x
    · subst e
      have := mayEnd_two h
      unfold lives at this
      rw [if_pos ⟨rfl, ly⟩]; omega
    · rw [if_neg (fun q => e q.1)]; exact lives_getD hy
  have s2 := more_sum (more d.ends x) y (by rw [more_length]; exact ly) gy
  show ((more (more d.ends x) y ++ [2]).map (3 - ·)).sum + 1 = _
  rw [List.map_append, List.sum_append]
  simp only [List.map_cons, List.map_nil, List.sum_cons, List.sum_nil]
  omega
end Sg

/-! ### text SgB -/
namespace Sg
open Uw61

/-! ## things picked by their numbers -/
section
variable {α : Type}
def pickN (p : Nat → Bool) (n : Nat) (l : List α) : List α := ((l.zipIdx n).filter fun x => p x.2).map fun x => x.1
theorem pickN_nil (p : Nat → Bool) (n : Nat) : pickN p n ([] : List α) = [] := rfl
theorem pickN_cons (p : Nat → Bool) (n : Nat) (a : α) (l : List α) : pickN p n (a :: l) = if p n = true then a :: pickN p (n + 1) l else pickN p (n + 1) l := by
  unfold pickN
  rw [List.zipIdx_cons, List.filter_cons]
  by_cases h : p n = true
  · simp [h]
  · simp [h]
theorem pickN_append (p : Nat → Bool) : ∀ (l m : List α) (n : Nat), pickN p n (l ++ m) = pickN p n l ++ pickN p (n + l.length) m
  | [], m, n => by simp [pickN_nil]
  | a :: l, m, n => by
    rw [List.cons_append, pickN_cons, pickN_cons, pickN_append p l m (n + 1)]
    have e : n + 1 + l.length = n + (a :: l).length := by simp; omega
    rw [e]
    split <;> rfl
theorem pickN_congr {p q : Nat → Bool} : ∀ (l : List α) (n : Nat), (∀ k, n ≤ k → k < n + l.length → p k = q k) → pickN p n l = pickN q n l
  | [], n, _ => rfl
  | a :: l, n, h => by
    rw [pickN_cons, pickN_cons, h n (Nat.le_refl _) (by simp), pickN_congr l (n + 1) fun k h1 h2 => h k (by omega) (by simp; omega)]
theorem pickN_all {p : Nat → Bool} : ∀ (l : List α) (n : Nat), (∀ k, n ≤ k → k < n + l.length → p k = true) → pickN p n l = l
  | [], n, _ => rfl
  | a :: l, n, h => by
    rw [pickN_cons, if_pos (h n (Nat.le_refl _) (by simp)), pickN_all l (n + 1) fun k h1 h2 => h k (by omega) (by simp; omega)]
theorem pickN_none {p : Nat → Bool} : ∀ (l : List α) (n : Nat), (∀ k, n ≤ k → k < n + l.length → p k = false) → pickN p n l = []
  | [], n, _ => rfl
  | a :: l, n, h => by
    rw [pickN_cons, h n (Nat.le_refl _) (by simp), pickN_none l (n + 1) fun k h1 h2 => h k (by omega) (by simp; omega)]
    rfl

inductive Shuf : List α → List α → List α → Prop
  | nil : Shuf [] [] []
  | left {x : α} {l c o : List α} : Shuf l c o → Shuf (x :: l) (x :: c) o
  | right {x : α} {l c o : List α} : Shuf l c o → Shuf (x :: l) c (x :: o)
theorem shuf_pick (p : Nat → Bool) : ∀ (l : List α) (n : Nat), Shuf l (pickN p n l) (pickN (fun k => !p k) n l)
  | [], n => .nil
  | a :: l, n => by
    rw [pickN_cons, pickN_cons]
    have ih := shuf_pick p l (n + 1)
    cases p n with
    | true => exact .left ih
    | false => exact .right ih
theorem pick_shuf {l c o : List α} (h : Shuf l c o) : ∀ n, ∃ p : Nat → Bool, pickN p n l = c ∧ pickN (fun k => !p k) n l = o := by
  induction h with
  | nil => exact fun n => ⟨fun _ => true, rfl, rfl⟩
  | @left x l c o _ ih =>
    intro n
    obtain ⟨p, h1, h2⟩ := ih (n + 1)
    refine ⟨fun k => if k = n then true else p k, ?_, ?_⟩
    · rw [pickN_cons, if_pos (by simp), ← h1]
      congr 1
      exact pickN_congr l (n + 1) fun k q _ => by simp; omega
    · rw [pickN_cons, if_neg (by simp), ← h2]
      exact pickN_congr l (n + 1) fun k q _ => by
        have : ¬ k = n := by omega
        simp [this]
  | @right x l c o _ ih =>
    intro n
    obtain ⟨p, h1, h2⟩ := ih (n + 1)
    refine ⟨fun k => if k = n then false else p k, ?_, ?_⟩
    · rw [pickN_cons, if_neg (by simp), ← h1]
      exact pickN_congr l (n + 1) fun k q _ => by
        have : ¬ k = n := by omega
        simp [this]
    · rw [pickN_cons, if_pos (by simp), ← h2]
      congr 1
      exact pickN_congr l (n + 1) fun k q _ => by
        have : ¬ k = n := by omega
        simp [this]
theorem split_at {l : List α} {i : Nat} (h : i < l.length) : l = l.take i ++ l[i] :: l.drop (i + 1) := by
  rw [List.getElem_cons_drop, List.take_append_drop]
theorem getD_mid (A : List α) (x : α) (B : List α) (z : α) : (A ++ x :: B).getD A.length z = x := by
  rw [List.getD_eq_getElem?_getD, List.getElem?_append_right (Nat.le_refl _)]; simp
theorem set_mid (A : List α) (x y : α) (B : List α) : (A ++ x :: B).set A.length y = A ++ y :: B := by
  rw [List.set_append_right _ _ (Nat.le_refl _)]; simp
end
theorem others_eq (l : List (List Nat)) (g : List Nat) : others l g = pickN (fun k => !g.contains k) 0 l := rfl
theorem chosen_eq (l : List (List Nat)) (g : List Nat) : chosen l g = pickN (fun k => g.contains k) 0 l := rfl

/-! ## choices are the sublists -/
theorem mem_choices : ∀ {s k : List Nat}, k ∈ choices s ↔ k.Sublist s
  | [], k => by simp [choices]
  | x :: r, k => by
    rw [choices, List.mem_flatMap]
    constructor
    · rintro ⟨s, hs, hk⟩
      have ih := mem_choices.mp hs
      simp only [List.mem_cons, List.not_mem_nil, or_false] at hk
      rcases hk with rfl | rfl
      · exact ih.cons x
      · exact ih.cons_cons x
    · intro h
      cases h with
      | cons _ h => exact ⟨k, mem_choices.mpr h, by simp⟩
      | cons_cons _ h => exact ⟨_, mem_choices.mpr h, by simp⟩

/-! ## the lines, one by one -/
theorem mem_places {d : Drawing} {r : Nat} {p : Nat × Nat} : p ∈ places d r ↔ p.1 < (regionAt d r).length ∧ p.2 < (borderAt d r p.1).length := by
  obtain ⟨a, i⟩ := p
  unfold places
  simp only [List.mem_flatMap, List.mem_range, List.mem_map, Prod.mk.injEq]
  constructor
  · rintro ⟨a', h1, i', h2, rfl, rfl⟩; exact ⟨h1, h2⟩
  · rintro ⟨h1, h2⟩; exact ⟨a, h1, i, h2, rfl, rfl⟩
theorem mem_joinsIn {d : Drawing} {r : Nat} {x : Line} : x ∈ joinsIn d r ↔ ∃ a i b j, x = .join r a i b j ∧ a < (regionAt d r).length ∧ i < (borderAt d r a).length ∧ b < (regionAt d r).length ∧ j < (borderAt d r b).length ∧ a < b ∧ canBe d x = true := by
  unfold joinsIn
  simp only [List.mem_filter, List.mem_flatMap, List.mem_map]
  constructor
  · rintro ⟨⟨p, hp, q, ⟨hq, hlt⟩, rfl⟩, hc⟩
    have h1 := mem_places.mp hp
    have h2 := mem_places.mp hq
    exact ⟨_, _, _, _, rfl, h1.1, h1.2, h2.1, h2.2, of_decide_eq_true hlt, hc⟩
  · rintro ⟨a, i, b, j, rfl, h1, h2, h3, h4, h5, hc⟩
    exact ⟨⟨(a, i), mem_places.mpr ⟨h1, h2⟩, (b, j), ⟨mem_places.mpr ⟨h3, h4⟩, decide_eq_true h5⟩, rfl⟩, hc⟩
theorem mem_partsIn {d : Drawing} {r : Nat} {x : Line} : x ∈ partsIn d r ↔ ∃ a i j k, x = .part r a i j k ∧ a < (regionAt d r).length ∧ i < (borderAt d r a).length ∧ j < (borderAt d r a).length ∧ i ≤ j ∧ canBe d x = true ∧
    k.Sublist ((List.range (regionAt d r).length).filter fun b => b != a) := by
  unfold partsIn
  simp only [List.mem_filter, List.mem_flatMap, List.mem_map, List.mem_range, Bool.and_eq_true]
  constructor
  · rintro ⟨p, hp, j, ⟨hj, hij, hc⟩, k, hk, rfl⟩
    have h1 := mem_places.mp hp
    exact ⟨_, _, _, _, rfl, h1.1, h1.2, hj, of_decide_eq_true hij, hc, mem_choices.mp hk⟩
  · rintro ⟨a, i, j, k, rfl, h1, h2, h3, h4, hc, hk⟩
    exact ⟨(a, i), mem_places.mpr ⟨h1, h2⟩, j, ⟨h3, decide_eq_true h4, hc⟩, k, mem_choices.mpr hk, rfl⟩
theorem mem_lines {d : Drawing} {x : Line} : x ∈ lines d ↔ ∃ r, r < d.regions.length ∧ (x ∈ joinsIn d r ∨ x ∈ partsIn d r) := by
  unfold lines
  simp only [List.mem_flatMap, List.mem_range, List.mem_append]

/-! ## a line drawn, by splitting the lists -/
def ar (A : List Nat) (x : Nat) (B : List Nat) : List Nat := if A.length + B.length = 0 then [x] else x :: (B ++ A ++ [x])
theorem around_mid (A : List Nat) (x : Nat) (B : List Nat) : around (A ++ x :: B) A.length = ar A x B := by
  unfold around ar
  by_cases h : A.length + B.length = 0
  · have hA : A = [] := List.length_eq_zero_iff.mp (by omega)
    have hB : B = [] := List.length_eq_zero_iff.mp (by omega)
    subst hA hB; rfl
  · rw [if_neg (by simp; omega), if_neg h]
    rw [List.drop_append_of_le_length (Nat.le_refl _), List.drop_length, List.take_append, List.take_of_length_le (by omega)]
    have e : A.length + 1 - A.length = 1 := by omega
    rw [e]; simp

inductive Step (d : Drawing) : Drawing → Prop
  | join {G1 G2 : List (List (List Nat))} {L1 L2 L3 : List (List Nat)} {A1 A2 B1 B2 : List Nat} {x y : Nat}
      (hr : d.regions = G1 ++ (L1 ++ (A1 ++ x :: A2) :: (L2 ++ (B1 ++ y :: B2) :: L3)) :: G2) (hm : mayEnd d x y = true) :
      Step d ⟨ends2 d x y, G1 ++ (L1 ++ (L2 ++ L3) ++ [ar A1 x A2 ++ d.ends.length :: (ar B1 y B2 ++ [d.ends.length])]) :: G2⟩
  | self {G1 G2 : List (List (List Nat))} {L1 L2 C1 O1 C2 O2 : List (List Nat)} {A1 A2 : List Nat} {x : Nat}
      (hr : d.regions = G1 ++ (L1 ++ (A1 ++ x :: A2) :: L2) :: G2) (s1 : Shuf L1 C1 O1) (s2 : Shuf L2 C2 O2) (hm : mayEnd d x x = true) :
      Step d ⟨ends2 d x x, (G1 ++ (C1 ++ C2 ++ [[x] ++ [d.ends.length]]) :: G2) ++ [O1 ++ O2 ++ [ar A1 x A2 ++ [d.ends.length]]]⟩
  | part {G1 G2 : List (List (List Nat))} {L1 L2 C1 O1 C2 O2 : List (List Nat)} {A1 A2 A3 : List Nat} {x y : Nat}
      (hr : d.regions = G1 ++ (L1 ++ (A1 ++ x :: (A2 ++ y :: A3)) :: L2) :: G2) (s1 : Shuf L1 C1 O1) (s2 : Shuf L2 C2 O2) (hm : mayEnd d x y = true) :
      Step d ⟨ends2 d x y, (G1 ++ (C1 ++ C2 ++ [(x :: (A2 ++ [y])) ++ [d.ends.length]]) :: G2) ++ [O1 ++ O2 ++ [(y :: A3 ++ (A1 ++ [x])) ++ [d.ends.length]]]⟩

theorem regionAt_mid {d : Drawing} {G1 G2 : List (List (List Nat))} {bs : List (List Nat)} (h : d.regions = G1 ++ bs :: G2) : regionAt d G1.length = bs := by
  unfold regionAt; rw [h, getD_mid]
theorem borderAt_mid {d : Drawing} {G1 G2 : List (List (List Nat))} {L1 L2 : List (List Nat)} {l : List Nat} (h : d.regions = G1 ++ (L1 ++ l :: L2) :: G2) : borderAt d G1.length L1.length = l := by
  unfold borderAt; rw [regionAt_mid h, getD_mid]
theorem spotAt_mid {d : Drawing} {G1 G2 : List (List (List Nat))} {L1 L2 : List (List Nat)} {A B : List Nat} {x : Nat} (h : d.regions = G1 ++ (L1 ++ (A ++ x :: B) :: L2) :: G2) : spotAt d G1.length L1.length A.length = x := by
  unfold spotAt; rw [borderAt_mid h, getD_mid]

theorem drawn_join {d : Drawing} {G1 G2 : List (List (List Nat))} {L1 L2 L3 : List (List Nat)} {A1 A2 B1 B2 : List Nat} {x y : Nat}
    (hr : d.regions = G1 ++ (L1 ++ (A1 ++ x :: A2) :: (L2 ++ (B1 ++ y :: B2) :: L3)) :: G2) :
    drawn d (.join G1.length L1.length A1.length (L1.length + 1 + L2.length) B1.length) = ⟨ends2 d x y, G1 ++ (L1 ++ (L2 ++ L3) ++ [ar A1 x A2 ++ d.ends.length :: (ar B1 y B2 ++ [d.ends.length])]) :: G2⟩ ∧
    endsOf d (.join G1.length L1.length A1.length (L1.length + 1 + L2.length) B1.length) = (x, y) := by
  have hr2 : d.regions = G1 ++ ((L1 ++ (A1 ++ x :: A2) :: L2) ++ (B1 ++ y :: B2) :: L3) :: G2 := by rw [hr]; simp
  have hl : (L1 ++ (A1 ++ x :: A2) :: L2).length = L1.length + 1 + L2.length := by simp; omega
  have b1 := borderAt_mid hr
  have b2 := borderAt_mid hr2
  have s1 := spotAt_mid hr
  have s2 := spotAt_mid hr2
  rw [hl] at b2 s2
  have e : endsOf d (.join G1.length L1.length A1.length (L1.length + 1 + L2.length) B1.length) = (x, y) := by
    show (spotAt d _ _ _, spotAt d _ _ _) = _
    rw [s1, s2]
  refine ⟨?_, e⟩
  unfold drawn made
  simp only [e, Line.region, b1, b2, around_mid, regionAt_mid hr, List.append_nil]
  have o : others (L1 ++ (A1 ++ x :: A2) :: (L2 ++ (B1 ++ y :: B2) :: L3)) [L1.length, L1.length + 1 + L2.length] = L1 ++ (L2 ++ L3) := by
    rw [others_eq, pickN_append, pickN_cons, pickN_append, pickN_cons]
    rw [pickN_all L1 0 (fun k _ h => by simp; omega), pickN_all L2 _ (fun k h1 h2 => by simp; omega), pickN_all L3 _ (fun k h1 h2 => by simp; omega)]
    rw [if_neg (by simp), if_neg (by simp)]
  rw [o, hr, set_mid]
  rfl

theorem drawn_self {d : Drawing} {G1 G2 : List (List (List Nat))} {L1 L2 : List (List Nat)} {A1 A2 : List Nat} {x : Nat} {K : List Nat}
    (hr : d.regions = G1 ++ (L1 ++ (A1 ++ x :: A2) :: L2) :: G2) (hK : ¬ L1.length ∈ K) :
    drawn d (.part G1.length L1.length A1.length A1.length K) = ⟨ends2 d x x, (G1 ++ (pickN (fun k => K.contains k) 0 L1 ++ pickN (fun k => K.contains k) (L1.length + 1) L2 ++ [[x] ++ [d.ends.length]]) :: G2) ++
      [pickN (fun k => !K.contains k) 0 L1 ++ pickN (fun k => !K.contains k) (L1.length + 1) L2 ++ [ar A1 x A2 ++ [d.ends.length]]]⟩ ∧
    endsOf d (.part G1.length L1.length A1.length A1.length K) = (x, x) := by
  have b1 := borderAt_mid hr
  have s1 := spotAt_mid hr
  have e : endsOf d (.part G1.length L1.length A1.length A1.length K) = (x, x) := by
    show (spotAt d _ _ _, spotAt d _ _ _) = _
    rw [s1]
  refine ⟨?_, e⟩
  unfold drawn made
  simp only [e, Line.region, b1, s1, around_mid, regionAt_mid hr, if_true]
  have hc : K.contains L1.length = false := by simpa using hK
  have o1 : chosen (L1 ++ (A1 ++ x :: A2) :: L2) K = pickN (fun k => K.contains k) 0 L1 ++ pickN (fun k => K.contains k) (L1.length + 1) L2 := by
    rw [chosen_eq, pickN_append, pickN_cons, Nat.zero_add, if_neg (by rw [hc]; simp)]
  have o2 : others (L1 ++ (A1 ++ x :: A2) :: L2) (L1.length :: K) = pickN (fun k => !K.contains k) 0 L1 ++ pickN (fun k => !K.contains k) (L1.length + 1) L2 := by
    rw [others_eq, pickN_append, pickN_cons, Nat.zero_add, if_neg (by simp)]
    congr 1
    · exact pickN_congr L1 0 fun k _ h => by
        have : ¬ k = L1.length := by omega
        simp [this]
    · exact pickN_congr L2 _ fun k h _ => by
        have : ¬ k = L1.length := by omega
        simp [this]
  rw [o1, o2, hr, set_mid]
  rfl

theorem drawn_part {d : Drawing} {G1 G2 : List (List (List Nat))} {L1 L2 : List (List Nat)} {A1 A2 A3 : List Nat} {x y : Nat} {K : List Nat}
    (hr : d.regions = G1 ++ (L1 ++ (A1 ++ x :: (A2 ++ y :: A3)) :: L2) :: G2) (hK : ¬ L1.length ∈ K) :
    drawn d (.part G1.length L1.length A1.length (A1.length + 1 + A2.length) K) = ⟨ends2 d x y, (G1 ++ (pickN (fun k => K.contains k) 0 L1 ++ pickN (fun k => K.contains k) (L1.length + 1) L2 ++ [(x :: (A2 ++ [y])) ++ [d.ends.length]]) :: G2) ++
      [pickN (fun k => !K.contains k) 0 L1 ++ pickN (fun k => !K.contains k) (L1.length + 1) L2 ++ [(y :: A3 ++ (A1 ++ [x])) ++ [d.ends.length]]]⟩ ∧
    endsOf d (.part G1.length L1.length A1.length (A1.length + 1 + A2.length) K) = (x, y) := by
  have hr2 : d.regions = G1 ++ (L1 ++ ((A1 ++ x :: A2) ++ y :: A3) :: L2) :: G2 := by rw [hr]; simp
  have hl : (A1 ++ x :: A2).length = A1.length + 1 + A2.length := by simp; omega
  have b1 := borderAt_mid hr
  have s1 := spotAt_mid hr
  have s2 := spotAt_mid hr2
  rw [hl] at s2
  have e : endsOf d (.part G1.length L1.length A1.length (A1.length + 1 + A2.length) K) = (x, y) := by
    show (spotAt d _ _ _, spotAt d _ _ _) = _
    rw [s1, s2]
  refine ⟨?_, e⟩
  unfold drawn made
  simp only [e, Line.region, b1, regionAt_mid hr]
  rw [if_neg (by omega), if_neg (by omega)]
  have hc : K.contains L1.length = false := by simpa using hK
  have o1 : chosen (L1 ++ (A1 ++ x :: (A2 ++ y :: A3)) :: L2) K = pickN (fun k => K.contains k) 0 L1 ++ pickN (fun k => K.contains k) (L1.length + 1) L2 := by
    rw [chosen_eq, pickN_append, pickN_cons, Nat.zero_add, if_neg (by rw [hc]; simp)]
  have o2 : others (L1 ++ (A1 ++ x :: (A2 ++ y :: A3)) :: L2) (L1.length :: K) = pickN (fun k => !K.contains k) 0 L1 ++ pickN (fun k => !K.contains k) (L1.length + 1) L2 := by
    rw [others_eq, pickN_append, pickN_cons, Nat.zero_add, if_neg (by simp)]
    congr 1
    · exact pickN_congr L1 0 fun k _ h => by
        have : ¬ k = L1.length := by omega
        simp [this]
    · exact pickN_congr L2 _ fun k h _ => by
        have : ¬ k = L1.length := by omega
        simp [this]
  have n1 : ((A1 ++ x :: (A2 ++ y :: A3)).drop A1.length).take (A1.length + 1 + A2.length + 1 - A1.length) = x :: (A2 ++ [y]) := by
    rw [List.drop_append_of_le_length (Nat.le_refl _), List.drop_length, List.nil_append]
    have : A1.length + 1 + A2.length + 1 - A1.length = (A2.length + 1) + 1 := by omega
    rw [this, List.take_succ_cons, List.take_append, List.take_of_length_le (by omega)]
    have : A2.length + 1 - A2.length = 1 := by omega
    rw [this]; rfl
  have n2 : (A1 ++ x :: (A2 ++ y :: A3)).drop (A1.length + 1 + A2.length) ++ (A1 ++ x :: (A2 ++ y :: A3)).take (A1.length + 1) = y :: A3 ++ (A1 ++ [x]) := by
    congr 1
    · have : A1 ++ x :: (A2 ++ y :: A3) = (A1 ++ x :: A2) ++ y :: A3 := by simp
      rw [this, ← hl, List.drop_append_of_le_length (Nat.le_refl _), List.drop_length, List.nil_append]
    · rw [List.take_append, List.take_of_length_le (by omega)]
      have : A1.length + 1 - A1.length = 1 := by omega
      rw [this]; rfl
  rw [o1, o2, n1, n2, hr, set_mid]
  rfl
end Sg

/-! ### text SgC -/
namespace Sg
open Uw61

/-- numbers chosen by a test -/
def chs (p1 p2 : Nat → Bool) (n m : Nat) : List Nat := (List.range (n + 1 + m)).filter fun k => if k < n then p1 k else if k = n then false else p2 k
theorem chs_sub (p1 p2 : Nat → Bool) (n m : Nat) : (chs p1 p2 n m).Sublist ((List.range (n + 1 + m)).filter fun b => b != n) := by
  have e : chs p1 p2 n m = ((List.range (n + 1 + m)).filter fun b => b != n).filter fun k => if k < n then p1 k else p2 k := by
    unfold chs
    rw [List.filter_filter]
    congr 1
    funext k
    by_cases h : k < n
    · have : ¬ k = n := by omega
      simp [h, this]
    · by_cases h2 : k = n
      · subst h2; simp
      · simp [h, h2]
  rw [e]; exact List.filter_sublist
theorem chs_not (p1 p2 : Nat → Bool) (n m : Nat) : ¬ n ∈ chs p1 p2 n m := by
  unfold chs; simp
theorem chs_left {p1 p2 : Nat → Bool} {n m k : Nat} (h : k < n) : (chs p1 p2 n m).contains k = p1 k := by
  rw [Bool.eq_iff_iff]
  unfold chs
  simp only [List.contains_iff_mem, List.mem_filter, List.mem_range]
  rw [if_pos h]
  constructor
  · exact fun q => q.2
  · exact fun q => ⟨by omega, q⟩
theorem chs_right {p1 p2 : Nat → Bool} {n m k : Nat} (h : n + 1 ≤ k) (h2 : k < n + 1 + m) : (chs p1 p2 n m).contains k = p2 k := by
  rw [Bool.eq_iff_iff]
  unfold chs
  simp only [List.contains_iff_mem, List.mem_filter, List.mem_range]
  rw [if_neg (by omega), if_neg (by omega)]
  constructor
  · exact fun q => q.2
  · exact fun q => ⟨h2, q⟩
theorem shuf_choice {L1 L2 C1 O1 C2 O2 : List (List Nat)} (s1 : Shuf L1 C1 O1) (s2 : Shuf L2 C2 O2) : ∃ K : List Nat, ¬ L1.length ∈ K ∧ K.Sublist ((List.range (L1.length + 1 + L2.length)).filter fun b => b != L1.length) ∧
    pickN (fun k => K.contains k) 0 L1 = C1 ∧ pickN (fun k => K.contains k) (L1.length + 1) L2 = C2 ∧ pickN (fun k => !K.contains k) 0 L1 = O1 ∧ pickN (fun k => !K.contains k) (L1.length + 1) L2 = O2 := by
  obtain ⟨p1, a1, b1⟩ := pick_shuf s1 0
  obtain ⟨p2, a2, b2⟩ := pick_shuf s2 (L1.length + 1)
  refine ⟨chs p1 p2 L1.length L2.length, chs_not _ _ _ _, chs_sub _ _ _ _, ?_, ?_, ?_, ?_⟩
  · rw [← a1]; exact pickN_congr _ _ fun k _ h => chs_left (by omega)
  · rw [← a2]; exact pickN_congr _ _ fun k h1 h => chs_right h1 (by omega)
  · rw [← b1]; exact pickN_congr _ _ fun k _ h => by rw [chs_left (by omega)]
  · rw [← b2]; exact pickN_congr _ _ fun k h1 h => by rw [chs_right h1 (by omega)]

theorem step_line {d d' : Drawing} (h : Step d d') : ∃ x, x ∈ lines d ∧ d' = drawn d x := by
  cases h with
  | @join G1 G2 L1 L2 L3 A1 A2 B1 B2 x y hr hm =>
    obtain ⟨e1, e2⟩ := drawn_join hr
    refine ⟨_, ?_, e1.symm⟩
    have hr2 : d.regions = G1 ++ ((L1 ++ (A1 ++ x :: A2) :: L2) ++ (B1 ++ y :: B2) :: L3) :: G2 := by rw [hr]; simp
    have hl : (L1 ++ (A1 ++ x :: A2) :: L2).length = L1.length + 1 + L2.length := by simp; omega
    have b1 := borderAt_mid hr
    have b2 := borderAt_mid hr2
    rw [hl] at b2
    refine mem_lines.mpr ⟨G1.length, by rw [hr]; simp, Or.inl (mem_joinsIn.mpr ⟨_, _, _, _, rfl, ?_, ?_, ?_, ?_, ?_, ?_⟩)⟩
    · rw [regionAt_mid hr]; simp
    · rw [b1]; simp
    · rw [regionAt_mid hr]; simp; omega
    · rw [b2]; simp
    · omega
    · rw [canBe_eq, e2]; exact hm
  | @self G1 G2 L1 L2 C1 O1 C2 O2 A1 A2 x hr s1 s2 hm =>
    obtain ⟨K, hK, hs, a1, a2, b1, b2⟩ := shuf_choice s1 s2
    obtain ⟨e1, e2⟩ := drawn_self hr hK
    rw [a1, a2, b1, b2] at e1
    refine ⟨_, ?_, e1.symm⟩
    refine mem_lines.mpr ⟨G1.length, by rw [hr]; simp, Or.inr (mem_partsIn.mpr ⟨_, _, _, _, rfl, ?_, ?_, ?_, ?_, ?_, ?_⟩)⟩
    · rw [regionAt_mid hr]; simp
    · rw [borderAt_mid hr]; simp
    · rw [borderAt_mid hr]; simp
    · omega
    · rw [canBe_eq, e2]; exact hm
    · rw [regionAt_mid hr]
      have : (L1 ++ (A1 ++ x :: A2) :: L2).length = L1.length + 1 + L2.length := by simp; omega
      rw [this]; exact hs
  | @part G1 G2 L1 L2 C1 O1 C2 O2 A1 A2 A3 x y hr s1 s2 hm =>
    obtain ⟨K, hK, hs, a1, a2, b1, b2⟩ := shuf_choice s1 s2
    obtain ⟨e1, e2⟩ := drawn_part hr hK
    rw [a1, a2, b1, b2] at e1
    refine ⟨_, ?_, e1.symm⟩
    refine mem_lines.mpr ⟨G1.length, by rw [hr]; simp, Or.inr (mem_partsIn.mpr ⟨_, _, _, _, rfl, ?_, ?_, ?_, ?_, ?_, ?_⟩)⟩
    · rw [regionAt_mid hr]; simp
    · rw [borderAt_mid hr]; simp
    · rw [borderAt_mid hr]; simp; omega
    · omega
    · rw [canBe_eq, e2]; exact hm
    · rw [regionAt_mid hr]
      have : (L1 ++ (A1 ++ x :: (A2 ++ y :: A3)) :: L2).length = L1.length + 1 + L2.length := by simp; omega
      rw [this]; exact hs

theorem getD_lt {α : Type} {l : List α} {i : Nat} {z : α} (h : i < l.length) : l.getD i z = l[i] := by
  rw [List.getD_eq_getElem?_getD, List.getElem?_eq_getElem h]; rfl
theorem take_len {α : Type} {l : List α} {i : Nat} (h : i < l.length) : (l.take i).length = i := by
  rw [List.length_take]; omega

/-- a line that may be drawn in a region, taken apart -/
theorem line_step {d : Drawing} {x : Line} (h : x ∈ lines d) : Step d (drawn d x) := by
  obtain ⟨r, hr, h⟩ := mem_lines.mp h
  have eR : regionAt d r = d.regions[r] := getD_lt hr
  have hsr := split_at hr
  rcases h with h | h
  · obtain ⟨a, i, b, j, rfl, ha, hi, hb, hj, hab, hc⟩ := mem_joinsIn.mp h
    have eA : borderAt d r a = (regionAt d r)[a] := getD_lt ha
    have eB : borderAt d r b = (regionAt d r)[b] := getD_lt hb
    generalize hbs : regionAt d r = bs at *
    -- bs = L1 ++ la :: L2 ++ lb :: L3
    have hsa := split_at ha
    have hb' : b - (a + 1) < (bs.drop (a + 1)).length := by rw [List.length_drop]; omega
    have hsb := split_at hb'
    have eb : (bs.drop (a + 1))[b - (a + 1)] = borderAt d r b := by
      rw [eB, List.getElem_drop]; congr 1; omega
    rw [← eA] at hsa
    rw [eb] at hsb
    have hi2 := split_at hi
    have hj2 := split_at hj
    generalize hL1 : bs.take a = L1 at *
    generalize hL2 : (bs.drop (a + 1)).take (b - (a + 1)) = L2 at *
    generalize hL3 : (bs.drop (a + 1)).drop (b - (a + 1) + 1) = L3 at *
    generalize hG1 : d.regions.take r = G1 at *
    generalize hG2 : d.regions.drop (r + 1) = G2 at *
    have lL1 : L1.length = a := by rw [← hL1]; exact take_len ha
    have lL2 : L2.length = b - (a + 1) := by rw [← hL2]; exact take_len hb'
    have lG1 : G1.length = r := by rw [← hG1]; exact take_len hr
    have lA : ((borderAt d r a).take i).length = i := take_len hi
    have lB : ((borderAt d r b).take j).length = j := take_len hj
    have hreg : d.regions = G1 ++ (L1 ++ ((borderAt d r a).take i ++ (borderAt d r a)[i] :: (borderAt d r a).drop (i + 1)) :: (L2 ++ ((borderAt d r b).take j ++ (borderAt d r b)[j] :: (borderAt d r b).drop (j + 1)) :: L3)) :: G2 := by
      rw [← hi2, ← hj2, ← hsb, ← hsa, eR]; exact hsr
    obtain ⟨e1, e2⟩ := drawn_join hreg
    have eidx : L1.length + 1 + L2.length = b := by omega
    rw [lG1, lL1, lA, lB, show a + 1 + L2.length = b by omega] at e1 e2
    rw [e1]
    exact Step.join hreg (by rw [canBe_eq, e2] at hc; exact hc)
  · obtain ⟨a, i, j, K, rfl, ha, hi, hj, hij, hc, hK⟩ := mem_partsIn.mp h
    have eA : borderAt d r a = (regionAt d r)[a] := getD_lt ha
    have hKa : ¬ a ∈ K := fun q => by
      have := hK.subset q
      simp at this
    generalize hbs : regionAt d r = bs at *
    have hsa := split_at ha
    rw [← eA] at hsa
    have hi2 := split_at hi
    generalize hL1 : bs.take a = L1 at *
    generalize hL2 : bs.drop (a + 1) = L2 at *
    generalize hG1 : d.regions.take r = G1 at *
    generalize hG2 : d.regions.drop (r + 1) = G2 at *
    have lL1 : L1.length = a := by rw [← hL1]; exact take_len ha
    have lG1 : G1.length = r := by rw [← hG1]; exact take_len hr
    have lA : ((borderAt d r a).take i).length = i := take_len hi
    rw [← lL1] at hKa
    by_cases e : i = j
    · subst e
      have hreg : d.regions = G1 ++ (L1 ++ ((borderAt d r a).take i ++ (borderAt d r a)[i] :: (borderAt d r a).drop (i + 1)) :: L2) :: G2 := by
        rw [← hi2, ← hsa, eR]; exact hsr
      obtain ⟨e1, e2⟩ := drawn_self hreg hKa
      rw [lG1, lL1, lA] at e1 e2
      rw [e1]
      exact Step.self hreg (shuf_pick _ _ _) (shuf_pick _ _ _) (by rw [canBe_eq, e2] at hc; exact hc)
    · have hj' : j - (i + 1) < ((borderAt d r a).drop (i + 1)).length := by rw [List.length_drop]; omega
      have hj2 := split_at hj'
      generalize hA2 : ((borderAt d r a).drop (i + 1)).take (j - (i + 1)) = A2 at *
      have lA2 : A2.length = j - (i + 1) := by rw [← hA2]; exact take_len hj'
      rw [hj2] at hi2
      have hreg : d.regions = G1 ++ (L1 ++ ((borderAt d r a).take i ++ (borderAt d r a)[i] :: (A2 ++ ((borderAt d r a).drop (i + 1))[j - (i + 1)] :: ((borderAt d r a).drop (i + 1)).drop (j - (i + 1) + 1))) :: L2) :: G2 := by
        rw [← hi2, ← hsa, eR]; exact hsr
      obtain ⟨e1, e2⟩ := drawn_part hreg hKa
      rw [lG1, lL1, lA, show i + 1 + A2.length = j by omega] at e1 e2
      rw [e1]
      exact Step.part hreg (shuf_pick _ _ _) (shuf_pick _ _ _) (by rw [canBe_eq, e2] at hc; exact hc)
end Sg

/-! ### text SgD -/
namespace Sg
open Uw61

def alive (d : Drawing) (x : Nat) : Bool := decide (1 ≤ lives d x)
theorem alive_lt {d : Drawing} {x : Nat} (h : alive d x = true) : x < d.ends.length := lives_ge (of_decide_eq_true h)

/-! ## lists of which one leaves some things out -/
section
variable {α β : Type}
inductive LR (P : α → Prop) (Q : α → β → Prop) : List α → List β → Prop
  | nil : LR P Q [] []
  | skip {x : α} {xs : List α} {ys : List β} : P x → LR P Q xs ys → LR P Q (x :: xs) ys
  | both {x : α} {y : β} {xs : List α} {ys : List β} : Q x y → LR P Q xs ys → LR P Q (x :: xs) (y :: ys)
variable {P P' : α → Prop} {Q Q' : α → β → Prop}
theorem LR.mono {xs : List α} {ys : List β} (h : LR P Q xs ys) (hp : ∀ x, P x → P' x) (hq : ∀ x y, Q x y → Q' x y) : LR P' Q' xs ys := by
  induction h with
  | nil => exact .nil
  | skip a _ ih => exact .skip (hp _ a) ih
  | both a _ ih => exact .both (hq _ _ a) ih
theorem LR.append {xs xs' : List α} {ys ys' : List β} (h : LR P Q xs ys) (h' : LR P Q xs' ys') : LR P Q (xs ++ xs') (ys ++ ys') := by
  induction h with
  | nil => exact h'
  | skip a _ ih => exact .skip a ih
  | both a _ ih => exact .both a ih
theorem LR.one {x : α} {y : β} (h : Q x y) : LR P Q [x] [y] := .both h .nil
/-- split at a thing of the first -/
theorem LR.split : ∀ {X1 X2 : List α} {x : α} {Y : List β}, LR P Q (X1 ++ x :: X2) Y → P x ∨ ∃ Y1 y Y2, Y = Y1 ++ y :: Y2 ∧ LR P Q X1 Y1 ∧ LR P Q X2 Y2 ∧ Q x y
  | [], X2, x, Y, h => by
    cases h with
    | skip a _ => exact Or.inl a
    | both a b => exact Or.inr ⟨[], _, _, rfl, .nil, b, a⟩
  | w :: X1, X2, x, Y, h => by
    cases h with
    | skip a b =>
      rcases LR.split b with q | ⟨Y1, y, Y2, e, h1, h2, h3⟩
      · exact Or.inl q
      · exact Or.inr ⟨Y1, y, Y2, e, .skip a h1, h2, h3⟩
    | both a b =>
      rcases LR.split b with q | ⟨Y1, y, Y2, e, h1, h2, h3⟩
      · exact Or.inl q
      · exact Or.inr ⟨_ :: Y1, y, Y2, by rw [e]; rfl, .both a h1, h2, h3⟩
/-- split at a thing of the second -/
theorem LR.back {X : List α} {Y : List β} (h : LR P Q X Y) : ∀ {Y1 Y2 : List β} {y : β}, Y = Y1 ++ y :: Y2 → ∃ X1 x X2, X = X1 ++ x :: X2 ∧ LR P Q X1 Y1 ∧ LR P Q X2 Y2 ∧ Q x y := by
  induction h with
  | nil => intro Y1 Y2 y e; cases Y1 <;> cases e
  | @skip x xs ys a _ ih =>
    intro Y1 Y2 y e
    obtain ⟨X1, x', X2, e', h1, h2, h3⟩ := ih e
    exact ⟨x :: X1, x', X2, by rw [e']; rfl, .skip a h1, h2, h3⟩
  | @both x w xs ys a b ih =>
    intro Y1 Y2 y e
    cases Y1 with
    | nil =>
      injection e with e1 e2
      subst e1 e2
      exact ⟨[], x, xs, rfl, .nil, b, a⟩
    | cons w' Y1 =>
      injection e with e1 e2
      subst e1
      obtain ⟨X1, x', X2, e', h1, h2, h3⟩ := ih e2
      exact ⟨x :: X1, x', X2, by rw [e']; rfl, .both a h1, h2, h3⟩
theorem LR.shuf {X : List α} {Y : List β} (h : LR P Q X Y) : ∀ {C O : List α}, Shuf X C O → ∃ C' O', Shuf Y C' O' ∧ LR P Q C C' ∧ LR P Q O O' := by
  induction h with
  | nil => intro C O s; cases s; exact ⟨[], [], .nil, .nil, .nil⟩
  | skip a _ ih =>
    intro C O s
    cases s with
    | left s => obtain ⟨C', O', s', h1, h2⟩ := ih s; exact ⟨C', O', s', .skip a h1, h2⟩
    | right s => obtain ⟨C', O', s', h1, h2⟩ := ih s; exact ⟨C', O', s', h1, .skip a h2⟩
  | both a _ ih =>
    intro C O s
    cases s with
    | left s => obtain ⟨C', O', s', h1, h2⟩ := ih s; exact ⟨_ :: C', O', .left s', .both a h1, h2⟩
    | right s => obtain ⟨C', O', s', h1, h2⟩ := ih s; exact ⟨C', _ :: O', .right s', h1, .both a h2⟩
theorem LR.shufB {X : List α} {Y : List β} (h : LR P Q X Y) : ∀ {C' O' : List β}, Shuf Y C' O' → ∃ C O, Shuf X C O ∧ LR P Q C C' ∧ LR P Q O O' := by
  induction h with
  | nil => intro C O s; cases s; exact ⟨[], [], .nil, .nil, .nil⟩
  | skip a _ ih =>
    intro C O s
    obtain ⟨C', O', s', h1, h2⟩ := ih s
    exact ⟨C', _ :: O', .right s', h1, .skip a h2⟩
  | both a _ ih =>
    intro C O s
    cases s with
    | left s => obtain ⟨C', O', s', h1, h2⟩ := ih s; exact ⟨_ :: C', O', .left s', .both a h1, h2⟩
    | right s => obtain ⟨C', O', s', h1, h2⟩ := ih s; exact ⟨C', _ :: O', .right s', h1, .both a h2⟩
end

/-! ## two drawings alike -/
structure SR (φ : Nat → Nat) (D : Nat → Prop) (d e : Drawing) (A B : List Nat) : Prop where
  eq : (A.filter (alive d)).map φ = B.filter (alive e)
  dom : ∀ x ∈ A, alive d x = true → D x
  la : ∀ x ∈ A, x < d.ends.length
  lb : ∀ x ∈ B, x < e.ends.length
structure BR (φ : Nat → Nat) (D : Nat → Prop) (d e : Drawing) (A B : List Nat) : Prop where
  sr : SR φ D d e A B
  one : A.length = 1 ↔ B.length = 1
def DeadB (d : Drawing) (l : List Nat) : Prop := ∀ x ∈ l, alive d x = false ∧ x < d.ends.length
def ClosedR (d : Drawing) (bs : List (List Nat)) : Prop := (∀ x ∈ bs.flatten, ∀ y ∈ bs.flatten, mayEnd d x y = false) ∧ ∀ x ∈ bs.flatten, x < d.ends.length
structure Sim (φ : Nat → Nat) (D : Nat → Prop) (d e : Drawing) : Prop where
  inj : ∀ x y, D x → D y → φ x = φ y → x = y
  lv : ∀ x, D x → lives e (φ x) = lives d x
  ld : ∀ x, D x → x < d.ends.length
  le : ∀ x, D x → φ x < e.ends.length
  regs : LR (ClosedR d) (LR (DeadB d) (BR φ D d e)) d.regions e.regions

section
variable {φ : Nat → Nat} {D : Nat → Prop} {d e : Drawing}
theorem SR.append {A A' B B' : List Nat} (h : SR φ D d e A B) (h' : SR φ D d e A' B') : SR φ D d e (A ++ A') (B ++ B') where
  eq := by rw [List.filter_append, List.filter_append, List.map_append, h.eq, h'.eq]
  dom := fun x hx => (List.mem_append.mp hx).elim (fun q => h.dom x q) (fun q => h'.dom x q)
  la := fun x hx => (List.mem_append.mp hx).elim (fun q => h.la x q) (fun q => h'.la x q)
  lb := fun x hx => (List.mem_append.mp hx).elim (fun q => h.lb x q) (fun q => h'.lb x q)
theorem SR.nil : SR φ D d e [] [] := ⟨rfl, fun _ h => by simp at h, fun _ h => by simp at h, fun _ h => by simp at h⟩
theorem SR.of_sub {A A' B B' : List Nat} (h : SR φ D d e A B) (eq : (A'.filter (alive d)).map φ = B'.filter (alive e)) (ha : ∀ x ∈ A', x ∈ A) (hb : ∀ x ∈ B', x ∈ B) : SR φ D d e A' B' :=
  ⟨eq, fun x hx => h.dom x (ha x hx), fun x hx => h.la x (ha x hx), fun x hx => h.lb x (hb x hx)⟩
theorem SR.split {A1 A2 B : List Nat} {x : Nat} (h : SR φ D d e (A1 ++ x :: A2) B) (hx : alive d x = true) : ∃ B1 B2, B = B1 ++ φ x :: B2 ∧ SR φ D d e A1 B1 ∧ SR φ D d e A2 B2 ∧ D x ∧ alive e (φ x) = true := by
  have q := h.eq
  rw [List.filter_append, List.filter_cons_of_pos hx, List.map_append, List.map_cons] at q
  obtain ⟨B1, B', rfl, h1, h2⟩ := List.filter_eq_append_iff.mp q.symm
  obtain ⟨B3, B4, rfl, h3, h4, h5⟩ := List.filter_eq_cons_iff.mp h2
  refine ⟨B1 ++ B3, B4, by simp, h.of_sub ?_ (fun y hy => by simp [hy]) (fun y hy => ?_), h.of_sub h5.symm (fun y hy => by simp [hy]) (fun y hy => by simp [hy]), h.dom x (by simp) hx, h4⟩
  · rw [List.filter_append, h1, List.filter_eq_nil_iff.mpr (fun a ha => h3 a ha), List.append_nil]
  · rcases List.mem_append.mp hy with z | z <;> simp [z]
theorem SR.back {A B1 B2 : List Nat} {y : Nat} (h : SR φ D d e A (B1 ++ y :: B2)) (hy : alive e y = true) : ∃ A1 x A2, A = A1 ++ x :: A2 ∧ φ x = y ∧ SR φ D d e A1 B1 ∧ SR φ D d e A2 B2 ∧ D x ∧ alive d x = true := by
  have q := h.eq
  rw [List.filter_append, List.filter_cons_of_pos hy] at q
  obtain ⟨F1, F2, hF, h1, h2⟩ := List.map_eq_append_iff.mp q
  obtain ⟨x, F3, rfl, h3, h4⟩ := List.map_eq_cons_iff.mp h2
  obtain ⟨A1, A', rfl, h5, h6⟩ := List.filter_eq_append_iff.mp hF
  obtain ⟨A3, A4, rfl, h7, h8, h9⟩ := List.filter_eq_cons_iff.mp h6
  refine ⟨A1 ++ A3, x, A4, by simp, h3, h.of_sub ?_ (fun w hw => ?_) (fun w hw => by simp [hw]), h.of_sub (by rw [h9]; exact h4) (fun w hw => by simp [hw]) (fun w hw => by simp [hw]), h.dom x (by simp) h8, h8⟩
  · rw [List.filter_append, h5, List.filter_eq_nil_iff.mpr (fun a ha => h7 a ha), List.append_nil]; exact h1
  · rcases List.mem_append.mp hw with z | z <;> simp [z]
theorem Sim.may (S : Sim φ D d e) {x y : Nat} (hx : D x) (hy : D y) : mayEnd e (φ x) (φ y) = mayEnd d x y := by
  unfold mayEnd
  rw [S.lv x hx, S.lv y hy]
  by_cases c : x = y
  · subst c; simp
  · have : ¬ φ x = φ y := fun q => c (S.inj x y hx hy q)
    simp [c, this]
/-- the number of a spot behind a line -/
def phi' (φ : Nat → Nat) (z z' : Nat) : Nat → Nat := fun k => if k = z then z' else φ k
def dom' (D : Nat → Prop) (z : Nat) : Nat → Prop := fun k => D k ∨ k = z
variable {x y : Nat} {rs rs' : List (List (List Nat))}
theorem phi_old {z z' k : Nat} (h : ¬ k = z) : phi' φ z z' k = φ k := if_neg h
theorem phi_new {z z' : Nat} : phi' φ z z' z = z' := if_pos rfl
theorem Sim.lives' (S : Sim φ D d e) (hx : D x) (hy : D y) {k : Nat} (hk : D k) : lives ⟨ends2 e (φ x) (φ y), rs'⟩ (φ k) = lives ⟨ends2 d x y, rs⟩ k := by
  rw [lives_old (S.le k hk), lives_old (S.ld k hk), S.lv k hk]
  have e1 : (φ k = φ x) ↔ k = x := ⟨S.inj k x hk hx, fun q => by rw [q]⟩
  have e2 : (φ k = φ y) ↔ k = y := ⟨S.inj k y hk hy, fun q => by rw [q]⟩
  simp only [e1, e2]
theorem alive_mono {k : Nat} (h : k < d.ends.length) (a : alive ⟨ends2 d x y, rs⟩ k = true) : alive d k = true := by
  unfold alive at *
  have := of_decide_eq_true a
  rw [lives_old h] at this
  exact decide_eq_true (by omega)
theorem SR.step (S : Sim φ D d e) (hx : D x) (hy : D y) {A B : List Nat} (h : SR φ D d e A B) :
    SR (phi' φ d.ends.length e.ends.length) (dom' D d.ends.length) ⟨ends2 d x y, rs⟩ ⟨ends2 e (φ x) (φ y), rs'⟩ A B := by
  have ne : ∀ w ∈ A, ¬ w = d.ends.length := fun w hw q => by have := h.la w hw; omega
  refine ⟨?_, fun w hw a => Or.inl (h.dom w hw (alive_mono (h.la w hw) a)), fun w hw => ?_, fun w hw => ?_⟩
  · have f1 : A.filter (alive ⟨ends2 d x y, rs⟩) = (A.filter (alive d)).filter (alive ⟨ends2 d x y, rs⟩) := by
      rw [List.filter_filter]
      apply List.filter_congr
      intro w hw
      cases c : alive ⟨ends2 d x y, rs⟩ w with
      | false => rfl
      | true => rw [alive_mono (h.la w hw) c]; rfl
    have f2 : B.filter (alive ⟨ends2 e (φ x) (φ y), rs'⟩) = (B.filter (alive e)).filter (alive ⟨ends2 e (φ x) (φ y), rs'⟩) := by
      rw [List.filter_filter]
      apply List.filter_congr
      intro w hw
      cases c : alive ⟨ends2 e (φ x) (φ y), rs'⟩ w with
      | false => rfl
      | true => rw [alive_mono (h.lb w hw) c]; rfl
    rw [f1, f2, ← h.eq, List.filter_map]
    have f3 : (A.filter (alive d)).filter ((alive ⟨ends2 e (φ x) (φ y), rs'⟩) ∘ φ) = (A.filter (alive d)).filter (alive ⟨ends2 d x y, rs⟩) := by
      apply List.filter_congr
      intro w hw
      have hm := List.mem_filter.mp hw
      show decide (1 ≤ lives _ (φ w)) = decide (1 ≤ lives _ w)
      rw [S.lives' hx hy (h.dom w hm.1 hm.2) (rs := rs) (rs' := rs')]
    rw [f3]
    apply List.map_congr_left
    intro w hw
    exact phi_old (ne w (List.mem_filter.mp (List.mem_filter.mp hw).1).1)
  · show w < (ends2 d x y).length
    rw [ends2_length]; have := h.la w hw; omega
  · show w < (ends2 e (φ x) (φ y)).length
    rw [ends2_length]; have := h.lb w hw; omega
/-- one spot -/
theorem SR.one' (S : Sim φ D d e) (hx : D x) (hy : D y) {k : Nat} (hk : D k) :
    SR (phi' φ d.ends.length e.ends.length) (dom' D d.ends.length) ⟨ends2 d x y, rs⟩ ⟨ends2 e (φ x) (φ y), rs'⟩ [k] [φ k] := by
  refine ⟨?_, fun w hw _ => Or.inl (by rw [List.mem_singleton.mp hw]; exact hk), fun w hw => ?_, fun w hw => ?_⟩
  · have q : alive ⟨ends2 e (φ x) (φ y), rs'⟩ (φ k) = alive ⟨ends2 d x y, rs⟩ k := by
      show decide _ = decide _
      rw [S.lives' hx hy hk (rs := rs) (rs' := rs')]
    rw [List.filter_cons, List.filter_cons, q]
    cases alive ⟨ends2 d x y, rs⟩ k with
    | false => rfl
    | true => simp [phi', show ¬ k = d.ends.length from fun c => by have := S.ld k hk; omega]
  · show w < (ends2 d x y).length
    rw [ends2_length, List.mem_singleton.mp hw]; have := S.ld k hk; omega
  · show w < (ends2 e (φ x) (φ y)).length
    rw [ends2_length, List.mem_singleton.mp hw]; have := S.le k hk; omega
theorem SR.new' : SR (phi' φ d.ends.length e.ends.length) (dom' D d.ends.length) ⟨ends2 d x y, rs⟩ ⟨ends2 e (φ x) (φ y), rs'⟩ [d.ends.length] [e.ends.length] := by
  refine ⟨?_, fun w hw _ => Or.inr (List.mem_singleton.mp hw), fun w hw => ?_, fun w hw => ?_⟩
  · rw [List.filter_cons_of_pos (by show decide _ = true; rw [lives_new]; rfl), List.filter_cons_of_pos (by show decide _ = true; rw [lives_new]; rfl)]
    simp [phi_new]
  · show w < (ends2 d x y).length
    rw [ends2_length, List.mem_singleton.mp hw]; omega
  · show w < (ends2 e (φ x) (φ y)).length
    rw [ends2_length, List.mem_singleton.mp hw]; omega
theorem BR.step (S : Sim φ D d e) (hx : D x) (hy : D y) {A B : List Nat} (h : BR φ D d e A B) :
    BR (phi' φ d.ends.length e.ends.length) (dom' D d.ends.length) ⟨ends2 d x y, rs⟩ ⟨ends2 e (φ x) (φ y), rs'⟩ A B := ⟨h.sr.step S hx hy, h.one⟩
theorem DeadB.step {l : List Nat} (h : DeadB d l) : DeadB ⟨ends2 d x y, rs⟩ l := fun w hw => by
  obtain ⟨h1, h2⟩ := h w hw
  refine ⟨?_, by show w < (ends2 d x y).length; rw [ends2_length]; omega⟩
  cases c : alive ⟨ends2 d x y, rs⟩ w with
  | false => rfl
  | true => rw [alive_mono h2 c] at h1; cases h1
theorem ClosedR.step {bs : List (List Nat)} (h : ClosedR d bs) : ClosedR ⟨ends2 d x y, rs⟩ bs := by
  refine ⟨fun u hu v hv => ?_, fun w hw => ?_⟩
  · have q := h.1 u hu v hv
    have lu := lives_old (x := x) (y := y) (rs := rs) (h.2 u hu)
    have lv := lives_old (x := x) (y := y) (rs := rs) (h.2 v hv)
    cases c : mayEnd ⟨ends2 d x y, rs⟩ u v with
    | false => rfl
    | true =>
      exfalso
      unfold mayEnd at q c
      by_cases e : u = v
      · rw [if_pos e] at q c
        have c := of_decide_eq_true c
        have q := of_decide_eq_false q
        omega
      · rw [if_neg e, Bool.and_eq_true] at c
        rw [if_neg e] at q
        have c1 := of_decide_eq_true c.1
        have c2 := of_decide_eq_true c.2
        have z1 : 1 ≤ lives d u := by omega
        have z2 : 1 ≤ lives d v := by omega
        rw [decide_eq_true z1, decide_eq_true z2] at q
        cases q
  · show w < (ends2 d x y).length
    rw [ends2_length]; have := h.2 w hw; omega
theorem Sim.next (S : Sim φ D d e) (hx : D x) (hy : D y) (hr : LR (ClosedR ⟨ends2 d x y, rs⟩) (LR (DeadB ⟨ends2 d x y, rs⟩) (BR (phi' φ d.ends.length e.ends.length) (dom' D d.ends.length) ⟨ends2 d x y, rs⟩ ⟨ends2 e (φ x) (φ y), rs'⟩)) rs rs') :
    Sim (phi' φ d.ends.length e.ends.length) (dom' D d.ends.length) ⟨ends2 d x y, rs⟩ ⟨ends2 e (φ x) (φ y), rs'⟩ where
  inj := fun u v hu hv q => by
    rcases hu with hu | hu <;> rcases hv with hv | hv
    · have a1 := S.ld u hu; have a2 := S.ld v hv
      rw [phi_old (by omega), phi_old (by omega)] at q
      exact S.inj u v hu hv q
    · have a1 := S.ld u hu; have a2 := S.le u hu
      subst hv
      rw [phi_old (by omega), phi_new] at q
      omega
    · have a1 := S.ld v hv; have a2 := S.le v hv
      subst hu
      rw [phi_new, phi_old (by omega)] at q
      omega
    · rw [hu, hv]
  lv := fun u hu => by
    rcases hu with hu | hu
    · have a1 := S.ld u hu
      rw [phi_old (by omega)]; exact S.lives' hx hy hu
    · subst hu; rw [phi_new, lives_new, lives_new]
  ld := fun u hu => by
    show u < (ends2 d x y).length
    rw [ends2_length]
    rcases hu with hu | hu
    · have := S.ld u hu; omega
    · omega
  le := fun u hu => by
    show _ < (ends2 e (φ x) (φ y)).length
    rw [ends2_length]
    rcases hu with hu | hu
    · have := S.ld u hu; have := S.le u hu; rw [phi_old (by omega)]; omega
    · subst hu; rw [phi_new]; omega
  regs := hr
end
end Sg

/-! ### text SgE -/
namespace Sg
open Uw61
def Alike (d e : Drawing) : Prop := ∃ φ D, Sim φ D d e
theorem ar_pos (A : List Nat) (x : Nat) (B : List Nat) : 1 ≤ (ar A x B).length := by
  unfold ar; split <;> simp
theorem alive_of_left {d : Drawing} {x y : Nat} (h : mayEnd d x y = true) : alive d x = true := decide_eq_true (mayEnd_left h)
theorem alive_of_right {d : Drawing} {x y : Nat} (h : mayEnd d x y = true) : alive d y = true := decide_eq_true (mayEnd_right h)
section
variable {φ : Nat → Nat} {D : Nat → Prop} {d e : Drawing} {x y : Nat} {rs rs' : List (List (List Nat))}
theorem SR.ar' (S : Sim φ D d e) (hx : D x) (hy : D y) {k : Nat} (hk : D k) {A B P R : List Nat} (h1 : SR φ D d e A P) (h2 : SR φ D d e B R) (ho : (A ++ k :: B).length = 1 ↔ (P ++ φ k :: R).length = 1) :
    SR (phi' φ d.ends.length e.ends.length) (dom' D d.ends.length) ⟨ends2 d x y, rs⟩ ⟨ends2 e (φ x) (φ y), rs'⟩ (ar A k B) (ar P (φ k) R) := by
  have o := SR.one' (rs := rs) (rs' := rs') S hx hy hk
  unfold ar
  by_cases c : A.length + B.length = 0
  · have c' : P.length + R.length = 0 := by
      have := ho.mp (by simp; omega)
      simp at this; omega
    rw [if_pos c, if_pos c']; exact o
  · have c' : ¬ P.length + R.length = 0 := fun q => c (by
      have := ho.mpr (by simp; omega)
      simp at this; omega)
    rw [if_neg c, if_neg c']
    exact o.append (((h2.step S hx hy).append (h1.step S hx hy)).append o)
theorem BR.big {A B : List Nat} (h : SR φ D d e A B) (a : 2 ≤ A.length) (b : 2 ≤ B.length) : BR φ D d e A B := ⟨h, by omega⟩
/-- what a line drawn leaves as it was -/
theorem LR.oldR (S : Sim φ D d e) (hx : D x) (hy : D y) {xs ys : List (List (List Nat))} (h : LR (ClosedR d) (LR (DeadB d) (BR φ D d e)) xs ys) :
    LR (ClosedR ⟨ends2 d x y, rs⟩) (LR (DeadB ⟨ends2 d x y, rs⟩) (BR (phi' φ d.ends.length e.ends.length) (dom' D d.ends.length) ⟨ends2 d x y, rs⟩ ⟨ends2 e (φ x) (φ y), rs'⟩)) xs ys :=
  h.mono (fun _ q => q.step) fun _ _ q => q.mono (fun _ q => q.step) fun _ _ q => q.step S hx hy
theorem LR.oldB (S : Sim φ D d e) (hx : D x) (hy : D y) {xs ys : List (List Nat)} (h : LR (DeadB d) (BR φ D d e) xs ys) :
    LR (DeadB ⟨ends2 d x y, rs⟩) (BR (phi' φ d.ends.length e.ends.length) (dom' D d.ends.length) ⟨ends2 d x y, rs⟩ ⟨ends2 e (φ x) (φ y), rs'⟩) xs ys :=
  h.mono (fun _ q => q.step) fun _ _ q => q.step S hx hy
theorem BR.joined (S : Sim φ D d e) (hx : D x) (hy : D y) {A1 A2 P1 P2 B1 B2 R1 R2 : List Nat} (a1 : SR φ D d e A1 P1) (a2 : SR φ D d e A2 P2) (b1 : SR φ D d e B1 R1) (b2 : SR φ D d e B2 R2)
    (oa : (A1 ++ x :: A2).length = 1 ↔ (P1 ++ φ x :: P2).length = 1) (ob : (B1 ++ y :: B2).length = 1 ↔ (R1 ++ φ y :: R2).length = 1) :
    BR (phi' φ d.ends.length e.ends.length) (dom' D d.ends.length) ⟨ends2 d x y, rs⟩ ⟨ends2 e (φ x) (φ y), rs'⟩
      (ar A1 x A2 ++ d.ends.length :: (ar B1 y B2 ++ [d.ends.length])) (ar P1 (φ x) P2 ++ e.ends.length :: (ar R1 (φ y) R2 ++ [e.ends.length])) := by
  have p1 := ar_pos A1 x A2
  have p2 := ar_pos P1 (φ x) P2
  refine BR.big ?_ (by simp; omega) (by simp; omega)
  exact (SR.ar' S hx hy hx a1 a2 oa).append (SR.new'.append ((SR.ar' S hx hy hy b1 b2 ob).append SR.new'))
theorem BR.near1 (S : Sim φ D d e) (hx : D x) : BR (phi' φ d.ends.length e.ends.length) (dom' D d.ends.length) ⟨ends2 d x x, rs⟩ ⟨ends2 e (φ x) (φ x), rs'⟩ ([x] ++ [d.ends.length]) ([φ x] ++ [e.ends.length]) :=
  BR.big ((SR.one' S hx hx hx).append SR.new') (by simp) (by simp)
theorem BR.far1 (S : Sim φ D d e) (hx : D x) {A1 A2 P1 P2 : List Nat} (a1 : SR φ D d e A1 P1) (a2 : SR φ D d e A2 P2) (oa : (A1 ++ x :: A2).length = 1 ↔ (P1 ++ φ x :: P2).length = 1) :
    BR (phi' φ d.ends.length e.ends.length) (dom' D d.ends.length) ⟨ends2 d x x, rs⟩ ⟨ends2 e (φ x) (φ x), rs'⟩ (ar A1 x A2 ++ [d.ends.length]) (ar P1 (φ x) P2 ++ [e.ends.length]) := by
  have p1 := ar_pos A1 x A2
  have p2 := ar_pos P1 (φ x) P2
  exact BR.big ((SR.ar' S hx hx hx a1 a2 oa).append SR.new') (by simp; omega) (by simp; omega)
theorem BR.near2 (S : Sim φ D d e) (hx : D x) (hy : D y) {A2 P2 : List Nat} (a2 : SR φ D d e A2 P2) :
    BR (phi' φ d.ends.length e.ends.length) (dom' D d.ends.length) ⟨ends2 d x y, rs⟩ ⟨ends2 e (φ x) (φ y), rs'⟩ ((x :: (A2 ++ [y])) ++ [d.ends.length]) ((φ x :: (P2 ++ [φ y])) ++ [e.ends.length]) :=
  BR.big (((SR.one' S hx hy hx).append ((a2.step S hx hy).append (SR.one' S hx hy hy))).append SR.new') (by simp) (by simp)
theorem BR.far2 (S : Sim φ D d e) (hx : D x) (hy : D y) {A1 P1 A3 P3 : List Nat} (a1 : SR φ D d e A1 P1) (a3 : SR φ D d e A3 P3) :
    BR (phi' φ d.ends.length e.ends.length) (dom' D d.ends.length) ⟨ends2 d x y, rs⟩ ⟨ends2 e (φ x) (φ y), rs'⟩ ((y :: A3 ++ (A1 ++ [x])) ++ [d.ends.length]) ((φ y :: P3 ++ (P1 ++ [φ x])) ++ [e.ends.length]) :=
  BR.big ((((SR.one' S hx hy hy).append (a3.step S hx hy)).append ((a1.step S hx hy).append (SR.one' S hx hy hx))).append SR.new') (by simp; omega) (by simp; omega)
end

theorem sim_step {d e d' : Drawing} (S0 : Alike d e) (h : Step d d') : ∃ e', Step e e' ∧ Alike d' e' := by
  obtain ⟨φ, D, S⟩ := S0
  cases h with
  | @join G1 G2 L1 L2 L3 A1 A2 B1 B2 x y hr hm =>
    have hR := S.regs
    rw [hr] at hR
    rcases hR.split with c | ⟨F1, fs, F2, er, r1, r2, rb⟩
    · have := c.1 x (by simp) y (by simp); rw [hm] at this; cases this
    rcases rb.split with c | ⟨M1, m, M', em, m1, m', bm⟩
    · have := (c x (by simp)).1; rw [alive_of_left hm] at this; cases this
    rcases m'.split with c | ⟨M2, w, M3, ew, m2, m3, bw⟩
    · have := (c y (by simp)).1; rw [alive_of_right hm] at this; cases this
    obtain ⟨P1, P2, rfl, a1, a2, hx, _⟩ := bm.sr.split (alive_of_left hm)
    obtain ⟨R1, R2, rfl, b1, b2, hy, _⟩ := bw.sr.split (alive_of_right hm)
    subst ew em
    refine ⟨_, Step.join er (by rw [S.may hx hy]; exact hm), _, _, S.next hx hy ?_⟩
    refine (r1.oldR S hx hy).append (.both ?_ (r2.oldR S hx hy))
    exact ((m1.oldB S hx hy).append ((m2.oldB S hx hy).append (m3.oldB S hx hy))).append (.one (BR.joined S hx hy a1 a2 b1 b2 bm.one bw.one))
  | @self G1 G2 L1 L2 C1 O1 C2 O2 A1 A2 x hr s1 s2 hm =>
    have hR := S.regs
    rw [hr] at hR
    rcases hR.split with c | ⟨F1, fs, F2, er, r1, r2, rb⟩
    · have := c.1 x (by simp) x (by simp); rw [hm] at this; cases this
    rcases rb.split with c | ⟨M1, m, M2, em, m1, m2, bm⟩
    · have := (c x (by simp)).1; rw [alive_of_left hm] at this; cases this
    obtain ⟨P1, P2, rfl, a1, a2, hx, _⟩ := bm.sr.split (alive_of_left hm)
    subst em
    obtain ⟨C1', O1', t1, c1, o1⟩ := m1.shuf s1
    obtain ⟨C2', O2', t2, c2, o2⟩ := m2.shuf s2
    refine ⟨_, Step.self er t1 t2 (by rw [S.may hx hx]; exact hm), _, _, S.next hx hx ?_⟩
    refine ((r1.oldR S hx hx).append (.both ?_ (r2.oldR S hx hx))).append (.one ?_)
    · exact ((c1.oldB S hx hx).append (c2.oldB S hx hx)).append (.one (BR.near1 S hx))
    · exact ((o1.oldB S hx hx).append (o2.oldB S hx hx)).append (.one (BR.far1 S hx a1 a2 bm.one))
  | @part G1 G2 L1 L2 C1 O1 C2 O2 A1 A2 A3 x y hr s1 s2 hm =>
    have hR := S.regs
    rw [hr] at hR
    rcases hR.split with c | ⟨F1, fs, F2, er, r1, r2, rb⟩
    · have := c.1 x (by simp) y (by simp); rw [hm] at this; cases this
    rcases rb.split with c | ⟨M1, m, M2, em, m1, m2, bm⟩
    · have := (c x (by simp)).1; rw [alive_of_left hm] at this; cases this
    obtain ⟨P1, P2, rfl, a1, a2, hx, _⟩ := bm.sr.split (alive_of_left hm)
    obtain ⟨P3, P4, rfl, a3, a4, hy, _⟩ := a2.split (alive_of_right hm)
    subst em
    obtain ⟨C1', O1', t1, c1, o1⟩ := m1.shuf s1
    obtain ⟨C2', O2', t2, c2, o2⟩ := m2.shuf s2
    refine ⟨_, Step.part er t1 t2 (by rw [S.may hx hy]; exact hm), _, _, S.next hx hy ?_⟩
    refine ((r1.oldR S hx hy).append (.both ?_ (r2.oldR S hx hy))).append (.one ?_)
    · exact ((c1.oldB S hx hy).append (c2.oldB S hx hy)).append (.one (BR.near2 S hx hy a3))
    · exact ((o1.oldB S hx hy).append (o2.oldB S hx hy)).append (.one (BR.far2 S hx hy a1 a4))

theorem sim_back {d e e' : Drawing} (S0 : Alike d e) (h : Step e e') : ∃ d', Step d d' ∧ Alike d' e' := by
  obtain ⟨φ, D, S⟩ := S0
  cases h with
  | @join F1 F2 M1 M2 M3 P1 P2 R1 R2 x' y' er hm =>
    obtain ⟨G1, bs, G2, hr, r1, r2, rb⟩ := S.regs.back er
    obtain ⟨L1, la, L', hl, m1, m', bm⟩ := rb.back rfl
    obtain ⟨L2, lb, L3, hl', m2, m3, bw⟩ := m'.back rfl
    subst hl hl'
    obtain ⟨A1, x, A2, rfl, rfl, a1, a2, hx, _⟩ := bm.sr.back (alive_of_left hm)
    obtain ⟨B1, y, B2, rfl, rfl, b1, b2, hy, _⟩ := bw.sr.back (alive_of_right hm)
    refine ⟨_, Step.join hr (by rw [← S.may hx hy]; exact hm), _, _, S.next hx hy ?_⟩
    refine (r1.oldR S hx hy).append (.both ?_ (r2.oldR S hx hy))
    exact ((m1.oldB S hx hy).append ((m2.oldB S hx hy).append (m3.oldB S hx hy))).append (.one (BR.joined S hx hy a1 a2 b1 b2 bm.one bw.one))
  | @self F1 F2 M1 M2 C1' O1' C2' O2' P1 P2 x' er t1 t2 hm =>
    obtain ⟨G1, bs, G2, hr, r1, r2, rb⟩ := S.regs.back er
    obtain ⟨L1, la, L2, hl, m1, m2, bm⟩ := rb.back rfl
    subst hl
    obtain ⟨A1, x, A2, rfl, rfl, a1, a2, hx, _⟩ := bm.sr.back (alive_of_left hm)
    obtain ⟨C1, O1, s1, c1, o1⟩ := m1.shufB t1
    obtain ⟨C2, O2, s2, c2, o2⟩ := m2.shufB t2
    refine ⟨_, Step.self hr s1 s2 (by rw [← S.may hx hx]; exact hm), _, _, S.next hx hx ?_⟩
    refine ((r1.oldR S hx hx).append (.both ?_ (r2.oldR S hx hx))).append (.one ?_)
    · exact ((c1.oldB S hx hx).append (c2.oldB S hx hx)).append (.one (BR.near1 S hx))
    · exact ((o1.oldB S hx hx).append (o2.oldB S hx hx)).append (.one (BR.far1 S hx a1 a2 bm.one))
  | @part F1 F2 M1 M2 C1' O1' C2' O2' P1 P3 P4 x' y' er t1 t2 hm =>
    obtain ⟨G1, bs, G2, hr, r1, r2, rb⟩ := S.regs.back er
    obtain ⟨L1, la, L2, hl, m1, m2, bm⟩ := rb.back rfl
    subst hl
    obtain ⟨A1, x, A2, rfl, rfl, a1, a2, hx, _⟩ := bm.sr.back (alive_of_left hm)
    obtain ⟨A3, y, A4, rfl, rfl, a3, a4, hy, _⟩ := a2.back (alive_of_right hm)
    obtain ⟨C1, O1, s1, c1, o1⟩ := m1.shufB t1
    obtain ⟨C2, O2, s2, c2, o2⟩ := m2.shufB t2
    refine ⟨_, Step.part hr s1 s2 (by rw [← S.may hx hy]; exact hm), _, _, S.next hx hy ?_⟩
    refine ((r1.oldR S hx hy).append (.both ?_ (r2.oldR S hx hy))).append (.one ?_)
    · exact ((c1.oldB S hx hy).append (c2.oldB S hx hy)).append (.one (BR.near2 S hx hy a3))
    · exact ((o1.oldB S hx hy).append (o2.oldB S hx hy)).append (.one (BR.far2 S hx hy a1 a4))
end Sg

/-! ### text SgF -/
namespace Sg
open Uw61

/-! ## what depends on the set of numbers alone -/
theorem nodup_len {α : Type} [DecidableEq α] : ∀ (l m : List α), l.Nodup → (∀ x ∈ l, x ∈ m) → l.length ≤ m.length
  | [], m, _, _ => by simp
  | x :: l, m, hn, hs => by
    have hx : x ∈ m := hs x (by simp)
    have hn' := List.nodup_cons.mp hn
    have ih := nodup_len l (m.erase x) hn'.2 fun y hy => by
      have ne : y ≠ x := fun q => hn'.1 (by rw [← q]; exact hy)
      exact (List.mem_erase_of_ne ne).mpr (hs y (by simp [hy]))
    rw [List.length_erase_of_mem hx] at ih
    have : 0 < m.length := List.length_pos_of_mem hx
    simp; omega
theorem find_congr {α : Type} {p q : α → Bool} : ∀ {l : List α}, (∀ x ∈ l, p x = q x) → l.find? p = l.find? q
  | [], _ => rfl
  | x :: l, h => by
    rw [List.find?_cons, List.find?_cons, h x (by simp), find_congr fun y hy => h y (by simp [hy])]
theorem leastNot_spec (l : List Nat) : leastNot l ∉ l ∧ ∀ m, m < leastNot l → m ∈ l := by
  unfold leastNot
  cases h : (List.range (l.length + 1)).find? fun n => !l.contains n with
  | none =>
    exfalso
    have q := List.find?_eq_none.mp h
    have sub : ∀ k ∈ List.range (l.length + 1), k ∈ l := fun k hk => by
      have := q k hk
      simpa using this
    have : (List.range (l.length + 1)).length ≤ l.length := nodup_len _ _ List.nodup_range sub
    rw [List.length_range] at this
    omega
  | some n =>
    obtain ⟨h1, as, bs, h2, h3⟩ := List.find?_eq_some_iff_append.mp h
    refine ⟨by simpa using h1, fun m hm => ?_⟩
    have hm : m < n := hm
    have lt : n < l.length + 1 := by
      have : n ∈ List.range (l.length + 1) := by rw [h2]; simp
      simpa using this
    have hmem : m ∈ List.range (l.length + 1) := by simp; omega
    have pw : (List.range (l.length + 1)).Pairwise (· < ·) := List.pairwise_lt_range
    rw [h2] at hmem pw
    have ina : m ∈ as := by
      rcases List.mem_append.mp hmem with q | q
      · exact q
      · exfalso
        rcases List.mem_cons.mp q with q | q
        · omega
        · have := (List.pairwise_cons.mp (List.pairwise_append.mp pw).2.1).1 m q
          omega
    have := h3 m ina
    simpa using this
theorem least_unique {l m : List Nat} {a b : Nat} (e : ∀ k, k ∈ l ↔ k ∈ m) (ha : a ∉ l ∧ ∀ k, k < a → k ∈ l) (hb : b ∉ m ∧ ∀ k, k < b → k ∈ m) : a = b := by
  rcases Nat.lt_trichotomy a b with h | h | h
  · exact absurd ((e a).mpr (hb.2 a h)) ha.1
  · exact h
  · exact absurd ((e b).mp (ha.2 b h)) hb.1
/-- the least and the greatest, with one more -/
def spanOf (l : List (Nat × Nat)) : Nat × Nat := match l with
  | [] => (0, 0)
  | s :: l => l.foldl (fun m y => (min m.1 (y.1 + 1), max m.2 (y.2 + 1))) (s.1 + 1, s.2 + 1)
theorem span_succ (f : Nat) (d : Drawing) : span (f + 1) d = spanOf ((lines d).map fun x => span f (drawn d x)) := rfl
theorem foldl_span : ∀ (l : List (Nat × Nat)) (m : Nat × Nat), (∀ y ∈ l, (l.foldl (fun m y => (min m.1 (y.1 + 1), max m.2 (y.2 + 1))) m).1 ≤ y.1 + 1 ∧ y.2 + 1 ≤ (l.foldl (fun m y => (min m.1 (y.1 + 1), max m.2 (y.2 + 1))) m).2) ∧
    (l.foldl (fun m y => (min m.1 (y.1 + 1), max m.2 (y.2 + 1))) m).1 ≤ m.1 ∧ m.2 ≤ (l.foldl (fun m y => (min m.1 (y.1 + 1), max m.2 (y.2 + 1))) m).2 ∧
    ((l.foldl (fun m y => (min m.1 (y.1 + 1), max m.2 (y.2 + 1))) m).1 = m.1 ∨ ∃ y ∈ l, (l.foldl (fun m y => (min m.1 (y.1 + 1), max m.2 (y.2 + 1))) m).1 = y.1 + 1) ∧
    ((l.foldl (fun m y => (min m.1 (y.1 + 1), max m.2 (y.2 + 1))) m).2 = m.2 ∨ ∃ y ∈ l, (l.foldl (fun m y => (min m.1 (y.1 + 1), max m.2 (y.2 + 1))) m).2 = y.2 + 1)
  | [], m => by simp
  | s :: l, m => by
    obtain ⟨h1, h2, h3, h4, h5⟩ := foldl_span l (min m.1 (s.1 + 1), max m.2 (s.2 + 1))
    rw [List.foldl_cons]
    generalize l.foldl (fun m y => (min m.1 (y.1 + 1), max m.2 (y.2 + 1))) (min m.1 (s.1 + 1), max m.2 (s.2 + 1)) = F at *
    simp only at h2 h3
    refine ⟨fun y hy => ?_, by clear h1 h4 h5; omega, by clear h1 h4 h5; omega, ?_, ?_⟩
    · rcases List.mem_cons.mp hy with rfl | hy
      · clear h1 h4 h5; omega
      · exact h1 y hy
    · clear h5; rcases h4 with h | ⟨y, hy, h⟩
      · simp only at h
        rcases Nat.le_total m.1 (s.1 + 1) with c | c
        · left; clear h1; omega
        · right; exact ⟨s, by simp, by clear h1; omega⟩
      · exact Or.inr ⟨y, by simp [hy], h⟩
    · clear h4; rcases h5 with h | ⟨y, hy, h⟩
      · simp only at h
        rcases Nat.le_total m.2 (s.2 + 1) with c | c
        · right; exact ⟨s, by simp, by clear h1; omega⟩
        · left; clear h1; omega
      · exact Or.inr ⟨y, by simp [hy], h⟩
/-- what spanOf is -/
theorem spanOf_spec {l : List (Nat × Nat)} (h : l ≠ []) : (∀ y ∈ l, (spanOf l).1 ≤ y.1 + 1 ∧ y.2 + 1 ≤ (spanOf l).2) ∧ (∃ y ∈ l, (spanOf l).1 = y.1 + 1) ∧ ∃ y ∈ l, (spanOf l).2 = y.2 + 1 := by
  cases l with
  | nil => exact absurd rfl h
  | cons s l =>
    obtain ⟨h1, h2, h3, h4, h5⟩ := foldl_span l (s.1 + 1, s.2 + 1)
    show (∀ y ∈ s :: l, _ ≤ y.1 + 1 ∧ y.2 + 1 ≤ _) ∧ _
    unfold spanOf
    simp only
    generalize l.foldl (fun m y => (min m.1 (y.1 + 1), max m.2 (y.2 + 1))) (s.1 + 1, s.2 + 1) = F at *
    simp only at h2 h3
    refine ⟨fun y hy => ?_, ?_, ?_⟩
    · rcases List.mem_cons.mp hy with rfl | hy
      · clear h1 h4 h5; omega
      · exact h1 y hy
    · rcases h4 with h | ⟨y, hy, h⟩
      · exact ⟨s, by simp, h⟩
      · exact ⟨y, by simp [hy], h⟩
    · rcases h5 with h | ⟨y, hy, h⟩
      · exact ⟨s, by simp, h⟩
      · exact ⟨y, by simp [hy], h⟩
theorem spanOf_congr {l m : List (Nat × Nat)} (e : ∀ k, k ∈ l ↔ k ∈ m) : spanOf l = spanOf m := by
  by_cases hl : l = []
  · subst hl
    have : m = [] := List.eq_nil_iff_forall_not_mem.mpr fun k hk => by simpa using (e k).mpr hk
    rw [this]
  · have hm : m ≠ [] := fun q => hl (List.eq_nil_iff_forall_not_mem.mpr fun k hk => by rw [q] at e; simpa using (e k).mp hk)
    obtain ⟨a1, ⟨y1, b1, c1⟩, ⟨z1, d1, e1⟩⟩ := spanOf_spec hl
    obtain ⟨a2, ⟨y2, b2, c2⟩, ⟨z2, d2, e2⟩⟩ := spanOf_spec hm
    have q1 := a1 y2 ((e y2).mpr b2)
    have q2 := a2 y1 ((e y1).mp b1)
    have q3 := a1 z2 ((e z2).mpr d2)
    have q4 := a2 z1 ((e z1).mp d1)
    exact Prod.ext (by omega) (by omega)

/-! ## the values of two drawings alike -/
theorem lines_nil_iff (d : Drawing) : lines d = [] ↔ ∀ d', ¬ Step d d' := by
  constructor
  · intro h d' s
    obtain ⟨x, hx, _⟩ := step_line s
    rw [h] at hx; simp at hx
  · intro h
    exact List.eq_nil_iff_forall_not_mem.mpr fun x hx => h _ (line_step hx)
theorem alike_nil {d e : Drawing} (S : Alike d e) : lines d = [] ↔ lines e = [] := by
  rw [lines_nil_iff, lines_nil_iff]
  constructor
  · intro h e' s; obtain ⟨d', s', _⟩ := sim_back S s; exact h d' s'
  · intro h d' s; obtain ⟨e', s', _⟩ := sim_step S s; exact h e' s'
/-- a value that hangs on the drawings behind -/
theorem behind_iff {α : Type} {F : Drawing → α} {d e : Drawing} (S : Alike d e) (h : ∀ d' e', Alike d' e' → F d' = F e') (v : α) :
    v ∈ ((lines d).map fun x => F (drawn d x)) ↔ v ∈ ((lines e).map fun x => F (drawn e x)) := by
  simp only [List.mem_map]
  constructor
  · rintro ⟨x, hx, rfl⟩
    obtain ⟨e', s', S'⟩ := sim_step S (line_step hx)
    obtain ⟨y, hy, rfl⟩ := step_line s'
    exact ⟨y, hy, (h _ _ S').symm⟩
  · rintro ⟨x, hx, rfl⟩
    obtain ⟨d', s', S'⟩ := sim_back S (line_step hx)
    obtain ⟨y, hy, rfl⟩ := step_line s'
    exact ⟨y, hy, h _ _ S'⟩
theorem wins_alike (about : Bool) : ∀ (f : Nat) (d e : Drawing), Alike d e → wins about f d = wins about f e
  | 0, d, e, _ => rfl
  | f + 1, d, e, S => by
    have b := behind_iff (F := fun d => wins about f d) S (fun d' e' S' => wins_alike about f d' e' S') false
    show (if (lines d).isEmpty = true then about else (lines d).any fun x => !wins about f (drawn d x)) = (if (lines e).isEmpty = true then about else (lines e).any fun x => !wins about f (drawn e x))
    have q := alike_nil S
    have e1 : (lines d).isEmpty = (lines e).isEmpty := by rw [Bool.eq_iff_iff]; simp [q]
    have e2 : (lines d).any (fun x => !wins about f (drawn d x)) = (lines e).any (fun x => !wins about f (drawn e x)) := by
      rw [Bool.eq_iff_iff]
      simp only [List.mem_map] at b
      simp only [List.any_eq_true, Bool.not_eq_true']
      exact b
    rw [e1, e2]
theorem worth_alike : ∀ (f : Nat) (d e : Drawing), Alike d e → worth f d = worth f e
  | 0, d, e, _ => rfl
  | f + 1, d, e, S => least_unique (behind_iff (F := fun d => worth f d) S fun d' e' S' => worth_alike f d' e' S') (leastNot_spec _) (leastNot_spec _)
theorem span_alike : ∀ (f : Nat) (d e : Drawing), Alike d e → span f d = span f e
  | 0, d, e, _ => rfl
  | f + 1, d, e, S => by
    rw [span_succ, span_succ]
    exact spanOf_congr (behind_iff (F := fun d => span f d) S fun d' e' S' => span_alike f d' e' S')

/-! ## the first number is enough -/
theorem step_lives {d d' : Drawing} (h : Step d d') : allLives d' + 1 = allLives d := by
  cases h with
  | join hr hm => exact allLives_ends2 hm
  | self hr s1 s2 hm => exact allLives_ends2 hm
  | part hr s1 s2 hm => exact allLives_ends2 hm
theorem line_lives {d : Drawing} {x : Line} (h : x ∈ lines d) : allLives (drawn d x) + 1 = allLives d := step_lives (line_step h)
theorem lines_zero {d : Drawing} (h : allLives d = 0) : lines d = [] := by
  refine List.eq_nil_iff_forall_not_mem.mpr fun x hx => ?_
  have := line_lives hx; omega
theorem wins_fuel (about : Bool) : ∀ (n f g : Nat) (d : Drawing), allLives d ≤ n → n ≤ f → n ≤ g → wins about f d = wins about g d
  | n, f, g, d, hd, hf, hg => by
    by_cases hl : lines d = []
    · have z : ∀ k, wins about k d = about := fun k => by
        cases k with
        | zero => rfl
        | succ k => show (if (lines d).isEmpty = true then about else _) = about; rw [hl]; rfl
      rw [z, z]
    · cases n with
      | zero => exact absurd (lines_zero (by omega)) hl
      | succ n =>
        cases f with
        | zero => omega
        | succ f =>
          cases g with
          | zero => omega
          | succ g =>
            show (if (lines d).isEmpty = true then about else (lines d).any fun x => !wins about f (drawn d x)) = (if (lines d).isEmpty = true then about else (lines d).any fun x => !wins about g (drawn d x))
            have : (lines d).any (fun x => !wins about f (drawn d x)) = (lines d).any (fun x => !wins about g (drawn d x)) := by
              rw [Bool.eq_iff_iff, List.any_eq_true, List.any_eq_true]
              constructor
              · rintro ⟨x, hx, h⟩
                have := line_lives hx
                exact ⟨x, hx, by rw [wins_fuel about n g f _ (by omega) (by omega) (by omega)]; exact h⟩
              · rintro ⟨x, hx, h⟩
                have := line_lives hx
                exact ⟨x, hx, by rw [wins_fuel about n f g _ (by omega) (by omega) (by omega)]; exact h⟩
            rw [this]
theorem worth_fuel : ∀ (n f g : Nat) (d : Drawing), allLives d ≤ n → n ≤ f → n ≤ g → worth f d = worth g d
  | n, f, g, d, hd, hf, hg => by
    by_cases hl : lines d = []
    · have z : ∀ k, worth k d = 0 := fun k => by
        cases k with
        | zero => rfl
        | succ k => show leastNot _ = 0; rw [hl]; rfl
      rw [z, z]
    · cases n with
      | zero => exact absurd (lines_zero (by omega)) hl
      | succ n =>
        cases f with
        | zero => omega
        | succ f =>
          cases g with
          | zero => omega
          | succ g =>
            show leastNot _ = leastNot _
            congr 1
            apply List.map_congr_left
            intro x hx
            have := line_lives hx
            exact worth_fuel n f g _ (by omega) (by omega) (by omega)
theorem span_fuel : ∀ (n f g : Nat) (d : Drawing), allLives d ≤ n → n ≤ f → n ≤ g → span f d = span g d
  | n, f, g, d, hd, hf, hg => by
    by_cases hl : lines d = []
    · have z : ∀ k, span k d = (0, 0) := fun k => by
        cases k with
        | zero => rfl
        | succ k => rw [span_succ, hl]; rfl
      rw [z, z]
    · cases n with
      | zero => exact absurd (lines_zero (by omega)) hl
      | succ n =>
        cases f with
        | zero => omega
        | succ f =>
          cases g with
          | zero => omega
          | succ g =>
            rw [span_succ, span_succ]
            congr 1
            apply List.map_congr_left
            intro x hx
            have := line_lives hx
            exact span_fuel n f g _ (by omega) (by omega) (by omega)

/-! ## the values -/
def winsV (about : Bool) (d : Drawing) : Bool := wins about (allLives d) d
def worthV (d : Drawing) : Nat := worth (allLives d) d
def spanV (d : Drawing) : Nat × Nat := span (allLives d) d
theorem winsV_eq {about : Bool} {f : Nat} {d : Drawing} (h : allLives d ≤ f) : wins about f d = winsV about d := wins_fuel about (allLives d) f _ d (Nat.le_refl _) h (Nat.le_refl _)
theorem worthV_eq {f : Nat} {d : Drawing} (h : allLives d ≤ f) : worth f d = worthV d := worth_fuel (allLives d) f _ d (Nat.le_refl _) h (Nat.le_refl _)
theorem spanV_eq {f : Nat} {d : Drawing} (h : allLives d ≤ f) : span f d = spanV d := span_fuel (allLives d) f _ d (Nat.le_refl _) h (Nat.le_refl _)
theorem winsV_alike {about : Bool} {d e : Drawing} (S : Alike d e) : winsV about d = winsV about e := by
  have h1 : allLives d ≤ allLives d + allLives e := by omega
  have h2 : allLives e ≤ allLives d + allLives e := by omega
  rw [← winsV_eq h1, ← winsV_eq h2]; exact wins_alike about _ d e S
theorem worthV_alike {d e : Drawing} (S : Alike d e) : worthV d = worthV e := by
  have h1 : allLives d ≤ allLives d + allLives e := by omega
  have h2 : allLives e ≤ allLives d + allLives e := by omega
  rw [← worthV_eq h1, ← worthV_eq h2]; exact worth_alike _ d e S
theorem spanV_alike {d e : Drawing} (S : Alike d e) : spanV d = spanV e := by
  have h1 : allLives d ≤ allLives d + allLives e := by omega
  have h2 : allLives e ≤ allLives d + allLives e := by omega
  rw [← spanV_eq h1, ← spanV_eq h2]; exact span_alike _ d e S
/-- one turn -/
theorem winsV_turn (about : Bool) (d : Drawing) : winsV about d = if lines d = [] then about else !((lines d).all fun x => winsV about (drawn d x)) := by
  rw [← winsV_eq (f := allLives d + 1) (by omega)]
  show (if (lines d).isEmpty = true then about else (lines d).any fun x => !wins about (allLives d) (drawn d x)) = _
  have e : (lines d).any (fun x => !wins about (allLives d) (drawn d x)) = !((lines d).all fun x => winsV about (drawn d x)) := by
    rw [List.not_all_eq_any_not, Bool.eq_iff_iff, List.any_eq_true, List.any_eq_true]
    constructor
    · rintro ⟨x, hx, h⟩
      have := line_lives hx
      exact ⟨x, hx, by rw [← winsV_eq (f := allLives d) (by omega)]; exact h⟩
    · rintro ⟨x, hx, h⟩
      have := line_lives hx
      exact ⟨x, hx, by rw [winsV_eq (by omega)]; exact h⟩
  rw [e]
  by_cases c : lines d = []
  · simp [c]
  · simp [c]
theorem worthV_turn (d : Drawing) : worthV d = leastNot ((lines d).map fun x => worthV (drawn d x)) := by
  rw [← worthV_eq (f := allLives d + 1) (by omega)]
  show leastNot _ = _
  congr 1
  apply List.map_congr_left
  intro x hx
  have := line_lives hx
  exact worthV_eq (by omega)
theorem spanV_turn (d : Drawing) : spanV d = spanOf ((lines d).map fun x => spanV (drawn d x)) := by
  rw [← spanV_eq (f := allLives d + 1) (by omega), span_succ]
  congr 1
  apply List.map_congr_left
  intro x hx
  have := line_lives hx
  exact spanV_eq (by omega)
theorem winner_eq (about : Bool) (d : Drawing) : winner about d = (lines d).find? fun x => !winsV about (drawn d x) := by
  unfold winner
  apply find_congr
  intro x hx
  have := line_lives hx
  rw [winsV_eq (by omega)]
end Sg

/-! ### text SgG -/
namespace Sg
open Uw61

/-! ## lean drawings -/
def shownAs (d : Drawing) (ns : List Nat) (x : Nat) : Nat × List Nat :=
  if lives d x = 0 then (0, ns) else if x ∈ ns then (1 + ns.idxOf x, ns) else (1 + ns.length, ns ++ [x])
def shownRow (d : Drawing) : List Nat → List Nat → List Nat × List Nat
  | ns, [] => ([], ns)
  | ns, x :: l => ((shownAs d ns x).1 :: (shownRow d (shownAs d ns x).2 l).1, (shownRow d (shownAs d ns x).2 l).2)
def thin : Nat → List Nat → List Nat
  | _, [] => []
  | p, x :: r => if x = 0 ∧ p = 0 then thin 0 r else x :: thin x r
def cutEnd (f : List Nat) : List Nat := if 1 < f.length ∧ f.head? = some 0 ∧ f.getLast? = some 0 then f.dropLast else f
def thinned : List Nat → List Nat
  | [] => []
  | x :: r => cutEnd (x :: thin x r)
def liveB (d : Drawing) (l : List Nat) : Bool := l.any fun x => decide (0 < lives d x)
def openR (d : Drawing) (bs : List (List Nat)) : Bool := bs.flatten.any fun x => bs.flatten.any fun y => mayEnd d x y
def leanRows (d : Drawing) : List Nat → List (List Nat) → List (List Nat) × List Nat
  | ns, [] => ([], ns)
  | ns, l :: bs => (thinned (shownRow d ns l).1 :: (leanRows d (shownRow d ns l).2 bs).1, (leanRows d (shownRow d ns l).2 bs).2)
def leanRegs (d : Drawing) : List Nat → List (List (List Nat)) → List (List (List Nat)) × List Nat
  | ns, [] => ([], ns)
  | ns, bs :: rs => if openR d bs = true then ((leanRows d ns (bs.filter (liveB d))).1 :: (leanRegs d (leanRows d ns (bs.filter (liveB d))).2 rs).1, (leanRegs d (leanRows d ns (bs.filter (liveB d))).2 rs).2)
    else leanRegs d ns rs
def namesOf (d : Drawing) : List Nat := (leanRegs d [] d.regions).2
def leanOf (d : Drawing) : Drawing := ⟨3 :: (namesOf d).map (fun x => d.ends.getD x 3), (leanRegs d [] d.regions).1⟩
/-- a spot's number, by all names -/
def nm (d : Drawing) (N : List Nat) (x : Nat) : Nat := if lives d x = 0 then 0 else 1 + N.idxOf x

theorem idxOf_pre {N M : List Nat} {x : Nat} (h : N <+: M) (hx : x ∈ N) : M.idxOf x = N.idxOf x := by
  obtain ⟨t, rfl⟩ := h
  rw [List.idxOf_append, if_pos hx]
/-- what names become -/
structure Grow (d : Drawing) (S : Nat → Prop) (ns ns' : List Nat) : Prop where
  pre : ns <+: ns'
  new : ∀ x ∈ ns', x ∈ ns ∨ (S x ∧ 0 < lives d x)
  nd : ns.Nodup → ns'.Nodup
  has : ∀ x, S x → 0 < lives d x → x ∈ ns'
theorem Grow.seq {d : Drawing} {S T : Nat → Prop} {a b c : List Nat} (h : Grow d S a b) (h' : Grow d T b c) : Grow d (fun x => S x ∨ T x) a c where
  pre := h.pre.trans h'.pre
  new := fun x hx => by
    rcases h'.new x hx with q | ⟨q, l⟩
    · rcases h.new x q with q | ⟨q, l⟩
      · exact Or.inl q
      · exact Or.inr ⟨Or.inl q, l⟩
    · exact Or.inr ⟨Or.inr q, l⟩
  nd := fun q => h'.nd (h.nd q)
  has := fun x hx l => by
    rcases hx with q | q
    · exact h'.pre.subset (h.has x q l)
    · exact h'.has x q l
theorem Grow.congr {d : Drawing} {S T : Nat → Prop} {a b : List Nat} (h : Grow d S a b) (e : ∀ x, S x ↔ T x) : Grow d T a b :=
  ⟨h.pre, fun x hx => (h.new x hx).imp id fun q => ⟨(e x).mp q.1, q.2⟩, h.nd, fun x hx => h.has x ((e x).mpr hx)⟩
theorem Grow.refl (d : Drawing) (a : List Nat) : Grow d (fun _ => False) a a := ⟨List.prefix_refl _, fun x hx => Or.inl hx, id, fun x h => h.elim⟩
theorem shownAs_grow (d : Drawing) (ns : List Nat) (x : Nat) : Grow d (fun y => y = x) ns (shownAs d ns x).2 := by
  unfold shownAs
  by_cases h : lives d x = 0
  · rw [if_pos h]
    exact ⟨List.prefix_refl _, fun y hy => Or.inl hy, id, fun y e l => by subst e; omega⟩
  · rw [if_neg h]
    by_cases c : x ∈ ns
    · rw [if_pos c]
      exact ⟨List.prefix_refl _, fun y hy => Or.inl hy, id, fun y e l => by subst e; exact c⟩
    · rw [if_neg c]
      refine ⟨List.prefix_append _ _, fun y hy => ?_, fun q => ?_, fun y e l => by subst e; simp⟩
      · rcases List.mem_append.mp hy with q | q
        · exact Or.inl q
        · have e := List.mem_singleton.mp q
          exact Or.inr ⟨e, by rw [e]; omega⟩
      · exact List.nodup_append.mpr ⟨q, by simp, fun a ha b hb e => by rw [List.mem_singleton] at hb; subst hb; subst e; exact c ha⟩
theorem shownAs_nm {d : Drawing} {ns N : List Nat} {x : Nat} (h : (shownAs d ns x).2 <+: N) : (shownAs d ns x).1 = nm d N x := by
  unfold shownAs nm at *
  by_cases c : lives d x = 0
  · rw [if_pos c, if_pos c]
  · rw [if_neg c] at h
    rw [if_neg c, if_neg c]
    by_cases e : x ∈ ns
    · rw [if_pos e] at h ⊢
      show 1 + ns.idxOf x = 1 + N.idxOf x
      rw [idxOf_pre h e]
    · rw [if_neg e] at h ⊢
      show 1 + ns.length = 1 + N.idxOf x
      have : N.idxOf x = (ns ++ [x]).idxOf x := idxOf_pre h (by simp)
      rw [this, List.idxOf_append, if_neg e]; simp
theorem shownRow_grow (d : Drawing) : ∀ (l ns : List Nat), Grow d (fun y => y ∈ l) ns (shownRow d ns l).2
  | [], ns => (Grow.refl d ns).congr fun x => by simp
  | x :: l, ns => ((shownAs_grow d ns x).seq (shownRow_grow d l _)).congr fun y => by simp
theorem shownRow_nm {d : Drawing} : ∀ {l ns N : List Nat}, (shownRow d ns l).2 <+: N → (shownRow d ns l).1 = l.map (nm d N)
  | [], ns, N, _ => rfl
  | x :: l, ns, N, h => by
    show (shownAs d ns x).1 :: (shownRow d (shownAs d ns x).2 l).1 = nm d N x :: l.map (nm d N)
    have h' : (shownRow d (shownAs d ns x).2 l).2 <+: N := h
    rw [shownAs_nm ((shownRow_grow d l _).pre.trans h'), shownRow_nm h']
theorem leanRows_grow (d : Drawing) : ∀ (bs : List (List Nat)) (ns : List Nat), Grow d (fun y => y ∈ bs.flatten) ns (leanRows d ns bs).2
  | [], ns => (Grow.refl d ns).congr fun x => by simp
  | l :: bs, ns => ((shownRow_grow d l ns).seq (leanRows_grow d bs _)).congr fun y => by simp
theorem leanRows_nm {d : Drawing} : ∀ {bs : List (List Nat)} {ns N : List Nat}, (leanRows d ns bs).2 <+: N → (leanRows d ns bs).1 = bs.map fun l => thinned (l.map (nm d N))
  | [], ns, N, _ => rfl
  | l :: bs, ns, N, h => by
    show thinned (shownRow d ns l).1 :: (leanRows d (shownRow d ns l).2 bs).1 = thinned (l.map (nm d N)) :: bs.map _
    have h' : (leanRows d (shownRow d ns l).2 bs).2 <+: N := h
    rw [shownRow_nm ((leanRows_grow d bs _).pre.trans h'), leanRows_nm h']
theorem leanRegs_grow (d : Drawing) : ∀ (rs : List (List (List Nat))) (ns : List Nat), Grow d (fun y => ∃ bs ∈ rs, openR d bs = true ∧ ∃ l ∈ bs, liveB d l = true ∧ y ∈ l) ns (leanRegs d ns rs).2
  | [], ns => (Grow.refl d ns).congr fun x => by simp
  | bs :: rs, ns => by
    unfold leanRegs
    by_cases c : openR d bs = true
    · rw [if_pos c]
      refine ((leanRows_grow d (bs.filter (liveB d)) ns).seq (leanRegs_grow d rs _)).congr fun y => ?_
      simp only [List.mem_flatten, List.mem_filter, List.mem_cons, exists_eq_or_imp, c, true_and]
      constructor
      · rintro (⟨l, ⟨h1, h2⟩, h3⟩ | h)
        · exact Or.inl ⟨l, h1, h2, h3⟩
        · exact Or.inr h
      · rintro (⟨l, h1, h2, h3⟩ | h)
        · exact Or.inl ⟨l, ⟨h1, h2⟩, h3⟩
        · exact Or.inr h
    · rw [if_neg c]
      refine (leanRegs_grow d rs ns).congr fun y => ?_
      simp [c]
theorem leanRegs_nm {d : Drawing} : ∀ {rs : List (List (List Nat))} {ns N : List Nat}, (leanRegs d ns rs).2 <+: N → (leanRegs d ns rs).1 = (rs.filter (openR d)).map fun bs => (bs.filter (liveB d)).map fun l => thinned (l.map (nm d N))
  | [], ns, N, _ => rfl
  | bs :: rs, ns, N, h => by
    unfold leanRegs at h ⊢
    by_cases c : openR d bs = true
    · rw [if_pos c] at h ⊢
      rw [List.filter_cons_of_pos c, List.map_cons]
      show (leanRows d ns (bs.filter (liveB d))).1 :: _ = _
      rw [leanRows_nm ((leanRegs_grow d rs _).pre.trans h), leanRegs_nm h]
    · rw [if_neg c] at h ⊢
      rw [List.filter_cons_of_neg c]
      exact leanRegs_nm h
theorem leanOf_regions (d : Drawing) : (leanOf d).regions = (d.regions.filter (openR d)).map fun bs => (bs.filter (liveB d)).map fun l => thinned (l.map (nm d (namesOf d))) := leanRegs_nm (List.prefix_refl _)
theorem namesOf_nodup (d : Drawing) : (namesOf d).Nodup := (leanRegs_grow d d.regions []).nd List.nodup_nil
theorem namesOf_alive {d : Drawing} {x : Nat} (h : x ∈ namesOf d) : 0 < lives d x := by
  rcases (leanRegs_grow d d.regions []).new x h with q | q
  · simp at q
  · exact q.2
theorem namesOf_has {d : Drawing} {bs : List (List Nat)} {l : List Nat} {x : Nat} (h1 : bs ∈ d.regions) (h2 : openR d bs = true) (h3 : l ∈ bs) (h4 : x ∈ l) (h5 : 0 < lives d x) : x ∈ namesOf d :=
  (leanRegs_grow d d.regions []).has x ⟨bs, h1, h2, l, h3, List.any_eq_true.mpr ⟨x, h4, decide_eq_true h5⟩, h4⟩ h5

/-! ### thinned -/
def nz (x : Nat) : Bool := decide (x ≠ 0)
theorem thin_nz : ∀ (p : Nat) (r : List Nat), (thin p r).filter nz = r.filter nz
  | _, [] => rfl
  | p, x :: r => by
    unfold thin
    by_cases h : x = 0 ∧ p = 0
    · rw [if_pos h, thin_nz 0 r, List.filter_cons_of_neg (by simp [nz, h.1])]
    · rw [if_neg h, List.filter_cons, List.filter_cons, thin_nz x r]
theorem cutEnd_cases (f : List Nat) : cutEnd f = f ∨ ∃ g, 1 ≤ g.length ∧ f = g ++ [0] ∧ cutEnd f = g := by
  unfold cutEnd
  by_cases h : 1 < f.length ∧ f.head? = some 0 ∧ f.getLast? = some 0
  · rw [if_pos h]
    have e : f ≠ [] := fun q => by rw [q] at h; simp at h
    have l : f.getLast e = 0 := by
      have := h.2.2
      rw [List.getLast?_eq_some_getLast e] at this
      exact Option.some.inj this
    refine Or.inr ⟨f.dropLast, by rw [List.length_dropLast]; omega, ?_, rfl⟩
    have := List.dropLast_concat_getLast e
    rw [l] at this; exact this.symm
  · rw [if_neg h]; exact Or.inl rfl
theorem thinned_nz (m : List Nat) : (thinned m).filter nz = m.filter nz := by
  cases m with
  | nil => rfl
  | cons x r =>
    have base : (x :: thin x r).filter nz = (x :: r).filter nz := by rw [List.filter_cons, List.filter_cons, thin_nz]
    rcases cutEnd_cases (x :: thin x r) with h | ⟨g, _, h1, h2⟩
    · show (cutEnd (x :: thin x r)).filter nz = _
      rw [h, base]
    · show (cutEnd (x :: thin x r)).filter nz = _
      rw [h2, ← base, h1, List.filter_append]; simp [nz]
theorem thin_zero : ∀ {p : Nat} {r : List Nat}, p ≠ 0 → 0 ∈ r → 0 ∈ thin p r
  | p, [], _, h => by simp at h
  | p, x :: r, hp, h => by
    unfold thin
    rw [if_neg (fun q => hp q.2)]
    by_cases e : x = 0
    · rw [e]; simp
    · rcases List.mem_cons.mp h with q | q
      · exact absurd q.symm e
      · exact List.mem_cons_of_mem _ (thin_zero e q)
theorem thinned_zero {m : List Nat} (h : 0 ∈ m) : 0 ∈ thinned m := by
  cases m with
  | nil => simp at h
  | cons x r =>
    show 0 ∈ cutEnd (x :: thin x r)
    by_cases e : x = 0
    · subst e
      rcases cutEnd_cases (0 :: thin 0 r) with q | ⟨g, h0, h1, h2⟩
      · rw [q]; simp
      · rw [h2]
        cases g with
        | nil => simp at h0
        | cons y g => injection h1 with h3 _; rw [← h3]; simp
    · have : cutEnd (x :: thin x r) = x :: thin x r := by
        unfold cutEnd; rw [if_neg]; simp [e]
      rw [this]
      rcases List.mem_cons.mp h with q | q
      · exact absurd q.symm e
      · exact List.mem_cons_of_mem _ (thin_zero e q)
theorem thinned_one {m : List Nat} (h : ∃ x ∈ m, x ≠ 0) : m.length = 1 ↔ (thinned m).length = 1 := by
  constructor
  · intro q
    obtain ⟨y, rfl⟩ := List.length_eq_one_iff.mp q
    rfl
  · intro q
    obtain ⟨y, hy⟩ := List.length_eq_one_iff.mp q
    have e := thinned_nz m
    rw [hy] at e
    obtain ⟨x, hx, hx0⟩ := h
    have hxm : x ∈ m.filter nz := List.mem_filter.mpr ⟨hx, decide_eq_true hx0⟩
    rw [← e] at hxm
    have hyx : x = y := by
      have := (List.mem_filter.mp hxm).1
      simpa using this
    have nz0 : 0 ∉ m := fun c => by
      have := thinned_zero c
      rw [hy] at this
      have : 0 = y := by simpa using this
      omega
    have full : m.filter nz = m := List.filter_eq_self.mpr fun z hz => decide_eq_true fun c => nz0 (c ▸ hz)
    rw [full] at e
    rw [← e]
    have : nz y = true := decide_eq_true (by omega)
    rw [List.filter_cons_of_pos this]; rfl
theorem thinned_mem {m : List Nat} {y : Nat} (h : y ∈ thinned m) : y ∈ m := by
  have th : ∀ (p : Nat) (r : List Nat), ∀ z ∈ thin p r, z ∈ r := by
    intro p r
    induction r generalizing p with
    | nil => intro z hz; simp [thin] at hz
    | cons x r ih =>
      intro z hz
      unfold thin at hz
      by_cases c : x = 0 ∧ p = 0
      · rw [if_pos c] at hz; exact List.mem_cons_of_mem _ (ih 0 z hz)
      · rw [if_neg c] at hz
        rcases List.mem_cons.mp hz with q | q
        · rw [q]; simp
        · exact List.mem_cons_of_mem _ (ih x z q)
  cases m with
  | nil => exact h
  | cons x r =>
    have h' : y ∈ x :: thin x r := by
      rcases cutEnd_cases (x :: thin x r) with q | ⟨g, _, h1, h2⟩
      · have h : y ∈ cutEnd (x :: thin x r) := h
        rw [q] at h; exact h
      · have h : y ∈ cutEnd (x :: thin x r) := h
        rw [h2] at h; rw [h1]; simp [h]
    rcases List.mem_cons.mp h' with q | q
    · rw [q]; simp
    · exact List.mem_cons_of_mem _ (th x r y q)
theorem thin_len : ∀ (p : Nat) (r : List Nat), (thin p r).length ≤ r.length
  | _, [] => by simp [thin]
  | p, x :: r => by
    unfold thin
    have h1 := thin_len 0 r
    have h2 := thin_len x r
    split <;> simp <;> omega
theorem thinned_len (m : List Nat) : (thinned m).length ≤ m.length := by
  cases m with
  | nil => simp [thinned]
  | cons x r =>
    have h2 := thin_len x r
    show (cutEnd (x :: thin x r)).length ≤ _
    rcases cutEnd_cases (x :: thin x r) with q | ⟨g, _, h1, h3⟩
    · rw [q]; simp; omega
    · have := congrArg List.length h1
      rw [h3]
      simp at this ⊢; omega
theorem thinned_ne {m : List Nat} (h : m ≠ []) : thinned m ≠ [] := by
  cases m with
  | nil => exact absurd rfl h
  | cons x r =>
    show cutEnd (x :: thin x r) ≠ []
    rcases cutEnd_cases (x :: thin x r) with q | ⟨g, h0, h1, h3⟩
    · rw [q]; simp
    · rw [h3]; intro c; rw [c] at h0; simp at h0

/-! ### a drawing and its lean one are alike -/
theorem lr_filter {α β : Type} {P : α → Prop} {Q : α → β → Prop} {p : α → Bool} {f : α → β} : ∀ {xs : List α}, (∀ x ∈ xs, p x = false → P x) → (∀ x ∈ xs, p x = true → Q x (f x)) → LR P Q xs ((xs.filter p).map f)
  | [], _, _ => .nil
  | x :: xs, h1, h2 => by
    have ih := lr_filter (fun y hy => h1 y (List.mem_cons_of_mem _ hy)) (fun y hy => h2 y (List.mem_cons_of_mem _ hy))
    cases c : p x with
    | true => rw [List.filter_cons_of_pos c, List.map_cons]; exact .both (h2 x (by simp) c) ih
    | false => rw [List.filter_cons_of_neg (by simp [c])]; exact .skip (h1 x (by simp) c) ih
/-- every spot on a border is there -/
def Within (d : Drawing) : Prop := ∀ bs ∈ d.regions, ∀ l ∈ bs, ∀ x ∈ l, x < d.ends.length
theorem closed_of {d : Drawing} {bs : List (List Nat)} (hw : ∀ l ∈ bs, ∀ x ∈ l, x < d.ends.length) (h : openR d bs = false) : ClosedR d bs := by
  refine ⟨fun x hx y hy => ?_, fun x hx => ?_⟩
  · unfold openR at h
    rw [List.any_eq_false] at h
    have := h x hx
    rw [Bool.not_eq_true, List.any_eq_false] at this
    have := this y hy
    simpa using this
  · obtain ⟨l, hl, hx⟩ := List.mem_flatten.mp hx
    exact hw l hl x hx
theorem lean_lives {d : Drawing} {x : Nat} (h : x ∈ namesOf d) : lives (leanOf d) (1 + (namesOf d).idxOf x) = lives d x := by
  unfold lives leanOf
  show 3 - (3 :: (namesOf d).map _).getD (1 + (namesOf d).idxOf x) 3 = _
  have hi : (namesOf d).idxOf x < (namesOf d).length := List.idxOf_lt_length_iff.mpr h
  rw [Nat.add_comm, List.getD_cons_succ, List.getD_eq_getElem?_getD, List.getElem?_map, List.getElem?_eq_getElem hi, List.getElem_idxOf hi]
  rfl
theorem lean_zero (d : Drawing) : lives (leanOf d) 0 = 0 := rfl
theorem lean_nm {d : Drawing} {x : Nat} (h : 0 < lives d x → x ∈ namesOf d) : lives (leanOf d) (nm d (namesOf d) x) = lives d x := by
  unfold nm
  by_cases c : lives d x = 0
  · rw [if_pos c, c]; rfl
  · rw [if_neg c]; exact lean_lives (h (by omega))
theorem nm_nz {d : Drawing} {N : List Nat} {x : Nat} : nz (nm d N x) = alive d x := by
  unfold nz nm alive
  by_cases c : lives d x = 0
  · rw [if_pos c, c]; rfl
  · rw [if_neg c]
    have : 1 ≤ lives d x := by omega
    simp [this]
theorem alike_lean {d : Drawing} (hw : Within d) : Alike d (leanOf d) := by
  refine ⟨fun x => 1 + (namesOf d).idxOf x, fun x => x ∈ namesOf d, ?_⟩
  refine ⟨fun x y hx hy e => ?_, fun x hx => lean_lives hx, fun x hx => lives_ge (namesOf_alive hx), fun x hx => ?_, ?_⟩
  · have h1 := List.getElem_idxOf (List.idxOf_lt_length_iff.mpr hx)
    have h2 := List.getElem_idxOf (List.idxOf_lt_length_iff.mpr hy)
    have e' : (namesOf d).idxOf x = (namesOf d).idxOf y := by omega
    have h3 : (namesOf d)[(namesOf d).idxOf x]? = some x := by rw [List.getElem?_eq_getElem (List.idxOf_lt_length_iff.mpr hx), h1]
    have h4 : (namesOf d)[(namesOf d).idxOf y]? = some y := by rw [List.getElem?_eq_getElem (List.idxOf_lt_length_iff.mpr hy), h2]
    rw [e', h4] at h3
    exact (Option.some.inj h3).symm
  · have := List.idxOf_lt_length_iff.mpr hx
    show 1 + _ < (3 :: (namesOf d).map _).length
    simp; omega
  · rw [leanOf_regions]
    refine lr_filter (fun bs hbs c => closed_of (hw bs hbs) c) fun bs hbs c => ?_
    refine lr_filter (fun l hl q => ?_) fun l hl q => ?_
    · intro x hx
      refine ⟨?_, hw bs hbs l hl x hx⟩
      unfold liveB at q
      rw [List.any_eq_false] at q
      have := q x hx
      unfold alive
      simp at this ⊢; omega
    · have hname : ∀ x ∈ l, 0 < lives d x → x ∈ namesOf d := fun x hx h => namesOf_has hbs c hl hx h
      have nl : ∀ y ∈ thinned (l.map (nm d (namesOf d))), y < (leanOf d).ends.length ∧ alive (leanOf d) y = nz y := fun y hy => by
        obtain ⟨x, hx, rfl⟩ := List.mem_map.mp (thinned_mem hy)
        refine ⟨?_, ?_⟩
        · show _ < (3 :: (namesOf d).map _).length
          unfold nm
          by_cases z : lives d x = 0
          · rw [if_pos z]; simp
          · rw [if_neg z]
            have := List.idxOf_lt_length_iff.mpr (hname x hx (by omega))
            simp; omega
        · rw [nm_nz]
          unfold alive
          rw [lean_nm (hname x hx)]
      refine ⟨⟨?_, fun x hx a => hname x hx (of_decide_eq_true a), fun x hx => hw bs hbs l hl x hx, fun y hy => (nl y hy).1⟩, ?_⟩
      · rw [List.filter_congr fun y hy => (nl y hy).2, thinned_nz, List.filter_map]
        have e1 : l.filter (nz ∘ nm d (namesOf d)) = l.filter (alive d) := List.filter_congr fun x _ => nm_nz
        rw [e1]
        apply List.map_congr_left
        intro x hx
        have := of_decide_eq_true (List.mem_filter.mp hx).2
        unfold nm
        rw [if_neg (by omega)]
      · obtain ⟨x, hx, hl⟩ := List.any_eq_true.mp q
        have hl := of_decide_eq_true hl
        rw [← thinned_one (m := l.map (nm d (namesOf d))) ⟨nm d (namesOf d) x, List.mem_map.mpr ⟨x, hx, rfl⟩, by unfold nm; rw [if_neg (by omega)]; omega⟩, List.length_map]
theorem sum_sub {f : Nat → Nat} : ∀ {N M : List Nat}, N.Nodup → (∀ x ∈ N, x ∈ M) → (N.map f).sum ≤ (M.map f).sum
  | [], M, _, _ => by simp
  | x :: N, M, hn, hs => by
    have hx : x ∈ M := hs x (by simp)
    have hn' := List.nodup_cons.mp hn
    have ih := sum_sub (f := f) (N := N) (M := M.erase x) hn'.2 fun y hy => by
      have ne : y ≠ x := fun q => hn'.1 (by rw [← q]; exact hy)
      exact (List.mem_erase_of_ne ne).mpr (hs y (by simp [hy]))
    have p := ((List.perm_cons_erase hx).map f).sum_nat
    rw [p]; simp; omega
theorem lean_allLives (d : Drawing) : allLives (leanOf d) ≤ allLives d := by
  rw [allLives_eq (leanOf d)]
  show ((3 :: (namesOf d).map fun x => d.ends.getD x 3).map (3 - ·)).sum ≤ _
  rw [List.map_cons, List.map_map, List.sum_cons]
  have e : allLives d = ((List.range d.ends.length).map (lives d)).sum := by unfold allLives; rw [sum_eq]
  rw [e]
  have := sum_sub (f := lives d) (namesOf_nodup d) (M := List.range d.ends.length) fun x hx => by simpa using lives_ge (namesOf_alive hx)
  have e2 : (namesOf d).map ((3 - ·) ∘ fun x => d.ends.getD x 3) = (namesOf d).map (lives d) := rfl
  rw [e2]; omega
end Sg

/-! ### text SgH -/
namespace Sg
open Uw61

/-! ## what holds of every drawing that is met -/
def total (d : Drawing) (x : Nat) : Nat := d.regions.flatten.flatten.count x
structure Fit (d : Drawing) : Prop where
  e3 : ∀ e ∈ d.ends, e ≤ 3
  wi : Within d
  ne : ∀ bs ∈ d.regions, ∀ l ∈ bs, l ≠ []
  b6 : ∀ bs ∈ d.regions, bs.length ≤ 6
  rg : d.regions.length + allLives d ≤ 19
  pl : ∀ bs ∈ d.regions, bs.flatten.length + 5 * allLives d ≤ 96
  en : d.ends.length + 3 * allLives d ≤ 100
  occ : ∀ x, 0 < lives d x → total d x ≤ max (d.ends.getD x 3) 1
  alone : ∀ bs ∈ d.regions, ∀ l ∈ bs, ∀ x ∈ l, d.ends.getD x 3 = 0 → l = [x]

theorem getD_le {l : List Nat} (h : ∀ e ∈ l, e ≤ 3) (x : Nat) : l.getD x 3 ≤ 3 := by
  rw [List.getD_eq_getElem?_getD]
  cases c : l[x]? with
  | none => simp
  | some e => exact h e (List.mem_of_getElem? c)
theorem mem_getD {l : List Nat} {e : Nat} (h : e ∈ l) : ∃ x, x < l.length ∧ l.getD x 3 = e := by
  obtain ⟨x, hx, he⟩ := List.getElem_of_mem h
  exact ⟨x, hx, by rw [List.getD_eq_getElem?_getD, List.getElem?_eq_getElem hx, he]; rfl⟩
theorem ends2_get {d : Drawing} {x y k : Nat} (h : k < d.ends.length) : (ends2 d x y).getD k 3 = d.ends.getD k 3 + (if k = x then 1 else 0) + (if k = y then 1 else 0) := by
  unfold ends2
  have h2 : k < (more (more d.ends x) y).length := by rw [more_length, more_length]; exact h
  rw [List.getD_eq_getElem?_getD, List.getElem?_append_left h2, ← List.getD_eq_getElem?_getD, more_get, more_get, more_length]
  by_cases a : k = x <;> by_cases b : k = y <;> simp_all
theorem ends2_new {d : Drawing} {x y : Nat} : (ends2 d x y).getD d.ends.length 3 = 2 := by
  unfold ends2
  rw [List.getD_eq_getElem?_getD, List.getElem?_append_right (by rw [more_length, more_length]; exact Nat.le_refl _), more_length, more_length]
  simp
theorem ends2_e3 {d : Drawing} {x y : Nat} (h : ∀ e ∈ d.ends, e ≤ 3) (hm : mayEnd d x y = true) : ∀ e ∈ ends2 d x y, e ≤ 3 := by
  intro e he
  obtain ⟨k, hk, rfl⟩ := mem_getD he
  rw [ends2_length] at hk
  by_cases c : k = d.ends.length
  · rw [c, ends2_new]; omega
  · rw [ends2_get (by omega)]
    have hx := lives_getD (mayEnd_left hm)
    have hy := lives_getD (mayEnd_right hm)
    have hk3 := getD_le h k
    by_cases a : k = x
    · by_cases b : k = y
      · have e : x = y := a.symm.trans b
        subst e
        have := mayEnd_two hm
        unfold lives at this
        rw [← a] at this
        simp only [a, if_true] at this ⊢; omega
      · rw [if_pos a, if_neg b]; rw [← a] at hx; omega
    · by_cases b : k = y
      · rw [if_neg a, if_pos b]; rw [← b] at hy; omega
      · rw [if_neg a, if_neg b]; omega
theorem ar_len (A : List Nat) (x : Nat) (B : List Nat) : (ar A x B).length ≤ A.length + B.length + 2 := by
  unfold ar; split <;> simp <;> omega
theorem ar_mem {A : List Nat} {x : Nat} {B : List Nat} {w : Nat} (h : w ∈ ar A x B) : w ∈ A ++ x :: B := by
  unfold ar at h
  split at h <;> simp at h ⊢ <;> (first | (rcases h with h | h | h | h <;> simp [h]) | simp [h])
theorem ar_count (A : List Nat) (x : Nat) (B : List Nat) (w : Nat) : (ar A x B).count w = (A ++ x :: B).count w + (if A.length + B.length = 0 then 0 else if x = w then 1 else 0) := by
  unfold ar
  split
  · rename_i h
    have hA : A = [] := List.length_eq_zero_iff.mp (by omega)
    have hB : B = [] := List.length_eq_zero_iff.mp (by omega)
    subst hA hB; simp
  · simp only [List.count_cons, List.count_append, List.count_nil]
    by_cases c : x = w
    · subst c; simp; omega
    · simp [c]; omega
theorem shuf_len {α : Type} {l c o : List α} (h : Shuf l c o) : c.length + o.length = l.length := by
  induction h with
  | nil => rfl
  | left _ ih => simp; omega
  | right _ ih => simp; omega
theorem shuf_mem {α : Type} {l c o : List α} (h : Shuf l c o) : (∀ x ∈ c, x ∈ l) ∧ ∀ x ∈ o, x ∈ l := by
  induction h with
  | nil => simp
  | left _ ih => exact ⟨fun x hx => by rcases List.mem_cons.mp hx with q | q; { simp [q] }; { simp [ih.1 x q] }, fun x hx => by simp [ih.2 x hx]⟩
  | right _ ih => exact ⟨fun x hx => by simp [ih.1 x hx], fun x hx => by rcases List.mem_cons.mp hx with q | q; { simp [q] }; { simp [ih.2 x q] }⟩
theorem shuf_flat {l c o : List (List Nat)} (h : Shuf l c o) : c.flatten.length + o.flatten.length = l.flatten.length := by
  induction h with
  | nil => rfl
  | left _ ih => simp at *; omega
  | right _ ih => simp at *; omega
theorem shuf_count {l c o : List (List Nat)} (h : Shuf l c o) (x : Nat) : c.flatten.count x + o.flatten.count x = l.flatten.count x := by
  induction h with
  | nil => rfl
  | left _ ih => simp only [List.flatten_cons, List.count_append] at *; omega
  | right _ ih => simp only [List.flatten_cons, List.count_append] at *; omega
theorem fit_ends (d : Drawing) {rs : List (List (List Nat))} {x y k : Nat} (h : 0 < lives ⟨ends2 d x y, rs⟩ k) (hk : k < d.ends.length) : 0 < lives d k := by
  rw [lives_old hk] at h; omega
theorem single_of {A B : List Nat} {x : Nat} (h : A ++ x :: B = [x]) : A.length + B.length = 0 := by
  have := congrArg List.length h
  simp at this; omega

theorem occ_num {t e a b : Nat} {p q : Prop} [Decidable p] [Decidable q] (o : t ≤ max e 1) (ha : p → e = 0 → a = 0) (hb : q → e = 0 → b = 0) :
    t + (if a = 0 then 0 else if p then 1 else 0) + (if b = 0 then 0 else if q then 1 else 0) + 0 ≤ max (e + (if p then 1 else 0) + (if q then 1 else 0)) 1 := by
  have s1 : (if a = 0 then 0 else if p then 1 else 0) ≤ (if p then 1 else 0 : Nat) ∧ ((if a = 0 then 0 else if p then 1 else 0 : Nat) = 1 → e ≠ 0) := by
    by_cases h1 : a = 0
    · rw [if_pos h1]; exact ⟨Nat.zero_le _, fun h => by omega⟩
    · rw [if_neg h1]
      refine ⟨Nat.le_refl _, fun h h5 => ?_⟩
      by_cases hp : p
      · exact h1 (ha hp h5)
      · rw [if_neg hp] at h; omega
  have s2 : (if b = 0 then 0 else if q then 1 else 0) ≤ (if q then 1 else 0 : Nat) ∧ ((if b = 0 then 0 else if q then 1 else 0 : Nat) = 1 → e ≠ 0) := by
    by_cases h1 : b = 0
    · rw [if_pos h1]; exact ⟨Nat.zero_le _, fun h => by omega⟩
    · rw [if_neg h1]
      refine ⟨Nat.le_refl _, fun h h5 => ?_⟩
      by_cases hp : q
      · exact h1 (hb hp h5)
      · rw [if_neg hp] at h; omega
  have t1 : (if p then 1 else 0 : Nat) ≤ 1 := by split <;> omega
  have t2 : (if q then 1 else 0 : Nat) ≤ 1 := by split <;> omega
  generalize (if a = 0 then 0 else if p then 1 else 0 : Nat) = u at *
  generalize (if b = 0 then 0 else if q then 1 else 0 : Nat) = v at *
  generalize (if p then 1 else 0 : Nat) = u' at *
  generalize (if q then 1 else 0 : Nat) = v' at *
  obtain ⟨a1, a2⟩ := s1
  obtain ⟨b1, b2⟩ := s2
  by_cases h5 : e = 0
  · have : u ≠ 1 := fun z => a2 z h5
    have : v ≠ 1 := fun z => b2 z h5
    omega
  · omega
theorem occ_num1 {t e a : Nat} {p : Prop} [Decidable p] (o : t ≤ max e 1) (ha : p → e = 0 → a = 0) :
    t + (if p then 1 else 0) + (if a = 0 then 0 else if p then 1 else 0) + 0 ≤ max (e + (if p then 1 else 0) + (if p then 1 else 0)) 1 := by
  by_cases hp : p
  · have := ha hp
    by_cases h1 : a = 0
    · rw [if_pos hp, if_pos h1]; omega
    · rw [if_pos hp, if_neg h1]; omega
  · by_cases h1 : a = 0
    · rw [if_neg hp, if_pos h1]; omega
    · rw [if_neg hp, if_neg h1]; omega
theorem ite_comm {x w : Nat} : (if w = x then 1 else 0) = (if x = w then 1 else 0 : Nat) := by
  by_cases h : w = x
  · rw [if_pos h, if_pos h.symm]
  · rw [if_neg h, if_neg (fun q => h q.symm)]
/-- a border that a line makes -/
def NewB (d : Drawing) (x y : Nat) (l : List Nat) : Prop := l ≠ [] ∧ ∀ w ∈ l, w = d.ends.length ∨ ∃ bs ∈ d.regions, ∃ m ∈ bs, w ∈ m ∧ (x ∈ m ∨ y ∈ m)
structure NewR (d : Drawing) (x y : Nat) (bs : List (List Nat)) : Prop where
  b6 : bs.length ≤ 6
  pl : bs.flatten.length + 5 * allLives d ≤ 101
  ls : ∀ l ∈ bs, (∃ bs' ∈ d.regions, l ∈ bs') ∨ NewB d x y l
theorem total_new {d : Drawing} (F : Fit d) : total d d.ends.length = 0 := by
  unfold total
  refine List.count_eq_zero.mpr fun q => ?_
  obtain ⟨l, hl', hq⟩ := List.mem_flatten.mp q
  obtain ⟨bs, hbs, hl'⟩ := List.mem_flatten.mp hl'
  have := F.wi bs hbs l hl' _ hq
  omega
theorem fit_mk {d : Drawing} {x y : Nat} {rs : List (List (List Nat))} (F : Fit d) (hm : mayEnd d x y = true) (hn : ∀ bs ∈ rs, bs ∈ d.regions ∨ NewR d x y bs) (hlen : rs.length ≤ d.regions.length + 1)
    (hz : total ⟨ends2 d x y, rs⟩ d.ends.length ≤ 2) (ho : ∀ w, w < d.ends.length → 0 < lives d w → total ⟨ends2 d x y, rs⟩ w ≤ max (d.ends.getD w 3 + (if w = x then 1 else 0) + (if w = y then 1 else 0)) 1) : Fit ⟨ends2 d x y, rs⟩ := by
  have hl : allLives ⟨ends2 d x y, rs⟩ + 1 = allLives d := allLives_ends2 hm
  generalize hAL : allLives (⟨ends2 d x y, rs⟩ : Drawing) = AL at hl
  have g2 : ∀ {w : Nat}, (ends2 d x y).getD w 3 = 0 → w < d.ends.length ∧ ¬ w = x ∧ ¬ w = y ∧ d.ends.getD w 3 = 0 := by
    intro w e0
    have wl : w < d.ends.length := by
      by_cases c : w < d.ends.length
      · exact c
      · exfalso
        by_cases c2 : w = d.ends.length
        · rw [c2, ends2_new] at e0; omega
        · rw [List.getD_eq_getElem?_getD, List.getElem?_eq_none (by rw [ends2_length]; omega)] at e0
          simp at e0
    rw [ends2_get wl] at e0
    refine ⟨wl, fun q => ?_, fun q => ?_, by omega⟩
    · rw [if_pos q] at e0; omega
    · rw [if_pos q] at e0; omega
  refine ⟨ends2_e3 F.e3 hm, ?_, ?_, ?_, ?_, ?_, ?_, ?_, ?_⟩
  · intro bs hbs l hl' w hw
    show w < (ends2 d x y).length
    rw [ends2_length]
    rcases hn bs hbs with q | q
    · have := F.wi bs q l hl' w hw; omega
    · rcases q.ls l hl' with ⟨bs', h1, h2⟩ | q
      · have := F.wi bs' h1 l h2 w hw; omega
      · rcases q.2 w hw with z | ⟨bs', h1, m, h2, h3, _⟩
        · omega
        · have := F.wi bs' h1 m h2 w h3; omega
  · intro bs hbs l hl'
    rcases hn bs hbs with q | q
    · exact F.ne bs q l hl'
    · rcases q.ls l hl' with ⟨bs', h1, h2⟩ | q
      · exact F.ne bs' h1 l h2
      · exact q.1
  · intro bs hbs
    rcases hn bs hbs with q | q
    · exact F.b6 bs q
    · exact q.b6
  · rw [hAL]
    have := F.rg
    show rs.length + AL ≤ 19
    omega
  · intro bs hbs
    rw [hAL]
    rcases hn bs hbs with q | q
    · have := F.pl bs q; omega
    · have := q.pl; omega
  · rw [hAL]
    have := F.en
    show (ends2 d x y).length + _ ≤ _
    rw [ends2_length]; omega
  · intro w hw
    have wlt : w < (ends2 d x y).length := lives_ge (d := ⟨ends2 d x y, rs⟩) hw
    rw [ends2_length] at wlt
    by_cases c : w = d.ends.length
    · subst c
      show total _ _ ≤ max ((ends2 d x y).getD d.ends.length 3) 1
      rw [ends2_new]; omega
    · have wl : w < d.ends.length := by omega
      show total _ _ ≤ max ((ends2 d x y).getD w 3) 1
      rw [ends2_get wl]
      exact ho w wl (fit_ends d hw wl)
  · intro bs hbs l hl' w hw e0
    obtain ⟨wl, nx, ny, e1⟩ := g2 e0
    rcases hn bs hbs with q | q
    · exact F.alone bs q l hl' w hw e1
    · rcases q.ls l hl' with ⟨bs', h1, h2⟩ | q
      · exact F.alone bs' h1 l h2 w hw e1
      · exfalso
        rcases q.2 w hw with z | ⟨bs', h1, m, h2, h3, h4⟩
        · omega
        · have := F.alone bs' h1 m h2 w h3 e1
          subst this
          rcases h4 with z | z
          · exact nx (List.mem_singleton.mp z).symm
          · exact ny (List.mem_singleton.mp z).symm
theorem Fit.step {d d' : Drawing} (F : Fit d) (h : Step d d') : Fit d' := by
  have tz := total_new F
  cases h with
  | @join G1 G2 L1 L2 L3 A1 A2 B1 B2 x y hr hm =>
    have lx := lives_ge (mayEnd_left hm)
    have ly := lives_ge (mayEnd_right hm)
    have inR : L1 ++ (A1 ++ x :: A2) :: (L2 ++ (B1 ++ y :: B2) :: L3) ∈ d.regions := by rw [hr]; simp
    have al := F.alone _ inR
    have p1 := ar_len A1 x A2
    have p2 := ar_len B1 y B2
    have cnt : ∀ w, total ⟨ends2 d x y, G1 ++ (L1 ++ (L2 ++ L3) ++ [ar A1 x A2 ++ d.ends.length :: (ar B1 y B2 ++ [d.ends.length])]) :: G2⟩ w =
        total d w + (if A1.length + A2.length = 0 then 0 else if x = w then 1 else 0) + (if B1.length + B2.length = 0 then 0 else if y = w then 1 else 0) + (if d.ends.length = w then 2 else 0) := by
      intro w
      unfold total
      rw [hr]
      simp only [List.flatten_append, List.flatten_cons, List.flatten_nil, List.count_append, List.count_cons, List.count_nil, List.append_nil, ar_count, beq_iff_eq]
      by_cases c : d.ends.length = w <;> simp [c] <;> omega
    refine fit_mk F hm ?_ ?_ ?_ ?_
    · intro bs hbs
      simp only [List.mem_append, List.mem_cons] at hbs
      rcases hbs with q | q | q
      · exact Or.inl (by rw [hr]; simp [q])
      · subst q
        refine Or.inr ⟨?_, ?_, ?_⟩
        · have := F.b6 _ inR
          simp at this ⊢; omega
        · have := F.pl _ inR
          simp at this ⊢; omega
        · intro l hl
          rcases List.mem_append.mp hl with q | q
          · refine Or.inl ⟨_, inR, ?_⟩
            simp at q ⊢
            rcases q with q | q | q <;> simp [q]
          · rw [List.mem_singleton.mp q]
            refine Or.inr ⟨by simp, fun w hw => ?_⟩
            rcases List.mem_append.mp hw with z | z
            · exact Or.inr ⟨_, inR, A1 ++ x :: A2, by simp, ar_mem z, by simp⟩
            · rcases List.mem_cons.mp z with z | z
              · exact Or.inl z
              · rcases List.mem_append.mp z with z | z
                · exact Or.inr ⟨_, inR, B1 ++ y :: B2, by simp, ar_mem z, by simp⟩
                · exact Or.inl (List.mem_singleton.mp z)
      · exact Or.inl (by rw [hr]; simp [q])
    · rw [hr]; simp
    · rw [cnt, tz]
      have nx : ¬ x = d.ends.length := by omega
      have ny : ¬ y = d.ends.length := by omega
      simp [nx, ny]
    · intro w wl hw
      rw [cnt]
      have o := F.occ w hw
      have ax : x = w → d.ends.getD w 3 = 0 → A1.length + A2.length = 0 := fun e q => single_of (x := x) ((al _ (by simp) w (by simp [e]) q).trans (by rw [e]))
      have ay : y = w → d.ends.getD w 3 = 0 → B1.length + B2.length = 0 := fun e q => single_of (x := y) ((al _ (by simp) w (by simp [e]) q).trans (by rw [e]))
      have nz : ¬ d.ends.length = w := by omega
      rw [if_neg nz]
      rw [ite_comm (x := x), ite_comm (x := y)]
      exact occ_num o ax ay
  | @self G1 G2 L1 L2 C1 O1 C2 O2 A1 A2 x hr s1 s2 hm =>
    have lx := lives_ge (mayEnd_left hm)
    have inR : L1 ++ (A1 ++ x :: A2) :: L2 ∈ d.regions := by rw [hr]; simp
    have al := F.alone _ inR
    have p1 := ar_len A1 x A2
    have cnt : ∀ w, total ⟨ends2 d x x, (G1 ++ (C1 ++ C2 ++ [[x] ++ [d.ends.length]]) :: G2) ++ [O1 ++ O2 ++ [ar A1 x A2 ++ [d.ends.length]]]⟩ w =
        total d w + (if x = w then 1 else 0) + (if A1.length + A2.length = 0 then 0 else if x = w then 1 else 0) + (if d.ends.length = w then 2 else 0) := by
      intro w
      have c1 := shuf_count s1 w
      have c2 := shuf_count s2 w
      unfold total
      rw [hr]
      simp only [List.flatten_append, List.flatten_cons, List.flatten_nil, List.count_append, List.count_cons, List.count_nil, List.append_nil, ar_count, beq_iff_eq]
      by_cases c : d.ends.length = w <;> simp [c] <;> omega
    have old : ∀ l, (l ∈ C1 ∨ l ∈ C2 ∨ l ∈ O1 ∨ l ∈ O2) → ∃ bs' ∈ d.regions, l ∈ bs' := fun l h => ⟨_, inR, by
      rcases h with h | h | h | h
      · simp [(shuf_mem s1).1 l h]
      · simp [(shuf_mem s2).1 l h]
      · simp [(shuf_mem s1).2 l h]
      · simp [(shuf_mem s2).2 l h]⟩
    refine fit_mk F hm ?_ ?_ ?_ ?_
    · intro bs hbs
      simp only [List.mem_append, List.mem_cons, List.mem_singleton, List.not_mem_nil, or_false] at hbs
      have n1 := shuf_len s1; have n2 := shuf_len s2
      have m1 := shuf_flat s1; have m2 := shuf_flat s2
      have b6 := F.b6 _ inR
      have pl := F.pl _ inR
      rcases hbs with (q | q | q) | q
      · exact Or.inl (by rw [hr]; simp [q])
      · subst q
        refine Or.inr ⟨?_, ?_, ?_⟩
        · simp at b6 ⊢; omega
        · simp at pl m1 m2 ⊢; omega
        · intro l hl
          rcases List.mem_append.mp hl with q | q
          · exact Or.inl (old l (by rcases List.mem_append.mp q with z | z <;> simp [z]))
          · rw [List.mem_singleton.mp q]
            refine Or.inr ⟨by simp, fun w hw => ?_⟩
            simp at hw
            rcases hw with z | z
            · exact Or.inr ⟨_, inR, A1 ++ x :: A2, by simp, by simp [z], by simp⟩
            · exact Or.inl z
      · exact Or.inl (by rw [hr]; simp [q])
      · subst q
        refine Or.inr ⟨?_, ?_, ?_⟩
        · simp at b6 ⊢; omega
        · simp at pl m1 m2 ⊢; omega
        · intro l hl
          rcases List.mem_append.mp hl with q | q
          · exact Or.inl (old l (by rcases List.mem_append.mp q with z | z <;> simp [z]))
          · rw [List.mem_singleton.mp q]
            refine Or.inr ⟨by simp, fun w hw => ?_⟩
            rcases List.mem_append.mp hw with z | z
            · exact Or.inr ⟨_, inR, A1 ++ x :: A2, by simp, ar_mem z, by simp⟩
            · exact Or.inl (List.mem_singleton.mp z)
    · rw [hr]; simp; omega
    · rw [cnt, tz]
      have nx : ¬ x = d.ends.length := by omega
      simp [nx]
    · intro w wl hw
      rw [cnt]
      have o := F.occ w hw
      have ax : x = w → d.ends.getD w 3 = 0 → A1.length + A2.length = 0 := fun e q => single_of (x := x) ((al _ (by simp) w (by simp [e]) q).trans (by rw [e]))
      have nz : ¬ d.ends.length = w := by omega
      rw [if_neg nz]
      rw [ite_comm (x := x)]
      exact occ_num1 o ax
  | @part G1 G2 L1 L2 C1 O1 C2 O2 A1 A2 A3 x y hr s1 s2 hm =>
    have lx := lives_ge (mayEnd_left hm)
    have ly := lives_ge (mayEnd_right hm)
    have inR : L1 ++ (A1 ++ x :: (A2 ++ y :: A3)) :: L2 ∈ d.regions := by rw [hr]; simp
    have al := F.alone _ inR
    have cnt : ∀ w, total ⟨ends2 d x y, (G1 ++ (C1 ++ C2 ++ [(x :: (A2 ++ [y])) ++ [d.ends.length]]) :: G2) ++ [O1 ++ O2 ++ [(y :: A3 ++ (A1 ++ [x])) ++ [d.ends.length]]]⟩ w =
        total d w + (if x = w then 1 else 0) + (if y = w then 1 else 0) + (if d.ends.length = w then 2 else 0) := by
      intro w
      have c1 := shuf_count s1 w
      have c2 := shuf_count s2 w
      unfold total
      rw [hr]
      simp only [List.flatten_append, List.flatten_cons, List.flatten_nil, List.count_append, List.count_cons, List.count_nil, List.append_nil, beq_iff_eq]
      by_cases c : d.ends.length = w <;> simp [c] <;> omega
    have old : ∀ l, (l ∈ C1 ∨ l ∈ C2 ∨ l ∈ O1 ∨ l ∈ O2) → ∃ bs' ∈ d.regions, l ∈ bs' := fun l h => ⟨_, inR, by
      rcases h with h | h | h | h
      · simp [(shuf_mem s1).1 l h]
      · simp [(shuf_mem s2).1 l h]
      · simp [(shuf_mem s1).2 l h]
      · simp [(shuf_mem s2).2 l h]⟩
    refine fit_mk F hm ?_ ?_ ?_ ?_
    · intro bs hbs
      simp only [List.mem_append, List.mem_cons, List.mem_singleton, List.not_mem_nil, or_false] at hbs
      have n1 := shuf_len s1; have n2 := shuf_len s2
      have m1 := shuf_flat s1; have m2 := shuf_flat s2
      have b6 := F.b6 _ inR
      have pl := F.pl _ inR
      rcases hbs with (q | q | q) | q
      · exact Or.inl (by rw [hr]; simp [q])
      · subst q
        refine Or.inr ⟨?_, ?_, ?_⟩
        · simp at b6 ⊢; omega
        · simp at pl m1 m2 ⊢; omega
        · intro l hl
          rcases List.mem_append.mp hl with q | q
          · exact Or.inl (old l (by rcases List.mem_append.mp q with z | z <;> simp [z]))
          · rw [List.mem_singleton.mp q]
            refine Or.inr ⟨by simp, fun w hw => ?_⟩
            rcases List.mem_append.mp hw with z | z
            · refine Or.inr ⟨_, inR, A1 ++ x :: (A2 ++ y :: A3), by simp, ?_, by simp⟩
              simp at z ⊢
              rcases z with z | z | z <;> simp [z]
            · exact Or.inl (List.mem_singleton.mp z)
      · exact Or.inl (by rw [hr]; simp [q])
      · subst q
        refine Or.inr ⟨?_, ?_, ?_⟩
        · simp at b6 ⊢; omega
        · simp at pl m1 m2 ⊢; omega
        · intro l hl
          rcases List.mem_append.mp hl with q | q
          · exact Or.inl (old l (by rcases List.mem_append.mp q with z | z <;> simp [z]))
          · rw [List.mem_singleton.mp q]
            refine Or.inr ⟨by simp, fun w hw => ?_⟩
            rcases List.mem_append.mp hw with z | z
            · refine Or.inr ⟨_, inR, A1 ++ x :: (A2 ++ y :: A3), by simp, ?_, by simp⟩
              simp at z ⊢
              rcases z with z | z | z | z <;> simp [z]
            · exact Or.inl (List.mem_singleton.mp z)
    · rw [hr]; simp; omega
    · rw [cnt, tz]
      have nx : ¬ x = d.ends.length := by omega
      have ny : ¬ y = d.ends.length := by omega
      simp [nx, ny]
    · intro w wl hw
      rw [cnt]
      have o := F.occ w hw
      have big : ¬ A1 ++ x :: (A2 ++ y :: A3) = [w] := fun q => by have := congrArg List.length q; simp at this; omega
      have ax : x = w → d.ends.getD w 3 ≠ 0 := fun e q => big (al _ (by simp) w (by simp [e]) q)
      have ay : y = w → d.ends.getD w 3 ≠ 0 := fun e q => big (al _ (by simp) w (by simp [e]) q)
      have nz : ¬ d.ends.length = w := by omega
      rw [if_neg nz]
      rw [ite_comm (x := x), ite_comm (x := y)]
      generalize d.ends.getD w 3 = e at *
      by_cases ex : x = w
      · have := ax ex
        rw [if_pos ex]; omega
      · rw [if_neg ex]
        by_cases ey : y = w
        · have := ay ey
          rw [if_pos ey]; omega
        · rw [if_neg ey]; omega
theorem Fit.line {d : Drawing} {x : Line} (F : Fit d) (h : x ∈ lines d) : Fit (drawn d x) := F.step (line_step h)
end Sg

/-! ### text SgI -/
namespace Sg
open Uw61

/-! ## the first drawings, the lean ones -/
theorem nodup_count {l : List Nat} (x : Nat) : l.Nodup → l.count x ≤ 1 := by
  induction l with
  | nil => simp
  | cons a l ih =>
    intro h
    have h' := List.nodup_cons.mp h
    rw [List.count_cons]
    by_cases c : a = x
    · subst c
      rw [List.count_eq_zero.mpr h'.1]; simp
    · have := ih h'.2
      simp [c]; omega
theorem nodup_inj {l : List Nat} (h : l.Nodup) {i j : Nat} (hi : i < l.length) (hj : j < l.length) (e : l[i] = l[j]) : i = j := by
  have p := List.pairwise_iff_getElem.mp h
  rcases Nat.lt_trichotomy i j with q | q | q
  · exact absurd e (p i j hi hj q)
  · exact q
  · exact absurd e.symm (p j i hj hi q)
theorem sum_flat (l : List (List Nat)) : l.flatten.sum = (l.map List.sum).sum := by
  induction l with
  | nil => rfl
  | cons a l ih => rw [List.flatten_cons, List.sum_append, ih, List.map_cons, List.sum_cons]
theorem allLives_first (n : Nat) : allLives (first n) = 3 * n := by
  rw [allLives_eq]
  show ((List.replicate n 0).map (3 - ·)).sum = 3 * n
  rw [List.map_replicate]
  induction n with
  | zero => rfl
  | succ n ih => rw [List.replicate_succ, List.sum_cons, ih]; omega
theorem flat_single (l : List Nat) : (l.map fun x => [x]).flatten = l := by
  induction l with
  | nil => rfl
  | cons a l ih => simp [ih]
theorem fit_first {n : Nat} (h : n ≤ 6) : Fit (first n) := by
  have al := allLives_first n
  have g : ∀ x, x < n → (first n).ends.getD x 3 = 0 := fun x hx => by
    show (List.replicate n 0).getD x 3 = 0
    rw [List.getD_eq_getElem?_getD, List.getElem?_replicate, if_pos hx]; rfl
  refine ⟨fun e he => ?_, ?_, ?_, ?_, ?_, ?_, ?_, ?_, ?_⟩
  · rw [List.eq_of_mem_replicate he]; omega
  · intro bs hbs l hl x hx
    show x < (List.replicate n 0).length
    rw [List.length_replicate]
    rw [List.mem_singleton.mp hbs] at hl
    obtain ⟨y, hy, rfl⟩ := List.mem_map.mp hl
    rw [List.mem_singleton.mp hx]; simpa using hy
  · intro bs hbs l hl
    rw [List.mem_singleton.mp hbs] at hl
    obtain ⟨y, hy, rfl⟩ := List.mem_map.mp hl
    simp
  · intro bs hbs
    rw [List.mem_singleton.mp hbs]; simp [h]
  · rw [al]; show 1 + 3 * n ≤ 19; omega
  · intro bs hbs
    rw [List.mem_singleton.mp hbs, al, flat_single, List.length_range]; omega
  · rw [al]; show (List.replicate n 0).length + _ ≤ _; rw [List.length_replicate]; omega
  · intro x hx
    have hx' := lives_ge hx
    have hx' : x < (List.replicate n 0).length := hx'
    rw [List.length_replicate] at hx'
    rw [g x hx']
    show ([(List.range n).map fun x => [x]].flatten.flatten).count x ≤ 1
    rw [List.flatten_cons, List.flatten_nil, List.append_nil, flat_single]
    exact nodup_count x List.nodup_range
  · intro bs hbs l hl x hx _
    rw [List.mem_singleton.mp hbs] at hl
    obtain ⟨y, hy, rfl⟩ := List.mem_map.mp hl
    rw [List.mem_singleton.mp hx]
theorem first_zero : first 0 = empty := rfl
theorem fit_empty : Fit empty := first_zero ▸ fit_first (by omega)

theorem count_nz {l m : List Nat} {x : Nat} (h : l.filter nz = m.filter nz) (hx : x ≠ 0) : l.count x = m.count x := by
  have e : ∀ l : List Nat, (l.filter nz).count x = l.count x := fun l => List.count_filter (by show decide (x ≠ 0) = true; exact decide_eq_true hx)
  rw [← e l, ← e m, h]
theorem sum_filter_le {α : Type} {p : α → Bool} {f g : α → Nat} : ∀ {l : List α}, (∀ x ∈ l, p x = true → f x ≤ g x) → ((l.filter p).map f).sum ≤ (l.map g).sum
  | [], _ => by simp
  | a :: l, h => by
    have ih := sum_filter_le (p := p) (f := f) (g := g) (l := l) fun x hx => h x (List.mem_cons_of_mem _ hx)
    cases c : p a with
    | true =>
      rw [List.filter_cons_of_pos c]
      have := h a (by simp) c
      simp; omega
    | false => rw [List.filter_cons_of_neg (by simp [c])]; simp; omega
theorem flatten_length_sum {α : Type} (l : List (List α)) : l.flatten.length = (l.map List.length).sum := List.length_flatten
theorem flatten_count_sum (l : List (List Nat)) (x : Nat) : l.flatten.count x = (l.map (List.count x)).sum := List.count_flatten
theorem count_map_nm {d : Drawing} {N l : List Nat} {x : Nat} (hx : x ∈ N) (hl : 0 < lives d x) (hN : ∀ y ∈ l, 0 < lives d y → y ∈ N) : (l.map (nm d N)).count (1 + N.idxOf x) = l.count x := by
  induction l with
  | nil => rfl
  | cons y l ih =>
    rw [List.map_cons, List.count_cons, List.count_cons, ih fun z hz => hN z (List.mem_cons_of_mem _ hz)]
    congr 1
    have e : (nm d N y == 1 + N.idxOf x) = (y == x) := by
      rw [Bool.eq_iff_iff]
      simp only [beq_iff_eq]
      constructor
      · intro q
        unfold nm at q
        by_cases c : lives d y = 0
        · rw [if_pos c] at q; omega
        · rw [if_neg c] at q
          have hy := hN y (by simp) (by omega)
          have h1 := List.getElem_idxOf (List.idxOf_lt_length_iff.mpr hx)
          have h2 := List.getElem_idxOf (List.idxOf_lt_length_iff.mpr hy)
          have e' : N.idxOf y = N.idxOf x := by omega
          have h3 : N[N.idxOf x]? = some x := by rw [List.getElem?_eq_getElem (List.idxOf_lt_length_iff.mpr hx), h1]
          have h4 : N[N.idxOf y]? = some y := by rw [List.getElem?_eq_getElem (List.idxOf_lt_length_iff.mpr hy), h2]
          rw [e', h3] at h4
          exact (Option.some.inj h4).symm
      · intro q
        subst q
        unfold nm; rw [if_neg (by omega)]
    rw [e]
theorem lean_ends_get {d : Drawing} {k : Nat} (h : k < (namesOf d).length) : (leanOf d).ends.getD (1 + k) 3 = d.ends.getD (namesOf d)[k] 3 := by
  show (3 :: (namesOf d).map _).getD (1 + k) 3 = _
  rw [Nat.add_comm, List.getD_cons_succ, List.getD_eq_getElem?_getD, List.getElem?_map, List.getElem?_eq_getElem h]; rfl
theorem names_le (d : Drawing) : (namesOf d).length ≤ allLives (leanOf d) := by
  rw [allLives_eq]
  show _ ≤ ((3 :: (namesOf d).map fun x => d.ends.getD x 3).map (3 - ·)).sum
  rw [List.map_cons, List.map_map, List.sum_cons]
  have : ∀ (l : List Nat), (∀ x ∈ l, 0 < lives d x) → l.length ≤ (l.map ((3 - ·) ∘ fun x => d.ends.getD x 3)).sum := by
    intro l
    induction l with
    | nil => simp
    | cons a l ih =>
      intro h
      have h1 := ih fun x hx => h x (List.mem_cons_of_mem _ hx)
      have h2 := h a (by simp)
      unfold lives at h2
      rw [List.map_cons, List.sum_cons, List.length_cons]
      show l.length + 1 ≤ (3 - d.ends.getD a 3) + _
      omega
  have := this (namesOf d) fun x hx => namesOf_alive hx
  omega
theorem lean_ix {d : Drawing} (F : Fit d) {bs : List (List Nat)} (hbs : bs ∈ d.regions) (ho : openR d bs = true) {l : List Nat} (hl : l ∈ bs) : ∀ y ∈ l, 0 < lives d y → y ∈ namesOf d :=
  fun y hy h => namesOf_has hbs ho hl hy h
theorem fit_lean {d : Drawing} (F : Fit d) : Fit (leanOf d) := by
  have al := lean_allLives d
  have nl := names_le d
  have mem : ∀ bs' ∈ (leanOf d).regions, ∃ bs ∈ d.regions, openR d bs = true ∧ bs' = (bs.filter (liveB d)).map fun l => thinned (l.map (nm d (namesOf d))) := by
    intro bs' h
    rw [leanOf_regions] at h
    obtain ⟨bs, hb, rfl⟩ := List.mem_map.mp h
    obtain ⟨h1, h2⟩ := List.mem_filter.mp hb
    exact ⟨bs, h1, h2, rfl⟩
  have elen : (leanOf d).ends.length = 1 + (namesOf d).length := by show (3 :: (namesOf d).map _).length = _; simp; omega
  refine ⟨?_, ?_, ?_, ?_, ?_, ?_, ?_, ?_, ?_⟩
  · intro e he
    have he : e ∈ 3 :: (namesOf d).map fun x => d.ends.getD x 3 := he
    rcases List.mem_cons.mp he with q | q
    · omega
    · obtain ⟨x, _, rfl⟩ := List.mem_map.mp q
      exact getD_le F.e3 x
  · intro bs' hbs' l' hl' x hx
    obtain ⟨bs, hbs, ho, rfl⟩ := mem bs' hbs'
    obtain ⟨l, hl, rfl⟩ := List.mem_map.mp hl'
    have hl := (List.mem_filter.mp hl).1
    obtain ⟨y, hy, rfl⟩ := List.mem_map.mp (thinned_mem hx)
    rw [elen]
    unfold nm
    by_cases c : lives d y = 0
    · rw [if_pos c]; omega
    · rw [if_neg c]
      have := List.idxOf_lt_length_iff.mpr (lean_ix F hbs ho hl y hy (by omega))
      omega
  · intro bs' hbs' l' hl'
    obtain ⟨bs, hbs, ho, rfl⟩ := mem bs' hbs'
    obtain ⟨l, hl, rfl⟩ := List.mem_map.mp hl'
    have hl := (List.mem_filter.mp hl).1
    refine thinned_ne fun q => F.ne bs hbs l hl (List.map_eq_nil_iff.mp q)
  · intro bs' hbs'
    obtain ⟨bs, hbs, ho, rfl⟩ := mem bs' hbs'
    rw [List.length_map]
    exact Nat.le_trans (List.length_filter_le _ _) (F.b6 bs hbs)
  · have h1 := F.rg
    rw [leanOf_regions, List.length_map]
    have := List.length_filter_le (openR d) d.regions
    omega
  · intro bs' hbs'
    obtain ⟨bs, hbs, ho, rfl⟩ := mem bs' hbs'
    have h1 := F.pl bs hbs
    rw [flatten_length_sum] at h1 ⊢
    rw [List.map_map]
    have := sum_filter_le (p := liveB d) (f := List.length ∘ fun l => thinned (l.map (nm d (namesOf d)))) (g := List.length) (l := bs) fun l _ _ => by
      show (thinned (l.map (nm d (namesOf d)))).length ≤ l.length
      have := thinned_len (l.map (nm d (namesOf d)))
      rw [List.length_map] at this; exact this
    omega
  · have := F.rg
    rw [elen]; omega
  · intro x' hx'
    have hlt := lives_ge hx'
    rw [elen] at hlt
    have x0 : x' ≠ 0 := fun q => by rw [q, lean_zero] at hx'; omega
    obtain ⟨k, rfl⟩ : ∃ k, x' = 1 + k := ⟨x' - 1, by omega⟩
    have hk : k < (namesOf d).length := by omega
    rw [lean_ends_get hk]
    generalize hx : (namesOf d)[k] = x
    have xin : x ∈ namesOf d := by rw [← hx]; exact List.getElem_mem hk
    have xal := namesOf_alive xin
    have kidx : (namesOf d).idxOf x = k := by
      have h1 := List.getElem_idxOf (List.idxOf_lt_length_iff.mpr xin)
      exact nodup_inj (namesOf_nodup d) (List.idxOf_lt_length_iff.mpr xin) hk (by rw [h1, hx])
    refine Nat.le_trans ?_ (F.occ x xal)
    unfold total
    rw [leanOf_regions, flatten_count_sum, flatten_count_sum]
    have key : ((d.regions.filter (openR d)).map fun bs => (bs.filter (liveB d)).map fun l => thinned (l.map (nm d (namesOf d)))).flatten.map (List.count (1 + k)) =
        (((d.regions.filter (openR d)).map fun bs => ((bs.filter (liveB d)).map (List.count x))).flatten) := by
      rw [List.map_flatten, List.map_map]
      congr 1
      apply List.map_congr_left
      intro bs hbs
      obtain ⟨h1, h2⟩ := List.mem_filter.mp hbs
      show ((bs.filter (liveB d)).map fun l => thinned (l.map (nm d (namesOf d)))).map (List.count (1 + k)) = _
      rw [List.map_map]
      apply List.map_congr_left
      intro l hl
      have hl := (List.mem_filter.mp hl).1
      show (thinned (l.map (nm d (namesOf d)))).count (1 + k) = l.count x
      rw [count_nz (thinned_nz _) (by omega), ← kidx]
      exact count_map_nm xin xal (lean_ix F h1 h2 hl)
    rw [key, List.map_flatten, sum_flat, sum_flat, List.map_map, List.map_map]
    exact sum_filter_le (p := openR d) fun bs hbs _ => by
      show ((bs.filter (liveB d)).map (List.count x)).sum ≤ (bs.map (List.count x)).sum
      exact sum_filter_le fun _ _ _ => Nat.le_refl _
  · intro bs' hbs' l' hl' x' hx' e0
    obtain ⟨bs, hbs, ho, rfl⟩ := mem bs' hbs'
    obtain ⟨l, hl, rfl⟩ := List.mem_map.mp hl'
    have hl := (List.mem_filter.mp hl).1
    obtain ⟨y, hy, rfl⟩ := List.mem_map.mp (thinned_mem hx')
    by_cases c : lives d y = 0
    · have : nm d (namesOf d) y = 0 := by unfold nm; rw [if_pos c]
      rw [this] at e0
      have : (3 : Nat) = 0 := e0
      omega
    · have yin := lean_ix F hbs ho hl y hy (by omega)
      have hi := List.idxOf_lt_length_iff.mpr yin
      have e1 : nm d (namesOf d) y = 1 + (namesOf d).idxOf y := by unfold nm; rw [if_neg c]
      rw [e1, lean_ends_get hi, List.getElem_idxOf hi] at e0
      have := F.alone bs hbs l hl y hy e0
      subst this
      rfl
end Sg

/-! ### text SgJ -/
namespace Sg
open Uw61

/-! ## how many lines -/
theorem map_range {α : Type} (l : List α) (z : α) : (List.range l.length).map (fun i => l.getD i z) = l := by
  apply List.ext_getElem?
  intro k
  rw [List.getElem?_map]
  by_cases h : k < l.length
  · rw [List.getElem?_range h, List.getElem?_eq_getElem h]; simp [List.getD_eq_getElem?_getD, h]
  · rw [List.getElem?_eq_none (by simpa using Nat.le_of_not_lt h), List.getElem?_eq_none (by omega)]; rfl
theorem flatMap_range {α β : Type} (l : List α) (z : α) (f : α → List β) : (List.range l.length).flatMap (fun i => f (l.getD i z)) = l.flatMap f := by
  have := congrArg (fun m : List α => m.flatMap f) (map_range l z)
  simp only [List.flatMap_map] at this
  exact this
theorem places_spots (d : Drawing) (r : Nat) : (places d r).map (fun p => spotAt d r p.1 p.2) = (regionAt d r).flatten := by
  unfold places
  rw [List.map_flatMap]
  have e : ∀ a, ((List.range (borderAt d r a).length).map fun i => (a, i)).map (fun p => spotAt d r p.1 p.2) = borderAt d r a := fun a => by
    rw [List.map_map]
    exact map_range (borderAt d r a) 0
  simp only [e]
  have := flatMap_range (regionAt d r) [] (fun l => l)
  rw [show (regionAt d r).flatten = (regionAt d r).flatMap (fun l => l) by simp [List.flatMap]]
  exact this
/-- live places of a region -/
def lp (d : Drawing) (l : List Nat) : Nat := (l.filter (alive d)).length
theorem lp_append (d : Drawing) (l m : List Nat) : lp d (l ++ m) = lp d l + lp d m := by unfold lp; rw [List.filter_append, List.length_append]
theorem lp_cons (d : Drawing) (x : Nat) (l : List Nat) : lp d (x :: l) = (if alive d x = true then 1 else 0) + lp d l := by
  unfold lp
  rw [List.filter_cons]
  by_cases c : alive d x = true
  · rw [if_pos c, if_pos c]; simp; omega
  · rw [if_neg c, if_neg c]; omega
theorem filter_map_len {α β : Type} (f : α → β) (p : β → Bool) (l : List α) : ((l.map f).filter p).length = (l.filter (p ∘ f)).length := by
  rw [List.filter_map, List.length_map]
theorem sum_le_map {α : Type} {f g : α → Nat} : ∀ {l : List α}, (∀ x ∈ l, f x ≤ g x) → (l.map f).sum ≤ (l.map g).sum
  | [], _ => by simp
  | a :: l, h => by
    have := sum_le_map (f := f) (g := g) (l := l) fun x hx => h x (List.mem_cons_of_mem _ hx)
    have := h a (by simp)
    simp; omega
theorem sum_if {α : Type} (p : α → Bool) (c : Nat) : ∀ (l : List α), (l.map fun x => if p x = true then c else 0).sum = (l.filter p).length * c
  | [] => by simp
  | a :: l => by
    rw [List.map_cons, List.sum_cons, sum_if p c l, List.filter_cons]
    by_cases h : p a = true
    · rw [if_pos h, if_pos h, List.length_cons, Nat.add_mul]; omega
    · rw [if_neg h, if_neg h]; omega
theorem filter_sub_len {α : Type} {p q : α → Bool} {l : List α} (h : ∀ x ∈ l, p x = true → q x = true) : (l.filter p).length ≤ (l.filter q).length := by
  induction l with
  | nil => simp
  | cons a l ih =>
    have ih := ih fun x hx => h x (List.mem_cons_of_mem _ hx)
    rw [List.filter_cons, List.filter_cons]
    by_cases c : p a = true
    · rw [if_pos c, if_pos (h a (by simp) c)]; simp; omega
    · rw [if_neg c]
      split
      · simp; omega
      · exact ih
theorem joins_le (d : Drawing) (r : Nat) : (joinsIn d r).length ≤ lp d (regionAt d r).flatten * lp d (regionAt d r).flatten := by
  have u : lp d (regionAt d r).flatten = ((places d r).filter fun p => alive d (spotAt d r p.1 p.2)).length := by
    unfold lp
    rw [← places_spots, filter_map_len]; rfl
  unfold joinsIn
  rw [List.filter_flatMap, List.length_flatMap]
  refine Nat.le_trans (sum_le_map (g := fun p => if (alive d (spotAt d r p.1 p.2)) = true then lp d (regionAt d r).flatten else 0) fun p hp => ?_) ?_
  · rw [filter_map_len]
    by_cases c : alive d (spotAt d r p.1 p.2) = true
    · rw [if_pos c, u]
      rw [List.filter_filter]
      refine filter_sub_len fun q hq h => ?_
      simp only [Bool.and_eq_true, Function.comp] at h
      have h1 := h.1
      rw [canBe_eq] at h1
      exact decide_eq_true (mayEnd_right h1)
    · rw [if_neg c]
      refine Nat.le_of_eq (List.length_eq_zero_iff.mpr (List.filter_eq_nil_iff.mpr fun q hq h => ?_))
      simp only [Function.comp] at h
      rw [canBe_eq] at h
      exact c (decide_eq_true (mayEnd_left h))
  · rw [sum_if, u]
    exact Nat.le_refl _
theorem choices_len : ∀ (s : List Nat), (choices s).length = 2 ^ s.length
  | [] => rfl
  | x :: r => by
    rw [choices, List.length_flatMap]
    have : ∀ l : List (List Nat), (l.map fun s => [s, x :: s].length).sum = 2 * l.length := by
      intro l
      induction l with
      | nil => rfl
      | cons a l ih => rw [List.map_cons, List.sum_cons, ih]; simp; omega
    rw [this, choices_len r, List.length_cons, Nat.pow_succ]; omega
theorem others_len {k a : Nat} (h : a < k) : ((List.range k).filter fun b => b != a).length = k - 1 := by
  have e : ∀ n, ((List.range n).filter fun b => b != a).length = if a < n then n - 1 else n := by
    intro n
    induction n with
    | zero => rfl
    | succ n ih =>
      rw [List.range_succ, List.filter_append, List.length_append, ih]
      by_cases c : n = a
      · subst c
        rw [if_neg (by omega), if_pos (by omega)]; simp
      · by_cases c2 : a < n
        · rw [if_pos c2, if_pos (by omega)]; simp [c]; omega
        · rw [if_neg c2, if_neg (by omega)]; simp [c]
  rw [e, if_pos h]
/-- pairs of live places of a border, the first not behind the second -/
def tri : Nat → Nat
  | 0 => 0
  | n + 1 => (n + 1) + tri n
theorem tri_eq (n : Nat) : 2 * tri n = n * (n + 1) := by
  induction n with
  | zero => rfl
  | succ n ih =>
    show 2 * ((n + 1) + tri n) = _
    rw [Nat.mul_add, ih]
    simp only [Nat.add_mul, Nat.mul_add]; omega
theorem tri_add (a b : Nat) : tri a + tri b ≤ tri (a + b) := by
  have h1 := tri_eq a; have h2 := tri_eq b; have h3 := tri_eq (a + b)
  have e : (a + b) * (a + b + 1) = a * (a + 1) + b * (b + 1) + 2 * (a * b) := by
    simp only [Nat.add_mul, Nat.mul_add, Nat.mul_comm b a]; omega
  omega
theorem tri_mono {a b : Nat} (h : a ≤ b) : tri a ≤ tri b := by
  have := tri_add a (b - a)
  have e : a + (b - a) = b := by omega
  rw [e] at this; omega
/-- rows of a list's ends -/
theorem bows_le (d : Drawing) : ∀ (l : List Nat), ((List.range l.length).map fun i => if alive d (l.getD i 0) = true then lp d (l.drop i) else 0).sum ≤ tri (lp d l)
  | [] => by simp
  | x :: l => by
    have ih := bows_le d l
    rw [List.length_cons, List.range_succ_eq_map, List.map_cons, List.sum_cons, List.map_map]
    have e : (List.range l.length).map ((fun i => if alive d ((x :: l).getD i 0) = true then lp d ((x :: l).drop i) else 0) ∘ Nat.succ) = (List.range l.length).map fun i => if alive d (l.getD i 0) = true then lp d (l.drop i) else 0 := by
      apply List.map_congr_left
      intro i _
      rfl
    rw [e]
    show (if alive d x = true then lp d (x :: l) else 0) + _ ≤ _
    rw [lp_cons]
    by_cases c : alive d x = true
    · rw [if_pos c, if_pos c]
      show _ ≤ tri (1 + lp d l)
      rw [Nat.add_comm 1]
      show _ ≤ (lp d l + 1) + tri (lp d l)
      omega
    · rw [if_neg c, if_neg c, Nat.zero_add, Nat.zero_add]; exact ih
theorem drop_range_len {l : List Nat} {i : Nat} (p : Nat → Bool) : ((List.range l.length).filter fun j => decide (i ≤ j) && p (l.getD j 0)).length ≤ ((l.drop i).filter p).length := by
  induction l generalizing i with
  | nil => simp
  | cons x l ih =>
    rw [List.length_cons, List.range_succ_eq_map, List.filter_cons, List.filter_map, ]
    cases i with
    | zero =>
      have ih0 := ih (i := 0)
      rw [List.drop_zero, List.filter_cons]
      have e : (List.range l.length).filter ((fun j => decide (0 ≤ j) && p ((x :: l).getD j 0)) ∘ Nat.succ) = (List.range l.length).filter fun j => decide (0 ≤ j) && p (l.getD j 0) := by
        apply List.filter_congr; intro j _; simp
      rw [e]
      by_cases c : p x = true
      · simp [c] at ih0 ⊢; omega
      · simp [c] at ih0 ⊢; omega
    | succ i =>
      have ih1 := ih (i := i)
      rw [List.drop_succ_cons]
      have e : (List.range l.length).filter ((fun j => decide (i + 1 ≤ j) && p ((x :: l).getD j 0)) ∘ Nat.succ) = (List.range l.length).filter fun j => decide (i ≤ j) && p (l.getD j 0) := by
        apply List.filter_congr; intro j _; simp
      rw [e, if_neg (by simp), List.length_map]; exact ih1
theorem parts_le {d : Drawing} {r : Nat} (h6 : (regionAt d r).length ≤ 6) : (partsIn d r).length ≤ 32 * tri (lp d (regionAt d r).flatten) := by
  unfold partsIn
  rw [List.length_flatMap]
  have c1 : ∀ p ∈ places d r, ((((List.range (borderAt d r p.1).length).filter fun j => decide (p.2 ≤ j) && canBe d (.part r p.1 p.2 j [])).flatMap fun j => (choices ((List.range (regionAt d r).length).filter fun b => b != p.1)).map fun k => Line.part r p.1 p.2 j k)).length ≤
      32 * (if alive d ((borderAt d r p.1).getD p.2 0) = true then lp d ((borderAt d r p.1).drop p.2) else 0) := by
    intro p hp
    have hp := mem_places.mp hp
    rw [List.length_flatMap]
    have e : ∀ j, ((choices ((List.range (regionAt d r).length).filter fun b => b != p.1)).map fun k => Line.part r p.1 p.2 j k).length ≤ 32 := fun j => by
      rw [List.length_map, choices_len, others_len hp.1]
      have : (regionAt d r).length - 1 ≤ 5 := by omega
      exact Nat.pow_le_pow_right (by decide) this
    refine Nat.le_trans (sum_le_map (g := fun _ => 32) fun j _ => e j) ?_
    have e2 : ∀ l : List Nat, (l.map fun _ => 32).sum = 32 * l.length := fun l => by
      induction l with
      | nil => rfl
      | cons a l ih => rw [List.map_cons, List.sum_cons, ih, List.length_cons]; omega
    rw [e2]
    refine Nat.mul_le_mul_left 32 ?_
    by_cases c : alive d ((borderAt d r p.1).getD p.2 0) = true
    · rw [if_pos c]
      refine Nat.le_trans (filter_sub_len (q := fun j => decide (p.2 ≤ j) && alive d ((borderAt d r p.1).getD j 0)) fun j _ h => ?_) (drop_range_len _)
      rw [Bool.and_eq_true] at h ⊢
      refine ⟨h.1, ?_⟩
      have h2 := h.2
      rw [canBe_eq] at h2
      exact decide_eq_true (mayEnd_right h2)
    · rw [if_neg c]
      refine Nat.le_of_eq (List.length_eq_zero_iff.mpr (List.filter_eq_nil_iff.mpr fun j _ h => ?_))
      rw [Bool.and_eq_true] at h
      have h2 := h.2
      rw [canBe_eq] at h2
      exact c (decide_eq_true (mayEnd_left h2))
  refine Nat.le_trans (sum_le_map c1) ?_
  unfold places
  rw [List.map_flatMap, List.flatMap_def, sum_flat, List.map_map]
  have each : ∀ l : List Nat, (((List.range l.length).map fun i => 32 * (if alive d (l.getD i 0) = true then lp d (l.drop i) else 0))).sum ≤ 32 * tri (lp d l) := by
    intro l
    have h := bows_le d l
    have e : ∀ (m : List Nat) (f : Nat → Nat), (m.map fun i => 32 * f i).sum = 32 * (m.map f).sum := fun m f => by
      induction m with
      | nil => rfl
      | cons a m ih => rw [List.map_cons, List.sum_cons, ih, List.map_cons, List.sum_cons]; omega
    rw [e]; omega
  have e3 : (List.range (regionAt d r).length).map (List.sum ∘ fun a => ((List.range (borderAt d r a).length).map fun i => (a, i)).map fun p => 32 * (if alive d ((borderAt d r p.1).getD p.2 0) = true then lp d ((borderAt d r p.1).drop p.2) else 0)) =
      (List.range (regionAt d r).length).map fun a => ((List.range ((regionAt d r).getD a []).length).map fun i => 32 * (if alive d (((regionAt d r).getD a []).getD i 0) = true then lp d (((regionAt d r).getD a []).drop i) else 0)).sum := by
    apply List.map_congr_left
    intro a _
    show List.sum (List.map _ (List.map _ _)) = _
    rw [List.map_map]; rfl
  rw [e3]
  have e4 := congrArg (fun m : List (List Nat) => (m.map fun l => ((List.range l.length).map fun i => 32 * (if alive d (l.getD i 0) = true then lp d (l.drop i) else 0)).sum).sum) (map_range (regionAt d r) [])
  simp only [List.map_map] at e4
  refine Nat.le_trans (Nat.le_of_eq e4) ?_
  have fin : ∀ bs : List (List Nat), (bs.map fun l => ((List.range l.length).map fun i => 32 * (if alive d (l.getD i 0) = true then lp d (l.drop i) else 0)).sum).sum ≤ 32 * tri (lp d bs.flatten) := by
    intro bs
    induction bs with
    | nil => simp
    | cons l bs ih =>
      rw [List.map_cons, List.sum_cons, List.flatten_cons, lp_append]
      have h1 := each l
      have h2 := tri_add (lp d l) (lp d bs.flatten)
      omega
  exact fin _
/-- all live places -/
def live (d : Drawing) : Nat := lp d d.regions.flatten.flatten
def bound (u : Nat) : Nat := u * u + 32 * tri u
theorem bound_add (a b : Nat) : bound a + bound b ≤ bound (a + b) := by
  unfold bound
  have := tri_add a b
  have e : (a + b) * (a + b) = a * a + b * b + 2 * (a * b) := by
    simp only [Nat.add_mul, Nat.mul_add, Nat.mul_comm b a]; omega
  omega
theorem bound_mono {a b : Nat} (h : a ≤ b) : bound a ≤ bound b := by
  have := bound_add a (b - a)
  have e : a + (b - a) = b := by omega
  rw [e] at this; omega
theorem regionAt_mem {d : Drawing} {r : Nat} (h : r < d.regions.length) : regionAt d r ∈ d.regions := by
  unfold regionAt; rw [getD_lt h]; exact List.getElem_mem h
theorem region_le {d : Drawing} (F : Fit d) {r : Nat} (h : r < d.regions.length) : (joinsIn d r ++ partsIn d r).length ≤ bound (lp d (regionAt d r).flatten) := by
  rw [List.length_append]
  have h1 := joins_le d r
  have h2 := parts_le (F.b6 _ (regionAt_mem h))
  unfold bound; omega
theorem lines_le {d : Drawing} (F : Fit d) : (lines d).length ≤ bound (live d) := by
  unfold lines
  rw [List.length_flatMap]
  refine Nat.le_trans (sum_le_map (g := fun r => bound (lp d (d.regions.getD r []).flatten)) fun r hr => region_le F (by simpa using hr)) ?_
  have e4 := congrArg (fun m : List (List (List Nat)) => (m.map fun bs => bound (lp d bs.flatten)).sum) (map_range d.regions [])
  simp only [List.map_map] at e4
  refine Nat.le_trans (Nat.le_of_eq e4) ?_
  unfold live
  have fin : ∀ rs : List (List (List Nat)), (rs.map fun bs => bound (lp d bs.flatten)).sum ≤ bound (lp d rs.flatten.flatten) := by
    intro rs
    induction rs with
    | nil => simp
    | cons bs rs ih =>
      rw [List.map_cons, List.sum_cons, List.flatten_cons, List.flatten_append, lp_append]
      have := bound_add (lp d bs.flatten) (lp d rs.flatten.flatten)
      omega
  exact fin _
theorem lp_counts {d : Drawing} (n : Nat) : ∀ (l : List Nat), (∀ x ∈ l, x < n) → lp d l = ((List.range n).map fun x => if alive d x = true then l.count x else 0).sum
  | [], _ => by
    have : ∀ m : List Nat, (m.map fun x => if alive d x = true then ([] : List Nat).count x else 0).sum = 0 := fun m => by
      induction m with
      | nil => rfl
      | cons a m ih => rw [List.map_cons, List.sum_cons, ih]; simp
    rw [this]; rfl
  | y :: l, h => by
    rw [lp_cons, lp_counts n l fun x hx => h x (List.mem_cons_of_mem _ hx)]
    have hy := h y (by simp)
    have : ∀ m : List Nat, (m.map fun x => if alive d x = true then (y :: l).count x else 0).sum = (m.map fun x => if alive d x = true then l.count x else 0).sum + (if alive d y = true then m.count y else 0) := fun m => by
      induction m with
      | nil => simp
      | cons a m ih =>
        rw [List.map_cons, List.sum_cons, ih, List.map_cons, List.sum_cons, List.count_cons, List.count_cons]
        by_cases c : y = a
        · subst c
          by_cases z : alive d y = true
          · simp [z]; omega
          · simp [z]
        · have c' : ¬ a = y := fun q => c q.symm
          simp [c, c']; omega
    rw [this]
    have one : (List.range n).count y = 1 := by
      have h1 := nodup_count y (List.nodup_range (n := n))
      have h2 : 0 < (List.range n).count y := List.count_pos_iff.mpr (by simpa using hy)
      omega
    rw [one]; omega
theorem live_le {d : Drawing} (F : Fit d) : live d ≤ 2 * allLives d := by
  unfold live
  rw [lp_counts d.ends.length _ fun x hx => by
    obtain ⟨l, hl, hx⟩ := List.mem_flatten.mp hx
    obtain ⟨bs, hbs, hl⟩ := List.mem_flatten.mp hl
    exact F.wi bs hbs l hl x hx]
  have e : allLives d = ((List.range d.ends.length).map (lives d)).sum := by unfold allLives; rw [sum_eq]
  rw [e]
  have e2 : ∀ m : List Nat, 2 * (m.map (lives d)).sum = (m.map fun x => 2 * lives d x).sum := fun m => by
    induction m with
    | nil => rfl
    | cons a m ih => rw [List.map_cons, List.sum_cons, List.map_cons, List.sum_cons, ← ih]; omega
  rw [e2]
  refine sum_le_map fun x _ => ?_
  by_cases c : alive d x = true
  · rw [if_pos c]
    have h1 : 1 ≤ lives d x := of_decide_eq_true c
    have h2 := F.occ x h1
    unfold total at h2
    have h3 : lives d x = 3 - d.ends.getD x 3 := rfl
    omega
  · rw [if_neg c]; omega
theorem lines_few {d : Drawing} (F : Fit d) {n : Nat} (h : allLives d ≤ n) : (lines d).length ≤ bound (2 * n) :=
  Nat.le_trans (lines_le F) (bound_mono (Nat.le_trans (live_le F) (by omega)))
theorem bound_6 : bound 12 = 2640 := rfl
theorem bound_5 : bound 10 = 1860 := rfl
theorem bound_19 : bound 38 ≤ 30000 := by decide
theorem lines_30000 {d : Drawing} (F : Fit d) : (lines d).length ≤ 30000 := Nat.le_trans (lines_few F (n := 19) (by have := F.rg; omega)) bound_19
end Sg

/-! ### text SgK -/
namespace Sg
open Uw61

/-! ## the program's own ways to list the lines -/
theorem flatMap_congr' {α β : Type} {f g : α → List β} : ∀ {l : List α}, (∀ x ∈ l, f x = g x) → l.flatMap f = l.flatMap g
  | [], _ => rfl
  | a :: l, h => by rw [List.flatMap_cons, List.flatMap_cons, h a (by simp), flatMap_congr' fun x hx => h x (by simp [hx])]
/-- places of t borders, from the one with the number f on -/
def pf (bs : List (List Nat)) (f t : Nat) : List (Nat × Nat) := (List.range t).flatMap fun k => (List.range (bs.getD (f + k) []).length).map fun i => (f + k, i)
theorem pf_succ (bs : List (List Nat)) (f t : Nat) : pf bs f (t + 1) = pf bs f t ++ (List.range (bs.getD (f + t) []).length).map fun i => (f + t, i) := by
  unfold pf; rw [List.range_succ, List.flatMap_append]; simp
theorem places_pf (d : Drawing) (r : Nat) : places d r = pf (regionAt d r) 0 (regionAt d r).length := by
  unfold places pf borderAt
  simp only [Nat.zero_add]
theorem range_add (a b : Nat) : List.range (a + b) = List.range a ++ (List.range b).map (a + ·) := List.range_add
theorem pf_filter {bs : List (List Nat)} {a n : Nat} (h : a < n) : (pf bs 0 n).filter (fun q => decide (a < q.1)) = pf bs (a + 1) (n - (a + 1)) := by
  have e : n = (a + 1) + (n - (a + 1)) := by omega
  unfold pf
  rw [List.filter_flatMap]
  conv => lhs; rw [e, range_add, List.flatMap_append]
  have z : (List.range (a + 1)).flatMap (fun k => ((List.range (bs.getD (0 + k) []).length).map fun i => (0 + k, i)).filter fun q => decide (a < q.1)) = [] := by
    rw [List.flatMap_eq_nil_iff]
    intro k hk
    rw [List.filter_eq_nil_iff]
    intro q hq
    obtain ⟨i, _, rfl⟩ := List.mem_map.mp hq
    have := List.mem_range.mp hk
    simp; omega
  rw [z, List.nil_append, List.flatMap_map]
  congr 1
  funext k
  simp only [Nat.zero_add]
  rw [List.filter_eq_self]
  intro q hq
  obtain ⟨i, _, rfl⟩ := List.mem_map.mp hq
  simp; omega
/-- joins behind some outer places -/
theorem joinsIn_eq (d : Drawing) (r : Nat) : joinsIn d r = (pf (regionAt d r) 0 (regionAt d r).length).flatMap fun p => ((pf (regionAt d r) (p.1 + 1) ((regionAt d r).length - (p.1 + 1))).map fun q => Line.join r p.1 p.2 q.1 q.2).filter (canBe d) := by
  unfold joinsIn
  rw [List.filter_flatMap, places_pf]
  apply flatMap_congr'
  intro p hp
  have hp : p ∈ places d r := by rw [places_pf]; exact hp
  rw [pf_filter (mem_places.mp hp).1]
theorem pf_mem {d : Drawing} {r : Nat} {p : Nat × Nat} (h : p ∈ pf (regionAt d r) 0 (regionAt d r).length) : p.1 < (regionAt d r).length ∧ p.2 < (borderAt d r p.1).length := mem_places.mp (by rw [places_pf]; exact h)
theorem pf_mem2 {d : Drawing} {r f : Nat} {p : Nat × Nat} (h : p ∈ pf (regionAt d r) f ((regionAt d r).length - f)) : f ≤ p.1 ∧ p.1 < (regionAt d r).length ∧ p.2 < (borderAt d r p.1).length := by
  unfold pf at h
  obtain ⟨k, hk, h⟩ := List.mem_flatMap.mp h
  obtain ⟨i, hi, rfl⟩ := List.mem_map.mp h
  have hk := List.mem_range.mp hk
  have hi := List.mem_range.mp hi
  exact ⟨by simp, by simp; omega, hi⟩
theorem pf_len (bs : List (List Nat)) (f t : Nat) (h : f + t ≤ bs.length) : (pf bs f t).length ≤ bs.flatten.length := by
  unfold pf
  rw [List.length_flatMap, flatten_length_sum]
  simp only [List.length_map, List.length_range]
  have e : (bs.map List.length).sum = (((List.range bs.length).map fun k => (bs.getD k []).length)).sum := by
    conv => lhs; rw [← map_range bs []]
    rw [List.map_map]; rfl
  rw [e]
  have e2 : bs.length = f + (t + (bs.length - (f + t))) := by omega
  rw [e2, range_add, range_add, List.map_append, List.map_append, List.sum_append, List.map_append, List.sum_append, List.map_map]
  have : (List.range t).map (fun a => (bs.getD (f + a) []).length) = (List.range t).map ((fun k => (bs.getD k []).length) ∘ fun x => f + x) := rfl
  rw [this]; omega
/-- places between which a line within a border can be drawn -/
def bowsOn (d : Drawing) (l : List Nat) : List (Nat × Nat) := (List.range l.length).flatMap fun i => ((List.range (l.length - i)).filter fun t => mayEnd d (l.getD i 0) (l.getD (i + t) 0)).map fun t => (i, i + t)
theorem bows_row (d : Drawing) (l : List Nat) (i : Nat) (h : i < l.length) : ((List.range (l.length - i)).filter fun t => mayEnd d (l.getD i 0) (l.getD (i + t) 0)).map (fun t => i + t) =
    (List.range l.length).filter fun j => decide (i ≤ j) && mayEnd d (l.getD i 0) (l.getD j 0) := by
  have e : l.length = i + (l.length - i) := by omega
  conv => rhs; rw [e, range_add, List.filter_append]
  have z : (List.range i).filter (fun j => decide (i ≤ j) && mayEnd d (l.getD i 0) (l.getD j 0)) = [] := by
    rw [List.filter_eq_nil_iff]
    intro j hj
    have := List.mem_range.mp hj
    simp; omega
  rw [z, List.nil_append, List.filter_map]
  congr 1
  apply List.filter_congr
  intro t _
  simp
theorem partsIn_eq (d : Drawing) (r : Nat) : partsIn d r = (List.range (regionAt d r).length).flatMap fun a => (bowsOn d (borderAt d r a)).flatMap fun p => (choices ((List.range (regionAt d r).length).filter fun b => b != a)).map fun k => Line.part r a p.1 p.2 k := by
  unfold partsIn places
  rw [List.flatMap_assoc]
  apply flatMap_congr'
  intro a _
  unfold bowsOn
  rw [List.flatMap_map, List.flatMap_assoc]
  apply flatMap_congr'
  intro i hi
  have hi := List.mem_range.mp hi
  rw [List.flatMap_map]
  have e := bows_row d (borderAt d r a) i hi
  have c : (List.range (borderAt d r a).length).filter (fun j => decide (i ≤ j) && canBe d (.part r a i j [])) = (List.range (borderAt d r a).length).filter fun j => decide (i ≤ j) && mayEnd d ((borderAt d r a).getD i 0) ((borderAt d r a).getD j 0) := rfl
  rw [c, ← e, List.flatMap_map]
theorem bowsOn_mem {d : Drawing} {l : List Nat} {p : Nat × Nat} (h : p ∈ bowsOn d l) : p.1 ≤ p.2 ∧ p.2 < l.length ∧ mayEnd d (l.getD p.1 0) (l.getD p.2 0) = true := by
  unfold bowsOn at h
  obtain ⟨i, hi, h⟩ := List.mem_flatMap.mp h
  obtain ⟨t, ht, rfl⟩ := List.mem_map.mp h
  obtain ⟨h1, h2⟩ := List.mem_filter.mp ht
  have h1 := List.mem_range.mp h1
  exact ⟨by simp, by simp; omega, h2⟩
theorem bowsOn_len (d : Drawing) (l : List Nat) : (bowsOn d l).length ≤ l.length * l.length := by
  unfold bowsOn
  rw [List.length_flatMap]
  refine Nat.le_trans (sum_le_map (g := fun _ => l.length) fun i _ => ?_) ?_
  · rw [List.length_map]
    have := List.length_filter_le (fun t => mayEnd d (l.getD i 0) (l.getD (i + t) 0)) (List.range (l.length - i))
    rw [List.length_range] at this
    omega
  · have : ∀ m : List Nat, (m.map fun _ => l.length).sum = m.length * l.length := fun m => by
      induction m with
      | nil => simp
      | cons a m ih => rw [List.map_cons, List.sum_cons, ih, List.length_cons, Nat.add_mul]; omega
    rw [this, List.length_range]
    exact Nat.le_refl _
theorem choices_snoc (t : Nat) : ∀ s : List Nat, choices (s ++ [t]) = choices s ++ (choices s).map (· ++ [t])
  | [] => rfl
  | x :: r => by
    rw [List.cons_append, choices, choices_snoc t r, List.flatMap_append, List.flatMap_map]
    rw [choices, List.map_flatMap]
    rfl
/-- what may be asked of a line drawn -/
theorem part_ok {d : Drawing} {r a i j : Nat} {k : List Nat} (h : Line.part r a i j k ∈ lines d) : r < d.regions.length ∧ a < (regionAt d r).length ∧ i ≤ j ∧ j < (borderAt d r a).length ∧ k.Pairwise (· < ·) ∧ (∀ b ∈ k, b < (regionAt d r).length) := by
  obtain ⟨r', hr, h⟩ := mem_lines.mp h
  rcases h with h | h
  · obtain ⟨_, _, _, _, e, _⟩ := mem_joinsIn.mp h; cases e
  · obtain ⟨a', i', j', k', e, h1, h2, h3, h4, h5, h6⟩ := mem_partsIn.mp h
    cases e
    refine ⟨hr, h1, h4, h3, ?_, fun b hb => ?_⟩
    · exact (List.pairwise_lt_range.filter _).sublist h6
    · have := h6.subset hb
      simp at this
      exact this.1
theorem join_ok {d : Drawing} {r a i b j : Nat} (h : Line.join r a i b j ∈ lines d) : r < d.regions.length ∧ a < b ∧ b < (regionAt d r).length ∧ i < (borderAt d r a).length ∧ j < (borderAt d r b).length := by
  obtain ⟨r', hr, h⟩ := mem_lines.mp h
  rcases h with h | h
  · obtain ⟨a', i', b', j', e, h1, h2, h3, h4, h5, h6⟩ := mem_joinsIn.mp h
    cases e
    exact ⟨hr, h5, h3, h2, h4⟩
  · obtain ⟨_, _, _, _, e, _⟩ := mem_partsIn.mp h; cases e
/-- is_open -/
theorem open_iff {d : Drawing} {r : Nat} : openR d (regionAt d r) = (!(joinsIn d r).isEmpty || (regionAt d r).any fun l => !(bowsOn d l).isEmpty) := by
  rw [Bool.eq_iff_iff]
  simp only [Bool.or_eq_true, List.any_eq_true, Bool.not_eq_true', List.isEmpty_eq_false_iff]
  have gd : ∀ {bs : List (List Nat)} {a i : Nat}, a < bs.length → i < (bs.getD a []).length → (bs.getD a []).getD i 0 ∈ bs.flatten := fun {bs a i} h1 h2 => by
    rw [getD_lt h2]
    refine List.mem_flatten.mpr ⟨bs.getD a [], ?_, List.getElem_mem h2⟩
    rw [getD_lt h1]; exact List.getElem_mem h1
  constructor
  · intro h
    unfold openR at h
    simp only [List.any_eq_true] at h
    obtain ⟨x, hx, y, hy, hm⟩ := h
    obtain ⟨l, hl, hx⟩ := List.mem_flatten.mp hx
    obtain ⟨m, hm', hy⟩ := List.mem_flatten.mp hy
    obtain ⟨a, ha, rfl⟩ := List.getElem_of_mem hl
    obtain ⟨b, hb, rfl⟩ := List.getElem_of_mem hm'
    obtain ⟨i, hi, rfl⟩ := List.getElem_of_mem hx
    obtain ⟨j, hj, rfl⟩ := List.getElem_of_mem hy
    have ea : (regionAt d r)[a] = borderAt d r a := (getD_lt ha).symm
    have eb : (regionAt d r)[b] = borderAt d r b := (getD_lt hb).symm
    have sp : ∀ {a i : Nat} (ha : a < (regionAt d r).length) (hi : i < (regionAt d r)[a].length), (regionAt d r)[a][i] = spotAt d r a i := fun {a i} ha hi => by
      unfold spotAt borderAt
      rw [getD_lt ha, getD_lt hi]
    rw [sp ha hi, sp hb hj] at hm
    rcases Nat.lt_trichotomy a b with c | c | c
    · left
      refine List.ne_nil_of_mem (a := Line.join r a i b j) (mem_joinsIn.mpr ⟨a, i, b, j, rfl, ha, by rw [← ea]; exact hi, hb, by rw [← eb]; exact hj, c, hm⟩)
    · right
      subst c
      refine ⟨_, List.getElem_mem ha, ?_⟩
      rcases Nat.le_total i j with c | c
      · refine List.ne_nil_of_mem (a := (i, j)) ?_
        unfold bowsOn
        refine List.mem_flatMap.mpr ⟨i, List.mem_range.mpr hi, List.mem_map.mpr ⟨j - i, List.mem_filter.mpr ⟨List.mem_range.mpr (by omega), ?_⟩, ?_⟩⟩
        · have e : i + (j - i) = j := by omega
          rw [e, ea]; exact hm
        · have e : i + (j - i) = j := by omega
          rw [e]
      · refine List.ne_nil_of_mem (a := (j, i)) ?_
        unfold bowsOn
        refine List.mem_flatMap.mpr ⟨j, List.mem_range.mpr hj, List.mem_map.mpr ⟨i - j, List.mem_filter.mpr ⟨List.mem_range.mpr (by omega), ?_⟩, ?_⟩⟩
        · have e : j + (i - j) = i := by omega
          rw [e, ea, mayEnd_symm]; exact hm
        · have e : j + (i - j) = i := by omega
          rw [e]
    · left
      refine List.ne_nil_of_mem (a := Line.join r b j a i) (mem_joinsIn.mpr ⟨b, j, a, i, rfl, hb, by rw [← eb]; exact hj, ha, by rw [← ea]; exact hi, c, ?_⟩)
      rw [canBe_eq]
      show mayEnd d (spotAt d r b j) (spotAt d r a i) = true
      rw [mayEnd_symm]; exact hm
  · intro h
    unfold openR
    simp only [List.any_eq_true]
    rcases h with h | ⟨l, hl, h⟩
    · obtain ⟨x, hx⟩ := List.exists_mem_of_ne_nil _ h
      obtain ⟨a, i, b, j, rfl, h1, h2, h3, h4, h5, h6⟩ := mem_joinsIn.mp hx
      exact ⟨spotAt d r a i, gd h1 h2, spotAt d r b j, gd h3 h4, h6⟩
    · obtain ⟨p, hp⟩ := List.exists_mem_of_ne_nil _ h
      obtain ⟨h1, h2, h3⟩ := bowsOn_mem hp
      have i1 : p.1 < l.length := by omega
      refine ⟨l.getD p.1 0, List.mem_flatten.mpr ⟨l, hl, ?_⟩, l.getD p.2 0, List.mem_flatten.mpr ⟨l, hl, ?_⟩, h3⟩
      · rw [getD_lt i1]; exact List.getElem_mem i1
      · rw [getD_lt h2]; exact List.getElem_mem h2
end Sg

/-! ### text SgL -/
namespace Sg
open Uw61

/-! ## few lean drawings with few lives -/
/-- no two dead ones side by side -/
def NoTwo : List Nat → Prop
  | [] => True
  | x :: r => (x = 0 → r.head? ≠ some 0) ∧ NoTwo r
theorem thin_two : ∀ (p : Nat) (r : List Nat), (p = 0 → (thin p r).head? ≠ some 0) ∧ NoTwo (thin p r)
  | p, [] => ⟨fun _ => by simp [thin], True.intro⟩
  | p, x :: r => by
    unfold thin
    by_cases c : x = 0 ∧ p = 0
    · rw [if_pos c]; have := thin_two 0 r; exact ⟨fun _ => this.1 rfl, this.2⟩
    · rw [if_neg c]
      have := thin_two x r
      refine ⟨fun e q => c ⟨by simpa using q, e⟩, this.1, this.2⟩
theorem noTwo_front : ∀ {l m : List Nat}, NoTwo (l ++ m) → NoTwo l
  | [], m, _ => True.intro
  | x :: l, m, h => by
    refine ⟨fun e q => h.1 e ?_, noTwo_front h.2⟩
    cases l with
    | nil => simp at q
    | cons y l => exact q
theorem thinned_two (m : List Nat) : NoTwo (thinned m) := by
  cases m with
  | nil => exact True.intro
  | cons x r =>
    have h : NoTwo (x :: thin x r) := thin_two x r
    show NoTwo (cutEnd (x :: thin x r))
    rcases cutEnd_cases (x :: thin x r) with e | ⟨g, _, e, q⟩
    · rw [e]; exact h
    · rw [q]; rw [e] at h; exact noTwo_front h
/-- a border, a region, regions that are lean -/
def GoodB (l : List Nat) : Prop := NoTwo l ∧ ∃ x ∈ l, x ≠ 0
def GoodR (bs : List (List Nat)) : Prop := bs ≠ [] ∧ ∀ l ∈ bs, GoodB l
def Good (rs : List (List (List Nat))) : Prop := ∀ bs ∈ rs, GoodR bs
/-- the live ones in order -/
def word (rs : List (List (List Nat))) : List Nat := rs.flatten.flatten.filter nz
def four (x : Nat) : List (List Nat) := [[x], [0, x], [x, 0], [0, x, 0]]
def ext (x : Nat) : List (List (List Nat)) → List (List (List (List Nat)))
  | [] => []
  | [] :: _ => []
  | (b :: bs) :: rs => [((x :: b) :: bs) :: rs, ((0 :: x :: b) :: bs) :: rs] ++ ((four x).map fun l => (l :: b :: bs) :: rs) ++ ((four x).map fun l => [l] :: (b :: bs) :: rs)
def gen : List Nat → List (List (List (List Nat)))
  | [] => [[]]
  | [x] => (four x).map fun l => [[l]]
  | x :: y :: w => (gen (y :: w)).flatMap (ext x)
def tens : Nat → Nat
  | 0 => 1
  | 1 => 4
  | n + 1 => 10 * tens n
theorem ext_len (x : Nat) (s : List (List (List Nat))) : (ext x s).length ≤ 10 := by
  unfold ext
  split <;> simp [four]
theorem flat_len {α β : Type} {f : α → List β} {n : Nat} (h : ∀ x, (f x).length ≤ n) : ∀ (l : List α), (l.flatMap f).length ≤ n * l.length
  | [] => by simp
  | x :: l => by
    rw [List.flatMap_cons, List.length_append, List.length_cons, Nat.mul_succ]
    have := h x; have := flat_len h l; omega
theorem gen_len : ∀ (w : List Nat), (gen w).length ≤ tens w.length
  | [] => Nat.le_refl _
  | [x] => Nat.le_refl _
  | x :: y :: w => by
    have := gen_len (y :: w)
    have h2 := flat_len (ext_len x) (gen (y :: w))
    show (List.flatMap (ext x) (gen (y :: w))).length ≤ 10 * tens (w.length + 1)
    exact Nat.le_trans h2 (Nat.mul_le_mul_left _ this)
theorem word_cons (b : List Nat) (bs : List (List Nat)) (rs : List (List (List Nat))) : word ((b :: bs) :: rs) = b.filter nz ++ ((bs.flatten).filter nz ++ word rs) := by
  unfold word
  simp [List.filter_append]
theorem nz_pos {x : Nat} (h : x ≠ 0) : nz x = true := by simp [nz, h]
theorem good_word {bs : List (List Nat)} {rs : List (List (List Nat))} (h : GoodR bs) : word (bs :: rs) ≠ [] := by
  obtain ⟨ne, g⟩ := h
  cases bs with
  | nil => exact absurd rfl ne
  | cons b bs =>
    obtain ⟨_, x, hx, x0⟩ := g b (by simp)
    intro e
    rw [word_cons] at e
    have := (List.append_eq_nil_iff.mp e).1
    have m := List.mem_filter.mpr ⟨hx, nz_pos x0⟩
    rw [this] at m; simp at m
/-- a first place more: on a border of its own or ahead of a border -/
theorem mem_ext_same {x : Nat} {b : List Nat} {bs : List (List Nat)} {rs : List (List (List Nat))} : ((x :: b) :: bs) :: rs ∈ ext x ((b :: bs) :: rs) ∧ ((0 :: x :: b) :: bs) :: rs ∈ ext x ((b :: bs) :: rs) := by
  unfold ext; simp
theorem mem_gen {x : Nat} {w : List Nat} {s t : List (List (List Nat))} (hw : w ≠ []) (hs : s ∈ gen w) (ht : t ∈ ext x s) : t ∈ gen (x :: w) := by
  cases w with
  | nil => exact absurd rfl hw
  | cons y w => exact List.mem_flatMap.mpr ⟨s, hs, ht⟩
/-- the front border is one of four -/
theorem front_four {x : Nat} {l : List Nat} (hl : l ∈ four x) {bs : List (List Nat)} {rs : List (List (List Nat))} (x0 : x ≠ 0)
    (hb : ∀ m ∈ bs, GoodB m) (hr : Good rs) (ih : ∀ s, s = (if bs = [] then rs else bs :: rs) → s ∈ gen (word s)) : (l :: bs) :: rs ∈ gen (word ((l :: bs) :: rs)) := by
  have e : l.filter nz = [x] := by
    unfold four at hl
    simp at hl
    rcases hl with rfl | rfl | rfl | rfl <;> simp [nz, x0]
  rw [word_cons, e]
  cases bs with
  | nil =>
    show ([l] :: rs) ∈ gen (x :: word rs)
    have q := ih _ rfl
    rw [if_pos rfl] at q
    cases rs with
    | nil => exact List.mem_map.mpr ⟨l, hl, rfl⟩
    | cons c rs =>
      have gc := hr c (by simp)
      refine mem_gen (good_word gc) q ?_
      cases c with
      | nil => exact absurd rfl gc.1
      | cons b bs =>
        unfold ext
        exact List.mem_append_right _ (List.mem_map.mpr ⟨l, hl, rfl⟩)
  | cons b bs =>
    have q := ih _ rfl
    rw [if_neg (by simp)] at q
    rw [word_cons] at q
    have gb : GoodR (b :: bs) := ⟨by simp, hb⟩
    have ww : ((b :: bs).flatten).filter nz ++ word rs = b.filter nz ++ ((bs.flatten).filter nz ++ word rs) := by simp [List.filter_append]
    show (l :: b :: bs) :: rs ∈ gen (x :: (((b :: bs).flatten).filter nz ++ word rs))
    rw [ww]
    refine mem_gen ?_ q ?_
    · have := good_word (rs := rs) gb
      rw [word_cons] at this; exact this
    · unfold ext
      exact List.mem_append_left _ (List.mem_append_right _ (List.mem_map.mpr ⟨l, hl, rfl⟩))
def size (rs : List (List (List Nat))) : Nat := rs.flatten.flatten.length
theorem size_cons (b : List Nat) (bs : List (List Nat)) (rs : List (List (List Nat))) : size ((b :: bs) :: rs) = b.length + (bs.flatten.length + size rs) := by
  unfold size
  rw [List.flatten_cons, List.flatten_append, List.length_append, List.flatten_cons, List.length_append]; omega
theorem good_gen : ∀ (n : Nat) (rs : List (List (List Nat))), size rs ≤ n → Good rs → rs ∈ gen (word rs)
  | n, [], _, _ => by simp [word, gen]
  | n, [] :: rs, _, g => absurd rfl (g [] (by simp)).1
  | n, (b :: bs) :: rs, hn, g => by
    have gr : Good rs := fun c hc => g c (by simp [hc])
    have gbs : GoodR (b :: bs) := g _ (by simp)
    have gb := gbs.2 b (by simp)
    have gb' : ∀ m ∈ bs, GoodB m := fun m hm => gbs.2 m (by simp [hm])
    have sz := size_cons b bs rs
    have b0 : 0 < b.length := by
      obtain ⟨_, x, hx, _⟩ := gb
      exact List.length_pos_of_mem hx
    have rest : ∀ s, s = (if bs = [] then rs else bs :: rs) → s ∈ gen (word s) := by
      intro s es
      cases n with
      | zero => omega
      | succ n =>
        cases bs with
        | nil =>
          rw [if_pos rfl] at es; rw [es]
          exact good_gen n rs (by omega) gr
        | cons c bs =>
          rw [if_neg (by simp)] at es; subst es
          refine good_gen n _ ?_ (fun q hq => ?_)
          · have := size_cons c bs rs
            rw [List.flatten_cons, List.length_append] at sz; omega
          · rcases List.mem_cons.mp hq with e | hq
            · subst e; exact ⟨by simp, gb'⟩
            · exact gr q hq
    -- the same border goes on
    have onn : ∀ (x : Nat) (r : List Nat), x ≠ 0 → (∃ y ∈ r, y ≠ 0) → NoTwo r → r.length < b.length → ((r :: bs) :: rs) ∈ gen (word ((r :: bs) :: rs)) ∧ word ((r :: bs) :: rs) ≠ [] := by
      intro x r x0 hr nt lt
      have gg : Good ((r :: bs) :: rs) := fun q hq => by
        rcases List.mem_cons.mp hq with e | hq
        · subst e
          refine ⟨by simp, fun m hm => ?_⟩
          rcases List.mem_cons.mp hm with e | hm
          · subst e; exact ⟨nt, hr⟩
          · exact gb' m hm
        · exact gr q hq
      refine ⟨?_, good_word (gg _ (by simp))⟩
      cases n with
      | zero => omega
      | succ n => exact good_gen n _ (by have := size_cons r bs rs; omega) gg
    obtain ⟨nt, lv⟩ := gb
    cases b with
    | nil => exact absurd b0 (by simp)
    | cons x r =>
      by_cases x0 : x = 0
      · subst x0
        cases r with
        | nil => obtain ⟨y, hy, y0⟩ := lv; simp at hy; exact absurd hy y0
        | cons y r =>
          have y0 : y ≠ 0 := fun e => nt.1 rfl (by simp [e])
          by_cases hr : ∃ z ∈ r, z ≠ 0
          · obtain ⟨h1, h2⟩ := onn y r y0 hr nt.2.2 (by simp; omega)
            have : word (((0 :: y :: r) :: bs) :: rs) = y :: word ((r :: bs) :: rs) := by
              rw [word_cons, word_cons]; simp [nz, y0]
            rw [this]
            exact mem_gen h2 h1 mem_ext_same.2
          · cases r with
            | nil => exact front_four (x := y) (by simp [four]) y0 gb' gr rest
            | cons z r =>
              have z0 : z = 0 := Classical.byContradiction fun q => hr ⟨z, by simp, q⟩
              cases r with
              | nil => subst z0; exact front_four (x := y) (by simp [four]) y0 gb' gr rest
              | cons u r =>
                have u0 : u = 0 := Classical.byContradiction fun q => hr ⟨u, by simp, q⟩
                exact absurd (by simp [u0]) (nt.2.2.1 z0)
      · by_cases hr : ∃ z ∈ r, z ≠ 0
        · obtain ⟨h1, h2⟩ := onn x r x0 hr nt.2 (by simp)
          have : word (((x :: r) :: bs) :: rs) = x :: word ((r :: bs) :: rs) := by
            rw [word_cons, word_cons]; simp [nz, x0]
          rw [this]
          exact mem_gen h2 h1 mem_ext_same.1
        · cases r with
          | nil => exact front_four (x := x) (by simp [four]) x0 gb' gr rest
          | cons z r =>
            have z0 : z = 0 := Classical.byContradiction fun q => hr ⟨z, by simp, q⟩
            cases r with
            | nil => subst z0; exact front_four (x := x) (by simp [four]) x0 gb' gr rest
            | cons u r =>
              have u0 : u = 0 := Classical.byContradiction fun q => hr ⟨u, by simp, q⟩
              exact absurd (by simp [u0]) (nt.2.1 z0)
/-! ### names in order -/
def run : Nat → List Nat → Option Nat
  | n, [] => some n
  | n, x :: w => if x = n + 1 then run (n + 1) w else if 1 ≤ x ∧ x ≤ n then run n w else none
theorem run_append : ∀ (u v : List Nat) (n m : Nat), run n u = some m → run n (u ++ v) = run m v
  | [], v, n, m, h => by rw [← Option.some.inj h]; rfl
  | x :: u, v, n, m, h => by
    unfold run at h
    show (if x = n + 1 then run (n + 1) (u ++ v) else if 1 ≤ x ∧ x ≤ n then run n (u ++ v) else none) = _
    by_cases c : x = n + 1
    · rw [if_pos c] at h ⊢; exact run_append u v _ m h
    · rw [if_neg c] at h ⊢
      by_cases e : 1 ≤ x ∧ x ≤ n
      · rw [if_pos e] at h ⊢; exact run_append u v _ m h
      · rw [if_neg e] at h; cases h
theorem run_row (d : Drawing) : ∀ (l ns : List Nat), run ns.length ((shownRow d ns l).1.filter nz) = some (shownRow d ns l).2.length
  | [], ns => rfl
  | x :: l, ns => by
    show run ns.length (((shownAs d ns x).1 :: (shownRow d (shownAs d ns x).2 l).1).filter nz) = some (shownRow d (shownAs d ns x).2 l).2.length
    have ih := run_row d l (shownAs d ns x).2
    unfold shownAs at ih ⊢
    by_cases c : lives d x = 0
    · rw [if_pos c] at ih ⊢; exact ih
    · rw [if_neg c] at ih ⊢
      by_cases e : x ∈ ns
      · rw [if_pos e] at ih ⊢
        have lt := List.idxOf_lt_length_iff.mpr e
        rw [List.filter_cons, if_pos (nz_pos (by show 1 + ns.idxOf x ≠ 0; omega))]
        show (if 1 + ns.idxOf x = ns.length + 1 then _ else if 1 ≤ 1 + ns.idxOf x ∧ 1 + ns.idxOf x ≤ ns.length then _ else _) = _
        rw [if_neg (by omega), if_pos (by omega)]; exact ih
      · rw [if_neg e] at ih ⊢
        rw [List.filter_cons, if_pos (nz_pos (by show 1 + ns.length ≠ 0; omega))]
        show (if 1 + ns.length = ns.length + 1 then _ else _) = _
        rw [if_pos (by omega)]
        rw [List.length_append] at ih; exact ih
theorem run_rows (d : Drawing) : ∀ (bs : List (List Nat)) (ns : List Nat), run ns.length ((leanRows d ns bs).1.flatten.filter nz) = some (leanRows d ns bs).2.length
  | [], ns => rfl
  | l :: bs, ns => by
    show run ns.length ((thinned (shownRow d ns l).1 ++ (leanRows d (shownRow d ns l).2 bs).1.flatten).filter nz) = some (leanRows d (shownRow d ns l).2 bs).2.length
    rw [List.filter_append, thinned_nz, run_append _ _ _ _ (run_row d l ns)]
    exact run_rows d bs _
theorem run_regs (d : Drawing) : ∀ (rs : List (List (List Nat))) (ns : List Nat), run ns.length ((leanRegs d ns rs).1.flatten.flatten.filter nz) = some (leanRegs d ns rs).2.length
  | [], ns => rfl
  | bs :: rs, ns => by
    unfold leanRegs
    by_cases c : openR d bs = true
    · rw [if_pos c]
      show run ns.length (((leanRows d ns (bs.filter (liveB d))).1 ++ (leanRegs d (leanRows d ns (bs.filter (liveB d))).2 rs).1.flatten).flatten.filter nz) = _
      rw [List.flatten_append, List.filter_append, run_append _ _ _ _ (run_rows d _ ns)]
      exact run_regs d rs _
    · rw [if_neg c]; exact run_regs d rs ns
theorem run_lean (d : Drawing) : run 0 (word (leanOf d).regions) = some (namesOf d).length := run_regs d d.regions []
theorem run_le : ∀ (w : List Nat) (n m : Nat), run n w = some m → n ≤ m ∧ ∀ x ∈ w, 1 ≤ x ∧ x ≤ m
  | [], n, m, h => by rw [← Option.some.inj h]; exact ⟨Nat.le_refl _, fun x hx => by simp at hx⟩
  | x :: w, n, m, h => by
    unfold run at h
    by_cases c : x = n + 1
    · rw [if_pos c] at h
      obtain ⟨h1, h2⟩ := run_le w _ m h
      refine ⟨by omega, fun y hy => ?_⟩
      rcases List.mem_cons.mp hy with e | hy
      · omega
      · exact h2 y hy
    · rw [if_neg c] at h
      by_cases e : 1 ≤ x ∧ x ≤ n
      · rw [if_pos e] at h
        obtain ⟨h1, h2⟩ := run_le w _ m h
        refine ⟨h1, fun y hy => ?_⟩
        rcases List.mem_cons.mp hy with q | hy
        · omega
        · exact h2 y hy
      · rw [if_neg e] at h; cases h
theorem good_lean (d : Drawing) : Good (leanOf d).regions := by
  rw [leanOf_regions]
  intro bs' hbs
  obtain ⟨bs, hb, rfl⟩ := List.mem_map.mp hbs
  obtain ⟨hb, op⟩ := List.mem_filter.mp hb
  constructor
  · unfold openR at op
    obtain ⟨x, hx, op⟩ := List.any_eq_true.mp op
    obtain ⟨y, hy, op⟩ := List.any_eq_true.mp op
    obtain ⟨l, hl, hx⟩ := List.mem_flatten.mp hx
    have lx : 0 < lives d x := by
      unfold mayEnd at op
      split at op
      · have := of_decide_eq_true op; omega
      · simp at op; omega
    intro e
    have m : l ∈ bs.filter (liveB d) := List.mem_filter.mpr ⟨hl, List.any_eq_true.mpr ⟨x, hx, decide_eq_true lx⟩⟩
    have m' := List.mem_map_of_mem (f := fun l => thinned (l.map (nm d (namesOf d)))) m
    rw [e] at m'; simp at m'
  · intro l' hl'
    obtain ⟨l, hl, rfl⟩ := List.mem_map.mp hl'
    obtain ⟨hl, lv⟩ := List.mem_filter.mp hl
    refine ⟨thinned_two _, ?_⟩
    obtain ⟨x, hx, lx⟩ := List.any_eq_true.mp lv
    have lx := of_decide_eq_true lx
    have n0 : nm d (namesOf d) x ≠ 0 := by unfold nm; rw [if_neg (by omega)]; omega
    have m : nm d (namesOf d) x ∈ (l.map (nm d (namesOf d))).filter nz := List.mem_filter.mpr ⟨List.mem_map_of_mem hx, nz_pos n0⟩
    rw [← thinned_nz] at m
    exact ⟨_, (List.mem_filter.mp m).1, n0⟩
/-! ### the count -/
def words : Nat → List (List Nat)
  | 0 => [[]]
  | n + 1 => [] :: (words n).flatMap fun w => [1 :: w, 2 :: w, 3 :: w]
theorem mem_words : ∀ (n : Nat) (w : List Nat), w.length ≤ n → (∀ x ∈ w, 1 ≤ x ∧ x ≤ 3) → w ∈ words n
  | 0, w, h, _ => by
    have : w = [] := List.length_eq_zero_iff.mp (by omega)
    rw [this]; simp [words]
  | n + 1, [], _, _ => by simp [words]
  | n + 1, x :: w, h, k => by
    refine List.mem_cons_of_mem _ (List.mem_flatMap.mpr ⟨w, mem_words n w (by simp at h; omega) (fun y hy => k y (by simp [hy])), ?_⟩)
    have := k x (by simp)
    have : x = 1 ∨ x = 2 ∨ x = 3 := by omega
    rcases this with rfl | rfl | rfl <;> simp
def tails : List (List Nat) := [[], [0], [1], [2], [1, 2], [2, 1], [2, 2], [2, 2, 2]]
def okW (es w : List Nat) : Bool := (run 0 w == some es.length) && (decide (w.count 1 ≤ max (es.getD 0 0) 1) && (decide (w.count 2 ≤ max (es.getD 1 0) 1) && decide (w.count 3 ≤ max (es.getD 2 0) 1)))
def pairs : List (List Nat × List Nat) := tails.flatMap fun es => ((words 6).filter (okW es)).map fun w => (es, w)
def all3 : List Drawing := pairs.flatMap fun p => (gen p.2).map fun r => ⟨3 :: p.1, r⟩
def sum3 : Nat := pairs.foldl (fun s p => s + tens p.2.length) 0
theorem flat_sum {α β : Type} {f : α → List β} {g : α → Nat} (h : ∀ x, (f x).length ≤ g x) : ∀ (l : List α) (s : Nat), s + (l.flatMap f).length ≤ l.foldl (fun s p => s + g p) s
  | [], s => Nat.le_refl _
  | x :: l, s => by
    rw [List.flatMap_cons, List.length_append, List.foldl_cons]
    have := h x; have := flat_sum h l (s + g x); omega
theorem all3_len : all3.length ≤ sum3 := by
  have := flat_sum (f := fun p : List Nat × List Nat => (gen p.2).map fun r => (⟨3 :: p.1, r⟩ : Drawing)) (g := fun p => tens p.2.length) (fun p => by rw [List.length_map]; exact gen_len _) pairs 0
  rw [Nat.zero_add] at this
  exact this
theorem sum3_le : sum3 ≤ 7000000 := by decide +kernel
theorem tails_mem {es : List Nat} (h2 : ∀ e ∈ es, e ≤ 2) (h3 : (es.map (3 - ·)).sum ≤ 3) : es ∈ tails := by
  cases es with
  | nil => decide
  | cons a es =>
    have ha := h2 a (by simp)
    cases es with
    | nil =>
      have : a = 0 ∨ a = 1 ∨ a = 2 := by omega
      rcases this with rfl | rfl | rfl <;> decide
    | cons b es =>
      have hb := h2 b (by simp)
      cases es with
      | nil =>
        simp at h3
        have : (a = 1 ∧ b = 2) ∨ (a = 2 ∧ b = 1) ∨ (a = 2 ∧ b = 2) := by omega
        rcases this with ⟨rfl, rfl⟩ | ⟨rfl, rfl⟩ | ⟨rfl, rfl⟩ <;> decide
      | cons c es =>
        have hc := h2 c (by simp)
        cases es with
        | nil =>
          simp at h3
          have : a = 2 ∧ b = 2 ∧ c = 2 := by omega
          obtain ⟨rfl, rfl, rfl⟩ := this; decide
        | cons u es =>
          have hu := h2 u (by simp)
          simp at h3
          omega
theorem count_len : ∀ (w : List Nat), (∀ x ∈ w, 1 ≤ x ∧ x ≤ 3) → w.length = w.count 1 + (w.count 2 + w.count 3)
  | [], _ => rfl
  | x :: w, h => by
    have ih := count_len w fun y hy => h y (by simp [hy])
    have := h x (by simp)
    have : x = 1 ∨ x = 2 ∨ x = 3 := by omega
    rw [List.length_cons, List.count_cons, List.count_cons, List.count_cons, ih]
    rcases this with rfl | rfl | rfl <;> simp <;> omega
theorem mem_all3 {d : Drawing} (F : Fit d) (h : allLives (leanOf d) ≤ 3) : leanOf d ∈ all3 := by
  have FL := fit_lean F
  have r := run_lean d
  have le := (run_le _ _ _ r).2
  let es := (namesOf d).map fun x => d.ends.getD x 3
  have he : (leanOf d).ends = 3 :: es := rfl
  have el : es.length = (namesOf d).length := List.length_map ..
  have e2 : ∀ e ∈ es, e ≤ 2 := by
    intro e hm
    obtain ⟨x, hx, rfl⟩ := List.mem_map.mp hm
    have := namesOf_alive hx
    unfold lives at this
    show d.ends.getD x 3 ≤ 2
    omega
  have e3 : (es.map (3 - ·)).sum ≤ 3 := by
    rw [allLives_eq, he] at h
    simpa using h
  have t := tails_mem e2 e3
  have len3 : es.length ≤ 3 := by
    have : ∀ es ∈ tails, es.length ≤ 3 := by decide
    exact this es t
  have cnt : ∀ i, 1 ≤ i → (word (leanOf d).regions).count i ≤ max (es.getD (i - 1) 0) 1 := by
    intro i i1
    by_cases c : i ≤ es.length
    · obtain ⟨j, rfl⟩ : ∃ j, i = j + 1 := ⟨i - 1, by omega⟩
      have lt : j < es.length := by omega
      have g : (leanOf d).ends.getD (j + 1) 3 = es.getD j 0 := by
        rw [he, List.getD_cons_succ, getD_lt lt, getD_lt lt]
      have l0 : 0 < lives (leanOf d) (j + 1) := by
        have := e2 _ (List.getElem_mem lt)
        unfold lives
        rw [g, getD_lt lt]; omega
      have o := FL.occ (j + 1) l0
      rw [g] at o
      refine Nat.le_trans ?_ o
      exact List.Sublist.count_le _ List.filter_sublist
    · have : i ∉ word (leanOf d).regions := fun m => by have := le i m; omega
      rw [List.count_eq_zero_of_not_mem this]; omega
  have c1 := cnt 1 (by omega)
  have c2 := cnt 2 (by omega)
  have c3 := cnt 3 (by omega)
  have in3 : ∀ x ∈ word (leanOf d).regions, 1 ≤ x ∧ x ≤ 3 := fun x hx => by have := le x hx; omega
  have g2 : ∀ i, es.getD i 0 ≤ 2 := fun i => by
    by_cases c : i < es.length
    · rw [getD_lt c]; exact e2 _ (List.getElem_mem c)
    · rw [List.getD_eq_getElem?_getD, List.getElem?_eq_none (by omega)]; simp
  have wl : (word (leanOf d).regions).length ≤ 6 := by
    rw [count_len _ in3]
    have := g2 (1 - 1); have := g2 (2 - 1); have := g2 (3 - 1)
    omega
  refine List.mem_flatMap.mpr ⟨(es, word (leanOf d).regions), List.mem_flatMap.mpr ⟨es, t, List.mem_map.mpr ⟨_, List.mem_filter.mpr ⟨mem_words 6 _ wl in3, ?_⟩, rfl⟩⟩, List.mem_map.mpr ⟨(leanOf d).regions, good_gen _ _ (Nat.le_refl _) (good_lean d), ?_⟩⟩
  · unfold okW
    rw [r, el]
    rw [beq_self_eq_true, Bool.true_and, decide_eq_true c1, decide_eq_true c2, decide_eq_true c3]; rfl
  · show (⟨3 :: es, (leanOf d).regions⟩ : Drawing) = leanOf d
    rfl
/-- lean drawings, told by numbers of lives -/
def Lean (e : Drawing) : Prop := ∃ d, Fit d ∧ e = leanOf d
theorem small_few {l : List Drawing} (nd : l.Nodup) (h : ∀ e ∈ l, Lean e ∧ allLives e ≤ 3) : l.length ≤ 7000000 := by
  have := nodup_len l all3 nd fun e he => by
    obtain ⟨⟨d, F, rfl⟩, q⟩ := h e he
    exact mem_all3 F q
  exact Nat.le_trans this (Nat.le_trans all3_len sum3_le)
end Sg

/-! ### text SgM -/
namespace Sg
open Uw61

/-! ## every spot stands on a border -/
def On (d : Drawing) : Prop := ∀ x, x < d.ends.length → x ∈ d.regions.flatten.flatten
theorem on_first (n : Nat) : On (first n) := by
  intro x hx
  have hx : x < n := by simpa [first] using hx
  refine List.mem_flatten.mpr ⟨[x], List.mem_flatten.mpr ⟨_, by unfold first; exact List.mem_singleton.mpr rfl, List.mem_map.mpr ⟨x, by simpa using hx, rfl⟩⟩, by simp⟩
theorem ar_has {A : List Nat} {x : Nat} {B : List Nat} {w : Nat} (h : w ∈ A ++ x :: B) : w ∈ ar A x B := by
  unfold ar
  split
  · rename_i c
    have h1 : A = [] := List.length_eq_zero_iff.mp (by omega)
    have h2 : B = [] := List.length_eq_zero_iff.mp (by omega)
    subst h1 h2; simpa using h
  · simp at h ⊢
    rcases h with h | h | h
    · exact .inr (.inr (.inl h))
    · exact .inl h
    · exact .inr (.inl h)
theorem shuf_has {l c o : List (List Nat)} (h : Shuf l c o) {w : Nat} (hw : w ∈ l.flatten) : w ∈ c.flatten ∨ w ∈ o.flatten := by
  induction h with
  | nil => simp at hw
  | left _ ih =>
    rw [List.flatten_cons, List.mem_append] at hw ⊢
    rcases hw with q | q
    · exact .inl (.inl q)
    · exact (ih q).imp .inr id
  | right _ ih =>
    rw [List.flatten_cons, List.mem_append] at hw ⊢
    rcases hw with q | q
    · exact .inr (.inl q)
    · exact (ih q).imp id .inr
theorem flat2 {G1 G2 : List (List (List Nat))} {bs : List (List Nat)} {w : Nat} : w ∈ (G1 ++ bs :: G2).flatten.flatten ↔ w ∈ G1.flatten.flatten ∨ w ∈ bs.flatten ∨ w ∈ G2.flatten.flatten := by
  rw [List.flatten_append, List.flatten_cons, List.flatten_append, List.flatten_append, List.mem_append, List.mem_append]
theorem flat1 {L1 L2 : List (List Nat)} {l : List Nat} {w : Nat} : w ∈ (L1 ++ l :: L2).flatten ↔ w ∈ L1.flatten ∨ w ∈ l ∨ w ∈ L2.flatten := by
  rw [List.flatten_append, List.flatten_cons, List.mem_append, List.mem_append]
theorem flat_end {L : List (List Nat)} {l : List Nat} {w : Nat} : w ∈ (L ++ [l]).flatten ↔ w ∈ L.flatten ∨ w ∈ l := by
  rw [flat1]; simp
theorem flat_end2 {G : List (List (List Nat))} {bs : List (List Nat)} {w : Nat} : w ∈ (G ++ [bs]).flatten.flatten ↔ w ∈ G.flatten.flatten ∨ w ∈ bs.flatten := by
  rw [flat2]; simp
theorem flat_app {L M : List (List Nat)} {w : Nat} : w ∈ (L ++ M).flatten ↔ w ∈ L.flatten ∨ w ∈ M.flatten := by
  rw [List.flatten_append, List.mem_append]
theorem on_step {d e : Drawing} (h : On d) (s : Step d e) : On e := by
  have old : ∀ (rs : List (List (List Nat))) (x y : Nat), (∀ w, w ∈ d.regions.flatten.flatten → w ∈ rs.flatten.flatten) → d.ends.length ∈ rs.flatten.flatten → On ⟨ends2 d x y, rs⟩ := by
    intro rs x y h1 h2 w hw
    have hw : w < (ends2 d x y).length := hw
    have el : (ends2 d x y).length = d.ends.length + 1 := by
      unfold ends2; rw [List.length_append, more_length, more_length]; rfl
    rcases Nat.lt_or_ge w d.ends.length with c | c
    · exact h1 w (h w c)
    · have : w = d.ends.length := by omega
      rw [this]; exact h2
  cases s with
  | @join G1 G2 L1 L2 L3 A1 A2 B1 B2 x y hr hm =>
    refine old _ x y (fun w hw => ?_) ?_
    · rw [hr, flat2, flat1, flat1] at hw
      rw [flat2, flat_end, flat_app, flat_app, List.mem_append, List.mem_cons, List.mem_append]
      rcases hw with q | (q | q | q | q | q) | q
      · exact .inl q
      · exact .inr (.inl (.inl (.inl q)))
      · exact .inr (.inl (.inr (.inl (ar_has q))))
      · exact .inr (.inl (.inl (.inr (.inl q))))
      · exact .inr (.inl (.inr (.inr (.inr (.inl (ar_has q))))))
      · exact .inr (.inl (.inl (.inr (.inr q))))
      · exact .inr (.inr q)
    · rw [flat2, flat_end, List.mem_append, List.mem_cons]
      exact .inr (.inl (.inr (.inr (.inl rfl))))
  | @self G1 G2 L1 L2 C1 O1 C2 O2 A1 A2 x hr s1 s2 hm =>
    refine old _ x x (fun w hw => ?_) ?_
    · rw [hr, flat2, flat1] at hw
      rw [flat_end2, flat2, flat_end, flat_end, flat_app, flat_app, List.mem_append, List.mem_append]
      rcases hw with q | (q | q | q) | q
      · exact .inl (.inl q)
      · rcases shuf_has s1 q with q | q
        · exact .inl (.inr (.inl (.inl (.inl q))))
        · exact .inr (.inl (.inl q))
      · exact .inr (.inr (.inl (ar_has q)))
      · rcases shuf_has s2 q with q | q
        · exact .inl (.inr (.inl (.inl (.inr q))))
        · exact .inr (.inl (.inr q))
      · exact .inl (.inr (.inr q))
    · rw [flat_end2, flat_end, List.mem_append]
      exact .inr (.inr (.inr (by simp)))
  | @part G1 G2 L1 L2 C1 O1 C2 O2 A1 A2 A3 x y hr s1 s2 hm =>
    refine old _ x y (fun w hw => ?_) ?_
    · rw [hr, flat2, flat1] at hw
      rw [flat_end2, flat2, flat_end, flat_end, flat_app, flat_app]
      rcases hw with q | (q | q | q) | q
      · exact .inl (.inl q)
      · rcases shuf_has s1 q with q | q
        · exact .inl (.inr (.inl (.inl (.inl q))))
        · exact .inr (.inl (.inl q))
      · simp only [List.mem_append, List.mem_cons, List.not_mem_nil, or_false] at q
        rcases q with q | q | q | q | q
        · exact .inr (.inr (by simp [q]))
        · exact .inl (.inr (.inl (.inr (by simp [q]))))
        · exact .inl (.inr (.inl (.inr (by simp [q]))))
        · exact .inl (.inr (.inl (.inr (by simp [q]))))
        · exact .inr (.inr (by simp [q]))
      · rcases shuf_has s2 q with q | q
        · exact .inl (.inr (.inl (.inl (.inr q))))
        · exact .inr (.inl (.inr q))
      · exact .inl (.inr (.inr q))
    · rw [flat_end2, flat_end]
      exact .inr (.inr (by simp))
theorem On.line {d : Drawing} {x : Line} (h : On d) (hx : x ∈ lines d) : On (drawn d x) := on_step h (line_step hx)

/-! ## pieces -/
def markStep (ms : List Nat) (b : List Nat) : List Nat := ms.map fun o => if o ∈ b.map (fun s => ms.getD s 0) then ms.getD (b.getD 0 0) 0 else o
def marksOf (d : Drawing) (bs : List (List Nat)) : List Nat := bs.foldl markStep (List.range d.ends.length)
theorem markStep_len (ms b : List Nat) : (markStep ms b).length = ms.length := List.length_map ..
theorem marks_len : ∀ (bs : List (List Nat)) (ms : List Nat), (bs.foldl markStep ms).length = ms.length
  | [], ms => rfl
  | b :: bs, ms => by rw [List.foldl_cons, marks_len bs, markStep_len]
structure Pcs (N : Nat) (P : List (List Nat)) (ms : List Nat) : Prop where
  ln : ms.length = N
  nd : P.Nodup
  un : ∀ p ∈ P, ∀ q ∈ P, ∀ x ∈ p, x ∈ q → p = q
  ne : ∀ p ∈ P, p ≠ []
  lt : ∀ p ∈ P, ∀ x ∈ p, x < N
  eq : ∀ x y, x < N → y < N → (ms.getD x 0 = ms.getD y 0 ↔ x = y ∨ ∃ p ∈ P, x ∈ p ∧ y ∈ p)
theorem meets_iff {a b : List Nat} : meets a b = true ↔ ∃ x ∈ a, x ∈ b := by
  unfold meets; simp
theorem Pcs.first (N : Nat) : Pcs N [] (List.range N) := by
  refine ⟨List.length_range, List.nodup_nil, fun p hp => by simp at hp, fun p hp => by simp at hp, fun p hp => by simp at hp, fun x y hx hy => ?_⟩
  rw [getD_lt (by simpa using hx), getD_lt (by simpa using hy), List.getElem_range, List.getElem_range]
  simp
theorem Pcs.step {N : Nat} {P : List (List Nat)} {ms b : List Nat} (h : Pcs N P ms) (hb : b ≠ []) (hl : ∀ x ∈ b, x < N) : Pcs N (joined P b) (markStep ms b) := by
  have new : ∀ x, x ∈ (b :: P.filter (meets b)).flatten ↔ x ∈ b ∨ ∃ p ∈ P, x ∈ p ∧ ∃ s ∈ b, s ∈ p := by
    intro x
    simp only [List.flatten_cons, List.mem_append, List.mem_flatten, List.mem_filter, meets_iff]
    constructor
    · rintro (q | ⟨p, ⟨hp, s, hs⟩, q⟩)
      · exact .inl q
      · exact .inr ⟨p, hp, q, s, hs⟩
    · rintro (q | ⟨p, hp, q, s, hs⟩)
      · exact .inl q
      · exact .inr ⟨p, ⟨hp, s, hs⟩, q⟩
  have mem : ∀ p, p ∈ joined P b ↔ p = (b :: P.filter (meets b)).flatten ∨ (p ∈ P ∧ ∀ s ∈ b, s ∉ p) := by
    intro p
    unfold joined
    rw [List.mem_cons, List.mem_filter]
    have : (!meets b p) = true ↔ ∀ s ∈ b, s ∉ p := by
      rw [Bool.not_eq_true', ← Bool.not_eq_true, meets_iff]
      exact ⟨fun q s hs hp => q ⟨s, hs, hp⟩, fun q ⟨s, hs, hp⟩ => q s hs hp⟩
    rw [this]
  generalize hn : (b :: P.filter (meets b)).flatten = W at new mem
  have apart : ∀ p ∈ P, (∀ s ∈ b, s ∉ p) → ∀ x ∈ p, x ∉ W := by
    intro p hp hs x hx hw
    rcases (new x).mp hw with q | ⟨p', hp', q, s, sb, sp⟩
    · exact hs x q hx
    · have := h.un p hp p' hp' x hx q
      rw [← this] at sp
      exact hs s sb sp
  have un : ∀ p ∈ joined P b, ∀ q ∈ joined P b, ∀ x ∈ p, x ∈ q → p = q := by
    intro p hp q hq x xp xq
    rcases (mem p).mp hp with e | ⟨h1, h2⟩
    · rcases (mem q).mp hq with e' | ⟨h3, h4⟩
      · rw [e, e']
      · exact absurd (e ▸ xp) (apart q h3 h4 x xq)
    · rcases (mem q).mp hq with e' | ⟨h3, h4⟩
      · exact absurd (e' ▸ xq) (apart p h1 h2 x xp)
      · exact h.un p h1 q h3 x xp xq
  obtain ⟨b0, hb0⟩ : ∃ b0, b0 ∈ b := List.exists_mem_of_ne_nil b hb
  have b0W : b0 ∈ W := (new b0).mpr (.inl hb0)
  have ltW : ∀ x ∈ W, x < N := fun x hx => by
    rcases (new x).mp hx with q | ⟨p, hp, q, _⟩
    · exact hl x q
    · exact h.lt p hp x q
  have inold : ∀ x, x < N → (ms.getD x 0 ∈ b.map (fun s => ms.getD s 0) ↔ x ∈ W) := by
    intro x hx
    rw [List.mem_map, new]
    constructor
    · rintro ⟨s, hs, e⟩
      rcases (h.eq s x (hl s hs) hx).mp e with q | ⟨p, hp, q1, q2⟩
      · rw [← q]; exact .inl hs
      · exact .inr ⟨p, hp, q2, s, hs, q1⟩
    · rintro (q | ⟨p, hp, q, s, hs, q2⟩)
      · exact ⟨x, q, rfl⟩
      · exact ⟨s, hs, (h.eq s x (hl s hs) hx).mpr (.inr ⟨p, hp, q2, q⟩)⟩
  have get : ∀ x, x < N → (markStep ms b).getD x 0 = if x ∈ W then ms.getD (b.getD 0 0) 0 else ms.getD x 0 := by
    intro x hx
    have l1 : x < ms.length := by rw [h.ln]; exact hx
    have l2 : x < (markStep ms b).length := by rw [markStep_len]; exact l1
    have e0 : (markStep ms b).getD x 0 = if ms.getD x 0 ∈ b.map (fun s => ms.getD s 0) then ms.getD (b.getD 0 0) 0 else ms.getD x 0 := by
      rw [List.getD_eq_getElem?_getD]
      unfold markStep
      rw [List.getElem?_map, List.getElem?_eq_getElem l1, getD_lt l1]; rfl
    rw [e0]
    by_cases c : x ∈ W
    · rw [if_pos ((inold x hx).mpr c), if_pos c]
    · rw [if_neg (fun z => c ((inold x hx).mp z)), if_neg c]
  have b00 : b.getD 0 0 ∈ b := by
    cases b with
    | nil => exact absurd rfl hb
    | cons a b => simp
  refine ⟨(markStep_len ms b).trans h.ln, ?_, un, ?_, ?_, ?_⟩
  · unfold joined
    rw [List.nodup_cons]
    refine ⟨fun q => ?_, h.nd.sublist List.filter_sublist⟩
    rw [hn] at q
    obtain ⟨q1, q2⟩ := List.mem_filter.mp q
    have : ∀ s ∈ b, s ∉ W := by
      intro s hs hw
      have : meets b W = true := meets_iff.mpr ⟨s, hs, hw⟩
      rw [this] at q2; cases q2
    exact this b0 hb0 b0W
  · intro p hp
    rcases (mem p).mp hp with e | ⟨h1, _⟩
    · intro z; rw [e] at z; rw [z] at b0W; simp at b0W
    · exact h.ne p h1
  · intro p hp x hx
    rcases (mem p).mp hp with e | ⟨h1, _⟩
    · exact ltW x (e ▸ hx)
    · exact h.lt p h1 x hx
  · intro x y hx hy
    rw [get x hx, get y hy]
    have mW : W ∈ joined P b := (mem W).mpr (.inl rfl)
    have m0 : ∀ z, z < N → z ∉ W → ms.getD (b.getD 0 0) 0 ≠ ms.getD z 0 := by
      intro z hz hw e
      exact hw ((inold z hz).mp (List.mem_map.mpr ⟨_, b00, e⟩))
    by_cases cx : x ∈ W
    · by_cases cy : y ∈ W
      · rw [if_pos cx, if_pos cy]
        exact ⟨fun _ => .inr ⟨W, mW, cx, cy⟩, fun _ => rfl⟩
      · rw [if_pos cx, if_neg cy]
        refine ⟨fun e => absurd e (m0 y hy cy), ?_⟩
        rintro (e | ⟨p, hp, h1, h2⟩)
        · exact absurd (e ▸ cx) cy
        · have := un p hp W mW x h1 cx
          exact absurd (this ▸ h2) cy
    · by_cases cy : y ∈ W
      · rw [if_neg cx, if_pos cy]
        refine ⟨fun e => absurd e.symm (m0 x hx cx), ?_⟩
        rintro (e | ⟨p, hp, h1, h2⟩)
        · exact absurd (e ▸ cy) cx
        · have := un p hp W mW y h2 cy
          exact absurd (this ▸ h1) cx
      · rw [if_neg cx, if_neg cy, h.eq x y hx hy]
        constructor
        · rintro (e | ⟨p, hp, h1, h2⟩)
          · exact .inl e
          · exact .inr ⟨p, (mem p).mpr (.inr ⟨hp, fun s hs sp => cx ((new x).mpr (.inr ⟨p, hp, h1, s, hs, sp⟩))⟩), h1, h2⟩
        · rintro (e | ⟨p, hp, h1, h2⟩)
          · exact .inl e
          · rcases (mem p).mp hp with e | ⟨h3, _⟩
            · exact absurd (e ▸ h1) cx
            · exact .inr ⟨p, h3, h1, h2⟩
theorem Pcs.all {N : Nat} : ∀ {bs : List (List Nat)} {P : List (List Nat)} {ms : List Nat}, Pcs N P ms → (∀ b ∈ bs, b ≠ []) → (∀ b ∈ bs, ∀ x ∈ b, x < N) → Pcs N (bs.foldl joined P) (bs.foldl markStep ms)
  | [], _, _, h, _, _ => h
  | b :: bs, P, ms, h, h1, h2 => Pcs.all (bs := bs) (P := joined P b) (ms := markStep ms b) (h.step (h1 b (by simp)) (h2 b (by simp))) (fun c hc => h1 c (by simp [hc])) (fun c hc => h2 c (by simp [hc]))
theorem joined_keeps : ∀ (bs : List (List Nat)) (P : List (List Nat)) (x : Nat), (x ∈ P.flatten ∨ x ∈ bs.flatten) → x ∈ (bs.foldl joined P).flatten
  | [], P, x, h => by simpa using h
  | b :: bs, P, x, h => by
    rw [List.foldl_cons]
    refine joined_keeps bs _ x ?_
    have k : (x ∈ P.flatten ∨ x ∈ b) → x ∈ (joined P b).flatten := by
      intro q
      unfold joined
      rw [List.flatten_cons, List.mem_append]
      rcases q with q | q
      · obtain ⟨p, hp, hx⟩ := List.mem_flatten.mp q
        by_cases c : meets b p = true
        · exact .inl (List.mem_flatten.mpr ⟨p, by simp [hp, c], hx⟩)
        · exact .inr (List.mem_flatten.mpr ⟨p, List.mem_filter.mpr ⟨hp, by simpa using c⟩, hx⟩)
      · exact .inl (List.mem_flatten.mpr ⟨b, by simp, q⟩)
    rw [List.flatten_cons, List.mem_append] at h
    rcases h with q | q | q
    · exact .inl (k (.inl q))
    · exact .inl (k (.inr q))
    · exact .inr q
/-- as many different marks as pieces -/
theorem pieces_count {d : Drawing} (F : Fit d) (ho : On d) {L : List Nat} (nd : L.Nodup) (hm : ∀ m, m ∈ L ↔ m ∈ marksOf d d.regions.flatten) : L.length = (pieces d).length := by
  have mb : ∀ b ∈ d.regions.flatten, ∃ bs ∈ d.regions, b ∈ bs := fun b hb => List.mem_flatten.mp hb
  have p : Pcs d.ends.length (pieces d) (marksOf d d.regions.flatten) := Pcs.all (Pcs.first d.ends.length) (fun b hb => by
    obtain ⟨bs, h1, h2⟩ := mb b hb
    exact F.ne bs h1 b h2) (fun b hb x hx => by
    obtain ⟨bs, h1, h2⟩ := mb b hb
    exact F.wi bs h1 b h2 x hx)
  generalize hM : marksOf d d.regions.flatten = ms at p hm
  have hd : ∀ q ∈ pieces d, q.headD 0 ∈ q := fun q hq => by
    cases q with
    | nil => exact absurd rfl (p.ne _ hq)
    | cons a q => simp
  have R : ((pieces d).map fun q => ms.getD (q.headD 0) 0).Nodup := by
    have : ∀ (l : List (List Nat)), l.Nodup → (∀ q ∈ l, q ∈ pieces d) → (l.map fun q => ms.getD (q.headD 0) 0).Nodup := by
      intro l
      induction l with
      | nil => intro _ _; exact List.nodup_nil
      | cons q l ih =>
        intro h1 h2
        rw [List.map_cons, List.nodup_cons]
        rw [List.nodup_cons] at h1
        refine ⟨fun z => ?_, ih h1.2 fun r hr => h2 r (by simp [hr])⟩
        obtain ⟨r, hr, e⟩ := List.mem_map.mp z
        have hq := h2 q (by simp)
        have hr' := h2 r (by simp [hr])
        rcases (p.eq _ _ (p.lt r hr' _ (hd r hr')) (p.lt q hq _ (hd q hq))).mp e with e' | ⟨s, hs, s1, s2⟩
        · have := p.un r hr' q hq _ (hd r hr') (by rw [e']; exact hd q hq)
          exact h1.1 (this ▸ hr)
        · have a1 := p.un r hr' s hs _ (hd r hr') s1
          have a2 := p.un q hq s hs _ (hd q hq) s2
          exact h1.1 (by rw [a2, ← a1]; exact hr)
    exact this _ p.nd fun q hq => hq
  have sub1 : ∀ m ∈ L, m ∈ (pieces d).map fun q => ms.getD (q.headD 0) 0 := by
    intro m hmm
    obtain ⟨x, hx, e⟩ := List.getElem_of_mem ((hm m).mp hmm)
    have xN : x < d.ends.length := by rw [← p.ln]; exact hx
    have xf : x ∈ (pieces d).flatten := joined_keeps d.regions.flatten [] x (.inr (ho x xN))
    obtain ⟨q, hq, xq⟩ := List.mem_flatten.mp xf
    refine List.mem_map.mpr ⟨q, hq, ?_⟩
    rw [← e, ← getD_lt (z := 0) hx]
    exact (p.eq _ _ (p.lt q hq _ (hd q hq)) xN).mpr (.inr ⟨q, hq, hd q hq, xq⟩)
  have sub2 : ∀ m ∈ (pieces d).map (fun q => ms.getD (q.headD 0) 0), m ∈ L := by
    intro m hmm
    obtain ⟨q, hq, rfl⟩ := List.mem_map.mp hmm
    have lt : q.headD 0 < ms.length := by rw [p.ln]; exact p.lt q hq _ (hd q hq)
    rw [hm, getD_lt lt]
    exact List.getElem_mem lt
  have a := nodup_len _ _ nd sub1
  have b := nodup_len _ _ R sub2
  rw [List.length_map] at a b
  omega
end Sg

/-! ### text SgN -/
namespace Sg
open Uw61

/-! ## the calls, one by one -/
def nums (p : Nat) : Nat := ([1, 5, 4, 0, 1, 0, 0, 0, 1, 0, 0] : List Nat).getD p 0
inductive IsCall : Nat → List Nat → List Nat → Call → Prop
  | begins (n : Nat) (ks : List Nat) : IsCall 0 [n] ks (.begins n)
  | joins (r a i b j : Nat) (ks : List Nat) : IsCall 1 [r, a, i, b, j] ks (.joins r a i b j)
  | parts (r a i j : Nat) (ks : List Nat) : IsCall 2 [r, a, i, j] ks (.parts r a i j ks)
  | undo (ks : List Nat) : IsCall 3 [] ks .undo
  | shows (r : Nat) (ks : List Nat) : IsCall 4 [r] ks (.shows r)
  | spots (ks : List Nat) : IsCall 5 [] ks .spots
  | counts (ks : List Nat) : IsCall 6 [] ks .counts
  | ways (ks : List Nat) : IsCall 7 [] ks .ways
  | wins (k : Nat) (ks : List Nat) : IsCall 8 [k] ks (.wins k)
  | worth (ks : List Nat) : IsCall 9 [] ks .worth
  | span (ks : List Nat) : IsCall 10 [] ks .span
structure OneCall (ln : List Nat) (m p : Nat) (ns ks : List Nat) (after : Nat) : Prop where
  hp : ln[m]? = some p
  p10 : p ≤ 10
  hn : ns = (ln.drop (m + 1)).take (nums p)
  hl : m + 1 + nums p ≤ ln.length
  no : p ≠ 2 → ks = [] ∧ after = m + 1 + nums p
  yes : p = 2 → ∃ k, ln[m + 5]? = some k ∧ m + 6 + k ≤ ln.length ∧ ks = (ln.drop (m + 6)).take k ∧ after = m + 6 + k
theorem nat_ok {x : Nat} (h : x < 4294967296) : Uw61Neutral.nat (x : Int) = true := by
  unfold Uw61Neutral.nat
  rw [Bool.and_eq_true]
  exact ⟨decide_eq_true (Int.natCast_nonneg x), decide_eq_true (by omega)⟩
theorem all_nat : ∀ (l : List Nat), (∀ x ∈ l, x < 4294967296) → (l.map fun n : Nat => (n : Int)).all Uw61Neutral.nat = true
  | [], _ => rfl
  | x :: l, h => by
    rw [List.map_cons, List.all_cons, nat_ok (h x (by simp)), all_nat l fun y hy => h y (by simp [hy])]; rfl
theorem callOf_ints {l : List Nat} (h : ∀ x ∈ l, x < 4294967296) : Uw61Neutral.callOf (Uw61.ints l) = Uw61Neutral.callIn l := by
  unfold Uw61Neutral.callOf Uw61.ints
  have e : (l.map fun n : Nat => (n : Int)).all Uw61Neutral.nat = true := all_nat l h
  rw [e, if_neg (by decide), List.map_map]
  congr 1
  have : (Int.toNat ∘ fun n : Nat => (n : Int)) = id := by funext n; simp
  rw [this, List.map_id]
theorem step_of {S : St} {l : List Nat} {c : Call} (h : ∀ x ∈ l, x < 4294967296) (hc : Uw61Neutral.callIn l = some c) : Uw61Neutral.step S (Uw61.ints l) = Uw61.step S c := by
  unfold Uw61Neutral.step
  rw [callOf_ints h, hc]
  rfl
theorem flat_call0 {p : Int} {n : Nat} {r : List Int} (hs : PyUw61.shape p = some (n, 0)) (c : List (List Int)) (t : List Int) (h : PyFlat.call PyUw61.shape (p :: r) = some (c, t)) : n ≤ r.length ∧ c = [p :: r.take n] ∧ t = r.drop n := by
  simp only [PyFlat.call, hs] at h
  by_cases q : r.length < n
  · rw [if_pos q] at h; cases h
  · rw [if_neg q] at h
    simp only [PyFlat.rows] at h
    have := Prod.mk.inj (Option.some.inj h)
    exact ⟨by omega, this.1.symm, this.2.symm⟩
theorem flat_call1 {p : Int} {n : Nat} {r : List Int} (hs : PyUw61.shape p = some (n, 1)) (c : List (List Int)) (t : List Int) (h : PyFlat.call PyUw61.shape (p :: r) = some (c, t)) :
    n ≤ r.length ∧ ∃ k s, r.drop n = k :: s ∧ 0 ≤ k ∧ k.toNat ≤ s.length ∧ c = [p :: r.take n, s.take k.toNat] ∧ t = s.drop k.toNat := by
  simp only [PyFlat.call, hs] at h
  by_cases q : r.length < n
  · rw [if_pos q] at h; cases h
  · rw [if_neg q] at h
    simp only [PyFlat.rows] at h
    refine ⟨by omega, ?_⟩
    cases e : r.drop n with
    | nil => rw [e] at h; simp [PyFlat.row] at h
    | cons k s =>
      rw [e] at h
      simp only [PyFlat.row] at h
      by_cases q2 : 0 ≤ k ∧ k.toNat ≤ s.length
      · rw [if_pos q2] at h
        simp only at h
        have := Prod.mk.inj (Option.some.inj h)
        exact ⟨k, s, rfl, q2.1, q2.2, this.1.symm, this.2.symm⟩
      · rw [if_neg q2] at h; simp at h
theorem ints_take (l : List Nat) (n : Nat) : (Uw61.ints l).take n = Uw61.ints (l.take n) := by unfold Uw61.ints; rw [List.map_take]
theorem ints_drop (l : List Nat) (n : Nat) : (Uw61.ints l).drop n = Uw61.ints (l.drop n) := by unfold Uw61.ints; rw [List.map_drop]
theorem ints_len (l : List Nat) : (Uw61.ints l).length = l.length := List.length_map ..
theorem len0 {l : List Nat} (h : l.length = 0) : l = [] := List.length_eq_zero_iff.mp h
theorem len1 {l : List Nat} (h : l.length = 1) : ∃ x, l = [x] := by
  match l, h with
  | [x], _ => exact ⟨x, rfl⟩
theorem len4 {l : List Nat} (h : l.length = 4) : ∃ a b c d, l = [a, b, c, d] := by
  match l, h with
  | [a, b, c, d], _ => exact ⟨a, b, c, d, rfl⟩
theorem len5 {l : List Nat} (h : l.length = 5) : ∃ a b c d e, l = [a, b, c, d, e] := by
  match l, h with
  | [a, b, c, d, e], _ => exact ⟨a, b, c, d, e, rfl⟩
theorem cons_lt {p : Nat} {ns : List Nat} (hp : p < 4294967296) (h : ∀ x ∈ ns, x < 4294967296) : ∀ y ∈ p :: ns, y < 4294967296 := fun y hy => by
  rcases List.mem_cons.mp hy with e | hy
  · rw [e]; exact hp
  · exact h _ hy
theorem parse_step {ln : List Nat} (hb : ∀ x ∈ ln, x < 4294967296) {f m : Nat} {raw : List (List (List Int))} (h : PyFlat.calls PyUw61.shape f (Uw61.ints (ln.drop m)) = some raw) (hm : m < ln.length) :
    ∃ p ns ks after c rc raw' f', raw = rc :: raw' ∧ OneCall ln m p ns ks after ∧ IsCall p ns ks c ∧ m < after ∧ PyFlat.calls PyUw61.shape f' (Uw61.ints (ln.drop after)) = some raw' ∧ ∀ S, Uw61Neutral.step S ((PyUw61.whole rc).headD []) = Uw61.step S c := by
  have e0 : ln.drop m = ln[m] :: ln.drop (m + 1) := List.drop_eq_getElem_cons hm
  have gp : ln[m]? = some ln[m] := List.getElem?_eq_getElem hm
  generalize ln[m] = p at e0 gp
  rw [e0] at h
  have ec : Uw61.ints (p :: ln.drop (m + 1)) = (p : Int) :: Uw61.ints (ln.drop (m + 1)) := rfl
  rw [ec] at h
  cases f with
  | zero => simp [PyFlat.calls] at h
  | succ f =>
    simp only [PyFlat.calls] at h
    cases hc : PyFlat.call PyUw61.shape ((p : Int) :: Uw61.ints (ln.drop (m + 1))) with
    | none => rw [hc] at h; cases h
    | some ct =>
      obtain ⟨rc, t⟩ := ct
      rw [hc] at h
      simp only at h
      cases hr : PyFlat.calls PyUw61.shape f t with
      | none => rw [hr] at h; cases h
      | some raw' =>
        rw [hr] at h
        have h := (Option.some.inj h).symm
        have pb : p < 4294967296 := hb p (List.mem_of_getElem? gp)
        have rb : ∀ x ∈ ln.drop (m + 1), x < 4294967296 := fun x hx => hb x (List.mem_of_mem_drop hx)
        -- calls without a row
        have plain : ∀ n, p ≤ 10 → p ≠ 2 → nums p = n → PyUw61.shape (p : Int) = some (n, 0) → (∀ ns, ns.length = n → (∀ x ∈ ns, x < 4294967296) → ∃ c, IsCall p ns [] c ∧ ∀ S, Uw61Neutral.step S ((PyUw61.whole [(p : Int) :: Uw61.ints ns]).headD []) = Uw61.step S c) →
            ∃ p ns ks after c rc raw' f', raw = rc :: raw' ∧ OneCall ln m p ns ks after ∧ IsCall p ns ks c ∧ m < after ∧ PyFlat.calls PyUw61.shape f' (Uw61.ints (ln.drop after)) = some raw' ∧ ∀ S, Uw61Neutral.step S ((PyUw61.whole rc).headD []) = Uw61.step S c := by
          intro n p10 p2 en hs k
          obtain ⟨h1, h2, h3⟩ := flat_call0 hs rc t hc
          rw [ints_len, List.length_drop] at h1
          rw [ints_take] at h2
          rw [ints_drop, List.drop_drop] at h3
          obtain ⟨c, ic, st⟩ := k ((ln.drop (m + 1)).take n) (by rw [List.length_take, List.length_drop]; omega) (fun x hx => rb x (List.mem_of_mem_take hx))
          rw [← en] at h3 ic st h1
          refine ⟨p, _, [], m + 1 + nums p, c, rc, raw', f, h, ⟨gp, p10, rfl, by omega, fun _ => ⟨rfl, rfl⟩, fun z => absurd z p2⟩, ic, by omega, ?_, ?_⟩
          · rw [← hr, h3]
          · rw [h2, ← en]; exact st
        by_cases c0 : p = 0
        · subst c0
          refine plain 1 (by omega) (by omega) rfl rfl fun ns hl hx => ?_
          obtain ⟨x, rfl⟩ := len1 hl
          exact ⟨_, .begins x [], fun S => step_of (l := [0, x]) (fun y hy => cons_lt (by decide) hx y hy) rfl⟩
        by_cases c1 : p = 1
        · subst c1
          refine plain 5 (by omega) (by omega) rfl rfl fun ns hl hx => ?_
          obtain ⟨x, a, b, c, d, rfl⟩ := len5 hl
          exact ⟨_, .joins x a b c d [], fun S => step_of (l := [1, x, a, b, c, d]) (fun y hy => cons_lt (by decide) hx y hy) rfl⟩
        by_cases c3 : p = 3
        · subst c3
          refine plain 0 (by omega) (by omega) rfl rfl fun ns hl hx => ?_
          have := len0 hl
          subst this
          exact ⟨_, .undo [], fun S => step_of (l := [3]) (by decide) rfl⟩
        by_cases c4 : p = 4
        · subst c4
          refine plain 1 (by omega) (by omega) rfl rfl fun ns hl hx => ?_
          obtain ⟨x, rfl⟩ := len1 hl
          exact ⟨_, .shows x [], fun S => step_of (l := [4, x]) (fun y hy => cons_lt (by decide) hx y hy) rfl⟩
        by_cases c5 : p = 5
        · subst c5
          refine plain 0 (by omega) (by omega) rfl rfl fun ns hl hx => ?_
          have := len0 hl
          subst this
          exact ⟨_, .spots [], fun S => step_of (l := [5]) (by decide) rfl⟩
        by_cases c6 : p = 6
        · subst c6
          refine plain 0 (by omega) (by omega) rfl rfl fun ns hl hx => ?_
          have := len0 hl
          subst this
          exact ⟨_, .counts [], fun S => step_of (l := [6]) (by decide) rfl⟩
        by_cases c7 : p = 7
        · subst c7
          refine plain 0 (by omega) (by omega) rfl rfl fun ns hl hx => ?_
          have := len0 hl
          subst this
          exact ⟨_, .ways [], fun S => step_of (l := [7]) (by decide) rfl⟩
        by_cases c8 : p = 8
        · subst c8
          refine plain 1 (by omega) (by omega) rfl rfl fun ns hl hx => ?_
          obtain ⟨x, rfl⟩ := len1 hl
          exact ⟨_, .wins x [], fun S => step_of (l := [8, x]) (fun y hy => cons_lt (by decide) hx y hy) rfl⟩
        by_cases c9 : p = 9
        · subst c9
          refine plain 0 (by omega) (by omega) rfl rfl fun ns hl hx => ?_
          have := len0 hl
          subst this
          exact ⟨_, .worth [], fun S => step_of (l := [9]) (by decide) rfl⟩
        by_cases c10 : p = 10
        · subst c10
          refine plain 0 (by omega) (by omega) rfl rfl fun ns hl hx => ?_
          have := len0 hl
          subst this
          exact ⟨_, .span [], fun S => step_of (l := [10]) (by decide) rfl⟩
        by_cases c2 : p = 2
        · subst c2
          obtain ⟨h1, k, s, h2, h3, h4, h5, h6⟩ := flat_call1 (n := 4) rfl rc t hc
          rw [ints_len, List.length_drop] at h1
          rw [ints_drop, List.drop_drop] at h2
          have m5 : m + 5 < ln.length := by
            rcases Nat.lt_or_ge (m + 5) ln.length with z | z
            · exact z
            · rw [show m + 1 + 4 = m + 5 by omega, List.drop_eq_nil_of_le z] at h2; simp [Uw61.ints] at h2
          have e5 : ln.drop (m + 1 + 4) = ln[m + 5] :: ln.drop (m + 6) := List.drop_eq_getElem_cons m5
          rw [e5] at h2
          have h2 : ((ln[m + 5] : Nat) : Int) :: Uw61.ints (ln.drop (m + 6)) = k :: s := h2
          have hk := (List.cons.inj h2).1
          have hs := (List.cons.inj h2).2
          have g5 : ln[m + 5]? = some ln[m + 5] := List.getElem?_eq_getElem m5
          generalize ln[m + 5] = kn at hk g5
          subst hk hs
          have tn : ((kn : Nat) : Int).toNat = kn := by omega
          rw [tn] at h4 h5 h6
          rw [ints_len, List.length_drop] at h4
          rw [ints_take, ints_take] at h5
          rw [ints_drop, List.drop_drop] at h6
          obtain ⟨x, a, b, c, ens⟩ := len4 (l := (ln.drop (m + 1)).take 4) (by rw [List.length_take, List.length_drop]; omega)
          refine ⟨2, _, _, m + 6 + kn, .parts x a b c ((ln.drop (m + 6)).take kn), rc, raw', f, h, ⟨gp, by omega, rfl, by show m + 1 + 4 ≤ _; omega, fun z => absurd rfl z, fun _ => ⟨kn, g5, by omega, rfl, rfl⟩⟩, ?_, by omega, by rw [← hr, h6], ?_⟩
          · have : (ln.drop (m + 1)).take (nums 2) = [x, a, b, c] := ens
            rw [this]
            exact .parts x a b c _
          · intro S
            rw [h5, ens]
            refine step_of (l := 2 :: x :: a :: b :: c :: (ln.drop (m + 6)).take kn) (fun y hy => ?_) rfl
            have xs : ∀ z ∈ [x, a, b, c], z < 4294967296 := fun z hz => rb z (List.mem_of_mem_take (by rw [ens]; exact hz))
            simp only [List.mem_cons] at hy
            rcases hy with rfl | rfl | rfl | rfl | rfl | hy
            · decide
            · exact xs _ (by simp)
            · exact xs _ (by simp)
            · exact xs _ (by simp)
            · exact xs _ (by simp)
            · exact hb y (List.mem_of_mem_drop (List.mem_of_mem_take hy))
        · exfalso
          have : PyUw61.shape (p : Int) = none := by
            unfold PyUw61.shape
            rw [if_neg (by omega), if_neg (by omega), if_neg (by omega), if_neg (by omega), if_neg (by omega), if_neg (by omega), if_neg (by omega), if_neg (by omega), if_neg (by omega), if_neg (by omega), if_neg (by omega)]
          simp only [PyFlat.call, this] at hc
          cases hc
theorem past_step (S : St) (c : Call) : (Uw61.step S c).1.past.length ≤ S.past.length + 1 := by
  cases c with
  | begins n => show (if _ then _ else _ : St × List Int).1.past.length ≤ _; split <;> simp
  | joins r a i b j =>
    show (if _ then _ else if _ then _ else draw S _ : St × List Int).1.past.length ≤ _
    split
    · simp
    · split
      · simp
      · unfold draw; split <;> simp
  | parts r a i j l =>
    show (if _ then _ else if _ then _ else draw S _ : St × List Int).1.past.length ≤ _
    split
    · simp
    · split
      · simp
      · unfold draw; split <;> simp
  | undo =>
    obtain ⟨now, past⟩ := S
    cases past with
    | nil => simp [Uw61.step]
    | cons d l => show l.length ≤ _; simp; omega
  | shows r => show S.past.length ≤ _; omega
  | spots => show S.past.length ≤ _; omega
  | counts => show S.past.length ≤ _; omega
  | ways => show S.past.length ≤ _; omega
  | wins k =>
    show (if _ then _ else small S _ : St × List Int).1.past.length ≤ _
    split
    · simp
    · show S.past.length ≤ _; omega
  | worth => show S.past.length ≤ _; omega
  | span => show S.past.length ≤ _; omega
end Sg

/-! ### text WA -/
namespace Sg
open PySem PySem.Spec PyProof.Rows L2
def top (i : Nat) : Stmt := PySem.Challenge.pw_sproutlines_s01_answers.main.body.getD i (.Pass ⟨0, 0, 0, 0⟩)
abbrev s_D_init : Stmt := inClass (top 3) 0
abbrev s_D_lives_of : Stmt := inClass (top 3) 1
abbrev s_D_all_lives : Stmt := inClass (top 3) 2
abbrev s_D_all_borders : Stmt := inClass (top 3) 3
abbrev s_D_has_place : Stmt := inClass (top 3) 4
abbrev s_at_first : Stmt := top 4
abbrev s_all_round : Stmt := top 5
abbrev s_ends_behind : Stmt := top 6
abbrev s_regions_with : Stmt := top 7
abbrev s_joined : Stmt := top 8
abbrev s_near_border : Stmt := top 9
abbrev s_far_border : Stmt := top 10
abbrev s_parted : Stmt := top 11
abbrev s_pieces_of : Stmt := top 12
abbrev s_may_end : Stmt := top 16
abbrev s_places_from : Stmt := top 17
abbrev s_joins_in : Stmt := top 18
abbrev s_bows_on : Stmt := top 19
abbrev s_choices : Stmt := top 20
abbrev s_others_than : Stmt := top 21
abbrev s_parts_in : Stmt := top 22
abbrev s_lines_of : Stmt := top 23
abbrev s_drawn : Stmt := top 24
abbrev s_numbers_of : Stmt := top 25
abbrev s_shown_as : Stmt := top 28
abbrev s_thinned : Stmt := top 29
abbrev s_is_live : Stmt := top 30
abbrev s_is_open : Stmt := top 31
abbrev s_lean : Stmt := top 32
abbrev s_form_of : Stmt := top 33
abbrev s_behind : Stmt := top 35
abbrev s_least_missing : Stmt := top 36
abbrev s_wins_in : Stmt := top 37
abbrev s_first_win : Stmt := top 38
abbrev s_worth_in : Stmt := top 39
abbrev s_span_in : Stmt := top 40
abbrev s_is_choice : Stmt := top 60
abbrev s_S_init : Stmt := inClass (top 61) 0
abbrev s_S_go_on : Stmt := inClass (top 61) 1
abbrev s_S_begins : Stmt := inClass (top 61) 2
abbrev s_S_joins : Stmt := inClass (top 61) 3
abbrev s_S_parts : Stmt := inClass (top 61) 4
abbrev s_S_undo : Stmt := inClass (top 61) 5
abbrev s_S_shows : Stmt := inClass (top 61) 6
abbrev s_S_spots : Stmt := inClass (top 61) 7
abbrev s_S_counts : Stmt := inClass (top 61) 8
abbrev s_S_ways : Stmt := inClass (top 61) 9
abbrev s_S_wins : Stmt := inClass (top 61) 10
abbrev s_S_worth : Stmt := inClass (top 61) 11
abbrev s_S_span : Stmt := inClass (top 61) 12
abbrev s_S_deed : Stmt := inClass (top 61) 13
abbrev s_S_question : Stmt := inClass (top 61) 14
abbrev s_call_at : Stmt := top 62
abbrev s_answers : Stmt := top 63
theorem sc_D_init : FnScope ["self", "ends", "regions"] ["self", "ends", "regions"] (defScope s_D_init) := ⟨rfl, rfl, rfl, by decide +kernel, rfl, by decide +kernel, by decide +kernel⟩
theorem sc_D_lives_of : FnScope ["self", "spot"] ["self", "spot"] (defScope s_D_lives_of) := ⟨rfl, rfl, rfl, by decide +kernel, rfl, by decide +kernel, by decide +kernel⟩
theorem sc_D_all_lives : FnScope ["self", "many"] ["self"] (defScope s_D_all_lives) := ⟨rfl, rfl, rfl, by decide +kernel, rfl, by decide +kernel, by decide +kernel⟩
theorem sc_D_all_borders : FnScope ["self", "found", "borders"] ["self"] (defScope s_D_all_borders) := ⟨rfl, rfl, rfl, by decide +kernel, rfl, by decide +kernel, by decide +kernel⟩
theorem sc_D_has_place : FnScope ["self", "region", "border", "place"] ["self", "region", "border", "place"] (defScope s_D_has_place) := ⟨rfl, rfl, rfl, by decide +kernel, rfl, by decide +kernel, by decide +kernel⟩
theorem sc_at_first : FnScope ["many", "spot"] ["many"] (defScope s_at_first) := ⟨rfl, rfl, rfl, by decide +kernel, rfl, by decide +kernel, by decide +kernel⟩
theorem sc_all_round : FnScope ["border", "place"] ["border", "place"] (defScope s_all_round) := ⟨rfl, rfl, rfl, by decide +kernel, rfl, by decide +kernel, by decide +kernel⟩
theorem sc_ends_behind : FnScope ["ends", "one", "other", "found"] ["ends", "one", "other"] (defScope s_ends_behind) := ⟨rfl, rfl, rfl, by decide +kernel, rfl, by decide +kernel, by decide +kernel⟩
theorem sc_regions_with : FnScope ["regions", "number", "borders", "found"] ["regions", "number", "borders"] (defScope s_regions_with) := ⟨rfl, rfl, rfl, by decide +kernel, rfl, by decide +kernel, by decide +kernel⟩
theorem sc_joined : FnScope ["drawing", "region", "a", "i", "b", "j", "borders", "spot", "both", "kept", "ends", "k", "border"] ["drawing", "region", "a", "i", "b", "j"] (defScope s_joined) := ⟨rfl, rfl, rfl, by decide +kernel, rfl, by decide +kernel, by decide +kernel⟩
theorem sc_near_border : FnScope ["border", "i", "j", "spot"] ["border", "i", "j", "spot"] (defScope s_near_border) := ⟨rfl, rfl, rfl, by decide +kernel, rfl, by decide +kernel, by decide +kernel⟩
theorem sc_far_border : FnScope ["border", "i", "j", "spot"] ["border", "i", "j", "spot"] (defScope s_far_border) := ⟨rfl, rfl, rfl, by decide +kernel, rfl, by decide +kernel, by decide +kernel⟩
theorem sc_parted : FnScope ["drawing", "region", "a", "i", "j", "chosen", "borders", "spot", "kept", "others", "regions", "k", "border"] ["drawing", "region", "a", "i", "j", "chosen"] (defScope s_parted) := ⟨rfl, rfl, rfl, by decide +kernel, rfl, by decide +kernel, by decide +kernel⟩
theorem sc_pieces_of : FnScope ["drawing", "marks", "border", "mark", "old", "spot", "one"] ["drawing"] (defScope s_pieces_of) := ⟨rfl, rfl, rfl, by decide +kernel, rfl, by decide +kernel, by decide +kernel⟩
theorem sc_may_end : FnScope ["drawing", "one", "other"] ["drawing", "one", "other"] (defScope s_may_end) := ⟨rfl, rfl, rfl, by decide +kernel, rfl, by decide +kernel, by decide +kernel⟩
theorem sc_places_from : FnScope ["borders", "first", "found", "k", "place"] ["borders", "first"] (defScope s_places_from) := ⟨rfl, rfl, rfl, by decide +kernel, rfl, by decide +kernel, by decide +kernel⟩
theorem sc_joins_in : FnScope ["drawing", "region", "borders", "found", "a", "i", "b", "j"] ["drawing", "region"] (defScope s_joins_in) := ⟨rfl, rfl, rfl, by decide +kernel, rfl, by decide +kernel, by decide +kernel⟩
theorem sc_bows_on : FnScope ["drawing", "border", "found", "i", "j"] ["drawing", "border"] (defScope s_bows_on) := ⟨rfl, rfl, rfl, by decide +kernel, rfl, by decide +kernel, by decide +kernel⟩
theorem sc_choices : FnScope ["some", "found", "thing", "one"] ["some"] (defScope s_choices) := ⟨rfl, rfl, rfl, by decide +kernel, rfl, by decide +kernel, by decide +kernel⟩
theorem sc_others_than : FnScope ["borders", "a", "k"] ["borders", "a"] (defScope s_others_than) := ⟨rfl, rfl, rfl, by decide +kernel, rfl, by decide +kernel, by decide +kernel⟩
theorem sc_parts_in : FnScope ["drawing", "region", "borders", "found", "a", "border", "some", "i", "j", "chosen"] ["drawing", "region"] (defScope s_parts_in) := ⟨rfl, rfl, rfl, by decide +kernel, rfl, by decide +kernel, by decide +kernel⟩
theorem sc_lines_of : FnScope ["drawing", "found", "region"] ["drawing"] (defScope s_lines_of) := ⟨rfl, rfl, rfl, by decide +kernel, rfl, by decide +kernel, by decide +kernel⟩
theorem sc_drawn : FnScope ["drawing", "line"] ["drawing", "line"] (defScope s_drawn) := ⟨rfl, rfl, rfl, by decide +kernel, rfl, by decide +kernel, by decide +kernel⟩
theorem sc_numbers_of : FnScope ["line"] ["line"] (defScope s_numbers_of) := ⟨rfl, rfl, rfl, by decide +kernel, rfl, by decide +kernel, by decide +kernel⟩
theorem sc_shown_as : FnScope ["drawing", "spot", "names"] ["drawing", "spot", "names"] (defScope s_shown_as) := ⟨rfl, rfl, rfl, by decide +kernel, rfl, by decide +kernel, by decide +kernel⟩
theorem sc_thinned : FnScope ["border", "found", "spot"] ["border"] (defScope s_thinned) := ⟨rfl, rfl, rfl, by decide +kernel, rfl, by decide +kernel, by decide +kernel⟩
theorem sc_is_live : FnScope ["drawing", "border", "spot"] ["drawing", "border"] (defScope s_is_live) := ⟨rfl, rfl, rfl, by decide +kernel, rfl, by decide +kernel, by decide +kernel⟩
theorem sc_is_open : FnScope ["drawing", "region", "bows", "border", "some"] ["drawing", "region"] (defScope s_is_open) := ⟨rfl, rfl, rfl, by decide +kernel, rfl, by decide +kernel, by decide +kernel⟩
theorem sc_lean : FnScope ["drawing", "names", "regions", "region", "borders", "ends", "some", "border", "spot"] ["drawing"] (defScope s_lean) := ⟨rfl, rfl, rfl, by decide +kernel, rfl, by decide +kernel, by decide +kernel⟩
theorem sc_form_of : FnScope ["drawing", "regions", "borders", "border"] ["drawing"] (defScope s_form_of) := ⟨rfl, rfl, rfl, by decide +kernel, rfl, by decide +kernel, by decide +kernel⟩
theorem sc_behind : FnScope ["drawing", "line"] ["drawing"] (defScope s_behind) := ⟨rfl, rfl, rfl, by decide +kernel, rfl, by decide +kernel, by decide +kernel⟩
theorem sc_least_missing : FnScope ["some", "number"] ["some"] (defScope s_least_missing) := ⟨rfl, rfl, rfl, by decide +kernel, rfl, by decide +kernel, by decide +kernel⟩
theorem sc_wins_in : FnScope ["drawing", "way", "known", "bare", "form", "some", "one"] ["drawing", "way", "known"] (defScope s_wins_in) := ⟨rfl, rfl, rfl, by decide +kernel, rfl, by decide +kernel, by decide +kernel⟩
theorem sc_first_win : FnScope ["drawing", "way", "known", "line"] ["drawing", "way"] (defScope s_first_win) := ⟨rfl, rfl, rfl, by decide +kernel, rfl, by decide +kernel, by decide +kernel⟩
theorem sc_worth_in : FnScope ["drawing", "known", "bare", "form", "one"] ["drawing", "known"] (defScope s_worth_in) := ⟨rfl, rfl, rfl, by decide +kernel, rfl, by decide +kernel, by decide +kernel⟩
theorem sc_span_in : FnScope ["drawing", "known", "bare", "form", "some", "one"] ["drawing", "known"] (defScope s_span_in) := ⟨rfl, rfl, rfl, by decide +kernel, rfl, by decide +kernel, by decide +kernel⟩
theorem sc_is_choice : FnScope ["chosen", "many", "a", "k", "number"] ["chosen", "many", "a"] (defScope s_is_choice) := ⟨rfl, rfl, rfl, by decide +kernel, rfl, by decide +kernel, by decide +kernel⟩
theorem sc_S_init : FnScope ["self"] ["self"] (defScope s_S_init) := ⟨rfl, rfl, rfl, by decide +kernel, rfl, by decide +kernel, by decide +kernel⟩
theorem sc_S_go_on : FnScope ["self", "drawing"] ["self", "drawing"] (defScope s_S_go_on) := ⟨rfl, rfl, rfl, by decide +kernel, rfl, by decide +kernel, by decide +kernel⟩
theorem sc_S_begins : FnScope ["self", "many"] ["self", "many"] (defScope s_S_begins) := ⟨rfl, rfl, rfl, by decide +kernel, rfl, by decide +kernel, by decide +kernel⟩
theorem sc_S_joins : FnScope ["self", "region", "a", "i", "b", "j", "borders"] ["self", "region", "a", "i", "b", "j"] (defScope s_S_joins) := ⟨rfl, rfl, rfl, by decide +kernel, rfl, by decide +kernel, by decide +kernel⟩
theorem sc_S_parts : FnScope ["self", "region", "a", "i", "j", "chosen", "borders"] ["self", "region", "a", "i", "j", "chosen"] (defScope s_S_parts) := ⟨rfl, rfl, rfl, by decide +kernel, rfl, by decide +kernel, by decide +kernel⟩
theorem sc_S_undo : FnScope ["self"] ["self"] (defScope s_S_undo) := ⟨rfl, rfl, rfl, by decide +kernel, rfl, by decide +kernel, by decide +kernel⟩
theorem sc_S_shows : FnScope ["self", "region", "borders", "found", "border"] ["self", "region"] (defScope s_S_shows) := ⟨rfl, rfl, rfl, by decide +kernel, rfl, by decide +kernel, by decide +kernel⟩
theorem sc_S_spots : FnScope ["self"] ["self"] (defScope s_S_spots) := ⟨rfl, rfl, rfl, by decide +kernel, rfl, by decide +kernel, by decide +kernel⟩
theorem sc_S_counts : FnScope ["self", "ends"] ["self"] (defScope s_S_counts) := ⟨rfl, rfl, rfl, by decide +kernel, rfl, by decide +kernel, by decide +kernel⟩
theorem sc_S_ways : FnScope ["self", "regions", "between", "region"] ["self"] (defScope s_S_ways) := ⟨rfl, rfl, rfl, by decide +kernel, rfl, by decide +kernel, by decide +kernel⟩
theorem sc_S_wins : FnScope ["self", "way", "line"] ["self", "way"] (defScope s_S_wins) := ⟨rfl, rfl, rfl, by decide +kernel, rfl, by decide +kernel, by decide +kernel⟩
theorem sc_S_worth : FnScope ["self"] ["self"] (defScope s_S_worth) := ⟨rfl, rfl, rfl, by decide +kernel, rfl, by decide +kernel, by decide +kernel⟩
theorem sc_S_span : FnScope ["self"] ["self"] (defScope s_S_span) := ⟨rfl, rfl, rfl, by decide +kernel, rfl, by decide +kernel, by decide +kernel⟩
theorem sc_S_deed : FnScope ["self", "call", "numbers", "chosen"] ["self", "call", "numbers", "chosen"] (defScope s_S_deed) := ⟨rfl, rfl, rfl, by decide +kernel, rfl, by decide +kernel, by decide +kernel⟩
theorem sc_S_question : FnScope ["self", "call", "numbers"] ["self", "call", "numbers"] (defScope s_S_question) := ⟨rfl, rfl, rfl, by decide +kernel, rfl, by decide +kernel, by decide +kernel⟩
theorem sc_call_at : FnScope ["calls", "at", "end", "numbers", "behind_all"] ["calls", "at"] (defScope s_call_at) := ⟨rfl, rfl, rfl, by decide +kernel, rfl, by decide +kernel, by decide +kernel⟩
theorem sc_answers : FnScope ["calls", "sheet", "found", "at", "numbers", "chosen", "after", "made"] ["calls"] (defScope s_answers) := ⟨rfl, rfl, rfl, by decide +kernel, rfl, by decide +kernel, by decide +kernel⟩
/-- where all stands -/
structure Ads where
  (CD CS aN : Addr)
  (t_MOST_ENDS t_NEW_ENDS t_JOIN t_PART t_DEAD t_NONE_SUCH t_OUT_OF_ORDER t_NOT_TO_BE_DRAWN t_TOO_MANY t_NOTHING t_MOST_SPOTS t_MOST_LIVES t_BEGINS t_JOINS t_PARTS t_UNDO t_SHOWS t_SPOTS t_COUNTS t_WAYS t_WINS t_WORTH : Tok)
  (f_D_init f_D_lives_of f_D_all_lives f_D_all_borders f_D_has_place f_at_first f_all_round f_ends_behind f_regions_with f_joined f_near_border f_far_border f_parted f_pieces_of f_may_end f_places_from f_joins_in f_bows_on f_choices f_others_than f_parts_in f_lines_of f_drawn f_numbers_of f_shown_as f_thinned f_is_live f_is_open f_lean f_form_of f_behind f_least_missing f_wins_in f_first_win f_worth_in f_span_in f_is_choice f_S_init f_S_go_on f_S_begins f_S_joins f_S_parts f_S_undo f_S_shows f_S_spots f_S_counts f_S_ways f_S_wins f_S_worth f_S_span f_S_deed f_S_question f_call_at f_answers : Addr)
  (d_D_init d_D_lives_of d_D_all_lives d_D_all_borders d_D_has_place d_at_first d_all_round d_ends_behind d_regions_with d_joined d_near_border d_far_border d_parted d_pieces_of d_may_end d_places_from d_joins_in d_bows_on d_choices d_others_than d_parts_in d_lines_of d_drawn d_numbers_of d_shown_as d_thinned d_is_live d_is_open d_lean d_form_of d_behind d_least_missing d_wins_in d_first_win d_worth_in d_span_in d_is_choice d_S_init d_S_go_on d_S_begins d_S_joins d_S_parts d_S_undo d_S_shows d_S_spots d_S_counts d_S_ways d_S_wins d_S_worth d_S_span d_S_deed d_S_question d_call_at d_answers : FuncData)
/-- what the top has written -/
structure Txt (K : PySem.W.Frag) (mg : Str → Option Value) (a : Ads) : Prop where
  clD : Cls K a.CD
  clS : Cls K a.CS
  mkD : Mk K a.CD a.f_D_init
  mkS : Mk K a.CS a.f_S_init
  nEnds : NoAttr K a.CD "ends"
  nRegions : NoAttr K a.CD "regions"
  nNow : NoAttr K a.CS "now"
  nElder : NoAttr K a.CS "elder"
  mg_Drawing : mg "Drawing" = some (.ref a.CD)
  mg_Sheet : mg "Sheet" = some (.ref a.CS)
  mg_MOST_ENDS : mg "MOST_ENDS" = some (.int 3 a.t_MOST_ENDS)
  mg_NEW_ENDS : mg "NEW_ENDS" = some (.int 2 a.t_NEW_ENDS)
  mg_JOIN : mg "JOIN" = some (.int 1 a.t_JOIN)
  mg_PART : mg "PART" = some (.int 2 a.t_PART)
  mg_DEAD : mg "DEAD" = some (.int 0 a.t_DEAD)
  mg_NONE_SUCH : mg "NONE_SUCH" = some (.int (-1) a.t_NONE_SUCH)
  mg_OUT_OF_ORDER : mg "OUT_OF_ORDER" = some (.int (-2) a.t_OUT_OF_ORDER)
  mg_NOT_TO_BE_DRAWN : mg "NOT_TO_BE_DRAWN" = some (.int (-3) a.t_NOT_TO_BE_DRAWN)
  mg_TOO_MANY : mg "TOO_MANY" = some (.int (-7) a.t_TOO_MANY)
  mg_NOTHING : mg "NOTHING" = some (.int (-9) a.t_NOTHING)
  mg_MOST_SPOTS : mg "MOST_SPOTS" = some (.int 6 a.t_MOST_SPOTS)
  mg_MOST_LIVES : mg "MOST_LIVES" = some (.int 6 a.t_MOST_LIVES)
  mg_BEGINS : mg "BEGINS" = some (.int 0 a.t_BEGINS)
  mg_JOINS : mg "JOINS" = some (.int 1 a.t_JOINS)
  mg_PARTS : mg "PARTS" = some (.int 2 a.t_PARTS)
  mg_UNDO : mg "UNDO" = some (.int 3 a.t_UNDO)
  mg_SHOWS : mg "SHOWS" = some (.int 4 a.t_SHOWS)
  mg_SPOTS : mg "SPOTS" = some (.int 5 a.t_SPOTS)
  mg_COUNTS : mg "COUNTS" = some (.int 6 a.t_COUNTS)
  mg_WAYS : mg "WAYS" = some (.int 7 a.t_WAYS)
  mg_WINS : mg "WINS" = some (.int 8 a.t_WINS)
  mg_WORTH : mg "WORTH" = some (.int 9 a.t_WORTH)
  mg_NUMBERS : mg "NUMBERS" = some (.ref a.aN)
  nums : ∀ H, SqT K H a.aN (([1, 5, 4, 0, 1, 0, 0, 0, 1, 0, 0] : List Int).map V.int)
  n_len : mg "len" = none
  n_sum : mg "sum" = none
  n_any : mg "any" = none
  n_all : mg "all" = none
  n_list : mg "list" = none
  n_tuple : mg "tuple" = none
  n_min : mg "min" = none
  n_max : mg "max" = none
  n_set : mg "set" = none
  n_range : mg "range" = none
  n_enumerate : mg "enumerate" = none
  F_D_init : Fun K "__init__" "Drawing.__init__" s_D_init a.f_D_init a.d_D_init
  F_D_lives_of : Fun K "lives_of" "Drawing.lives_of" s_D_lives_of a.f_D_lives_of a.d_D_lives_of
  m_D_lives_of : Meth K a.CD "lives_of" a.f_D_lives_of
  F_D_all_lives : Fun K "all_lives" "Drawing.all_lives" s_D_all_lives a.f_D_all_lives a.d_D_all_lives
  m_D_all_lives : Meth K a.CD "all_lives" a.f_D_all_lives
  F_D_all_borders : Fun K "all_borders" "Drawing.all_borders" s_D_all_borders a.f_D_all_borders a.d_D_all_borders
  m_D_all_borders : Meth K a.CD "all_borders" a.f_D_all_borders
  F_D_has_place : Fun K "has_place" "Drawing.has_place" s_D_has_place a.f_D_has_place a.d_D_has_place
  m_D_has_place : Meth K a.CD "has_place" a.f_D_has_place
  F_at_first : Fun K "at_first" "at_first" s_at_first a.f_at_first a.d_at_first
  mg_at_first : mg "at_first" = some (.ref a.f_at_first)
  F_all_round : Fun K "all_round" "all_round" s_all_round a.f_all_round a.d_all_round
  mg_all_round : mg "all_round" = some (.ref a.f_all_round)
  F_ends_behind : Fun K "ends_behind" "ends_behind" s_ends_behind a.f_ends_behind a.d_ends_behind
  mg_ends_behind : mg "ends_behind" = some (.ref a.f_ends_behind)
  F_regions_with : Fun K "regions_with" "regions_with" s_regions_with a.f_regions_with a.d_regions_with
  mg_regions_with : mg "regions_with" = some (.ref a.f_regions_with)
  F_joined : Fun K "joined" "joined" s_joined a.f_joined a.d_joined
  mg_joined : mg "joined" = some (.ref a.f_joined)
  F_near_border : Fun K "near_border" "near_border" s_near_border a.f_near_border a.d_near_border
  mg_near_border : mg "near_border" = some (.ref a.f_near_border)
  F_far_border : Fun K "far_border" "far_border" s_far_border a.f_far_border a.d_far_border
  mg_far_border : mg "far_border" = some (.ref a.f_far_border)
  F_parted : Fun K "parted" "parted" s_parted a.f_parted a.d_parted
  mg_parted : mg "parted" = some (.ref a.f_parted)
  F_pieces_of : Fun K "pieces_of" "pieces_of" s_pieces_of a.f_pieces_of a.d_pieces_of
  mg_pieces_of : mg "pieces_of" = some (.ref a.f_pieces_of)
  F_may_end : Fun K "may_end" "may_end" s_may_end a.f_may_end a.d_may_end
  mg_may_end : mg "may_end" = some (.ref a.f_may_end)
  F_places_from : Fun K "places_from" "places_from" s_places_from a.f_places_from a.d_places_from
  mg_places_from : mg "places_from" = some (.ref a.f_places_from)
  F_joins_in : Fun K "joins_in" "joins_in" s_joins_in a.f_joins_in a.d_joins_in
  mg_joins_in : mg "joins_in" = some (.ref a.f_joins_in)
  F_bows_on : Fun K "bows_on" "bows_on" s_bows_on a.f_bows_on a.d_bows_on
  mg_bows_on : mg "bows_on" = some (.ref a.f_bows_on)
  F_choices : Fun K "choices" "choices" s_choices a.f_choices a.d_choices
  mg_choices : mg "choices" = some (.ref a.f_choices)
  F_others_than : Fun K "others_than" "others_than" s_others_than a.f_others_than a.d_others_than
  mg_others_than : mg "others_than" = some (.ref a.f_others_than)
  F_parts_in : Fun K "parts_in" "parts_in" s_parts_in a.f_parts_in a.d_parts_in
  mg_parts_in : mg "parts_in" = some (.ref a.f_parts_in)
  F_lines_of : Fun K "lines_of" "lines_of" s_lines_of a.f_lines_of a.d_lines_of
  mg_lines_of : mg "lines_of" = some (.ref a.f_lines_of)
  F_drawn : Fun K "drawn" "drawn" s_drawn a.f_drawn a.d_drawn
  mg_drawn : mg "drawn" = some (.ref a.f_drawn)
  F_numbers_of : Fun K "numbers_of" "numbers_of" s_numbers_of a.f_numbers_of a.d_numbers_of
  mg_numbers_of : mg "numbers_of" = some (.ref a.f_numbers_of)
  F_shown_as : Fun K "shown_as" "shown_as" s_shown_as a.f_shown_as a.d_shown_as
  mg_shown_as : mg "shown_as" = some (.ref a.f_shown_as)
  F_thinned : Fun K "thinned" "thinned" s_thinned a.f_thinned a.d_thinned
  mg_thinned : mg "thinned" = some (.ref a.f_thinned)
  F_is_live : Fun K "is_live" "is_live" s_is_live a.f_is_live a.d_is_live
  mg_is_live : mg "is_live" = some (.ref a.f_is_live)
  F_is_open : Fun K "is_open" "is_open" s_is_open a.f_is_open a.d_is_open
  mg_is_open : mg "is_open" = some (.ref a.f_is_open)
  F_lean : Fun K "lean" "lean" s_lean a.f_lean a.d_lean
  mg_lean : mg "lean" = some (.ref a.f_lean)
  F_form_of : Fun K "form_of" "form_of" s_form_of a.f_form_of a.d_form_of
  mg_form_of : mg "form_of" = some (.ref a.f_form_of)
  F_behind : Fun K "behind" "behind" s_behind a.f_behind a.d_behind
  mg_behind : mg "behind" = some (.ref a.f_behind)
  F_least_missing : Fun K "least_missing" "least_missing" s_least_missing a.f_least_missing a.d_least_missing
  mg_least_missing : mg "least_missing" = some (.ref a.f_least_missing)
  F_wins_in : Fun K "wins_in" "wins_in" s_wins_in a.f_wins_in a.d_wins_in
  mg_wins_in : mg "wins_in" = some (.ref a.f_wins_in)
  F_first_win : Fun K "first_win" "first_win" s_first_win a.f_first_win a.d_first_win
  mg_first_win : mg "first_win" = some (.ref a.f_first_win)
  F_worth_in : Fun K "worth_in" "worth_in" s_worth_in a.f_worth_in a.d_worth_in
  mg_worth_in : mg "worth_in" = some (.ref a.f_worth_in)
  F_span_in : Fun K "span_in" "span_in" s_span_in a.f_span_in a.d_span_in
  mg_span_in : mg "span_in" = some (.ref a.f_span_in)
  F_is_choice : Fun K "is_choice" "is_choice" s_is_choice a.f_is_choice a.d_is_choice
  mg_is_choice : mg "is_choice" = some (.ref a.f_is_choice)
  F_S_init : Fun K "__init__" "Sheet.__init__" s_S_init a.f_S_init a.d_S_init
  F_S_go_on : Fun K "go_on" "Sheet.go_on" s_S_go_on a.f_S_go_on a.d_S_go_on
  m_S_go_on : Meth K a.CS "go_on" a.f_S_go_on
  F_S_begins : Fun K "begins" "Sheet.begins" s_S_begins a.f_S_begins a.d_S_begins
  m_S_begins : Meth K a.CS "begins" a.f_S_begins
  F_S_joins : Fun K "joins" "Sheet.joins" s_S_joins a.f_S_joins a.d_S_joins
  m_S_joins : Meth K a.CS "joins" a.f_S_joins
  F_S_parts : Fun K "parts" "Sheet.parts" s_S_parts a.f_S_parts a.d_S_parts
  m_S_parts : Meth K a.CS "parts" a.f_S_parts
  F_S_undo : Fun K "undo" "Sheet.undo" s_S_undo a.f_S_undo a.d_S_undo
  m_S_undo : Meth K a.CS "undo" a.f_S_undo
  F_S_shows : Fun K "shows" "Sheet.shows" s_S_shows a.f_S_shows a.d_S_shows
  m_S_shows : Meth K a.CS "shows" a.f_S_shows
  F_S_spots : Fun K "spots" "Sheet.spots" s_S_spots a.f_S_spots a.d_S_spots
  m_S_spots : Meth K a.CS "spots" a.f_S_spots
  F_S_counts : Fun K "counts" "Sheet.counts" s_S_counts a.f_S_counts a.d_S_counts
  m_S_counts : Meth K a.CS "counts" a.f_S_counts
  F_S_ways : Fun K "ways" "Sheet.ways" s_S_ways a.f_S_ways a.d_S_ways
  m_S_ways : Meth K a.CS "ways" a.f_S_ways
  F_S_wins : Fun K "wins" "Sheet.wins" s_S_wins a.f_S_wins a.d_S_wins
  m_S_wins : Meth K a.CS "wins" a.f_S_wins
  F_S_worth : Fun K "worth" "Sheet.worth" s_S_worth a.f_S_worth a.d_S_worth
  m_S_worth : Meth K a.CS "worth" a.f_S_worth
  F_S_span : Fun K "span" "Sheet.span" s_S_span a.f_S_span a.d_S_span
  m_S_span : Meth K a.CS "span" a.f_S_span
  F_S_deed : Fun K "deed" "Sheet.deed" s_S_deed a.f_S_deed a.d_S_deed
  m_S_deed : Meth K a.CS "deed" a.f_S_deed
  F_S_question : Fun K "question" "Sheet.question" s_S_question a.f_S_question a.d_S_question
  m_S_question : Meth K a.CS "question" a.f_S_question
  F_call_at : Fun K "call_at" "call_at" s_call_at a.f_call_at a.d_call_at
  mg_call_at : mg "call_at" = some (.ref a.f_call_at)
  F_answers : Fun K "answers" "answers" s_answers a.f_answers a.d_answers
  mg_answers : mg "answers" = some (.ref a.f_answers)
section
variable {K : PySem.W.Frag} {mg : Str → Option Value} {a : Ads}
theorem b_D_init (T : Txt K mg a) : Binds K a.d_D_init ["self", "ends", "regions"] [] := T.F_D_init.binds fun _ _ _ _ _ _ us hl => match us, hl with | [_, _, _], _ => rfl
theorem b_D_lives_of (T : Txt K mg a) : Binds K a.d_D_lives_of ["self", "spot"] [] := T.F_D_lives_of.binds fun _ _ _ _ _ _ us hl => match us, hl with | [_, _], _ => rfl
theorem b_D_all_lives (T : Txt K mg a) : Binds K a.d_D_all_lives ["self"] [] := T.F_D_all_lives.binds fun _ _ _ _ _ _ us hl => match us, hl with | [_], _ => rfl
theorem b_D_all_borders (T : Txt K mg a) : Binds K a.d_D_all_borders ["self"] [] := T.F_D_all_borders.binds fun _ _ _ _ _ _ us hl => match us, hl with | [_], _ => rfl
theorem b_D_has_place (T : Txt K mg a) : Binds K a.d_D_has_place ["self", "region", "border", "place"] [] := T.F_D_has_place.binds fun _ _ _ _ _ _ us hl => match us, hl with | [_, _, _, _], _ => rfl
theorem b_at_first (T : Txt K mg a) : Binds K a.d_at_first ["many"] [] := T.F_at_first.binds fun _ _ _ _ _ _ us hl => match us, hl with | [_], _ => rfl
theorem b_all_round (T : Txt K mg a) : Binds K a.d_all_round ["border", "place"] [] := T.F_all_round.binds fun _ _ _ _ _ _ us hl => match us, hl with | [_, _], _ => rfl
theorem b_ends_behind (T : Txt K mg a) : Binds K a.d_ends_behind ["ends", "one", "other"] [] := T.F_ends_behind.binds fun _ _ _ _ _ _ us hl => match us, hl with | [_, _, _], _ => rfl
theorem b_regions_with (T : Txt K mg a) : Binds K a.d_regions_with ["regions", "number", "borders"] [] := T.F_regions_with.binds fun _ _ _ _ _ _ us hl => match us, hl with | [_, _, _], _ => rfl
theorem b_joined (T : Txt K mg a) : Binds K a.d_joined ["drawing", "region", "a", "i", "b", "j"] [] := T.F_joined.binds fun _ _ _ _ _ _ us hl => match us, hl with | [_, _, _, _, _, _], _ => rfl
theorem b_near_border (T : Txt K mg a) : Binds K a.d_near_border ["border", "i", "j", "spot"] [] := T.F_near_border.binds fun _ _ _ _ _ _ us hl => match us, hl with | [_, _, _, _], _ => rfl
theorem b_far_border (T : Txt K mg a) : Binds K a.d_far_border ["border", "i", "j", "spot"] [] := T.F_far_border.binds fun _ _ _ _ _ _ us hl => match us, hl with | [_, _, _, _], _ => rfl
theorem b_parted (T : Txt K mg a) : Binds K a.d_parted ["drawing", "region", "a", "i", "j", "chosen"] [] := T.F_parted.binds fun _ _ _ _ _ _ us hl => match us, hl with | [_, _, _, _, _, _], _ => rfl
theorem b_pieces_of (T : Txt K mg a) : Binds K a.d_pieces_of ["drawing"] [] := T.F_pieces_of.binds fun _ _ _ _ _ _ us hl => match us, hl with | [_], _ => rfl
theorem b_may_end (T : Txt K mg a) : Binds K a.d_may_end ["drawing", "one", "other"] [] := T.F_may_end.binds fun _ _ _ _ _ _ us hl => match us, hl with | [_, _, _], _ => rfl
theorem b_places_from (T : Txt K mg a) : Binds K a.d_places_from ["borders", "first"] [] := T.F_places_from.binds fun _ _ _ _ _ _ us hl => match us, hl with | [_, _], _ => rfl
theorem b_joins_in (T : Txt K mg a) : Binds K a.d_joins_in ["drawing", "region"] [] := T.F_joins_in.binds fun _ _ _ _ _ _ us hl => match us, hl with | [_, _], _ => rfl
theorem b_bows_on (T : Txt K mg a) : Binds K a.d_bows_on ["drawing", "border"] [] := T.F_bows_on.binds fun _ _ _ _ _ _ us hl => match us, hl with | [_, _], _ => rfl
theorem b_choices (T : Txt K mg a) : Binds K a.d_choices ["some"] [] := T.F_choices.binds fun _ _ _ _ _ _ us hl => match us, hl with | [_], _ => rfl
theorem b_others_than (T : Txt K mg a) : Binds K a.d_others_than ["borders", "a"] [] := T.F_others_than.binds fun _ _ _ _ _ _ us hl => match us, hl with | [_, _], _ => rfl
theorem b_parts_in (T : Txt K mg a) : Binds K a.d_parts_in ["drawing", "region"] [] := T.F_parts_in.binds fun _ _ _ _ _ _ us hl => match us, hl with | [_, _], _ => rfl
theorem b_lines_of (T : Txt K mg a) : Binds K a.d_lines_of ["drawing"] [] := T.F_lines_of.binds fun _ _ _ _ _ _ us hl => match us, hl with | [_], _ => rfl
theorem b_drawn (T : Txt K mg a) : Binds K a.d_drawn ["drawing", "line"] [] := T.F_drawn.binds fun _ _ _ _ _ _ us hl => match us, hl with | [_, _], _ => rfl
theorem b_numbers_of (T : Txt K mg a) : Binds K a.d_numbers_of ["line"] [] := T.F_numbers_of.binds fun _ _ _ _ _ _ us hl => match us, hl with | [_], _ => rfl
theorem b_shown_as (T : Txt K mg a) : Binds K a.d_shown_as ["drawing", "spot", "names"] [] := T.F_shown_as.binds fun _ _ _ _ _ _ us hl => match us, hl with | [_, _, _], _ => rfl
theorem b_thinned (T : Txt K mg a) : Binds K a.d_thinned ["border"] [] := T.F_thinned.binds fun _ _ _ _ _ _ us hl => match us, hl with | [_], _ => rfl
theorem b_is_live (T : Txt K mg a) : Binds K a.d_is_live ["drawing", "border"] [] := T.F_is_live.binds fun _ _ _ _ _ _ us hl => match us, hl with | [_, _], _ => rfl
theorem b_is_open (T : Txt K mg a) : Binds K a.d_is_open ["drawing", "region"] [] := T.F_is_open.binds fun _ _ _ _ _ _ us hl => match us, hl with | [_, _], _ => rfl
theorem b_lean (T : Txt K mg a) : Binds K a.d_lean ["drawing"] [] := T.F_lean.binds fun _ _ _ _ _ _ us hl => match us, hl with | [_], _ => rfl
theorem b_form_of (T : Txt K mg a) : Binds K a.d_form_of ["drawing"] [] := T.F_form_of.binds fun _ _ _ _ _ _ us hl => match us, hl with | [_], _ => rfl
theorem b_behind (T : Txt K mg a) : Binds K a.d_behind ["drawing"] [] := T.F_behind.binds fun _ _ _ _ _ _ us hl => match us, hl with | [_], _ => rfl
theorem b_least_missing (T : Txt K mg a) : Binds K a.d_least_missing ["some"] [] := T.F_least_missing.binds fun _ _ _ _ _ _ us hl => match us, hl with | [_], _ => rfl
theorem b_wins_in (T : Txt K mg a) : Binds K a.d_wins_in ["drawing", "way", "known"] [] := T.F_wins_in.binds fun _ _ _ _ _ _ us hl => match us, hl with | [_, _, _], _ => rfl
theorem b_first_win (T : Txt K mg a) : Binds K a.d_first_win ["drawing", "way"] [] := T.F_first_win.binds fun _ _ _ _ _ _ us hl => match us, hl with | [_, _], _ => rfl
theorem b_worth_in (T : Txt K mg a) : Binds K a.d_worth_in ["drawing", "known"] [] := T.F_worth_in.binds fun _ _ _ _ _ _ us hl => match us, hl with | [_, _], _ => rfl
theorem b_span_in (T : Txt K mg a) : Binds K a.d_span_in ["drawing", "known"] [] := T.F_span_in.binds fun _ _ _ _ _ _ us hl => match us, hl with | [_, _], _ => rfl
theorem b_is_choice (T : Txt K mg a) : Binds K a.d_is_choice ["chosen", "many", "a"] [] := T.F_is_choice.binds fun _ _ _ _ _ _ us hl => match us, hl with | [_, _, _], _ => rfl
theorem b_S_init (T : Txt K mg a) : Binds K a.d_S_init ["self"] [] := T.F_S_init.binds fun _ _ _ _ _ _ us hl => match us, hl with | [_], _ => rfl
theorem b_S_go_on (T : Txt K mg a) : Binds K a.d_S_go_on ["self", "drawing"] [] := T.F_S_go_on.binds fun _ _ _ _ _ _ us hl => match us, hl with | [_, _], _ => rfl
theorem b_S_begins (T : Txt K mg a) : Binds K a.d_S_begins ["self", "many"] [] := T.F_S_begins.binds fun _ _ _ _ _ _ us hl => match us, hl with | [_, _], _ => rfl
theorem b_S_joins (T : Txt K mg a) : Binds K a.d_S_joins ["self", "region", "a", "i", "b", "j"] [] := T.F_S_joins.binds fun _ _ _ _ _ _ us hl => match us, hl with | [_, _, _, _, _, _], _ => rfl
theorem b_S_parts (T : Txt K mg a) : Binds K a.d_S_parts ["self", "region", "a", "i", "j", "chosen"] [] := T.F_S_parts.binds fun _ _ _ _ _ _ us hl => match us, hl with | [_, _, _, _, _, _], _ => rfl
theorem b_S_undo (T : Txt K mg a) : Binds K a.d_S_undo ["self"] [] := T.F_S_undo.binds fun _ _ _ _ _ _ us hl => match us, hl with | [_], _ => rfl
theorem b_S_shows (T : Txt K mg a) : Binds K a.d_S_shows ["self", "region"] [] := T.F_S_shows.binds fun _ _ _ _ _ _ us hl => match us, hl with | [_, _], _ => rfl
theorem b_S_spots (T : Txt K mg a) : Binds K a.d_S_spots ["self"] [] := T.F_S_spots.binds fun _ _ _ _ _ _ us hl => match us, hl with | [_], _ => rfl
theorem b_S_counts (T : Txt K mg a) : Binds K a.d_S_counts ["self"] [] := T.F_S_counts.binds fun _ _ _ _ _ _ us hl => match us, hl with | [_], _ => rfl
theorem b_S_ways (T : Txt K mg a) : Binds K a.d_S_ways ["self"] [] := T.F_S_ways.binds fun _ _ _ _ _ _ us hl => match us, hl with | [_], _ => rfl
theorem b_S_wins (T : Txt K mg a) : Binds K a.d_S_wins ["self", "way"] [] := T.F_S_wins.binds fun _ _ _ _ _ _ us hl => match us, hl with | [_, _], _ => rfl
theorem b_S_worth (T : Txt K mg a) : Binds K a.d_S_worth ["self"] [] := T.F_S_worth.binds fun _ _ _ _ _ _ us hl => match us, hl with | [_], _ => rfl
theorem b_S_span (T : Txt K mg a) : Binds K a.d_S_span ["self"] [] := T.F_S_span.binds fun _ _ _ _ _ _ us hl => match us, hl with | [_], _ => rfl
theorem b_S_deed (T : Txt K mg a) : Binds K a.d_S_deed ["self", "call", "numbers", "chosen"] [] := T.F_S_deed.binds fun _ _ _ _ _ _ us hl => match us, hl with | [_, _, _, _], _ => rfl
theorem b_S_question (T : Txt K mg a) : Binds K a.d_S_question ["self", "call", "numbers"] [] := T.F_S_question.binds fun _ _ _ _ _ _ us hl => match us, hl with | [_, _, _], _ => rfl
theorem b_call_at (T : Txt K mg a) : Binds K a.d_call_at ["calls", "at"] [] := T.F_call_at.binds fun _ _ _ _ _ _ us hl => match us, hl with | [_, _], _ => rfl
theorem b_answers (T : Txt K mg a) : Binds K a.d_answers ["calls"] [] := T.F_answers.binds fun _ _ _ _ _ _ us hl => match us, hl with | [_], _ => rfl
end
end Sg

/-! ### text WR -/
namespace Sg
open PySem PySem.Spec PyProof.Rows L2

/-! ### rules that the layer lacks -/
section
variable {X : Cx}
/-- a list against an empty one -/
def rEqE (K : PySem.W.Frag) : R2 := fun x y H Q => ∃ p q xs, x = .ref p ∧ y = .ref q ∧ SqL K H p xs ∧ SqL K H q [] ∧ Q (.bl xs.isEmpty) H
def rNeE (K : PySem.W.Frag) : R2 := fun x y H Q => ∃ p q xs, x = .ref p ∧ y = .ref q ∧ SqL K H p xs ∧ SqL K H q [] ∧ Q (.bl (!xs.isEmpty)) H
theorem op_eqNil (hu : X.A.units < cLine) : OpR X (compareOp .Eq) (rEqE X.K) := by
  intro pins s σ H x y v u Q I rx ry ⟨p, q, xs, ex, ey, hp, hq, w⟩
  subst ex ey
  cases rx
  cases ry
  obtain ⟨ia, ra, pa, _⟩ := I.list hp
  obtain ⟨ib, rb, pb, _⟩ := I.list hq
  cases rb
  cases ra with
  | nil => exact SeqAt.RcAt.lists (e := fun _ => true) pa.isList pb.isList rfl hu (fun j h1 => absurd h1 (by simp)) _ _ _ _ ⟨.bl true, H, I, rfl, w⟩
  | cons r t => exact SeqAt.RcAt.lists_lengths pa.isList pb.isList (by simp) hu _ _ _ _ ⟨.bl false, H, I, rfl, w⟩
theorem op_neNil (hu : X.A.units < cLine) : OpR X (compareOp .NotEq) (rNeE X.K) := by
  intro pins s σ H x y v u Q I rx ry ⟨p, q, xs, ex, ey, hp, hq, w⟩
  subst ex ey
  cases rx
  cases ry
  obtain ⟨ia, ra, pa, _⟩ := I.list hp
  obtain ⟨ib, rb, pb, _⟩ := I.list hq
  cases rb
  cases ra with
  | nil => exact SeqAt.RcNeAt.lists (e := fun _ => true) pa.isList pb.isList rfl hu (fun j h1 => absurd h1 (by simp)) _ _ _ _ ⟨.bl false, H, I, rfl, w⟩
  | cons r t => exact SeqAt.RcNeAt.lists_lengths pa.isList pb.isList (by simp) hu _ _ _ _ ⟨.bl true, H, I, rfl, w⟩
/-- o[i], o a list, by values -/
def rGetL (K : PySem.W.Frag) : V → V → Hp → VK → Prop := fun x y H Q => ∃ (p : Addr) (xs : List V) (j : Nat) (v : V), x = .ref p ∧ y = .int j ∧ SqL K H p xs ∧ xs[j]? = some v ∧ Q v H
theorem get_list : PGet X (rGetL X.K) := by
  intro pins s σ H o i ov iv Q I ro ri ⟨p, xs, j, v, eo, ei, hp, hj, w⟩
  subst eo ei
  cases ro
  obtain ⟨t, rfl⟩ := ri
  obtain ⟨its, r, pl, hz⟩ := I.list hp
  obtain ⟨u, eu, ru⟩ := r.get hj
  have hlt : j < xs.length := (List.getElem?_eq_some_iff.mp hj).1
  have h63 := line63
  exact getItem_listL pl.isList (by omega) (by omega) (by simpa using eu) ⟨v, H, I, ru, w⟩
/-- a list or a tuple, walked -/
def iSeq (K : PySem.W.Frag) (tl : TE) : TI := fun σ H R => iList K tl σ H R ∨ iTup K tl σ H R
theorem pi_seq {tg l : Expr} {tl : TE} (hl : PE X l tl) : PI X tg l (iSeq X.K tl) :=
  ⟨fun pins s σ H R I h => h.elim (fun q => (pi_list hl).run pins s σ H R I q) fun q => (pi_tup hl).run pins s σ H R I q⟩
/-- how many different ints -/
def many (ns : List Int) : Nat := (PyProof.Rows.firstMet (fun i => ns.getD i 0) ns.length).length
def tLenSetD (K : PySem.W.Frag) (ta : TE) : TE := fun σ H Q => ta σ H fun x H1 => ∃ (l : Addr) (ns : List Int), x = .ref l ∧ SqL K H1 l (ns.map V.int) ∧ ns.length ≤ 4000 ∧ (many ns) ≤ 4000 ∧ Q (.int (many ns : Nat)) H1
theorem pe_lenSetD {a : Expr} {ta : TE} {p p2 q pos : Pos} (hg : Gl X "len") (hm : X.mg "len" = none) (hg2 : Gl X "set") (hm2 : X.mg "set" = none) (ha : PE X a ta)
    (hc : X.calm = true := by rfl) (na : starEach [a] X.env = (false, eval a X.env) :: starEach [] X.env := by rfl) :
    PE X (.Call (.Name "len" p) [.Call (.Name "set" p2) [a] [] q] [] pos) (tLenSetD X.K ta) := by
  constructor
  intro pins s σ H Q I h
  refine PyProof.Rows.Call_ (ld_blt I hg hm boot_len (PyProof.Rows.callWith_builtin1 (PyProof.Rows.args_cons ?_ rfl) rfl rfl))
  refine PyProof.Rows.Call_ (ld_blt I hg2 hm2 boot_set (PyProof.Rows.callWith_type1 (PyProof.Rows.args_cons (thn (ha.run pins s σ H _ I h) ?_) na) na rfl))
  rintro v s1 ⟨x, H1, I1, r1, l, ns, rfl, hq, hl, hl2, q1⟩
  refine PyProof.Rows.args_nil ?_
  cases r1
  obtain ⟨its, r, pl, hz⟩ := I1.list hq
  have hlen : its.toArray.size = ns.length := by
    have := r.length
    rw [List.length_map] at this
    rw [List.size_toArray, this]
  refine call_set_list (I1.ok.hd hc) pl.isList (by simpa using RZ.intsAre_vals r) (by rw [hlen]; unfold scanBound; omega) ?_
  intro h' tk hS hk
  refine PyProof.Rows.args_nil ?_
  rw [hlen] at hS
  obtain ⟨o, es, ep, t, ho, hex, hd, _, _, _, hf, hn⟩ := hS
  have I2 : Inv X pins σ H1 { s1 with heap := h', toks := tk } := I1.kept fun b o e => hk b o (Heap.lt_size e) e
  have h9 : es.size ≤ 4000 := by rw [hn]; exact hl2
  have e9 : (many ns : Nat) = es.size := hn.symm
  rw [e9] at q1
  exact call_len_set ho hex hd hf (by omega) ⟨.int (es.size : Nat), H1, I2.tok _, ⟨_, rfl⟩, q1⟩
end

/-! ### the same rules with the written part named (for a comprehension's block) -/
theorem pe_fldK {X : Cx} (K : PySem.W.Frag) {e : Expr} {f : Str} {pos : Pos} {ta : TE} (he : PE X e ta) (hb : attributeBase e f X.env (eval e X.env) = eval e X.env) (hK : X.K = K) : PE X (.Attribute e f pos) (tFld K ta f) := by
  subst hK
  exact pe_fld he hb
theorem pe_tupleOfK {X : Cx} (K : PySem.W.Frag) {e : Expr} {ta : TE} {p pos : Pos} (hg : Gl X "tuple") (hm : X.mg "tuple" = none) (ha : PE X e ta) (hK : X.K = K) (na : starEach [e] X.env = (false, eval e X.env) :: starEach [] X.env := by rfl) :
    PE X (.Call (.Name "tuple" p) [e] [] pos) (tThen ta (kTup K)) := by
  subst hK
  exact pe_tupleOf hg hm ha na
/-! ### a dict whose keys are nested tuples of ints -/
abbrev NK := PySem.NestedKey
mutual
/-- a value that is such a key, by the abstract heap -/
inductive KeyV (H : Hp) : V → NK → Prop
  | int (i : Int) : KeyV H (.int i) (.num i)
  | tup {p : Addr} {vs : List V} {ks : List NK} : H p = some (.tup vs) → KeyVs H vs ks → KeyV H (.ref p) (.tup ks)
inductive KeyVs (H : Hp) : List V → List NK → Prop
  | nil : KeyVs H [] []
  | cons {v : V} {k : NK} {vs : List V} {ks : List NK} : KeyV H v k → KeyVs H vs ks → KeyVs H (v :: vs) (k :: ks)
end
mutual
theorem KeyV.mono {H H' : Hp} (e : ∀ b xs, H b = some (.tup xs) → H' b = some (.tup xs)) : ∀ {v : V} {k : NK}, KeyV H v k → KeyV H' v k
  | _, _, .int i => .int i
  | _, _, .tup h r => .tup (e _ _ h) (KeyVs.mono e r)
theorem KeyVs.mono {H H' : Hp} (e : ∀ b xs, H b = some (.tup xs) → H' b = some (.tup xs)) : ∀ {vs : List V} {ks : List NK}, KeyVs H vs ks → KeyVs H' vs ks
  | _, _, .nil => .nil
  | _, _, .cons h r => .cons (KeyV.mono e h) (KeyVs.mono e r)
end
mutual
theorem KeyV.is {P : Program} {w : World} {H : Hp} {h : Heap} (ok : HOk P w H h) : ∀ {v : V} {k : NK} {u : Value}, KeyV H v k → RelV v u → NestedIs h k u
  | _, _, u, .int i, r => by
    obtain ⟨t, rfl⟩ := r
    exact .int i t
  | _, _, u, .tup (p := p) (vs := vs) hp hr, r => by
    cases r
    obtain ⟨_, its, rv, o, h1, h2, n, h3⟩ := (show ObjOk P w H h p (.tup vs) from ok p _ hp)
    exact .tup h1 h2 h3 (by simpa using KeyVs.is ok hr rv)
theorem KeyVs.is {P : Program} {w : World} {H : Hp} {h : Heap} (ok : HOk P w H h) : ∀ {vs : List V} {ks : List NK} {us : List Value}, KeyVs H vs ks → Vals vs us → NestedAll h ks us
  | _, _, _, .nil, .nil => .nil
  | _, _, _, .cons h1 h2, .cons r1 r2 => .cons (KeyV.is ok h1 r1) (KeyVs.is ok h2 r2)
end
/-- what is known: keys, where their tuples stand, values -/
abbrev Kn := List (NK × Addr × V)
def lookN (es : Kn) (k : NK) : Option V := (es.find? fun x => decide (x.1 = k)).map (·.2.2)
def putN (es : Kn) (k : NK) (a : Addr) (v : V) : Kn := if (lookN es k).isSome then es.map (fun x => if x.1 = k then (x.1, x.2.1, v) else x) else es ++ [(k, a, v)]
def RelN : Kn → List (NK × Addr × Value) → Prop := Paired fun p q => p.1 = q.1 ∧ p.2.1 = q.2.1 ∧ RelV p.2.2 q.2.2
def knPhi (P : Program) (w : World) (d : Addr) (es : Kn) (h : Heap) : Prop := (d == sysModules) = false ∧ ∃ xs, RelN es xs ∧ (xs.map (·.1)).Nodup ∧ ∃ o ds ep, h.get? d = some o ∧ o.ExactDict ∧ o.data = .dict ds ep ∧ ds.toList = xs.map (entryOfKey (nestedKind P w))
def KnO (P : Program) (w : World) (d : Addr) (es : Kn) : HO := .ext (knPhi P w d es)
/-- it stands at d, and its keys stand -/
def KnAt (P : Program) (w : World) (H : Hp) (d : Addr) (es : Kn) : Prop := H d = some (KnO P w d es) ∧ ∀ x ∈ es, KeyV H (.ref x.2.1) x.1 ∧ x.1.depth ≤ 8
theorem kn_ok {P : Program} {w : World} {H : Hp} {d : Addr} {es : Kn} {h : Heap} (q : knPhi P w d es h) : ObjOk P w H h d (KnO P w d es) := by
  refine ⟨q, ?_, fun h1 h2 p k => ?_⟩
  · obtain ⟨_, xs, _, _, o, ds, ep, ho, _⟩ := q
    exact ⟨o, ho⟩
  · obtain ⟨a, xs, b, c, o, ds, ep, ho, r⟩ := p
    exact ⟨a, xs, b, c, o, ds, ep, k o ho, r⟩
theorem relN_look : ∀ {es : Kn} {xs : List (NK × Addr × Value)} (k : NK), RelN es xs → RelO (lookN es k) ((atKey xs k).map (·.2))
  | _, _, k, .nil => True.intro
  | _, _, k, .cons (a := p) (b := q) r t => by
    unfold lookN atKey
    rw [List.find?_cons, List.find?_cons, r.1]
    by_cases c : q.1 = k
    · simp only [c, decide_true]
      exact r.2.2
    · simp only [c, decide_false]
      exact relN_look k t
theorem RelO.isSome_eq' {a : Option V} {b : Option Value} (r : RelO a b) : a.isSome = b.isSome := by
  cases a <;> cases b <;> first | rfl | exact r.elim
theorem relN_append : ∀ {es es' : Kn} {xs xs' : List (NK × Addr × Value)}, RelN es xs → RelN es' xs' → RelN (es ++ es') (xs ++ xs')
  | _, _, _, _, .nil, h => h
  | _, _, _, _, .cons r t, h => .cons r (relN_append t h)
theorem relN_map {k : NK} {v : V} {u : Value} (rv : RelV v u) : ∀ {es : Kn} {xs : List (NK × Addr × Value)}, RelN es xs → RelN (es.map fun x => if x.1 = k then (x.1, x.2.1, v) else x) (xs.map (putAt k u))
  | _, _, .nil => .nil
  | _, _, .cons (a := p) (b := q) r t => by
    refine .cons ?_ (relN_map rv t)
    unfold putAt
    show (if p.1 = k then (p.1, p.2.1, v) else p).1 = _ ∧ (if p.1 = k then (p.1, p.2.1, v) else p).2.1 = _ ∧ RelV (if p.1 = k then (p.1, p.2.1, v) else p).2.2 _
    by_cases c : q.1 = k
    · rw [if_pos (r.1.trans c), if_pos c]; exact ⟨r.1, r.2.1, rv⟩
    · rw [if_neg (fun z => c (r.1.symm.trans z)), if_neg c]; exact r
theorem relN_put {es : Kn} {xs : List (NK × Addr × Value)} {k : NK} {a : Addr} {v : V} {u : Value} (r : RelN es xs) (rv : RelV v u) : RelN (putN es k a v) (storedH xs k a u) := by
  have q := RelO.isSome_eq' (relN_look k r)
  rw [Option.isSome_map] at q
  unfold putN storedH
  rw [q]
  split
  · exact relN_map rv r
  · exact relN_append r (.cons ⟨rfl, rfl, rv⟩ .nil)
theorem relN_len {es : Kn} {xs : List (NK × Addr × Value)} (r : RelN es xs) : es.length = xs.length := Paired.length r
section
variable {X : Cx} {pins : List (Addr × Obj)} {σ : L2.St} {H : Hp} {s : Shared} {d a : Addr} {es : Kn} {k : NK}
theorem kn_dict (I : L2.Inv X pins σ H s) (h : KnAt X.prog X.w H d es) : (d == sysModules) = false ∧ ∃ xs, RelN es xs ∧ s.heap.DictOfH (nestedKind X.prog X.w) d xs := by
  obtain ⟨⟨a, xs, r, nd, o, ds, ep, h1, h2, h3, h4⟩, _⟩ := (show ObjOk X.prog X.w H s.heap d (KnO X.prog X.w d es) from I.hok d _ h.1)
  refine ⟨a, xs, r, o, ds, ep, h1, h2, h3, h4, ?_, nd⟩
  have all : ∀ {es : Kn} {xs : List (NK × Addr × Value)}, RelN es xs → (∀ x ∈ es, KeyV H (.ref x.2.1) x.1 ∧ x.1.depth ≤ 8) → ∀ x ∈ xs, (nestedKind X.prog X.w).is s.heap x.1 x.2.1 := by
    intro es xs q
    induction q with
    | nil => intro _ x hx; exact nomatch hx
    | @cons p q ps qs r t ih =>
      intro hk x hx
      rcases List.mem_cons.mp hx with e | hx
      · subst e
        have z := hk p (List.mem_cons_self ..)
        rw [r.1, r.2.1] at z
        exact ⟨z.1.is I.hok rfl, z.2⟩
      · exact ih (fun y hy => hk y (List.mem_cons_of_mem _ hy)) x hx
  exact all r h.2
theorem key_nested (I : L2.Inv X pins σ H s) (h : KeyV H (.ref a) k) (hd : k.depth ≤ 8) : (nestedKind X.prog X.w).is s.heap k a := ⟨h.is I.hok rfl, hd⟩
def rNotInN (P : Program) (w : World) : R2 := fun x y H Q => ∃ a d k es, x = .ref a ∧ y = .ref d ∧ KnAt P w H d es ∧ KeyV H (.ref a) k ∧ k.depth ≤ 8 ∧ Q (.bl (!(lookN es k).isSome)) H
theorem op_nnotin (hu : X.A.units + 64 < cLine) : OpR X (compareOp .NotIn) (rNotInN X.prog X.w) := by
  intro pins s σ H x y v u Q I rx ry ⟨a, d, k, es, ex, ey, hd, hk, h8, w⟩
  subst ex ey
  cases rx
  cases ry
  obtain ⟨lo, xs, r, dd⟩ := kn_dict I hd
  refine wpAny_notIn_heap (knd := nestedKind X.prog X.w) (show X.A.units + 1 + 8 < cLine by omega) (key_nested I hk h8) lo dd ?_
  have q := RelO.isSome_eq' (relN_look k r)
  rw [Option.isSome_map] at q
  rw [← q]
  exact ⟨.bl _, H, I.tok _, rfl, w⟩
def rGetN (P : Program) (w : World) : R2 := fun x y H Q => ∃ d a k es v, x = .ref d ∧ y = .ref a ∧ KnAt P w H d es ∧ KeyV H (.ref a) k ∧ k.depth ≤ 8 ∧ lookN es k = some v ∧ Q v H
theorem ix_N (hu : X.A.units + 64 < cLine) : IxR X (rGetN X.prog X.w) := by
  intro value slice pins s σ H x y v u Q I rx ry ⟨d, a, k, es, z, ex, ey, hd, hk, h8, hl, w⟩ hs
  subst ex ey
  cases rx
  cases ry
  obtain ⟨lo, xs, r, dd⟩ := kn_dict I hd
  obtain ⟨u', hu', ru⟩ := RelO.some_of (v := z) (o := (atKey xs k).map (·.2)) (by rw [← hl]; exact relN_look k r)
  obtain ⟨p, hp, hp2⟩ := Option.map_eq_some_iff.mp hu'
  refine subscriptTail_builtinR (x := p.2) dd.typeIs PySem.F.slot_dict_getitem.lookup ?_ hs
  refine wpAny_getItem_heap (knd := nestedKind X.prog X.w) (show X.A.units + 1 + 8 < cLine by omega) (key_nested I hk h8) dd hp ⟨rfl, ?_⟩
  rw [hp2]
  exact ⟨z, H, I.tok _, ru, w⟩
def rPutN (P : Program) (w : World) : V → V → V → Hp → (Hp → Prop) → Prop := fun o i v H Q => ∃ d a k es, o = .ref d ∧ i = .ref a ∧ KnAt P w H d es ∧ KeyV H (.ref a) k ∧ k.depth ≤ 8 ∧ es.length ≤ sizeLine ∧ Q (upd H d (KnO P w d (putN es k a v)))
theorem set_N (hu : X.A.units + 64 < cLine) : PSet X (rPutN X.prog X.w) := by
  intro pins s σ H o i v ov iv u Q I ro ri rv ⟨d, a, k, es, eo, ei, hd, hk, h8, hz, w⟩
  subst eo ei
  cases ro
  cases ri
  obtain ⟨lo, xs, r, dd⟩ := kn_dict I hd
  refine wpAny_setItem_heap (knd := nestedKind X.prog X.w) (hsz := by rw [← relN_len r]; exact hz) (show X.A.units + 1 + 8 < cLine by omega) (key_nested I hk h8) dd fun h' dd' hs => ⟨_, ?_, w⟩
  obtain ⟨q, ds, ep, hq, h2, h3, h4, _, h5⟩ := dd'
  exact I.write (x := d) (e := d) (by rw [hd.1]; exact True.intro) (.inl rfl) (fun b q hb z => (hs.2 b hb).trans z) ⟨q, hq⟩ (kn_ok ⟨lo, _, relN_put r rv, h5, q, ds, ep, hq, h2, h3, h4⟩)
def tDNewN (P : Program) (w : World) : TE := fun _ H Q => ∀ p, H p = none → Q (.ref p) (upd H p (KnO P w p []))
theorem pe_dnewN {pos : Pos} : PE X (.Dict [] [] pos) (tDNewN X.prog X.w) := by
  constructor
  intro pins s σ H Q I h
  refine wpAny_Dict_empty ⟨.ref s.heap.objs.size, _, I.laid (a := s.heap.objs.size) (o := KnO X.prog X.w s.heap.objs.size []) (t' := s.toks) (fun _ _ q => Heap.get?_push_of_some _ q) (Nat.le_refl _) (kn_ok ?_), rfl, h _ (I.hok.fresh (Nat.le_refl _))⟩
  have big := dt_empty (P := X.prog) (w := X.w) (H := H) s.heap I.big
  obtain ⟨_, lo, xs, r, o, ds, ep, h1, h2, h3, h4, h5⟩ := big
  cases r
  exact ⟨lo, [], .nil, List.nodup_nil, o, ds, ep, h1, h2, h3, h4⟩
end
end Sg

/-! ### text WH -/
namespace Sg
open PySem PySem.Spec PyProof.Rows L2
open Uw61 (Drawing Line)

/-! ### how things lie in the heap -/
section
variable {α β γ : Type}
inductive F2 (R : α → β → Prop) : List α → List β → Prop
  | nil : F2 R [] []
  | cons {x : α} {y : β} {xs : List α} {ys : List β} : R x y → F2 R xs ys → F2 R (x :: xs) (y :: ys)
variable {R S : α → β → Prop}
theorem F2.mono (m : ∀ x y, R x y → S x y) {xs : List α} {ys : List β} (h : F2 R xs ys) : F2 S xs ys := by
  induction h with
  | nil => exact .nil
  | cons a _ ih => exact .cons (m _ _ a) ih
theorem F2.len {xs : List α} {ys : List β} (h : F2 R xs ys) : xs.length = ys.length := by
  induction h with
  | nil => rfl
  | cons _ _ ih => simp [ih]
theorem F2.append {xs xs' : List α} {ys ys' : List β} (h : F2 R xs ys) (h' : F2 R xs' ys') : F2 R (xs ++ xs') (ys ++ ys') := by
  induction h with
  | nil => exact h'
  | cons a _ ih => exact .cons a ih
theorem F2.one {x : α} {y : β} (h : R x y) : F2 R [x] [y] := .cons h .nil
theorem F2.get {xs : List α} {ys : List β} (h : F2 R xs ys) : ∀ {i : Nat} {y : β}, ys[i]? = some y → ∃ x, xs[i]? = some x ∧ R x y := by
  induction h with
  | nil => intro i y q; simp at q
  | @cons x y xs ys a _ ih =>
    intro i z q
    cases i with
    | zero => exact ⟨x, rfl, by rw [← Option.some.inj q]; exact a⟩
    | succ i => exact ih q
theorem F2.getL {xs : List α} {ys : List β} (h : F2 R xs ys) : ∀ {i : Nat} {x : α}, xs[i]? = some x → ∃ y, ys[i]? = some y ∧ R x y := by
  induction h with
  | nil => intro i y q; simp at q
  | @cons x y xs ys a _ ih =>
    intro i z q
    cases i with
    | zero => exact ⟨y, rfl, by rw [← Option.some.inj q]; exact a⟩
    | succ i => exact ih q
theorem F2.set {xs : List α} {ys : List β} (h : F2 R xs ys) {x : α} {y : β} (r : R x y) : ∀ (i : Nat), F2 R (xs.set i x) (ys.set i y) := by
  induction h with
  | nil => intro i; exact .nil
  | cons a t ih =>
    intro i
    cases i with
    | zero => exact .cons r t
    | succ i => exact .cons a (ih i)
theorem F2.dropLast {xs : List α} {ys : List β} (h : F2 R xs ys) : F2 R xs.dropLast ys.dropLast := by
  induction h with
  | nil => exact .nil
  | cons a t ih =>
    cases t with
    | nil => exact .nil
    | cons b t => exact .cons a ih
theorem F2.map {f : γ → β} {g : γ → α} : ∀ {l : List γ}, (∀ x ∈ l, R (g x) (f x)) → F2 R (l.map g) (l.map f)
  | [], _ => .nil
  | x :: l, h => .cons (h x (by simp)) (F2.map fun y hy => h y (by simp [hy]))
end
abbrev HR (α : Type) := Hp → V → α → Prop
/-- it stays while all that was tracked stays -/
structure Mon {α : Type} (R : HR α) : Prop where
  go : ∀ {H H' : Hp} {v : V} {x : α}, Same H H' → R H v x → R H' v x
/-- numbers as values -/
def nv (l : List Nat) : List V := l.map fun n => V.int (n : Nat)
theorem nv_length (l : List Nat) : (nv l).length = l.length := by unfold nv; rw [List.length_map]
theorem nv_append (l m : List Nat) : nv (l ++ m) = nv l ++ nv m := by unfold nv; rw [List.map_append]
theorem nv_get {l : List Nat} {i n : Nat} (h : l[i]? = some n) : (nv l)[i]? = some (.int (n : Nat)) := by unfold nv; rw [List.getElem?_map, h]; rfl
theorem nv_getL {l : List Nat} {i : Nat} {v : V} (h : (nv l)[i]? = some v) : ∃ n, l[i]? = some n ∧ v = .int (n : Nat) := by
  unfold nv at h
  rw [List.getElem?_map] at h
  cases c : l[i]? with
  | none => rw [c] at h; cases h
  | some n => rw [c] at h; exact ⟨n, rfl, (Option.some.inj h).symm⟩
theorem nv_at {l : List Nat} {i : Nat} (h : i < l.length) : atI (nv l) (i : Int) = some (.int (l.getD i 0 : Nat)) :=
  atI_nat (nv_get (by rw [getD_lt h]; exact List.getElem?_eq_getElem h))
theorem nv_ints (l : List Nat) : nv l = (l.map fun n : Nat => (n : Int)).map V.int := by unfold nv; rw [List.map_map]; rfl
theorem nv_flat (l : List Nat) : (nv l).all flatV = true := by
  unfold nv; rw [List.all_map, List.all_eq_true]; intro x _; rfl
theorem nv_in (n : Nat) (l : List Nat) : inV (.int (n : Nat)) (nv l) = l.contains n := by
  unfold inV nv
  rw [List.any_map]
  induction l with
  | nil => rfl
  | cons a l ih =>
    rw [List.any_cons, ih, List.contains_cons]
    congr 1
    show ((a : Int) == (n : Int)) = (n == a)
    rw [Bool.eq_iff_iff]; simp; omega
def IL : HR (List Nat) := fun H v l => ∃ p, v = .ref p ∧ H p = some (.lst (nv l))
def LV {α : Type} (R : HR α) : HR (List α) := fun H v xs => ∃ p vs, v = .ref p ∧ H p = some (.lst vs) ∧ F2 (R H) vs xs
abbrev BL : HR (List (List Nat)) := LV IL
abbrev RL : HR (List (List (List Nat))) := LV BL
theorem il_mono : Mon IL := ⟨fun s ⟨p, e, h⟩ => ⟨p, e, s _ _ h⟩⟩
theorem lv_mono {α : Type} {R : HR α} (m : Mon R) : Mon (LV R) := ⟨fun s ⟨p, vs, e, h, f⟩ => ⟨p, vs, e, s _ _ h, f.mono fun _ _ q => m.go s q⟩⟩
theorem bl_mono : Mon BL := lv_mono il_mono
theorem rl_mono : Mon RL := lv_mono bl_mono
theorem f2_mono {α : Type} {R : HR α} (m : Mon R) {H H' : Hp} (s : Same H H') {vs : List V} {xs : List α} (f : F2 (R H) vs xs) : F2 (R H') vs xs := f.mono fun _ _ q => m.go s q
/-- an item of a list of things -/
theorem lv_item {α : Type} {R : HR α} {H : Hp} {v : V} {xs : List α} (h : LV R H v xs) {i : Nat} {x : α} (hi : xs[i]? = some x) : ∃ p vs w, v = .ref p ∧ H p = some (.lst vs) ∧ vs.length = xs.length ∧ atI vs (i : Int) = some w ∧ R H w x := by
  obtain ⟨p, vs, e, h, f⟩ := h
  obtain ⟨w, hw, r⟩ := f.get hi
  exact ⟨p, vs, w, e, h, f.len, atI_nat hw, r⟩
/-- pairs of numbers; tuples of numbers -/
def PV : HR (Nat × Nat) := fun H v x => ∃ t, v = .ref t ∧ H t = some (.tup [.int (x.1 : Nat), .int (x.2 : Nat)])
def TV : HR (List Nat) := fun H v x => ∃ t, v = .ref t ∧ H t = some (.tup (nv x))
theorem pv_mono : Mon PV := ⟨fun s ⟨p, e, h⟩ => ⟨p, e, s _ _ h⟩⟩
theorem tv_mono : Mon TV := ⟨fun s ⟨p, e, h⟩ => ⟨p, e, s _ _ h⟩⟩
/-- a line -/
def LnV : HR Line := fun H v x => match x with
  | .join r a i b j => ∃ t, v = .ref t ∧ H t = some (.tup [.int 1, .int (r : Nat), .int (a : Nat), .int (i : Nat), .int (b : Nat), .int (j : Nat)])
  | .part r a i j k => ∃ t q, v = .ref t ∧ H t = some (.tup [.int 2, .int (r : Nat), .int (a : Nat), .int (i : Nat), .int (j : Nat), q]) ∧ TV H q k
theorem ln_mono : Mon LnV := by
  constructor
  intro H H' v x s h
  cases x with
  | join r a i b j => obtain ⟨t, e, h⟩ := h; exact ⟨t, e, s _ _ h⟩
  | part r a i j k => obtain ⟨t, q, e, h, k⟩ := h; exact ⟨t, q, e, s _ _ h, tv_mono.go s k⟩
/-- a drawing: its fields -/
def dF (e r : V) : List (Str × V) := [("ends", e), ("regions", r)]
theorem lk_here {k : Str} {v : V} {r : List (Str × V)} : List.lookup k ((k, v) :: r) = some v := by
  have e : (k == k) = true := beq_self_eq_true k
  simp only [List.lookup, e]
theorem lk_past {k g : Str} {v : V} {r : List (Str × V)} (h : (k == g) = false) : List.lookup k ((g, v) :: r) = List.lookup k r := by
  simp only [List.lookup, h]
theorem put_here {f : Str} {v x : V} {r : List (Str × V)} : putF f v ((f, x) :: r) = (f, v) :: r := if_pos rfl
theorem put_past {f g : Str} {v x : V} {r : List (Str × V)} (h : ¬ g = f) : putF f v ((g, x) :: r) = (g, x) :: putF f v r := if_neg h
theorem dF_ends (e r : V) : (dF e r).lookup ("ends" : Str) = some e := lk_here
theorem dF_regions (e r : V) : (dF e r).lookup ("regions" : Str) = some r := (lk_past (by decide +kernel)).trans lk_here
theorem dF_no {m : Str} (h1 : (m == ("ends" : Str)) = false) (h2 : (m == ("regions" : Str)) = false) (e r : V) : (dF e r).lookup m = none := (lk_past h1).trans ((lk_past h2).trans rfl)
theorem dF_new (e r : V) : putF "regions" r (putF "ends" e []) = dF e r := (put_past (by decide +kernel)).trans rfl
def DV (a : Ads) : HR Drawing := fun H v d => ∃ p dx e r, v = .ref p ∧ H p = some (.ins a.CD dx (dF e r)) ∧ IL H e d.ends ∧ RL H r d.regions
theorem dv_mono {a : Ads} : Mon (DV a) := ⟨fun s ⟨p, dx, e, r, q, h, h1, h2⟩ => ⟨p, dx, e, r, q, s _ _ h, il_mono.go s h1, rl_mono.go s h2⟩⟩
/-- new things -/
theorem same_new {H : Hp} {p : Addr} {o : HO} (h : H p = none) : Same H (upd H p o) := fun b u q => by
  rw [upd_ne (ne_of_none q h)]; exact q
theorem same_mut {H H' : Hp} {p : Addr} {o : HO} (s : Same H H') (h : H p = none) : Same H (upd H' p o) := fun b u q => by
  rw [upd_ne (ne_of_none q h)]; exact s b u q
/-- a heap without some things -/
noncomputable def cut (Z : Addr → Prop) (H : Hp) : Hp := fun b => open Classical in if Z b then none else H b
/-- the things are there -/
def Held (Z : Addr → Prop) (H : Hp) : Prop := ∀ b, Z b → H b ≠ none
section
variable {Z : Addr → Prop} {H H' : Hp} {p : Addr} {o : HO}
theorem cut_not (h : ¬ Z p) : cut Z H p = H p := if_neg h
theorem cut_same : Same (cut Z H) H := fun b o q => by
  by_cases c : Z b
  · have : cut Z H b = none := if_pos c
    rw [this] at q; cases q
  · rw [cut_not c] at q; exact q
theorem cut_mono (s : Same H H') : Same (cut Z H) (cut Z H') := fun b o q => by
  by_cases c : Z b
  · have : cut Z H b = none := if_pos c
    rw [this] at q; cases q
  · rw [cut_not c] at q ⊢; exact s _ _ q
theorem cut_upd (h : Z p) : cut Z (upd H p o) = cut Z H := by
  funext b
  by_cases c : Z b
  · exact (if_pos c).trans (if_pos c).symm
  · rw [cut_not c, cut_not c, upd_ne (fun q => c (by rw [q]; exact h))]
theorem cut_new (h : Held Z H) (n : H p = none) : ¬ Z p := fun z => h p z n
theorem held_mono (h : Held Z H) (s : Same H H') : Held Z H' := fun b z q => h b z (s.free q)
theorem held_no : Held (fun _ => False) H := fun _ z => z.elim
theorem cut_no : cut (fun _ => False) H = H := by funext b; exact cut_not (fun z => z)
theorem cut_fresh (h : ∀ b, Z b → H b = none) (s : Same H H') : Same H (cut Z H') := fun b o q => by
  rw [cut_not (fun z => by rw [h b z] at q; cases q)]; exact s _ _ q
end
/-! ### walks by enumerate -/
theorem lc_enum {K : PySem.W.Frag} {a : Addr} {xs : List V} {g : TG} {tt : TT} {te : TE} {vs : List Nat} {σ : L2.St} {H1 : Hp} {D : Addr} {Qd : Hp → Prop} (Pv : Nat → Hp → Prop) (h0 : Pv 0 (upd H1 D (.lst []))) (hl : ∀ i H, i ≤ xs.length → Pv i H → SqL K H a xs)
    (hs : ∀ i x T H, xs[i]? = some x → Pv i H → H T = none → g (.ref T) (wipe σ vs) (upd H T (.tup [.int (i : Nat), x])) fun σ2 H2 => wipe σ2 vs = wipe σ vs ∧ tt σ2 H2 fun b H3 =>
      if b = true then te σ2 H3 fun y H4 => ∃ acc, H4 D = some (.lst acc) ∧ acc.length < sizeLine ∧ Pv (i + 1) (upd H4 D (.lst (acc ++ [y]))) else Pv (i + 1) H3) (hd : ∀ H, Pv xs.length H → Qd H) :
    ∃ W : Nat → Nat → Hp → Prop, (∃ m, W 0 m (upd H1 D (.lst []))) ∧ ∀ i m H, W i m H →
      ((Ite K a).stop i H ∧ Qd H) ∨ ((Ite K a).go i H ∧ ∃ Nx : Hp → Prop, (∀ H', Nx H' → ∃ m', m' < m ∧ W (i + 1) m' H') ∧ ∀ x H', (Ite K a).yld i H x H' → g x (wipe σ vs) H' fun σ2 H2 => wipe σ2 vs = wipe σ vs ∧ tt σ2 H2 fun b H3 =>
        if b = true then te σ2 H3 fun y H4 => ∃ acc, H4 D = some (.lst acc) ∧ acc.length < sizeLine ∧ Nx (upd H4 D (.lst (acc ++ [y]))) else Nx H3) := by
  refine ⟨fun i m H => m = xs.length - i ∧ i ≤ xs.length ∧ Pv i H, ⟨_, rfl, Nat.zero_le _, h0⟩, ?_⟩
  rintro i m H ⟨rfl, hi, p⟩
  have q := hl i H hi p
  by_cases c : i < xs.length
  · refine .inr ⟨⟨xs, _, q, List.getElem?_eq_getElem c⟩, Pv (i + 1), fun H' p' => ⟨xs.length - (i + 1), by omega, rfl, c, p'⟩, ?_⟩
    rintro x H' ⟨T, y, rfl, hT, rfl, f⟩
    exact hs i y T H (f xs q) p hT
  · have e : i = xs.length := by omega
    subst e
    exact .inl ⟨⟨xs, q, Nat.le_refl _⟩, hd H p⟩
theorem for_enum {K : PySem.W.Frag} {a : Addr} {xs : List V} {g : TG} {tb : TS} {D : Ends} {σ : L2.St} {H : Hp} (Pv : Nat → L2.St → Hp → Prop) (h0 : Pv 0 σ H) (hl : ∀ i σ H, i ≤ xs.length → Pv i σ H → SqL K H a xs)
    (hs : ∀ i x T σ H, xs[i]? = some x → Pv i σ H → H T = none → g (.ref T) σ (upd H T (.tup [.int (i : Nat), x])) fun σ2 H2 => tb { D with nx := Pv (i + 1), ct := Pv (i + 1), bk := D.nx } σ2 H2) (hd : ∀ σ H, Pv xs.length σ H → D.nx σ H) :
    ∃ W : Nat → Nat → L2.St → Hp → Prop, (∃ m, W 0 m σ H) ∧ ∀ i m σ H, W i m σ H →
      ((Ite K a).stop i H ∧ D.nx σ H) ∨ ((Ite K a).go i H ∧ ∃ N : L2.St → Hp → Prop, (∀ σ' H', N σ' H' → ∃ m', m' < m ∧ W (i + 1) m' σ' H') ∧ ∀ x H', (Ite K a).yld i H x H' → g x σ H' fun σ2 H2 => tb { D with nx := N, ct := N, bk := D.nx } σ2 H2) := by
  refine ⟨fun i m σ H => m = xs.length - i ∧ i ≤ xs.length ∧ Pv i σ H, ⟨_, rfl, Nat.zero_le _, h0⟩, ?_⟩
  rintro i m σ H ⟨rfl, hi, p⟩
  have q := hl i σ H hi p
  by_cases c : i < xs.length
  · refine .inr ⟨⟨xs, _, q, List.getElem?_eq_getElem c⟩, Pv (i + 1), fun σ' H' p' => ⟨xs.length - (i + 1), by omega, rfl, c, p'⟩, ?_⟩
    rintro x H' ⟨T, y, rfl, hT, rfl, f⟩
    exact hs i y T σ H (f xs q) p hT
  · have e : i = xs.length := by omega
    subst e
    exact .inl ⟨⟨xs, q, Nat.le_refl _⟩, hd σ H p⟩
/-- slices of a list of numbers -/
theorem cut_from (l : List Nat) (i : Nat) : cutV (nv l) (some (i : Int)) none = nv (l.drop i) := by
  unfold cutV
  rw [HT.sIx_none, HT.sIx_nat, nv_length]
  unfold nv
  rw [← List.map_drop, ← List.map_take]
  congr 1
  by_cases c : i ≤ l.length
  · rw [Nat.min_eq_left c, List.take_of_length_le (by rw [List.length_drop]; omega)]
  · rw [Nat.min_eq_right (by omega), List.drop_length, List.drop_of_length_le (by omega)]; simp
theorem cut_to (l : List Nat) (j : Nat) : cutV (nv l) none (some (j : Int)) = nv (l.take j) := by
  unfold cutV
  rw [HT.sIx_none, HT.sIx_nat, nv_length]
  unfold nv
  rw [List.drop_zero, Nat.sub_zero, ← List.map_take]
  congr 1
  by_cases c : j ≤ l.length
  · rw [Nat.min_eq_left c]
  · rw [Nat.min_eq_right (by omega), List.take_length, List.take_of_length_le (by omega)]
theorem cut_both (l : List Nat) (i j : Nat) : cutV (nv l) (some (i : Int)) (some (j : Int)) = nv ((l.drop i).take (j - i)) := by
  unfold cutV
  rw [HT.sIx_nat, HT.sIx_nat, nv_length]
  unfold nv
  rw [← List.map_drop, ← List.map_take]
  congr 1
  by_cases c : i ≤ l.length
  · rw [Nat.min_eq_left c]
    by_cases c2 : j ≤ l.length
    · rw [Nat.min_eq_left c2]
    · rw [Nat.min_eq_right (by omega), List.take_of_length_le (by rw [List.length_drop]; omega), List.take_of_length_le (by rw [List.length_drop]; omega)]
  · have e : min i l.length = l.length := Nat.min_eq_right (by omega)
    rw [e, List.drop_length, List.drop_of_length_le (by omega : l.length ≤ i)]; simp
theorem iteB {c : Bool} {A B : Prop} (h1 : c = true → A) (h2 : c = false → B) : if c = true then A else B := by
  cases c with
  | true => rw [if_pos rfl]; exact h1 rfl
  | false => rw [if_neg (by decide)]; exact h2 rfl
end Sg

/-! ### text W1 -/
namespace Sg
open PySem PySem.Spec PyProof.Rows L2
open Uw61 (Drawing Line)

/-! ### Drawing -/
theorem yes_of {σ : L2.St} {H : Hp} {A B : Hp → Prop} (h : A H) : tYes σ H (fun b H3 => if b = true then A H3 else B H3) := by
  show if true = true then A H else B H
  rw [if_pos rfl]; exact h
/-- the same end by an equal value -/
theorem val_of {Q : VK} {v w : V} {H : Hp} (k : Q v H) (e : v = w) : Q w H := e ▸ k
theorem flat6 {rs : List (List (List Nat))} : (∀ bs ∈ rs, bs.length ≤ 6) → rs.flatten.length ≤ 6 * rs.length := by
  induction rs with
  | nil => simp
  | cons b rs ih =>
    intro h
    have h1 := ih fun x hx => h x (List.mem_cons_of_mem _ hx)
    have h2 := h b (by simp)
    simp at h1 ⊢; omega
def sp_D_init (a : Ads) : Sp := fun vs H Q _ => ∃ p dx e r, vs = [.ref p, e, r] ∧ H p = some (.ins a.CD dx []) ∧
  ∀ H', H' p = some (.ins a.CD dx (dF e r)) → (∀ b o, H b = some o → b ≠ p → H' b = some o) → Q .non H'
theorem ok_D_init {P : Program} {w : World} {K : PySem.W.Frag} {mg : Str → Option Value} {base : Heap} {a : Ads} (T : Txt K mg a) : FnOk P w K mg base CX0 1 a.f_D_init a.d_D_init ["self", "ends", "regions"] (sp_D_init a) := by
  refine T.F_D_init.ok sc_D_init (fun vs H Q E h => ?_) (fun cdv A outer s H vs Q E hr h => ⟨_, (pss_cons (ps_fld (pv 0) (pv 1) rfl)
  (pss_one (ps_fld (pv 0) (pv 2) rfl))), ?_⟩)
  · obtain ⟨p, dx, e, r, rfl, _⟩ := h; rfl
  · obtain ⟨p, dx, e, r, rfl, hp, k⟩ := h
    refine ⟨_, rfl, _, rfl, p, a.CD, dx, [], rfl, hp, T.clD, T.nEnds, (by show 0 < 1000; decide), ?_⟩
    refine ⟨_, rfl, _, rfl, p, a.CD, dx, _, rfl, upd_same, T.clD, T.nRegions, (by show 1 < 1000; decide), ?_⟩
    exact k _ (upd_same.trans (by rw [dF_new])) fun b o q hb => by rw [upd_ne hb, upd_ne hb]; exact q
/-- a new drawing -/
theorem make_draw {a : Ads} {H1 : Hp} {x dx : Addr} {e r : V} {d : Drawing} {Q : VK} {E : XK} (nx : H1 x = none) (nd : H1 dx = none) (he : IL H1 e d.ends) (hr : RL H1 r d.regions) (k : ∀ H2, Same H1 H2 → DV a H2 (.ref x) d → Q (.ref x) H2) :
    sp_D_init a [.ref x, e, r] (upd (upd H1 dx (.own x)) x (.ins a.CD dx [])) (fun v H2 => v = .non ∧ Q (.ref x) H2) E := by
  refine ⟨x, dx, e, r, rfl, upd_same, fun H2 hx kp => ⟨rfl, ?_⟩⟩
  have s : Same H1 H2 := Same.made nx nd kp
  exact k H2 s ⟨x, dx, e, r, rfl, hx, il_mono.go s he, rl_mono.go s hr⟩

def sp_D_lives_of (a : Ads) : Sp := fun vs H Q _ => ∃ v d x, vs = [v, .int (x : Nat)] ∧ DV a H v d ∧ Fit d ∧ x < d.ends.length ∧ Q (.int (Uw61.lives d x : Nat)) H
theorem ok_D_lives_of {P : Program} {w : World} {K : PySem.W.Frag} {mg : Str → Option Value} {base : Heap} {a : Ads} (T : Txt K mg a) : FnOk P w K mg base CX0 1 a.f_D_lives_of a.d_D_lives_of ["self", "spot"] (sp_D_lives_of a) := by
  refine T.F_D_lives_of.ok sc_D_lives_of (fun vs H Q E h => ?_) (fun cdv A outer s H vs Q E hr h => ⟨_, (pss_one (ps_ret (pe_op op_sub (pe_glob (v := .int 3) rfl T.mg_MOST_ENDS ⟨_, rfl⟩) (pe_ix ix_list (pe_fld (pv 0) rfl) (pv 1) (fun _ _ => rfl))))), ?_⟩)
  · obtain ⟨v, d, x, rfl, _⟩ := h; rfl
  · obtain ⟨v, d, x, rfl, ⟨p, dx, e, r, rfl, hp, ⟨q, rfl, hq⟩, hr⟩, F, hx, k⟩ := h
    refine ⟨_, rfl, p, a.CD, dx, _, _, rfl, hp, T.clD, T.nEnds, dF_ends _ _, _, rfl, q, _, _, _, rfl, rfl, SqL.of hq, nv_at hx, _, _, rfl, rfl, ?_⟩
    have e3 := getD_le F.e3 x
    have e0 : d.ends.getD x 0 = d.ends.getD x 3 := by rw [getD_lt hx, getD_lt hx]
    have e1 : (3 : Int) - (d.ends.getD x 0 : Nat) = (Uw61.lives d x : Nat) := by unfold Uw61.lives; rw [e0]; omega
    show Q (.int (3 - ((d.ends.getD x 0 : Nat) : Int))) H
    rw [e1]
    exact k
def sp_D_all_lives (a : Ads) : Sp := fun vs H Q _ => ∃ v d, vs = [v] ∧ DV a H v d ∧ Fit d ∧ ∀ H', Same H H' → Q (.int (Uw61.allLives d : Nat)) H'
theorem ok_D_all_lives {P : Program} {w : World} {K : PySem.W.Frag} {mg : Str → Option Value} {base : Heap} {a : Ads} (T : Txt K mg a) : FnOk P w K mg base CX0 1 a.f_D_all_lives a.d_D_all_lives ["self"] (sp_D_all_lives a) := by
  refine T.F_D_all_lives.ok sc_D_all_lives (fun vs H Q E h => ?_) (fun cdv A outer s H vs Q E hr h => ⟨_, (pss_one (ps_ret (pe_callB (cr_sum rfl) (by rfl) T.n_sum (by decide +kernel) (pa_cons (pe_lc (own := [("many", 1)]) rfl sc_D_all_lives.nd (pi_list (pe_fld (pv 0) rfl)) (blkOk_by (N := ["self", "many"]) (sc := defScope s_D_all_lives) (own := [("many", 1)]) (by decide +kernel)) (fun _ _ _ _ _ => (pg_name (i := 1) sc_D_all_lives.nd rfl (Or.inl rfl))) (fun _ _ _ _ _ => pts_nil) (fun _ _ _ _ _ => (pe_op op_sub (pe_glob (v := .int 3) rfl T.mg_MOST_ENDS ⟨_, rfl⟩) (pv 1)))) pa_nil)))), ?_⟩)
  · obtain ⟨v, d, rfl, _⟩ := h; rfl
  · obtain ⟨v, d, rfl, ⟨p, dx, e, r, rfl, hp, ⟨q, rfl, hq⟩, hr⟩, F, k⟩ := h
    refine ⟨_, rfl, p, a.CD, dx, _, _, rfl, hp, T.clD, T.nEnds, dF_ends _ _, q, rfl, ⟨_, SqL.of hq⟩, fun D nD => ?_⟩
    have big : d.ends.length ≤ 100 := by have := F.en; omega
    refine lc_list (K := K) (a := q) (xs := nv d.ends) (fun i H' => Same H H' ∧ H' D = some (.lst (nv ((d.ends.take i).map (3 - ·))))) ⟨same_new nD, upd_same⟩ (fun i H' _ z => SqL.of (z.1 _ _ hq)) ?_ ?_
    · rintro i y H' hi ⟨s, hD⟩
      obtain ⟨n, hn, rfl⟩ := nv_getL hi
      refine ⟨rfl, yes_of ⟨_, rfl, _, _, rfl, rfl, _, hD, ?_, same_mut s nD, ?_⟩⟩
      · rw [nv_length, List.length_map, List.length_take]
        exact small1000 (by omega)
      · rw [upd_same]
        have n3 := F.e3 n (List.mem_of_getElem? hn)
        have lt := (List.getElem?_eq_some_iff.mp hn).1
        rw [List.take_add_one, hn]
        simp only [Option.toList_some, List.map_append, nv_append]
        congr 3
        show [V.int (3 - (n : Int))] = [V.int ((3 - n : Nat) : Int)]
        congr 2
        omega
    · rintro H' ⟨s, hD⟩
      rw [nv_length, List.take_length, nv_ints] at hD
      refine ⟨D, _, rfl, SqL.of hD, ?_⟩
      have e : ((d.ends.map (3 - ·)).map fun n : Nat => (n : Int)).sum = (Uw61.allLives d : Nat) := by
        rw [allLives_eq]
        generalize d.ends.map (3 - ·) = l
        induction l with
        | nil => rfl
        | cons a l ih => simp only [List.map_cons, List.sum_cons, ih]; omega
      rw [e]
      exact k _ s
def sp_D_all_borders (a : Ads) : Sp := fun vs H Q _ => ∃ v d, vs = [v] ∧ DV a H v d ∧ Fit d ∧ ∀ H' w, Same H H' → BL H' w d.regions.flatten → Q w H'
theorem ok_D_all_borders {P : Program} {w : World} {K : PySem.W.Frag} {mg : Str → Option Value} {base : Heap} {a : Ads} (T : Txt K mg a) : FnOk P w K mg base CX0 1 a.f_D_all_borders a.d_D_all_borders ["self"] (sp_D_all_borders a) := by
  refine T.F_D_all_borders.ok sc_D_all_borders (fun vs H Q E h => ?_) (fun cdv A outer s H vs Q E hr h => ⟨_, (pss_cons (ps_set (i := 1) sc_D_all_borders.nd rfl (Or.inl rfl) (pe_lst pa_nil))
  (pss_cons (ps_for PassesOwn.never rfl (pi_list (pe_fld (pv 0) rfl)) (pg_name (i := 2) sc_D_all_borders.nd rfl (Or.inl rfl))
  (pss_one (ps_expr (pe_bm PySem.F.plainAttrs_list PySem.F.slot_list_extend PySem.F.type_list_extend mt_extend (pv 1) (pa_cons (pv 2) pa_nil)))))
  (pss_one (ps_ret (pv 1))))), ?_⟩)
  · obtain ⟨v, d, rfl, _⟩ := h; rfl
  · obtain ⟨v, d, rfl, ⟨p, dx, e, r, rfl, hp, he, ⟨q, rs, rfl, hq, fr⟩⟩, F, k⟩ := h
    refine ⟨by show 0 ≤ sizeLine; decide, fun L nL => ?_⟩
    refine ⟨_, rfl, p, a.CD, dx, _, _, rfl, same_new nL _ _ hp, T.clD, T.nRegions, dF_regions _ _, q, rfl, ⟨_, SqL.of (same_new nL _ _ hq)⟩, ?_⟩
    refine for_list (K := K) (a := q) (xs := rs) (fun i σ H' => ∃ z vs, σ = [some (.ref p), some (.ref L), z] ∧ Same H H' ∧ H' L = some (.lst vs) ∧ F2 (IL H) vs (d.regions.take i).flatten) ⟨none, [], rfl, same_new nL, upd_same, .nil⟩ (fun i σ H' _ ⟨_, _, _, s, _⟩ => SqL.of (s _ _ hq)) ?_ ?_
    · rintro i y σ H' hi ⟨z, vs, rfl, s, hL, f⟩
      obtain ⟨bs, hb, b, ws, rfl, hw, fw⟩ := fr.getL hi
      have hw' := s _ _ hw
      refine ⟨_, rfl, .inl ⟨rfl, _, SqL.of hL⟩, _, rfl, L, b, _, _, rfl, rfl, hL, hw', ?_, _, _, rfl, same_mut s nL, upd_same, ?_⟩
      · have l1 := f.len
        have l2 := fw.len
        have b1 := flat6 (rs := d.regions.take i) fun x hx => F.b6 x (List.mem_of_mem_take hx)
        have b2 := F.b6 bs (List.mem_of_getElem? hb)
        have b3 := F.rg
        have b4 : (d.regions.take i).length ≤ d.regions.length := by rw [List.length_take]; omega
        have : vs.length + ws.length ≤ 1000 := by omega
        have := small1000 this
        omega
      · rw [List.take_add_one, hb]
        simp only [Option.toList_some, List.flatten_append, List.flatten_cons, List.flatten_nil, List.append_nil]
        exact f.append fw
    · rintro σ H' ⟨z, vs, rfl, s, hL, f⟩
      rw [fr.len, List.take_length] at f
      exact ⟨_, rfl, k H' _ s ⟨L, vs, rfl, hL, f2_mono il_mono s f⟩⟩
def sp_D_has_place (a : Ads) : Sp := fun vs H Q _ => ∃ v d r b i, vs = [v, .int (r : Nat), .int (b : Nat), .int (i : Nat)] ∧ DV a H v d ∧ Q (.bl (decide (r < d.regions.length ∧ i < (Uw61.borderAt d r b).length))) H
theorem ok_D_has_place {P : Program} {w : World} {K : PySem.W.Frag} {mg : Str → Option Value} {base : Heap} {a : Ads} (T : Txt K mg a) : FnOk P w K mg base CX0 1 a.f_D_has_place a.d_D_has_place ["self", "region", "border", "place"] (sp_D_has_place a) := by
  refine T.F_D_has_place.ok sc_D_has_place (fun vs H Q E h => ?_) (fun cdv A outer s H vs Q E hr h => ⟨_, (pss_cons (ps_if (PW.pt (pw_or (pt_cmpR op_ge (pv 1) (pe_callB call_len_seq (by rfl) T.n_len PySem.boot_len (pa_cons (pe_fld (pv 0) rfl) pa_nil)) (nomark _)) (pw_or1 (pt_cmpR op_ge (pv 2) (pe_callB call_len_seq (by rfl) T.n_len PySem.boot_len (pa_cons (pe_ix ix_list (pe_fld (pv 0) rfl) (pv 1) (fun _ _ => rfl)) pa_nil)) (nomark _)))))
  (pss_one (ps_ret pe_bl)) pss_nil)
  (pss_one (ps_ret (pe_cmpR op_lt (pv 3) (pe_callB call_len_seq (by rfl) T.n_len PySem.boot_len (pa_cons (pe_ix ix_list (pe_ix ix_list (pe_fld (pv 0) rfl) (pv 1) (fun _ _ => rfl)) (pv 2) (fun _ _ => rfl)) pa_nil)) (nomark _))))), ?_⟩)
  · obtain ⟨v, d, r, b, i, rfl, _⟩ := h; rfl
  · obtain ⟨v, d, r, b, i, rfl, ⟨p, dx, e, r', rfl, hp, he, hr'⟩, k⟩ := h
    obtain ⟨q, rs, rfl, hq, fr⟩ := id hr'
    refine ⟨_, rfl, _, rfl, p, a.CD, dx, _, _, rfl, hp, T.clD, T.nRegions, dF_regions _ _, q, _, rfl, .inl (SqL.of hq), _, _, rfl, rfl, _, rfl, ?_⟩
    refine ite2 (fun c => iteT ?_) (fun c => ?_)
    · have c := of_decide_eq_true c
      rw [fr.len] at c
      have e : decide (r < d.regions.length ∧ i < (Uw61.borderAt d r b).length) = false := decide_eq_false (by omega)
      rw [e] at k
      exact k
    · have c : ¬ ((rs.length : Int) ≤ (r : Int)) := fun z => c (decide_eq_true z)
      rw [fr.len] at c
      have c : r < d.regions.length := by omega
      obtain ⟨q1, vs1, w1, e1, h1, l1, a1, b1⟩ := lv_item hr' (List.getElem?_eq_getElem c)
      cases e1
      obtain ⟨q2, bs, rfl, hq2, fb⟩ := id b1
      have eb : d.regions[r] = Uw61.regionAt d r := (getD_lt c).symm
      refine ⟨_, rfl, _, rfl, p, a.CD, dx, _, _, rfl, hp, T.clD, T.nRegions, dF_regions _ _, _, rfl, q, _, _, _, rfl, rfl, SqL.of h1, a1, q2, _, rfl, .inl (SqL.of hq2), _, _, rfl, rfl, _, rfl, ?_⟩
      refine ite2 (fun c2 => ?_) (fun c2 => ?_)
      · have c2 := of_decide_eq_true c2
        rw [fb.len, eb] at c2
        have e : decide (r < d.regions.length ∧ i < (Uw61.borderAt d r b).length) = false := decide_eq_false (by
          have : Uw61.borderAt d r b = [] := by unfold Uw61.borderAt; rw [List.getD_eq_getElem?_getD, List.getElem?_eq_none (by omega)]; rfl
          rw [this]; simp)
        rw [e] at k
        exact k
      · have c2 : ¬ ((bs.length : Int) ≤ (b : Int)) := fun z => c2 (decide_eq_true z)
        rw [fb.len, eb] at c2
        have c2 : b < (Uw61.regionAt d r).length := by omega
        rw [eb] at b1
        obtain ⟨q3, vs3, w3, e3, h3, l3, a3, b3⟩ := lv_item b1 (List.getElem?_eq_getElem c2)
        cases e3
        obtain ⟨q4, rfl, hq4⟩ := id b3
        have ebb : (Uw61.regionAt d r)[b] = Uw61.borderAt d r b := (getD_lt c2).symm
        refine ⟨_, rfl, _, rfl, p, a.CD, dx, _, _, rfl, hp, T.clD, T.nRegions, dF_regions _ _, _, rfl, q, _, _, _, rfl, rfl, SqL.of h1, a1, _, rfl, q2, _, _, _, rfl, rfl, SqL.of h3, a3, q4, _, rfl, .inl (SqL.of hq4), _, _, rfl, rfl, ?_⟩
        rw [nv_length, ebb]
        have e : decide ((i : Int) < ((Uw61.borderAt d r b).length : Int)) = decide (r < d.regions.length ∧ i < (Uw61.borderAt d r b).length) := by
          rw [Bool.eq_iff_iff]
          simp only [decide_eq_true_eq]
          constructor
          · intro z; exact ⟨c, by omega⟩
          · intro z; omega
        exact val_of k (congrArg V.bl e.symm)
end Sg

/-! ### text W2 -/
namespace Sg
open PySem PySem.Spec PyProof.Rows L2
open Uw61 (Drawing Line)

theorem sz {n : Nat} (h : n ≤ 100000) : n ≤ sizeLine := Nat.le_trans h (by decide)
theorem szl {n : Nat} (h : n < 100000) : n < sizeLine := Nat.lt_of_lt_of_le h (by decide)
/-! ### lists of spots -/
def sp_all_round : Sp := fun vs H Q _ => ∃ v l i, vs = [v, .int (i : Nat)] ∧ IL H v l ∧ l.length ≤ 1000 ∧ ∀ H' q, Same H H' → H q = none → H' q = some (.lst (nv (Uw61.around l i))) → Q (.ref q) H'
theorem ok_all_round {P : Program} {w : World} {K : PySem.W.Frag} {mg : Str → Option Value} {base : Heap} {a : Ads} (T : Txt K mg a) : FnOk P w K mg base CX0 1 a.f_all_round a.d_all_round ["border", "place"] (sp_all_round) := by
  refine T.F_all_round.ok sc_all_round (fun vs H Q E h => ?_) (fun cdv A outer s H vs Q E hr h => ⟨_, (pss_cons (ps_if (pt_cmpR op_eq (pe_callB call_len_seq (by rfl) T.n_len PySem.boot_len (pa_cons (pv 0) pa_nil)) pe_int (nomark _))
  (pss_one (ps_ret (pe_callTy call_list_of (by rfl) T.n_list (by decide +kernel) (pa_cons (pv 0) pa_nil)))) pss_nil)
  (pss_one (ps_ret (pe_op op_cat (pe_slice sl_list (pv 0) (po_some (pv 1)) po_none) (pe_slice sl_list (pv 0) po_none (po_some (pe_op op_add (pv 1) pe_int))))))), ?_⟩)
  · obtain ⟨v, l, i, rfl, _⟩ := h; rfl
  · obtain ⟨v, l, i, rfl, ⟨p, rfl, hp⟩, hl, k⟩ := h
    refine ⟨_, rfl, p, _, rfl, .inl (SqL.of hp), rfl, _, rfl, ?_⟩
    refine ite2 (fun c => ?_) (fun c => ?_)
    · have c := of_decide_eq_true c
      rw [nv_length] at c
      have c : l.length = 1 := by injection c with c; omega
      refine ⟨_, rfl, p, _, rfl, .inl (SqL.of hp), fun q nq => k _ q (same_new nq) nq (upd_same.trans ?_)⟩
      unfold Uw61.around; rw [if_pos c]
    · have c : ¬ l.length = 1 := fun z => c (decide_eq_true (by rw [nv_length, z]; rfl))
      refine ⟨_, rfl, _, rfl, _, rfl, p, _, rfl, SqL.of hp, fun q1 n1 => ?_⟩
      have s1 := same_new (o := .lst (cutV (nv l) (some (i : Int)) none)) n1
      refine ⟨_, rfl, _, rfl, _, _, rfl, rfl, _, rfl, p, _, rfl, SqL.of (s1 _ _ hp), fun q2 n2 => ?_⟩
      have s2 := same_new (o := .lst (cutV (nv l) none (some ((i : Int) + 1)))) n2
      refine ⟨q1, q2, _, _, rfl, rfl, s2 _ _ upd_same, upd_same, ?_, fun q3 n3 => ?_⟩
      · have a1 := cutV_length (nv l) (some (i : Int)) none
        have a2 := cutV_length (nv l) none (some ((i : Int) + 1))
        rw [nv_length] at a1 a2
        exact sz (by omega)
      · have s3 := (s1.trans s2).trans (same_new (o := .lst (cutV (nv l) (some (i : Int)) none ++ cutV (nv l) none (some ((i : Int) + 1)))) n3)
        refine k _ q3 s3 ((s1.trans s2).free n3) (upd_same.trans ?_)
        unfold Uw61.around
        rw [if_neg c, nv_append, cut_from]
        have := cut_to l (i + 1)
        rw [← this]; rfl
theorem nv_more {l : List Nat} {x : Nat} (h : x < l.length) : (nv l).set x (.int ((l.getD x 0 : Nat) + 1)) = nv (Uw61.more l x) := by
  rw [more_eq]
  apply List.ext_getElem?
  intro k
  unfold nv
  rw [List.getElem?_map, List.getElem?_modify, List.getElem?_set]
  by_cases c : x = k
  · subst c
    rw [if_pos rfl, if_pos (by rw [List.length_map]; exact h), List.getElem?_eq_getElem h, getD_lt h]
    simp
  · rw [if_neg c, List.getElem?_map]
    cases l[k]? with
    | none => rfl
    | some n => simp [c]
theorem ixN_nat {n j : Nat} (h : j < n) : ixN n (j : Int) = some j := by
  unfold ixN
  rw [if_pos (by omega), if_pos (by omega)]
  simp
def sp_ends_behind : Sp := fun vs H Q _ => ∃ v l x y, vs = [v, .int (x : Nat), .int (y : Nat)] ∧ IL H v l ∧ l.length ≤ 1000 ∧ x < l.length ∧ y < l.length ∧ ∀ H' q, Same H H' → H q = none → H' q = some (.lst (nv (Uw61.more (Uw61.more l x) y ++ [2]))) → Q (.ref q) H'
theorem ok_ends_behind {P : Program} {w : World} {K : PySem.W.Frag} {mg : Str → Option Value} {base : Heap} {a : Ads} (T : Txt K mg a) : FnOk P w K mg base CX0 1 a.f_ends_behind a.d_ends_behind ["ends", "one", "other"] (sp_ends_behind) := by
  refine T.F_ends_behind.ok sc_ends_behind (fun vs H Q E h => ?_) (fun cdv A outer s H vs Q E hr h => ⟨_, (pss_cons (ps_set (i := 3) sc_ends_behind.nd rfl (Or.inl rfl) (pe_callTy call_list_of (by rfl) T.n_list (by decide +kernel) (pa_cons (pv 0) pa_nil)))
  (pss_cons (ps_augS (pv 3) (pv 1) get_list pe_int ip_add set_list)
  (pss_cons (ps_augS (pv 3) (pv 2) get_list pe_int ip_add set_list)
  (pss_cons (ps_expr (pe_bm PySem.F.plainAttrs_list PySem.F.slot_list_append PySem.F.type_list_append mt_append (pv 3) (pa_cons (pe_glob (v := .int 2) rfl T.mg_NEW_ENDS ⟨_, rfl⟩) pa_nil)))
  (pss_one (ps_ret (pv 3))))))), ?_⟩)
  · obtain ⟨v, l, x, y, rfl, _⟩ := h; rfl
  · obtain ⟨v, l, x, y, rfl, ⟨p, rfl, hp⟩, hl, hx, hy, k⟩ := h
    refine ⟨_, rfl, p, _, rfl, .inl (SqL.of hp), fun q nq => ?_⟩
    refine ⟨_, rfl, _, rfl, q, _, x, _, rfl, rfl, SqL.of upd_same, nv_get (by rw [List.getElem?_eq_getElem hx, ← getD_lt (z := 0) hx]), _, _, rfl, rfl, q, _, _, x, rfl, rfl, upd_same, ixN_nat (by rw [nv_length]; exact hx), ?_⟩
    rw [upd_upd, nv_more hx]
    have hy' : y < (Uw61.more l x).length := by rw [more_length]; exact hy
    refine ⟨_, rfl, _, rfl, q, _, y, _, rfl, rfl, SqL.of upd_same, nv_get (by rw [List.getElem?_eq_getElem hy', ← getD_lt (z := 0) hy']), _, _, rfl, rfl, q, _, _, y, rfl, rfl, upd_same, ixN_nat (by rw [nv_length]; exact hy'), ?_⟩
    rw [upd_upd, nv_more hy']
    refine ⟨_, rfl, .inl ⟨rfl, _, SqL.of upd_same⟩, q, _, _, rfl, rfl, upd_same, ?_, ?_⟩
    · rw [nv_length, more_length, more_length]; exact szl (by omega)
    · rw [upd_upd]
      exact ⟨_, rfl, k _ q (same_new nq) nq (upd_same.trans (by rw [nv_append]; rfl))⟩
def sp_regions_with : Sp := fun vs H Q _ => ∃ G v rs n b bs, vs = [v, .int (n : Nat), b] ∧ Same G H ∧ RL G v rs ∧ BL G b bs ∧ n < rs.length ∧ ∀ H' q ws, Same H H' → H q = none → H' q = some (.lst ws) → F2 (BL G) ws (rs.set n bs) → Q (.ref q) H'
theorem ok_regions_with {P : Program} {w : World} {K : PySem.W.Frag} {mg : Str → Option Value} {base : Heap} {a : Ads} (T : Txt K mg a) : FnOk P w K mg base CX0 1 a.f_regions_with a.d_regions_with ["regions", "number", "borders"] (sp_regions_with) := by
  refine T.F_regions_with.ok sc_regions_with (fun vs H Q E h => ?_) (fun cdv A outer s H vs Q E hr h => ⟨_, (pss_cons (ps_set (i := 3) sc_regions_with.nd rfl (Or.inl rfl) (pe_callTy call_list_of (by rfl) T.n_list (by decide +kernel) (pa_cons (pv 0) pa_nil)))
  (pss_cons (ps_asg (pv 2) (pg_sub (pv 3) (pv 1) set_list))
  (pss_one (ps_ret (pv 3))))), ?_⟩)
  · obtain ⟨G, v, rs, n, b, bs, rfl, _⟩ := h; rfl
  · obtain ⟨G, v, rs, n, b, bs, rfl, g, ⟨p, ws, rfl, hp, f⟩, hb, hn, k⟩ := h
    refine ⟨_, rfl, p, _, rfl, .inl (SqL.of (g _ _ hp)), fun q nq => ?_⟩
    refine ⟨_, rfl, _, rfl, _, rfl, q, _, _, n, rfl, rfl, upd_same, ixN_nat (by rw [f.len]; exact hn), ?_⟩
    rw [upd_upd]
    exact ⟨_, rfl, k _ q _ (same_new nq) nq upd_same (f.set hb n)⟩
def sp_near_border : Sp := fun vs H Q _ => ∃ v l i j z, vs = [v, .int (i : Nat), .int (j : Nat), .int (z : Nat)] ∧ IL H v l ∧ l.length ≤ 1000 ∧ i < l.length ∧
  ∀ H' q, Same H H' → H q = none → H' q = some (.lst (nv ((if i = j then [l.getD i 0] else (l.drop i).take (j + 1 - i)) ++ [z]))) → Q (.ref q) H'
theorem ok_near_border {P : Program} {w : World} {K : PySem.W.Frag} {mg : Str → Option Value} {base : Heap} {a : Ads} (T : Txt K mg a) : FnOk P w K mg base CX0 1 a.f_near_border a.d_near_border ["border", "i", "j", "spot"] (sp_near_border) := by
  refine T.F_near_border.ok sc_near_border (fun vs H Q E h => ?_) (fun cdv A outer s H vs Q E hr h => ⟨_, (pss_cons (ps_if (pt_cmpR op_eq (pv 1) (pv 2) (nomark _))
  (pss_one (ps_ret (pe_lst (pa_cons (pe_ix ix_list (pv 0) (pv 1) (fun _ _ => rfl)) (pa_cons (pv 3) pa_nil))))) pss_nil)
  (pss_one (ps_ret (pe_op op_cat (pe_slice sl_list (pv 0) (po_some (pv 1)) (po_some (pe_op op_add (pv 2) pe_int))) (pe_lst (pa_cons (pv 3) pa_nil)))))), ?_⟩)
  · obtain ⟨v, l, i, j, z, rfl, _⟩ := h; rfl
  · obtain ⟨v, l, i, j, z, rfl, ⟨p, rfl, hp⟩, hl, hi, k⟩ := h
    refine ⟨_, rfl, _, rfl, rfl, _, rfl, ?_⟩
    refine ite2 (fun c => ?_) (fun c => ?_)
    · have c := of_decide_eq_true c
      have c : i = j := by injection c with c; omega
      refine ⟨_, rfl, _, rfl, p, _, _, _, rfl, rfl, SqL.of hp, nv_at hi, _, rfl, sz (by show 2 ≤ 100000; decide), fun q nq => k _ q (same_new nq) nq (upd_same.trans ?_)⟩
      rw [if_pos c]; rfl
    · have c : ¬ i = j := fun e => c (decide_eq_true (by rw [e]))
      refine ⟨_, rfl, _, rfl, _, rfl, _, rfl, _, _, rfl, rfl, _, rfl, p, _, rfl, SqL.of hp, fun q1 n1 => ?_⟩
      refine ⟨_, rfl, sz (by show 1 ≤ 100000; decide), fun q2 n2 => ?_⟩
      have s1 := same_new (o := .lst (cutV (nv l) (some (i : Int)) (some ((j : Int) + 1)))) n1
      have s2 := same_new (o := .lst [V.int (z : Int)]) n2
      refine ⟨q1, q2, _, _, rfl, rfl, s2 _ _ upd_same, upd_same, ?_, fun q3 n3 => ?_⟩
      · have a1 := cutV_length (nv l) (some (i : Int)) (some ((j : Int) + 1))
        rw [nv_length] at a1
        exact sz (by simp; omega)
      · have s3 := (s1.trans s2).trans (same_new (o := .lst (cutV (nv l) (some (i : Int)) (some ((j : Int) + 1)) ++ [V.int (z : Int)])) n3)
        refine k _ q3 s3 ((s1.trans s2).free n3) (upd_same.trans ?_)
        rw [if_neg c, nv_append]
        have := cut_both l i (j + 1)
        rw [← this]; rfl
def sp_far_border : Sp := fun vs H Q _ => ∃ v l i j z, vs = [v, .int (i : Nat), .int (j : Nat), .int (z : Nat)] ∧ IL H v l ∧ l.length ≤ 1000 ∧
  ∀ H' q, Same H H' → H q = none → H' q = some (.lst (nv ((if i = j then Uw61.around l i else l.drop j ++ l.take (i + 1)) ++ [z]))) → Q (.ref q) H'
theorem around_len (l : List Nat) (i : Nat) : (Uw61.around l i).length ≤ 2 * l.length := by
  unfold Uw61.around
  split
  · omega
  · rw [List.length_append, List.length_drop, List.length_take]; omega
theorem ok_far_border {P : Program} {w : World} {K : PySem.W.Frag} {mg : Str → Option Value} {base : Heap} {a : Ads} (T : Txt K mg a) : FnOk P w K mg base CX0 2 a.f_far_border a.d_far_border ["border", "i", "j", "spot"] (sp_far_border) := by
  refine T.F_far_border.ok sc_far_border (fun vs H Q E h => ?_) (fun cdv A outer s H vs Q E hr h => ⟨_, (pss_cons (ps_if (pt_cmpR op_eq (pv 1) (pv 2) (nomark _))
  (pss_one (ps_ret (pe_op op_cat (pe_call (ok_all_round T) (hr.mono (by decide)) rfl T.mg_all_round T.F_all_round.kp (b_all_round T) .nil pass0 (pa_cons (pv 0) (pa_cons (pv 1) pa_nil))) (pe_lst (pa_cons (pv 3) pa_nil))))) pss_nil)
  (pss_one (ps_ret (pe_op op_cat (pe_op op_cat (pe_slice sl_list (pv 0) (po_some (pv 2)) po_none) (pe_slice sl_list (pv 0) po_none (po_some (pe_op op_add (pv 1) pe_int)))) (pe_lst (pa_cons (pv 3) pa_nil)))))), ?_⟩)
  · obtain ⟨v, l, i, j, z, rfl, _⟩ := h; rfl
  · obtain ⟨v, l, i, j, z, rfl, ⟨p, rfl, hp⟩, hl, k⟩ := h
    refine ⟨_, rfl, _, rfl, rfl, _, rfl, ?_⟩
    refine ite2 (fun c => ?_) (fun c => ?_)
    · have c := of_decide_eq_true c
      have c : i = j := by injection c with c; omega
      refine ⟨_, rfl, _, rfl, _, l, i, rfl, ⟨p, rfl, hp⟩, hl, fun H1 q1 s1 n1 h1 => ?_⟩
      refine ⟨_, rfl, sz (by show 1 ≤ 100000; decide), fun q2 n2 => ?_⟩
      have s2 := same_new (o := .lst [V.int (z : Int)]) n2
      have al := around_len l i
      refine ⟨q1, q2, _, _, rfl, rfl, s2 _ _ h1, upd_same, sz (by rw [nv_length]; simp; omega), fun q3 n3 => ?_⟩
      refine k _ q3 ((s1.trans s2).trans (same_new n3)) ((s1.trans s2).free n3) (upd_same.trans ?_)
      rw [if_pos c, nv_append]; rfl
    · have c : ¬ i = j := fun e => c (decide_eq_true (by rw [e]))
      refine ⟨_, rfl, _, rfl, _, rfl, p, _, rfl, SqL.of hp, fun q1 n1 => ?_⟩
      have s1 := same_new (o := .lst (cutV (nv l) (some (j : Int)) none)) n1
      refine ⟨_, rfl, _, rfl, _, _, rfl, rfl, _, rfl, p, _, rfl, SqL.of (s1 _ _ hp), fun q2 n2 => ?_⟩
      have s2 := same_new (o := .lst (cutV (nv l) none (some ((i : Int) + 1)))) n2
      have a1 := cutV_length (nv l) (some (j : Int)) none
      have a2 := cutV_length (nv l) none (some ((i : Int) + 1))
      rw [nv_length] at a1 a2
      refine ⟨q1, q2, _, _, rfl, rfl, s2 _ _ upd_same, upd_same, sz (by omega), fun q3 n3 => ?_⟩
      have s3 := (s1.trans s2).trans (same_new (o := .lst (cutV (nv l) (some (j : Int)) none ++ cutV (nv l) none (some ((i : Int) + 1)))) n3)
      refine ⟨_, rfl, sz (by show 1 ≤ 100000; decide), fun q4 n4 => ?_⟩
      have s4 := same_new (o := .lst [V.int (z : Int)]) n4
      refine ⟨q3, q4, _, _, rfl, rfl, s4 _ _ upd_same, upd_same, sz (by rw [List.length_append]; simp; omega), fun q5 n5 => ?_⟩
      refine k _ q5 ((s3.trans s4).trans (same_new n5)) ((s3.trans s4).free n5) (upd_same.trans ?_)
      rw [if_neg c, nv_append, nv_append]
      have := cut_to l (i + 1)
      rw [← this, ← cut_from]; rfl
end Sg

/-! ### text W3 -/
namespace Sg
open PySem PySem.Spec PyProof.Rows L2
open Uw61 (Drawing Line)

/-! ### drawings made -/
/-- a fresh list seen in a heap without some things -/
theorem il_new {Z : Addr → Prop} {H H' : Hp} {q : Addr} {l : List Nat} (hz : Held Z H) (n : H q = none) (h : H' q = some (.lst (nv l))) : IL (cut Z H') (.ref q) l := ⟨q, rfl, by rw [cut_not (cut_new hz n)]; exact h⟩
theorem lv_new {α : Type} {R : HR α} {Z : Addr → Prop} {H H' : Hp} {q : Addr} {vs : List V} {xs : List α} (hz : Held Z H) (n : H q = none) (h : H' q = some (.lst vs)) (f : F2 (R (cut Z H')) vs xs) : LV R (cut Z H') (.ref q) xs := ⟨q, vs, rfl, by rw [cut_not (cut_new hz n)]; exact h, f⟩
/-- a new drawing, without some things -/
theorem make_cut {a : Ads} {Z : Addr → Prop} {H H1 : Hp} {x dx : Addr} {e r : V} {d : Drawing} {Q : VK} {E : XK} (hz : Held Z H) (s1 : Same H H1) (nx : H1 x = none) (nd : H1 dx = none) (he : IL (cut Z H1) e d.ends) (hr : RL (cut Z H1) r d.regions)
    (k : ∀ H2, Same H H2 → DV a (cut Z H2) (.ref x) d → Q (.ref x) H2) :
    sp_D_init a [.ref x, e, r] (upd (upd H1 dx (.own x)) x (.ins a.CD dx [])) (fun v H2 => v = .non ∧ Q (.ref x) H2) E := by
  refine ⟨x, dx, e, r, rfl, upd_same, fun H2 hx kp => ⟨rfl, ?_⟩⟩
  have s : Same H1 H2 := Same.made nx nd kp
  refine k H2 (s1.trans s) ⟨x, dx, e, r, rfl, ?_, il_mono.go (cut_mono s) he, rl_mono.go (cut_mono s) hr⟩
  rw [cut_not (cut_new (held_mono hz s1) nx)]
  exact hx
def sp_at_first (a : Ads) : Sp := fun vs H Q _ => ∃ Z n, vs = [.int (n : Nat)] ∧ Held Z H ∧ n ≤ 6 ∧ ∀ H' v, Same H H' → DV a (cut Z H') v (Uw61.first n) → Q v H'
theorem ok_at_first {P : Program} {w : World} {K : PySem.W.Frag} {mg : Str → Option Value} {base : Heap} {a : Ads} (T : Txt K mg a) : FnOk P w K mg base CX0 3 a.f_at_first a.d_at_first ["many"] (sp_at_first a) := by
  refine T.F_at_first.ok sc_at_first (fun vs H Q E h => ?_) (fun cdv A outer s H vs Q E hr h => ⟨_, (pss_one (ps_ret (pe_make T.mkD (ok_D_init T) (hr.mono (by decide)) rfl T.mg_Drawing (b_D_init T) .nil pass0 (pa_cons (pe_op op_rep (pe_lst (pa_cons pe_int pa_nil)) (pv 0)) (pa_cons (pe_lst (pa_cons (pe_lc (own := [("spot", 1)]) rfl sc_at_first.nd (pi_range1 rfl T.n_range (pa_cons (pv 0) pa_nil)) (blkOk_by (N := ["many", "spot"]) (sc := defScope s_at_first) (own := [("spot", 1)]) (by decide +kernel)) (fun _ _ _ _ _ => (pg_name (i := 1) sc_at_first.nd rfl (Or.inl rfl))) (fun _ _ _ _ _ => pts_nil) (fun _ _ _ _ _ => (pe_lst (pa_cons (pv 1) pa_nil)))) pa_nil)) pa_nil))))), ?_⟩)
  · obtain ⟨Z, n, rfl, _⟩ := h; rfl
  · obtain ⟨Z, n, rfl, hz, hn, k⟩ := h
    refine ⟨sz (by show 1 ≤ 100000; decide), fun q1 n1 => ⟨_, rfl, q1, _, _, rfl, rfl, upd_same, by omega, by omega, ?_, fun q2 n2 => ?_⟩⟩
    · exact sz (by show 1 * (n : Int).toNat ≤ 100000; omega)
    have s1 := same_new (o := .lst [V.int 0]) n1
    have s2 := s1.trans (same_new (o := .lst (List.replicate (n : Int).toNat [V.int 0]).flatten) n2)
    have e2 : (List.replicate (n : Int).toNat [V.int 0]).flatten = nv (List.replicate n 0) := by
      rw [show (n : Int).toNat = n by omega]
      unfold nv
      rw [List.map_replicate]
      clear hn k n1 n2 s1 s2
      induction n with
      | zero => rfl
      | succ n ih => rw [List.replicate_succ, List.flatten_cons, ih, List.replicate_succ]; rfl
    rw [e2] at s2 ⊢
    refine ⟨_, rfl, _, rfl, by omega, by omega, fun D nD => ?_⟩
    have z2 := held_mono hz s2
    refine lc_range (fun i H' => Same (upd (upd H q1 (.lst [V.int 0])) q2 (.lst (nv (List.replicate n 0)))) H' ∧ ∃ vs, H' D = some (.lst vs) ∧ F2 (IL (cut (fun b => Z b ∨ b = D) H')) vs ((List.range i).map fun x => [x])) ⟨same_new nD, [], upd_same, .nil⟩ ?_ ?_
    · rintro i H' hi ⟨s, vs, hD, f⟩
      have hi : i < n := by simpa using hi
      refine ⟨rfl, yes_of ⟨_, rfl, sz (by show 1 ≤ 100000; decide), fun q nq => ⟨vs, ?_, ?_, ?_, _, upd_same, ?_⟩⟩⟩
      · rw [upd_ne (ne_of_none hD nq)]; exact hD
      · rw [f.len, List.length_map, List.length_range]; exact szl (by omega)
      · exact same_mut (s.trans (same_new nq)) nD
      · rw [List.range_succ, List.map_append, cut_upd (Or.inr rfl)]
        refine (f2_mono il_mono (cut_mono (same_new nq)) f).append (.one ⟨q, rfl, ?_⟩)
        have nz : ¬ (Z q ∨ q = D) := fun c => by
          rcases c with c | c
          · exact held_mono z2 s q c nq
          · rw [c, hD] at nq; cases nq
        rw [cut_not nz, upd_same, Int.zero_add]; rfl
    · rintro H3 ⟨s3, vs, hD, f⟩
      refine ⟨sz (by show 1 ≤ 100000; decide), fun q4 n4 x dx nx nd ne => ?_⟩
      have s4 := (s2.trans s3).trans (same_new (o := .lst [V.ref D]) n4)
      have Dz : ¬ Z D := cut_new z2 nD
      have sub : Same (cut (fun b => Z b ∨ b = D) H3) (cut Z (upd H3 q4 (.lst [V.ref D]))) := fun b o c => by
        by_cases h : Z b ∨ b = D
        · have : cut (fun b => Z b ∨ b = D) H3 b = none := if_pos h
          rw [this] at c; cases c
        · rw [cut_not (Z := fun b => Z b ∨ b = D) h] at c
          rw [cut_not (fun z => h (Or.inl z))]
          exact same_new n4 _ _ c
      have hD4 : upd H3 q4 (.lst [V.ref D]) D = some (.lst vs) := same_new n4 _ _ hD
      refine make_cut hz s4 nx nd (d := Uw61.first n) (il_new hz ((s1.free n2)) ?_) (lv_new hz ((s2.trans s3).free n4) upd_same (.one ?_)) (fun H5 s5 h5 => k H5 _ s5 h5)
      · exact same_new n4 _ _ (s3 _ _ upd_same)
      · refine ⟨D, vs, rfl, by rw [cut_not Dz]; exact hD4, ?_⟩
        have : (n : Int).toNat = n := by omega
        rw [this] at f
        exact f2_mono il_mono sub f

/-- what lies in a region and its borders -/
theorem region_at {G H : Hp} (g : Same G H) {v : V} {d : Drawing} (h : RL G v d.regions) {r : Nat} (hr : r < d.regions.length) : ∃ q vs w, v = .ref q ∧ H q = some (.lst vs) ∧ atI vs (r : Int) = some w ∧ BL G w (Uw61.regionAt d r) := by
  obtain ⟨q, vs, w, e, hq, _, ha, b⟩ := lv_item h (List.getElem?_eq_getElem hr)
  refine ⟨q, vs, w, e, g _ _ hq, ha, ?_⟩
  unfold Uw61.regionAt; rw [getD_lt hr]; exact b
theorem border_at {G H : Hp} (g : Same G H) {v : V} {bs : List (List Nat)} (h : BL G v bs) {b : Nat} (hb : b < bs.length) : ∃ q vs w, v = .ref q ∧ H q = some (.lst vs) ∧ atI vs (b : Int) = some w ∧ IL G w (bs.getD b []) := by
  obtain ⟨q, vs, w, e, hq, _, ha, r⟩ := lv_item h (List.getElem?_eq_getElem hb)
  exact ⟨q, vs, w, e, g _ _ hq, ha, by rw [getD_lt hb]; exact r⟩
theorem f2_at {α : Type} {R : V → α → Prop} {vs : List V} {xs : List α} (f : F2 R vs xs) {b : Nat} (h : b < xs.length) (z : α) : ∃ w, atI vs (b : Int) = some w ∧ R w (xs.getD b z) := by
  obtain ⟨w, hw, r⟩ := f.get (List.getElem?_eq_getElem h)
  exact ⟨w, atI_nat hw, by rw [getD_lt h]; exact r⟩
theorem border_small {d : Drawing} (F : Fit d) {r b : Nat} (hr : r < d.regions.length) (hb : b < (Uw61.regionAt d r).length) : (Uw61.borderAt d r b).length ≤ 96 := by
  have h1 := F.pl _ (regionAt_mem hr)
  have h2 : (Uw61.borderAt d r b).length ≤ (Uw61.regionAt d r).flatten.length := by
    unfold Uw61.borderAt
    rw [getD_lt hb, flatten_length_sum]
    have : ∀ (l : List (List Nat)) (b : Nat) (h : b < l.length), l[b].length ≤ (l.map List.length).sum := by
      intro l
      induction l with
      | nil => intro b h; simp at h
      | cons x l ih =>
        intro b h
        cases b with
        | zero => simp
        | succ b =>
          have := ih b (by simpa using h)
          simp; omega
    exact this _ b hb
  omega
theorem spot_in {d : Drawing} (F : Fit d) {r b i : Nat} (hr : r < d.regions.length) (hb : b < (Uw61.regionAt d r).length) (hi : i < (Uw61.borderAt d r b).length) : Uw61.spotAt d r b i < d.ends.length := by
  refine F.wi _ (regionAt_mem hr) (Uw61.borderAt d r b) ?_ _ ?_
  · unfold Uw61.borderAt; rw [getD_lt hb]; exact List.getElem_mem hb
  · unfold Uw61.spotAt; rw [getD_lt hi]; exact List.getElem_mem hi
theorem pick_take {α : Type} {p : Nat → Bool} {l : List α} {k : Nat} {x : α} (h : l[k]? = some x) : pickN p 0 (l.take (k + 1)) = pickN p 0 (l.take k) ++ (if p k = true then [x] else []) := by
  have lt := (List.getElem?_eq_some_iff.mp h).1
  rw [List.take_add_one, h, pickN_append, Option.toList_some, Nat.zero_add, List.length_take, Nat.min_eq_left (by omega), pickN_cons, pickN_nil]
theorem pick_len {α : Type} (p : Nat → Bool) : ∀ (l : List α) (n : Nat), (pickN p n l).length ≤ l.length
  | [], n => by simp [pickN_nil]
  | a :: l, n => by
    have := pick_len p l (n + 1)
    rw [pickN_cons]; split <;> simp <;> omega

def sp_joined (a : Ads) : Sp := fun vs H Q _ => ∃ Z v d r x i y j, vs = [v, .int (r : Nat), .int (x : Nat), .int (i : Nat), .int (y : Nat), .int (j : Nat)] ∧ Held Z H ∧ DV a (cut Z H) v d ∧ Fit d ∧ r < d.regions.length ∧ x < y ∧ y < (Uw61.regionAt d r).length ∧
  i < (Uw61.borderAt d r x).length ∧ j < (Uw61.borderAt d r y).length ∧ ∀ H' w, Same H H' → DV a (cut Z H') w (Uw61.drawn d (.join r x i y j)) → Q w H'
theorem ok_joined {P : Program} {w : World} {K : PySem.W.Frag} {mg : Str → Option Value} {base : Heap} {a : Ads} (T : Txt K mg a) : FnOk P w K mg base CX0 3 a.f_joined a.d_joined ["drawing", "region", "a", "i", "b", "j"] (sp_joined a) := by
  refine T.F_joined.ok sc_joined (fun vs H Q E h => ?_) (fun cdv A outer s H vs Q E hr h => ⟨_, (pss_cons (ps_set (i := 6) sc_joined.nd rfl (Or.inl rfl) (pe_ix ix_list (pe_fld (pv 0) rfl) (pv 1) (fun _ _ => rfl)))
  (pss_cons (ps_set (i := 7) sc_joined.nd rfl (Or.inl rfl) (pe_callB call_len_seq (by rfl) T.n_len PySem.boot_len (pa_cons (pe_fld (pv 0) rfl) pa_nil)))
  (pss_cons (ps_set (i := 8) sc_joined.nd rfl (Or.inl rfl) (pe_op op_cat (pe_op op_cat (pe_op op_cat (pe_call (ok_all_round T) (hr.mono (by decide)) rfl T.mg_all_round T.F_all_round.kp (b_all_round T) .nil pass0 (pa_cons (pe_ix ix_list (pv 6) (pv 2) (fun _ _ => rfl)) (pa_cons (pv 3) pa_nil))) (pe_lst (pa_cons (pv 7) pa_nil))) (pe_call (ok_all_round T) (hr.mono (by decide)) rfl T.mg_all_round T.F_all_round.kp (b_all_round T) .nil pass0 (pa_cons (pe_ix ix_list (pv 6) (pv 4) (fun _ _ => rfl)) (pa_cons (pv 5) pa_nil)))) (pe_lst (pa_cons (pv 7) pa_nil))))
  (pss_cons (ps_setLc (i := 9) (own := [("k", 11), ("border", 12)]) (g := gTup K 2 (gCons (gName 11) (gCons (gName 12) gNil))) rfl sc_joined.nd rfl rfl (sw_true rfl rfl rfl (by decide +kernel)) (pi_enum (by rfl) T.n_enumerate (pa_cons (pv 6) pa_nil)) (blkOk_by (N := ["drawing", "region", "a", "i", "b", "j", "borders", "spot", "both", "kept", "ends", "k", "border"]) (sc := defScope s_joined) (own := [("k", 11), ("border", 12)]) (by decide +kernel)) (fun _ _ _ _ _ => (pg_tup rfl (pgs_cons (pg_name (i := 11) sc_joined.nd rfl (Or.inl rfl)) (pgs_cons (pg_name (i := 12) sc_joined.nd rfl (Or.inl rfl)) pgs_nil)))) (fun _ _ _ _ _ => (pts_one (PW.pt (pw_and (pt_cmpR op_ne (pv 11) (pv 2) (nomark _)) (pw_and1 (pt_cmpR op_ne (pv 11) (pv 4) (nomark _))))))) (fun _ _ _ _ _ => (pv 12)))
  (pss_cons (ps_set (i := 10) sc_joined.nd rfl (Or.inl rfl) (pe_call (ok_ends_behind T) (hr.mono (by decide)) rfl T.mg_ends_behind T.F_ends_behind.kp (b_ends_behind T) .nil pass0 (pa_cons (pe_fld (pv 0) rfl) (pa_cons (pe_ix ix_list (pe_ix ix_list (pv 6) (pv 2) (fun _ _ => rfl)) (pv 3) (fun _ _ => rfl)) (pa_cons (pe_ix ix_list (pe_ix ix_list (pv 6) (pv 4) (fun _ _ => rfl)) (pv 5) (fun _ _ => rfl)) pa_nil)))))
  (pss_one (ps_ret (pe_make T.mkD (ok_D_init T) (hr.mono (by decide)) rfl T.mg_Drawing (b_D_init T) .nil pass0 (pa_cons (pv 10) (pa_cons (pe_call (ok_regions_with T) (hr.mono (by decide)) rfl T.mg_regions_with T.F_regions_with.kp (b_regions_with T) .nil pass0 (pa_cons (pe_fld (pv 0) rfl) (pa_cons (pv 1) (pa_cons (pe_op op_cat (pv 9) (pe_lst (pa_cons (pv 8) pa_nil))) pa_nil)))) pa_nil)))))))))), ?_⟩)
  · obtain ⟨Z, v, d, r, x, i, y, j, rfl, _⟩ := h; rfl
  · obtain ⟨Z, v, d, r, x, i, y, j, rfl, hz, ⟨p, dx, e, rr, rfl, hp, he, hrr⟩, F, hr', hxy, hy, hi, hj, k⟩ := h
    have hp := cut_same _ _ hp
    obtain ⟨qe, rfl, hqe⟩ := id he
    have hqe := cut_same _ _ hqe
    obtain ⟨q1, rs, w1, rfl, hq1, ha1, b1⟩ := region_at cut_same hrr hr'
    obtain ⟨q2, bs, rfl, hq2, fb⟩ := id b1
    have hq2 := cut_same _ _ hq2
    obtain ⟨wx, hax, bx⟩ := f2_at fb (Nat.lt_trans hxy hy) []
    obtain ⟨wy, hay, by'⟩ := f2_at fb hy []
    have bx : IL (cut Z H) wx (Uw61.borderAt d r x) := bx
    have by' : IL (cut Z H) wy (Uw61.borderAt d r y) := by'
    have sx := border_small F hr' (Nat.lt_trans hxy hy)
    have sy := border_small F hr' hy
    have b6 := F.b6 _ (regionAt_mem hr')
    have en := F.en
    have ux := spot_in F hr' (Nat.lt_trans hxy hy) hi
    have uy := spot_in F hr' hy hj
    -- borders, spot
    refine ⟨_, rfl, p, a.CD, dx, _, _, rfl, hp, T.clD, T.nRegions, dF_regions _ _, _, rfl, q1, _, _, _, rfl, rfl, SqL.of hq1, ha1, ?_⟩
    refine ⟨_, rfl, p, a.CD, dx, _, _, rfl, hp, T.clD, T.nEnds, dF_ends _ _, qe, _, rfl, .inl (SqL.of hqe), ?_⟩
    -- both
    refine ⟨_, rfl, _, rfl, q2, _, _, _, rfl, rfl, SqL.of hq2, hax, _, rfl, wx, Uw61.borderAt d r x, i, rfl, il_mono.go cut_same bx, by omega, fun H1 p1 s1 n1 h1 => ?_⟩
    refine ⟨_, rfl, sz (by show 1 ≤ 100000; decide), fun p2 n2 => ?_⟩
    have a1 := around_len (Uw61.borderAt d r x) i
    have a2 := around_len (Uw61.borderAt d r y) j
    have s2 := s1.trans (same_new (o := .lst [V.int ((nv d.ends).length : Int)]) n2)
    refine ⟨p1, p2, _, _, rfl, rfl, same_new n2 _ _ h1, upd_same, sz (by simp only [List.length_append, nv_length, List.length_cons, List.length_nil]; omega), fun p3 n3 => ?_⟩
    have s3 := s2.trans (same_new (o := .lst (nv (Uw61.around (Uw61.borderAt d r x) i) ++ [V.int ((nv d.ends).length : Int)])) n3)
    refine ⟨_, rfl, _, rfl, q2, _, _, _, rfl, rfl, SqL.of (s3 _ _ hq2), hay, _, rfl, wy, Uw61.borderAt d r y, j, rfl, il_mono.go (cut_same.trans s3) by', by omega, fun H4 p4 s4 n4 h4 => ?_⟩
    have s5 := s3.trans s4
    refine ⟨p3, p4, _, _, rfl, rfl, s4 _ _ upd_same, h4, sz (by simp only [List.length_append, nv_length, List.length_cons, List.length_nil]; omega), fun p5 n5 => ?_⟩
    refine ⟨_, rfl, sz (by show 1 ≤ 100000; decide), fun p6 n6 => ?_⟩
    refine ⟨p5, p6, _, _, rfl, rfl, same_new n6 _ _ upd_same, upd_same, sz (by simp only [List.length_append, nv_length, List.length_cons, List.length_nil]; omega), fun p7 n7 => ?_⟩
    have s6 := (s5.trans (same_new n5)).trans (same_new (o := .lst [V.int ((nv d.ends).length : Int)]) n6)
    have f7 := s6.free n7
    have s7 := s6.trans (same_new (o := .lst (((nv (Uw61.around (Uw61.borderAt d r x) i) ++ [V.int ((nv d.ends).length : Int)]) ++ nv (Uw61.around (Uw61.borderAt d r y) j)) ++ [V.int ((nv d.ends).length : Int)])) n7)
    generalize hH7 : upd _ p7 (.lst (((nv (Uw61.around (Uw61.borderAt d r x) i) ++ [V.int ((nv d.ends).length : Int)]) ++ nv (Uw61.around (Uw61.borderAt d r y) j)) ++ [V.int ((nv d.ends).length : Int)])) = H7 at s7 ⊢
    have h7 : H7 p7 = some (.lst (nv (Uw61.around (Uw61.borderAt d r x) i ++ (d.ends.length :: (Uw61.around (Uw61.borderAt d r y) j ++ [d.ends.length]))))) := by
      rw [← hH7, upd_same, nv_length]
      congr 2
      unfold nv
      simp only [List.map_append, List.map_cons, List.map_nil, List.append_assoc, List.cons_append, List.nil_append]
    clear hH7
    -- kept
    refine ⟨_, rfl, q2, _, rfl, SqL.of (s7 _ _ hq2), fun D nD => ?_⟩
    refine lc_enum (K := K) (a := q2) (xs := bs) (fun m H' => Same H7 H' ∧ ∃ acc, H' D = some (.lst acc) ∧ F2 (IL (cut Z H)) acc (pickN (fun k => ![x, y].contains k) 0 ((Uw61.regionAt d r).take m))) ⟨same_new nD, [], upd_same, .nil⟩ (fun m H' _ z => SqL.of (z.1 _ _ (s7 _ _ hq2))) ?_ ?_
    · rintro m u t H' hm ⟨s, acc, hD, f⟩ nt
      obtain ⟨l, hl, il⟩ := fb.getL hm
      have mlt := (List.getElem?_eq_some_iff.mp hl).1
      have s8 := same_new (o := .tup [V.int (m : Int), u]) nt
      refine ⟨t, _, rfl, SqT.of upd_same, rfl, _, _, rfl, _, _, rfl, rfl, rfl, ?_⟩
      have facc : acc.length < sizeLine := by
        rw [f.len]
        have := pick_len (fun k => ![x, y].contains k) ((Uw61.regionAt d r).take m) 0
        rw [List.length_take] at this
        exact szl (by omega)
      refine ⟨_, rfl, _, rfl, rfl, _, rfl, ?_⟩
      rw [pick_take hl]
      refine iteB (fun c => ?_) (fun c => ?_)
      · have c : ¬ m = x := fun e => by rw [e] at c; simp at c
        refine ⟨_, rfl, _, rfl, rfl, _, rfl, ?_⟩
        refine iteB (fun c2 => ?_) (fun c2 => ?_)
        · have c2 : ¬ m = y := fun e => by rw [e] at c2; simp at c2
          refine ⟨_, rfl, acc, s8 _ _ hD, facc, same_mut (s.trans s8) nD, _, upd_same, ?_⟩
          rw [if_pos (by simp [c, c2])]
          exact f.append (.one il)
        · have c2 : m = y := by
            have := of_decide_eq_true (by simpa using c2 : decide (V.int (m : Int) = V.int (y : Int)) = true)
            injection this with this; omega
          refine ⟨s.trans s8, acc, s8 _ _ hD, ?_⟩
          rw [if_neg (by simp [c2]), List.append_nil]; exact f
      · have c : m = x := by
          have := of_decide_eq_true (by simpa using c : decide (V.int (m : Int) = V.int (x : Int)) = true)
          injection this with this; omega
        refine iteF ⟨s.trans s8, acc, s8 _ _ hD, ?_⟩
        rw [if_neg (by simp [c]), List.append_nil]; exact f
    · rintro H8 ⟨s, acc, hD, f⟩
      rw [fb.len, List.take_length] at f
      have s8 := s7.trans s
      -- ends
      refine ⟨_, rfl, p, a.CD, dx, _, _, rfl, s8 _ _ hp, T.clD, T.nEnds, dF_ends _ _, ?_⟩
      obtain ⟨wxp, ewx, hwx⟩ := il_mono.go (cut_same.trans s8) bx
      obtain ⟨wyp, ewy, hwy⟩ := il_mono.go (cut_same.trans s8) by'
      refine ⟨_, rfl, _, rfl, q2, _, _, _, rfl, rfl, SqL.of (s8 _ _ hq2), hax, _, rfl, wxp, _, _, _, ewx, rfl, SqL.of hwx, nv_at hi, ?_⟩
      refine ⟨_, rfl, _, rfl, q2, _, _, _, rfl, rfl, SqL.of (s8 _ _ hq2), hay, _, rfl, wyp, _, _, _, ewy, rfl, SqL.of hwy, nv_at hj, ?_⟩
      refine ⟨.ref qe, d.ends, Uw61.spotAt d r x i, Uw61.spotAt d r y j, rfl, ⟨qe, rfl, s8 _ _ hqe⟩, by omega, ux, uy, fun H9 p9 s9 n9 h9 => ?_⟩
      have s9' := s8.trans s9
      -- the drawing
      refine ⟨_, rfl, _, rfl, p, a.CD, dx, _, _, rfl, s9' _ _ hp, T.clD, T.nRegions, dF_regions _ _, _, rfl, _, rfl, ?_⟩
      refine ⟨_, rfl, sz (by show 1 ≤ 100000; decide), fun p10 n10 => ?_⟩
      have s10 := s9'.trans (same_new (o := .lst [V.ref p7]) n10)
      refine ⟨D, p10, _, _, rfl, rfl, same_new n10 _ _ (s9 _ _ hD), upd_same, ?_, fun p11 n11 => ?_⟩
      · rw [f.len]
        have := pick_len (fun k => ![x, y].contains k) (Uw61.regionAt d r) 0
        exact sz (by show _ + 1 ≤ _; omega)
      have s11 := s10.trans (same_new (o := .lst (acc ++ [V.ref p7])) n11)
      generalize hH11 : upd _ p11 (.lst (acc ++ [V.ref p7])) = H11 at s11 ⊢
      have h11 : H11 p11 = some (.lst (acc ++ [V.ref p7])) := by rw [← hH11, upd_same]
      have h7' : H11 p7 = some (.lst (nv (Uw61.around (Uw61.borderAt d r x) i ++ (d.ends.length :: (Uw61.around (Uw61.borderAt d r y) j ++ [d.ends.length]))))) := by
        rw [← hH11]; exact same_new n11 _ _ (same_new n10 _ _ (s9 _ _ (s _ _ h7)))
      have h9' : H11 p9 = some (.lst (nv (Uw61.more (Uw61.more d.ends (Uw61.spotAt d r x i)) (Uw61.spotAt d r y j) ++ [2]))) := by
        rw [← hH11]; exact same_new n11 _ _ (same_new n10 _ _ h9)
      have hz11 := held_mono hz s11
      refine ⟨cut Z H11, .ref q1, d.regions, r, .ref p11, Uw61.others (Uw61.regionAt d r) [x, y] ++ [Uw61.around (Uw61.borderAt d r x) i ++ (d.ends.length :: (Uw61.around (Uw61.borderAt d r y) j ++ [d.ends.length]))], rfl, cut_same, rl_mono.go (cut_mono s11) hrr, ?_, hr', fun H12 p12 ws s12 n12 h12 => ?_⟩
      · exact lv_new hz (s10.free n11) h11 ((f2_mono il_mono (cut_mono s11) f).append (.one (il_new hz f7 h7')))
      · intro f12 x' dx' nx' nd' _
        have s12' := s11.trans s12
        refine make_cut hz s12' nx' nd' (d := Uw61.drawn d (.join r x i y j)) ?_ ?_ (fun H13 s13 h13 => k H13 _ s13 h13)
        · exact il_new hz (s8.free n9) (s12 _ _ h9')
        · show RL _ _ (d.regions.set r _ ++ [])
          rw [List.append_nil]
          exact lv_new hz (s11.free n12) h12 (f2_mono bl_mono (cut_mono s12) f12)
end Sg

/-! ### text W4 -/
namespace Sg
open PySem PySem.Spec PyProof.Rows L2
open Uw61 (Drawing Line)

/-- a comprehension over a list or a tuple of numbers -/
theorem lc_seq {K : PySem.W.Frag} {tl : TE} {σ : L2.St} {H : Hp} {pc : Addr} {ns : List Nat} {g : TG} {tt : TT} {te : TE} {vs : List Nat} {Q : VK} (hc : H pc = some (.lst (nv ns)) ∨ H pc = some (.tup (nv ns))) (htl : ∀ R : VK, R (.ref pc) H → tl σ H R)
    (Pv : Addr → Nat → Hp → Prop) (h0 : ∀ D, H D = none → Pv D 0 (upd H D (.lst []))) (hl : ∀ D i H', H D = none → Pv D i H' → Same H H')
    (hs : ∀ D i n H', H D = none → ns[i]? = some n → Pv D i H' → g (.int (n : Nat)) (wipe σ vs) H' fun σ2 H2 => wipe σ2 vs = wipe σ vs ∧ tt σ2 H2 fun b H3 =>
      if b = true then te σ2 H3 fun y H4 => ∃ acc, H4 D = some (.lst acc) ∧ acc.length < sizeLine ∧ Pv D (i + 1) (upd H4 D (.lst (acc ++ [y]))) else Pv D (i + 1) H3)
    (hd : ∀ D H', H D = none → Pv D ns.length H' → Q (.ref D) H') : tLc (iSeq K tl) g tt te vs σ H Q := by
  rcases hc with hc | hc
  · refine Or.inl (htl _ ⟨pc, rfl, ⟨_, SqL.of hc⟩, fun D nD => lc_list (K := K) (a := pc) (xs := nv ns) (Pv D) (h0 D nD) (fun i H' _ z => SqL.of (hl D i H' nD z _ _ hc)) ?_ (fun H' z => hd D H' nD (by rw [nv_length] at z; exact z))⟩)
    intro i x H' hi z
    obtain ⟨n, hn, rfl⟩ := nv_getL hi
    exact hs D i n H' nD hn z
  · refine Or.inr (htl _ ⟨pc, rfl, ⟨_, SqT.of hc⟩, fun D nD => lc_tup (K := K) (a := pc) (xs := nv ns) (Pv D) (h0 D nD) (fun i H' _ z => SqT.of (hl D i H' nD z _ _ hc)) ?_ (fun H' z => hd D H' nD (by rw [nv_length] at z; exact z))⟩)
    intro i x H' hi z
    obtain ⟨n, hn, rfl⟩ := nv_getL hi
    exact hs D i n H' nD hn z
/-- rising numbers pick in order -/
theorem pick_rising {l : List (List Nat)} : ∀ {ks : List Nat} {n : Nat}, ks.Pairwise (· < ·) → (∀ k ∈ ks, n ≤ k ∧ k < n + l.length) → ks.map (fun k => l.getD (k - n) []) = pickN (fun k => ks.contains k) n l := by
  induction l with
  | nil =>
    intro ks n _ h
    cases ks with
    | nil => rfl
    | cons k ks => have := h k (by simp); simp at this; omega
  | cons b l ih =>
    intro ks n hp h
    rw [pickN_cons]
    cases ks with
    | nil =>
      rw [if_neg (by simp)]
      have := ih (ks := []) (n := n + 1) .nil (by simp)
      simpa using this
    | cons k ks =>
      have hp' := List.pairwise_cons.mp hp
      by_cases c : k = n
      · subst c
        have h2 : ∀ q ∈ ks, k + 1 ≤ q ∧ q < k + 1 + l.length := fun q hq => by
          have h1 := hp'.1 q hq
          have h3 := h q (by simp [hq])
          simp at h3; omega
        have e := ih (ks := ks) (n := k + 1) hp'.2 h2
        rw [if_pos (by simp), List.map_cons]
        have e1 : (b :: l).getD (k - k) [] = b := by simp
        rw [e1]
        congr 1
        have e2 : ks.map (fun q => (b :: l).getD (q - k) []) = ks.map (fun q => l.getD (q - (k + 1)) []) := by
          apply List.map_congr_left
          intro q hq
          have := (h2 q hq).1
          have e3 : q - k = (q - (k + 1)) + 1 := by omega
          rw [e3, List.getD_cons_succ]
        rw [e2, e]
        refine pickN_congr _ _ fun q h1 _ => ?_
        have : ¬ q = k := by omega
        simp [this]
      · have h2 : ∀ q ∈ k :: ks, n + 1 ≤ q ∧ q < n + 1 + l.length := fun q hq => by
          have h3 := h q hq
          have hk := h k (by simp)
          simp at h3 hk
          rcases List.mem_cons.mp hq with z | z
          · omega
          · have := hp'.1 q z; omega
        rw [if_neg (by
          intro q
          rw [List.contains_iff_mem] at q
          have := h2 n q; omega)]
        rw [← ih (ks := k :: ks) (n := n + 1) hp h2]
        apply List.map_congr_left
        intro q hq
        have := (h2 q hq).1
        have e3 : q - n = (q - (n + 1)) + 1 := by omega
        rw [e3, List.getD_cons_succ]
theorem chosen_map {l : List (List Nat)} {ks : List Nat} (hp : ks.Pairwise (· < ·)) (h : ∀ k ∈ ks, k < l.length) : ks.map (fun k => l.getD k []) = Uw61.chosen l ks := by
  rw [chosen_eq]
  have := pick_rising (l := l) (n := 0) hp fun k hk => ⟨Nat.zero_le _, by simpa using h k hk⟩
  simpa using this
theorem rising_len {ks : List Nat} {m : Nat} (hp : ks.Pairwise (· < ·)) (h : ∀ k ∈ ks, k < m) : ks.length ≤ m := by
  have nd : ks.Nodup := hp.imp fun h => by omega
  have := nodup_len ks (List.range m) nd fun k hk => by simpa using h k hk
  simpa using this

def sp_parted (a : Ads) : Sp := fun vs H Q _ => ∃ Z v d r x i j ks pc, vs = [v, .int (r : Nat), .int (x : Nat), .int (i : Nat), .int (j : Nat), .ref pc] ∧ Held Z H ∧ DV a (cut Z H) v d ∧ Fit d ∧ r < d.regions.length ∧ x < (Uw61.regionAt d r).length ∧ i ≤ j ∧ j < (Uw61.borderAt d r x).length ∧
  (H pc = some (.lst (nv ks)) ∨ H pc = some (.tup (nv ks))) ∧ ks.Pairwise (· < ·) ∧ (∀ k ∈ ks, k < (Uw61.regionAt d r).length) ∧ ∀ H' w, Same H H' → DV a (cut Z H') w (Uw61.drawn d (.part r x i j ks)) → Q w H'
theorem ok_parted {P : Program} {w : World} {K : PySem.W.Frag} {mg : Str → Option Value} {base : Heap} {a : Ads} (T : Txt K mg a) : FnOk P w K mg base CX0 3 a.f_parted a.d_parted ["drawing", "region", "a", "i", "j", "chosen"] (sp_parted a) := by
  refine T.F_parted.ok sc_parted (fun vs H Q E h => ?_) (fun cdv A outer s H vs Q E hr h => ⟨_, (pss_cons (ps_set (i := 6) sc_parted.nd rfl (Or.inr rfl) (pe_ix ix_list (pe_fld (pv 0) rfl) (pv 1) (fun _ _ => rfl)))
  (pss_cons (ps_set (i := 7) sc_parted.nd rfl (Or.inl rfl) (pe_callB call_len_seq (by rfl) T.n_len PySem.boot_len (pa_cons (pe_fld (pv 0) rfl) pa_nil)))
  (pss_cons (ps_setLc (i := 8) (own := [("k", 11)]) rfl sc_parted.nd rfl rfl (sw_true rfl rfl rfl (by decide +kernel)) (pi_seq (pv 5)) (blkOk_by (N := ["drawing", "region", "a", "i", "j", "chosen", "borders", "spot", "kept", "others", "regions", "k", "border"]) (sc := defScope s_parted) (own := [("k", 11)]) (by decide +kernel)) (fun _ _ _ _ _ => (pg_name (i := 11) sc_parted.nd rfl (Or.inl rfl))) (fun _ _ _ _ _ => pts_nil) (fun _ _ _ _ _ => (pe_ix (r := rIxL K) ix_list (pv 6) (pv 11) (fun _ _ => rfl))))
  (pss_cons (ps_setLc (i := 9) (own := [("k", 11), ("border", 12)]) (g := gTup K 2 (gCons (gName 11) (gCons (gName 12) gNil))) rfl sc_parted.nd rfl rfl (sw_true rfl rfl rfl (by decide +kernel)) (pi_enum (by rfl) T.n_enumerate (pa_cons (pv 6) pa_nil)) (blkOk_by (N := ["drawing", "region", "a", "i", "j", "chosen", "borders", "spot", "kept", "others", "regions", "k", "border"]) (sc := defScope s_parted) (own := [("k", 11), ("border", 12)]) (by decide +kernel)) (fun _ _ _ _ _ => (pg_tup rfl (pgs_cons (pg_name (i := 11) sc_parted.nd rfl (Or.inl rfl)) (pgs_cons (pg_name (i := 12) sc_parted.nd rfl (Or.inl rfl)) pgs_nil)))) (fun _ _ _ _ _ => (pts_one (PW.pt (pw_and (pt_cmpR op_ne (pv 11) (pv 2) (nomark _)) (pw_and1 (pt_cmpR (r := rIn K true) op_notIn_seq (pv 11) (pv 5) (by rfl))))))) (fun _ _ _ _ _ => (pv 12)))
  (pss_cons (ps_set (i := 10) sc_parted.nd rfl (Or.inl rfl) (pe_call (ok_regions_with T) (hr.mono (by decide)) rfl T.mg_regions_with T.F_regions_with.kp (b_regions_with T) .nil pass0 (pa_cons (pe_fld (pv 0) rfl) (pa_cons (pv 1) (pa_cons (pe_op op_cat (pv 8) (pe_lst (pa_cons (pe_call (ok_near_border T) (hr.mono (by decide)) rfl T.mg_near_border T.F_near_border.kp (b_near_border T) .nil pass0 (pa_cons (pe_ix ix_list (pv 6) (pv 2) (fun _ _ => rfl)) (pa_cons (pv 3) (pa_cons (pv 4) (pa_cons (pv 7) pa_nil))))) pa_nil))) pa_nil)))))
  (pss_cons (ps_expr (pe_bm PySem.F.plainAttrs_list PySem.F.slot_list_append PySem.F.type_list_append mt_append (pv 10) (pa_cons (pe_op op_cat (pv 9) (pe_lst (pa_cons (pe_call (ok_far_border T) (hr.mono (by decide)) rfl T.mg_far_border T.F_far_border.kp (b_far_border T) .nil pass0 (pa_cons (pe_ix ix_list (pv 6) (pv 2) (fun _ _ => rfl)) (pa_cons (pv 3) (pa_cons (pv 4) (pa_cons (pv 7) pa_nil))))) pa_nil))) pa_nil)))
  (pss_one (ps_ret (pe_make T.mkD (ok_D_init T) (hr.mono (by decide)) rfl T.mg_Drawing (b_D_init T) .nil pass0 (pa_cons (pe_call (ok_ends_behind T) (hr.mono (by decide)) rfl T.mg_ends_behind T.F_ends_behind.kp (b_ends_behind T) .nil pass0 (pa_cons (pe_fld (pv 0) rfl) (pa_cons (pe_ix ix_list (pe_ix ix_list (pv 6) (pv 2) (fun _ _ => rfl)) (pv 3) (fun _ _ => rfl)) (pa_cons (pe_ix ix_list (pe_ix ix_list (pv 6) (pv 2) (fun _ _ => rfl)) (pv 4) (fun _ _ => rfl)) pa_nil)))) (pa_cons (pv 10) pa_nil))))))))))), ?_⟩)
  · obtain ⟨Z, v, d, r, x, i, j, ks, pc, rfl, _⟩ := h; rfl
  · obtain ⟨Z, v, d, r, x, i, j, ks, pc, rfl, hz, ⟨p, dx, e, rr, rfl, hp, he, hrr⟩, F, hr', hx, hij, hj, hc, hks, hkl, k⟩ := h
    have hp := cut_same _ _ hp
    obtain ⟨qe, rfl, hqe⟩ := id he
    have hqe := cut_same _ _ hqe
    obtain ⟨q1, rs, w1, rfl, hq1, ha1, b1⟩ := region_at cut_same hrr hr'
    obtain ⟨q2, bs, rfl, hq2, fb⟩ := id b1
    have hq2 := cut_same _ _ hq2
    obtain ⟨wx, hax, bx⟩ := f2_at fb hx []
    have bx : IL (cut Z H) wx (Uw61.borderAt d r x) := bx
    have hi : i < (Uw61.borderAt d r x).length := by omega
    have sx := border_small F hr' hx
    have b6 := F.b6 _ (regionAt_mem hr')
    have en := F.en
    have ux := spot_in F hr' hx hi
    have uy := spot_in F hr' hx hj
    have kl := rising_len hks hkl
    -- borders, spot
    refine ⟨_, rfl, p, a.CD, dx, _, _, rfl, hp, T.clD, T.nRegions, dF_regions _ _, _, rfl, q1, _, _, _, rfl, rfl, SqL.of hq1, ha1, ?_⟩
    refine ⟨_, rfl, p, a.CD, dx, _, _, rfl, hp, T.clD, T.nEnds, dF_ends _ _, qe, _, rfl, .inl (SqL.of hqe), ?_⟩
    -- kept
    unfold gName
    dsimp only
    unfold tSeq
    dsimp only
    unfold tAsg
    dsimp only
    refine lc_seq (K := K) (tl := tVar 5) (pc := pc) (ns := ks) hc (fun R h => ⟨_, rfl, h⟩) (fun D m H' => Same H H' ∧ ∃ acc, H' D = some (.lst acc) ∧ F2 (IL (cut Z H)) acc ((ks.take m).map fun k => (Uw61.regionAt d r).getD k [])) (fun D nD => ⟨same_new nD, [], upd_same, .nil⟩) (fun D m H' _ z => z.1) ?_ ?_
    · rintro D m n H' nD hm ⟨s, acc, hD, f⟩
      obtain ⟨wn, han, bn⟩ := f2_at fb (hkl n (List.mem_of_getElem? hm)) []
      refine ⟨rfl, yes_of ⟨_, rfl, _, rfl, q2, _, _, _, rfl, rfl, SqL.of (s _ _ hq2), han, acc, hD, ?_, same_mut s nD, _, upd_same, ?_⟩⟩
      · rw [f.len, List.length_map, List.length_take]; exact szl (by omega)
      · rw [List.take_add_one, hm]
        simp only [Option.toList_some, List.map_append]
        exact f.append (.one bn)
    rintro Dk Hk nDk ⟨sk, acck, hDk, fk⟩
    rw [List.take_length, chosen_map hks hkl] at fk
    -- others
    refine ⟨_, rfl, q2, _, rfl, SqL.of (sk _ _ hq2), fun D nD => ?_⟩
    have hck := hc.imp (sk _ _) (sk _ _)
    refine lc_enum (K := K) (a := q2) (xs := bs) (fun m H' => Same Hk H' ∧ ∃ acc, H' D = some (.lst acc) ∧ F2 (IL (cut Z H)) acc (pickN (fun k => !(x :: ks).contains k) 0 ((Uw61.regionAt d r).take m))) ⟨same_new nD, [], upd_same, .nil⟩ (fun m H' _ z => SqL.of (z.1 _ _ (sk _ _ hq2))) ?_ ?_
    · rintro m u t H' hm ⟨s, acc, hD, f⟩ nt
      obtain ⟨l, hl, il⟩ := fb.getL hm
      have mlt := (List.getElem?_eq_some_iff.mp hl).1
      have s8 := same_new (o := .tup [V.int (m : Int), u]) nt
      refine ⟨t, _, rfl, SqT.of upd_same, rfl, _, _, rfl, _, _, rfl, rfl, rfl, ?_⟩
      have facc : acc.length < sizeLine := by
        rw [f.len]
        have := pick_len (fun k => !(x :: ks).contains k) ((Uw61.regionAt d r).take m) 0
        rw [List.length_take] at this
        exact szl (by omega)
      refine ⟨_, rfl, _, rfl, rfl, _, rfl, ?_⟩
      rw [pick_take hl]
      refine iteB (fun c => ?_) (fun c => ?_)
      · have c : ¬ m = x := fun e => by rw [e] at c; simp at c
        refine ⟨_, rfl, _, rfl, pc, _, rfl, hck.imp (fun z => SqL.of (s8 _ _ (s _ _ z))) (fun z => SqT.of (s8 _ _ (s _ _ z))), rfl, nv_flat ks, _, rfl, ?_⟩
        refine iteB (fun c2 => ?_) (fun c2 => ?_)
        · have c2 : (!ks.contains m) = true := by rw [← nv_in]; exact c2
          refine ⟨_, rfl, acc, s8 _ _ hD, facc, same_mut (s.trans s8) nD, _, upd_same, ?_⟩
          rw [if_pos (by rw [List.contains_cons]; simp at c2; simp [c, c2])]
          exact f.append (.one il)
        · have c2 : (!ks.contains m) = false := by rw [← nv_in]; exact c2
          refine ⟨s.trans s8, acc, s8 _ _ hD, ?_⟩
          rw [if_neg (by rw [List.contains_cons]; simp at c2; simp [c2]), List.append_nil]; exact f
      · have c : m = x := by
          have := of_decide_eq_true (by simpa using c : decide (V.int (m : Int) = V.int (x : Int)) = true)
          injection this with this; omega
        refine iteF ⟨s.trans s8, acc, s8 _ _ hD, ?_⟩
        rw [if_neg (by simp [c]), List.append_nil]; exact f
    · rintro H8 ⟨s, acc, hD, f⟩
      rw [fb.len, List.take_length] at f
      have s8 := sk.trans s
      have facc : acc.length ≤ 6 := by
        rw [f.len]
        have := pick_len (fun k => !(x :: ks).contains k) (Uw61.regionAt d r) 0
        omega
      have fack : acck.length ≤ 6 := by
        rw [fk.len, chosen_eq]
        have := pick_len (fun k => ks.contains k) (Uw61.regionAt d r) 0
        omega
      -- regions_with(drawing.regions, region, kept + [near_border(..)])
      refine ⟨_, rfl, p, a.CD, dx, _, _, rfl, s8 _ _ hp, T.clD, T.nRegions, dF_regions _ _, _, rfl, _, rfl, ?_⟩
      refine ⟨_, rfl, _, rfl, q2, _, _, _, rfl, rfl, SqL.of (s8 _ _ hq2), hax, _, rfl, _, rfl, _, rfl, ?_⟩
      rw [nv_length]
      refine ⟨wx, Uw61.borderAt d r x, i, j, d.ends.length, rfl, il_mono.go (cut_same.trans s8) bx, by omega, hi, fun H9 p9 s9 n9 h9 => ?_⟩
      have s9' := s8.trans s9
      refine ⟨sz (by show 1 ≤ 100000; decide), fun p10 n10 => ?_⟩
      have s10 := s9'.trans (same_new (o := .lst [V.ref p9]) n10)
      refine ⟨Dk, p10, _, _, rfl, rfl, same_new n10 _ _ (s9 _ _ (s _ _ hDk)), upd_same, sz (by show _ + 1 ≤ _; omega), fun p11 n11 => ?_⟩
      have s11 := s10.trans (same_new (o := .lst (acck ++ [V.ref p9])) n11)
      have h9' := same_new (o := .lst (acck ++ [V.ref p9])) n11 _ _ (same_new (o := .lst [V.ref p9]) n10 _ _ h9)
      have hD' := same_new (o := .lst (acck ++ [V.ref p9])) n11 _ _ (same_new (o := .lst [V.ref p9]) n10 _ _ (s9 _ _ hD))
      have h11 : upd (upd H9 p10 (.lst [V.ref p9])) p11 (.lst (acck ++ [V.ref p9])) p11 = some (.lst (acck ++ [V.ref p9])) := upd_same
      generalize hH11 : upd (upd H9 p10 (.lst [V.ref p9])) p11 (.lst (acck ++ [V.ref p9])) = H11 at s11 h9' hD' h11 ⊢
      have nb : IL (cut Z H11) (.ref p9) ((if i = j then [(Uw61.borderAt d r x).getD i 0] else ((Uw61.borderAt d r x).drop i).take (j + 1 - i)) ++ [d.ends.length]) := il_new hz (s8.free n9) h9'
      refine ⟨cut Z H11, .ref q1, d.regions, r, .ref p11, Uw61.chosen (Uw61.regionAt d r) ks ++ [(if i = j then [(Uw61.borderAt d r x).getD i 0] else ((Uw61.borderAt d r x).drop i).take (j + 1 - i)) ++ [d.ends.length]], rfl, cut_same, rl_mono.go (cut_mono s11) hrr, ?_, hr', fun H12 p12 ws s12 n12 h12 f12 => ?_⟩
      · exact lv_new hz (s10.free n11) h11 ((f2_mono il_mono (cut_mono s11) fk).append (.one nb))
      have s12' := s11.trans s12
      -- regions.append(others + [far_border(..)])
      refine ⟨_, rfl, .inl ⟨rfl, _, SqL.of h12⟩, _, rfl, ?_⟩
      refine ⟨_, rfl, _, rfl, q2, _, _, _, rfl, rfl, SqL.of (s12' _ _ hq2), hax, _, rfl, _, rfl, _, rfl, ?_⟩
      refine ⟨wx, Uw61.borderAt d r x, i, j, d.ends.length, rfl, il_mono.go (cut_same.trans s12') bx, by omega, fun H13 p13 s13 n13 h13 => ?_⟩
      have s13' := s12'.trans s13
      refine ⟨sz (by show 1 ≤ 100000; decide), fun p14 n14 => ?_⟩
      have s14 := s13'.trans (same_new (o := .lst [V.ref p13]) n14)
      refine ⟨D, p14, _, _, rfl, rfl, same_new n14 _ _ (s13 _ _ (s12 _ _ hD')), upd_same, sz (by show _ + 1 ≤ _; omega), fun p15 n15 => ?_⟩
      have s15 := s14.trans (same_new (o := .lst (acc ++ [V.ref p13])) n15)
      have h13' := same_new (o := .lst (acc ++ [V.ref p13])) n15 _ _ (same_new (o := .lst [V.ref p13]) n14 _ _ h13)
      have h12' := same_new (o := .lst (acc ++ [V.ref p13])) n15 _ _ (same_new (o := .lst [V.ref p13]) n14 _ _ (s13 _ _ h12))
      have S15 := (s13.trans (same_new (o := .lst [V.ref p13]) n14)).trans (same_new (o := .lst (acc ++ [V.ref p13])) n15)
      have h15 : upd (upd H13 p14 (.lst [V.ref p13])) p15 (.lst (acc ++ [V.ref p13])) p15 = some (.lst (acc ++ [V.ref p13])) := upd_same
      generalize hH15 : upd (upd H13 p14 (.lst [V.ref p13])) p15 (.lst (acc ++ [V.ref p13])) = H15 at s15 h13' h12' h15 S15 ⊢
      refine ⟨p12, ws, _, rfl, rfl, h12', ?_, ?_⟩
      · rw [f12.len, List.length_set]
        have := F.rg
        exact szl (by omega)
      have fr12 : H p12 = none := s11.free n12
      have s16 : Same H (upd H15 p12 (.lst (ws ++ [V.ref p15]))) := same_mut s15 fr12
      have ne13 : p13 ≠ p12 := fun q => by rw [q, h12] at n13; cases n13
      have ne15 : p15 ≠ p12 := fun q => by
        rw [q] at n15
        have := same_new (o := .lst [V.ref p13]) n14 _ _ (s13 _ _ h12)
        rw [this] at n15; cases n15
      have ne9 : p9 ≠ p12 := fun q => by rw [← q, h9'] at n12; cases n12
      have ne11 : p11 ≠ p12 := fun q => by rw [← q, h11] at n12; cases n12
      have s16' : Same (cut Z H11) (cut Z (upd H15 p12 (.lst (ws ++ [V.ref p15])))) := fun b o q => by
        by_cases c : Z b
        · have : cut Z H11 b = none := if_pos c
          rw [this] at q; cases q
        · rw [cut_not c] at q ⊢
          rw [upd_ne (ne_of_none q n12)]
          exact S15 _ _ (s12 _ _ q)
      generalize hH16 : upd H15 p12 (.lst (ws ++ [V.ref p15])) = H16 at s16 s16' ⊢
      have h16 : H16 p12 = some (.lst (ws ++ [V.ref p15])) := by rw [← hH16, upd_same]
      have h16c : H16 p13 = some (.lst (nv ((if i = j then Uw61.around (Uw61.borderAt d r x) i else (Uw61.borderAt d r x).drop j ++ (Uw61.borderAt d r x).take (i + 1)) ++ [d.ends.length]))) := by rw [← hH16, upd_ne ne13]; exact h13'
      have h16d : H16 p15 = some (.lst (acc ++ [V.ref p13])) := by rw [← hH16, upd_ne ne15]; exact h15
      -- the drawing
      obtain ⟨wxp, ewx, hwx⟩ := il_mono.go (cut_same.trans s16) bx
      refine ⟨_, rfl, p, a.CD, dx, _, _, rfl, s16 _ _ hp, T.clD, T.nEnds, dF_ends _ _, ?_⟩
      refine ⟨_, rfl, _, rfl, q2, _, _, _, rfl, rfl, SqL.of (s16 _ _ hq2), hax, _, rfl, wxp, _, _, _, ewx, rfl, SqL.of hwx, nv_at hi, ?_⟩
      refine ⟨_, rfl, _, rfl, q2, _, _, _, rfl, rfl, SqL.of (s16 _ _ hq2), hax, _, rfl, wxp, _, _, _, ewx, rfl, SqL.of hwx, nv_at hj, ?_⟩
      refine ⟨.ref qe, d.ends, Uw61.spotAt d r x i, Uw61.spotAt d r x j, rfl, ⟨qe, rfl, s16 _ _ hqe⟩, by omega, ux, uy, fun H17 p17 s17 n17 h17 => ?_⟩
      refine ⟨_, rfl, fun x' dx' nx' nd' _ => ?_⟩
      refine make_cut hz (s16.trans s17) nx' nd' (d := Uw61.drawn d (.part r x i j ks)) (il_new hz (s16.free n17) h17) ?_ (fun H18 s18 h18 => k H18 _ s18 h18)
      refine lv_new hz fr12 (s17 _ _ h16) ?_
      refine (f2_mono bl_mono (s16'.trans (cut_mono s17)) f12).append (.one ?_)
      refine lv_new hz (s14.free n15) (s17 _ _ h16d) ((f2_mono il_mono (cut_mono (s16.trans s17)) f).append (.one (il_new hz (s12'.free n13) (s17 _ _ h16c))))
end Sg

/-! ### text W5 -/
namespace Sg
open PySem PySem.Spec PyProof.Rows L2
open Uw61 (Drawing Line)

/-! ### what hangs on tuples alone -/
def TS (H H' : Hp) : Prop := ∀ b xs, H b = some (.tup xs) → H' b = some (.tup xs)
theorem ts_same {H H' : Hp} (s : Same H H') : TS H H' := fun b xs h => s _ _ h
theorem ts_upd {H : Hp} {L : Addr} {xs : List V} {o : HO} (h : H L = some (.lst xs)) : TS H (upd H L o) := fun b ys q => by
  rw [upd_ne (ne_of q h (fun z => nomatch z))]; exact q
theorem TS.trans {H H1 H2 : Hp} (a : TS H H1) (b : TS H1 H2) : TS H H2 := fun c xs h => b _ _ (a _ _ h)
structure TMon {α : Type} (R : HR α) : Prop where
  go : ∀ {H H' : Hp} {v : V} {x : α}, TS H H' → R H v x → R H' v x
theorem pv_t : TMon PV := ⟨fun s ⟨p, e, h⟩ => ⟨p, e, s _ _ h⟩⟩
theorem tv_t : TMon TV := ⟨fun s ⟨p, e, h⟩ => ⟨p, e, s _ _ h⟩⟩
theorem ln_t : TMon LnV := by
  constructor
  intro H H' v x s h
  cases x with
  | join r a i b j => obtain ⟨t, e, h⟩ := h; exact ⟨t, e, s _ _ h⟩
  | part r a i j k => obtain ⟨t, q, e, h, k⟩ := h; exact ⟨t, q, e, s _ _ h, tv_t.go s k⟩
theorem f2_t {α : Type} {R : HR α} (m : TMon R) {H H' : Hp} (s : TS H H') {vs : List V} {xs : List α} (f : F2 (R H) vs xs) : F2 (R H') vs xs := f.mono fun _ _ q => m.go s q
/-- a new list of things -/
def NewL {α : Type} (R : HR α) (H H' : Hp) (q : Addr) (xs : List α) : Prop := Same H H' ∧ H q = none ∧ ∃ vs, H' q = some (.lst vs) ∧ F2 (R H') vs xs

/-! ### the lines -/
def sp_may_end (a : Ads) : Sp := fun vs H Q _ => ∃ v d x y, vs = [v, .int (x : Nat), .int (y : Nat)] ∧ DV a H v d ∧ Fit d ∧ x < d.ends.length ∧ y < d.ends.length ∧ Q (.bl (mayEnd d x y)) H
theorem ok_may_end {P : Program} {w : World} {K : PySem.W.Frag} {mg : Str → Option Value} {base : Heap} {a : Ads} (T : Txt K mg a) : FnOk P w K mg base CX0 2 a.f_may_end a.d_may_end ["drawing", "one", "other"] (sp_may_end a) := by
  refine T.F_may_end.ok sc_may_end (fun vs H Q E h => ?_) (fun cdv A outer s H vs Q E hr h => ⟨_, (pss_cons (ps_if (pt_cmpR op_eq (pv 1) (pv 2) (nomark _))
  (pss_one (ps_ret (pe_cmpR op_ge (pe_meth (pv 0) T.clD T.m_D_lives_of (ok_D_lives_of T) (hr.mono (by decide)) (b_D_lives_of T) .nil pass0 (pa_cons (pv 1) pa_nil)) pe_int (nomark _)))) pss_nil)
  (pss_one (ps_ret (pe_and (pe_cmpR op_ge (pe_meth (pv 0) T.clD T.m_D_lives_of (ok_D_lives_of T) (hr.mono (by decide)) (b_D_lives_of T) .nil pass0 (pa_cons (pv 1) pa_nil)) pe_int (nomark _)) (pe_one (pe_cmpR op_ge (pe_meth (pv 0) T.clD T.m_D_lives_of (ok_D_lives_of T) (hr.mono (by decide)) (b_D_lives_of T) .nil pass0 (pa_cons (pv 2) pa_nil)) pe_int (nomark _))))))), ?_⟩)
  · obtain ⟨v, d, x, y, rfl, _⟩ := h; rfl
  · obtain ⟨v, d, x, y, rfl, hd, F, hx, hy, k⟩ := h
    obtain ⟨p, dx, e, r, rfl, hp, _, _⟩ := id hd
    have no : (dF e r).lookup ("lives_of" : Str) = none := dF_no (by decide +kernel) (by decide +kernel) _ _
    refine ⟨_, rfl, _, rfl, rfl, _, rfl, ?_⟩
    refine ite2 (fun c => ?_) (fun c => ?_)
    · have c := of_decide_eq_true c
      have c : x = y := by injection c with c; omega
      refine ⟨_, rfl, p, dx, _, rfl, hp, no, _, rfl, .ref p, d, x, rfl, hd, F, hx, _, _, rfl, rfl, ?_⟩
      refine val_of k (congrArg V.bl ?_)
      unfold mayEnd
      rw [if_pos c, Bool.eq_iff_iff, decide_eq_true_eq, decide_eq_true_eq]
      omega
    · have c : ¬ x = y := fun e => c (decide_eq_true (by rw [e]))
      refine ⟨_, rfl, p, dx, _, rfl, hp, no, _, rfl, .ref p, d, x, rfl, hd, F, hx, _, _, rfl, rfl, _, rfl, ?_⟩
      refine ite2 (fun c1 => ?_) (fun c1 => ?_)
      · have c1 := of_decide_eq_true c1
        refine ⟨_, rfl, p, dx, _, rfl, hp, no, _, rfl, .ref p, d, y, rfl, hd, F, hy, _, _, rfl, rfl, ?_⟩
        refine val_of k (congrArg V.bl ?_)
        unfold mayEnd
        rw [if_neg c, decide_eq_true (by omega : 1 ≤ Uw61.lives d x), Bool.true_and, Bool.eq_iff_iff, decide_eq_true_eq, decide_eq_true_eq]
        omega
      · refine val_of k (congrArg V.bl ?_)
        unfold mayEnd
        rw [if_neg c, decide_eq_false (fun z => c1 (decide_eq_true (by omega))), Bool.false_and]
def sp_places_from : Sp := fun vs H Q _ => ∃ v bs f, vs = [v, .int (f : Nat)] ∧ BL H v bs ∧ bs.length ≤ 6 ∧ f ≤ bs.length ∧ bs.flatten.length ≤ 1000 ∧ ∀ H' q, NewL PV H H' q (pf bs f (bs.length - f)) → Q (.ref q) H'
theorem border_le {bs : List (List Nat)} {b : Nat} (h : b < bs.length) : (bs.getD b []).length ≤ bs.flatten.length := by
  induction bs generalizing b with
  | nil => simp at h
  | cons x bs ih =>
    cases b with
    | zero => simp
    | succ b =>
      have := ih (b := b) (by simpa using h)
      rw [List.getD_cons_succ, List.flatten_cons, List.length_append]; omega
theorem ok_places_from {P : Program} {w : World} {K : PySem.W.Frag} {mg : Str → Option Value} {base : Heap} {a : Ads} (T : Txt K mg a) : FnOk P w K mg base CX0 1 a.f_places_from a.d_places_from ["borders", "first"] (sp_places_from) := by
  refine T.F_places_from.ok sc_places_from (fun vs H Q E h => ?_) (fun cdv A outer s H vs Q E hr h => ⟨_, (pss_cons (ps_set (i := 2) sc_places_from.nd rfl (Or.inl rfl) (pe_lst pa_nil))
  (pss_cons (ps_for PassesOwn.never rfl (pi_range2 rfl T.n_range (pa_cons (pv 1) (pa_cons (pe_callB call_len_seq (by rfl) T.n_len PySem.boot_len (pa_cons (pv 0) pa_nil)) pa_nil))) (pg_name (i := 3) sc_places_from.nd rfl (Or.inr rfl))
  (pss_one (ps_expr (pe_bm PySem.F.plainAttrs_list PySem.F.slot_list_extend PySem.F.type_list_extend mt_extend (pv 2) (pa_cons (pe_lc (own := [("place", 4)]) rfl sc_places_from.nd (pi_range1 rfl T.n_range (pa_cons (pe_callB call_len_seq (by rfl) T.n_len PySem.boot_len (pa_cons (pe_ix ix_list (pv 0) (pv 3) (fun _ _ => rfl)) pa_nil)) pa_nil)) (blkOk_by (N := ["borders", "first", "found", "k", "place"]) (sc := defScope s_places_from) (own := [("place", 4)]) (by decide +kernel)) (fun _ _ _ _ _ => (pg_name (i := 4) sc_places_from.nd rfl (Or.inl rfl))) (fun _ _ _ _ _ => pts_nil) (fun _ _ _ _ _ => (pe_tup (pa_cons (pv 3) (pa_cons (pv 4) pa_nil))))) pa_nil)))))
  (pss_one (ps_ret (pv 2))))), ?_⟩)
  · obtain ⟨v, bs, f, rfl, _⟩ := h; rfl
  · obtain ⟨v, bs, f, rfl, ⟨p, ws, rfl, hp, fb⟩, h6, hf, hs, k⟩ := h
    refine ⟨sz (by show 0 ≤ 100000; decide), fun L nL => ?_⟩
    refine ⟨_, rfl, _, rfl, p, _, rfl, .inl (SqL.of (same_new nL _ _ hp)), (f : Int), (ws.length : Int), rfl, ⟨by omega, by omega, by rw [fb.len]; omega, by rw [fb.len]; omega⟩, ?_⟩
    refine for_range (lo := (f : Int)) (n := ((ws.length : Int) - (f : Int)).toNat) (fun m σ H' => ∃ z acc, σ = [some (.ref p), some (.int (f : Int)), some (.ref L), z, none] ∧ Same H H' ∧ H' L = some (.lst acc) ∧ F2 (PV H') acc (pf bs f m)) ⟨none, [], rfl, same_new nL, upd_same, .nil⟩ ?_ ?_
    · rintro m σ H' hm ⟨z, acc, rfl, s, hL, fa⟩
      rw [fb.len] at hm
      have hm : f + m < bs.length := by omega
      obtain ⟨w, haw, q1, rfl, hq1⟩ := f2_at fb hm []
      have hq1 := s _ _ hq1
      have haw : atI ws ((f : Int) + (m : Int)) = some (.ref q1) := by rw [← haw]; congr 1
      have bl := border_le hm
      refine ⟨_, rfl, .inl ⟨rfl, _, SqL.of hL⟩, _, rfl, _, rfl, p, _, _, _, rfl, rfl, SqL.of (s _ _ hp), haw, q1, _, rfl, .inl (SqL.of hq1), _, rfl, by rw [nv_length]; omega, by rw [nv_length]; omega, fun D nD => ?_⟩
      refine lc_range (fun i H2 => Same H' H2 ∧ ∃ vs, H2 D = some (.lst vs) ∧ F2 (PV H2) vs ((List.range i).map fun i => (f + m, i))) ⟨same_new nD, [], upd_same, .nil⟩ ?_ ?_
      · rintro i H2 hi ⟨s2, vs, hD, f2⟩
        refine ⟨rfl, yes_of ⟨_, rfl, _, rfl, sz (by show 2 ≤ 100000; decide), fun t nt => ⟨vs, same_new nt _ _ hD, ?_, same_mut (s2.trans (same_new nt)) nD, _, upd_same, ?_⟩⟩⟩
        · rw [nv_length] at hi
          rw [f2.len, List.length_map, List.length_range]; exact szl (by omega)
        · rw [List.range_succ, List.map_append]
          have ts := (ts_same (same_new (o := .tup [V.int ((f : Int) + (m : Int)), V.int (0 + (i : Int))]) nt)).trans (ts_upd (o := .lst (vs ++ [V.ref t])) (same_new nt _ _ hD))
          refine (f2_t pv_t ts f2).append (.one ⟨t, rfl, ?_⟩)
          rw [upd_ne (fun q => by rw [q, hD] at nt; cases nt), upd_same, Int.zero_add]
          rfl
      · rintro H3 ⟨s3, vs, hD, f3⟩
        have nDL : D ≠ L := fun q => by rw [q, hL] at nD; cases nD
        refine ⟨L, D, acc, vs, rfl, rfl, s3 _ _ hL, hD, ?_, _, _, rfl, same_mut (s.trans s3) nL, upd_same, ?_⟩
        · have l1 := fa.len
          have l2 := f3.len
          have l3 := pf_len bs f m (by omega)
          rw [List.length_map, List.length_range, nv_length] at l2
          exact sz (by omega)
        · have e : pf bs f (m + 1) = pf bs f m ++ (List.range (nv (bs.getD (f + m) [])).length).map fun i => (f + m, i) := by rw [pf_succ, nv_length]
          rw [e]
          exact (f2_t pv_t ((ts_same s3).trans (ts_upd (s3 _ _ hL))) fa).append (f2_t pv_t (ts_upd (s3 _ _ hL)) f3)
    · rintro σ H' ⟨z, acc, rfl, s, hL, fa⟩
      rw [fb.len] at fa
      have e : ((bs.length : Int) - (f : Int)).toNat = bs.length - f := by omega
      rw [e] at fa
      exact ⟨_, rfl, k H' L ⟨s, nL, acc, hL, fa⟩⟩
end Sg

/-! ### text W6 -/
namespace Sg
open PySem PySem.Spec PyProof.Rows L2
open Uw61 (Drawing Line)

theorem take_get {α : Type} {l : List α} {i : Nat} {x : α} (h : l[i]? = some x) : l.take (i + 1) = l.take i ++ [x] := by
  rw [List.take_add_one, h]; rfl
theorem filt_one {d : Drawing} {x : Line} : ([x] : List Line).filter (Uw61.canBe d) = if Uw61.canBe d x = true then [x] else [] := by
  rw [List.filter_cons, List.filter_nil]
def sp_joins_in (a : Ads) : Sp := fun vs H Q _ => ∃ v d r, vs = [v, .int (r : Nat)] ∧ DV a H v d ∧ Fit d ∧ r < d.regions.length ∧ ∀ H' q, NewL LnV H H' q (Uw61.joinsIn d r) → Q (.ref q) H'
/-- what the first outer places give -/
def jPre (d : Drawing) (r : Nat) (ps : List (Nat × Nat)) : List Line := ps.flatMap fun p => ((pf (Uw61.regionAt d r) (p.1 + 1) ((Uw61.regionAt d r).length - (p.1 + 1))).map fun q => Line.join r p.1 p.2 q.1 q.2).filter (Uw61.canBe d)
theorem region_flat {d : Drawing} (F : Fit d) {r : Nat} (hr : r < d.regions.length) : (Uw61.regionAt d r).flatten.length ≤ 96 := by
  have := F.pl _ (regionAt_mem hr); omega
theorem jPre_le {d : Drawing} (F : Fit d) {r : Nat} (hr : r < d.regions.length) (m n : Nat) (p : Nat × Nat) (h : (pf (Uw61.regionAt d r) 0 (Uw61.regionAt d r).length)[m]? = some p) :
    (jPre d r ((pf (Uw61.regionAt d r) 0 (Uw61.regionAt d r).length).take m) ++ (((pf (Uw61.regionAt d r) (p.1 + 1) ((Uw61.regionAt d r).length - (p.1 + 1))).take n).map fun q => Line.join r p.1 p.2 q.1 q.2).filter (Uw61.canBe d)).length ≤ 30000 := by
  have big := lines_30000 F
  have e : (Uw61.joinsIn d r).length ≤ (Uw61.lines d).length := by
    unfold Uw61.lines
    have := List.mem_range.mpr hr
    obtain ⟨A, B, hAB⟩ := List.append_of_mem this
    rw [hAB, List.flatMap_append, List.flatMap_cons, List.length_append, List.length_append, List.length_append]; omega
  refine Nat.le_trans ?_ (Nat.le_trans e big)
  rw [joinsIn_eq]
  have s : pf (Uw61.regionAt d r) 0 (Uw61.regionAt d r).length = (pf (Uw61.regionAt d r) 0 (Uw61.regionAt d r).length).take m ++ p :: (pf (Uw61.regionAt d r) 0 (Uw61.regionAt d r).length).drop (m + 1) := by
    have lt := (List.getElem?_eq_some_iff.mp h)
    rw [← lt.2]; exact split_at lt.1
  conv => rhs; rw [s, List.flatMap_append, List.flatMap_cons]
  rw [List.length_append, List.length_append, List.length_append]
  unfold jPre
  have : ((((pf (Uw61.regionAt d r) (p.1 + 1) ((Uw61.regionAt d r).length - (p.1 + 1))).take n).map fun q => Line.join r p.1 p.2 q.1 q.2).filter (Uw61.canBe d)).length ≤ (((pf (Uw61.regionAt d r) (p.1 + 1) ((Uw61.regionAt d r).length - (p.1 + 1))).map fun q => Line.join r p.1 p.2 q.1 q.2).filter (Uw61.canBe d)).length :=
    (((List.take_sublist n _).map _).filter _).length_le
  omega
theorem ok_joins_in {P : Program} {w : World} {K : PySem.W.Frag} {mg : Str → Option Value} {base : Heap} {a : Ads} (T : Txt K mg a) : FnOk P w K mg base CX0 3 a.f_joins_in a.d_joins_in ["drawing", "region"] (sp_joins_in a) := by
  refine T.F_joins_in.ok sc_joins_in (fun vs H Q E h => ?_) (fun cdv A outer s H vs Q E hr h => ⟨_, (pss_cons (ps_set (i := 2) sc_joins_in.nd rfl (Or.inl rfl) (pe_ix ix_list (pe_fld (pv 0) rfl) (pv 1) (fun _ _ => rfl)))
  (pss_cons (ps_set (i := 3) sc_joins_in.nd rfl (Or.inl rfl) (pe_lst pa_nil))
  (pss_cons (ps_for PassesOwn.never rfl (pi_list (pe_call (ok_places_from T) (hr.mono (by decide)) rfl T.mg_places_from T.F_places_from.kp (b_places_from T) .nil pass0 (pa_cons (pv 2) (pa_cons pe_int pa_nil)))) (pg_tup rfl (pgs_cons (pg_name (i := 4) sc_joins_in.nd rfl (Or.inl rfl)) (pgs_cons (pg_name (i := 5) sc_joins_in.nd rfl (Or.inl rfl)) pgs_nil)))
  (pss_one (ps_for PassesOwn.never rfl (pi_list (pe_call (ok_places_from T) (hr.mono (by decide)) rfl T.mg_places_from T.F_places_from.kp (b_places_from T) .nil pass0 (pa_cons (pv 2) (pa_cons (pe_op op_add (pv 4) pe_int) pa_nil)))) (pg_tup rfl (pgs_cons (pg_name (i := 6) sc_joins_in.nd rfl (Or.inl rfl)) (pgs_cons (pg_name (i := 7) sc_joins_in.nd rfl (Or.inl rfl)) pgs_nil)))
  (pss_one (ps_if (pt_val (pe_call (ok_may_end T) (hr.mono (by decide)) rfl T.mg_may_end T.F_may_end.kp (b_may_end T) .nil pass0 (pa_cons (pv 0) (pa_cons (pe_ix ix_list (pe_ix ix_list (pv 2) (pv 4) (fun _ _ => rfl)) (pv 5) (fun _ _ => rfl)) (pa_cons (pe_ix ix_list (pe_ix ix_list (pv 2) (pv 6) (fun _ _ => rfl)) (pv 7) (fun _ _ => rfl)) pa_nil)))))
  (pss_one (ps_expr (pe_bm PySem.F.plainAttrs_list PySem.F.slot_list_append PySem.F.type_list_append mt_append (pv 3) (pa_cons (pe_tup (pa_cons (pe_glob (v := .int 1) rfl T.mg_JOIN ⟨_, rfl⟩) (pa_cons (pv 1) (pa_cons (pv 4) (pa_cons (pv 5) (pa_cons (pv 6) (pa_cons (pv 7) pa_nil))))))) pa_nil)))) pss_nil)))))
  (pss_one (ps_ret (pv 3)))))), ?_⟩)
  · obtain ⟨v, d, r, rfl, _⟩ := h; rfl
  · obtain ⟨v, d, r, rfl, hd, F, hr', k⟩ := h
    obtain ⟨p, dx, e, rr, rfl, hp, he, hrr⟩ := id hd
    obtain ⟨q1, rs, w1, rfl, hq1, ha1, b1⟩ := region_at (Same.refl H) hrr hr'
    obtain ⟨q2, bs, rfl, hq2, fb⟩ := id b1
    have b6 := F.b6 _ (regionAt_mem hr')
    have bf := region_flat F hr'
    refine ⟨_, rfl, p, a.CD, dx, _, _, rfl, hp, T.clD, T.nRegions, dF_regions _ _, _, rfl, q1, _, _, _, rfl, rfl, SqL.of hq1, ha1, ?_⟩
    refine ⟨sz (by show 0 ≤ 100000; decide), fun L nL => ?_⟩
    have s1 := same_new (o := .lst []) nL
    refine ⟨_, rfl, .ref q2, Uw61.regionAt d r, 0, rfl, bl_mono.go s1 b1, b6, Nat.zero_le _, by omega, fun H2 b2 N2 => ?_⟩
    obtain ⟨s2, n2, ps, h2, f2⟩ := N2
    have ne2 : b2 ≠ L := fun q => by rw [q, upd_same] at n2; cases n2
    refine ⟨b2, rfl, ⟨_, SqL.of h2⟩, ?_⟩
    refine for_list (K := K) (a := b2) (xs := ps) (fun m σ H' => ∃ z1 z2 z3 z4 acc, σ = [some (.ref p), some (.int (r : Int)), some (.ref q2), some (.ref L), z1, z2, z3, z4] ∧ Same H H' ∧ H' L = some (.lst acc) ∧ H' b2 = some (.lst ps) ∧ F2 (PV H') ps (pf (Uw61.regionAt d r) 0 (Uw61.regionAt d r).length) ∧
      F2 (LnV H') acc (jPre d r ((pf (Uw61.regionAt d r) 0 (Uw61.regionAt d r).length).take m))) ⟨none, none, none, none, [], rfl, s1.trans s2, s2 _ _ upd_same, h2, f2, .nil⟩ (fun m σ H' _ ⟨_, _, _, _, _, _, _, _, h, _⟩ => SqL.of h) ?_ ?_
    · rintro m y σ H' hm ⟨z1, z2, z3, z4, acc, rfl, s, hL, hb2, fp, fa⟩
      obtain ⟨⟨x, i⟩, hxi, t, rfl, ht⟩ := fp.getL hm
      obtain ⟨hx, hi⟩ := pf_mem (List.mem_of_getElem? hxi)
      refine ⟨t, _, rfl, SqT.of ht, rfl, _, _, rfl, _, _, rfl, rfl, ?_⟩
      refine ⟨_, rfl, _, rfl, _, _, rfl, rfl, .ref q2, Uw61.regionAt d r, x + 1, rfl, bl_mono.go s b1, b6, hx, by omega, fun H3 b3 N3 => ?_⟩
      obtain ⟨s3, n3, ps3, h3, f3⟩ := N3
      refine ⟨b3, rfl, ⟨_, SqL.of h3⟩, ?_⟩
      refine for_list (K := K) (a := b3) (xs := ps3) (fun n σ H4 => ∃ z3 z4 acc, σ = [some (.ref p), some (.int (r : Int)), some (.ref q2), some (.ref L), some (.int (x : Nat)), some (.int (i : Nat)), z3, z4] ∧ Same H H4 ∧ H4 L = some (.lst acc) ∧ H4 b2 = some (.lst ps) ∧ F2 (PV H4) ps (pf (Uw61.regionAt d r) 0 (Uw61.regionAt d r).length) ∧
        H4 b3 = some (.lst ps3) ∧ F2 (PV H4) ps3 (pf (Uw61.regionAt d r) (x + 1) ((Uw61.regionAt d r).length - (x + 1))) ∧
        F2 (LnV H4) acc (jPre d r ((pf (Uw61.regionAt d r) 0 (Uw61.regionAt d r).length).take m) ++ (((pf (Uw61.regionAt d r) (x + 1) ((Uw61.regionAt d r).length - (x + 1))).take n).map fun q => Line.join r x i q.1 q.2).filter (Uw61.canBe d)))
        ⟨z3, z4, acc, rfl, s.trans s3, s3 _ _ hL, s3 _ _ hb2, f2_mono pv_mono s3 fp, h3, f3, by rw [List.take_zero, List.map_nil, List.filter_nil, List.append_nil]; exact f2_mono ln_mono s3 fa⟩ (fun m σ H' _ ⟨_, _, _, _, _, _, _, _, h, _⟩ => SqL.of h) ?_ ?_
      · rintro n y σ H4 hn ⟨z3, z4, acc, rfl, s4, hL, hb2, fp, hb3, fp3, fa⟩
        obtain ⟨⟨u, j⟩, huj, t', rfl, ht'⟩ := fp3.getL hn
        obtain ⟨hu1, hu, hj⟩ := pf_mem2 (List.mem_of_getElem? huj)
        obtain ⟨wx, hax, bx⟩ := f2_at fb hx []
        obtain ⟨wu, hau, bu⟩ := f2_at fb hu []
        obtain ⟨wxp, ewx, hwx⟩ := il_mono.go s4 bx
        obtain ⟨wup, ewu, hwu⟩ := il_mono.go s4 bu
        have ux := spot_in F hr' hx hi
        have uu := spot_in F hr' hu hj
        refine ⟨t', _, rfl, SqT.of ht', rfl, _, _, rfl, _, _, rfl, rfl, ?_⟩
        refine ⟨_, rfl, _, rfl, _, rfl, q2, _, _, _, rfl, rfl, SqL.of (s4 _ _ hq2), hax, _, rfl, wxp, _, _, _, ewx, rfl, SqL.of hwx, nv_at hi, ?_⟩
        refine ⟨_, rfl, _, rfl, q2, _, _, _, rfl, rfl, SqL.of (s4 _ _ hq2), hau, _, rfl, wup, _, _, _, ewu, rfl, SqL.of hwu, nv_at hj, ?_⟩
        refine ⟨.ref p, d, Uw61.spotAt d r x i, Uw61.spotAt d r u j, rfl, dv_mono.go s4 hd, F, ux, uu, _, rfl, ?_⟩
        have le := jPre_le F hr' m n (x, i) hxi
        rw [take_get huj, List.map_append, List.filter_append, List.map_cons, List.map_nil, filt_one, ← List.append_assoc]
        refine iteB (fun c => ?_) (fun c => ?_)
        · refine ⟨_, rfl, .inl ⟨rfl, _, SqL.of hL⟩, _, rfl, _, rfl, _, rfl, _, rfl, _, rfl, sz (by show 6 ≤ 100000; decide), fun t2 nt2 => ?_⟩
          have s5 := same_new (o := .tup [V.int 1, V.int (r : Int), V.int (x : Nat), V.int (i : Nat), V.int (u : Nat), V.int (j : Nat)]) nt2
          have ts := (ts_same s5).trans (ts_upd (o := .lst (acc ++ [V.ref t2])) (s5 _ _ hL))
          have nb2 : b2 ≠ L := ne2
          have nb3 : b3 ≠ L := fun q => by rw [q] at n3; rw [show H' L = some (.lst _) by assumption] at n3; cases n3
          refine ⟨L, acc, _, rfl, rfl, s5 _ _ hL, ?_, _, _, _, rfl, same_mut (s4.trans s5) nL, upd_same, ?_, f2_t pv_t ts fp, ?_, f2_t pv_t ts fp3, ?_⟩
          · rw [fa.len]; exact szl (Nat.lt_of_le_of_lt le (by decide))
          · rw [upd_ne nb2]; exact s5 _ _ hb2
          · rw [upd_ne nb3]; exact s5 _ _ hb3
          · rw [if_pos (by rw [canBe_eq]; exact c)]
            refine (f2_t ln_t ts fa).append (.one ⟨t2, rfl, ?_⟩)
            rw [upd_ne (fun q => by rw [q, hL] at nt2; cases nt2), upd_same]
        · refine ⟨_, _, acc, rfl, s4, hL, hb2, fp, hb3, fp3, ?_⟩
          rw [if_neg (by rw [canBe_eq]; intro z; have z : mayEnd d (Uw61.spotAt d r x i) (Uw61.spotAt d r u j) = true := z; rw [z] at c; cases c), List.append_nil]
          exact fa
      · rintro σ H4 ⟨z3, z4, acc, rfl, s4, hL, hb2, fp, hb3, fp3, fa⟩
        refine ⟨_, _, z3, z4, acc, rfl, s4, hL, hb2, fp, ?_⟩
        rw [fp3.len, List.take_length] at fa
        rw [take_get hxi]
        unfold jPre at fa ⊢
        rw [List.flatMap_append]
        simpa using fa
    · rintro σ H' ⟨z1, z2, z3, z4, acc, rfl, s, hL, hb2, fp, fa⟩
      rw [fp.len, List.take_length] at fa
      refine ⟨_, rfl, k H' L ⟨s, nL, acc, hL, ?_⟩⟩
      rw [joinsIn_eq]; exact fa

def sp_bows_on (a : Ads) : Sp := fun vs H Q _ => ∃ v d w l, vs = [v, w] ∧ DV a H v d ∧ Fit d ∧ IL H w l ∧ l.length ≤ 100 ∧ (∀ x ∈ l, x < d.ends.length) ∧ ∀ H' q, NewL PV H H' q (bowsOn d l) → Q (.ref q) H'
/-- one row of the bows -/
def bowRow (d : Drawing) (l : List Nat) (i t : Nat) : List (Nat × Nat) := ((List.range t).filter fun t => mayEnd d (l.getD i 0) (l.getD (i + t) 0)).map fun t => (i, i + t)
def bowPre (d : Drawing) (l : List Nat) (m : Nat) : List (Nat × Nat) := (List.range m).flatMap fun i => bowRow d l i (l.length - i)
theorem bowRow_succ (d : Drawing) (l : List Nat) (i t : Nat) : bowRow d l i (t + 1) = bowRow d l i t ++ (if mayEnd d (l.getD i 0) (l.getD (i + t) 0) = true then [(i, i + t)] else []) := by
  unfold bowRow
  rw [List.range_succ, List.filter_append, List.map_append, List.filter_cons, List.filter_nil]
  by_cases c : mayEnd d (l.getD i 0) (l.getD (i + t) 0) = true
  · rw [if_pos c, if_pos c]; rfl
  · rw [if_neg c, if_neg c]; rfl
theorem bowPre_succ (d : Drawing) (l : List Nat) (m : Nat) : bowPre d l (m + 1) = bowPre d l m ++ bowRow d l m (l.length - m) := by
  unfold bowPre
  rw [List.range_succ, List.flatMap_append]; simp
theorem bowRow_len (d : Drawing) (l : List Nat) (i t : Nat) : (bowRow d l i t).length ≤ t := by
  unfold bowRow
  rw [List.length_map]
  have := List.length_filter_le (fun t => mayEnd d (l.getD i 0) (l.getD (i + t) 0)) (List.range t)
  rw [List.length_range] at this; exact this
theorem bowPre_len (d : Drawing) (l : List Nat) : ∀ m, (bowPre d l m).length ≤ m * l.length
  | 0 => by simp [bowPre]
  | m + 1 => by
    have h1 := bowPre_len d l m
    have h2 := bowRow_len d l m (l.length - m)
    rw [bowPre_succ, List.length_append, Nat.add_mul]; omega
theorem mem_getD0 {l : List Nat} {i : Nat} (h : i < l.length) : l.getD i 0 ∈ l := by rw [getD_lt h]; exact List.getElem_mem h
theorem ok_bows_on {P : Program} {w : World} {K : PySem.W.Frag} {mg : Str → Option Value} {base : Heap} {a : Ads} (T : Txt K mg a) : FnOk P w K mg base CX0 3 a.f_bows_on a.d_bows_on ["drawing", "border"] (sp_bows_on a) := by
  refine T.F_bows_on.ok sc_bows_on (fun vs H Q E h => ?_) (fun cdv A outer s H vs Q E hr h => ⟨_, (pss_cons (ps_set (i := 2) sc_bows_on.nd rfl (Or.inl rfl) (pe_lst pa_nil))
  (pss_cons (ps_for PassesOwn.never rfl (pi_range1 rfl T.n_range (pa_cons (pe_callB call_len_seq (by rfl) T.n_len PySem.boot_len (pa_cons (pv 1) pa_nil)) pa_nil)) (pg_name (i := 3) sc_bows_on.nd rfl (Or.inr rfl))
  (pss_one (ps_expr (pe_bm PySem.F.plainAttrs_list PySem.F.slot_list_extend PySem.F.type_list_extend mt_extend (pv 2) (pa_cons (pe_lc (own := [("j", 4)]) rfl sc_bows_on.nd (pi_range2 rfl T.n_range (pa_cons (pv 3) (pa_cons (pe_callB call_len_seq (by rfl) T.n_len PySem.boot_len (pa_cons (pv 1) pa_nil)) pa_nil))) (blkOk_by (N := ["drawing", "border", "found", "i", "j"]) (sc := defScope s_bows_on) (own := [("j", 4)]) (by decide +kernel)) (fun _ _ _ _ _ => (pg_name (i := 4) sc_bows_on.nd rfl (Or.inl rfl))) (fun _ _ _ _ _ => (pts_one (pt_val (pe_call (ok_may_end T) (hr.mono (by decide)) rfl T.mg_may_end T.F_may_end.kp (b_may_end T) .nil pass0 (pa_cons (pv 0) (pa_cons (pe_ix (r := rIxL K) ix_list (pv 1) (pv 3) (fun _ _ => rfl)) (pa_cons (pe_ix (r := rIxL K) ix_list (pv 1) (pv 4) (fun _ _ => rfl)) pa_nil))))))) (fun _ _ _ _ _ => (pe_tup (pa_cons (pv 3) (pa_cons (pv 4) pa_nil))))) pa_nil)))))
  (pss_one (ps_ret (pv 2))))), ?_⟩)
  · obtain ⟨v, d, w, l, rfl, _⟩ := h; rfl
  · obtain ⟨v, d, w, l, rfl, hd, F, ⟨p, rfl, hp⟩, hl, hin, k⟩ := h
    obtain ⟨pd, dx, e, rr, rfl, hpd, he, hrr⟩ := id hd
    refine ⟨sz (by show 0 ≤ 100000; decide), fun L nL => ?_⟩
    refine ⟨_, rfl, p, _, rfl, .inl (SqL.of (same_new nL _ _ hp)), ((nv l).length : Int), rfl, by omega, by rw [nv_length]; omega, ?_⟩
    refine for_range (lo := 0) (n := ((nv l).length : Int).toNat) (fun m σ H' => ∃ z acc, σ = [some (.ref pd), some (.ref p), some (.ref L), z, none] ∧ Same H H' ∧ H' L = some (.lst acc) ∧ F2 (PV H') acc (bowPre d l m)) ⟨none, [], rfl, same_new nL, upd_same, .nil⟩ ?_ ?_
    · rintro m σ H' hm ⟨z, acc, rfl, s, hL, fa⟩
      rw [nv_length] at hm
      have hm : m < l.length := by omega
      rw [Int.zero_add]
      refine ⟨_, rfl, .inl ⟨rfl, _, SqL.of hL⟩, _, rfl, _, rfl, p, _, rfl, .inl (SqL.of (s _ _ hp)), (m : Int), ((nv l).length : Int), rfl, ⟨by omega, by omega, by omega, by rw [nv_length]; omega⟩, fun D nD => ?_⟩
      refine lc_range (lo := (m : Int)) (n := (((nv l).length : Int) - (m : Int)).toNat) (fun i H2 => Same H' H2 ∧ ∃ vs, H2 D = some (.lst vs) ∧ F2 (PV H2) vs (bowRow d l m i)) ⟨same_new nD, [], upd_same, .nil⟩ ?_ ?_
      · rintro i H2 hi ⟨s2, vs, hD, f2⟩
        rw [nv_length] at hi
        have hi : m + i < l.length := by omega
        have s3 := s.trans s2
        refine ⟨rfl, _, rfl, _, rfl, _, rfl, p, _, _, _, rfl, rfl, SqL.of (s3 _ _ hp), nv_at hm, _, rfl, _, rfl, p, _, _, _, rfl, rfl, SqL.of (s3 _ _ hp), nv_at (i := m + i) hi, ?_⟩
        refine ⟨.ref pd, d, l.getD m 0, l.getD (m + i) 0, rfl, dv_mono.go s3 hd, F, hin _ (mem_getD0 hm), hin _ (mem_getD0 hi), _, rfl, ?_⟩
        rw [bowRow_succ]
        refine iteB (fun c => ?_) (fun c => ?_)
        · refine ⟨_, rfl, _, rfl, sz (by show 2 ≤ 100000; decide), fun t nt => ⟨vs, same_new nt _ _ hD, ?_, same_mut (s2.trans (same_new nt)) nD, _, upd_same, ?_⟩⟩
          · have := bowRow_len d l m i
            rw [f2.len]; exact szl (by omega)
          · rw [if_pos c]
            have ts := (ts_same (same_new (o := .tup [V.int (m : Int), V.int ((m : Int) + (i : Int))]) nt)).trans (ts_upd (o := .lst (vs ++ [V.ref t])) (same_new nt _ _ hD))
            refine (f2_t pv_t ts f2).append (.one ⟨t, rfl, ?_⟩)
            rw [upd_ne (fun q => by rw [q, hD] at nt; cases nt), upd_same]
            rfl
        · refine ⟨s2, vs, hD, ?_⟩
          rw [if_neg (by rw [c]; simp), List.append_nil]; exact f2
      · rintro H3 ⟨s3, vs, hD, f3⟩
        rw [nv_length] at f3
        have e : ((l.length : Int) - (m : Int)).toNat = l.length - m := by omega
        rw [e] at f3
        refine ⟨L, D, acc, vs, rfl, rfl, s3 _ _ hL, hD, ?_, _, _, rfl, same_mut (s.trans s3) nL, upd_same, ?_⟩
        · have l1 := fa.len
          have l2 := f3.len
          have l3 := bowPre_len d l m
          have l4 := bowRow_len d l m (l.length - m)
          have l5 : m * l.length ≤ 100 * 100 := Nat.mul_le_mul (by omega) hl
          exact sz (by omega)
        · rw [bowPre_succ]
          exact (f2_t pv_t ((ts_same s3).trans (ts_upd (s3 _ _ hL))) fa).append (f2_t pv_t (ts_upd (s3 _ _ hL)) f3)
    · rintro σ H' ⟨z, acc, rfl, s, hL, fa⟩
      rw [nv_length] at fa
      have e : ((l.length : Int)).toNat = l.length := by omega
      rw [e] at fa
      exact ⟨_, rfl, k H' L ⟨s, nL, acc, hL, fa⟩⟩
def sp_others_than : Sp := fun vs H Q _ => ∃ v bs x, vs = [v, .int (x : Nat)] ∧ BL H v bs ∧ bs.length ≤ 6 ∧ ∀ H' q, Same H H' → H q = none → H' q = some (.lst (nv ((List.range bs.length).filter fun b => b != x))) → Q (.ref q) H'
theorem ok_others_than {P : Program} {w : World} {K : PySem.W.Frag} {mg : Str → Option Value} {base : Heap} {a : Ads} (T : Txt K mg a) : FnOk P w K mg base CX0 1 a.f_others_than a.d_others_than ["borders", "a"] (sp_others_than) := by
  refine T.F_others_than.ok sc_others_than (fun vs H Q E h => ?_) (fun cdv A outer s H vs Q E hr h => ⟨_, (pss_one (ps_ret (pe_lc (own := [("k", 2)]) rfl sc_others_than.nd (pi_range1 rfl T.n_range (pa_cons (pe_callB call_len_seq (by rfl) T.n_len PySem.boot_len (pa_cons (pv 0) pa_nil)) pa_nil)) (blkOk_by (N := ["borders", "a", "k"]) (sc := defScope s_others_than) (own := [("k", 2)]) (by decide +kernel)) (fun _ _ _ _ _ => (pg_name (i := 2) sc_others_than.nd rfl (Or.inl rfl))) (fun _ _ _ _ _ => (pts_one (pt_cmpR op_ne (pv 2) (pv 1) (nomark _)))) (fun _ _ _ _ _ => (pv 2))))), ?_⟩)
  · obtain ⟨v, bs, x, rfl, _⟩ := h; rfl
  · obtain ⟨v, bs, x, rfl, ⟨p, ws, rfl, hp, fb⟩, h6, k⟩ := h
    refine ⟨_, rfl, p, _, rfl, .inl (SqL.of hp), (ws.length : Int), rfl, by omega, by rw [fb.len]; omega, fun D nD => ?_⟩
    refine lc_range (lo := 0) (n := ((ws.length : Int)).toNat) (fun i H2 => Same H H2 ∧ H2 D = some (.lst (nv ((List.range i).filter fun b => b != x)))) ⟨same_new nD, upd_same⟩ ?_ ?_
    · rintro i H2 hi ⟨s2, hD⟩
      rw [Int.zero_add]
      refine ⟨rfl, _, rfl, _, rfl, rfl, _, rfl, ?_⟩
      rw [List.range_succ, List.filter_append, List.filter_cons, List.filter_nil]
      refine iteB (fun c => ?_) (fun c => ?_)
      · have c : ¬ i = x := fun e => by rw [e] at c; simp at c
        refine ⟨_, rfl, _, hD, ?_, same_mut s2 nD, ?_⟩
        · have := List.length_filter_le (fun b => b != x) (List.range i)
          rw [List.length_range] at this
          rw [fb.len] at hi
          rw [nv_length]; exact szl (by omega)
        · rw [if_pos (by simp [c]), nv_append]
          exact upd_same
      · have c : i = x := by
          have := of_decide_eq_true (by simpa using c : decide (V.int (i : Int) = V.int (x : Int)) = true)
          injection this with this; omega
        refine ⟨s2, ?_⟩
        rw [if_neg (by simp [c]), List.append_nil]; exact hD
    · rintro H2 ⟨s2, hD⟩
      rw [fb.len] at hD
      have e : ((bs.length : Int)).toNat = bs.length := by omega
      rw [e] at hD
      exact k H2 D s2 nD hD
def sp_choices : Sp := fun vs H Q _ => ∃ v l, vs = [v] ∧ IL H v l ∧ l.length ≤ 6 ∧ ∀ H' q, NewL TV H H' q (Uw61.choices l) → Q (.ref q) H'
theorem ok_choices {P : Program} {w : World} {K : PySem.W.Frag} {mg : Str → Option Value} {base : Heap} {a : Ads} (T : Txt K mg a) : FnOk P w K mg base CX0 1 a.f_choices a.d_choices ["some"] (sp_choices) := by
  refine T.F_choices.ok sc_choices (fun vs H Q E h => ?_) (fun cdv A outer s H vs Q E hr h => ⟨_, (pss_cons (ps_set (i := 1) sc_choices.nd rfl (Or.inl rfl) (pe_lst (pa_cons (pe_tup pa_nil) pa_nil)))
  (pss_cons (ps_for PassesOwn.never rfl (pi_list (pv 0)) (pg_name (i := 2) sc_choices.nd rfl (Or.inr rfl))
  (pss_one (ps_set (i := 1) sc_choices.nd rfl (Or.inl rfl) (pe_op op_cat (pv 1) (pe_lc (own := [("one", 3)]) rfl sc_choices.nd (pi_list (pv 1)) (blkOk_by (N := ["some", "found", "thing", "one"]) (sc := defScope s_choices) (own := [("one", 3)]) (by decide +kernel)) (fun _ _ _ _ _ => (pg_name (i := 3) sc_choices.nd rfl (Or.inl rfl))) (fun _ _ _ _ _ => pts_nil) (fun _ _ _ _ _ => (pe_op (r := rCatA K) op_catA (pv 3) (pe_tup (pa_cons (pv 2) pa_nil)))))))))
  (pss_one (ps_ret (pv 1))))), ?_⟩)
  · obtain ⟨v, l, rfl, _⟩ := h; rfl
  · obtain ⟨v, l, rfl, ⟨p, rfl, hp⟩, h6, k⟩ := h
    refine ⟨sz (by show 0 ≤ 100000; decide), fun t nt => ⟨sz (by show 1 ≤ 100000; decide), fun L nL => ?_⟩⟩
    have s1 := (same_new (o := .tup []) nt).trans (same_new (o := .lst [V.ref t]) nL)
    refine ⟨_, rfl, p, rfl, ⟨_, SqL.of (s1 _ _ hp)⟩, ?_⟩
    refine for_list (K := K) (a := p) (xs := nv l) (fun m σ H' => ∃ L z acc, σ = [some (.ref p), some (.ref L), z, none] ∧ Same H H' ∧ H L = none ∧ H' L = some (.lst acc) ∧ F2 (TV H') acc (Uw61.choices (l.take m)))
      ⟨L, none, [V.ref t], rfl, s1, (same_new nt).free nL, upd_same, .one ⟨t, rfl, same_new nL _ _ upd_same⟩⟩ (fun m σ H' _ ⟨_, _, _, _, s, _⟩ => SqL.of (s _ _ hp)) ?_ ?_
    · rintro m y σ H' hm ⟨L, z, acc, rfl, s, nL, hL, fa⟩
      obtain ⟨n, hn, rfl⟩ := nv_getL hm
      have mlt := (List.getElem?_eq_some_iff.mp hn).1
      have cl : (Uw61.choices (l.take m)).length ≤ 64 := by
        rw [choices_len, List.length_take]
        exact Nat.le_trans (Nat.pow_le_pow_right (by decide) (by omega : min m l.length ≤ 6)) (by decide)
      refine ⟨_, rfl, _, rfl, L, rfl, ⟨_, SqL.of hL⟩, fun D nD => ?_⟩
      refine lc_list (K := K) (a := L) (xs := acc) (fun i H2 => Same H' H2 ∧ ∃ vs, H2 D = some (.lst vs) ∧ F2 (TV H2) vs (((Uw61.choices (l.take m)).take i).map (· ++ [n]))) ⟨same_new nD, [], upd_same, .nil⟩ (fun i H2 _ z => SqL.of (z.1 _ _ hL)) ?_ ?_
      · rintro i w H2 hi ⟨s2, vs, hD, f2⟩
        obtain ⟨c, hc, tt, rfl, htt⟩ := fa.getL hi
        have ilt := (List.getElem?_eq_some_iff.mp hc).1
        have htt := s2 _ _ htt
        refine ⟨rfl, yes_of ⟨_, rfl, _, rfl, sz (by show 1 ≤ 100000; decide), fun t3 nt3 => ?_⟩⟩
        have s3 := same_new (o := .tup [V.int (n : Nat)]) nt3
        have vl : vs.length < sizeLine := by
          rw [f2.len, List.length_map, List.length_take]; exact szl (by omega)
        refine ⟨tt, t3, _, _, rfl, rfl, SqT.of (s3 _ _ htt), SqT.of upd_same, ?_, fun e => ?_, fun _ e => (by cases e), fun e _ t4 nt4 => ?_⟩
        · have : c.length ≤ 6 := by
            have := mem_choices.mp (List.mem_of_getElem? hc)
            have := this.length_le
            rw [List.length_take] at this; omega
          rw [nv_length]; exact sz (by show _ + 1 ≤ _; omega)
        · have e : c = [] := List.eq_nil_of_length_eq_zero (by have := congrArg List.length e; rw [nv_length] at this; exact this)
          refine ⟨vs, s3 _ _ hD, vl, same_mut (s2.trans s3) nD, _, upd_same, ?_⟩
          rw [take_get hc, List.map_append]
          have ts := (ts_same s3).trans (ts_upd (o := .lst (vs ++ [V.ref t3])) (s3 _ _ hD))
          refine (f2_t tv_t ts f2).append (.one ⟨t3, rfl, ?_⟩)
          rw [upd_ne (fun q => by rw [q, hD] at nt3; cases nt3), upd_same, e]
          rfl
        · have s4 := s3.trans (same_new (o := .tup (nv c ++ [V.int (n : Nat)])) nt4)
          refine ⟨vs, s4 _ _ hD, vl, same_mut (s2.trans s4) nD, _, upd_same, ?_⟩
          rw [take_get hc, List.map_append]
          have ts := (ts_same s4).trans (ts_upd (o := .lst (vs ++ [V.ref t4])) (s4 _ _ hD))
          refine (f2_t tv_t ts f2).append (.one ⟨t4, rfl, ?_⟩)
          rw [upd_ne (fun q => by rw [q, s3 _ _ hD] at nt4; cases nt4), upd_same]
          show _ = some (HO.tup (nv (c ++ [n])))
          rw [nv_append]; rfl
      · rintro H3 ⟨s3, vs, hD, f3⟩
        rw [fa.len, List.take_length] at f3
        refine ⟨L, D, acc, vs, rfl, rfl, s3 _ _ hL, hD, ?_, fun L2 nL2 => ?_⟩
        · rw [fa.len, f3.len, List.length_map]; exact sz (by omega)
        · refine ⟨L2, _, _, rfl, (s.trans s3).trans (same_new nL2), (s.trans s3).free nL2, upd_same, ?_⟩
          rw [take_get hn, choices_snoc]
          have ts := ts_same (same_new (o := .lst (acc ++ vs)) nL2)
          exact (f2_t tv_t ((ts_same s3).trans ts) fa).append (f2_t tv_t ts f3)
    · rintro σ H' ⟨L, z, acc, rfl, s, nL, hL, fa⟩
      rw [nv_length, List.take_length] at fa
      exact ⟨_, rfl, k H' L ⟨s, nL, acc, hL, fa⟩⟩
end Sg

/-! ### text W7 -/
namespace Sg
open PySem PySem.Spec PyProof.Rows L2
open Uw61 (Drawing Line)

def pRow (d : Drawing) (r x : Nat) (ps : List (Nat × Nat)) : List Line := ps.flatMap fun p => (Uw61.choices ((List.range (Uw61.regionAt d r).length).filter fun b => b != x)).map fun k => Line.part r x p.1 p.2 k
def pPre (d : Drawing) (r m : Nat) : List Line := (List.range m).flatMap fun x => pRow d r x (bowsOn d (Uw61.borderAt d r x))
theorem pPre_succ (d : Drawing) (r m : Nat) : pPre d r (m + 1) = pPre d r m ++ pRow d r m (bowsOn d (Uw61.borderAt d r m)) := by
  unfold pPre
  rw [List.range_succ, List.flatMap_append]; simp
theorem pRow_snoc (d : Drawing) (r x : Nat) (ps : List (Nat × Nat)) (p : Nat × Nat) : pRow d r x (ps ++ [p]) = pRow d r x ps ++ (Uw61.choices ((List.range (Uw61.regionAt d r).length).filter fun b => b != x)).map fun k => Line.part r x p.1 p.2 k := by
  unfold pRow
  rw [List.flatMap_append]; simp
theorem partsIn_pre (d : Drawing) (r : Nat) : Uw61.partsIn d r = pPre d r (Uw61.regionAt d r).length := partsIn_eq d r
theorem parts_lines {d : Drawing} {r : Nat} (hr : r < d.regions.length) : (Uw61.partsIn d r).length ≤ (Uw61.lines d).length := by
  unfold Uw61.lines
  have := List.mem_range.mpr hr
  obtain ⟨A, B, hAB⟩ := List.append_of_mem this
  rw [hAB, List.flatMap_append, List.flatMap_cons, List.length_append, List.length_append, List.length_append]; omega
theorem joins_lines {d : Drawing} {r : Nat} (hr : r < d.regions.length) : (Uw61.joinsIn d r).length ≤ (Uw61.lines d).length := by
  unfold Uw61.lines
  have := List.mem_range.mpr hr
  obtain ⟨A, B, hAB⟩ := List.append_of_mem this
  rw [hAB, List.flatMap_append, List.flatMap_cons, List.length_append, List.length_append, List.length_append]; omega
theorem pPre_le {d : Drawing} (F : Fit d) {r : Nat} (hr : r < d.regions.length) {m : Nat} (hm : m < (Uw61.regionAt d r).length) (n : Nat) : (pPre d r m ++ pRow d r m ((bowsOn d (Uw61.borderAt d r m)).take n)).length ≤ 30000 := by
  refine Nat.le_trans ?_ (Nat.le_trans (parts_lines hr) (lines_30000 F))
  rw [partsIn_pre]
  have e : (Uw61.regionAt d r).length = (m + 1) + ((Uw61.regionAt d r).length - (m + 1)) := by omega
  have h1 : (pPre d r (m + 1)).length ≤ (pPre d r (Uw61.regionAt d r).length).length := by
    have gen : ∀ a b, (pPre d r a).length ≤ (pPre d r (a + b)).length := fun a b => by
      unfold pPre
      rw [range_add a b, List.flatMap_append, List.length_append]; omega
    rw [e]; exact gen _ _
  refine Nat.le_trans ?_ h1
  rw [pPre_succ, List.length_append, List.length_append]
  have : (pRow d r m ((bowsOn d (Uw61.borderAt d r m)).take n)).length ≤ (pRow d r m (bowsOn d (Uw61.borderAt d r m))).length := by
    conv => rhs; rw [← List.take_append_drop n (bowsOn d (Uw61.borderAt d r m))]
    unfold pRow
    rw [List.flatMap_append, List.length_append]; omega
  omega
def sp_parts_in (a : Ads) : Sp := fun vs H Q _ => ∃ v d r, vs = [v, .int (r : Nat)] ∧ DV a H v d ∧ Fit d ∧ r < d.regions.length ∧ ∀ H' q, NewL LnV H H' q (Uw61.partsIn d r) → Q (.ref q) H'
theorem ok_parts_in {P : Program} {w : World} {K : PySem.W.Frag} {mg : Str → Option Value} {base : Heap} {a : Ads} (T : Txt K mg a) : FnOk P w K mg base CX0 4 a.f_parts_in a.d_parts_in ["drawing", "region"] (sp_parts_in a) := by
  refine T.F_parts_in.ok sc_parts_in (fun vs H Q E h => ?_) (fun cdv A outer s H vs Q E hr h => ⟨_, (pss_cons (ps_set (i := 2) sc_parts_in.nd rfl (Or.inl rfl) (pe_ix ix_list (pe_fld (pv 0) rfl) (pv 1) (fun _ _ => rfl)))
  (pss_cons (ps_set (i := 3) sc_parts_in.nd rfl (Or.inl rfl) (pe_lst pa_nil))
  (pss_cons (ps_for PassesOwn.never rfl (pi_enum (by rfl) T.n_enumerate (pa_cons (pv 2) pa_nil)) (pg_tup rfl (pgs_cons (pg_name (i := 4) sc_parts_in.nd rfl (Or.inr rfl)) (pgs_cons (pg_name (i := 5) sc_parts_in.nd rfl (Or.inl rfl)) pgs_nil)))
  (pss_cons (ps_set (i := 6) sc_parts_in.nd rfl (Or.inl rfl) (pe_call (ok_choices T) (hr.mono (by decide)) rfl T.mg_choices T.F_choices.kp (b_choices T) .nil pass0 (pa_cons (pe_call (ok_others_than T) (hr.mono (by decide)) rfl T.mg_others_than T.F_others_than.kp (b_others_than T) .nil pass0 (pa_cons (pv 2) (pa_cons (pv 4) pa_nil))) pa_nil)))
  (pss_one (ps_for PassesOwn.never rfl (pi_list (pe_call (ok_bows_on T) (hr.mono (by decide)) rfl T.mg_bows_on T.F_bows_on.kp (b_bows_on T) .nil pass0 (pa_cons (pv 0) (pa_cons (pv 5) pa_nil)))) (pg_tup rfl (pgs_cons (pg_name (i := 7) sc_parts_in.nd rfl (Or.inr rfl)) (pgs_cons (pg_name (i := 8) sc_parts_in.nd rfl (Or.inr rfl)) pgs_nil)))
  (pss_one (ps_expr (pe_bm PySem.F.plainAttrs_list PySem.F.slot_list_extend PySem.F.type_list_extend mt_extend (pv 3) (pa_cons (pe_lc (own := [("chosen", 9)]) rfl sc_parts_in.nd (pi_list (pv 6)) (blkOk_by (N := ["drawing", "region", "borders", "found", "a", "border", "some", "i", "j", "chosen"]) (sc := defScope s_parts_in) (own := [("chosen", 9)]) (by decide +kernel)) (fun _ _ _ _ _ => (pg_name (i := 9) sc_parts_in.nd rfl (Or.inl rfl))) (fun _ _ _ _ _ => pts_nil) (fun _ _ _ _ _ => (pe_tup (pa_cons (pe_glob (v := .int 2) rfl T.mg_PART ⟨_, rfl⟩) (pa_cons (pv 1) (pa_cons (pv 4) (pa_cons (pv 7) (pa_cons (pv 8) (pa_cons (pv 9) pa_nil))))))))) pa_nil))))))))
  (pss_one (ps_ret (pv 3)))))), ?_⟩)
  · obtain ⟨v, d, r, rfl, _⟩ := h; rfl
  · obtain ⟨v, d, r, rfl, hd, F, hr', k⟩ := h
    obtain ⟨p, dx, e, rr, rfl, hp, he, hrr⟩ := id hd
    obtain ⟨q1, rs, w1, rfl, hq1, ha1, b1⟩ := region_at (Same.refl H) hrr hr'
    obtain ⟨q2, bs, rfl, hq2, fb⟩ := id b1
    have b6 := F.b6 _ (regionAt_mem hr')
    have bf := region_flat F hr'
    refine ⟨_, rfl, p, a.CD, dx, _, _, rfl, hp, T.clD, T.nRegions, dF_regions _ _, _, rfl, q1, _, _, _, rfl, rfl, SqL.of hq1, ha1, ?_⟩
    refine ⟨sz (by show 0 ≤ 100000; decide), fun L nL => ?_⟩
    have s1 := same_new (o := .lst []) nL
    refine ⟨_, rfl, q2, _, rfl, SqL.of (s1 _ _ hq2), ?_⟩
    refine for_enum (K := K) (a := q2) (xs := bs) (fun m σ H' => ∃ z1 z2 z3 z4 z5 acc, σ = [some (.ref p), some (.int (r : Int)), some (.ref q2), some (.ref L), z1, z2, z3, z4, z5, none] ∧ Same H H' ∧ H' L = some (.lst acc) ∧ F2 (LnV H') acc (pPre d r m)) ⟨none, none, none, none, none, [], rfl, s1, upd_same, .nil⟩ (fun m σ H' _ ⟨_, _, _, _, _, _, _, s, _⟩ => SqL.of (s _ _ hq2)) ?_ ?_
    · rintro m w t σ H' hm ⟨z1, z2, z3, z4, z5, acc, rfl, s, hL, fa⟩ nt
      obtain ⟨l, hl, il⟩ := fb.getL hm
      have mlt := (List.getElem?_eq_some_iff.mp hl).1
      have el : l = Uw61.borderAt d r m := by
        unfold Uw61.borderAt
        rw [List.getD_eq_getElem?_getD, hl]; rfl
      subst el
      have s2 := same_new (o := .tup [V.int (m : Nat), w]) nt
      have S2 := s.trans s2
      refine ⟨t, _, rfl, SqT.of upd_same, rfl, _, _, rfl, _, _, rfl, rfl, ?_⟩
      refine ⟨_, rfl, _, rfl, .ref q2, Uw61.regionAt d r, m, rfl, bl_mono.go S2 b1, b6, fun H3 p3 s3 n3 h3 => ?_⟩
      have ol := others_len mlt
      refine ⟨.ref p3, _, rfl, ⟨p3, rfl, h3⟩, by omega, fun H4 p4 N4 => ?_⟩
      obtain ⟨s4, n4, cs, h4, f4⟩ := N4
      have S4 := (S2.trans s3).trans s4
      have hL4 := s4 _ _ (s3 _ _ (s2 _ _ hL))
      have bl := border_small F hr' mlt
      refine ⟨_, rfl, _, rfl, .ref p, d, w, Uw61.borderAt d r m, rfl, dv_mono.go S4 hd, F, il_mono.go S4 il, by omega, fun x hx => ?_, fun H5 p5 N5 => ?_⟩
      · refine F.wi _ (regionAt_mem hr') (Uw61.borderAt d r m) ?_ x hx
        unfold Uw61.borderAt; rw [getD_lt mlt]; exact List.getElem_mem mlt
      obtain ⟨s5, n5, ps, h5, f5⟩ := N5
      have S5 := S4.trans s5
      refine ⟨p5, rfl, ⟨_, SqL.of h5⟩, ?_⟩
      have n4L : p4 ≠ L := fun q => by rw [q, s3 _ _ (s2 _ _ hL)] at n4; cases n4
      have n5L : p5 ≠ L := fun q => by rw [q, hL4] at n5; cases n5
      refine for_list (K := K) (a := p5) (xs := ps) (fun n σ H6 => ∃ z4 z5 acc, σ = [some (.ref p), some (.int (r : Int)), some (.ref q2), some (.ref L), some (.int (m : Nat)), some w, some (.ref p4), z4, z5, none] ∧ Same H H6 ∧ H6 L = some (.lst acc) ∧
          H6 p4 = some (.lst cs) ∧ F2 (TV H6) cs (Uw61.choices ((List.range (Uw61.regionAt d r).length).filter fun b => b != m)) ∧ H6 p5 = some (.lst ps) ∧ F2 (PV H6) ps (bowsOn d (Uw61.borderAt d r m)) ∧
          F2 (LnV H6) acc (pPre d r m ++ pRow d r m ((bowsOn d (Uw61.borderAt d r m)).take n)))
        ⟨z4, z5, acc, rfl, S5, s5 _ _ hL4, s5 _ _ h4, f2_mono tv_mono s5 f4, h5, f5, ?_⟩ (fun n σ H6 _ ⟨_, _, _, _, _, _, _, _, h, _⟩ => SqL.of h) ?_ ?_
      · show F2 _ acc (pPre d r m ++ [])
        rw [List.append_nil]
        exact f2_mono ln_mono (((s2.trans s3).trans s4).trans s5) fa
      · rintro n y σ H6 hn ⟨z4, z5, acc, rfl, S6, hL6, h46, f46, h56, f56, fa⟩
        obtain ⟨⟨i, j⟩, hij, t', rfl, ht'⟩ := f56.getL hn
        have cl : (Uw61.choices ((List.range (Uw61.regionAt d r).length).filter fun b => b != m)).length ≤ 64 := by
          rw [choices_len, ol]
          exact Nat.le_trans (Nat.pow_le_pow_right (by decide) (by omega : (Uw61.regionAt d r).length - 1 ≤ 6)) (by decide)
        refine ⟨t', _, rfl, SqT.of ht', rfl, _, _, rfl, _, _, rfl, rfl, ?_⟩
        refine ⟨_, rfl, .inl ⟨rfl, _, SqL.of hL6⟩, _, rfl, p4, rfl, ⟨_, SqL.of h46⟩, fun D nD => ?_⟩
        refine lc_list (K := K) (a := p4) (xs := cs) (fun c H7 => Same H6 H7 ∧ ∃ vs, H7 D = some (.lst vs) ∧ F2 (LnV H7) vs (((Uw61.choices ((List.range (Uw61.regionAt d r).length).filter fun b => b != m)).take c).map fun k => Line.part r m i j k)) ⟨same_new nD, [], upd_same, .nil⟩ (fun c H7 _ z => SqL.of (z.1 _ _ h46)) ?_ ?_
        · rintro c u H7 hc ⟨s7, vs, hD, f7⟩
          obtain ⟨kk, hk, tk, rfl, htk⟩ := f46.getL hc
          have htk := s7 _ _ htk
          refine ⟨rfl, yes_of ⟨_, rfl, _, rfl, _, rfl, _, rfl, _, rfl, sz (by show 6 ≤ 100000; decide), fun t8 nt8 => ?_⟩⟩
          have s8 := same_new (o := .tup [V.int 2, V.int (r : Int), V.int (m : Nat), V.int (i : Nat), V.int (j : Nat), V.ref tk]) nt8
          have ts := (ts_same s8).trans (ts_upd (o := .lst (vs ++ [V.ref t8])) (s8 _ _ hD))
          refine ⟨vs, s8 _ _ hD, ?_, same_mut (s7.trans s8) nD, _, upd_same, ?_⟩
          · rw [f7.len, List.length_map, List.length_take]; exact szl (by omega)
          · rw [take_get hk, List.map_append]
            refine (f2_t ln_t ts f7).append (.one ⟨t8, V.ref tk, rfl, ?_, tk, rfl, ts _ _ htk⟩)
            rw [upd_ne (fun q => by rw [q, hD] at nt8; cases nt8), upd_same]
        · rintro H8 ⟨s8, vs, hD, f8⟩
          rw [f46.len, List.take_length] at f8
          have le := pPre_le F hr' mlt (n + 1)
          rw [take_get hij, pRow_snoc, ← List.append_assoc, List.length_append] at le
          rw [take_get hij, pRow_snoc, ← List.append_assoc]
          have ts := ts_upd (o := .lst (acc ++ vs)) (s8 _ _ hL6)
          refine ⟨L, D, acc, vs, rfl, rfl, s8 _ _ hL6, hD, ?_, _, _, _, rfl, same_mut (S6.trans s8) nL, upd_same, ?_, f2_t tv_t ((ts_same s8).trans ts) f46, ?_, f2_t pv_t ((ts_same s8).trans ts) f56, ?_⟩
          · rw [fa.len, f8.len]; exact sz (Nat.le_trans le (by decide))
          · rw [upd_ne n4L]; exact s8 _ _ h46
          · rw [upd_ne n5L]; exact s8 _ _ h56
          · exact (f2_t ln_t ((ts_same s8).trans ts) fa).append (f2_t ln_t ts f8)
      · rintro σ H6 ⟨z4, z5, acc, rfl, S6, hL6, h46, f46, h56, f56, fa⟩
        rw [f56.len, List.take_length, ← pPre_succ] at fa
        exact ⟨_, _, _, z4, z5, acc, rfl, S6, hL6, fa⟩
    · rintro σ H' ⟨z1, z2, z3, z4, z5, acc, rfl, s, hL, fa⟩
      rw [fb.len, ← partsIn_pre] at fa
      exact ⟨_, rfl, k H' L ⟨s, nL, acc, hL, fa⟩⟩
def lPre (d : Drawing) (m : Nat) : List Line := (List.range m).flatMap fun r => Uw61.joinsIn d r ++ Uw61.partsIn d r
theorem lPre_succ (d : Drawing) (m : Nat) : lPre d (m + 1) = lPre d m ++ (Uw61.joinsIn d m ++ Uw61.partsIn d m) := by
  unfold lPre
  rw [List.range_succ, List.flatMap_append]; simp
theorem lPre_le {d : Drawing} (F : Fit d) {m : Nat} (h : m ≤ d.regions.length) : (lPre d m).length ≤ 30000 := by
  refine Nat.le_trans ?_ (lines_30000 F)
  have e : d.regions.length = m + (d.regions.length - m) := by omega
  unfold Uw61.lines lPre
  rw [e, range_add, List.flatMap_append, List.length_append]; omega
def sp_lines_of (a : Ads) : Sp := fun vs H Q _ => ∃ v d, vs = [v] ∧ DV a H v d ∧ Fit d ∧ ∀ H' q, NewL LnV H H' q (Uw61.lines d) → Q (.ref q) H'
theorem ok_lines_of {P : Program} {w : World} {K : PySem.W.Frag} {mg : Str → Option Value} {base : Heap} {a : Ads} (T : Txt K mg a) : FnOk P w K mg base CX0 5 a.f_lines_of a.d_lines_of ["drawing"] (sp_lines_of a) := by
  refine T.F_lines_of.ok sc_lines_of (fun vs H Q E h => ?_) (fun cdv A outer s H vs Q E hr h => ⟨_, (pss_cons (ps_set (i := 1) sc_lines_of.nd rfl (Or.inl rfl) (pe_lst pa_nil))
  (pss_cons (ps_for PassesOwn.never rfl (pi_range1 rfl T.n_range (pa_cons (pe_callB call_len_seq (by rfl) T.n_len PySem.boot_len (pa_cons (pe_fld (pv 0) rfl) pa_nil)) pa_nil)) (pg_name (i := 2) sc_lines_of.nd rfl (Or.inl rfl))
  (pss_cons (ps_expr (pe_bm PySem.F.plainAttrs_list PySem.F.slot_list_extend PySem.F.type_list_extend mt_extend (pv 1) (pa_cons (pe_call (ok_joins_in T) (hr.mono (by decide)) rfl T.mg_joins_in T.F_joins_in.kp (b_joins_in T) .nil pass0 (pa_cons (pv 0) (pa_cons (pv 2) pa_nil))) pa_nil)))
  (pss_one (ps_expr (pe_bm PySem.F.plainAttrs_list PySem.F.slot_list_extend PySem.F.type_list_extend mt_extend (pv 1) (pa_cons (pe_call (ok_parts_in T) (hr.mono (by decide)) rfl T.mg_parts_in T.F_parts_in.kp (b_parts_in T) .nil pass0 (pa_cons (pv 0) (pa_cons (pv 2) pa_nil))) pa_nil))))))
  (pss_one (ps_ret (pv 1))))), ?_⟩)
  · obtain ⟨v, d, rfl, _⟩ := h; rfl
  · obtain ⟨v, d, rfl, hd, F, k⟩ := h
    obtain ⟨p, dx, e, rr, rfl, hp, he, q, rs, rfl, hq, fr⟩ := id hd
    refine ⟨sz (by show 0 ≤ 100000; decide), fun L nL => ?_⟩
    have s1 := same_new (o := .lst []) nL
    have rg := F.rg
    refine ⟨_, rfl, p, a.CD, dx, _, _, rfl, s1 _ _ hp, T.clD, T.nRegions, dF_regions _ _, q, _, rfl, .inl (SqL.of (s1 _ _ hq)), (rs.length : Int), rfl, by omega, by rw [fr.len]; omega, ?_⟩
    refine for_range (lo := 0) (n := ((rs.length : Int)).toNat) (fun m σ H' => ∃ z acc, σ = [some (.ref p), some (.ref L), z] ∧ Same H H' ∧ H' L = some (.lst acc) ∧ F2 (LnV H') acc (lPre d m)) ⟨none, [], rfl, s1, upd_same, .nil⟩ ?_ ?_
    · rintro m σ H' hm ⟨z, acc, rfl, s, hL, fa⟩
      rw [fr.len] at hm
      have hm : m < d.regions.length := by omega
      rw [Int.zero_add]
      have le := lPre_le F (m := m + 1) hm
      rw [lPre_succ, List.length_append, List.length_append] at le
      refine ⟨_, rfl, .inl ⟨rfl, _, SqL.of hL⟩, _, rfl, _, rfl, .ref p, d, m, rfl, dv_mono.go s hd, F, hm, fun H2 p2 N2 => ?_⟩
      obtain ⟨s2, n2, js, h2, f2⟩ := N2
      refine ⟨L, p2, acc, js, rfl, rfl, s2 _ _ hL, h2, by rw [fa.len, f2.len]; exact sz (by omega), ?_⟩
      have ts := ts_upd (o := .lst (acc ++ js)) (s2 _ _ hL)
      have fa2 := (f2_t ln_t ((ts_same s2).trans ts) fa).append (f2_t ln_t ts f2)
      have S2 : Same H (upd H2 L (.lst (acc ++ js))) := same_mut (s.trans s2) nL
      generalize hH3 : upd H2 L (.lst (acc ++ js)) = H3 at fa2 S2 ⊢
      have hL3 : H3 L = some (.lst (acc ++ js)) := by rw [← hH3, upd_same]
      refine ⟨_, rfl, .inl ⟨rfl, _, SqL.of hL3⟩, _, rfl, _, rfl, .ref p, d, m, rfl, dv_mono.go S2 hd, F, hm, fun H4 p4 N4 => ?_⟩
      obtain ⟨s4, n4, qs, h4, f4⟩ := N4
      refine ⟨L, p4, acc ++ js, qs, rfl, rfl, s4 _ _ hL3, h4, by rw [fa2.len, f4.len, List.length_append]; exact sz (by omega), _, _, rfl, same_mut (S2.trans s4) nL, upd_same, ?_⟩
      have ts := ts_upd (o := .lst ((acc ++ js) ++ qs)) (s4 _ _ hL3)
      rw [lPre_succ, ← List.append_assoc]
      exact (f2_t ln_t ((ts_same s4).trans ts) fa2).append (f2_t ln_t ts f4)
    · rintro σ H' ⟨z, acc, rfl, s, hL, fa⟩
      rw [fr.len] at fa
      have e : ((d.regions.length : Int)).toNat = d.regions.length := by omega
      rw [e] at fa
      exact ⟨_, rfl, k H' L ⟨s, nL, acc, hL, fa⟩⟩
def sp_drawn (a : Ads) : Sp := fun vs H Q _ => ∃ Z v d w x, vs = [v, w] ∧ Held Z H ∧ DV a (cut Z H) v d ∧ Fit d ∧ LnV H w x ∧ x ∈ Uw61.lines d ∧ ∀ H' u, Same H H' → DV a (cut Z H') u (Uw61.drawn d x) → Q u H'
theorem ok_drawn {P : Program} {w : World} {K : PySem.W.Frag} {mg : Str → Option Value} {base : Heap} {a : Ads} (T : Txt K mg a) : FnOk P w K mg base CX0 4 a.f_drawn a.d_drawn ["drawing", "line"] (sp_drawn a) := by
  refine T.F_drawn.ok sc_drawn (fun vs H Q E h => ?_) (fun cdv A outer s H vs Q E hr h => ⟨_, (pss_cons (ps_if (pt_cmpR op_eq (pe_ix ix_tup (pv 1) pe_int (fun _ _ => rfl)) (pe_glob (v := .int 1) rfl T.mg_JOIN ⟨_, rfl⟩) (nomark _))
  (pss_one (ps_ret (pe_call (ok_joined T) (hr.mono (by decide)) rfl T.mg_joined T.F_joined.kp (b_joined T) .nil pass0 (pa_cons (pv 0) (pa_cons (pe_ix ix_tup (pv 1) pe_int (fun _ _ => rfl)) (pa_cons (pe_ix ix_tup (pv 1) pe_int (fun _ _ => rfl)) (pa_cons (pe_ix ix_tup (pv 1) pe_int (fun _ _ => rfl)) (pa_cons (pe_ix ix_tup (pv 1) pe_int (fun _ _ => rfl)) (pa_cons (pe_ix ix_tup (pv 1) pe_int (fun _ _ => rfl)) pa_nil))))))))) pss_nil)
  (pss_one (ps_ret (pe_call (ok_parted T) (hr.mono (by decide)) rfl T.mg_parted T.F_parted.kp (b_parted T) .nil pass0 (pa_cons (pv 0) (pa_cons (pe_ix ix_tup (pv 1) pe_int (fun _ _ => rfl)) (pa_cons (pe_ix ix_tup (pv 1) pe_int (fun _ _ => rfl)) (pa_cons (pe_ix ix_tup (pv 1) pe_int (fun _ _ => rfl)) (pa_cons (pe_ix ix_tup (pv 1) pe_int (fun _ _ => rfl)) (pa_cons (pe_ix ix_tup (pv 1) pe_int (fun _ _ => rfl)) pa_nil)))))))))), ?_⟩)
  · obtain ⟨Z, v, d, w, x, rfl, _⟩ := h; rfl
  · obtain ⟨Z, v, d, w, x, rfl, hz, hd, F, hw, hx, k⟩ := h
    cases x with
    | join r x i y j =>
      obtain ⟨t, rfl, ht⟩ := hw
      obtain ⟨h1, h2, h3, h4, h5⟩ := join_ok hx
      have sq := SqT.of (K := K) ht
      refine ⟨_, rfl, t, _, _, _, rfl, rfl, sq, rfl, rfl, _, rfl, iteT ?_⟩
      refine ⟨_, rfl, _, rfl, t, _, _, _, rfl, rfl, sq, rfl, _, rfl, t, _, _, _, rfl, rfl, sq, rfl, _, rfl, t, _, _, _, rfl, rfl, sq, rfl, _, rfl, t, _, _, _, rfl, rfl, sq, rfl, _, rfl, t, _, _, _, rfl, rfl, sq, rfl, ?_⟩
      exact ⟨Z, v, d, r, x, i, y, j, rfl, hz, hd, F, h1, h2, h3, h4, h5, k⟩
    | part r x i j ks =>
      obtain ⟨t, q, rfl, ht, tk, rfl, htk⟩ := hw
      obtain ⟨h1, h2, h3, h4, h5, h6⟩ := part_ok hx
      have sq := SqT.of (K := K) ht
      refine ⟨_, rfl, t, _, _, _, rfl, rfl, sq, rfl, rfl, _, rfl, iteF ?_⟩
      refine ⟨_, rfl, _, rfl, t, _, _, _, rfl, rfl, sq, rfl, _, rfl, t, _, _, _, rfl, rfl, sq, rfl, _, rfl, t, _, _, _, rfl, rfl, sq, rfl, _, rfl, t, _, _, _, rfl, rfl, sq, rfl, _, rfl, t, _, _, _, rfl, rfl, sq, rfl, ?_⟩
      exact ⟨Z, v, d, r, x, i, j, ks, tk, rfl, hz, hd, F, h1, h2, h3, h4, .inr htk, h5, h6, k⟩
def sp_numbers_of : Sp := fun vs H Q _ => ∃ w x, vs = [w] ∧ LnV H w x ∧ (∀ r b i j ks, x = .part r b i j ks → ks.length ≤ 1000) ∧ ∀ H' q, Same H H' → H q = none → H' q = some (.lst ((Uw61.lineRow x).map V.int)) → Q (.ref q) H'
theorem ok_numbers_of {P : Program} {w : World} {K : PySem.W.Frag} {mg : Str → Option Value} {base : Heap} {a : Ads} (T : Txt K mg a) : FnOk P w K mg base CX0 1 a.f_numbers_of a.d_numbers_of ["line"] (sp_numbers_of) := by
  refine T.F_numbers_of.ok sc_numbers_of (fun vs H Q E h => ?_) (fun cdv A outer s H vs Q E hr h => ⟨_, (pss_cons (ps_if (pt_cmpR op_eq (pe_ix ix_tup (pv 0) pe_int (fun _ _ => rfl)) (pe_glob (v := .int 1) rfl T.mg_JOIN ⟨_, rfl⟩) (nomark _))
  (pss_one (ps_ret (pe_callTy call_list_of (by rfl) T.n_list (by decide +kernel) (pa_cons (pv 0) pa_nil)))) pss_nil)
  (pss_one (ps_ret (pe_op op_cat (pe_op op_cat (pe_callTy call_list_of (by rfl) T.n_list (by decide +kernel) (pa_cons (pe_slice sl_tupA (pv 0) po_none (po_some pe_int)) pa_nil)) (pe_lst (pa_cons (pe_callB call_len_seq (by rfl) T.n_len PySem.boot_len (pa_cons (pe_ix ix_tup (pv 0) pe_int (fun _ _ => rfl)) pa_nil)) pa_nil))) (pe_callTy call_list_of (by rfl) T.n_list (by decide +kernel) (pa_cons (pe_ix ix_tup (pv 0) pe_int (fun _ _ => rfl)) pa_nil)))))), ?_⟩)
  · obtain ⟨w, x, rfl, _⟩ := h; rfl
  · obtain ⟨w, x, rfl, hw, hk, k⟩ := h
    cases x with
    | join r x i y j =>
      obtain ⟨t, rfl, ht⟩ := hw
      have sq := SqT.of (K := K) ht
      refine ⟨_, rfl, t, _, _, _, rfl, rfl, sq, rfl, rfl, _, rfl, iteT ?_⟩
      exact ⟨_, rfl, t, _, rfl, .inr sq, fun q nq => k _ q (same_new nq) nq (upd_same.trans rfl)⟩
    | part r x i j ks =>
      obtain ⟨t, q, rfl, ht, tk, rfl, htk⟩ := hw
      have kl := hk r x i j ks rfl
      have sq := SqT.of (K := K) ht
      refine ⟨_, rfl, t, _, _, _, rfl, rfl, sq, rfl, rfl, _, rfl, iteF ?_⟩
      refine ⟨_, rfl, _, rfl, t, _, rfl, sq, fun z => absurd z.2 (by show ¬ (5 : Nat) = 6; decide), fun _ p1 n1 => ?_⟩
      have s1 := same_new (o := .tup (cutV [V.int 2, V.int (r : Int), V.int (x : Int), V.int (i : Int), V.int (j : Int), V.ref tk] none (some 5))) n1
      refine ⟨p1, _, rfl, .inr (SqT.of upd_same), fun p2 n2 => ?_⟩
      have s2 := s1.trans (same_new (o := .lst (cutV [V.int 2, V.int (r : Int), V.int (x : Int), V.int (i : Int), V.int (j : Int), V.ref tk] none (some 5))) n2)
      refine ⟨_, rfl, t, _, _, _, rfl, rfl, SqT.of (s2 _ _ ht), rfl, tk, _, rfl, .inr (SqT.of (s2 _ _ htk)), sz (by show 1 ≤ 100000; decide), fun p3 n3 => ?_⟩
      refine ⟨p2, p3, _, _, rfl, rfl, same_new n3 _ _ upd_same, upd_same, sz (by show 6 ≤ 100000; decide), fun p4 n4 => ?_⟩
      have s4 := (s2.trans (same_new (o := .lst [V.int ((nv ks).length : Int)]) n3)).trans (same_new (o := .lst (cutV [V.int 2, V.int (r : Int), V.int (x : Int), V.int (i : Int), V.int (j : Int), V.ref tk] none (some 5) ++ [V.int ((nv ks).length : Int)])) n4)
      refine ⟨_, rfl, t, _, _, _, rfl, rfl, SqT.of (s4 _ _ ht), rfl, tk, _, rfl, .inr (SqT.of (s4 _ _ htk)), fun p5 n5 => ?_⟩
      have s5 := s4.trans (same_new (o := .lst (nv ks)) n5)
      refine ⟨p4, p5, _, _, rfl, rfl, same_new n5 _ _ upd_same, upd_same, ?_, fun p6 n6 => k _ p6 (s5.trans (same_new n6)) (s5.free n6) (upd_same.trans ?_)⟩
      · rw [nv_length]; exact sz (by show 6 + _ ≤ _; omega)
      · rw [nv_length, nv_ints]
        show _ = some (HO.lst ((Uw61.ints [2, r, x, i, j] ++ Uw61.counted ks).map V.int))
        rw [List.map_append]
        rfl
end Sg

/-! ### text W8 -/
namespace Sg
open PySem PySem.Spec PyProof.Rows L2
open Uw61 (Drawing Line)

/-! ### lean drawings -/
/-- a drawing as a key -/
def kNums (l : List Nat) : NK := .tup (l.map fun n => .num (n : Nat))
def kRows (bs : List (List Nat)) : NK := .tup (bs.map kNums)
def formKey (d : Drawing) : NK := .tup [kNums d.ends, .tup (d.regions.map kRows)]
theorem keyVs_nums (H : Hp) : ∀ l : List Nat, KeyVs H (nv l) (l.map fun n => .num (n : Nat))
  | [] => .nil
  | n :: l => .cons (.int n) (keyVs_nums H l)
theorem keyVs_of {α : Type} {H : Hp} {f : α → NK} : ∀ {vs : List V} {xs : List α}, F2 (fun v x => KeyV H v (f x)) vs xs → KeyVs H vs (xs.map f)
  | _, _, .nil => .nil
  | _, _, .cons h t => .cons h (keyVs_of t)
def KNums : HR (List Nat) := fun H v l => KeyV H v (kNums l)
def KRows : HR (List (List Nat)) := fun H v l => KeyV H v (kRows l)
theorem knums_t : TMon KNums := ⟨fun s h => KeyV.mono s h⟩
theorem krows_t : TMon KRows := ⟨fun s h => KeyV.mono s h⟩
def sp_form_of (a : Ads) : Sp := fun vs H Q _ => ∃ v d, vs = [v] ∧ DV a H v d ∧ Fit d ∧ ∀ H' q, Same H H' → KeyV H' (.ref q) (formKey d) → Q (.ref q) H'
theorem ok_form_of {P : Program} {w : World} {K : PySem.W.Frag} {mg : Str → Option Value} {base : Heap} {a : Ads} (T : Txt K mg a) : FnOk P w K mg base CX0 1 a.f_form_of a.d_form_of ["drawing"] (sp_form_of a) := by
  refine T.F_form_of.ok sc_form_of (fun vs H Q E h => ?_) (fun cdv A outer s H vs Q E hr h => ⟨_, (pss_cons (ps_setLc (i := 1) (own := [("borders", 2)]) rfl sc_form_of.nd rfl rfl (sw_true rfl rfl rfl (by decide +kernel)) (pi_list (pe_fld (pv 0) rfl)) (blkOk_by (N := ["drawing", "regions", "borders", "border"]) (sc := defScope s_form_of) (own := [("borders", 2)]) (by decide +kernel)) (fun _ _ _ _ _ => (pg_name (i := 2) sc_form_of.nd rfl (Or.inl rfl))) (fun _ _ _ _ _ => pts_nil) (fun _ _ _ _ _ => (pe_tupleOfK K (by rfl) T.n_tuple (pe_lc (own := [("border", 3)]) (wi := iList K (tVar 2)) rfl sc_form_of.nd (pi_list (pv 2)) (blkOk_by (own := [("border", 3)]) (by kernel_rfl)) (fun _ _ _ _ _ => (pg_name (i := 3) sc_form_of.nd rfl (Or.inl rfl))) (fun _ _ _ _ _ => pts_nil) (fun _ _ _ _ _ => (pe_tupleOfK K (by rfl) T.n_tuple (pv 3) rfl))) rfl)))
  (pss_one (ps_ret (pe_tup (pa_cons (pe_tupleOf (by rfl) T.n_tuple (pe_fld (pv 0) rfl)) (pa_cons (pe_tupleOf (by rfl) T.n_tuple (pv 1)) pa_nil)))))), ?_⟩)
  · obtain ⟨v, d, rfl, _⟩ := h; rfl
  · obtain ⟨v, d, rfl, hd, F, k⟩ := h
    obtain ⟨p, dx, e, rr, rfl, hp, ⟨qe, rfl, hqe⟩, q, rs, rfl, hq, fr⟩ := id hd
    have rg := F.rg
    refine ⟨_, rfl, p, a.CD, dx, _, _, rfl, hp, T.clD, T.nRegions, dF_regions _ _, q, rfl, ⟨_, SqL.of hq⟩, fun D nD => ?_⟩
    refine lc_list (K := K) (a := q) (xs := rs) (fun i H2 => Same H H2 ∧ ∃ vs, H2 D = some (.lst vs) ∧ F2 (KRows H2) vs (d.regions.take i)) ⟨same_new nD, [], upd_same, .nil⟩ (fun i H2 _ z => SqL.of (z.1 _ _ hq)) ?_ ?_
    · rintro i w H2 hi ⟨s2, vs, hD, f2⟩
      obtain ⟨bs, hb, qb, ws, rfl, hw, fb⟩ := fr.getL hi
      have b6 := F.b6 _ (List.mem_of_getElem? hb)
      have hw := s2 _ _ hw
      refine ⟨rfl, yes_of ⟨_, rfl, qb, rfl, ⟨_, SqL.of hw⟩, fun D2 nD2 => ?_⟩⟩
      refine lc_list (K := K) (a := qb) (xs := ws) (fun j H3 => Same H2 H3 ∧ ∃ us, H3 D2 = some (.lst us) ∧ F2 (KNums H3) us (bs.take j)) ⟨same_new nD2, [], upd_same, .nil⟩ (fun j H3 _ z => SqL.of (z.1 _ _ hw)) ?_ ?_
      · rintro j u H3 hj ⟨s3, us, hD2, f3⟩
        obtain ⟨l, hl, pl, rfl, hpl⟩ := fb.getL hj
        have hpl := s3 _ _ (s2 _ _ hpl)
        have jlt := (List.getElem?_eq_some_iff.mp hl).1
        refine ⟨rfl, yes_of ⟨_, rfl, .inl ⟨pl, _, rfl, SqL.of hpl, fun t nt => ?_⟩⟩⟩
        have s4 := same_new (o := .tup (nv l)) nt
        have ts := (ts_same s4).trans (ts_upd (o := .lst (us ++ [V.ref t])) (s4 _ _ hD2))
        refine ⟨us, s4 _ _ hD2, ?_, same_mut (s3.trans s4) nD2, _, upd_same, ?_⟩
        · rw [f3.len, List.length_take]; exact szl (by omega)
        · rw [take_get hl]
          refine (f2_t knums_t ts f3).append (.one (.tup (ts_upd (o := .lst (us ++ [V.ref t])) (s4 _ _ hD2) _ _ upd_same) (keyVs_nums _ l)))
      · rintro H3 ⟨s3, us, hD2, f3⟩
        rw [fb.len, List.take_length] at f3
        refine .inl ⟨D2, _, rfl, SqL.of hD2, fun t nt => ?_⟩
        have s4 := same_new (o := .tup us) nt
        have hD4 := s4 _ _ (s3 _ _ hD)
        have ts := (ts_same s4).trans (ts_upd (o := .lst (vs ++ [V.ref t])) hD4)
        have ilt := (List.getElem?_eq_some_iff.mp hb).1
        refine ⟨vs, hD4, ?_, same_mut ((s2.trans s3).trans s4) nD, _, upd_same, ?_⟩
        · rw [f2.len, List.length_take]; exact szl (by omega)
        · rw [take_get hb]
          refine (f2_t krows_t ((ts_same s3).trans ts) f2).append (.one (.tup (ts_upd (o := .lst (vs ++ [V.ref t])) hD4 _ _ upd_same) (keyVs_of (f2_t knums_t ts f3))))
    · rintro H2 ⟨s2, vs, hD, f2⟩
      rw [fr.len, List.take_length] at f2
      refine ⟨_, rfl, p, a.CD, dx, _, _, rfl, s2 _ _ hp, T.clD, T.nEnds, dF_ends _ _, .inl ⟨qe, _, rfl, SqL.of (s2 _ _ hqe), fun t1 n1 => ?_⟩⟩
      have s3 := same_new (o := .tup (nv d.ends)) n1
      refine ⟨_, rfl, .inl ⟨D, _, rfl, SqL.of (s3 _ _ hD), fun t2 n2 => ?_⟩⟩
      have s4 := same_new (o := .tup vs) n2
      refine ⟨sz (by show 2 ≤ 100000; decide), fun t3 n3 => ?_⟩
      have s5 := same_new (o := .tup [V.ref t1, V.ref t2]) n3
      refine k _ t3 (((s2.trans s3).trans s4).trans s5) (.tup upd_same (.cons (.tup (s5 _ _ (s4 _ _ upd_same)) (keyVs_nums _ _)) (.cons (.tup (s5 _ _ upd_same) (keyVs_of (f2_t krows_t (ts_same ((s3.trans s4).trans s5)) f2))) .nil)))
/-- names, as the dict has them -/
def nk (ns : List Nat) : List (Key × V) := ns.zipIdx.map fun x => (Sum.inl (x.1 : Int), V.int ((1 + x.2 : Nat) : Int))
def nkFrom (n : Nat) (ns : List Nat) : List (Key × V) := (ns.zipIdx n).map fun x => (Sum.inl (x.1 : Int), V.int ((1 + x.2 : Nat) : Int))
theorem nkFrom_val (x : Nat) : ∀ (ns : List Nat) (n : Nat), valV (nkFrom n ns) (Sum.inl (x : Int)) = if x ∈ ns then some (V.int ((1 + (n + ns.idxOf x) : Nat) : Int)) else none
  | [], n => by simp [nkFrom, valV_nil]
  | y :: ns, n => by
    have ih := nkFrom_val x ns (n + 1)
    unfold nkFrom at ih ⊢
    rw [List.zipIdx_cons, List.map_cons]
    by_cases c : y = x
    · subst c
      rw [valV_pos rfl, if_pos (by simp)]; simp
    · rw [valV_neg (fun q => c (by have := Sum.inl.inj q; omega)), ih]
      by_cases h : x ∈ ns
      · have e : (y :: ns).idxOf x = ns.idxOf x + 1 := by
          have c' : (y == x) = false := by simpa using c
          rw [List.idxOf_cons, c']; rfl
        rw [if_pos h, if_pos (by simp [h]), e]
        congr 3
        omega
      · rw [if_neg h, if_neg (by simp [h]; exact fun q => c q.symm)]
theorem nk_val (x : Nat) (ns : List Nat) : valV (nk ns) (Sum.inl (x : Int)) = if x ∈ ns then some (V.int ((1 + ns.idxOf x : Nat) : Int)) else none := by
  have := nkFrom_val x ns 0
  simpa [nk, nkFrom] using this
theorem nk_len (ns : List Nat) : (nk ns).length = ns.length := by unfold nk; rw [List.length_map, List.length_zipIdx]
theorem nk_snoc (ns : List Nat) (x : Nat) : nk (ns ++ [x]) = nk ns ++ [(Sum.inl (x : Int), V.int ((1 + ns.length : Nat) : Int))] := by
  unfold nk
  rw [List.zipIdx_append, List.map_append]; simp
def sp_shown_as (a : Ads) : Sp := fun vs H Q _ => ∃ v d x n ns, vs = [v, .int (x : Nat), .ref n] ∧ DV a H v d ∧ Fit d ∧ x < d.ends.length ∧ H n = some (.dK (nk ns)) ∧ ns.length ≤ 1000 ∧
  ∀ H', (∀ b o, H b = some o → b ≠ n → H' b = some o) → H' n = some (.dK (nk (shownAs d ns x).2)) → (∀ b, H b = none → H' b = none) → Q (.int ((shownAs d ns x).1 : Nat)) H'
theorem ok_shown_as {P : Program} {w : World} {K : PySem.W.Frag} {mg : Str → Option Value} {base : Heap} {a : Ads} (T : Txt K mg a) : FnOk P w K mg base CX0 2 a.f_shown_as a.d_shown_as ["drawing", "spot", "names"] (sp_shown_as a) := by
  refine T.F_shown_as.ok sc_shown_as (fun vs H Q E h => ?_) (fun cdv A outer s H vs Q E hr h => ⟨_, (pss_cons (ps_if (pt_cmpR op_eq (pe_meth (pv 0) T.clD T.m_D_lives_of (ok_D_lives_of T) (hr.mono (by decide)) (b_D_lives_of T) .nil pass0 (pa_cons (pv 1) pa_nil)) pe_int (nomark _))
  (pss_one (ps_ret (pe_glob (v := .int 0) rfl T.mg_DEAD ⟨_, rfl⟩))) pss_nil)
  (pss_cons (ps_if (pt_cmp (pc_dnotin (hu_of hr) (pv 1) (pv 2)) rfl)
  (pss_one (ps_dput (hu_of hr) (pv 2) (pv 1) (pe_op op_add pe_int (pe_callB call_lenD (by rfl) T.n_len PySem.boot_len (pa_cons (pv 2) pa_nil))) rfl)) pss_nil)
  (pss_one (ps_ret (pe_dget (hu_of hr) (pv 2) (pv 1) (fun _ _ => rfl)))))), ?_⟩)
  · obtain ⟨v, d, x, n, ns, rfl, _⟩ := h; rfl
  · obtain ⟨v, d, x, n, ns, rfl, hd, F, hx, hn, hl, k⟩ := h
    obtain ⟨p, dx, e, rr, rfl, hp, _, _⟩ := id hd
    have no : (dF e rr).lookup ("lives_of" : Str) = none := dF_no (by decide +kernel) (by decide +kernel) _ _
    have ks := k H (fun _ _ h _ => h)
    refine ⟨_, rfl, p, dx, _, rfl, hp, no, _, rfl, .ref p, d, x, rfl, hd, F, hx, rfl, _, rfl, ?_⟩
    refine ite2 (fun c => ?_) (fun c => ?_)
    · have c := of_decide_eq_true c
      have c : Uw61.lives d x = 0 := by injection c with c; omega
      have e : shownAs d ns x = (0, ns) := by unfold shownAs; rw [if_pos c]
      rw [e] at ks
      exact ks hn (fun b h => h)
    · have c : ¬ Uw61.lives d x = 0 := fun z => c (decide_eq_true (by rw [z]; rfl))
      refine ⟨_, rfl, _, rfl, n, _, rfl, DGet.k (k := Sum.inl (x : Int)) hn, _, rfl, ?_⟩
      by_cases h : x ∈ ns
      · have e : shownAs d ns x = (1 + ns.idxOf x, ns) := by unfold shownAs; rw [if_neg c, if_pos h]
        rw [e] at ks
        have ev : valV (nk ns) (Sum.inl (x : Int)) = some (V.int ((1 + ns.idxOf x : Nat) : Int)) := by rw [nk_val, if_pos h]
        rw [ev]
        exact iteF ⟨_, rfl, _, rfl, n, _, rfl, by rw [← ev]; exact DGet.k (k := Sum.inl (x : Int)) hn, ks hn (fun b h => h)⟩
      · have e : shownAs d ns x = (1 + ns.length, ns ++ [x]) := by unfold shownAs; rw [if_neg c, if_neg h]
        have ev : valV (nk ns) (Sum.inl (x : Int)) = none := by rw [nk_val, if_neg h]
        rw [ev]
        refine iteT ?_
        refine ⟨_, rfl, n, _, rfl, hn, _, _, rfl, rfl, _, rfl, _, rfl, n, _, rfl, DPut.k (k := Sum.inl (x : Int)) hn (by rw [nk_len]; exact szl (by omega)), ?_⟩
        have ep : putK (nk ns) (Sum.inl (x : Int)) (V.int (1 + ((nk ns).length : Int))) = nk (ns ++ [x]) := by
          rw [putK_new _ ev, nk_snoc, nk_len]
          congr 3
        rw [ep]
        have ev2 : valV (nk (ns ++ [x])) (Sum.inl (x : Int)) = some (V.int ((1 + ns.length : Nat) : Int)) := by
          rw [nk_val, if_pos (by simp), List.idxOf_append, if_neg h]; simp
        refine ⟨_, rfl, _, rfl, n, _, rfl, by rw [← ev2]; exact DGet.k (k := Sum.inl (x : Int)) upd_same, ?_⟩
        rw [e] at k
        refine k _ (fun b o q hb => by rw [upd_ne hb]; exact q) upd_same (fun b q => by rw [upd_ne (fun z => by rw [z, hn] at q; cases q)]; exact q)
end Sg

/-! ### text W9 -/
namespace Sg
open PySem PySem.Spec PyProof.Rows L2
open Uw61 (Drawing Line)

/-- the last of a row that begins with p -/
def lastOf (p : Nat) (t : List Nat) : Nat := t.getLast?.getD p
theorem lastOf_cons (p x : Nat) (t : List Nat) : lastOf p (x :: t) = lastOf x t := by
  unfold lastOf
  cases t with
  | nil => rfl
  | cons y t => rw [List.getLast?_cons_cons, List.getLast?_eq_some_getLast (by simp)]; rfl
theorem lastOf_snoc (p : Nat) (t : List Nat) (y : Nat) : lastOf p (t ++ [y]) = y := by
  unfold lastOf; rw [List.getLast?_concat]; rfl
theorem thin_snoc (y : Nat) : ∀ (r : List Nat) (p : Nat), thin p (r ++ [y]) = thin p r ++ (if y = 0 ∧ lastOf p (thin p r) = 0 then [] else [y])
  | [], p => by
    show (if y = 0 ∧ p = 0 then thin 0 [] else y :: thin y []) = [] ++ (if y = 0 ∧ p = 0 then [] else [y])
    split <;> rfl
  | x :: r, p => by
    rw [List.cons_append]
    unfold thin
    by_cases c : x = 0 ∧ p = 0
    · rw [if_pos c, if_pos c, thin_snoc y r 0, c.2]
    · rw [if_neg c, if_neg c, thin_snoc y r x, lastOf_cons]; rfl
theorem split_last (p : Nat) (t : List Nat) : ∃ g, p :: t = g ++ [lastOf p t] := by
  induction t generalizing p with
  | nil => exact ⟨[], rfl⟩
  | cons x t ih =>
    obtain ⟨g, hg⟩ := ih x
    exact ⟨p :: g, by rw [lastOf_cons, List.cons_append, ← hg]⟩
def preT (l : List Nat) (i : Nat) : List Nat := match l with
  | [] => []
  | x :: r => x :: thin x (r.take i)
theorem preT_len (l : List Nat) (i : Nat) : (preT l i).length ≤ l.length := by
  cases l with
  | nil => simp [preT]
  | cons x r =>
    have := thin_len x (r.take i)
    rw [List.length_take] at this
    simp [preT]; omega
def sp_thinned : Sp := fun vs H Q _ => ∃ v l, vs = [v] ∧ IL H v l ∧ l.length ≤ 1000 ∧ ∀ H' q, Same H H' → H q = none → H' q = some (.lst (nv (thinned l))) → Q (.ref q) H'
theorem dec0 {n : Nat} : decide (V.int (n : Int) = V.int 0) = decide (n = 0) := by
  rw [Bool.eq_iff_iff, decide_eq_true_eq, decide_eq_true_eq]
  constructor
  · intro h; injection h with h; omega
  · intro h; rw [h]; rfl
theorem ok_thinned {P : Program} {w : World} {K : PySem.W.Frag} {mg : Str → Option Value} {base : Heap} {a : Ads} (T : Txt K mg a) : FnOk P w K mg base CX0 1 a.f_thinned a.d_thinned ["border"] (sp_thinned) := by
  refine T.F_thinned.ok sc_thinned (fun vs H Q E h => ?_) (fun cdv A outer s H vs Q E hr h => ⟨_, (pss_cons (ps_set (i := 1) sc_thinned.nd rfl (Or.inl rfl) (pe_slice sl_list (pv 0) po_none (po_some pe_int)))
  (pss_cons (ps_for PassesOwn.never rfl (pi_list (pe_slice sl_list (pv 0) (po_some pe_int) po_none)) (pg_name (i := 2) sc_thinned.nd rfl (Or.inl rfl))
  (pss_one (ps_if (PW.pt (pw_or (pt_cmpR op_ne (pv 2) (pe_glob (v := .int 0) rfl T.mg_DEAD ⟨_, rfl⟩) (nomark _)) (pw_or1 (pt_cmpR op_ne (pe_ix ix_list (pv 1) (pe_un un_neg pe_int) (fun _ _ => rfl)) (pe_glob (v := .int 0) rfl T.mg_DEAD ⟨_, rfl⟩) (nomark _)))))
  (pss_one (ps_expr (pe_bm PySem.F.plainAttrs_list PySem.F.slot_list_append PySem.F.type_list_append mt_append (pv 1) (pa_cons (pv 2) pa_nil)))) pss_nil)))
  (pss_cons (ps_if (PW.pt (pw_and (pt_cmpR op_gt (pe_callB call_len_seq (by rfl) T.n_len PySem.boot_len (pa_cons (pv 1) pa_nil)) pe_int (nomark _)) (pw_and (pt_cmpR op_eq (pe_ix ix_list (pv 1) pe_int (fun _ _ => rfl)) (pe_glob (v := .int 0) rfl T.mg_DEAD ⟨_, rfl⟩) (nomark _)) (pw_and1 (pt_cmpR op_eq (pe_ix ix_list (pv 1) (pe_un un_neg pe_int) (fun _ _ => rfl)) (pe_glob (v := .int 0) rfl T.mg_DEAD ⟨_, rfl⟩) (nomark _))))))
  (pss_one (ps_expr (pe_bm0 PySem.F.plainAttrs_list PySem.F.slot_list_pop PySem.F.type_list_pop mt_pop (pv 1)))) pss_nil)
  (pss_one (ps_ret (pv 1)))))), ?_⟩)
  · obtain ⟨v, l, rfl, _⟩ := h; rfl
  · obtain ⟨v, l, rfl, ⟨p, rfl, hp⟩, hl, k⟩ := h
    have e1 : cutV (nv l) none (some 1) = nv (preT l 0) := by
      have := cut_to l 1
      rw [show ((1 : Nat) : Int) = 1 from rfl] at this
      rw [this]
      cases l with
      | nil => rfl
      | cons x r => rfl
    have e2 : cutV (nv l) (some 1) none = nv (l.drop 1) := cut_from l 1
    refine ⟨_, rfl, _, rfl, p, _, rfl, SqL.of hp, fun L nL => ?_⟩
    rw [e1]
    have s1 := same_new (o := .lst (nv (preT l 0))) nL
    refine ⟨_, rfl, _, rfl, p, _, rfl, SqL.of (s1 _ _ hp), fun S nS => ?_⟩
    rw [e2]
    have s2 := s1.trans (same_new (o := .lst (nv (l.drop 1))) nS)
    refine ⟨S, rfl, ⟨_, SqL.of upd_same⟩, ?_⟩
    have nSL : S ≠ L := fun q => by rw [q, upd_same] at nS; cases nS
    refine for_list (K := K) (a := S) (xs := nv (l.drop 1)) (fun i σ H' => ∃ z, σ = [some (.ref p), some (.ref L), z] ∧ Same H H' ∧ H' S = some (.lst (nv (l.drop 1))) ∧ H' L = some (.lst (nv (preT l i)))) ⟨none, rfl, s2, upd_same, same_new nS _ _ upd_same⟩ (fun i σ H' _ ⟨_, _, _, h, _⟩ => SqL.of h) ?_ ?_
    · rintro i y σ H' hi ⟨z, rfl, s, hS, hL⟩
      obtain ⟨n, hn, rfl⟩ := nv_getL hi
      cases l with
      | nil => simp at hn
      | cons x r =>
        have hn : r[i]? = some n := hn
        obtain ⟨g, hg⟩ := split_last x (thin x (r.take i))
        have hg : preT (x :: r) i = g ++ [lastOf x (thin x (r.take i))] := hg
        have pl := preT_len (x :: r) i
        have step : preT (x :: r) (i + 1) = preT (x :: r) i ++ (if n = 0 ∧ lastOf x (thin x (r.take i)) = 0 then [] else [n]) := by
          show x :: thin x (r.take (i + 1)) = (x :: thin x (r.take i)) ++ _
          rw [take_get hn, thin_snoc]; rfl
        have app : ∀ (c : ¬ (n = 0 ∧ lastOf x (thin x (r.take i)) = 0)), upd H' L (.lst (nv (preT (x :: r) i) ++ [V.int (n : Nat)])) L = some (.lst (nv (preT (x :: r) (i + 1)))) := fun c => by
          rw [upd_same, step, if_neg c, nv_append]; rfl
        refine ⟨_, rfl, rfl, _, rfl, ?_⟩
        refine iteB (fun c => ?_) (fun c => ?_)
        · rw [dec0] at c
          refine iteT ⟨_, rfl, .inl ⟨rfl, _, SqL.of hL⟩, _, rfl, L, _, _, rfl, rfl, hL, by rw [nv_length]; exact szl (by omega), _, rfl, same_mut s nL, by rw [upd_ne nSL]; exact hS, app (fun q => by simp [q.1] at c)⟩
        · rw [dec0] at c
          have c : n = 0 := by simpa using c
          refine ⟨_, rfl, _, rfl, L, _, _, V.int (lastOf x (thin x (r.take i)) : Nat), rfl, rfl, SqL.of hL, ?_, rfl, _, rfl, ?_⟩
          · rw [hg, nv_append]; exact atI_last _ _
          rw [dec0]
          refine iteB (fun c2 => ?_) (fun c2 => ?_)
          · have c2 : ¬ lastOf x (thin x (r.take i)) = 0 := by simpa using c2
            exact ⟨_, rfl, .inl ⟨rfl, _, SqL.of hL⟩, _, rfl, L, _, _, rfl, rfl, hL, by rw [nv_length]; exact szl (by omega), _, rfl, same_mut s nL, by rw [upd_ne nSL]; exact hS, app (fun q => c2 q.2)⟩
          · have c2 : lastOf x (thin x (r.take i)) = 0 := by simpa using c2
            refine ⟨_, rfl, s, hS, ?_⟩
            rw [step, if_pos ⟨c, c2⟩, List.append_nil]; exact hL
    · rintro σ H' ⟨z, rfl, s, hS, hL⟩
      rw [nv_length] at hL
      cases l with
      | nil =>
        refine ⟨_, rfl, L, _, rfl, .inl (SqL.of hL), _, _, rfl, rfl, _, rfl, iteF ?_⟩
        exact iteF ⟨_, rfl, k H' L s nL hL⟩
      | cons x r =>
        have hL : H' L = some (.lst (nv (x :: thin x r))) := by
          have e : preT (x :: r) ((x :: r).drop 1).length = x :: thin x r := by
            show x :: thin x (r.take r.length) = _
            rw [List.take_length]
          rw [e] at hL; exact hL
        have tl := thin_len x r
        obtain ⟨g, hg⟩ := split_last x (thin x r)
        have last : (x :: thin x r).getLast? = some (lastOf x (thin x r)) := by rw [hg, List.getLast?_concat]
        have fin : ∀ c : ¬ (1 < (x :: thin x r).length ∧ (x :: thin x r).head? = some 0 ∧ (x :: thin x r).getLast? = some 0), Q (.ref L) H' := fun c => k H' L s nL (by
          show _ = some (HO.lst (nv (cutEnd (x :: thin x r))))
          unfold cutEnd
          rw [if_neg c]; exact hL)
        refine ⟨_, rfl, L, _, rfl, .inl (SqL.of hL), _, _, rfl, rfl, _, rfl, ?_⟩
        rw [nv_length]
        refine iteB (fun c => ?_) (fun c => ?_)
        · have c := of_decide_eq_true c
          refine ⟨_, rfl, L, _, _, V.int (x : Nat), rfl, rfl, SqL.of hL, atI_nat (j := 0) rfl, rfl, _, rfl, ?_⟩
          rw [dec0]
          refine iteB (fun c1 => ?_) (fun c1 => ?_)
          · have c1 := of_decide_eq_true c1
            refine ⟨_, rfl, _, rfl, L, _, _, V.int (lastOf x (thin x r) : Nat), rfl, rfl, SqL.of hL, ?_, rfl, _, rfl, ?_⟩
            · rw [hg, nv_append]; exact atI_last _ _
            rw [dec0]
            refine iteB (fun c2 => ?_) (fun c2 => ?_)
            · have c2 := of_decide_eq_true c2
              refine ⟨_, rfl, .inl ⟨rfl, _, SqL.of hL⟩, L, _, V.int (lastOf x (thin x r) : Nat), rfl, rfl, hL, ?_, _, rfl, k _ L (same_mut s nL) nL ?_⟩
              · rw [hg, nv_append, List.length_append]
                show (nv g ++ [V.int (lastOf x (thin x r) : Nat)])[(nv g).length + 1 - 1]? = _
                simp
              · rw [upd_same]
                show _ = some (HO.lst (nv (cutEnd (x :: thin x r))))
                unfold cutEnd
                rw [if_pos ⟨by omega, by rw [c1]; rfl, by rw [last, c2]⟩]
                unfold nv
                rw [List.map_dropLast]
            · refine ⟨_, rfl, fin fun q => ?_⟩
              rw [last] at q
              have := Option.some.inj q.2.2
              simp [this] at c2
          · exact iteF ⟨_, rfl, fin fun q => by
              have := Option.some.inj q.2.1
              simp [this] at c1⟩
        · exact iteF ⟨_, rfl, fin fun q => by
            have c := of_decide_eq_false c
            omega⟩
def sp_is_live (a : Ads) : Sp := fun vs H Q _ => ∃ v d w l, vs = [v, w] ∧ DV a H v d ∧ Fit d ∧ IL H w l ∧ l.length ≤ 1000 ∧ (∀ x ∈ l, x < d.ends.length) ∧ ∀ H', Same H H' → Q (.bl (liveB d l)) H'
theorem ok_is_live {P : Program} {w : World} {K : PySem.W.Frag} {mg : Str → Option Value} {base : Heap} {a : Ads} (T : Txt K mg a) : FnOk P w K mg base CX0 2 a.f_is_live a.d_is_live ["drawing", "border"] (sp_is_live a) := by
  refine T.F_is_live.ok sc_is_live (fun vs H Q E h => ?_) (fun cdv A outer s H vs Q E hr h => ⟨_, (pss_one (ps_ret (pe_callB (cr_any rfl) (by rfl) T.n_any (by decide +kernel) (pa_cons (pe_lc (own := [("spot", 2)]) rfl sc_is_live.nd (pi_list (pv 1)) (blkOk_by (N := ["drawing", "border", "spot"]) (sc := defScope s_is_live) (own := [("spot", 2)]) (by decide +kernel)) (fun _ _ _ _ _ => (pg_name (i := 2) sc_is_live.nd rfl (Or.inl rfl))) (fun _ _ _ _ _ => pts_nil) (fun _ _ _ _ _ => (pe_cmpR op_gt (pe_meth (pv 0) T.clD T.m_D_lives_of (ok_D_lives_of T) (hr.mono (by decide)) (b_D_lives_of T) .nil pass0 (pa_cons (pv 2) pa_nil)) pe_int (nomark _)))) pa_nil)))), ?_⟩)
  · obtain ⟨v, d, w, l, rfl, _⟩ := h; rfl
  · obtain ⟨v, d, w, l, rfl, hd, F, ⟨q, rfl, hq⟩, hl, hin, k⟩ := h
    obtain ⟨p, dx, e, rr, rfl, hp, _, _⟩ := id hd
    have no : (dF e rr).lookup ("lives_of" : Str) = none := dF_no (by decide +kernel) (by decide +kernel) _ _
    refine ⟨_, rfl, q, rfl, ⟨_, SqL.of hq⟩, fun D nD => ?_⟩
    refine lc_list (K := K) (a := q) (xs := nv l) (fun i H' => Same H H' ∧ H' D = some (.lst (((l.take i).map fun x => decide (0 < Uw61.lives d x)).map V.bl))) ⟨same_new nD, upd_same⟩ (fun i H' _ z => SqL.of (z.1 _ _ hq)) ?_ ?_
    · rintro i y H' hi ⟨s, hD⟩
      obtain ⟨n, hn, rfl⟩ := nv_getL hi
      have lt := (List.getElem?_eq_some_iff.mp hn).1
      refine ⟨rfl, yes_of ⟨_, rfl, p, dx, _, rfl, s _ _ hp, no, _, rfl, .ref p, d, n, rfl, dv_mono.go s hd, F, hin n (List.mem_of_getElem? hn), _, _, rfl, rfl, _, hD, ?_, same_mut s nD, ?_⟩⟩
      · rw [List.length_map, List.length_map, List.length_take]; exact szl (by omega)
      · rw [upd_same, take_get hn, List.map_append, List.map_append]
        congr 3
        show [V.bl (decide ((0 : Int) < (Uw61.lives d n : Int)))] = [V.bl (decide (0 < Uw61.lives d n))]
        congr 2
        rw [Bool.eq_iff_iff, decide_eq_true_eq, decide_eq_true_eq]
        omega
    · rintro H' ⟨s, hD⟩
      rw [nv_length, List.take_length] at hD
      refine ⟨D, _, rfl, SqL.of hD, ?_⟩
      have e : (l.map fun x => decide (0 < Uw61.lives d x)).any id = liveB d l := by unfold liveB; rw [List.any_map]; rfl
      rw [e]
      exact k H' s
/-- a list that is empty where some row is -/
def LE : HR (List (Nat × Nat)) := fun H v ps => ∃ q vs, v = .ref q ∧ H q = some (.lst vs) ∧ vs.isEmpty = ps.isEmpty
theorem le_mono : Mon LE := ⟨fun s ⟨q, vs, e, h, z⟩ => ⟨q, vs, e, s _ _ h, z⟩⟩
theorem f2_empty {α β : Type} {R : α → β → Prop} {xs : List α} {ys : List β} (f : F2 R xs ys) : xs.isEmpty = ys.isEmpty := by
  cases f <;> rfl
def sp_is_open (a : Ads) : Sp := fun vs H Q _ => ∃ v d r, vs = [v, .int (r : Nat)] ∧ DV a H v d ∧ Fit d ∧ r < d.regions.length ∧ ∀ H', Same H H' → Q (.bl (openR d (Uw61.regionAt d r))) H'
theorem ok_is_open {P : Program} {w : World} {K : PySem.W.Frag} {mg : Str → Option Value} {base : Heap} {a : Ads} (T : Txt K mg a) : FnOk P w K mg base CX0 4 a.f_is_open a.d_is_open ["drawing", "region"] (sp_is_open a) := by
  refine T.F_is_open.ok sc_is_open (fun vs H Q E h => ?_) (fun cdv A outer s H vs Q E hr h => ⟨_, (pss_cons (ps_setLc (i := 2) (own := [("border", 3)]) rfl sc_is_open.nd rfl rfl (sw_true rfl rfl rfl (by decide +kernel)) (pi_list (pe_ix ix_list (pe_fld (pv 0) rfl) (pv 1) (fun _ _ => rfl))) (blkOk_by (N := ["drawing", "region", "bows", "border", "some"]) (sc := defScope s_is_open) (own := [("border", 3)]) (by decide +kernel)) (fun _ _ _ _ _ => (pg_name (i := 3) sc_is_open.nd rfl (Or.inl rfl))) (fun _ _ _ _ _ => pts_nil) (fun _ _ _ _ _ => (pe_call (ok_bows_on T) (hr.mono (by decide)) rfl T.mg_bows_on T.F_bows_on.kp (b_bows_on T) .nil pass0 (pa_cons (pv 0) (pa_cons (pv 3) pa_nil)))))
  (pss_one (ps_ret (pe_or (pe_cmpR (op_neNil hr.units0) (pe_call (ok_joins_in T) (hr.mono (by decide)) rfl T.mg_joins_in T.F_joins_in.kp (b_joins_in T) .nil pass0 (pa_cons (pv 0) (pa_cons (pv 1) pa_nil))) (pe_lst pa_nil) (nomark _)) (pe_one (pe_callB (cr_any rfl) (by rfl) T.n_any (by decide +kernel) (pa_cons (pe_lc (own := [("some", 4)]) rfl sc_is_open.nd (pi_list (pv 2)) (blkOk_by (N := ["drawing", "region", "bows", "border", "some"]) (sc := defScope s_is_open) (own := [("some", 4)]) (by decide +kernel)) (fun _ _ _ _ _ => (pg_name (i := 4) sc_is_open.nd rfl (Or.inl rfl))) (fun _ _ _ _ _ => pts_nil) (fun _ _ _ _ _ => (pe_cmpR (r := rNeE K) (op_neNil hr.units0) (pv 4) (pe_lst pa_nil) (nomark _)))) pa_nil))))))), ?_⟩)
  · obtain ⟨v, d, r, rfl, _⟩ := h; rfl
  · obtain ⟨v, d, r, rfl, hd, F, hr', k⟩ := h
    obtain ⟨p, dx, e, rr, rfl, hp, he, hrr⟩ := id hd
    obtain ⟨q1, rs, w1, rfl, hq1, ha1, b1⟩ := region_at (Same.refl H) hrr hr'
    obtain ⟨q2, bs, rfl, hq2, fb⟩ := id b1
    have b6 := F.b6 _ (regionAt_mem hr')
    refine ⟨_, rfl, p, a.CD, dx, _, _, rfl, hp, T.clD, T.nRegions, dF_regions _ _, _, rfl, q1, _, _, _, rfl, rfl, SqL.of hq1, ha1, q2, rfl, ⟨_, SqL.of hq2⟩, fun D nD => ?_⟩
    refine lc_list (K := K) (a := q2) (xs := bs) (fun i H' => Same H H' ∧ ∃ acc, H' D = some (.lst acc) ∧ F2 (LE (cut (fun b => b = D) H')) acc (((Uw61.regionAt d r).take i).map (bowsOn d))) ⟨same_new nD, [], upd_same, .nil⟩ (fun i H' _ z => SqL.of (z.1 _ _ hq2)) ?_ ?_
    · rintro i y H' hi ⟨s, acc, hD, f⟩
      obtain ⟨l, hl, il⟩ := fb.getL hi
      have lt := (List.getElem?_eq_some_iff.mp hl).1
      have el : l = Uw61.borderAt d r i := by
        unfold Uw61.borderAt
        rw [List.getD_eq_getElem?_getD, hl]; rfl
      have bl := border_small F hr' lt
      rw [← el] at bl
      refine ⟨rfl, yes_of ⟨_, rfl, _, rfl, .ref p, d, y, l, rfl, dv_mono.go s hd, F, il_mono.go s il, by omega, fun x hx => F.wi _ (regionAt_mem hr') l (List.mem_of_getElem? hl) x hx, fun H2 p2 N2 => ?_⟩⟩
      obtain ⟨s2, n2, vs, h2, f2⟩ := N2
      have ne : p2 ≠ D := fun q => by rw [q, hD] at n2; cases n2
      refine ⟨acc, s2 _ _ hD, ?_, same_mut (s.trans s2) nD, _, upd_same, ?_⟩
      · rw [f.len, List.length_map, List.length_take]; exact szl (by omega)
      · rw [take_get hl, List.map_append, cut_upd (Z := fun b => b = D) rfl]
        exact (f2_mono le_mono (cut_mono s2) f).append (.one ⟨p2, vs, rfl, by rw [cut_not (Z := fun b => b = D) ne]; exact h2, f2_empty f2⟩)
    · rintro H2 ⟨s, acc, hD, f⟩
      rw [fb.len, List.take_length] at f
      have f := f2_mono le_mono cut_same f
      refine ⟨_, rfl, _, rfl, .ref p, d, r, rfl, dv_mono.go s hd, F, hr', fun H3 p3 N3 => ?_⟩
      obtain ⟨s3, n3, js, h3, f3⟩ := N3
      refine ⟨sz (by show 0 ≤ 100000; decide), fun p4 n4 => ?_⟩
      have s4 := same_new (o := .lst []) n4
      refine ⟨p3, p4, js, rfl, rfl, SqL.of (s4 _ _ h3), SqL.of upd_same, _, rfl, ?_⟩
      have S4 := (s.trans s3).trans s4
      rw [open_iff, ← f2_empty f3] at k
      refine iteB (fun c => ?_) (fun c => ?_)
      · rw [c] at k
        exact k _ S4
      · rw [c, Bool.false_or] at k
        have f := f2_mono le_mono (s3.trans s4) f
        refine ⟨_, rfl, D, rfl, ⟨_, SqL.of (s4 _ _ (s3 _ _ hD))⟩, fun D2 nD2 => ?_⟩
        generalize upd H3 p4 (.lst []) = H4 at S4 nD2 f s4 ⊢
        have hD4 : H4 D = some (.lst acc) := s4 _ _ (s3 _ _ hD)
        refine lc_list (K := K) (a := D) (xs := acc) (fun i H' => Same H4 H' ∧ H' D2 = some (.lst ((((Uw61.regionAt d r).take i).map fun l => !(bowsOn d l).isEmpty).map V.bl))) ⟨same_new nD2, upd_same⟩ (fun i H' _ z => SqL.of (z.1 _ _ hD4)) ?_ ?_
        · rintro i y H' hi ⟨s5, hD2⟩
          obtain ⟨ps, hps, q, vs, rfl, hq, ez⟩ := f.getL hi
          rw [List.getElem?_map] at hps
          obtain ⟨l, hl, rfl⟩ := Option.map_eq_some_iff.mp hps
          have lt := (List.getElem?_eq_some_iff.mp hl).1
          refine ⟨rfl, yes_of ⟨_, rfl, sz (by show 0 ≤ 100000; decide), fun p6 n6 => ?_⟩⟩
          have s6 := same_new (o := .lst []) n6
          refine ⟨q, p6, vs, rfl, rfl, SqL.of (s6 _ _ (s5 _ _ hq)), SqL.of upd_same, _, s6 _ _ hD2, ?_, same_mut (s5.trans s6) nD2, ?_⟩
          · rw [List.length_map, List.length_map, List.length_take]; exact szl (by omega)
          · rw [upd_same, take_get hl, List.map_append, List.map_append, ez]; rfl
        · rintro H' ⟨s5, hD2⟩
          have e1 : acc.length = (Uw61.regionAt d r).length := by rw [f.len, List.length_map]
          rw [e1, List.take_length] at hD2
          refine ⟨D2, _, rfl, SqL.of hD2, ?_⟩
          have e : ((Uw61.regionAt d r).map fun l => !(bowsOn d l).isEmpty).any id = (Uw61.regionAt d r).any fun l => !(bowsOn d l).isEmpty := by rw [List.any_map]; rfl
          rw [e]
          exact k H' (S4.trans s5)
end Sg

/-! ### text W10 -/
namespace Sg
open PySem PySem.Spec PyProof.Rows L2
open Uw61 (Drawing Line)

theorem shownRow_snoc (d : Drawing) (x : Nat) : ∀ (l ns : List Nat), shownRow d ns (l ++ [x]) = ((shownRow d ns l).1 ++ [(shownAs d (shownRow d ns l).2 x).1], (shownAs d (shownRow d ns l).2 x).2)
  | [], ns => rfl
  | y :: l, ns => by
    show ((shownAs d ns y).1 :: (shownRow d (shownAs d ns y).2 (l ++ [x])).1, (shownRow d (shownAs d ns y).2 (l ++ [x])).2) = _
    rw [shownRow_snoc d x l]; rfl
theorem leanRows_snoc (d : Drawing) (l : List Nat) : ∀ (bs : List (List Nat)) (ns : List Nat), leanRows d ns (bs ++ [l]) = ((leanRows d ns bs).1 ++ [thinned (shownRow d (leanRows d ns bs).2 l).1], (shownRow d (leanRows d ns bs).2 l).2)
  | [], ns => rfl
  | b :: bs, ns => by
    show (thinned (shownRow d ns b).1 :: (leanRows d (shownRow d ns b).2 (bs ++ [l])).1, (leanRows d (shownRow d ns b).2 (bs ++ [l])).2) = _
    rw [leanRows_snoc d l bs]; rfl
theorem leanRegs_snoc (d : Drawing) (b : List (List Nat)) : ∀ (rs : List (List (List Nat))) (ns : List Nat), leanRegs d ns (rs ++ [b]) =
    if openR d b = true then ((leanRegs d ns rs).1 ++ [(leanRows d (leanRegs d ns rs).2 (b.filter (liveB d))).1], (leanRows d (leanRegs d ns rs).2 (b.filter (liveB d))).2) else leanRegs d ns rs
  | [], ns => by
    show (if openR d b = true then _ else _) = _
    by_cases c : openR d b = true
    · rw [if_pos c, if_pos c]; rfl
    · rw [if_neg c, if_neg c]
  | x :: rs, ns => by
    rw [List.cons_append]
    unfold leanRegs
    by_cases h : openR d x = true
    · rw [if_pos h, if_pos h, leanRegs_snoc d b rs]
      by_cases c : openR d b = true
      · rw [if_pos c, if_pos c]; rfl
      · rw [if_neg c, if_neg c]
    · rw [if_neg h, if_neg h]; exact leanRegs_snoc d b rs ns
/-- names that are good -/
def Names (d : Drawing) (ns : List Nat) : Prop := ns.Nodup ∧ ∀ x ∈ ns, 0 < Uw61.lives d x
theorem Names.grow {d : Drawing} {S : Nat → Prop} {ns ns' : List Nat} (h : Names d ns) (g : Grow d S ns ns') : Names d ns' :=
  ⟨g.nd h.1, fun x hx => (g.new x hx).elim (h.2 x) fun q => q.2⟩
theorem Names.len {d : Drawing} {ns : List Nat} (h : Names d ns) : ns.length ≤ d.ends.length := by
  have := nodup_len ns (List.range d.ends.length) h.1 fun x hx => by simpa using lives_ge (h.2 x hx)
  simpa using this
theorem Names.nil (d : Drawing) : Names d [] := ⟨List.nodup_nil, fun x hx => by simp at hx⟩
/-- all but one thing stands -/
def SB (n : Addr) (H H' : Hp) : Prop := ∀ b o, H b = some o → b ≠ n → H' b = some o
theorem SB.refl (n : Addr) (H : Hp) : SB n H H := fun _ _ h _ => h
theorem SB.of {n : Addr} {H H' : Hp} (s : Same H H') : SB n H H' := fun b o h _ => s _ _ h
theorem SB.trans {n : Addr} {H H1 H2 : Hp} (a : SB n H H1) (b : SB n H1 H2) : SB n H H2 := fun c o h ne => b _ _ (a _ _ h ne) ne
theorem SB.mut {n p : Addr} {H H' : Hp} {o : HO} (s : SB n H H') (h : H p = none) : SB n H (upd H' p o) := fun b u q ne => by
  rw [upd_ne (ne_of_none q h)]; exact s b u q ne
theorem SB.same {n : Addr} {H H1 H' : Hp} (s0 : Same H H1) (s : SB n H1 H') (h : H n = none) : Same H H' := fun b o q => s _ _ (s0 _ _ q) (ne_of_none q h)
theorem SB.cut {n : Addr} {Z : Addr → Prop} {H H' : Hp} (s : SB n H H') (hz : Z n) : Same (cut Z H) (cut Z H') := fun b o q => by
  by_cases c : Z b
  · have : Sg.cut Z H b = none := if_pos c
    rw [this] at q; cases q
  · rw [cut_not c] at q ⊢; exact s _ _ q (fun e => c (by rw [e]; exact hz))
theorem SB.fresh {n p : Addr} {H H' : Hp} (s : SB n H H') (h : H' p = none) (ne : p ≠ n) : H p = none := by
  cases c : H p with
  | none => rfl
  | some o => rw [s _ _ c ne] at h; cases h
/-- a comprehension over a locked dict's keys -/
theorem lc_keys {d : Addr} {od : Obj} {kvs : List (Key × V)} {g : TG} {tt : TT} {te : TE} {vs : List Nat} {σ : L2.St} {H1 : Hp} {D : Addr} {Qd : Hp → Prop} (Pv : Nat → Hp → Prop) (h0 : Pv 0 (upd H1 D (.lst []))) (hl : ∀ i H, i ≤ kvs.length → Pv i H → H d = some (.frz od (.dK kvs)))
    (hs : ∀ i k v H, kvs[i]? = some (k, v) → Pv i H → g (kV k) (wipe σ vs) H fun σ2 H2 => wipe σ2 vs = wipe σ vs ∧ tt σ2 H2 fun b H3 =>
      if b = true then te σ2 H3 fun y H4 => ∃ acc, H4 D = some (.lst acc) ∧ acc.length < sizeLine ∧ Pv (i + 1) (upd H4 D (.lst (acc ++ [y]))) else Pv (i + 1) H3) (hd : ∀ H, Pv kvs.length H → Qd H) :
    ∃ W : Nat → Nat → Hp → Prop, (∃ m, W 0 m (upd H1 D (.lst []))) ∧ ∀ i m H, W i m H →
      ((Itk d od kvs).stop i H ∧ Qd H) ∨ ((Itk d od kvs).go i H ∧ ∃ Nx : Hp → Prop, (∀ H', Nx H' → ∃ m', m' < m ∧ W (i + 1) m' H') ∧ ∀ x H', (Itk d od kvs).yld i H x H' → g x (wipe σ vs) H' fun σ2 H2 => wipe σ2 vs = wipe σ vs ∧ tt σ2 H2 fun b H3 =>
        if b = true then te σ2 H3 fun y H4 => ∃ acc, H4 D = some (.lst acc) ∧ acc.length < sizeLine ∧ Nx (upd H4 D (.lst (acc ++ [y]))) else Nx H3) := by
  refine ⟨fun i m H => m = kvs.length - i ∧ i ≤ kvs.length ∧ Pv i H, ⟨_, rfl, Nat.zero_le _, h0⟩, ?_⟩
  rintro i m H ⟨rfl, hi, p⟩
  have q := hl i H hi p
  by_cases c : i < kvs.length
  · refine .inr ⟨⟨q, c⟩, Pv (i + 1), fun H' p' => ⟨kvs.length - (i + 1), by omega, rfl, c, p'⟩, ?_⟩
    rintro x H' ⟨rfl, k, v, hkv, rfl⟩
    exact hs i k v H' hkv p
  · have e : i = kvs.length := by omega
    subst e
    exact .inl ⟨⟨q, Nat.le_refl _⟩, hd H p⟩
theorem filter_take {p : List Nat → Bool} {l : List (List Nat)} {i : Nat} {x : List Nat} (h : l[i]? = some x) : (l.take (i + 1)).filter p = (l.take i).filter p ++ (if p x = true then [x] else []) := by
  rw [take_get h, List.filter_append, List.filter_cons, List.filter_nil]
theorem nk_getL {ns : List Nat} {i : Nat} {k : Key} {v : V} (h : (nk ns)[i]? = some (k, v)) : ∃ x, ns[i]? = some x ∧ k = Sum.inl (x : Int) := by
  unfold nk at h
  rw [List.getElem?_map, List.getElem?_zipIdx] at h
  cases c : ns[i]? with
  | none => rw [c] at h; cases h
  | some n => rw [c] at h; exact ⟨n, rfl, (Prod.mk.inj (Option.some.inj h)).1.symm⟩
def sp_lean (a : Ads) : Sp := fun vs H Q _ => ∃ v d, vs = [v] ∧ DV a H v d ∧ Fit d ∧ ∀ H' w, Same H H' → DV a H' w (leanOf d) → Q w H'
theorem ok_lean {P : Program} {w : World} {K : PySem.W.Frag} {mg : Str → Option Value} {base : Heap} {a : Ads} (T : Txt K mg a) : FnOk P w K mg base CX0 5 a.f_lean a.d_lean ["drawing"] (sp_lean a) := by
  refine T.F_lean.ok sc_lean (fun vs H Q E h => ?_) (fun cdv A outer s H vs Q E hr h => ⟨_, (pss_cons (ps_set (i := 1) sc_lean.nd rfl (Or.inr rfl) pe_dnewK)
  (pss_cons (ps_set (i := 2) sc_lean.nd rfl (Or.inl rfl) (pe_lst pa_nil))
  (pss_cons (ps_for PassesOwn.never rfl (pi_enum (by rfl) T.n_enumerate (pa_cons (pe_fld (pv 0) rfl) pa_nil)) (pg_tup rfl (pgs_cons (pg_name (i := 3) sc_lean.nd rfl (Or.inl rfl)) (pgs_cons (pg_name (i := 4) sc_lean.nd rfl (Or.inl rfl)) pgs_nil)))
  (pss_one (ps_if (pt_val (pe_call (ok_is_open T) (hr.mono (by decide)) rfl T.mg_is_open T.F_is_open.kp (b_is_open T) .nil pass0 (pa_cons (pv 0) (pa_cons (pv 3) pa_nil))))
  (pss_cons (ps_setLc (i := 6) (own := [("border", 7)]) rfl sc_lean.nd rfl rfl (sw_true rfl rfl rfl (by decide +kernel)) (pi_list (pv 4)) (blkOk_by (N := ["drawing", "names", "regions", "region", "borders", "ends", "some", "border", "spot"]) (sc := defScope s_lean) (own := [("border", 7)]) (by decide +kernel)) (fun _ _ _ _ _ => (pg_name (i := 7) sc_lean.nd rfl (Or.inl rfl))) (fun _ _ _ _ _ => (pts_one (pt_val (pe_call (ok_is_live T) (hr.mono (by decide)) rfl T.mg_is_live T.F_is_live.kp (b_is_live T) .nil pass0 (pa_cons (pv 0) (pa_cons (pv 7) pa_nil)))))) (fun _ _ _ _ _ => (pv 7)))
  (pss_one (ps_expr (pe_bm PySem.F.plainAttrs_list PySem.F.slot_list_append PySem.F.type_list_append mt_append (pv 2) (pa_cons (pe_lc (own := [("border", 7)]) rfl sc_lean.nd (pi_list (pv 6)) (blkOk_by (N := ["drawing", "names", "regions", "region", "borders", "ends", "some", "border", "spot"]) (sc := defScope s_lean) (own := [("border", 7)]) (by decide +kernel)) (fun _ _ _ _ _ => (pg_name (i := 7) sc_lean.nd rfl (Or.inl rfl))) (fun _ _ _ _ _ => pts_nil) (fun _ _ _ _ _ => (pe_call (ok_thinned T) (hr.mono (by decide)) rfl T.mg_thinned T.F_thinned.kp (b_thinned T) .nil pass0 (pa_cons (pe_lc (own := [("spot", 8)]) (wi := iList K (tVar 7)) rfl sc_lean.nd (pi_list (pv 7)) (blkOk_by (own := [("spot", 8)]) (by kernel_rfl)) (fun _ _ _ _ _ => (pg_name (i := 8) sc_lean.nd rfl (Or.inl rfl))) (fun _ _ _ _ _ => pts_nil) (fun _ _ _ _ _ => (pe_call (ok_shown_as T) (hr.mono (by decide)) rfl T.mg_shown_as T.F_shown_as.kp (b_shown_as T) .nil pass0 (pa_cons (pv 0) (pa_cons (pv 8) (pa_cons (pv 1) pa_nil)))))) pa_nil)))) pa_nil))))) pss_nil)))
  (pss_cons (ps_set (i := 5) sc_lean.nd rfl (Or.inl rfl) (pe_op op_cat (pe_lst (pa_cons (pe_glob (v := .int 3) rfl T.mg_MOST_ENDS ⟨_, rfl⟩) pa_nil)) (pe_lock (pe_lc (own := [("spot", 8)]) rfl sc_lean.nd (pi_keys (pv 1)) (blkOk_by (N := ["drawing", "names", "regions", "region", "borders", "ends", "some", "border", "spot"]) (sc := defScope s_lean) (own := [("spot", 8)]) (by decide +kernel)) (fun _ _ _ _ _ => (pg_name (i := 8) sc_lean.nd rfl (Or.inl rfl))) (fun _ _ _ _ _ => pts_nil) (fun _ _ _ _ _ => (pe_ix (r := rIxL K) ix_list (pe_fldK K (pv 0) rfl rfl) (pv 8) (fun _ _ => rfl)))))))
  (pss_one (ps_ret (pe_make T.mkD (ok_D_init T) (hr.mono (by decide)) rfl T.mg_Drawing (b_D_init T) .nil pass0 (pa_cons (pv 5) (pa_cons (pv 2) pa_nil))))))))), ?_⟩)
  · obtain ⟨v, d, rfl, _⟩ := h; rfl
  · obtain ⟨v, d, rfl, hd, F, k⟩ := h
    obtain ⟨p, dx, e, rr, rfl, hp, ⟨qe, rfl, hqe⟩, q, rs, rfl, hq, fr⟩ := id hd
    have rg := F.rg
    have en := F.en
    intro n nn
    have s0 := same_new (o := .dK []) nn
    refine ⟨sz (by show 0 ≤ 100000; decide), fun L nL => ?_⟩
    have s1 := s0.trans (same_new (o := .lst []) nL)
    have nLH : H L = none := s0.free nL
    have nLn : L ≠ n := fun z => by rw [z, upd_same] at nL; cases nL
    refine ⟨_, rfl, p, a.CD, dx, _, _, rfl, s1 _ _ hp, T.clD, T.nRegions, dF_regions _ _, q, _, rfl, SqL.of (s1 _ _ hq), ?_⟩
    refine for_enum (K := K) (a := q) (xs := rs) (fun m σ H' => ∃ z1 z2 z3 acc, σ = [some (.ref p), some (.ref n), some (.ref L), z1, z2, none, z3, none, none] ∧ Same H H' ∧ H' n = some (.dK (nk (leanRegs d [] (d.regions.take m)).2)) ∧ H' L = some (.lst acc) ∧
        F2 (BL (cut (fun b => b = L ∨ b = n) H')) acc (leanRegs d [] (d.regions.take m)).1) ⟨none, none, none, [], rfl, s1, same_new nL _ _ upd_same, upd_same, .nil⟩ (fun m σ H' _ ⟨_, _, _, _, _, s, _⟩ => SqL.of (s _ _ hq)) ?_ ?_
    · rintro m w t σ H' hm ⟨z1, z2, z3, acc, rfl, s, hn, hL, fa⟩ nt
      obtain ⟨bs, hb, qb, ws, rfl, hw, fb⟩ := fr.getL hm
      have mlt := (List.getElem?_eq_some_iff.mp hb).1
      have eb : bs = Uw61.regionAt d m := by
        unfold Uw61.regionAt
        rw [List.getD_eq_getElem?_getD, hb]; rfl
      have b6 := F.b6 _ (List.mem_of_getElem? hb)
      have s2 := same_new (o := .tup [V.int (m : Nat), V.ref qb]) nt
      have gn : Names d (leanRegs d [] (d.regions.take m)).2 := (Names.nil d).grow (leanRegs_grow d _ [])
      have snoc := leanRegs_snoc d bs (d.regions.take m) []
      rw [← take_get hb] at snoc
      have al : (leanRegs d [] (d.regions.take m)).1.length ≤ 19 := by
        rw [leanRegs_nm (List.prefix_refl _), List.length_map]
        have := List.length_filter_le (openR d) (d.regions.take m)
        rw [List.length_take] at this
        omega
      refine ⟨t, _, rfl, SqT.of upd_same, rfl, _, _, rfl, _, _, rfl, rfl, ?_⟩
      refine ⟨_, rfl, _, rfl, .ref p, d, m, rfl, dv_mono.go (s.trans s2) hd, F, mlt, fun H2 s3 => ⟨_, rfl, ?_⟩⟩
      have S2 := (s.trans s2).trans s3
      have hn2 := s3 _ _ (s2 _ _ hn)
      have hL2 := s3 _ _ (s2 _ _ hL)
      have fa2 := f2_mono bl_mono (cut_mono (s2.trans s3)) fa
      rw [← eb]
      refine iteB (fun c => ?_) (fun c => ?_)
      · rw [if_pos c] at snoc
        -- some
        refine ⟨_, rfl, qb, rfl, ⟨_, SqL.of (S2 _ _ hw)⟩, fun D nD => ?_⟩
        refine lc_list (K := K) (a := qb) (xs := ws) (fun i H3 => Same H2 H3 ∧ ∃ so, H3 D = some (.lst so) ∧ F2 (IL H) so ((bs.take i).filter (liveB d))) ⟨same_new nD, [], upd_same, .nil⟩ (fun i H3 _ z => SqL.of (z.1 _ _ (S2 _ _ hw))) ?_ ?_
        · rintro i u H3 hi ⟨s4, so, hD, f⟩
          obtain ⟨l, hl, il⟩ := fb.getL hi
          have lt := (List.getElem?_eq_some_iff.mp hl).1
          have ll : l.length ≤ 96 := by
            have h1 := F.pl _ (List.mem_of_getElem? hb)
            have h2 := border_le lt
            rw [getD_lt lt, (List.getElem?_eq_some_iff.mp hl).2] at h2
            omega
          refine ⟨rfl, _, rfl, _, rfl, .ref p, d, u, l, rfl, dv_mono.go (S2.trans s4) hd, F, il_mono.go (S2.trans s4) il, by omega, fun x hx => F.wi _ (List.mem_of_getElem? hb) l (List.mem_of_getElem? hl) x hx, fun H4 s5 => ⟨_, rfl, ?_⟩⟩
          rw [filter_take hl]
          have fl : so.length < sizeLine := by
            rw [f.len]
            have := List.length_filter_le (liveB d) (bs.take i)
            rw [List.length_take] at this
            exact szl (by omega)
          refine iteB (fun c2 => ?_) (fun c2 => ?_)
          · refine ⟨_, rfl, so, s5 _ _ hD, fl, same_mut (s4.trans s5) nD, _, upd_same, ?_⟩
            rw [if_pos c2]; exact f.append (.one il)
          · refine ⟨s4.trans s5, so, s5 _ _ hD, ?_⟩
            rw [if_neg (by rw [c2]; simp), List.append_nil]; exact f
        · rintro H3 ⟨s4, so, hD, f⟩
          rw [fb.len, List.take_length] at f
          have S3 := S2.trans s4
          have hn3 := s4 _ _ hn2
          have hL3 := s4 _ _ hL2
          have nDn : D ≠ n := fun z => by rw [z, hn2] at nD; cases nD
          have nDL : D ≠ L := fun z => by rw [z, hL2] at nD; cases nD
          -- regions.append([thinned([..]) for border in some])
          refine ⟨_, rfl, .inl ⟨rfl, _, SqL.of hL3⟩, _, rfl, D, rfl, ⟨_, SqL.of hD⟩, fun D2 nD2 => ?_⟩
          have n2n : D2 ≠ n := fun z => by rw [z, hn3] at nD2; cases nD2
          have n2L : D2 ≠ L := fun z => by rw [z, hL3] at nD2; cases nD2
          refine lc_list (K := K) (a := D) (xs := so) (fun j H4 => SB n H3 H4 ∧ H4 n = some (.dK (nk (leanRows d (leanRegs d [] (d.regions.take m)).2 ((bs.filter (liveB d)).take j)).2)) ∧ ∃ rw', H4 D2 = some (.lst rw') ∧
              F2 (IL (cut (fun b => b = D2 ∨ b = n ∨ b = L) H4)) rw' (leanRows d (leanRegs d [] (d.regions.take m)).2 ((bs.filter (liveB d)).take j)).1)
            ⟨(SB.refl n H3).mut nD2, by rw [upd_ne (fun z => n2n z.symm)]; exact hn3, [], upd_same, .nil⟩ (fun j H4 _ z => SqL.of (z.1 _ _ hD nDn)) ?_ ?_
          · rintro j u H4 hj ⟨s5, hn4, rws, hD2, f4⟩
            obtain ⟨l, hl, il⟩ := f.getL hj
            have hlm := (List.mem_filter.mp (List.mem_of_getElem? hl)).1
            have jlt := (List.getElem?_eq_some_iff.mp hl).1
            have flt := List.length_filter_le (liveB d) bs
            obtain ⟨b', hb', eb'⟩ := List.getElem_of_mem hlm
            have ll : l.length ≤ 96 := by
              have h1 := F.pl _ (List.mem_of_getElem? hb)
              have h2 := border_le hb'
              rw [getD_lt hb', eb'] at h2
              omega
            have S4 : Same H H4 := s5.same S3 nn
            obtain ⟨pl, rfl, hpl⟩ := id il
            have hpl4 := S4 _ _ hpl
            have g4 : Names d (leanRows d (leanRegs d [] (d.regions.take m)).2 ((bs.filter (liveB d)).take j)).2 := gn.grow (leanRows_grow d _ _)
            refine ⟨rfl, yes_of ⟨_, rfl, pl, rfl, ⟨_, SqL.of hpl4⟩, fun D3 nD3 => ?_⟩⟩
            have n3n : D3 ≠ n := fun z => by rw [z, hn4] at nD3; cases nD3
            refine lc_list (K := K) (a := pl) (xs := nv l) (fun i H5 => SB n H4 H5 ∧ H5 n = some (.dK (nk (shownRow d (leanRows d (leanRegs d [] (d.regions.take m)).2 ((bs.filter (liveB d)).take j)).2 (l.take i)).2)) ∧
                H5 D3 = some (.lst (nv (shownRow d (leanRows d (leanRegs d [] (d.regions.take m)).2 ((bs.filter (liveB d)).take j)).2 (l.take i)).1)))
              ⟨(SB.refl n H4).mut nD3, by rw [upd_ne (fun z => n3n z.symm)]; exact hn4, upd_same⟩ (fun i H5 _ z => SqL.of ((z.1.same S4 nn) _ _ hpl)) ?_ ?_
            · rintro i y H5 hi ⟨s6, hn5, hD3⟩
              obtain ⟨x, hx, rfl⟩ := nv_getL hi
              have xlt := (List.getElem?_eq_some_iff.mp hx).1
              have S5 : Same H H5 := s6.same S4 nn
              have g5 := g4.grow (shownRow_grow d (l.take i) _)
              have gl := g5.len
              refine ⟨rfl, yes_of ⟨_, rfl, _, rfl, _, rfl, .ref p, d, x, n, _, rfl, dv_mono.go S5 hd, F, F.wi _ (List.mem_of_getElem? hb) l hlm x (List.mem_of_getElem? hx), hn5, by omega, fun H6 s7 hn6 _ => ?_⟩⟩
              refine ⟨_, s7 _ _ hD3 n3n, ?_, (s6.trans s7).mut nD3, ?_, ?_⟩
              · have : ∀ (l ns : List Nat), (shownRow d ns l).1.length = l.length := fun l => by
                  induction l with
                  | nil => intro ns; rfl
                  | cons a l ih => intro ns; show _ + 1 = _ + 1; rw [ih]
                rw [nv_length, this, List.length_take]; exact szl (by omega)
              · rw [upd_ne (fun z => n3n z.symm), take_get hx, shownRow_snoc]; exact hn6
              · rw [upd_same, take_get hx, shownRow_snoc, nv_append]; rfl
            · rintro H5 ⟨s6, hn5, hD3⟩
              rw [nv_length, List.take_length] at hn5 hD3
              have rl : ∀ (l ns : List Nat), (shownRow d ns l).1.length = l.length := fun l => by
                induction l with
                | nil => intro ns; rfl
                | cons a l ih => intro ns; show _ + 1 = _ + 1; rw [ih]
              refine ⟨.ref D3, _, rfl, ⟨D3, rfl, hD3⟩, by rw [rl]; omega, fun H6 p6 s7 n6 h6 => ?_⟩
              have n62 : p6 ≠ D2 := fun z => by rw [z, s6 _ _ hD2 n2n] at n6; cases n6
              have n6n : p6 ≠ n := fun z => by rw [z, hn5] at n6; cases n6
              have n6L : p6 ≠ L := fun z => by rw [z, s6 _ _ (s5 _ _ hL3 nLn) nLn] at n6; cases n6
              refine ⟨rws, s7 _ _ (s6 _ _ hD2 n2n), ?_, ((s5.trans s6).trans (SB.of s7)).mut nD2, ?_, _, upd_same, ?_⟩
              · have : ∀ (bs : List (List Nat)) (ns : List Nat), (leanRows d ns bs).1.length = bs.length := fun bs => by
                  induction bs with
                  | nil => intro ns; rfl
                  | cons a l ih => intro ns; show _ + 1 = _ + 1; rw [ih]
                rw [f4.len, this, List.length_take]; exact szl (by omega)
              · rw [upd_ne (fun z => n2n z.symm), take_get hl, leanRows_snoc]; exact s7 _ _ hn5
              · rw [take_get hl, leanRows_snoc, cut_upd (Z := fun b => b = D2 ∨ b = n ∨ b = L) (Or.inl rfl)]
                refine (f2_mono il_mono ((s6.trans (SB.of s7)).cut (Z := fun b => b = D2 ∨ b = n ∨ b = L) (Or.inr (Or.inl rfl))) f4).append (.one ⟨p6, rfl, ?_⟩)
                rw [cut_not (Z := fun b => b = D2 ∨ b = n ∨ b = L) (fun z => z.elim n62 fun z => z.elim n6n n6L)]
                exact h6
          · rintro H4 ⟨s5, hn4, rws, hD2, f4⟩
            rw [f.len, List.take_length] at hn4 f4
            have S4 : Same H H4 := s5.same S3 nn
            have hL4 := s5 _ _ hL3 nLn
            have H3s : Same H2 H3 := s4
            refine ⟨L, acc, _, rfl, rfl, hL4, by rw [fa.len]; exact szl (by omega), ⟨_, _, _, _, rfl, same_mut S4 nLH, ?_, upd_same, ?_⟩⟩
            · rw [upd_ne (fun z => nLn z.symm), snoc]; exact hn4
            · rw [snoc, cut_upd (Z := fun b => b = L ∨ b = n) (Or.inl rfl)]
              refine (f2_mono bl_mono ((SB.trans (SB.of s4) s5).cut (Z := fun b => b = L ∨ b = n) (Or.inr rfl)) fa2).append (.one ⟨D2, rws, rfl, ?_, ?_⟩)
              · rw [cut_not (Z := fun b => b = L ∨ b = n) (fun z => z.elim n2L n2n)]; exact hD2
              · refine f2_mono il_mono (fun b o q => ?_) f4
                by_cases c : b = D2 ∨ b = n ∨ b = L
                · have : Sg.cut (fun b => b = D2 ∨ b = n ∨ b = L) H4 b = none := if_pos c
                  rw [this] at q; cases q
                · rw [cut_not (Z := fun b => b = D2 ∨ b = n ∨ b = L) c] at q
                  rw [cut_not (Z := fun b => b = L ∨ b = n) (fun z => c (z.elim (fun z => .inr (.inr z)) (fun z => .inr (.inl z))))]; exact q
      · rw [if_neg (by rw [c]; simp)] at snoc
        refine ⟨_, _, _, acc, rfl, S2, ?_, hL2, ?_⟩
        · rw [snoc]; exact hn2
        · rw [snoc]; exact fa2
    · rintro σ H' ⟨z1, z2, z3, acc, rfl, s, hn, hL, fa⟩
      rw [fr.len, List.take_length] at hn fa
      have gn : Names d (namesOf d) := (Names.nil d).grow (leanRegs_grow d _ [])
      have gl := gn.len
      have ex : namesOf d = (leanRegs d [] d.regions).2 := rfl
      rw [← ex] at hn
      refine ⟨sz (by show 1 ≤ 100000; decide), fun E1 nE1 => ?_⟩
      have t1 := same_new (o := .lst [V.int 3]) nE1
      have e1n : E1 ≠ n := fun z => by rw [z, hn] at nE1; cases nE1
      have e1L : E1 ≠ L := fun z => by rw [z, hL] at nE1; cases nE1
      refine ⟨n, _, t1 _ _ hn, True.intro, fun od => ⟨_, rfl, n, od, rfl, .inl ⟨_, upd_same, fun D nD => ?_⟩⟩⟩
      have nDn : D ≠ n := fun z => by rw [z, upd_same] at nD; cases nD
      have nD1 : upd H' E1 (.lst [V.int 3]) D = none := by rw [upd_ne nDn] at nD; exact nD
      have nDE : D ≠ E1 := fun z => by rw [z, upd_same] at nD1; cases nD1
      have nDH : H' D = none := by rw [upd_ne nDE] at nD1; exact nD1
      refine lc_keys (kvs := nk (namesOf d)) (d := n) (fun i H2 => SB n H' H2 ∧ H2 n = some (.frz od (.dK (nk (namesOf d)))) ∧ H2 E1 = some (.lst [V.int 3]) ∧ H2 D = some (.lst (nv (((namesOf d).take i).map fun x => d.ends.getD x 3)))) ?_ (fun i H2 _ z => z.2.1) ?_ ?_
      · refine ⟨?_, by rw [upd_ne (fun z => nDn z.symm), upd_same], by rw [upd_ne (fun z => nDE z.symm), upd_ne e1n, upd_same], upd_same⟩
        intro b o q ne
        rw [upd_ne (ne_of_none q nDH), upd_ne ne]; exact t1 _ _ q
      · rintro i kk vv H2 hk ⟨sb, hn2, hE, hD⟩
        obtain ⟨x, hx, rfl⟩ := nk_getL hk
        have S2 : Same H H2 := sb.same s nn
        have xl := lives_ge (gn.2 x (List.mem_of_getElem? hx))
        have hi := (List.getElem?_eq_some_iff.mp hx).1
        refine ⟨rfl, yes_of ⟨_, rfl, p, a.CD, dx, _, _, rfl, S2 _ _ hp, T.clD, T.nEnds, dF_ends _ _, _, rfl, qe, _, _, _, rfl, rfl, SqL.of (S2 _ _ hqe), nv_at xl, _, hD, ?_, sb.mut nDH, ?_, ?_, ?_⟩⟩
        · rw [nv_length, List.length_map, List.length_take]; exact szl (by omega)
        · rw [upd_ne (fun z => nDn z.symm)]; exact hn2
        · rw [upd_ne (fun z => nDE z.symm)]; exact hE
        · rw [upd_same, take_get hx, List.map_append, nv_append, getD_lt xl, List.map_cons, List.map_nil, getD_lt xl]; rfl
      · rintro H2 ⟨sb, hn2, hE, hD⟩
        rw [nk_len, List.take_length] at hD
        refine ⟨hn2, E1, D, _, _, rfl, rfl, by rw [upd_ne e1n]; exact hE, by rw [upd_ne nDn]; exact hD, ?_, fun E2 nE2 => ?_⟩
        · rw [nv_length, List.length_map]; exact sz (by show 1 + _ ≤ 100000; omega)
        have sb3 : SB n H' (upd H2 n (.dK (nk (namesOf d)))) := fun b o q ne => by rw [upd_ne ne]; exact sb b o q ne
        have n2n : E2 ≠ n := fun z => by rw [z, upd_same] at nE2; cases nE2
        have n2L : E2 ≠ L := fun z => by rw [z, sb3 _ _ hL nLn] at nE2; cases nE2
        have n2f : H' E2 = none := sb3.fresh nE2 n2n
        have sb4 := sb3.mut (o := .lst ([V.int 3] ++ nv ((namesOf d).map fun x => d.ends.getD x 3))) n2f
        have S4 := sb4.same s nn
        refine ⟨_, rfl, _, rfl, fun x dx' nx ndx nxd => ?_⟩
        refine make_draw nx ndx (d := leanOf d) ⟨E2, rfl, upd_same⟩ ⟨L, acc, rfl, sb4 _ _ hL nLn, ?_⟩ fun H5 s5 h5 => k H5 _ (S4.trans s5) h5
        exact f2_mono bl_mono ((sb4.cut (Z := fun b => b = L ∨ b = n) (Or.inr rfl)).trans cut_same) fa
end Sg

/-! ### text W11 -/
namespace Sg
open PySem PySem.Spec PyProof.Rows L2
open Uw61 (Drawing Line)

/-- new drawings in a new list -/
def Behind (a : Ads) (H H' : Hp) (q : Addr) (ds : List Drawing) : Prop := Same H H' ∧ H q = none ∧ ∃ vs, H' q = some (.lst vs) ∧ F2 (DV a (cut (fun b => b = q) H')) vs ds
def sp_behind (a : Ads) : Sp := fun vs H Q _ => ∃ v d, vs = [v] ∧ DV a H v d ∧ Fit d ∧ ∀ H' q, Behind a H H' q ((Uw61.lines d).map (Uw61.drawn d)) → Q (.ref q) H'
theorem ok_behind {P : Program} {w : World} {K : PySem.W.Frag} {mg : Str → Option Value} {base : Heap} {a : Ads} (T : Txt K mg a) : FnOk P w K mg base CX0 6 a.f_behind a.d_behind ["drawing"] (sp_behind a) := by
  refine T.F_behind.ok sc_behind (fun vs H Q E h => ?_) (fun cdv A outer s H vs Q E hr h => ⟨_, (pss_one (ps_ret (pe_lc (own := [("line", 1)]) rfl sc_behind.nd (pi_list (pe_call (ok_lines_of T) (hr.mono (by decide)) rfl T.mg_lines_of T.F_lines_of.kp (b_lines_of T) .nil pass0 (pa_cons (pv 0) pa_nil))) (blkOk_by (N := ["drawing", "line"]) (sc := defScope s_behind) (own := [("line", 1)]) (by decide +kernel)) (fun _ _ _ _ _ => (pg_name (i := 1) sc_behind.nd rfl (Or.inl rfl))) (fun _ _ _ _ _ => pts_nil) (fun _ _ _ _ _ => (pe_call (ok_drawn T) (hr.mono (by decide)) rfl T.mg_drawn T.F_drawn.kp (b_drawn T) .nil pass0 (pa_cons (pv 0) (pa_cons (pv 1) pa_nil))))))), ?_⟩)
  · obtain ⟨v, d, rfl, _⟩ := h; rfl
  · obtain ⟨v, d, rfl, hd, F, k⟩ := h
    have ll := lines_30000 F
    refine ⟨_, rfl, v, d, rfl, hd, F, fun H1 q1 N1 => ?_⟩
    obtain ⟨s1, n1, ws, h1, f1⟩ := N1
    refine ⟨q1, rfl, ⟨_, SqL.of h1⟩, fun D nD => ?_⟩
    have nDH := s1.free nD
    refine lc_list (K := K) (a := q1) (xs := ws) (fun i H2 => Same H1 H2 ∧ ∃ acc, H2 D = some (.lst acc) ∧ F2 (DV a (cut (fun b => b = D) H2)) acc (((Uw61.lines d).take i).map (Uw61.drawn d))) ⟨same_new nD, [], upd_same, .nil⟩ (fun i H2 _ z => SqL.of (z.1 _ _ h1)) ?_ ?_
    · rintro i x H2 hx ⟨s2, acc, hD, fa⟩
      obtain ⟨l, hl, lv⟩ := f1.getL hx
      have S2 := s1.trans s2
      have hz : Held (fun b => b = D) H2 := fun b e q => by rw [e, hD] at q; cases q
      refine ⟨rfl, yes_of ⟨_, rfl, _, rfl, fun b => b = D, v, d, x, l, rfl, hz, dv_mono.go (cut_fresh (Z := fun b => b = D) (fun b e => by rw [e]; exact nDH) S2) hd, F, ln_mono.go s2 lv, List.mem_of_getElem? hl, fun H3 u s3 hu => ?_⟩⟩
      refine ⟨acc, s3 _ _ hD, ?_, same_mut (s2.trans s3) nD, _, upd_same, ?_⟩
      · rw [fa.len, List.length_map, List.length_take]; exact szl (by omega)
      · rw [cut_upd (Z := fun b => b = D) rfl, take_get hl, List.map_append]
        exact (f2_mono dv_mono (cut_mono s3) fa).append (.one hu)
    · rintro H2 ⟨s2, acc, hD, fa⟩
      rw [f1.len, List.take_length] at fa
      exact k H2 D ⟨s1.trans s2, nDH, acc, hD, fa⟩
theorem least_le {l : List Nat} {n : Nat} (h : ∀ k, k < n → k ∈ l) : n ≤ l.length := by
  have := nodup_len (List.range n) l List.nodup_range fun x hx => h x (by simpa using hx)
  simpa using this
def sp_least_missing : Sp := fun vs H Q _ => ∃ v l, vs = [v] ∧ IL H v l ∧ Q (.int (Uw61.leastNot l : Nat)) H
theorem ok_least_missing {P : Program} {w : World} {K : PySem.W.Frag} {mg : Str → Option Value} {base : Heap} {a : Ads} (T : Txt K mg a) : FnOk P w K mg base CX0 1 a.f_least_missing a.d_least_missing ["some"] (sp_least_missing) := by
  refine T.F_least_missing.ok sc_least_missing (fun vs H Q E h => ?_) (fun cdv A outer s H vs Q E hr h => ⟨_, (pss_cons (ps_set (i := 1) sc_least_missing.nd rfl (Or.inl rfl) pe_int)
  (pss_cons (ps_while PassesOwn.never (pt_cmpR op_in_seq (pv 1) (pv 0) (by rfl))
  (pss_one (ps_aug (i := 1) sc_least_missing.nd rfl (Or.inl rfl) pe_int ip_add)))
  (pss_one (ps_ret (pv 1))))), ?_⟩)
  · obtain ⟨v, l, rfl, _⟩ := h; rfl
  · obtain ⟨v, l, rfl, ⟨p, rfl, hp⟩, k⟩ := h
    refine ⟨fun m σ H' => H' = H ∧ ∃ n : Nat, σ = [some (.ref p), some (.int (n : Nat))] ∧ (∀ k, k < n → k ∈ l) ∧ m = l.length + 1 - n, ⟨_, rfl, 0, rfl, fun k hk => absurd hk (by omega), rfl⟩, ?_⟩
    rintro m σ H' ⟨rfl, n, rfl, hn, rfl⟩
    refine ⟨_, rfl, _, rfl, p, _, rfl, .inl (SqL.of hp), rfl, nv_flat l, _, rfl, ?_⟩
    rw [if_neg (by decide), nv_in]
    have nl := least_le hn
    refine iteB (fun c => ?_) (fun c => ?_)
    · have hm : n ∈ l := by simpa using c
      refine ⟨fun σ' H2 => H2 = H' ∧ σ' = [some (.ref p), some (.int ((n + 1 : Nat) : Int))], ?_, _, rfl, _, _, rfl, rfl, rfl, ?_⟩
      · rintro σ' H2 ⟨rfl, rfl⟩
        have nl2 : n + 1 ≤ l.length := least_le (n := n + 1) fun k hk => by
          rcases Nat.lt_or_ge k n with z | z
          · exact hn k z
          · have : k = n := by omega
            rw [this]; exact hm
        refine ⟨l.length + 1 - (n + 1), by omega, rfl, n + 1, rfl, fun k hk => ?_, rfl⟩
        rcases Nat.lt_or_ge k n with z | z
        · exact hn k z
        · have : k = n := by omega
          rw [this]; exact hm
      · rfl
    · have hm : n ∉ l := by simpa using c
      refine ⟨_, rfl, ?_⟩
      have e : n = Uw61.leastNot l := least_unique (l := l) (m := l) (fun k => Iff.rfl) ⟨hm, hn⟩ (leastNot_spec l)
      rw [e]; exact k
end Sg

/-! ### text W12 -/
namespace Sg
open PySem PySem.Spec PyProof.Rows L2
open Uw61 (Drawing Line)

/-! ### what is known -/
theorem depthAll_le {n : Nat} : ∀ {ks : List NK}, (∀ k ∈ ks, k.depth ≤ n) → PySem.NestedKey.depthAll ks ≤ n
  | [], _ => by unfold PySem.NestedKey.depthAll; exact Nat.zero_le _
  | k :: ks, h => by
    unfold PySem.NestedKey.depthAll
    have h1 := h k (by simp)
    have h2 := depthAll_le (ks := ks) fun x hx => h x (by simp [hx])
    omega
theorem depth_tup {n : Nat} {ks : List NK} (h : ∀ k ∈ ks, k.depth ≤ n) : (PySem.NestedKey.tup ks).depth ≤ n + 1 := by
  have := depthAll_le h
  unfold PySem.NestedKey.depth
  omega
theorem kNums_depth (l : List Nat) : (kNums l).depth ≤ 2 := depth_tup fun k hk => by
  obtain ⟨n, _, rfl⟩ := List.mem_map.mp hk
  unfold PySem.NestedKey.depth; omega
theorem kRows_depth (l : List (List Nat)) : (kRows l).depth ≤ 3 := depth_tup fun k hk => by
  obtain ⟨n, _, rfl⟩ := List.mem_map.mp hk
  exact kNums_depth n
theorem form_depth (d : Drawing) : (formKey d).depth ≤ 8 := by
  refine Nat.le_trans (depth_tup (n := 4) fun k hk => ?_) (by omega)
  rcases List.mem_cons.mp hk with e | hk
  · rw [e]; have := kNums_depth d.ends; omega
  · rw [List.mem_singleton.mp hk]
    exact depth_tup fun k hk => by
      obtain ⟨n, _, rfl⟩ := List.mem_map.mp hk
      exact kRows_depth n
theorem map_inj {α β : Type} {f : α → β} (h : ∀ x y, f x = f y → x = y) : ∀ {l m : List α}, l.map f = m.map f → l = m
  | [], [], _ => rfl
  | [], _ :: _, e => by simp at e
  | _ :: _, [], e => by simp at e
  | x :: l, y :: m, e => by
    rw [List.map_cons, List.map_cons] at e
    rw [h x y (List.cons.inj e).1, map_inj h (List.cons.inj e).2]
theorem kNums_inj {l m : List Nat} (e : kNums l = kNums m) : l = m := map_inj (fun x y q => Int.ofNat.inj (PySem.NestedKey.num.inj q)) (PySem.NestedKey.tup.inj e)
theorem kRows_inj {l m : List (List Nat)} (e : kRows l = kRows m) : l = m := map_inj (fun x y q => kNums_inj q) (PySem.NestedKey.tup.inj e)
theorem form_inj {d e : Drawing} (h : formKey d = formKey e) : d = e := by
  have := PySem.NestedKey.tup.inj h
  have h1 := kNums_inj (List.cons.inj this).1
  have h2 := map_inj (fun x y q => kRows_inj q) (PySem.NestedKey.tup.inj (List.cons.inj (List.cons.inj this).2).1)
  cases d; cases e; simp only at h1 h2; rw [h1, h2]
abbrev Ms := List (Drawing × Addr × V)
def kn3 (es : Ms) : Kn := es.map fun x => (formKey x.1, x.2.1, x.2.2)
def big (es : Ms) : Nat := (es.filter fun x => decide (4 ≤ Uw61.allLives x.1)).length
def ms1 (e : Drawing) : Nat := if 4 ≤ Uw61.allLives e then 1 else 0
structure Memo (P : Program) (w : World) (val : HR Drawing) (H : Hp) (d : Addr) (es : Ms) : Prop where
  kn : KnAt P w H d (kn3 es)
  ok : ∀ x ∈ es, Lean x.1 ∧ val H x.2.2 x.1
  nd : (es.map (·.1)).Nodup
theorem Memo.len {P : Program} {w : World} {val : HR Drawing} {H : Hp} {d : Addr} {es : Ms} (M : Memo P w val H d es) : es.length ≤ 7000000 + big es := by
  have h1 : ((es.filter fun x => !decide (4 ≤ Uw61.allLives x.1)).map (·.1)).length ≤ 7000000 := by
    refine small_few (M.nd.sublist (List.filter_sublist.map _)) fun e he => ?_
    obtain ⟨x, hx, rfl⟩ := List.mem_map.mp he
    obtain ⟨hx, q⟩ := List.mem_filter.mp hx
    refine ⟨(M.ok x hx).1, ?_⟩
    have : ¬ 4 ≤ Uw61.allLives x.1 := by simpa using q
    omega
  rw [List.length_map] at h1
  have : ∀ (l : Ms), l.length = (l.filter fun x => !decide (4 ≤ Uw61.allLives x.1)).length + (l.filter fun x => decide (4 ≤ Uw61.allLives x.1)).length := by
    intro l
    induction l with
    | nil => rfl
    | cons x l ih =>
      by_cases c : 4 ≤ Uw61.allLives x.1 <;> simp [List.filter_cons, c] at ih ⊢ <;> omega
  rw [this es]; unfold big; omega
theorem Memo.go {P : Program} {w : World} {val : HR Drawing} (m : TMon val) {H H' : Hp} {d : Addr} {es : Ms} (M : Memo P w val H d es) (t : TS H H') (e : H' d = H d) : Memo P w val H' d es :=
  ⟨⟨e.trans M.kn.1, fun x hx => ⟨KeyV.mono t (M.kn.2 x hx).1, (M.kn.2 x hx).2⟩⟩, fun x hx => ⟨(M.ok x hx).1, m.go t (M.ok x hx).2⟩, M.nd⟩
theorem Memo.same {P : Program} {w : World} {val : HR Drawing} (m : TMon val) {H H' : Hp} {d : Addr} {es : Ms} (M : Memo P w val H d es) (s : Same H H') : Memo P w val H' d es :=
  M.go m (ts_same s) ((s _ _ M.kn.1).trans M.kn.1.symm)
theorem Memo.look {P : Program} {w : World} {val : HR Drawing} {H : Hp} {d : Addr} {es : Ms} (M : Memo P w val H d es) {e : Drawing} {v : V} (h : lookN (kn3 es) (formKey e) = some v) : val H v e := by
  unfold lookN at h
  obtain ⟨y, hy, rfl⟩ := Option.map_eq_some_iff.mp h
  obtain ⟨x, hx, rfl⟩ := List.mem_map.mp (List.mem_of_find?_eq_some hy)
  have k := List.find?_some hy
  have k : x.1 = e := form_inj (of_decide_eq_true k)
  rw [← k]; exact (M.ok x hx).2
def mput (es : Ms) (e : Drawing) (q : Addr) (v : V) : Ms := if (lookN (kn3 es) (formKey e)).isSome then es.map (fun x => if x.1 = e then (x.1, x.2.1, v) else x) else es ++ [(e, q, v)]
theorem kn3_put (es : Ms) (e : Drawing) (q : Addr) (v : V) : kn3 (mput es e q v) = putN (kn3 es) (formKey e) q v := by
  unfold mput putN
  split
  · unfold kn3
    rw [List.map_map, List.map_map]
    apply List.map_congr_left
    intro x _
    show (fun x : Drawing × Addr × V => (formKey x.1, x.2.1, x.2.2)) (if x.1 = e then (x.1, x.2.1, v) else x) = if formKey x.1 = formKey e then (formKey x.1, x.2.1, v) else (formKey x.1, x.2.1, x.2.2)
    by_cases c : x.1 = e
    · rw [if_pos c, if_pos (by rw [c])]
    · rw [if_neg c, if_neg (fun z => c (form_inj z))]
  · unfold kn3; rw [List.map_append]; rfl
theorem look_no {es : Ms} {e : Drawing} (h : (lookN (kn3 es) (formKey e)).isSome = false) : ∀ x ∈ es, x.1 ≠ e := by
  intro x hx z
  unfold lookN at h
  rw [Option.isSome_map] at h
  have hn : (kn3 es).find? (fun x => decide (x.1 = formKey e)) = none := by
    cases c : (kn3 es).find? (fun x => decide (x.1 = formKey e)) with
    | none => rfl
    | some y => rw [c] at h; cases h
  have := List.find?_eq_none.mp hn (formKey x.1, x.2.1, x.2.2) (List.mem_map.mpr ⟨x, hx, rfl⟩)
  simp [z] at this
theorem mput_mem {es : Ms} {e : Drawing} {q : Addr} {v : V} {y : Drawing × Addr × V} (h : y ∈ mput es e q v) : (y ∈ es ∧ y.1 ≠ e) ∨ (y.1 = e ∧ y.2.2 = v ∧ (y.2.1 = q ∨ ∃ x ∈ es, x.1 = e ∧ x.2.1 = y.2.1)) := by
  unfold mput at h
  split at h
  · obtain ⟨x, hx, rfl⟩ := List.mem_map.mp h
    by_cases c : x.1 = e
    · rw [if_pos c]; exact .inr ⟨c, rfl, .inr ⟨x, hx, c, rfl⟩⟩
    · rw [if_neg c]; exact .inl ⟨hx, c⟩
  · rename_i c
    have c : (lookN (kn3 es) (formKey e)).isSome = false := by simpa using c
    rcases List.mem_append.mp h with h | h
    · exact .inl ⟨h, look_no c y h⟩
    · rw [List.mem_singleton.mp h]; exact .inr ⟨rfl, rfl, .inl rfl⟩
theorem mput_nd {es : Ms} (h : (es.map (·.1)).Nodup) (e : Drawing) (q : Addr) (v : V) : ((mput es e q v).map (·.1)).Nodup := by
  unfold mput
  split
  · have : (es.map fun x => if x.1 = e then (x.1, x.2.1, v) else x).map (·.1) = es.map (·.1) := by
      rw [List.map_map]
      apply List.map_congr_left
      intro x _
      show (if x.1 = e then (x.1, x.2.1, v) else x).1 = x.1
      split <;> rfl
    rw [this]; exact h
  · rename_i c
    have c : (lookN (kn3 es) (formKey e)).isSome = false := by simpa using c
    rw [List.map_append]
    refine List.nodup_append.mpr ⟨h, by simp, fun a ha b hb => ?_⟩
    obtain ⟨x, hx, rfl⟩ := List.mem_map.mp ha
    have : b = e := by simpa using hb
    rw [this]; exact look_no c x hx
theorem mput_big (es : Ms) (e : Drawing) (q : Addr) (v : V) : big (mput es e q v) ≤ big es + ms1 e := by
  unfold mput
  split
  · have : ∀ l : Ms, big (l.map fun x => if x.1 = e then (x.1, x.2.1, v) else x) = big l := by
      intro l
      induction l with
      | nil => rfl
      | cons x l ih =>
        unfold big at ih ⊢
        rw [List.map_cons, List.filter_cons, List.filter_cons]
        have k : (if x.1 = e then (x.1, x.2.1, v) else x).1 = x.1 := by split <;> rfl
        rw [k]
        split
        · rw [List.length_cons, List.length_cons, ih]
        · exact ih
    rw [this]; omega
  · unfold big ms1
    rw [List.filter_append, List.length_append, List.filter_cons]
    by_cases c : 4 ≤ Uw61.allLives e
    · simp [c]
    · simp [c]
theorem look_put (es : Kn) (k : NK) (q : Addr) (v : V) : lookN (putN es k q v) k = some v := by
  unfold putN
  by_cases c : (lookN es k).isSome = true
  · rw [if_pos c]
    induction es with
    | nil => simp [lookN] at c
    | cons x es ih =>
      unfold lookN at c ih ⊢
      rw [List.map_cons, List.find?_cons]
      rw [List.find?_cons] at c
      by_cases e : x.1 = k
      · rw [if_pos e]; simp [e]
      · rw [if_neg e]
        simp only [e, decide_false] at c ⊢
        exact ih c
  · rw [if_neg c]
    unfold lookN at c ⊢
    rw [List.find?_append]
    have : es.find? (fun x => decide (x.1 = k)) = none := by
      cases h : es.find? (fun x => decide (x.1 = k)) with
      | none => rfl
      | some y => rw [h] at c; exact absurd rfl c
    rw [this]; simp
theorem put_put (es : Kn) (k : NK) (q : Addr) (v v' : V) : putN (putN es k q v) k q v' = putN es k q v' := by
  have l := look_put es k q v
  rw [show putN (putN es k q v) k q v' = (putN es k q v).map (fun x => if x.1 = k then (x.1, x.2.1, v') else x) from if_pos (by rw [l]; rfl)]
  unfold putN
  by_cases c : (lookN es k).isSome = true
  · rw [if_pos c, if_pos c, List.map_map]
    apply List.map_congr_left
    intro x _
    show (if (if x.1 = k then (x.1, x.2.1, v) else x).1 = k then ((if x.1 = k then (x.1, x.2.1, v) else x).1, (if x.1 = k then (x.1, x.2.1, v) else x).2.1, v') else (if x.1 = k then (x.1, x.2.1, v) else x)) = _
    by_cases e : x.1 = k
    · rw [if_pos e]
      show (if x.1 = k then (x.1, x.2.1, v') else _) = _
      rw [if_pos e, if_pos e]
    · rw [if_neg e, if_neg e]
  · rw [if_neg c, if_neg c, List.map_append]
    congr 1
    · have : ∀ x ∈ es, x.1 ≠ k := by
        intro x hx z
        apply c
        unfold lookN
        rw [Option.isSome_map]
        cases h : es.find? (fun x => decide (x.1 = k)) with
        | none => exact absurd (decide_eq_true z) (List.find?_eq_none.mp h x hx)
        | some y => rfl
      have e : es.map (fun x => if x.1 = k then (x.1, x.2.1, v') else x) = es.map id := List.map_congr_left fun x hx => if_neg (this x hx)
      rw [e, List.map_id]
    · show [if k = k then (k, q, v') else _] = _
      rw [if_pos rfl]
/-- written to -/
theorem ts_ext {H : Hp} {d : Addr} {o : HO} {φ : Heap → Prop} (h : H d = some (.ext φ)) : TS H (upd H d o) := fun b ys q => by
  rw [upd_ne (ne_of q h (fun z => nomatch z))]; exact q
theorem Memo.put {P : Program} {w : World} {val : HR Drawing} (m : TMon val) {H H' : Hp} {d q : Addr} {es : Ms} {e : Drawing} {v : V} (M : Memo P w val H d es) (le : Lean e) (hq : KeyV H (.ref q) (formKey e)) (t : TS H H') (hd : H' d = some (KnO P w d (putN (kn3 es) (formKey e) q v))) (hv : val H' v e) :
    Memo P w val H' d (mput es e q v) := by
  refine ⟨⟨by rw [kn3_put]; exact hd, fun x hx => ?_⟩, fun x hx => ?_, mput_nd M.nd e q v⟩
  · obtain ⟨y, hy, rfl⟩ := List.mem_map.mp hx
    refine ⟨?_, form_depth _⟩
    rcases mput_mem hy with ⟨h, _⟩ | ⟨h1, h2, h3⟩
    · exact KeyV.mono t (M.kn.2 _ (List.mem_map.mpr ⟨y, h, rfl⟩)).1
    · show KeyV H' (.ref y.2.1) (formKey y.1)
      rw [h1]
      rcases h3 with h3 | ⟨x, hx, h4, h5⟩
      · rw [h3]; exact KeyV.mono t hq
      · rw [← h5, ← h4]; exact KeyV.mono t (M.kn.2 _ (List.mem_map.mpr ⟨x, hx, rfl⟩)).1
  · rcases mput_mem hx with ⟨h, _⟩ | ⟨h1, h2, h3⟩
    · exact ⟨(M.ok x h).1, m.go t (M.ok x h).2⟩
    · rw [h1, h2]; exact ⟨le, hv⟩
/-! ### what the known does not touch -/
section
variable {H H' : Hp} {k : Addr} {φ : Heap → Prop}
theorem il_sb (hk : H k = some (.ext φ)) (s : SB k H H') {v : V} {l : List Nat} (h : IL H v l) : IL H' v l := by
  obtain ⟨p, e, h⟩ := h
  exact ⟨p, e, s _ _ h (ne_of h hk (fun z => nomatch z))⟩
theorem lv_sb {α : Type} {R : HR α} (hk : H k = some (.ext φ)) (s : SB k H H') (r : ∀ v x, R H v x → R H' v x) {v : V} {l : List α} (h : LV R H v l) : LV R H' v l := by
  obtain ⟨p, vs, e, h, f⟩ := h
  exact ⟨p, vs, e, s _ _ h (ne_of h hk (fun z => nomatch z)), f.mono r⟩
theorem dv_sb {a : Ads} (hk : H k = some (.ext φ)) (s : SB k H H') {v : V} {d : Drawing} (h : DV a H v d) : DV a H' v d := by
  obtain ⟨p, dx, e, r, q, h, h1, h2⟩ := h
  exact ⟨p, dx, e, r, q, s _ _ h (ne_of h hk (fun z => nomatch z)), il_sb hk s h1, lv_sb hk s (fun v x q => lv_sb hk s (fun v x q => il_sb hk s q) q) h2⟩
theorem ts_sb (hk : H k = some (.ext φ)) (s : SB k H H') : TS H H' := fun b xs q => s _ _ q (ne_of q hk (fun z => nomatch z))
end
/-- how many come to be known -/
def cc : Nat → Nat
  | 0 => 0
  | 1 => 0
  | 2 => 0
  | 3 => 0
  | n + 1 => 1 + bound (2 * (n + 1)) * cc n
theorem cc_6 : cc 6 = 4913041 := by decide
theorem cc_step {n : Nat} {e : Drawing} (F : Fit e) (h : Uw61.allLives e ≤ n + 1) : (Uw61.lines e).length * cc n + ms1 e ≤ cc (n + 1) := by
  have lf := lines_few F h
  by_cases c : n < 3
  · have : cc n = 0 := by
      have : n = 0 ∨ n = 1 ∨ n = 2 := by omega
      rcases this with rfl | rfl | rfl <;> rfl
    have m : ms1 e = 0 := if_neg (by omega)
    rw [this, m]; omega
  · obtain ⟨j, rfl⟩ : ∃ j, n = j + 3 := ⟨n - 3, by omega⟩
    have e1 : cc (j + 3 + 1) = 1 + bound (2 * (j + 3 + 1)) * cc (j + 3) := rfl
    have m : ms1 e ≤ 1 := by unfold ms1; split <;> omega
    have := Nat.mul_le_mul_right (cc (j + 3)) lf
    omega
theorem room_put {P : Program} {w : World} {val : HR Drawing} {H : Hp} {d : Addr} {es : Ms} (M : Memo P w val H d es) (h : big es ≤ cc 6) : (kn3 es).length ≤ sizeLine := by
  have := M.len
  rw [cc_6] at h
  unfold kn3
  rw [List.length_map]
  exact Nat.le_trans (by omega : es.length ≤ 16000000) (by decide)
end Sg

/-! ### text W13 -/
namespace Sg
open PySem PySem.Spec PyProof.Rows L2
open Uw61 (Drawing Line)

def wv (way : Nat) : HR Drawing := fun _ v e => v = .bl (winsV (way == 1) e)
theorem wv_t (way : Nat) : TMon (wv way) := ⟨fun _ h => h⟩
def sp_wins_in (P : Program) (w : World) (a : Ads) : Nat → Sp
  | 0 => fun _ _ _ _ => False
  | n + 1 => fun vs H Q _ => ∃ v d way k es, vs = [v, .int (way : Nat), .ref k] ∧ DV a H v d ∧ Fit d ∧ Uw61.allLives d ≤ n ∧ n ≤ 6 ∧ Memo P w (wv way) H k es ∧ big es + cc n ≤ cc 6 ∧
      ∀ H' es', SB k H H' → Memo P w (wv way) H' k es' → big es' ≤ big es + cc n → Q (.bl (winsV (way == 1) d)) H'
theorem way_eq (way : Nat) : decide ((way : Int) = 1) = (way == 1) := by
  rw [Bool.eq_iff_iff, decide_eq_true_eq, beq_iff_eq]; omega
theorem sb_self {k : Addr} {H : Hp} {o : HO} : SB k H (upd H k o) := fun b u q ne => by rw [upd_ne ne]; exact q
theorem true_t : TMon (fun (_ : Hp) (_ : V) (_ : Drawing) => True) := ⟨fun _ h => h⟩
theorem Memo.weak {P : Program} {w : World} {val : HR Drawing} {H : Hp} {d : Addr} {es : Ms} (M : Memo P w val H d es) : Memo P w (fun _ _ _ => True) H d es := ⟨M.kn, fun x hx => ⟨(M.ok x hx).1, True.intro⟩, M.nd⟩
theorem st_wins_in {P : Program} {w : World} {K : PySem.W.Frag} {mg : Str → Option Value} {base : Heap} {a : Ads} (T : Txt K mg a) (n : Nat) (IH : FnOk P w K mg base CX0 (n + 6) a.f_wins_in a.d_wins_in ["drawing", "way", "known"] (sp_wins_in P w a n)) : FnOk P w K mg base CX0 (n + 1 + 6) a.f_wins_in a.d_wins_in ["drawing", "way", "known"] (sp_wins_in P w a (n + 1)) := by
  refine T.F_wins_in.ok sc_wins_in (fun vs H Q E h => ?_) (fun cdv A outer s H vs Q E hr h => ⟨_, (pss_cons (ps_set (i := 3) sc_wins_in.nd rfl (Or.inl rfl) (pe_call (ok_lean T) (hr.mono (by omega)) rfl T.mg_lean T.F_lean.kp (b_lean T) .nil pass0 (pa_cons (pv 0) pa_nil)))
  (pss_cons (ps_set (i := 4) sc_wins_in.nd rfl (Or.inl rfl) (pe_call (ok_form_of T) (hr.mono (by omega)) rfl T.mg_form_of T.F_form_of.kp (b_form_of T) .nil pass0 (pa_cons (pv 3) pa_nil)))
  (pss_cons (ps_if (pt_cmpR (op_nnotin hr.units) (pv 4) (pv 2) (by rfl))
  (pss_cons (ps_set (i := 5) sc_wins_in.nd rfl (Or.inl rfl) (pe_call (ok_behind T) (hr.mono (by omega)) rfl T.mg_behind T.F_behind.kp (b_behind T) .nil pass0 (pa_cons (pv 3) pa_nil)))
  (pss_cons (ps_asg (pe_not (pe_callB (cr_all rfl) (by rfl) T.n_all (by decide +kernel) (pa_cons (pe_lc (own := [("one", 6)]) rfl sc_wins_in.nd (pi_list (pv 5)) (blkOk_by (N := ["drawing", "way", "known", "bare", "form", "some", "one"]) (sc := defScope s_wins_in) (own := [("one", 6)]) (by decide +kernel)) (fun _ _ _ _ _ => (pg_name (i := 6) sc_wins_in.nd rfl (Or.inl rfl))) (fun _ _ _ _ _ => pts_nil) (fun _ _ _ _ _ => (pe_call IH (hr.mono (by omega)) rfl T.mg_wins_in T.F_wins_in.kp (b_wins_in T) .nil pass0 (pa_cons (pv 6) (pa_cons (pv 1) (pa_cons (pv 2) pa_nil)))))) pa_nil))) (pg_sub (pv 2) (pv 4) (set_N hr.units)))
  (pss_one (ps_if (pt_cmpR (op_eqNil hr.units0) (pv 5) (pe_lst pa_nil) (nomark _))
  (pss_one (ps_asg (pe_cmpR op_eq (pv 1) pe_int (nomark _)) (pg_sub (pv 2) (pv 4) (set_N hr.units)))) pss_nil)))) pss_nil)
  (pss_one (ps_ret (pe_ix (ix_N hr.units) (pv 2) (pv 4) (fun _ _ => rfl))))))), ?_⟩)
  · obtain ⟨v, d, way, k, es, rfl, _⟩ := h; rfl
  · obtain ⟨v, d, way, k, es, rfl, hd, F, hn, n6, M, hb, kk⟩ := h
    have FL := fit_lean F
    have ll := lean_allLives d
    have LL : Lean (leanOf d) := ⟨d, F, rfl⟩
    have eqd : winsV (way == 1) d = winsV (way == 1) (leanOf d) := winsV_alike (alike_lean F.wi)
    refine ⟨_, rfl, v, d, rfl, hd, F, fun H1 w1 s1 h1 => ?_⟩
    refine ⟨_, rfl, w1, leanOf d, rfl, h1, FL, fun H2 q s2 hq => ?_⟩
    have S2 := s1.trans s2
    have M2 := M.same (wv_t way) S2
    have sb2 : SB k H H2 := SB.of S2
    -- what is answered
    have fin : ∀ (σ : L2.St) (H' : Hp) (es' : Ms), σ[2]? = some (some (.ref k)) → σ[4]? = some (some (.ref q)) → KeyV H' (.ref q) (formKey (leanOf d)) → SB k H H' → Memo P w (wv way) H' k es' → big es' ≤ big es + cc n → (lookN (kn3 es') (formKey (leanOf d))).isSome = true →
        tRet (tOp (rGetN P w) (tVar 2) (tVar 4)) { nx := fun x H' => Q V.non H', rt := Q } σ H' := by
      intro σ H' es' e2 e4 hk sb M' hb' hl
      obtain ⟨z, hz⟩ := Option.isSome_iff_exists.mp hl
      refine ⟨_, e2, _, e4, k, q, _, _, z, rfl, rfl, M'.kn, hk, form_depth _, hz, ?_⟩
      have : z = _ := M'.look hz
      rw [this, ← eqd]
      exact kk H' es' sb M' hb'
    refine ⟨_, rfl, _, rfl, q, k, _, _, rfl, rfl, M2.kn, hq, form_depth _, _, rfl, ?_⟩
    refine iteB (fun c => ?_) (fun c => ?_)
    · refine ⟨_, rfl, w1, leanOf d, rfl, dv_mono.go s2 h1, FL, fun H3 r N3 => ?_⟩
      obtain ⟨s3, n3, ws, h3, f3⟩ := N3
      have ln := lines_30000 FL
      have S3 := S2.trans s3
      have M3 := M2.same (wv_t way) s3
      have hk3 : H3 k = some (.ext _) := M3.kn.1
      have rk : r ≠ k := ne_of h3 hk3 (fun z => nomatch z)
      have hq3 := KeyV.mono (ts_same s3) hq
      refine ⟨_, rfl, r, rfl, ⟨_, SqL.of h3⟩, fun D nD => ?_⟩
      have Dk : D ≠ k := fun z => by rw [z, hk3] at nD; cases nD
      have Dr : D ≠ r := fun z => by rw [z, h3] at nD; cases nD
      have wl : ws.length = (Uw61.lines (leanOf d)).length := by rw [f3.len, List.length_map]
      refine lc_list (K := K) (a := r) (xs := ws) (fun i H4 => SB k H3 H4 ∧ ∃ es', Memo P w (wv way) H4 k es' ∧ big es' ≤ big es + i * cc (n - 1) ∧ H4 D = some (.lst ((((Uw61.lines (leanOf d)).take i).map fun x => winsV (way == 1) (Uw61.drawn (leanOf d) x)).map V.bl)))
        ⟨(SB.refl k H3).mut nD, es, M3.same (wv_t way) (same_new nD), by omega, upd_same⟩ (fun i H4 _ z => SqL.of (z.1 _ _ h3 rk)) ?_ ?_
      · rintro i x H4 hx ⟨sb, es', M4, b4, hD⟩
        obtain ⟨e', he', dv⟩ := f3.getL hx
        rw [List.getElem?_map] at he'
        obtain ⟨l, hl, rfl⟩ := Option.map_eq_some_iff.mp he'
        have hm := List.mem_of_getElem? hl
        have lv := line_lives hm
        have lt := (List.getElem?_eq_some_iff.mp hl).1
        obtain ⟨m, rfl⟩ : ∃ m, n = m + 1 := ⟨n - 1, by omega⟩
        have cs := cc_step FL (n := m) (by omega)
        have e1 : m + 1 - 1 = m := by omega
        rw [e1] at b4 ⊢
        have mul : (i + 1) * cc m ≤ (Uw61.lines (leanOf d)).length * cc m := Nat.mul_le_mul_right _ lt
        have ex : (i + 1) * cc m = i * cc m + cc m := Nat.succ_mul _ _
        refine ⟨rfl, yes_of ⟨_, rfl, _, rfl, _, rfl, x, _, way, k, es', rfl, dv_sb hk3 sb (dv_mono.go cut_same dv), FL.line hm, by omega, by omega, M4, by omega, fun H5 es5 sb5 M5 b5 => ?_⟩⟩
        have hD5 := sb5 _ _ hD Dk
        refine ⟨_, hD5, ?_, (sb.trans sb5).mut nD, es5, M5.go (wv_t way) (ts_upd hD5) (upd_ne (fun z => Dk z.symm)), by omega, ?_⟩
        · rw [List.length_map, List.length_map, List.length_take]; exact szl (by omega)
        · rw [upd_same, take_get hl, List.map_append, List.map_append]; rfl
      · rintro H4 ⟨sb, es', M4, b4, hD⟩
        rw [wl, List.take_length] at hD
        rw [wl] at b4
        have b5 : big es' + ms1 (leanOf d) ≤ big es + cc n := by
          cases n with
          | zero =>
            have z : Uw61.allLives (leanOf d) = 0 := by omega
            rw [lines_zero z] at b4
            have : ms1 (leanOf d) = 0 := if_neg (by omega)
            simp at b4; omega
          | succ m =>
            have cs := cc_step FL (n := m) (by omega)
            have e1 : m + 1 - 1 = m := by omega
            rw [e1] at b4
            omega
        have hk4 : H4 k = some (.ext _) := M4.kn.1
        have hq4 := KeyV.mono (ts_sb hk3 sb) hq3
        refine ⟨D, _, rfl, SqL.of hD, _, rfl, _, rfl, _, rfl, k, q, _, _, rfl, rfl, M4.kn, hq4, form_depth _, room_put M4 (by omega), ?_⟩
        have t5 : TS H4 (upd H4 k (KnO P w k (putN (kn3 es') (formKey (leanOf d)) q (.bl (!((Uw61.lines (leanOf d)).map fun x => winsV (way == 1) (Uw61.drawn (leanOf d) x)).all id))))) := ts_ext hk4
        have M5 := M4.weak.put true_t LL hq4 t5 upd_same True.intro
        have sb5 : SB k H _ := ((SB.of S3).trans sb).trans (sb_self (o := KnO P w k (putN (kn3 es') (formKey (leanOf d)) q (.bl (!((Uw61.lines (leanOf d)).map fun x => winsV (way == 1) (Uw61.drawn (leanOf d) x)).all id)))))
        have hr5 := (sb_self (k := k) (o := KnO P w k (putN (kn3 es') (formKey (leanOf d)) q (.bl (!((Uw61.lines (leanOf d)).map fun x => winsV (way == 1) (Uw61.drawn (leanOf d) x)).all id))))) _ _ (sb _ _ h3 rk) rk
        refine ⟨_, rfl, sz (by show 0 ≤ 100000; decide), fun E1 nE1 => ?_⟩
        have s6 : Same (upd H4 k (KnO P w k (putN (kn3 es') (formKey (leanOf d)) q (.bl (!((Uw61.lines (leanOf d)).map fun x => winsV (way == 1) (Uw61.drawn (leanOf d) x)).all id))))) (upd (upd H4 k (KnO P w k (putN (kn3 es') (formKey (leanOf d)) q (.bl (!((Uw61.lines (leanOf d)).map fun x => winsV (way == 1) (Uw61.drawn (leanOf d) x)).all id))))) E1 (.lst [])) := same_new nE1
        have M6 := M5.same true_t s6
        refine ⟨r, E1, ws, rfl, rfl, SqL.of (s6 _ _ hr5), SqL.of upd_same, _, rfl, ?_⟩
        have bg := mput_big es' (leanOf d) q
        have t6 : TS H4 (upd (upd H4 k (KnO P w k (putN (kn3 es') (formKey (leanOf d)) q (.bl (!((Uw61.lines (leanOf d)).map fun x => winsV (way == 1) (Uw61.drawn (leanOf d) x)).all id))))) E1 (.lst [])) := t5.trans (ts_same s6)
        have sb6 : SB k H (upd (upd H4 k (KnO P w k (putN (kn3 es') (formKey (leanOf d)) q (.bl (!((Uw61.lines (leanOf d)).map fun x => winsV (way == 1) (Uw61.drawn (leanOf d) x)).all id))))) E1 (.lst [])) := sb5.trans (SB.of s6)
        refine iteB (fun c2 => ?_) (fun c2 => ?_)
        · have l0 : Uw61.lines (leanOf d) = [] := List.length_eq_zero_iff.mp (by rw [← wl]; simpa using c2)
          have vv : winsV (way == 1) (leanOf d) = (way == 1) := by rw [winsV_turn, if_pos l0]
          refine ⟨_, rfl, rfl, _, rfl, _, rfl, k, q, _, _, rfl, rfl, M6.kn, KeyV.mono t6 hq4, form_depth _, room_put M6 (by have := bg (.bl (!((Uw61.lines (leanOf d)).map fun x => winsV (way == 1) (Uw61.drawn (leanOf d) x)).all id)); omega), ?_⟩
          have hd7 : upd (upd (upd H4 k (KnO P w k (putN (kn3 es') (formKey (leanOf d)) q (.bl (!((Uw61.lines (leanOf d)).map fun x => winsV (way == 1) (Uw61.drawn (leanOf d) x)).all id))))) E1 (.lst [])) k (KnO P w k (putN (kn3 (mput es' (leanOf d) q (.bl (!((Uw61.lines (leanOf d)).map fun x => winsV (way == 1) (Uw61.drawn (leanOf d) x)).all id)))) (formKey (leanOf d)) q (.bl (decide (V.int (way : Nat) = V.int 1))))) k = some (KnO P w k (putN (kn3 es') (formKey (leanOf d)) q (.bl (decide (V.int (way : Nat) = V.int 1))))) := by rw [upd_same, kn3_put, put_put]
          have t7 := t6.trans (ts_ext (H := (upd (upd H4 k (KnO P w k (putN (kn3 es') (formKey (leanOf d)) q (.bl (!((Uw61.lines (leanOf d)).map fun x => winsV (way == 1) (Uw61.drawn (leanOf d) x)).all id))))) E1 (.lst []))) (d := k) (o := KnO P w k (putN (kn3 (mput es' (leanOf d) q (.bl (!((Uw61.lines (leanOf d)).map fun x => winsV (way == 1) (Uw61.drawn (leanOf d) x)).all id)))) (formKey (leanOf d)) q (.bl (decide (V.int (way : Nat) = V.int 1))))) M6.kn.1)
          have M7 := M4.put (wv_t way) LL hq4 t7 hd7 (by
            show V.bl _ = V.bl _
            rw [vv, dec_int]
            congr 1
            rw [Bool.eq_iff_iff, beq_iff_eq, beq_iff_eq]; omega)
          refine fin _ _ _ rfl rfl (KeyV.mono t7 hq4) (sb6.trans sb_self) M7 (Nat.le_trans (bg _) b5) ?_
          rw [kn3_put, look_put]; rfl
        · have l0 : Uw61.lines (leanOf d) ≠ [] := fun z => by
            rw [z] at wl
            rw [List.length_eq_zero_iff.mp wl] at c2; cases c2
          have vv : winsV (way == 1) (leanOf d) = !((Uw61.lines (leanOf d)).map fun x => winsV (way == 1) (Uw61.drawn (leanOf d) x)).all id := by
            rw [winsV_turn, if_neg l0, List.all_map]; rfl
          have hd6 : upd (upd H4 k (KnO P w k (putN (kn3 es') (formKey (leanOf d)) q (.bl (!((Uw61.lines (leanOf d)).map fun x => winsV (way == 1) (Uw61.drawn (leanOf d) x)).all id))))) E1 (.lst []) k = some (KnO P w k (putN (kn3 es') (formKey (leanOf d)) q (.bl (!((Uw61.lines (leanOf d)).map fun x => winsV (way == 1) (Uw61.drawn (leanOf d) x)).all id)))) := s6 _ _ upd_same
          have M7 := M4.put (wv_t way) LL hq4 t6 hd6 (by show V.bl _ = V.bl _; rw [vv])
          refine fin _ _ _ rfl rfl (KeyV.mono t6 hq4) sb6 M7 (Nat.le_trans (bg _) b5) ?_
          rw [kn3_put, look_put]; rfl
    · have c' : (lookN (kn3 es) (formKey (leanOf d))).isSome = true := by
        cases z : (lookN (kn3 es) (formKey (leanOf d))).isSome
        · rw [z] at c; cases c
        · rfl
      exact fin _ _ es rfl rfl hq sb2 M2 (by omega) c'
theorem none_ok {P : Program} {w : World} {K : PySem.W.Frag} {mg : Str → Option Value} {base : Heap} {k : Nat} {f : Addr} {fd : FuncData} {ps : List Str} : FnOk P w K mg base CX0 k f fd ps (fun _ _ _ _ => False) := ⟨fun _ _ _ _ h => h.elim, fun _ _ _ _ _ _ _ _ _ _ _ _ _ h => h.elim⟩
theorem ok_wins_in {P : Program} {w : World} {K : PySem.W.Frag} {mg : Str → Option Value} {base : Heap} {a : Ads} (T : Txt K mg a) : FnOk P w K mg base CX0 13 a.f_wins_in a.d_wins_in ["drawing", "way", "known"] (sp_wins_in P w a 6) :=
  (st_wins_in T 5 (st_wins_in T 4 (st_wins_in T 3 (st_wins_in T 2 (st_wins_in T 1 (st_wins_in T 0 none_ok)))))).mono (by decide)
def sp_first_win (a : Ads) : Sp := fun vs H Q _ => ∃ v d way, vs = [v, .int (way : Nat)] ∧ DV a H v d ∧ Fit d ∧ Uw61.allLives d ≤ 6 ∧ ∀ H' u, Same H H' → (match Uw61.winner (way == 1) d with | none => u = .non | some x => LnV H' u x) → Q u H'
theorem find_take {p : Line → Bool} : ∀ {l : List Line} {i : Nat} {x : Line}, l[i]? = some x → (∀ y ∈ l.take i, p y = false) → p x = true → l.find? p = some x
  | [], i, x, h, _, _ => by simp at h
  | y :: l, 0, x, h, _, hx => by
    have : y = x := by simpa using h
    rw [this, List.find?_cons, hx]
  | y :: l, i + 1, x, h, k, hx => by
    rw [List.find?_cons, k y (by simp)]
    exact find_take (l := l) (i := i) (by simpa using h) (fun z hz => k z (by simp [hz])) hx
theorem memo_new {P : Program} {w : World} {val : HR Drawing} {H : Hp} {d : Addr} (h : H d = some (KnO P w d [])) : Memo P w val H d [] := ⟨⟨h, fun x hx => by simp [kn3] at hx⟩, fun x hx => by simp at hx, List.nodup_nil⟩
theorem ok_first_win {P : Program} {w : World} {K : PySem.W.Frag} {mg : Str → Option Value} {base : Heap} {a : Ads} (T : Txt K mg a) : FnOk P w K mg base CX0 14 a.f_first_win a.d_first_win ["drawing", "way"] (sp_first_win a) := by
  refine T.F_first_win.ok sc_first_win (fun vs H Q E h => ?_) (fun cdv A outer s H vs Q E hr h => ⟨_, (pss_cons (ps_set (i := 2) sc_first_win.nd rfl (Or.inl rfl) pe_dnewN)
  (pss_cons (ps_for PassesOwn.never rfl (pi_list (pe_call (ok_lines_of T) (hr.mono (by decide)) rfl T.mg_lines_of T.F_lines_of.kp (b_lines_of T) .nil pass0 (pa_cons (pv 0) pa_nil))) (pg_name (i := 3) sc_first_win.nd rfl (Or.inl rfl))
  (pss_one (ps_if (pt_not (pt_val (pe_call (ok_wins_in T) (hr.mono (by decide)) rfl T.mg_wins_in T.F_wins_in.kp (b_wins_in T) .nil pass0 (pa_cons (pe_call (ok_drawn T) (hr.mono (by decide)) rfl T.mg_drawn T.F_drawn.kp (b_drawn T) .nil pass0 (pa_cons (pv 0) (pa_cons (pv 3) pa_nil))) (pa_cons (pv 1) (pa_cons (pv 2) pa_nil))))))
  (pss_one (ps_ret (pv 3))) pss_nil)))
  (pss_one (ps_ret pe_non)))), ?_⟩)
  · obtain ⟨v, d, way, rfl, _⟩ := h; rfl
  · obtain ⟨v, d, way, rfl, hd, F, l6, k⟩ := h
    intro n nn
    have s0 : Same H (upd H n (KnO P w n [])) := same_new nn
    refine ⟨_, rfl, v, d, rfl, dv_mono.go s0 hd, F, fun H1 q1 N1 => ?_⟩
    obtain ⟨s1, n1, ws, h1, f1⟩ := N1
    have S1 := s0.trans s1
    have M1 : Memo P w (wv way) H1 n [] := memo_new (s1 _ _ upd_same)
    have hk1 : H1 n = some (.ext _) := M1.kn.1
    have qn : q1 ≠ n := ne_of h1 hk1 (fun z => nomatch z)
    have lf := lines_few F l6
    rw [bound_6] at lf
    refine ⟨q1, rfl, ⟨_, SqL.of h1⟩, ?_⟩
    refine for_list (K := K) (a := q1) (xs := ws) (fun i σ H' => ∃ z es, σ = [some v, some (.int (way : Nat)), some (.ref n), z] ∧ SB n H1 H' ∧ Memo P w (wv way) H' n es ∧ big es ≤ i * cc 5 ∧ ∀ x ∈ (Uw61.lines d).take i, winsV (way == 1) (Uw61.drawn d x) = true)
      ⟨none, [], rfl, SB.refl n H1, M1, by show 0 ≤ _; omega, fun x hx => by simp at hx⟩ (fun i σ H' _ ⟨_, _, _, z, _⟩ => SqL.of (z _ _ h1 qn)) ?_ ?_
    · rintro i x σ H' hx ⟨z, es, rfl, sb, M, hb, al⟩
      obtain ⟨l, hl, lv⟩ := f1.getL hx
      have hm := List.mem_of_getElem? hl
      have lt := (List.getElem?_eq_some_iff.mp hl).1
      have ll := line_lives hm
      have S' : Same H H' := sb.same S1 nn
      refine ⟨_, rfl, _, rfl, fun _ => False, v, d, x, l, rfl, held_no, ?_, F, ln_t.go (ts_sb hk1 sb) lv, hm, fun H2 u s2 hu => ?_⟩
      · rw [cut_no]; exact dv_mono.go S' hd
      rw [cut_no] at hu
      have M2 := M.same (wv_t way) s2
      have c5 : cc 5 = 1861 := by decide
      have c6 := cc_6
      rw [c5] at hb
      have a1 : Uw61.allLives (Uw61.drawn d l) ≤ 5 := by omega
      have a2 : big es + cc 5 ≤ cc 6 := by rw [c5, c6]; omega
      refine ⟨_, rfl, _, rfl, u, _, way, n, es, rfl, hu, F.line hm, a1, (by decide : 5 ≤ 6), M2, a2, fun H3 es3 sb3 M3 b3 => ?_⟩
      have b3 : big es3 ≤ big es + cc 5 := b3
      rw [c5] at b3
      refine ⟨_, rfl, ?_⟩
      have sb4 := (sb.trans (SB.of s2)).trans sb3
      refine iteB (fun c => ?_) (fun c => ?_)
      · refine ⟨_, rfl, k H3 _ (sb4.same S1 nn) ?_⟩
        have c : winsV (way == 1) (Uw61.drawn d l) = false := by simpa using c
        rw [winner_eq, find_take hl (fun y hy => by rw [al y hy]; rfl) (by rw [c]; rfl)]
        exact ln_t.go (ts_sb hk1 sb4) lv
      · have c : winsV (way == 1) (Uw61.drawn d l) = true := by simpa using c
        refine ⟨_, es3, rfl, sb4, M3, by rw [c5]; omega, fun y hy => ?_⟩
        rw [take_get hl] at hy
        rcases List.mem_append.mp hy with hy | hy
        · exact al y hy
        · rw [List.mem_singleton.mp hy]; exact c
    · rintro σ H' ⟨z, es, rfl, sb, M, hb, al⟩
      rw [f1.len, List.take_length] at al
      refine k H' .non (sb.same S1 nn) ?_
      rw [winner_eq, List.find?_eq_none.mpr (fun y hy => by rw [al y hy]; simp)]
end Sg

/-! ### text W14 -/
namespace Sg
open PySem PySem.Spec PyProof.Rows L2
open Uw61 (Drawing Line)

def ov : HR Drawing := fun _ v e => v = .int (worthV e : Nat)
theorem ov_t : TMon ov := ⟨fun _ h => h⟩
def sp_worth_in (P : Program) (w : World) (a : Ads) : Nat → Sp
  | 0 => fun _ _ _ _ => False
  | n + 1 => fun vs H Q _ => ∃ v d k es, vs = [v, .ref k] ∧ DV a H v d ∧ Fit d ∧ Uw61.allLives d ≤ n ∧ n ≤ 6 ∧ Memo P w ov H k es ∧ big es + cc n ≤ cc 6 ∧
      ∀ H' es', SB k H H' → Memo P w ov H' k es' → big es' ≤ big es + cc n → Q (.int (worthV d : Nat)) H'
theorem st_worth_in {P : Program} {w : World} {K : PySem.W.Frag} {mg : Str → Option Value} {base : Heap} {a : Ads} (T : Txt K mg a) (n : Nat) (IH : FnOk P w K mg base CX0 (n + 6) a.f_worth_in a.d_worth_in ["drawing", "known"] (sp_worth_in P w a n)) : FnOk P w K mg base CX0 (n + 1 + 6) a.f_worth_in a.d_worth_in ["drawing", "known"] (sp_worth_in P w a (n + 1)) := by
  refine T.F_worth_in.ok sc_worth_in (fun vs H Q E h => ?_) (fun cdv A outer s H vs Q E hr h => ⟨_, (pss_cons (ps_set (i := 2) sc_worth_in.nd rfl (Or.inl rfl) (pe_call (ok_lean T) (hr.mono (by omega)) rfl T.mg_lean T.F_lean.kp (b_lean T) .nil pass0 (pa_cons (pv 0) pa_nil)))
  (pss_cons (ps_set (i := 3) sc_worth_in.nd rfl (Or.inl rfl) (pe_call (ok_form_of T) (hr.mono (by omega)) rfl T.mg_form_of T.F_form_of.kp (b_form_of T) .nil pass0 (pa_cons (pv 2) pa_nil)))
  (pss_cons (ps_if (pt_cmpR (op_nnotin hr.units) (pv 3) (pv 1) (by rfl))
  (pss_one (ps_asg (pe_call (ok_least_missing T) (hr.mono (by omega)) rfl T.mg_least_missing T.F_least_missing.kp (b_least_missing T) .nil pass0 (pa_cons (pe_lc (own := [("one", 4)]) rfl sc_worth_in.nd (pi_list (pe_call (ok_behind T) (hr.mono (by omega)) rfl T.mg_behind T.F_behind.kp (b_behind T) .nil pass0 (pa_cons (pv 2) pa_nil))) (blkOk_by (N := ["drawing", "known", "bare", "form", "one"]) (sc := defScope s_worth_in) (own := [("one", 4)]) (by decide +kernel)) (fun _ _ _ _ _ => (pg_name (i := 4) sc_worth_in.nd rfl (Or.inl rfl))) (fun _ _ _ _ _ => pts_nil) (fun _ _ _ _ _ => (pe_call IH (hr.mono (by omega)) rfl T.mg_worth_in T.F_worth_in.kp (b_worth_in T) .nil pass0 (pa_cons (pv 4) (pa_cons (pv 1) pa_nil))))) pa_nil)) (pg_sub (pv 1) (pv 3) (set_N hr.units)))) pss_nil)
  (pss_one (ps_ret (pe_ix (ix_N hr.units) (pv 1) (pv 3) (fun _ _ => rfl))))))), ?_⟩)
  · obtain ⟨v, d, k, es, rfl, _⟩ := h; rfl
  · obtain ⟨v, d, k, es, rfl, hd, F, hn, n6, M, hb, kk⟩ := h
    have FL := fit_lean F
    have ll := lean_allLives d
    have LL : Lean (leanOf d) := ⟨d, F, rfl⟩
    have eqd : worthV d = worthV (leanOf d) := worthV_alike (alike_lean F.wi)
    refine ⟨_, rfl, v, d, rfl, hd, F, fun H1 w1 s1 h1 => ?_⟩
    refine ⟨_, rfl, w1, leanOf d, rfl, h1, FL, fun H2 q s2 hq => ?_⟩
    have S2 := s1.trans s2
    have M2 := M.same ov_t S2
    have sb2 : SB k H H2 := SB.of S2
    have fin : ∀ (σ : L2.St) (H' : Hp) (es' : Ms), σ[1]? = some (some (.ref k)) → σ[3]? = some (some (.ref q)) → KeyV H' (.ref q) (formKey (leanOf d)) → SB k H H' → Memo P w ov H' k es' → big es' ≤ big es + cc n → (lookN (kn3 es') (formKey (leanOf d))).isSome = true →
        tRet (tOp (rGetN P w) (tVar 1) (tVar 3)) { nx := fun x H' => Q V.non H', rt := Q } σ H' := by
      intro σ H' es' e2 e4 hk sb M' hb' hl
      obtain ⟨z, hz⟩ := Option.isSome_iff_exists.mp hl
      refine ⟨_, e2, _, e4, k, q, _, _, z, rfl, rfl, M'.kn, hk, form_depth _, hz, ?_⟩
      have : z = _ := M'.look hz
      rw [this, ← eqd]
      exact kk H' es' sb M' hb'
    refine ⟨_, rfl, _, rfl, q, k, _, _, rfl, rfl, M2.kn, hq, form_depth _, _, rfl, ?_⟩
    refine iteB (fun c => ?_) (fun c => ?_)
    · refine ⟨_, rfl, w1, leanOf d, rfl, dv_mono.go s2 h1, FL, fun H3 r N3 => ?_⟩
      obtain ⟨s3, n3, ws, h3, f3⟩ := N3
      have ln := lines_30000 FL
      have S3 := S2.trans s3
      have M3 := M2.same ov_t s3
      have hk3 : H3 k = some (.ext _) := M3.kn.1
      have rk : r ≠ k := ne_of h3 hk3 (fun z => nomatch z)
      have hq3 := KeyV.mono (ts_same s3) hq
      refine ⟨r, rfl, ⟨_, SqL.of h3⟩, fun D nD => ?_⟩
      have Dk : D ≠ k := fun z => by rw [z, hk3] at nD; cases nD
      have Dr : D ≠ r := fun z => by rw [z, h3] at nD; cases nD
      have wl : ws.length = (Uw61.lines (leanOf d)).length := by rw [f3.len, List.length_map]
      refine lc_list (K := K) (a := r) (xs := ws) (fun i H4 => SB k H3 H4 ∧ ∃ es', Memo P w ov H4 k es' ∧ big es' ≤ big es + i * cc (n - 1) ∧ H4 D = some (.lst (nv (((Uw61.lines (leanOf d)).take i).map fun x => worthV (Uw61.drawn (leanOf d) x)))))
        ⟨(SB.refl k H3).mut nD, es, M3.same ov_t (same_new nD), by omega, upd_same⟩ (fun i H4 _ z => SqL.of (z.1 _ _ h3 rk)) ?_ ?_
      · rintro i x H4 hx ⟨sb, es', M4, b4, hD⟩
        obtain ⟨e', he', dv⟩ := f3.getL hx
        rw [List.getElem?_map] at he'
        obtain ⟨l, hl, rfl⟩ := Option.map_eq_some_iff.mp he'
        have hm := List.mem_of_getElem? hl
        have lv := line_lives hm
        have lt := (List.getElem?_eq_some_iff.mp hl).1
        obtain ⟨m, rfl⟩ : ∃ m, n = m + 1 := ⟨n - 1, by omega⟩
        have cs := cc_step FL (n := m) (by omega)
        have e1 : m + 1 - 1 = m := by omega
        rw [e1] at b4 ⊢
        have mul : (i + 1) * cc m ≤ (Uw61.lines (leanOf d)).length * cc m := Nat.mul_le_mul_right _ lt
        have ex : (i + 1) * cc m = i * cc m + cc m := Nat.succ_mul _ _
        refine ⟨rfl, yes_of ⟨_, rfl, _, rfl, x, _, k, es', rfl, dv_sb hk3 sb (dv_mono.go cut_same dv), FL.line hm, by omega, by omega, M4, by omega, fun H5 es5 sb5 M5 b5 => ?_⟩⟩
        have hD5 := sb5 _ _ hD Dk
        refine ⟨_, hD5, ?_, (sb.trans sb5).mut nD, es5, M5.go ov_t (ts_upd hD5) (upd_ne (fun z => Dk z.symm)), by omega, ?_⟩
        · rw [nv_length, List.length_map, List.length_take]; exact szl (by omega)
        · rw [upd_same, take_get hl, List.map_append, nv_append]; rfl
      · rintro H4 ⟨sb, es', M4, b4, hD⟩
        rw [wl, List.take_length] at hD
        rw [wl] at b4
        have b5 : big es' + ms1 (leanOf d) ≤ big es + cc n := by
          cases n with
          | zero =>
            have z : Uw61.allLives (leanOf d) = 0 := by omega
            rw [lines_zero z] at b4
            have : ms1 (leanOf d) = 0 := if_neg (by omega)
            simp at b4; omega
          | succ m =>
            have cs := cc_step FL (n := m) (by omega)
            have e1 : m + 1 - 1 = m := by omega
            rw [e1] at b4
            omega
        have hk4 : H4 k = some (.ext _) := M4.kn.1
        have hq4 := KeyV.mono (ts_sb hk3 sb) hq3
        refine ⟨.ref D, _, rfl, ⟨D, rfl, hD⟩, _, rfl, _, rfl, k, q, _, _, rfl, rfl, M4.kn, hq4, form_depth _, room_put M4 (by omega), ?_⟩
        rw [← worthV_turn]
        have t5 : TS H4 (upd H4 k (KnO P w k (putN (kn3 es') (formKey (leanOf d)) q (.int (worthV (leanOf d) : Nat))))) := ts_ext hk4
        have M5 := M4.put ov_t LL hq4 t5 upd_same rfl
        refine fin _ _ _ rfl rfl (KeyV.mono t5 hq4) (((SB.of S3).trans sb).trans sb_self) M5 (Nat.le_trans (mput_big es' (leanOf d) q _) b5) ?_
        rw [kn3_put, look_put]; rfl
    · have c' : (lookN (kn3 es) (formKey (leanOf d))).isSome = true := by
        cases z : (lookN (kn3 es) (formKey (leanOf d))).isSome
        · rw [z] at c; cases c
        · rfl
      exact fin _ _ es rfl rfl hq sb2 M2 (by omega) c'
theorem ok_worth_in {P : Program} {w : World} {K : PySem.W.Frag} {mg : Str → Option Value} {base : Heap} {a : Ads} (T : Txt K mg a) : FnOk P w K mg base CX0 13 a.f_worth_in a.d_worth_in ["drawing", "known"] (sp_worth_in P w a 7) :=
  st_worth_in T 6 (st_worth_in T 5 (st_worth_in T 4 (st_worth_in T 3 (st_worth_in T 2 (st_worth_in T 1 (st_worth_in T 0 none_ok))))))
/-! ### the span -/
def sv : HR Drawing := fun H v e => PV H v (spanV e)
theorem sv_t : TMon sv := ⟨fun s h => pv_t.go s h⟩
def sp_span_in (P : Program) (w : World) (a : Ads) : Nat → Sp
  | 0 => fun _ _ _ _ => False
  | n + 1 => fun vs H Q _ => ∃ v d k es, vs = [v, .ref k] ∧ DV a H v d ∧ Fit d ∧ Uw61.allLives d ≤ n ∧ n ≤ 6 ∧ Memo P w sv H k es ∧ big es + cc n ≤ cc 6 ∧
      ∀ H' es' u, SB k H H' → Memo P w sv H' k es' → big es' ≤ big es + cc n → PV H' u (spanV d) → Q u H'
theorem span_min {l : List (Nat × Nat)} (h : l ≠ []) {m : Int} (hm : m ∈ (l.map (·.1)).map fun n : Nat => (n : Int)) (hl : ∀ y, y ∈ ((l.map (·.1)).map fun n : Nat => (n : Int)) → m ≤ y) : 1 + m = ((spanOf l).1 : Int) := by
  obtain ⟨h1, ⟨y, hy, h2⟩, _⟩ := spanOf_spec h
  obtain ⟨n, hn, rfl⟩ := List.mem_map.mp hm
  obtain ⟨x, hx, rfl⟩ := List.mem_map.mp hn
  have a1 := (h1 x hx).1
  have a2 := hl (y.1 : Int) (List.mem_map.mpr ⟨y.1, List.mem_map.mpr ⟨y, hy, rfl⟩, rfl⟩)
  omega
theorem span_max {l : List (Nat × Nat)} (h : l ≠ []) {m : Int} (hm : m ∈ (l.map (·.2)).map fun n : Nat => (n : Int)) (hl : ∀ y, y ∈ ((l.map (·.2)).map fun n : Nat => (n : Int)) → y ≤ m) : 1 + m = ((spanOf l).2 : Int) := by
  obtain ⟨h1, _, y, hy, h2⟩ := spanOf_spec h
  obtain ⟨n, hn, rfl⟩ := List.mem_map.mp hm
  obtain ⟨x, hx, rfl⟩ := List.mem_map.mp hn
  have a1 := (h1 x hx).2
  have a2 := hl (y.2 : Int) (List.mem_map.mpr ⟨y.2, List.mem_map.mpr ⟨y, hy, rfl⟩, rfl⟩)
  omega
theorem st_span_in {P : Program} {w : World} {K : PySem.W.Frag} {mg : Str → Option Value} {base : Heap} {a : Ads} (T : Txt K mg a) (n : Nat) (IH : FnOk P w K mg base CX0 (n + 6) a.f_span_in a.d_span_in ["drawing", "known"] (sp_span_in P w a n)) : FnOk P w K mg base CX0 (n + 1 + 6) a.f_span_in a.d_span_in ["drawing", "known"] (sp_span_in P w a (n + 1)) := by
  refine T.F_span_in.ok sc_span_in (fun vs H Q E h => ?_) (fun cdv A outer s H vs Q E hr h => ⟨_, (pss_cons (ps_set (i := 2) sc_span_in.nd rfl (Or.inl rfl) (pe_call (ok_lean T) (hr.mono (by omega)) rfl T.mg_lean T.F_lean.kp (b_lean T) .nil pass0 (pa_cons (pv 0) pa_nil)))
  (pss_cons (ps_set (i := 3) sc_span_in.nd rfl (Or.inl rfl) (pe_call (ok_form_of T) (hr.mono (by omega)) rfl T.mg_form_of T.F_form_of.kp (b_form_of T) .nil pass0 (pa_cons (pv 2) pa_nil)))
  (pss_cons (ps_if (pt_cmpR (op_nnotin hr.units) (pv 3) (pv 1) (by rfl))
  (pss_cons (ps_setLc (i := 4) (own := [("one", 5)]) rfl sc_span_in.nd rfl rfl (sw_true rfl rfl rfl (by decide +kernel)) (pi_list (pe_call (ok_behind T) (hr.mono (by omega)) rfl T.mg_behind T.F_behind.kp (b_behind T) .nil pass0 (pa_cons (pv 2) pa_nil))) (blkOk_by (N := ["drawing", "known", "bare", "form", "some", "one"]) (sc := defScope s_span_in) (own := [("one", 5)]) (by decide +kernel)) (fun _ _ _ _ _ => (pg_name (i := 5) sc_span_in.nd rfl (Or.inl rfl))) (fun _ _ _ _ _ => pts_nil) (fun _ _ _ _ _ => (pe_call IH (hr.mono (by omega)) rfl T.mg_span_in T.F_span_in.kp (b_span_in T) .nil pass0 (pa_cons (pv 5) (pa_cons (pv 1) pa_nil)))))
  (pss_cons (ps_asg (pe_tup (pa_cons pe_int (pa_cons pe_int pa_nil))) (pg_sub (pv 1) (pv 3) (set_N hr.units)))
  (pss_one (ps_if (pt_cmpR (op_neNil hr.units0) (pv 4) (pe_lst pa_nil) (nomark _))
  (pss_one (ps_asg (pe_tup (pa_cons (pe_op op_add pe_int (pe_callB (cr_min rfl) (by rfl) T.n_min (by decide +kernel) (pa_cons (pe_lc (own := [("one", 5)]) rfl sc_span_in.nd (pi_list (pv 4)) (blkOk_by (N := ["drawing", "known", "bare", "form", "some", "one"]) (sc := defScope s_span_in) (own := [("one", 5)]) (by decide +kernel)) (fun _ _ _ _ _ => (pg_name (i := 5) sc_span_in.nd rfl (Or.inl rfl))) (fun _ _ _ _ _ => pts_nil) (fun _ _ _ _ _ => (pe_ix (r := rIxT K) ix_tup (pv 5) pe_int (fun _ _ => rfl)))) pa_nil))) (pa_cons (pe_op op_add pe_int (pe_callB (cr_max rfl) (by rfl) T.n_max (by decide +kernel) (pa_cons (pe_lc (own := [("one", 5)]) rfl sc_span_in.nd (pi_list (pv 4)) (blkOk_by (N := ["drawing", "known", "bare", "form", "some", "one"]) (sc := defScope s_span_in) (own := [("one", 5)]) (by decide +kernel)) (fun _ _ _ _ _ => (pg_name (i := 5) sc_span_in.nd rfl (Or.inl rfl))) (fun _ _ _ _ _ => pts_nil) (fun _ _ _ _ _ => (pe_ix (r := rIxT K) ix_tup (pv 5) pe_int (fun _ _ => rfl)))) pa_nil))) pa_nil))) (pg_sub (pv 1) (pv 3) (set_N hr.units)))) pss_nil)))) pss_nil)
  (pss_one (ps_ret (pe_ix (ix_N hr.units) (pv 1) (pv 3) (fun _ _ => rfl))))))), ?_⟩)
  · obtain ⟨v, d, k, es, rfl, _⟩ := h; rfl
  · obtain ⟨v, d, k, es, rfl, hd, F, hn, n6, M, hb, kk⟩ := h
    have FL := fit_lean F
    have ll := lean_allLives d
    have LL : Lean (leanOf d) := ⟨d, F, rfl⟩
    have eqd : spanV d = spanV (leanOf d) := spanV_alike (alike_lean F.wi)
    refine ⟨_, rfl, v, d, rfl, hd, F, fun H1 w1 s1 h1 => ?_⟩
    refine ⟨_, rfl, w1, leanOf d, rfl, h1, FL, fun H2 q s2 hq => ?_⟩
    have S2 := s1.trans s2
    have M2 := M.same sv_t S2
    have sb2 : SB k H H2 := SB.of S2
    have fin : ∀ (σ : L2.St) (H' : Hp) (es' : Ms), σ[1]? = some (some (.ref k)) → σ[3]? = some (some (.ref q)) → KeyV H' (.ref q) (formKey (leanOf d)) → SB k H H' → Memo P w sv H' k es' → big es' ≤ big es + cc n → (lookN (kn3 es') (formKey (leanOf d))).isSome = true →
        tRet (tOp (rGetN P w) (tVar 1) (tVar 3)) { nx := fun x H' => Q V.non H', rt := Q } σ H' := by
      intro σ H' es' e2 e4 hk sb M' hb' hl
      obtain ⟨z, hz⟩ := Option.isSome_iff_exists.mp hl
      refine ⟨_, e2, _, e4, k, q, _, _, z, rfl, rfl, M'.kn, hk, form_depth _, hz, ?_⟩
      have : PV H' z (spanV (leanOf d)) := M'.look hz
      rw [← eqd] at this
      exact kk H' es' z sb M' hb' this
    refine ⟨_, rfl, _, rfl, q, k, _, _, rfl, rfl, M2.kn, hq, form_depth _, _, rfl, ?_⟩
    refine iteB (fun c => ?_) (fun c => ?_)
    · refine ⟨_, rfl, w1, leanOf d, rfl, dv_mono.go s2 h1, FL, fun H3 r N3 => ?_⟩
      obtain ⟨s3, n3, ws, h3, f3⟩ := N3
      have ln := lines_30000 FL
      have S3 := S2.trans s3
      have M3 := M2.same sv_t s3
      have hk3 : H3 k = some (.ext _) := M3.kn.1
      have rk : r ≠ k := ne_of h3 hk3 (fun z => nomatch z)
      have hq3 := KeyV.mono (ts_same s3) hq
      refine ⟨r, rfl, ⟨_, SqL.of h3⟩, fun D nD => ?_⟩
      have Dk : D ≠ k := fun z => by rw [z, hk3] at nD; cases nD
      have Dr : D ≠ r := fun z => by rw [z, h3] at nD; cases nD
      have wl : ws.length = (Uw61.lines (leanOf d)).length := by rw [f3.len, List.length_map]
      refine lc_list (K := K) (a := r) (xs := ws) (fun i H4 => SB k H3 H4 ∧ ∃ es' acc, Memo P w sv H4 k es' ∧ big es' ≤ big es + i * cc (n - 1) ∧ H4 D = some (.lst acc) ∧ F2 (PV H4) acc (((Uw61.lines (leanOf d)).take i).map fun x => spanV (Uw61.drawn (leanOf d) x)))
        ⟨(SB.refl k H3).mut nD, es, [], M3.same sv_t (same_new nD), by omega, upd_same, .nil⟩ (fun i H4 _ z => SqL.of (z.1 _ _ h3 rk)) ?_ ?_
      · rintro i x H4 hx ⟨sb, es', acc, M4, b4, hD, fa⟩
        obtain ⟨e', he', dv⟩ := f3.getL hx
        rw [List.getElem?_map] at he'
        obtain ⟨l, hl, rfl⟩ := Option.map_eq_some_iff.mp he'
        have hm := List.mem_of_getElem? hl
        have lv := line_lives hm
        have lt := (List.getElem?_eq_some_iff.mp hl).1
        obtain ⟨m, rfl⟩ : ∃ m, n = m + 1 := ⟨n - 1, by omega⟩
        have cs := cc_step FL (n := m) (by omega)
        have e1 : m + 1 - 1 = m := by omega
        rw [e1] at b4 ⊢
        have mul : (i + 1) * cc m ≤ (Uw61.lines (leanOf d)).length * cc m := Nat.mul_le_mul_right _ lt
        have ex : (i + 1) * cc m = i * cc m + cc m := Nat.succ_mul _ _
        refine ⟨rfl, yes_of ⟨_, rfl, _, rfl, x, _, k, es', rfl, dv_sb hk3 sb (dv_mono.go cut_same dv), FL.line hm, by omega, by omega, M4, by omega, fun H5 es5 u5 sb5 M5 b5 pv5 => ?_⟩⟩
        have hD5 := sb5 _ _ hD Dk
        have hk4 : H4 k = some (.ext _) := M4.kn.1
        refine ⟨_, hD5, ?_, (sb.trans sb5).mut nD, es5, _, M5.go sv_t (ts_upd hD5) (upd_ne (fun z => Dk z.symm)), by omega, upd_same, ?_⟩
        · rw [fa.len, List.length_map, List.length_take]; exact szl (by omega)
        · rw [take_get hl, List.map_append]
          exact (f2_t pv_t ((ts_sb hk4 sb5).trans (ts_upd hD5)) fa).append (.one (pv_t.go (ts_upd hD5) pv5))
      · rintro H4 ⟨sb, es', acc, M4, b4, hD, fa⟩
        rw [wl, List.take_length] at fa
        rw [wl] at b4
        have al : acc.length = (Uw61.lines (leanOf d)).length := by rw [fa.len, List.length_map]
        have b5 : big es' + ms1 (leanOf d) ≤ big es + cc n := by
          cases n with
          | zero =>
            have z : Uw61.allLives (leanOf d) = 0 := by omega
            rw [lines_zero z] at b4
            have : ms1 (leanOf d) = 0 := if_neg (by omega)
            simp at b4; omega
          | succ m =>
            have cs := cc_step FL (n := m) (by omega)
            have e1 : m + 1 - 1 = m := by omega
            rw [e1] at b4
            omega
        have hk4 : H4 k = some (.ext _) := M4.kn.1
        have hq4 := KeyV.mono (ts_sb hk3 sb) hq3
        refine ⟨sz (by show 2 ≤ 100000; decide), fun t nt => ?_⟩
        have s5 : Same H4 (upd H4 t (.tup [.int 0, .int 0])) := same_new nt
        have tk : t ≠ k := fun z => by rw [z, hk4] at nt; cases nt
        have M5 := M4.same sv_t s5
        have hk5 : (upd H4 t (.tup [.int 0, .int 0])) k = some (.ext _) := M5.kn.1
        have hq5 := KeyV.mono (ts_same s5) hq4
        refine ⟨_, rfl, _, rfl, k, q, _, _, rfl, rfl, M5.kn, hq5, form_depth _, room_put M5 (by omega), ?_⟩
        have t6 : TS (upd H4 t (.tup [.int 0, .int 0])) (upd (upd H4 t (.tup [.int 0, .int 0])) k (KnO P w k (putN (kn3 es') (formKey (leanOf d)) q (.ref t)))) := ts_ext hk5
        have M6 := M5.weak.put true_t LL hq5 t6 upd_same True.intro
        have hD6 : (upd (upd H4 t (.tup [.int 0, .int 0])) k (KnO P w k (putN (kn3 es') (formKey (leanOf d)) q (.ref t)))) D = some (.lst acc) := by rw [upd_ne Dk]; exact s5 _ _ hD
        have sb6 : SB k H (upd (upd H4 t (.tup [.int 0, .int 0])) k (KnO P w k (putN (kn3 es') (formKey (leanOf d)) q (.ref t)))) := (((SB.of S3).trans sb).trans (SB.of s5)).trans sb_self
        refine ⟨_, rfl, sz (by show 0 ≤ 100000; decide), fun E1 nE1 => ?_⟩
        have s7 : Same (upd (upd H4 t (.tup [.int 0, .int 0])) k (KnO P w k (putN (kn3 es') (formKey (leanOf d)) q (.ref t)))) (upd (upd (upd H4 t (.tup [.int 0, .int 0])) k (KnO P w k (putN (kn3 es') (formKey (leanOf d)) q (.ref t)))) E1 (.lst [])) := same_new nE1
        have M7 := M6.same true_t s7
        have t7 : TS (upd H4 t (.tup [.int 0, .int 0])) (upd (upd (upd H4 t (.tup [.int 0, .int 0])) k (KnO P w k (putN (kn3 es') (formKey (leanOf d)) q (.ref t)))) E1 (.lst [])) := t6.trans (ts_same s7)
        have sb7 : SB k H (upd (upd (upd H4 t (.tup [.int 0, .int 0])) k (KnO P w k (putN (kn3 es') (formKey (leanOf d)) q (.ref t)))) E1 (.lst [])) := sb6.trans (SB.of s7)
        have hD7 := s7 _ _ hD6
        have bg := mput_big es' (leanOf d) q
        refine ⟨D, E1, acc, rfl, rfl, SqL.of hD7, SqL.of upd_same, _, rfl, ?_⟩
        have vv : spanV (leanOf d) = spanOf ((Uw61.lines (leanOf d)).map fun x => spanV (Uw61.drawn (leanOf d) x)) := spanV_turn _
        refine iteB (fun c2 => ?_) (fun c2 => ?_)
        · have l0 : (Uw61.lines (leanOf d)).map (fun x => spanV (Uw61.drawn (leanOf d) x)) ≠ [] := fun z => by
            rw [z] at fa
            have := fa.len
            rw [List.length_eq_zero_iff.mp this] at c2; cases c2
          have fa7 := f2_t pv_t ((ts_same s5).trans t7) fa
          have k7 : (upd (upd (upd H4 t (.tup [.int 0, .int 0])) k (KnO P w k (putN (kn3 es') (formKey (leanOf d)) q (.ref t)))) E1 (.lst [])) k = some (.ext _) := M7.kn.1
          generalize hS : (Uw61.lines (leanOf d)).map (fun x => spanV (Uw61.drawn (leanOf d) x)) = S at l0 fa7 vv
          have Sl : S.length ≤ 30000 := by rw [← hS, List.length_map]; exact ln
          have pos : 0 < S.length := List.length_pos_iff.mpr l0
          refine ⟨_, rfl, D, rfl, ⟨_, SqL.of hD7⟩, fun D3 nD3 => ?_⟩
          refine lc_list (K := K) (a := D) (xs := acc) (fun i H8 => Same (upd (upd (upd H4 t (.tup [.int 0, .int 0])) k (KnO P w k (putN (kn3 es') (formKey (leanOf d)) q (.ref t)))) E1 (.lst [])) H8 ∧ H8 D3 = some (.lst (nv ((S.take i).map (·.1))))) ⟨same_new nD3, upd_same⟩ (fun i H8 _ z => SqL.of (z.1 _ _ hD7)) ?_ ?_
          · rintro i x H8 hx ⟨s8, hD3⟩
            obtain ⟨y, hy, t', rfl, ht'⟩ := fa7.getL hx
            refine ⟨rfl, yes_of ⟨_, rfl, t', _, 0, _, rfl, rfl, SqT.of (s8 _ _ ht'), rfl, _, hD3, ?_, same_mut s8 nD3, ?_⟩⟩
            · rw [nv_length, List.length_map, List.length_take]; exact szl (by omega)
            · rw [upd_same, take_get hy, List.map_append, nv_append]; rfl
          rintro H8 ⟨s8, hD3⟩
          rw [fa7.len, List.take_length, nv_ints] at hD3
          refine ⟨D3, _, rfl, SqL.of hD3, by rw [List.length_map, List.length_map]; exact pos, fun m1 hm1 hl1 => ?_⟩
          refine ⟨_, _, rfl, rfl, ?_⟩
          have e1 := span_min l0 hm1 hl1
          have hD8 := s8 _ _ hD7
          have fa8 := f2_t pv_t (ts_same s8) fa7
          refine ⟨_, rfl, D, rfl, ⟨_, SqL.of hD8⟩, fun D4 nD4 => ?_⟩
          refine lc_list (K := K) (a := D) (xs := acc) (fun i H9 => Same H8 H9 ∧ H9 D4 = some (.lst (nv ((S.take i).map (·.2))))) ⟨same_new nD4, upd_same⟩ (fun i H9 _ z => SqL.of (z.1 _ _ hD8)) ?_ ?_
          · rintro i x H9 hx ⟨s9, hD4⟩
            obtain ⟨y, hy, t', rfl, ht'⟩ := fa8.getL hx
            refine ⟨rfl, yes_of ⟨_, rfl, t', _, 1, _, rfl, rfl, SqT.of (s9 _ _ ht'), rfl, _, hD4, ?_, same_mut s9 nD4, ?_⟩⟩
            · rw [nv_length, List.length_map, List.length_take]; exact szl (by omega)
            · rw [upd_same, take_get hy, List.map_append, nv_append]; rfl
          rintro H9 ⟨s9, hD4⟩
          rw [fa8.len, List.take_length, nv_ints] at hD4
          refine ⟨D4, _, rfl, SqL.of hD4, by rw [List.length_map, List.length_map]; exact pos, fun m2 hm2 hl2 => ?_⟩
          refine ⟨_, _, rfl, rfl, sz (by show 2 ≤ 100000; decide), fun t2 nt2 => ?_⟩
          have e2 := span_max l0 hm2 hl2
          have S9 : Same (upd (upd (upd H4 t (.tup [.int 0, .int 0])) k (KnO P w k (putN (kn3 es') (formKey (leanOf d)) q (.ref t)))) E1 (.lst [])) (upd H9 t2 (.tup [.int (1 + m1), .int (1 + m2)])) := (s8.trans s9).trans (same_new nt2)
          have M9 := M7.same true_t S9
          have t9 : TS (upd H4 t (.tup [.int 0, .int 0])) _ := t7.trans (ts_same S9)
          refine ⟨_, rfl, _, rfl, k, q, _, _, rfl, rfl, M9.kn, KeyV.mono t9 hq5, form_depth _, room_put M9 (by have := bg (.ref t); omega), ?_⟩
          have k9 : upd H9 t2 (.tup [.int (1 + m1), .int (1 + m2)]) k = some (.ext _) := M9.kn.1
          have t2k : t2 ≠ k := fun z => by rw [z, (s8.trans s9) _ _ k7] at nt2; cases nt2
          have hd10 : upd (upd H9 t2 (.tup [.int (1 + m1), .int (1 + m2)])) k (KnO P w k (putN (kn3 (mput es' (leanOf d) q (.ref t))) (formKey (leanOf d)) q (.ref t2))) k = some (KnO P w k (putN (kn3 es') (formKey (leanOf d)) q (.ref t2))) := by rw [upd_same, kn3_put, put_put]
          have t10 := t9.trans (ts_ext (o := KnO P w k (putN (kn3 (mput es' (leanOf d) q (.ref t))) (formKey (leanOf d)) q (.ref t2))) k9)
          have M10 := M5.put sv_t LL hq5 t10 hd10 ⟨t2, rfl, by rw [upd_ne t2k, upd_same, vv, e1, e2]⟩
          refine fin _ _ _ rfl rfl (KeyV.mono t10 hq5) ((sb7.trans (SB.of S9)).trans sb_self) M10 (Nat.le_trans (bg _) b5) ?_
          rw [kn3_put, look_put]; rfl
        · have l0 : Uw61.lines (leanOf d) = [] := List.length_eq_zero_iff.mp (by
            rw [← al]
            cases acc with
            | nil => rfl
            | cons => cases c2)
          have v0 : spanV (leanOf d) = (0, 0) := by rw [vv, l0]; rfl
          have hd7 : (upd (upd (upd H4 t (.tup [.int 0, .int 0])) k (KnO P w k (putN (kn3 es') (formKey (leanOf d)) q (.ref t)))) E1 (.lst [])) k = some (KnO P w k (putN (kn3 es') (formKey (leanOf d)) q (.ref t))) := s7 _ _ upd_same
          have M8 := M5.put sv_t LL hq5 t7 hd7 ⟨t, rfl, by rw [v0]; exact s7 _ _ (by rw [upd_ne tk, upd_same]; rfl)⟩
          refine fin _ _ _ rfl rfl (KeyV.mono t7 hq5) sb7 M8 (Nat.le_trans (bg _) b5) ?_
          rw [kn3_put, look_put]; rfl
    · have c' : (lookN (kn3 es) (formKey (leanOf d))).isSome = true := by
        cases z : (lookN (kn3 es) (formKey (leanOf d))).isSome
        · rw [z] at c; cases c
        · rfl
      exact fin _ _ es rfl rfl hq sb2 M2 (by omega) c'
theorem ok_span_in {P : Program} {w : World} {K : PySem.W.Frag} {mg : Str → Option Value} {base : Heap} {a : Ads} (T : Txt K mg a) : FnOk P w K mg base CX0 13 a.f_span_in a.d_span_in ["drawing", "known"] (sp_span_in P w a 7) :=
  st_span_in T 6 (st_span_in T 5 (st_span_in T 4 (st_span_in T 3 (st_span_in T 2 (st_span_in T 1 (st_span_in T 0 none_ok))))))
end Sg

/-! ### text W15 -/
namespace Sg
open PySem PySem.Spec PyProof.Rows L2
open Uw61 (Drawing Line)

theorem dedup_nd (val : Nat → Int) : ∀ i, (PyProof.Rows.firstMet val i).Nodup
  | 0 => List.nodup_nil
  | i + 1 => by
    rw [PyProof.Rows.firstMet_succ]
    unfold PyProof.Rows.step_dedup
    by_cases c : (PyProof.Rows.firstMet val i).any (· == val i) = true
    · rw [if_pos c]; exact dedup_nd val i
    · rw [if_neg c]
      refine List.nodup_append.mpr ⟨dedup_nd val i, by simp, fun a ha b hb e => c ?_⟩
      rw [List.mem_singleton.mp hb] at e
      exact List.any_eq_true.mpr ⟨a, ha, by rw [e]; simp⟩
theorem dedup_mem (val : Nat → Int) (i : Nat) (k : Int) : k ∈ PyProof.Rows.firstMet val i ↔ k ∈ (List.range i).map val := by
  have e : ∀ l : List Int, l.any (· == k) = true ↔ k ∈ l := fun l => by simp
  rw [← e, PyProof.Rows.firstMet_any, e]
theorem many_nat (l : List Nat) : ∃ L : List Nat, L.Nodup ∧ (∀ m, m ∈ L ↔ m ∈ l) ∧ many (l.map fun n : Nat => (n : Int)) = L.length := by
  have mem : ∀ k, k ∈ PyProof.Rows.firstMet (fun i => (l.map fun n : Nat => (n : Int)).getD i 0) (l.map fun n : Nat => (n : Int)).length ↔ ∃ n ∈ l, (n : Int) = k := by
    intro k
    rw [dedup_mem]
    constructor
    · intro h
      obtain ⟨i, hi, rfl⟩ := List.mem_map.mp h
      have hi := List.mem_range.mp hi
      rw [getD_lt hi]
      exact List.mem_map.mp (List.getElem_mem hi)
    · rintro ⟨n, hn, rfl⟩
      obtain ⟨i, hi, e⟩ := List.getElem_of_mem (List.mem_map.mpr ⟨n, hn, rfl⟩ : (n : Int) ∈ l.map fun n : Nat => (n : Int))
      exact List.mem_map.mpr ⟨i, List.mem_range.mpr hi, by rw [getD_lt hi]; exact e⟩
  refine ⟨(PyProof.Rows.firstMet (fun i => (l.map fun n : Nat => (n : Int)).getD i 0) (l.map fun n : Nat => (n : Int)).length).map Int.toNat, ?_, fun m => ?_, (List.length_map ..).symm⟩
  · have nd := dedup_nd (fun i => (l.map fun n : Nat => (n : Int)).getD i 0) (l.map fun n : Nat => (n : Int)).length
    refine List.pairwise_map.mpr (nd.imp_of_mem fun ha hb ne e => ne ?_)
    obtain ⟨n, _, e1⟩ := (mem _).mp ha
    obtain ⟨m, _, e2⟩ := (mem _).mp hb
    omega
  · constructor
    · intro h
      obtain ⟨k, hk, rfl⟩ := List.mem_map.mp h
      obtain ⟨n, hn, rfl⟩ := (mem k).mp hk
      simpa using hn
    · intro h
      exact List.mem_map.mpr ⟨(m : Int), (mem _).mpr ⟨m, h, rfl⟩, by simp⟩
theorem rgV_nat (n : Nat) : rgV 0 (n : Int) = nv (List.range n) := by
  unfold rgV nv
  have : ((n : Int) - 0).toNat = n := by omega
  rw [this]
  apply List.map_congr_left
  intro i _
  congr 1; omega
def sp_pieces_of (a : Ads) : Sp := fun vs H Q _ => ∃ v d, vs = [v] ∧ DV a H v d ∧ Fit d ∧ On d ∧ ∀ H', Same H H' → Q (.int ((Uw61.pieces d).length : Nat)) H'
theorem ok_pieces_of {P : Program} {w : World} {K : PySem.W.Frag} {mg : Str → Option Value} {base : Heap} {a : Ads} (T : Txt K mg a) : FnOk P w K mg base CX0 2 a.f_pieces_of a.d_pieces_of ["drawing"] (sp_pieces_of a) := by
  refine T.F_pieces_of.ok sc_pieces_of (fun vs H Q E h => ?_) (fun cdv A outer s H vs Q E hr h => ⟨_, (pss_cons (ps_set (i := 1) sc_pieces_of.nd rfl (Or.inr rfl) (pe_listRg rfl (by rfl) T.n_list (prg_1 (by rfl) T.n_range (pe_callB call_len_seq (by rfl) T.n_len PySem.boot_len (pa_cons (pe_fld (pv 0) rfl) pa_nil)))))
  (pss_cons (ps_for PassesOwn.never rfl (pi_list (pe_meth0 (pv 0) T.clD T.m_D_all_borders (ok_D_all_borders T) (hr.mono (by decide)) (b_D_all_borders T) .nil pass0)) (pg_name (i := 2) sc_pieces_of.nd rfl (Or.inl rfl))
  (pss_cons (ps_set (i := 3) sc_pieces_of.nd rfl (Or.inr rfl) (pe_ix ix_list (pv 1) (pe_ix ix_list (pv 2) pe_int (fun _ _ => rfl)) (fun _ _ => rfl)))
  (pss_cons (ps_set (i := 4) sc_pieces_of.nd rfl (Or.inr rfl) (pe_lc (own := [("spot", 5)]) rfl sc_pieces_of.nd (pi_list (pv 2)) (blkOk_by (N := ["drawing", "marks", "border", "mark", "old", "spot", "one"]) (sc := defScope s_pieces_of) (own := [("spot", 5)]) (by decide +kernel)) (fun _ _ _ _ _ => (pg_name (i := 5) sc_pieces_of.nd rfl (Or.inl rfl))) (fun _ _ _ _ _ => pts_nil) (fun _ _ _ _ _ => (pe_ix (r := rIxL K) ix_list (pv 1) (pv 5) (fun _ _ => rfl)))))
  (pss_one (ps_set (i := 1) sc_pieces_of.nd rfl (Or.inr rfl) (pe_lc (own := [("one", 6)]) rfl sc_pieces_of.nd (pi_list (pv 1)) (blkOk_by (N := ["drawing", "marks", "border", "mark", "old", "spot", "one"]) (sc := defScope s_pieces_of) (own := [("one", 6)]) (by decide +kernel)) (fun _ _ _ _ _ => (pg_name (i := 6) sc_pieces_of.nd rfl (Or.inl rfl))) (fun _ _ _ _ _ => pts_nil) (fun _ _ _ _ _ => (pe_ifExp (pt_cmpR (r := rIn K false) op_in_seq (pv 6) (pv 4) (by rfl)) (pv 3) (pv 6)))))))))
  (pss_one (ps_ret (pe_lenSetD (by rfl) T.n_len (by rfl) T.n_set (pv 1)))))), ?_⟩)
  · obtain ⟨v, d, rfl, _⟩ := h; rfl
  · obtain ⟨v, d, rfl, hd, F, ho, k⟩ := h
    obtain ⟨p, dx, e, rr, rfl, hp, ⟨qe, rfl, hqe⟩, q, rs, rfl, hq, fr⟩ := id hd
    have no : (dF (.ref qe) (.ref q)).lookup ("all_borders" : Str) = none := dF_no (by decide +kernel) (by decide +kernel) _ _
    have en := F.en
    refine ⟨_, rfl, p, a.CD, dx, _, _, rfl, hp, T.clD, T.nEnds, dF_ends _ _, qe, _, rfl, .inl (SqL.of hqe), _, rfl, ?_, fun L nL => ?_⟩
    · rw [nv_length]; exact RgOk.of_le (by omega) (by omega) (by omega) (by omega)
    rw [nv_length, rgV_nat]
    have s1 : Same H (upd H L (.lst (nv (List.range d.ends.length)))) := same_new nL
    refine ⟨_, rfl, p, dx, _, rfl, s1 _ _ hp, no, .ref p, d, rfl, dv_mono.go s1 hd, F, fun H2 w2 s2 hb2 => ?_⟩
    obtain ⟨qb, ws, rfl, hw, fb⟩ := hb2
    have S2 := s1.trans s2
    refine ⟨qb, rfl, ⟨_, SqL.of hw⟩, ?_⟩
    have blen : ∀ b ∈ d.regions.flatten, b ≠ [] ∧ (∀ x ∈ b, x < d.ends.length) ∧ b.length ≤ 96 := by
      intro b hb
      obtain ⟨bs, h1, h2⟩ := List.mem_flatten.mp hb
      refine ⟨F.ne bs h1 b h2, F.wi bs h1 b h2, ?_⟩
      have := F.pl bs h1
      obtain ⟨b', hb', eb'⟩ := List.getElem_of_mem h2
      have h3 := border_le hb'
      rw [getD_lt hb', eb'] at h3
      omega
    have mlen : ∀ m, (marksOf d (d.regions.flatten.take m)).length = d.ends.length := fun m => by
      unfold marksOf; rw [marks_len, List.length_range]
    refine for_list (K := K) (a := qb) (xs := ws) (fun m σ H' => ∃ z2 z3 z4 L', σ = [some (.ref p), some (.ref L'), z2, z3, z4, none, none] ∧ Same H2 H' ∧ H' L' = some (.lst (nv (marksOf d (d.regions.flatten.take m))))) ⟨none, none, none, L, rfl, Same.refl H2, s2 _ _ upd_same⟩ (fun m σ H' _ ⟨_, _, _, _, _, s, _⟩ => SqL.of (s _ _ hw)) ?_ ?_
    · rintro m x σ H' hx ⟨z2, z3, z4, L', rfl, s, hL⟩
      obtain ⟨b, hb, q3, rfl, h3⟩ := fb.getL hx
      obtain ⟨b0, bw, b96⟩ := blen b (List.mem_of_getElem? hb)
      have h3' := s _ _ h3
      have bl : 0 < b.length := List.length_pos_iff.mpr b0
      have ml := mlen m
      have m0 : b.getD 0 0 < d.ends.length := bw _ (by rw [getD_lt bl]; exact List.getElem_mem bl)
      have nxt : marksOf d (d.regions.flatten.take (m + 1)) = markStep (marksOf d (d.regions.flatten.take m)) b := by
        unfold marksOf; rw [take_get hb, List.foldl_append]; rfl
      rw [nxt]
      generalize marksOf d (d.regions.flatten.take m) = ms at hL ml
      refine ⟨_, rfl, _, rfl, q3, _, _, _, rfl, rfl, SqL.of h3', nv_at bl, L', _, _, _, rfl, rfl, SqL.of hL, nv_at (by rw [ml]; exact m0), ?_⟩
      refine ⟨_, rfl, q3, rfl, ⟨_, SqL.of h3'⟩, fun D nD => ?_⟩
      refine lc_list (K := K) (a := q3) (xs := nv b) (fun i H3 => Same H' H3 ∧ H3 D = some (.lst (nv ((b.take i).map fun s => ms.getD s 0)))) ⟨same_new nD, upd_same⟩ (fun i H3 _ z => SqL.of (z.1 _ _ h3')) ?_ ?_
      · rintro i y H3 hi ⟨s3, hD⟩
        obtain ⟨n, hn, rfl⟩ := nv_getL hi
        have lt := (List.getElem?_eq_some_iff.mp hn).1
        refine ⟨rfl, yes_of ⟨_, rfl, _, rfl, L', _, _, _, rfl, rfl, SqL.of (s3 _ _ hL), nv_at (by rw [ml]; exact bw n (List.mem_of_getElem? hn)), _, hD, ?_, same_mut s3 nD, ?_⟩⟩
        · rw [nv_length, List.length_map, List.length_take]; exact szl (by omega)
        · rw [upd_same, take_get hn, List.map_append, nv_append]; rfl
      · rintro H3 ⟨s3, hD⟩
        rw [nv_length, List.take_length] at hD
        refine ⟨_, rfl, L', rfl, ⟨_, SqL.of (s3 _ _ hL)⟩, fun D2 nD2 => ?_⟩
        refine lc_list (K := K) (a := L') (xs := nv ms) (fun i H4 => Same H3 H4 ∧ H4 D2 = some (.lst (nv ((ms.take i).map fun o => if o ∈ b.map (fun s => ms.getD s 0) then ms.getD (b.getD 0 0) 0 else o)))) ⟨same_new nD2, upd_same⟩ (fun i H4 _ z => SqL.of (z.1 _ _ (s3 _ _ hL))) ?_ ?_
        · rintro i y H4 hi ⟨s4, hD2⟩
          obtain ⟨n, hn, rfl⟩ := nv_getL hi
          have lt := (List.getElem?_eq_some_iff.mp hn).1
          refine ⟨rfl, yes_of ⟨_, rfl, _, rfl, D, _, rfl, .inl (SqL.of (s4 _ _ hD)), rfl, nv_flat _, _, rfl, ?_⟩⟩
          rw [if_neg (by decide), nv_in]
          have ln : (nv ((ms.take i).map fun o => if o ∈ b.map (fun s => ms.getD s 0) then ms.getD (b.getD 0 0) 0 else o)).length < sizeLine := by
            rw [nv_length, List.length_map, List.length_take]; exact szl (by omega)
          refine iteB (fun c => ?_) (fun c => ?_)
          · refine ⟨_, rfl, _, hD2, ln, same_mut s4 nD2, ?_⟩
            rw [upd_same, take_get hn, List.map_append, nv_append, List.map_cons, List.map_nil, if_pos (by simpa using c)]; rfl
          · refine ⟨_, rfl, _, hD2, ln, same_mut s4 nD2, ?_⟩
            rw [upd_same, take_get hn, List.map_append, nv_append, List.map_cons, List.map_nil, if_neg (by simpa using c)]; rfl
        · rintro H4 ⟨s4, hD2⟩
          rw [nv_length, List.take_length] at hD2
          exact ⟨_, _, _, D2, rfl, (s.trans s3).trans s4, hD2⟩
    · rintro σ H' ⟨z2, z3, z4, L', rfl, s, hL⟩
      rw [fb.len, List.take_length, nv_ints] at hL
      obtain ⟨LL, nd, mm, ee⟩ := many_nat (marksOf d d.regions.flatten)
      have pc := pieces_count F ho nd mm
      have ml := mlen d.regions.flatten.length
      rw [List.take_length] at ml
      have small : many ((marksOf d d.regions.flatten).map fun n : Nat => (n : Int)) ≤ 4000 := by
        have := PyProof.Rows.firstMet_length_le (fun i => ((marksOf d d.regions.flatten).map fun n : Nat => (n : Int)).getD i 0) ((marksOf d d.regions.flatten).map fun n : Nat => (n : Int)).length
        unfold many
        rw [List.length_map] at this ⊢
        omega
      refine ⟨_, rfl, L', _, rfl, SqL.of hL, ?_, small, ?_⟩
      · rw [List.length_map]; omega
      · rw [ee, pc]
        exact k H' (S2.trans s)
def choiceB (l : List Nat) (many a : Nat) : Bool := decide (l.Pairwise (· < ·)) && l.all fun b => decide (b < many) && b != a
def sp_is_choice : Sp := fun vs H Q _ => ∃ (v : V) (l : List Nat) (m x : Nat), vs = [v, .int (m : Nat), .int (x : Nat)] ∧ IL H v l ∧ ∀ H', Same H H' → Q (.bl (choiceB l m x)) H'
theorem ok_is_choice {P : Program} {w : World} {K : PySem.W.Frag} {mg : Str → Option Value} {base : Heap} {a : Ads} (T : Txt K mg a) : FnOk P w K mg base CX0 1 a.f_is_choice a.d_is_choice ["chosen", "many", "a"] (sp_is_choice) := by
  refine T.F_is_choice.ok sc_is_choice (fun vs H Q E h => ?_) (fun cdv A outer s H vs Q E hr h => ⟨_, (pss_cons (ps_for PassesOwn.never rfl (pi_enum (by rfl) T.n_enumerate (pa_cons (pv 0) pa_nil)) (pg_tup rfl (pgs_cons (pg_name (i := 3) sc_is_choice.nd rfl (Or.inl rfl)) (pgs_cons (pg_name (i := 4) sc_is_choice.nd rfl (Or.inl rfl)) pgs_nil)))
  (pss_one (ps_if (PW.pt (pw_or (pt_cmpR op_ge (pv 4) (pv 1) (nomark _)) (pw_or (pt_cmpR op_eq (pv 4) (pv 2) (nomark _)) (pw_or1 (PW.pt (pw_and (pt_cmpR op_gt (pv 3) pe_int (nomark _)) (pw_and1 (pt_cmpR op_le (pv 4) (pe_ix ix_list (pv 0) (pe_op op_sub (pv 3) pe_int) (fun _ _ => rfl)) (nomark _)))))))))
  (pss_one (ps_ret pe_bl)) pss_nil)))
  (pss_one (ps_ret pe_bl))), ?_⟩)
  · obtain ⟨v, l, m, x, rfl, _⟩ := h; rfl
  · obtain ⟨v, l, m, x, rfl, ⟨p, rfl, hp⟩, k⟩ := h
    refine ⟨_, rfl, p, _, rfl, SqL.of hp, ?_⟩
    have no : choiceB l m x = false → ∀ H', Same H H' → Q (.bl false) H' := fun e H' s => by rw [← e]; exact k H' s
    refine for_enum (K := K) (a := p) (xs := nv l) (fun i σ H' => ∃ z1 z2, σ = [some (.ref p), some (.int (m : Nat)), some (.int (x : Nat)), z1, z2] ∧ Same H H' ∧ choiceB (l.take i) m x = true) ⟨none, none, rfl, Same.refl H, rfl⟩ (fun i σ H' _ ⟨_, _, _, s, _⟩ => SqL.of (s _ _ hp)) ?_ ?_
    · rintro i y t σ H' hi ⟨z1, z2, rfl, s, cb⟩ nt
      obtain ⟨n, hn, rfl⟩ := nv_getL hi
      have lt := (List.getElem?_eq_some_iff.mp hn).1
      have s2 : Same H' (upd H' t (.tup [V.int (i : Nat), V.int (n : Nat)])) := same_new nt
      have S2 := s.trans s2
      have hm := List.mem_of_getElem? hn
      unfold choiceB at cb
      rw [Bool.and_eq_true] at cb
      obtain ⟨c1, c2⟩ := cb
      have c1 := of_decide_eq_true c1
      refine ⟨t, _, rfl, SqT.of upd_same, rfl, _, _, rfl, _, _, rfl, rfl, ?_⟩
      have go : n < m → n ≠ x → (∀ j, j + 1 = i → l.getD j 0 < n) → choiceB (l.take (i + 1)) m x = true := by
        intro h1 h2 h3
        rw [take_get hn]
        unfold choiceB
        rw [List.all_append, c2, Bool.and_eq_true]
        refine ⟨decide_eq_true (List.pairwise_append.mpr ⟨c1, by simp, fun u hu w hw => ?_⟩), by simp [h1, h2]⟩
        rw [List.mem_singleton.mp hw]
        obtain ⟨j, hj, rfl⟩ := List.getElem_of_mem hu
        have hj' : j < i := by rw [List.length_take] at hj; omega
        have last : l.getD (i - 1) 0 < n := h3 (i - 1) (by omega)
        rw [List.getElem_take]
        rcases Nat.lt_or_ge j (i - 1) with q | q
        · have q' : i - 1 < (l.take i).length := by rw [List.length_take]; omega
          have := List.pairwise_iff_getElem.mp c1 j (i - 1) hj q' q
          rw [List.getElem_take, List.getElem_take] at this
          rw [getD_lt (by omega)] at last
          omega
        · have : j = i - 1 := by omega
          subst this
          rw [getD_lt (by omega)] at last
          exact last
      refine ⟨_, rfl, _, rfl, _, _, rfl, rfl, _, rfl, ?_⟩
      refine iteB (fun d1 => iteT (no ?_ _ S2)) (fun d1 => ?_)
      · have d1 := of_decide_eq_true d1
        unfold choiceB
        rw [Bool.and_eq_false_iff]
        refine .inr (Bool.eq_false_iff.mpr fun z => ?_)
        have z := List.all_eq_true.mp z n hm
        have : n < m := by simp at z; exact z.1
        omega
      have d1 : n < m := by have := of_decide_eq_false d1; omega
      refine ⟨_, rfl, _, rfl, rfl, _, rfl, ?_⟩
      refine iteB (fun d2 => iteT (no ?_ _ S2)) (fun d2 => ?_)
      · have d2 : (n : Int) = x := by simpa using d2
        have d2 : n = x := by omega
        unfold choiceB
        rw [Bool.and_eq_false_iff]
        refine .inr (Bool.eq_false_iff.mpr fun z => ?_)
        have z := List.all_eq_true.mp z n hm
        simp [d2] at z
      have d2 : n ≠ x := by
        have : ¬ (n : Int) = x := by simpa using d2
        omega
      refine ⟨_, rfl, _, _, rfl, rfl, _, rfl, ?_⟩
      refine iteB (fun d3 => ?_) (fun d3 => ?_)
      · have d3 : 0 < i := by have := of_decide_eq_true d3; omega
        obtain ⟨j, rfl⟩ : ∃ j, i = j + 1 := ⟨i - 1, by omega⟩
        have jl : j < l.length := by omega
        have ej : ((j + 1 : Nat) : Int) - 1 = (j : Int) := by omega
        refine ⟨_, rfl, _, rfl, _, rfl, _, _, rfl, rfl, p, _, _, _, rfl, rfl, SqL.of (S2 _ _ hp), ej ▸ nv_at jl, _, _, rfl, rfl, _, rfl, ?_⟩
        refine iteB (fun d4 => no ?_ _ S2) (fun d4 => ?_)
        · have d4 := of_decide_eq_true d4
          have d4 : n ≤ l.getD j 0 := by omega
          unfold choiceB
          rw [Bool.and_eq_false_iff]
          refine .inl (decide_eq_false fun z => ?_)
          have := List.pairwise_iff_getElem.mp z j (j + 1) jl lt (by omega)
          rw [getD_lt jl] at d4
          have e : l[j + 1] = n := (List.getElem?_eq_some_iff.mp hn).2
          omega
        · have d4 := of_decide_eq_false d4
          exact ⟨_, _, rfl, S2, go d1 d2 fun j' hj' => by
            have : j' = j := by omega
            rw [this]; omega⟩
      · have d3 := of_decide_eq_false d3
        exact ⟨_, _, rfl, S2, go d1 d2 fun j' hj' => by omega⟩
    · rintro σ H' ⟨z1, z2, rfl, s, cb⟩
      rw [nv_length, List.take_length] at cb
      have := k H' s
      rw [cb] at this
      exact this
end Sg

/-! ### text W16 -/
namespace Sg
open PySem PySem.Spec PyProof.Rows L2
open Uw61 (Drawing Line)

/-! ### the sheet -/
def sF (n e : V) : List (Str × V) := [("now", n), ("elder", e)]
theorem sF_now (n e : V) : (sF n e).lookup ("now" : Str) = some n := lk_here
theorem sF_elder (n e : V) : (sF n e).lookup ("elder" : Str) = some e := (lk_past (by decide +kernel)).trans lk_here
theorem sF_no {m : Str} (h1 : (m == ("now" : Str)) = false) (h2 : (m == ("elder" : Str)) = false) (n e : V) : (sF n e).lookup m = none := (lk_past h1).trans ((lk_past h2).trans rfl)
theorem sF_putN (n e x : V) : putF "now" x (sF n e) = sF x e := put_here
theorem sF_putE (n e x : V) : putF "elder" x (sF n e) = sF n x := (put_past (by decide +kernel)).trans (congrArg _ put_here)
theorem sF_new (n e : V) : putF "elder" e (putF "now" n []) = sF n e := (put_past (by decide +kernel)).trans rfl
def zs (Z : Addr → Prop) (s el : Addr) : Addr → Prop := fun b => b = s ∨ b = el ∨ Z b
def GoodD (d : Drawing) : Prop := Fit d ∧ On d
structure Sh (a : Ads) (Z : Addr → Prop) (H : Hp) (s el : Addr) (S : Uw61.St) : Prop where
  ex : ∃ dx nw es, H s = some (.ins a.CS dx (sF nw (.ref el))) ∧ H el = some (.lst es) ∧ DV a (cut (zs Z s el) H) nw S.now ∧ F2 (DV a (cut (zs Z s el) H)) es S.past.reverse
  now : GoodD S.now
  past : ∀ d ∈ S.past, GoodD d
  held : Held Z H
theorem Sh.mono {a : Ads} {Z : Addr → Prop} {H H' : Hp} {s el : Addr} {S : Uw61.St} (h : Sh a Z H s el S) (q : Same H H') : Sh a Z H' s el S := by
  obtain ⟨⟨dx, nw, es, h1, h2, h3, h4⟩, g1, g2, hz⟩ := h
  exact ⟨⟨dx, nw, es, q _ _ h1, q _ _ h2, dv_mono.go (cut_mono q) h3, f2_mono dv_mono (cut_mono q) h4⟩, g1, g2, held_mono hz q⟩
theorem Sh.zheld {a : Ads} {Z : Addr → Prop} {H : Hp} {s el : Addr} {S : Uw61.St} (h : Sh a Z H s el S) : Held (zs Z s el) H := by
  obtain ⟨⟨dx, nw, es, h1, h2, h3, h4⟩, g1, g2, hz⟩ := h
  intro b hb q
  rcases hb with e | e | e
  · rw [e, h1] at q; cases q
  · rw [e, h2] at q; cases q
  · exact hz b e q
def Keep (s el : Addr) (H H' : Hp) : Prop := ∀ b o, H b = some o → b ≠ s → b ≠ el → H' b = some o
def Ans (a : Ads) (Z : Addr → Prop) (H : Hp) (s el : Addr) (S' : Uw61.St) (r : List Int) (Q : VK) : Prop :=
  ∀ H' el' q, (el' = el ∨ H el' = none) → Keep s el H H' → Sh a Z H' s el' S' → H q = none → H' q = some (.lst (r.map V.int)) → Q (.ref q) H'
theorem Ans.same {a : Ads} {Z : Addr → Prop} {H H' : Hp} {s el q : Addr} {S : Uw61.St} {r : List Int} {Q : VK} (k : Ans a Z H s el S r Q) (h : Sh a Z H s el S) (e : Same H H') (n : H q = none) (l : H' q = some (.lst (r.map V.int))) : Q (.ref q) H' :=
  k H' el q (.inl rfl) (fun b o z _ _ => e _ _ z) (h.mono e) n l
theorem Ans.back {a : Ads} {Z : Addr → Prop} {H H' : Hp} {s el : Addr} {S : Uw61.St} {r : List Int} {Q : VK} (k : Ans a Z H s el S r Q) (e : Same H H') : Ans a Z H' s el S r Q :=
  fun H2 el' q h1 h2 h3 h4 h5 => k H2 el' q (h1.imp id fun z => e.free z) (fun b o z n1 n2 => h2 b o (e _ _ z) n1 n2) h3 (e.free h4) h5
/-- a list of one number, new -/
theorem Ans.one {a : Ads} {Z : Addr → Prop} {H H' : Hp} {s el q : Addr} {S : Uw61.St} {i : Int} {Q : VK} (k : Ans a Z H s el S [i] Q) (h : Sh a Z H s el S) (e : Same H H') (n : H' q = none) : Q (.ref q) (upd H' q (.lst [.int i])) :=
  k.same h (e.trans (same_new n)) (e.free n) upd_same
def sp_S_init (a : Ads) : Sp := fun vs H Q _ => ∃ s dx, vs = [.ref s] ∧ H s = some (.ins a.CS dx []) ∧
  ∀ H' el, H el = none → (∀ b o, H b = some o → b ≠ s → H' b = some o) → Sh a (fun _ => False) H' s el Uw61.init → Q .non H'
theorem ok_S_init {P : Program} {w : World} {K : PySem.W.Frag} {mg : Str → Option Value} {base : Heap} {a : Ads} (T : Txt K mg a) : FnOk P w K mg base CX0 4 a.f_S_init a.d_S_init ["self"] (sp_S_init a) := by
  refine T.F_S_init.ok sc_S_init (fun vs H Q E h => ?_) (fun cdv A outer s H vs Q E hr h => ⟨_, (pss_cons (ps_fld (pv 0) (pe_call (ok_at_first T) (hr.mono (by decide)) rfl T.mg_at_first T.F_at_first.kp (b_at_first T) .nil pass0 (pa_cons pe_int pa_nil)) rfl)
  (pss_one (ps_fld (pv 0) (pe_lst pa_nil) rfl))), ?_⟩)
  · obtain ⟨s, dx, rfl, _⟩ := h; rfl
  · obtain ⟨s, dx, rfl, hs, k⟩ := h
    refine ⟨fun b => b = s, 0, rfl, (fun b e q => by rw [e, hs] at q; cases q), by omega, fun H1 v s1 hv => ?_⟩
    refine ⟨_, rfl, s, a.CS, dx, [], rfl, s1 _ _ hs, T.clS, T.nNow, (by show 0 < 1000; decide), ?_⟩
    refine ⟨sz (by show 0 ≤ 100000; decide), fun E nE => ?_⟩
    have Es : E ≠ s := fun z => by rw [z, upd_same] at nE; cases nE
    have nE1 : H1 E = none := by rw [upd_ne Es] at nE; exact nE
    refine ⟨_, rfl, s, a.CS, dx, _, rfl, by rw [upd_ne (fun z => Es z.symm), upd_same], T.clS, T.nElder, (by show 1 < 1000; decide), ?_⟩
    refine k _ E (s1.free nE1) (fun b o q ne => ?_) ⟨⟨dx, v, [], by rw [upd_same, sF_new], by rw [upd_ne Es, upd_same], ?_, .nil⟩, ?_, fun d hd => by simp [Uw61.init] at hd, fun b z => z.elim⟩
    · rw [upd_ne ne, upd_ne (ne_of_none (s1 _ _ q) nE1), upd_ne ne]; exact s1 _ _ q
    · have e0 : Uw61.init.now = Uw61.first 0 := rfl
      rw [e0]
      refine dv_mono.go (fun b o q => ?_) hv
      by_cases c : b = s
      · have : cut (fun b => b = s) H1 b = none := if_pos c
        rw [this] at q; cases q
      · rw [cut_not (Z := fun b => b = s) c] at q
        have ne := ne_of_none q nE1
        rw [cut_not (Z := zs (fun _ => False) s E) (fun z => z.elim c fun z => z.elim ne id), upd_ne c, upd_ne ne, upd_ne c]
        exact q
    · have e0 : Uw61.init.now = Uw61.first 0 := rfl
      rw [e0]
      exact ⟨fit_first (by omega), on_first 0⟩
def sp_S_go_on (a : Ads) : Sp := fun vs H Q _ => ∃ Z s el S u d, vs = [.ref s, u] ∧ Sh a Z H s el S ∧ DV a (cut (zs Z s el) H) u d ∧ GoodD d ∧ S.past.length ≤ 1000 ∧ Ans a Z H s el ⟨d, S.now :: S.past⟩ [(Uw61.allLives d : Int)] Q
theorem ok_S_go_on {P : Program} {w : World} {K : PySem.W.Frag} {mg : Str → Option Value} {base : Heap} {a : Ads} (T : Txt K mg a) : FnOk P w K mg base CX0 2 a.f_S_go_on a.d_S_go_on ["self", "drawing"] (sp_S_go_on a) := by
  refine T.F_S_go_on.ok sc_S_go_on (fun vs H Q E h => ?_) (fun cdv A outer s H vs Q E hr h => ⟨_, (pss_cons (ps_expr (pe_bm PySem.F.plainAttrs_list PySem.F.slot_list_append PySem.F.type_list_append mt_append (pe_fld (pv 0) rfl) (pa_cons (pe_fld (pv 0) rfl) pa_nil)))
  (pss_cons (ps_fld (pv 0) (pv 1) rfl)
  (pss_one (ps_ret (pe_lst (pa_cons (pe_meth0 (pv 1) T.clD T.m_D_all_lives (ok_D_all_lives T) (hr.mono (by decide)) (b_D_all_lives T) .nil pass0) pa_nil)))))), ?_⟩)
  · obtain ⟨Z, s, el, S, u, d, rfl, _⟩ := h; rfl
  · obtain ⟨Z, s, el, S, u, d, rfl, sh, hu, gd, p1000, k⟩ := h
    obtain ⟨⟨dx, nw, es, h1, h2, h3, h4⟩, g1, g2, hz⟩ := id sh
    have ne : el ≠ s := fun z => by rw [z, h1] at h2; cases h2
    refine ⟨_, rfl, s, a.CS, dx, _, _, rfl, h1, T.clS, T.nElder, sF_elder _ _, .inl ⟨rfl, _, SqL.of h2⟩, _, rfl, s, a.CS, dx, _, _, rfl, h1, T.clS, T.nNow, sF_now _ _, el, es, nw, rfl, rfl, h2, ?_, ?_⟩
    · rw [h4.len, List.length_reverse]; exact szl (by omega)
    refine ⟨_, rfl, _, rfl, s, a.CS, dx, _, rfl, by rw [upd_ne (fun z => ne z.symm)]; exact h1, T.clS, T.nNow, (by show 2 < 1000; decide), ?_⟩
    rw [sF_putN]
    have ec : cut (zs Z s el) (upd (upd H el (.lst (es ++ [nw]))) s (.ins a.CS dx (sF u (.ref el)))) = cut (zs Z s el) H := by rw [cut_upd (.inl rfl), cut_upd (.inr (.inl rfl))]
    have sh2 : Sh a Z (upd (upd H el (.lst (es ++ [nw]))) s (.ins a.CS dx (sF u (.ref el)))) s el ⟨d, S.now :: S.past⟩ := by
      refine ⟨⟨dx, u, es ++ [nw], upd_same, by rw [upd_ne ne, upd_same], by rw [ec]; exact hu, ?_⟩, gd, fun x hx => ?_, fun b hb q => ?_⟩
      · rw [ec, List.reverse_cons]; exact h4.append (.one h3)
      · rcases List.mem_cons.mp hx with e | hx
        · rw [e]; exact g1
        · exact g2 x hx
      · by_cases c1 : b = s
        · rw [c1, upd_same] at q; cases q
        · rw [upd_ne c1] at q
          by_cases c2 : b = el
          · rw [c2, upd_same] at q; cases q
          · rw [upd_ne c2] at q; exact hz b hb q
    have kp : Keep s el H (upd (upd H el (.lst (es ++ [nw]))) s (.ins a.CS dx (sF u (.ref el)))) := fun b o q n1 n2 => by rw [upd_ne n1, upd_ne n2]; exact q
    have fr : ∀ q, upd (upd H el (.lst (es ++ [nw]))) s (.ins a.CS dx (sF u (.ref el))) q = none → H q = none := fun q z => by
      cases c : H q with
      | none => rfl
      | some o =>
        by_cases c1 : q = s
        · rw [c1, upd_same] at z; cases z
        · by_cases c2 : q = el
          · rw [upd_ne c1, c2, upd_same] at z; cases z
          · rw [kp q o c c1 c2] at z; cases z
    generalize upd (upd H el (.lst (es ++ [nw]))) s (.ins a.CS dx (sF u (.ref el))) = H2 at sh2 kp fr ec ⊢
    have hu2 : DV a H2 u d := dv_mono.go cut_same (by rw [ec]; exact hu)
    obtain ⟨p, dxd, e, r, rfl, hp, _, _⟩ := id hu2
    refine ⟨_, rfl, p, dxd, _, rfl, hp, dF_no (by decide +kernel) (by decide +kernel) _ _, .ref p, d, rfl, hu2, gd.1, fun H3 s3 => ?_⟩
    refine ⟨sz (by show 1 ≤ 100000; decide), fun q nq => ?_⟩
    exact k _ el q (.inl rfl) (fun b o z n1 n2 => same_new nq _ _ (s3 _ _ (kp b o z n1 n2))) (sh2.mono (s3.trans (same_new nq))) (fr q (s3.free nq)) upd_same
def sp_S_begins (a : Ads) : Sp := fun vs H Q _ => ∃ (Z : Addr → Prop) (s el : Addr) (S : Uw61.St) (n : Nat), vs = [.ref s, .int (n : Nat)] ∧ Sh a Z H s el S ∧ Ans a Z H s el (Uw61.step S (.begins n)).1 (Uw61.step S (.begins n)).2 Q
theorem ok_S_begins {P : Program} {w : World} {K : PySem.W.Frag} {mg : Str → Option Value} {base : Heap} {a : Ads} (T : Txt K mg a) : FnOk P w K mg base CX0 4 a.f_S_begins a.d_S_begins ["self", "many"] (sp_S_begins a) := by
  refine T.F_S_begins.ok sc_S_begins (fun vs H Q E h => ?_) (fun cdv A outer s H vs Q E hr h => ⟨_, (pss_cons (ps_if (PW.pt (pw_or (pt_cmpR op_lt (pv 1) pe_int (nomark _)) (pw_or1 (pt_cmpR op_gt (pv 1) (pe_glob (v := .int 6) rfl T.mg_MOST_SPOTS ⟨_, rfl⟩) (nomark _)))))
  (pss_one (ps_ret (pe_lst (pa_cons (pe_glob (v := .int (-1)) rfl T.mg_NONE_SUCH ⟨_, rfl⟩) pa_nil)))) pss_nil)
  (pss_cons (ps_fld (pv 0) (pe_call (ok_at_first T) (hr.mono (by decide)) rfl T.mg_at_first T.F_at_first.kp (b_at_first T) .nil pass0 (pa_cons (pv 1) pa_nil)) rfl)
  (pss_cons (ps_fld (pv 0) (pe_lst pa_nil) rfl)
  (pss_one (ps_ret (pe_lst (pa_cons pe_int pa_nil))))))), ?_⟩)
  · obtain ⟨Z, s, el, S, n, rfl, _⟩ := h; rfl
  · obtain ⟨Z, s, el, S, n, rfl, sh, k⟩ := h
    obtain ⟨⟨dx, nw, es, h1, h2, h3, h4⟩, g1, g2, hz⟩ := id sh
    have none : (n < 1 ∨ 6 < n) → ∀ q, H q = none → Q (.ref q) (upd H q (.lst [.int (-1)])) := fun c q nq => by
      have e : Uw61.step S (.begins n) = (S, [-1]) := if_pos c
      rw [e] at k
      exact k.one sh (Same.refl H) nq
    refine ⟨_, rfl, _, _, rfl, rfl, _, rfl, ?_⟩
    refine iteB (fun c => iteT ⟨sz (by show 1 ≤ 100000; decide), fun q nq => none (.inl ?_) q nq⟩) (fun c => ?_)
    · have := of_decide_eq_true c; omega
    refine ⟨_, rfl, _, _, rfl, rfl, _, rfl, ?_⟩
    refine iteB (fun c => ⟨sz (by show 1 ≤ 100000; decide), fun q nq => none (.inr ?_) q nq⟩) (fun c2 => ?_)
    · have := of_decide_eq_true c; omega
    have c := of_decide_eq_false c
    have c2 := of_decide_eq_false c2
    have e : Uw61.step S (.begins n) = (⟨Uw61.first n, []⟩, [0]) := if_neg (by omega)
    rw [e] at k
    refine ⟨_, rfl, zs Z s el, n, rfl, sh.zheld, by omega, fun H1 v s1 hv => ?_⟩
    refine ⟨_, rfl, s, a.CS, dx, _, rfl, s1 _ _ h1, T.clS, T.nNow, (by show 2 < 1000; decide), ?_⟩
    rw [sF_putN]
    refine ⟨sz (by show 0 ≤ 100000; decide), fun E nE => ?_⟩
    have Es : E ≠ s := fun z => by rw [z, upd_same] at nE; cases nE
    have nE1 : H1 E = .none := by rw [upd_ne Es] at nE; exact nE
    refine ⟨_, rfl, s, a.CS, dx, _, rfl, by rw [upd_ne (fun z => Es z.symm), upd_same], T.clS, T.nElder, (by show 2 < 1000; decide), ?_⟩
    rw [sF_putE]
    refine ⟨sz (by show 1 ≤ 100000; decide), fun q nq => ?_⟩
    have qs : q ≠ s := fun z => by rw [z, upd_same] at nq; cases nq
    have qE : q ≠ E := fun z => by rw [upd_ne qs, z, upd_same] at nq; cases nq
    have nq1 : H1 q = .none := by rw [upd_ne qs, upd_ne qE, upd_ne qs] at nq; exact nq
    refine k _ E q (.inr (s1.free nE1)) (fun b o z n1 n2 => ?_) ⟨⟨dx, v, [], ?_, ?_, ?_, .nil⟩, ⟨fit_first (by omega), on_first n⟩, fun d hd => by simp at hd, fun b hb z => ?_⟩ (s1.free nq1) upd_same
    · have z1 := s1 _ _ z
      rw [upd_ne (ne_of_none z1 nq1), upd_ne n1, upd_ne (ne_of_none z1 nE1), upd_ne n1]; exact z1
    · rw [upd_ne (fun z => qs z.symm), upd_same]
    · rw [upd_ne (fun z => qE z.symm), upd_ne Es, upd_same]
    · refine dv_mono.go (fun b o z => ?_) hv
      by_cases c : zs Z s el b
      · have : cut (zs Z s el) H1 b = .none := if_pos c
        rw [this] at z; cases z
      · rw [cut_not c] at z
        have b1 := ne_of_none z nE1
        have b2 := ne_of_none z nq1
        have b3 : b ≠ s := fun y => c (.inl y)
        rw [cut_not (Z := zs Z s E) (fun y => y.elim b3 fun y => y.elim b1 fun y => c (.inr (.inr y))), upd_ne b2, upd_ne b3, upd_ne b1, upd_ne b3]
        exact z
    · cases c : H1 b with
      | none => exact hz b hb (s1.free c)
      | some o =>
        by_cases c1 : b = s
        · rw [upd_ne (fun y => qs (y.symm.trans c1)), c1, upd_same] at z; cases z
        · rw [upd_ne (ne_of_none c nq1), upd_ne c1, upd_ne (ne_of_none c nE1), upd_ne c1, c] at z; cases z
end Sg

/-! ### text W17 -/
namespace Sg
open PySem PySem.Spec PyProof.Rows L2
open Uw61 (Drawing Line)

theorem not_dec {p : Prop} [Decidable p] (h : (!decide p) = true) : ¬ p := fun z => by rw [decide_eq_true z] at h; cases h
def sp_S_undo (a : Ads) : Sp := fun vs H Q _ => ∃ (Z : Addr → Prop) (s el : Addr) (S : Uw61.St), vs = [.ref s] ∧ Sh a Z H s el S ∧ Ans a Z H s el (Uw61.step S .undo).1 (Uw61.step S .undo).2 Q
theorem ok_S_undo {P : Program} {w : World} {K : PySem.W.Frag} {mg : Str → Option Value} {base : Heap} {a : Ads} (T : Txt K mg a) : FnOk P w K mg base CX0 2 a.f_S_undo a.d_S_undo ["self"] (sp_S_undo a) := by
  refine T.F_S_undo.ok sc_S_undo (fun vs H Q E h => ?_) (fun cdv A outer s H vs Q E hr h => ⟨_, (pss_cons (ps_if (pt_cmpR (op_eqNil hr.units0) (pe_fld (pv 0) rfl) (pe_lst pa_nil) (nomark _))
  (pss_one (ps_ret (pe_lst (pa_cons (pe_glob (v := .int (-9)) rfl T.mg_NOTHING ⟨_, rfl⟩) pa_nil)))) pss_nil)
  (pss_cons (ps_fld (pv 0) (pe_bm0 PySem.F.plainAttrs_list PySem.F.slot_list_pop PySem.F.type_list_pop mt_pop (pe_fld (pv 0) rfl)) rfl)
  (pss_one (ps_ret (pe_lst (pa_cons (pe_meth0 (pe_fld (pv 0) rfl) T.clD T.m_D_all_lives (ok_D_all_lives T) (hr.mono (by decide)) (b_D_all_lives T) .nil pass0) pa_nil)))))), ?_⟩)
  · obtain ⟨Z, s, el, S, rfl, _⟩ := h; rfl
  · obtain ⟨Z, s, el, S, rfl, sh, k⟩ := h
    obtain ⟨⟨dx, nw, es, h1, h2, h3, h4⟩, g1, g2, hz⟩ := id sh
    have ne : el ≠ s := fun z => by rw [z, h1] at h2; cases h2
    refine ⟨_, rfl, s, a.CS, dx, _, _, rfl, h1, T.clS, T.nElder, sF_elder _ _, sz (by show 0 ≤ 100000; decide), fun E nE => ?_⟩
    have s1 : Same H (upd H E (.lst [])) := same_new nE
    refine ⟨el, E, es, rfl, rfl, SqL.of (s1 _ _ h2), SqL.of upd_same, _, rfl, ?_⟩
    obtain ⟨now, past⟩ := S
    have el4 := h4.len
    rw [List.length_reverse] at el4
    refine iteB (fun c => ?_) (fun c => ?_)
    · cases past with
      | cons d l => cases es with
        | nil => simp at el4
        | cons => cases c
      | nil => exact ⟨sz (by show 1 ≤ 100000; decide), fun q nq => k.one sh s1 nq⟩
    · cases past with
      | nil => cases es with
        | nil => cases c
        | cons => simp at el4
      | cons d l =>
        have sh1 := sh.mono s1
        have k1 := k.back s1
        obtain ⟨⟨dx', nw', es', h1', h2', h3', h4'⟩, _, _, hz'⟩ := id sh1
        rw [s1 _ _ h1] at h1'
        cases h1'
        rw [s1 _ _ h2] at h2'
        cases h2'
        generalize upd H E (.lst []) = H1 at sh1 k1 h3' h4' hz' s1
        have h1 := s1 _ _ h1
        have h2 := s1 _ _ h2
        rw [List.reverse_cons] at h4'
        obtain ⟨y, hy, hyd⟩ := h4'.get (i := l.length) (y := d) (by simp)
        have ey : es[es.length - 1]? = some y := by rw [el4]; exact hy
        refine ⟨_, rfl, s, a.CS, dx, _, _, rfl, h1, T.clS, T.nElder, sF_elder _ _, .inl ⟨rfl, _, SqL.of h2⟩, el, es, y, rfl, rfl, h2, ey, ?_⟩
        refine ⟨_, rfl, s, a.CS, dx, _, rfl, by rw [upd_ne (fun z => ne z.symm)]; exact h1, T.clS, T.nNow, (by show 2 < 1000; decide), ?_⟩
        rw [sF_putN]
        have ec : cut (zs Z s el) (upd (upd H1 el (.lst es.dropLast)) s (.ins a.CS dx (sF y (.ref el)))) = cut (zs Z s el) H1 := by rw [cut_upd (.inl rfl), cut_upd (.inr (.inl rfl))]
        have f5 := h4'.dropLast
        rw [List.dropLast_concat] at f5
        have sh2 : Sh a Z (upd (upd H1 el (.lst es.dropLast)) s (.ins a.CS dx (sF y (.ref el)))) s el ⟨d, l⟩ := by
          refine ⟨⟨dx, y, es.dropLast, upd_same, by rw [upd_ne ne, upd_same], by rw [ec]; exact hyd, by rw [ec]; exact f5⟩, g2 d (by simp), fun x hx => g2 x (by simp [hx]), fun b hb q => ?_⟩
          by_cases c1 : b = s
          · rw [c1, upd_same] at q; cases q
          · rw [upd_ne c1] at q
            by_cases c2 : b = el
            · rw [c2, upd_same] at q; cases q
            · rw [upd_ne c2] at q; exact hz' b hb q
        have kp : Keep s el H1 (upd (upd H1 el (.lst es.dropLast)) s (.ins a.CS dx (sF y (.ref el)))) := fun b o q n1 n2 => by rw [upd_ne n1, upd_ne n2]; exact q
        have fr : ∀ q, upd (upd H1 el (.lst es.dropLast)) s (.ins a.CS dx (sF y (.ref el))) q = none → H1 q = none := fun q z => by
          cases c : H1 q with
          | none => rfl
          | some o =>
            by_cases c1 : q = s
            · rw [c1, upd_same] at z; cases z
            · by_cases c2 : q = el
              · rw [upd_ne c1, c2, upd_same] at z; cases z
              · rw [kp q o c c1 c2] at z; cases z
        have hs2 : upd (upd H1 el (.lst es.dropLast)) s (.ins a.CS dx (sF y (.ref el))) s = some (.ins a.CS dx (sF y (.ref el))) := upd_same
        generalize upd (upd H1 el (.lst es.dropLast)) s (.ins a.CS dx (sF y (.ref el))) = H2 at sh2 kp fr ec hs2 ⊢
        have hu2 : DV a H2 y d := dv_mono.go cut_same (by rw [ec]; exact hyd)
        obtain ⟨p, dxd, e, r, rfl, hp, _, _⟩ := id hu2
        refine ⟨_, rfl, s, a.CS, dx, _, _, rfl, hs2, T.clS, T.nNow, sF_now _ _, p, dxd, _, rfl, hp, dF_no (by decide +kernel) (by decide +kernel) _ _, .ref p, d, rfl, hu2, (g2 d (by simp)).1, fun H3 s3 => ?_⟩
        refine ⟨sz (by show 1 ≤ 100000; decide), fun q nq => ?_⟩
        exact k1 _ el q (.inl rfl) (fun b o z n1 n2 => same_new nq _ _ (s3 _ _ (kp b o z n1 n2))) (sh2.mono (s3.trans (same_new nq))) (fr q (s3.free nq)) upd_same
def sp_S_joins (a : Ads) : Sp := fun vs H Q _ => ∃ (Z : Addr → Prop) (s el : Addr) (S : Uw61.St) (r x i y j : Nat), vs = [.ref s, .int (r : Nat), .int (x : Nat), .int (i : Nat), .int (y : Nat), .int (j : Nat)] ∧ Sh a Z H s el S ∧ S.past.length ≤ 1000 ∧
  Ans a Z H s el (Uw61.step S (.joins r x i y j)).1 (Uw61.step S (.joins r x i y j)).2 Q
theorem border_in {d : Drawing} {r x i : Nat} (h : i < (Uw61.borderAt d r x).length) : x < (Uw61.regionAt d r).length := by
  rcases Nat.lt_or_ge x (Uw61.regionAt d r).length with q | q
  · exact q
  · unfold Uw61.borderAt at h
    rw [List.getD_eq_getElem?_getD, List.getElem?_eq_none q] at h
    simp at h
theorem spot_ends {d : Drawing} (F : Fit d) {r x i : Nat} (hr : r < d.regions.length) (h : i < (Uw61.borderAt d r x).length) : Uw61.spotAt d r x i < d.ends.length := by
  have hx := border_in h
  unfold Uw61.spotAt
  rw [getD_lt h]
  have e : Uw61.borderAt d r x = (Uw61.regionAt d r)[x] := getD_lt hx
  have e2 : Uw61.regionAt d r = d.regions[r] := getD_lt hr
  refine F.wi (Uw61.regionAt d r) (by rw [e2]; exact List.getElem_mem hr) (Uw61.borderAt d r x) (by rw [e]; exact List.getElem_mem hx) _ (List.getElem_mem h)
/-- a border's spot, read -/
theorem region_read {a : Ads} {H : Hp} {v : V} {d : Drawing} (hd : DV a H v d) {r : Nat} (hr : r < d.regions.length) : ∃ p dx e q rs w, v = .ref p ∧ H p = some (.ins a.CD dx (dF e (.ref q))) ∧ H q = some (.lst rs) ∧ atI rs (r : Int) = some w ∧ BL H w (Uw61.regionAt d r) := by
  obtain ⟨p, dx, e, rr, rfl, hp, he, hR⟩ := hd
  obtain ⟨q, rs, w, rfl, hq, _, hw, hb⟩ := lv_item hR (List.getElem?_eq_getElem hr)
  have e2 : d.regions[r] = Uw61.regionAt d r := (getD_lt hr).symm
  rw [e2] at hb
  exact ⟨p, dx, e, q, rs, w, rfl, hp, hq, hw, hb⟩
theorem spot_read {H : Hp} {w : V} {d : Drawing} {r x i : Nat} (hb : BL H w (Uw61.regionAt d r)) (h : i < (Uw61.borderAt d r x).length) : ∃ q ws z, w = .ref q ∧ H q = some (.lst ws) ∧ atI ws (x : Int) = some (.ref z) ∧ H z = some (.lst (nv (Uw61.borderAt d r x))) ∧ atI (nv (Uw61.borderAt d r x)) (i : Int) = some (.int (Uw61.spotAt d r x i : Nat)) := by
  have hx := border_in h
  obtain ⟨q, ws, u, rfl, hq, _, hu, z, rfl, hz⟩ := lv_item hb (List.getElem?_eq_getElem hx)
  have e : (Uw61.regionAt d r)[x] = Uw61.borderAt d r x := (getD_lt hx).symm
  rw [e] at hz
  exact ⟨q, ws, z, rfl, hq, hu, hz, nv_at h⟩
theorem ok_S_joins {P : Program} {w : World} {K : PySem.W.Frag} {mg : Str → Option Value} {base : Heap} {a : Ads} (T : Txt K mg a) : FnOk P w K mg base CX0 4 a.f_S_joins a.d_S_joins ["self", "region", "a", "i", "b", "j"] (sp_S_joins a) := by
  refine T.F_S_joins.ok sc_S_joins (fun vs H Q E h => ?_) (fun cdv A outer s H vs Q E hr h => ⟨_, (pss_cons (ps_if (PW.pt (pw_or (pt_not (pt_val (pe_meth (pe_fld (pv 0) rfl) T.clD T.m_D_has_place (ok_D_has_place T) (hr.mono (by decide)) (b_D_has_place T) .nil pass0 (pa_cons (pv 1) (pa_cons (pv 2) (pa_cons (pv 3) pa_nil)))))) (pw_or1 (pt_not (pt_val (pe_meth (pe_fld (pv 0) rfl) T.clD T.m_D_has_place (ok_D_has_place T) (hr.mono (by decide)) (b_D_has_place T) .nil pass0 (pa_cons (pv 1) (pa_cons (pv 4) (pa_cons (pv 5) pa_nil)))))))))
  (pss_one (ps_ret (pe_lst (pa_cons (pe_glob (v := .int (-1)) rfl T.mg_NONE_SUCH ⟨_, rfl⟩) pa_nil)))) pss_nil)
  (pss_cons (ps_if (pt_cmpR op_ge (pv 2) (pv 4) (nomark _))
  (pss_one (ps_ret (pe_lst (pa_cons (pe_glob (v := .int (-2)) rfl T.mg_OUT_OF_ORDER ⟨_, rfl⟩) pa_nil)))) pss_nil)
  (pss_cons (ps_set (i := 6) sc_S_joins.nd rfl (Or.inl rfl) (pe_ix ix_list (pe_fld (pe_fld (pv 0) rfl) rfl) (pv 1) (fun _ _ => rfl)))
  (pss_cons (ps_if (pt_not (pt_val (pe_call (ok_may_end T) (hr.mono (by decide)) rfl T.mg_may_end T.F_may_end.kp (b_may_end T) .nil pass0 (pa_cons (pe_fld (pv 0) rfl) (pa_cons (pe_ix ix_list (pe_ix ix_list (pv 6) (pv 2) (fun _ _ => rfl)) (pv 3) (fun _ _ => rfl)) (pa_cons (pe_ix ix_list (pe_ix ix_list (pv 6) (pv 4) (fun _ _ => rfl)) (pv 5) (fun _ _ => rfl)) pa_nil))))))
  (pss_one (ps_ret (pe_lst (pa_cons (pe_glob (v := .int (-3)) rfl T.mg_NOT_TO_BE_DRAWN ⟨_, rfl⟩) pa_nil)))) pss_nil)
  (pss_one (ps_ret (pe_meth (pv 0) T.clS T.m_S_go_on (ok_S_go_on T) (hr.mono (by decide)) (b_S_go_on T) .nil pass0 (pa_cons (pe_call (ok_joined T) (hr.mono (by decide)) rfl T.mg_joined T.F_joined.kp (b_joined T) .nil pass0 (pa_cons (pe_fld (pv 0) rfl) (pa_cons (pv 1) (pa_cons (pv 2) (pa_cons (pv 3) (pa_cons (pv 4) (pa_cons (pv 5) pa_nil))))))) pa_nil)))))))), ?_⟩)
  · obtain ⟨Z, s, el, S, r, x, i, y, j, rfl, _⟩ := h; rfl
  · obtain ⟨Z, s, el, S, r, x, i, y, j, rfl, sh, p1000, k⟩ := h
    obtain ⟨⟨dx, nw, es, h1, h2, h3, h4⟩, g1, g2, hz⟩ := id sh
    have hd : DV a H nw S.now := dv_mono.go cut_same h3
    obtain ⟨p, dxd, e0, r0, rfl, hp, _, _⟩ := id hd
    have no : (dF e0 r0).lookup ("has_place" : Str) = none := dF_no (by decide +kernel) (by decide +kernel) _ _
    have bad : (S.now.regions.length ≤ r ∨ (Uw61.borderAt S.now r x).length ≤ i ∨ (Uw61.borderAt S.now r y).length ≤ j) → ∀ q, H q = none → Q (.ref q) (upd H q (.lst [.int (-1)])) := fun c q nq => by
      have e : Uw61.step S (.joins r x i y j) = (S, [-1]) := if_pos c
      rw [e] at k
      exact k.one sh (Same.refl H) nq
    refine ⟨_, rfl, s, a.CS, dx, _, _, rfl, h1, T.clS, T.nNow, sF_now _ _, p, dxd, _, rfl, hp, no, _, rfl, _, rfl, _, rfl, .ref p, _, r, x, i, rfl, hd, _, rfl, ?_⟩
    refine iteB (fun c => iteT ⟨sz (by show 1 ≤ 100000; decide), fun q nq => bad ?_ q nq⟩) (fun c => ?_)
    · have c := not_dec c
      omega
    have c : r < S.now.regions.length ∧ i < (Uw61.borderAt S.now r x).length := by simpa using c
    refine ⟨_, rfl, s, a.CS, dx, _, _, rfl, h1, T.clS, T.nNow, sF_now _ _, p, dxd, _, rfl, hp, no, _, rfl, _, rfl, _, rfl, .ref p, _, r, y, j, rfl, hd, _, rfl, ?_⟩
    refine iteB (fun c => ⟨sz (by show 1 ≤ 100000; decide), fun q nq => bad ?_ q nq⟩) (fun c2 => ?_)
    · have c := not_dec c
      omega
    have c2 : r < S.now.regions.length ∧ j < (Uw61.borderAt S.now r y).length := by simpa using c2
    have e1 : Uw61.step S (.joins r x i y j) = if y ≤ x then (S, [-2]) else Uw61.draw S (.join r x i y j) := if_neg (by omega)
    rw [e1] at k
    refine ⟨_, rfl, _, rfl, _, _, rfl, rfl, _, rfl, ?_⟩
    refine iteB (fun c3 => ⟨sz (by show 1 ≤ 100000; decide), fun q nq => ?_⟩) (fun c3 => ?_)
    · have c3 := of_decide_eq_true c3
      rw [if_pos (by omega)] at k
      exact k.one sh (Same.refl H) nq
    have c3 := of_decide_eq_false c3
    have c3 : x < y := by omega
    rw [if_neg (by omega)] at k
    obtain ⟨p', dx', e', q', rs', w', e9, hp', hq', hw', hb'⟩ := region_read hd c.1
    cases e9
    rw [hp] at hp'
    cases hp'
    refine ⟨_, rfl, s, a.CS, dx, _, _, rfl, h1, T.clS, T.nNow, sF_now _ _, p, a.CD, dxd, _, _, rfl, hp, T.clD, T.nRegions, dF_regions _ _, _, rfl, q', rs', _, w', rfl, rfl, SqL.of hq', hw', ?_⟩
    obtain ⟨qx, wx, zx, rfl, hqx, ax, hzx, sx⟩ := spot_read hb' c.2
    obtain ⟨qy, wy, zy, e8, hqy, ay, hzy, sy⟩ := spot_read hb' c2.2
    cases e8
    refine ⟨_, rfl, s, a.CS, dx, _, _, rfl, h1, T.clS, T.nNow, sF_now _ _, _, rfl, _, rfl, qx, wx, _, _, rfl, rfl, SqL.of hqx, ax, _, rfl, zx, _, _, _, rfl, rfl, SqL.of hzx, sx,
      _, rfl, _, rfl, qx, wy, _, _, rfl, rfl, SqL.of hqy, ay, _, rfl, zy, _, _, _, rfl, rfl, SqL.of hzy, sy, .ref p, S.now, _, _, rfl, hd, g1.1, spot_ends g1.1 c.1 c.2, spot_ends g1.1 c2.1 c2.2, _, rfl, ?_⟩
    have cb : Uw61.canBe S.now (.join r x i y j) = mayEnd S.now (Uw61.spotAt S.now r x i) (Uw61.spotAt S.now r y j) := rfl
    refine iteB (fun c4 => ⟨sz (by show 1 ≤ 100000; decide), fun q nq => ?_⟩) (fun c4 => ?_)
    · have c4 : mayEnd S.now (Uw61.spotAt S.now r x i) (Uw61.spotAt S.now r y j) = false := by simpa using c4
      have e2 : Uw61.draw S (.join r x i y j) = (S, [-3]) := if_pos (by rw [cb, c4])
      rw [e2] at k
      exact k.one sh (Same.refl H) nq
    · have c4 : mayEnd S.now (Uw61.spotAt S.now r x i) (Uw61.spotAt S.now r y j) = true := by simpa using c4
      have e2 : Uw61.draw S (.join r x i y j) = (⟨Uw61.drawn S.now (.join r x i y j), S.now :: S.past⟩, [(Uw61.allLives (Uw61.drawn S.now (.join r x i y j)) : Int)]) := if_neg (by rw [cb, c4]; decide)
      rw [e2] at k
      have hm : Line.join r x i y j ∈ Uw61.lines S.now := mem_lines.mpr ⟨r, c.1, .inl (mem_joinsIn.mpr ⟨x, i, y, j, rfl, border_in c.2, c.2, border_in c2.2, c2.2, c3, by rw [cb, c4]⟩)⟩
      refine ⟨_, rfl, s, dx, _, rfl, h1, sF_no (by decide +kernel) (by decide +kernel) _ _, _, rfl, s, a.CS, dx, _, _, rfl, h1, T.clS, T.nNow, sF_now _ _, _, rfl, _, rfl, _, rfl, _, rfl, _, rfl, zs Z s el, .ref p, S.now, r, x, i, y, j, rfl, sh.zheld, h3, g1.1, c.1, c3, border_in c2.2, c.2, c2.2, fun H1 u s1 hu => ?_⟩
      exact ⟨Z, s, el, S, u, _, rfl, sh.mono s1, hu, ⟨g1.1.line hm, g1.2.line hm⟩, p1000, k.back s1⟩
end Sg

/-! ### text W18 -/
namespace Sg
open PySem PySem.Spec PyProof.Rows L2
open Uw61 (Drawing Line)

theorem sorted_sub : ∀ {L k : List Nat}, L.Pairwise (· < ·) → k.Pairwise (· < ·) → (∀ x ∈ k, x ∈ L) → k.Sublist L
  | [], k, _, _, h => by
    cases k with
    | nil => exact List.Sublist.refl _
    | cons x k => exact absurd (h x (by simp)) (by simp)
  | x :: L, [], _, _, _ => List.nil_sublist _
  | x :: L, y :: k, hL, hk, h => by
    rw [List.pairwise_cons] at hL hk
    by_cases e : y = x
    · subst e
      refine List.Sublist.cons₂ _ (sorted_sub hL.2 hk.2 fun z hz => ?_)
      rcases List.mem_cons.mp (h z (by simp [hz])) with q | q
      · have := hk.1 z hz; omega
      · exact q
    · have yL : y ∈ L := (List.mem_cons.mp (h y (by simp))).resolve_left e
      have xy := hL.1 y yL
      refine List.Sublist.cons _ (sorted_sub hL.2 (List.pairwise_cons.mpr hk) fun z hz => ?_)
      rcases List.mem_cons.mp (h z hz) with q | q
      · rcases List.mem_cons.mp hz with r | r
        · omega
        · have := hk.1 z r; omega
      · exact q
def sp_S_parts (a : Ads) : Sp := fun vs H Q _ => ∃ (Z : Addr → Prop) (s el : Addr) (S : Uw61.St) (r x i j : Nat) (ks : List Nat) (pc : Addr), vs = [.ref s, .int (r : Nat), .int (x : Nat), .int (i : Nat), .int (j : Nat), .ref pc] ∧ Sh a Z H s el S ∧ S.past.length ≤ 1000 ∧ H pc = some (.lst (nv ks)) ∧
  Ans a Z H s el (Uw61.step S (.parts r x i j ks)).1 (Uw61.step S (.parts r x i j ks)).2 Q
theorem ok_S_parts {P : Program} {w : World} {K : PySem.W.Frag} {mg : Str → Option Value} {base : Heap} {a : Ads} (T : Txt K mg a) : FnOk P w K mg base CX0 4 a.f_S_parts a.d_S_parts ["self", "region", "a", "i", "j", "chosen"] (sp_S_parts a) := by
  refine T.F_S_parts.ok sc_S_parts (fun vs H Q E h => ?_) (fun cdv A outer s H vs Q E hr h => ⟨_, (pss_cons (ps_if (PW.pt (pw_or (pt_not (pt_val (pe_meth (pe_fld (pv 0) rfl) T.clD T.m_D_has_place (ok_D_has_place T) (hr.mono (by decide)) (b_D_has_place T) .nil pass0 (pa_cons (pv 1) (pa_cons (pv 2) (pa_cons (pv 3) pa_nil)))))) (pw_or1 (pt_not (pt_val (pe_meth (pe_fld (pv 0) rfl) T.clD T.m_D_has_place (ok_D_has_place T) (hr.mono (by decide)) (b_D_has_place T) .nil pass0 (pa_cons (pv 1) (pa_cons (pv 2) (pa_cons (pv 4) pa_nil)))))))))
  (pss_one (ps_ret (pe_lst (pa_cons (pe_glob (v := .int (-1)) rfl T.mg_NONE_SUCH ⟨_, rfl⟩) pa_nil)))) pss_nil)
  (pss_cons (ps_set (i := 6) sc_S_parts.nd rfl (Or.inl rfl) (pe_ix ix_list (pe_fld (pe_fld (pv 0) rfl) rfl) (pv 1) (fun _ _ => rfl)))
  (pss_cons (ps_if (PW.pt (pw_or (pt_cmpR op_gt (pv 3) (pv 4) (nomark _)) (pw_or1 (pt_not (pt_val (pe_call (ok_is_choice T) (hr.mono (by decide)) rfl T.mg_is_choice T.F_is_choice.kp (b_is_choice T) .nil pass0 (pa_cons (pv 5) (pa_cons (pe_callB call_len_seq (by rfl) T.n_len PySem.boot_len (pa_cons (pv 6) pa_nil)) (pa_cons (pv 2) pa_nil)))))))))
  (pss_one (ps_ret (pe_lst (pa_cons (pe_glob (v := .int (-2)) rfl T.mg_OUT_OF_ORDER ⟨_, rfl⟩) pa_nil)))) pss_nil)
  (pss_cons (ps_if (pt_not (pt_val (pe_call (ok_may_end T) (hr.mono (by decide)) rfl T.mg_may_end T.F_may_end.kp (b_may_end T) .nil pass0 (pa_cons (pe_fld (pv 0) rfl) (pa_cons (pe_ix ix_list (pe_ix ix_list (pv 6) (pv 2) (fun _ _ => rfl)) (pv 3) (fun _ _ => rfl)) (pa_cons (pe_ix ix_list (pe_ix ix_list (pv 6) (pv 2) (fun _ _ => rfl)) (pv 4) (fun _ _ => rfl)) pa_nil))))))
  (pss_one (ps_ret (pe_lst (pa_cons (pe_glob (v := .int (-3)) rfl T.mg_NOT_TO_BE_DRAWN ⟨_, rfl⟩) pa_nil)))) pss_nil)
  (pss_one (ps_ret (pe_meth (pv 0) T.clS T.m_S_go_on (ok_S_go_on T) (hr.mono (by decide)) (b_S_go_on T) .nil pass0 (pa_cons (pe_call (ok_parted T) (hr.mono (by decide)) rfl T.mg_parted T.F_parted.kp (b_parted T) .nil pass0 (pa_cons (pe_fld (pv 0) rfl) (pa_cons (pv 1) (pa_cons (pv 2) (pa_cons (pv 3) (pa_cons (pv 4) (pa_cons (pv 5) pa_nil))))))) pa_nil)))))))), ?_⟩)
  · obtain ⟨Z, s, el, S, r, x, i, j, ks, pc, rfl, _⟩ := h; rfl
  · obtain ⟨Z, s, el, S, r, x, i, j, ks, pc, rfl, sh, p1000, hpc, k⟩ := h
    obtain ⟨⟨dx, nw, es, h1, h2, h3, h4⟩, g1, g2, hz⟩ := id sh
    have hd : DV a H nw S.now := dv_mono.go cut_same h3
    obtain ⟨p, dxd, e0, r0, rfl, hp, _, _⟩ := id hd
    have no : (dF e0 r0).lookup ("has_place" : Str) = none := dF_no (by decide +kernel) (by decide +kernel) _ _
    have bad : (S.now.regions.length ≤ r ∨ (Uw61.borderAt S.now r x).length ≤ i ∨ (Uw61.borderAt S.now r x).length ≤ j) → ∀ q, H q = none → Q (.ref q) (upd H q (.lst [.int (-1)])) := fun c q nq => by
      have e : Uw61.step S (.parts r x i j ks) = (S, [-1]) := if_pos c
      rw [e] at k
      exact k.one sh (Same.refl H) nq
    refine ⟨_, rfl, s, a.CS, dx, _, _, rfl, h1, T.clS, T.nNow, sF_now _ _, p, dxd, _, rfl, hp, no, _, rfl, _, rfl, _, rfl, .ref p, _, r, x, i, rfl, hd, _, rfl, ?_⟩
    refine iteB (fun c => iteT ⟨sz (by show 1 ≤ 100000; decide), fun q nq => bad ?_ q nq⟩) (fun c => ?_)
    · have c := not_dec c
      omega
    have c : r < S.now.regions.length ∧ i < (Uw61.borderAt S.now r x).length := by simpa using c
    refine ⟨_, rfl, s, a.CS, dx, _, _, rfl, h1, T.clS, T.nNow, sF_now _ _, p, dxd, _, rfl, hp, no, _, rfl, _, rfl, _, rfl, .ref p, _, r, x, j, rfl, hd, _, rfl, ?_⟩
    refine iteB (fun c => ⟨sz (by show 1 ≤ 100000; decide), fun q nq => bad ?_ q nq⟩) (fun c2 => ?_)
    · have c := not_dec c
      omega
    have c2 : r < S.now.regions.length ∧ j < (Uw61.borderAt S.now r x).length := by simpa using c2
    have e1 : Uw61.step S (.parts r x i j ks) = if Uw61.isThere S.now (.part r x i j ks) = false then (S, [-2]) else Uw61.draw S (.part r x i j ks) := if_neg (by omega)
    have e1' : Uw61.isThere S.now (.part r x i j ks) = (decide (i ≤ j) && choiceB ks (Uw61.regionAt S.now r).length x) := by
      show (decide (i ≤ j) && (decide (j < (Uw61.borderAt S.now r x).length) && _)) = _
      rw [decide_eq_true c2.2, Bool.true_and]; rfl
    rw [e1, e1'] at k
    obtain ⟨p', dx', e', q', rs', w', e9, hp', hq', hw', hb'⟩ := region_read hd c.1
    cases e9
    rw [hp] at hp'
    cases hp'
    refine ⟨_, rfl, s, a.CS, dx, _, _, rfl, h1, T.clS, T.nNow, sF_now _ _, p, a.CD, dxd, _, _, rfl, hp, T.clD, T.nRegions, dF_regions _ _, _, rfl, q', rs', _, w', rfl, rfl, SqL.of hq', hw', ?_⟩
    obtain ⟨qx, wx, zx, rfl, hqx, ax, hzx, sx⟩ := spot_read hb' c.2
    obtain ⟨qy, wy, zy, e8, hqy, ay, hzy, sy⟩ := spot_read hb' c2.2
    cases e8
    have wl : wx.length = (Uw61.regionAt S.now r).length := by
      obtain ⟨q9, v9, e9, h9, f9⟩ := hb'
      cases e9
      rw [hqx] at h9
      cases h9
      exact f9.len
    refine ⟨_, rfl, _, rfl, _, _, rfl, rfl, _, rfl, ?_⟩
    refine iteB (fun c3 => iteT ⟨sz (by show 1 ≤ 100000; decide), fun q nq => ?_⟩) (fun c3 => ?_)
    · have c3 := of_decide_eq_true c3
      rw [decide_eq_false (by omega), Bool.false_and, if_pos rfl] at k
      exact k.one sh (Same.refl H) nq
    have c3 := of_decide_eq_false c3
    have c3 : i ≤ j := by omega
    rw [decide_eq_true c3, Bool.true_and] at k
    refine ⟨_, rfl, _, rfl, qx, wx, rfl, .inl (SqL.of hqx), _, rfl, .ref pc, ks, wx.length, x, rfl, ⟨pc, rfl, hpc⟩, fun H1 s1 => ⟨_, rfl, ?_⟩⟩
    rw [wl]
    refine iteB (fun c5 => ⟨sz (by show 1 ≤ 100000; decide), fun q nq => ?_⟩) (fun c5 => ?_)
    · have c5 : choiceB ks (Uw61.regionAt S.now r).length x = false := by simpa using c5
      rw [if_pos c5] at k
      exact k.one sh s1 nq
    have c5 : choiceB ks (Uw61.regionAt S.now r).length x = true := by simpa using c5
    rw [if_neg (by rw [c5]; decide)] at k
    have sh := sh.mono s1
    have k := k.back s1
    have h1 := s1 _ _ h1
    have hd := dv_mono.go s1 hd
    have hqx := s1 _ _ hqx
    have hqy := s1 _ _ hqy
    have hzx := s1 _ _ hzx
    have hzy := s1 _ _ hzy
    have hpc := s1 _ _ hpc
    have h3 := dv_mono.go (cut_mono (Z := zs Z s el) s1) h3
    refine ⟨_, rfl, s, a.CS, dx, _, _, rfl, h1, T.clS, T.nNow, sF_now _ _, _, rfl, _, rfl, qx, wx, _, _, rfl, rfl, SqL.of hqx, ax, _, rfl, zx, _, _, _, rfl, rfl, SqL.of hzx, sx,
      _, rfl, _, rfl, qx, wy, _, _, rfl, rfl, SqL.of hqy, ay, _, rfl, zy, _, _, _, rfl, rfl, SqL.of hzy, sy, .ref p, S.now, _, _, rfl, hd, g1.1, spot_ends g1.1 c.1 c.2, spot_ends g1.1 c2.1 c2.2, _, rfl, ?_⟩
    have cb : Uw61.canBe S.now (.part r x i j ks) = mayEnd S.now (Uw61.spotAt S.now r x i) (Uw61.spotAt S.now r x j) := rfl
    refine iteB (fun c4 => ⟨sz (by show 1 ≤ 100000; decide), fun q nq => ?_⟩) (fun c4 => ?_)
    · have c4 : mayEnd S.now (Uw61.spotAt S.now r x i) (Uw61.spotAt S.now r x j) = false := by simpa using c4
      have e2 : Uw61.draw S (.part r x i j ks) = (S, [-3]) := if_pos (by rw [cb, c4])
      rw [e2] at k
      exact k.one sh (Same.refl H1) nq
    · have c4 : mayEnd S.now (Uw61.spotAt S.now r x i) (Uw61.spotAt S.now r x j) = true := by simpa using c4
      have e2 : Uw61.draw S (.part r x i j ks) = (⟨Uw61.drawn S.now (.part r x i j ks), S.now :: S.past⟩, [(Uw61.allLives (Uw61.drawn S.now (.part r x i j ks)) : Int)]) := if_neg (by rw [cb, c4]; decide)
      rw [e2] at k
      unfold choiceB at c5
      rw [Bool.and_eq_true] at c5
      have sorted : ks.Pairwise (· < ·) := of_decide_eq_true c5.1
      have ins : ∀ b ∈ ks, b < (Uw61.regionAt S.now r).length ∧ (b != x) = true := fun b hb => by
        have := List.all_eq_true.mp c5.2 b hb
        rw [Bool.and_eq_true] at this
        exact ⟨of_decide_eq_true this.1, this.2⟩
      have sub : ks.Sublist ((List.range (Uw61.regionAt S.now r).length).filter fun b => b != x) :=
        sorted_sub (List.pairwise_lt_range.filter _) sorted fun b hb => List.mem_filter.mpr ⟨List.mem_range.mpr (ins b hb).1, (ins b hb).2⟩
      have hm : Line.part r x i j ks ∈ Uw61.lines S.now := mem_lines.mpr ⟨r, c.1, .inr (mem_partsIn.mpr ⟨x, i, j, ks, rfl, border_in c.2, c.2, c2.2, c3, by rw [cb, c4], sub⟩)⟩
      refine ⟨_, rfl, s, dx, _, rfl, h1, sF_no (by decide +kernel) (by decide +kernel) _ _, _, rfl, s, a.CS, dx, _, _, rfl, h1, T.clS, T.nNow, sF_now _ _, _, rfl, _, rfl, _, rfl, _, rfl, _, rfl, zs Z s el, .ref p, S.now, r, x, i, j, ks, pc, rfl, sh.zheld, h3, g1.1, c.1, border_in c.2, c3, c2.2, .inl hpc, sorted, fun b hb => (ins b hb).1, fun H2 u s2 hu => ?_⟩
      exact ⟨Z, s, el, S, u, _, rfl, sh.mono s2, hu, ⟨g1.1.line hm, g1.2.line hm⟩, p1000, k.back s2⟩
/-! ### questions -/
def sp_S_shows (a : Ads) : Sp := fun vs H Q _ => ∃ (Z : Addr → Prop) (s el : Addr) (S : Uw61.St) (r : Nat), vs = [.ref s, .int (r : Nat)] ∧ Sh a Z H s el S ∧ Ans a Z H s el S (Uw61.step S (.shows r)).2 Q
theorem ints_nv (l : List Nat) : (Uw61.ints l).map V.int = nv l := by unfold Uw61.ints; rw [nv_ints]
theorem counted_nv (l : List Nat) : (Uw61.counted l).map V.int = V.int (l.length : Nat) :: nv l := by unfold Uw61.counted; rw [List.map_cons, ints_nv]
theorem counted_len (l : List Nat) : (Uw61.counted l).length = l.length + 1 := by unfold Uw61.counted Uw61.ints; simp
theorem counted_flat : ∀ (bs : List (List Nat)), (bs.flatMap Uw61.counted).length = bs.length + bs.flatten.length
  | [] => rfl
  | b :: bs => by
    rw [List.flatMap_cons, List.length_append, counted_len, counted_flat bs, List.flatten_cons, List.length_append, List.length_cons]; omega
theorem flat_take {bs : List (List Nat)} (i : Nat) : (bs.take i).flatten.length ≤ bs.flatten.length := by
  have e : bs.flatten = (bs.take i).flatten ++ (bs.drop i).flatten := by rw [← List.flatten_append, List.take_append_drop]
  rw [e, List.length_append]; omega
theorem ok_S_shows {P : Program} {w : World} {K : PySem.W.Frag} {mg : Str → Option Value} {base : Heap} {a : Ads} (T : Txt K mg a) : FnOk P w K mg base CX0 1 a.f_S_shows a.d_S_shows ["self", "region"] (sp_S_shows a) := by
  refine T.F_S_shows.ok sc_S_shows (fun vs H Q E h => ?_) (fun cdv A outer s H vs Q E hr h => ⟨_, (pss_cons (ps_if (pt_cmpR op_ge (pv 1) (pe_callB call_len_seq (by rfl) T.n_len PySem.boot_len (pa_cons (pe_fld (pe_fld (pv 0) rfl) rfl) pa_nil)) (nomark _))
  (pss_one (ps_ret (pe_lst (pa_cons (pe_glob (v := .int (-1)) rfl T.mg_NONE_SUCH ⟨_, rfl⟩) pa_nil)))) pss_nil)
  (pss_cons (ps_set (i := 2) sc_S_shows.nd rfl (Or.inl rfl) (pe_ix ix_list (pe_fld (pe_fld (pv 0) rfl) rfl) (pv 1) (fun _ _ => rfl)))
  (pss_cons (ps_set (i := 3) sc_S_shows.nd rfl (Or.inl rfl) (pe_lst (pa_cons (pe_callB call_len_seq (by rfl) T.n_len PySem.boot_len (pa_cons (pv 2) pa_nil)) pa_nil)))
  (pss_cons (ps_for PassesOwn.never rfl (pi_list (pv 2)) (pg_name (i := 4) sc_S_shows.nd rfl (Or.inl rfl))
  (pss_cons (ps_expr (pe_bm PySem.F.plainAttrs_list PySem.F.slot_list_append PySem.F.type_list_append mt_append (pv 3) (pa_cons (pe_callB call_len_seq (by rfl) T.n_len PySem.boot_len (pa_cons (pv 4) pa_nil)) pa_nil)))
  (pss_one (ps_expr (pe_bm PySem.F.plainAttrs_list PySem.F.slot_list_extend PySem.F.type_list_extend mt_extend (pv 3) (pa_cons (pv 4) pa_nil))))))
  (pss_one (ps_ret (pv 3))))))), ?_⟩)
  · obtain ⟨Z, s, el, S, r, rfl, _⟩ := h; rfl
  · obtain ⟨Z, s, el, S, r, rfl, sh, k⟩ := h
    obtain ⟨⟨dx, nw, es, h1, h2, h3, h4⟩, g1, g2, hz⟩ := id sh
    have hd : DV a H nw S.now := dv_mono.go cut_same h3
    obtain ⟨p, dxd, e0, r0, rfl, hp, _, q, rs, rfl, hq, fr⟩ := id hd
    refine ⟨_, rfl, _, rfl, s, a.CS, dx, _, _, rfl, h1, T.clS, T.nNow, sF_now _ _, p, a.CD, dxd, _, _, rfl, hp, T.clD, T.nRegions, dF_regions _ _, q, _, rfl, .inl (SqL.of hq), _, _, rfl, rfl, _, rfl, ?_⟩
    rw [fr.len]
    refine iteB (fun c => ⟨sz (by show 1 ≤ 100000; decide), fun t nt => ?_⟩) (fun c => ?_)
    · have c := of_decide_eq_true c
      have e : (Uw61.step S (.shows r)).2 = [-1] := if_pos (by omega)
      rw [e] at k
      exact k.one sh (Same.refl H) nt
    have c := of_decide_eq_false c
    have c : r < S.now.regions.length := by omega
    have e : (Uw61.step S (.shows r)).2 = ((Uw61.regionAt S.now r).length : Int) :: (Uw61.regionAt S.now r).flatMap Uw61.counted := if_neg (by omega)
    rw [e] at k
    obtain ⟨p', dx', e', q', rs', w', e9, hp', hq', hw', hb'⟩ := region_read hd c
    cases e9
    rw [hp] at hp'
    cases hp'
    rw [hq] at hq'
    cases hq'
    obtain ⟨qb, ws, rfl, hqb, fb⟩ := hb'
    have b6 : (Uw61.regionAt S.now r).length ≤ 6 := g1.1.b6 _ (by
      have e2 : Uw61.regionAt S.now r = S.now.regions[r] := getD_lt c
      rw [e2]; exact List.getElem_mem c)
    have b96 := region_flat g1.1 c
    refine ⟨_, rfl, s, a.CS, dx, _, _, rfl, h1, T.clS, T.nNow, sF_now _ _, p, a.CD, dxd, _, _, rfl, hp, T.clD, T.nRegions, dF_regions _ _, _, rfl, q, rs, _, _, rfl, rfl, SqL.of hq, hw', ?_⟩
    refine ⟨_, rfl, qb, ws, rfl, .inl (SqL.of hqb), sz (by show 1 ≤ 100000; decide), fun L nL => ?_⟩
    rw [fb.len]
    have s1 : Same H (upd H L (.lst [V.int ((Uw61.regionAt S.now r).length : Int)])) := same_new nL
    refine ⟨_, rfl, qb, rfl, ⟨_, SqL.of (s1 _ _ hqb)⟩, ?_⟩
    refine for_list (K := K) (a := qb) (xs := ws) (fun i σ H' => ∃ z, σ = [some (.ref s), some (.int (r : Nat)), some (.ref qb), some (.ref L), z] ∧ Same H H' ∧ H' L = some (.lst ((((Uw61.regionAt S.now r).length : Int) :: ((Uw61.regionAt S.now r).take i).flatMap Uw61.counted).map V.int)))
      ⟨none, rfl, s1, upd_same⟩ (fun i σ H' _ ⟨_, _, z, _⟩ => SqL.of (z _ _ hqb)) ?_ ?_
    · rintro i x σ H' hx ⟨z, rfl, s2, hL⟩
      obtain ⟨l, hl, ql, rfl, hql⟩ := fb.getL hx
      have hql := s2 _ _ hql
      have lt := (List.getElem?_eq_some_iff.mp hl).1
      have l96 : l.length ≤ 96 := by
        have h3 := border_le lt
        rw [getD_lt lt, (List.getElem?_eq_some_iff.mp hl).2] at h3
        omega
      have Ll : L ≠ ql := fun z => by
        rw [← z] at hql
        obtain ⟨l', hl', qq, e, hqq⟩ := fb.getL hx
        cases e
        rw [← z, nL] at hqq; cases hqq
      have tl : (((Uw61.regionAt S.now r).take i).flatMap Uw61.counted).length ≤ 200 := by
        rw [counted_flat, List.length_take]
        have := flat_take (bs := Uw61.regionAt S.now r) i
        omega
      refine ⟨_, rfl, .inl ⟨rfl, _, SqL.of hL⟩, _, rfl, ql, _, rfl, .inl (SqL.of hql), L, _, _, rfl, rfl, hL, ?_, ?_⟩
      · rw [List.length_map, List.length_cons]; exact szl (by omega)
      refine ⟨_, rfl, .inl ⟨rfl, _, SqL.of upd_same⟩, _, rfl, L, ql, _, _, rfl, rfl, upd_same, by rw [upd_ne (fun z => Ll z.symm)]; exact hql, ?_, _, rfl, same_mut (same_mut s2 nL) nL, ?_⟩
      · rw [List.length_append, List.length_map, List.length_cons, nv_length]; exact sz (by show _ + 1 + 1 + _ ≤ 100000; omega)
      · rw [upd_same, take_get hl, List.flatMap_append, List.map_cons, List.map_cons, List.map_append, List.flatMap_cons, List.flatMap_nil, List.append_nil, counted_nv, nv_length]
        simp
    · rintro σ H' ⟨z, rfl, s2, hL⟩
      rw [fb.len, List.take_length] at hL
      exact ⟨_, rfl, k.same sh s2 nL hL⟩
def sp_S_spots (a : Ads) : Sp := fun vs H Q _ => ∃ (Z : Addr → Prop) (s el : Addr) (S : Uw61.St), vs = [.ref s] ∧ Sh a Z H s el S ∧ Ans a Z H s el S (Uw61.step S .spots).2 Q
theorem ok_S_spots {P : Program} {w : World} {K : PySem.W.Frag} {mg : Str → Option Value} {base : Heap} {a : Ads} (T : Txt K mg a) : FnOk P w K mg base CX0 1 a.f_S_spots a.d_S_spots ["self"] (sp_S_spots a) := by
  refine T.F_S_spots.ok sc_S_spots (fun vs H Q E h => ?_) (fun cdv A outer s H vs Q E hr h => ⟨_, (pss_one (ps_ret (pe_op op_cat (pe_lst (pa_cons (pe_callB call_len_seq (by rfl) T.n_len PySem.boot_len (pa_cons (pe_fld (pe_fld (pv 0) rfl) rfl) pa_nil)) pa_nil)) (pe_fld (pe_fld (pv 0) rfl) rfl)))), ?_⟩)
  · obtain ⟨Z, s, el, S, rfl, _⟩ := h; rfl
  · obtain ⟨Z, s, el, S, rfl, sh, k⟩ := h
    obtain ⟨⟨dx, nw, es, h1, h2, h3, h4⟩, g1, g2, hz⟩ := id sh
    have hd : DV a H nw S.now := dv_mono.go cut_same h3
    obtain ⟨p, dxd, e0, r0, rfl, hp, ⟨qe, rfl, hqe⟩, _⟩ := id hd
    have en := g1.1.en
    refine ⟨_, rfl, s, a.CS, dx, _, _, rfl, h1, T.clS, T.nNow, sF_now _ _, p, a.CD, dxd, _, _, rfl, hp, T.clD, T.nEnds, dF_ends _ _, qe, _, rfl, .inl (SqL.of hqe), sz (by show 1 ≤ 100000; decide), fun E nE => ?_⟩
    have s1 : Same H (upd H E (.lst [V.int ((nv S.now.ends).length : Int)])) := same_new nE
    refine ⟨_, rfl, s, a.CS, dx, _, _, rfl, s1 _ _ h1, T.clS, T.nNow, sF_now _ _, p, a.CD, dxd, _, _, rfl, s1 _ _ hp, T.clD, T.nEnds, dF_ends _ _, E, qe, _, _, rfl, rfl, upd_same, s1 _ _ hqe, ?_, fun q nq => ?_⟩
    · rw [nv_length]; exact sz (by show 1 + _ ≤ 100000; omega)
    refine k.same sh (s1.trans (same_new nq)) (s1.free nq) ?_
    rw [upd_same]
    show some (HO.lst ([V.int ((nv S.now.ends).length : Int)] ++ nv S.now.ends)) = some (HO.lst ((Uw61.counted S.now.ends).map V.int))
    rw [counted_nv, nv_length]; rfl
def sp_S_counts (a : Ads) : Sp := fun vs H Q _ => ∃ (Z : Addr → Prop) (s el : Addr) (S : Uw61.St), vs = [.ref s] ∧ Sh a Z H s el S ∧ Ans a Z H s el S (Uw61.step S .counts).2 Q
theorem sum_cast : ∀ l : List Nat, (l.map fun n : Nat => (n : Int)).sum = ((Uw61.sum l : Nat) : Int) := by
  intro l
  rw [sum_eq]
  induction l with
  | nil => rfl
  | cons a l ih => simp only [List.map_cons, List.sum_cons, ih]; omega
theorem ok_S_counts {P : Program} {w : World} {K : PySem.W.Frag} {mg : Str → Option Value} {base : Heap} {a : Ads} (T : Txt K mg a) : FnOk P w K mg base CX0 3 a.f_S_counts a.d_S_counts ["self"] (sp_S_counts a) := by
  refine T.F_S_counts.ok sc_S_counts (fun vs H Q E h => ?_) (fun cdv A outer s H vs Q E hr h => ⟨_, (pss_cons (ps_set (i := 1) sc_S_counts.nd rfl (Or.inl rfl) (pe_fld (pe_fld (pv 0) rfl) rfl))
  (pss_one (ps_ret (pe_lst (pa_cons (pe_callB call_len_seq (by rfl) T.n_len PySem.boot_len (pa_cons (pe_fld (pe_fld (pv 0) rfl) rfl) pa_nil)) (pa_cons (pe_callB call_len_seq (by rfl) T.n_len PySem.boot_len (pa_cons (pv 1) pa_nil)) (pa_cons (pe_callB (cr_sum rfl) (by rfl) T.n_sum (by decide +kernel) (pa_cons (pv 1) pa_nil)) (pa_cons (pe_call (ok_pieces_of T) (hr.mono (by decide)) rfl T.mg_pieces_of T.F_pieces_of.kp (b_pieces_of T) .nil pass0 (pa_cons (pe_fld (pv 0) rfl) pa_nil)) (pa_cons (pe_meth0 (pe_fld (pv 0) rfl) T.clD T.m_D_all_lives (ok_D_all_lives T) (hr.mono (by decide)) (b_D_all_lives T) .nil pass0) pa_nil))))))))), ?_⟩)
  · obtain ⟨Z, s, el, S, rfl, _⟩ := h; rfl
  · obtain ⟨Z, s, el, S, rfl, sh, k⟩ := h
    obtain ⟨⟨dx, nw, es, h1, h2, h3, h4⟩, g1, g2, hz⟩ := id sh
    have hd : DV a H nw S.now := dv_mono.go cut_same h3
    obtain ⟨p, dxd, e0, r0, rfl, hp, ⟨qe, rfl, hqe⟩, q, rs, rfl, hq, fr⟩ := id hd
    refine ⟨_, rfl, s, a.CS, dx, _, _, rfl, h1, T.clS, T.nNow, sF_now _ _, p, a.CD, dxd, _, _, rfl, hp, T.clD, T.nEnds, dF_ends _ _, ?_⟩
    have hqi : H qe = some (.lst ((S.now.ends.map fun n : Nat => (n : Int)).map V.int)) := by rw [← nv_ints]; exact hqe
    refine ⟨_, rfl, s, a.CS, dx, _, _, rfl, h1, T.clS, T.nNow, sF_now _ _, p, a.CD, dxd, _, _, rfl, hp, T.clD, T.nRegions, dF_regions _ _, q, _, rfl, .inl (SqL.of hq), _, rfl, qe, _, rfl, .inl (SqL.of hqe), _, rfl, qe, _, rfl, SqL.of hqi,
      _, rfl, s, a.CS, dx, _, _, rfl, h1, T.clS, T.nNow, sF_now _ _, .ref p, S.now, rfl, hd, g1.1, g1.2, fun H1 s1 => ?_⟩
    refine ⟨_, rfl, s, a.CS, dx, _, _, rfl, s1 _ _ h1, T.clS, T.nNow, sF_now _ _, p, dxd, _, rfl, s1 _ _ hp, dF_no (by decide +kernel) (by decide +kernel) _ _, .ref p, S.now, rfl, dv_mono.go s1 hd, g1.1, fun H2 s2 => ?_⟩
    refine ⟨sz (by show 5 ≤ 100000; decide), fun t nt => ?_⟩
    refine k.same sh ((s1.trans s2).trans (same_new nt)) ((s1.trans s2).free nt) ?_
    rw [upd_same, sum_cast, fr.len, nv_length]
    rfl
end Sg

/-! ### text W19 -/
namespace Sg
open PySem PySem.Spec PyProof.Rows L2
open Uw61 (Drawing Line)

def sp_S_ways (a : Ads) : Sp := fun vs H Q _ => ∃ (Z : Addr → Prop) (s el : Addr) (S : Uw61.St), vs = [.ref s] ∧ Sh a Z H s el S ∧ Ans a Z H s el S (Uw61.step S .ways).2 Q
theorem range_get {n i : Nat} {v : V} (h : (nv (List.range n))[i]? = some v) : i < n ∧ v = .int (i : Nat) := by
  obtain ⟨m, hm, rfl⟩ := nv_getL h
  obtain ⟨h1, h2⟩ := List.getElem?_eq_some_iff.mp hm
  rw [List.getElem_range] at h2
  rw [List.length_range] at h1
  exact ⟨h1, by rw [h2]⟩
theorem range_take {n i : Nat} (h : i ≤ n) : (List.range n).take i = List.range i := by
  rw [List.take_range, Nat.min_eq_left h]
theorem ok_S_ways {P : Program} {w : World} {K : PySem.W.Frag} {mg : Str → Option Value} {base : Heap} {a : Ads} (T : Txt K mg a) : FnOk P w K mg base CX0 5 a.f_S_ways a.d_S_ways ["self"] (sp_S_ways a) := by
  refine T.F_S_ways.ok sc_S_ways (fun vs H Q E h => ?_) (fun cdv A outer s H vs Q E hr h => ⟨_, (pss_cons (ps_set (i := 1) sc_S_ways.nd rfl (Or.inl rfl) (pe_listRg rfl (by rfl) T.n_list (prg_1 (by rfl) T.n_range (pe_callB call_len_seq (by rfl) T.n_len PySem.boot_len (pa_cons (pe_fld (pe_fld (pv 0) rfl) rfl) pa_nil)))))
  (pss_cons (ps_set (i := 2) sc_S_ways.nd rfl (Or.inl rfl) (pe_callB (cr_sum rfl) (by rfl) T.n_sum (by decide +kernel) (pa_cons (pe_lc (own := [("region", 3)]) rfl sc_S_ways.nd (pi_list (pv 1)) (blkOk_by (N := ["self", "regions", "between", "region"]) (sc := defScope s_S_ways) (own := [("region", 3)]) (by decide +kernel)) (fun _ _ _ _ _ => (pg_name (i := 3) sc_S_ways.nd rfl (Or.inl rfl))) (fun _ _ _ _ _ => pts_nil) (fun _ _ _ _ _ => (pe_callB (r := Evl.rLenS K) call_len_seq (by rfl) T.n_len PySem.boot_len (pa_cons (pe_call (ok_joins_in T) (hr.mono (by decide)) rfl T.mg_joins_in T.F_joins_in.kp (b_joins_in T) .nil pass0 (pa_cons (pe_fldK K (pv 0) rfl rfl) (pa_cons (pv 3) pa_nil))) pa_nil)))) pa_nil)))
  (pss_one (ps_ret (pe_lst (pa_cons (pv 2) (pa_cons (pe_callB (cr_sum rfl) (by rfl) T.n_sum (by decide +kernel) (pa_cons (pe_lc (own := [("region", 3)]) rfl sc_S_ways.nd (pi_list (pv 1)) (blkOk_by (N := ["self", "regions", "between", "region"]) (sc := defScope s_S_ways) (own := [("region", 3)]) (by decide +kernel)) (fun _ _ _ _ _ => (pg_name (i := 3) sc_S_ways.nd rfl (Or.inl rfl))) (fun _ _ _ _ _ => pts_nil) (fun _ _ _ _ _ => (pe_callB (r := Evl.rLenS K) call_len_seq (by rfl) T.n_len PySem.boot_len (pa_cons (pe_call (ok_parts_in T) (hr.mono (by decide)) rfl T.mg_parts_in T.F_parts_in.kp (b_parts_in T) .nil pass0 (pa_cons (pe_fldK K (pv 0) rfl rfl) (pa_cons (pv 3) pa_nil))) pa_nil)))) pa_nil)) pa_nil))))))), ?_⟩)
  · obtain ⟨Z, s, el, S, rfl, _⟩ := h; rfl
  · obtain ⟨Z, s, el, S, rfl, sh, k⟩ := h
    obtain ⟨⟨dx, nw, es, h1, h2, h3, h4⟩, g1, g2, hz⟩ := id sh
    have hd : DV a H nw S.now := dv_mono.go cut_same h3
    obtain ⟨p, dxd, e0, r0, rfl, hp, he, q, rs, rfl, hq, fr⟩ := id hd
    have rg := g1.1.rg
    refine ⟨_, rfl, s, a.CS, dx, _, _, rfl, h1, T.clS, T.nNow, sF_now _ _, p, a.CD, dxd, _, _, rfl, hp, T.clD, T.nRegions, dF_regions _ _, q, _, rfl, .inl (SqL.of hq), _, rfl, ?_, fun L nL => ?_⟩
    · rw [fr.len]; exact RgOk.of_le (by omega) (by omega) (by omega) (by omega)
    rw [fr.len, rgV_nat]
    have s1 : Same H (upd H L (.lst (nv (List.range S.now.regions.length)))) := same_new nL
    refine ⟨_, rfl, L, rfl, ⟨_, SqL.of upd_same⟩, fun D nD => ?_⟩
    refine lc_list (K := K) (a := L) (xs := nv (List.range S.now.regions.length)) (fun i H2 => Same (upd H L (.lst (nv (List.range S.now.regions.length)))) H2 ∧ H2 D = some (.lst (nv ((List.range i).map fun r => (Uw61.joinsIn S.now r).length)))) ⟨same_new nD, upd_same⟩ (fun i H2 _ z => SqL.of (z.1 _ _ upd_same)) ?_ ?_
    · rintro i x H2 hx ⟨s2, hD⟩
      obtain ⟨lt, rfl⟩ := range_get hx
      have S2 := s1.trans s2
      refine ⟨rfl, yes_of ⟨_, rfl, s, a.CS, dx, _, _, rfl, S2 _ _ h1, T.clS, T.nNow, sF_now _ _, _, rfl, .ref p, S.now, i, rfl, dv_mono.go S2 hd, g1.1, lt, fun H3 q3 N3 => ?_⟩⟩
      obtain ⟨s3, n3, vs, h3', f3⟩ := N3
      refine ⟨q3, vs, rfl, .inl (SqL.of h3'), _, s3 _ _ hD, ?_, same_mut (s2.trans s3) nD, ?_⟩
      · rw [nv_length, List.length_map, List.length_range]; exact szl (by omega)
      · rw [upd_same, List.range_succ, List.map_append, nv_append, f3.len]; rfl
    · rintro H2 ⟨s2, hD⟩
      rw [nv_length, List.length_range, nv_ints] at hD
      have S2 := s1.trans s2
      have hL2 := s2 _ _ (upd_same (H := H) (o := .lst (nv (List.range S.now.regions.length))) (a := L))
      refine ⟨D, _, rfl, SqL.of hD, ?_⟩
      rw [sum_cast]
      refine ⟨_, rfl, _, rfl, L, rfl, ⟨_, SqL.of hL2⟩, fun D2 nD2 => ?_⟩
      refine lc_list (K := K) (a := L) (xs := nv (List.range S.now.regions.length)) (fun i H3 => Same H2 H3 ∧ H3 D2 = some (.lst (nv ((List.range i).map fun r => (Uw61.partsIn S.now r).length)))) ⟨same_new nD2, upd_same⟩ (fun i H3 _ z => SqL.of (z.1 _ _ hL2)) ?_ ?_
      · rintro i x H3 hx ⟨s3, hD2⟩
        obtain ⟨lt, rfl⟩ := range_get hx
        have S3 := S2.trans s3
        refine ⟨rfl, yes_of ⟨_, rfl, s, a.CS, dx, _, _, rfl, S3 _ _ h1, T.clS, T.nNow, sF_now _ _, _, rfl, .ref p, S.now, i, rfl, dv_mono.go S3 hd, g1.1, lt, fun H4 q4 N4 => ?_⟩⟩
        obtain ⟨s4, n4, vs, h4', f4⟩ := N4
        refine ⟨q4, vs, rfl, .inl (SqL.of h4'), _, s4 _ _ hD2, ?_, same_mut (s3.trans s4) nD2, ?_⟩
        · rw [nv_length, List.length_map, List.length_range]; exact szl (by omega)
        · rw [upd_same, List.range_succ, List.map_append, nv_append, f4.len]; rfl
      · rintro H3 ⟨s3, hD2⟩
        rw [nv_length, List.length_range, nv_ints] at hD2
        refine ⟨D2, _, rfl, SqL.of hD2, sz (by show 2 ≤ 100000; decide), fun t nt => ?_⟩
        refine k.same sh ((S2.trans s3).trans (same_new nt)) ((S2.trans s3).free nt) ?_
        rw [upd_same, sum_cast]
        rfl
theorem small_big {S : Uw61.St} {f : Unit → List Int} (h : 6 < Uw61.allLives S.now) : Uw61.small S f = (S, [-7]) := by
  unfold Uw61.small; rw [if_pos (show Uw61.MOST < _ from h)]
theorem small_in {S : Uw61.St} {f : Unit → List Int} (h : Uw61.allLives S.now ≤ 6) : Uw61.small S f = (S, f ()) := by
  unfold Uw61.small; rw [if_neg (show ¬ Uw61.MOST < _ by show ¬ 6 < _; omega)]
def sp_S_worth (a : Ads) : Sp := fun vs H Q _ => ∃ (Z : Addr → Prop) (s el : Addr) (S : Uw61.St), vs = [.ref s] ∧ Sh a Z H s el S ∧ Ans a Z H s el S (Uw61.step S .worth).2 Q
theorem ok_S_worth {P : Program} {w : World} {K : PySem.W.Frag} {mg : Str → Option Value} {base : Heap} {a : Ads} (T : Txt K mg a) : FnOk P w K mg base CX0 14 a.f_S_worth a.d_S_worth ["self"] (sp_S_worth a) := by
  refine T.F_S_worth.ok sc_S_worth (fun vs H Q E h => ?_) (fun cdv A outer s H vs Q E hr h => ⟨_, (pss_cons (ps_if (pt_cmpR op_gt (pe_meth0 (pe_fld (pv 0) rfl) T.clD T.m_D_all_lives (ok_D_all_lives T) (hr.mono (by decide)) (b_D_all_lives T) .nil pass0) (pe_glob (v := .int 6) rfl T.mg_MOST_LIVES ⟨_, rfl⟩) (nomark _))
  (pss_one (ps_ret (pe_lst (pa_cons (pe_glob (v := .int (-7)) rfl T.mg_TOO_MANY ⟨_, rfl⟩) pa_nil)))) pss_nil)
  (pss_one (ps_ret (pe_lst (pa_cons (pe_call (ok_worth_in T) (hr.mono (by decide)) rfl T.mg_worth_in T.F_worth_in.kp (b_worth_in T) .nil pass0 (pa_cons (pe_fld (pv 0) rfl) (pa_cons pe_dnewN pa_nil))) pa_nil))))), ?_⟩)
  · obtain ⟨Z, s, el, S, rfl, _⟩ := h; rfl
  · obtain ⟨Z, s, el, S, rfl, sh, k⟩ := h
    obtain ⟨⟨dx, nw, es, h1, h2, h3, h4⟩, g1, g2, hz⟩ := id sh
    have hd : DV a H nw S.now := dv_mono.go cut_same h3
    obtain ⟨p, dxd, e0, r0, rfl, hp, _, _⟩ := id hd
    have es0 : Uw61.step S .worth = Uw61.small S fun _ => [(Uw61.worth (Uw61.allLives S.now + 1) S.now : Int)] := rfl
    rw [es0] at k
    refine ⟨_, rfl, s, a.CS, dx, _, _, rfl, h1, T.clS, T.nNow, sF_now _ _, p, dxd, _, rfl, hp, dF_no (by decide +kernel) (by decide +kernel) _ _, .ref p, S.now, rfl, hd, g1.1, fun H1 s1 => ?_⟩
    refine ⟨_, _, rfl, rfl, _, rfl, ?_⟩
    refine iteB (fun c => ⟨sz (by show 1 ≤ 100000; decide), fun q nq => ?_⟩) (fun c => ?_)
    · have c := of_decide_eq_true c
      rw [small_big (by omega)] at k
      exact k.one sh s1 nq
    have c := of_decide_eq_false c
    have l6 : Uw61.allLives S.now ≤ 6 := by omega
    rw [small_in l6] at k
    refine ⟨_, rfl, s, a.CS, dx, _, _, rfl, s1 _ _ h1, T.clS, T.nNow, sF_now _ _, fun n nn => ?_⟩
    have s2 : Same H1 (upd H1 n (KnO P w n [])) := same_new nn
    refine ⟨.ref p, S.now, n, [], rfl, dv_mono.go (s1.trans s2) hd, g1.1, l6, (by decide : 6 ≤ 6), memo_new upd_same, (by show 0 + cc 6 ≤ cc 6; omega), fun H3 es3 sb3 M3 b3 => ?_⟩
    have S3 : Same H H3 := sb3.same (s1.trans s2) (s1.free nn)
    refine ⟨sz (by show 1 ≤ 100000; decide), fun q nq => ?_⟩
    have e : (Uw61.worth (Uw61.allLives S.now + 1) S.now : Int) = (worthV S.now : Nat) := by rw [worthV_eq (by omega)]
    have k : Ans a Z H s el S [(Uw61.worth (Uw61.allLives S.now + 1) S.now : Int)] Q := k
    rw [e] at k
    exact k.one sh S3 nq
def sp_S_span (a : Ads) : Sp := fun vs H Q _ => ∃ (Z : Addr → Prop) (s el : Addr) (S : Uw61.St), vs = [.ref s] ∧ Sh a Z H s el S ∧ Ans a Z H s el S (Uw61.step S .span).2 Q
theorem ok_S_span {P : Program} {w : World} {K : PySem.W.Frag} {mg : Str → Option Value} {base : Heap} {a : Ads} (T : Txt K mg a) : FnOk P w K mg base CX0 14 a.f_S_span a.d_S_span ["self"] (sp_S_span a) := by
  refine T.F_S_span.ok sc_S_span (fun vs H Q E h => ?_) (fun cdv A outer s H vs Q E hr h => ⟨_, (pss_cons (ps_if (pt_cmpR op_gt (pe_meth0 (pe_fld (pv 0) rfl) T.clD T.m_D_all_lives (ok_D_all_lives T) (hr.mono (by decide)) (b_D_all_lives T) .nil pass0) (pe_glob (v := .int 6) rfl T.mg_MOST_LIVES ⟨_, rfl⟩) (nomark _))
  (pss_one (ps_ret (pe_lst (pa_cons (pe_glob (v := .int (-7)) rfl T.mg_TOO_MANY ⟨_, rfl⟩) pa_nil)))) pss_nil)
  (pss_one (ps_ret (pe_callTy call_list_of (by rfl) T.n_list (by decide +kernel) (pa_cons (pe_call (ok_span_in T) (hr.mono (by decide)) rfl T.mg_span_in T.F_span_in.kp (b_span_in T) .nil pass0 (pa_cons (pe_fld (pv 0) rfl) (pa_cons pe_dnewN pa_nil))) pa_nil))))), ?_⟩)
  · obtain ⟨Z, s, el, S, rfl, _⟩ := h; rfl
  · obtain ⟨Z, s, el, S, rfl, sh, k⟩ := h
    obtain ⟨⟨dx, nw, es, h1, h2, h3, h4⟩, g1, g2, hz⟩ := id sh
    have hd : DV a H nw S.now := dv_mono.go cut_same h3
    obtain ⟨p, dxd, e0, r0, rfl, hp, _, _⟩ := id hd
    have es0 : Uw61.step S .span = Uw61.small S fun _ => Uw61.ints [(Uw61.span (Uw61.allLives S.now + 1) S.now).1, (Uw61.span (Uw61.allLives S.now + 1) S.now).2] := rfl
    rw [es0] at k
    refine ⟨_, rfl, s, a.CS, dx, _, _, rfl, h1, T.clS, T.nNow, sF_now _ _, p, dxd, _, rfl, hp, dF_no (by decide +kernel) (by decide +kernel) _ _, .ref p, S.now, rfl, hd, g1.1, fun H1 s1 => ?_⟩
    refine ⟨_, _, rfl, rfl, _, rfl, ?_⟩
    refine iteB (fun c => ⟨sz (by show 1 ≤ 100000; decide), fun q nq => ?_⟩) (fun c => ?_)
    · have c := of_decide_eq_true c
      rw [small_big (by omega)] at k
      exact k.one sh s1 nq
    have c := of_decide_eq_false c
    have l6 : Uw61.allLives S.now ≤ 6 := by omega
    rw [small_in l6] at k
    refine ⟨_, rfl, s, a.CS, dx, _, _, rfl, s1 _ _ h1, T.clS, T.nNow, sF_now _ _, fun n nn => ?_⟩
    have s2 : Same H1 (upd H1 n (KnO P w n [])) := same_new nn
    refine ⟨.ref p, S.now, n, [], rfl, dv_mono.go (s1.trans s2) hd, g1.1, l6, (by decide : 6 ≤ 6), memo_new upd_same, (by show 0 + cc 6 ≤ cc 6; omega), fun H3 es3 u3 sb3 M3 b3 pv3 => ?_⟩
    have S3 : Same H H3 := sb3.same (s1.trans s2) (s1.free nn)
    obtain ⟨t3, rfl, ht3⟩ := pv3
    refine ⟨t3, _, rfl, .inr (SqT.of ht3), fun q nq => ?_⟩
    have k : Ans a Z H s el S (Uw61.ints [(Uw61.span (Uw61.allLives S.now + 1) S.now).1, (Uw61.span (Uw61.allLives S.now + 1) S.now).2]) Q := k
    rw [spanV_eq (by omega)] at k
    refine k.same sh (S3.trans (same_new nq)) (S3.free nq) ?_
    rw [upd_same]
    rfl
def sp_S_wins (a : Ads) : Sp := fun vs H Q _ => ∃ (Z : Addr → Prop) (s el : Addr) (S : Uw61.St) (n : Nat), vs = [.ref s, .int (n : Nat)] ∧ Sh a Z H s el S ∧ Ans a Z H s el S (Uw61.step S (.wins n)).2 Q
theorem ok_S_wins {P : Program} {w : World} {K : PySem.W.Frag} {mg : Str → Option Value} {base : Heap} {a : Ads} (T : Txt K mg a) : FnOk P w K mg base CX0 15 a.f_S_wins a.d_S_wins ["self", "way"] (sp_S_wins a) := by
  refine T.F_S_wins.ok sc_S_wins (fun vs H Q E h => ?_) (fun cdv A outer s H vs Q E hr h => ⟨_, (pss_cons (ps_if (pt_cmpR op_notIn_seq (pv 1) (pe_tup (pa_cons pe_int (pa_cons pe_int pa_nil))) (by rfl))
  (pss_one (ps_ret (pe_lst (pa_cons (pe_glob (v := .int (-1)) rfl T.mg_NONE_SUCH ⟨_, rfl⟩) pa_nil)))) pss_nil)
  (pss_cons (ps_if (pt_cmpR op_gt (pe_meth0 (pe_fld (pv 0) rfl) T.clD T.m_D_all_lives (ok_D_all_lives T) (hr.mono (by decide)) (b_D_all_lives T) .nil pass0) (pe_glob (v := .int 6) rfl T.mg_MOST_LIVES ⟨_, rfl⟩) (nomark _))
  (pss_one (ps_ret (pe_lst (pa_cons (pe_glob (v := .int (-7)) rfl T.mg_TOO_MANY ⟨_, rfl⟩) pa_nil)))) pss_nil)
  (pss_cons (ps_if (pt_cmpR (op_eqNil hr.units0) (pe_call (ok_lines_of T) (hr.mono (by decide)) rfl T.mg_lines_of T.F_lines_of.kp (b_lines_of T) .nil pass0 (pa_cons (pe_fld (pv 0) rfl) pa_nil)) (pe_lst pa_nil) (nomark _))
  (pss_one (ps_ret (pe_lst (pa_cons (pv 1) pa_nil)))) pss_nil)
  (pss_cons (ps_set (i := 2) sc_S_wins.nd rfl (Or.inl rfl) (pe_call (ok_first_win T) (hr.mono (by decide)) rfl T.mg_first_win T.F_first_win.kp (b_first_win T) .nil pass0 (pa_cons (pe_fld (pv 0) rfl) (pa_cons (pv 1) pa_nil))))
  (pss_cons (ps_if (pt_cmpR op_isN (pv 2) pe_non (nomark _))
  (pss_one (ps_ret (pe_lst (pa_cons pe_int pa_nil)))) pss_nil)
  (pss_one (ps_ret (pe_op op_cat (pe_lst (pa_cons pe_int pa_nil)) (pe_call (ok_numbers_of T) (hr.mono (by decide)) rfl T.mg_numbers_of T.F_numbers_of.kp (b_numbers_of T) .nil pass0 (pa_cons (pv 2) pa_nil)))))))))), ?_⟩)
  · obtain ⟨Z, s, el, S, n, rfl, _⟩ := h; rfl
  · obtain ⟨Z, s, el, S, n, rfl, sh, k⟩ := h
    obtain ⟨⟨dx, nw, es, h1, h2, h3, h4⟩, g1, g2, hz⟩ := id sh
    have hd : DV a H nw S.now := dv_mono.go cut_same h3
    obtain ⟨p, dxd, e0, r0, rfl, hp, _, _⟩ := id hd
    refine ⟨_, rfl, sz (by show 2 ≤ 100000; decide), fun t nt => ?_⟩
    have s0 : Same H (upd H t (.tup [V.int 0, V.int 1])) := same_new nt
    refine ⟨t, _, rfl, .inr (SqT.of upd_same), rfl, rfl, _, rfl, ?_⟩
    have inv : inV (.int (n : Nat)) [V.int 0, V.int 1] = decide (n ≤ 1) := by
      have : inV (.int (n : Nat)) (nv [0, 1]) = ([0, 1] : List Nat).contains n := nv_in n [0, 1]
      show inV (.int (n : Nat)) (nv [0, 1]) = _
      rw [this, Bool.eq_iff_iff]
      simp
      omega
    rw [if_pos rfl, inv]
    refine iteB (fun c => ⟨sz (by show 1 ≤ 100000; decide), fun q nq => ?_⟩) (fun c => ?_)
    · have c := not_dec c
      have e : Uw61.step S (.wins n) = (S, [-1]) := if_pos (by omega)
      rw [e] at k
      exact k.one sh s0 nq
    have c : n ≤ 1 := by simpa using c
    have e : Uw61.step S (.wins n) = Uw61.small S fun _ => if Uw61.wins (n == 1) (Uw61.allLives S.now + 1) S.now = false then [0] else 1 :: (match Uw61.winner (n == 1) S.now with
      | none => []
      | some x => Uw61.lineRow x) := if_neg (by omega)
    rw [e] at k
    refine ⟨_, rfl, s, a.CS, dx, _, _, rfl, s0 _ _ h1, T.clS, T.nNow, sF_now _ _, p, dxd, _, rfl, s0 _ _ hp, dF_no (by decide +kernel) (by decide +kernel) _ _, .ref p, S.now, rfl, dv_mono.go s0 hd, g1.1, fun H1 s1' => ?_⟩
    have s1 := s0.trans s1'
    refine ⟨_, _, rfl, rfl, _, rfl, ?_⟩
    refine iteB (fun c => ⟨sz (by show 1 ≤ 100000; decide), fun q nq => ?_⟩) (fun c6 => ?_)
    · have c := of_decide_eq_true c
      rw [small_big (by omega)] at k
      exact k.one sh s1 nq
    have c6 := of_decide_eq_false c6
    have l6 : Uw61.allLives S.now ≤ 6 := by omega
    rw [small_in l6] at k
    have k : Ans a Z H s el S (if Uw61.wins (n == 1) (Uw61.allLives S.now + 1) S.now = false then [0] else 1 :: (match Uw61.winner (n == 1) S.now with
      | none => []
      | some x => Uw61.lineRow x)) Q := k
    rw [winsV_eq (by omega)] at k
    refine ⟨_, rfl, s, a.CS, dx, _, _, rfl, s1 _ _ h1, T.clS, T.nNow, sF_now _ _, .ref p, S.now, rfl, dv_mono.go s1 hd, g1.1, fun H2 q2 N2 => ?_⟩
    obtain ⟨s2', n2, ws, hq2, f2⟩ := N2
    have s2 := s1.trans s2'
    refine ⟨sz (by show 0 ≤ 100000; decide), fun E nE => ?_⟩
    have s3 : Same H2 (upd H2 E (.lst [])) := same_new nE
    refine ⟨q2, E, ws, rfl, rfl, SqL.of (s3 _ _ hq2), SqL.of upd_same, _, rfl, ?_⟩
    have S3 := s2.trans s3
    have wt := winsV_turn (n == 1) S.now
    refine iteB (fun c7 => ⟨_, rfl, sz (by show 1 ≤ 100000; decide), fun q nq => ?_⟩) (fun c7 => ?_)
    · have l0 : Uw61.lines S.now = [] := List.length_eq_zero_iff.mp (by rw [← f2.len]; simpa using c7)
      rw [wt, if_pos l0, winner_eq, l0] at k
      have e9 : (if (n == 1) = false then ([0] : List Int) else 1 :: (match List.find? (fun x => !winsV (n == 1) (Uw61.drawn S.now x)) [] with
        | none => []
        | some x => Uw61.lineRow x)) = [(n : Int)] := by
        have : n = 0 ∨ n = 1 := by omega
        rcases this with rfl | rfl <;> rfl
      rw [e9] at k
      exact k.one sh S3 nq
    have l0 : Uw61.lines S.now ≠ [] := fun z => by
      have := f2.len
      rw [z] at this
      rw [List.length_eq_zero_iff.mp this] at c7; cases c7
    rw [wt, if_neg l0] at k
    refine ⟨_, rfl, s, a.CS, dx, _, _, rfl, S3 _ _ h1, T.clS, T.nNow, sF_now _ _, _, rfl, .ref p, S.now, n, rfl, dv_mono.go S3 hd, g1.1, l6, fun H4 u s4 hu => ?_⟩
    have S4 := S3.trans s4
    have we := winner_eq (n == 1) S.now
    refine ⟨_, rfl, rfl, _, rfl, ?_⟩
    cases hw : Uw61.winner (n == 1) S.now with
    | none =>
      rw [hw] at hu we k
      have hu : u = .non := hu
      subst hu
      have al : (Uw61.lines S.now).all (fun x => winsV (n == 1) (Uw61.drawn S.now x)) = true := List.all_eq_true.mpr fun x hx => by
        have := List.find?_eq_none.mp we.symm x hx
        simpa using this
      rw [al, if_pos (by decide)] at k
      refine iteB (fun c8 => ⟨sz (by show 1 ≤ 100000; decide), fun q nq => k.one sh S4 nq⟩) (fun c8 => ?_)
      simp at c8
    | some x =>
      rw [hw] at hu we k
      have hu : LnV H4 u x := hu
      have hx := List.mem_of_find?_eq_some we.symm
      have xl := List.find?_some we.symm
      have al : (Uw61.lines S.now).all (fun x => winsV (n == 1) (Uw61.drawn S.now x)) = false := by
        rw [Bool.eq_false_iff]
        intro z
        have := List.all_eq_true.mp z x hx
        rw [this] at xl; cases xl
      rw [al, if_neg (by decide)] at k
      have nn : u ≠ .non := by
        intro z
        subst z
        cases x with
        | join => obtain ⟨t, e, _⟩ := hu; cases e
        | part => obtain ⟨t, q, e, _⟩ := hu; cases e
      refine iteB (fun c8 => absurd (of_decide_eq_true c8) nn) (fun c8 => ?_)
      refine ⟨sz (by show 1 ≤ 100000; decide), fun E1 nE1 => ?_⟩
      have s5 : Same H4 (upd H4 E1 (.lst [V.int 1])) := same_new nE1
      have kl : ∀ r b i j ks, x = .part r b i j ks → ks.length ≤ 1000 := by
        intro r b i j ks e
        rw [e] at hx
        obtain ⟨hr, _, _, _, hs, hlt⟩ := part_ok hx
        have := nodup_len ks (List.range (Uw61.regionAt S.now r).length) (hs.imp fun h => Nat.ne_of_lt h) fun y hy => List.mem_range.mpr (hlt y hy)
        rw [List.length_range] at this
        have b6 : (Uw61.regionAt S.now r).length ≤ 6 := g1.1.b6 _ (by
          have e2 : Uw61.regionAt S.now r = S.now.regions[r] := getD_lt hr
          rw [e2]; exact List.getElem_mem hr)
        omega
      have rl : (Uw61.lineRow x).length ≤ 2000 := by
        cases x with
        | join => show 6 ≤ 2000; decide
        | part r b i j ks =>
          have := kl r b i j ks rfl
          show (Uw61.ints [2, r, b, i, j] ++ Uw61.counted ks).length ≤ 2000
          rw [List.length_append, counted_len]
          show 5 + _ ≤ _
          omega
      refine ⟨_, rfl, u, x, rfl, ln_mono.go s5 hu, kl, fun H6 q6 s6 n6 h6 => ?_⟩
      refine ⟨E1, q6, _, _, rfl, rfl, s6 _ _ upd_same, h6, ?_, fun q nq => ?_⟩
      · rw [List.length_map]; exact sz (by show 1 + _ ≤ 100000; omega)
      have S6 := (S4.trans s5).trans s6
      exact k.same sh (S6.trans (same_new nq)) (S6.free nq) upd_same
end Sg

/-! ### text W20 -/
namespace Sg
open PySem PySem.Spec PyProof.Rows L2
open Uw61 (Drawing Line)

theorem iteY {c : Bool} {A B : Prop} (e : c = true) (h : A) : if c = true then A else B := by rw [if_pos e]; exact h
theorem iteN {c : Bool} {A B : Prop} (e : c = false) (h : B) : if c = true then A else B := by rw [if_neg (by rw [e]; decide)]; exact h
def sp_S_deed (a : Ads) : Sp := fun vs H Q _ => ∃ (Z : Addr → Prop) (s el : Addr) (S : Uw61.St) (p : Nat) (nb cb : Addr) (ns ks : List Nat) (c : Uw61.Call), vs = [.ref s, .int (p : Nat), .ref nb, .ref cb] ∧ Sh a Z H s el S ∧ S.past.length ≤ 1000 ∧ H nb = some (.lst (nv ns)) ∧ H cb = some (.lst (nv ks)) ∧ IsCall p ns ks c ∧ p ≤ 3 ∧
  Ans a Z H s el (Uw61.step S c).1 (Uw61.step S c).2 Q
theorem ok_S_deed {P : Program} {w : World} {K : PySem.W.Frag} {mg : Str → Option Value} {base : Heap} {a : Ads} (T : Txt K mg a) : FnOk P w K mg base CX0 5 a.f_S_deed a.d_S_deed ["self", "call", "numbers", "chosen"] (sp_S_deed a) := by
  refine T.F_S_deed.ok sc_S_deed (fun vs H Q E h => ?_) (fun cdv A outer s H vs Q E hr h => ⟨_, (pss_cons (ps_if (pt_cmpR op_eq (pv 1) (pe_glob (v := .int 0) rfl T.mg_BEGINS ⟨_, rfl⟩) (nomark _))
  (pss_one (ps_ret (pe_meth (pv 0) T.clS T.m_S_begins (ok_S_begins T) (hr.mono (by decide)) (b_S_begins T) .nil pass0 (pa_cons (pe_ix ix_list (pv 2) pe_int (fun _ _ => rfl)) pa_nil)))) pss_nil)
  (pss_cons (ps_if (pt_cmpR op_eq (pv 1) (pe_glob (v := .int 1) rfl T.mg_JOINS ⟨_, rfl⟩) (nomark _))
  (pss_one (ps_ret (pe_meth (pv 0) T.clS T.m_S_joins (ok_S_joins T) (hr.mono (by decide)) (b_S_joins T) .nil pass0 (pa_cons (pe_ix ix_list (pv 2) pe_int (fun _ _ => rfl)) (pa_cons (pe_ix ix_list (pv 2) pe_int (fun _ _ => rfl)) (pa_cons (pe_ix ix_list (pv 2) pe_int (fun _ _ => rfl)) (pa_cons (pe_ix ix_list (pv 2) pe_int (fun _ _ => rfl)) (pa_cons (pe_ix ix_list (pv 2) pe_int (fun _ _ => rfl)) pa_nil)))))))) pss_nil)
  (pss_cons (ps_if (pt_cmpR op_eq (pv 1) (pe_glob (v := .int 2) rfl T.mg_PARTS ⟨_, rfl⟩) (nomark _))
  (pss_one (ps_ret (pe_meth (pv 0) T.clS T.m_S_parts (ok_S_parts T) (hr.mono (by decide)) (b_S_parts T) .nil pass0 (pa_cons (pe_ix ix_list (pv 2) pe_int (fun _ _ => rfl)) (pa_cons (pe_ix ix_list (pv 2) pe_int (fun _ _ => rfl)) (pa_cons (pe_ix ix_list (pv 2) pe_int (fun _ _ => rfl)) (pa_cons (pe_ix ix_list (pv 2) pe_int (fun _ _ => rfl)) (pa_cons (pv 3) pa_nil)))))))) pss_nil)
  (pss_one (ps_ret (pe_meth0 (pv 0) T.clS T.m_S_undo (ok_S_undo T) (hr.mono (by decide)) (b_S_undo T) .nil pass0)))))), ?_⟩)
  · obtain ⟨Z, s, el, S, p, nb, cb, ns, ks, c, rfl, _⟩ := h; rfl
  · obtain ⟨Z, s, el, S, p, nb, cb, ns, ks, c, rfl, sh, p1000, hn, hk, ic, p3, k⟩ := h
    obtain ⟨⟨dx, nw, es, h1, h2, h3, h4⟩, g1, g2, hz⟩ := id sh
    have no : ∀ m : Str, (m == ("now" : Str)) = false → (m == ("elder" : Str)) = false → (sF nw (.ref el)).lookup m = none := fun m a b => sF_no a b _ _
    cases ic with
    | begins n ks =>
      refine ⟨_, rfl, rfl, _, rfl, iteY (by decide) ?_⟩
      exact ⟨_, rfl, s, dx, _, rfl, h1, no _ (by decide +kernel) (by decide +kernel), _, rfl, nb, _, _, _, rfl, rfl, SqL.of hn, rfl, Z, s, el, S, n, rfl, sh, k⟩
    | joins r x i y j ks =>
      refine ⟨_, rfl, rfl, _, rfl, iteN (by decide) ?_⟩
      refine ⟨_, rfl, rfl, _, rfl, iteY (by decide) ?_⟩
      exact ⟨_, rfl, s, dx, _, rfl, h1, no _ (by decide +kernel) (by decide +kernel), _, rfl, nb, _, _, _, rfl, rfl, SqL.of hn, rfl, _, rfl, nb, _, _, _, rfl, rfl, SqL.of hn, rfl, _, rfl, nb, _, _, _, rfl, rfl, SqL.of hn, rfl, _, rfl, nb, _, _, _, rfl, rfl, SqL.of hn, rfl, _, rfl, nb, _, _, _, rfl, rfl, SqL.of hn, rfl, Z, s, el, S, r, x, i, y, j, rfl, sh, p1000, k⟩
    | parts r x i j ks =>
      refine ⟨_, rfl, rfl, _, rfl, iteN (by decide) ?_⟩
      refine ⟨_, rfl, rfl, _, rfl, iteN (by decide) ?_⟩
      refine ⟨_, rfl, rfl, _, rfl, iteY (by decide) ?_⟩
      exact ⟨_, rfl, s, dx, _, rfl, h1, no _ (by decide +kernel) (by decide +kernel), _, rfl, nb, _, _, _, rfl, rfl, SqL.of hn, rfl, _, rfl, nb, _, _, _, rfl, rfl, SqL.of hn, rfl, _, rfl, nb, _, _, _, rfl, rfl, SqL.of hn, rfl, _, rfl, nb, _, _, _, rfl, rfl, SqL.of hn, rfl, _, rfl, Z, s, el, S, r, x, i, j, _, cb, rfl, sh, p1000, hk, k⟩
    | undo ks =>
      refine ⟨_, rfl, rfl, _, rfl, iteN (by decide) ?_⟩
      refine ⟨_, rfl, rfl, _, rfl, iteN (by decide) ?_⟩
      refine ⟨_, rfl, rfl, _, rfl, iteN (by decide) ?_⟩
      exact ⟨_, rfl, s, dx, _, rfl, h1, no _ (by decide +kernel) (by decide +kernel), Z, s, el, S, rfl, sh, k⟩
    | shows => omega
    | spots => omega
    | counts => omega
    | ways => omega
    | wins => omega
    | worth => omega
    | span => omega
def sp_S_question (a : Ads) : Sp := fun vs H Q _ => ∃ (Z : Addr → Prop) (s el : Addr) (S : Uw61.St) (p : Nat) (nb : Addr) (ns ks : List Nat) (c : Uw61.Call), vs = [.ref s, .int (p : Nat), .ref nb] ∧ Sh a Z H s el S ∧ H nb = some (.lst (nv ns)) ∧ IsCall p ns ks c ∧ 3 < p ∧
  Ans a Z H s el (Uw61.step S c).1 (Uw61.step S c).2 Q
theorem step_asks {S : Uw61.St} {p : Nat} {ns ks : List Nat} {c : Uw61.Call} (h : IsCall p ns ks c) (p3 : 3 < p) : (Uw61.step S c).1 = S := by
  cases h with
  | begins => omega
  | joins => omega
  | parts => omega
  | undo => omega
  | shows => rfl
  | spots => rfl
  | counts => rfl
  | ways => rfl
  | wins k =>
    show (if _ then _ else Uw61.small S _ : Uw61.St × List Int).1 = S
    split <;> rfl
  | worth => rfl
  | span => rfl
theorem ok_S_question {P : Program} {w : World} {K : PySem.W.Frag} {mg : Str → Option Value} {base : Heap} {a : Ads} (T : Txt K mg a) : FnOk P w K mg base CX0 16 a.f_S_question a.d_S_question ["self", "call", "numbers"] (sp_S_question a) := by
  refine T.F_S_question.ok sc_S_question (fun vs H Q E h => ?_) (fun cdv A outer s H vs Q E hr h => ⟨_, (pss_cons (ps_if (pt_cmpR op_eq (pv 1) (pe_glob (v := .int 4) rfl T.mg_SHOWS ⟨_, rfl⟩) (nomark _))
  (pss_one (ps_ret (pe_meth (pv 0) T.clS T.m_S_shows (ok_S_shows T) (hr.mono (by decide)) (b_S_shows T) .nil pass0 (pa_cons (pe_ix ix_list (pv 2) pe_int (fun _ _ => rfl)) pa_nil)))) pss_nil)
  (pss_cons (ps_if (pt_cmpR op_eq (pv 1) (pe_glob (v := .int 5) rfl T.mg_SPOTS ⟨_, rfl⟩) (nomark _))
  (pss_one (ps_ret (pe_meth0 (pv 0) T.clS T.m_S_spots (ok_S_spots T) (hr.mono (by decide)) (b_S_spots T) .nil pass0))) pss_nil)
  (pss_cons (ps_if (pt_cmpR op_eq (pv 1) (pe_glob (v := .int 6) rfl T.mg_COUNTS ⟨_, rfl⟩) (nomark _))
  (pss_one (ps_ret (pe_meth0 (pv 0) T.clS T.m_S_counts (ok_S_counts T) (hr.mono (by decide)) (b_S_counts T) .nil pass0))) pss_nil)
  (pss_cons (ps_if (pt_cmpR op_eq (pv 1) (pe_glob (v := .int 7) rfl T.mg_WAYS ⟨_, rfl⟩) (nomark _))
  (pss_one (ps_ret (pe_meth0 (pv 0) T.clS T.m_S_ways (ok_S_ways T) (hr.mono (by decide)) (b_S_ways T) .nil pass0))) pss_nil)
  (pss_cons (ps_if (pt_cmpR op_eq (pv 1) (pe_glob (v := .int 8) rfl T.mg_WINS ⟨_, rfl⟩) (nomark _))
  (pss_one (ps_ret (pe_meth (pv 0) T.clS T.m_S_wins (ok_S_wins T) (hr.mono (by decide)) (b_S_wins T) .nil pass0 (pa_cons (pe_ix ix_list (pv 2) pe_int (fun _ _ => rfl)) pa_nil)))) pss_nil)
  (pss_one (ps_ret (pe_ifExp (pt_cmpR op_eq (pv 1) (pe_glob (v := .int 9) rfl T.mg_WORTH ⟨_, rfl⟩) (nomark _)) (pe_meth0 (pv 0) T.clS T.m_S_worth (ok_S_worth T) (hr.mono (by decide)) (b_S_worth T) .nil pass0) (pe_meth0 (pv 0) T.clS T.m_S_span (ok_S_span T) (hr.mono (by decide)) (b_S_span T) .nil pass0))))))))), ?_⟩)
  · obtain ⟨Z, s, el, S, p, nb, ns, ks, c, rfl, _⟩ := h; rfl
  · obtain ⟨Z, s, el, S, p, nb, ns, ks, c, rfl, sh, hn, ic, p3, k⟩ := h
    obtain ⟨⟨dx, nw, es, h1, h2, h3, h4⟩, g1, g2, hz⟩ := id sh
    have no : ∀ m : Str, (m == ("now" : Str)) = false → (m == ("elder" : Str)) = false → (sF nw (.ref el)).lookup m = none := fun m a b => sF_no a b _ _
    rw [step_asks ic p3] at k
    cases ic with
    | begins => omega
    | joins => omega
    | parts => omega
    | undo => omega
    | shows r ks =>
      refine ⟨_, rfl, rfl, _, rfl, iteY (by decide) ?_⟩
      exact ⟨_, rfl, s, dx, _, rfl, h1, no _ (by decide +kernel) (by decide +kernel), _, rfl, nb, _, _, _, rfl, rfl, SqL.of hn, rfl, Z, s, el, S, r, rfl, sh, k⟩
    | spots ks =>
      refine ⟨_, rfl, rfl, _, rfl, iteN (by decide) ?_⟩
      refine ⟨_, rfl, rfl, _, rfl, iteY (by decide) ?_⟩
      exact ⟨_, rfl, s, dx, _, rfl, h1, no _ (by decide +kernel) (by decide +kernel), Z, s, el, S, rfl, sh, k⟩
    | counts ks =>
      refine ⟨_, rfl, rfl, _, rfl, iteN (by decide) ?_⟩
      refine ⟨_, rfl, rfl, _, rfl, iteN (by decide) ?_⟩
      refine ⟨_, rfl, rfl, _, rfl, iteY (by decide) ?_⟩
      exact ⟨_, rfl, s, dx, _, rfl, h1, no _ (by decide +kernel) (by decide +kernel), Z, s, el, S, rfl, sh, k⟩
    | ways ks =>
      refine ⟨_, rfl, rfl, _, rfl, iteN (by decide) ?_⟩
      refine ⟨_, rfl, rfl, _, rfl, iteN (by decide) ?_⟩
      refine ⟨_, rfl, rfl, _, rfl, iteN (by decide) ?_⟩
      refine ⟨_, rfl, rfl, _, rfl, iteY (by decide) ?_⟩
      exact ⟨_, rfl, s, dx, _, rfl, h1, no _ (by decide +kernel) (by decide +kernel), Z, s, el, S, rfl, sh, k⟩
    | wins n ks =>
      refine ⟨_, rfl, rfl, _, rfl, iteN (by decide) ?_⟩
      refine ⟨_, rfl, rfl, _, rfl, iteN (by decide) ?_⟩
      refine ⟨_, rfl, rfl, _, rfl, iteN (by decide) ?_⟩
      refine ⟨_, rfl, rfl, _, rfl, iteN (by decide) ?_⟩
      refine ⟨_, rfl, rfl, _, rfl, iteY (by decide) ?_⟩
      exact ⟨_, rfl, s, dx, _, rfl, h1, no _ (by decide +kernel) (by decide +kernel), _, rfl, nb, _, _, _, rfl, rfl, SqL.of hn, rfl, Z, s, el, S, n, rfl, sh, k⟩
    | worth ks =>
      refine ⟨_, rfl, rfl, _, rfl, iteN (by decide) ?_⟩
      refine ⟨_, rfl, rfl, _, rfl, iteN (by decide) ?_⟩
      refine ⟨_, rfl, rfl, _, rfl, iteN (by decide) ?_⟩
      refine ⟨_, rfl, rfl, _, rfl, iteN (by decide) ?_⟩
      refine ⟨_, rfl, rfl, _, rfl, iteN (by decide) ?_⟩
      refine ⟨_, rfl, rfl, _, rfl, iteY (by decide) ?_⟩
      exact ⟨_, rfl, s, dx, _, rfl, h1, no _ (by decide +kernel) (by decide +kernel), Z, s, el, S, rfl, sh, k⟩
    | span ks =>
      refine ⟨_, rfl, rfl, _, rfl, iteN (by decide) ?_⟩
      refine ⟨_, rfl, rfl, _, rfl, iteN (by decide) ?_⟩
      refine ⟨_, rfl, rfl, _, rfl, iteN (by decide) ?_⟩
      refine ⟨_, rfl, rfl, _, rfl, iteN (by decide) ?_⟩
      refine ⟨_, rfl, rfl, _, rfl, iteN (by decide) ?_⟩
      refine ⟨_, rfl, rfl, _, rfl, iteN (by decide) ?_⟩
      exact ⟨_, rfl, s, dx, _, rfl, h1, no _ (by decide +kernel) (by decide +kernel), Z, s, el, S, rfl, sh, k⟩
/-- what was handed in, wherever it stands -/
def At (oc : Option HO) (H : Hp) (c : Addr) : Prop := ∀ o, oc = some o → H c = some o
theorem At.same {oc : Option HO} {H H' : Hp} {c : Addr} (h : At oc H c) (s : Same H H') : At oc H' c := fun o e => s _ _ (h o e)
theorem At.upd {oc : Option HO} {H : Hp} {c f : Addr} {u : HO} (h : At oc H c) (n : ∀ o, oc = some o → c ≠ f) : At oc (upd H f u) c := fun o e => by rw [upd_ne (n o e)]; exact h o e
structure Cal (K : PySem.W.Frag) (c : Addr) (ln : List Nat) (oc : Option HO) : Prop where
  sq : ∀ H, At oc H c → SqL K H c (nv ln)
  ls : ∀ o, oc = some o → (∃ xs, o = .lst xs) ∨ ∃ z xs, o = .frz z (.lst xs)
theorem cal_of {K : PySem.W.Frag} {H : Hp} {c : Addr} {ln : List Nat} (h : SqL K H c (nv ln)) : ∃ oc, At oc H c ∧ Cal K c ln oc := by
  rcases h with (h | ⟨z, h⟩) | h
  · exact ⟨some (.lst (nv ln)), fun o e => by cases e; exact h, fun H' a => .inl (.inl (a _ rfl)), fun o e => by cases e; exact .inl ⟨_, rfl⟩⟩
  · exact ⟨some (.frz z (.lst (nv ln))), fun o e => by cases e; exact h, fun H' a => .inl (.inr ⟨z, a _ rfl⟩), fun o e => by cases e; exact .inr ⟨z, _, rfl⟩⟩
  · exact ⟨none, (fun o e => by cases e), fun H2 _ => .inr h, (fun o e => by cases e)⟩
def sp_call_at (K : PySem.W.Frag) : Sp := fun vs H Q _ => ∃ (c : Addr) (ln : List Nat) (oc : Option HO) (m p : Nat) (ns ks : List Nat) (after : Nat), vs = [.ref c, .int (m : Nat)] ∧ At oc H c ∧ Cal K c ln oc ∧ OneCall ln m p ns ks after ∧
  ∀ H' t q1 q2, Same H H' → H' t = some (.tup [.ref q1, .ref q2, .int (after : Nat)]) → H' q1 = some (.lst (nv ns)) → H' q2 = some (.lst (nv ks)) → Q (.ref t) H'
theorem nums_at {p : Nat} (h : p ≤ 10) : atI (([1, 5, 4, 0, 1, 0, 0, 0, 1, 0, 0] : List Int).map V.int) (p : Int) = some (.int (nums p : Nat)) := by
  have : ([1, 5, 4, 0, 1, 0, 0, 0, 1, 0, 0] : List Int).map V.int = nv [1, 5, 4, 0, 1, 0, 0, 0, 1, 0, 0] := rfl
  rw [this]
  exact nv_at (by show p < 11; omega)
theorem at_get {ln : List Nat} {m p : Nat} (h : ln[m]? = some p) : atI (nv ln) (m : Int) = some (.int (p : Nat)) := atI_nat (nv_get h)
theorem ok_call_at {P : Program} {w : World} {K : PySem.W.Frag} {mg : Str → Option Value} {base : Heap} {a : Ads} (T : Txt K mg a) : FnOk P w K mg base CX0 1 a.f_call_at a.d_call_at ["calls", "at"] (sp_call_at K) := by
  refine T.F_call_at.ok sc_call_at (fun vs H Q E h => ?_) (fun cdv A outer s H vs Q E hr h => ⟨_, (pss_cons (ps_set (i := 2) sc_call_at.nd rfl (Or.inl rfl) (pe_op op_add (pe_op op_add (pv 1) pe_int) (pe_ix ix_tup (pe_glob (v := .ref a.aN) rfl T.mg_NUMBERS rfl) (pe_ix ix_list (pv 0) (pv 1) (fun _ _ => rfl)) (fun _ _ => rfl))))
  (pss_cons (ps_set (i := 3) sc_call_at.nd rfl (Or.inl rfl) (pe_slice sl_list (pv 0) (po_some (pe_op op_add (pv 1) pe_int)) (po_some (pv 2))))
  (pss_cons (ps_if (pt_cmpR op_ne (pe_ix ix_list (pv 0) (pv 1) (fun _ _ => rfl)) (pe_glob (v := .int 2) rfl T.mg_PARTS ⟨_, rfl⟩) (nomark _))
  (pss_one (ps_ret (pe_tup (pa_cons (pv 3) (pa_cons (pe_lst pa_nil) (pa_cons (pv 2) pa_nil)))))) pss_nil)
  (pss_cons (ps_set (i := 4) sc_call_at.nd rfl (Or.inl rfl) (pe_op op_add (pe_op op_add (pv 2) pe_int) (pe_ix ix_list (pv 0) (pv 2) (fun _ _ => rfl))))
  (pss_one (ps_ret (pe_tup (pa_cons (pv 3) (pa_cons (pe_slice sl_list (pv 0) (po_some (pe_op op_add (pv 2) pe_int)) (po_some (pv 4))) (pa_cons (pv 4) pa_nil)))))))))), ?_⟩)
  · obtain ⟨c, ln, oc, m, p, ns, ks, after, rfl, _⟩ := h; rfl
  · obtain ⟨c, ln, oc, m, p, ns, ks, after, rfl, hc, CA, O, k⟩ := h
    have ga := at_get O.hp
    refine ⟨_, rfl, _, _, rfl, rfl, _, rfl, _, rfl, c, _, _, _, rfl, rfl, CA.sq _ hc, ga, a.aN, _, _, _, rfl, rfl, T.nums H, nums_at O.p10, _, _, rfl, rfl, ?_⟩
    have e1 : ((m : Int) + 1 + ((nums p : Nat) : Int)) = ((m + 1 + nums p : Nat) : Int) := by omega
    dsimp only
    rw [e1]
    refine ⟨_, rfl, _, rfl, _, _, rfl, rfl, _, rfl, _, rfl, _, rfl, c, _, rfl, CA.sq _ hc, fun q1 n1 => ?_⟩
    have cb := cut_both ln (m + 1) (m + 1 + nums p)
    have e2 : m + 1 + nums p - (m + 1) = nums p := by omega
    rw [e2, ← O.hn] at cb
    have cb : cutV (nv ln) (some ((m : Int) + 1)) (some ((m + 1 + nums p : Nat) : Int)) = nv ns := cb
    rw [cb]
    have s1 : Same H (upd H q1 (.lst (nv ns))) := same_new n1
    have hq1 : upd H q1 (.lst (nv ns)) q1 = some (.lst (nv ns)) := upd_same
    generalize upd H q1 (.lst (nv ns)) = H1 at s1 hq1 ⊢
    refine ⟨_, rfl, _, rfl, c, _, _, _, rfl, rfl, CA.sq _ (hc.same s1), ga, rfl, _, rfl, ?_⟩
    refine iteB (fun c2 => ?_) (fun c2 => ?_)
    · have p2 : p ≠ 2 := fun z => by
        rw [z] at c2
        exact absurd c2 (by decide)
      obtain ⟨rfl, rfl⟩ := O.no p2
      refine ⟨_, rfl, sz (by show 0 ≤ 100000; decide), fun q2 n2 => ?_⟩
      have s2 : Same H1 (upd H1 q2 (.lst [])) := same_new n2
      refine ⟨_, rfl, sz (by show 3 ≤ 100000; decide), fun t nt => ?_⟩
      exact k _ t q1 q2 ((s1.trans s2).trans (same_new nt)) upd_same (same_new nt _ _ (s2 _ _ hq1)) (same_new nt _ _ upd_same)
    · have p2 : p = 2 := by
        have : decide (V.int ((p : Nat) : Int) = V.int 2) = true := by simpa using c2
        have := of_decide_eq_true this
        injection this with this
        omega
      subst p2
      obtain ⟨kn, g5, l6, rfl, rfl⟩ := O.yes rfl
      have e3 : m + 1 + nums 2 = m + 5 := rfl
      rw [e3]
      refine ⟨_, rfl, _, _, rfl, rfl, _, rfl, _, rfl, c, _, _, _, rfl, rfl, CA.sq _ (hc.same s1), at_get g5, _, _, rfl, rfl, ?_⟩
      have e4 : (((m + 5 : Nat) : Int) + 1 + ((kn : Nat) : Int)) = ((m + 6 + kn : Nat) : Int) := by omega
      dsimp only
      rw [e4]
      refine ⟨_, rfl, _, rfl, _, rfl, _, _, rfl, rfl, _, rfl, _, rfl, _, rfl, c, _, rfl, CA.sq _ (hc.same s1), fun q2 n2 => ?_⟩
      have cb := cut_both ln (m + 6) (m + 6 + kn)
      have e2 : m + 6 + kn - (m + 6) = kn := by omega
      rw [e2] at cb
      have e6 : (((m + 5 : Nat) : Int) + 1) = ((m + 6 : Nat) : Int) := by omega
      rw [e6, cb]
      have s2 : Same H1 (upd H1 q2 (.lst (nv ((ln.drop (m + 6)).take kn)))) := same_new n2
      refine ⟨_, rfl, sz (by show 3 ≤ 100000; decide), fun t nt => ?_⟩
      exact k _ t q1 q2 ((s1.trans s2).trans (same_new nt)) upd_same (same_new nt _ _ (s2 _ _ hq1)) (same_new nt _ _ upd_same)
end Sg

/-! ### text W21 -/
namespace Sg
open PySem PySem.Spec PyProof.Rows L2
open Uw61 (Drawing Line)

/-- one more that is written to -/
theorem Sh.more {a : Ads} {H : Hp} {s el f : Addr} {S : Uw61.St} {o : HO} (h : Sh a (fun _ => False) H s el S) (n : H f = none) : Sh a (fun b => b = f) (upd H f o) s el S := by
  obtain ⟨⟨dx, nw, es, h1, h2, h3, h4⟩, g1, g2, hz⟩ := h
  have sm : Same H (upd H f o) := same_new n
  have ce : Same (cut (zs (fun _ => False) s el) H) (cut (zs (fun b => b = f) s el) (upd H f o)) := fun b u q => by
    by_cases c : zs (fun _ => False) s el b
    · have : cut (zs (fun _ => False) s el) H b = none := if_pos c
      rw [this] at q; cases q
    · rw [cut_not c] at q
      rw [cut_not (Z := zs (fun b => b = f) s el) (fun z => z.elim (fun z => c (.inl z)) fun z => z.elim (fun z => c (.inr (.inl z))) fun z => by
        have : f = b := z.symm
        rw [← this, n] at q; cases q)]
      exact sm _ _ q
  refine ⟨⟨dx, nw, es, sm _ _ h1, sm _ _ h2, dv_mono.go ce h3, f2_mono dv_mono ce h4⟩, g1, g2, fun b e q => ?_⟩
  have e : b = f := e
  rw [e, upd_same] at q; cases q
/-- what is written to is none of the sheet's -/
theorem Sh.found {a : Ads} {Z : Addr → Prop} {H : Hp} {s el f : Addr} {S : Uw61.St} {o : HO} (h : Sh a Z H s el S) (fs : f ≠ s) (ef : el ≠ f) (zf : Z f) : Sh a Z (upd H f o) s el S := by
  obtain ⟨⟨dx, nw, es, h1, h2, h3, h4⟩, g1, g2, hz⟩ := h
  have e : cut (zs Z s el) (upd H f o) = cut (zs Z s el) H := cut_upd (.inr (.inr zf))
  refine ⟨⟨dx, nw, es, by rw [upd_ne (fun z => fs z.symm)]; exact h1, by rw [upd_ne ef]; exact h2, by rw [e]; exact h3, by rw [e]; exact h4⟩, g1, g2, fun b hb q => ?_⟩
  by_cases c : b = f
  · rw [c, upd_same] at q; cases q
  · rw [upd_ne c] at q; exact hz b hb q
theorem ten {n : Nat} (h : n ≤ 10000000) : n < sizeLine := Nat.lt_of_le_of_lt h (by decide)
/-- how far it is -/
structure Run (a : Ads) (ln : List Nat) (oc : Option HO) (c s f : Addr) (n : Nat) (S : Uw61.St) (el : Addr) (raw : List (List (List Int))) (fu : Nat) (fs : List Int) (H : Hp) : Prop where
  hc : At oc H c
  sh : Sh a (fun b => b = f) H s el S
  hf : H f = some (.lst (fs.map V.int))
  elc : ∀ o, oc = some o → c ≠ el
  elf : el ≠ f
  cf : ∀ o, oc = some o → c ≠ f
  rw0 : PyFlat.calls PyUw61.shape fu (Uw61.ints (ln.drop n)) = some raw
  tot : fs ++ PyFlat.told (PyFlat.played (fun s c => Uw61Neutral.step s (c.headD [])) S (raw.map PyUw61.whole)) = PyUw61.answers (Uw61.ints ln)
  few : S.past.length + raw.length ≤ 40
  nl : n ≤ ln.length
def sp_answers (K : PySem.W.Frag) : Sp := fun vs H Q _ => ∃ (c : Addr) (ln : List Nat), vs = [.ref c] ∧ SqL K H c (nv ln) ∧ (∀ x ∈ ln, x < 4294967296) ∧ ln.length ≤ 100000 ∧ PyUw61.answers_asked (Uw61.ints ln) = true ∧
  ∀ H' q, H' q = some (.lst ((PyUw61.answers (Uw61.ints ln)).map V.int)) → Q (.ref q) H'
theorem asked_raw {l : List Int} (h : PyUw61.answers_asked l = true) : ∃ raw, PyFlat.calls PyUw61.shape l.length l = some raw ∧ raw.length ≤ 40 ∧ (PyUw61.answers l).length ≤ 10000000 ∧ PyUw61.answers l = PyFlat.told (PyFlat.played (fun s c => Uw61Neutral.step s (c.headD [])) Uw61Neutral.start (raw.map PyUw61.whole)) := by
  unfold PyUw61.answers_asked at h
  cases e : PyFlat.calls PyUw61.shape l.length l with
  | none => rw [e] at h; cases h
  | some raw =>
    rw [e] at h
    simp only [Bool.and_eq_true] at h
    obtain ⟨⟨⟨⟨_, h2⟩, _⟩, _⟩, h5⟩ := h
    refine ⟨raw, rfl, of_decide_eq_true h2, of_decide_eq_true h5, ?_⟩
    unfold PyUw61.answers PyUw61.calls
    rw [e]
theorem ok_answers {P : Program} {w : World} {K : PySem.W.Frag} {mg : Str → Option Value} {base : Heap} {a : Ads} (T : Txt K mg a) : FnOk P w K mg base CX0 17 a.f_answers a.d_answers ["calls"] (sp_answers K) := by
  refine T.F_answers.ok sc_answers (fun vs H Q E h => ?_) (fun cdv A outer s H vs Q E hr h => ⟨_, (pss_cons (ps_set (i := 1) sc_answers.nd rfl (Or.inl rfl) (pe_make0 T.mkS (ok_S_init T) (hr.mono (by decide)) rfl T.mg_Sheet (b_S_init T) .nil pass0))
  (pss_cons (ps_set (i := 2) sc_answers.nd rfl (Or.inl rfl) (pe_lst pa_nil))
  (pss_cons (ps_set (i := 3) sc_answers.nd rfl (Or.inl rfl) pe_int)
  (pss_cons (ps_while PassesOwn.never (pt_cmpR op_lt (pv 3) (pe_callB call_len_seq (by rfl) T.n_len PySem.boot_len (pa_cons (pv 0) pa_nil)) (nomark _))
  (pss_cons (ps_asg (pe_call (ok_call_at T) (hr.mono (by decide)) rfl T.mg_call_at T.F_call_at.kp (b_call_at T) .nil pass0 (pa_cons (pv 0) (pa_cons (pv 3) pa_nil))) (pg_tup rfl (pgs_cons (pg_name (i := 4) sc_answers.nd rfl (Or.inl rfl)) (pgs_cons (pg_name (i := 5) sc_answers.nd rfl (Or.inl rfl)) (pgs_cons (pg_name (i := 6) sc_answers.nd rfl (Or.inl rfl)) pgs_nil)))))
  (pss_cons (ps_if (pt_cmpR op_le (pe_ix ix_list (pv 0) (pv 3) (fun _ _ => rfl)) (pe_glob (v := .int 3) rfl T.mg_UNDO ⟨_, rfl⟩) (nomark _))
  (pss_one (ps_set (i := 7) sc_answers.nd rfl (Or.inl rfl) (pe_meth (pv 1) T.clS T.m_S_deed (ok_S_deed T) (hr.mono (by decide)) (b_S_deed T) .nil pass0 (pa_cons (pe_ix ix_list (pv 0) (pv 3) (fun _ _ => rfl)) (pa_cons (pv 4) (pa_cons (pv 5) pa_nil)))))) (pss_one (ps_set (i := 7) sc_answers.nd rfl (Or.inl rfl) (pe_meth (pv 1) T.clS T.m_S_question (ok_S_question T) (hr.mono (by decide)) (b_S_question T) .nil pass0 (pa_cons (pe_ix ix_list (pv 0) (pv 3) (fun _ _ => rfl)) (pa_cons (pv 4) pa_nil))))))
  (pss_cons (ps_expr (pe_bm PySem.F.plainAttrs_list PySem.F.slot_list_append PySem.F.type_list_append mt_append (pv 2) (pa_cons (pe_callB call_len_seq (by rfl) T.n_len PySem.boot_len (pa_cons (pv 7) pa_nil)) pa_nil)))
  (pss_cons (ps_expr (pe_bm PySem.F.plainAttrs_list PySem.F.slot_list_extend PySem.F.type_list_extend mt_extend (pv 2) (pa_cons (pv 7) pa_nil)))
  (pss_one (ps_set (i := 3) sc_answers.nd rfl (Or.inl rfl) (pv 6))))))))
  (pss_one (ps_ret (pv 2))))))), ?_⟩)
  · obtain ⟨c, ln, rfl, _⟩ := h; rfl
  · obtain ⟨c, ln, rfl, hc, b32, lsz, ask, k⟩ := h
    obtain ⟨raw0, hr0, r40, short, an⟩ := asked_raw ask
    obtain ⟨oc, hc, CA⟩ := cal_of hc
    intro s dx ns nd nsd
    refine ⟨s, dx, rfl, upd_same, fun H1 el nel kp sh => ⟨rfl, ?_⟩⟩
    have s1 : Same H H1 := Same.made ns nd kp
    have elc0 : ∀ o, oc = some o → c ≠ el := fun o eo z => by
      have h := hc o eo
      rw [← z, upd_ne (ne_of_none h ns), upd_ne (ne_of_none h nd), h] at nel
      cases nel
    refine ⟨sz (by show 0 ≤ 100000; decide), fun f nf => ?_⟩
    have s2 : Same H1 (upd H1 f (.lst [])) := same_new nf
    have hc2 := (hc.same s1).same s2
    have elf0 : el ≠ f := fun z => by
      obtain ⟨⟨_, _, _, _, h2, _, _⟩, _, _, _⟩ := id sh
      rw [z, nf] at h2; cases h2
    have cf0 : ∀ o, oc = some o → c ≠ f := fun o eo => ne_of_none (s1 _ _ (hc o eo)) nf
    have W0 : Run a ln oc c s f 0 Uw61.init el raw0 (Uw61.ints ln).length [] (upd H1 f (.lst [])) :=
      ⟨hc2, sh.more nf, upd_same, elc0, elf0, cf0, by rw [List.drop_zero]; exact hr0, by rw [an]; rfl, by show 0 + _ ≤ 40; omega, Nat.zero_le _⟩
    generalize upd H1 f (.lst []) = H2 at W0
    refine ⟨fun m σ H' => ∃ n S el raw fu fs z4 z5 z6 z7, m = ln.length - n ∧ σ = [some (.ref c), some (.ref s), some (.ref f), some (.int (n : Nat)), z4, z5, z6, z7] ∧ Run a ln oc c s f n S el raw fu fs H', ⟨_, 0, _, el, raw0, _, [], none, none, none, none, rfl, rfl, W0⟩, ?_⟩
    rintro m σ H' ⟨n, S, el, raw, fu, fs, z4, z5, z6, z7, rfl, rfl, W⟩
    refine ⟨_, rfl, _, rfl, c, _, rfl, .inl (CA.sq _ W.hc), _, _, rfl, rfl, _, rfl, ?_⟩
    rw [nv_length]
    refine iteB (fun d1 => ?_) (fun d1 => ?_)
    · have d1 := of_decide_eq_true d1
      have lt : n < ln.length := by omega
      obtain ⟨p, ns', ks, after, cl, rc, raw', fu, er, O, ic, la, hr', st⟩ := parse_step b32 W.rw0 lt
      subst er
      have tot := W.tot
      have few := W.few
      rw [List.length_cons] at few
      have pl : PyFlat.told (PyFlat.played (fun s c => Uw61Neutral.step s (c.headD [])) S ((rc :: raw').map PyUw61.whole)) = (((Uw61.step S cl).2.length : Int) :: (Uw61.step S cl).2) ++ PyFlat.told (PyFlat.played (fun s c => Uw61Neutral.step s (c.headD [])) (Uw61.step S cl).1 (raw'.map PyUw61.whole)) := by
        rw [List.map_cons]
        simp only [PyFlat.played, PyFlat.told, List.flatMap_cons]
        rw [st S]
      rw [pl] at tot
      have tl := congrArg List.length tot
      rw [List.length_append, List.length_append, List.length_cons] at tl
      have al : after ≤ ln.length := by
        by_cases p2 : p = 2
        · obtain ⟨kn, _, h1, _, h2⟩ := O.yes p2
          omega
        · have := (O.no p2).2
          have := O.hl
          omega
      refine ⟨fun σ' H' => ∃ m', m' < ln.length - n ∧ ∃ n S el raw fu fs z4 z5 z6 z7, m' = ln.length - n ∧ σ' = [some (.ref c), some (.ref s), some (.ref f), some (.int (n : Nat)), z4, z5, z6, z7] ∧ Run a ln oc c s f n S el raw fu fs H', fun _ _ z => z, ?_⟩
      refine ⟨_, rfl, _, rfl, c, ln, oc, n, p, ns', ks, after, rfl, W.hc, CA, O, fun H2 t q1 q2 s2 ht hq1 hq2 => ?_⟩
      refine ⟨t, _, rfl, SqT.of ht, rfl, _, _, rfl, _, _, rfl, _, _, rfl, rfl, ?_⟩
      have sh2 := W.sh.mono s2
      obtain ⟨⟨dx2, nw2, es2, hs2, _, _, _⟩, _, _, _⟩ := id sh2
      have ga := at_get O.hp
      refine ⟨_, rfl, _, rfl, c, _, _, _, rfl, rfl, CA.sq _ (W.hc.same s2), ga, _, _, rfl, rfl, _, rfl, ?_⟩
      refine iteB (fun d2 => ?_) (fun d2 => ?_)
      · have d2 := of_decide_eq_true d2
        refine ⟨_, rfl, s, dx2, _, rfl, hs2, sF_no (by decide +kernel) (by decide +kernel) _ _, _, rfl, _, rfl, c, _, _, _, rfl, rfl, CA.sq _ (W.hc.same s2), ga, _, rfl, _, rfl, fun b => b = f, s, el, S, p, q1, q2, ns', ks, cl, rfl, sh2, by omega, hq1, hq2, ic, by omega, fun H3 el3 q3 e3 kp3 sh3 nq3 hq3 => ?_⟩
        obtain ⟨⟨dx3, nw3, es3, h13, h23, _, _⟩, _, _, _⟩ := id sh3
        have hc2 := W.hc.same s2
        have elc : ∀ o, oc = some o → c ≠ el3 := fun o eo => by
          rcases e3 with e | e
          · rw [e]; exact W.elc o eo
          · intro z; rw [← z, hc2 o eo] at e; cases e
        have elf : el3 ≠ f := by
          rcases e3 with e | e
          · rw [e]; exact W.elf
          · intro z; rw [z, s2 _ _ W.hf] at e; cases e
        have cs : ∀ o, oc = some o → c ≠ s := fun o eo z => by
          have h := hc2 o eo
          rw [z, hs2] at h
          rcases CA.ls o eo with ⟨xs, e⟩ | ⟨u, xs, e⟩ <;> (rw [e] at h; cases h)
        have fs' : f ≠ s := ne_of (s2 _ _ W.hf) hs2 (fun z => nomatch z)
        have hc3 : At oc H3 c := fun o eo => kp3 c o (hc2 o eo) (cs o eo) (W.elc o eo)
        have hf3 := kp3 f _ (s2 _ _ W.hf) fs' (fun z => W.elf z.symm)
        have qf : q3 ≠ f := fun z => by rw [z, s2 _ _ W.hf] at nq3; cases nq3
        refine ⟨_, rfl, .inl ⟨rfl, _, SqL.of hf3⟩, _, rfl, q3, _, rfl, .inl (SqL.of hq3), f, _, _, rfl, rfl, hf3, ?_, ?_⟩
        · rw [List.length_map]; exact ten (by omega)
        refine ⟨_, rfl, .inl ⟨rfl, _, SqL.of upd_same⟩, _, rfl, f, q3, _, _, rfl, rfl, upd_same, by rw [upd_ne qf]; exact hq3, ?_, _, rfl, ?_⟩
        · rw [List.length_append, List.length_map, List.length_map]; exact Nat.le_of_lt (ten (by show _ + 1 + _ ≤ _; omega))
        refine ⟨ln.length - after, by omega, after, (Uw61.step S cl).1, el3, raw', fu, fs ++ (((Uw61.step S cl).2.length : Int) :: (Uw61.step S cl).2), _, _, _, _, rfl, rfl, ?_⟩
        refine ⟨(hc3.upd W.cf).upd W.cf, ?_, ?_, elc, elf, W.cf, hr', ?_, ?_, al⟩
        · have sh4 := sh3.found (o := .lst (fs.map V.int ++ [V.int ((((Uw61.step S cl).2.map V.int).length : Nat) : Int)])) fs' elf rfl
          exact sh4.found fs' elf rfl
        · rw [upd_same, List.length_map, List.map_append, List.map_cons]; simp
        · rw [← tot]; simp
        · have := past_step S cl; omega
      · have d2 := of_decide_eq_false d2
        refine ⟨_, rfl, s, dx2, _, rfl, hs2, sF_no (by decide +kernel) (by decide +kernel) _ _, _, rfl, _, rfl, c, _, _, _, rfl, rfl, CA.sq _ (W.hc.same s2), ga, _, rfl, fun b => b = f, s, el, S, p, q1, ns', ks, cl, rfl, sh2, hq1, ic, by omega, fun H3 el3 q3 e3 kp3 sh3 nq3 hq3 => ?_⟩
        obtain ⟨⟨dx3, nw3, es3, h13, h23, _, _⟩, _, _, _⟩ := id sh3
        have hc2 := W.hc.same s2
        have elc : ∀ o, oc = some o → c ≠ el3 := fun o eo => by
          rcases e3 with e | e
          · rw [e]; exact W.elc o eo
          · intro z; rw [← z, hc2 o eo] at e; cases e
        have elf : el3 ≠ f := by
          rcases e3 with e | e
          · rw [e]; exact W.elf
          · intro z; rw [z, s2 _ _ W.hf] at e; cases e
        have cs : ∀ o, oc = some o → c ≠ s := fun o eo z => by
          have h := hc2 o eo
          rw [z, hs2] at h
          rcases CA.ls o eo with ⟨xs, e⟩ | ⟨u, xs, e⟩ <;> (rw [e] at h; cases h)
        have fs' : f ≠ s := ne_of (s2 _ _ W.hf) hs2 (fun z => nomatch z)
        have hc3 : At oc H3 c := fun o eo => kp3 c o (hc2 o eo) (cs o eo) (W.elc o eo)
        have hf3 := kp3 f _ (s2 _ _ W.hf) fs' (fun z => W.elf z.symm)
        have qf : q3 ≠ f := fun z => by rw [z, s2 _ _ W.hf] at nq3; cases nq3
        refine ⟨_, rfl, .inl ⟨rfl, _, SqL.of hf3⟩, _, rfl, q3, _, rfl, .inl (SqL.of hq3), f, _, _, rfl, rfl, hf3, ?_, ?_⟩
        · rw [List.length_map]; exact ten (by omega)
        refine ⟨_, rfl, .inl ⟨rfl, _, SqL.of upd_same⟩, _, rfl, f, q3, _, _, rfl, rfl, upd_same, by rw [upd_ne qf]; exact hq3, ?_, _, rfl, ?_⟩
        · rw [List.length_append, List.length_map, List.length_map]; exact Nat.le_of_lt (ten (by show _ + 1 + _ ≤ _; omega))
        refine ⟨ln.length - after, by omega, after, (Uw61.step S cl).1, el3, raw', fu, fs ++ (((Uw61.step S cl).2.length : Int) :: (Uw61.step S cl).2), _, _, _, _, rfl, rfl, ?_⟩
        refine ⟨(hc3.upd W.cf).upd W.cf, ?_, ?_, elc, elf, W.cf, hr', ?_, ?_, al⟩
        · have sh4 := sh3.found (o := .lst (fs.map V.int ++ [V.int ((((Uw61.step S cl).2.map V.int).length : Nat) : Int)])) fs' elf rfl
          exact sh4.found fs' elf rfl
        · rw [upd_same, List.length_map, List.map_append, List.map_cons]; simp
        · rw [← tot]; simp
        · have := past_step S cl; omega
    · have d1 := of_decide_eq_false d1
      have nl := W.nl
      have e : n = ln.length := by omega
      have r0 : raw = [] := by
        have := W.rw0
        rw [e, List.drop_length] at this
        have z : PyFlat.calls PyUw61.shape fu (Uw61.ints []) = some [] := by cases fu <;> rfl
        rw [z] at this
        exact (Option.some.inj this).symm
      have tot := W.tot
      rw [r0] at tot
      have tot : fs ++ [] = PyUw61.answers (Uw61.ints ln) := tot
      rw [List.append_nil] at tot
      refine ⟨_, rfl, k H' f ?_⟩
      rw [← tot]; exact W.hf
end Sg

/-! ### text W22 -/
namespace Sg
open PySem PySem.Spec PyProof.Rows L2

theorem in_int {x : Int} (h : PySem.W.Codec.inInt 0 4294967295 x = true) : 0 ≤ x ∧ x < 4294967296 := by
  unfold PySem.W.Codec.inInt at h
  rw [Bool.and_eq_true] at h
  have h1 := of_decide_eq_true h.1
  have h2 := of_decide_eq_true h.2
  exact ⟨h1, by omega⟩
theorem ints_back : ∀ {l : List Int}, (∀ x ∈ l, 0 ≤ x ∧ x < 4294967296) → ∃ ln : List Nat, l = Uw61.ints ln ∧ ∀ x ∈ ln, x < 4294967296
  | [], _ => ⟨[], rfl, fun x hx => by simp at hx⟩
  | x :: l, h => by
    obtain ⟨ln, e, b⟩ := ints_back (l := l) fun y hy => h y (by simp [hy])
    have hx := h x (by simp)
    refine ⟨x.toNat :: ln, ?_, fun y hy => ?_⟩
    · show x :: l = ((x.toNat : Nat) : Int) :: Uw61.ints ln
      rw [← e, Int.toNat_of_nonneg hx.1]
    · rcases List.mem_cons.mp hy with e | hy
      · rw [e]; omega
      · exact b y hy
theorem end_sp {K : PySem.W.Frag} {H : Hp} {c : Addr} {l : List Int} {Q : VK} {E : XK} (hs : SqL K H c (l.map V.int)) (hl : l.length ≤ 2000) (hb : ∀ x ∈ l, 0 ≤ x ∧ x < 4294967296) (ask : PyUw61.answers_asked l = true)
    (k : ∀ H' q, H' q = some (.lst ((PyUw61.answers l).map V.int)) → Q (.ref q) H') : sp_answers K [.ref c] H Q E := by
  obtain ⟨ln, e, b⟩ := ints_back hb
  have ll : ln.length = l.length := by rw [e]; exact (ints_len ln).symm
  refine ⟨c, ln, rfl, ?_, b, by omega, by rw [← e]; exact ask, fun H' q h => k H' q (by rw [e]; exact h)⟩
  rw [e, ints_nv] at hs
  exact hs
theorem all_mk {P : Program} {w : World} {K : PySem.W.Frag} {h : Heap} {mg : Str → Option Value} {fa CD CS aN f_D_init f_D_lives_of f_D_all_lives f_D_all_borders f_D_has_place f_at_first f_all_round f_ends_behind f_regions_with f_joined f_near_border f_far_border f_parted f_pieces_of f_may_end f_places_from f_joins_in f_bows_on f_choices f_others_than f_parts_in f_lines_of f_drawn f_numbers_of f_shown_as f_thinned f_is_live f_is_open f_lean f_form_of f_behind f_least_missing f_wins_in f_first_win f_worth_in f_span_in f_is_choice f_S_init f_S_go_on f_S_begins f_S_joins f_S_parts f_S_undo f_S_shows f_S_spots f_S_counts f_S_ways f_S_wins f_S_worth f_S_span f_S_deed f_S_question f_call_at f_answers : Addr} {t_MOST_ENDS t_NEW_ENDS t_JOIN t_PART t_DEAD t_NONE_SUCH t_OUT_OF_ORDER t_NOT_TO_BE_DRAWN t_TOO_MANY t_NOTHING t_MOST_SPOTS t_MOST_LIVES t_BEGINS t_JOINS t_PARTS t_UNDO t_SHOWS t_SPOTS t_COUNTS t_WAYS t_WINS t_WORTH : Tok}
    {od_D_init an_D_init od_D_lives_of an_D_lives_of od_D_all_lives an_D_all_lives od_D_all_borders an_D_all_borders od_D_has_place an_D_has_place od_at_first an_at_first od_all_round an_all_round od_ends_behind an_ends_behind od_regions_with an_regions_with od_joined an_joined od_near_border an_near_border od_far_border an_far_border od_parted an_parted od_pieces_of an_pieces_of od_may_end an_may_end od_places_from an_places_from od_joins_in an_joins_in od_bows_on an_bows_on od_choices an_choices od_others_than an_others_than od_parts_in an_parts_in od_lines_of an_lines_of od_drawn an_drawn od_numbers_of an_numbers_of od_shown_as an_shown_as od_thinned an_thinned od_is_live an_is_live od_is_open an_is_open od_lean an_lean od_form_of an_form_of od_behind an_behind od_least_missing an_least_missing od_wins_in an_wins_in od_first_win an_first_win od_worth_in an_worth_in od_span_in an_span_in od_is_choice an_is_choice od_S_init an_S_init od_S_go_on an_S_go_on od_S_begins an_S_begins od_S_joins an_S_joins od_S_parts an_S_parts od_S_undo an_S_undo od_S_shows an_S_shows od_S_spots an_S_spots od_S_counts an_S_counts od_S_ways an_S_ways od_S_wins an_S_wins od_S_worth an_S_worth od_S_span an_S_span od_S_deed an_S_deed od_S_question an_S_question od_call_at an_call_at od_answers an_answers : Option Addr} {sl_D_init sl_D_lives_of sl_D_all_lives sl_D_all_borders sl_D_has_place sl_at_first sl_all_round sl_ends_behind sl_regions_with sl_joined sl_near_border sl_far_border sl_parted sl_pieces_of sl_may_end sl_places_from sl_joins_in sl_bows_on sl_choices sl_others_than sl_parts_in sl_lines_of sl_drawn sl_numbers_of sl_shown_as sl_thinned sl_is_live sl_is_open sl_lean sl_form_of sl_behind sl_least_missing sl_wins_in sl_first_win sl_worth_in sl_span_in sl_is_choice sl_S_init sl_S_go_on sl_S_begins sl_S_joins sl_S_parts sl_S_undo sl_S_shows sl_S_spots sl_S_counts sl_S_ways sl_S_wins sl_S_worth sl_S_span sl_S_deed sl_S_question sl_call_at sl_answers : Array (Option Value)} {oc_D_init kV_D_init dc_D_init pm_D_init cd_D_init ct_D_init oc_D_lives_of kV_D_lives_of dc_D_lives_of pm_D_lives_of cd_D_lives_of ct_D_lives_of oc_D_all_lives kV_D_all_lives dc_D_all_lives pm_D_all_lives cd_D_all_lives ct_D_all_lives oc_D_all_borders kV_D_all_borders dc_D_all_borders pm_D_all_borders cd_D_all_borders ct_D_all_borders oc_D_has_place kV_D_has_place dc_D_has_place pm_D_has_place cd_D_has_place ct_D_has_place oc_at_first kV_at_first dc_at_first pm_at_first cd_at_first ct_at_first oc_all_round kV_all_round dc_all_round pm_all_round cd_all_round ct_all_round oc_ends_behind kV_ends_behind dc_ends_behind pm_ends_behind cd_ends_behind ct_ends_behind oc_regions_with kV_regions_with dc_regions_with pm_regions_with cd_regions_with ct_regions_with oc_joined kV_joined dc_joined pm_joined cd_joined ct_joined oc_near_border kV_near_border dc_near_border pm_near_border cd_near_border ct_near_border oc_far_border kV_far_border dc_far_border pm_far_border cd_far_border ct_far_border oc_parted kV_parted dc_parted pm_parted cd_parted ct_parted oc_pieces_of kV_pieces_of dc_pieces_of pm_pieces_of cd_pieces_of ct_pieces_of oc_may_end kV_may_end dc_may_end pm_may_end cd_may_end ct_may_end oc_places_from kV_places_from dc_places_from pm_places_from cd_places_from ct_places_from oc_joins_in kV_joins_in dc_joins_in pm_joins_in cd_joins_in ct_joins_in oc_bows_on kV_bows_on dc_bows_on pm_bows_on cd_bows_on ct_bows_on oc_choices kV_choices dc_choices pm_choices cd_choices ct_choices oc_others_than kV_others_than dc_others_than pm_others_than cd_others_than ct_others_than oc_parts_in kV_parts_in dc_parts_in pm_parts_in cd_parts_in ct_parts_in oc_lines_of kV_lines_of dc_lines_of pm_lines_of cd_lines_of ct_lines_of oc_drawn kV_drawn dc_drawn pm_drawn cd_drawn ct_drawn oc_numbers_of kV_numbers_of dc_numbers_of pm_numbers_of cd_numbers_of ct_numbers_of oc_shown_as kV_shown_as dc_shown_as pm_shown_as cd_shown_as ct_shown_as oc_thinned kV_thinned dc_thinned pm_thinned cd_thinned ct_thinned oc_is_live kV_is_live dc_is_live pm_is_live cd_is_live ct_is_live oc_is_open kV_is_open dc_is_open pm_is_open cd_is_open ct_is_open oc_lean kV_lean dc_lean pm_lean cd_lean ct_lean oc_form_of kV_form_of dc_form_of pm_form_of cd_form_of ct_form_of oc_behind kV_behind dc_behind pm_behind cd_behind ct_behind oc_least_missing kV_least_missing dc_least_missing pm_least_missing cd_least_missing ct_least_missing oc_wins_in kV_wins_in dc_wins_in pm_wins_in cd_wins_in ct_wins_in oc_first_win kV_first_win dc_first_win pm_first_win cd_first_win ct_first_win oc_worth_in kV_worth_in dc_worth_in pm_worth_in cd_worth_in ct_worth_in oc_span_in kV_span_in dc_span_in pm_span_in cd_span_in ct_span_in oc_is_choice kV_is_choice dc_is_choice pm_is_choice cd_is_choice ct_is_choice oc_S_init kV_S_init dc_S_init pm_S_init cd_S_init ct_S_init oc_S_go_on kV_S_go_on dc_S_go_on pm_S_go_on cd_S_go_on ct_S_go_on oc_S_begins kV_S_begins dc_S_begins pm_S_begins cd_S_begins ct_S_begins oc_S_joins kV_S_joins dc_S_joins pm_S_joins cd_S_joins ct_S_joins oc_S_parts kV_S_parts dc_S_parts pm_S_parts cd_S_parts ct_S_parts oc_S_undo kV_S_undo dc_S_undo pm_S_undo cd_S_undo ct_S_undo oc_S_shows kV_S_shows dc_S_shows pm_S_shows cd_S_shows ct_S_shows oc_S_spots kV_S_spots dc_S_spots pm_S_spots cd_S_spots ct_S_spots oc_S_counts kV_S_counts dc_S_counts pm_S_counts cd_S_counts ct_S_counts oc_S_ways kV_S_ways dc_S_ways pm_S_ways cd_S_ways ct_S_ways oc_S_wins kV_S_wins dc_S_wins pm_S_wins cd_S_wins ct_S_wins oc_S_worth kV_S_worth dc_S_worth pm_S_worth cd_S_worth ct_S_worth oc_S_span kV_S_span dc_S_span pm_S_span cd_S_span ct_S_span oc_S_deed kV_S_deed dc_S_deed pm_S_deed cd_S_deed ct_S_deed oc_S_question kV_S_question dc_S_question pm_S_question cd_S_question ct_S_question oc_call_at kV_call_at dc_call_at pm_call_at cd_call_at ct_call_at oc_answers kV_answers dc_answers pm_answers cd_answers ct_answers : Value} {odN : Option Addr} {nN : Nat} {slN : Array (Option Value)} {u0 u1 u2 u3 u4 u5 u6 u7 u8 u9 u10 : Tok}
    (X : K.In h) (G : h.Ns mainGlobals mg) (hfa : mg "answers" = some (.ref fa))
    (gD : PySem.W.nsIn K mainGlobals "Drawing" = some (some (.ref CD)))
    (gS : PySem.W.nsIn K mainGlobals "Sheet" = some (some (.ref CS)))
    (a_D_init : PySem.W.findIn K (.ref CD) "__init__" = some (some (.ref f_D_init)))
    (i_D_init : PySem.W.isFn K (.ref f_D_init) = true)
    (l_D_init : K.lookup f_D_init = some ⟨oc_D_init, od_D_init, .func (PySem.W.fnOf "__init__" "Drawing.__init__" (defArgs s_D_init) (defBody s_D_init) (defScope s_D_init) .none kV_D_init dc_D_init pm_D_init an_D_init cd_D_init ct_D_init), sl_D_init⟩)
    (c_D_init : PySem.W.codeIn K cd_D_init "Drawing.__init__" = true)
    (k_D_init : PySem.W.keepIn K (.ref f_D_init) = true)
    (a_D_lives_of : PySem.W.findIn K (.ref CD) "lives_of" = some (some (.ref f_D_lives_of)))
    (i_D_lives_of : PySem.W.isFn K (.ref f_D_lives_of) = true)
    (l_D_lives_of : K.lookup f_D_lives_of = some ⟨oc_D_lives_of, od_D_lives_of, .func (PySem.W.fnOf "lives_of" "Drawing.lives_of" (defArgs s_D_lives_of) (defBody s_D_lives_of) (defScope s_D_lives_of) .none kV_D_lives_of dc_D_lives_of pm_D_lives_of an_D_lives_of cd_D_lives_of ct_D_lives_of), sl_D_lives_of⟩)
    (c_D_lives_of : PySem.W.codeIn K cd_D_lives_of "Drawing.lives_of" = true)
    (k_D_lives_of : PySem.W.keepIn K (.ref f_D_lives_of) = true)
    (a_D_all_lives : PySem.W.findIn K (.ref CD) "all_lives" = some (some (.ref f_D_all_lives)))
    (i_D_all_lives : PySem.W.isFn K (.ref f_D_all_lives) = true)
    (l_D_all_lives : K.lookup f_D_all_lives = some ⟨oc_D_all_lives, od_D_all_lives, .func (PySem.W.fnOf "all_lives" "Drawing.all_lives" (defArgs s_D_all_lives) (defBody s_D_all_lives) (defScope s_D_all_lives) .none kV_D_all_lives dc_D_all_lives pm_D_all_lives an_D_all_lives cd_D_all_lives ct_D_all_lives), sl_D_all_lives⟩)
    (c_D_all_lives : PySem.W.codeIn K cd_D_all_lives "Drawing.all_lives" = true)
    (k_D_all_lives : PySem.W.keepIn K (.ref f_D_all_lives) = true)
    (a_D_all_borders : PySem.W.findIn K (.ref CD) "all_borders" = some (some (.ref f_D_all_borders)))
    (i_D_all_borders : PySem.W.isFn K (.ref f_D_all_borders) = true)
    (l_D_all_borders : K.lookup f_D_all_borders = some ⟨oc_D_all_borders, od_D_all_borders, .func (PySem.W.fnOf "all_borders" "Drawing.all_borders" (defArgs s_D_all_borders) (defBody s_D_all_borders) (defScope s_D_all_borders) .none kV_D_all_borders dc_D_all_borders pm_D_all_borders an_D_all_borders cd_D_all_borders ct_D_all_borders), sl_D_all_borders⟩)
    (c_D_all_borders : PySem.W.codeIn K cd_D_all_borders "Drawing.all_borders" = true)
    (k_D_all_borders : PySem.W.keepIn K (.ref f_D_all_borders) = true)
    (a_D_has_place : PySem.W.findIn K (.ref CD) "has_place" = some (some (.ref f_D_has_place)))
    (i_D_has_place : PySem.W.isFn K (.ref f_D_has_place) = true)
    (l_D_has_place : K.lookup f_D_has_place = some ⟨oc_D_has_place, od_D_has_place, .func (PySem.W.fnOf "has_place" "Drawing.has_place" (defArgs s_D_has_place) (defBody s_D_has_place) (defScope s_D_has_place) .none kV_D_has_place dc_D_has_place pm_D_has_place an_D_has_place cd_D_has_place ct_D_has_place), sl_D_has_place⟩)
    (c_D_has_place : PySem.W.codeIn K cd_D_has_place "Drawing.has_place" = true)
    (k_D_has_place : PySem.W.keepIn K (.ref f_D_has_place) = true)
    (a_at_first : PySem.W.nsIn K mainGlobals "at_first" = some (some (.ref f_at_first)))
    (l_at_first : K.lookup f_at_first = some ⟨oc_at_first, od_at_first, .func (PySem.W.fnOf "at_first" "at_first" (defArgs s_at_first) (defBody s_at_first) (defScope s_at_first) .none kV_at_first dc_at_first pm_at_first an_at_first cd_at_first ct_at_first), sl_at_first⟩)
    (c_at_first : PySem.W.codeIn K cd_at_first "at_first" = true)
    (k_at_first : PySem.W.keepIn K (.ref f_at_first) = true)
    (a_all_round : PySem.W.nsIn K mainGlobals "all_round" = some (some (.ref f_all_round)))
    (l_all_round : K.lookup f_all_round = some ⟨oc_all_round, od_all_round, .func (PySem.W.fnOf "all_round" "all_round" (defArgs s_all_round) (defBody s_all_round) (defScope s_all_round) .none kV_all_round dc_all_round pm_all_round an_all_round cd_all_round ct_all_round), sl_all_round⟩)
    (c_all_round : PySem.W.codeIn K cd_all_round "all_round" = true)
    (k_all_round : PySem.W.keepIn K (.ref f_all_round) = true)
    (a_ends_behind : PySem.W.nsIn K mainGlobals "ends_behind" = some (some (.ref f_ends_behind)))
    (l_ends_behind : K.lookup f_ends_behind = some ⟨oc_ends_behind, od_ends_behind, .func (PySem.W.fnOf "ends_behind" "ends_behind" (defArgs s_ends_behind) (defBody s_ends_behind) (defScope s_ends_behind) .none kV_ends_behind dc_ends_behind pm_ends_behind an_ends_behind cd_ends_behind ct_ends_behind), sl_ends_behind⟩)
    (c_ends_behind : PySem.W.codeIn K cd_ends_behind "ends_behind" = true)
    (k_ends_behind : PySem.W.keepIn K (.ref f_ends_behind) = true)
    (a_regions_with : PySem.W.nsIn K mainGlobals "regions_with" = some (some (.ref f_regions_with)))
    (l_regions_with : K.lookup f_regions_with = some ⟨oc_regions_with, od_regions_with, .func (PySem.W.fnOf "regions_with" "regions_with" (defArgs s_regions_with) (defBody s_regions_with) (defScope s_regions_with) .none kV_regions_with dc_regions_with pm_regions_with an_regions_with cd_regions_with ct_regions_with), sl_regions_with⟩)
    (c_regions_with : PySem.W.codeIn K cd_regions_with "regions_with" = true)
    (k_regions_with : PySem.W.keepIn K (.ref f_regions_with) = true)
    (a_joined : PySem.W.nsIn K mainGlobals "joined" = some (some (.ref f_joined)))
    (l_joined : K.lookup f_joined = some ⟨oc_joined, od_joined, .func (PySem.W.fnOf "joined" "joined" (defArgs s_joined) (defBody s_joined) (defScope s_joined) .none kV_joined dc_joined pm_joined an_joined cd_joined ct_joined), sl_joined⟩)
    (c_joined : PySem.W.codeIn K cd_joined "joined" = true)
    (k_joined : PySem.W.keepIn K (.ref f_joined) = true)
    (a_near_border : PySem.W.nsIn K mainGlobals "near_border" = some (some (.ref f_near_border)))
    (l_near_border : K.lookup f_near_border = some ⟨oc_near_border, od_near_border, .func (PySem.W.fnOf "near_border" "near_border" (defArgs s_near_border) (defBody s_near_border) (defScope s_near_border) .none kV_near_border dc_near_border pm_near_border an_near_border cd_near_border ct_near_border), sl_near_border⟩)
    (c_near_border : PySem.W.codeIn K cd_near_border "near_border" = true)
    (k_near_border : PySem.W.keepIn K (.ref f_near_border) = true)
    (a_far_border : PySem.W.nsIn K mainGlobals "far_border" = some (some (.ref f_far_border)))
    (l_far_border : K.lookup f_far_border = some ⟨oc_far_border, od_far_border, .func (PySem.W.fnOf "far_border" "far_border" (defArgs s_far_border) (defBody s_far_border) (defScope s_far_border) .none kV_far_border dc_far_border pm_far_border an_far_border cd_far_border ct_far_border), sl_far_border⟩)
    (c_far_border : PySem.W.codeIn K cd_far_border "far_border" = true)
    (k_far_border : PySem.W.keepIn K (.ref f_far_border) = true)
    (a_parted : PySem.W.nsIn K mainGlobals "parted" = some (some (.ref f_parted)))
    (l_parted : K.lookup f_parted = some ⟨oc_parted, od_parted, .func (PySem.W.fnOf "parted" "parted" (defArgs s_parted) (defBody s_parted) (defScope s_parted) .none kV_parted dc_parted pm_parted an_parted cd_parted ct_parted), sl_parted⟩)
    (c_parted : PySem.W.codeIn K cd_parted "parted" = true)
    (k_parted : PySem.W.keepIn K (.ref f_parted) = true)
    (a_pieces_of : PySem.W.nsIn K mainGlobals "pieces_of" = some (some (.ref f_pieces_of)))
    (l_pieces_of : K.lookup f_pieces_of = some ⟨oc_pieces_of, od_pieces_of, .func (PySem.W.fnOf "pieces_of" "pieces_of" (defArgs s_pieces_of) (defBody s_pieces_of) (defScope s_pieces_of) .none kV_pieces_of dc_pieces_of pm_pieces_of an_pieces_of cd_pieces_of ct_pieces_of), sl_pieces_of⟩)
    (c_pieces_of : PySem.W.codeIn K cd_pieces_of "pieces_of" = true)
    (k_pieces_of : PySem.W.keepIn K (.ref f_pieces_of) = true)
    (a_may_end : PySem.W.nsIn K mainGlobals "may_end" = some (some (.ref f_may_end)))
    (l_may_end : K.lookup f_may_end = some ⟨oc_may_end, od_may_end, .func (PySem.W.fnOf "may_end" "may_end" (defArgs s_may_end) (defBody s_may_end) (defScope s_may_end) .none kV_may_end dc_may_end pm_may_end an_may_end cd_may_end ct_may_end), sl_may_end⟩)
    (c_may_end : PySem.W.codeIn K cd_may_end "may_end" = true)
    (k_may_end : PySem.W.keepIn K (.ref f_may_end) = true)
    (a_places_from : PySem.W.nsIn K mainGlobals "places_from" = some (some (.ref f_places_from)))
    (l_places_from : K.lookup f_places_from = some ⟨oc_places_from, od_places_from, .func (PySem.W.fnOf "places_from" "places_from" (defArgs s_places_from) (defBody s_places_from) (defScope s_places_from) .none kV_places_from dc_places_from pm_places_from an_places_from cd_places_from ct_places_from), sl_places_from⟩)
    (c_places_from : PySem.W.codeIn K cd_places_from "places_from" = true)
    (k_places_from : PySem.W.keepIn K (.ref f_places_from) = true)
    (a_joins_in : PySem.W.nsIn K mainGlobals "joins_in" = some (some (.ref f_joins_in)))
    (l_joins_in : K.lookup f_joins_in = some ⟨oc_joins_in, od_joins_in, .func (PySem.W.fnOf "joins_in" "joins_in" (defArgs s_joins_in) (defBody s_joins_in) (defScope s_joins_in) .none kV_joins_in dc_joins_in pm_joins_in an_joins_in cd_joins_in ct_joins_in), sl_joins_in⟩)
    (c_joins_in : PySem.W.codeIn K cd_joins_in "joins_in" = true)
    (k_joins_in : PySem.W.keepIn K (.ref f_joins_in) = true)
    (a_bows_on : PySem.W.nsIn K mainGlobals "bows_on" = some (some (.ref f_bows_on)))
    (l_bows_on : K.lookup f_bows_on = some ⟨oc_bows_on, od_bows_on, .func (PySem.W.fnOf "bows_on" "bows_on" (defArgs s_bows_on) (defBody s_bows_on) (defScope s_bows_on) .none kV_bows_on dc_bows_on pm_bows_on an_bows_on cd_bows_on ct_bows_on), sl_bows_on⟩)
    (c_bows_on : PySem.W.codeIn K cd_bows_on "bows_on" = true)
    (k_bows_on : PySem.W.keepIn K (.ref f_bows_on) = true)
    (a_choices : PySem.W.nsIn K mainGlobals "choices" = some (some (.ref f_choices)))
    (l_choices : K.lookup f_choices = some ⟨oc_choices, od_choices, .func (PySem.W.fnOf "choices" "choices" (defArgs s_choices) (defBody s_choices) (defScope s_choices) .none kV_choices dc_choices pm_choices an_choices cd_choices ct_choices), sl_choices⟩)
    (c_choices : PySem.W.codeIn K cd_choices "choices" = true)
    (k_choices : PySem.W.keepIn K (.ref f_choices) = true)
    (a_others_than : PySem.W.nsIn K mainGlobals "others_than" = some (some (.ref f_others_than)))
    (l_others_than : K.lookup f_others_than = some ⟨oc_others_than, od_others_than, .func (PySem.W.fnOf "others_than" "others_than" (defArgs s_others_than) (defBody s_others_than) (defScope s_others_than) .none kV_others_than dc_others_than pm_others_than an_others_than cd_others_than ct_others_than), sl_others_than⟩)
    (c_others_than : PySem.W.codeIn K cd_others_than "others_than" = true)
    (k_others_than : PySem.W.keepIn K (.ref f_others_than) = true)
    (a_parts_in : PySem.W.nsIn K mainGlobals "parts_in" = some (some (.ref f_parts_in)))
    (l_parts_in : K.lookup f_parts_in = some ⟨oc_parts_in, od_parts_in, .func (PySem.W.fnOf "parts_in" "parts_in" (defArgs s_parts_in) (defBody s_parts_in) (defScope s_parts_in) .none kV_parts_in dc_parts_in pm_parts_in an_parts_in cd_parts_in ct_parts_in), sl_parts_in⟩)
    (c_parts_in : PySem.W.codeIn K cd_parts_in "parts_in" = true)
    (k_parts_in : PySem.W.keepIn K (.ref f_parts_in) = true)
    (a_lines_of : PySem.W.nsIn K mainGlobals "lines_of" = some (some (.ref f_lines_of)))
    (l_lines_of : K.lookup f_lines_of = some ⟨oc_lines_of, od_lines_of, .func (PySem.W.fnOf "lines_of" "lines_of" (defArgs s_lines_of) (defBody s_lines_of) (defScope s_lines_of) .none kV_lines_of dc_lines_of pm_lines_of an_lines_of cd_lines_of ct_lines_of), sl_lines_of⟩)
    (c_lines_of : PySem.W.codeIn K cd_lines_of "lines_of" = true)
    (k_lines_of : PySem.W.keepIn K (.ref f_lines_of) = true)
    (a_drawn : PySem.W.nsIn K mainGlobals "drawn" = some (some (.ref f_drawn)))
    (l_drawn : K.lookup f_drawn = some ⟨oc_drawn, od_drawn, .func (PySem.W.fnOf "drawn" "drawn" (defArgs s_drawn) (defBody s_drawn) (defScope s_drawn) .none kV_drawn dc_drawn pm_drawn an_drawn cd_drawn ct_drawn), sl_drawn⟩)
    (c_drawn : PySem.W.codeIn K cd_drawn "drawn" = true)
    (k_drawn : PySem.W.keepIn K (.ref f_drawn) = true)
    (a_numbers_of : PySem.W.nsIn K mainGlobals "numbers_of" = some (some (.ref f_numbers_of)))
    (l_numbers_of : K.lookup f_numbers_of = some ⟨oc_numbers_of, od_numbers_of, .func (PySem.W.fnOf "numbers_of" "numbers_of" (defArgs s_numbers_of) (defBody s_numbers_of) (defScope s_numbers_of) .none kV_numbers_of dc_numbers_of pm_numbers_of an_numbers_of cd_numbers_of ct_numbers_of), sl_numbers_of⟩)
    (c_numbers_of : PySem.W.codeIn K cd_numbers_of "numbers_of" = true)
    (k_numbers_of : PySem.W.keepIn K (.ref f_numbers_of) = true)
    (a_shown_as : PySem.W.nsIn K mainGlobals "shown_as" = some (some (.ref f_shown_as)))
    (l_shown_as : K.lookup f_shown_as = some ⟨oc_shown_as, od_shown_as, .func (PySem.W.fnOf "shown_as" "shown_as" (defArgs s_shown_as) (defBody s_shown_as) (defScope s_shown_as) .none kV_shown_as dc_shown_as pm_shown_as an_shown_as cd_shown_as ct_shown_as), sl_shown_as⟩)
    (c_shown_as : PySem.W.codeIn K cd_shown_as "shown_as" = true)
    (k_shown_as : PySem.W.keepIn K (.ref f_shown_as) = true)
    (a_thinned : PySem.W.nsIn K mainGlobals "thinned" = some (some (.ref f_thinned)))
    (l_thinned : K.lookup f_thinned = some ⟨oc_thinned, od_thinned, .func (PySem.W.fnOf "thinned" "thinned" (defArgs s_thinned) (defBody s_thinned) (defScope s_thinned) .none kV_thinned dc_thinned pm_thinned an_thinned cd_thinned ct_thinned), sl_thinned⟩)
    (c_thinned : PySem.W.codeIn K cd_thinned "thinned" = true)
    (k_thinned : PySem.W.keepIn K (.ref f_thinned) = true)
    (a_is_live : PySem.W.nsIn K mainGlobals "is_live" = some (some (.ref f_is_live)))
    (l_is_live : K.lookup f_is_live = some ⟨oc_is_live, od_is_live, .func (PySem.W.fnOf "is_live" "is_live" (defArgs s_is_live) (defBody s_is_live) (defScope s_is_live) .none kV_is_live dc_is_live pm_is_live an_is_live cd_is_live ct_is_live), sl_is_live⟩)
    (c_is_live : PySem.W.codeIn K cd_is_live "is_live" = true)
    (k_is_live : PySem.W.keepIn K (.ref f_is_live) = true)
    (a_is_open : PySem.W.nsIn K mainGlobals "is_open" = some (some (.ref f_is_open)))
    (l_is_open : K.lookup f_is_open = some ⟨oc_is_open, od_is_open, .func (PySem.W.fnOf "is_open" "is_open" (defArgs s_is_open) (defBody s_is_open) (defScope s_is_open) .none kV_is_open dc_is_open pm_is_open an_is_open cd_is_open ct_is_open), sl_is_open⟩)
    (c_is_open : PySem.W.codeIn K cd_is_open "is_open" = true)
    (k_is_open : PySem.W.keepIn K (.ref f_is_open) = true)
    (a_lean : PySem.W.nsIn K mainGlobals "lean" = some (some (.ref f_lean)))
    (l_lean : K.lookup f_lean = some ⟨oc_lean, od_lean, .func (PySem.W.fnOf "lean" "lean" (defArgs s_lean) (defBody s_lean) (defScope s_lean) .none kV_lean dc_lean pm_lean an_lean cd_lean ct_lean), sl_lean⟩)
    (c_lean : PySem.W.codeIn K cd_lean "lean" = true)
    (k_lean : PySem.W.keepIn K (.ref f_lean) = true)
    (a_form_of : PySem.W.nsIn K mainGlobals "form_of" = some (some (.ref f_form_of)))
    (l_form_of : K.lookup f_form_of = some ⟨oc_form_of, od_form_of, .func (PySem.W.fnOf "form_of" "form_of" (defArgs s_form_of) (defBody s_form_of) (defScope s_form_of) .none kV_form_of dc_form_of pm_form_of an_form_of cd_form_of ct_form_of), sl_form_of⟩)
    (c_form_of : PySem.W.codeIn K cd_form_of "form_of" = true)
    (k_form_of : PySem.W.keepIn K (.ref f_form_of) = true)
    (a_behind : PySem.W.nsIn K mainGlobals "behind" = some (some (.ref f_behind)))
    (l_behind : K.lookup f_behind = some ⟨oc_behind, od_behind, .func (PySem.W.fnOf "behind" "behind" (defArgs s_behind) (defBody s_behind) (defScope s_behind) .none kV_behind dc_behind pm_behind an_behind cd_behind ct_behind), sl_behind⟩)
    (c_behind : PySem.W.codeIn K cd_behind "behind" = true)
    (k_behind : PySem.W.keepIn K (.ref f_behind) = true)
    (a_least_missing : PySem.W.nsIn K mainGlobals "least_missing" = some (some (.ref f_least_missing)))
    (l_least_missing : K.lookup f_least_missing = some ⟨oc_least_missing, od_least_missing, .func (PySem.W.fnOf "least_missing" "least_missing" (defArgs s_least_missing) (defBody s_least_missing) (defScope s_least_missing) .none kV_least_missing dc_least_missing pm_least_missing an_least_missing cd_least_missing ct_least_missing), sl_least_missing⟩)
    (c_least_missing : PySem.W.codeIn K cd_least_missing "least_missing" = true)
    (k_least_missing : PySem.W.keepIn K (.ref f_least_missing) = true)
    (a_wins_in : PySem.W.nsIn K mainGlobals "wins_in" = some (some (.ref f_wins_in)))
    (l_wins_in : K.lookup f_wins_in = some ⟨oc_wins_in, od_wins_in, .func (PySem.W.fnOf "wins_in" "wins_in" (defArgs s_wins_in) (defBody s_wins_in) (defScope s_wins_in) .none kV_wins_in dc_wins_in pm_wins_in an_wins_in cd_wins_in ct_wins_in), sl_wins_in⟩)
    (c_wins_in : PySem.W.codeIn K cd_wins_in "wins_in" = true)
    (k_wins_in : PySem.W.keepIn K (.ref f_wins_in) = true)
    (a_first_win : PySem.W.nsIn K mainGlobals "first_win" = some (some (.ref f_first_win)))
    (l_first_win : K.lookup f_first_win = some ⟨oc_first_win, od_first_win, .func (PySem.W.fnOf "first_win" "first_win" (defArgs s_first_win) (defBody s_first_win) (defScope s_first_win) .none kV_first_win dc_first_win pm_first_win an_first_win cd_first_win ct_first_win), sl_first_win⟩)
    (c_first_win : PySem.W.codeIn K cd_first_win "first_win" = true)
    (k_first_win : PySem.W.keepIn K (.ref f_first_win) = true)
    (a_worth_in : PySem.W.nsIn K mainGlobals "worth_in" = some (some (.ref f_worth_in)))
    (l_worth_in : K.lookup f_worth_in = some ⟨oc_worth_in, od_worth_in, .func (PySem.W.fnOf "worth_in" "worth_in" (defArgs s_worth_in) (defBody s_worth_in) (defScope s_worth_in) .none kV_worth_in dc_worth_in pm_worth_in an_worth_in cd_worth_in ct_worth_in), sl_worth_in⟩)
    (c_worth_in : PySem.W.codeIn K cd_worth_in "worth_in" = true)
    (k_worth_in : PySem.W.keepIn K (.ref f_worth_in) = true)
    (a_span_in : PySem.W.nsIn K mainGlobals "span_in" = some (some (.ref f_span_in)))
    (l_span_in : K.lookup f_span_in = some ⟨oc_span_in, od_span_in, .func (PySem.W.fnOf "span_in" "span_in" (defArgs s_span_in) (defBody s_span_in) (defScope s_span_in) .none kV_span_in dc_span_in pm_span_in an_span_in cd_span_in ct_span_in), sl_span_in⟩)
    (c_span_in : PySem.W.codeIn K cd_span_in "span_in" = true)
    (k_span_in : PySem.W.keepIn K (.ref f_span_in) = true)
    (a_is_choice : PySem.W.nsIn K mainGlobals "is_choice" = some (some (.ref f_is_choice)))
    (l_is_choice : K.lookup f_is_choice = some ⟨oc_is_choice, od_is_choice, .func (PySem.W.fnOf "is_choice" "is_choice" (defArgs s_is_choice) (defBody s_is_choice) (defScope s_is_choice) .none kV_is_choice dc_is_choice pm_is_choice an_is_choice cd_is_choice ct_is_choice), sl_is_choice⟩)
    (c_is_choice : PySem.W.codeIn K cd_is_choice "is_choice" = true)
    (k_is_choice : PySem.W.keepIn K (.ref f_is_choice) = true)
    (a_S_init : PySem.W.findIn K (.ref CS) "__init__" = some (some (.ref f_S_init)))
    (i_S_init : PySem.W.isFn K (.ref f_S_init) = true)
    (l_S_init : K.lookup f_S_init = some ⟨oc_S_init, od_S_init, .func (PySem.W.fnOf "__init__" "Sheet.__init__" (defArgs s_S_init) (defBody s_S_init) (defScope s_S_init) .none kV_S_init dc_S_init pm_S_init an_S_init cd_S_init ct_S_init), sl_S_init⟩)
    (c_S_init : PySem.W.codeIn K cd_S_init "Sheet.__init__" = true)
    (k_S_init : PySem.W.keepIn K (.ref f_S_init) = true)
    (a_S_go_on : PySem.W.findIn K (.ref CS) "go_on" = some (some (.ref f_S_go_on)))
    (i_S_go_on : PySem.W.isFn K (.ref f_S_go_on) = true)
    (l_S_go_on : K.lookup f_S_go_on = some ⟨oc_S_go_on, od_S_go_on, .func (PySem.W.fnOf "go_on" "Sheet.go_on" (defArgs s_S_go_on) (defBody s_S_go_on) (defScope s_S_go_on) .none kV_S_go_on dc_S_go_on pm_S_go_on an_S_go_on cd_S_go_on ct_S_go_on), sl_S_go_on⟩)
    (c_S_go_on : PySem.W.codeIn K cd_S_go_on "Sheet.go_on" = true)
    (k_S_go_on : PySem.W.keepIn K (.ref f_S_go_on) = true)
    (a_S_begins : PySem.W.findIn K (.ref CS) "begins" = some (some (.ref f_S_begins)))
    (i_S_begins : PySem.W.isFn K (.ref f_S_begins) = true)
    (l_S_begins : K.lookup f_S_begins = some ⟨oc_S_begins, od_S_begins, .func (PySem.W.fnOf "begins" "Sheet.begins" (defArgs s_S_begins) (defBody s_S_begins) (defScope s_S_begins) .none kV_S_begins dc_S_begins pm_S_begins an_S_begins cd_S_begins ct_S_begins), sl_S_begins⟩)
    (c_S_begins : PySem.W.codeIn K cd_S_begins "Sheet.begins" = true)
    (k_S_begins : PySem.W.keepIn K (.ref f_S_begins) = true)
    (a_S_joins : PySem.W.findIn K (.ref CS) "joins" = some (some (.ref f_S_joins)))
    (i_S_joins : PySem.W.isFn K (.ref f_S_joins) = true)
    (l_S_joins : K.lookup f_S_joins = some ⟨oc_S_joins, od_S_joins, .func (PySem.W.fnOf "joins" "Sheet.joins" (defArgs s_S_joins) (defBody s_S_joins) (defScope s_S_joins) .none kV_S_joins dc_S_joins pm_S_joins an_S_joins cd_S_joins ct_S_joins), sl_S_joins⟩)
    (c_S_joins : PySem.W.codeIn K cd_S_joins "Sheet.joins" = true)
    (k_S_joins : PySem.W.keepIn K (.ref f_S_joins) = true)
    (a_S_parts : PySem.W.findIn K (.ref CS) "parts" = some (some (.ref f_S_parts)))
    (i_S_parts : PySem.W.isFn K (.ref f_S_parts) = true)
    (l_S_parts : K.lookup f_S_parts = some ⟨oc_S_parts, od_S_parts, .func (PySem.W.fnOf "parts" "Sheet.parts" (defArgs s_S_parts) (defBody s_S_parts) (defScope s_S_parts) .none kV_S_parts dc_S_parts pm_S_parts an_S_parts cd_S_parts ct_S_parts), sl_S_parts⟩)
    (c_S_parts : PySem.W.codeIn K cd_S_parts "Sheet.parts" = true)
    (k_S_parts : PySem.W.keepIn K (.ref f_S_parts) = true)
    (a_S_undo : PySem.W.findIn K (.ref CS) "undo" = some (some (.ref f_S_undo)))
    (i_S_undo : PySem.W.isFn K (.ref f_S_undo) = true)
    (l_S_undo : K.lookup f_S_undo = some ⟨oc_S_undo, od_S_undo, .func (PySem.W.fnOf "undo" "Sheet.undo" (defArgs s_S_undo) (defBody s_S_undo) (defScope s_S_undo) .none kV_S_undo dc_S_undo pm_S_undo an_S_undo cd_S_undo ct_S_undo), sl_S_undo⟩)
    (c_S_undo : PySem.W.codeIn K cd_S_undo "Sheet.undo" = true)
    (k_S_undo : PySem.W.keepIn K (.ref f_S_undo) = true)
    (a_S_shows : PySem.W.findIn K (.ref CS) "shows" = some (some (.ref f_S_shows)))
    (i_S_shows : PySem.W.isFn K (.ref f_S_shows) = true)
    (l_S_shows : K.lookup f_S_shows = some ⟨oc_S_shows, od_S_shows, .func (PySem.W.fnOf "shows" "Sheet.shows" (defArgs s_S_shows) (defBody s_S_shows) (defScope s_S_shows) .none kV_S_shows dc_S_shows pm_S_shows an_S_shows cd_S_shows ct_S_shows), sl_S_shows⟩)
    (c_S_shows : PySem.W.codeIn K cd_S_shows "Sheet.shows" = true)
    (k_S_shows : PySem.W.keepIn K (.ref f_S_shows) = true)
    (a_S_spots : PySem.W.findIn K (.ref CS) "spots" = some (some (.ref f_S_spots)))
    (i_S_spots : PySem.W.isFn K (.ref f_S_spots) = true)
    (l_S_spots : K.lookup f_S_spots = some ⟨oc_S_spots, od_S_spots, .func (PySem.W.fnOf "spots" "Sheet.spots" (defArgs s_S_spots) (defBody s_S_spots) (defScope s_S_spots) .none kV_S_spots dc_S_spots pm_S_spots an_S_spots cd_S_spots ct_S_spots), sl_S_spots⟩)
    (c_S_spots : PySem.W.codeIn K cd_S_spots "Sheet.spots" = true)
    (k_S_spots : PySem.W.keepIn K (.ref f_S_spots) = true)
    (a_S_counts : PySem.W.findIn K (.ref CS) "counts" = some (some (.ref f_S_counts)))
    (i_S_counts : PySem.W.isFn K (.ref f_S_counts) = true)
    (l_S_counts : K.lookup f_S_counts = some ⟨oc_S_counts, od_S_counts, .func (PySem.W.fnOf "counts" "Sheet.counts" (defArgs s_S_counts) (defBody s_S_counts) (defScope s_S_counts) .none kV_S_counts dc_S_counts pm_S_counts an_S_counts cd_S_counts ct_S_counts), sl_S_counts⟩)
    (c_S_counts : PySem.W.codeIn K cd_S_counts "Sheet.counts" = true)
    (k_S_counts : PySem.W.keepIn K (.ref f_S_counts) = true)
    (a_S_ways : PySem.W.findIn K (.ref CS) "ways" = some (some (.ref f_S_ways)))
    (i_S_ways : PySem.W.isFn K (.ref f_S_ways) = true)
    (l_S_ways : K.lookup f_S_ways = some ⟨oc_S_ways, od_S_ways, .func (PySem.W.fnOf "ways" "Sheet.ways" (defArgs s_S_ways) (defBody s_S_ways) (defScope s_S_ways) .none kV_S_ways dc_S_ways pm_S_ways an_S_ways cd_S_ways ct_S_ways), sl_S_ways⟩)
    (c_S_ways : PySem.W.codeIn K cd_S_ways "Sheet.ways" = true)
    (k_S_ways : PySem.W.keepIn K (.ref f_S_ways) = true)
    (a_S_wins : PySem.W.findIn K (.ref CS) "wins" = some (some (.ref f_S_wins)))
    (i_S_wins : PySem.W.isFn K (.ref f_S_wins) = true)
    (l_S_wins : K.lookup f_S_wins = some ⟨oc_S_wins, od_S_wins, .func (PySem.W.fnOf "wins" "Sheet.wins" (defArgs s_S_wins) (defBody s_S_wins) (defScope s_S_wins) .none kV_S_wins dc_S_wins pm_S_wins an_S_wins cd_S_wins ct_S_wins), sl_S_wins⟩)
    (c_S_wins : PySem.W.codeIn K cd_S_wins "Sheet.wins" = true)
    (k_S_wins : PySem.W.keepIn K (.ref f_S_wins) = true)
    (a_S_worth : PySem.W.findIn K (.ref CS) "worth" = some (some (.ref f_S_worth)))
    (i_S_worth : PySem.W.isFn K (.ref f_S_worth) = true)
    (l_S_worth : K.lookup f_S_worth = some ⟨oc_S_worth, od_S_worth, .func (PySem.W.fnOf "worth" "Sheet.worth" (defArgs s_S_worth) (defBody s_S_worth) (defScope s_S_worth) .none kV_S_worth dc_S_worth pm_S_worth an_S_worth cd_S_worth ct_S_worth), sl_S_worth⟩)
    (c_S_worth : PySem.W.codeIn K cd_S_worth "Sheet.worth" = true)
    (k_S_worth : PySem.W.keepIn K (.ref f_S_worth) = true)
    (a_S_span : PySem.W.findIn K (.ref CS) "span" = some (some (.ref f_S_span)))
    (i_S_span : PySem.W.isFn K (.ref f_S_span) = true)
    (l_S_span : K.lookup f_S_span = some ⟨oc_S_span, od_S_span, .func (PySem.W.fnOf "span" "Sheet.span" (defArgs s_S_span) (defBody s_S_span) (defScope s_S_span) .none kV_S_span dc_S_span pm_S_span an_S_span cd_S_span ct_S_span), sl_S_span⟩)
    (c_S_span : PySem.W.codeIn K cd_S_span "Sheet.span" = true)
    (k_S_span : PySem.W.keepIn K (.ref f_S_span) = true)
    (a_S_deed : PySem.W.findIn K (.ref CS) "deed" = some (some (.ref f_S_deed)))
    (i_S_deed : PySem.W.isFn K (.ref f_S_deed) = true)
    (l_S_deed : K.lookup f_S_deed = some ⟨oc_S_deed, od_S_deed, .func (PySem.W.fnOf "deed" "Sheet.deed" (defArgs s_S_deed) (defBody s_S_deed) (defScope s_S_deed) .none kV_S_deed dc_S_deed pm_S_deed an_S_deed cd_S_deed ct_S_deed), sl_S_deed⟩)
    (c_S_deed : PySem.W.codeIn K cd_S_deed "Sheet.deed" = true)
    (k_S_deed : PySem.W.keepIn K (.ref f_S_deed) = true)
    (a_S_question : PySem.W.findIn K (.ref CS) "question" = some (some (.ref f_S_question)))
    (i_S_question : PySem.W.isFn K (.ref f_S_question) = true)
    (l_S_question : K.lookup f_S_question = some ⟨oc_S_question, od_S_question, .func (PySem.W.fnOf "question" "Sheet.question" (defArgs s_S_question) (defBody s_S_question) (defScope s_S_question) .none kV_S_question dc_S_question pm_S_question an_S_question cd_S_question ct_S_question), sl_S_question⟩)
    (c_S_question : PySem.W.codeIn K cd_S_question "Sheet.question" = true)
    (k_S_question : PySem.W.keepIn K (.ref f_S_question) = true)
    (a_call_at : PySem.W.nsIn K mainGlobals "call_at" = some (some (.ref f_call_at)))
    (l_call_at : K.lookup f_call_at = some ⟨oc_call_at, od_call_at, .func (PySem.W.fnOf "call_at" "call_at" (defArgs s_call_at) (defBody s_call_at) (defScope s_call_at) .none kV_call_at dc_call_at pm_call_at an_call_at cd_call_at ct_call_at), sl_call_at⟩)
    (c_call_at : PySem.W.codeIn K cd_call_at "call_at" = true)
    (k_call_at : PySem.W.keepIn K (.ref f_call_at) = true)
    (a_answers : PySem.W.nsIn K mainGlobals "answers" = some (some (.ref f_answers)))
    (l_answers : K.lookup f_answers = some ⟨oc_answers, od_answers, .func (PySem.W.fnOf "answers" "answers" (defArgs s_answers) (defBody s_answers) (defScope s_answers) .none kV_answers dc_answers pm_answers an_answers cd_answers ct_answers), sl_answers⟩)
    (c_answers : PySem.W.codeIn K cd_answers "answers" = true)
    (k_answers : PySem.W.keepIn K (.ref f_answers) = true)
    (pgD : PySem.W.plainGet K CD Str.empty = true)
    (hdD : PySem.W.hasDictIn K CD = true)
    (poD : PySem.W.plainOver K CD = true)
    (saD : PySem.W.findIn K (.ref CD) "__setattr__" = some (some (.builtin "object.__setattr__")))
    (mkD : PySem.W.makesIn K CD = true)
    (kcD : PySem.W.keepIn K (.ref CD) = true)
    (pgS : PySem.W.plainGet K CS Str.empty = true)
    (hdS : PySem.W.hasDictIn K CS = true)
    (poS : PySem.W.plainOver K CS = true)
    (saS : PySem.W.findIn K (.ref CS) "__setattr__" = some (some (.builtin "object.__setattr__")))
    (mkS : PySem.W.makesIn K CS = true)
    (kcS : PySem.W.keepIn K (.ref CS) = true)
    (nEnds : PySem.W.findIn K (.ref CD) "ends" = some none)
    (nRegions : PySem.W.findIn K (.ref CD) "regions" = some none)
    (nNow : PySem.W.findIn K (.ref CS) "now" = some none)
    (nElder : PySem.W.findIn K (.ref CS) "elder" = some none)
    (g_MOST_ENDS : PySem.W.nsIn K mainGlobals "MOST_ENDS" = some (some (.int 3 t_MOST_ENDS)))
    (g_NEW_ENDS : PySem.W.nsIn K mainGlobals "NEW_ENDS" = some (some (.int 2 t_NEW_ENDS)))
    (g_JOIN : PySem.W.nsIn K mainGlobals "JOIN" = some (some (.int 1 t_JOIN)))
    (g_PART : PySem.W.nsIn K mainGlobals "PART" = some (some (.int 2 t_PART)))
    (g_DEAD : PySem.W.nsIn K mainGlobals "DEAD" = some (some (.int 0 t_DEAD)))
    (g_NONE_SUCH : PySem.W.nsIn K mainGlobals "NONE_SUCH" = some (some (.int (-1) t_NONE_SUCH)))
    (g_OUT_OF_ORDER : PySem.W.nsIn K mainGlobals "OUT_OF_ORDER" = some (some (.int (-2) t_OUT_OF_ORDER)))
    (g_NOT_TO_BE_DRAWN : PySem.W.nsIn K mainGlobals "NOT_TO_BE_DRAWN" = some (some (.int (-3) t_NOT_TO_BE_DRAWN)))
    (g_TOO_MANY : PySem.W.nsIn K mainGlobals "TOO_MANY" = some (some (.int (-7) t_TOO_MANY)))
    (g_NOTHING : PySem.W.nsIn K mainGlobals "NOTHING" = some (some (.int (-9) t_NOTHING)))
    (g_MOST_SPOTS : PySem.W.nsIn K mainGlobals "MOST_SPOTS" = some (some (.int 6 t_MOST_SPOTS)))
    (g_MOST_LIVES : PySem.W.nsIn K mainGlobals "MOST_LIVES" = some (some (.int 6 t_MOST_LIVES)))
    (g_BEGINS : PySem.W.nsIn K mainGlobals "BEGINS" = some (some (.int 0 t_BEGINS)))
    (g_JOINS : PySem.W.nsIn K mainGlobals "JOINS" = some (some (.int 1 t_JOINS)))
    (g_PARTS : PySem.W.nsIn K mainGlobals "PARTS" = some (some (.int 2 t_PARTS)))
    (g_UNDO : PySem.W.nsIn K mainGlobals "UNDO" = some (some (.int 3 t_UNDO)))
    (g_SHOWS : PySem.W.nsIn K mainGlobals "SHOWS" = some (some (.int 4 t_SHOWS)))
    (g_SPOTS : PySem.W.nsIn K mainGlobals "SPOTS" = some (some (.int 5 t_SPOTS)))
    (g_COUNTS : PySem.W.nsIn K mainGlobals "COUNTS" = some (some (.int 6 t_COUNTS)))
    (g_WAYS : PySem.W.nsIn K mainGlobals "WAYS" = some (some (.int 7 t_WAYS)))
    (g_WINS : PySem.W.nsIn K mainGlobals "WINS" = some (some (.int 8 t_WINS)))
    (g_WORTH : PySem.W.nsIn K mainGlobals "WORTH" = some (some (.int 9 t_WORTH)))
    (gN : PySem.W.nsIn K mainGlobals "NUMBERS" = some (some (.ref aN)))
    (lN : K.lookup aN = some ⟨.type "tuple", odN, .seq #[.int 1 u0, .int 5 u1, .int 4 u2, .int 0 u3, .int 1 u4, .int 0 u5, .int 0 u6, .int 0 u7, .int 1 u8, .int 0 u9, .int 0 u10] nN, slN⟩)
    (b_len : PySem.W.nsIn K mainGlobals "len" = some none)
    (b_sum : PySem.W.nsIn K mainGlobals "sum" = some none)
    (b_any : PySem.W.nsIn K mainGlobals "any" = some none)
    (b_all : PySem.W.nsIn K mainGlobals "all" = some none)
    (b_list : PySem.W.nsIn K mainGlobals "list" = some none)
    (b_tuple : PySem.W.nsIn K mainGlobals "tuple" = some none)
    (b_min : PySem.W.nsIn K mainGlobals "min" = some none)
    (b_max : PySem.W.nsIn K mainGlobals "max" = some none)
    (b_set : PySem.W.nsIn K mainGlobals "set" = some none)
    (b_range : PySem.W.nsIn K mainGlobals "range" = some none)
    (b_enumerate : PySem.W.nsIn K mainGlobals "enumerate" = some none)
    : ∃ fd : FuncData, (∀ (s : Shared) (us : List Value), us.length = (["calls"] : List Str).length → BindsTo s fd ⟨us, []⟩ ((["calls"] : List Str).zip us)) ∧ ∀ base : Heap, K.In base → base.Ns mainGlobals mg → FnOk P w K mg base CX0 17 fa fd ["calls"] (sp_answers K) := by
  have e := hfa.symm.trans (PySem.W.mg_of X G a_answers)
  cases e
  let a : Ads := { CD := CD, CS := CS, aN := aN, t_MOST_ENDS := t_MOST_ENDS, t_NEW_ENDS := t_NEW_ENDS, t_JOIN := t_JOIN, t_PART := t_PART, t_DEAD := t_DEAD, t_NONE_SUCH := t_NONE_SUCH, t_OUT_OF_ORDER := t_OUT_OF_ORDER, t_NOT_TO_BE_DRAWN := t_NOT_TO_BE_DRAWN, t_TOO_MANY := t_TOO_MANY, t_NOTHING := t_NOTHING, t_MOST_SPOTS := t_MOST_SPOTS, t_MOST_LIVES := t_MOST_LIVES, t_BEGINS := t_BEGINS, t_JOINS := t_JOINS, t_PARTS := t_PARTS, t_UNDO := t_UNDO, t_SHOWS := t_SHOWS, t_SPOTS := t_SPOTS, t_COUNTS := t_COUNTS, t_WAYS := t_WAYS, t_WINS := t_WINS, t_WORTH := t_WORTH, f_D_init := f_D_init, f_D_lives_of := f_D_lives_of, f_D_all_lives := f_D_all_lives, f_D_all_borders := f_D_all_borders, f_D_has_place := f_D_has_place, f_at_first := f_at_first, f_all_round := f_all_round, f_ends_behind := f_ends_behind, f_regions_with := f_regions_with, f_joined := f_joined, f_near_border := f_near_border, f_far_border := f_far_border, f_parted := f_parted, f_pieces_of := f_pieces_of, f_may_end := f_may_end, f_places_from := f_places_from, f_joins_in := f_joins_in, f_bows_on := f_bows_on, f_choices := f_choices, f_others_than := f_others_than, f_parts_in := f_parts_in, f_lines_of := f_lines_of, f_drawn := f_drawn, f_numbers_of := f_numbers_of, f_shown_as := f_shown_as, f_thinned := f_thinned, f_is_live := f_is_live, f_is_open := f_is_open, f_lean := f_lean, f_form_of := f_form_of, f_behind := f_behind, f_least_missing := f_least_missing, f_wins_in := f_wins_in, f_first_win := f_first_win, f_worth_in := f_worth_in, f_span_in := f_span_in, f_is_choice := f_is_choice, f_S_init := f_S_init, f_S_go_on := f_S_go_on, f_S_begins := f_S_begins, f_S_joins := f_S_joins, f_S_parts := f_S_parts, f_S_undo := f_S_undo, f_S_shows := f_S_shows, f_S_spots := f_S_spots, f_S_counts := f_S_counts, f_S_ways := f_S_ways, f_S_wins := f_S_wins, f_S_worth := f_S_worth, f_S_span := f_S_span, f_S_deed := f_S_deed, f_S_question := f_S_question, f_call_at := f_call_at, f_answers := fa, d_D_init := PySem.W.fnOf "__init__" "Drawing.__init__" (defArgs s_D_init) (defBody s_D_init) (defScope s_D_init) .none kV_D_init dc_D_init pm_D_init an_D_init cd_D_init ct_D_init, d_D_lives_of := PySem.W.fnOf "lives_of" "Drawing.lives_of" (defArgs s_D_lives_of) (defBody s_D_lives_of) (defScope s_D_lives_of) .none kV_D_lives_of dc_D_lives_of pm_D_lives_of an_D_lives_of cd_D_lives_of ct_D_lives_of, d_D_all_lives := PySem.W.fnOf "all_lives" "Drawing.all_lives" (defArgs s_D_all_lives) (defBody s_D_all_lives) (defScope s_D_all_lives) .none kV_D_all_lives dc_D_all_lives pm_D_all_lives an_D_all_lives cd_D_all_lives ct_D_all_lives, d_D_all_borders := PySem.W.fnOf "all_borders" "Drawing.all_borders" (defArgs s_D_all_borders) (defBody s_D_all_borders) (defScope s_D_all_borders) .none kV_D_all_borders dc_D_all_borders pm_D_all_borders an_D_all_borders cd_D_all_borders ct_D_all_borders, d_D_has_place := PySem.W.fnOf "has_place" "Drawing.has_place" (defArgs s_D_has_place) (defBody s_D_has_place) (defScope s_D_has_place) .none kV_D_has_place dc_D_has_place pm_D_has_place an_D_has_place cd_D_has_place ct_D_has_place, d_at_first := PySem.W.fnOf "at_first" "at_first" (defArgs s_at_first) (defBody s_at_first) (defScope s_at_first) .none kV_at_first dc_at_first pm_at_first an_at_first cd_at_first ct_at_first, d_all_round := PySem.W.fnOf "all_round" "all_round" (defArgs s_all_round) (defBody s_all_round) (defScope s_all_round) .none kV_all_round dc_all_round pm_all_round an_all_round cd_all_round ct_all_round, d_ends_behind := PySem.W.fnOf "ends_behind" "ends_behind" (defArgs s_ends_behind) (defBody s_ends_behind) (defScope s_ends_behind) .none kV_ends_behind dc_ends_behind pm_ends_behind an_ends_behind cd_ends_behind ct_ends_behind, d_regions_with := PySem.W.fnOf "regions_with" "regions_with" (defArgs s_regions_with) (defBody s_regions_with) (defScope s_regions_with) .none kV_regions_with dc_regions_with pm_regions_with an_regions_with cd_regions_with ct_regions_with, d_joined := PySem.W.fnOf "joined" "joined" (defArgs s_joined) (defBody s_joined) (defScope s_joined) .none kV_joined dc_joined pm_joined an_joined cd_joined ct_joined, d_near_border := PySem.W.fnOf "near_border" "near_border" (defArgs s_near_border) (defBody s_near_border) (defScope s_near_border) .none kV_near_border dc_near_border pm_near_border an_near_border cd_near_border ct_near_border, d_far_border := PySem.W.fnOf "far_border" "far_border" (defArgs s_far_border) (defBody s_far_border) (defScope s_far_border) .none kV_far_border dc_far_border pm_far_border an_far_border cd_far_border ct_far_border, d_parted := PySem.W.fnOf "parted" "parted" (defArgs s_parted) (defBody s_parted) (defScope s_parted) .none kV_parted dc_parted pm_parted an_parted cd_parted ct_parted, d_pieces_of := PySem.W.fnOf "pieces_of" "pieces_of" (defArgs s_pieces_of) (defBody s_pieces_of) (defScope s_pieces_of) .none kV_pieces_of dc_pieces_of pm_pieces_of an_pieces_of cd_pieces_of ct_pieces_of, d_may_end := PySem.W.fnOf "may_end" "may_end" (defArgs s_may_end) (defBody s_may_end) (defScope s_may_end) .none kV_may_end dc_may_end pm_may_end an_may_end cd_may_end ct_may_end, d_places_from := PySem.W.fnOf "places_from" "places_from" (defArgs s_places_from) (defBody s_places_from) (defScope s_places_from) .none kV_places_from dc_places_from pm_places_from an_places_from cd_places_from ct_places_from, d_joins_in := PySem.W.fnOf "joins_in" "joins_in" (defArgs s_joins_in) (defBody s_joins_in) (defScope s_joins_in) .none kV_joins_in dc_joins_in pm_joins_in an_joins_in cd_joins_in ct_joins_in, d_bows_on := PySem.W.fnOf "bows_on" "bows_on" (defArgs s_bows_on) (defBody s_bows_on) (defScope s_bows_on) .none kV_bows_on dc_bows_on pm_bows_on an_bows_on cd_bows_on ct_bows_on, d_choices := PySem.W.fnOf "choices" "choices" (defArgs s_choices) (defBody s_choices) (defScope s_choices) .none kV_choices dc_choices pm_choices an_choices cd_choices ct_choices, d_others_than := PySem.W.fnOf "others_than" "others_than" (defArgs s_others_than) (defBody s_others_than) (defScope s_others_than) .none kV_others_than dc_others_than pm_others_than an_others_than cd_others_than ct_others_than, d_parts_in := PySem.W.fnOf "parts_in" "parts_in" (defArgs s_parts_in) (defBody s_parts_in) (defScope s_parts_in) .none kV_parts_in dc_parts_in pm_parts_in an_parts_in cd_parts_in ct_parts_in, d_lines_of := PySem.W.fnOf "lines_of" "lines_of" (defArgs s_lines_of) (defBody s_lines_of) (defScope s_lines_of) .none kV_lines_of dc_lines_of pm_lines_of an_lines_of cd_lines_of ct_lines_of, d_drawn := PySem.W.fnOf "drawn" "drawn" (defArgs s_drawn) (defBody s_drawn) (defScope s_drawn) .none kV_drawn dc_drawn pm_drawn an_drawn cd_drawn ct_drawn, d_numbers_of := PySem.W.fnOf "numbers_of" "numbers_of" (defArgs s_numbers_of) (defBody s_numbers_of) (defScope s_numbers_of) .none kV_numbers_of dc_numbers_of pm_numbers_of an_numbers_of cd_numbers_of ct_numbers_of, d_shown_as := PySem.W.fnOf "shown_as" "shown_as" (defArgs s_shown_as) (defBody s_shown_as) (defScope s_shown_as) .none kV_shown_as dc_shown_as pm_shown_as an_shown_as cd_shown_as ct_shown_as, d_thinned := PySem.W.fnOf "thinned" "thinned" (defArgs s_thinned) (defBody s_thinned) (defScope s_thinned) .none kV_thinned dc_thinned pm_thinned an_thinned cd_thinned ct_thinned, d_is_live := PySem.W.fnOf "is_live" "is_live" (defArgs s_is_live) (defBody s_is_live) (defScope s_is_live) .none kV_is_live dc_is_live pm_is_live an_is_live cd_is_live ct_is_live, d_is_open := PySem.W.fnOf "is_open" "is_open" (defArgs s_is_open) (defBody s_is_open) (defScope s_is_open) .none kV_is_open dc_is_open pm_is_open an_is_open cd_is_open ct_is_open, d_lean := PySem.W.fnOf "lean" "lean" (defArgs s_lean) (defBody s_lean) (defScope s_lean) .none kV_lean dc_lean pm_lean an_lean cd_lean ct_lean, d_form_of := PySem.W.fnOf "form_of" "form_of" (defArgs s_form_of) (defBody s_form_of) (defScope s_form_of) .none kV_form_of dc_form_of pm_form_of an_form_of cd_form_of ct_form_of, d_behind := PySem.W.fnOf "behind" "behind" (defArgs s_behind) (defBody s_behind) (defScope s_behind) .none kV_behind dc_behind pm_behind an_behind cd_behind ct_behind, d_least_missing := PySem.W.fnOf "least_missing" "least_missing" (defArgs s_least_missing) (defBody s_least_missing) (defScope s_least_missing) .none kV_least_missing dc_least_missing pm_least_missing an_least_missing cd_least_missing ct_least_missing, d_wins_in := PySem.W.fnOf "wins_in" "wins_in" (defArgs s_wins_in) (defBody s_wins_in) (defScope s_wins_in) .none kV_wins_in dc_wins_in pm_wins_in an_wins_in cd_wins_in ct_wins_in, d_first_win := PySem.W.fnOf "first_win" "first_win" (defArgs s_first_win) (defBody s_first_win) (defScope s_first_win) .none kV_first_win dc_first_win pm_first_win an_first_win cd_first_win ct_first_win, d_worth_in := PySem.W.fnOf "worth_in" "worth_in" (defArgs s_worth_in) (defBody s_worth_in) (defScope s_worth_in) .none kV_worth_in dc_worth_in pm_worth_in an_worth_in cd_worth_in ct_worth_in, d_span_in := PySem.W.fnOf "span_in" "span_in" (defArgs s_span_in) (defBody s_span_in) (defScope s_span_in) .none kV_span_in dc_span_in pm_span_in an_span_in cd_span_in ct_span_in, d_is_choice := PySem.W.fnOf "is_choice" "is_choice" (defArgs s_is_choice) (defBody s_is_choice) (defScope s_is_choice) .none kV_is_choice dc_is_choice pm_is_choice an_is_choice cd_is_choice ct_is_choice, d_S_init := PySem.W.fnOf "__init__" "Sheet.__init__" (defArgs s_S_init) (defBody s_S_init) (defScope s_S_init) .none kV_S_init dc_S_init pm_S_init an_S_init cd_S_init ct_S_init, d_S_go_on := PySem.W.fnOf "go_on" "Sheet.go_on" (defArgs s_S_go_on) (defBody s_S_go_on) (defScope s_S_go_on) .none kV_S_go_on dc_S_go_on pm_S_go_on an_S_go_on cd_S_go_on ct_S_go_on, d_S_begins := PySem.W.fnOf "begins" "Sheet.begins" (defArgs s_S_begins) (defBody s_S_begins) (defScope s_S_begins) .none kV_S_begins dc_S_begins pm_S_begins an_S_begins cd_S_begins ct_S_begins, d_S_joins := PySem.W.fnOf "joins" "Sheet.joins" (defArgs s_S_joins) (defBody s_S_joins) (defScope s_S_joins) .none kV_S_joins dc_S_joins pm_S_joins an_S_joins cd_S_joins ct_S_joins, d_S_parts := PySem.W.fnOf "parts" "Sheet.parts" (defArgs s_S_parts) (defBody s_S_parts) (defScope s_S_parts) .none kV_S_parts dc_S_parts pm_S_parts an_S_parts cd_S_parts ct_S_parts, d_S_undo := PySem.W.fnOf "undo" "Sheet.undo" (defArgs s_S_undo) (defBody s_S_undo) (defScope s_S_undo) .none kV_S_undo dc_S_undo pm_S_undo an_S_undo cd_S_undo ct_S_undo, d_S_shows := PySem.W.fnOf "shows" "Sheet.shows" (defArgs s_S_shows) (defBody s_S_shows) (defScope s_S_shows) .none kV_S_shows dc_S_shows pm_S_shows an_S_shows cd_S_shows ct_S_shows, d_S_spots := PySem.W.fnOf "spots" "Sheet.spots" (defArgs s_S_spots) (defBody s_S_spots) (defScope s_S_spots) .none kV_S_spots dc_S_spots pm_S_spots an_S_spots cd_S_spots ct_S_spots, d_S_counts := PySem.W.fnOf "counts" "Sheet.counts" (defArgs s_S_counts) (defBody s_S_counts) (defScope s_S_counts) .none kV_S_counts dc_S_counts pm_S_counts an_S_counts cd_S_counts ct_S_counts, d_S_ways := PySem.W.fnOf "ways" "Sheet.ways" (defArgs s_S_ways) (defBody s_S_ways) (defScope s_S_ways) .none kV_S_ways dc_S_ways pm_S_ways an_S_ways cd_S_ways ct_S_ways, d_S_wins := PySem.W.fnOf "wins" "Sheet.wins" (defArgs s_S_wins) (defBody s_S_wins) (defScope s_S_wins) .none kV_S_wins dc_S_wins pm_S_wins an_S_wins cd_S_wins ct_S_wins, d_S_worth := PySem.W.fnOf "worth" "Sheet.worth" (defArgs s_S_worth) (defBody s_S_worth) (defScope s_S_worth) .none kV_S_worth dc_S_worth pm_S_worth an_S_worth cd_S_worth ct_S_worth, d_S_span := PySem.W.fnOf "span" "Sheet.span" (defArgs s_S_span) (defBody s_S_span) (defScope s_S_span) .none kV_S_span dc_S_span pm_S_span an_S_span cd_S_span ct_S_span, d_S_deed := PySem.W.fnOf "deed" "Sheet.deed" (defArgs s_S_deed) (defBody s_S_deed) (defScope s_S_deed) .none kV_S_deed dc_S_deed pm_S_deed an_S_deed cd_S_deed ct_S_deed, d_S_question := PySem.W.fnOf "question" "Sheet.question" (defArgs s_S_question) (defBody s_S_question) (defScope s_S_question) .none kV_S_question dc_S_question pm_S_question an_S_question cd_S_question ct_S_question, d_call_at := PySem.W.fnOf "call_at" "call_at" (defArgs s_call_at) (defBody s_call_at) (defScope s_call_at) .none kV_call_at dc_call_at pm_call_at an_call_at cd_call_at ct_call_at, d_answers := PySem.W.fnOf "answers" "answers" (defArgs s_answers) (defBody s_answers) (defScope s_answers) .none kV_answers dc_answers pm_answers an_answers cd_answers ct_answers }
  have T : Txt K mg a := {
    clD := ⟨pgD, hdD, poD, saD⟩
    clS := ⟨pgS, hdS, poS, saS⟩
    mkD := ⟨mkD, a_D_init, i_D_init, kcD⟩
    mkS := ⟨mkS, a_S_init, i_S_init, kcS⟩
    nEnds := nEnds
    nRegions := nRegions
    nNow := nNow
    nElder := nElder
    mg_Drawing := PySem.W.mg_of X G gD
    mg_Sheet := PySem.W.mg_of X G gS
    mg_MOST_ENDS := PySem.W.mg_of X G g_MOST_ENDS
    mg_NEW_ENDS := PySem.W.mg_of X G g_NEW_ENDS
    mg_JOIN := PySem.W.mg_of X G g_JOIN
    mg_PART := PySem.W.mg_of X G g_PART
    mg_DEAD := PySem.W.mg_of X G g_DEAD
    mg_NONE_SUCH := PySem.W.mg_of X G g_NONE_SUCH
    mg_OUT_OF_ORDER := PySem.W.mg_of X G g_OUT_OF_ORDER
    mg_NOT_TO_BE_DRAWN := PySem.W.mg_of X G g_NOT_TO_BE_DRAWN
    mg_TOO_MANY := PySem.W.mg_of X G g_TOO_MANY
    mg_NOTHING := PySem.W.mg_of X G g_NOTHING
    mg_MOST_SPOTS := PySem.W.mg_of X G g_MOST_SPOTS
    mg_MOST_LIVES := PySem.W.mg_of X G g_MOST_LIVES
    mg_BEGINS := PySem.W.mg_of X G g_BEGINS
    mg_JOINS := PySem.W.mg_of X G g_JOINS
    mg_PARTS := PySem.W.mg_of X G g_PARTS
    mg_UNDO := PySem.W.mg_of X G g_UNDO
    mg_SHOWS := PySem.W.mg_of X G g_SHOWS
    mg_SPOTS := PySem.W.mg_of X G g_SPOTS
    mg_COUNTS := PySem.W.mg_of X G g_COUNTS
    mg_WAYS := PySem.W.mg_of X G g_WAYS
    mg_WINS := PySem.W.mg_of X G g_WINS
    mg_WORTH := PySem.W.mg_of X G g_WORTH
    mg_NUMBERS := PySem.W.mg_of X G gN
    nums := fun H => .inr ⟨_, _, _, lN, rfl, rfl, (by show 11 ≤ sizeLine; decide), .cons ⟨_, rfl⟩ (.cons ⟨_, rfl⟩ (.cons ⟨_, rfl⟩ (.cons ⟨_, rfl⟩ (.cons ⟨_, rfl⟩ (.cons ⟨_, rfl⟩ (.cons ⟨_, rfl⟩ (.cons ⟨_, rfl⟩ (.cons ⟨_, rfl⟩ (.cons ⟨_, rfl⟩ (.cons ⟨_, rfl⟩ (.nil)))))))))))⟩
    n_len := PySem.W.mg_none_of X G b_len
    n_sum := PySem.W.mg_none_of X G b_sum
    n_any := PySem.W.mg_none_of X G b_any
    n_all := PySem.W.mg_none_of X G b_all
    n_list := PySem.W.mg_none_of X G b_list
    n_tuple := PySem.W.mg_none_of X G b_tuple
    n_min := PySem.W.mg_none_of X G b_min
    n_max := PySem.W.mg_none_of X G b_max
    n_set := PySem.W.mg_none_of X G b_set
    n_range := PySem.W.mg_none_of X G b_range
    n_enumerate := PySem.W.mg_none_of X G b_enumerate
    F_D_init := fun_mk (st := s_D_init) l_D_init c_D_init k_D_init
    F_D_lives_of := fun_mk (st := s_D_lives_of) l_D_lives_of c_D_lives_of k_D_lives_of
    m_D_lives_of := ⟨a_D_lives_of, i_D_lives_of, k_D_lives_of⟩
    F_D_all_lives := fun_mk (st := s_D_all_lives) l_D_all_lives c_D_all_lives k_D_all_lives
    m_D_all_lives := ⟨a_D_all_lives, i_D_all_lives, k_D_all_lives⟩
    F_D_all_borders := fun_mk (st := s_D_all_borders) l_D_all_borders c_D_all_borders k_D_all_borders
    m_D_all_borders := ⟨a_D_all_borders, i_D_all_borders, k_D_all_borders⟩
    F_D_has_place := fun_mk (st := s_D_has_place) l_D_has_place c_D_has_place k_D_has_place
    m_D_has_place := ⟨a_D_has_place, i_D_has_place, k_D_has_place⟩
    F_at_first := fun_mk (st := s_at_first) l_at_first c_at_first k_at_first
    mg_at_first := PySem.W.mg_of X G a_at_first
    F_all_round := fun_mk (st := s_all_round) l_all_round c_all_round k_all_round
    mg_all_round := PySem.W.mg_of X G a_all_round
    F_ends_behind := fun_mk (st := s_ends_behind) l_ends_behind c_ends_behind k_ends_behind
    mg_ends_behind := PySem.W.mg_of X G a_ends_behind
    F_regions_with := fun_mk (st := s_regions_with) l_regions_with c_regions_with k_regions_with
    mg_regions_with := PySem.W.mg_of X G a_regions_with
    F_joined := fun_mk (st := s_joined) l_joined c_joined k_joined
    mg_joined := PySem.W.mg_of X G a_joined
    F_near_border := fun_mk (st := s_near_border) l_near_border c_near_border k_near_border
    mg_near_border := PySem.W.mg_of X G a_near_border
    F_far_border := fun_mk (st := s_far_border) l_far_border c_far_border k_far_border
    mg_far_border := PySem.W.mg_of X G a_far_border
    F_parted := fun_mk (st := s_parted) l_parted c_parted k_parted
    mg_parted := PySem.W.mg_of X G a_parted
    F_pieces_of := fun_mk (st := s_pieces_of) l_pieces_of c_pieces_of k_pieces_of
    mg_pieces_of := PySem.W.mg_of X G a_pieces_of
    F_may_end := fun_mk (st := s_may_end) l_may_end c_may_end k_may_end
    mg_may_end := PySem.W.mg_of X G a_may_end
    F_places_from := fun_mk (st := s_places_from) l_places_from c_places_from k_places_from
    mg_places_from := PySem.W.mg_of X G a_places_from
    F_joins_in := fun_mk (st := s_joins_in) l_joins_in c_joins_in k_joins_in
    mg_joins_in := PySem.W.mg_of X G a_joins_in
    F_bows_on := fun_mk (st := s_bows_on) l_bows_on c_bows_on k_bows_on
    mg_bows_on := PySem.W.mg_of X G a_bows_on
    F_choices := fun_mk (st := s_choices) l_choices c_choices k_choices
    mg_choices := PySem.W.mg_of X G a_choices
    F_others_than := fun_mk (st := s_others_than) l_others_than c_others_than k_others_than
    mg_others_than := PySem.W.mg_of X G a_others_than
    F_parts_in := fun_mk (st := s_parts_in) l_parts_in c_parts_in k_parts_in
    mg_parts_in := PySem.W.mg_of X G a_parts_in
    F_lines_of := fun_mk (st := s_lines_of) l_lines_of c_lines_of k_lines_of
    mg_lines_of := PySem.W.mg_of X G a_lines_of
    F_drawn := fun_mk (st := s_drawn) l_drawn c_drawn k_drawn
    mg_drawn := PySem.W.mg_of X G a_drawn
    F_numbers_of := fun_mk (st := s_numbers_of) l_numbers_of c_numbers_of k_numbers_of
    mg_numbers_of := PySem.W.mg_of X G a_numbers_of
    F_shown_as := fun_mk (st := s_shown_as) l_shown_as c_shown_as k_shown_as
    mg_shown_as := PySem.W.mg_of X G a_shown_as
    F_thinned := fun_mk (st := s_thinned) l_thinned c_thinned k_thinned
    mg_thinned := PySem.W.mg_of X G a_thinned
    F_is_live := fun_mk (st := s_is_live) l_is_live c_is_live k_is_live
    mg_is_live := PySem.W.mg_of X G a_is_live
    F_is_open := fun_mk (st := s_is_open) l_is_open c_is_open k_is_open
    mg_is_open := PySem.W.mg_of X G a_is_open
    F_lean := fun_mk (st := s_lean) l_lean c_lean k_lean
    mg_lean := PySem.W.mg_of X G a_lean
    F_form_of := fun_mk (st := s_form_of) l_form_of c_form_of k_form_of
    mg_form_of := PySem.W.mg_of X G a_form_of
    F_behind := fun_mk (st := s_behind) l_behind c_behind k_behind
    mg_behind := PySem.W.mg_of X G a_behind
    F_least_missing := fun_mk (st := s_least_missing) l_least_missing c_least_missing k_least_missing
    mg_least_missing := PySem.W.mg_of X G a_least_missing
    F_wins_in := fun_mk (st := s_wins_in) l_wins_in c_wins_in k_wins_in
    mg_wins_in := PySem.W.mg_of X G a_wins_in
    F_first_win := fun_mk (st := s_first_win) l_first_win c_first_win k_first_win
    mg_first_win := PySem.W.mg_of X G a_first_win
    F_worth_in := fun_mk (st := s_worth_in) l_worth_in c_worth_in k_worth_in
    mg_worth_in := PySem.W.mg_of X G a_worth_in
    F_span_in := fun_mk (st := s_span_in) l_span_in c_span_in k_span_in
    mg_span_in := PySem.W.mg_of X G a_span_in
    F_is_choice := fun_mk (st := s_is_choice) l_is_choice c_is_choice k_is_choice
    mg_is_choice := PySem.W.mg_of X G a_is_choice
    F_S_init := fun_mk (st := s_S_init) l_S_init c_S_init k_S_init
    F_S_go_on := fun_mk (st := s_S_go_on) l_S_go_on c_S_go_on k_S_go_on
    m_S_go_on := ⟨a_S_go_on, i_S_go_on, k_S_go_on⟩
    F_S_begins := fun_mk (st := s_S_begins) l_S_begins c_S_begins k_S_begins
    m_S_begins := ⟨a_S_begins, i_S_begins, k_S_begins⟩
    F_S_joins := fun_mk (st := s_S_joins) l_S_joins c_S_joins k_S_joins
    m_S_joins := ⟨a_S_joins, i_S_joins, k_S_joins⟩
    F_S_parts := fun_mk (st := s_S_parts) l_S_parts c_S_parts k_S_parts
    m_S_parts := ⟨a_S_parts, i_S_parts, k_S_parts⟩
    F_S_undo := fun_mk (st := s_S_undo) l_S_undo c_S_undo k_S_undo
    m_S_undo := ⟨a_S_undo, i_S_undo, k_S_undo⟩
    F_S_shows := fun_mk (st := s_S_shows) l_S_shows c_S_shows k_S_shows
    m_S_shows := ⟨a_S_shows, i_S_shows, k_S_shows⟩
    F_S_spots := fun_mk (st := s_S_spots) l_S_spots c_S_spots k_S_spots
    m_S_spots := ⟨a_S_spots, i_S_spots, k_S_spots⟩
    F_S_counts := fun_mk (st := s_S_counts) l_S_counts c_S_counts k_S_counts
    m_S_counts := ⟨a_S_counts, i_S_counts, k_S_counts⟩
    F_S_ways := fun_mk (st := s_S_ways) l_S_ways c_S_ways k_S_ways
    m_S_ways := ⟨a_S_ways, i_S_ways, k_S_ways⟩
    F_S_wins := fun_mk (st := s_S_wins) l_S_wins c_S_wins k_S_wins
    m_S_wins := ⟨a_S_wins, i_S_wins, k_S_wins⟩
    F_S_worth := fun_mk (st := s_S_worth) l_S_worth c_S_worth k_S_worth
    m_S_worth := ⟨a_S_worth, i_S_worth, k_S_worth⟩
    F_S_span := fun_mk (st := s_S_span) l_S_span c_S_span k_S_span
    m_S_span := ⟨a_S_span, i_S_span, k_S_span⟩
    F_S_deed := fun_mk (st := s_S_deed) l_S_deed c_S_deed k_S_deed
    m_S_deed := ⟨a_S_deed, i_S_deed, k_S_deed⟩
    F_S_question := fun_mk (st := s_S_question) l_S_question c_S_question k_S_question
    m_S_question := ⟨a_S_question, i_S_question, k_S_question⟩
    F_call_at := fun_mk (st := s_call_at) l_call_at c_call_at k_call_at
    mg_call_at := PySem.W.mg_of X G a_call_at
    F_answers := fun_mk (st := s_answers) l_answers c_answers k_answers
    mg_answers := PySem.W.mg_of X G a_answers }
  exact ⟨a.d_answers, fun s us hu => match us, hu with | [_], _ => .of_eq rfl, fun base _ _ => ok_answers T⟩
end Sg
open PySem PySem.W PyProof.Rows
set_option maxRecDepth 100000 in
set_option maxHeartbeats 0 in
theorem PySem.Challenge.cw_sproutlines_s01_answers_holds : PySem.Challenge.rw_sproutlines_s01_answers.Holds := by
  w_on; k_headS; (case hw => exact ⟨[.list [.int 3]], by decide +kernel, by decide +kernel⟩)
  k_fillS
  refine L2.walk_specK (r := PySem.Challenge.rw_sproutlines_s01_answers) (k := 17) (CX := L2.CX0) (ps := ["calls"]) (sp := Sg.sp_answers) (by decide +kernel) rfl rfl ⟨rfl, by decide, by decide⟩ (fun w h Y => PySem.W.kIn_of Y) ?F ?S (fun _ _ _ _ z => z)
  case F =>
    intro w mg fa h Y KX G hmg
    refine' Sg.all_mk KX G hmg ?gD ?gS ?a_D_init ?i_D_init ?l_D_init ?c_D_init ?k_D_init ?a_D_lives_of ?i_D_lives_of ?l_D_lives_of ?c_D_lives_of ?k_D_lives_of ?a_D_all_lives ?i_D_all_lives ?l_D_all_lives ?c_D_all_lives ?k_D_all_lives ?a_D_all_borders ?i_D_all_borders ?l_D_all_borders ?c_D_all_borders ?k_D_all_borders ?a_D_has_place ?i_D_has_place ?l_D_has_place ?c_D_has_place ?k_D_has_place ?a_at_first ?l_at_first ?c_at_first ?k_at_first ?a_all_round ?l_all_round ?c_all_round ?k_all_round ?a_ends_behind ?l_ends_behind ?c_ends_behind ?k_ends_behind ?a_regions_with ?l_regions_with ?c_regions_with ?k_regions_with ?a_joined ?l_joined ?c_joined ?k_joined ?a_near_border ?l_near_border ?c_near_border ?k_near_border ?a_far_border ?l_far_border ?c_far_border ?k_far_border ?a_parted ?l_parted ?c_parted ?k_parted ?a_pieces_of ?l_pieces_of ?c_pieces_of ?k_pieces_of ?a_may_end ?l_may_end ?c_may_end ?k_may_end ?a_places_from ?l_places_from ?c_places_from ?k_places_from ?a_joins_in ?l_joins_in ?c_joins_in ?k_joins_in ?a_bows_on ?l_bows_on ?c_bows_on ?k_bows_on ?a_choices ?l_choices ?c_choices ?k_choices ?a_others_than ?l_others_than ?c_others_than ?k_others_than ?a_parts_in ?l_parts_in ?c_parts_in ?k_parts_in ?a_lines_of ?l_lines_of ?c_lines_of ?k_lines_of ?a_drawn ?l_drawn ?c_drawn ?k_drawn ?a_numbers_of ?l_numbers_of ?c_numbers_of ?k_numbers_of ?a_shown_as ?l_shown_as ?c_shown_as ?k_shown_as ?a_thinned ?l_thinned ?c_thinned ?k_thinned ?a_is_live ?l_is_live ?c_is_live ?k_is_live ?a_is_open ?l_is_open ?c_is_open ?k_is_open ?a_lean ?l_lean ?c_lean ?k_lean ?a_form_of ?l_form_of ?c_form_of ?k_form_of ?a_behind ?l_behind ?c_behind ?k_behind ?a_least_missing ?l_least_missing ?c_least_missing ?k_least_missing ?a_wins_in ?l_wins_in ?c_wins_in ?k_wins_in ?a_first_win ?l_first_win ?c_first_win ?k_first_win ?a_worth_in ?l_worth_in ?c_worth_in ?k_worth_in ?a_span_in ?l_span_in ?c_span_in ?k_span_in ?a_is_choice ?l_is_choice ?c_is_choice ?k_is_choice ?a_S_init ?i_S_init ?l_S_init ?c_S_init ?k_S_init ?a_S_go_on ?i_S_go_on ?l_S_go_on ?c_S_go_on ?k_S_go_on ?a_S_begins ?i_S_begins ?l_S_begins ?c_S_begins ?k_S_begins ?a_S_joins ?i_S_joins ?l_S_joins ?c_S_joins ?k_S_joins ?a_S_parts ?i_S_parts ?l_S_parts ?c_S_parts ?k_S_parts ?a_S_undo ?i_S_undo ?l_S_undo ?c_S_undo ?k_S_undo ?a_S_shows ?i_S_shows ?l_S_shows ?c_S_shows ?k_S_shows ?a_S_spots ?i_S_spots ?l_S_spots ?c_S_spots ?k_S_spots ?a_S_counts ?i_S_counts ?l_S_counts ?c_S_counts ?k_S_counts ?a_S_ways ?i_S_ways ?l_S_ways ?c_S_ways ?k_S_ways ?a_S_wins ?i_S_wins ?l_S_wins ?c_S_wins ?k_S_wins ?a_S_worth ?i_S_worth ?l_S_worth ?c_S_worth ?k_S_worth ?a_S_span ?i_S_span ?l_S_span ?c_S_span ?k_S_span ?a_S_deed ?i_S_deed ?l_S_deed ?c_S_deed ?k_S_deed ?a_S_question ?i_S_question ?l_S_question ?c_S_question ?k_S_question ?a_call_at ?l_call_at ?c_call_at ?k_call_at ?a_answers ?l_answers ?c_answers ?k_answers ?pgD ?hdD ?poD ?saD ?mkD ?kcD ?pgS ?hdS ?poS ?saS ?mkS ?kcS ?nEnds ?nRegions ?nNow ?nElder ?g_MOST_ENDS ?g_NEW_ENDS ?g_JOIN ?g_PART ?g_DEAD ?g_NONE_SUCH ?g_OUT_OF_ORDER ?g_NOT_TO_BE_DRAWN ?g_TOO_MANY ?g_NOTHING ?g_MOST_SPOTS ?g_MOST_LIVES ?g_BEGINS ?g_JOINS ?g_PARTS ?g_UNDO ?g_SHOWS ?g_SPOTS ?g_COUNTS ?g_WAYS ?g_WINS ?g_WORTH ?gN ?lN ?b_len ?b_sum ?b_any ?b_all ?b_list ?b_tuple ?b_min ?b_max ?b_set ?b_range ?b_enumerate
    (case gD => k_is)
    (case gS => k_is)
    (case a_D_init => k_is)
    (case i_D_init => k_is)
    (case l_D_init => k_is)
    (case c_D_init => k_is)
    (case k_D_init => k_is)
    (case a_D_lives_of => k_is)
    (case i_D_lives_of => k_is)
    (case l_D_lives_of => k_is)
    (case c_D_lives_of => k_is)
    (case k_D_lives_of => k_is)
    (case a_D_all_lives => k_is)
    (case i_D_all_lives => k_is)
    (case l_D_all_lives => k_is)
    (case c_D_all_lives => k_is)
    (case k_D_all_lives => k_is)
    (case a_D_all_borders => k_is)
    (case i_D_all_borders => k_is)
    (case l_D_all_borders => k_is)
    (case c_D_all_borders => k_is)
    (case k_D_all_borders => k_is)
    (case a_D_has_place => k_is)
    (case i_D_has_place => k_is)
    (case l_D_has_place => k_is)
    (case c_D_has_place => k_is)
    (case k_D_has_place => k_is)
    (case a_at_first => k_is)
    (case l_at_first => k_is)
    (case c_at_first => k_is)
    (case k_at_first => k_is)
    (case a_all_round => k_is)
    (case l_all_round => k_is)
    (case c_all_round => k_is)
    (case k_all_round => k_is)
    (case a_ends_behind => k_is)
    (case l_ends_behind => k_is)
    (case c_ends_behind => k_is)
    (case k_ends_behind => k_is)
    (case a_regions_with => k_is)
    (case l_regions_with => k_is)
    (case c_regions_with => k_is)
    (case k_regions_with => k_is)
    (case a_joined => k_is)
    (case l_joined => k_is)
    (case c_joined => k_is)
    (case k_joined => k_is)
    (case a_near_border => k_is)
    (case l_near_border => k_is)
    (case c_near_border => k_is)
    (case k_near_border => k_is)
    (case a_far_border => k_is)
    (case l_far_border => k_is)
    (case c_far_border => k_is)
    (case k_far_border => k_is)
    (case a_parted => k_is)
    (case l_parted => k_is)
    (case c_parted => k_is)
    (case k_parted => k_is)
    (case a_pieces_of => k_is)
    (case l_pieces_of => k_is)
    (case c_pieces_of => k_is)
    (case k_pieces_of => k_is)
    (case a_may_end => k_is)
    (case l_may_end => k_is)
    (case c_may_end => k_is)
    (case k_may_end => k_is)
    (case a_places_from => k_is)
    (case l_places_from => k_is)
    (case c_places_from => k_is)
    (case k_places_from => k_is)
    (case a_joins_in => k_is)
    (case l_joins_in => k_is)
    (case c_joins_in => k_is)
    (case k_joins_in => k_is)
    (case a_bows_on => k_is)
    (case l_bows_on => k_is)
    (case c_bows_on => k_is)
    (case k_bows_on => k_is)
    (case a_choices => k_is)
    (case l_choices => k_is)
    (case c_choices => k_is)
    (case k_choices => k_is)
    (case a_others_than => k_is)
    (case l_others_than => k_is)
    (case c_others_than => k_is)
    (case k_others_than => k_is)
    (case a_parts_in => k_is)
    (case l_parts_in => k_is)
    (case c_parts_in => k_is)
    (case k_parts_in => k_is)
    (case a_lines_of => k_is)
    (case l_lines_of => k_is)
    (case c_lines_of => k_is)
    (case k_lines_of => k_is)
    (case a_drawn => k_is)
    (case l_drawn => k_is)
    (case c_drawn => k_is)
    (case k_drawn => k_is)
    (case a_numbers_of => k_is)
    (case l_numbers_of => k_is)
    (case c_numbers_of => k_is)
    (case k_numbers_of => k_is)
    (case a_shown_as => k_is)
    (case l_shown_as => k_is)
    (case c_shown_as => k_is)
    (case k_shown_as => k_is)
    (case a_thinned => k_is)
    (case l_thinned => k_is)
    (case c_thinned => k_is)
    (case k_thinned => k_is)
    (case a_is_live => k_is)
    (case l_is_live => k_is)
    (case c_is_live => k_is)
    (case k_is_live => k_is)
    (case a_is_open => k_is)
    (case l_is_open => k_is)
    (case c_is_open => k_is)
    (case k_is_open => k_is)
    (case a_lean => k_is)
    (case l_lean => k_is)
    (case c_lean => k_is)
    (case k_lean => k_is)
    (case a_form_of => k_is)
    (case l_form_of => k_is)
    (case c_form_of => k_is)
    (case k_form_of => k_is)
    (case a_behind => k_is)
    (case l_behind => k_is)
    (case c_behind => k_is)
    (case k_behind => k_is)
    (case a_least_missing => k_is)
    (case l_least_missing => k_is)
    (case c_least_missing => k_is)
    (case k_least_missing => k_is)
    (case a_wins_in => k_is)
    (case l_wins_in => k_is)
    (case c_wins_in => k_is)
    (case k_wins_in => k_is)
    (case a_first_win => k_is)
    (case l_first_win => k_is)
    (case c_first_win => k_is)
    (case k_first_win => k_is)
    (case a_worth_in => k_is)
    (case l_worth_in => k_is)
    (case c_worth_in => k_is)
    (case k_worth_in => k_is)
    (case a_span_in => k_is)
    (case l_span_in => k_is)
    (case c_span_in => k_is)
    (case k_span_in => k_is)
    (case a_is_choice => k_is)
    (case l_is_choice => k_is)
    (case c_is_choice => k_is)
    (case k_is_choice => k_is)
    (case a_S_init => k_is)
    (case i_S_init => k_is)
    (case l_S_init => k_is)
    (case c_S_init => k_is)
    (case k_S_init => k_is)
    (case a_S_go_on => k_is)
    (case i_S_go_on => k_is)
    (case l_S_go_on => k_is)
    (case c_S_go_on => k_is)
    (case k_S_go_on => k_is)
    (case a_S_begins => k_is)
    (case i_S_begins => k_is)
    (case l_S_begins => k_is)
    (case c_S_begins => k_is)
    (case k_S_begins => k_is)
    (case a_S_joins => k_is)
    (case i_S_joins => k_is)
    (case l_S_joins => k_is)
    (case c_S_joins => k_is)
    (case k_S_joins => k_is)
    (case a_S_parts => k_is)
    (case i_S_parts => k_is)
    (case l_S_parts => k_is)
    (case c_S_parts => k_is)
    (case k_S_parts => k_is)
    (case a_S_undo => k_is)
    (case i_S_undo => k_is)
    (case l_S_undo => k_is)
    (case c_S_undo => k_is)
    (case k_S_undo => k_is)
    (case a_S_shows => k_is)
    (case i_S_shows => k_is)
    (case l_S_shows => k_is)
    (case c_S_shows => k_is)
    (case k_S_shows => k_is)
    (case a_S_spots => k_is)
    (case i_S_spots => k_is)
    (case l_S_spots => k_is)
    (case c_S_spots => k_is)
    (case k_S_spots => k_is)
    (case a_S_counts => k_is)
    (case i_S_counts => k_is)
    (case l_S_counts => k_is)
    (case c_S_counts => k_is)
    (case k_S_counts => k_is)
    (case a_S_ways => k_is)
    (case i_S_ways => k_is)
    (case l_S_ways => k_is)
    (case c_S_ways => k_is)
    (case k_S_ways => k_is)
    (case a_S_wins => k_is)
    (case i_S_wins => k_is)
    (case l_S_wins => k_is)
    (case c_S_wins => k_is)
    (case k_S_wins => k_is)
    (case a_S_worth => k_is)
    (case i_S_worth => k_is)
    (case l_S_worth => k_is)
    (case c_S_worth => k_is)
    (case k_S_worth => k_is)
    (case a_S_span => k_is)
    (case i_S_span => k_is)
    (case l_S_span => k_is)
    (case c_S_span => k_is)
    (case k_S_span => k_is)
    (case a_S_deed => k_is)
    (case i_S_deed => k_is)
    (case l_S_deed => k_is)
    (case c_S_deed => k_is)
    (case k_S_deed => k_is)
    (case a_S_question => k_is)
    (case i_S_question => k_is)
    (case l_S_question => k_is)
    (case c_S_question => k_is)
    (case k_S_question => k_is)
    (case a_call_at => k_is)
    (case l_call_at => k_is)
    (case c_call_at => k_is)
    (case k_call_at => k_is)
    (case a_answers => k_is)
    (case l_answers => k_is)
    (case c_answers => k_is)
    (case k_answers => k_is)
    (case pgD => k_is)
    (case hdD => k_is)
    (case poD => k_is)
    (case saD => k_is)
    (case mkD => k_is)
    (case kcD => k_is)
    (case pgS => k_is)
    (case hdS => k_is)
    (case poS => k_is)
    (case saS => k_is)
    (case mkS => k_is)
    (case kcS => k_is)
    (case nEnds => k_is)
    (case nRegions => k_is)
    (case nNow => k_is)
    (case nElder => k_is)
    (case g_MOST_ENDS => k_is)
    (case g_NEW_ENDS => k_is)
    (case g_JOIN => k_is)
    (case g_PART => k_is)
    (case g_DEAD => k_is)
    (case g_NONE_SUCH => k_is)
    (case g_OUT_OF_ORDER => k_is)
    (case g_NOT_TO_BE_DRAWN => k_is)
    (case g_TOO_MANY => k_is)
    (case g_NOTHING => k_is)
    (case g_MOST_SPOTS => k_is)
    (case g_MOST_LIVES => k_is)
    (case g_BEGINS => k_is)
    (case g_JOINS => k_is)
    (case g_PARTS => k_is)
    (case g_UNDO => k_is)
    (case g_SHOWS => k_is)
    (case g_SPOTS => k_is)
    (case g_COUNTS => k_is)
    (case g_WAYS => k_is)
    (case g_WINS => k_is)
    (case g_WORTH => k_is)
    (case gN => k_is)
    (case lN => k_is)
    (case b_len => k_is)
    (case b_sum => k_is)
    (case b_any => k_is)
    (case b_all => k_is)
    (case b_list => k_is)
    (case b_tuple => k_is)
    (case b_min => k_is)
    (case b_max => k_is)
    (case b_set => k_is)
    (case b_range => k_is)
    (case b_enumerate => k_is)
  case S =>
    intro K H xs a hO hwi hask hx
    cases hx with
    | cons h1 h2 =>
      cases h2
      cases h1 with
      | lst hs ha =>
        have e := L2.ints_dw a.1 _ ha
        subst e
        have q : ((Codec.inLen 0 2000 a.1 && a.1.all (Codec.inInt 0 4294967295)) && true) = true := hwi
        rw [Bool.and_eq_true, Bool.and_eq_true] at q
        exact Sg.end_sp hs (Codec.inNat_iff.mp q.1.1).2 (fun x hx => Sg.in_int (List.all_eq_true.mp q.1.2 x hx)) hask (fun H' p hp => .lst (L2.SqL.of hp) (L2.dw_ints _))

