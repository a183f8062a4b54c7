import PyProof.Rows.All
import Wide.All
import OpenK.AllK
import Wide.FinOn
import PyProof.EqAt
import PyProof.EqKinds
import PyProof.TupleCall
import Open.SpecLaws
import KE.OsGo
import HandS.ForSpec
import HandS.Comp
import HandS.Dict
import HandS.Iter
import HandS.Walk
import PySem.Challenge.RW_roundtypesworks_s06_has
set_option Elab.async false
set_option linter.all false
set_option maxRecDepth 100000
set_option maxHeartbeats 4000000
namespace Rt
open Krk0
theorem graphOf_len : ∀ {l : List Nat} {g : Graph}, graphOf l = some g → l.length = 3 * g.length
  | [], g, h => by
    have e : ([] : Graph) = g := Option.some.inj h
    subst e
    rfl
  | [_], g, h => by simp [graphOf] at h
  | [_, _], g, h => by simp [graphOf] at h
  | k :: a :: b :: l, g, h => by
    rw [graphOf] at h
    cases e : graphOf l with
    | none => rw [e] at h; simp at h
    | some g' =>
      rw [e] at h
      simp only [Option.map_some, Option.some.injEq] at h
      subst h
      have ih := graphOf_len e
      simp only [List.length_cons]
      omega
theorem graphOf_get : ∀ {l : List Nat} {g : Graph} {i : Nat} {x : Node}, graphOf l = some g → g[i]? = some x → l[3 * i]? = some x.kind ∧ l[3 * i + 1]? = some x.a ∧ l[3 * i + 2]? = some x.b
  | [], g, i, x, h, hx => by
    have e : ([] : Graph) = g := Option.some.inj h
    subst e
    simp at hx
  | [_], g, i, x, h, hx => by simp [graphOf] at h
  | [_, _], g, i, x, h, hx => by simp [graphOf] at h
  | k :: a :: b :: l, g, i, x, h, hx => by
    rw [graphOf] at h
    cases e : graphOf l with
    | none => rw [e] at h; simp at h
    | some g' =>
      rw [e] at h
      simp only [Option.map_some, Option.some.injEq] at h
      subst h
      cases i with
      | zero =>
        simp only [List.getElem?_cons_zero, Option.some.injEq] at hx
        subst hx
        exact ⟨rfl, rfl, rfl⟩
      | succ i =>
        simp only [List.getElem?_cons_succ] at hx
        have ih := graphOf_get e hx
        have e1 : 3 * (i + 1) = 3 * i + 1 + 1 + 1 := by omega
        have e2 : 3 * (i + 1) + 1 = 3 * i + 1 + 1 + 1 + 1 := by omega
        have e3 : 3 * (i + 1) + 2 = 3 * i + 2 + 1 + 1 + 1 := by omega
        rw [e3, e2, e1]
        simp only [List.getElem?_cons_succ]
        exact ih
theorem graphOf_some : ∀ (n : Nat) (l : List Nat), l.length = 3 * n → ∃ g, graphOf l = some g
  | 0, [], _ => ⟨[], rfl⟩
  | 0, _ :: _, h => by simp at h
  | n + 1, [], h => by simp at h
  | n + 1, [_], h => by simp at h; omega
  | n + 1, [_, _], h => by simp at h; omega
  | n + 1, k :: a :: b :: l, h => by
    simp only [List.length_cons] at h
    obtain ⟨g, hg⟩ := graphOf_some n l (by omega)
    exact ⟨⟨k, a, b⟩ :: g, by rw [graphOf, hg]; rfl⟩
/-- a node that is right, by its parts -/
theorem ok_get {g : Graph} (h : graphOk g = true) {i : Nat} {x : Node} (hx : g[i]? = some x) : nodeOk g.length x = true := by
  unfold graphOk at h
  simp only [Bool.and_eq_true, List.all_eq_true] at h
  exact h.2.2 x (List.mem_of_getElem? hx)
theorem ok_len {g : Graph} (h : graphOk g = true) : 1 ≤ g.length ∧ g.length ≤ 32 := by
  unfold graphOk at h
  simp only [Bool.and_eq_true, decide_eq_true_eq] at h
  exact ⟨h.1, h.2.1⟩
theorem nodeOk_leaf {n : Nat} {x : Node} (h : nodeOk n x = true) (hk : x.kind ≤ 3) : x.a = 0 ∧ x.b = 0 := by
  unfold nodeOk at h
  rw [if_pos hk] at h
  simpa using h
theorem nodeOk_inner {n : Nat} {x : Node} (h : nodeOk n x = true) (hk : 3 < x.kind) : x.kind ≤ 6 ∧ x.a < n ∧ x.b < n := by
  unfold nodeOk at h
  rw [if_neg (by omega)] at h
  simpa using h
theorem at_get {g : Graph} {i : Nat} {x : Node} (h : g[i]? = some x) : at_ g i = x := by
  unfold at_
  rw [List.getD_eq_getElem?_getD, h]
  rfl
theorem get_at {g : Graph} {i : Nat} (h : i < g.length) : g[i]? = some (at_ g i) := by
  rw [List.getElem?_eq_getElem h]
  congr 1
  exact (at_get (List.getElem?_eq_getElem h)).symm
/-- with_, by cases of what it asks -/
theorem with_bad {l nodes : List Nat} {f : Graph → Ans} {g : Graph} (h : graphOf l = some g) (hb : graphOk g = false) : with_ l nodes f = say (-71) := by
  unfold with_
  rw [h]
  exact if_pos hb
theorem with_no {l nodes : List Nat} {f : Graph → Ans} {g : Graph} (h : graphOf l = some g) (hb : graphOk g = true) (hn : nodes.all (fun i => decide (i < g.length)) = false) : with_ l nodes f = say (-2) := by
  unfold with_
  rw [h]
  show (if graphOk g = false then say (-71) else if nodes.all (fun i => decide (i < g.length)) = false then say (-2) else f g) = _
  rw [if_neg (by rw [hb]; decide), if_pos hn]
theorem with_ok {l nodes : List Nat} {f : Graph → Ans} {g : Graph} (h : graphOf l = some g) (hb : graphOk g = true) (hn : nodes.all (fun i => decide (i < g.length)) = true) : with_ l nodes f = f g := by
  unfold with_
  rw [h]
  show (if graphOk g = false then say (-71) else if nodes.all (fun i => decide (i < g.length)) = false then say (-2) else f g) = _
  rw [if_neg (by rw [hb]; decide), if_neg (by rw [hn]; decide)]
end Rt
namespace Rt
open Krk0
/-! ### reading values -/
/-- numbers that are so many values, one behind another, to the end -/
def vOk : Nat → List Nat → Bool
  | 0, l => l.isEmpty
  | _ + 1, [] => false
  | w + 1, x :: l =>
    if x = 2 then vOk (w + 2) l
    else if 4 < x then false
    else if x ≤ 1 then (match l with
      | [] => false
      | y :: r => !(x == 1 && decide (1 < y)) && vOk w r)
    else vOk (w + 1) l
termination_by _ l => l.length
decreasing_by all_goals simp <;> omega
theorem vOk_zero (l : List Nat) : vOk 0 l = l.isEmpty := by rw [vOk]
theorem vOk_nil (w : Nat) : vOk (w + 1) [] = false := by rw [vOk]
theorem vOk_cons (w x : Nat) (l : List Nat) : vOk (w + 1) (x :: l) = if x = 2 then vOk (w + 2) l
    else if 4 < x then false
    else if x ≤ 1 then (match l with
      | [] => false
      | y :: r => !(x == 1 && decide (1 < y)) && vOk w r)
    else vOk (w + 1) l := by rw [vOk.eq_def]
theorem vOk_pair (w : Nat) (l : List Nat) : vOk (w + 1) (2 :: l) = vOk (w + 2) l := by rw [vOk_cons, if_pos rfl]
theorem vOk_big {w x : Nat} {l : List Nat} (h : 4 < x) : vOk (w + 1) (x :: l) = false := by rw [vOk_cons, if_neg (by omega), if_pos h]
theorem vOk_in {w x : Nat} {l : List Nat} (h : 2 < x) (h4 : ¬ 4 < x) : vOk (w + 1) (x :: l) = vOk (w + 1) l := by rw [vOk_cons, if_neg (by omega), if_neg h4, if_neg (by omega)]
theorem vOk_end {w x : Nat} (h : x ≤ 1) : vOk (w + 1) [x] = false := by rw [vOk_cons, if_neg (by omega), if_neg (by omega), if_pos h]
theorem vOk_leaf {w x y : Nat} {l : List Nat} (h : x ≤ 1) : vOk (w + 1) (x :: y :: l) = (!(x == 1 && decide (1 < y)) && vOk w l) := by rw [vOk_cons, if_neg (by omega), if_neg (by omega), if_pos h]
theorem valueOf_num (f n : Nat) (r : List Nat) : valueOf (f + 1) (0 :: n :: r) = some (.num n, r) := rfl
theorem valueOf_truth (f b : Nat) (r : List Nat) : valueOf (f + 1) (1 :: b :: r) = if b ≤ 1 then some (.truth (b == 1), r) else none := rfl
theorem valueOf_pair (f : Nat) (r : List Nat) : valueOf (f + 1) (2 :: r) = (match valueOf f r with
      | some (v, r) => (match valueOf f r with
        | some (w, r) => some (.pair v w, r)
        | none => none)
      | none => none) := by cases r <;> rfl
theorem valueOf_first (f : Nat) (r : List Nat) : valueOf (f + 1) (3 :: r) = (valueOf f r).map fun x => (.first x.1, x.2) := by cases r <;> rfl
theorem valueOf_second (f : Nat) (r : List Nat) : valueOf (f + 1) (4 :: r) = (valueOf f r).map fun x => (.second x.1, x.2) := by cases r <;> rfl
theorem valueOf_nil (f : Nat) : valueOf f [] = none := by cases f <;> rfl
theorem valueOf_one {f x : Nat} (h : x ≤ 1) : valueOf f [x] = none := by
  cases f with
  | zero => rfl
  | succ f =>
    have : x = 0 ∨ x = 1 := by omega
    rcases this with e | e <;> subst e <;> rfl
theorem valueOf_big {f x : Nat} {r : List Nat} (h : 4 < x) : valueOf f (x :: r) = none := by
  cases f with
  | zero => rfl
  | succ f =>
    obtain ⟨k, rfl⟩ : ∃ k, x = k + 5 := ⟨x - 5, by omega⟩
    cases r <;> rfl
/-- what is left is shorter -/
theorem valueOf_less : ∀ (f : Nat) (l : List Nat) (v : Value) (r : List Nat), valueOf f l = some (v, r) → r.length < l.length
  | 0, l, v, r, h => by cases h
  | f + 1, [], v, r, h => by cases h
  | f + 1, x :: l, v, r, h => by
    by_cases h4 : 4 < x
    · rw [valueOf_big h4] at h; cases h
    have hx : x = 0 ∨ x = 1 ∨ x = 2 ∨ x = 3 ∨ x = 4 := by omega
    rcases hx with e | e | e | e | e <;> subst e
    · cases l with
      | nil => rw [valueOf_one (by omega)] at h; cases h
      | cons n l =>
        rw [valueOf_num] at h
        injection h with h
        injection h with h1 h2
        subst h2
        simp only [List.length_cons]
        omega
    · cases l with
      | nil => rw [valueOf_one (by omega)] at h; cases h
      | cons n l =>
        rw [valueOf_truth] at h
        split at h
        · injection h with h
          injection h with h1 h2
          subst h2
          simp only [List.length_cons]
          omega
        · cases h
    · rw [valueOf_pair] at h
      cases e1 : valueOf f l with
      | none => rw [e1] at h; cases h
      | some p =>
        obtain ⟨v1, r1⟩ := p
        rw [e1] at h
        simp only at h
        cases e2 : valueOf f r1 with
        | none => rw [e2] at h; cases h
        | some p2 =>
          obtain ⟨v2, r2⟩ := p2
          rw [e2] at h
          simp only [Option.some.injEq, Prod.mk.injEq] at h
          have l1 := valueOf_less f l v1 r1 e1
          have l2 := valueOf_less f r1 v2 r2 e2
          rw [← h.2]
          simp only [List.length_cons]
          omega
    · rw [valueOf_first] at h
      cases e1 : valueOf f l with
      | none => rw [e1] at h; cases h
      | some p =>
        obtain ⟨v1, r1⟩ := p
        rw [e1] at h
        simp only [Option.map_some, Option.some.injEq, Prod.mk.injEq] at h
        have l1 := valueOf_less f l v1 r1 e1
        rw [← h.2]
        simp only [List.length_cons]
        omega
    · rw [valueOf_second] at h
      cases e1 : valueOf f l with
      | none => rw [e1] at h; cases h
      | some p =>
        obtain ⟨v1, r1⟩ := p
        rw [e1] at h
        simp only [Option.map_some, Option.some.injEq, Prod.mk.injEq] at h
        have l1 := valueOf_less f l v1 r1 e1
        rw [← h.2]
        simp only [List.length_cons]
        omega
/-- enough is enough -/
theorem valueOf_fuel : ∀ (f f' : Nat) (l : List Nat), l.length < f → l.length < f' → valueOf f l = valueOf f' l
  | 0, _, l, h, _ => by omega
  | _, 0, l, _, h => by omega
  | f + 1, f' + 1, [], _, _ => by rw [valueOf_nil, valueOf_nil]
  | f + 1, f' + 1, x :: l, h, h' => by
    simp only [List.length_cons] at h h'
    by_cases h4 : 4 < x
    · rw [valueOf_big h4, valueOf_big h4]
    have hx : x = 0 ∨ x = 1 ∨ x = 2 ∨ x = 3 ∨ x = 4 := by omega
    have ih : ∀ r : List Nat, r.length ≤ l.length → valueOf f r = valueOf f' r := fun r hr => valueOf_fuel f f' r (by omega) (by omega)
    rcases hx with e | e | e | e | e <;> subst e
    · cases l with
      | nil => rw [valueOf_one (by omega), valueOf_one (by omega)]
      | cons n l => rfl
    · cases l with
      | nil => rw [valueOf_one (by omega), valueOf_one (by omega)]
      | cons n l => rfl
    · rw [valueOf_pair, valueOf_pair, ih l (Nat.le_refl _)]
      cases e1 : valueOf f' l with
      | none => rfl
      | some p =>
        obtain ⟨v1, r1⟩ := p
        simp only
        rw [ih r1 (Nat.le_of_lt (valueOf_less f' l v1 r1 e1))]
    · rw [valueOf_first, valueOf_first, ih l (Nat.le_refl _)]
    · rw [valueOf_second, valueOf_second, ih l (Nat.le_refl _)]
/-- the value at the head, and what is behind it -/
def val1 (l : List Nat) : Option (Value × List Nat) := valueOf (l.length + 1) l
theorem val1_of {f : Nat} {l : List Nat} (h : l.length < f) : valueOf f l = val1 l := valueOf_fuel _ _ _ h (by omega)
theorem val1_nil : val1 [] = none := rfl
theorem val1_num (n : Nat) (r : List Nat) : val1 (0 :: n :: r) = some (.num n, r) := rfl
theorem val1_truth (b : Nat) (r : List Nat) : val1 (1 :: b :: r) = if b ≤ 1 then some (.truth (b == 1), r) else none := rfl
theorem val1_one {x : Nat} (h : x ≤ 1) : val1 [x] = none := valueOf_one h
theorem val1_big {x : Nat} {r : List Nat} (h : 4 < x) : val1 (x :: r) = none := valueOf_big h
theorem val1_less {l : List Nat} {v : Value} {r : List Nat} (h : val1 l = some (v, r)) : r.length < l.length := valueOf_less _ _ _ _ h
theorem val1_pair (r : List Nat) : val1 (2 :: r) = (match val1 r with
      | some (v, r) => (match val1 r with
        | some (w, r) => some (.pair v w, r)
        | none => none)
      | none => none) := by
  unfold val1
  rw [List.length_cons, valueOf_pair]
  cases e : valueOf (r.length + 1) r with
  | none => rfl
  | some p =>
    obtain ⟨v, r1⟩ := p
    have := valueOf_less _ _ _ _ e
    simp only
    rw [valueOf_fuel (r.length + 1) (r1.length + 1) r1 (by omega) (by omega)]
theorem val1_first (r : List Nat) : val1 (3 :: r) = (val1 r).map fun x => (.first x.1, x.2) := valueOf_first _ _
theorem val1_second (r : List Nat) : val1 (4 :: r) = (val1 r).map fun x => (.second x.1, x.2) := valueOf_second _ _
/-- one value more -/
theorem vOk_val : ∀ (n : Nat) (l : List Nat) (w : Nat), l.length ≤ n → vOk (w + 1) l = (match val1 l with
      | some (_, r) => vOk w r
      | none => false)
  | _, [], w, _ => by rw [vOk_nil]; rfl
  | 0, _ :: _, w, h => by simp at h
  | n + 1, x :: l, w, h => by
    simp only [List.length_cons] at h
    by_cases h4 : 4 < x
    · rw [vOk_big h4, val1_big h4]
    have hx : x = 0 ∨ x = 1 ∨ x = 2 ∨ x = 3 ∨ x = 4 := by omega
    rcases hx with e | e | e | e | e <;> subst e
    · cases l with
      | nil => rw [vOk_end (by omega), val1_one (by omega)]
      | cons y l => rw [vOk_leaf (by omega), val1_num]; rfl
    · cases l with
      | nil => rw [vOk_end (by omega), val1_one (by omega)]
      | cons y l =>
        rw [vOk_leaf (by omega), val1_truth]
        by_cases hy : y ≤ 1
        · rw [if_pos hy, decide_eq_false (by omega)]
          rfl
        · rw [if_neg hy, decide_eq_true (show 1 < y by omega)]
          rfl
    · rw [vOk_pair, val1_pair, vOk_val n l (w + 1) (by omega)]
      cases e1 : val1 l with
      | none => rfl
      | some p =>
        obtain ⟨v, r⟩ := p
        have := val1_less e1
        simp only
        rw [vOk_val n r w (by omega)]
        cases e2 : val1 r with
        | none => rfl
        | some p2 => rfl
    · rw [vOk_in (by omega) (by omega), val1_first, vOk_val n l w (by omega)]
      cases e1 : val1 l with
      | none => rfl
      | some p => rfl
    · rw [vOk_in (by omega) (by omega), val1_second, vOk_val n l w (by omega)]
      cases e1 : val1 l with
      | none => rfl
      | some p => rfl
theorem vOk_succ (w : Nat) (l : List Nat) : vOk (w + 1) l = (match val1 l with
      | some (_, r) => vOk w r
      | none => false) := vOk_val _ l w (Nat.le_refl _)
/-- the whole row a value -/
theorem value_none {l : List Nat} (h : (decide (l.length ≤ 64) && vOk 1 l) = false) : value l = none := by
  unfold value mostValue
  by_cases hl : 64 < l.length
  · rw [if_pos hl]
  · rw [if_neg hl]
    rw [decide_eq_true (show l.length ≤ 64 by omega), Bool.true_and, vOk_succ] at h
    show (match val1 l with
      | some (v, []) => some v
      | _ => none) = none
    cases e : val1 l with
    | none => rfl
    | some p =>
      obtain ⟨v, r⟩ := p
      rw [e] at h
      cases r with
      | nil => have h' : vOk 0 [] = false := h
               rw [vOk_zero] at h'; cases h'
      | cons y r => rfl
theorem value_some {l : List Nat} (h : (decide (l.length ≤ 64) && vOk 1 l) = true) : ∃ v, value l = some v ∧ val1 l = some (v, []) := by
  rw [Bool.and_eq_true, decide_eq_true_eq] at h
  obtain ⟨hl, h⟩ := h
  rw [vOk_succ] at h
  unfold value mostValue
  rw [if_neg (by omega)]
  show ∃ v, (match val1 l with
      | some (v, []) => some v
      | _ => none) = some v ∧ val1 l = some (v, [])
  cases e : val1 l with
  | none => rw [e] at h; cases h
  | some p =>
    obtain ⟨v, r⟩ := p
    rw [e] at h
    cases r with
    | nil => exact ⟨v, rfl, rfl⟩
    | cons y r => have h' : vOk 0 (y :: r) = true := h
                  rw [vOk_zero] at h'; cases h'
theorem vOk_room : ∀ (n : Nat) (l : List Nat) (w : Nat), l.length ≤ n → vOk w l = true → w ≤ l.length
  | _, _, 0, _, _ => Nat.zero_le _
  | _, [], w + 1, _, h => by rw [vOk_nil] at h; cases h
  | 0, _ :: _, w + 1, h, _ => by simp at h
  | n + 1, x :: l, w + 1, h, hv => by
    simp only [List.length_cons] at h
    by_cases h4 : 4 < x
    · rw [vOk_big h4] at hv; cases hv
    by_cases h1 : x ≤ 1
    · cases l with
      | nil => rw [vOk_end h1] at hv; cases hv
      | cons y l =>
        rw [vOk_leaf h1, Bool.and_eq_true] at hv
        simp only [List.length_cons] at h
        have := vOk_room n l w (by omega) hv.2
        simp only [List.length_cons]
        omega
    · by_cases h2 : x = 2
      · subst h2
        rw [vOk_pair] at hv
        have := vOk_room n l (w + 2) (by omega) hv
        simp only [List.length_cons]
        omega
      · rw [vOk_in (by omega) h4] at hv
        have := vOk_room n l (w + 1) (by omega) hv
        simp only [List.length_cons]
        omega
/-! ### of a type -/
/-- a node, or anything -/
def hasO (g : Graph) (v : Value) : Option Nat → Bool
  | none => true
  | some i => has g v i
def kindO (g : Graph) : Option Nat → Nat
  | none => 1
  | some i => (at_ g i).kind
def innerO (g : Graph) (o : Option Nat) (second : Bool) : Option Nat := match o with
  | none => none
  | some i => if (at_ g i).kind = 1 then none else some (if second then (at_ g i).b else (at_ g i).a)
def fitsO (g : Graph) (o : Option Nat) (word : Nat) : Bool :=
  kindO g o == 1 || (if word = 0 then kindO g o == 2 else if word = 1 then kindO g o == 3 else if word = 2 then kindO g o == 4 else kindO g o == 5)
def askO (g : Graph) (o : Option Nat) (word : Nat) : List (Option Nat) :=
  if word = 2 then [innerO g o false, innerO g o true] else if word = 3 then [innerO g o false] else if word = 4 then [innerO g o true] else []
/-- the values that stand one behind another are of these, the first of the first -/
def stOk (g : Graph) : List (Option Nat) → List Nat → Bool
  | [], _ => true
  | o :: S, l => match val1 l with
    | some (v, r) => hasO g v o && stOk g S r
    | none => false
theorem fits_any {g : Graph} {o : Option Nat} (h : kindO g o = 1) (word : Nat) : fitsO g o word = true := by
  unfold fitsO
  rw [h]
  rfl
theorem hasO_any {g : Graph} {o : Option Nat} (h : kindO g o = 1) (v : Value) : hasO g v o = true := by
  cases o with
  | none => rfl
  | some i =>
    have h' : (at_ g i).kind = 1 := h
    cases v <;> simp [hasO, has, h']
theorem hasO_leaf {g : Graph} {o : Option Nat} {x y : Nat} (h : x ≤ 1) (v : Value) (r : List Nat) (hv : val1 (x :: y :: r) = some (v, r)) : hasO g v o = fitsO g o x := by
  have hx : x = 0 ∨ x = 1 := by omega
  cases o with
  | none => rfl
  | some i =>
    rcases hx with e | e <;> subst e
    · rw [val1_num] at hv
      injection hv with hv
      injection hv with h1 h2
      subst h1
      rfl
    · rw [val1_truth] at hv
      split at hv
      · injection hv with hv
        injection hv with h1 h2
        subst h1
        rfl
      · cases hv
theorem hasO_pair (g : Graph) (o : Option Nat) (v w : Value) : hasO g (.pair v w) o = (fitsO g o 2 && (hasO g v (innerO g o false) && hasO g w (innerO g o true))) := by
  cases o with
  | none => rfl
  | some i =>
    by_cases h : (at_ g i).kind = 1
    · rw [hasO_any (o := some i) h, fits_any (o := some i) h]
      simp [innerO, h, hasO]
    · have e : ((at_ g i).kind == 1) = false := by simpa using h
      have ia : innerO g (some i) false = some (at_ g i).a := by simp [innerO, h]
      have ib : innerO g (some i) true = some (at_ g i).b := by simp [innerO, h]
      rw [ia, ib]
      show ((at_ g i).kind == 1 || ((at_ g i).kind == 4 && (has g v (at_ g i).a && has g w (at_ g i).b))) = (((at_ g i).kind == 1 || ((at_ g i).kind == 4)) && (has g v (at_ g i).a && has g w (at_ g i).b))
      rw [e, Bool.false_or, Bool.false_or]
theorem hasO_first (g : Graph) (o : Option Nat) (v : Value) : hasO g (.first v) o = (fitsO g o 3 && hasO g v (innerO g o false)) := by
  cases o with
  | none => rfl
  | some i =>
    by_cases h : (at_ g i).kind = 1
    · rw [hasO_any (o := some i) h, fits_any (o := some i) h]
      simp [innerO, h, hasO]
    · have e : ((at_ g i).kind == 1) = false := by simpa using h
      have ia : innerO g (some i) false = some (at_ g i).a := by simp [innerO, h]
      rw [ia]
      show ((at_ g i).kind == 1 || ((at_ g i).kind == 5 && has g v (at_ g i).a)) = (((at_ g i).kind == 1 || ((at_ g i).kind == 5)) && has g v (at_ g i).a)
      rw [e, Bool.false_or, Bool.false_or]
theorem hasO_second (g : Graph) (o : Option Nat) (v : Value) : hasO g (.second v) o = (fitsO g o 4 && hasO g v (innerO g o true)) := by
  cases o with
  | none => rfl
  | some i =>
    by_cases h : (at_ g i).kind = 1
    · rw [hasO_any (o := some i) h, fits_any (o := some i) h]
      simp [innerO, h, hasO]
    · have e : ((at_ g i).kind == 1) = false := by simpa using h
      have ia : innerO g (some i) true = some (at_ g i).b := by simp [innerO, h]
      rw [ia]
      show ((at_ g i).kind == 1 || ((at_ g i).kind == 5 && has g v (at_ g i).b)) = (((at_ g i).kind == 1 || ((at_ g i).kind == 5)) && has g v (at_ g i).b)
      rw [e, Bool.false_or, Bool.false_or]
/-- a turn of the loop over the stack: the word at its head, and how far to go on -/
theorem st_turn (g : Graph) (o : Option Nat) (S : List (Option Nat)) (x : Nat) (l : List Nat) (h : vOk (S.length + 1) (x :: l) = true) :
    stOk g (o :: S) (x :: l) = (fitsO g o x && stOk g (askO g o x ++ S) (l.drop (if x ≤ 1 then 1 else 0))) ∧ vOk (askO g o x ++ S).length (l.drop (if x ≤ 1 then 1 else 0)) = true := by
  by_cases h4 : 4 < x
  · rw [vOk_big h4] at h; cases h
  have hx : x = 0 ∨ x = 1 ∨ x = 2 ∨ x = 3 ∨ x = 4 := by omega
  by_cases h1 : x ≤ 1
  · cases l with
    | nil => rw [vOk_end h1] at h; cases h
    | cons y l =>
      rw [vOk_leaf h1] at h
      rw [if_pos h1]
      have ea : askO g o x = [] := by unfold askO; rw [if_neg (by omega), if_neg (by omega), if_neg (by omega)]
      rw [ea]
      rw [Bool.and_eq_true] at h
      obtain ⟨v, hv⟩ : ∃ v, val1 (x :: y :: l) = some (v, l) := by
        rcases (show x = 0 ∨ x = 1 by omega) with e | e <;> subst e
        · exact ⟨_, val1_num y l⟩
        · refine ⟨_, (val1_truth y l).trans (if_pos ?_)⟩
          have := h.1
          simp at this
          omega
      refine ⟨?_, h.2⟩
      show (match val1 (x :: y :: l) with
        | some (v, r) => hasO g v o && stOk g S r
        | none => false) = _
      rw [hv]
      show (hasO g v o && stOk g S l) = (fitsO g o x && stOk g S l)
      rw [hasO_leaf h1 v l hv]
  · rw [if_neg h1]
    rw [List.drop_zero]
    rcases (show x = 2 ∨ x = 3 ∨ x = 4 by omega) with e | e | e <;> subst e
    · refine ⟨?_, by rw [vOk_pair] at h; exact h⟩
      rw [vOk_pair, vOk_succ] at h
      show (match val1 (2 :: l) with
        | some (v, r) => hasO g v o && stOk g S r
        | none => false) = (fitsO g o 2 && (match val1 l with
        | some (v, r) => hasO g v (innerO g o false) && (match val1 r with
          | some (v, r) => hasO g v (innerO g o true) && stOk g S r
          | none => false)
        | none => false))
      rw [val1_pair]
      cases e1 : val1 l with
      | none => rw [e1] at h; cases h
      | some p =>
        obtain ⟨v, r⟩ := p
        simp only
        cases e2 : val1 r with
        | none => simp
        | some p2 =>
          obtain ⟨w, r2⟩ := p2
          simp only
          rw [hasO_pair]
          simp only [Bool.and_assoc]
    · refine ⟨?_, by rw [vOk_in (by omega) (by omega)] at h; exact h⟩
      show (match val1 (3 :: l) with
        | some (v, r) => hasO g v o && stOk g S r
        | none => false) = (fitsO g o 3 && (match val1 l with
        | some (v, r) => hasO g v (innerO g o false) && stOk g S r
        | none => false))
      rw [val1_first]
      cases e1 : val1 l with
      | none => simp
      | some p =>
        obtain ⟨v, r⟩ := p
        simp only [Option.map_some]
        rw [hasO_first, Bool.and_assoc]
    · refine ⟨?_, by rw [vOk_in (by omega) (by omega)] at h; exact h⟩
      show (match val1 (4 :: l) with
        | some (v, r) => hasO g v o && stOk g S r
        | none => false) = (fitsO g o 4 && (match val1 l with
        | some (v, r) => hasO g v (innerO g o true) && stOk g S r
        | none => false))
      rw [val1_second]
      cases e1 : val1 l with
      | none => simp
      | some p =>
        obtain ⟨v, r⟩ := p
        simp only [Option.map_some]
        rw [hasO_second, Bool.and_assoc]
theorem st_whole {g : Graph} {l : List Nat} {v : Value} {a : Nat} (h : val1 l = some (v, [])) : stOk g [some a] l = has g v a := by
  show (match val1 l with
        | some (v, r) => hasO g v (some a) && stOk g [] r
        | none => false) = _
  rw [h]
  show (has g v a && true) = _
  rw [Bool.and_true]
/-- all on the stack are nodes that there are -/
def inO (n : Nat) : Option Nat → Prop
  | none => True
  | some i => i < n
theorem ask_in {g : Graph} (hok : graphOk g = true) {o : Option Nat} {x : Nat} (ho : inO g.length o) (hf : fitsO g o x = true) (h2 : 2 ≤ x) : ∀ p ∈ askO g o x, inO g.length p := by
  have inner : ∀ s, inO g.length (innerO g o s) := by
    intro s
    cases o with
    | none => exact True.intro
    | some i =>
      have hi : i < g.length := ho
      by_cases h : (at_ g i).kind = 1
      · have e : innerO g (some i) s = none := by simp [innerO, h]
        rw [e]
        exact True.intro
      · have e : innerO g (some i) s = some (if s then (at_ g i).b else (at_ g i).a) := by simp [innerO, h]
        rw [e]
        have hk : 3 < (at_ g i).kind := by
          have hf' : ((at_ g i).kind == 1 || (if x = 0 then (at_ g i).kind == 2 else if x = 1 then (at_ g i).kind == 3 else if x = 2 then (at_ g i).kind == 4 else (at_ g i).kind == 5)) = true := hf
          rw [if_neg (by omega), if_neg (by omega)] at hf'
          split at hf'
          · simp at hf'; omega
          · simp at hf'; omega
        have := nodeOk_inner (ok_get hok (get_at hi)) hk
        cases s
        · exact this.2.1
        · exact this.2.2
  intro p hp
  unfold askO at hp
  split at hp
  · simp at hp
    rcases hp with e | e <;> subst e <;> exact inner _
  · split at hp
    · simp at hp
      subst hp
      exact inner _
    · split at hp
      · simp at hp
        subst hp
        exact inner _
      · simp at hp
end Rt
namespace PySem
namespace LowX
open PySem.W PySem.Calls PyProof.Rows PySem.HandSPX
/-! ### the text of __init__ -/
def iA (p1 p2 : Pos) : Arguments := { posonlyargs := [], args := [{ arg := "self", annotation := none, pos := p1 }, { arg := "number", annotation := none, pos := p2 }], vararg := none, kwonlyargs := [], kw_defaults := [], kwarg := none, defaults := [] }
def iB (q1 q2 q3 q4 : Pos) : List Stmt := [.Assign [.Attribute (.Name "self" q1) "number" q2] (.Name "number" q3) q4]
def iS : Scope := { kind := .function, names := [(PySem.Str.ofString "self", .local), (PySem.Str.ofString "number", .local)], isGenerator := false, isCoroutine := false, more := [] }
/-- what the written part says of Low, at C, and of its __init__, at fI -/
structure LowTxt (K : Frag) (mg : Str → Option Value) (C fI : Addr) : Prop where
  gC : mg "Refused" = some (.ref C)
  cls : ∃ nm q N bs bm sn sub ab col dd k0 k1 k2 k3 k5, K.lookup C = some (excClassObj nm q C N bs bm true sn sub ab col dd k0 k1 k2 k3 k5 "ValueError.__new__") ∧ refsVE bm = true
  sa : findIn K (.ref C) "__setattr__" = some (some (.builtin "object.__setattr__"))
  ga : findIn K (.ref C) "__getattribute__" = some (some (.builtin "BaseException.__getattribute__"))
  gg : findIn K (.ref C) "__getattr__" = some none
  noN : findIn K (.ref C) "number" = some none
  iC : findIn K (.ref C) "__init__" = some (some (.ref fI))
  tC : typeIn K (.ref fI) = some (.type "function")
  kC : keepIn K (.ref C) = true
  exC : subIn K (.ref C) (.type "BaseException") = some true
  tyC : typeIn K (.ref C) = some (.type "type")
  hdC : hasDictIn K C = true
  te : exmOne K (.ref C) (.ref C) = some true
  fn : ∃ (oc : Value) (od : Option Addr) (doc pm : Value) (an : Option Addr) (cdv ct : Value) (osl : Array (Option Value)) (p1 p2 q1 q2 q3 q4 : Pos),
    K.lookup fI = some ⟨oc, od, .func (fnOf "__init__" "Refused.__init__" (iA p1 p2) (iB q1 q2 q3 q4) iS .none .none doc pm an cdv ct), osl⟩ ∧ codeIn K cdv "Refused.__init__" = true
theorem one_size (v : Value) : [v].length ≤ sizeLine := by
  rw [sizeLine_eq]
  exact (by decide : 1 ≤ 16777216)
theorem kept_but {K : Frag} {h h' : Heap} {x : Addr} (X : K.In h) (hx : K.lookup x = none) (k : ∀ b o, b ≠ x → h.get? b = some o → h'.get? b = some o) : K.In h' := fun a o e =>
  k a o (fun z => by rw [z, hx] at e; cases e) (X a o e)
theorem ldC {M : Model} {s : Shared} {name : Str} {scope : Scope} {L a : Addr} {cd : Value} {m : Str → Option Value} {x : Str} {pos : Pos} {v : Value} {Q : Value → Shared → Prop} {A : Around} {E : Value → Shared → Prop} (hn : s.heap.Ns L m) (hv : m x = some v) (h : Q v s)
    (hk : scope.kind = .function := by rfl) (hl : (envOfC name scope L a cd).kindOf x = some .local := by rfl) (hd : (x == ("__debug__" : Str)) = false := by decide) :
    wpAny M A (eval (.Name x pos) (envOfC name scope L a cd)) Q E s := wpAny_Name (wpAny_loadName_local hk hl hn hv h) hd
/-- what __init__ leaves of a fresh exception at x -/
structure InitEnd (h h' : Heap) (x C dx t1 : Addr) (v : Value) : Prop where
  keep : ∀ b o, b ≠ x → h.get? b = some o → h'.get? b = some o
  obj : h'.get? x = some { cls := .ref C, dict := some dx, data := .fields #[.ref t1, .none, .none, .none, .bool false, .none] }
  dbig : h.objs.size ≤ dx
  dne : dx ≠ x
  ns : h'.Ns1 dx (fun y => if y = "number" then some v else none)
/-- a made Low -/
structure OwnMade (h h' : Heap) (e C d : Addr) (v : Value) : Prop where
  keep : ∀ b o, h.get? b = some o → h'.get? b = some o
  new : h.objs.size ≤ e
  obj : ∃ oe vs, h'.get? e = some oe ∧ oe.cls = .ref C ∧ oe.dict = some d ∧ oe.data = .fields vs ∧ vs[1]? = some .none
  dbig : h.objs.size ≤ d
  dne : d ≠ e
  ns : h'.Ns1 d (fun y => if y = "number" then some v else none)
section
variable {prog : Program} {w : World} {A : Around} {E : Value → Shared → Prop} {R : Result → Shared → Prop} {s : Shared} {K : Frag} {mg : Str → Option Value} {C fI : Addr}
theorem low_init (T : LowTxt K mg C fI) {x t0 : Addr} {v : Value} (X : K.In s.heap) (hlim : s.heap.NoLimit) (hx : s.heap.get? x = some (excO C t0)) (hnx : K.lookup x = none) (hroom : A.depth < recursionLimit)
    (hq : ∀ h' tk dx, InitEnd s.heap h' x C dx t0 v → R (.ok (.ret .none)) { s with heap := h', toks := tk }) :
    codeAny (model prog w) A (.call (.ref fI) ⟨[.ref x, v], []⟩) R s := by
  obtain ⟨oc, od, doc, pm, an, cdv, ct, osl, p1, p2, q1, q2, q3, q4, ho, hcd⟩ := T.fn
  obtain ⟨nm, q, N, bs, bm, sn, sub, ab, col, dd, k0, k1, k2, k3, k5, hC, hbm⟩ := T.cls
  have hcl : clsIn K C = some { name := nm, bases := bs, mro := .ref C :: bm, ns := N, qualname := q, hasDict := true, slotNames := sn, subclasses := sub, abstract := ab, collection := col, hasDel := false } := by unfold clsIn; rw [hC] <;> rfl
  refine Att.call_fn (binds := [("self", .ref x), ("number", v)]) X hlim ho hcd hroom (BindsTo.of_eq (by first | rfl | with_unfolding_all rfl)) (by first | rfl | decide | with_unfolding_all rfl) (fun s₁ IC => ?_) rfl rfl rfl
  obtain ⟨h₁, tk₁, rfl⟩ := IC.toInCall.same
  have k : ∀ b o, s.heap.get? b = some o → h₁.get? b = some o := IC.toInCall.keep
  have hn := IC.toInCall.ns
  have hxL : s.heap.objs.size ≠ x := Nat.ne_of_gt (Heap.lt_size hx)
  have X₁ : K.In h₁ := X.keeps k
  have hx₁ := k _ _ hx
  -- self.by = by
  show wpAny _ _ (execs _ _) _ _ _
  refine wpAny_execs_cons (plainObj_wpAny_Assign_Attribute ?_)
  refine ldC (v := v) hn (by first | rfl | with_unfolding_all rfl | kernel_rfl) (ldC (v := .ref x) hn (by first | rfl | with_unfolding_all rfl | kernel_rfl) ?_)
  refine set_plain X₁ (ox := excO C t0) (od := none) ⟨hx₁, rfl, rfl, trivial⟩ T.sa ?_
  refine exc_osa X₁ hx₁ hcl (show refsVE (.ref C :: bm) = true from hbm) rfl T.noN (fun h₃ tk₃ dx k₃ dn dne hx₃ hn₃ => ?_)
  show wpAny _ _ (execs _ _) _ _ _
  have z : s.heap.objs.size < h₁.objs.size := hn.lt
  exact wpAny_execs_nil (hq h₃ tk₃ dx ⟨fun b o hb e => k₃ b o hb (k b o e), hx₃, Nat.le_of_lt (Nat.lt_of_lt_of_le z dn), dne, hn₃⟩)
theorem low_made (T : LowTxt K mg C fI) {v : Value} (X : K.In s.heap) (hlim : s.heap.NoLimit) (hroom : A.depth + 1 < recursionLimit)
    (hq : ∀ h' tk e d, OwnMade s.heap h' e C d v → R (.ok (.ret (.ref e))) { s with heap := h', toks := tk }) :
    codeAny (model prog w) A (.call (.ref C) ⟨[v], []⟩) R s := by
  obtain ⟨nm, q, N, bs, bm, sn, sub, ab, col, dd, k0, k1, k2, k3, k5, hC, hbm⟩ := T.cls
  obtain ⟨hp, g, dr, tk, os⟩ := s
  have k : ∀ b o, hp.get? b = some o → ((hp.push (kdv_tup [v])).push (excO C hp.objs.size)).get? b = some o := fun b o e => Heap.get?_push_of_some _ (Heap.get?_push_of_some _ e)
  have hget : ((hp.push (kdv_tup [v])).push (excO C hp.objs.size)).get? (hp.objs.size + 1) = some (excO C hp.objs.size) := by heap_get
  have hnx : K.lookup (hp.objs.size + 1) = none := by
    cases e : K.lookup (hp.objs.size + 1) with
    | none => rfl
    | some o =>
      have z : hp.get? (hp.objs.size + 1) = some o := X _ _ e
      exact absurd (Nat.lt_of_succ_lt (Heap.lt_size z)) (Nat.lt_irrefl _)
  refine call_own F.excBase_ValueError (fun X => refsVE_contains X bm hbm) (X _ _ hC) (looks_findIn X T.iC) (fun self => bind_fn X self T.tC) (one_size v) ?_
  refine low_init (s := ⟨(hp.push (kdv_tup [v])).push (excO C hp.objs.size), g, dr, tk, os⟩) T (X.keeps k) (hlim.keeps k) hget hnx ?_ fun h' tk' dx ⟨k', hx, dn, dne, hns⟩ => ?_
  · show A.depth + 1 < recursionLimit
    exact hroom
  · have old : ∀ b o, hp.get? b = some o → h'.get? b = some o := fun b o e => k' b o (Nat.ne_of_lt (Nat.lt_succ_of_lt (Heap.lt_size e))) (k b o e)
    have z : hp.objs.size + 1 + 1 ≤ dx := by
      first
        | (simpa only [Heap.size_push] using dn)
        | exact dn
        | (have q := dn; rw [Heap.size_push, Heap.size_push] at q; exact q)
    exact ⟨rfl, hq h' tk' (hp.objs.size + 1) dx ⟨old, Nat.le_succ _, ⟨_, _, hx, rfl, rfl, rfl, rfl⟩, Nat.le_trans (Nat.le_trans (Nat.le_succ _) (Nat.le_succ _)) z, dne, hns⟩⟩
end
end LowX
end PySem
namespace L2
open PySem PySem.Spec PyProof.Rows
theorem relO_low {v : V} {v' : Value} (r : RelV v v') (f : Str) : RelO (List.lookup f [(("number" : Str), v)]) (if f = "number" then some v' else none) := by
  by_cases hw : f = "number"
  · subst hw
    rw [if_pos rfl]
    have q : List.lookup ("number" : Str) [(("number" : Str), v)] = some v := by simp [List.lookup]
    rw [q]
    exact r
  · rw [if_neg hw]
    have qw : (f == ("number" : Str)) = false := by simpa using hw
    have q2 : List.lookup f [(("number" : Str), v)] = none := by simp [List.lookup, qw]
    rw [q2]
    trivial
section
variable {X : Cx} {C fI : Addr}
/-- Low(e) -/
def tMkLow (C : Addr) (ta : TA) : St → Hp → XK → Prop := fun σ H Q => ta σ H fun vs H1 => ∃ v, vs = [v] ∧ ∀ d, H1 d = none → Q (.ref C) (some d) (upd H1 d (.xd [(("number" : Str), v)]))
theorem pmk_low {a : Expr} {ta : TA} {p pos : Pos} {k : Nat} (T : PySem.LowX.LowTxt X.K X.mg C fI) (hr : Room k X.A) (ha : PA X [a] ta) (hg : Gl X "Refused" := by rfl)
    (he : starEach (a :: []) X.env = (false, eval a X.env) :: starEach [] X.env := by rfl) (hpl : (backTo pos (starEach [] X.env)).any (·.1) = false := by rfl) :
    PMk X (.Call (.Name "Refused" p) [a] [] pos) (tMkLow C ta) := by
  intro pins s σ H Q I h
  refine wpAny_Call_Name_kw (ld_glob I hg T.gC ?_)
  refine PySem.W.callWith_K (h₀ := X.base) I.ok.mod.kin T.kC (thn (ha.run pos pins s σ H _ I h) fun us s1 hh => ?_) he hpl
  obtain ⟨vs, H1, I1, r1, v, ev, q1⟩ := hh
  subst ev
  refine ⟨I1.kIn, ?_⟩
  cases r1 with
  | cons rv rn =>
    rename_i v' us'
    cases rn
    show wpAny _ _ (call (.ref C) [v']) _ _ _
    have hlim := I1.nolimit
    obtain ⟨hp, g, dr, tk, os⟩ := s1
    refine wpAny_call (PySem.LowX.low_made T I1.kIn hlim (by have := hr.dp; omega) fun h' tk' e d M => ?_)
    show MkP X pins σ Q (.ref e) ⟨h', g, dr, tk', os⟩
    obtain ⟨oe, fv, hoe, hc, hd, hdat, h1⟩ := M.obj
    have hns := M.ns
    obtain ⟨G', g1, g2⟩ := restrict h' fun b => decide (b ≠ e)
    have gk : ∀ b, b ≠ e → G'.get? b = h'.get? b := fun b hb => g1 b (decide_eq_true hb)
    have ge : G'.get? e = none := g2 e (by simp)
    have old : ∀ b o, hp.get? b = some o → G'.get? b = some o := fun b o q => (gk b (Nat.ne_of_lt (Nat.lt_of_lt_of_le (Heap.lt_size q) M.new))).trans (M.keep b o q)
    have ob : ObjOk X.prog X.w (upd H1 d (.xd [(("number" : Str), v)])) G' d (.xd [(("number" : Str), v)]) :=
      ⟨_, hns.at (fun o q => (gk d M.dne).trans q), fun f => relO_low rv f⟩
    have J : Inv X pins σ (upd H1 d (.xd [(("number" : Str), v)])) ⟨G', g, dr, tk', os⟩ := I1.laid (t' := tk') old M.dbig ob
    refine ⟨e, oe, fv, ⟨G', g, dr, tk', os⟩, _, .ref C, some d, rfl, J, fun b o q => ?_, ge, hoe, ⟨hc, hd⟩, hdat, h1, ?_, rfl, I1.bare, raises_own T.exC T.tyC, q1 d (I1.hok.fresh M.dbig)⟩
    · by_cases hb : b = e
      · have q' : G'.get? b = some o := q
        rw [hb, ge] at q'; cases q'
      · exact (gk b hb).symm.trans q
    · rw [upd_ne (Ne.symm M.dne)]
      exact I1.hok.fresh M.new
/-- raise Low(e) -/
def tRaiseLow (C : Addr) (W : WX) (ta : TA) : TS := fun _ σ H => tMkLow C ta σ H fun cls d H' => W cls d σ H'
theorem ps_raiseLow {a : Expr} {ta : TA} {W : WX} {p pos pos2 : Pos} {k : Nat} (hc : X.calm = true) (T : PySem.LowX.LowTxt X.K X.mg C fI) (hr : Room k X.A) (tk : Takes X W) (ha : PA X [a] ta) (hg : Gl X "Refused" := by rfl)
    (he : starEach (a :: []) X.env = (false, eval a X.env) :: starEach [] X.env := by rfl) (hpl : (backTo pos (starEach [] X.env)).any (·.1) = false := by rfl) :
    PS X (.Raise (some (.Call (.Name "Refused" p) [a] [] pos)) none pos2) (tRaiseLow C W ta) := ps_raise hc tk (pmk_low T hr ha hg he hpl)
/-- low.by, low the exception that the suite holds (at a; its class cls, its dict d) -/
def tByLow (C : Addr) (a : Addr) (cls : Value) (d : Option Addr) (te : TE) : TE := fun σ H Q => te σ H fun x H1 => x = .ref a ∧ cls = .ref C ∧ ∃ (dd : Addr) (v : V), d = some dd ∧ H1 dd = some (.xd [(("number" : Str), v)]) ∧ Q v H1
theorem pe_byLow {a : Addr} {oe : Obj} {cls : Value} {d : Option Addr} {pn : List (Addr × Obj)} {e : Expr} {te : TE} {pos : Pos} (T : PySem.LowX.LowTxt X.K X.mg C fI) (hz : Zc cls d oe) (hf : ∃ vs, oe.data = .fields vs) (he : PE (X.suite a ((a, oe) :: pn)) e te)
    (hb : attributeBase e "number" X.env (eval e X.env) = eval e X.env := by rfl) :
    PE (X.suite a ((a, oe) :: pn)) (.Attribute e "number" pos) (tByLow C a cls d te) := by
  refine ⟨fun pins s σ H Q I h => ?_⟩
  refine attr_of hb (thn (he.run pins s σ H _ I h) fun u s1 hh => ?_)
  obtain ⟨x, H1, I1, rx, ex, ec, dd, v, ed, ea, q⟩ := hh
  subst ex
  obtain rfl : u = Value.ref a := rx
  subst ec
  subst ed
  obtain ⟨ha, _⟩ := I1.pin (a, oe) (List.mem_append_left _ List.mem_cons_self)
  obtain ⟨vs, hd⟩ := hf
  have hx : ObjOk X.prog X.w H1 s1.heap dd (.xd [(("number" : Str), v)]) := I1.hok dd _ ea
  obtain ⟨mA, hns, hr⟩ := hx
  obtain ⟨od, ho, hl⟩ := lookIn_ns hns
  have l : List.lookup ("number" : Str) [(("number" : Str), v)] = some v := by simp [List.lookup]
  obtain ⟨u, hu, ru⟩ := RelO.some_of (v := v) (o := mA "number") (by rw [← l]; exact hr "number")
  have J : PySem.W.InstAt s1.heap a oe C (some od) := ⟨ha, hz.1, by unfold PySem.W.notCls; rw [hd] <;> rfl, by rw [hz.2]; exact ho⟩
  exact HandSPX.exc_get I1.kIn J T.ga T.gg T.exC (PySem.W.findObj_own T.hdC T.noN rfl (by rw [hl, hu])) (handed_of ru) ⟨v, H1, I1.tok _, ru, q⟩
end
end L2

namespace L2
open PySem PySem.Spec PyProof.Rows
/-- an if whose test is known -/
theorem if_true_of {c : Bool} {A B : Prop} (hc : c = true) (h : A) : if c = true then A else B := by
  rw [if_pos hc]
  exact h
theorem if_false_of {c : Bool} {A B : Prop} (hc : c = false) (h : B) : if c = true then A else B := by
  rw [hc, if_neg Bool.false_ne_true]
  exact h
end L2
namespace Rt
open PySem PySem.Spec PyProof.Rows L2
/-! ### callables of the text, by name -/
structure Cal (CX : CXT) (P : Program) (w : World) (K : PySem.W.Frag) (mg : Str → Option Value) (base : Heap) (k : Nat) (x : Str) (ps : List Str) (sp : Sp) : Prop where
  ex : ∃ (f : Addr) (fd : FuncData), mg x = some (.ref f) ∧ PySem.W.keepIn K (.ref f) = true ∧ FnOk P w K mg base CX k f fd ps sp ∧ Binds K fd ps []
section
variable {X : Cx} {e : Expr} {es : List Expr} {p pos : Pos} {x : Str} {ps : List Str} {sp : Sp} {t : TA} {k j : Nat} {W : WX}
theorem pc0 (c : Cal CX0 X.prog X.w X.K X.mg X.base k x ps sp) (hr : Room j X.A) (hk : k ≤ j) (ha : PA X (e :: es) t) (hg : Gl X x := by rfl) (hd : (x == ("__debug__" : Str)) = false := by decide)
    (he : starEach (e :: es) X.env = (false, eval e X.env) :: starEach es X.env := by rfl) (hpl : (backTo pos (starEach es X.env)).any (·.1) = false := by rfl) : PE X (.Call (.Name x p) (e :: es) [] pos) (tCall sp [] E0 t) := by
  obtain ⟨f, fd, g, kp, F, b⟩ := c.ex
  exact pe_call F (hr.mono hk) hg g kp b .nil pass0 ha (hdb := hd) (he := he) (hpl := hpl)
theorem pcX (c : Cal (L2.CX X.prog X.w) X.prog X.w X.K X.mg X.base k x ps sp) (hr : Room j X.A) (hk : k ≤ j) (tk : Takes X W) (ha : PA X (e :: es) t) (hg : Gl X x := by rfl) (hd : (x == ("__debug__" : Str)) = false := by decide)
    (he : starEach (e :: es) X.env = (false, eval e X.env) :: starEach es X.env := by rfl) (hpl : (backTo pos (starEach es X.env)).any (·.1) = false := by rfl) : PE X (.Call (.Name x p) (e :: es) [] pos) (tCallS sp (WE W) t) := by
  obtain ⟨f, fd, g, kp, F, b⟩ := c.ex
  exact pe_callS F (hr.mono hk) hg g kp b (fun σ => passAt tk σ) ha (hdb := hd) (he := he) (hpl := hpl)
/-- a module's number -/
def Ki (mg : Str → Option Value) (x : Str) (i : Int) : Prop := ∃ u, mg x = some (.int i u)
theorem pgi {i : Int} (h : Ki X.mg x i) (hg : Gl X x := by rfl) (hd : (x == ("__debug__" : Str)) = false := by decide) : PE X (.Name x pos) (tC (.int i)) := by
  obtain ⟨u, hm⟩ := h
  exact pe_glob (v := .int i) hg hm ⟨u, rfl⟩ hd
/-- len of a list or a tuple, the written part named -/
def rLenS (K : PySem.W.Frag) : List V → Hp → VK → Prop := fun xs H Q => ∃ p ys, xs = [.ref p] ∧ (SqL K H p ys ∨ SqT K H p ys) ∧ Q (.int ys.length) H
theorem cr_len {K : PySem.W.Frag} (h : X.K = K := by rfl) : CallR X (.builtin "len") (rLenS K) := by
  subst h
  exact call_len_seq
theorem ixL {K : PySem.W.Frag} (h : X.K = K := by rfl) : IxR X (rIxL K) := by
  subst h
  exact ix_list
theorem ixT {K : PySem.W.Frag} (h : X.K = K := by rfl) : IxR X (rIxT K) := by
  subst h
  exact ix_tup
end
end Rt
namespace Rt
open PySem PySem.Spec PyProof.Rows L2
abbrev nV (n : Nat) : V := .int (n : Int)
theorem nV_eq (a b : Nat) : decide (nV a = nV b) = decide (a = b) := decide_eq_decide.mpr ⟨fun h => by injection h with h; omega, fun h => by rw [h]⟩
theorem same_upd {H : Hp} {p : Addr} {o : HO} (h : H p = none) : Same H (upd H p o) := fun b x e => by
  rw [upd_ne (ne_of_none e h)]
  exact e
/-- all but the thing at D, which is new -/
theorem same_new {H H1 : Hp} {D : Addr} {o : HO} (s : Same H H1) (n : H D = none) : Same H (upd H1 D o) := fun b x e => by
  rw [upd_ne (ne_of_none e n)]
  exact s b x e
/-- an error of the class at C, its number told; all else as it was -/
def Er (C : Addr) (n : Int) (H : Hp) (E : XK) : Prop := ∀ (d : Addr) (H1 : Hp), Same H H1 → H1 d = some (.xd [(("number" : Str), .int n)]) → E (.ref C) (some d) H1
theorem Er.mono {C : Addr} {n : Int} {H H' : Hp} {E : XK} (h : Er C n H E) (s : Same H H') : Er C n H' E := fun d H1 s1 e => h d H1 (s.trans s1) e
theorem sl1000 {n : Nat} (h : n ≤ 1000000) : n ≤ sizeLine := Nat.le_trans h (by rw [sizeLine_eq]; decide)
theorem slt1000 {n : Nat} (h : n ≤ 1000000) : n < sizeLine := Nat.lt_of_le_of_lt h (by rw [sizeLine_eq]; decide)
theorem map_get {α : Type} {xs : List α} {f : α → V} {i : Nat} {x : α} (h : xs[i]? = some x) : (xs.map f)[i]? = some (f x) := by
  rw [List.getElem?_map, h]
  rfl
theorem map_get_inv {α : Type} {xs : List α} {f : α → V} {i : Nat} {y : V} (h : (xs.map f)[i]? = some y) : ∃ x, xs[i]? = some x ∧ y = f x := by
  rw [List.getElem?_map] at h
  cases e : xs[i]? with
  | none => rw [e] at h; cases h
  | some x => rw [e] at h; exact ⟨x, rfl, (Option.some.inj h).symm⟩
theorem get_lt {α : Type} {xs : List α} {i : Nat} {x : α} (h : xs[i]? = some x) : i < xs.length := (List.getElem?_eq_some_iff.mp h).1
/-- the nodes' list at q -/
structure NodesAt (H : Hp) (q : Addr) (g : Krk0.Graph) : Prop where
  ex : ∃ ts : List Addr, H q = some (.lst (ts.map V.ref)) ∧ ts.length = g.length ∧ ∀ (i : Nat) (x : Krk0.Node), g[i]? = some x → ∃ t, ts[i]? = some t ∧ H t = some (.tup [nV x.kind, nV x.a, nV x.b])
theorem NodesAt.same {H H' : Hp} {q : Addr} {g : Krk0.Graph} (h : NodesAt H q g) (s : Same H H') : NodesAt H' q g := by
  obtain ⟨ts, h1, h2, h3⟩ := h.ex
  exact ⟨ts, s _ _ h1, h2, fun i x e => let ⟨t, a, b⟩ := h3 i x e; ⟨t, a, s _ _ b⟩⟩
/-- an item of it is a node's tuple -/
theorem NodesAt.item {H : Hp} {q : Addr} {g : Krk0.Graph} {xs : List V} {i : Nat} {y : V} {ys : List V} (h : NodesAt H q g) (eq : H q = some (.lst ys)) (e : xs[i]? = some y) (hx : xs = ys := by rfl) : ∃ (t : Addr) (x : Krk0.Node), g[i]? = some x ∧ y = V.ref t ∧ H t = some (.tup [nV x.kind, nV x.a, nV x.b]) := by
  subst hx
  obtain ⟨ts, h1, h2, h3⟩ := h.ex
  rw [eq] at h1
  injection h1 with h1
  injection h1 with h1
  rw [h1] at e
  obtain ⟨t, et, ey⟩ := map_get_inv e
  have hi : i < g.length := by
    have := get_lt et
    omega
  obtain ⟨t', e1, e2⟩ := h3 i _ (List.getElem?_eq_getElem hi)
  rw [et] at e1
  have q : t = t' := Option.some.inj e1
  subst q
  exact ⟨t, _, List.getElem?_eq_getElem hi, ey, e2⟩
/-- a node of it -/
theorem NodesAt.get {K : PySem.W.Frag} {H : Hp} {q : Addr} {g : Krk0.Graph} {i : Nat} {x : Krk0.Node} (h : NodesAt H q g) (e : g[i]? = some x) : ∃ xs t, SqL K H q xs ∧ xs.length = g.length ∧ atI xs (i : Int) = some (.ref t) ∧ H t = some (.tup [nV x.kind, nV x.a, nV x.b]) := by
  obtain ⟨ts, h1, h2, h3⟩ := h.ex
  obtain ⟨t, a, b⟩ := h3 i x e
  exact ⟨_, t, .inl (.inl h1), by rw [List.length_map, h2], atI_nat (by rw [List.getElem?_map, a]; rfl), b⟩
theorem NodesAt.sq {K : PySem.W.Frag} {H : Hp} {q : Addr} {g : Krk0.Graph} (h : NodesAt H q g) : ∃ xs, SqL K H q xs ∧ xs.length = g.length := by
  obtain ⟨ts, h1, h2, _⟩ := h.ex
  exact ⟨_, .inl (.inl h1), by rw [List.length_map, h2]⟩
theorem nodes_of {H1 : Hp} : ∀ (acc : List V) (g : List Krk0.Node), acc.length = g.length → (∀ (i : Nat) (y : V), acc[i]? = some y → ∃ (t : Addr) (x : Krk0.Node), g[i]? = some x ∧ y = V.ref t ∧ H1 t = some (.tup [nV x.kind, nV x.a, nV x.b])) →
    ∃ ts : List Addr, acc = ts.map V.ref ∧ ts.length = g.length ∧ ∀ (i : Nat) (x : Krk0.Node), g[i]? = some x → ∃ t, ts[i]? = some t ∧ H1 t = some (.tup [nV x.kind, nV x.a, nV x.b])
  | [], [], _, _ => ⟨[], rfl, rfl, fun i x e => by simp at e⟩
  | [], _ :: _, h, _ => by simp at h
  | _ :: _, [], h, _ => by simp at h
  | y :: acc, x0 :: g, h, ha => by
    obtain ⟨ts, e1, e2, e3⟩ := nodes_of acc g (by simpa using h) (fun i y e => by simpa using ha (i + 1) y (by simpa using e))
    obtain ⟨t, x, f1, f2, f3⟩ := ha 0 y rfl
    have ex : x0 = x := by simpa using f1
    subst ex
    refine ⟨t :: ts, by rw [f2, e1]; rfl, by simp [e2], fun i x e => ?_⟩
    cases i with
    | zero =>
      have ex : x0 = x := by simpa using e
      subst ex
      exact ⟨t, rfl, f3⟩
    | succ i => simpa using e3 i x (by simpa using e)
theorem NodesAt.of {H1 : Hp} {D : Addr} {acc : List V} {g : Krk0.Graph} (eD : H1 D = some (.lst acc)) (h : acc.length = g.length) (ha : ∀ (i : Nat) (y : V), acc[i]? = some y → ∃ (t : Addr) (x : Krk0.Node), g[i]? = some x ∧ y = V.ref t ∧ H1 t = some (.tup [nV x.kind, nV x.a, nV x.b])) : NodesAt H1 D g := by
  obtain ⟨ts, e1, e2, e3⟩ := nodes_of acc g h ha
  exact ⟨ts, by rw [eD, e1], e2, e3⟩
theorem lc_in {te : TE} {σ2 σ0 : L2.St} {vs : List Nat} {H2 : Hp} {Q : VK} {Z : Hp → Prop} (hw : wipe σ2 vs = σ0) (h : te σ2 H2 Q) : wipe σ2 vs = σ0 ∧ tYes σ2 H2 fun b H3 => if b = true then te σ2 H3 Q else Z H3 := ⟨hw, by
  show if true = true then te σ2 H2 Q else Z H2
  exact iteT h⟩
/-- a comprehension without a test: what is told (R) of each item -/
theorem lc_all {J : It} {n : Nat} {G : Hp → Prop} {Y : Nat → Hp → V → Hp → Prop} (w : Walk J n G Y) {g : TG} {te : TE} {vs : List Nat} {σ : L2.St} {H1 : Hp} {D : Addr} {Qd : Hp → Prop} (R : Nat → V → Hp → Prop)
    (nD : H1 D = none) (hn : n ≤ 1000000) (hG : ∀ H, Same H1 H → G H) (hR : ∀ i y H H', R i y H → (∀ b o, (∀ l, o ≠ HO.lst l) → H b = some o → H' b = some o) → R i y H')
    (hs : ∀ i x H H', i < n → Same H1 H → Y i H x H' → ∀ (Q : VK) (Z : Hp → Prop), (∀ y H4, Same H H4 → R i y H4 → Q y H4) → g x (wipe σ vs) H' fun σ2 H2 => wipe σ2 vs = wipe σ vs ∧ tYes σ2 H2 fun b H3 => if b = true then te σ2 H3 Q else Z H3)
    (hd : ∀ H acc, Same H1 H → H D = some (.lst acc) → acc.length = n → (∀ i y, acc[i]? = some y → R i y H) → Qd H) :
    ∃ W : Nat → Nat → Hp → Prop, (∃ m, W 0 m (upd H1 D (.lst []))) ∧ ∀ i m H, W i m H →
      (J.stop i H ∧ Qd H) ∨ (J.go i H ∧ ∃ Nx : Hp → Prop, (∀ H', Nx H' → ∃ m', m' < m ∧ W (i + 1) m' H') ∧ ∀ x H', J.yld i H x H' → g x (wipe σ vs) H' fun σ2 H2 => wipe σ2 vs = wipe σ vs ∧ tYes σ2 H2 fun b H3 =>
        if b = true then te σ2 H3 fun y H4 => ∃ acc, H4 D = some (.lst acc) ∧ acc.length < sizeLine ∧ Nx (upd H4 D (.lst (acc ++ [y]))) else Nx H3) := by
  refine lc_it w (fun i H => Same H1 H ∧ ∃ acc, H D = some (.lst acc) ∧ acc.length = i ∧ ∀ j y, acc[j]? = some y → R j y H) ⟨same_upd nD, [], upd_same, rfl, fun j y e => by simp at e⟩ (fun i H _ p => hG H p.1) ?_ ?_
  · rintro i x H H' hi ⟨s, acc, hD, hl, hacc⟩ y
    refine hs i x H H' hi s y _ _ fun v H4 s4 r => ?_
    have e4 : H4 D = some (.lst acc) := s4 _ _ hD
    refine ⟨acc, e4, slt1000 (by omega), same_new (s.trans s4) nD, acc ++ [v], upd_same, by rw [List.length_append, hl]; rfl, fun j z e => ?_⟩
    have keep : ∀ b o, (∀ l, o ≠ HO.lst l) → H4 b = some o → upd H4 D (.lst (acc ++ [v])) b = some o := fun b o ho eb => by
      have hb : b ≠ D := fun z => by
        rw [z, e4] at eb
        exact ho acc (Option.some.inj eb).symm
      rw [upd_ne hb]
      exact eb
    by_cases hj : j < acc.length
    · rw [List.getElem?_append_left hj] at e
      exact hR j z H4 _ (hR j z H H4 (hacc j z e) fun b o _ eb => s4 b o eb) keep
    · have hj2 : j = acc.length := by
        have q := get_lt e
        rw [List.length_append] at q
        simp at q
        omega
      subst hj2
      rw [List.getElem?_append_right (Nat.le_refl _), Nat.sub_self] at e
      have ez : v = z := Option.some.inj e
      subst ez
      rw [hl]
      exact hR i v H4 _ r keep
  · rintro H ⟨s, acc, hD, hl, hacc⟩
    exact hd H acc s hD hl hacc
end Rt
namespace Rt
open PySem PySem.Spec PyProof.Rows L2
/-! ### a list against an empty one -/
theorem eqv_nil (ds : List PyData) : PyData.eqv (.list ds) (.list []) = ds.isEmpty := by cases ds <;> rfl
theorem dpAll_len {K : PySem.W.Frag} {H : Hp} : ∀ {xs : List V} {ds : List PyData}, DpAll K H xs ds → xs.isEmpty = ds.isEmpty
  | _, _, .nil => rfl
  | _, _, .cons _ _ => rfl
theorem ne_nil {K : PySem.W.Frag} {H : Hp} {a b : Addr} {xs : List V} {ds : List PyData} {Q : VK} (hs : SqL K H a xs) (hd : DpAll K H xs ds) (hsh : SeqAt.shaped (.list ds) = true) (hb : SqL K H b []) (q : Q (.bl (!xs.isEmpty)) H) : rNeD K (.ref a) (.ref b) H Q := by
  refine ⟨.list ds, .list [], .lst hs hd, .lst hb .nil, hsh, rfl, ?_⟩
  rw [eqv_nil, ← dpAll_len hd]
  exact q
theorem eq_nil {K : PySem.W.Frag} {H : Hp} {a b : Addr} {xs : List V} {ds : List PyData} {Q : VK} (hs : SqL K H a xs) (hd : DpAll K H xs ds) (hsh : SeqAt.shaped (.list ds) = true) (hb : SqL K H b []) (q : Q (.bl xs.isEmpty) H) : rEqD K (.ref a) (.ref b) H Q := by
  refine ⟨.list ds, .list [], .lst hs hd, .lst hb .nil, hsh, rfl, ?_⟩
  rw [eqv_nil, ← dpAll_len hd]
  exact q
theorem dp_ints {K : PySem.W.Frag} {H : Hp} : ∀ ns : List Int, DpAll K H (ns.map V.int) (ns.map PyData.int)
  | [] => .nil
  | n :: r => .cons (.int n) (dp_ints r)
theorem shaped_list {ds : List PyData} {n : Nat} (hn : n + 1 ≤ 64) (h : ∀ d ∈ ds, PyData.canLay0 d = true ∧ PyData.depth d ≤ n) : SeqAt.shaped (.list ds) = true := by
  have h1 : ∀ ds : List PyData, (∀ d ∈ ds, PyData.canLay0 d = true ∧ PyData.depth d ≤ n) → PyData.canLayAll0 ds = true ∧ PyData.depthAll ds ≤ n := by
    intro ds
    induction ds with
    | nil => exact fun _ => ⟨rfl, Nat.zero_le _⟩
    | cons d ds ih =>
      intro h
      obtain ⟨a, b⟩ := ih fun z hz => h z (List.mem_cons_of_mem _ hz)
      obtain ⟨c, e⟩ := h d List.mem_cons_self
      refine ⟨?_, ?_⟩
      · show (PyData.canLay0 d && PyData.canLayAll0 ds) = true
        rw [c, a]
        rfl
      · show max (PyData.depth d) (PyData.depthAll ds) ≤ n
        omega
  obtain ⟨a, b⟩ := h1 ds h
  show (PyData.canLayAll0 ds && decide (PyData.depthAll ds + 1 ≤ 64)) = true
  rw [a, decide_eq_true (by omega)]
  rfl
theorem shaped_ints (ns : List Int) : SeqAt.shaped (.list (ns.map PyData.int)) = true := shaped_list (n := 0) (by decide) fun d hd => by
  obtain ⟨i, _, e⟩ := List.mem_map.mp hd
  subst e
  exact ⟨rfl, Nat.le_refl _⟩
theorem drop_at {α : Type} {l : List α} {i : Nat} {x : α} (h : l[i]? = some x) : l.drop i = x :: l.drop (i + 1) := by
  obtain ⟨hi, e⟩ := List.getElem?_eq_some_iff.mp h
  rw [List.drop_eq_getElem_cons hi, e]
theorem drop_end {α : Type} {l : List α} {i : Nat} (h : l.length ≤ i) : l.drop i = [] := List.drop_eq_nil_of_le h
end Rt
namespace Rt
open PySem PySem.Spec PyProof.Rows L2
def top (i : Nat) : Stmt := PySem.Challenge.pw_roundtypesworks_s06_has.main.body.getD i (.Pass ⟨0, 0, 0, 0⟩)
abbrev s_must : Stmt := top 12
abbrev s_is_node : Stmt := top 13
abbrev s_nodes_in : Stmt := top 14
abbrev s_must_be_there : Stmt := top 15
abbrev s_is_value : Stmt := top 24
abbrev s_kind_there : Stmt := top 25
abbrev s_inner_of : Stmt := top 26
abbrev s_fits : Stmt := top 27
abbrev s_asked_inside : Stmt := top 28
abbrev s_is_of : Stmt := top 29
abbrev s_asked_nodes : Stmt := top 31
abbrev s_has : Stmt := top 32
/-! ### must -/
section
variable {P : Program} {w : World} {K : PySem.W.Frag} {mg : Str → Option Value} {base : Heap} {C fI : Addr}
theorem sc_must : FnScope ["so", "number"] ["so", "number"] (defScope s_must) := ⟨rfl, rfl, rfl, by decide +kernel, rfl, by decide +kernel, by decide +kernel⟩
def sp_must (C : Addr) : Sp := fun vs H Q E => ∃ (b : Bool) (n : Int), vs = [.bl b, .int n] ∧ (b = true → Q .non H) ∧ (b = false → Er C n H E)
theorem ok_must {f : Addr} {fd : FuncData} (F : Fun K "must" "must" s_must f fd) (low : PySem.LowX.LowTxt K mg C fI) : FnOk P w K mg base (L2.CX P w) 3 f fd ["so", "number"] (sp_must C) := by
  refine F.okX sc_must (fun vs H Q E h => ?_) (fun cdv A outer s H vs Q E hr h => ?_)
  · obtain ⟨b, n, rfl, _⟩ := h
    rfl
  · obtain ⟨b, n, rfl, k1, k2⟩ := h
    refine ⟨_, pss_one (ps_if (pt_not (pt_val (pv 0))) (pss_one (ps_raiseLow rfl low hr (takes_of rfl rfl rfl rfl) (pa_cons (pv 1) pa_nil))) pss_nil), ?_⟩
    refine ⟨_, rfl, b, rfl, ?_⟩
    cases b with
    | true => exact iteF (k1 rfl)
    | false => exact iteT ⟨_, rfl, _, rfl, fun d hd => k2 rfl d _ (same_upd hd) upd_same⟩
end
/-! ### is_node -/
section
variable {P : Program} {w : World} {K : PySem.W.Frag} {mg : Str → Option Value} {base : Heap}
theorem sc_is_node : FnScope ["node", "many", "kind", "a", "b"] ["node", "many"] (defScope s_is_node) := ⟨rfl, rfl, rfl, by decide +kernel, rfl, by decide +kernel, by decide +kernel⟩
def sp_is_node : Sp := fun vs H Q _ => ∃ (t : Addr) (n : Nat) (x : Krk0.Node), vs = [.ref t, nV n] ∧ H t = some (.tup [nV x.kind, nV x.a, nV x.b]) ∧ ∀ H', Same H H' → Q (.bl (Krk0.nodeOk n x)) H'
/-- three kinds in a tuple -/
theorem inV3 (k : Nat) : inV (nV k) [.int 4, .int 5, .int 6] = decide (4 ≤ k ∧ k ≤ 6) := by
  have e : inV (nV k) [.int 4, .int 5, .int 6] = (((4 : Int) == (k : Int)) || (((5 : Int) == (k : Int)) || (((6 : Int) == (k : Int)) || false))) := rfl
  rw [e]
  by_cases h : 4 ≤ k ∧ k ≤ 6
  · rw [decide_eq_true h]
    have : k = 4 ∨ k = 5 ∨ k = 6 := by omega
    rcases this with r | r | r <;> subst r <;> rfl
  · rw [decide_eq_false h]
    have h1 : ((4 : Int) == (k : Int)) = false := beq_eq_false_iff_ne.mpr (by omega)
    have h2 : ((5 : Int) == (k : Int)) = false := beq_eq_false_iff_ne.mpr (by omega)
    have h3 : ((6 : Int) == (k : Int)) = false := beq_eq_false_iff_ne.mpr (by omega)
    rw [h1, h2, h3]
    rfl
theorem ok_is_node {f : Addr} {fd : FuncData} (F : Fun K "is_node" "is_node" s_is_node f fd) (g4 : Ki mg "PAIR" 4) (g5 : Ki mg "CHOICE" 5) (g6 : Ki mg "FUNCTION" 6) :
    FnOk P w K mg base CX0 1 f fd ["node", "many"] sp_is_node := by
  refine F.ok sc_is_node (fun vs H Q E h => ?_) (fun cdv A outer s H vs Q E hr h => ?_)
  · obtain ⟨t, n, x, rfl, _⟩ := h
    rfl
  · obtain ⟨t, n, x, rfl, ht, q⟩ := h
    refine ⟨_, pss_cons (ps_asg (pv 0) (pg_tup rfl (pgs_cons (pg_name (i := 2) sc_is_node.nd rfl (.inl rfl)) (pgs_cons (pg_name (i := 3) sc_is_node.nd rfl (.inl rfl)) (pgs_cons (pg_name (i := 4) sc_is_node.nd rfl (.inl rfl)) pgs_nil)))))
      (pss_cons (ps_if (pt_cmpR op_in_seq (pv 2) (pe_tup (pa_cons (pgi g4) (pa_cons (pgi g5) (pa_cons (pgi g6) pa_nil)))) rfl)
          (pss_one (ps_ret (pe_and (pe_cmpR op_lt (pv 3) (pv 1) (nomark _)) (pe_one (pe_cmpR op_lt (pv 4) (pv 1) (nomark _)))))) pss_nil)
        (pss_one (ps_ret (pe_and (pe_cmpR op_lt (pv 2) (pgi g4) (nomark _)) (pe_and (pe_cmpR op_eq (pv 3) pe_int (nomark _)) (pe_one (pe_cmpR op_eq (pv 4) pe_int (nomark _)))))))), ?_⟩
    refine ⟨_, rfl, t, [nV x.kind, nV x.a, nV x.b], rfl, .inl (.inl ht), rfl, _, _, rfl, _, _, rfl, _, _, rfl, rfl, ?_⟩
    refine ⟨_, rfl, (by show 3 ≤ sizeLine; decide), fun p hp => ?_⟩
    have s1 := same_upd (o := .tup [.int 4, .int 5, .int 6]) hp
    refine ⟨p, [.int 4, .int 5, .int 6], rfl, .inr (.inl (.inl upd_same)), rfl, rfl, _, rfl, ?_⟩
    show if (inV (nV x.kind) [.int 4, .int 5, .int 6]) = true then _ else _
    rw [inV3]
    by_cases hk : 4 ≤ x.kind ∧ x.kind ≤ 6
    · rw [if_pos (decide_eq_true hk)]
      refine ⟨_, rfl, _, rfl, _, _, rfl, rfl, _, rfl, ?_⟩
      have e : Krk0.nodeOk n x = (decide (x.a < n) && decide (x.b < n)) := by
        unfold Krk0.nodeOk
        rw [if_neg (by omega), decide_eq_true (show x.kind ≤ 6 from hk.2), Bool.true_and]
      rw [e] at q
      by_cases ha : x.a < n
      · rw [if_pos (decide_eq_true (show (x.a : Int) < (n : Int) by omega))]
        refine ⟨_, rfl, _, rfl, _, _, rfl, rfl, ?_⟩
        have e2 : decide ((x.b : Int) < (n : Int)) = (decide (x.a < n) && decide (x.b < n)) := by
          rw [decide_eq_true ha, Bool.true_and]
          exact decide_eq_decide.mpr (by omega)
        have q1 := q _ s1
        rw [← e2] at q1
        exact q1
      · rw [if_neg (by rw [decide_eq_true_eq]; omega)]
        have e2 : (decide (x.a < n) && decide (x.b < n)) = false := by rw [decide_eq_false ha, Bool.false_and]
        rw [e2] at q
        exact q _ s1
    · rw [if_neg (by rw [decide_eq_true_eq]; exact hk)]
      refine ⟨_, rfl, _, _, rfl, rfl, _, rfl, ?_⟩
      by_cases h4 : x.kind < 4
      · rw [if_pos (decide_eq_true (show (x.kind : Int) < 4 by omega))]
        have e : Krk0.nodeOk n x = (x.a == 0 && x.b == 0) := by
          unfold Krk0.nodeOk
          rw [if_pos (by omega)]
        rw [e] at q
        refine ⟨_, rfl, rfl, _, rfl, ?_⟩
        by_cases ha : x.a = 0
        · rw [if_pos (decide_eq_true (by rw [ha]; rfl))]
          refine ⟨_, rfl, rfl, ?_⟩
          have e2 : decide (nV x.b = V.int 0) = (x.a == 0 && x.b == 0) := by
            rw [ha]
            by_cases hb : x.b = 0
            · rw [hb]; rfl
            · rw [decide_eq_false (fun z => hb (by injection z with z; omega))]
              simp [hb]
          have q1 := q _ s1
          rw [← e2] at q1
          exact q1
        · rw [if_neg (by rw [decide_eq_true_eq]; exact fun z => ha (by injection z with z; omega))]
          have e2 : (x.a == 0 && x.b == 0) = false := by simp [ha]
          rw [e2] at q
          exact q _ s1
      · rw [if_neg (by rw [decide_eq_true_eq]; omega)]
        have e : Krk0.nodeOk n x = false := by
          unfold Krk0.nodeOk
          rw [if_neg (by omega), decide_eq_false (show ¬ x.kind ≤ 6 by omega), Bool.false_and]
        rw [e] at q
        exact q _ s1
end
/-! ### nodes_in -/
section
variable {P : Program} {w : World} {K : PySem.W.Frag} {mg : Str → Option Value} {base : Heap} {C : Addr}
theorem sc_nodes_in : FnScope ["row", "found", "at", "node"] ["row"] (defScope s_nodes_in) := ⟨rfl, rfl, rfl, by decide +kernel, rfl, by decide +kernel, by decide +kernel⟩
def sp_nodes_in (K : PySem.W.Frag) (C : Addr) : Sp := fun vs H Q E => ∃ (p : Addr) (l : List Nat) (g : Krk0.Graph), vs = [.ref p] ∧ SqL K H p (l.map nV) ∧ Krk0.graphOf l = some g ∧ l.length ≤ 1000 ∧
  (Krk0.graphOk g = true → ∀ H' q, Same H H' → NodesAt H' q g → Q (.ref q) H') ∧ (Krk0.graphOk g = false → Er C (-71) H E)
theorem all_map_id {α : Type} (g : List α) (f : α → Bool) : (g.map f).all id = g.all f := by
  rw [List.all_map]
  rfl
theorem bools_of {f : Krk0.Node → Bool} : ∀ (acc : List V) (g : List Krk0.Node), acc.length = g.length → (∀ (i : Nat) (y : V), acc[i]? = some y → ∃ x, g[i]? = some x ∧ y = V.bl (f x)) → acc = (g.map f).map V.bl
  | [], [], _, _ => rfl
  | [], _ :: _, h, _ => by simp at h
  | _ :: _, [], h, _ => by simp at h
  | y :: acc, x0 :: g, h, ha => by
    obtain ⟨x, f1, f2⟩ := ha 0 y rfl
    have ex : x0 = x := by simpa using f1
    subst ex
    rw [bools_of acc g (by simpa using h) (fun i y e => by simpa using ha (i + 1) y (by simpa using e)), f2]
    rfl
theorem rsz3 (n : Nat) : Builtin.Range.rangeSize 0 (((3 * n : Nat) : Int) - 2) 3 = n := by
  unfold Builtin.Range.rangeSize
  rw [if_pos (by decide)]
  split <;> omega
theorem rng3 (n : Nat) (h : n ≤ 1000) : RgC 0 (((3 * n : Nat) : Int) - 2) 3 n := by
  refine ⟨by decide, by decide, ?_, ?_⟩
  · unfold Builtin.Range.small
    have e : Builtin.Range.rangeSize 0 (((3 * n : Nat) : Int) - 2) 3 = n := rsz3 n
    rw [e]
    simp only [Builtin.Range.rangeFitsLong, Bool.and_eq_true, Bool.or_eq_true, decide_eq_true_eq, beq_iff_eq, show ((3 : Int) > 0) by decide, if_true]
    omega
  · exact rsz3 n
theorem ok_nodes_in {f : Addr} {fd : FuncData} (F : Fun K "nodes_in" "nodes_in" s_nodes_in f fd) (c1 : Cal (L2.CX P w) P w K mg base 3 "must" ["so", "number"] (sp_must C)) (c2 : Cal CX0 P w K mg base 1 "is_node" ["node", "many"] sp_is_node)
    (mr : mg "range" = none) (ml : mg "len" = none) (ma : mg "all" = none) (gM : Ki mg "MOST_NODES" 32) (gN : Ki mg "NO_NODES" (-71)) : FnOk P w K mg base (L2.CX P w) 4 f fd ["row"] (sp_nodes_in K C) := by
  refine F.okX sc_nodes_in (fun vs H Q E h => ?_) (fun cdv A outer s H vs Q E hr h => ?_)
  · obtain ⟨p, l, g, rfl, _⟩ := h
    rfl
  · obtain ⟨p, l, g, rfl, hS, hg, hlen, k1, k2⟩ := h
    refine ⟨_, pss_cons (ps_set (i := 1) sc_nodes_in.nd rfl (.inr rfl) (pe_lc (own := [("at", 2)]) (g := gName 2) (tt := tYes) rfl sc_nodes_in.nd
          (pi_range3 (by rfl) mr (pa_cons pe_int (pa_cons (pe_op op_sub (pe_callB (cr_len (K := K)) (by rfl) ml PySem.boot_len (pa_cons (pv 0) pa_nil)) pe_int) (pa_cons pe_int pa_nil))))
          (blkOk_by (own := [("at", 2)]) (N := ["row", "found", "at", "node"]) (sc := defScope s_nodes_in) (by decide +kernel)) (fun _ _ _ _ _ => pg_name (i := 2) sc_nodes_in.nd rfl (Or.inl rfl)) (fun _ _ _ _ _ => pts_nil)
          (fun _ _ _ _ _ => pe_tup (pa_cons (pe_ix (ixL (K := K)) (pv 0) (pv 2) (fun _ _ => rfl)) (pa_cons (pe_ix (ixL (K := K)) (pv 0) (pe_op op_add (pv 2) pe_int) (fun _ _ => rfl)) (pa_cons (pe_ix (ixL (K := K)) (pv 0) (pe_op op_add (pv 2) pe_int) (fun _ _ => rfl)) pa_nil))))))
      (pss_cons (ps_expr (pcX c1 hr (by decide) (takes_of rfl rfl rfl rfl) (pa_cons (pe_and (pe_cmpR op_le pe_int (pe_callB (cr_len (K := K)) (by rfl) ml PySem.boot_len (pa_cons (pv 1) pa_nil)) (nomark _))
          (pe_and (pe_cmpR op_le (pe_callB (cr_len (K := K)) (by rfl) ml PySem.boot_len (pa_cons (pv 1) pa_nil)) (pgi gM) (nomark _))
            (pe_one (pe_cmpR op_eq (pe_callB (cr_len (K := K)) (by rfl) ml PySem.boot_len (pa_cons (pv 0) pa_nil)) (pe_op op_mul pe_int (pe_callB (cr_len (K := K)) (by rfl) ml PySem.boot_len (pa_cons (pv 1) pa_nil))) (nomark _))))) (pa_cons (pgi gN) pa_nil))))
      (pss_cons (ps_expr (pcX c1 hr (by decide) (takes_of rfl rfl rfl rfl) (pa_cons (pe_callB (cr_all rfl) (by rfl) ma (by decide +kernel) (pa_cons (pe_lc (own := [("node", 3)]) (g := gName 3) (tt := tYes) rfl sc_nodes_in.nd (pi_list (pv 1))
          (blkOk_by (own := [("node", 3)]) (N := ["row", "found", "at", "node"]) (sc := defScope s_nodes_in) (by decide +kernel)) (fun _ _ _ _ _ => pg_name (i := 3) sc_nodes_in.nd rfl (Or.inl rfl)) (fun _ _ _ _ _ => pts_nil)
          (fun _ _ _ _ _ => pc0 c2 hr (by decide) (pa_cons (pv 3) (pa_cons (pe_callB (cr_len (K := K)) (by rfl) ml PySem.boot_len (pa_cons (pv 1) pa_nil)) pa_nil)))) pa_nil)) (pa_cons (pgi gN) pa_nil))))
      (pss_one (ps_ret (pv 1))))), ?_⟩
    have hl3 := Rt.graphOf_len hg
    have hgl : g.length ≤ 1000 := by omega
    -- the rows of three
    refine ⟨_, rfl, p, _, rfl, .inl hS, _, _, rfl, rfl, 0, _, 3, g.length, rfl, ?_, fun D hD => lc_all walk_rangeC (fun i y H' => ∃ (t : Addr) (x : Krk0.Node), g[i]? = some x ∧ y = V.ref t ∧ H' t = some (.tup [nV x.kind, nV x.a, nV x.b])) hD (by omega) (fun _ _ => trivial) ?_ ?_ ?_⟩
    · rw [List.length_map, hl3]
      exact rng3 g.length hgl
    · rintro i y H1 H2 ⟨t, x, e1, rfl, e2⟩ kp
      exact ⟨t, x, e1, rfl, kp _ _ (fun _ z => nomatch z) e2⟩
    · rintro i x H1 H2 hi s1 ⟨rfl, rfl⟩ Q2 Z hq
      obtain ⟨e1, e2, e3⟩ := Rt.graphOf_get hg (List.getElem?_eq_getElem hi)
      have hS1 := s1.seq hS
      refine lc_in rfl ?_
      refine ⟨_, rfl, _, rfl, p, _, _, _, rfl, rfl, hS1, at_of (j := 3 * i) (by omega) (map_get e1), ?_⟩
      refine ⟨_, rfl, _, rfl, _, _, rfl, rfl, p, _, _, _, rfl, rfl, hS1, at_of (j := 3 * i + 1) (by omega) (map_get e2), ?_⟩
      refine ⟨_, rfl, _, rfl, _, _, rfl, rfl, p, _, _, _, rfl, rfl, hS1, at_of (j := 3 * i + 2) (by omega) (map_get e3), ?_⟩
      exact ⟨(by show 3 ≤ sizeLine; decide), fun t ht => hq _ _ (same_upd ht) ⟨t, _, List.getElem?_eq_getElem hi, rfl, upd_same⟩⟩
    · intro H1 acc s1 eD hacc hr1
      have N1 : NodesAt H1 D g := .of eD hacc hr1
      have hS1 := s1.seq hS
      have hX : SqL K H1 D acc := .inl (.inl eD)
      have hxl := hacc
      have hok : Krk0.graphOk g = (decide (1 ≤ g.length) && (decide (g.length ≤ 32) && g.all (Krk0.nodeOk g.length))) := rfl
      -- must(1 <= len(found) and ..)
      refine ⟨_, rfl, D, _, rfl, .inl hX, _, _, rfl, rfl, _, rfl, ?_⟩
      rw [hxl]
      by_cases h1 : 1 ≤ g.length
      case neg =>
        rw [if_neg (by rw [decide_eq_true_eq]; omega)]
        exact ⟨false, _, rfl, (fun z => nomatch z), fun _ => (k2 (by rw [hok, decide_eq_false h1, Bool.false_and])).mono s1⟩
      rw [if_pos (by rw [decide_eq_true_eq]; omega)]
      refine ⟨_, rfl, D, _, rfl, .inl hX, _, _, rfl, rfl, _, rfl, ?_⟩
      rw [hxl]
      by_cases h2 : g.length ≤ 32
      case neg =>
        rw [if_neg (by rw [decide_eq_true_eq]; omega)]
        exact ⟨false, _, rfl, (fun z => nomatch z), fun _ => (k2 (by rw [hok, decide_eq_false h2, Bool.false_and, Bool.and_false])).mono s1⟩
      rw [if_pos (by rw [decide_eq_true_eq]; omega)]
      refine ⟨_, rfl, p, _, rfl, .inl hS1, _, rfl, D, _, rfl, .inl hX, _, _, rfl, rfl, .inl ⟨by decide, by decide⟩, rfl, ?_⟩
      refine ⟨_, _, rfl, fun _ => ?_, fun z => ?_⟩
      case refine_2 =>
        exfalso
        have z' : decide (V.int (((l.map nV).length : Nat) : Int) = V.int (3 * (acc.length : Int))) = false := z
        rw [decide_eq_false_iff_not, List.length_map, hxl, hl3] at z'
        exact z' (congrArg V.int (by omega))
      -- must(all([..]), ..)
      refine ⟨_, rfl, D, rfl, ⟨_, hX⟩, fun D2 hD2 => lc_all walk_list (fun i y _ => ∃ x, g[i]? = some x ∧ y = V.bl (Krk0.nodeOk g.length x)) hD2 (by omega) (fun H2 s2 => s2.seq hX) (fun _ _ _ _ h _ => h) ?_ ?_⟩
      · rintro i x H2 H3 hi s2 ⟨rfl, hx⟩ Q2 Z hq
        have N2 := N1.same s2
        obtain ⟨xs2, hX2, hxl2⟩ := N2.sq (K := K)
        obtain ⟨t, nd, f1, f2, f3⟩ := N1.item eD hx
        refine lc_in rfl ?_
        refine ⟨_, rfl, _, rfl, D, _, rfl, .inl hX2, ?_⟩
        rw [hxl2]
        exact ⟨t, g.length, nd, by rw [f2]; rfl, s2 _ _ f3, fun H4 s4 => hq _ _ s4 ⟨nd, f1, rfl⟩⟩
      · intro H2 acc2 s2 eD2 hacc2 hr2
        have s12 := s1.trans s2
        refine ⟨D2, _, rfl, .inl (.inl (by rw [eD2, bools_of acc2 g (hacc2.trans hacc) hr2])), ?_⟩
        refine ⟨_, _, rfl, fun hall => ?_, fun hall => ?_⟩
        · refine ⟨_, rfl, k1 ?_ H2 D s12 (N1.same s2)⟩
          rw [hok, decide_eq_true h1, decide_eq_true h2, Bool.true_and, Bool.true_and, ← all_map_id]
          exact hall
        · refine (k2 ?_).mono s12
          rw [hok, decide_eq_true h1, decide_eq_true h2, Bool.true_and, Bool.true_and, ← all_map_id]
          exact hall
end
/-! ### must_be_there -/
section
variable {P : Program} {w : World} {K : PySem.W.Frag} {mg : Str → Option Value} {base : Heap} {C : Addr}
theorem sc_must_be_there : FnScope ["nodes", "numbers", "number"] ["nodes", "numbers"] (defScope s_must_be_there) := ⟨rfl, rfl, rfl, by decide +kernel, rfl, by decide +kernel, by decide +kernel⟩
def there (n : Nat) (ids : List Nat) : Bool := ids.all fun i => decide (i < n)
theorem there1 {n a : Nat} : there n [a] = decide (a < n) := by
  show (decide (a < n) && true) = _
  rw [Bool.and_true]
theorem there2 {n a b : Nat} : there n [a, b] = (decide (a < n) && decide (b < n)) := by
  show (decide (a < n) && (decide (b < n) && true)) = _
  rw [Bool.and_true]
def sp_must_be_there (K : PySem.W.Frag) (C : Addr) : Sp := fun vs H Q E => ∃ (q r : Addr) (g : Krk0.Graph) (ids : List Nat), vs = [.ref q, .ref r] ∧ NodesAt H q g ∧ g.length ≤ 1000 ∧ SqL K H r (ids.map nV) ∧ ids.length ≤ 1000 ∧
  (there g.length ids = true → ∀ H', Same H H' → Q .non H') ∧ (there g.length ids = false → Er C (-2) H E)
theorem bools_ids {f : Nat → Bool} : ∀ (acc : List V) (g : List Nat), acc.length = g.length → (∀ (i : Nat) (y : V), acc[i]? = some y → ∃ x, g[i]? = some x ∧ y = V.bl (f x)) → acc = (g.map f).map V.bl
  | [], [], _, _ => rfl
  | [], _ :: _, h, _ => by simp at h
  | _ :: _, [], h, _ => by simp at h
  | y :: acc, x0 :: g, h, ha => by
    obtain ⟨x, f1, f2⟩ := ha 0 y rfl
    have ex : x0 = x := by simpa using f1
    subst ex
    rw [bools_ids acc g (by simpa using h) (fun i y e => by simpa using ha (i + 1) y (by simpa using e)), f2]
    rfl
theorem ok_must_be_there {f : Addr} {fd : FuncData} (F : Fun K "must_be_there" "must_be_there" s_must_be_there f fd) (c1 : Cal (L2.CX P w) P w K mg base 3 "must" ["so", "number"] (sp_must C))
    (ml : mg "len" = none) (ma : mg "all" = none) (gN : Ki mg "NO_NODE" (-2)) : FnOk P w K mg base (L2.CX P w) 4 f fd ["nodes", "numbers"] (sp_must_be_there K C) := by
  refine F.okX sc_must_be_there (fun vs H Q E h => ?_) (fun cdv A outer s H vs Q E hr h => ?_)
  · obtain ⟨q, r, g, ids, rfl, _⟩ := h
    rfl
  · obtain ⟨q, r, g, ids, rfl, hN, hgl, hS, hil, k1, k2⟩ := h
    refine ⟨_, pss_one (ps_expr (pcX c1 hr (by decide) (takes_of rfl rfl rfl rfl) (pa_cons (pe_callB (cr_all rfl) (by rfl) ma (by decide +kernel) (pa_cons (pe_lc (own := [("number", 2)]) (g := gName 2) (tt := tYes) rfl sc_must_be_there.nd (pi_list (pv 1))
          (blkOk_by (own := [("number", 2)]) (N := ["nodes", "numbers", "number"]) (sc := defScope s_must_be_there) (by decide +kernel)) (fun _ _ _ _ _ => pg_name (i := 2) sc_must_be_there.nd rfl (Or.inl rfl)) (fun _ _ _ _ _ => pts_nil)
          (fun _ _ _ _ _ => pe_cmpR op_lt (pv 2) (pe_callB (cr_len (K := K)) (by rfl) ml PySem.boot_len (pa_cons (pv 0) pa_nil)) (nomark _))) pa_nil)) (pa_cons (pgi gN) pa_nil)))), ?_⟩
    refine ⟨_, rfl, r, rfl, ⟨_, hS⟩, fun D hD => lc_all walk_list (fun i y _ => ∃ x, ids[i]? = some x ∧ y = V.bl (decide (x < g.length))) hD (by rw [List.length_map]; omega) (fun H2 s2 => s2.seq hS) (fun _ _ _ _ h _ => h) ?_ ?_⟩
    · rintro i y H2 H3 hi s2 ⟨rfl, hx⟩ Q2 Z hq
      obtain ⟨x, e1, rfl⟩ := map_get_inv hx
      obtain ⟨xs2, hX2, hxl2⟩ := (hN.same s2).sq (K := K)
      refine lc_in rfl ?_
      refine ⟨_, rfl, _, rfl, q, _, rfl, .inl hX2, _, _, rfl, rfl, ?_⟩
      refine hq _ _ (Same.refl _) ⟨x, e1, ?_⟩
      show V.bl (decide ((x : Int) < (xs2.length : Int))) = _
      rw [hxl2]
      exact congrArg V.bl (decide_eq_decide.mpr (by omega))
    · intro H2 acc2 s2 eD2 hacc2 hr2
      rw [List.length_map] at hacc2
      refine ⟨D, _, rfl, .inl (.inl (by rw [eD2, bools_ids acc2 ids hacc2 hr2])), ?_⟩
      have e : ∀ b : Bool, ((ids.map fun x => decide (x < g.length)).all id) = b → there g.length ids = b := fun b h => by
        rw [← h, List.all_map]
        rfl
      exact ⟨_, _, rfl, fun hall => k1 (e _ hall) H2 s2, fun hall => (k2 (e _ hall)).mono s2⟩
end
/-! ### is_value -/
section
variable {P : Program} {w : World} {K : PySem.W.Frag} {mg : Str → Option Value} {base : Heap}
theorem sc_is_value : FnScope ["row", "wanted", "at"] ["row"] (defScope s_is_value) := ⟨rfl, rfl, rfl, by decide +kernel, rfl, by decide +kernel, by decide +kernel⟩
def sp_is_value (K : PySem.W.Frag) : Sp := fun vs H Q _ => ∃ (p : Addr) (l : List Nat), vs = [.ref p] ∧ SqL K H p (l.map nV) ∧ l.length ≤ 1000 ∧ Q (.bl (vOk 1 l)) H
theorem ok_is_value {f : Addr} {fd : FuncData} (F : Fun K "is_value" "is_value" s_is_value f fd) (ml : mg "len" = none) (g1 : Ki mg "TRUTH_TOLD" 1) (g2 : Ki mg "PAIR_TOLD" 2) (g4 : Ki mg "SECOND_TOLD" 4) : FnOk P w K mg base CX0 1 f fd ["row"] (sp_is_value K) := by
  refine F.ok sc_is_value (fun vs H Q E h => ?_) (fun cdv A outer s H vs Q E hr h => ?_)
  · obtain ⟨p, l, rfl, _⟩ := h
    rfl
  · obtain ⟨p, l, rfl, hS, hl, k⟩ := h
    refine ⟨_, pss_cons (ps_set (i := 1) sc_is_value.nd rfl (.inl rfl) pe_int) (pss_cons (ps_set (i := 2) sc_is_value.nd rfl (.inl rfl) pe_int)
      (pss_cons (ps_while PassesOwn.never (pt_cmpR op_gt (pv 1) pe_int (nomark _))
        (pss_cons (ps_if (PW.pt (pw_or (pt_cmpR op_eq (pv 2) (pe_callB (cr_len (K := K)) (by rfl) ml PySem.boot_len (pa_cons (pv 0) pa_nil)) (nomark _)) (pw_or1 (pt_cmpR op_gt (pe_ix ix_list (pv 0) (pv 2) (fun _ _ => rfl)) (pgi g4) (nomark _))))) (pss_one (ps_ret pe_bl)) pss_nil)
        (pss_cons (ps_if (pt_cmpR op_eq (pe_ix ix_list (pv 0) (pv 2) (fun _ _ => rfl)) (pgi g2) (nomark _)) (pss_one (ps_set (i := 1) sc_is_value.nd rfl (.inl rfl) (pe_op op_add (pv 1) pe_int)))
          (pss_one (ps_if (pt_cmpR op_le (pe_ix ix_list (pv 0) (pv 2) (fun _ _ => rfl)) (pgi g1) (nomark _))
            (pss_cons (ps_if (PW.pt (pw_or (pt_cmpR op_eq (pe_op op_add (pv 2) pe_int) (pe_callB (cr_len (K := K)) (by rfl) ml PySem.boot_len (pa_cons (pv 0) pa_nil)) (nomark _))
                (pw_or1 (PW.pt (pw_and (pt_cmpR op_eq (pe_ix ix_list (pv 0) (pv 2) (fun _ _ => rfl)) (pgi g1) (nomark _)) (pw_and1 (pt_cmpR op_gt (pe_ix ix_list (pv 0) (pe_op op_add (pv 2) pe_int) (fun _ _ => rfl)) pe_int (nomark _)))))))) (pss_one (ps_ret pe_bl)) pss_nil)
            (pss_cons (ps_set (i := 1) sc_is_value.nd rfl (.inl rfl) (pe_op op_sub (pv 1) pe_int)) (pss_one (ps_set (i := 2) sc_is_value.nd rfl (.inl rfl) (pe_op op_add (pv 2) pe_int))))) pss_nil)))
        (pss_one (ps_set (i := 2) sc_is_value.nd rfl (.inl rfl) (pe_op op_add (pv 2) pe_int))))))
      (pss_one (ps_ret (pe_cmpR op_eq (pv 2) (pe_callB (cr_len (K := K)) (by rfl) ml PySem.boot_len (pa_cons (pv 0) pa_nil)) (nomark _)))))), ?_⟩
    refine ⟨fun m σ H' => ∃ (wt at' : Nat), σ = [some (.ref p), some (nV wt), some (nV at')] ∧ H' = H ∧ at' ≤ l.length ∧ m = l.length - at' ∧ vOk wt (l.drop at') = vOk 1 l, ⟨l.length, 1, 0, rfl, rfl, Nat.zero_le _, rfl, rfl⟩, ?_⟩
    rintro m σ H' ⟨wt, at', rfl, rfl, ha, rfl, hv⟩
    have hlen : ((l.map nV).length : Int) = (l.length : Int) := by rw [List.length_map]
    refine ⟨_, rfl, _, _, rfl, rfl, _, rfl, ?_⟩
    cases wt with
    | zero =>
      refine if_false_of (decide_eq_false (by decide)) ?_
      refine ⟨_, rfl, _, rfl, p, _, rfl, .inl hS, rfl, ?_⟩
      have e : vOk 1 l = decide (nV at' = V.int ((l.map nV).length : Nat)) := by
        rw [← hv, vOk_zero, List.length_map, nV_eq]
        by_cases h : at' = l.length
        · rw [decide_eq_true h, drop_end (by omega)]; rfl
        · rw [decide_eq_false h]
          have : l.drop at' ≠ [] := fun z => h (by have := List.drop_eq_nil_iff.mp z; omega)
          cases hd : l.drop at' with
          | nil => exact absurd hd this
          | cons _ _ => rfl
      rw [e] at k
      exact k
    | succ wt =>
      refine if_true_of (decide_eq_true (by omega)) ?_
      refine ⟨fun σ' H2 => ∃ (wt at2 : Nat), σ' = [some (.ref p), some (nV wt), some (nV at2)] ∧ H2 = H' ∧ at2 ≤ l.length ∧ at' < at2 ∧ vOk wt (l.drop at2) = vOk 1 l, ?_, ?_⟩
      · rintro σ' H2 ⟨wt2, at2, e1, e2, e3, e4, e5⟩
        exact ⟨l.length - at2, by omega, wt2, at2, e1, e2, e3, rfl, e5⟩
      refine ⟨_, rfl, _, rfl, p, _, rfl, .inl hS, rfl, _, rfl, ?_⟩
      by_cases he : at' = l.length
      · refine if_true_of (decide_eq_true (by rw [he, List.length_map])) ?_
        refine iteT ?_
        have e : vOk 1 l = false := by rw [← hv, drop_end (by omega), vOk_nil]
        rw [e] at k
        exact k
      · refine if_false_of (decide_eq_false (fun z => he (by rw [List.length_map] at z; injection z with z; omega))) ?_
        obtain ⟨x, hx⟩ : ∃ x, l[at']? = some x := ⟨_, List.getElem?_eq_getElem (show at' < l.length by omega)⟩
        have hxV := atI_nat (map_get (f := nV) hx)
        have hd := drop_at hx
        rw [hd] at hv
        refine ⟨_, rfl, _, rfl, p, _, _, _, rfl, rfl, hS, hxV, _, _, rfl, rfl, _, rfl, ?_⟩
        by_cases h4 : 4 < x
        · refine if_true_of (decide_eq_true (by omega)) ?_
          rw [← hv, vOk_big h4] at k
          exact k
        refine if_false_of (decide_eq_false (by omega)) ?_
        refine ⟨_, rfl, _, rfl, p, _, _, _, rfl, rfl, hS, hxV, rfl, _, rfl, ?_⟩
        by_cases h2 : x = 2
        · subst h2
          refine if_true_of (decide_eq_true rfl) ?_
          refine ⟨_, rfl, _, _, rfl, rfl, _, rfl, _, _, rfl, rfl, wt + 2, at' + 1, rfl, rfl, by omega, by omega, ?_⟩
          rw [← hv, vOk_pair]
        refine if_false_of (decide_eq_false (fun z => h2 (by injection z with z; omega))) ?_
        refine ⟨_, rfl, _, rfl, p, _, _, _, rfl, rfl, hS, hxV, _, _, rfl, rfl, _, rfl, ?_⟩
        by_cases h1 : x ≤ 1
        · refine if_true_of (decide_eq_true (by omega)) ?_
          refine ⟨_, rfl, _, _, rfl, rfl, _, rfl, p, _, rfl, .inl hS, rfl, _, rfl, ?_⟩
          by_cases h5 : at' + 1 = l.length
          · refine if_true_of (decide_eq_true (by rw [List.length_map, ← h5]; rfl)) ?_
            refine iteT ?_
            rw [← hv, drop_end (by omega), vOk_end h1] at k
            exact k
          refine if_false_of (decide_eq_false (fun z => h5 (by rw [List.length_map] at z; injection z with z; omega))) ?_
          obtain ⟨y, hy⟩ : ∃ y, l[at' + 1]? = some y := ⟨_, List.getElem?_eq_getElem (show at' + 1 < l.length by omega)⟩
          rw [drop_at hy, vOk_leaf h1] at hv
          refine ⟨_, rfl, _, rfl, p, _, _, _, rfl, rfl, hS, hxV, rfl, _, rfl, ?_⟩
          have go : (!(x == 1 && decide (1 < y))) = true → ∃ (wt2 at2 : Nat), [some (V.ref p), some (V.int (((wt + 1 : Nat) : Int) - 1)), some (V.int ((at' : Int) + 1 + 1))] = [some (V.ref p), some (nV wt2), some (nV at2)] ∧ H' = H' ∧ at2 ≤ l.length ∧ at' < at2 ∧ vOk wt2 (l.drop at2) = vOk 1 l := fun z => by
            refine ⟨wt, at' + 2, ?_, rfl, by omega, by omega, ?_⟩
            · have e1 : ((wt + 1 : Nat) : Int) - 1 = (wt : Int) := by omega
              have e2 : (at' : Int) + 1 + 1 = ((at' + 2 : Nat) : Int) := by omega
              rw [e1, e2]
            · rw [← hv, z, Bool.true_and]
          by_cases hx1 : x = 1
          · subst hx1
            refine if_true_of (decide_eq_true rfl) ?_
            refine ⟨_, rfl, _, rfl, _, _, rfl, rfl, p, _, _, _, rfl, rfl, hS, at_of (j := at' + 1) rfl (map_get hy), _, _, rfl, rfl, _, rfl, ?_⟩
            by_cases hy1 : 1 < y
            · refine if_true_of (decide_eq_true (by omega)) ?_
              rw [← hv, decide_eq_true hy1] at k
              exact k
            · refine if_false_of (decide_eq_false (by omega)) ?_
              exact ⟨_, rfl, _, _, rfl, rfl, _, rfl, _, _, rfl, rfl, _, rfl, _, _, rfl, rfl, go (by rw [decide_eq_false hy1]; rfl)⟩
          · refine if_false_of (decide_eq_false (fun z => hx1 (by injection z with z; omega))) ?_
            refine iteF ?_
            exact ⟨_, rfl, _, _, rfl, rfl, _, rfl, _, _, rfl, rfl, _, rfl, _, _, rfl, rfl, go (by simp [hx1])⟩
        · refine if_false_of (decide_eq_false (by omega)) ?_
          refine ⟨_, rfl, _, _, rfl, rfl, wt + 1, at' + 1, rfl, rfl, by omega, by omega, ?_⟩
          rw [← hv, vOk_in (by omega) h4]
end
/-! ### kind_there -/
section
variable {P : Program} {w : World} {K : PySem.W.Frag} {mg : Str → Option Value} {base : Heap}
theorem sc_kind_there : FnScope ["nodes", "number"] ["nodes", "number"] (defScope s_kind_there) := ⟨rfl, rfl, rfl, by decide +kernel, rfl, by decide +kernel, by decide +kernel⟩
/-- a node's number, or -1 -/
def oI : Option Nat → Int
  | none => -1
  | some i => (i : Int)
abbrev oV (o : Option Nat) : V := .int (oI o)
def sp_kind_there : Sp := fun vs H Q _ => ∃ (q : Addr) (g : Krk0.Graph) (o : Option Nat), vs = [.ref q, oV o] ∧ NodesAt H q g ∧ inO g.length o ∧ Q (nV (kindO g o)) H
theorem ok_kind_there {f : Addr} {fd : FuncData} (F : Fun K "kind_there" "kind_there" s_kind_there f fd) (gA : Ki mg "ANY" (-1)) (g1 : Ki mg "ANYTHING" 1) : FnOk P w K mg base CX0 1 f fd ["nodes", "number"] sp_kind_there := by
  refine F.ok sc_kind_there (fun vs H Q E h => ?_) (fun cdv A outer s H vs Q E hr h => ?_)
  · obtain ⟨q, g, o, rfl, _⟩ := h
    rfl
  · obtain ⟨q, g, o, rfl, hN, ho, k⟩ := h
    refine ⟨_, pss_cons (ps_if (pt_cmpR op_eq (pv 1) (pgi gA) (nomark _)) (pss_one (ps_ret (pgi g1))) pss_nil)
      (pss_one (ps_ret (pe_ix ix_tup (pe_ix ix_list (pv 0) (pv 1) (fun _ _ => rfl)) pe_int (fun _ _ => rfl)))), ?_⟩
    cases o with
    | none => exact ⟨_, rfl, rfl, _, rfl, if_true_of (decide_eq_true rfl) k⟩
    | some i =>
      refine ⟨_, rfl, rfl, _, rfl, if_false_of (decide_eq_false (fun z => ?_)) ?_⟩
      · injection z with z
        have : (i : Int) = -1 := z
        omega
      · obtain ⟨xs, t, hX, hxl, hat, ht⟩ := hN.get (K := K) (Rt.get_at ho)
        exact ⟨_, rfl, _, rfl, q, _, _, _, rfl, rfl, hX, hat, t, _, _, _, rfl, rfl, .inl (.inl ht), rfl, k⟩
end
/-! ### inner_of -/
section
variable {P : Program} {w : World} {K : PySem.W.Frag} {mg : Str → Option Value} {base : Heap}
theorem sc_inner_of : FnScope ["nodes", "number", "which"] ["nodes", "number", "which"] (defScope s_inner_of) := ⟨rfl, rfl, rfl, by decide +kernel, rfl, by decide +kernel, by decide +kernel⟩
def sp_inner_of : Sp := fun vs H Q _ => ∃ (q : Addr) (g : Krk0.Graph) (o : Option Nat) (b : Bool), vs = [.ref q, oV o, .int (if b then 2 else 1)] ∧ NodesAt H q g ∧ inO g.length o ∧ Q (oV (innerO g o b)) H
theorem ok_inner_of {f : Addr} {fd : FuncData} (F : Fun K "inner_of" "inner_of" s_inner_of f fd) (c1 : Cal CX0 P w K mg base 1 "kind_there" ["nodes", "number"] sp_kind_there) (gA : Ki mg "ANY" (-1)) (g1 : Ki mg "ANYTHING" 1) : FnOk P w K mg base CX0 2 f fd ["nodes", "number", "which"] sp_inner_of := by
  refine F.ok sc_inner_of (fun vs H Q E h => ?_) (fun cdv A outer s H vs Q E hr h => ?_)
  · obtain ⟨q, g, o, b, rfl, _⟩ := h
    rfl
  · obtain ⟨q, g, o, b, rfl, hN, ho, k⟩ := h
    refine ⟨_, pss_cons (ps_if (pt_cmpR op_eq (pc0 c1 hr (by decide) (pa_cons (pv 0) (pa_cons (pv 1) pa_nil))) (pgi g1) (nomark _)) (pss_one (ps_ret (pgi gA))) pss_nil)
      (pss_one (ps_ret (pe_ix ix_tup (pe_ix ix_list (pv 0) (pv 1) (fun _ _ => rfl)) (pv 2) (fun _ _ => rfl)))), ?_⟩
    refine ⟨_, rfl, _, rfl, q, g, o, rfl, hN, ho, rfl, _, rfl, ?_⟩
    by_cases h1 : kindO g o = 1
    · refine if_true_of (decide_eq_true (by rw [h1]; rfl)) ?_
      have e : innerO g o b = none := by
        cases o with
        | none => rfl
        | some i => exact if_pos h1
      rw [e] at k
      exact k
    · refine if_false_of (decide_eq_false (fun z => h1 (by injection z with z; omega))) ?_
      cases o with
      | none => exact absurd rfl h1
      | some i =>
        have e : innerO g (some i) b = some (if b then (Krk0.at_ g i).b else (Krk0.at_ g i).a) := if_neg h1
        rw [e] at k
        obtain ⟨xs, t, hX, hxl, hat, ht⟩ := hN.get (K := K) (Rt.get_at ho)
        refine ⟨_, rfl, _, rfl, q, _, _, _, rfl, rfl, hX, hat, _, rfl, t, _, _, _, rfl, rfl, .inl (.inl ht), ?_, k⟩
        cases b <;> rfl
end
/-! ### fits -/
section
variable {P : Program} {w : World} {K : PySem.W.Frag} {mg : Str → Option Value} {base : Heap}
theorem sc_fits : FnScope ["nodes", "number", "word", "kind"] ["nodes", "number", "word"] (defScope s_fits) := ⟨rfl, rfl, rfl, by decide +kernel, rfl, by decide +kernel, by decide +kernel⟩
def sp_fits : Sp := fun vs H Q _ => ∃ (q : Addr) (g : Krk0.Graph) (o : Option Nat) (x : Nat), vs = [.ref q, oV o, nV x] ∧ NodesAt H q g ∧ inO g.length o ∧ Q (.bl (fitsO g o x)) H
theorem beq_nV (a b : Nat) : (a == b) = decide (nV a = nV b) := by
  rw [nV_eq]
  by_cases h : a = b
  · rw [decide_eq_true h]; exact beq_iff_eq.mpr h
  · rw [decide_eq_false h]; exact beq_eq_false_iff_ne.mpr h
theorem ok_fits {f : Addr} {fd : FuncData} (F : Fun K "fits" "fits" s_fits f fd) (c1 : Cal CX0 P w K mg base 1 "kind_there" ["nodes", "number"] sp_kind_there) (g1 : Ki mg "ANYTHING" 1) (g2 : Ki mg "NUMBER" 2) (g3 : Ki mg "TRUTH" 3) (g4 : Ki mg "PAIR" 4) (g5 : Ki mg "CHOICE" 5)
    (t0 : Ki mg "NUMBER_TOLD" 0) (t1 : Ki mg "TRUTH_TOLD" 1) (t2 : Ki mg "PAIR_TOLD" 2) : FnOk P w K mg base CX0 2 f fd ["nodes", "number", "word"] sp_fits := by
  refine F.ok sc_fits (fun vs H Q E h => ?_) (fun cdv A outer s H vs Q E hr h => ?_)
  · obtain ⟨q, g, o, x, rfl, _⟩ := h
    rfl
  · obtain ⟨q, g, o, x, rfl, hN, ho, k⟩ := h
    refine ⟨_, pss_cons (ps_set (i := 3) sc_fits.nd rfl (.inl rfl) (pc0 c1 hr (by decide) (pa_cons (pv 0) (pa_cons (pv 1) pa_nil))))
      (pss_cons (ps_if (pt_cmpR op_eq (pv 3) (pgi g1) (nomark _)) (pss_one (ps_ret pe_bl)) pss_nil)
      (pss_cons (ps_if (pt_cmpR op_eq (pv 2) (pgi t0) (nomark _)) (pss_one (ps_ret (pe_cmpR op_eq (pv 3) (pgi g2) (nomark _)))) pss_nil)
      (pss_cons (ps_if (pt_cmpR op_eq (pv 2) (pgi t1) (nomark _)) (pss_one (ps_ret (pe_cmpR op_eq (pv 3) (pgi g3) (nomark _)))) pss_nil)
      (pss_cons (ps_if (pt_cmpR op_eq (pv 2) (pgi t2) (nomark _)) (pss_one (ps_ret (pe_cmpR op_eq (pv 3) (pgi g4) (nomark _)))) pss_nil)
      (pss_one (ps_ret (pe_cmpR op_eq (pv 3) (pgi g5) (nomark _)))))))), ?_⟩
    refine ⟨_, rfl, _, rfl, q, g, o, rfl, hN, ho, ?_⟩
    refine ⟨_, rfl, rfl, _, rfl, ?_⟩
    by_cases h1 : kindO g o = 1
    · refine if_true_of (decide_eq_true (by rw [h1]; rfl)) ?_
      rw [fits_any h1] at k
      exact k
    refine if_false_of (decide_eq_false (fun z => h1 (by injection z with z; omega))) ?_
    have e0 : fitsO g o x = (if x = 0 then kindO g o == 2 else if x = 1 then kindO g o == 3 else if x = 2 then kindO g o == 4 else kindO g o == 5) := by
      have e : (kindO g o == 1) = false := by simpa using h1
      unfold fitsO
      rw [e, Bool.false_or]
    refine ⟨_, rfl, rfl, _, rfl, ?_⟩
    by_cases x0 : x = 0
    · refine if_true_of (decide_eq_true (by rw [x0]; rfl)) ?_
      rw [e0, if_pos x0, beq_nV] at k
      exact ⟨_, rfl, rfl, k⟩
    refine if_false_of (decide_eq_false (fun z => x0 (by injection z with z; omega))) ?_
    refine ⟨_, rfl, rfl, _, rfl, ?_⟩
    rw [e0, if_neg x0] at k
    by_cases x1 : x = 1
    · refine if_true_of (decide_eq_true (by rw [x1]; rfl)) ?_
      rw [if_pos x1, beq_nV] at k
      exact ⟨_, rfl, rfl, k⟩
    refine if_false_of (decide_eq_false (fun z => x1 (by injection z with z; omega))) ?_
    refine ⟨_, rfl, rfl, _, rfl, ?_⟩
    rw [if_neg x1] at k
    by_cases x2 : x = 2
    · refine if_true_of (decide_eq_true (by rw [x2]; rfl)) ?_
      rw [if_pos x2, beq_nV] at k
      exact ⟨_, rfl, rfl, k⟩
    refine if_false_of (decide_eq_false (fun z => x2 (by injection z with z; omega))) ?_
    rw [if_neg x2, beq_nV] at k
    exact ⟨_, rfl, rfl, k⟩
end
/-! ### asked_inside -/
section
variable {P : Program} {w : World} {K : PySem.W.Frag} {mg : Str → Option Value} {base : Heap}
theorem sc_asked_inside : FnScope ["nodes", "number", "word"] ["nodes", "number", "word"] (defScope s_asked_inside) := ⟨rfl, rfl, rfl, by decide +kernel, rfl, by decide +kernel, by decide +kernel⟩
def sp_asked_inside : Sp := fun vs H Q _ => ∃ (q : Addr) (g : Krk0.Graph) (o : Option Nat) (x : Nat), vs = [.ref q, oV o, nV x] ∧ NodesAt H q g ∧ inO g.length o ∧ ∀ H' r, Same H H' → H' r = some (.lst ((askO g o x).reverse.map oV)) → Q (.ref r) H'
theorem ok_asked_inside {f : Addr} {fd : FuncData} (F : Fun K "asked_inside" "asked_inside" s_asked_inside f fd) (c1 : Cal CX0 P w K mg base 2 "inner_of" ["nodes", "number", "which"] sp_inner_of)
    (t2 : Ki mg "PAIR_TOLD" 2) (t3 : Ki mg "FIRST_TOLD" 3) (t4 : Ki mg "SECOND_TOLD" 4) : FnOk P w K mg base CX0 3 f fd ["nodes", "number", "word"] sp_asked_inside := by
  refine F.ok sc_asked_inside (fun vs H Q E h => ?_) (fun cdv A outer s H vs Q E hr h => ?_)
  · obtain ⟨q, g, o, x, rfl, _⟩ := h
    rfl
  · obtain ⟨q, g, o, x, rfl, hN, ho, k⟩ := h
    refine ⟨_, pss_cons (ps_if (pt_cmpR op_eq (pv 2) (pgi t2) (nomark _)) (pss_one (ps_ret (pe_lst (pa_cons (pc0 c1 hr (by decide) (pa_cons (pv 0) (pa_cons (pv 1) (pa_cons pe_int pa_nil)))) (pa_cons (pc0 c1 hr (by decide) (pa_cons (pv 0) (pa_cons (pv 1) (pa_cons pe_int pa_nil)))) pa_nil))))) pss_nil)
      (pss_cons (ps_if (pt_cmpR op_eq (pv 2) (pgi t3) (nomark _)) (pss_one (ps_ret (pe_lst (pa_cons (pc0 c1 hr (by decide) (pa_cons (pv 0) (pa_cons (pv 1) (pa_cons pe_int pa_nil)))) pa_nil)))) pss_nil)
      (pss_cons (ps_if (pt_cmpR op_eq (pv 2) (pgi t4) (nomark _)) (pss_one (ps_ret (pe_lst (pa_cons (pc0 c1 hr (by decide) (pa_cons (pv 0) (pa_cons (pv 1) (pa_cons pe_int pa_nil)))) pa_nil)))) pss_nil)
      (pss_one (ps_ret (pe_lst pa_nil))))), ?_⟩
    unfold askO at k
    refine ⟨_, rfl, rfl, _, rfl, ?_⟩
    by_cases x2 : x = 2
    · refine if_true_of (decide_eq_true (by rw [x2]; rfl)) ?_
      rw [if_pos x2] at k
      refine ⟨_, rfl, _, rfl, q, g, o, true, rfl, hN, ho, _, rfl, _, rfl, q, g, o, false, rfl, hN, ho, (by show 2 ≤ sizeLine; decide), fun r hr0 => k _ r (same_upd hr0) upd_same⟩
    refine if_false_of (decide_eq_false (fun z => x2 (by injection z with z; omega))) ?_
    rw [if_neg x2] at k
    refine ⟨_, rfl, rfl, _, rfl, ?_⟩
    by_cases x3 : x = 3
    · refine if_true_of (decide_eq_true (by rw [x3]; rfl)) ?_
      rw [if_pos x3] at k
      exact ⟨_, rfl, _, rfl, q, g, o, false, rfl, hN, ho, (by show 1 ≤ sizeLine; decide), fun r hr0 => k _ r (same_upd hr0) upd_same⟩
    refine if_false_of (decide_eq_false (fun z => x3 (by injection z with z; omega))) ?_
    rw [if_neg x3] at k
    refine ⟨_, rfl, rfl, _, rfl, ?_⟩
    by_cases x4 : x = 4
    · refine if_true_of (decide_eq_true (by rw [x4]; rfl)) ?_
      rw [if_pos x4] at k
      exact ⟨_, rfl, _, rfl, q, g, o, true, rfl, hN, ho, (by show 1 ≤ sizeLine; decide), fun r hr0 => k _ r (same_upd hr0) upd_same⟩
    refine if_false_of (decide_eq_false (fun z => x4 (by injection z with z; omega))) ?_
    rw [if_neg x4] at k
    exact ⟨(by show 0 ≤ sizeLine; decide), fun r hr0 => k _ r (same_upd hr0) upd_same⟩
end
/-! ### is_of -/
section
variable {P : Program} {w : World} {K : PySem.W.Frag} {mg : Str → Option Value} {base : Heap}
theorem sc_is_of : FnScope ["nodes", "start", "row", "todo", "at", "number", "word"] ["nodes", "start", "row"] (defScope s_is_of) := ⟨rfl, rfl, rfl, by decide +kernel, rfl, by decide +kernel, by decide +kernel⟩
def sp_is_of (K : PySem.W.Frag) : Sp := fun vs H Q _ => ∃ (q p : Addr) (g : Krk0.Graph) (a : Nat) (l : List Nat), vs = [.ref q, nV a, .ref p] ∧ NodesAt H q g ∧ Krk0.graphOk g = true ∧ SqL K H p (l.map nV) ∧ l.length ≤ 1000 ∧ a < g.length ∧ vOk 1 l = true ∧
  ∀ H', Same H H' → Q (.bl (stOk g [some a] l)) H'
theorem oVs (S : List (Option Nat)) : S.map oV = (S.map oI).map V.int := by
  rw [List.map_map]
  rfl
theorem dp_oVs {K : PySem.W.Frag} {H : Hp} (S : List (Option Nat)) : DpAll K H (S.map oV) ((S.map oI).map PyData.int) := by
  rw [oVs]
  exact dp_ints _
theorem ok_is_of {f : Addr} {fd : FuncData} (F : Fun K "is_of" "is_of" s_is_of f fd) (c1 : Cal CX0 P w K mg base 2 "fits" ["nodes", "number", "word"] sp_fits) (c2 : Cal CX0 P w K mg base 3 "asked_inside" ["nodes", "number", "word"] sp_asked_inside)
    (mi : mg "int" = none) (t1 : Ki mg "TRUTH_TOLD" 1) : FnOk P w K mg base CX0 4 f fd ["nodes", "start", "row"] (sp_is_of K) := by
  refine F.ok sc_is_of (fun vs H Q E h => ?_) (fun cdv A outer s H vs Q E hr h => ?_)
  · obtain ⟨q, p, g, a, l, rfl, _⟩ := h
    rfl
  · obtain ⟨q, p, g, a, l, rfl, hN, hok, hS, hl, ha, hv, k⟩ := h
    refine ⟨_, pss_cons (ps_set (i := 3) sc_is_of.nd rfl (.inl rfl) (pe_lst (pa_cons (pv 1) pa_nil))) (pss_cons (ps_set (i := 4) sc_is_of.nd rfl (.inl rfl) pe_int)
      (pss_cons (ps_while PassesOwn.never (pt_cmpR (op_neD hr.units) (pv 3) (pe_lst pa_nil) (nomark _))
        (pss_cons (ps_set (i := 5) sc_is_of.nd rfl (.inl rfl) (pe_bm0 PySem.F.plainAttrs_list PySem.F.slot_list_pop PySem.F.type_list_pop mt_pop (pv 3)))
        (pss_cons (ps_set (i := 6) sc_is_of.nd rfl (.inl rfl) (pe_ix ix_list (pv 2) (pv 4) (fun _ _ => rfl)))
        (pss_cons (ps_if (pt_not (pt_val (pc0 c1 hr (by decide) (pa_cons (pv 0) (pa_cons (pv 5) (pa_cons (pv 6) pa_nil)))))) (pss_one (ps_ret pe_bl)) pss_nil)
        (pss_cons (ps_expr (pe_bm PySem.F.plainAttrs_list PySem.F.slot_list_extend PySem.F.type_list_extend mt_extend (pv 3) (pa_cons (pc0 c2 hr (by decide) (pa_cons (pv 0) (pa_cons (pv 5) (pa_cons (pv 6) pa_nil)))) pa_nil)))
        (pss_one (ps_set (i := 4) sc_is_of.nd rfl (.inl rfl) (pe_op op_add (pe_op op_add (pv 4) pe_int) (pe_callTy call_int1 (by rfl) mi (by decide +kernel) (pa_cons (pe_cmpR op_le (pv 6) (pgi t1) (nomark _)) pa_nil))))))))))
      (pss_one (ps_ret pe_bl)))), ?_⟩
    refine ⟨_, rfl, (by show 1 ≤ sizeLine; decide), fun r hr0 => ?_⟩
    refine ⟨fun m σ H' => ∃ (S : List (Option Nat)) (at' : Nat) (y5 y6 : Option V), σ = [some (.ref q), some (nV a), some (.ref p), some (.ref r), some (nV at'), y5, y6] ∧ Same H H' ∧ H' r = some (.lst (S.reverse.map oV)) ∧ at' ≤ l.length ∧ m = l.length - at' ∧
      stOk g S (l.drop at') = stOk g [some a] l ∧ vOk S.length (l.drop at') = true ∧ ∀ o ∈ S, inO g.length o,
      ⟨l.length, [some a], 0, none, none, rfl, same_upd hr0, upd_same, Nat.zero_le _, rfl, rfl, hv, fun o ho => by rw [List.mem_singleton.mp ho]; exact ha⟩, ?_⟩
    rintro m σ H' ⟨S, at', y5, y6, rfl, s1, er, hat, rfl, hst, hvS, hin⟩
    refine ⟨_, rfl, (by show 0 ≤ sizeLine; decide), fun e he => ?_⟩
    have s2 := s1.trans (same_upd (o := .lst []) he)
    have er2 : upd H' e (.lst []) r = some (.lst (S.reverse.map oV)) := by rw [upd_ne (ne_of_none er he)]; exact er
    have ee2 : upd H' e (.lst []) e = some (.lst []) := upd_same
    generalize upd H' e (.lst []) = H2 at s2 er2 ee2
    refine ne_nil (.inl (.inl er2)) (dp_oVs S.reverse) (shaped_ints _) (.inl (.inl ee2)) ⟨_, rfl, ?_⟩
    cases S with
    | nil =>
      refine if_false_of rfl ?_
      have k' := k H2 s2
      rw [← hst] at k'
      exact k'
    | cons o S =>
      refine if_true_of (by simp) ?_
      have erev : (o :: S).reverse.map oV = S.reverse.map oV ++ [oV o] := by rw [List.reverse_cons, List.map_append]; rfl
      rw [erev] at er2
      refine ⟨fun σ' H3 => ∃ (S : List (Option Nat)) (at2 : Nat) (y5 y6 : Option V), σ' = [some (.ref q), some (nV a), some (.ref p), some (.ref r), some (nV at2), y5, y6] ∧ Same H H3 ∧ H3 r = some (.lst (S.reverse.map oV)) ∧ at2 ≤ l.length ∧ at' < at2 ∧
        stOk g S (l.drop at2) = stOk g [some a] l ∧ vOk S.length (l.drop at2) = true ∧ ∀ o ∈ S, inO g.length o, ?_, ?_⟩
      · rintro σ' H3 ⟨S2, at2, z5, z6, e1, e2, e3, e4, e5, e6, e7, e8⟩
        exact ⟨l.length - at2, by omega, S2, at2, z5, z6, e1, e2, e3, e4, rfl, e6, e7, e8⟩
      -- number = todo.pop()
      refine ⟨_, rfl, .inl ⟨rfl, _, .inl (.inl er2)⟩, r, _, oV o, rfl, rfl, er2, by simp, ?_⟩
      rw [show (S.reverse.map oV ++ [oV o]).dropLast = S.reverse.map oV from List.dropLast_concat]
      have s3 : Same H (upd H2 r (.lst (S.reverse.map oV))) := same_new s2 hr0
      have er3 : upd H2 r (.lst (S.reverse.map oV)) r = some (.lst (S.reverse.map oV)) := upd_same
      generalize upd H2 r (.lst (S.reverse.map oV)) = H3 at s3 er3
      have hroom := vOk_room _ _ _ (Nat.le_refl _) hvS
      rw [List.length_cons, List.length_drop] at hroom
      obtain ⟨x, hx⟩ : ∃ x, l[at']? = some x := ⟨_, List.getElem?_eq_getElem (show at' < l.length by omega)⟩
      rw [drop_at hx] at hst hvS
      rw [List.length_cons] at hvS
      obtain ⟨t1', t2'⟩ := st_turn g o S x (l.drop (at' + 1)) hvS
      -- word = row[at]
      refine ⟨_, rfl, _, rfl, p, _, _, _, rfl, rfl, s3.seq hS, atI_nat (map_get hx), ?_⟩
      have ho : inO g.length o := hin o List.mem_cons_self
      refine ⟨_, rfl, _, rfl, _, rfl, q, g, o, x, rfl, hN.same s3, ho, _, rfl, ?_⟩
      cases hf : fitsO g o x with
      | false =>
        refine if_true_of rfl ?_
        rw [hf, Bool.false_and] at t1'
        have k' := k H3 s3
        rw [← hst, t1'] at k'
        exact k'
      | true =>
        refine if_false_of rfl ?_
        rw [hf, Bool.true_and] at t1'
        refine ⟨_, rfl, .inl ⟨rfl, _, .inl (.inl er3)⟩, _, rfl, _, rfl, _, rfl, q, g, o, x, rfl, hN.same s3, ho, fun H4 b s4 eb => ?_⟩
        have er4 := s4 _ _ er3
        have hroom2 := vOk_room _ _ _ (Nat.le_refl _) t2'
        refine ⟨r, b, _, _, rfl, rfl, er4, eb, ?_, ?_⟩
        · refine sl1000 ?_
          rw [List.length_map, List.length_map, List.length_reverse, List.length_reverse]
          rw [List.length_append, List.length_drop, List.length_drop] at hroom2
          omega
        · have e5 : S.reverse.map oV ++ (askO g o x).reverse.map oV = (askO g o x ++ S).reverse.map oV := by rw [List.reverse_append, List.map_append]
          rw [e5]
          have s5 : Same H (upd H4 r (.lst ((askO g o x ++ S).reverse.map oV))) := same_new (s3.trans s4) hr0
          have er5 : upd H4 r (.lst ((askO g o x ++ S).reverse.map oV)) r = some (.lst ((askO g o x ++ S).reverse.map oV)) := upd_same
          generalize upd H4 r (.lst ((askO g o x ++ S).reverse.map oV)) = H5 at s5 er5
          refine ⟨_, rfl, _, _, rfl, rfl, _, rfl, _, _, rfl, rfl, .inr ⟨_, rfl, _, _, rfl, rfl, ?_⟩⟩
          rw [List.drop_drop] at t1' t2'
          refine ⟨askO g o x ++ S, at' + 1 + (if x ≤ 1 then 1 else 0), some (oV o), some (nV x), ?_, s5, er5, ?_, by omega, ?_, t2', ?_⟩
          · have e6 : ((at' : Int) + 1 + (if decide ((x : Int) ≤ 1) then 1 else 0)) = ((at' + 1 + (if x ≤ 1 then 1 else 0) : Nat) : Int) := by
              by_cases h1 : x ≤ 1
              · rw [if_pos h1, if_pos (decide_eq_true (by omega))]; omega
              · rw [if_neg h1, if_neg (by rw [decide_eq_true_eq]; omega)]; omega
            show [some (V.ref q), some (nV a), some (V.ref p), some (V.ref r), some (V.int ((at' : Int) + 1 + (if decide ((x : Int) ≤ 1) then 1 else 0))), some (oV o), some (nV x)] = _
            rw [e6]
          · by_cases h1 : x ≤ 1
            · rw [if_pos h1]
              cases hd : l.drop (at' + 1) with
              | nil => rw [hd, vOk_end h1] at hvS; cases hvS
              | cons _ _ =>
                have := congrArg List.length hd
                rw [List.length_drop, List.length_cons] at this
                omega
            · rw [if_neg h1]; omega
          · rw [← hst]
            exact t1'.symm
          · intro p2 hp2
            rcases List.mem_append.mp hp2 with h | h
            · by_cases h1 : x ≤ 1
              · unfold askO at h
                rw [if_neg (by omega), if_neg (by omega), if_neg (by omega)] at h
                exact nomatch h
              · exact ask_in hok ho hf (by omega) p2 h
            · exact hin p2 (List.mem_cons_of_mem _ h)
end
/-! ### asked_nodes -/
section
variable {P : Program} {w : World} {K : PySem.W.Frag} {mg : Str → Option Value} {base : Heap} {C : Addr}
theorem sc_asked_nodes : FnScope ["row", "numbers", "found"] ["row", "numbers"] (defScope s_asked_nodes) := ⟨rfl, rfl, rfl, by decide +kernel, rfl, by decide +kernel, by decide +kernel⟩
def sp_asked_nodes (K : PySem.W.Frag) (C : Addr) : Sp := fun vs H Q E => ∃ (p r : Addr) (l : List Nat) (g : Krk0.Graph) (ids : List Nat), vs = [.ref p, .ref r] ∧ SqL K H p (l.map nV) ∧ Krk0.graphOf l = some g ∧ l.length ≤ 1000 ∧ SqL K H r (ids.map nV) ∧ ids.length ≤ 1000 ∧
  (Krk0.graphOk g = true → there g.length ids = true → ∀ H' q, Same H H' → NodesAt H' q g → Q (.ref q) H') ∧ (Krk0.graphOk g = false → Er C (-71) H E) ∧ (Krk0.graphOk g = true → there g.length ids = false → Er C (-2) H E)
theorem ok_asked_nodes {f : Addr} {fd : FuncData} (F : Fun K "asked_nodes" "asked_nodes" s_asked_nodes f fd) (c1 : Cal (L2.CX P w) P w K mg base 4 "nodes_in" ["row"] (sp_nodes_in K C)) (c2 : Cal (L2.CX P w) P w K mg base 4 "must_be_there" ["nodes", "numbers"] (sp_must_be_there K C)) :
    FnOk P w K mg base (L2.CX P w) 5 f fd ["row", "numbers"] (sp_asked_nodes K C) := by
  refine F.okX sc_asked_nodes (fun vs H Q E h => ?_) (fun cdv A outer s H vs Q E hr h => ?_)
  · obtain ⟨p, r, l, g, ids, rfl, _⟩ := h
    rfl
  · obtain ⟨p, r, l, g, ids, rfl, hS, hg, hll, hI, hil, k1, k2, k3⟩ := h
    refine ⟨_, pss_cons (ps_set (i := 2) sc_asked_nodes.nd rfl (.inl rfl) (pcX c1 hr (by decide) (takes_of rfl rfl rfl rfl) (pa_cons (pv 0) pa_nil)))
      (pss_cons (ps_expr (pcX c2 hr (by decide) (takes_of rfl rfl rfl rfl) (pa_cons (pv 2) (pa_cons (pv 1) pa_nil))))
      (pss_one (ps_ret (pv 2)))), ?_⟩
    have hl3 := Rt.graphOf_len hg
    refine ⟨_, rfl, p, l, g, rfl, hS, hg, hll, fun hok H1 q s1 N1 => ?_, fun hok => k2 hok⟩
    refine ⟨_, rfl, _, rfl, q, r, g, ids, rfl, N1, by omega, s1.seq hI, hil, fun ht H2 s2 => ?_, fun ht => (k3 hok ht).mono s1⟩
    exact ⟨_, rfl, k1 hok ht H2 q (s1.trans s2) (N1.same s2)⟩
end
/-! ### has -/
section
variable {P : Program} {w : World} {K : PySem.W.Frag} {mg : Str → Option Value} {base : Heap} {C fI : Addr}
theorem sc_has : FnScope ["a", "nodes", "v", "found", "refusal"] ["a", "nodes", "v"] (defScope s_has) := ⟨rfl, rfl, rfl, by decide +kernel, rfl, by decide +kernel, by decide +kernel⟩
def due_has (l : List Nat) (a : Nat) (v : List Nat) : List Int := Krk0Neutral.told (Krk0.act (.has l a v))
def sp_has (K : PySem.W.Frag) : Sp := fun vs H Q _ => ∃ (a : Nat) (p r : Addr) (l v : List Nat) (g : Krk0.Graph), vs = [nV a, .ref p, .ref r] ∧ SqL K H p (l.map nV) ∧ Krk0.graphOf l = some g ∧ l.length ≤ 1000 ∧ SqL K H r (v.map nV) ∧ v.length ≤ 1000 ∧
  ∀ H' q, H' q = some (.lst ((due_has l a v).map V.int)) → Q (.ref q) H'
theorem ok_has {f : Addr} {fd : FuncData} (F : Fun K "has" "has" s_has f fd) (low : PySem.LowX.LowTxt K mg C fI) (c1 : Cal (L2.CX P w) P w K mg base 5 "asked_nodes" ["row", "numbers"] (sp_asked_nodes K C))
    (c2 : Cal (L2.CX P w) P w K mg base 3 "must" ["so", "number"] (sp_must C)) (c3 : Cal CX0 P w K mg base 1 "is_value" ["row"] (sp_is_value K)) (c4 : Cal CX0 P w K mg base 4 "is_of" ["nodes", "start", "row"] (sp_is_of K))
    (mi : mg "int" = none) (ml : mg "len" = none) (gM : Ki mg "MOST_NUMBERS" 64) (gN : Ki mg "NOT_RIGHT" (-22)) : FnOk P w K mg base CX0 6 f fd ["a", "nodes", "v"] (sp_has K) := by
  refine F.ok sc_has (fun vs H Q E h => ?_) (fun cdv A outer s H vs Q E hr h => ?_)
  · obtain ⟨a, p, r, l, v, g, rfl, _⟩ := h
    rfl
  · obtain ⟨a, p, r, l, v, g, rfl, hS, hg, hll, hV, hvl, k⟩ := h
    refine ⟨_, pss_one (ps_try_as (i := 4) rfl rfl sc_has.nd rfl rfl ⟨rfl, by decide, Or.inl low.gC⟩ takes0
      (fun W pn xe tk _ => pss_cons (ps_set (i := 3) sc_has.nd rfl (.inl rfl) (pcX c1 hr (by decide) tk (pa_cons (pv 1) (pa_cons (pe_lst (pa_cons (pv 0) pa_nil)) pa_nil))))
        (pss_cons (ps_expr (pcX c2 hr (by decide) tk (pa_cons (pe_and (pe_cmpR op_le (pe_callB (cr_len (K := K)) (by rfl) ml PySem.boot_len (pa_cons (pv 2) pa_nil)) (pgi gM) (nomark _)) (pe_one (pc0 c3 hr (by decide) (pa_cons (pv 2) pa_nil)))) (pa_cons (pgi gN) pa_nil))))
        (pss_one (ps_ret (pe_lst (pa_cons (pe_callTy call_int1 (by rfl) mi (by decide +kernel) (pa_cons (pc0 c4 hr (by decide) (pa_cons (pv 3) (pa_cons (pv 0) (pa_cons (pv 2) pa_nil)))) pa_nil)) pa_nil))))))
      (fun a oe cls d pn hz hf => pss_one (ps_ret (pe_lst (pa_cons (pe_byLow low hz hf (pv 4)) pa_nil))))), ?_⟩
    have res : ∀ (n : Int) (H1 : Hp), due_has l a v = [n] → ∀ q, H1 q = none → Q (.ref q) (upd H1 q (.lst [.int n])) := fun n H1 e q _ => k _ q (by rw [e, upd_same]; rfl)
    have due : due_has l a v = Krk0Neutral.told (Krk0.with_ l [a] fun g => match Krk0.value v with
      | none => Krk0.say (-22)
      | some x => Krk0.yes (Krk0.has g x a)) := rfl
    refine ⟨_, rfl, _, rfl, (by show 1 ≤ sizeLine; decide), fun r0 hr0 => ?_⟩
    have s1 := same_upd (o := .lst [nV a]) hr0
    refine ⟨p, r0, l, g, [a], rfl, s1.seq hS, hg, hll, .inl (.inl upd_same), by simp, fun hok ht H2 q s2 N2 => ?_, fun hok => ?_, fun hok ht => ?_⟩
    · have s12 := s1.trans s2
      have hwith := Rt.with_ok (f := fun g => match Krk0.value v with
        | none => Krk0.say (-22)
        | some x => Krk0.yes (Krk0.has g x a)) hg hok ht
      rw [there1, decide_eq_true_eq] at ht
      refine ⟨_, rfl, r, _, rfl, .inl (s12.seq hV), _, _, rfl, rfl, _, rfl, ?_⟩
      have fin : ∀ b : Bool, (decide (v.length ≤ 64) && vOk 1 v) = b → sp_must C [.bl b, .int (-22)] H2 (fun _ H3 => (tRet (tLst (tCons (tCB (fun xs H Q => (∃ i, xs = [.int i] ∧ Q (.int i) H) ∨ ∃ k, xs = [.bl k] ∧ Q (.int (if k then 1 else 0)) H) (tCons (tCall (sp_is_of K) [] E0 (tCons (tVar 3) (tCons (tVar 0) (tCons (tVar 2) tNil)))) tNil)) tNil))) { nx := fun _ H' => Q .non H', rt := Q } [some (nV a), some (.ref p), some (.ref r), some (.ref q), none] H3)
          (WE (wAs K (.ref C) 4 (fun a cls d => tRet (tLst (tCons (tByLow C a cls d (tVar 4)) tNil))) (fun _ _ _ _ => False) { nx := fun _ H' => Q .non H', rt := Q }) [some (nV a), some (.ref p), some (.ref r), some (.ref q), none]) := by
        intro b hb
        refine ⟨b, -22, rfl, fun e => ?_, fun e => ?_⟩
        · subst e
          obtain ⟨x, h1, h2⟩ := Rt.value_some hb
          rw [Bool.and_eq_true] at hb
          refine ⟨_, rfl, _, rfl, _, rfl, q, r, g, a, v, rfl, N2, hok, s12.seq hV, hvl, ht, hb.2, fun H3 s3 => ?_⟩
          refine .inr ⟨_, rfl, (by show 1 ≤ sizeLine; decide), res _ H3 ?_⟩
          rw [due, hwith, h1, st_whole h2]
          rfl
        · subst e
          intro d H3 s3 e3
          refine ⟨true, low.te, fun _ a0 _ => ?_, fun z => Bool.noConfusion z⟩
          refine ⟨_, rfl, rfl, rfl, d, _, rfl, e3, (by show 1 ≤ sizeLine; decide), res _ H3 ?_⟩
          rw [due, hwith, Rt.value_none hb]
          rfl
      have elen : decide ((((v.map nV).length : Nat) : Int) ≤ 64) = decide (v.length ≤ 64) := decide_eq_decide.mpr (by rw [List.length_map]; omega)
      by_cases h64 : v.length ≤ 64
      · refine if_true_of (by rw [elen]; exact decide_eq_true h64) ?_
        refine ⟨_, rfl, r, v, rfl, s12.seq hV, hvl, ?_⟩
        exact fin _ (by rw [decide_eq_true h64, Bool.true_and])
      · refine if_false_of (by rw [elen]; exact decide_eq_false h64) ?_
        exact fin _ (by rw [decide_eq_false h64, Bool.false_and])
    · intro d H1 s1 e1
      refine ⟨true, low.te, fun _ a0 _ => ?_, fun z => Bool.noConfusion z⟩
      refine ⟨_, rfl, rfl, rfl, d, _, rfl, e1, (by show 1 ≤ sizeLine; decide), res _ H1 ?_⟩
      rw [due, Rt.with_bad hg hok]
      rfl
    · intro d H1 s1 e1
      refine ⟨true, low.te, fun _ a0 _ => ?_, fun z => Bool.noConfusion z⟩
      refine ⟨_, rfl, rfl, rfl, d, _, rfl, e1, (by show 1 ≤ sizeLine; decide), res _ H1 ?_⟩
      rw [due, Rt.with_no hg hok ht]
      rfl
end
/-! ### the end -/
theorem exm_self {K : PySem.W.Frag} {S : Addr} (h1 : PySem.W.subIn K (.ref S) (.type "BaseException") = some true) (h2 : PySem.W.isClsIn K S = true) (h3 : PySem.W.typeIn K (.ref S) = some (.type "type")) (h4 : PySem.W.subIn K (.ref S) (.ref S) = some true) :
    PySem.W.exmOne K (.ref S) (.ref S) = some true := by
  have e1 : (PySem.W.subIn K (.ref S) (.type "BaseException") == some true) = true := by rw [h1] <;> rfl
  have e2 : ((PySem.W.clsIn K S).isSome && PySem.W.typeIn K (.ref S) == some (.type "type")) = true := by
    have h2' : (PySem.W.clsIn K S).isSome = true := h2
    rw [h2', h3] <;> rfl
  show (if (PySem.W.subIn K (.ref S) (.type "BaseException") == some true) = true then (if ((PySem.W.clsIn K S).isSome && PySem.W.typeIn K (.ref S) == some (.type "type")) = true then PySem.W.subIn K (.ref S) (.ref S) else none) else none) = some true
  rw [if_pos e1, if_pos e2]
  exact h4
theorem all_mk {P : Program} {w : World} {K : PySem.W.Frag} {h : Heap} {mg : Str → Option Value} {fa C fi : Addr} (X : K.In h) (G : h.Ns mainGlobals mg) (hfa : mg "has" = some (.ref fa))
    {nm q : Str} {N : Addr} {bs : List Value} {sn : List Str} {sub : List Value} {ab : Bool} {col : Option Bool} {dd : Option Addr} {m0 m1 m2 m3 m5 : Option Value}
    {odi ani : Option Addr} {sli : Array (Option Value)} {oci dci pmi cdi cti : Value}
    {f0 : Addr} {od0 an0 : Option Addr} {sl0 : Array (Option Value)} {oc0 kV0 dc0 pm0 cd0 ct0 : Value}
    {f1 : Addr} {od1 an1 : Option Addr} {sl1 : Array (Option Value)} {oc1 kV1 dc1 pm1 cd1 ct1 : Value}
    {f2 : Addr} {od2 an2 : Option Addr} {sl2 : Array (Option Value)} {oc2 kV2 dc2 pm2 cd2 ct2 : Value}
    {f3 : Addr} {od3 an3 : Option Addr} {sl3 : Array (Option Value)} {oc3 kV3 dc3 pm3 cd3 ct3 : Value}
    {f4 : Addr} {od4 an4 : Option Addr} {sl4 : Array (Option Value)} {oc4 kV4 dc4 pm4 cd4 ct4 : Value}
    {f5 : Addr} {od5 an5 : Option Addr} {sl5 : Array (Option Value)} {oc5 kV5 dc5 pm5 cd5 ct5 : Value}
    {f6 : Addr} {od6 an6 : Option Addr} {sl6 : Array (Option Value)} {oc6 kV6 dc6 pm6 cd6 ct6 : Value}
    {f7 : Addr} {od7 an7 : Option Addr} {sl7 : Array (Option Value)} {oc7 kV7 dc7 pm7 cd7 ct7 : Value}
    {f8 : Addr} {od8 an8 : Option Addr} {sl8 : Array (Option Value)} {oc8 kV8 dc8 pm8 cd8 ct8 : Value}
    {f9 : Addr} {od9 an9 : Option Addr} {sl9 : Array (Option Value)} {oc9 kV9 dc9 pm9 cd9 ct9 : Value}
    {f10 : Addr} {od10 an10 : Option Addr} {sl10 : Array (Option Value)} {oc10 kV10 dc10 pm10 cd10 ct10 : Value}
    {f11 : Addr} {od11 an11 : Option Addr} {sl11 : Array (Option Value)} {oc11 kV11 dc11 pm11 cd11 ct11 : Value}
    {u_PAIR : Tok}
    {u_CHOICE : Tok}
    {u_FUNCTION : Tok}
    {u_MOST_NODES : Tok}
    {u_NO_NODES : Tok}
    {u_NO_NODE : Tok}
    {u_TRUTH_TOLD : Tok}
    {u_PAIR_TOLD : Tok}
    {u_SECOND_TOLD : Tok}
    {u_ANY : Tok}
    {u_ANYTHING : Tok}
    {u_NUMBER : Tok}
    {u_TRUTH : Tok}
    {u_NUMBER_TOLD : Tok}
    {u_FIRST_TOLD : Tok}
    {u_MOST_NUMBERS : Tok}
    {u_NOT_RIGHT : Tok}
    (aC : PySem.W.nsIn K mainGlobals "Refused" = some (some (.ref C)))
    (xL : K.lookup C = some (excClassObj nm q C N bs [.type "ValueError", .type "Exception", .type "BaseException", .type "object"] true sn sub ab col dd m0 m1 m2 m3 m5 "ValueError.__new__"))
    (sa : PySem.W.findIn K (.ref C) "__setattr__" = some (some (.builtin "object.__setattr__"))) (ga : PySem.W.findIn K (.ref C) "__getattribute__" = some (some (.builtin "BaseException.__getattribute__"))) (gg : PySem.W.findIn K (.ref C) "__getattr__" = some none) (nb : PySem.W.findIn K (.ref C) "number" = some none)
    (ai : PySem.W.findIn K (.ref C) "__init__" = some (some (.ref fi))) (ti : PySem.W.typeIn K (.ref fi) = some (.type "function"))
    (li : K.lookup fi = some ⟨oci, odi, .func (PySem.W.fnOf "__init__" "Refused.__init__" (PySem.LowX.iA ⟨14, 17, 14, 21⟩ ⟨14, 23, 14, 29⟩) (PySem.LowX.iB ⟨15, 8, 15, 12⟩ ⟨15, 8, 15, 19⟩ ⟨15, 22, 15, 28⟩ ⟨15, 8, 15, 28⟩) PySem.LowX.iS .none .none dci pmi ani cdi cti), sli⟩) (ci : PySem.W.codeIn K cdi "Refused.__init__" = true)
    (kC : PySem.W.keepIn K (.ref C) = true) (eC : PySem.W.subIn K (.ref C) (.type "BaseException") = some true) (tC : PySem.W.typeIn K (.ref C) = some (.type "type")) (hC : PySem.W.hasDictIn K C = true) (iC : PySem.W.isClsIn K C = true) (sC : PySem.W.subIn K (.ref C) (.ref C) = some true)
    (a0 : PySem.W.nsIn K mainGlobals "must" = some (some (.ref f0))) (l0 : K.lookup f0 = some ⟨oc0, od0, .func (PySem.W.fnOf "must" "must" (defArgs s_must) (defBody s_must) (defScope s_must) .none kV0 dc0 pm0 an0 cd0 ct0), sl0⟩) (c0 : PySem.W.codeIn K cd0 "must" = true) (k0 : PySem.W.keepIn K (.ref f0) = true)
    (a1 : PySem.W.nsIn K mainGlobals "is_node" = some (some (.ref f1))) (l1 : K.lookup f1 = some ⟨oc1, od1, .func (PySem.W.fnOf "is_node" "is_node" (defArgs s_is_node) (defBody s_is_node) (defScope s_is_node) .none kV1 dc1 pm1 an1 cd1 ct1), sl1⟩) (c1 : PySem.W.codeIn K cd1 "is_node" = true) (k1 : PySem.W.keepIn K (.ref f1) = true)
    (a2 : PySem.W.nsIn K mainGlobals "nodes_in" = some (some (.ref f2))) (l2 : K.lookup f2 = some ⟨oc2, od2, .func (PySem.W.fnOf "nodes_in" "nodes_in" (defArgs s_nodes_in) (defBody s_nodes_in) (defScope s_nodes_in) .none kV2 dc2 pm2 an2 cd2 ct2), sl2⟩) (c2 : PySem.W.codeIn K cd2 "nodes_in" = true) (k2 : PySem.W.keepIn K (.ref f2) = true)
    (a3 : PySem.W.nsIn K mainGlobals "must_be_there" = some (some (.ref f3))) (l3 : K.lookup f3 = some ⟨oc3, od3, .func (PySem.W.fnOf "must_be_there" "must_be_there" (defArgs s_must_be_there) (defBody s_must_be_there) (defScope s_must_be_there) .none kV3 dc3 pm3 an3 cd3 ct3), sl3⟩) (c3 : PySem.W.codeIn K cd3 "must_be_there" = true) (k3 : PySem.W.keepIn K (.ref f3) = true)
    (a4 : PySem.W.nsIn K mainGlobals "is_value" = some (some (.ref f4))) (l4 : K.lookup f4 = some ⟨oc4, od4, .func (PySem.W.fnOf "is_value" "is_value" (defArgs s_is_value) (defBody s_is_value) (defScope s_is_value) .none kV4 dc4 pm4 an4 cd4 ct4), sl4⟩) (c4 : PySem.W.codeIn K cd4 "is_value" = true) (k4 : PySem.W.keepIn K (.ref f4) = true)
    (a5 : PySem.W.nsIn K mainGlobals "kind_there" = some (some (.ref f5))) (l5 : K.lookup f5 = some ⟨oc5, od5, .func (PySem.W.fnOf "kind_there" "kind_there" (defArgs s_kind_there) (defBody s_kind_there) (defScope s_kind_there) .none kV5 dc5 pm5 an5 cd5 ct5), sl5⟩) (c5 : PySem.W.codeIn K cd5 "kind_there" = true) (k5 : PySem.W.keepIn K (.ref f5) = true)
    (a6 : PySem.W.nsIn K mainGlobals "inner_of" = some (some (.ref f6))) (l6 : K.lookup f6 = some ⟨oc6, od6, .func (PySem.W.fnOf "inner_of" "inner_of" (defArgs s_inner_of) (defBody s_inner_of) (defScope s_inner_of) .none kV6 dc6 pm6 an6 cd6 ct6), sl6⟩) (c6 : PySem.W.codeIn K cd6 "inner_of" = true) (k6 : PySem.W.keepIn K (.ref f6) = true)
    (a7 : PySem.W.nsIn K mainGlobals "fits" = some (some (.ref f7))) (l7 : K.lookup f7 = some ⟨oc7, od7, .func (PySem.W.fnOf "fits" "fits" (defArgs s_fits) (defBody s_fits) (defScope s_fits) .none kV7 dc7 pm7 an7 cd7 ct7), sl7⟩) (c7 : PySem.W.codeIn K cd7 "fits" = true) (k7 : PySem.W.keepIn K (.ref f7) = true)
    (a8 : PySem.W.nsIn K mainGlobals "asked_inside" = some (some (.ref f8))) (l8 : K.lookup f8 = some ⟨oc8, od8, .func (PySem.W.fnOf "asked_inside" "asked_inside" (defArgs s_asked_inside) (defBody s_asked_inside) (defScope s_asked_inside) .none kV8 dc8 pm8 an8 cd8 ct8), sl8⟩) (c8 : PySem.W.codeIn K cd8 "asked_inside" = true) (k8 : PySem.W.keepIn K (.ref f8) = true)
    (a9 : PySem.W.nsIn K mainGlobals "is_of" = some (some (.ref f9))) (l9 : K.lookup f9 = some ⟨oc9, od9, .func (PySem.W.fnOf "is_of" "is_of" (defArgs s_is_of) (defBody s_is_of) (defScope s_is_of) .none kV9 dc9 pm9 an9 cd9 ct9), sl9⟩) (c9 : PySem.W.codeIn K cd9 "is_of" = true) (k9 : PySem.W.keepIn K (.ref f9) = true)
    (a10 : PySem.W.nsIn K mainGlobals "asked_nodes" = some (some (.ref f10))) (l10 : K.lookup f10 = some ⟨oc10, od10, .func (PySem.W.fnOf "asked_nodes" "asked_nodes" (defArgs s_asked_nodes) (defBody s_asked_nodes) (defScope s_asked_nodes) .none kV10 dc10 pm10 an10 cd10 ct10), sl10⟩) (c10 : PySem.W.codeIn K cd10 "asked_nodes" = true) (k10 : PySem.W.keepIn K (.ref f10) = true)
    (a11 : PySem.W.nsIn K mainGlobals "has" = some (some (.ref f11))) (l11 : K.lookup f11 = some ⟨oc11, od11, .func (PySem.W.fnOf "has" "has" (defArgs s_has) (defBody s_has) (defScope s_has) .none kV11 dc11 pm11 an11 cd11 ct11), sl11⟩) (c11 : PySem.W.codeIn K cd11 "has" = true) (k11 : PySem.W.keepIn K (.ref f11) = true)
    (n_PAIR : PySem.W.nsIn K mainGlobals "PAIR" = some (some (.int (4) u_PAIR)))
    (n_CHOICE : PySem.W.nsIn K mainGlobals "CHOICE" = some (some (.int (5) u_CHOICE)))
    (n_FUNCTION : PySem.W.nsIn K mainGlobals "FUNCTION" = some (some (.int (6) u_FUNCTION)))
    (n_MOST_NODES : PySem.W.nsIn K mainGlobals "MOST_NODES" = some (some (.int (32) u_MOST_NODES)))
    (n_NO_NODES : PySem.W.nsIn K mainGlobals "NO_NODES" = some (some (.int (-71) u_NO_NODES)))
    (n_NO_NODE : PySem.W.nsIn K mainGlobals "NO_NODE" = some (some (.int (-2) u_NO_NODE)))
    (n_TRUTH_TOLD : PySem.W.nsIn K mainGlobals "TRUTH_TOLD" = some (some (.int (1) u_TRUTH_TOLD)))
    (n_PAIR_TOLD : PySem.W.nsIn K mainGlobals "PAIR_TOLD" = some (some (.int (2) u_PAIR_TOLD)))
    (n_SECOND_TOLD : PySem.W.nsIn K mainGlobals "SECOND_TOLD" = some (some (.int (4) u_SECOND_TOLD)))
    (n_ANY : PySem.W.nsIn K mainGlobals "ANY" = some (some (.int (-1) u_ANY)))
    (n_ANYTHING : PySem.W.nsIn K mainGlobals "ANYTHING" = some (some (.int (1) u_ANYTHING)))
    (n_NUMBER : PySem.W.nsIn K mainGlobals "NUMBER" = some (some (.int (2) u_NUMBER)))
    (n_TRUTH : PySem.W.nsIn K mainGlobals "TRUTH" = some (some (.int (3) u_TRUTH)))
    (n_NUMBER_TOLD : PySem.W.nsIn K mainGlobals "NUMBER_TOLD" = some (some (.int (0) u_NUMBER_TOLD)))
    (n_FIRST_TOLD : PySem.W.nsIn K mainGlobals "FIRST_TOLD" = some (some (.int (3) u_FIRST_TOLD)))
    (n_MOST_NUMBERS : PySem.W.nsIn K mainGlobals "MOST_NUMBERS" = some (some (.int (64) u_MOST_NUMBERS)))
    (n_NOT_RIGHT : PySem.W.nsIn K mainGlobals "NOT_RIGHT" = some (some (.int (-22) u_NOT_RIGHT)))
    (z_range : PySem.W.nsIn K mainGlobals "range" = some none)
    (z_len : PySem.W.nsIn K mainGlobals "len" = some none)
    (z_all : PySem.W.nsIn K mainGlobals "all" = some none)
    (z_int : PySem.W.nsIn K mainGlobals "int" = some none)
    : ∃ fd : FuncData, (∀ (s : Shared) (us : List Value), us.length = (["a", "nodes", "v"] : List Str).length → BindsTo s fd ⟨us, []⟩ ((["a", "nodes", "v"] : List Str).zip us)) ∧ ∀ base : Heap, K.In base → base.Ns mainGlobals mg → FnOk P w K mg base CX0 6 fa fd ["a", "nodes", "v"] (sp_has K) := by
  have e := hfa.symm.trans (PySem.W.mg_of X G a11)
  cases e
  have low : PySem.LowX.LowTxt K mg C fi :=
    { gC := PySem.W.mg_of X G aC, cls := ⟨nm, q, N, bs, _, sn, sub, ab, col, dd, m0, m1, m2, m3, m5, xL, by decide +kernel⟩, sa := sa, ga := ga, gg := gg, noN := nb, iC := ai, tC := ti, kC := kC, exC := eC, tyC := tC, hdC := hC, te := exm_self eC iC tC sC,
      fn := ⟨_, _, _, _, _, _, _, _, _, _, _, _, _, _, li, ci⟩ }
  refine ⟨PySem.W.fnOf "has" "has" (defArgs s_has) (defBody s_has) (defScope s_has) .none kV11 dc11 pm11 an11 cd11 ct11, fun s us hu => match us, hu with | [_, _, _], _ => .of_eq rfl, fun base _ _ => ?_⟩
  have F0 := fun_mk (st := s_must) l0 c0 k0
  have C_must : Cal (L2.CX P w) P w K mg base 3 "must" ["so", "number"] (sp_must C) := ⟨_, _, PySem.W.mg_of X G a0, k0, ok_must F0 low, F0.binds fun _ _ _ _ _ _ us hl => match us, hl with | [_, _], _ => rfl⟩
  have F1 := fun_mk (st := s_is_node) l1 c1 k1
  have C_is_node : Cal CX0 P w K mg base 1 "is_node" ["node", "many"] sp_is_node := ⟨_, _, PySem.W.mg_of X G a1, k1, ok_is_node F1 ⟨_, PySem.W.mg_of X G n_PAIR⟩ ⟨_, PySem.W.mg_of X G n_CHOICE⟩ ⟨_, PySem.W.mg_of X G n_FUNCTION⟩, F1.binds fun _ _ _ _ _ _ us hl => match us, hl with | [_, _], _ => rfl⟩
  have F2 := fun_mk (st := s_nodes_in) l2 c2 k2
  have C_nodes_in : Cal (L2.CX P w) P w K mg base 4 "nodes_in" ["row"] (sp_nodes_in K C) := ⟨_, _, PySem.W.mg_of X G a2, k2, ok_nodes_in F2 C_must C_is_node (PySem.W.mg_none_of X G z_range) (PySem.W.mg_none_of X G z_len) (PySem.W.mg_none_of X G z_all) ⟨_, PySem.W.mg_of X G n_MOST_NODES⟩ ⟨_, PySem.W.mg_of X G n_NO_NODES⟩, F2.binds fun _ _ _ _ _ _ us hl => match us, hl with | [_], _ => rfl⟩
  have F3 := fun_mk (st := s_must_be_there) l3 c3 k3
  have C_must_be_there : Cal (L2.CX P w) P w K mg base 4 "must_be_there" ["nodes", "numbers"] (sp_must_be_there K C) := ⟨_, _, PySem.W.mg_of X G a3, k3, ok_must_be_there F3 C_must (PySem.W.mg_none_of X G z_len) (PySem.W.mg_none_of X G z_all) ⟨_, PySem.W.mg_of X G n_NO_NODE⟩, F3.binds fun _ _ _ _ _ _ us hl => match us, hl with | [_, _], _ => rfl⟩
  have F4 := fun_mk (st := s_is_value) l4 c4 k4
  have C_is_value : Cal CX0 P w K mg base 1 "is_value" ["row"] (sp_is_value K) := ⟨_, _, PySem.W.mg_of X G a4, k4, ok_is_value F4 (PySem.W.mg_none_of X G z_len) ⟨_, PySem.W.mg_of X G n_TRUTH_TOLD⟩ ⟨_, PySem.W.mg_of X G n_PAIR_TOLD⟩ ⟨_, PySem.W.mg_of X G n_SECOND_TOLD⟩, F4.binds fun _ _ _ _ _ _ us hl => match us, hl with | [_], _ => rfl⟩
  have F5 := fun_mk (st := s_kind_there) l5 c5 k5
  have C_kind_there : Cal CX0 P w K mg base 1 "kind_there" ["nodes", "number"] sp_kind_there := ⟨_, _, PySem.W.mg_of X G a5, k5, ok_kind_there F5 ⟨_, PySem.W.mg_of X G n_ANY⟩ ⟨_, PySem.W.mg_of X G n_ANYTHING⟩, F5.binds fun _ _ _ _ _ _ us hl => match us, hl with | [_, _], _ => rfl⟩
  have F6 := fun_mk (st := s_inner_of) l6 c6 k6
  have C_inner_of : Cal CX0 P w K mg base 2 "inner_of" ["nodes", "number", "which"] sp_inner_of := ⟨_, _, PySem.W.mg_of X G a6, k6, ok_inner_of F6 C_kind_there ⟨_, PySem.W.mg_of X G n_ANY⟩ ⟨_, PySem.W.mg_of X G n_ANYTHING⟩, F6.binds fun _ _ _ _ _ _ us hl => match us, hl with | [_, _, _], _ => rfl⟩
  have F7 := fun_mk (st := s_fits) l7 c7 k7
  have C_fits : Cal CX0 P w K mg base 2 "fits" ["nodes", "number", "word"] sp_fits := ⟨_, _, PySem.W.mg_of X G a7, k7, ok_fits F7 C_kind_there ⟨_, PySem.W.mg_of X G n_ANYTHING⟩ ⟨_, PySem.W.mg_of X G n_NUMBER⟩ ⟨_, PySem.W.mg_of X G n_TRUTH⟩ ⟨_, PySem.W.mg_of X G n_PAIR⟩ ⟨_, PySem.W.mg_of X G n_CHOICE⟩ ⟨_, PySem.W.mg_of X G n_NUMBER_TOLD⟩ ⟨_, PySem.W.mg_of X G n_TRUTH_TOLD⟩ ⟨_, PySem.W.mg_of X G n_PAIR_TOLD⟩, F7.binds fun _ _ _ _ _ _ us hl => match us, hl with | [_, _, _], _ => rfl⟩
  have F8 := fun_mk (st := s_asked_inside) l8 c8 k8
  have C_asked_inside : Cal CX0 P w K mg base 3 "asked_inside" ["nodes", "number", "word"] sp_asked_inside := ⟨_, _, PySem.W.mg_of X G a8, k8, ok_asked_inside F8 C_inner_of ⟨_, PySem.W.mg_of X G n_PAIR_TOLD⟩ ⟨_, PySem.W.mg_of X G n_FIRST_TOLD⟩ ⟨_, PySem.W.mg_of X G n_SECOND_TOLD⟩, F8.binds fun _ _ _ _ _ _ us hl => match us, hl with | [_, _, _], _ => rfl⟩
  have F9 := fun_mk (st := s_is_of) l9 c9 k9
  have C_is_of : Cal CX0 P w K mg base 4 "is_of" ["nodes", "start", "row"] (sp_is_of K) := ⟨_, _, PySem.W.mg_of X G a9, k9, ok_is_of F9 C_fits C_asked_inside (PySem.W.mg_none_of X G z_int) ⟨_, PySem.W.mg_of X G n_TRUTH_TOLD⟩, F9.binds fun _ _ _ _ _ _ us hl => match us, hl with | [_, _, _], _ => rfl⟩
  have F10 := fun_mk (st := s_asked_nodes) l10 c10 k10
  have C_asked_nodes : Cal (L2.CX P w) P w K mg base 5 "asked_nodes" ["row", "numbers"] (sp_asked_nodes K C) := ⟨_, _, PySem.W.mg_of X G a10, k10, ok_asked_nodes F10 C_nodes_in C_must_be_there, F10.binds fun _ _ _ _ _ _ us hl => match us, hl with | [_, _], _ => rfl⟩
  have F11 := fun_mk (st := s_has) l11 c11 k11
  exact ok_has F11 low C_asked_nodes C_must C_is_value C_is_of (PySem.W.mg_none_of X G z_int) (PySem.W.mg_none_of X G z_len) ⟨_, PySem.W.mg_of X G n_MOST_NUMBERS⟩ ⟨_, PySem.W.mg_of X G n_NOT_RIGHT⟩
theorem nat_list : ∀ (ns : List Int), (∀ z ∈ ns, 0 ≤ z) → ns.map V.int = (ns.map Int.toNat).map nV
  | [], _ => rfl
  | z :: r, h => by
    have e : ((z.toNat : Nat) : Int) = z := Int.toNat_of_nonneg (h z List.mem_cons_self)
    rw [List.map_cons, List.map_cons, List.map_cons, nat_list r fun y hy => h y (List.mem_cons_of_mem _ hy)]
    show _ = V.int ((z.toNat : Nat) : Int) :: _
    rw [e]
theorem natural_nn {z : Int} (h : Krk0Neutral.natural z 32 = true) : 0 ≤ z := by
  unfold Krk0Neutral.natural at h
  rw [Bool.and_eq_true, decide_eq_true_eq] at h
  exact h.1
theorem naturals_nn {ns : List Int} (h : ns.all (fun (z : Int) => Krk0Neutral.natural z 32) = true) : ∀ z ∈ ns, 0 ≤ z := fun z hz => natural_nn (List.all_eq_true.mp h z hz)
theorem int_V {z : Int} (h : 0 ≤ z) : V.int z = nV z.toNat := by
  show _ = V.int ((z.toNat : Nat) : Int)
  rw [Int.toNat_of_nonneg h]
end Rt
open PySem PySem.W PyProof.Rows
set_option maxRecDepth 100000 in
set_option maxHeartbeats 8000000 in
theorem PySem.Challenge.cw_roundtypesworks_s06_has_holds : PySem.Challenge.rw_roundtypesworks_s06_has.Holds := by
  w_on; k_headS; (case hw => exact ⟨[.int 0, .list [], .list []], by decide +kernel, by decide +kernel⟩)
  k_fillS
  refine L2.walk_specK (r := PySem.Challenge.rw_roundtypesworks_s06_has) (k := 6) (CX := L2.CX0) (ps := ["a", "nodes", "v"]) (sp := fun K => Rt.sp_has K) (by decide +kernel) rfl rfl ⟨rfl, by decide, by decide⟩ (fun w h Y => PySem.W.kIn_of Y) ?F ?S (fun _ _ _ _ z => z)
  case F =>
    intro w mg fa h Y KX G hmg
    refine' Rt.all_mk KX G hmg ?aC ?xL ?sa ?ga ?gg ?nb ?ai ?ti ?li ?ci ?kC ?eC ?tC ?hC ?iC ?sC ?a0 ?l0 ?c0 ?k0 ?a1 ?l1 ?c1 ?k1 ?a2 ?l2 ?c2 ?k2 ?a3 ?l3 ?c3 ?k3 ?a4 ?l4 ?c4 ?k4 ?a5 ?l5 ?c5 ?k5 ?a6 ?l6 ?c6 ?k6 ?a7 ?l7 ?c7 ?k7 ?a8 ?l8 ?c8 ?k8 ?a9 ?l9 ?c9 ?k9 ?a10 ?l10 ?c10 ?k10 ?a11 ?l11 ?c11 ?k11 ?n_PAIR ?n_CHOICE ?n_FUNCTION ?n_MOST_NODES ?n_NO_NODES ?n_NO_NODE ?n_TRUTH_TOLD ?n_PAIR_TOLD ?n_SECOND_TOLD ?n_ANY ?n_ANYTHING ?n_NUMBER ?n_TRUTH ?n_NUMBER_TOLD ?n_FIRST_TOLD ?n_MOST_NUMBERS ?n_NOT_RIGHT ?z_range ?z_len ?z_all ?z_int
    (case aC => k_is)
    (case xL => k_is)
    (case sa => k_is)
    (case ga => k_is)
    (case gg => k_is)
    (case nb => k_is)
    (case ai => k_is)
    (case ti => k_is)
    (case li => k_is)
    (case ci => k_is)
    (case kC => k_is)
    (case eC => k_is)
    (case tC => k_is)
    (case hC => k_is)
    (case iC => k_is)
    (case sC => first | rfl | k_is)
    (case a0 => k_is)
    (case l0 => k_is)
    (case c0 => k_is)
    (case k0 => k_is)
    (case a1 => k_is)
    (case l1 => k_is)
    (case c1 => k_is)
    (case k1 => k_is)
    (case a2 => k_is)
    (case l2 => k_is)
    (case c2 => k_is)
    (case k2 => k_is)
    (case a3 => k_is)
    (case l3 => k_is)
    (case c3 => k_is)
    (case k3 => k_is)
    (case a4 => k_is)
    (case l4 => k_is)
    (case c4 => k_is)
    (case k4 => k_is)
    (case a5 => k_is)
    (case l5 => k_is)
    (case c5 => k_is)
    (case k5 => k_is)
    (case a6 => k_is)
    (case l6 => k_is)
    (case c6 => k_is)
    (case k6 => k_is)
    (case a7 => k_is)
    (case l7 => k_is)
    (case c7 => k_is)
    (case k7 => k_is)
    (case a8 => k_is)
    (case l8 => k_is)
    (case c8 => k_is)
    (case k8 => k_is)
    (case a9 => k_is)
    (case l9 => k_is)
    (case c9 => k_is)
    (case k9 => k_is)
    (case a10 => k_is)
    (case l10 => k_is)
    (case c10 => k_is)
    (case k10 => k_is)
    (case a11 => k_is)
    (case l11 => k_is)
    (case c11 => k_is)
    (case k11 => k_is)
    (case n_PAIR => k_is)
    (case n_CHOICE => k_is)
    (case n_FUNCTION => k_is)
    (case n_MOST_NODES => k_is)
    (case n_NO_NODES => k_is)
    (case n_NO_NODE => k_is)
    (case n_TRUTH_TOLD => k_is)
    (case n_PAIR_TOLD => k_is)
    (case n_SECOND_TOLD => k_is)
    (case n_ANY => k_is)
    (case n_ANYTHING => k_is)
    (case n_NUMBER => k_is)
    (case n_TRUTH => k_is)
    (case n_NUMBER_TOLD => k_is)
    (case n_FIRST_TOLD => k_is)
    (case n_MOST_NUMBERS => k_is)
    (case n_NOT_RIGHT => k_is)
    (case z_range => k_is)
    (case z_len => k_is)
    (case z_all => k_is)
    (case z_int => k_is)
  case S =>
    intro K H xs a hO hwi hask hx
    obtain ⟨x0, x1, x2, u⟩ := a
    cases hx with
    | cons h0 t0 =>
    cases t0 with
    | cons h1 t1 =>
    cases t1 with
    | cons h2 t2 =>
    cases t2
    cases h0
    cases h1 with
    | lst hs1 ha1 =>
    have e1 := L2.ints_dw x1 _ ha1
    subst e1
    cases h2 with
    | lst hs2 ha2 =>
    have e2 := L2.ints_dw x2 _ ha2
    subst e2
    have q : PyKrk0.has_asked x0 x1 x2 = true := hask
    have q' : (Krk0Neutral.natural x0 32 && x1.all (fun (z : Int) => Krk0Neutral.natural z 32) && x1.length % 3 == 0 && decide (x1.length < 768) && x2.all (fun (z : Int) => Krk0Neutral.natural z 32) && decide (x2.length < 256)) = true := q
    simp only [Bool.and_eq_true, decide_eq_true_eq, beq_iff_eq] at q'
    obtain ⟨⟨⟨⟨⟨q0, q1⟩, q2⟩, q3⟩, q4⟩, q5⟩ := q'
    obtain ⟨g, hg⟩ := Rt.graphOf_some (x1.length / 3) (x1.map Int.toNat) (by rw [List.length_map]; omega)
    refine ⟨x0.toNat, _, _, x1.map Int.toNat, x2.map Int.toNat, g, by rw [Rt.int_V (Rt.natural_nn q0)], by rw [← Rt.nat_list x1 (Rt.naturals_nn q1)]; exact hs1, hg, by rw [List.length_map]; omega, by rw [← Rt.nat_list x2 (Rt.naturals_nn q4)]; exact hs2, by rw [List.length_map]; omega, fun H' p hp => ?_⟩
    exact .lst (L2.SqL.of hp) (L2.dw_ints _)
#print axioms PySem.Challenge.cw_roundtypesworks_s06_has_holds
