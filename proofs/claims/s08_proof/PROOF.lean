import PyProof.Rows.All
import Wide.All
import OpenK.AllK
import Wide.FinOn
import PyProof.EqAt
import PyProof.EqKinds
import PyProof.TupleCall
import Open.SpecLaws
import KE.OsGo
import HandS.ForSpec
import HandS.Comp
import HandS.Dict
import HandS.Iter
import HandS.Walk
import HandS.Conv
import KE.KDictPairs
import KE.KDictWalk
import KE.KDictDisplayH
import KE.KDictCopyH
import HandS.TupLen
import HandS.TupAny
import PySem.Challenge.RW_roundtypesworks_s08_proof
set_option Elab.async false
set_option linter.all false
set_option maxRecDepth 100000
set_option maxHeartbeats 4000000
namespace Rt
open Krk0
theorem graphOf_len : ∀ {l : List Nat} {g : Graph}, graphOf l = some g → l.length = 3 * g.length
  | [], g, h => by
    have e : ([] : Graph) = g := Option.some.inj h
    subst e
    rfl
  | [_], g, h => by simp [graphOf] at h
  | [_, _], g, h => by simp [graphOf] at h
  | k :: a :: b :: l, g, h => by
    rw [graphOf] at h
    cases e : graphOf l with
    | none => rw [e] at h; simp at h
    | some g' =>
      rw [e] at h
      simp only [Option.map_some, Option.some.injEq] at h
      subst h
      have ih := graphOf_len e
      simp only [List.length_cons]
      omega
theorem graphOf_get : ∀ {l : List Nat} {g : Graph} {i : Nat} {x : Node}, graphOf l = some g → g[i]? = some x → l[3 * i]? = some x.kind ∧ l[3 * i + 1]? = some x.a ∧ l[3 * i + 2]? = some x.b
  | [], g, i, x, h, hx => by
    have e : ([] : Graph) = g := Option.some.inj h
    subst e
    simp at hx
  | [_], g, i, x, h, hx => by simp [graphOf] at h
  | [_, _], g, i, x, h, hx => by simp [graphOf] at h
  | k :: a :: b :: l, g, i, x, h, hx => by
    rw [graphOf] at h
    cases e : graphOf l with
    | none => rw [e] at h; simp at h
    | some g' =>
      rw [e] at h
      simp only [Option.map_some, Option.some.injEq] at h
      subst h
      cases i with
      | zero =>
        simp only [List.getElem?_cons_zero, Option.some.injEq] at hx
        subst hx
        exact ⟨rfl, rfl, rfl⟩
      | succ i =>
        simp only [List.getElem?_cons_succ] at hx
        have ih := graphOf_get e hx
        have e1 : 3 * (i + 1) = 3 * i + 1 + 1 + 1 := by omega
        have e2 : 3 * (i + 1) + 1 = 3 * i + 1 + 1 + 1 + 1 := by omega
        have e3 : 3 * (i + 1) + 2 = 3 * i + 2 + 1 + 1 + 1 := by omega
        rw [e3, e2, e1]
        simp only [List.getElem?_cons_succ]
        exact ih
theorem graphOf_some : ∀ (n : Nat) (l : List Nat), l.length = 3 * n → ∃ g, graphOf l = some g
  | 0, [], _ => ⟨[], rfl⟩
  | 0, _ :: _, h => by simp at h
  | n + 1, [], h => by simp at h
  | n + 1, [_], h => by simp at h; omega
  | n + 1, [_, _], h => by simp at h; omega
  | n + 1, k :: a :: b :: l, h => by
    simp only [List.length_cons] at h
    obtain ⟨g, hg⟩ := graphOf_some n l (by omega)
    exact ⟨⟨k, a, b⟩ :: g, by rw [graphOf, hg]; rfl⟩
/-- a node that is right, by its parts -/
theorem ok_get {g : Graph} (h : graphOk g = true) {i : Nat} {x : Node} (hx : g[i]? = some x) : nodeOk g.length x = true := by
  unfold graphOk at h
  simp only [Bool.and_eq_true, List.all_eq_true] at h
  exact h.2.2 x (List.mem_of_getElem? hx)
theorem ok_len {g : Graph} (h : graphOk g = true) : 1 ≤ g.length ∧ g.length ≤ 32 := by
  unfold graphOk at h
  simp only [Bool.and_eq_true, decide_eq_true_eq] at h
  exact ⟨h.1, h.2.1⟩
theorem nodeOk_leaf {n : Nat} {x : Node} (h : nodeOk n x = true) (hk : x.kind ≤ 3) : x.a = 0 ∧ x.b = 0 := by
  unfold nodeOk at h
  rw [if_pos hk] at h
  simpa using h
theorem nodeOk_inner {n : Nat} {x : Node} (h : nodeOk n x = true) (hk : 3 < x.kind) : x.kind ≤ 6 ∧ x.a < n ∧ x.b < n := by
  unfold nodeOk at h
  rw [if_neg (by omega)] at h
  simpa using h
theorem at_get {g : Graph} {i : Nat} {x : Node} (h : g[i]? = some x) : at_ g i = x := by
  unfold at_
  rw [List.getD_eq_getElem?_getD, h]
  rfl
theorem get_at {g : Graph} {i : Nat} (h : i < g.length) : g[i]? = some (at_ g i) := by
  rw [List.getElem?_eq_getElem h]
  congr 1
  exact (at_get (List.getElem?_eq_getElem h)).symm
/-- with_, by cases of what it asks -/
theorem with_bad {l nodes : List Nat} {f : Graph → Ans} {g : Graph} (h : graphOf l = some g) (hb : graphOk g = false) : with_ l nodes f = say (-71) := by
  unfold with_
  rw [h]
  exact if_pos hb
theorem with_no {l nodes : List Nat} {f : Graph → Ans} {g : Graph} (h : graphOf l = some g) (hb : graphOk g = true) (hn : nodes.all (fun i => decide (i < g.length)) = false) : with_ l nodes f = say (-2) := by
  unfold with_
  rw [h]
  show (if graphOk g = false then say (-71) else if nodes.all (fun i => decide (i < g.length)) = false then say (-2) else f g) = _
  rw [if_neg (by rw [hb]; decide), if_pos hn]
theorem with_ok {l nodes : List Nat} {f : Graph → Ans} {g : Graph} (h : graphOf l = some g) (hb : graphOk g = true) (hn : nodes.all (fun i => decide (i < g.length)) = true) : with_ l nodes f = f g := by
  unfold with_
  rw [h]
  show (if graphOk g = false then say (-71) else if nodes.all (fun i => decide (i < g.length)) = false then say (-2) else f g) = _
  rw [if_neg (by rw [hb]; decide), if_neg (by rw [hn]; decide)]
end Rt
namespace Rt
open Krk0
/-- the pairs that a pair asks for -/
def asks (g : Graph) (p : Nat × Nat) : List (Nat × Nat) := (wants (at_ g p.1) (at_ g p.2)).getD []
def failsB (g : Graph) (p : Nat × Nat) : Bool := decide ((at_ g p.1).kind ≠ 0) && (decide ((at_ g p.2).kind ≠ 1) && decide ((at_ g p.1).kind ≠ (at_ g p.2).kind))
theorem fails_none {g : Graph} {p : Nat × Nat} (h : failsB g p = true) : wants (at_ g p.1) (at_ g p.2) = none := by
  unfold failsB at h
  simp only [Bool.and_eq_true, decide_eq_true_eq] at h
  unfold wants
  rw [if_neg (by omega), if_pos h.2.2]
theorem fails_some {g : Graph} {p : Nat × Nat} (h : failsB g p = false) : wants (at_ g p.1) (at_ g p.2) = some (asks g p) := by
  have e : ∃ w, wants (at_ g p.1) (at_ g p.2) = some w := by
    unfold wants
    by_cases h1 : (at_ g p.1).kind = 0 ∨ (at_ g p.2).kind = 1
    · exact ⟨_, if_pos h1⟩
    · rw [if_neg h1]
      by_cases h2 : (at_ g p.1).kind ≠ (at_ g p.2).kind
      · exfalso
        unfold failsB at h
        rw [decide_eq_true (show (at_ g p.1).kind ≠ 0 by omega), decide_eq_true (show (at_ g p.2).kind ≠ 1 by omega), decide_eq_true h2] at h
        cases h
      · rw [if_neg h2]
        by_cases h3 : (at_ g p.1).kind ≤ 3
        · exact ⟨_, if_pos h3⟩
        · rw [if_neg h3]
          by_cases h4 : (at_ g p.1).kind = 6
          · exact ⟨_, if_pos h4⟩
          · exact ⟨_, if_neg h4⟩
  obtain ⟨w, e⟩ := e
  unfold asks
  rw [e]
  rfl
theorem asks_nil {g : Graph} {p : Nat × Nat} (h : (at_ g p.1).kind = 0 ∨ (at_ g p.2).kind = 1 ∨ (at_ g p.1).kind ≠ (at_ g p.2).kind) : asks g p = [] := by
  unfold asks wants
  by_cases h1 : (at_ g p.1).kind = 0 ∨ (at_ g p.2).kind = 1
  · rw [if_pos h1]; rfl
  · rw [if_neg h1, if_pos (by omega)]; rfl
theorem asks_leaf {g : Graph} {p : Nat × Nat} (h3 : (at_ g p.1).kind ≤ 3) : asks g p = [] := by
  unfold asks wants
  by_cases h1 : (at_ g p.1).kind = 0 ∨ (at_ g p.2).kind = 1
  · rw [if_pos h1]; rfl
  · rw [if_neg h1]
    by_cases h2 : (at_ g p.1).kind ≠ (at_ g p.2).kind
    · rw [if_pos h2]; rfl
    · rw [if_neg h2, if_pos h3]; rfl
theorem asks_fun {g : Graph} {p : Nat × Nat} (h6 : (at_ g p.1).kind = 6) (h : (at_ g p.2).kind = 6) : asks g p = [((at_ g p.2).a, (at_ g p.1).a), ((at_ g p.1).b, (at_ g p.2).b)] := by
  unfold asks wants
  rw [if_neg (by omega), if_neg (by omega), if_neg (by omega), if_pos h6]
  rfl
theorem asks_two {g : Graph} {p : Nat × Nat} (h45 : (at_ g p.1).kind = 4 ∨ (at_ g p.1).kind = 5) (h : (at_ g p.1).kind = (at_ g p.2).kind) : asks g p = [((at_ g p.1).a, (at_ g p.2).a), ((at_ g p.1).b, (at_ g p.2).b)] := by
  unfold asks wants
  rw [if_neg (by omega), if_neg (by omega), if_neg (by omega), if_neg (by omega)]
  rfl
def inP (n : Nat) (p : Nat × Nat) : Prop := p.1 < n ∧ p.2 < n
theorem asks_in {g : Graph} (hok : graphOk g = true) {p q : Nat × Nat} (hp : inP g.length p) (hq : q ∈ asks g p) : inP g.length q := by
  by_cases h0 : (at_ g p.1).kind = 0 ∨ (at_ g p.2).kind = 1 ∨ (at_ g p.1).kind ≠ (at_ g p.2).kind
  · rw [asks_nil h0] at hq; cases hq
  by_cases h3 : (at_ g p.1).kind ≤ 3
  · rw [asks_leaf h3] at hq; cases hq
  have e : (at_ g p.1).kind = (at_ g p.2).kind := by omega
  obtain ⟨k1, a1, b1⟩ := nodeOk_inner (ok_get hok (get_at hp.1)) (by omega)
  obtain ⟨k2, a2, b2⟩ := nodeOk_inner (ok_get hok (get_at hp.2)) (by omega)
  by_cases h6 : (at_ g p.1).kind = 6
  · rw [asks_fun h6 (by omega)] at hq
    simp only [List.mem_cons, List.not_mem_nil, or_false] at hq
    rcases hq with rfl | rfl
    · exact ⟨a2, a1⟩
    · exact ⟨b1, b2⟩
  · rw [asks_two (by omega) e] at hq
    simp only [List.mem_cons, List.not_mem_nil, or_false] at hq
    rcases hq with rfl | rfl
    · exact ⟨a1, a2⟩
    · exact ⟨b1, b2⟩
theorem asks_short (g : Graph) (p : Nat × Nat) : (asks g p).length ≤ 2 := by
  by_cases h0 : (at_ g p.1).kind = 0 ∨ (at_ g p.2).kind = 1 ∨ (at_ g p.1).kind ≠ (at_ g p.2).kind
  · rw [asks_nil h0]; exact Nat.zero_le _
  by_cases h3 : (at_ g p.1).kind ≤ 3
  · rw [asks_leaf h3]; exact Nat.zero_le _
  by_cases h6 : (at_ g p.1).kind = 6
  · rw [asks_fun h6 (by omega)]; exact Nat.le_refl _
  · have e : (at_ g p.1).kind = (at_ g p.2).kind := by omega
    unfold asks wants
    rw [if_neg (by omega), if_neg (by omega), if_neg (by omega), if_neg h6]
    exact Nat.le_refl _
/-- a pair is kept by a list of pairs -/
def good (g : Graph) (l : List (Nat × Nat)) (p : Nat × Nat) : Bool := !failsB g p && (asks g p).all fun q => l.contains q
theorem proves_eq (g : Graph) (i j : Nat) (l : List (Nat × Nat)) : proves g i j l = (l.contains (i, j) && l.all (good g l)) := by
  unfold proves
  congr 1
  congr 1
  funext p
  cases h : failsB g p with
  | true =>
    rw [fails_none h]
    unfold good
    rw [h]
    rfl
  | false =>
    rw [fails_some h]
    unfold good
    rw [h]
    rfl
/-! ### pairs told in a row -/
theorem pairsOf_len : ∀ {l : List Nat} {g : List (Nat × Nat)}, pairsOf l = some g → l.length = 2 * g.length
  | [], g, h => by
    have e : ([] : List (Nat × Nat)) = g := Option.some.inj h
    subst e
    rfl
  | [_], g, h => by simp [pairsOf] at h
  | a :: b :: l, g, h => by
    rw [pairsOf] at h
    cases e : pairsOf l with
    | none => rw [e] at h; simp at h
    | some g' =>
      rw [e] at h
      simp only [Option.map_some, Option.some.injEq] at h
      subst h
      have ih := pairsOf_len e
      simp only [List.length_cons]
      omega
theorem pairsOf_get : ∀ {l : List Nat} {g : List (Nat × Nat)} {i : Nat} {x : Nat × Nat}, pairsOf l = some g → g[i]? = some x → l[2 * i]? = some x.1 ∧ l[2 * i + 1]? = some x.2
  | [], g, i, x, h, hx => by
    have e : ([] : List (Nat × Nat)) = g := Option.some.inj h
    subst e
    simp at hx
  | [_], g, i, x, h, hx => by simp [pairsOf] at h
  | a :: b :: l, g, i, x, h, hx => by
    rw [pairsOf] at h
    cases e : pairsOf l with
    | none => rw [e] at h; simp at h
    | some g' =>
      rw [e] at h
      simp only [Option.map_some, Option.some.injEq] at h
      subst h
      cases i with
      | zero =>
        simp only [List.getElem?_cons_zero, Option.some.injEq] at hx
        subst hx
        exact ⟨rfl, rfl⟩
      | succ i =>
        simp only [List.getElem?_cons_succ] at hx
        have ih := pairsOf_get e hx
        have e2 : 2 * (i + 1) + 1 = 2 * i + 1 + 1 + 1 := by omega
        have e1 : 2 * (i + 1) = 2 * i + 1 + 1 := by omega
        rw [e2, e1]
        simp only [List.getElem?_cons_succ]
        exact ih
theorem pairsOf_some : ∀ (n : Nat) (l : List Nat), l.length = 2 * n → ∃ g, pairsOf l = some g
  | 0, [], _ => ⟨[], rfl⟩
  | 0, _ :: _, h => by simp at h
  | n + 1, [], h => by simp at h
  | n + 1, [_], h => by simp at h; omega
  | n + 1, a :: b :: l, h => by
    simp only [List.length_cons] at h
    obtain ⟨g, hg⟩ := pairsOf_some n l (by omega)
    exact ⟨(a, b) :: g, by rw [pairsOf, hg]; rfl⟩
theorem pairsOf_all {n : Nat} : ∀ {l : List Nat} {g : List (Nat × Nat)}, pairsOf l = some g → (g.all fun x => decide (x.1 < n) && decide (x.2 < n)) = l.all fun i => decide (i < n)
  | [], g, h => by
    have e : ([] : List (Nat × Nat)) = g := Option.some.inj h
    subst e
    rfl
  | [_], g, h => by simp [pairsOf] at h
  | a :: b :: l, g, h => by
    rw [pairsOf] at h
    cases e : pairsOf l with
    | none => rw [e] at h; simp at h
    | some g' =>
      rw [e] at h
      simp only [Option.map_some, Option.some.injEq] at h
      subst h
      rw [List.all_cons, List.all_cons, List.all_cons, pairsOf_all e, Bool.and_assoc]
end Rt
namespace Rt
open Krk0
/-! ### so many different numbers below a bound -/
theorem nodup_le : ∀ (n : Nat) (l : List Nat), l.Nodup → (∀ x ∈ l, x < n) → l.length ≤ n
  | 0, l, _, h => by
    cases l with
    | nil => exact Nat.le_refl _
    | cons x l => exact absurd (h x List.mem_cons_self) (Nat.not_lt_zero _)
  | n + 1, l, hn, h => by
    by_cases hm : n ∈ l
    · have h1 := nodup_le n (l.erase n) (hn.erase n) (fun x hx => by
        have hx' := List.mem_of_mem_erase hx
        have hne : x ≠ n := fun e => by
          subst e
          exact absurd hx (List.Nodup.not_mem_erase hn)
        have := h x hx'
        omega)
      rw [List.length_erase_of_mem hm] at h1
      omega
    · have h1 := nodup_le n l hn (fun x hx => by
        have hne : x ≠ n := fun e => by
          subst e
          exact hm hx
        have := h x hx
        omega)
      omega
theorem nodup_map_on {α β : Type} {f : α → β} : ∀ {l : List α}, (∀ x ∈ l, ∀ y ∈ l, f x = f y → x = y) → l.Nodup → (l.map f).Nodup
  | [], _, _ => List.nodup_nil
  | a :: l, hf, h => by
    rw [List.map_cons, List.nodup_cons]
    rw [List.nodup_cons] at h
    refine ⟨fun hm => ?_, nodup_map_on (fun x hx y hy => hf x (List.mem_cons_of_mem _ hx) y (List.mem_cons_of_mem _ hy)) h.2⟩
    obtain ⟨y, hy, e⟩ := List.mem_map.mp hm
    have := hf a List.mem_cons_self y (List.mem_cons_of_mem _ hy) e.symm
    subst this
    exact h.1 hy
theorem pairs_le (n : Nat) (l : List (Nat × Nat)) (hn : l.Nodup) (h : ∀ x ∈ l, x.1 < n ∧ x.2 < n) : l.length ≤ n * n := by
  have h1 := nodup_le (n * n) (l.map fun p => p.1 * n + p.2) (nodup_map_on (fun x hx y hy e => by
    obtain ⟨x1, x2⟩ := h x hx
    obtain ⟨y1, y2⟩ := h y hy
    have d1 : (x.1 * n + x.2) / n = x.1 := by
      rw [Nat.mul_comm, Nat.mul_add_div (by omega), Nat.div_eq_of_lt x2, Nat.add_zero]
    have d2 : (y.1 * n + y.2) / n = y.1 := by
      rw [Nat.mul_comm, Nat.mul_add_div (by omega), Nat.div_eq_of_lt y2, Nat.add_zero]
    have e1 : x.1 = y.1 := by
      have e' : x.1 * n + x.2 = y.1 * n + y.2 := e
      rw [← d1, ← d2, e']
    have e2 : x.2 = y.2 := by
      have e' : x.1 * n + x.2 = y.1 * n + y.2 := e
      rw [e1] at e'
      omega
    exact Prod.ext e1 e2) hn) (fun z hz => by
      obtain ⟨x, hx, rfl⟩ := List.mem_map.mp hz
      obtain ⟨x1, x2⟩ := h x hx
      have : (x.1 + 1) * n ≤ n * n := Nat.mul_le_mul_right n x1
      rw [Nat.add_mul] at this
      show x.1 * n + x.2 < n * n
      omega)
  rw [List.length_map] at h1
  exact h1
end Rt
namespace Rt
open Krk0
/-! ### ways: lists of steps 0 or 1; the number with these digits behind a 1 orders them -/
def cd (w : List Nat) : Nat := w.foldl (fun n s => 2 * n + s) 1
theorem cd_snoc (w : List Nat) (s : Nat) : cd (w ++ [s]) = 2 * cd w + s := by
  unfold cd
  rw [List.foldl_append]
  rfl
theorem cd_foldl (w : List Nat) : ∀ a, w.foldl (fun n s => 2 * n + s) (a + 1) = 2 ^ w.length * a + w.foldl (fun n s => 2 * n + s) 1 := by
  induction w with
  | nil => intro a; simp
  | cons s w ih =>
    intro a
    rw [List.foldl_cons, List.foldl_cons, List.length_cons]
    have e1 : 2 * (a + 1) + s = (2 * a + 1 + s) + 1 := by omega
    have e2 : 2 * 1 + s = (1 + s) + 1 := by omega
    rw [e1, e2, ih, ih (1 + s)]
    have e3 : 2 ^ (w.length + 1) * a = 2 ^ w.length * (2 * a) := by rw [Nat.pow_succ]; rw [Nat.mul_assoc]
    rw [e3, ← Nat.add_assoc, ← Nat.mul_add]
    congr 2
    omega
theorem cd_cons (s : Nat) (w : List Nat) : cd (s :: w) = 2 ^ w.length * (1 + s) + cd w := by
  unfold cd
  rw [List.foldl_cons]
  have e2 : 2 * 1 + s = (1 + s) + 1 := by omega
  rw [e2, cd_foldl]
theorem cd_low : ∀ (w : List Nat), 2 ^ w.length ≤ cd w
  | [] => Nat.le_refl _
  | s :: w => by
    have ih := cd_low w
    rw [cd_cons, List.length_cons, Nat.pow_succ, Nat.mul_add, Nat.mul_one]
    omega
theorem cd_high : ∀ (w : List Nat), (∀ s ∈ w, s < 2) → cd w < 2 ^ (w.length + 1)
  | [], _ => by decide
  | s :: w, h => by
    have ih := cd_high w fun x hx => h x (List.mem_cons_of_mem _ hx)
    have hs := h s List.mem_cons_self
    rw [cd_cons, List.length_cons]
    have e1 : 2 ^ (w.length + 1 + 1) = 2 ^ w.length * 2 + 2 ^ (w.length + 1) := by
      rw [Nat.pow_succ 2 (w.length + 1), Nat.pow_succ]
      omega
    have e2 : 2 ^ w.length * (1 + s) ≤ 2 ^ w.length * 2 := Nat.mul_le_mul_left _ (by omega)
    omega
theorem cd_inj : ∀ (n : Nat) (u v : List Nat), u.length ≤ n → (∀ s ∈ u, s < 2) → (∀ s ∈ v, s < 2) → cd u = cd v → u = v
  | n, u, v, hn, hu, hv, e => by
    rcases List.eq_nil_or_concat u with rfl | ⟨u', s, rfl⟩
    · rcases List.eq_nil_or_concat v with rfl | ⟨v', t, rfl⟩
      · rfl
      · exfalso
        rw [List.concat_eq_append, cd_snoc] at e
        have := cd_low v'
        have h2 := Nat.two_pow_pos v'.length
        have h1 : cd [] = 1 := rfl
        omega
    · rcases List.eq_nil_or_concat v with rfl | ⟨v', t, rfl⟩
      · exfalso
        rw [List.concat_eq_append, cd_snoc] at e
        have := cd_low u'
        have h2 := Nat.two_pow_pos u'.length
        have h1 : cd [] = 1 := rfl
        omega
      · rw [List.concat_eq_append] at hn hu e ⊢
        rw [List.concat_eq_append] at hv e ⊢
        rw [cd_snoc, cd_snoc] at e
        have hs := hu s (by simp)
        have ht := hv t (by simp)
        rw [List.length_append] at hn
        cases n with
        | zero => simp at hn
        | succ n =>
          have e1 : cd u' = cd v' := by omega
          have e2 : s = t := by omega
          rw [e2, cd_inj n u' v' (by simp at hn; omega) (fun x hx => hu x (by simp [hx])) (fun x hx => hv x (by simp [hx])) e1]
/-- where steps lead to -/
def go (g : Graph) : Nat × Nat → List Nat → Option (Nat × Nat)
  | p, [] => some p
  | p, s :: w => (asks g p)[s]?.bind fun q => go g q w
theorem go_snoc (g : Graph) : ∀ (w : List Nat) (p : Nat × Nat) (s : Nat), go g p (w ++ [s]) = (go g p w).bind fun q => (asks g q)[s]?
  | [], p, s => by
    show (asks g p)[s]?.bind (fun q => some q) = (asks g p)[s]?
    cases (asks g p)[s]? <;> rfl
  | t :: w, p, s => by
    show (asks g p)[t]?.bind (fun q => go g q (w ++ [s])) = ((asks g p)[t]?.bind fun q => go g q w).bind _
    cases (asks g p)[t]? with
    | none => rfl
    | some q => exact go_snoc g w q s
theorem go_bits (g : Graph) : ∀ (w : List Nat) (p q : Nat × Nat), go g p w = some q → ∀ s ∈ w, s < 2
  | [], _, _, _, s, hs => nomatch hs
  | t :: w, p, q, h, s, hs => by
    have h' : (asks g p)[t]?.bind (fun q => go g q w) = some q := h
    cases e : (asks g p)[t]? with
    | none => rw [e] at h'; cases h'
    | some r =>
      rw [e] at h'
      rcases List.mem_cons.mp hs with rfl | hs
      · have := (List.getElem?_eq_some_iff.mp e).1
        have := asks_short g p
        omega
      · exact go_bits g w r q h' s hs
/-- a way on which it fails -/
def FW (g : Graph) (p : Nat × Nat) (w : List Nat) : Prop := ∃ q, go g p w = some q ∧ failsB g q = true
theorem FW_cons {g : Graph} {p : Nat × Nat} {s : Nat} {w : List Nat} : FW g p (s :: w) ↔ ∃ q, (asks g p)[s]? = some q ∧ FW g q w := by
  constructor
  · rintro ⟨q, h1, h2⟩
    have h' : (asks g p)[s]?.bind (fun q => go g q w) = some q := h1
    cases e : (asks g p)[s]? with
    | none => rw [e] at h'; cases h'
    | some r => rw [e] at h'; exact ⟨r, rfl, q, h', h2⟩
  · rintro ⟨r, e, q, h1, h2⟩
    refine ⟨q, ?_, h2⟩
    show (asks g p)[s]?.bind (fun q => go g q w) = some q
    rw [e]
    exact h1
/-! ### the walk over all pairs, each with its first way -/
abbrev WRow := List ((Nat × Nat) × List Nat)
def addW (w : List Nat) (R : WRow) (x : (Nat × Nat) × Nat) : WRow := if (R.map (·.1)).contains x.1 then R else R ++ [(x.1, w ++ [x.2])]
def turnW (g : Graph) (R : WRow) (p : Nat × Nat) (w : List Nat) : WRow := (asks g p).zipIdx.foldl (addW w) R
def bfs (g : Graph) : Nat → Nat → WRow → WRow
  | 0, _, R => R
  | f + 1, i, R => match R[i]? with
    | none => R
    | some x => bfs g f (i + 1) (turnW g R x.1 x.2)
theorem addW_fst (w : List Nat) (R : WRow) (x : (Nat × Nat) × Nat) : (addW w R x).map (·.1) = if (R.map (·.1)).contains x.1 then R.map (·.1) else R.map (·.1) ++ [x.1] := by
  unfold addW
  split
  · rfl
  · rw [List.map_append]; rfl
theorem foldW_fst (w : List Nat) : ∀ (l : List (Nat × Nat)) (k : Nat) (R : WRow), ((l.zipIdx k).foldl (addW w) R).map (·.1) = l.foldl (fun m q => if m.contains q then m else m ++ [q]) (R.map (·.1))
  | [], _, _ => rfl
  | q :: l, k, R => by
    rw [List.zipIdx_cons, List.foldl_cons, List.foldl_cons, foldW_fst w l (k + 1), addW_fst]
theorem bfs_pairs (g : Graph) : ∀ (f i : Nat) (R : WRow), (bfs g f i R).map (·.1) = pairs g f i (R.map (·.1))
  | 0, _, _ => rfl
  | f + 1, i, R => by
    show List.map (fun (x : (Nat × Nat) × List Nat) => x.1) (match R[i]? with
      | none => R
      | some x => bfs g f (i + 1) (turnW g R x.1 x.2)) = match (R.map (·.1))[i]? with
      | none => R.map (·.1)
      | some p => pairs g f (i + 1) (((wants (at_ g p.1) (at_ g p.2)).getD []).foldl (fun m q => if m.contains q then m else m ++ [q]) (R.map (·.1)))
    rw [List.getElem?_map]
    cases R[i]? with
    | none => rfl
    | some x =>
      show (bfs g f (i + 1) (turnW g R x.1 x.2)).map (·.1) = pairs g f (i + 1) ((asks g x.1).foldl (fun m q => if m.contains q then m else m ++ [q]) (R.map (·.1)))
      rw [bfs_pairs g f (i + 1)]
      congr 1
      exact foldW_fst x.2 (asks g x.1) 0 R
/-- what holds of the row while the i-th is gone through and the first k of what it asks for are there; lim: all ways' numbers are below -/
structure RowOk (g : Graph) (p0 : Nat × Nat) (i lim : Nat) (R : WRow) : Prop where
  first : R[0]? = some (p0, [])
  nd : (R.map (·.1)).Nodup
  inn : ∀ x ∈ R, inP g.length x.1
  path : ∀ x ∈ R, go g p0 x.2 = some x.1
  rise : ∀ (j k : Nat) (x y : (Nat × Nat) × List Nat), j < k → R[j]? = some x → R[k]? = some y → cd x.2 < cd y.2
  low : ∀ x ∈ R, cd x.2 < lim
  shrt : ∀ (j : Nat) (x : (Nat × Nat) × List Nat), R[j]? = some x → x.2.length ≤ j
  clos : ∀ (j : Nat) (x : (Nat × Nat) × List Nat) (s : Nat) (q : Nat × Nat), j < i → R[j]? = some x → (asks g x.1)[s]? = some q → ∃ y ∈ R, y.1 = q ∧ cd y.2 ≤ 2 * cd x.2 + s
theorem RowOk.start {g : Graph} {p0 : Nat × Nat} (h : inP g.length p0) : RowOk g p0 0 2 [(p0, [])] where
  first := rfl
  nd := by simp
  inn := fun x hx => by rw [List.mem_singleton.mp hx]; exact h
  path := fun x hx => by rw [List.mem_singleton.mp hx]; rfl
  rise := fun j k x y hjk e1 e2 => by
    have := (List.getElem?_eq_some_iff.mp e2).1
    simp at this
    omega
  low := fun x hx => by rw [List.mem_singleton.mp hx]; exact (by decide : cd [] < 2)
  shrt := fun j x e => by
    cases j with
    | zero => have := Option.some.inj e; subst this; exact Nat.le_refl _
    | succ j => simp at e
  clos := fun j x s q hj => absurd hj (Nat.not_lt_zero _)
theorem RowOk.limit {g : Graph} {p0 : Nat × Nat} {i lim lim' : Nat} {R : WRow} (h : RowOk g p0 i lim R) (hl : lim ≤ lim') : RowOk g p0 i lim' R :=
  ⟨h.first, h.nd, h.inn, h.path, h.rise, fun x hx => Nat.lt_of_lt_of_le (h.low x hx) hl, h.shrt, h.clos⟩
/-- one more pair asked for -/
theorem RowOk.add {g : Graph} {p0 : Nat × Nat} {i : Nat} {R : WRow} {x : (Nat × Nat) × List Nat} {s : Nat} {q : Nat × Nat} (hok : graphOk g = true) (hx : R[i]? = some x) (hq : (asks g x.1)[s]? = some q) (h : RowOk g p0 i (2 * cd x.2 + s) R) :
    RowOk g p0 i (2 * cd x.2 + s + 1) (addW x.2 R (q, s)) ∧ (addW x.2 R (q, s))[i]? = some x ∧ ∃ y ∈ addW x.2 R (q, s), y.1 = q ∧ cd y.2 ≤ 2 * cd x.2 + s := by
  have hxm : x ∈ R := List.mem_of_getElem? hx
  unfold addW
  cases hc : (R.map (·.1)).contains q with
  | true =>
    rw [if_pos rfl]
    refine ⟨h.limit (Nat.le_succ _), hx, ?_⟩
    have hm : q ∈ R.map (·.1) := by simpa using hc
    obtain ⟨y, hy, e⟩ := List.mem_map.mp hm
    exact ⟨y, hy, e, Nat.le_of_lt (h.low y hy)⟩
  | false =>
    rw [if_neg (by decide)]
    have hm : q ∉ R.map (·.1) := by simpa using hc
    have hi : i < R.length := (List.getElem?_eq_some_iff.mp hx).1
    have hlt : ∀ (j : Nat) z, R[j]? = some z → (R ++ [(q, x.2 ++ [s])])[j]? = some z := fun j z e => by
      rw [List.getElem?_append_left (List.getElem?_eq_some_iff.mp e).1]
      exact e
    have hinv : ∀ (j : Nat) z, (R ++ [(q, x.2 ++ [s])])[j]? = some z → R[j]? = some z ∨ (j = R.length ∧ z = (q, x.2 ++ [s])) := fun j z e => by
      by_cases hj : j < R.length
      · rw [List.getElem?_append_left hj] at e
        exact .inl e
      · rw [List.getElem?_append_right (by omega)] at e
        have h0 : j - R.length = 0 := by
          have := (List.getElem?_eq_some_iff.mp e).1
          simp at this
          omega
        rw [h0] at e
        exact .inr ⟨by omega, (Option.some.inj e).symm⟩
    have hcd : cd (x.2 ++ [s]) = 2 * cd x.2 + s := cd_snoc _ _
    refine ⟨⟨hlt 0 _ h.first, ?_, ?_, ?_, ?_, ?_, ?_, ?_⟩, hlt i x hx, ⟨_, List.mem_append_right _ List.mem_cons_self, rfl, Nat.le_of_eq hcd⟩⟩
    · rw [List.map_append]
      refine List.nodup_append.mpr ⟨h.nd, by simp, fun a ha b hb e => ?_⟩
      rw [List.map_cons, List.map_nil, List.mem_singleton] at hb
      subst e
      subst hb
      exact hm ha
    · intro y hy
      rcases List.mem_append.mp hy with hy | hy
      · exact h.inn y hy
      · rw [List.mem_singleton.mp hy]
        exact asks_in hok (h.inn x hxm) (List.mem_of_getElem? hq)
    · intro y hy
      rcases List.mem_append.mp hy with hy | hy
      · exact h.path y hy
      · rw [List.mem_singleton.mp hy]
        show go g p0 (x.2 ++ [s]) = some q
        rw [go_snoc, h.path x hxm]
        exact hq
    · intro j k y z hjk e1 e2
      have hj : R[j]? = some y := by
        rcases hinv j y e1 with e1 | ⟨e1, _⟩
        · exact e1
        · have := (List.getElem?_eq_some_iff.mp e2).1
          rw [List.length_append, List.length_singleton] at this
          omega
      rcases hinv k z e2 with e2 | ⟨_, e2⟩
      · exact h.rise j k y z hjk hj e2
      · rw [e2]
        show cd y.2 < cd (x.2 ++ [s])
        rw [hcd]
        exact h.low y (List.mem_of_getElem? hj)
    · intro y hy
      rcases List.mem_append.mp hy with hy | hy
      · have := h.low y hy
        omega
      · rw [List.mem_singleton.mp hy]
        show cd (x.2 ++ [s]) < _
        omega
    · intro j y e
      rcases hinv j y e with e | ⟨e, ey⟩
      · exact h.shrt j y e
      · rw [ey, e]
        show (x.2 ++ [s]).length ≤ R.length
        rw [List.length_append, List.length_singleton]
        have := h.shrt i x hx
        omega
    · intro j y t r hj e1 e2
      have e1 : R[j]? = some y := by
        rcases hinv j y e1 with e1 | ⟨e1, _⟩
        · exact e1
        · omega
      obtain ⟨z, hz, h1, h2⟩ := h.clos j y t r hj e1 e2
      exact ⟨z, List.mem_append_left _ hz, h1, h2⟩
theorem addW_mem {w : List Nat} {R : WRow} {x : (Nat × Nat) × Nat} {y : (Nat × Nat) × List Nat} (h : y ∈ R) : y ∈ addW w R x := by
  unfold addW
  split
  · exact h
  · exact List.mem_append_left _ h
/-- a whole turn -/
theorem RowOk.turn {g : Graph} {p0 : Nat × Nat} {i : Nat} {R : WRow} {x : (Nat × Nat) × List Nat} (hok : graphOk g = true) (hx : R[i]? = some x) (h : RowOk g p0 i (2 * cd x.2) R) :
    RowOk g p0 (i + 1) (2 * cd x.2 + 2) (turnW g R x.1 x.2) := by
  have close : ∀ (R' : WRow) (lim : Nat), RowOk g p0 i lim R' → R'[i]? = some x → lim ≤ 2 * cd x.2 + 2 → (∀ (s : Nat) q, (asks g x.1)[s]? = some q → ∃ y ∈ R', y.1 = q ∧ cd y.2 ≤ 2 * cd x.2 + s) → RowOk g p0 (i + 1) (2 * cd x.2 + 2) R' := fun R' lim hR hx' hl hc =>
    ⟨hR.first, hR.nd, hR.inn, hR.path, hR.rise, (hR.limit hl).low, hR.shrt, fun j y s q hj e1 e2 => by
        by_cases hji : j < i
        · exact hR.clos j y s q hji e1 e2
        · have : j = i := by omega
          subst this
          rw [hx'] at e1
          have e1 := Option.some.inj e1
          subst e1
          exact hc s q e2⟩
  unfold turnW
  have hs := asks_short g x.1
  cases ha : asks g x.1 with
  | nil =>
    show RowOk g p0 (i + 1) (2 * cd x.2 + 2) R
    exact close R _ h hx (by omega) fun s q e => by rw [ha] at e; simp at e
  | cons q1 l =>
    cases l with
    | nil =>
      show RowOk g p0 (i + 1) (2 * cd x.2 + 2) (addW x.2 R (q1, 0))
      have e0 : (asks g x.1)[0]? = some q1 := by rw [ha]; rfl
      obtain ⟨h1, h2, h3⟩ := RowOk.add (s := 0) hok hx e0 h
      refine close _ _ h1 h2 (by omega) fun s q e => ?_
      rw [ha] at e
      cases s with
      | zero => have := Option.some.inj e; subst this; exact h3
      | succ s => simp at e
    | cons q2 l =>
      have hl : l = [] := by
        rw [ha] at hs
        simp only [List.length_cons] at hs
        exact List.length_eq_zero_iff.mp (by omega)
      subst hl
      show RowOk g p0 (i + 1) (2 * cd x.2 + 2) (addW x.2 (addW x.2 R (q1, 0)) (q2, 1))
      have e0 : (asks g x.1)[0]? = some q1 := by rw [ha]; rfl
      have e1 : (asks g x.1)[1]? = some q2 := by rw [ha]; rfl
      obtain ⟨h1, h2, h3⟩ := RowOk.add (s := 0) hok hx e0 h
      obtain ⟨k1, k2, k3⟩ := RowOk.add (s := 1) hok h2 e1 h1
      refine close _ _ k1 k2 (by omega) fun s q e => ?_
      rw [ha] at e
      cases s with
      | zero =>
        have := Option.some.inj e
        subst this
        obtain ⟨y, hy, r⟩ := h3
        exact ⟨y, addW_mem hy, r⟩
      | succ s =>
        cases s with
        | zero => have := Option.some.inj e; subst this; exact k3
        | succ s => simp at e
theorem RowOk.len {g : Graph} {p0 : Nat × Nat} {i lim : Nat} {R : WRow} (h : RowOk g p0 i lim R) : R.length ≤ g.length * g.length := by
  have := pairs_le g.length (R.map (·.1)) h.nd fun x hx => by
    obtain ⟨y, hy, e⟩ := List.mem_map.mp hx
    rw [← e]
    exact h.inn y hy
  rw [List.length_map] at this
  exact this
/-- ready for the next -/
theorem RowOk.next {g : Graph} {p0 : Nat × Nat} {i : Nat} {R : WRow} {x y : (Nat × Nat) × List Nat} (hx : R[i]? = some x) (h : RowOk g p0 (i + 1) (2 * cd x.2 + 2) R) (hy : R[i + 1]? = some y) : RowOk g p0 (i + 1) (2 * cd y.2) R := by
  have := h.rise i (i + 1) x y (Nat.lt_succ_self _) hx hy
  exact h.limit (by omega)
/-- what holds before each turn -/
structure RowAt (g : Graph) (p0 : Nat × Nat) (i : Nat) (R : WRow) : Prop where
  some_ : ∃ lim, RowOk g p0 i lim R
  now : ∀ x, R[i]? = some x → RowOk g p0 i (2 * cd x.2) R
theorem RowAt.start {g : Graph} {p0 : Nat × Nat} (h : inP g.length p0) : RowAt g p0 0 [(p0, [])] := ⟨⟨2, .start h⟩, fun x hx => by
  have := Option.some.inj hx
  subst this
  exact .start h⟩
theorem turn_keeps (g : Graph) (R : WRow) (p : Nat × Nat) (w : List Nat) {j : Nat} {x : (Nat × Nat) × List Nat} (h : R[j]? = some x) : (turnW g R p w)[j]? = some x := by
  unfold turnW
  have : ∀ (l : List ((Nat × Nat) × Nat)) (R : WRow), R[j]? = some x → (l.foldl (addW w) R)[j]? = some x := by
    intro l
    induction l with
    | nil => intro R h; exact h
    | cons a l ih =>
      intro R h
      rw [List.foldl_cons]
      refine ih _ ?_
      unfold addW
      split
      · exact h
      · rw [List.getElem?_append_left (List.getElem?_eq_some_iff.mp h).1]
        exact h
  exact this _ R h
theorem RowAt.turn {g : Graph} {p0 : Nat × Nat} {i : Nat} {R : WRow} {x : (Nat × Nat) × List Nat} (hok : graphOk g = true) (h : RowAt g p0 i R) (hx : R[i]? = some x) : RowAt g p0 (i + 1) (turnW g R x.1 x.2) := by
  have h1 := (h.now x hx).turn hok hx
  exact ⟨⟨_, h1⟩, fun y hy => h1.next (turn_keeps g R x.1 x.2 hx) hy⟩
theorem RowAt.len {g : Graph} {p0 : Nat × Nat} {i : Nat} {R : WRow} (h : RowAt g p0 i R) : R.length ≤ g.length * g.length := let ⟨_, k⟩ := h.some_; k.len
/-- the whole walk -/
def allW (g : Graph) (p0 : Nat × Nat) : WRow := bfs g (g.length * g.length + 1) 0 [(p0, [])]
theorem bfs_ends {g : Graph} {p0 : Nat × Nat} (hok : graphOk g = true) : ∀ (f i : Nat) (R : WRow), f + i = g.length * g.length + 1 → RowAt g p0 i R → ∃ n, RowAt g p0 n (bfs g f i R) ∧ (bfs g f i R).length ≤ n
  | 0, i, R, hf, h => ⟨i, h, by have := h.len; show R.length ≤ i; omega⟩
  | f + 1, i, R, hf, h => by
    show ∃ n, RowAt g p0 n (match R[i]? with
      | none => R
      | some x => bfs g f (i + 1) (turnW g R x.1 x.2)) ∧ (match R[i]? with
      | none => R
      | some x => bfs g f (i + 1) (turnW g R x.1 x.2)).length ≤ n
    cases e : R[i]? with
    | none => exact ⟨i, h, List.getElem?_eq_none_iff.mp e⟩
    | some x => exact bfs_ends hok f (i + 1) _ (by omega) (h.turn hok e)
theorem allW_ok {g : Graph} {p0 : Nat × Nat} (hok : graphOk g = true) (hp : inP g.length p0) : ∃ n lim, RowOk g p0 n lim (allW g p0) ∧ (allW g p0).length ≤ n := by
  obtain ⟨n, h, hl⟩ := bfs_ends hok (g.length * g.length + 1) 0 [(p0, [])] (by omega) (.start hp)
  obtain ⟨lim, k⟩ := h.some_
  exact ⟨n, lim, k, hl⟩
theorem proof_eq (g : Graph) (i j : Nat) : proof g i j = (allW g (i, j)).map (·.1) := (bfs_pairs g _ 0 [((i, j), [])]).symm
/-- to each pair that some steps lead to there is a way that is not behind these -/
theorem reach_first {g : Graph} {p0 : Nat × Nat} {n lim : Nat} {R : WRow} (h : RowOk g p0 n lim R) (hn : R.length ≤ n) : ∀ (k : Nat) (u : List Nat) (q : Nat × Nat), u.length ≤ k → go g p0 u = some q → ∃ y ∈ R, y.1 = q ∧ cd y.2 ≤ cd u
  | k, u, q, hk, hu => by
    rcases List.eq_nil_or_concat u with rfl | ⟨u', s, rfl⟩
    · have : p0 = q := Option.some.inj hu
      subst this
      exact ⟨_, List.mem_of_getElem? h.first, rfl, Nat.le_refl _⟩
    · rw [List.concat_eq_append] at *
      rw [go_snoc] at hu
      cases e : go g p0 u' with
      | none => rw [e] at hu; cases hu
      | some r =>
        rw [e] at hu
        have hu : (asks g r)[s]? = some q := hu
        cases k with
        | zero => simp at hk
        | succ k =>
          obtain ⟨y, hy, e1, e2⟩ := reach_first h hn k u' r (by simp at hk; omega) e
          obtain ⟨j, hj⟩ := List.getElem?_of_mem hy
          have hjl := (List.getElem?_eq_some_iff.mp hj).1
          obtain ⟨z, hz, f1, f2⟩ := h.clos j y s q (by omega) hj (by rw [e1]; exact hu)
          refine ⟨z, hz, f1, ?_⟩
          rw [cd_snoc]
          omega
/-- the first that fails -/
def firstF (g : Graph) (p0 : Nat × Nat) : Option (List Nat) := ((allW g p0).find? fun x => failsB g x.1).map (·.2)
theorem find_first {α : Type} {f : α → Bool} : ∀ {l : List α} {x : α}, l.find? f = some x → ∃ i, l[i]? = some x ∧ f x = true ∧ ∀ (j : Nat) y, l[j]? = some y → f y = true → i ≤ j
  | [], x, h => by cases h
  | a :: l, x, h => by
    rw [List.find?_cons] at h
    cases hf : f a with
    | true =>
      rw [hf] at h
      have := Option.some.inj h
      subst this
      exact ⟨0, rfl, hf, fun j y _ _ => Nat.zero_le _⟩
    | false =>
      rw [hf] at h
      obtain ⟨i, h1, h2, h3⟩ := find_first h
      refine ⟨i + 1, by simpa using h1, h2, fun j y hj hy => ?_⟩
      cases j with
      | zero => have := Option.some.inj hj; subst this; rw [hf] at hy; cases hy
      | succ j => exact Nat.succ_le_succ (h3 j y (by simpa using hj) hy)
theorem firstF_none {g : Graph} {p0 : Nat × Nat} (hok : graphOk g = true) (hp : inP g.length p0) (h : firstF g p0 = none) (u : List Nat) : ¬ FW g p0 u := by
  rintro ⟨q, h1, h2⟩
  obtain ⟨n, lim, k, hl⟩ := allW_ok hok hp
  obtain ⟨y, hy, e1, _⟩ := reach_first k hl _ u q (Nat.le_refl _) h1
  unfold firstF at h
  rw [Option.map_eq_none_iff] at h
  have := List.find?_eq_none.mp h y hy
  rw [e1, h2] at this
  exact this rfl
theorem firstF_some {g : Graph} {p0 : Nat × Nat} {w : List Nat} (hok : graphOk g = true) (hp : inP g.length p0) (h : firstF g p0 = some w) : FW g p0 w ∧ w.length < g.length * g.length ∧ ∀ u, FW g p0 u → cd w ≤ cd u := by
  obtain ⟨n, lim, k, hl⟩ := allW_ok hok hp
  unfold firstF at h
  obtain ⟨x, hx, rfl⟩ := Option.map_eq_some_iff.mp h
  obtain ⟨i, h1, h2, h3⟩ := find_first hx
  have hi := (List.getElem?_eq_some_iff.mp h1).1
  refine ⟨⟨x.1, k.path x (List.mem_of_getElem? h1), h2⟩, ?_, fun u ⟨q, f1, f2⟩ => ?_⟩
  · have := k.shrt i x h1
    have := k.len
    omega
  · obtain ⟨y, hy, e1, e2⟩ := reach_first k hl _ u q (Nat.le_refl _) f1
    obtain ⟨j, hj⟩ := List.getElem?_of_mem hy
    have hij := h3 j y hj (by rw [e1]; exact f2)
    by_cases e : i = j
    · subst e
      rw [h1] at hj
      have := Option.some.inj hj
      subst this
      exact e2
    · have := k.rise i j x y (by omega) h1 hj
      omega
end Rt
namespace Rt
open Krk0
/-- it fails within so many steps -/
def Fk (g : Graph) : Nat → Nat × Nat → Bool
  | 0, _ => false
  | k + 1, p => failsB g p || (asks g p).any (Fk g k)
theorem Fk_up (g : Graph) : ∀ (k : Nat) (p : Nat × Nat), Fk g k p = true → Fk g (k + 1) p = true
  | 0, _, h => by cases h
  | k + 1, p, h => by
    have h' : (failsB g p || (asks g p).any (Fk g k)) = true := h
    show (failsB g p || (asks g p).any (Fk g (k + 1))) = true
    rw [Bool.or_eq_true] at h' ⊢
    refine h'.imp_right fun h2 => ?_
    obtain ⟨q, hq, e⟩ := List.any_eq_true.mp h2
    exact List.any_eq_true.mpr ⟨q, hq, Fk_up g k q e⟩
theorem Fk_mono (g : Graph) {j k : Nat} (h : j ≤ k) (p : Nat × Nat) (e : Fk g j p = true) : Fk g k p = true := by
  induction h with
  | refl => exact e
  | step _ ih => exact Fk_up g _ p ih
theorem Fk_of_FW {g : Graph} : ∀ (w : List Nat) (p : Nat × Nat), FW g p w → Fk g (w.length + 1) p = true
  | [], p, ⟨q, h1, h2⟩ => by
    have := Option.some.inj h1
    subst this
    show (failsB g p || _) = true
    rw [h2, Bool.true_or]
  | s :: w, p, h => by
    obtain ⟨q, e, h2⟩ := FW_cons.mp h
    show (failsB g p || (asks g p).any (Fk g (w.length + 1))) = true
    rw [Bool.or_eq_true]
    exact .inr (List.any_eq_true.mpr ⟨q, List.mem_of_getElem? e, Fk_of_FW w q h2⟩)
/-! ### the table -/
def tab (g : Graph) : Nat → List (List Nat)
  | 0 => g.map fun _ => g.map fun _ => 0
  | k + 1 => round g (k + 1) (tab g k)
def Shape (n : Nat) (l : List (List Nat)) : Prop := l.length = n ∧ ∀ r ∈ l, r.length = n
theorem round_shape {g : Graph} {k : Nat} {l : List (List Nat)} (h : Shape g.length l) : Shape g.length (round g k l) := by
  refine ⟨?_, fun r hr => ?_⟩
  · unfold round
    rw [List.length_map, List.length_zip, h.1]
    exact Nat.min_self _
  · unfold round at hr
    obtain ⟨x, hx, rfl⟩ := List.mem_map.mp hr
    rw [List.length_map, List.length_zip, h.2 x.2 (List.of_mem_zip hx).2]
    exact Nat.min_self _
theorem tab_shape (g : Graph) : ∀ k, Shape g.length (tab g k)
  | 0 => ⟨by unfold tab; rw [List.length_map], fun r hr => by
    obtain ⟨x, _, rfl⟩ := List.mem_map.mp hr
    rw [List.length_map]⟩
  | k + 1 => round_shape (tab_shape g k)
theorem ranked_get {l : List (List Nat)} {p : Nat × Nat} {r : List Nat} {v : Nat} (h1 : l[p.1]? = some r) (h2 : r[p.2]? = some v) : ranked l p = v := by
  have e : l.getD p.1 [] = r := by
    rw [List.getD_eq_getElem?_getD, h1]
    rfl
  unfold ranked
  rw [e, List.getD_eq_getElem?_getD, h2]
  rfl
theorem ranked_at {n : Nat} {l : List (List Nat)} (h : Shape n l) {p : Nat × Nat} (hp : inP n p) : ∃ r, l[p.1]? = some r ∧ r[p.2]? = some (ranked l p) := by
  obtain ⟨h1, h2⟩ := hp
  have e1 : l[p.1]? = some (l[p.1]'(by rw [h.1]; exact h1)) := List.getElem?_eq_getElem _
  have hl := h.2 _ (List.mem_of_getElem? e1)
  have e2 : (l[p.1]'(by rw [h.1]; exact h1))[p.2]? = some ((l[p.1]'(by rw [h.1]; exact h1))[p.2]'(by rw [hl]; exact h2)) := List.getElem?_eq_getElem _
  refine ⟨_, e1, ?_⟩
  rw [ranked_get e1 e2]
  exact e2
theorem round_ranked {g : Graph} {k : Nat} {l : List (List Nat)} (h : Shape g.length l) {p : Nat × Nat} (hp : inP g.length p) :
    ranked (round g k l) p = if ranked l p ≠ 0 then ranked l p else match wants (at_ g p.1) (at_ g p.2) with
      | none => k
      | some w => if w.any (fun p => ranked l p != 0) = true then k else 0 := by
  obtain ⟨r, e1, e2⟩ := ranked_at h hp
  have z1 : (g.zip l)[p.1]? = some (at_ g p.1, r) := List.getElem?_zip_eq_some.mpr ⟨get_at hp.1, e1⟩
  have z2 : (g.zip r)[p.2]? = some (at_ g p.2, ranked l p) := List.getElem?_zip_eq_some.mpr ⟨get_at hp.2, e2⟩
  refine ranked_get (r := (g.zip r).map fun s => if s.2 ≠ 0 then s.2 else match wants (at_ g p.1) s.1 with
    | none => k
    | some w => if w.any fun p => ranked l p != 0 then k else 0) ?_ ?_
  · unfold round
    rw [List.getElem?_map, z1]
    rfl
  · rw [List.getElem?_map, z2]
    rfl
theorem tab0_ranked (g : Graph) {p : Nat × Nat} (hp : inP g.length p) : ranked (tab g 0) p = 0 := by
  refine ranked_get (r := g.map fun _ => 0) ?_ ?_
  · show (g.map fun _ => g.map fun _ => 0)[p.1]? = _
    rw [List.getElem?_map, get_at hp.1]
    rfl
  · rw [List.getElem?_map, get_at hp.2]
    rfl
theorem none_fails {g : Graph} {p : Nat × Nat} (h : wants (at_ g p.1) (at_ g p.2) = none) : failsB g p = true := by
  cases hf : failsB g p with
  | true => rfl
  | false => rw [fails_some hf] at h; cases h
theorem tab_rank {g : Graph} (hok : graphOk g = true) : ∀ (k : Nat) (p : Nat × Nat), inP g.length p → (ranked (tab g k) p ≠ 0 ↔ Fk g k p = true) ∧ (ranked (tab g k) p ≠ 0 → ranked (tab g k) p ≤ k ∧ Fk g (ranked (tab g k) p) p = true ∧ Fk g (ranked (tab g k) p - 1) p = false)
  | 0, p, hp => by
    rw [tab0_ranked g hp]
    exact ⟨⟨fun h => absurd rfl h, fun h => by cases h⟩, fun h => absurd rfl h⟩
  | k + 1, p, hp => by
    obtain ⟨ih1, ih2⟩ := tab_rank hok k p hp
    have e : ranked (tab g (k + 1)) p = _ := round_ranked (k := k + 1) (tab_shape g k) hp
    by_cases h0 : ranked (tab g k) p ≠ 0
    · rw [if_pos h0] at e
      rw [e]
      obtain ⟨a, b, c⟩ := ih2 h0
      exact ⟨⟨fun _ => Fk_up g k p (ih1.mp h0), fun _ => h0⟩, fun _ => ⟨by omega, b, c⟩⟩
    · rw [if_neg h0] at e
      have hF : Fk g k p = false := by
        cases hF : Fk g k p with
        | false => rfl
        | true => exact absurd (ih1.mpr hF) h0
      have eF : Fk g (k + 1) p = (failsB g p || (asks g p).any (Fk g k)) := rfl
      cases hf : failsB g p with
      | true =>
        rw [fails_none hf] at e
        have e : ranked (tab g (k + 1)) p = k + 1 := e
        have hT : Fk g (k + 1) p = true := by rw [eF, hf, Bool.true_or]
        rw [e]
        exact ⟨⟨fun _ => hT, fun _ => by omega⟩, fun _ => ⟨Nat.le_refl _, hT, hF⟩⟩
      | false =>
        rw [fails_some hf] at e
        have e : ranked (tab g (k + 1)) p = if (asks g p).any (fun p => ranked (tab g k) p != 0) = true then k + 1 else 0 := e
        have ea : (asks g p).any (fun p => ranked (tab g k) p != 0) = (asks g p).any (Fk g k) := by
          rw [Bool.eq_iff_iff, List.any_eq_true, List.any_eq_true]
          constructor
          · rintro ⟨q, hq, h⟩
            exact ⟨q, hq, (tab_rank hok k q (asks_in hok hp hq)).1.mp (by simpa using h)⟩
          · rintro ⟨q, hq, h⟩
            exact ⟨q, hq, by simpa using (tab_rank hok k q (asks_in hok hp hq)).1.mpr h⟩
        rw [ea] at e
        rw [hf, Bool.false_or] at eF
        cases ha : (asks g p).any (Fk g k) with
        | true =>
          rw [ha, if_pos rfl] at e
          rw [ha] at eF
          rw [e]
          exact ⟨⟨fun _ => eF, fun _ => by omega⟩, fun _ => ⟨Nat.le_refl _, eF, hF⟩⟩
        | false =>
          rw [ha, if_neg (by decide)] at e
          rw [ha] at eF
          rw [e]
          exact ⟨⟨fun h => absurd rfl h, fun h => by rw [eF] at h; cases h⟩, fun h => absurd rfl h⟩
theorem rounds_tab (g : Graph) : ∀ (f k : Nat), ∃ K, rounds g f (k + 1) (tab g k) = tab g K ∧ k ≤ K ∧ K ≤ k + f ∧ (K = k + f ∨ tab g (K + 1) = tab g K)
  | 0, k => ⟨k, rfl, Nat.le_refl _, Nat.le_refl _, .inl rfl⟩
  | f + 1, k => by
    by_cases h : round g (k + 1) (tab g k) = tab g k
    · refine ⟨k, ?_, Nat.le_refl _, by omega, .inr h⟩
      show (if round g (k + 1) (tab g k) = tab g k then tab g k else _) = _
      rw [if_pos h]
    · obtain ⟨K, h1, h2, h3, h4⟩ := rounds_tab g f (k + 1)
      refine ⟨K, ?_, by omega, by omega, h4.imp_left fun e => by omega⟩
      show (if round g (k + 1) (tab g k) = tab g k then tab g k else rounds g f (k + 1 + 1) (round g (k + 1) (tab g k))) = _
      rw [if_neg h]
      exact h1
theorem Fk_stable {g : Graph} (hok : graphOk g = true) {K : Nat} (h : tab g (K + 1) = tab g K) : ∀ (j : Nat) (p : Nat × Nat), inP g.length p → Fk g (K + j) p = Fk g K p
  | 0, p, _ => rfl
  | j + 1, p, hp => by
    have e1 : Fk g (K + 1) p = Fk g K p := by
      rw [Bool.eq_iff_iff, ← (tab_rank hok (K + 1) p hp).1, ← (tab_rank hok K p hp).1, h]
    rw [← e1]
    show (failsB g p || (asks g p).any (Fk g (K + j))) = (failsB g p || (asks g p).any (Fk g K))
    congr 1
    rw [Bool.eq_iff_iff, List.any_eq_true, List.any_eq_true]
    constructor
    · rintro ⟨q, hq, hh⟩
      exact ⟨q, hq, by rw [← Fk_stable hok h j q (asks_in hok hp hq)]; exact hh⟩
    · rintro ⟨q, hq, hh⟩
      exact ⟨q, hq, by rw [Fk_stable hok h j q (asks_in hok hp hq)]; exact hh⟩
/-- what the table tells -/
theorem table_rank {g : Graph} (hok : graphOk g = true) {p : Nat × Nat} (hp : inP g.length p) :
    (ranked (table g) p ≠ 0 → ranked (table g) p ≤ g.length * g.length + 1 ∧ Fk g (ranked (table g) p) p = true ∧ Fk g (ranked (table g) p - 1) p = false) ∧
    (∀ k, k ≤ g.length * g.length + 1 → Fk g k p = true → ranked (table g) p ≠ 0 ∧ ranked (table g) p ≤ k) := by
  obtain ⟨K, h1, _, h3, h4⟩ := rounds_tab g (g.length * g.length + 1) 0
  have e : table g = tab g K := h1
  obtain ⟨a, b⟩ := tab_rank hok K p hp
  rw [e]
  refine ⟨fun h => ⟨by have := (b h).1; omega, (b h).2⟩, fun k hk hF => ?_⟩
  have hne : ranked (tab g K) p ≠ 0 := by
    refine a.mpr ?_
    rcases h4 with h4 | h4
    · exact Fk_mono g (by omega) p hF
    · by_cases hkK : k ≤ K
      · exact Fk_mono g hkK p hF
      · rw [← Fk_stable hok h4 (k - K) p hp, show K + (k - K) = k by omega]
        exact hF
  refine ⟨hne, ?_⟩
  obtain ⟨_, _, c⟩ := b hne
  by_cases hlt : k ≤ ranked (tab g K) p - 1
  · rw [Fk_mono g hlt p hF] at c
    cases c
  · omega
/-- the way that the table tells: on it it fails, and it's the first -/
theorem way_first {g : Graph} (hok : graphOk g = true) : ∀ (k f : Nat) (p : Nat × Nat), inP g.length p → ranked (table g) p = k + 1 → k + 1 ≤ f → FW g p (way g (table g) f p) ∧ (way g (table g) f p).length = k ∧ ∀ u, FW g p u → cd (way g (table g) f p) ≤ cd u
  | k, 0, p, _, _, hf => by omega
  | k, f + 1, p, hp, hr, hf => by
    obtain ⟨t1, t2⟩ := table_rank hok hp
    obtain ⟨u1, u2, u3⟩ := t1 (by rw [hr]; omega)
    rw [hr] at u1 u2 u3
    have ew : way g (table g) (f + 1) p = (match wants (at_ g p.1) (at_ g p.2) with
      | none => []
      | some w => match w.findIdx? fun q => ranked (table g) q != 0 && decide (ranked (table g) q < ranked (table g) p) with
        | some n => n :: way g (table g) f (w.getD n (0, 0))
        | none => []) := rfl
    cases hfl : failsB g p with
    | true =>
      rw [fails_none hfl] at ew
      have ew : way g (table g) (f + 1) p = [] := ew
      rw [ew]
      have hk : k = 0 := by
        cases k with
        | zero => rfl
        | succ k =>
          have : Fk g (k + 1 + 1 - 1) p = true := by
            show (failsB g p || _) = true
            rw [hfl, Bool.true_or]
          rw [this] at u3
          cases u3
      exact ⟨⟨p, rfl, hfl⟩, hk.symm, fun u _ => by
        have := cd_low u
        have h2 := Nat.two_pow_pos u.length
        have h1 : cd [] = 1 := rfl
        omega⟩
    | false =>
      rw [fails_some hfl] at ew
      have hany : (asks g p).any (Fk g k) = true := by
        have : (failsB g p || (asks g p).any (Fk g k)) = true := u2
        rw [hfl, Bool.false_or] at this
        exact this
      -- a child that is asked for fails within k
      have child : ∀ q, q ∈ asks g p → (ranked (table g) q ≠ 0 ∧ ranked (table g) q < k + 1 ↔ Fk g k q = true) ∧ (ranked (table g) q ≠ 0 → ranked (table g) q < k + 1 → ranked (table g) q = k) := by
        intro q hq
        have hqi := asks_in hok hp hq
        obtain ⟨v1, v2⟩ := table_rank hok hqi
        have key : ranked (table g) q ≠ 0 → ranked (table g) q < k + 1 → ranked (table g) q = k := fun h1 h2 => by
          obtain ⟨w1, w2, w3⟩ := v1 h1
          have hF : Fk g (ranked (table g) q + 1) p = true := by
            show (failsB g p || (asks g p).any (Fk g (ranked (table g) q))) = true
            rw [Bool.or_eq_true]
            exact .inr (List.any_eq_true.mpr ⟨q, hq, w2⟩)
          by_cases h3 : ranked (table g) q + 1 ≤ k
          · have := Fk_mono g h3 p hF
            rw [show k + 1 - 1 = k by omega] at u3
            rw [this] at u3
            cases u3
          · omega
        refine ⟨⟨fun ⟨h1, h2⟩ => ?_, fun h => ?_⟩, key⟩
        · have := (v1 h1).2.1
          rw [key h1 h2] at this
          exact this
        · obtain ⟨h1, h2⟩ := v2 k (by omega) h
          exact ⟨h1, by omega⟩
      cases hidx : (asks g p).findIdx? (fun q => ranked (table g) q != 0 && decide (ranked (table g) q < ranked (table g) p)) with
      | none =>
        exfalso
        obtain ⟨q, hq, hF⟩ := List.any_eq_true.mp hany
        have := List.findIdx?_eq_none_iff.mp hidx q hq
        obtain ⟨h1, h2⟩ := (child q hq).1.mpr hF
        rw [hr] at this
        simp [h1, h2] at this
      | some n =>
        have ew : way g (table g) (f + 1) p = n :: way g (table g) f ((asks g p).getD n (0, 0)) := by
          rw [ew]
          show (match (asks g p).findIdx? (fun q => ranked (table g) q != 0 && decide (ranked (table g) q < ranked (table g) p)) with
            | some n => n :: way g (table g) f ((asks g p).getD n (0, 0))
            | none => []) = _
          rw [hidx]
        obtain ⟨hn, hpn, hbe⟩ := List.findIdx?_eq_some_iff_getElem.mp hidx
        have eq : (asks g p)[n]? = some (asks g p)[n] := List.getElem?_eq_getElem hn
        have eD : (asks g p).getD n (0, 0) = (asks g p)[n] := by
          rw [List.getD_eq_getElem?_getD, eq]
          rfl
        rw [eD] at ew
        have hq : (asks g p)[n] ∈ asks g p := List.getElem_mem hn
        generalize hqq : (asks g p)[n] = q at eq ew hq hpn
        rw [hr, Bool.and_eq_true] at hpn
        have hrq : ranked (table g) q = k := (child q hq).2 (by simpa using hpn.1) (by simpa using hpn.2)
        cases k with
        | zero => exfalso; rw [hrq] at hpn; simp at hpn
        | succ k =>
          obtain ⟨ih1, ih2, ih3⟩ := way_first hok k f q (asks_in hok hp hq) hrq (by omega)
          generalize way g (table g) f q = wq at ew ih1 ih2 ih3
          rw [ew]
          refine ⟨FW_cons.mpr ⟨q, eq, ih1⟩, by rw [List.length_cons, ih2], fun u hu => ?_⟩
          have hlen : k + 1 ≤ u.length := by
            have := Fk_of_FW u p hu
            by_cases h : u.length + 1 ≤ k + 1 + 1 - 1
            · rw [Fk_mono g h p this] at u3
              cases u3
            · omega
          have hb : ∀ s ∈ n :: wq, s < 2 := by
            obtain ⟨r, e1, _⟩ := FW_cons.mpr ⟨q, eq, ih1⟩
            exact go_bits g _ p r e1
          by_cases hlt : k + 1 < u.length
          · have h1 := cd_high (n :: wq) hb
            rw [List.length_cons, ih2] at h1
            have h2 := cd_low u
            have h3 : 2 ^ (k + 1 + 1) ≤ 2 ^ u.length := Nat.pow_le_pow_right (by decide) hlt
            omega
          · have hul : u.length = k + 1 := by omega
            cases u with
            | nil => simp at hul
            | cons s u' =>
              rw [List.length_cons] at hul
              have hul : u'.length = k := by omega
              obtain ⟨r, er, hr2⟩ := FW_cons.mp hu
              have hrm : r ∈ asks g p := List.mem_of_getElem? er
              have hFr : Fk g (k + 1) r = true := by
                have := Fk_of_FW u' r hr2
                rw [hul] at this
                exact this
              obtain ⟨c1, c2⟩ := (child r hrm).1.mpr hFr
              have hns : n ≤ s := by
                by_cases h : s < n
                · exfalso
                  have := hbe s h
                  obtain ⟨hs, es⟩ := List.getElem?_eq_some_iff.mp er
                  rw [es, hr] at this
                  simp [c1, c2] at this
                · omega
              rw [cd_cons, cd_cons, ih2, hul]
              by_cases hne : n = s
              · subst hne
                rw [eq] at er
                have := Option.some.inj er
                subst this
                have := ih3 u' hr2
                omega
              · have hs : n + 1 ≤ s := by omega
                have h1 := cd_high wq fun x hx => hb x (List.mem_cons_of_mem _ hx)
                rw [ih2, Nat.pow_succ] at h1
                have h2 := cd_low u'
                rw [hul] at h2
                have h3 : 2 ^ k * (1 + (n + 1)) ≤ 2 ^ k * (1 + s) := Nat.mul_le_mul_left _ (by omega)
                have h4 : 2 ^ k * (1 + (n + 1)) = 2 ^ k * (1 + n) + 2 ^ k := by rw [show 1 + (n + 1) = (1 + n) + 1 by omega, Nat.mul_add, Nat.mul_one]
                omega
/-- **below**: nothing fails, or the first way on which it does -/
theorem below_firstF {g : Graph} (hok : graphOk g = true) {p : Nat × Nat} (hp : inP g.length p) :
    (firstF g p = none → ranked (table g) p = 0) ∧ ∀ w, firstF g p = some w → ranked (table g) p ≠ 0 ∧ way g (table g) (g.length * g.length + 1) p = w := by
  obtain ⟨t1, t2⟩ := table_rank hok hp
  refine ⟨fun h => ?_, fun w h => ?_⟩
  · by_cases hr : ranked (table g) p = 0
    · exact hr
    · exfalso
      obtain ⟨a, _, _⟩ := t1 hr
      obtain ⟨b, _, _⟩ := way_first hok (ranked (table g) p - 1) (g.length * g.length + 1) p hp (by omega) (by omega)
      exact firstF_none hok hp h _ b
  · obtain ⟨a, b, c⟩ := firstF_some hok hp h
    have hr := (t2 (w.length + 1) (by omega) (Fk_of_FW w p a)).1
    refine ⟨hr, ?_⟩
    obtain ⟨d, _, e⟩ := way_first hok (ranked (table g) p - 1) (g.length * g.length + 1) p hp (by omega) (by have := (t1 hr).1; omega)
    have h1 := c _ d
    have h2 := e _ a
    obtain ⟨r1, f1, _⟩ := d
    obtain ⟨r2, f2, _⟩ := a
    exact cd_inj _ _ _ (Nat.le_refl _) (go_bits g _ p r1 f1) (go_bits g _ p r2 f2) (by omega)
end Rt
namespace PySem
namespace LowX
open PySem.W PySem.Calls PyProof.Rows PySem.HandSPX
/-! ### the text of __init__ -/
def iA (p1 p2 : Pos) : Arguments := { posonlyargs := [], args := [{ arg := "self", annotation := none, pos := p1 }, { arg := "number", annotation := none, pos := p2 }], vararg := none, kwonlyargs := [], kw_defaults := [], kwarg := none, defaults := [] }
def iB (q1 q2 q3 q4 : Pos) : List Stmt := [.Assign [.Attribute (.Name "self" q1) "number" q2] (.Name "number" q3) q4]
def iS : Scope := { kind := .function, names := [(PySem.Str.ofString "self", .local), (PySem.Str.ofString "number", .local)], isGenerator := false, isCoroutine := false, more := [] }
/-- what the written part says of Low, at C, and of its __init__, at fI -/
structure LowTxt (K : Frag) (mg : Str → Option Value) (C fI : Addr) : Prop where
  gC : mg "Refused" = some (.ref C)
  cls : ∃ nm q N bs bm sn sub ab col dd k0 k1 k2 k3 k5, K.lookup C = some (excClassObj nm q C N bs bm true sn sub ab col dd k0 k1 k2 k3 k5 "ValueError.__new__") ∧ refsVE bm = true
  sa : findIn K (.ref C) "__setattr__" = some (some (.builtin "object.__setattr__"))
  ga : findIn K (.ref C) "__getattribute__" = some (some (.builtin "BaseException.__getattribute__"))
  gg : findIn K (.ref C) "__getattr__" = some none
  noN : findIn K (.ref C) "number" = some none
  iC : findIn K (.ref C) "__init__" = some (some (.ref fI))
  tC : typeIn K (.ref fI) = some (.type "function")
  kC : keepIn K (.ref C) = true
  exC : subIn K (.ref C) (.type "BaseException") = some true
  tyC : typeIn K (.ref C) = some (.type "type")
  hdC : hasDictIn K C = true
  te : exmOne K (.ref C) (.ref C) = some true
  fn : ∃ (oc : Value) (od : Option Addr) (doc pm : Value) (an : Option Addr) (cdv ct : Value) (osl : Array (Option Value)) (p1 p2 q1 q2 q3 q4 : Pos),
    K.lookup fI = some ⟨oc, od, .func (fnOf "__init__" "Refused.__init__" (iA p1 p2) (iB q1 q2 q3 q4) iS .none .none doc pm an cdv ct), osl⟩ ∧ codeIn K cdv "Refused.__init__" = true
theorem one_size (v : Value) : [v].length ≤ sizeLine := by
  rw [sizeLine_eq]
  exact (by decide : 1 ≤ 16777216)
theorem kept_but {K : Frag} {h h' : Heap} {x : Addr} (X : K.In h) (hx : K.lookup x = none) (k : ∀ b o, b ≠ x → h.get? b = some o → h'.get? b = some o) : K.In h' := fun a o e =>
  k a o (fun z => by rw [z, hx] at e; cases e) (X a o e)
theorem ldC {M : Model} {s : Shared} {name : Str} {scope : Scope} {L a : Addr} {cd : Value} {m : Str → Option Value} {x : Str} {pos : Pos} {v : Value} {Q : Value → Shared → Prop} {A : Around} {E : Value → Shared → Prop} (hn : s.heap.Ns L m) (hv : m x = some v) (h : Q v s)
    (hk : scope.kind = .function := by rfl) (hl : (envOfC name scope L a cd).kindOf x = some .local := by rfl) (hd : (x == ("__debug__" : Str)) = false := by decide) :
    wpAny M A (eval (.Name x pos) (envOfC name scope L a cd)) Q E s := wpAny_Name (wpAny_loadName_local hk hl hn hv h) hd
/-- what __init__ leaves of a fresh exception at x -/
structure InitEnd (h h' : Heap) (x C dx t1 : Addr) (v : Value) : Prop where
  keep : ∀ b o, b ≠ x → h.get? b = some o → h'.get? b = some o
  obj : h'.get? x = some { cls := .ref C, dict := some dx, data := .fields #[.ref t1, .none, .none, .none, .bool false, .none] }
  dbig : h.objs.size ≤ dx
  dne : dx ≠ x
  ns : h'.Ns1 dx (fun y => if y = "number" then some v else none)
/-- a made Low -/
structure OwnMade (h h' : Heap) (e C d : Addr) (v : Value) : Prop where
  keep : ∀ b o, h.get? b = some o → h'.get? b = some o
  new : h.objs.size ≤ e
  obj : ∃ oe vs, h'.get? e = some oe ∧ oe.cls = .ref C ∧ oe.dict = some d ∧ oe.data = .fields vs ∧ vs[1]? = some .none
  dbig : h.objs.size ≤ d
  dne : d ≠ e
  ns : h'.Ns1 d (fun y => if y = "number" then some v else none)
section
variable {prog : Program} {w : World} {A : Around} {E : Value → Shared → Prop} {R : Result → Shared → Prop} {s : Shared} {K : Frag} {mg : Str → Option Value} {C fI : Addr}
theorem low_init (T : LowTxt K mg C fI) {x t0 : Addr} {v : Value} (X : K.In s.heap) (hlim : s.heap.NoLimit) (hx : s.heap.get? x = some (excO C t0)) (hnx : K.lookup x = none) (hroom : A.depth < recursionLimit)
    (hq : ∀ h' tk dx, InitEnd s.heap h' x C dx t0 v → R (.ok (.ret .none)) { s with heap := h', toks := tk }) :
    codeAny (model prog w) A (.call (.ref fI) ⟨[.ref x, v], []⟩) R s := by
  obtain ⟨oc, od, doc, pm, an, cdv, ct, osl, p1, p2, q1, q2, q3, q4, ho, hcd⟩ := T.fn
  obtain ⟨nm, q, N, bs, bm, sn, sub, ab, col, dd, k0, k1, k2, k3, k5, hC, hbm⟩ := T.cls
  have hcl : clsIn K C = some { name := nm, bases := bs, mro := .ref C :: bm, ns := N, qualname := q, hasDict := true, slotNames := sn, subclasses := sub, abstract := ab, collection := col, hasDel := false } := by unfold clsIn; rw [hC] <;> rfl
  refine Att.call_fn (binds := [("self", .ref x), ("number", v)]) X hlim ho hcd hroom (BindsTo.of_eq (by first | rfl | with_unfolding_all rfl)) (by first | rfl | decide | with_unfolding_all rfl) (fun s₁ IC => ?_) rfl rfl rfl
  obtain ⟨h₁, tk₁, rfl⟩ := IC.toInCall.same
  have k : ∀ b o, s.heap.get? b = some o → h₁.get? b = some o := IC.toInCall.keep
  have hn := IC.toInCall.ns
  have hxL : s.heap.objs.size ≠ x := Nat.ne_of_gt (Heap.lt_size hx)
  have X₁ : K.In h₁ := X.keeps k
  have hx₁ := k _ _ hx
  -- self.by = by
  show wpAny _ _ (execs _ _) _ _ _
  refine wpAny_execs_cons (plainObj_wpAny_Assign_Attribute ?_)
  refine ldC (v := v) hn (by first | rfl | with_unfolding_all rfl | kernel_rfl) (ldC (v := .ref x) hn (by first | rfl | with_unfolding_all rfl | kernel_rfl) ?_)
  refine set_plain X₁ (ox := excO C t0) (od := none) ⟨hx₁, rfl, rfl, trivial⟩ T.sa ?_
  refine exc_osa X₁ hx₁ hcl (show refsVE (.ref C :: bm) = true from hbm) rfl T.noN (fun h₃ tk₃ dx k₃ dn dne hx₃ hn₃ => ?_)
  show wpAny _ _ (execs _ _) _ _ _
  have z : s.heap.objs.size < h₁.objs.size := hn.lt
  exact wpAny_execs_nil (hq h₃ tk₃ dx ⟨fun b o hb e => k₃ b o hb (k b o e), hx₃, Nat.le_of_lt (Nat.lt_of_lt_of_le z dn), dne, hn₃⟩)
theorem low_made (T : LowTxt K mg C fI) {v : Value} (X : K.In s.heap) (hlim : s.heap.NoLimit) (hroom : A.depth + 1 < recursionLimit)
    (hq : ∀ h' tk e d, OwnMade s.heap h' e C d v → R (.ok (.ret (.ref e))) { s with heap := h', toks := tk }) :
    codeAny (model prog w) A (.call (.ref C) ⟨[v], []⟩) R s := by
  obtain ⟨nm, q, N, bs, bm, sn, sub, ab, col, dd, k0, k1, k2, k3, k5, hC, hbm⟩ := T.cls
  obtain ⟨hp, g, dr, tk, os⟩ := s
  have k : ∀ b o, hp.get? b = some o → ((hp.push (kdv_tup [v])).push (excO C hp.objs.size)).get? b = some o := fun b o e => Heap.get?_push_of_some _ (Heap.get?_push_of_some _ e)
  have hget : ((hp.push (kdv_tup [v])).push (excO C hp.objs.size)).get? (hp.objs.size + 1) = some (excO C hp.objs.size) := by heap_get
  have hnx : K.lookup (hp.objs.size + 1) = none := by
    cases e : K.lookup (hp.objs.size + 1) with
    | none => rfl
    | some o =>
      have z : hp.get? (hp.objs.size + 1) = some o := X _ _ e
      exact absurd (Nat.lt_of_succ_lt (Heap.lt_size z)) (Nat.lt_irrefl _)
  refine call_own F.excBase_ValueError (fun X => refsVE_contains X bm hbm) (X _ _ hC) (looks_findIn X T.iC) (fun self => bind_fn X self T.tC) (one_size v) ?_
  refine low_init (s := ⟨(hp.push (kdv_tup [v])).push (excO C hp.objs.size), g, dr, tk, os⟩) T (X.keeps k) (hlim.keeps k) hget hnx ?_ fun h' tk' dx ⟨k', hx, dn, dne, hns⟩ => ?_
  · show A.depth + 1 < recursionLimit
    exact hroom
  · have old : ∀ b o, hp.get? b = some o → h'.get? b = some o := fun b o e => k' b o (Nat.ne_of_lt (Nat.lt_succ_of_lt (Heap.lt_size e))) (k b o e)
    have z : hp.objs.size + 1 + 1 ≤ dx := by
      first
        | (simpa only [Heap.size_push] using dn)
        | exact dn
        | (have q := dn; rw [Heap.size_push, Heap.size_push] at q; exact q)
    exact ⟨rfl, hq h' tk' (hp.objs.size + 1) dx ⟨old, Nat.le_succ _, ⟨_, _, hx, rfl, rfl, rfl, rfl⟩, Nat.le_trans (Nat.le_trans (Nat.le_succ _) (Nat.le_succ _)) z, dne, hns⟩⟩
end
end LowX
end PySem
namespace L2
open PySem PySem.Spec PyProof.Rows
theorem relO_low {v : V} {v' : Value} (r : RelV v v') (f : Str) : RelO (List.lookup f [(("number" : Str), v)]) (if f = "number" then some v' else none) := by
  by_cases hw : f = "number"
  · subst hw
    rw [if_pos rfl]
    have q : List.lookup ("number" : Str) [(("number" : Str), v)] = some v := by simp [List.lookup]
    rw [q]
    exact r
  · rw [if_neg hw]
    have qw : (f == ("number" : Str)) = false := by simpa using hw
    have q2 : List.lookup f [(("number" : Str), v)] = none := by simp [List.lookup, qw]
    rw [q2]
    trivial
section
variable {X : Cx} {C fI : Addr}
/-- Low(e) -/
def tMkLow (C : Addr) (ta : TA) : St → Hp → XK → Prop := fun σ H Q => ta σ H fun vs H1 => ∃ v, vs = [v] ∧ ∀ d, H1 d = none → Q (.ref C) (some d) (upd H1 d (.xd [(("number" : Str), v)]))
theorem pmk_low {a : Expr} {ta : TA} {p pos : Pos} {k : Nat} (T : PySem.LowX.LowTxt X.K X.mg C fI) (hr : Room k X.A) (ha : PA X [a] ta) (hg : Gl X "Refused" := by rfl)
    (he : starEach (a :: []) X.env = (false, eval a X.env) :: starEach [] X.env := by rfl) (hpl : (backTo pos (starEach [] X.env)).any (·.1) = false := by rfl) :
    PMk X (.Call (.Name "Refused" p) [a] [] pos) (tMkLow C ta) := by
  intro pins s σ H Q I h
  refine wpAny_Call_Name_kw (ld_glob I hg T.gC ?_)
  refine PySem.W.callWith_K (h₀ := X.base) I.ok.mod.kin T.kC (thn (ha.run pos pins s σ H _ I h) fun us s1 hh => ?_) he hpl
  obtain ⟨vs, H1, I1, r1, v, ev, q1⟩ := hh
  subst ev
  refine ⟨I1.kIn, ?_⟩
  cases r1 with
  | cons rv rn =>
    rename_i v' us'
    cases rn
    show wpAny _ _ (call (.ref C) [v']) _ _ _
    have hlim := I1.nolimit
    obtain ⟨hp, g, dr, tk, os⟩ := s1
    refine wpAny_call (PySem.LowX.low_made T I1.kIn hlim (by have := hr.dp; omega) fun h' tk' e d M => ?_)
    show MkP X pins σ Q (.ref e) ⟨h', g, dr, tk', os⟩
    obtain ⟨oe, fv, hoe, hc, hd, hdat, h1⟩ := M.obj
    have hns := M.ns
    obtain ⟨G', g1, g2⟩ := restrict h' fun b => decide (b ≠ e)
    have gk : ∀ b, b ≠ e → G'.get? b = h'.get? b := fun b hb => g1 b (decide_eq_true hb)
    have ge : G'.get? e = none := g2 e (by simp)
    have old : ∀ b o, hp.get? b = some o → G'.get? b = some o := fun b o q => (gk b (Nat.ne_of_lt (Nat.lt_of_lt_of_le (Heap.lt_size q) M.new))).trans (M.keep b o q)
    have ob : ObjOk X.prog X.w (upd H1 d (.xd [(("number" : Str), v)])) G' d (.xd [(("number" : Str), v)]) :=
      ⟨_, hns.at (fun o q => (gk d M.dne).trans q), fun f => relO_low rv f⟩
    have J : Inv X pins σ (upd H1 d (.xd [(("number" : Str), v)])) ⟨G', g, dr, tk', os⟩ := I1.laid (t' := tk') old M.dbig ob
    refine ⟨e, oe, fv, ⟨G', g, dr, tk', os⟩, _, .ref C, some d, rfl, J, fun b o q => ?_, ge, hoe, ⟨hc, hd⟩, hdat, h1, ?_, rfl, I1.bare, raises_own T.exC T.tyC, q1 d (I1.hok.fresh M.dbig)⟩
    · by_cases hb : b = e
      · have q' : G'.get? b = some o := q
        rw [hb, ge] at q'; cases q'
      · exact (gk b hb).symm.trans q
    · rw [upd_ne (Ne.symm M.dne)]
      exact I1.hok.fresh M.new
/-- raise Low(e) -/
def tRaiseLow (C : Addr) (W : WX) (ta : TA) : TS := fun _ σ H => tMkLow C ta σ H fun cls d H' => W cls d σ H'
theorem ps_raiseLow {a : Expr} {ta : TA} {W : WX} {p pos pos2 : Pos} {k : Nat} (hc : X.calm = true) (T : PySem.LowX.LowTxt X.K X.mg C fI) (hr : Room k X.A) (tk : Takes X W) (ha : PA X [a] ta) (hg : Gl X "Refused" := by rfl)
    (he : starEach (a :: []) X.env = (false, eval a X.env) :: starEach [] X.env := by rfl) (hpl : (backTo pos (starEach [] X.env)).any (·.1) = false := by rfl) :
    PS X (.Raise (some (.Call (.Name "Refused" p) [a] [] pos)) none pos2) (tRaiseLow C W ta) := ps_raise hc tk (pmk_low T hr ha hg he hpl)
/-- low.by, low the exception that the suite holds (at a; its class cls, its dict d) -/
def tByLow (C : Addr) (a : Addr) (cls : Value) (d : Option Addr) (te : TE) : TE := fun σ H Q => te σ H fun x H1 => x = .ref a ∧ cls = .ref C ∧ ∃ (dd : Addr) (v : V), d = some dd ∧ H1 dd = some (.xd [(("number" : Str), v)]) ∧ Q v H1
theorem pe_byLow {a : Addr} {oe : Obj} {cls : Value} {d : Option Addr} {pn : List (Addr × Obj)} {e : Expr} {te : TE} {pos : Pos} (T : PySem.LowX.LowTxt X.K X.mg C fI) (hz : Zc cls d oe) (hf : ∃ vs, oe.data = .fields vs) (he : PE (X.suite a ((a, oe) :: pn)) e te)
    (hb : attributeBase e "number" X.env (eval e X.env) = eval e X.env := by rfl) :
    PE (X.suite a ((a, oe) :: pn)) (.Attribute e "number" pos) (tByLow C a cls d te) := by
  refine ⟨fun pins s σ H Q I h => ?_⟩
  refine attr_of hb (thn (he.run pins s σ H _ I h) fun u s1 hh => ?_)
  obtain ⟨x, H1, I1, rx, ex, ec, dd, v, ed, ea, q⟩ := hh
  subst ex
  obtain rfl : u = Value.ref a := rx
  subst ec
  subst ed
  obtain ⟨ha, _⟩ := I1.pin (a, oe) (List.mem_append_left _ List.mem_cons_self)
  obtain ⟨vs, hd⟩ := hf
  have hx : ObjOk X.prog X.w H1 s1.heap dd (.xd [(("number" : Str), v)]) := I1.hok dd _ ea
  obtain ⟨mA, hns, hr⟩ := hx
  obtain ⟨od, ho, hl⟩ := lookIn_ns hns
  have l : List.lookup ("number" : Str) [(("number" : Str), v)] = some v := by simp [List.lookup]
  obtain ⟨u, hu, ru⟩ := RelO.some_of (v := v) (o := mA "number") (by rw [← l]; exact hr "number")
  have J : PySem.W.InstAt s1.heap a oe C (some od) := ⟨ha, hz.1, by unfold PySem.W.notCls; rw [hd] <;> rfl, by rw [hz.2]; exact ho⟩
  exact HandSPX.exc_get I1.kIn J T.ga T.gg T.exC (PySem.W.findObj_own T.hdC T.noN rfl (by rw [hl, hu])) (handed_of ru) ⟨v, H1, I1.tok _, ru, q⟩
end
end L2

namespace L2
open PySem PySem.Spec PyProof.Rows
/-- an if whose test is known -/
theorem if_true_of {c : Bool} {A B : Prop} (hc : c = true) (h : A) : if c = true then A else B := by
  rw [if_pos hc]
  exact h
theorem if_false_of {c : Bool} {A B : Prop} (hc : c = false) (h : B) : if c = true then A else B := by
  rw [hc, if_neg Bool.false_ne_true]
  exact h
end L2
namespace Rt
open PySem PySem.Spec PyProof.Rows L2
/-! ### callables of the text, by name -/
structure Cal (CX : CXT) (P : Program) (w : World) (K : PySem.W.Frag) (mg : Str → Option Value) (base : Heap) (k : Nat) (x : Str) (ps : List Str) (sp : Sp) : Prop where
  ex : ∃ (f : Addr) (fd : FuncData), mg x = some (.ref f) ∧ PySem.W.keepIn K (.ref f) = true ∧ FnOk P w K mg base CX k f fd ps sp ∧ Binds K fd ps []
section
variable {X : Cx} {e : Expr} {es : List Expr} {p pos : Pos} {x : Str} {ps : List Str} {sp : Sp} {t : TA} {k j : Nat} {W : WX}
theorem pc0 (c : Cal CX0 X.prog X.w X.K X.mg X.base k x ps sp) (hr : Room j X.A) (hk : k ≤ j) (ha : PA X (e :: es) t) (hg : Gl X x := by rfl) (hd : (x == ("__debug__" : Str)) = false := by decide)
    (he : starEach (e :: es) X.env = (false, eval e X.env) :: starEach es X.env := by rfl) (hpl : (backTo pos (starEach es X.env)).any (·.1) = false := by rfl) : PE X (.Call (.Name x p) (e :: es) [] pos) (tCall sp [] E0 t) := by
  obtain ⟨f, fd, g, kp, F, b⟩ := c.ex
  exact pe_call F (hr.mono hk) hg g kp b .nil pass0 ha (hdb := hd) (he := he) (hpl := hpl)
theorem pcX (c : Cal (L2.CX X.prog X.w) X.prog X.w X.K X.mg X.base k x ps sp) (hr : Room j X.A) (hk : k ≤ j) (tk : Takes X W) (ha : PA X (e :: es) t) (hg : Gl X x := by rfl) (hd : (x == ("__debug__" : Str)) = false := by decide)
    (he : starEach (e :: es) X.env = (false, eval e X.env) :: starEach es X.env := by rfl) (hpl : (backTo pos (starEach es X.env)).any (·.1) = false := by rfl) : PE X (.Call (.Name x p) (e :: es) [] pos) (tCallS sp (WE W) t) := by
  obtain ⟨f, fd, g, kp, F, b⟩ := c.ex
  exact pe_callS F (hr.mono hk) hg g kp b (fun σ => passAt tk σ) ha (hdb := hd) (he := he) (hpl := hpl)
/-- a module's number -/
def Ki (mg : Str → Option Value) (x : Str) (i : Int) : Prop := ∃ u, mg x = some (.int i u)
theorem pgi {i : Int} (h : Ki X.mg x i) (hg : Gl X x := by rfl) (hd : (x == ("__debug__" : Str)) = false := by decide) : PE X (.Name x pos) (tC (.int i)) := by
  obtain ⟨u, hm⟩ := h
  exact pe_glob (v := .int i) hg hm ⟨u, rfl⟩ hd
/-- len of a list or a tuple, the written part named -/
def rLenS (K : PySem.W.Frag) : List V → Hp → VK → Prop := fun xs H Q => ∃ p ys, xs = [.ref p] ∧ (SqL K H p ys ∨ SqT K H p ys) ∧ Q (.int ys.length) H
theorem cr_len {K : PySem.W.Frag} (h : X.K = K := by rfl) : CallR X (.builtin "len") (rLenS K) := by
  subst h
  exact call_len_seq
theorem op_eqDK {K : PySem.W.Frag} (hu : X.A.units + 64 < cLine) (h : X.K = K := by rfl) : OpR X (compareOp .Eq) (rEqD K) := by
  subst h
  exact op_eqD hu
theorem ixL {K : PySem.W.Frag} (h : X.K = K := by rfl) : IxR X (rIxL K) := by
  subst h
  exact ix_list
theorem ixT {K : PySem.W.Frag} (h : X.K = K := by rfl) : IxR X (rIxT K) := by
  subst h
  exact ix_tup
end
end Rt
namespace Rt
open PySem PySem.Spec PyProof.Rows L2
abbrev nV (n : Nat) : V := .int (n : Int)
theorem nV_eq (a b : Nat) : decide (nV a = nV b) = decide (a = b) := decide_eq_decide.mpr ⟨fun h => by injection h with h; omega, fun h => by rw [h]⟩
theorem same_upd {H : Hp} {p : Addr} {o : HO} (h : H p = none) : Same H (upd H p o) := fun b x e => by
  rw [upd_ne (ne_of_none e h)]
  exact e
/-- all but the thing at D, which is new -/
theorem same_new {H H1 : Hp} {D : Addr} {o : HO} (s : Same H H1) (n : H D = none) : Same H (upd H1 D o) := fun b x e => by
  rw [upd_ne (ne_of_none e n)]
  exact s b x e
/-- an error of the class at C, its number told; all else as it was -/
def Er (C : Addr) (n : Int) (H : Hp) (E : XK) : Prop := ∀ (d : Addr) (H1 : Hp), Same H H1 → H1 d = some (.xd [(("number" : Str), .int n)]) → E (.ref C) (some d) H1
theorem Er.mono {C : Addr} {n : Int} {H H' : Hp} {E : XK} (h : Er C n H E) (s : Same H H') : Er C n H' E := fun d H1 s1 e => h d H1 (s.trans s1) e
theorem sl1000 {n : Nat} (h : n ≤ 1000000) : n ≤ sizeLine := Nat.le_trans h (by rw [sizeLine_eq]; decide)
theorem slt1000 {n : Nat} (h : n ≤ 1000000) : n < sizeLine := Nat.lt_of_le_of_lt h (by rw [sizeLine_eq]; decide)
theorem map_get {α : Type} {xs : List α} {f : α → V} {i : Nat} {x : α} (h : xs[i]? = some x) : (xs.map f)[i]? = some (f x) := by
  rw [List.getElem?_map, h]
  rfl
theorem map_get_inv {α : Type} {xs : List α} {f : α → V} {i : Nat} {y : V} (h : (xs.map f)[i]? = some y) : ∃ x, xs[i]? = some x ∧ y = f x := by
  rw [List.getElem?_map] at h
  cases e : xs[i]? with
  | none => rw [e] at h; cases h
  | some x => rw [e] at h; exact ⟨x, rfl, (Option.some.inj h).symm⟩
theorem get_lt {α : Type} {xs : List α} {i : Nat} {x : α} (h : xs[i]? = some x) : i < xs.length := (List.getElem?_eq_some_iff.mp h).1
/-- the nodes' list at q -/
structure NodesAt (H : Hp) (q : Addr) (g : Krk0.Graph) : Prop where
  ex : ∃ ts : List Addr, H q = some (.lst (ts.map V.ref)) ∧ ts.length = g.length ∧ ∀ (i : Nat) (x : Krk0.Node), g[i]? = some x → ∃ t, ts[i]? = some t ∧ H t = some (.tup [nV x.kind, nV x.a, nV x.b])
theorem NodesAt.same {H H' : Hp} {q : Addr} {g : Krk0.Graph} (h : NodesAt H q g) (s : Same H H') : NodesAt H' q g := by
  obtain ⟨ts, h1, h2, h3⟩ := h.ex
  exact ⟨ts, s _ _ h1, h2, fun i x e => let ⟨t, a, b⟩ := h3 i x e; ⟨t, a, s _ _ b⟩⟩
/-- an item of it is a node's tuple -/
theorem NodesAt.item {H : Hp} {q : Addr} {g : Krk0.Graph} {xs : List V} {i : Nat} {y : V} {ys : List V} (h : NodesAt H q g) (eq : H q = some (.lst ys)) (e : xs[i]? = some y) (hx : xs = ys := by rfl) : ∃ (t : Addr) (x : Krk0.Node), g[i]? = some x ∧ y = V.ref t ∧ H t = some (.tup [nV x.kind, nV x.a, nV x.b]) := by
  subst hx
  obtain ⟨ts, h1, h2, h3⟩ := h.ex
  rw [eq] at h1
  injection h1 with h1
  injection h1 with h1
  rw [h1] at e
  obtain ⟨t, et, ey⟩ := map_get_inv e
  have hi : i < g.length := by
    have := get_lt et
    omega
  obtain ⟨t', e1, e2⟩ := h3 i _ (List.getElem?_eq_getElem hi)
  rw [et] at e1
  have q : t = t' := Option.some.inj e1
  subst q
  exact ⟨t, _, List.getElem?_eq_getElem hi, ey, e2⟩
/-- a node of it -/
theorem NodesAt.get {K : PySem.W.Frag} {H : Hp} {q : Addr} {g : Krk0.Graph} {i : Nat} {x : Krk0.Node} (h : NodesAt H q g) (e : g[i]? = some x) : ∃ xs t, SqL K H q xs ∧ xs.length = g.length ∧ atI xs (i : Int) = some (.ref t) ∧ H t = some (.tup [nV x.kind, nV x.a, nV x.b]) := by
  obtain ⟨ts, h1, h2, h3⟩ := h.ex
  obtain ⟨t, a, b⟩ := h3 i x e
  exact ⟨_, t, .inl (.inl h1), by rw [List.length_map, h2], atI_nat (by rw [List.getElem?_map, a]; rfl), b⟩
theorem NodesAt.sq {K : PySem.W.Frag} {H : Hp} {q : Addr} {g : Krk0.Graph} (h : NodesAt H q g) : ∃ xs, SqL K H q xs ∧ xs.length = g.length := by
  obtain ⟨ts, h1, h2, _⟩ := h.ex
  exact ⟨_, .inl (.inl h1), by rw [List.length_map, h2]⟩
theorem nodes_of {H1 : Hp} : ∀ (acc : List V) (g : List Krk0.Node), acc.length = g.length → (∀ (i : Nat) (y : V), acc[i]? = some y → ∃ (t : Addr) (x : Krk0.Node), g[i]? = some x ∧ y = V.ref t ∧ H1 t = some (.tup [nV x.kind, nV x.a, nV x.b])) →
    ∃ ts : List Addr, acc = ts.map V.ref ∧ ts.length = g.length ∧ ∀ (i : Nat) (x : Krk0.Node), g[i]? = some x → ∃ t, ts[i]? = some t ∧ H1 t = some (.tup [nV x.kind, nV x.a, nV x.b])
  | [], [], _, _ => ⟨[], rfl, rfl, fun i x e => by simp at e⟩
  | [], _ :: _, h, _ => by simp at h
  | _ :: _, [], h, _ => by simp at h
  | y :: acc, x0 :: g, h, ha => by
    obtain ⟨ts, e1, e2, e3⟩ := nodes_of acc g (by simpa using h) (fun i y e => by simpa using ha (i + 1) y (by simpa using e))
    obtain ⟨t, x, f1, f2, f3⟩ := ha 0 y rfl
    have ex : x0 = x := by simpa using f1
    subst ex
    refine ⟨t :: ts, by rw [f2, e1]; rfl, by simp [e2], fun i x e => ?_⟩
    cases i with
    | zero =>
      have ex : x0 = x := by simpa using e
      subst ex
      exact ⟨t, rfl, f3⟩
    | succ i => simpa using e3 i x (by simpa using e)
theorem NodesAt.of {H1 : Hp} {D : Addr} {acc : List V} {g : Krk0.Graph} (eD : H1 D = some (.lst acc)) (h : acc.length = g.length) (ha : ∀ (i : Nat) (y : V), acc[i]? = some y → ∃ (t : Addr) (x : Krk0.Node), g[i]? = some x ∧ y = V.ref t ∧ H1 t = some (.tup [nV x.kind, nV x.a, nV x.b])) : NodesAt H1 D g := by
  obtain ⟨ts, e1, e2, e3⟩ := nodes_of acc g h ha
  exact ⟨ts, by rw [eD, e1], e2, e3⟩
theorem lc_in {te : TE} {σ2 σ0 : L2.St} {vs : List Nat} {H2 : Hp} {Q : VK} {Z : Hp → Prop} (hw : wipe σ2 vs = σ0) (h : te σ2 H2 Q) : wipe σ2 vs = σ0 ∧ tYes σ2 H2 fun b H3 => if b = true then te σ2 H3 Q else Z H3 := ⟨hw, by
  show if true = true then te σ2 H2 Q else Z H2
  exact iteT h⟩
/-- a comprehension without a test: what is told (R) of each item -/
theorem lc_all {J : It} {n : Nat} {G : Hp → Prop} {Y : Nat → Hp → V → Hp → Prop} (w : Walk J n G Y) {g : TG} {te : TE} {vs : List Nat} {σ : L2.St} {H1 : Hp} {D : Addr} {Qd : Hp → Prop} (R : Nat → V → Hp → Prop)
    (nD : H1 D = none) (hn : n ≤ 1000000) (hG : ∀ H, Same H1 H → G H) (hR : ∀ i y H H', R i y H → (∀ b o, (∀ l, o ≠ HO.lst l) → H b = some o → H' b = some o) → R i y H')
    (hs : ∀ i x H H', i < n → Same H1 H → Y i H x H' → ∀ (Q : VK) (Z : Hp → Prop), (∀ y H4, Same H H4 → R i y H4 → Q y H4) → g x (wipe σ vs) H' fun σ2 H2 => wipe σ2 vs = wipe σ vs ∧ tYes σ2 H2 fun b H3 => if b = true then te σ2 H3 Q else Z H3)
    (hd : ∀ H acc, Same H1 H → H D = some (.lst acc) → acc.length = n → (∀ i y, acc[i]? = some y → R i y H) → Qd H) :
    ∃ W : Nat → Nat → Hp → Prop, (∃ m, W 0 m (upd H1 D (.lst []))) ∧ ∀ i m H, W i m H →
      (J.stop i H ∧ Qd H) ∨ (J.go i H ∧ ∃ Nx : Hp → Prop, (∀ H', Nx H' → ∃ m', m' < m ∧ W (i + 1) m' H') ∧ ∀ x H', J.yld i H x H' → g x (wipe σ vs) H' fun σ2 H2 => wipe σ2 vs = wipe σ vs ∧ tYes σ2 H2 fun b H3 =>
        if b = true then te σ2 H3 fun y H4 => ∃ acc, H4 D = some (.lst acc) ∧ acc.length < sizeLine ∧ Nx (upd H4 D (.lst (acc ++ [y]))) else Nx H3) := by
  refine lc_it w (fun i H => Same H1 H ∧ ∃ acc, H D = some (.lst acc) ∧ acc.length = i ∧ ∀ j y, acc[j]? = some y → R j y H) ⟨same_upd nD, [], upd_same, rfl, fun j y e => by simp at e⟩ (fun i H _ p => hG H p.1) ?_ ?_
  · rintro i x H H' hi ⟨s, acc, hD, hl, hacc⟩ y
    refine hs i x H H' hi s y _ _ fun v H4 s4 r => ?_
    have e4 : H4 D = some (.lst acc) := s4 _ _ hD
    refine ⟨acc, e4, slt1000 (by omega), same_new (s.trans s4) nD, acc ++ [v], upd_same, by rw [List.length_append, hl]; rfl, fun j z e => ?_⟩
    have keep : ∀ b o, (∀ l, o ≠ HO.lst l) → H4 b = some o → upd H4 D (.lst (acc ++ [v])) b = some o := fun b o ho eb => by
      have hb : b ≠ D := fun z => by
        rw [z, e4] at eb
        exact ho acc (Option.some.inj eb).symm
      rw [upd_ne hb]
      exact eb
    by_cases hj : j < acc.length
    · rw [List.getElem?_append_left hj] at e
      exact hR j z H4 _ (hR j z H H4 (hacc j z e) fun b o _ eb => s4 b o eb) keep
    · have hj2 : j = acc.length := by
        have q := get_lt e
        rw [List.length_append] at q
        simp at q
        omega
      subst hj2
      rw [List.getElem?_append_right (Nat.le_refl _), Nat.sub_self] at e
      have ez : v = z := Option.some.inj e
      subst ez
      rw [hl]
      exact hR i v H4 _ r keep
  · rintro H ⟨s, acc, hD, hl, hacc⟩
    exact hd H acc s hD hl hacc
end Rt
namespace Rt
open PySem PySem.Spec PyProof.Rows L2
/-! ### a list against an empty one -/
theorem eqv_nil (ds : List PyData) : PyData.eqv (.list ds) (.list []) = ds.isEmpty := by cases ds <;> rfl
theorem dpAll_len {K : PySem.W.Frag} {H : Hp} : ∀ {xs : List V} {ds : List PyData}, DpAll K H xs ds → xs.isEmpty = ds.isEmpty
  | _, _, .nil => rfl
  | _, _, .cons _ _ => rfl
theorem ne_nil {K : PySem.W.Frag} {H : Hp} {a b : Addr} {xs : List V} {ds : List PyData} {Q : VK} (hs : SqL K H a xs) (hd : DpAll K H xs ds) (hsh : SeqAt.shaped (.list ds) = true) (hb : SqL K H b []) (q : Q (.bl (!xs.isEmpty)) H) : rNeD K (.ref a) (.ref b) H Q := by
  refine ⟨.list ds, .list [], .lst hs hd, .lst hb .nil, hsh, rfl, ?_⟩
  rw [eqv_nil, ← dpAll_len hd]
  exact q
theorem eq_nil {K : PySem.W.Frag} {H : Hp} {a b : Addr} {xs : List V} {ds : List PyData} {Q : VK} (hs : SqL K H a xs) (hd : DpAll K H xs ds) (hsh : SeqAt.shaped (.list ds) = true) (hb : SqL K H b []) (q : Q (.bl xs.isEmpty) H) : rEqD K (.ref a) (.ref b) H Q := by
  refine ⟨.list ds, .list [], .lst hs hd, .lst hb .nil, hsh, rfl, ?_⟩
  rw [eqv_nil, ← dpAll_len hd]
  exact q
theorem dp_ints {K : PySem.W.Frag} {H : Hp} : ∀ ns : List Int, DpAll K H (ns.map V.int) (ns.map PyData.int)
  | [] => .nil
  | n :: r => .cons (.int n) (dp_ints r)
theorem shaped_list {ds : List PyData} {n : Nat} (hn : n + 1 ≤ 64) (h : ∀ d ∈ ds, PyData.canLay0 d = true ∧ PyData.depth d ≤ n) : SeqAt.shaped (.list ds) = true := by
  have h1 : ∀ ds : List PyData, (∀ d ∈ ds, PyData.canLay0 d = true ∧ PyData.depth d ≤ n) → PyData.canLayAll0 ds = true ∧ PyData.depthAll ds ≤ n := by
    intro ds
    induction ds with
    | nil => exact fun _ => ⟨rfl, Nat.zero_le _⟩
    | cons d ds ih =>
      intro h
      obtain ⟨a, b⟩ := ih fun z hz => h z (List.mem_cons_of_mem _ hz)
      obtain ⟨c, e⟩ := h d List.mem_cons_self
      refine ⟨?_, ?_⟩
      · show (PyData.canLay0 d && PyData.canLayAll0 ds) = true
        rw [c, a]
        rfl
      · show max (PyData.depth d) (PyData.depthAll ds) ≤ n
        omega
  obtain ⟨a, b⟩ := h1 ds h
  show (PyData.canLayAll0 ds && decide (PyData.depthAll ds + 1 ≤ 64)) = true
  rw [a, decide_eq_true (by omega)]
  rfl
theorem shaped_ints (ns : List Int) : SeqAt.shaped (.list (ns.map PyData.int)) = true := shaped_list (n := 0) (by decide) fun d hd => by
  obtain ⟨i, _, e⟩ := List.mem_map.mp hd
  subst e
  exact ⟨rfl, Nat.le_refl _⟩
theorem drop_at {α : Type} {l : List α} {i : Nat} {x : α} (h : l[i]? = some x) : l.drop i = x :: l.drop (i + 1) := by
  obtain ⟨hi, e⟩ := List.getElem?_eq_some_iff.mp h
  rw [List.drop_eq_getElem_cons hi, e]
theorem drop_end {α : Type} {l : List α} {i : Nat} (h : l.length ≤ i) : l.drop i = [] := List.drop_eq_nil_of_le h
end Rt
namespace Rt
open PySem PySem.Spec PyProof.Rows L2
/-! ### rules for dicts whose keys are tuples, and for extend by a tuple -/
section
variable {prog : Program} {w : World} {A : Around} {s : Shared} {E : Value → Shared → Prop}
theorem ext_tup {l b : Addr} {items items2 : Array Value} {n n2 : Nat} {o : Obj} {R : Result → Shared → Prop} (hl : s.heap.get? l = some { cls := .type "list", data := .seq items n }) (ho : s.heap.get? b = some o) (hc : o.cls = .type "tuple") (hd : o.data = .seq items2 n2)
    (hz : items.size + items2.size ≤ sizeLine) (hR : R (.ok (.ret Value.none)) { s with heap := s.heap.update l (Obj.mapSeq (· ++ items2)) }) :
    wpAny (model prog w) A.in1 (Builtin.List.listExtendWith (.ref l) (.ref b) .none)
      (fun fin s' => match fin with | .done f => R (.ok f) s' | .again c' => c'.quiet = true ∧ codeAny (model prog w) A c' R s') (fun e s' => R (.error e) s') s := by
  unfold Builtin.List.listExtendWith
  refine wpAny_bind (wpAny_typeOf ⟨o, ho, hc⟩ ?_)
  have h1 : (Builtin.List.listSameRef (.ref l) (.ref b) || Value.type "tuple" == Value.type "list" || Value.type "tuple" == Value.type "tuple") = true := by simp
  simp only [h1, if_true]
  refine wpAny_bind ?_
  unfold Builtin.List.listItems
  refine wpAny_bind (wpAny_seqItems ho hd (wpAny_pure ?_))
  refine wpAny_bind ?_
  refine wpAny_bind (wpAny_seqItems hl rfl (wpAny_pure ?_))
  have hlong : ¬ (!items.isEmpty && Builtin.List.listTooLong (items.size + items2.size)) = true := by
    rw [notLongL hz, Bool.and_false]
    exact Bool.false_ne_true
  rw [if_neg hlong]
  show wpAny _ A.in1 (updateSeq l (· ++ items2) >>= fun _ => ret Value.none) _ _ s
  refine wpAny_bind (wpAny_updateSeq hl rfl ?_ (hz := by omega) (_hz' := by rw [Array.size_append]; omega))
  exact wpAny_pure hR
theorem meets_extT {l b : Addr} {items items2 : Array Value} {n n2 : Nat} {o : Obj} (hc : o.cls = .type "tuple") (hd : o.data = .seq items2 n2) (hz : items.size + items2.size ≤ sizeLine) :
    Meets (Builtin.«list.extend» ⟨[.ref l, .ref b], []⟩) (fun _ R s => s.heap.get? l = some { cls := .type "list", data := .seq items n } ∧ s.heap.get? b = some o ∧ R (.ok (.ret Value.none)) { s with heap := s.heap.update l (Obj.mapSeq (· ++ items2)) }) := by
  intro prog w A R s h
  obtain ⟨hl, ho, h⟩ := h
  show wpAny _ A.in1 (Builtin.List.listExtendWith (.ref l) (.ref b) .none) _ _ s
  exact ext_tup hl ho hc hd hz h
end
section
variable {X : Cx}
/-- xs.extend(t), t a tuple -/
def rExtT (K : PySem.W.Frag) : V → List V → Hp → VK → Prop := fun x vs H Q => ∃ l b xs zs, x = .ref l ∧ vs = [.ref b] ∧ H l = some (.lst xs) ∧ SqT K H b zs ∧ xs.length + zs.length ≤ sizeLine ∧ Q .non (upd H l (.lst (xs ++ zs)))
theorem mt_extT : MtR X "list.extend" (rExtT X.K) := by
  intro pins s σ H x vs v us Q I rx rv h
  obtain ⟨l, b, xs, zs, rfl, rfl, hH, hB, hz, q⟩ := h
  cases rx
  obtain ⟨u, rfl, ru⟩ := rv.one
  cases ru
  obtain ⟨z, its, n, r, hl, e⟩ := I.lstM hH
  obtain ⟨its2, r2, ⟨o, ho, hc, n2, hd⟩, hz2⟩ := I.tuple hB
  have hl2 := r2.length
  refine call_meets F.slot_list_extend ⟨_, e, rfl⟩ F.entry_list_extend (F.args_list_extend_2 _ _)
    (meets_extT (n := n) hc hd (by rw [List.size_toArray, List.size_toArray]; omega)) ⟨e, ho, ?_⟩
  refine ⟨.non, _, I.lset (its' := its ++ its2) hH e (by simp) (r.append r2) ?_, rfl, q⟩
  rw [List.length_append]
  omega
/-- {k: v}, k a tuple -/
def tDisp1T (tk tv : TE) : TE := fun σ H Q => ∀ p, H p = none → tk σ (upd H p (.dT [])) fun x H1 => tv σ H1 fun y H2 => H2 p = some (.dT []) ∧ ∃ b ks, x = .ref b ∧ H2 b = some (.tup (ks.map kV)) ∧ Q (.ref p) (upd H2 p (.dT [(ks, y)]))
theorem pe_disp1T {k v : Expr} {pos : Pos} {tk tv : TE} (hu : X.A.units + 1 < cLine) (hk : PE X k tk) (hv : PE X v tv) : PE X (.Dict [some k] [v] pos) (tDisp1T tk tv) := by
  refine ⟨fun pins s σ H Q I q => ?_⟩
  have hn := I.hok.fresh (Nat.le_refl s.heap.objs.size)
  have I1 := I.laid (a := s.heap.objs.size) (o := .dT []) (h' := s.heap.push { cls := .type "dict", data := .dict #[] }) (t' := s.toks) (fun _ _ q => Heap.get?_push_of_some _ q) (Nat.le_refl _) (dt_empty s.heap I.big)
  have hshape := zip_pairTrees [some k] [v] X.env pos rfl rfl
  have hpl := pairTrees_length [some k] [v] X.env pos rfl rfl
  have hp0 : pairTrees [some k] [v] X.env pos ≠ [] := fun e => by rw [e] at hpl; cases hpl
  have hp1 : (pairTrees [some k] [v] X.env pos).length ≤ 15 := by rw [hpl]; exact (by decide : 1 ≤ 15)
  rw [arm_eval_Dict, hshape, dictDisplay_pairs _ hp0 (by omega)]
  refine wpAny_bind (wpAny_standAt (wpAny_bind (wpAny_subDictH (knd := tupleKind (mixKind X.prog X.w)) (Q := fun d s' => wpAny (model X.prog X.w) X.A (pure (Value.ref d)) (EP X pins σ Q) X.xe s') (Nat.lt_of_succ_lt hu) hp1 ?_)))
  refine pairTrees_cons_walk (thn (hk.run pins _ σ _ _ I1 (q _ hn)) fun u s1 ⟨x, H1, I1, rx, q1⟩ => thn (hv.run pins s1 σ H1 _ I1 q1) fun w2 s2 ⟨y, H2, I2, ry, e, b, ks, ex, eb, q2⟩ => pairTrees_nil_walk ?_)
  subst ex
  obtain rfl : u = Value.ref b := rx
  obtain ⟨z, hd, xs, r0, dd⟩ := dt_of I2.hok e
  cases r0
  refine ⟨[(ks, b, w2)], ⟨rfl, rfl, key_of I2.hok eb, True.intro⟩, dd, fun h' tk dd' hs => wpAny_pure ⟨.ref s.heap.objs.size, _, ?_, rfl, q2⟩⟩
  obtain ⟨qo, es, ep, hq, h2, h3, h4, _, h5⟩ := dd'
  have hbne : b ≠ s.heap.objs.size := fun z => by rw [z, e] at eb; cases eb
  refine d_write I2 (by rw [e]; exact True.intro) hs ⟨qo, hq⟩ ⟨by show 1 ≤ sizeLine; decide, hd, [(ks, b, w2)], .cons ⟨rfl, ?_, ry⟩ .nil, qo, es, ep, hq, h2, h3, h4, h5⟩
  rw [upd_ne hbne]
  exact eb
/-! ### dict(pairs) -/
def putE (acc : List (List Key × V)) (es : List (List Key × Addr × V)) : List (List Key × V) := es.foldl (fun acc e => putK acc e.1 e.2.2) acc
theorem putE_len : ∀ (es : List (List Key × Addr × V)) (acc : List (List Key × V)), (putE acc es).length ≤ acc.length + es.length
  | [], acc => by show acc.length ≤ acc.length + 0; omega
  | e :: es, acc => by
    have h1 := putE_len es (putK acc e.1 e.2.2)
    have h2 := length_putK acc e.1 e.2.2
    show (putE (putK acc e.1 e.2.2) es).length ≤ _
    rw [List.length_cons]
    omega
theorem KT_putE {H : Hp} : ∀ {es : List (List Key × Addr × V)} {ps : List (List Key × Addr × Value)} {acc : List (List Key × V)} {xs : List (List Key × Addr × Value)},
    Paired (fun (e : List Key × Addr × V) (q : List Key × Addr × Value) => e.1 = q.1 ∧ e.2.1 = q.2.1 ∧ H e.2.1 = some (.tup (e.1.map kV)) ∧ RelV e.2.2 q.2.2) es ps → KT H acc xs → KT H (putE acc es) (storedAllH xs ps)
  | _, _, acc, xs, .nil, h => h
  | e :: es, q :: ps, acc, xs, .cons a t, h => by
    obtain ⟨a1, a2, a3, a4⟩ := a
    have h' : KT H (putK acc e.1 e.2.2) (storedH xs q.1 q.2.1 q.2.2) := by
      have := h.put (b := e.2.1) e.1 a3 a4
      rw [← a1, ← a2]
      exact this
    show KT H (putE (putK acc e.1 e.2.2) es) (storedAllH (storedH xs q.1 q.2.1 q.2.2) ps)
    exact KT_putE t h'
def rDictT (K : PySem.W.Frag) : List V → Hp → VK → Prop := fun xs H Q => ∃ (a : Addr) (ts : List Addr) (es : List (List Key × Addr × V)), xs = [.ref a] ∧ SqL K H a (ts.map V.ref) ∧
  Paired (fun t (e : List Key × Addr × V) => SqT K H t [.ref e.2.1, e.2.2] ∧ H e.2.1 = some (.tup (e.1.map kV))) ts es ∧ ∀ p, H p = none → Q (.ref p) (upd H p (.dT (putE [] es)))
theorem pairsT_of {pins : List (Addr × Obj)} {σ : L2.St} {H : Hp} {s : Shared} (I : Inv X pins σ H s) : ∀ {ts : List Addr} {es : List (List Key × Addr × V)}, Paired (fun t (e : List Key × Addr × V) => SqT X.K H t [.ref e.2.1, e.2.2] ∧ H e.2.1 = some (.tup (e.1.map kV))) ts es →
    ∃ ps : List (List Key × Addr × Value), Paired (fun (e : List Key × Addr × V) (q : List Key × Addr × Value) => e.1 = q.1 ∧ e.2.1 = q.2.1 ∧ H e.2.1 = some (.tup (e.1.map kV)) ∧ RelV e.2.2 q.2.2) es ps ∧ ps.length = ts.length ∧
      ∀ (j : Nat) (q : List Key × Addr × Value), ps[j]? = some q → (∃ t, ts[j]? = some t ∧ IsTup s.heap t #[.ref q.2.1, q.2.2]) ∧ H q.2.1 = some (.tup (q.1.map kV))
  | _, _, .nil => ⟨[], .nil, rfl, fun j q e => by simp at e⟩
  | _, _, .cons (a := t) (b := e) h tl => by
    obtain ⟨ps, r, hl, hp⟩ := pairsT_of I tl
    obtain ⟨its, rv, ht, _⟩ := I.tuple h.1
    obtain ⟨u, y, ei, ru, ry⟩ := vals2 rv
    subst ei
    obtain rfl : u = Value.ref e.2.1 := ru
    refine ⟨(e.1, e.2.1, y) :: ps, .cons ⟨rfl, rfl, h.2, ry⟩ r, by rw [List.length_cons, List.length_cons, hl], fun j q hq => ?_⟩
    cases j with
    | zero =>
      have e' : (e.1, e.2.1, y) = q := Option.some.inj hq
      subst e'
      exact ⟨⟨t, rfl, ht⟩, h.2⟩
    | succ j => exact hp j q (by simpa using hq)
theorem call_dictT (hcalm : X.calm = true) (hu : X.A.units + 64 < cLine) : CallR X (.type "dict") (rDictT X.K) := by
  intro pins s σ H xs us Q I r q
  obtain ⟨a, ts, es, ex, hq, hp, q⟩ := q
  subst ex
  obtain ⟨u, eu, rx⟩ := vals1 r
  subst eu
  cases rx
  obtain ⟨its, rv, pl, hz⟩ := I.list hq
  have ei := refs_at rv
  subst ei
  rw [List.length_map] at hz
  obtain ⟨ps, rel, hl, hpr⟩ := pairsT_of I hp
  have hmap : ∀ (j : Nat) (k v : Value), (ps.map fun q => ((Value.ref q.2.1, q.2.2) : Value × Value))[j]? = some (k, v) → ∃ q, ps[j]? = some q ∧ k = Value.ref q.2.1 ∧ v = q.2.2 := fun j k v e => by
    rw [List.getElem?_map] at e
    cases ej : ps[j]? with
    | none => rw [ej] at e; cases e
    | some q =>
      rw [ej] at e
      injection e with e
      injection e with e1 e2
      exact ⟨q, rfl, e1.symm, e2.symm⟩
  refine call_dict_pairsH (knd := tupleKind (mixKind X.prog X.w)) (ps := ps) (PairArg.list a (ts.map Value.ref).toArray (fun j => ts.getD j 0) (ps.map fun q => (Value.ref q.2.1, q.2.2))) (I.ok.hd hcalm) (by show X.A.units + 1 + 1 < cLine; omega) ⟨pl, ?_, fun j k v e => ?_⟩ ⟨?_, fun j k v e => ?_⟩ (fun h' hk x hx => ?_) ?_ (fun h' tk dd' hk => ?_)
  · rw [List.size_toArray, List.length_map, List.length_map, hl]
  · obtain ⟨q, eq, rfl, rfl⟩ := hmap j k v e
    obtain ⟨⟨t, et, o, ho, hc, n, hd⟩, _⟩ := hpr j q eq
    have e1 : ts.getD j 0 = t := by rw [List.getD_eq_getElem?_getD, et]; rfl
    show (List.map Value.ref ts).toArray[j]? = some (Value.ref (ts.getD j 0)) ∧ PairAt s.heap (ts.getD j 0) (Value.ref q.2.1) q.2.2
    rw [e1]
    exact ⟨by simp [et], .inl ⟨o, ho, hc, n, hd⟩⟩
  · rw [List.length_map]
  · obtain ⟨q, eq, rfl, rfl⟩ := hmap j k v e
    exact ⟨q.1, q.2.1, eq, rfl⟩
  · obtain ⟨j, ej⟩ := List.getElem?_of_mem hx
    obtain ⟨_, ht⟩ := hpr j x ej
    obtain ⟨o, items, n, h1, h2, h3, h4⟩ := key_of (P := X.prog) (w := X.w) I.hok ht
    exact ⟨o, items, n, hk _ _ (Nat.ne_of_lt (Heap.lt_size h1)) (fun z => nomatch z) h1, h2, h3, h4⟩
  · rw [List.length_map, hl]
    exact hz
  · obtain ⟨qo, es', ep, hqo, h2, h3, h4, _, h5⟩ := dd'
    have hm : (s.heap.objs.size == sysModules) = false := beq_eq_false_iff_ne.mpr (Nat.ne_of_gt I.big)
    have hfree := I.hok.fresh (Nat.le_refl s.heap.objs.size)
    have hel : es.length = ps.length := Paired.length rel
    have hlen : (putE [] es).length ≤ sizeLine := by
      refine Nat.le_trans (putE_len es []) ?_
      rw [List.length_nil, Nat.zero_add, hel, hl]
      exact hz
    refine ⟨.ref s.heap.objs.size, upd H s.heap.objs.size (.dT (putE [] es)), I.laid (t' := tk) (fun b o e => hk b o (fun z => nomatch z) e) (Nat.le_refl _) ⟨hlen, hm, storedAllH [] ps, (KT_putE rel .nil).keeps fun c ys ec => ?_, qo, es', ep, hqo, h2, h3, h4, h5⟩, rfl, q _ hfree⟩
    rw [upd_ne (ne_of_none ec hfree)]
    exact ec
/-! ### for k in d.keys(), list(d.keys()) -/
def iKeysMT (td : TE) : TI := fun σ H R => td σ H fun x H1 => ∃ d o kvs, x = .ref d ∧ H1 d = some (.frz o (.dT kvs)) ∧ R (Itkt d o kvs) H1
theorem pi_keysMT {tg e : Expr} {td : TE} {apos cpos : Pos} (he : PE X e td) (hbase : attributeBase e "keys" X.env (eval e X.env) = eval e X.env := by rfl) (hline : (apos.endLine == cpos.line) = true := by rfl) : PI X tg (.Call (.Attribute e "keys" apos) [] [] cpos) (iKeysMT td) := by
  refine ⟨fun pins s σ H R I h => ?_⟩
  refine wpAny_Call_method (T := "dict") (id := "dict.keys") hbase rfl hline F.plainAttrs_dict F.slot_dict_keys F.type_dict_keys (thn (he.run pins s σ H _ I h) fun u s1 ⟨x, H1, I1, rx, d, o, kvs, ex, hd, q⟩ => ?_)
  subst ex
  obtain rfl : u = Value.ref d := rx
  obtain ⟨hs, hgd, hx, es, ep, hdt, hsz, ent⟩ := I1.frzT hd
  have raw : s1.heap.DictRaw d es ep := ⟨o, hgd, hx, hdt⟩
  refine ⟨raw.typeIs, fun b eb => by cases eb; exact ⟨o, hgd, hx.2.1⟩, ?_⟩
  have I2 : Inv X pins σ H1 { s1 with heap := s1.heap.push { cls := .type "dict_keys", data := .fields #[.ref d] } } := I1.kept (t' := s1.toks) fun b ob q => Heap.get?_push_of_some _ q
  have fin : wpAny (model X.prog X.w) X.A (pyIter (.ref s1.heap.objs.size)) (PIE X pins σ tg R) X.xe { s1 with heap := s1.heap.push { cls := .type "dict_keys", data := .fields #[.ref d] } } := by
    refine wpAny_pyIter_keys_raw (d := d) (es := es) (ep := ep) ⟨_, Heap.get?_push_size _ rfl, rfl, rfl⟩ (raw.push _) (pi_one (tk := s1.toks) I2 _ (turn_keysT _ hdt) ⟨_, Heap.get?_push_size _ rfl, rfl, ?_⟩ q)
    rw [hsz] <;> rfl
  show wpAny _ _ (callWith cpos (.builtin "dict.keys") [.ref d] [] []) _ X.xe s1
  exact method_meetsIn F.slot_dict_keys F.entry_dict_keys rfl (PySem.evalArgs_none ⟨rfl, raw.typeIs, F.args_dict_keys_1 _, _, meets_dict_keys_raw d hs, ⟨es, ep, raw⟩, fin⟩)
end
end Rt
namespace Rt
open PySem PySem.Spec PyProof.Rows L2
/-! ### list(d.keys()), d's keys tuples -/
def tListKeysT (te : TE) : TE := fun σ H Q => te σ H fun x H1 => ∃ d kvs, x = .ref d ∧ H1 d = some (.dT kvs) ∧ ∀ p bs, H1 p = none → IsKeys H1 kvs bs → Q (.ref p) (upd H1 p (.lst (bs.map V.ref)))
theorem pe_listKeysT {X : Cx} {e : Expr} {te : TE} {p apos cpos pos : Pos} (hc : X.calm = true) (he : PE X e te) (hm : X.mg "list" = none) (hg : Gl X "list" := by rfl) (hv : bootBuiltins "list" = some (.type "list") := by decide +kernel) (hbase : attributeBase e "keys" X.env (eval e X.env) = eval e X.env := by rfl) (hline : (apos.endLine == cpos.line) = true := by rfl)
    (hs : starEach [.Call (.Attribute e "keys" apos) [] [] cpos] X.env = (false, eval (.Call (.Attribute e "keys" apos) [] [] cpos) X.env) :: starEach [] X.env := by rfl) :
    PE X (.Call (.Name "list" p) [.Call (.Attribute e "keys" apos) [] [] cpos] [] pos) (tListKeysT te) := by
  refine ⟨fun pins s σ H Q I hq => ?_⟩
  refine wpAny_Call_Name_kw (ld_blt I hg hm hv ?_)
  refine PyProof.Rows.callWith_type1 ?_ hs rfl
  rw [hs]
  show wpAny _ _ (spliced ((false, eval (.Call (.Attribute e "keys" apos) [] [] cpos) X.env) :: backTo pos (starEach [] X.env))) _ _ s
  refine Calls.spliced_cons ?_
  refine wpAny_Call_method (T := "dict") (id := "dict.keys") hbase rfl hline F.plainAttrs_dict F.slot_dict_keys F.type_dict_keys (thn (he.run pins s σ H _ I hq) fun u s1 ⟨x, H1, I1, rx, d, kvs, ex, hd, q⟩ => ?_)
  subst ex
  obtain rfl : u = Value.ref d := rx
  obtain ⟨z, hs0, ks, pr, o, es, ep, ho, hx, hdt, he', hn⟩ := (show ObjOk X.prog X.w H1 s1.heap d (.dT kvs) from I1.hok d _ hd)
  have raw : s1.heap.DictRaw d es ep := ⟨o, ho, hx, hdt⟩
  have l1 : es.size = ks.length := size_of_entries he'
  have l2 : kvs.length = ks.length := Paired.length pr
  have I2 : Inv X pins σ H1 { s1 with heap := s1.heap.push { cls := .type "dict_keys", data := .fields #[.ref d] } } := I1.kept (t' := s1.toks) fun b ob q => Heap.get?_push_of_some _ q
  refine ⟨raw.typeIs, fun b eb => by cases eb; exact ⟨o, ho, hx.2.1⟩, ?_⟩
  show wpAny _ _ (callWith cpos (.builtin "dict.keys") [.ref d] [] []) _ X.xe s1
  refine method_meetsIn F.slot_dict_keys F.entry_dict_keys rfl (PySem.evalArgs_none ⟨rfl, raw.typeIs, F.args_dict_keys_1 _, _, meets_dict_keys_raw d hs0, ⟨es, ep, raw⟩, ?_⟩)
  refine Calls.spliced_nil ?_
  refine PySem.W.kdl_call (PySem.KdlSrc.rawKeys (d := d) (es := es) (ep := ep)) (I1.ok.hd hc) ⟨⟨_, Heap.get?_push_size _ rfl, rfl, rfl⟩, raw.push _⟩ (by omega) fun h' tk acc' c' kp eL it => ?_
  have ea : acc'.toList = ks.map fun x => Value.ref x.2.1 := by
    have hl : acc'.toList.length = ks.length := by rw [Array.length_toList, it.1]; exact l1
    apply List.ext_getElem?
    intro j
    rw [List.getElem?_map]
    cases hj : acc'.toList[j]? with
    | none =>
      have h1 := List.getElem?_eq_none_iff.mp hj
      rw [List.getElem?_eq_none (by omega)]
      all_goals rfl
    | some v =>
      obtain ⟨hi, hv⟩ := it.2 j v (by rw [← Array.getElem?_toList]; exact hj)
      have hen : es[j]? = some es[j] := Array.getElem?_eq_getElem hi
      have qe := entry_at he' j
      rw [hen] at qe
      cases hb : ks[j]? with
      | none =>
        rw [hb] at qe
        exact nomatch (show some es[j] = none from qe)
      | some b =>
        rw [hb] at qe
        have e2 : es[j] = entryOfKey (tupleKind (mixKind X.prog X.w)) b := Option.some.inj qe
        rw [hv, e2]
        all_goals rfl
  have eb : acc'.toList = (ks.map fun x => x.2.1).map Value.ref := by rw [ea, List.map_map]; all_goals rfl
  have rv : Vals ((ks.map fun x => x.2.1).map V.ref) acc'.toList := by rw [eb]; exact vals_refs _
  have hz : ((ks.map fun x => x.2.1).map V.ref).length ≤ sizeLine := by rw [List.length_map, List.length_map]; omega
  refine ⟨.ref _, _, I2.laid (t' := tk) (o := .lst ((ks.map fun x => x.2.1).map V.ref)) kp (Nat.le_refl _) ?_, rfl, q _ _ (I2.hok.fresh (Nat.le_refl _)) (isKeys_of pr)⟩
  exact ⟨hz, acc'.toList, c', rv, by rw [Array.toArray_toList]; exact eL⟩
end Rt
namespace Rt
open PySem PySem.Spec PyProof.Rows L2
/-! ### pairs of numbers, each a tuple -/
abbrev pT (p : Nat × Nat) : List V := [nV p.1, nV p.2]
abbrev PT2 (H : Hp) : List Addr → List (Nat × Nat) → Prop := Paired fun t p => H t = some (.tup (pT p))
theorem PT2.same {H H' : Hp} {ts : List Addr} {ps : List (Nat × Nat)} (h : PT2 H ts ps) (s : ∀ b xs, H b = some (.tup xs) → H' b = some (.tup xs)) : PT2 H' ts ps := Paired.mapP h fun _ _ e => s _ _ e
structure PairsAt (H : Hp) (r : Addr) (ps : List (Nat × Nat)) : Prop where
  ex : ∃ ts : List Addr, H r = some (.lst (ts.map V.ref)) ∧ PT2 H ts ps
theorem PairsAt.same {H H' : Hp} {r : Addr} {ps : List (Nat × Nat)} (h : PairsAt H r ps) (s : Same H H') : PairsAt H' r ps := by
  obtain ⟨ts, a, b⟩ := h.ex
  exact ⟨ts, s _ _ a, b.same fun c xs e => s _ _ e⟩
theorem pgetL {α β : Type} {F : α → β → Prop} : ∀ {xs : List α} {ys : List β}, Paired F xs ys → ∀ {i : Nat} {x : α}, xs[i]? = some x → ∃ y, ys[i]? = some y ∧ F x y
  | _, _, .nil, i, x, h => by simp at h
  | _, _, .cons r t, 0, x, h => by
    have e := Option.some.inj h
    subst e
    exact ⟨_, rfl, r⟩
  | _, _, .cons r t, i + 1, x, h => by
    obtain ⟨y, a, b⟩ := pgetL t (i := i) (x := x) (by simpa using h)
    exact ⟨y, by simpa using a, b⟩
theorem pgetR {α β : Type} {F : α → β → Prop} : ∀ {xs : List α} {ys : List β}, Paired F xs ys → ∀ {i : Nat} {y : β}, ys[i]? = some y → ∃ x, xs[i]? = some x ∧ F x y
  | _, _, .nil, i, x, h => by simp at h
  | _, _, .cons r t, 0, x, h => by
    have e := Option.some.inj h
    subst e
    exact ⟨_, rfl, r⟩
  | _, _, .cons r t, i + 1, x, h => by
    obtain ⟨y, a, b⟩ := pgetR t (i := i) (y := x) (by simpa using h)
    exact ⟨y, by simpa using a, b⟩
theorem paired_of {α β : Type} {F : α → β → Prop} : ∀ (xs : List α) (ys : List β), xs.length = ys.length → (∀ (i : Nat) (x : α) (y : β), xs[i]? = some x → ys[i]? = some y → F x y) → Paired F xs ys
  | [], [], _, _ => .nil
  | [], _ :: _, h, _ => by simp at h
  | _ :: _, [], h, _ => by simp at h
  | x :: xs, y :: ys, h, f => .cons (f 0 x y rfl rfl) (paired_of xs ys (by simpa using h) fun i a b e1 e2 => f (i + 1) a b (by simpa using e1) (by simpa using e2))
/-- a list of new tuples, as a comprehension leaves it -/
theorem pairs_of_list {H : Hp} : ∀ (acc : List V) (ps : List (Nat × Nat)), acc.length = ps.length → (∀ (i : Nat) (y : V), acc[i]? = some y → ∃ (t : Addr) (p : Nat × Nat), ps[i]? = some p ∧ y = V.ref t ∧ H t = some (.tup (pT p))) → ∃ ts : List Addr, acc = ts.map V.ref ∧ PT2 H ts ps
  | [], [], _, _ => ⟨[], rfl, .nil⟩
  | [], _ :: _, h, _ => by simp at h
  | _ :: _, [], h, _ => by simp at h
  | y :: acc, p0 :: ps, h, ha => by
    obtain ⟨ts, e1, e2⟩ := pairs_of_list acc ps (by simpa using h) fun i y e => by simpa using ha (i + 1) y (by simpa using e)
    obtain ⟨t, p, f1, f2, f3⟩ := ha 0 y rfl
    have ep : p0 = p := by simpa using f1
    subst ep
    exact ⟨t :: ts, by rw [f2, e1]; rfl, .cons f3 e2⟩
theorem at2a {p : Nat × Nat} : atI (pT p) 0 = some (nV p.1) := rfl
theorem at2b {p : Nat × Nat} : atI (pT p) 1 = some (nV p.2) := rfl
end Rt
namespace Rt
open PySem PySem.Spec PyProof.Rows L2
/-! ### a pair of numbers as a dict's key -/
def key2 (p : Nat × Nat) : List Key := [Sum.inl (p.1 : Int), Sum.inl (p.2 : Int)]
theorem key2_inj {p q : Nat × Nat} (h : key2 p = key2 q) : p = q := by
  unfold key2 at h
  injection h with h1 h2
  injection h2 with h2 _
  injection h1 with h1
  injection h2 with h2
  exact Prod.ext (by omega) (by omega)
theorem key2_V (p : Nat × Nat) : (key2 p).map kV = pT p := rfl
section
variable {κ : Type} [DecidableEq κ]
theorem valV_some_of_mem {kvs : List (κ × V)} {k : κ} {v : V} (h : (k, v) ∈ kvs) : (valV kvs k).isSome = true := by
  rw [← valV_any]
  exact List.any_eq_true.mpr ⟨(k, v), h, decide_eq_true rfl⟩
theorem mem_of_valV {kvs : List (κ × V)} {k : κ} (h : (valV kvs k).isSome = true) : ∃ v, (k, v) ∈ kvs := by
  rw [← valV_any] at h
  obtain ⟨kv, h1, h2⟩ := List.any_eq_true.mp h
  have e := of_decide_eq_true h2
  exact ⟨kv.2, by rw [← e]; exact h1⟩
end
def keysE (es : List (List Key × Addr × V)) : List (List Key) := es.map fun e => e.1
theorem putE_has : ∀ (es : List (List Key × Addr × V)) (acc : List (List Key × V)) (k : List Key), (valV (putE acc es) k).isSome = true ↔ (k ∈ keysE es ∨ (valV acc k).isSome = true)
  | [], acc, k => by
    show (valV acc k).isSome = true ↔ (k ∈ ([] : List (List Key)) ∨ _)
    simp
  | e :: es, acc, k => by
    show (valV (putE (putK acc e.1 e.2.2) es) k).isSome = true ↔ (k ∈ e.1 :: keysE es ∨ _)
    rw [putE_has es, valV_put]
    by_cases h : k = e.1
    · rw [if_pos h]
      simp [h]
    · rw [if_neg h]
      simp [h]
end Rt
namespace Rt
open PySem PySem.Spec PyProof.Rows L2
/-! ### a dict of pairs, each with its way -/
theorem valV_get {κ : Type} [DecidableEq κ] : ∀ {kvs : List (κ × V)} {i : Nat} {k : κ} {v : V}, (kvs.map (·.1)).Nodup → kvs[i]? = some (k, v) → valV kvs k = some v
  | [], i, k, v, _, h => by simp at h
  | p :: kvs, 0, k, v, _, h => by
    have e := Option.some.inj h
    subst e
    exact valV_pos rfl
  | p :: kvs, i + 1, k, v, hn, h => by
    rw [List.map_cons, List.nodup_cons] at hn
    have h' : kvs[i]? = some (k, v) := by simpa using h
    have hne : ¬ p.1 = k := fun e => hn.1 (List.mem_map.mpr ⟨(k, v), List.mem_of_getElem? h', e.symm⟩)
    rw [valV_neg hne]
    exact valV_get hn.2 h'
/-- the entries are these pairs with these ways; the ways' lists are not r -/
abbrev WEnt (H : Hp) (r : Addr) : List (List Key × V) → WRow → Prop := Paired fun (kv : List Key × V) (x : (Nat × Nat) × List Nat) => kv.1 = key2 x.1 ∧ ∃ a, kv.2 = V.ref a ∧ a ≠ r ∧ H a = some (.lst (x.2.map nV))
theorem WEnt.keys {H : Hp} {r : Addr} : ∀ {kvs : List (List Key × V)} {R : WRow}, WEnt H r kvs R → kvs.map (·.1) = (R.map (·.1)).map key2
  | _, _, .nil => rfl
  | _, _, .cons a t => by
    rw [List.map_cons, List.map_cons, List.map_cons, WEnt.keys t, a.1]
theorem WEnt.nd {H : Hp} {r : Addr} {kvs : List (List Key × V)} {R : WRow} (h : WEnt H r kvs R) (hn : (R.map (·.1)).Nodup) : (kvs.map (·.1)).Nodup := by
  rw [h.keys]
  exact nodup_map_on (fun x _ y _ e => key2_inj e) hn
theorem WEnt.has {H : Hp} {r : Addr} {kvs : List (List Key × V)} {R : WRow} (h : WEnt H r kvs R) (q : Nat × Nat) : (valV kvs (key2 q)).isSome = (R.map (·.1)).contains q := by
  cases hc : (R.map (·.1)).contains q with
  | true =>
    have hm : q ∈ R.map (·.1) := by simpa using hc
    have : key2 q ∈ kvs.map (·.1) := by rw [h.keys]; exact List.mem_map.mpr ⟨q, hm, rfl⟩
    obtain ⟨kv, h1, h2⟩ := List.mem_map.mp this
    exact valV_some_of_mem (v := kv.2) (by rw [← h2]; exact h1)
  | false =>
    cases hv : (valV kvs (key2 q)).isSome with
    | false => rfl
    | true =>
      obtain ⟨v, hv⟩ := mem_of_valV hv
      have : key2 q ∈ kvs.map (·.1) := List.mem_map.mpr ⟨_, hv, rfl⟩
      rw [h.keys] at this
      obtain ⟨x, hx, e⟩ := List.mem_map.mp this
      have := key2_inj e
      subst this
      have : (R.map (·.1)).contains x = true := by simpa using hx
      rw [this] at hc
      cases hc
theorem WEnt.mono {H H' : Hp} {r r' : Addr} {kvs : List (List Key × V)} {R : WRow} (h : WEnt H r kvs R) (s : ∀ a l, a ≠ r → H a = some (.lst l) → a ≠ r' ∧ H' a = some (.lst l)) : WEnt H' r' kvs R :=
  Paired.mapP h fun _ _ ⟨e, a, e1, e2, e3⟩ => ⟨e, a, e1, (s a _ e2 e3).1, (s a _ e2 e3).2⟩
/-- the dict at d -/
structure WaysAt (H : Hp) (d : Addr) (R : WRow) : Prop where
  ex : ∃ (kvs : List (List Key × V)) (r : Addr), H d = some (.dT kvs) ∧ WEnt H r kvs R
theorem WaysAt.same {H H' : Hp} {d : Addr} {R : WRow} (h : WaysAt H d R) (s : Same H H') : WaysAt H' d R := by
  obtain ⟨kvs, r, a, b⟩ := h.ex
  exact ⟨kvs, r, s _ _ a, b.mono fun c l e1 e2 => ⟨e1, s _ _ e2⟩⟩
end Rt
namespace Rt
open PySem PySem.Spec PyProof.Rows L2
def top (i : Nat) : Stmt := PySem.Challenge.pw_roundtypesworks_s08_proof.main.body.getD i (.Pass ⟨0, 0, 0, 0⟩)
abbrev s_must : Stmt := top 11
abbrev s_is_node : Stmt := top 12
abbrev s_nodes_in : Stmt := top 13
abbrev s_must_be_there : Stmt := top 14
abbrev s_asked_by : Stmt := top 16
abbrev s_fails : Stmt := top 17
abbrev s_ways_from : Stmt := top 18
abbrev s_first_failing : Stmt := top 19
abbrev s_proof_told : Stmt := top 20
abbrev s_asked_nodes : Stmt := top 22
abbrev s_proof : Stmt := top 23
/-! ### must -/
section
variable {P : Program} {w : World} {K : PySem.W.Frag} {mg : Str → Option Value} {base : Heap} {C fI : Addr}
theorem sc_must : FnScope ["so", "number"] ["so", "number"] (defScope s_must) := ⟨rfl, rfl, rfl, by decide +kernel, rfl, by decide +kernel, by decide +kernel⟩
def sp_must (C : Addr) : Sp := fun vs H Q E => ∃ (b : Bool) (n : Int), vs = [.bl b, .int n] ∧ (b = true → Q .non H) ∧ (b = false → Er C n H E)
theorem ok_must {f : Addr} {fd : FuncData} (F : Fun K "must" "must" s_must f fd) (low : PySem.LowX.LowTxt K mg C fI) : FnOk P w K mg base (L2.CX P w) 3 f fd ["so", "number"] (sp_must C) := by
  refine F.okX sc_must (fun vs H Q E h => ?_) (fun cdv A outer s H vs Q E hr h => ?_)
  · obtain ⟨b, n, rfl, _⟩ := h
    rfl
  · obtain ⟨b, n, rfl, k1, k2⟩ := h
    refine ⟨_, pss_one (ps_if (pt_not (pt_val (pv 0))) (pss_one (ps_raiseLow rfl low hr (takes_of rfl rfl rfl rfl) (pa_cons (pv 1) pa_nil))) pss_nil), ?_⟩
    refine ⟨_, rfl, b, rfl, ?_⟩
    cases b with
    | true => exact iteF (k1 rfl)
    | false => exact iteT ⟨_, rfl, _, rfl, fun d hd => k2 rfl d _ (same_upd hd) upd_same⟩
end
/-! ### is_node -/
section
variable {P : Program} {w : World} {K : PySem.W.Frag} {mg : Str → Option Value} {base : Heap}
theorem sc_is_node : FnScope ["node", "many", "kind", "a", "b"] ["node", "many"] (defScope s_is_node) := ⟨rfl, rfl, rfl, by decide +kernel, rfl, by decide +kernel, by decide +kernel⟩
def sp_is_node : Sp := fun vs H Q _ => ∃ (t : Addr) (n : Nat) (x : Krk0.Node), vs = [.ref t, nV n] ∧ H t = some (.tup [nV x.kind, nV x.a, nV x.b]) ∧ ∀ H', Same H H' → Q (.bl (Krk0.nodeOk n x)) H'
/-- three kinds in a tuple -/
theorem inV3 (k : Nat) : inV (nV k) [.int 4, .int 5, .int 6] = decide (4 ≤ k ∧ k ≤ 6) := by
  have e : inV (nV k) [.int 4, .int 5, .int 6] = (((4 : Int) == (k : Int)) || (((5 : Int) == (k : Int)) || (((6 : Int) == (k : Int)) || false))) := rfl
  rw [e]
  by_cases h : 4 ≤ k ∧ k ≤ 6
  · rw [decide_eq_true h]
    have : k = 4 ∨ k = 5 ∨ k = 6 := by omega
    rcases this with r | r | r <;> subst r <;> rfl
  · rw [decide_eq_false h]
    have h1 : ((4 : Int) == (k : Int)) = false := beq_eq_false_iff_ne.mpr (by omega)
    have h2 : ((5 : Int) == (k : Int)) = false := beq_eq_false_iff_ne.mpr (by omega)
    have h3 : ((6 : Int) == (k : Int)) = false := beq_eq_false_iff_ne.mpr (by omega)
    rw [h1, h2, h3]
    rfl
theorem ok_is_node {f : Addr} {fd : FuncData} (F : Fun K "is_node" "is_node" s_is_node f fd) (g4 : Ki mg "PAIR" 4) (g5 : Ki mg "CHOICE" 5) (g6 : Ki mg "FUNCTION" 6) :
    FnOk P w K mg base CX0 1 f fd ["node", "many"] sp_is_node := by
  refine F.ok sc_is_node (fun vs H Q E h => ?_) (fun cdv A outer s H vs Q E hr h => ?_)
  · obtain ⟨t, n, x, rfl, _⟩ := h
    rfl
  · obtain ⟨t, n, x, rfl, ht, q⟩ := h
    refine ⟨_, pss_cons (ps_asg (pv 0) (pg_tup rfl (pgs_cons (pg_name (i := 2) sc_is_node.nd rfl (.inl rfl)) (pgs_cons (pg_name (i := 3) sc_is_node.nd rfl (.inl rfl)) (pgs_cons (pg_name (i := 4) sc_is_node.nd rfl (.inl rfl)) pgs_nil)))))
      (pss_cons (ps_if (pt_cmpR op_in_seq (pv 2) (pe_tup (pa_cons (pgi g4) (pa_cons (pgi g5) (pa_cons (pgi g6) pa_nil)))) rfl)
          (pss_one (ps_ret (pe_and (pe_cmpR op_lt (pv 3) (pv 1) (nomark _)) (pe_one (pe_cmpR op_lt (pv 4) (pv 1) (nomark _)))))) pss_nil)
        (pss_one (ps_ret (pe_and (pe_cmpR op_lt (pv 2) (pgi g4) (nomark _)) (pe_and (pe_cmpR op_eq (pv 3) pe_int (nomark _)) (pe_one (pe_cmpR op_eq (pv 4) pe_int (nomark _)))))))), ?_⟩
    refine ⟨_, rfl, t, [nV x.kind, nV x.a, nV x.b], rfl, .inl (.inl ht), rfl, _, _, rfl, _, _, rfl, _, _, rfl, rfl, ?_⟩
    refine ⟨_, rfl, (by show 3 ≤ sizeLine; decide), fun p hp => ?_⟩
    have s1 := same_upd (o := .tup [.int 4, .int 5, .int 6]) hp
    refine ⟨p, [.int 4, .int 5, .int 6], rfl, .inr (.inl (.inl upd_same)), rfl, rfl, _, rfl, ?_⟩
    show if (inV (nV x.kind) [.int 4, .int 5, .int 6]) = true then _ else _
    rw [inV3]
    by_cases hk : 4 ≤ x.kind ∧ x.kind ≤ 6
    · rw [if_pos (decide_eq_true hk)]
      refine ⟨_, rfl, _, rfl, _, _, rfl, rfl, _, rfl, ?_⟩
      have e : Krk0.nodeOk n x = (decide (x.a < n) && decide (x.b < n)) := by
        unfold Krk0.nodeOk
        rw [if_neg (by omega), decide_eq_true (show x.kind ≤ 6 from hk.2), Bool.true_and]
      rw [e] at q
      by_cases ha : x.a < n
      · rw [if_pos (decide_eq_true (show (x.a : Int) < (n : Int) by omega))]
        refine ⟨_, rfl, _, rfl, _, _, rfl, rfl, ?_⟩
        have e2 : decide ((x.b : Int) < (n : Int)) = (decide (x.a < n) && decide (x.b < n)) := by
          rw [decide_eq_true ha, Bool.true_and]
          exact decide_eq_decide.mpr (by omega)
        have q1 := q _ s1
        rw [← e2] at q1
        exact q1
      · rw [if_neg (by rw [decide_eq_true_eq]; omega)]
        have e2 : (decide (x.a < n) && decide (x.b < n)) = false := by rw [decide_eq_false ha, Bool.false_and]
        rw [e2] at q
        exact q _ s1
    · rw [if_neg (by rw [decide_eq_true_eq]; exact hk)]
      refine ⟨_, rfl, _, _, rfl, rfl, _, rfl, ?_⟩
      by_cases h4 : x.kind < 4
      · rw [if_pos (decide_eq_true (show (x.kind : Int) < 4 by omega))]
        have e : Krk0.nodeOk n x = (x.a == 0 && x.b == 0) := by
          unfold Krk0.nodeOk
          rw [if_pos (by omega)]
        rw [e] at q
        refine ⟨_, rfl, rfl, _, rfl, ?_⟩
        by_cases ha : x.a = 0
        · rw [if_pos (decide_eq_true (by rw [ha]; rfl))]
          refine ⟨_, rfl, rfl, ?_⟩
          have e2 : decide (nV x.b = V.int 0) = (x.a == 0 && x.b == 0) := by
            rw [ha]
            by_cases hb : x.b = 0
            · rw [hb]; rfl
            · rw [decide_eq_false (fun z => hb (by injection z with z; omega))]
              simp [hb]
          have q1 := q _ s1
          rw [← e2] at q1
          exact q1
        · rw [if_neg (by rw [decide_eq_true_eq]; exact fun z => ha (by injection z with z; omega))]
          have e2 : (x.a == 0 && x.b == 0) = false := by simp [ha]
          rw [e2] at q
          exact q _ s1
      · rw [if_neg (by rw [decide_eq_true_eq]; omega)]
        have e : Krk0.nodeOk n x = false := by
          unfold Krk0.nodeOk
          rw [if_neg (by omega), decide_eq_false (show ¬ x.kind ≤ 6 by omega), Bool.false_and]
        rw [e] at q
        exact q _ s1
end
/-! ### nodes_in -/
section
variable {P : Program} {w : World} {K : PySem.W.Frag} {mg : Str → Option Value} {base : Heap} {C : Addr}
theorem sc_nodes_in : FnScope ["row", "found", "at", "node"] ["row"] (defScope s_nodes_in) := ⟨rfl, rfl, rfl, by decide +kernel, rfl, by decide +kernel, by decide +kernel⟩
def sp_nodes_in (K : PySem.W.Frag) (C : Addr) : Sp := fun vs H Q E => ∃ (p : Addr) (l : List Nat) (g : Krk0.Graph), vs = [.ref p] ∧ SqL K H p (l.map nV) ∧ Krk0.graphOf l = some g ∧ l.length ≤ 1000 ∧
  (Krk0.graphOk g = true → ∀ H' q, Same H H' → NodesAt H' q g → Q (.ref q) H') ∧ (Krk0.graphOk g = false → Er C (-71) H E)
theorem all_map_id {α : Type} (g : List α) (f : α → Bool) : (g.map f).all id = g.all f := by
  rw [List.all_map]
  rfl
theorem bools_of {f : Krk0.Node → Bool} : ∀ (acc : List V) (g : List Krk0.Node), acc.length = g.length → (∀ (i : Nat) (y : V), acc[i]? = some y → ∃ x, g[i]? = some x ∧ y = V.bl (f x)) → acc = (g.map f).map V.bl
  | [], [], _, _ => rfl
  | [], _ :: _, h, _ => by simp at h
  | _ :: _, [], h, _ => by simp at h
  | y :: acc, x0 :: g, h, ha => by
    obtain ⟨x, f1, f2⟩ := ha 0 y rfl
    have ex : x0 = x := by simpa using f1
    subst ex
    rw [bools_of acc g (by simpa using h) (fun i y e => by simpa using ha (i + 1) y (by simpa using e)), f2]
    rfl
theorem rsz3 (n : Nat) : Builtin.Range.rangeSize 0 (((3 * n : Nat) : Int) - 2) 3 = n := by
  unfold Builtin.Range.rangeSize
  rw [if_pos (by decide)]
  split <;> omega
theorem rng3 (n : Nat) (h : n ≤ 1000) : RgC 0 (((3 * n : Nat) : Int) - 2) 3 n := by
  refine ⟨by decide, by decide, ?_, ?_⟩
  · unfold Builtin.Range.small
    have e : Builtin.Range.rangeSize 0 (((3 * n : Nat) : Int) - 2) 3 = n := rsz3 n
    rw [e]
    simp only [Builtin.Range.rangeFitsLong, Bool.and_eq_true, Bool.or_eq_true, decide_eq_true_eq, beq_iff_eq, show ((3 : Int) > 0) by decide, if_true]
    omega
  · exact rsz3 n
theorem ok_nodes_in {f : Addr} {fd : FuncData} (F : Fun K "nodes_in" "nodes_in" s_nodes_in f fd) (c1 : Cal (L2.CX P w) P w K mg base 3 "must" ["so", "number"] (sp_must C)) (c2 : Cal CX0 P w K mg base 1 "is_node" ["node", "many"] sp_is_node)
    (mr : mg "range" = none) (ml : mg "len" = none) (ma : mg "all" = none) (gM : Ki mg "MOST_NODES" 32) (gN : Ki mg "NO_NODES" (-71)) : FnOk P w K mg base (L2.CX P w) 4 f fd ["row"] (sp_nodes_in K C) := by
  refine F.okX sc_nodes_in (fun vs H Q E h => ?_) (fun cdv A outer s H vs Q E hr h => ?_)
  · obtain ⟨p, l, g, rfl, _⟩ := h
    rfl
  · obtain ⟨p, l, g, rfl, hS, hg, hlen, k1, k2⟩ := h
    refine ⟨_, pss_cons (ps_set (i := 1) sc_nodes_in.nd rfl (.inr rfl) (pe_lc (own := [("at", 2)]) (g := gName 2) (tt := tYes) rfl sc_nodes_in.nd
          (pi_range3 (by rfl) mr (pa_cons pe_int (pa_cons (pe_op op_sub (pe_callB (cr_len (K := K)) (by rfl) ml PySem.boot_len (pa_cons (pv 0) pa_nil)) pe_int) (pa_cons pe_int pa_nil))))
          (blkOk_by (own := [("at", 2)]) (N := ["row", "found", "at", "node"]) (sc := defScope s_nodes_in) (by decide +kernel)) (fun _ _ _ _ _ => pg_name (i := 2) sc_nodes_in.nd rfl (Or.inl rfl)) (fun _ _ _ _ _ => pts_nil)
          (fun _ _ _ _ _ => pe_tup (pa_cons (pe_ix (ixL (K := K)) (pv 0) (pv 2) (fun _ _ => rfl)) (pa_cons (pe_ix (ixL (K := K)) (pv 0) (pe_op op_add (pv 2) pe_int) (fun _ _ => rfl)) (pa_cons (pe_ix (ixL (K := K)) (pv 0) (pe_op op_add (pv 2) pe_int) (fun _ _ => rfl)) pa_nil))))))
      (pss_cons (ps_expr (pcX c1 hr (by decide) (takes_of rfl rfl rfl rfl) (pa_cons (pe_and (pe_cmpR op_le pe_int (pe_callB (cr_len (K := K)) (by rfl) ml PySem.boot_len (pa_cons (pv 1) pa_nil)) (nomark _))
          (pe_and (pe_cmpR op_le (pe_callB (cr_len (K := K)) (by rfl) ml PySem.boot_len (pa_cons (pv 1) pa_nil)) (pgi gM) (nomark _))
            (pe_one (pe_cmpR op_eq (pe_callB (cr_len (K := K)) (by rfl) ml PySem.boot_len (pa_cons (pv 0) pa_nil)) (pe_op op_mul pe_int (pe_callB (cr_len (K := K)) (by rfl) ml PySem.boot_len (pa_cons (pv 1) pa_nil))) (nomark _))))) (pa_cons (pgi gN) pa_nil))))
      (pss_cons (ps_expr (pcX c1 hr (by decide) (takes_of rfl rfl rfl rfl) (pa_cons (pe_callB (cr_all rfl) (by rfl) ma (by decide +kernel) (pa_cons (pe_lc (own := [("node", 3)]) (g := gName 3) (tt := tYes) rfl sc_nodes_in.nd (pi_list (pv 1))
          (blkOk_by (own := [("node", 3)]) (N := ["row", "found", "at", "node"]) (sc := defScope s_nodes_in) (by decide +kernel)) (fun _ _ _ _ _ => pg_name (i := 3) sc_nodes_in.nd rfl (Or.inl rfl)) (fun _ _ _ _ _ => pts_nil)
          (fun _ _ _ _ _ => pc0 c2 hr (by decide) (pa_cons (pv 3) (pa_cons (pe_callB (cr_len (K := K)) (by rfl) ml PySem.boot_len (pa_cons (pv 1) pa_nil)) pa_nil)))) pa_nil)) (pa_cons (pgi gN) pa_nil))))
      (pss_one (ps_ret (pv 1))))), ?_⟩
    have hl3 := Rt.graphOf_len hg
    have hgl : g.length ≤ 1000 := by omega
    -- the rows of three
    refine ⟨_, rfl, p, _, rfl, .inl hS, _, _, rfl, rfl, 0, _, 3, g.length, rfl, ?_, fun D hD => lc_all walk_rangeC (fun i y H' => ∃ (t : Addr) (x : Krk0.Node), g[i]? = some x ∧ y = V.ref t ∧ H' t = some (.tup [nV x.kind, nV x.a, nV x.b])) hD (by omega) (fun _ _ => trivial) ?_ ?_ ?_⟩
    · rw [List.length_map, hl3]
      exact rng3 g.length hgl
    · rintro i y H1 H2 ⟨t, x, e1, rfl, e2⟩ kp
      exact ⟨t, x, e1, rfl, kp _ _ (fun _ z => nomatch z) e2⟩
    · rintro i x H1 H2 hi s1 ⟨rfl, rfl⟩ Q2 Z hq
      obtain ⟨e1, e2, e3⟩ := Rt.graphOf_get hg (List.getElem?_eq_getElem hi)
      have hS1 := s1.seq hS
      refine lc_in rfl ?_
      refine ⟨_, rfl, _, rfl, p, _, _, _, rfl, rfl, hS1, at_of (j := 3 * i) (by omega) (map_get e1), ?_⟩
      refine ⟨_, rfl, _, rfl, _, _, rfl, rfl, p, _, _, _, rfl, rfl, hS1, at_of (j := 3 * i + 1) (by omega) (map_get e2), ?_⟩
      refine ⟨_, rfl, _, rfl, _, _, rfl, rfl, p, _, _, _, rfl, rfl, hS1, at_of (j := 3 * i + 2) (by omega) (map_get e3), ?_⟩
      exact ⟨(by show 3 ≤ sizeLine; decide), fun t ht => hq _ _ (same_upd ht) ⟨t, _, List.getElem?_eq_getElem hi, rfl, upd_same⟩⟩
    · intro H1 acc s1 eD hacc hr1
      have N1 : NodesAt H1 D g := .of eD hacc hr1
      have hS1 := s1.seq hS
      have hX : SqL K H1 D acc := .inl (.inl eD)
      have hxl := hacc
      have hok : Krk0.graphOk g = (decide (1 ≤ g.length) && (decide (g.length ≤ 32) && g.all (Krk0.nodeOk g.length))) := rfl
      -- must(1 <= len(found) and ..)
      refine ⟨_, rfl, D, _, rfl, .inl hX, _, _, rfl, rfl, _, rfl, ?_⟩
      rw [hxl]
      by_cases h1 : 1 ≤ g.length
      case neg =>
        rw [if_neg (by rw [decide_eq_true_eq]; omega)]
        exact ⟨false, _, rfl, (fun z => nomatch z), fun _ => (k2 (by rw [hok, decide_eq_false h1, Bool.false_and])).mono s1⟩
      rw [if_pos (by rw [decide_eq_true_eq]; omega)]
      refine ⟨_, rfl, D, _, rfl, .inl hX, _, _, rfl, rfl, _, rfl, ?_⟩
      rw [hxl]
      by_cases h2 : g.length ≤ 32
      case neg =>
        rw [if_neg (by rw [decide_eq_true_eq]; omega)]
        exact ⟨false, _, rfl, (fun z => nomatch z), fun _ => (k2 (by rw [hok, decide_eq_false h2, Bool.false_and, Bool.and_false])).mono s1⟩
      rw [if_pos (by rw [decide_eq_true_eq]; omega)]
      refine ⟨_, rfl, p, _, rfl, .inl hS1, _, rfl, D, _, rfl, .inl hX, _, _, rfl, rfl, .inl ⟨by decide, by decide⟩, rfl, ?_⟩
      refine ⟨_, _, rfl, fun _ => ?_, fun z => ?_⟩
      case refine_2 =>
        exfalso
        have z' : decide (V.int (((l.map nV).length : Nat) : Int) = V.int (3 * (acc.length : Int))) = false := z
        rw [decide_eq_false_iff_not, List.length_map, hxl, hl3] at z'
        exact z' (congrArg V.int (by omega))
      -- must(all([..]), ..)
      refine ⟨_, rfl, D, rfl, ⟨_, hX⟩, fun D2 hD2 => lc_all walk_list (fun i y _ => ∃ x, g[i]? = some x ∧ y = V.bl (Krk0.nodeOk g.length x)) hD2 (by omega) (fun H2 s2 => s2.seq hX) (fun _ _ _ _ h _ => h) ?_ ?_⟩
      · rintro i x H2 H3 hi s2 ⟨rfl, hx⟩ Q2 Z hq
        have N2 := N1.same s2
        obtain ⟨xs2, hX2, hxl2⟩ := N2.sq (K := K)
        obtain ⟨t, nd, f1, f2, f3⟩ := N1.item eD hx
        refine lc_in rfl ?_
        refine ⟨_, rfl, _, rfl, D, _, rfl, .inl hX2, ?_⟩
        rw [hxl2]
        exact ⟨t, g.length, nd, by rw [f2]; rfl, s2 _ _ f3, fun H4 s4 => hq _ _ s4 ⟨nd, f1, rfl⟩⟩
      · intro H2 acc2 s2 eD2 hacc2 hr2
        have s12 := s1.trans s2
        refine ⟨D2, _, rfl, .inl (.inl (by rw [eD2, bools_of acc2 g (hacc2.trans hacc) hr2])), ?_⟩
        refine ⟨_, _, rfl, fun hall => ?_, fun hall => ?_⟩
        · refine ⟨_, rfl, k1 ?_ H2 D s12 (N1.same s2)⟩
          rw [hok, decide_eq_true h1, decide_eq_true h2, Bool.true_and, Bool.true_and, ← all_map_id]
          exact hall
        · refine (k2 ?_).mono s12
          rw [hok, decide_eq_true h1, decide_eq_true h2, Bool.true_and, Bool.true_and, ← all_map_id]
          exact hall
end
/-! ### must_be_there -/
section
variable {P : Program} {w : World} {K : PySem.W.Frag} {mg : Str → Option Value} {base : Heap} {C : Addr}
theorem sc_must_be_there : FnScope ["nodes", "numbers", "number"] ["nodes", "numbers"] (defScope s_must_be_there) := ⟨rfl, rfl, rfl, by decide +kernel, rfl, by decide +kernel, by decide +kernel⟩
def there (n : Nat) (ids : List Nat) : Bool := ids.all fun i => decide (i < n)
theorem there1 {n a : Nat} : there n [a] = decide (a < n) := by
  show (decide (a < n) && true) = _
  rw [Bool.and_true]
theorem there2 {n a b : Nat} : there n [a, b] = (decide (a < n) && decide (b < n)) := by
  show (decide (a < n) && (decide (b < n) && true)) = _
  rw [Bool.and_true]
def sp_must_be_there (K : PySem.W.Frag) (C : Addr) : Sp := fun vs H Q E => ∃ (q r : Addr) (g : Krk0.Graph) (ids : List Nat), vs = [.ref q, .ref r] ∧ NodesAt H q g ∧ g.length ≤ 1000 ∧ SqL K H r (ids.map nV) ∧ ids.length ≤ 1000 ∧
  (there g.length ids = true → ∀ H', Same H H' → Q .non H') ∧ (there g.length ids = false → Er C (-2) H E)
theorem bools_ids {f : Nat → Bool} : ∀ (acc : List V) (g : List Nat), acc.length = g.length → (∀ (i : Nat) (y : V), acc[i]? = some y → ∃ x, g[i]? = some x ∧ y = V.bl (f x)) → acc = (g.map f).map V.bl
  | [], [], _, _ => rfl
  | [], _ :: _, h, _ => by simp at h
  | _ :: _, [], h, _ => by simp at h
  | y :: acc, x0 :: g, h, ha => by
    obtain ⟨x, f1, f2⟩ := ha 0 y rfl
    have ex : x0 = x := by simpa using f1
    subst ex
    rw [bools_ids acc g (by simpa using h) (fun i y e => by simpa using ha (i + 1) y (by simpa using e)), f2]
    rfl
theorem ok_must_be_there {f : Addr} {fd : FuncData} (F : Fun K "must_be_there" "must_be_there" s_must_be_there f fd) (c1 : Cal (L2.CX P w) P w K mg base 3 "must" ["so", "number"] (sp_must C))
    (ml : mg "len" = none) (ma : mg "all" = none) (gN : Ki mg "NO_NODE" (-2)) : FnOk P w K mg base (L2.CX P w) 4 f fd ["nodes", "numbers"] (sp_must_be_there K C) := by
  refine F.okX sc_must_be_there (fun vs H Q E h => ?_) (fun cdv A outer s H vs Q E hr h => ?_)
  · obtain ⟨q, r, g, ids, rfl, _⟩ := h
    rfl
  · obtain ⟨q, r, g, ids, rfl, hN, hgl, hS, hil, k1, k2⟩ := h
    refine ⟨_, pss_one (ps_expr (pcX c1 hr (by decide) (takes_of rfl rfl rfl rfl) (pa_cons (pe_callB (cr_all rfl) (by rfl) ma (by decide +kernel) (pa_cons (pe_lc (own := [("number", 2)]) (g := gName 2) (tt := tYes) rfl sc_must_be_there.nd (pi_list (pv 1))
          (blkOk_by (own := [("number", 2)]) (N := ["nodes", "numbers", "number"]) (sc := defScope s_must_be_there) (by decide +kernel)) (fun _ _ _ _ _ => pg_name (i := 2) sc_must_be_there.nd rfl (Or.inl rfl)) (fun _ _ _ _ _ => pts_nil)
          (fun _ _ _ _ _ => pe_cmpR op_lt (pv 2) (pe_callB (cr_len (K := K)) (by rfl) ml PySem.boot_len (pa_cons (pv 0) pa_nil)) (nomark _))) pa_nil)) (pa_cons (pgi gN) pa_nil)))), ?_⟩
    refine ⟨_, rfl, r, rfl, ⟨_, hS⟩, fun D hD => lc_all walk_list (fun i y _ => ∃ x, ids[i]? = some x ∧ y = V.bl (decide (x < g.length))) hD (by rw [List.length_map]; omega) (fun H2 s2 => s2.seq hS) (fun _ _ _ _ h _ => h) ?_ ?_⟩
    · rintro i y H2 H3 hi s2 ⟨rfl, hx⟩ Q2 Z hq
      obtain ⟨x, e1, rfl⟩ := map_get_inv hx
      obtain ⟨xs2, hX2, hxl2⟩ := (hN.same s2).sq (K := K)
      refine lc_in rfl ?_
      refine ⟨_, rfl, _, rfl, q, _, rfl, .inl hX2, _, _, rfl, rfl, ?_⟩
      refine hq _ _ (Same.refl _) ⟨x, e1, ?_⟩
      show V.bl (decide ((x : Int) < (xs2.length : Int))) = _
      rw [hxl2]
      exact congrArg V.bl (decide_eq_decide.mpr (by omega))
    · intro H2 acc2 s2 eD2 hacc2 hr2
      rw [List.length_map] at hacc2
      refine ⟨D, _, rfl, .inl (.inl (by rw [eD2, bools_ids acc2 ids hacc2 hr2])), ?_⟩
      have e : ∀ b : Bool, ((ids.map fun x => decide (x < g.length)).all id) = b → there g.length ids = b := fun b h => by
        rw [← h, List.all_map]
        rfl
      exact ⟨_, _, rfl, fun hall => k1 (e _ hall) H2 s2, fun hall => (k2 (e _ hall)).mono s2⟩
end
/-! ### asked_by -/
section
variable {P : Program} {w : World} {K : PySem.W.Frag} {mg : Str → Option Value} {base : Heap}
theorem sc_asked_by : FnScope ["nodes", "pair", "x", "y"] ["nodes", "pair"] (defScope s_asked_by) := ⟨rfl, rfl, rfl, by decide +kernel, rfl, by decide +kernel, by decide +kernel⟩
def sp_asked_by : Sp := fun vs H Q _ => ∃ (q t : Addr) (g : Krk0.Graph) (p : Nat × Nat), vs = [.ref q, .ref t] ∧ NodesAt H q g ∧ Krk0.graphOk g = true ∧ inP g.length p ∧ H t = some (.tup (pT p)) ∧ ∀ H' r, Same H H' → H r = none → PairsAt H' r (asks g p) → Q (.ref r) H'
theorem nV_ne (a b : Nat) : (!decide (nV a = nV b)) = decide (a ≠ b) := by
  rw [nV_eq]
  by_cases h : a = b
  · rw [decide_eq_true h, decide_eq_false (fun z => z h)]; rfl
  · rw [decide_eq_false h, decide_eq_true h]; rfl
/-- a list of two new tuples -/
theorem two_new {H : Hp} {Q : VK} {a b : Nat × Nat} (k : ∀ H' r, Same H H' → H r = none → PairsAt H' r [a, b] → Q (.ref r) H') {t1 : Addr} (h1 : H t1 = none) {t2 : Addr} (h2 : upd H t1 (.tup (pT a)) t2 = none) {r : Addr} (h3 : upd (upd H t1 (.tup (pT a))) t2 (.tup (pT b)) r = none) :
    Q (.ref r) (upd (upd (upd H t1 (.tup (pT a))) t2 (.tup (pT b))) r (.lst [.ref t1, .ref t2])) := by
  have s1 := same_upd (o := .tup (pT a)) h1
  have s2 := same_upd (o := .tup (pT b)) h2
  have s3 := same_upd (o := .lst [.ref t1, .ref t2]) h3
  exact k _ r ((s1.trans s2).trans s3) ((s1.trans s2).free h3) ⟨[t1, t2], upd_same, .cons (s3 _ _ (s2 _ _ upd_same)) (.cons (s3 _ _ upd_same) .nil)⟩
theorem none_new {H : Hp} {Q : VK} (k : ∀ H' r, Same H H' → H r = none → PairsAt H' r [] → Q (.ref r) H') {r : Addr} (h3 : H r = none) : Q (.ref r) (upd H r (.lst [])) := k _ r (same_upd h3) h3 ⟨[], upd_same, .nil⟩
theorem ok_asked_by {f : Addr} {fd : FuncData} (F : Fun K "asked_by" "asked_by" s_asked_by f fd) (g0 : Ki mg "NOTHING" 0) (g1 : Ki mg "ANYTHING" 1) (g4 : Ki mg "PAIR" 4) (g5 : Ki mg "CHOICE" 5) (g6 : Ki mg "FUNCTION" 6) : FnOk P w K mg base CX0 1 f fd ["nodes", "pair"] sp_asked_by := by
  refine F.ok sc_asked_by (fun vs H Q E h => ?_) (fun cdv A outer s H vs Q E hr h => ?_)
  · obtain ⟨q, t, g, p, rfl, _⟩ := h
    rfl
  · obtain ⟨q, t, g, p, rfl, hN, hok, hp, ht, k⟩ := h
    refine ⟨_, pss_cons (ps_set (i := 2) sc_asked_by.nd rfl (.inl rfl) (pe_ix ix_list (pv 0) (pe_ix ix_tup (pv 1) pe_int (fun _ _ => rfl)) (fun _ _ => rfl)))
      (pss_cons (ps_set (i := 3) sc_asked_by.nd rfl (.inl rfl) (pe_ix ix_list (pv 0) (pe_ix ix_tup (pv 1) pe_int (fun _ _ => rfl)) (fun _ _ => rfl)))
      (pss_cons (ps_if (PW.pt (pw_or (pt_cmpR op_eq (pe_ix ix_tup (pv 2) pe_int (fun _ _ => rfl)) (pgi g0) (nomark _)) (pw_or (pt_cmpR op_eq (pe_ix ix_tup (pv 3) pe_int (fun _ _ => rfl)) (pgi g1) (nomark _)) (pw_or1 (pt_cmpR op_ne (pe_ix ix_tup (pv 2) pe_int (fun _ _ => rfl)) (pe_ix ix_tup (pv 3) pe_int (fun _ _ => rfl)) (nomark _)))))) (pss_one (ps_ret (pe_lst pa_nil))) pss_nil)
      (pss_cons (ps_if (PW.pt (pw_or (pt_cmpR op_eq (pe_ix ix_tup (pv 2) pe_int (fun _ _ => rfl)) (pgi g4) (nomark _)) (pw_or1 (pt_cmpR op_eq (pe_ix ix_tup (pv 2) pe_int (fun _ _ => rfl)) (pgi g5) (nomark _)))))
        (pss_one (ps_ret (pe_lst (pa_cons (pe_tup (pa_cons (pe_ix ix_tup (pv 2) pe_int (fun _ _ => rfl)) (pa_cons (pe_ix ix_tup (pv 3) pe_int (fun _ _ => rfl)) pa_nil))) (pa_cons (pe_tup (pa_cons (pe_ix ix_tup (pv 2) pe_int (fun _ _ => rfl)) (pa_cons (pe_ix ix_tup (pv 3) pe_int (fun _ _ => rfl)) pa_nil))) pa_nil))))) pss_nil)
      (pss_cons (ps_if (pt_cmpR op_eq (pe_ix ix_tup (pv 2) pe_int (fun _ _ => rfl)) (pgi g6) (nomark _))
        (pss_one (ps_ret (pe_lst (pa_cons (pe_tup (pa_cons (pe_ix ix_tup (pv 3) pe_int (fun _ _ => rfl)) (pa_cons (pe_ix ix_tup (pv 2) pe_int (fun _ _ => rfl)) pa_nil))) (pa_cons (pe_tup (pa_cons (pe_ix ix_tup (pv 2) pe_int (fun _ _ => rfl)) (pa_cons (pe_ix ix_tup (pv 3) pe_int (fun _ _ => rfl)) pa_nil))) pa_nil))))) pss_nil)
      (pss_one (ps_ret (pe_lst pa_nil))))))), ?_⟩
    obtain ⟨xs, tx, hX, hxl, hatx, htx⟩ := hN.get (K := K) (Rt.get_at hp.1)
    obtain ⟨ys, ty, hY, hyl, haty, hty⟩ := hN.get (K := K) (Rt.get_at hp.2)
    have st : SqT K H t (pT p) := .inl (.inl ht)
    have sx : SqT K H tx [nV (Krk0.at_ g p.1).kind, nV (Krk0.at_ g p.1).a, nV (Krk0.at_ g p.1).b] := .inl (.inl htx)
    have sy : SqT K H ty [nV (Krk0.at_ g p.2).kind, nV (Krk0.at_ g p.2).a, nV (Krk0.at_ g p.2).b] := .inl (.inl hty)
    -- x, y
    refine ⟨_, rfl, _, rfl, t, _, _, _, rfl, rfl, st, at2a, q, _, _, _, rfl, rfl, hX, hatx, ?_⟩
    refine ⟨_, rfl, _, rfl, t, _, _, _, rfl, rfl, st, at2b, q, _, _, _, rfl, rfl, hY, haty, ?_⟩
    refine ⟨_, rfl, tx, _, _, _, rfl, rfl, sx, rfl, rfl, _, rfl, ?_⟩
    by_cases h0 : (Krk0.at_ g p.1).kind = 0
    · refine if_true_of (decide_eq_true (by rw [h0]; rfl)) ?_
      rw [asks_nil (.inl h0)] at k
      exact iteT ⟨(by show 0 ≤ sizeLine; decide), fun r hr0 => none_new k hr0⟩
    refine if_false_of (decide_eq_false (fun z => h0 (by injection z with z; omega))) ?_
    refine ⟨_, rfl, ty, _, _, _, rfl, rfl, sy, rfl, rfl, _, rfl, ?_⟩
    by_cases h1 : (Krk0.at_ g p.2).kind = 1
    · refine if_true_of (decide_eq_true (by rw [h1]; rfl)) ?_
      rw [asks_nil (.inr (.inl h1))] at k
      exact iteT ⟨(by show 0 ≤ sizeLine; decide), fun r hr0 => none_new k hr0⟩
    refine if_false_of (decide_eq_false (fun z => h1 (by injection z with z; omega))) ?_
    refine ⟨_, rfl, tx, _, _, _, rfl, rfl, sx, rfl, _, rfl, ty, _, _, _, rfl, rfl, sy, rfl, rfl, _, rfl, ?_⟩
    by_cases h2 : (Krk0.at_ g p.1).kind = (Krk0.at_ g p.2).kind
    case neg =>
      refine if_true_of (by rw [nV_ne]; exact decide_eq_true h2) ?_
      rw [asks_nil (.inr (.inr h2))] at k
      exact ⟨(by show 0 ≤ sizeLine; decide), fun r hr0 => none_new k hr0⟩
    refine if_false_of (by rw [nV_ne]; exact decide_eq_false (fun z => z h2)) ?_
    refine ⟨_, rfl, tx, _, _, _, rfl, rfl, sx, rfl, rfl, _, rfl, ?_⟩
    -- two tuples of x, y
    have two : ((Krk0.at_ g p.1).kind = 4 ∨ (Krk0.at_ g p.1).kind = 5) → tRet (tLst (tCons (tTup (tCons (tOp (rIxT K) (tVar 2) (tC (.int 1))) (tCons (tOp (rIxT K) (tVar 3) (tC (.int 1))) tNil))) (tCons (tTup (tCons (tOp (rIxT K) (tVar 2) (tC (.int 2))) (tCons (tOp (rIxT K) (tVar 3) (tC (.int 2))) tNil))) tNil)))
        { nx := fun _ H' => Q .non H', rt := Q } [some (.ref q), some (.ref t), some (.ref tx), some (.ref ty)] H := fun h45 => by
      rw [asks_two h45 h2] at k
      refine ⟨_, rfl, tx, _, _, _, rfl, rfl, sx, rfl, _, rfl, ty, _, _, _, rfl, rfl, sy, rfl, (by show 2 ≤ sizeLine; decide), fun t1 ht1 => ?_⟩
      have s1 := same_upd (o := .tup (pT ((Krk0.at_ g p.1).a, (Krk0.at_ g p.2).a))) ht1
      refine ⟨_, rfl, tx, _, _, _, rfl, rfl, .inl (.inl (s1 _ _ htx)), rfl, _, rfl, ty, _, _, _, rfl, rfl, .inl (.inl (s1 _ _ hty)), rfl, (by show 2 ≤ sizeLine; decide), fun t2 ht2 => ⟨(by show 2 ≤ sizeLine; decide), fun r hr0 => two_new k ht1 ht2 hr0⟩⟩
    by_cases h4 : (Krk0.at_ g p.1).kind = 4
    · exact if_true_of (decide_eq_true (by rw [h4]; rfl)) (iteT (two (.inl h4)))
    refine if_false_of (decide_eq_false (fun z => h4 (by injection z with z; omega))) ?_
    refine ⟨_, rfl, tx, _, _, _, rfl, rfl, sx, rfl, rfl, _, rfl, ?_⟩
    by_cases h5 : (Krk0.at_ g p.1).kind = 5
    · exact if_true_of (decide_eq_true (by rw [h5]; rfl)) (two (.inr h5))
    refine if_false_of (decide_eq_false (fun z => h5 (by injection z with z; omega))) ?_
    refine ⟨_, rfl, tx, _, _, _, rfl, rfl, sx, rfl, rfl, _, rfl, ?_⟩
    by_cases h6 : (Krk0.at_ g p.1).kind = 6
    · refine if_true_of (decide_eq_true (by rw [h6]; rfl)) ?_
      rw [asks_fun h6 (h2.symm.trans h6)] at k
      refine ⟨_, rfl, ty, _, _, _, rfl, rfl, sy, rfl, _, rfl, tx, _, _, _, rfl, rfl, sx, rfl, (by show 2 ≤ sizeLine; decide), fun t1 ht1 => ?_⟩
      have s1 := same_upd (o := .tup (pT ((Krk0.at_ g p.2).a, (Krk0.at_ g p.1).a))) ht1
      refine ⟨_, rfl, tx, _, _, _, rfl, rfl, .inl (.inl (s1 _ _ htx)), rfl, _, rfl, ty, _, _, _, rfl, rfl, .inl (.inl (s1 _ _ hty)), rfl, (by show 2 ≤ sizeLine; decide), fun t2 ht2 => ⟨(by show 2 ≤ sizeLine; decide), fun r hr0 => two_new k ht1 ht2 hr0⟩⟩
    · refine if_false_of (decide_eq_false (fun z => h6 (by injection z with z; omega))) ?_
      have h3 : (Krk0.at_ g p.1).kind ≤ 3 := by
        by_cases h3 : 3 < (Krk0.at_ g p.1).kind
        · have := (Rt.nodeOk_inner (Rt.ok_get hok (Rt.get_at hp.1)) h3).1
          omega
        · omega
      rw [asks_leaf h3] at k
      exact ⟨(by show 0 ≤ sizeLine; decide), fun r hr0 => none_new k hr0⟩
end
/-! ### fails -/
section
variable {P : Program} {w : World} {K : PySem.W.Frag} {mg : Str → Option Value} {base : Heap}
theorem sc_fails : FnScope ["nodes", "pair", "x", "y"] ["nodes", "pair"] (defScope s_fails) := ⟨rfl, rfl, rfl, by decide +kernel, rfl, by decide +kernel, by decide +kernel⟩
def sp_fails : Sp := fun vs H Q _ => ∃ (q t : Addr) (g : Krk0.Graph) (p : Nat × Nat), vs = [.ref q, .ref t] ∧ NodesAt H q g ∧ inP g.length p ∧ H t = some (.tup (pT p)) ∧ Q (.bl (failsB g p)) H
theorem ok_fails {f : Addr} {fd : FuncData} (F : Fun K "fails" "fails" s_fails f fd) (g0 : Ki mg "NOTHING" 0) (g1 : Ki mg "ANYTHING" 1) : FnOk P w K mg base CX0 1 f fd ["nodes", "pair"] sp_fails := by
  refine F.ok sc_fails (fun vs H Q E h => ?_) (fun cdv A outer s H vs Q E hr h => ?_)
  · obtain ⟨q, t, g, p, rfl, _⟩ := h
    rfl
  · obtain ⟨q, t, g, p, rfl, hN, hp, ht, k⟩ := h
    refine ⟨_, pss_cons (ps_set (i := 2) sc_fails.nd rfl (.inl rfl) (pe_ix ix_tup (pe_ix ix_list (pv 0) (pe_ix ix_tup (pv 1) pe_int (fun _ _ => rfl)) (fun _ _ => rfl)) pe_int (fun _ _ => rfl)))
      (pss_cons (ps_set (i := 3) sc_fails.nd rfl (.inl rfl) (pe_ix ix_tup (pe_ix ix_list (pv 0) (pe_ix ix_tup (pv 1) pe_int (fun _ _ => rfl)) (fun _ _ => rfl)) pe_int (fun _ _ => rfl)))
      (pss_one (ps_ret (pe_and (pe_cmpR op_ne (pv 2) (pgi g0) (nomark _)) (pe_and (pe_cmpR op_ne (pv 3) (pgi g1) (nomark _)) (pe_one (pe_cmpR op_ne (pv 2) (pv 3) (nomark _)))))))), ?_⟩
    obtain ⟨xs, tx, hX, hxl, hatx, htx⟩ := hN.get (K := K) (Rt.get_at hp.1)
    obtain ⟨ys, ty, hY, hyl, haty, hty⟩ := hN.get (K := K) (Rt.get_at hp.2)
    have st : SqT K H t (pT p) := .inl (.inl ht)
    refine ⟨_, rfl, _, rfl, t, _, _, _, rfl, rfl, st, at2a, q, _, _, _, rfl, rfl, hX, hatx, tx, _, _, _, rfl, rfl, .inl (.inl htx), rfl, ?_⟩
    refine ⟨_, rfl, _, rfl, t, _, _, _, rfl, rfl, st, at2b, q, _, _, _, rfl, rfl, hY, haty, ty, _, _, _, rfl, rfl, .inl (.inl hty), rfl, ?_⟩
    unfold failsB at k
    refine ⟨_, rfl, rfl, _, rfl, ?_⟩
    by_cases h0 : (Krk0.at_ g p.1).kind = 0
    · refine if_false_of (by rw [h0]; rfl) ?_
      rw [decide_eq_false (fun z => z h0), Bool.false_and] at k
      exact k
    refine if_true_of (by rw [show V.int 0 = nV 0 from rfl, nV_ne]; exact decide_eq_true h0) ?_
    rw [decide_eq_true h0, Bool.true_and] at k
    refine ⟨_, rfl, rfl, _, rfl, ?_⟩
    by_cases h1 : (Krk0.at_ g p.2).kind = 1
    · refine if_false_of (by rw [h1]; rfl) ?_
      rw [decide_eq_false (fun z => z h1), Bool.false_and] at k
      exact k
    refine if_true_of (by rw [show V.int 1 = nV 1 from rfl, nV_ne]; exact decide_eq_true h1) ?_
    rw [decide_eq_true h1, Bool.true_and, ← nV_ne] at k
    exact ⟨_, rfl, _, rfl, rfl, k⟩
end
/-! ### ways_from -/
section
variable {P : Program} {w : World} {K : PySem.W.Frag} {mg : Str → Option Value} {base : Heap}
theorem sc_ways_from : FnScope ["nodes", "start", "found", "row", "at", "step", "pair"] ["nodes", "start"] (defScope s_ways_from) := ⟨rfl, rfl, rfl, by decide +kernel, rfl, by decide +kernel, by decide +kernel⟩
def sp_ways_from : Sp := fun vs H Q _ => ∃ (q t : Addr) (g : Krk0.Graph) (p : Nat × Nat), vs = [.ref q, .ref t] ∧ NodesAt H q g ∧ Krk0.graphOk g = true ∧ inP g.length p ∧ H t = some (.tup (pT p)) ∧ ∀ H' d, Same H H' → WaysAt H' d (allW g p) → Q (.ref d) H'
/-- the dict at d and the row at r, made behind H, tell R -/
structure WSt (H H' : Hp) (d r : Addr) (R : WRow) : Prop where
  same : Same H H'
  nd : H d = none
  nr : H r = none
  ex : ∃ (kvs : List (List Key × V)) (ts : List Addr), H' d = some (.dT kvs) ∧ H' r = some (.lst (ts.map V.ref)) ∧ WEnt H' r kvs R ∧ PT2 H' ts (R.map (·.1))
theorem WSt.later {H H1 H2 : Hp} {d r : Addr} {R : WRow} (h : WSt H H1 d r R) (s : Same H1 H2) : WSt H H2 d r R := by
  obtain ⟨kvs, ts, a, b, c, e⟩ := h.ex
  exact ⟨h.same.trans s, h.nd, h.nr, kvs, ts, s _ _ a, s _ _ b, c.mono fun x l e1 e2 => ⟨e1, s _ _ e2⟩, e.same fun x l z => s _ _ z⟩
theorem ok_ways_from {f : Addr} {fd : FuncData} (F : Fun K "ways_from" "ways_from" s_ways_from f fd) (c1 : Cal CX0 P w K mg base 1 "asked_by" ["nodes", "pair"] sp_asked_by) (ml : mg "len" = none) (me : mg "enumerate" = none) : FnOk P w K mg base CX0 2 f fd ["nodes", "start"] sp_ways_from := by
  refine F.ok sc_ways_from (fun vs H Q E h => ?_) (fun cdv A outer s H vs Q E hr h => ?_)
  · obtain ⟨q, t, g, p, rfl, _⟩ := h
    rfl
  · obtain ⟨q, t, g, p, rfl, hN, hok, hp, ht, k⟩ := h
    refine ⟨_, pss_cons (ps_set (i := 2) sc_ways_from.nd rfl (.inl rfl) (pe_disp1T (hu_of hr) (pv 1) (pe_lst pa_nil)))
      (pss_cons (ps_set (i := 3) sc_ways_from.nd rfl (.inl rfl) (pe_lst (pa_cons (pv 1) pa_nil)))
      (pss_cons (ps_set (i := 4) sc_ways_from.nd rfl (.inl rfl) pe_int)
      (pss_cons (ps_while PassesOwn.never (pt_cmpR op_lt (pv 4) (pe_callB (cr_len (K := K)) (by rfl) ml PySem.boot_len (pa_cons (pv 3) pa_nil)) (nomark _))
        (pss_cons (ps_for PassesOwn.never rfl (pi_enum (by rfl) me (pa_cons (pc0 c1 hr (by decide) (pa_cons (pv 0) (pa_cons (pe_ix ix_list (pv 3) (pv 4) (fun _ _ => rfl)) pa_nil))) pa_nil))
            (pg_tup rfl (pgs_cons (pg_name (i := 5) sc_ways_from.nd rfl (.inl rfl)) (pgs_cons (pg_name (i := 6) sc_ways_from.nd rfl (.inl rfl)) pgs_nil)))
          (pss_one (ps_if (pt_cmp (pc_dnotin (hu_of hr) (pv 6) (pv 2)))
            (pss_cons (ps_dput (hu_of hr) (pv 2) (pv 6) (pe_op op_cat (pe_dget (hu_of hr) (pv 2) (pe_ix ix_list (pv 3) (pv 4) (fun _ _ => rfl)) (fun _ _ => rfl)) (pe_lst (pa_cons (pv 5) pa_nil))) rfl)
              (pss_one (ps_expr (pe_bm PySem.F.plainAttrs_list PySem.F.slot_list_append PySem.F.type_list_append mt_append (pv 3) (pa_cons (pv 6) pa_nil))))) pss_nil)))
        (pss_one (ps_set (i := 4) sc_ways_from.nd rfl (.inl rfl) (pe_op op_add (pv 4) pe_int)))))
      (pss_one (ps_ret (pv 2)))))), ?_⟩
    have hgl := Rt.ok_len hok
    -- found = {start: []}
    intro d hd
    refine ⟨_, rfl, (by show 0 ≤ sizeLine; decide), fun a0 ha0 => ?_⟩
    have s1 : Same H (upd H d (.dT [])) := same_upd hd
    have s2 := s1.trans (same_upd (o := .lst []) ha0)
    have hda : d ≠ a0 := fun e => by rw [← e, upd_same] at ha0; cases ha0
    refine ⟨by rw [upd_ne hda, upd_same], t, key2 p, rfl, s2 _ _ ht, ?_⟩
    have s3 : Same H (upd (upd (upd H d (.dT [])) a0 (.lst [])) d (.dT [(key2 p, .ref a0)])) := same_new s2 hd
    have ed3 : upd (upd (upd H d (.dT [])) a0 (.lst [])) d (.dT [(key2 p, .ref a0)]) d = some (.dT [(key2 p, .ref a0)]) := upd_same
    have ea3 : upd (upd (upd H d (.dT [])) a0 (.lst [])) d (.dT [(key2 p, .ref a0)]) a0 = some (.lst []) := by rw [upd_ne (Ne.symm hda), upd_same]
    generalize upd (upd (upd H d (.dT [])) a0 (.lst [])) d (.dT [(key2 p, .ref a0)]) = H3 at s3 ed3 ea3
    -- row = [start]
    refine ⟨_, rfl, (by show 1 ≤ sizeLine; decide), fun r hr0 => ?_⟩
    have s4 := same_upd (o := .lst [.ref t]) hr0
    have w0 : WSt H (upd H3 r (.lst [.ref t])) d r [(p, [])] := ⟨s3.trans s4, hd, s3.free hr0, [(key2 p, .ref a0)], [t], s4 _ _ ed3, upd_same, .cons ⟨rfl, a0, rfl, ne_of_none ea3 hr0, s4 _ _ ea3⟩ .nil, .cons (s4 _ _ (s3 _ _ ht)) .nil⟩
    generalize upd H3 r (.lst [.ref t]) = H4 at w0
    -- the walk
    refine ⟨fun m σ H' => ∃ (at' : Nat) (R : WRow) (y5 y6 : Option V), σ = [some (.ref q), some (.ref t), some (.ref d), some (.ref r), some (nV at'), y5, y6] ∧ WSt H H' d r R ∧ RowAt g p at' R ∧ at' ≤ R.length ∧ m + at' = g.length * g.length + 1 ∧ bfs g m at' R = allW g p,
      ⟨g.length * g.length + 1, 0, _, none, none, rfl, w0, .start hp, Nat.zero_le _, rfl, rfl⟩, ?_⟩
    rintro m σ H5 ⟨at', R, y5, y6, rfl, hW, hR, hat, hm, hbfs⟩
    obtain ⟨kvs, ts, ed, er, hE, hT⟩ := hW.ex
    have htl : ts.length = R.length := by rw [Paired.length hT, List.length_map]
    have hRl := hR.len
    refine ⟨_, rfl, _, rfl, r, _, rfl, .inl (.inl (.inl er)), _, _, rfl, rfl, _, rfl, ?_⟩
    rw [List.length_map, htl]
    by_cases hlt : at' < R.length
    case neg =>
      refine if_false_of (decide_eq_false (by omega)) ?_
      have e : R = allW g p := by
        rw [← hbfs]
        cases m with
        | zero => rfl
        | succ m =>
          show R = (match R[at']? with
            | none => R
            | some x => bfs g m (at' + 1) (turnW g R x.1 x.2))
          rw [List.getElem?_eq_none (by omega)]
      rw [← e] at k
      exact ⟨_, rfl, k H5 d hW.same ⟨kvs, r, ed, hE⟩⟩
    refine if_true_of (decide_eq_true (by omega)) ?_
    obtain ⟨x, hx⟩ : ∃ x, R[at']? = some x := ⟨_, List.getElem?_eq_getElem hlt⟩
    obtain ⟨m, rfl⟩ : ∃ m', m = m' + 1 := ⟨m - 1, by omega⟩
    have hb' : bfs g m (at' + 1) (turnW g R x.1 x.2) = allW g p := by
      rw [← hbfs]
      show _ = (match R[at']? with
        | none => R
        | some x => bfs g m (at' + 1) (turnW g R x.1 x.2))
      rw [hx]
    have hR' := hR.turn hok hx
    have hxin : inP g.length x.1 := (hR.now x hx).inn x (List.mem_of_getElem? hx)
    refine ⟨fun σ' H6 => ∃ (R' : WRow) (y5 y6 : Option V), σ' = [some (.ref q), some (.ref t), some (.ref d), some (.ref r), some (nV (at' + 1)), y5, y6] ∧ WSt H H6 d r R' ∧ R' = turnW g R x.1 x.2, ?_, ?_⟩
    · rintro σ' H6 ⟨R', z5, z6, e1, e2, rfl⟩
      refine ⟨m, by omega, at' + 1, _, z5, z6, e1, e2, hR', ?_, by omega, hb'⟩
      have := (List.getElem?_eq_some_iff.mp (turn_keeps g R x.1 x.2 hx)).1
      omega
    -- asked_by(nodes, row[at])
    obtain ⟨t1, et1, ht1⟩ := pgetR hT (i := at') (y := x.1) (by rw [List.getElem?_map, hx]; rfl)
    refine ⟨_, rfl, _, rfl, _, rfl, r, _, _, _, rfl, rfl, .inl (.inl er), atI_nat (map_get et1), q, t1, g, x.1, rfl, hN.same hW.same, hok, hxin, ht1, fun H6 rq s6 nq hA => ?_⟩
    obtain ⟨ts2, er2, hts2⟩ := hA.ex
    have hl2 : ts2.length = (asks g x.1).length := Paired.length hts2
    have hshort := asks_short g x.1
    have W6 := hW.later s6
    refine ⟨rq, ts2.map V.ref, rfl, .inl (.inl er2), for_it walk_enum (fun j σ' H' => ∃ (R' : WRow) (y5 y6 : Option V), σ' = [some (.ref q), some (.ref t), some (.ref d), some (.ref r), some (nV at'), y5, y6] ∧ WSt H H' d r R' ∧ R' = (((asks g x.1).zipIdx).take j).foldl (addW x.2) R ∧
        RowOk g p at' (2 * cd x.2 + j) R' ∧ R'[at']? = some x ∧ H' rq = some (.lst (ts2.map V.ref)) ∧ PT2 H' ts2 (asks g x.1) ∧ rq ≠ r ∧ rq ≠ d) ⟨R, y5, y6, rfl, W6, rfl, hR.now x hx, hx, er2, hts2, fun e => ?_, fun e => ?_⟩ (fun j σ' H' _ h => let ⟨_, _, _, _, _, _, _, _, e, _⟩ := h; .inl (.inl e)) ?_ ?_⟩
    · rw [e, er] at nq; cases nq
    · rw [e, ed] at nq; cases nq
    · rintro j v σ' H6' H7 hj ⟨R', z5, z6, rfl, W', eR, hRow, hRx, erq, hts, n1, n2⟩ ⟨T, x0, y0, rfl, nT, rfl, e0, ey⟩
      have e0 := Option.some.inj e0
      subst e0
      obtain ⟨t2, et2, rfl⟩ := map_get_inv ey
      obtain ⟨qj, eqj, ht2⟩ := pgetL hts et2
      have sT := same_upd (o := .tup [.int (j : Nat), .ref t2]) nT
      have WT := W'.later sT
      have erqT := sT _ _ erq
      have htsT : PT2 (upd H6' T (.tup [.int (j : Nat), .ref t2])) ts2 (asks g x.1) := hts.same fun c l z => sT _ _ z
      have ht2T := sT _ _ ht2
      have eTT : upd H6' T (.tup [.int (j : Nat), .ref t2]) T = some (.tup [.int (j : Nat), .ref t2]) := upd_same
      generalize upd H6' T (.tup [.int (j : Nat), .ref t2]) = HT at sT WT erqT htsT ht2T eTT
      obtain ⟨kvs', ts', ed', er', hE', hT'⟩ := WT.ex
      obtain ⟨hRow', hRx', _⟩ := RowOk.add (s := j) hok hRx eqj hRow
      have etake : addW x.2 R' (qj, j) = (((asks g x.1).zipIdx).take (j + 1)).foldl (addW x.2) R := by
        rw [List.take_add_one, List.foldl_append, ← eR]
        have : ((asks g x.1).zipIdx)[j]? = some (qj, j) := by rw [List.getElem?_zipIdx, eqj]; simp
        rw [this]
        rfl
      -- step, pair = T
      refine ⟨T, _, rfl, .inl (.inl eTT), rfl, _, _, rfl, _, _, rfl, rfl, ?_⟩
      refine ⟨_, rfl, _, rfl, d, _, rfl, DGet.t (k := key2 qj) ed' (by rw [key2_V]; exact ht2T), _, rfl, ?_⟩
      rw [hE'.has]
      cases hc : (R'.map (·.1)).contains qj with
      | true =>
        refine if_false_of rfl ?_
        have e : addW x.2 R' (qj, j) = R' := if_pos hc
        rw [e] at hRow' hRx' etake
        exact ⟨R', _, _, rfl, WT, etake, hRow', hRx', erqT, htsT, n1, n2⟩
      | false =>
        refine if_true_of rfl ?_
        have e : addW x.2 R' (qj, j) = R' ++ [(qj, x.2 ++ [j])] := if_neg (by rw [hc]; decide)
        rw [e] at hRow' hRx' etake
        have hvn : valV kvs' (key2 qj) = none := by
          have := hE'.has qj
          rw [hc] at this
          cases hv : valV kvs' (key2 qj) with
          | none => rfl
          | some z => rw [hv] at this; cases this
        -- found[row[at]] + [step]
        obtain ⟨t1', et1', ht1'⟩ := pgetR hT' (i := at') (y := x.1) (by rw [List.getElem?_map, hRx]; rfl)
        obtain ⟨kvx, ekx, ek1, aw, ek2, nw, ew⟩ := pgetR hE' hRx
        have hget : valV kvs' (key2 x.1) = some (.ref aw) := valV_get (i := at') (hE'.nd hRow.nd) (by rw [ekx, ← ek1, ← ek2])
        refine ⟨_, rfl, _, rfl, _, rfl, r, _, _, _, rfl, rfl, .inl (.inl er'), atI_nat (map_get et1'), d, _, rfl, (by rw [← hget]; exact DGet.t (k := key2 x.1) ed' (by rw [key2_V]; exact ht1')), ?_⟩
        refine ⟨_, rfl, (by show 1 ≤ sizeLine; decide), fun b hb => ?_⟩
        have s8 := same_upd (o := .lst [.int (j : Nat)]) hb
        have hxl : x.2.length ≤ 1100 := by
          have h1 := hRow.shrt at' x hRx
          have h2 : g.length * g.length ≤ 32 * 32 := Nat.mul_le_mul hgl.2 hgl.2
          omega
        refine ⟨aw, b, _, _, rfl, rfl, s8 _ _ ew, upd_same, sl1000 (by simp; omega), fun wa hwa => ?_⟩
        have s9 := s8.trans (same_upd (o := .lst (x.2.map nV ++ [.int (j : Nat)])) hwa)
        have ewa : upd (upd HT b (.lst [.int (j : Nat)])) wa (.lst (x.2.map nV ++ [.int (j : Nat)])) wa = some (.lst (x.2.map nV ++ [.int (j : Nat)])) := upd_same
        have nwaH : HT wa = none := s8.free hwa
        generalize upd (upd HT b (.lst [.int (j : Nat)])) wa (.lst (x.2.map nV ++ [.int (j : Nat)])) = H9 at s9 ewa
        have hkl : kvs'.length ≤ 1100 := by
          have h1 := hRow.len
          have h2 : g.length * g.length ≤ 32 * 32 := Nat.mul_le_mul hgl.2 hgl.2
          have h3 := Paired.length hE'
          omega
        refine ⟨_, rfl, _, rfl, d, _, rfl, DPut.t (k := key2 qj) (s9 _ _ ed') (by rw [key2_V]; exact s9 _ _ ht2T) (slt1000 (by omega)), ?_⟩
        rw [putK_new _ hvn]
        have hdr : d ≠ r := fun z => by rw [z, er'] at ed'; cases ed'
        have er10 : upd H9 d (.dT (kvs' ++ [(key2 qj, V.ref wa)])) r = some (.lst (ts'.map V.ref)) := by rw [upd_ne (Ne.symm hdr)]; exact s9 _ _ er'
        have htl' : ts'.length ≤ 1100 := by
          have h3 := Paired.length hT'
          rw [List.length_map] at h3
          have h4 := Paired.length hE'
          omega
        refine ⟨_, rfl, .inl ⟨rfl, _, .inl (.inl er10)⟩, _, rfl, r, _, _, rfl, rfl, er10, slt1000 (by rw [List.length_map]; omega), ?_⟩
        have s11 : ∀ c o, c ≠ d → c ≠ r → H9 c = some o → upd (upd H9 d (.dT (kvs' ++ [(key2 qj, V.ref wa)]))) r (.lst (ts'.map V.ref ++ [V.ref t2])) c = some o := fun c o h1 h2 z => by rw [upd_ne h2, upd_ne h1]; exact z
        have ed11 : upd (upd H9 d (.dT (kvs' ++ [(key2 qj, V.ref wa)]))) r (.lst (ts'.map V.ref ++ [V.ref t2])) d = some (.dT (kvs' ++ [(key2 qj, V.ref wa)])) := by rw [upd_ne hdr, upd_same]
        have er11 : upd (upd H9 d (.dT (kvs' ++ [(key2 qj, V.ref wa)]))) r (.lst (ts'.map V.ref ++ [V.ref t2])) r = some (.lst (ts'.map V.ref ++ [V.ref t2])) := upd_same
        generalize upd (upd H9 d (.dT (kvs' ++ [(key2 qj, V.ref wa)]))) r (.lst (ts'.map V.ref ++ [V.ref t2])) = H11 at s11 ed11 er11
        have tups : ∀ c l, HT c = some (.tup l) → H11 c = some (.tup l) := fun c l z => s11 c _ (ne_of z ed' (by intro h; cases h)) (ne_of z er' (by intro h; cases h)) (s9 _ _ z)
        have lsts : ∀ c l, c ≠ r → HT c = some (.lst l) → H11 c = some (.lst l) := fun c l hcr z => s11 c _ (ne_of z ed' (by intro h; cases h)) hcr (s9 _ _ z)
        have hwad : wa ≠ d := fun z => by rw [z, ed'] at nwaH; cases nwaH
        have hwar : wa ≠ r := fun z => by rw [z, er'] at nwaH; cases nwaH
        refine ⟨_, _, _, rfl, ⟨fun c o z => ?_, hW.nd, hW.nr, kvs' ++ [(key2 qj, V.ref wa)], ts' ++ [t2], ed11, ?_, ?_, ?_⟩, etake, hRow', hRx', lsts rq _ n1 erqT, htsT.same tups, n1, n2⟩
        · exact s11 c o (ne_of_none z hW.nd) (ne_of_none z hW.nr) (s9 _ _ (WT.same _ _ z))
        · rw [er11, List.map_append]
          rfl
        · refine Paired.snoc (hE'.mono fun c l h1 h2 => ⟨h1, lsts c l h1 h2⟩) ⟨rfl, wa, rfl, hwar, ?_⟩
          rw [s11 wa _ hwad hwar ewa, List.map_append]
          rfl
        · rw [List.map_append]
          exact Paired.snoc (hT'.same tups) (tups _ _ ht2T)
    · rintro σ' H7 ⟨R', z5, z6, rfl, W', eR, hRow, hRx, erq, hts, n1, n2⟩
      refine ⟨_, rfl, _, _, rfl, rfl, R', z5, z6, rfl, W', ?_⟩
      rw [eR, List.take_of_length_le (by rw [List.length_zipIdx, List.length_map]; omega)]
      rfl
end
/-! ### first_failing -/
section
variable {P : Program} {w : World} {K : PySem.W.Frag} {mg : Str → Option Value} {base : Heap}
theorem sc_first_failing : FnScope ["nodes", "start", "ways", "pair"] ["nodes", "start"] (defScope s_first_failing) := ⟨rfl, rfl, rfl, by decide +kernel, rfl, by decide +kernel, by decide +kernel⟩
/-- a list: of the way that is the first, if there's one -/
def OneAt (H : Hp) (r : Addr) : Option (List Nat) → Prop
  | none => H r = some (.lst [])
  | some w => ∃ a, H r = some (.lst [.ref a]) ∧ H a = some (.lst (w.map nV))
theorem dp_one {K : PySem.W.Frag} {H : Hp} {r : Addr} {o : Option (List Nat)} (h : OneAt H r o) : ∃ xs ds, SqL K H r xs ∧ DpAll K H xs ds ∧ SeqAt.shaped (.list ds) = true ∧ xs.isEmpty = o.isNone := by
  cases o with
  | none => exact ⟨[], [], .inl (.inl h), .nil, rfl, rfl⟩
  | some w =>
    obtain ⟨a, h1, h2⟩ := h
    refine ⟨[.ref a], [.list ((w.map fun (n : Nat) => (n : Int)).map PyData.int)], .inl (.inl h1), .cons (.lst (.inl (.inl h2)) ?_) .nil, ?_, rfl⟩
    · have : w.map nV = (w.map fun (n : Nat) => (n : Int)).map V.int := by rw [List.map_map]; rfl
      rw [this]
      exact dp_ints _
    · refine shaped_list (n := 1) (by decide) fun d hd => ?_
      rw [List.mem_singleton.mp hd]
      have := shaped_ints (w.map fun (n : Nat) => (n : Int))
      refine ⟨SeqAt.canLay_of_shaped this, ?_⟩
      have h0 : ∀ ns : List Int, PyData.depthAll (ns.map PyData.int) = 0 := by
        intro ns
        induction ns with
        | nil => rfl
        | cons n ns ih =>
          show max 0 (PyData.depthAll (ns.map PyData.int)) = 0
          rw [ih]
          rfl
      show PyData.depthAll _ + 1 ≤ 1
      rw [h0]
      exact Nat.le_refl _
def sp_first_failing : Sp := fun vs H Q _ => ∃ (q t : Addr) (g : Krk0.Graph) (p : Nat × Nat), vs = [.ref q, .ref t] ∧ NodesAt H q g ∧ Krk0.graphOk g = true ∧ inP g.length p ∧ H t = some (.tup (pT p)) ∧ ∀ H' r, Same H H' → OneAt H' r (firstF g p) → Q (.ref r) H'
theorem ok_first_failing {f : Addr} {fd : FuncData} (F : Fun K "first_failing" "first_failing" s_first_failing f fd) (c1 : Cal CX0 P w K mg base 2 "ways_from" ["nodes", "start"] sp_ways_from) (c2 : Cal CX0 P w K mg base 1 "fails" ["nodes", "pair"] sp_fails) : FnOk P w K mg base CX0 3 f fd ["nodes", "start"] sp_first_failing := by
  refine F.ok sc_first_failing (fun vs H Q E h => ?_) (fun cdv A outer s H vs Q E hr h => ?_)
  · obtain ⟨q, t, g, p, rfl, _⟩ := h
    rfl
  · obtain ⟨q, t, g, p, rfl, hN, hok, hp, ht, k⟩ := h
    refine ⟨_, pss_cons (ps_set (i := 2) sc_first_failing.nd rfl (.inl rfl) (pc0 c1 hr (by decide) (pa_cons (pv 0) (pa_cons (pv 1) pa_nil))))
      (pss_cons (ps_lock (ps_for PassesOwn.never rfl (pi_keysMT (pv 2)) (pg_name (i := 3) sc_first_failing.nd rfl (.inl rfl))
        (pss_one (ps_if (pt_val (pc0 c2 hr (by decide) (pa_cons (pv 0) (pa_cons (pv 3) pa_nil)))) (pss_one (ps_ret (pe_lst (pa_cons (pe_dget (hu_of hr) (pv 2) (pv 3) (fun _ _ => rfl)) pa_nil)))) pss_nil))))
      (pss_one (ps_ret (pe_lst pa_nil)))), ?_⟩
    refine ⟨_, rfl, _, rfl, q, t, g, p, rfl, hN, hok, hp, ht, fun H1 d s1 hW => ?_⟩
    obtain ⟨n, lim, hRow, _⟩ := allW_ok hok hp
    obtain ⟨kvs, r0, ed, hE⟩ := hW.ex
    have hlen : kvs.length = (allW g p).length := Paired.length hE
    refine ⟨d, _, ed, True.intro, fun od => ?_⟩
    have keep : ∀ c o, H1 c = some o → c = d ∨ upd H1 d (.frz od (.dT kvs)) c = some o := fun c o z => by
      by_cases h : c = d
      · exact .inl h
      · exact .inr (by rw [upd_ne h]; exact z)
    have eL : upd H1 d (.frz od (.dT kvs)) d = some (.frz od (.dT kvs)) := upd_same
    have back : ∀ H', Same (upd H1 d (.frz od (.dT kvs))) H' → Same H1 (upd H' d (.dT kvs)) := fun H' s c o z => by
      by_cases h : c = d
      · subst h
        rw [ed] at z
        rw [upd_same]
        exact z
      · rw [upd_ne h]
        exact s c o (by rw [upd_ne h]; exact z)
    have NL : NodesAt (upd H1 d (.frz od (.dT kvs))) q g := by
      obtain ⟨ts, e1, e2, e3⟩ := (hN.same s1).ex
      refine ⟨ts, ?_, e2, fun i x e => ?_⟩
      · rw [upd_ne (ne_of e1 ed (by intro z; cases z))]
        exact e1
      · obtain ⟨t0, f1, f2⟩ := e3 i x e
        exact ⟨t0, f1, by rw [upd_ne (ne_of f2 ed (by intro z; cases z))]; exact f2⟩
    generalize upd H1 d (.frz od (.dT kvs)) = HL at keep eL back NL
    refine ⟨_, rfl, d, od, kvs, rfl, eL, for_it walk_keysT (fun i σ H' => ∃ y : Option V, σ = [some (.ref q), some (.ref t), some (.ref d), y] ∧ Same HL H' ∧ ∀ (j : Nat) x, j < i → (allW g p)[j]? = some x → failsB g x.1 = false) ⟨none, rfl, Same.refl _, fun j x hj => absurd hj (Nat.not_lt_zero _)⟩ (fun i σ H' _ h => let ⟨_, _, s3, _⟩ := h; s3 _ _ eL) ?_ ?_⟩
    · rintro i v σ H3 H4 hi ⟨y, rfl, s3, hno⟩ ⟨rfl, kk, v0, tq, ekv, rfl, etq⟩
      obtain ⟨x, hx, ek, a, ev, _, ea⟩ := pgetL hE ekv
      subst ek
      subst ev
      rw [key2_V] at etq
      have hxin := hRow.inn x (List.mem_of_getElem? hx)
      refine ⟨_, rfl, _, rfl, q, tq, g, x.1, rfl, NL.same s3, hxin, etq, _, rfl, ?_⟩
      cases hf : failsB g x.1 with
      | true =>
        refine if_true_of rfl ?_
        have hget : valV kvs (key2 x.1) = some (.ref a) := valV_get (hE.nd hRow.nd) ekv
        refine ⟨_, rfl, _, rfl, d, _, rfl, .inr ⟨kvs, key2 x.1, tq, .inr ⟨od, s3 _ _ eL⟩, rfl, by rw [key2_V]; exact etq, hget.symm⟩, (by show 1 ≤ sizeLine; decide), fun r hr0 => ?_⟩
        have s5 := s3.trans (same_upd (o := .lst [.ref a]) hr0)
        have er : upd H4 r (.lst [.ref a]) r = some (.lst [.ref a]) := upd_same
        generalize upd H4 r (.lst [.ref a]) = H5 at s5 er
        refine ⟨s5 _ _ eL, k _ r (s1.trans (back H5 s5)) ?_⟩
        have hfirst : firstF g p = some x.2 := by
          unfold firstF
          have : (allW g p).find? (fun x => failsB g x.1) = some x := by
            rw [List.find?_eq_some_iff_getElem]
            obtain ⟨hi', e'⟩ := List.getElem?_eq_some_iff.mp hx
            refine ⟨hf, i, hi', e', fun j hj => ?_⟩
            rw [hno j _ hj (List.getElem?_eq_getElem (by omega))]
            rfl
          rw [this]
          rfl
        rw [hfirst]
        have hrd : r ≠ d := fun z => by rw [z, s5 _ _ eL] at er; cases er
        have had : a ≠ d := fun z => by rw [z, ed] at ea; cases ea
        refine ⟨a, by rw [upd_ne hrd]; exact er, ?_⟩
        rw [upd_ne had]
        rcases keep a _ ea with z | z
        · exact absurd z had
        · exact s5 _ _ z
      | false =>
        refine if_false_of rfl ?_
        refine ⟨_, rfl, s3, fun j x2 hj e => ?_⟩
        by_cases hji : j < i
        · exact hno j x2 hji e
        · have : j = i := by omega
          subst this
          rw [hx] at e
          have := Option.some.inj e
          subst this
          exact hf
    · rintro σ H3 ⟨y, rfl, s3, hno⟩
      refine ⟨s3 _ _ eL, (by show 0 ≤ sizeLine; decide), fun r hr0 => ?_⟩
      refine k _ r (s1.trans ((back H3 s3).trans (same_upd hr0))) ?_
      have hfirst : firstF g p = none := by
        unfold firstF
        have : (allW g p).find? (fun x => failsB g x.1) = none := by
          rw [List.find?_eq_none]
          intro x hx
          obtain ⟨j, hj⟩ := List.getElem?_of_mem hx
          rw [hno j x (by rw [hlen]; exact get_lt hj) hj]
          decide
        rw [this]
        rfl
      rw [hfirst]
      exact upd_same
end
/-! ### proof_told -/
section
variable {P : Program} {w : World} {K : PySem.W.Frag} {mg : Str → Option Value} {base : Heap}
theorem sc_proof_told : FnScope ["nodes", "start"] ["nodes", "start"] (defScope s_proof_told) := ⟨rfl, rfl, rfl, by decide +kernel, rfl, by decide +kernel, by decide +kernel⟩
def sp_proof_told : Sp := fun vs H Q _ => ∃ (q t : Addr) (g : Krk0.Graph) (p : Nat × Nat), vs = [.ref q, .ref t] ∧ NodesAt H q g ∧ Krk0.graphOk g = true ∧ inP g.length p ∧ H t = some (.tup (pT p)) ∧ ∀ H' r, Same H H' → PairsAt H' r ((allW g p).map (·.1)) → Q (.ref r) H'
theorem keys_PT2 {H : Hp} {r : Addr} : ∀ {kvs : List (List Key × V)} {R : WRow} {bs : List Addr}, WEnt H r kvs R → IsKeys H kvs bs → PT2 H bs (R.map (·.1))
  | _, _, _, .nil, h => by
    unfold IsKeys at h
    cases h
    exact .nil
  | _, _, _, .cons a t, h => by
    unfold IsKeys at h
    cases h with
    | cons b tb =>
      rw [List.map_cons]
      refine .cons ?_ (keys_PT2 t tb)
      rw [a.1, key2_V] at b
      exact b
theorem ok_proof_told {f : Addr} {fd : FuncData} (F : Fun K "proof_told" "proof_told" s_proof_told f fd) (c1 : Cal CX0 P w K mg base 2 "ways_from" ["nodes", "start"] sp_ways_from) (ml : mg "list" = none) : FnOk P w K mg base CX0 3 f fd ["nodes", "start"] sp_proof_told := by
  refine F.ok sc_proof_told (fun vs H Q E h => ?_) (fun cdv A outer s H vs Q E hr h => ?_)
  · obtain ⟨q, t, g, p, rfl, _⟩ := h
    rfl
  · obtain ⟨q, t, g, p, rfl, hN, hok, hp, ht, k⟩ := h
    refine ⟨_, pss_one (ps_ret (pe_listKeysT rfl (pc0 c1 hr (by decide) (pa_cons (pv 0) (pa_cons (pv 1) pa_nil))) ml)), ?_⟩
    refine ⟨_, rfl, _, rfl, q, t, g, p, rfl, hN, hok, hp, ht, fun H1 d s1 hW => ?_⟩
    obtain ⟨kvs, r0, ed, hE⟩ := hW.ex
    refine ⟨d, kvs, rfl, ed, fun r bs hr0 hK => ?_⟩
    have s2 := same_upd (o := .lst (bs.map V.ref)) hr0
    exact k _ r (s1.trans s2) ⟨bs, upd_same, (keys_PT2 hE hK).same fun c l z => s2 _ _ z⟩
end
/-! ### asked_nodes -/
section
variable {P : Program} {w : World} {K : PySem.W.Frag} {mg : Str → Option Value} {base : Heap} {C : Addr}
theorem sc_asked_nodes : FnScope ["row", "numbers", "found"] ["row", "numbers"] (defScope s_asked_nodes) := ⟨rfl, rfl, rfl, by decide +kernel, rfl, by decide +kernel, by decide +kernel⟩
def sp_asked_nodes (K : PySem.W.Frag) (C : Addr) : Sp := fun vs H Q E => ∃ (p r : Addr) (l : List Nat) (g : Krk0.Graph) (ids : List Nat), vs = [.ref p, .ref r] ∧ SqL K H p (l.map nV) ∧ Krk0.graphOf l = some g ∧ l.length ≤ 1000 ∧ SqL K H r (ids.map nV) ∧ ids.length ≤ 1000 ∧
  (Krk0.graphOk g = true → there g.length ids = true → ∀ H' q, Same H H' → NodesAt H' q g → Q (.ref q) H') ∧ (Krk0.graphOk g = false → Er C (-71) H E) ∧ (Krk0.graphOk g = true → there g.length ids = false → Er C (-2) H E)
theorem ok_asked_nodes {f : Addr} {fd : FuncData} (F : Fun K "asked_nodes" "asked_nodes" s_asked_nodes f fd) (c1 : Cal (L2.CX P w) P w K mg base 4 "nodes_in" ["row"] (sp_nodes_in K C)) (c2 : Cal (L2.CX P w) P w K mg base 4 "must_be_there" ["nodes", "numbers"] (sp_must_be_there K C)) :
    FnOk P w K mg base (L2.CX P w) 5 f fd ["row", "numbers"] (sp_asked_nodes K C) := by
  refine F.okX sc_asked_nodes (fun vs H Q E h => ?_) (fun cdv A outer s H vs Q E hr h => ?_)
  · obtain ⟨p, r, l, g, ids, rfl, _⟩ := h
    rfl
  · obtain ⟨p, r, l, g, ids, rfl, hS, hg, hll, hI, hil, k1, k2, k3⟩ := h
    refine ⟨_, pss_cons (ps_set (i := 2) sc_asked_nodes.nd rfl (.inl rfl) (pcX c1 hr (by decide) (takes_of rfl rfl rfl rfl) (pa_cons (pv 0) pa_nil)))
      (pss_cons (ps_expr (pcX c2 hr (by decide) (takes_of rfl rfl rfl rfl) (pa_cons (pv 2) (pa_cons (pv 1) pa_nil))))
      (pss_one (ps_ret (pv 2)))), ?_⟩
    have hl3 := Rt.graphOf_len hg
    refine ⟨_, rfl, p, l, g, rfl, hS, hg, hll, fun hok H1 q s1 N1 => ?_, fun hok => k2 hok⟩
    refine ⟨_, rfl, _, rfl, q, r, g, ids, rfl, N1, by omega, s1.seq hI, hil, fun ht H2 s2 => ?_, fun ht => (k3 hok ht).mono s1⟩
    exact ⟨_, rfl, k1 hok ht H2 q (s1.trans s2) (N1.same s2)⟩
end
/-! ### proof -/
section
variable {P : Program} {w : World} {K : PySem.W.Frag} {mg : Str → Option Value} {base : Heap} {C fI : Addr}
theorem sc_proof : FnScope ["a", "b", "nodes", "there", "refusal", "pairs", "found", "pair"] ["a", "b", "nodes"] (defScope s_proof) := ⟨rfl, rfl, rfl, by decide +kernel, rfl, by decide +kernel, by decide +kernel⟩
def due_proof (l : List Nat) (a b : Nat) : List Int := Krk0Neutral.told (Krk0.act (.proof l a b))
def sp_proof (K : PySem.W.Frag) : Sp := fun vs H Q _ => ∃ (a b : Nat) (p : Addr) (l : List Nat) (g : Krk0.Graph), vs = [nV a, nV b, .ref p] ∧ SqL K H p (l.map nV) ∧ Krk0.graphOf l = some g ∧ l.length ≤ 1000 ∧
  ∀ H' q, H' q = some (.lst ((due_proof l a b).map V.int)) → Q (.ref q) H'
theorem flat_V (ps : List (Nat × Nat)) : (Krk0Neutral.nums (Krk0.flat ps)).map V.int = (ps.map pT).flatten := by
  induction ps with
  | nil => rfl
  | cons p ps ih =>
    rw [List.map_cons, List.flatten_cons, ← ih]
    rfl
theorem ok_proof {f : Addr} {fd : FuncData} (F : Fun K "proof" "proof" s_proof f fd) (low : PySem.LowX.LowTxt K mg C fI) (c1 : Cal (L2.CX P w) P w K mg base 5 "asked_nodes" ["row", "numbers"] (sp_asked_nodes K C))
    (c2 : Cal (L2.CX P w) P w K mg base 3 "must" ["so", "number"] (sp_must C)) (c3 : Cal CX0 P w K mg base 3 "first_failing" ["nodes", "start"] sp_first_failing) (c4 : Cal CX0 P w K mg base 3 "proof_told" ["nodes", "start"] sp_proof_told)
    (ml : mg "len" = none) (gN : Ki mg "NOT_BELOW" (-61)) : FnOk P w K mg base CX0 6 f fd ["a", "b", "nodes"] (sp_proof K) := by
  refine F.ok sc_proof (fun vs H Q E h => ?_) (fun cdv A outer s H vs Q E hr h => ?_)
  · obtain ⟨a, b, p, l, g, rfl, _⟩ := h
    rfl
  · obtain ⟨a, b, p, l, g, rfl, hS, hg, hll, k⟩ := h
    refine ⟨_, pss_cons (ps_try_as (i := 4) rfl rfl sc_proof.nd rfl rfl ⟨rfl, by decide, Or.inl low.gC⟩ takes0
      (fun W pn xe tk _ => pss_cons (ps_set (i := 3) sc_proof.nd rfl (.inl rfl) (pcX c1 hr (by decide) tk (pa_cons (pv 2) (pa_cons (pe_lst (pa_cons (pv 0) (pa_cons (pv 1) pa_nil))) pa_nil))))
        (pss_one (ps_expr (pcX c2 hr (by decide) tk (pa_cons (pe_cmpR (op_eqDK (K := K) hr.units) (pc0 c3 hr (by decide) (pa_cons (pv 3) (pa_cons (pe_tup (pa_cons (pv 0) (pa_cons (pv 1) pa_nil))) pa_nil))) (pe_lst pa_nil) (nomark _)) (pa_cons (pgi gN) pa_nil))))))
      (fun a oe cls d pn hz hf => pss_one (ps_ret (pe_lst (pa_cons (pe_byLow low hz hf (pv 4)) pa_nil)))))
      (pss_cons (ps_set (i := 5) sc_proof.nd rfl (.inl rfl) (pc0 c4 hr (by decide) (pa_cons (pv 3) (pa_cons (pe_tup (pa_cons (pv 0) (pa_cons (pv 1) pa_nil))) pa_nil))))
      (pss_cons (ps_set (i := 6) sc_proof.nd rfl (.inl rfl) (pe_lst (pa_cons (pe_callB (cr_len (K := K)) (by rfl) ml PySem.boot_len (pa_cons (pv 5) pa_nil)) pa_nil)))
      (pss_cons (ps_for PassesOwn.never rfl (pi_list (pv 5)) (pg_name (i := 7) sc_proof.nd rfl (.inl rfl))
        (pss_one (ps_expr (pe_bm PySem.F.plainAttrs_list PySem.F.slot_list_extend PySem.F.type_list_extend mt_extT (pv 6) (pa_cons (pv 7) pa_nil)))))
      (pss_one (ps_ret (pv 6)))))), ?_⟩
    have due : due_proof l a b = Krk0Neutral.told (Krk0.with_ l [a, b] fun g => if Krk0.below g a b = false then Krk0.say (-61) else { num := (Krk0.proof g a b).length, nums := Krk0.flat (Krk0.proof g a b) }) := rfl
    have res : ∀ (n : Int) (H1 : Hp), due_proof l a b = [n] → ∀ q, H1 q = none → Q (.ref q) (upd H1 q (.lst [.int n])) := fun n H1 e q _ => k _ q (by rw [e, upd_same]; rfl)
    have fin : ∀ (n : Int) (d : Addr) (H1 : Hp) (σ : L2.St) (X : L2.St → Hp → Prop), σ.length = 8 → H1 d = some (.xd [(("number" : Str), .int n)]) → due_proof l a b = [n] → wAs K (.ref C) 4 (fun a cls d => tRet (tLst (tCons (tByLow C a cls d (tVar 4)) tNil))) (fun _ _ _ _ => False) { nx := X, rt := Q } (.ref C) (some d) σ H1 := by
      intro n d H1 σ X hσ e1 e
      refine ⟨true, low.te, fun _ a0 _ => ?_, fun z => Bool.noConfusion z⟩
      refine ⟨_, List.getElem?_set_self (by omega), rfl, rfl, d, _, rfl, e1, (by show 1 ≤ sizeLine; decide), res _ H1 e⟩
    refine ⟨_, rfl, _, rfl, _, rfl, (by show 2 ≤ sizeLine; decide), fun r0 hr0 => ?_⟩
    have s1 := same_upd (o := .lst [nV a, nV b]) hr0
    refine ⟨p, r0, l, g, [a, b], rfl, s1.seq hS, hg, hll, .inl (.inl upd_same), by simp, fun hok ht H2 q s2 N2 => ?_, fun hok => ?_, fun hok ht => ?_⟩
    · have hwith := Rt.with_ok (f := fun g => if Krk0.below g a b = false then Krk0.say (-61) else { num := (Krk0.proof g a b).length, nums := Krk0.flat (Krk0.proof g a b) }) hg hok ht
      rw [there2, Bool.and_eq_true, decide_eq_true_eq, decide_eq_true_eq] at ht
      have hgl := Rt.ok_len hok
      obtain ⟨b1, b2⟩ := below_firstF hok (p := (a, b)) ht
      refine ⟨_, rfl, _, rfl, _, rfl, (by show 2 ≤ sizeLine; decide), fun t ht0 => ?_⟩
      have N3 := N2.same (same_upd (o := .tup (pT (a, b))) ht0)
      refine ⟨q, t, g, (a, b), rfl, N3, hok, ht, upd_same, fun H4 r s4 hO => ?_⟩
      refine ⟨(by show 0 ≤ sizeLine; decide), fun e0 he0 => ?_⟩
      have s5 := same_upd (o := .lst []) he0
      have hO5 : OneAt (upd H4 e0 (.lst [])) r (firstF g (a, b)) := by
        cases hf : firstF g (a, b) with
        | none => rw [hf] at hO; exact s5 _ _ hO
        | some w0 =>
          rw [hf] at hO
          obtain ⟨x, y1, y2⟩ := hO
          exact ⟨x, s5 _ _ y1, s5 _ _ y2⟩
      have N5 := (N3.same s4).same s5
      obtain ⟨xs, ds, d1, d2, d3, d4⟩ := dp_one (K := K) hO5
      refine eq_nil d1 d2 d3 (.inl (.inl upd_same)) ?_
      rw [d4]
      generalize upd H4 e0 (.lst []) = H5 at N5 hO5
      cases hf : firstF g (a, b) with
      | some w0 =>
        refine ⟨false, -61, rfl, (fun z => nomatch z), fun _ d H6 s6 e6 => fin _ d H6 _ _ rfl e6 ?_⟩
        rw [due, hwith]
        have : Krk0.below g a b = false := by
          unfold Krk0.below
          have := (b2 w0 hf).1
          simpa using this
        rw [if_pos this]
        rfl
      | none =>
        refine ⟨true, -61, rfl, fun _ => ?_, (fun z => nomatch z)⟩
        have hbel : Krk0.below g a b = true := by
          unfold Krk0.below
          rw [b1 hf]
          rfl
        -- pairs = proof_told(there, (a, b))
        refine ⟨_, rfl, _, rfl, _, rfl, (by show 2 ≤ sizeLine; decide), fun t2 ht2 => ?_⟩
        have s6 := same_upd (o := .tup (pT (a, b))) ht2
        refine ⟨q, t2, g, (a, b), rfl, N5.same s6, hok, ht, upd_same, fun H7 rp s7 hP => ?_⟩
        obtain ⟨ts, er, hts⟩ := hP.ex
        have hdue : due_proof l a b = ((((allW g (a, b)).map (·.1)).length : Nat) : Int) :: Krk0Neutral.nums (Krk0.flat ((allW g (a, b)).map (·.1))) := by
          rw [due, hwith, if_neg (by rw [hbel]; decide), proof_eq]
          rfl
        obtain ⟨n0, lim, hRow, _⟩ := allW_ok hok (p0 := (a, b)) ht
        have hRl := hRow.len
        have hsq : g.length * g.length ≤ 32 * 32 := Nat.mul_le_mul hgl.2 hgl.2
        have htl : ts.length = ((allW g (a, b)).map (·.1)).length := Paired.length hts
        generalize hps : (allW g (a, b)).map (·.1) = ps at hts hdue htl
        have hpl : ps.length ≤ 1100 := by
          rw [← hps, List.length_map]
          omega
        refine ⟨_, rfl, rp, _, rfl, .inl (.inl (.inl er)), (by show 1 ≤ sizeLine; decide), fun rf hrf => ?_⟩
        have s8 := same_upd (o := .lst [.int ((ts.map V.ref).length : Nat)]) hrf
        have nrf : rp ≠ rf := ne_of_none er hrf
        refine ⟨_, rfl, rp, rfl, ⟨_, .inl (.inl (s8 _ _ er))⟩, for_list (K := K) (a := rp) (xs := ts.map V.ref) (fun i σ H' => ∃ y : Option V, σ = [some (nV a), some (nV b), some (.ref p), some (.ref q), none, some (.ref rp), some (.ref rf), y] ∧
            (∀ c o, c ≠ rf → H7 c = some o → H' c = some o) ∧ H' rf = some (.lst (.int ps.length :: ((ps.take i).map pT).flatten)))
          ⟨none, rfl, fun c o h1 h2 => s8 _ _ h2, by rw [upd_same, List.length_map, htl]; rfl⟩ (fun i σ H' _ h => let ⟨_, _, h2, _⟩ := h; .inl (.inl (h2 _ _ nrf er))) ?_ ?_⟩
        · rintro i y σ H8 hi ⟨y7, rfl, kp, erf⟩
          obtain ⟨t3, e3, rfl⟩ := map_get_inv hi
          obtain ⟨x, hx, ex⟩ := pgetL hts e3
          have nt3 : t3 ≠ rf := ne_of_none ex hrf
          refine ⟨_, rfl, .inl ⟨rfl, _, .inl (.inl erf)⟩, _, rfl, rf, t3, _, _, rfl, rfl, erf, .inl (.inl (kp _ _ nt3 ex)), ?_, ?_⟩
          · refine sl1000 ?_
            have h0 : ∀ qs : List (Nat × Nat), ((qs.map pT).flatten).length = 2 * qs.length := by
              intro qs
              induction qs with
              | nil => rfl
              | cons z qs ih =>
                rw [List.map_cons, List.flatten_cons, List.length_append, ih]
                show 2 + 2 * qs.length = 2 * (qs.length + 1)
                omega
            rw [List.length_cons, h0, List.length_take]
            show _ + 2 ≤ _
            omega
          · refine ⟨_, rfl, fun c o h1 h2 => by rw [upd_ne h1]; exact kp c o h1 h2, ?_⟩
            rw [upd_same, List.take_add_one, hx, List.map_append, List.flatten_append]
            show some (HO.lst (V.int _ :: (_ ++ pT x))) = some (HO.lst (V.int _ :: (_ ++ (pT x ++ []))))
            rw [List.append_nil]
        · rintro σ H8 ⟨y7, rfl, kp, erf⟩
          refine ⟨_, rfl, k H8 rf ?_⟩
          rw [erf, hdue, List.length_map, htl, List.take_length, List.map_cons, flat_V]
    · intro d H1 s1 e1
      refine fin _ d H1 _ _ rfl e1 ?_
      rw [due, Rt.with_bad hg hok]
      rfl
    · intro d H1 s1 e1
      refine fin _ d H1 _ _ rfl e1 ?_
      rw [due, Rt.with_no hg hok ht]
      rfl
end
/-! ### the end -/
theorem exm_self {K : PySem.W.Frag} {S : Addr} (h1 : PySem.W.subIn K (.ref S) (.type "BaseException") = some true) (h2 : PySem.W.isClsIn K S = true) (h3 : PySem.W.typeIn K (.ref S) = some (.type "type")) (h4 : PySem.W.subIn K (.ref S) (.ref S) = some true) :
    PySem.W.exmOne K (.ref S) (.ref S) = some true := by
  have e1 : (PySem.W.subIn K (.ref S) (.type "BaseException") == some true) = true := by rw [h1] <;> rfl
  have e2 : ((PySem.W.clsIn K S).isSome && PySem.W.typeIn K (.ref S) == some (.type "type")) = true := by
    have h2' : (PySem.W.clsIn K S).isSome = true := h2
    rw [h2', h3] <;> rfl
  show (if (PySem.W.subIn K (.ref S) (.type "BaseException") == some true) = true then (if ((PySem.W.clsIn K S).isSome && PySem.W.typeIn K (.ref S) == some (.type "type")) = true then PySem.W.subIn K (.ref S) (.ref S) else none) else none) = some true
  rw [if_pos e1, if_pos e2]
  exact h4
theorem all_mk {P : Program} {w : World} {K : PySem.W.Frag} {h : Heap} {mg : Str → Option Value} {fa C fi : Addr} (X : K.In h) (G : h.Ns mainGlobals mg) (hfa : mg "proof" = some (.ref fa))
    {nm q : Str} {N : Addr} {bs : List Value} {sn : List Str} {sub : List Value} {ab : Bool} {col : Option Bool} {dd : Option Addr} {m0 m1 m2 m3 m5 : Option Value}
    {odi ani : Option Addr} {sli : Array (Option Value)} {oci dci pmi cdi cti : Value}
    {f0 : Addr} {od0 an0 : Option Addr} {sl0 : Array (Option Value)} {oc0 kV0 dc0 pm0 cd0 ct0 : Value}
    {f1 : Addr} {od1 an1 : Option Addr} {sl1 : Array (Option Value)} {oc1 kV1 dc1 pm1 cd1 ct1 : Value}
    {f2 : Addr} {od2 an2 : Option Addr} {sl2 : Array (Option Value)} {oc2 kV2 dc2 pm2 cd2 ct2 : Value}
    {f3 : Addr} {od3 an3 : Option Addr} {sl3 : Array (Option Value)} {oc3 kV3 dc3 pm3 cd3 ct3 : Value}
    {f4 : Addr} {od4 an4 : Option Addr} {sl4 : Array (Option Value)} {oc4 kV4 dc4 pm4 cd4 ct4 : Value}
    {f5 : Addr} {od5 an5 : Option Addr} {sl5 : Array (Option Value)} {oc5 kV5 dc5 pm5 cd5 ct5 : Value}
    {f6 : Addr} {od6 an6 : Option Addr} {sl6 : Array (Option Value)} {oc6 kV6 dc6 pm6 cd6 ct6 : Value}
    {f7 : Addr} {od7 an7 : Option Addr} {sl7 : Array (Option Value)} {oc7 kV7 dc7 pm7 cd7 ct7 : Value}
    {f8 : Addr} {od8 an8 : Option Addr} {sl8 : Array (Option Value)} {oc8 kV8 dc8 pm8 cd8 ct8 : Value}
    {f9 : Addr} {od9 an9 : Option Addr} {sl9 : Array (Option Value)} {oc9 kV9 dc9 pm9 cd9 ct9 : Value}
    {f10 : Addr} {od10 an10 : Option Addr} {sl10 : Array (Option Value)} {oc10 kV10 dc10 pm10 cd10 ct10 : Value}
    {u_PAIR : Tok}
    {u_CHOICE : Tok}
    {u_FUNCTION : Tok}
    {u_MOST_NODES : Tok}
    {u_NO_NODES : Tok}
    {u_NO_NODE : Tok}
    {u_NOTHING : Tok}
    {u_ANYTHING : Tok}
    {u_NOT_BELOW : Tok}
    (aC : PySem.W.nsIn K mainGlobals "Refused" = some (some (.ref C)))
    (xL : K.lookup C = some (excClassObj nm q C N bs [.type "ValueError", .type "Exception", .type "BaseException", .type "object"] true sn sub ab col dd m0 m1 m2 m3 m5 "ValueError.__new__"))
    (sa : PySem.W.findIn K (.ref C) "__setattr__" = some (some (.builtin "object.__setattr__"))) (ga : PySem.W.findIn K (.ref C) "__getattribute__" = some (some (.builtin "BaseException.__getattribute__"))) (gg : PySem.W.findIn K (.ref C) "__getattr__" = some none) (nb : PySem.W.findIn K (.ref C) "number" = some none)
    (ai : PySem.W.findIn K (.ref C) "__init__" = some (some (.ref fi))) (ti : PySem.W.typeIn K (.ref fi) = some (.type "function"))
    (li : K.lookup fi = some ⟨oci, odi, .func (PySem.W.fnOf "__init__" "Refused.__init__" (PySem.LowX.iA ⟨13, 17, 13, 21⟩ ⟨13, 23, 13, 29⟩) (PySem.LowX.iB ⟨14, 8, 14, 12⟩ ⟨14, 8, 14, 19⟩ ⟨14, 22, 14, 28⟩ ⟨14, 8, 14, 28⟩) PySem.LowX.iS .none .none dci pmi ani cdi cti), sli⟩) (ci : PySem.W.codeIn K cdi "Refused.__init__" = true)
    (kC : PySem.W.keepIn K (.ref C) = true) (eC : PySem.W.subIn K (.ref C) (.type "BaseException") = some true) (tC : PySem.W.typeIn K (.ref C) = some (.type "type")) (hC : PySem.W.hasDictIn K C = true) (iC : PySem.W.isClsIn K C = true) (sC : PySem.W.subIn K (.ref C) (.ref C) = some true)
    (a0 : PySem.W.nsIn K mainGlobals "must" = some (some (.ref f0))) (l0 : K.lookup f0 = some ⟨oc0, od0, .func (PySem.W.fnOf "must" "must" (defArgs s_must) (defBody s_must) (defScope s_must) .none kV0 dc0 pm0 an0 cd0 ct0), sl0⟩) (c0 : PySem.W.codeIn K cd0 "must" = true) (k0 : PySem.W.keepIn K (.ref f0) = true)
    (a1 : PySem.W.nsIn K mainGlobals "is_node" = some (some (.ref f1))) (l1 : K.lookup f1 = some ⟨oc1, od1, .func (PySem.W.fnOf "is_node" "is_node" (defArgs s_is_node) (defBody s_is_node) (defScope s_is_node) .none kV1 dc1 pm1 an1 cd1 ct1), sl1⟩) (c1 : PySem.W.codeIn K cd1 "is_node" = true) (k1 : PySem.W.keepIn K (.ref f1) = true)
    (a2 : PySem.W.nsIn K mainGlobals "nodes_in" = some (some (.ref f2))) (l2 : K.lookup f2 = some ⟨oc2, od2, .func (PySem.W.fnOf "nodes_in" "nodes_in" (defArgs s_nodes_in) (defBody s_nodes_in) (defScope s_nodes_in) .none kV2 dc2 pm2 an2 cd2 ct2), sl2⟩) (c2 : PySem.W.codeIn K cd2 "nodes_in" = true) (k2 : PySem.W.keepIn K (.ref f2) = true)
    (a3 : PySem.W.nsIn K mainGlobals "must_be_there" = some (some (.ref f3))) (l3 : K.lookup f3 = some ⟨oc3, od3, .func (PySem.W.fnOf "must_be_there" "must_be_there" (defArgs s_must_be_there) (defBody s_must_be_there) (defScope s_must_be_there) .none kV3 dc3 pm3 an3 cd3 ct3), sl3⟩) (c3 : PySem.W.codeIn K cd3 "must_be_there" = true) (k3 : PySem.W.keepIn K (.ref f3) = true)
    (a4 : PySem.W.nsIn K mainGlobals "asked_by" = some (some (.ref f4))) (l4 : K.lookup f4 = some ⟨oc4, od4, .func (PySem.W.fnOf "asked_by" "asked_by" (defArgs s_asked_by) (defBody s_asked_by) (defScope s_asked_by) .none kV4 dc4 pm4 an4 cd4 ct4), sl4⟩) (c4 : PySem.W.codeIn K cd4 "asked_by" = true) (k4 : PySem.W.keepIn K (.ref f4) = true)
    (a5 : PySem.W.nsIn K mainGlobals "fails" = some (some (.ref f5))) (l5 : K.lookup f5 = some ⟨oc5, od5, .func (PySem.W.fnOf "fails" "fails" (defArgs s_fails) (defBody s_fails) (defScope s_fails) .none kV5 dc5 pm5 an5 cd5 ct5), sl5⟩) (c5 : PySem.W.codeIn K cd5 "fails" = true) (k5 : PySem.W.keepIn K (.ref f5) = true)
    (a6 : PySem.W.nsIn K mainGlobals "ways_from" = some (some (.ref f6))) (l6 : K.lookup f6 = some ⟨oc6, od6, .func (PySem.W.fnOf "ways_from" "ways_from" (defArgs s_ways_from) (defBody s_ways_from) (defScope s_ways_from) .none kV6 dc6 pm6 an6 cd6 ct6), sl6⟩) (c6 : PySem.W.codeIn K cd6 "ways_from" = true) (k6 : PySem.W.keepIn K (.ref f6) = true)
    (a7 : PySem.W.nsIn K mainGlobals "first_failing" = some (some (.ref f7))) (l7 : K.lookup f7 = some ⟨oc7, od7, .func (PySem.W.fnOf "first_failing" "first_failing" (defArgs s_first_failing) (defBody s_first_failing) (defScope s_first_failing) .none kV7 dc7 pm7 an7 cd7 ct7), sl7⟩) (c7 : PySem.W.codeIn K cd7 "first_failing" = true) (k7 : PySem.W.keepIn K (.ref f7) = true)
    (a8 : PySem.W.nsIn K mainGlobals "proof_told" = some (some (.ref f8))) (l8 : K.lookup f8 = some ⟨oc8, od8, .func (PySem.W.fnOf "proof_told" "proof_told" (defArgs s_proof_told) (defBody s_proof_told) (defScope s_proof_told) .none kV8 dc8 pm8 an8 cd8 ct8), sl8⟩) (c8 : PySem.W.codeIn K cd8 "proof_told" = true) (k8 : PySem.W.keepIn K (.ref f8) = true)
    (a9 : PySem.W.nsIn K mainGlobals "asked_nodes" = some (some (.ref f9))) (l9 : K.lookup f9 = some ⟨oc9, od9, .func (PySem.W.fnOf "asked_nodes" "asked_nodes" (defArgs s_asked_nodes) (defBody s_asked_nodes) (defScope s_asked_nodes) .none kV9 dc9 pm9 an9 cd9 ct9), sl9⟩) (c9 : PySem.W.codeIn K cd9 "asked_nodes" = true) (k9 : PySem.W.keepIn K (.ref f9) = true)
    (a10 : PySem.W.nsIn K mainGlobals "proof" = some (some (.ref f10))) (l10 : K.lookup f10 = some ⟨oc10, od10, .func (PySem.W.fnOf "proof" "proof" (defArgs s_proof) (defBody s_proof) (defScope s_proof) .none kV10 dc10 pm10 an10 cd10 ct10), sl10⟩) (c10 : PySem.W.codeIn K cd10 "proof" = true) (k10 : PySem.W.keepIn K (.ref f10) = true)
    (n_PAIR : PySem.W.nsIn K mainGlobals "PAIR" = some (some (.int (4) u_PAIR)))
    (n_CHOICE : PySem.W.nsIn K mainGlobals "CHOICE" = some (some (.int (5) u_CHOICE)))
    (n_FUNCTION : PySem.W.nsIn K mainGlobals "FUNCTION" = some (some (.int (6) u_FUNCTION)))
    (n_MOST_NODES : PySem.W.nsIn K mainGlobals "MOST_NODES" = some (some (.int (32) u_MOST_NODES)))
    (n_NO_NODES : PySem.W.nsIn K mainGlobals "NO_NODES" = some (some (.int (-71) u_NO_NODES)))
    (n_NO_NODE : PySem.W.nsIn K mainGlobals "NO_NODE" = some (some (.int (-2) u_NO_NODE)))
    (n_NOTHING : PySem.W.nsIn K mainGlobals "NOTHING" = some (some (.int (0) u_NOTHING)))
    (n_ANYTHING : PySem.W.nsIn K mainGlobals "ANYTHING" = some (some (.int (1) u_ANYTHING)))
    (n_NOT_BELOW : PySem.W.nsIn K mainGlobals "NOT_BELOW" = some (some (.int (-61) u_NOT_BELOW)))
    (z_range : PySem.W.nsIn K mainGlobals "range" = some none)
    (z_len : PySem.W.nsIn K mainGlobals "len" = some none)
    (z_all : PySem.W.nsIn K mainGlobals "all" = some none)
    (z_enumerate : PySem.W.nsIn K mainGlobals "enumerate" = some none)
    (z_list : PySem.W.nsIn K mainGlobals "list" = some none)
    : ∃ fd : FuncData, (∀ (s : Shared) (us : List Value), us.length = (["a", "b", "nodes"] : List Str).length → BindsTo s fd ⟨us, []⟩ ((["a", "b", "nodes"] : List Str).zip us)) ∧ ∀ base : Heap, K.In base → base.Ns mainGlobals mg → FnOk P w K mg base CX0 6 fa fd ["a", "b", "nodes"] (sp_proof K) := by
  have e := hfa.symm.trans (PySem.W.mg_of X G a10)
  cases e
  have low : PySem.LowX.LowTxt K mg C fi :=
    { gC := PySem.W.mg_of X G aC, cls := ⟨nm, q, N, bs, _, sn, sub, ab, col, dd, m0, m1, m2, m3, m5, xL, by decide +kernel⟩, sa := sa, ga := ga, gg := gg, noN := nb, iC := ai, tC := ti, kC := kC, exC := eC, tyC := tC, hdC := hC, te := exm_self eC iC tC sC,
      fn := ⟨_, _, _, _, _, _, _, _, _, _, _, _, _, _, li, ci⟩ }
  refine ⟨PySem.W.fnOf "proof" "proof" (defArgs s_proof) (defBody s_proof) (defScope s_proof) .none kV10 dc10 pm10 an10 cd10 ct10, fun s us hu => match us, hu with | [_, _, _], _ => .of_eq rfl, fun base _ _ => ?_⟩
  have F0 := fun_mk (st := s_must) l0 c0 k0
  have C_must : Cal (L2.CX P w) P w K mg base 3 "must" ["so", "number"] (sp_must C) := ⟨_, _, PySem.W.mg_of X G a0, k0, ok_must F0 low, F0.binds fun _ _ _ _ _ _ us hl => match us, hl with | [_, _], _ => rfl⟩
  have F1 := fun_mk (st := s_is_node) l1 c1 k1
  have C_is_node : Cal CX0 P w K mg base 1 "is_node" ["node", "many"] sp_is_node := ⟨_, _, PySem.W.mg_of X G a1, k1, ok_is_node F1 ⟨_, PySem.W.mg_of X G n_PAIR⟩ ⟨_, PySem.W.mg_of X G n_CHOICE⟩ ⟨_, PySem.W.mg_of X G n_FUNCTION⟩, F1.binds fun _ _ _ _ _ _ us hl => match us, hl with | [_, _], _ => rfl⟩
  have F2 := fun_mk (st := s_nodes_in) l2 c2 k2
  have C_nodes_in : Cal (L2.CX P w) P w K mg base 4 "nodes_in" ["row"] (sp_nodes_in K C) := ⟨_, _, PySem.W.mg_of X G a2, k2, ok_nodes_in F2 C_must C_is_node (PySem.W.mg_none_of X G z_range) (PySem.W.mg_none_of X G z_len) (PySem.W.mg_none_of X G z_all) ⟨_, PySem.W.mg_of X G n_MOST_NODES⟩ ⟨_, PySem.W.mg_of X G n_NO_NODES⟩, F2.binds fun _ _ _ _ _ _ us hl => match us, hl with | [_], _ => rfl⟩
  have F3 := fun_mk (st := s_must_be_there) l3 c3 k3
  have C_must_be_there : Cal (L2.CX P w) P w K mg base 4 "must_be_there" ["nodes", "numbers"] (sp_must_be_there K C) := ⟨_, _, PySem.W.mg_of X G a3, k3, ok_must_be_there F3 C_must (PySem.W.mg_none_of X G z_len) (PySem.W.mg_none_of X G z_all) ⟨_, PySem.W.mg_of X G n_NO_NODE⟩, F3.binds fun _ _ _ _ _ _ us hl => match us, hl with | [_, _], _ => rfl⟩
  have F4 := fun_mk (st := s_asked_by) l4 c4 k4
  have C_asked_by : Cal CX0 P w K mg base 1 "asked_by" ["nodes", "pair"] sp_asked_by := ⟨_, _, PySem.W.mg_of X G a4, k4, ok_asked_by F4 ⟨_, PySem.W.mg_of X G n_NOTHING⟩ ⟨_, PySem.W.mg_of X G n_ANYTHING⟩ ⟨_, PySem.W.mg_of X G n_PAIR⟩ ⟨_, PySem.W.mg_of X G n_CHOICE⟩ ⟨_, PySem.W.mg_of X G n_FUNCTION⟩, F4.binds fun _ _ _ _ _ _ us hl => match us, hl with | [_, _], _ => rfl⟩
  have F5 := fun_mk (st := s_fails) l5 c5 k5
  have C_fails : Cal CX0 P w K mg base 1 "fails" ["nodes", "pair"] sp_fails := ⟨_, _, PySem.W.mg_of X G a5, k5, ok_fails F5 ⟨_, PySem.W.mg_of X G n_NOTHING⟩ ⟨_, PySem.W.mg_of X G n_ANYTHING⟩, F5.binds fun _ _ _ _ _ _ us hl => match us, hl with | [_, _], _ => rfl⟩
  have F6 := fun_mk (st := s_ways_from) l6 c6 k6
  have C_ways_from : Cal CX0 P w K mg base 2 "ways_from" ["nodes", "start"] sp_ways_from := ⟨_, _, PySem.W.mg_of X G a6, k6, ok_ways_from F6 C_asked_by (PySem.W.mg_none_of X G z_len) (PySem.W.mg_none_of X G z_enumerate), F6.binds fun _ _ _ _ _ _ us hl => match us, hl with | [_, _], _ => rfl⟩
  have F7 := fun_mk (st := s_first_failing) l7 c7 k7
  have C_first_failing : Cal CX0 P w K mg base 3 "first_failing" ["nodes", "start"] sp_first_failing := ⟨_, _, PySem.W.mg_of X G a7, k7, ok_first_failing F7 C_ways_from C_fails, F7.binds fun _ _ _ _ _ _ us hl => match us, hl with | [_, _], _ => rfl⟩
  have F8 := fun_mk (st := s_proof_told) l8 c8 k8
  have C_proof_told : Cal CX0 P w K mg base 3 "proof_told" ["nodes", "start"] sp_proof_told := ⟨_, _, PySem.W.mg_of X G a8, k8, ok_proof_told F8 C_ways_from (PySem.W.mg_none_of X G z_list), F8.binds fun _ _ _ _ _ _ us hl => match us, hl with | [_, _], _ => rfl⟩
  have F9 := fun_mk (st := s_asked_nodes) l9 c9 k9
  have C_asked_nodes : Cal (L2.CX P w) P w K mg base 5 "asked_nodes" ["row", "numbers"] (sp_asked_nodes K C) := ⟨_, _, PySem.W.mg_of X G a9, k9, ok_asked_nodes F9 C_nodes_in C_must_be_there, F9.binds fun _ _ _ _ _ _ us hl => match us, hl with | [_, _], _ => rfl⟩
  have F10 := fun_mk (st := s_proof) l10 c10 k10
  exact ok_proof F10 low C_asked_nodes C_must C_first_failing C_proof_told (PySem.W.mg_none_of X G z_len) ⟨_, PySem.W.mg_of X G n_NOT_BELOW⟩
theorem nat_list : ∀ (ns : List Int), (∀ z ∈ ns, 0 ≤ z) → ns.map V.int = (ns.map Int.toNat).map nV
  | [], _ => rfl
  | z :: r, h => by
    have e : ((z.toNat : Nat) : Int) = z := Int.toNat_of_nonneg (h z List.mem_cons_self)
    rw [List.map_cons, List.map_cons, List.map_cons, nat_list r fun y hy => h y (List.mem_cons_of_mem _ hy)]
    show _ = V.int ((z.toNat : Nat) : Int) :: _
    rw [e]
theorem natural_nn {z : Int} (h : Krk0Neutral.natural z 32 = true) : 0 ≤ z := by
  unfold Krk0Neutral.natural at h
  rw [Bool.and_eq_true, decide_eq_true_eq] at h
  exact h.1
theorem naturals_nn {ns : List Int} (h : ns.all (fun (z : Int) => Krk0Neutral.natural z 32) = true) : ∀ z ∈ ns, 0 ≤ z := fun z hz => natural_nn (List.all_eq_true.mp h z hz)
theorem int_V {z : Int} (h : 0 ≤ z) : V.int z = nV z.toNat := by
  show _ = V.int ((z.toNat : Nat) : Int)
  rw [Int.toNat_of_nonneg h]
end Rt
open PySem PySem.W PyProof.Rows
set_option maxRecDepth 100000 in
set_option maxHeartbeats 8000000 in
theorem PySem.Challenge.cw_roundtypesworks_s08_proof_holds : PySem.Challenge.rw_roundtypesworks_s08_proof.Holds := by
  w_on; k_headS; (case hw => exact ⟨[.int 0, .int 0, .list []], by decide +kernel, by decide +kernel⟩)
  k_fillS
  refine L2.walk_specK (r := PySem.Challenge.rw_roundtypesworks_s08_proof) (k := 6) (CX := L2.CX0) (ps := ["a", "b", "nodes"]) (sp := fun K => Rt.sp_proof K) (by decide +kernel) rfl rfl ⟨rfl, by decide, by decide⟩ (fun w h Y => PySem.W.kIn_of Y) ?F ?S (fun _ _ _ _ z => z)
  case F =>
    intro w mg fa h Y KX G hmg
    refine' Rt.all_mk KX G hmg ?aC ?xL ?sa ?ga ?gg ?nb ?ai ?ti ?li ?ci ?kC ?eC ?tC ?hC ?iC ?sC ?a0 ?l0 ?c0 ?k0 ?a1 ?l1 ?c1 ?k1 ?a2 ?l2 ?c2 ?k2 ?a3 ?l3 ?c3 ?k3 ?a4 ?l4 ?c4 ?k4 ?a5 ?l5 ?c5 ?k5 ?a6 ?l6 ?c6 ?k6 ?a7 ?l7 ?c7 ?k7 ?a8 ?l8 ?c8 ?k8 ?a9 ?l9 ?c9 ?k9 ?a10 ?l10 ?c10 ?k10 ?n_PAIR ?n_CHOICE ?n_FUNCTION ?n_MOST_NODES ?n_NO_NODES ?n_NO_NODE ?n_NOTHING ?n_ANYTHING ?n_NOT_BELOW ?z_range ?z_len ?z_all ?z_enumerate ?z_list
    (case aC => k_is)
    (case xL => k_is)
    (case sa => k_is)
    (case ga => k_is)
    (case gg => k_is)
    (case nb => k_is)
    (case ai => k_is)
    (case ti => k_is)
    (case li => k_is)
    (case ci => k_is)
    (case kC => k_is)
    (case eC => k_is)
    (case tC => k_is)
    (case hC => k_is)
    (case iC => k_is)
    (case sC => first | rfl | k_is)
    (case a0 => k_is)
    (case l0 => k_is)
    (case c0 => k_is)
    (case k0 => k_is)
    (case a1 => k_is)
    (case l1 => k_is)
    (case c1 => k_is)
    (case k1 => k_is)
    (case a2 => k_is)
    (case l2 => k_is)
    (case c2 => k_is)
    (case k2 => k_is)
    (case a3 => k_is)
    (case l3 => k_is)
    (case c3 => k_is)
    (case k3 => k_is)
    (case a4 => k_is)
    (case l4 => k_is)
    (case c4 => k_is)
    (case k4 => k_is)
    (case a5 => k_is)
    (case l5 => k_is)
    (case c5 => k_is)
    (case k5 => k_is)
    (case a6 => k_is)
    (case l6 => k_is)
    (case c6 => k_is)
    (case k6 => k_is)
    (case a7 => k_is)
    (case l7 => k_is)
    (case c7 => k_is)
    (case k7 => k_is)
    (case a8 => k_is)
    (case l8 => k_is)
    (case c8 => k_is)
    (case k8 => k_is)
    (case a9 => k_is)
    (case l9 => k_is)
    (case c9 => k_is)
    (case k9 => k_is)
    (case a10 => k_is)
    (case l10 => k_is)
    (case c10 => k_is)
    (case k10 => k_is)
    (case n_PAIR => k_is)
    (case n_CHOICE => k_is)
    (case n_FUNCTION => k_is)
    (case n_MOST_NODES => k_is)
    (case n_NO_NODES => k_is)
    (case n_NO_NODE => k_is)
    (case n_NOTHING => k_is)
    (case n_ANYTHING => k_is)
    (case n_NOT_BELOW => k_is)
    (case z_range => k_is)
    (case z_len => k_is)
    (case z_all => k_is)
    (case z_enumerate => k_is)
    (case z_list => k_is)
  case S =>
    intro K H xs a hO hwi hask hx
    obtain ⟨x0, x1, x2, u⟩ := a
    cases hx with
    | cons h0 t0 =>
    cases t0 with
    | cons h1 t1 =>
    cases t1 with
    | cons h2 t2 =>
    cases t2
    cases h0
    cases h1
    cases h2 with
    | lst hs2 ha2 =>
    have e2 := L2.ints_dw x2 _ ha2
    subst e2
    have q : PyKrk0.proof_asked x0 x1 x2 = true := hask
    have q' : (Krk0Neutral.natural x0 32 && Krk0Neutral.natural x1 32 && x2.all (fun (z : Int) => Krk0Neutral.natural z 32) && x2.length % 3 == 0 && decide (x2.length < 768)) = true := q
    simp only [Bool.and_eq_true, decide_eq_true_eq, beq_iff_eq] at q'
    obtain ⟨⟨⟨⟨q0, q1⟩, q2⟩, q3⟩, q4⟩ := q'
    obtain ⟨g, hg⟩ := Rt.graphOf_some (x2.length / 3) (x2.map Int.toNat) (by rw [List.length_map]; omega)
    refine ⟨x0.toNat, x1.toNat, _, x2.map Int.toNat, g, by rw [Rt.int_V (Rt.natural_nn q0), Rt.int_V (Rt.natural_nn q1)], by rw [← Rt.nat_list x2 (Rt.naturals_nn q2)]; exact hs2, hg, by rw [List.length_map]; omega, fun H' p hp => ?_⟩
    exact .lst (L2.SqL.of hp) (L2.dw_ints _)
#print axioms PySem.Challenge.cw_roundtypesworks_s08_proof_holds
