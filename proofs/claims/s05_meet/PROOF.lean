import PyProof.Rows.All
import Wide.All
import OpenK.AllK
import Wide.FinOn
import PyProof.EqAt
import PyProof.EqKinds
import PyProof.TupleCall
import Open.SpecLaws
import KE.OsGo
import HandS.ForSpec
import HandS.Comp
import HandS.Dict
import HandS.Iter
import HandS.Walk
import HandS.Conv
import KE.KDictPairs
import KE.KDictWalk
import KE.KDictDisplayH
import KE.KDictCopyH
import HandS.TupLen
import HandS.TupAny
import HandS.WordsDict
import PySem.Challenge.RW_roundtypesworks_s05_meet
set_option Elab.async false
set_option linter.all false
set_option maxRecDepth 100000
set_option maxHeartbeats 4000000
namespace Rt
open Krk0
theorem graphOf_len : ∀ {l : List Nat} {g : Graph}, graphOf l = some g → l.length = 3 * g.length
  | [], g, h => by
    have e : ([] : Graph) = g := Option.some.inj h
    subst e
    rfl
  | [_], g, h => by simp [graphOf] at h
  | [_, _], g, h => by simp [graphOf] at h
  | k :: a :: b :: l, g, h => by
    rw [graphOf] at h
    cases e : graphOf l with
    | none => rw [e] at h; simp at h
    | some g' =>
      rw [e] at h
      simp only [Option.map_some, Option.some.injEq] at h
      subst h
      have ih := graphOf_len e
      simp only [List.length_cons]
      omega
theorem graphOf_get : ∀ {l : List Nat} {g : Graph} {i : Nat} {x : Node}, graphOf l = some g → g[i]? = some x → l[3 * i]? = some x.kind ∧ l[3 * i + 1]? = some x.a ∧ l[3 * i + 2]? = some x.b
  | [], g, i, x, h, hx => by
    have e : ([] : Graph) = g := Option.some.inj h
    subst e
    simp at hx
  | [_], g, i, x, h, hx => by simp [graphOf] at h
  | [_, _], g, i, x, h, hx => by simp [graphOf] at h
  | k :: a :: b :: l, g, i, x, h, hx => by
    rw [graphOf] at h
    cases e : graphOf l with
    | none => rw [e] at h; simp at h
    | some g' =>
      rw [e] at h
      simp only [Option.map_some, Option.some.injEq] at h
      subst h
      cases i with
      | zero =>
        simp only [List.getElem?_cons_zero, Option.some.injEq] at hx
        subst hx
        exact ⟨rfl, rfl, rfl⟩
      | succ i =>
        simp only [List.getElem?_cons_succ] at hx
        have ih := graphOf_get e hx
        have e1 : 3 * (i + 1) = 3 * i + 1 + 1 + 1 := by omega
        have e2 : 3 * (i + 1) + 1 = 3 * i + 1 + 1 + 1 + 1 := by omega
        have e3 : 3 * (i + 1) + 2 = 3 * i + 2 + 1 + 1 + 1 := by omega
        rw [e3, e2, e1]
        simp only [List.getElem?_cons_succ]
        exact ih
theorem graphOf_some : ∀ (n : Nat) (l : List Nat), l.length = 3 * n → ∃ g, graphOf l = some g
  | 0, [], _ => ⟨[], rfl⟩
  | 0, _ :: _, h => by simp at h
  | n + 1, [], h => by simp at h
  | n + 1, [_], h => by simp at h; omega
  | n + 1, [_, _], h => by simp at h; omega
  | n + 1, k :: a :: b :: l, h => by
    simp only [List.length_cons] at h
    obtain ⟨g, hg⟩ := graphOf_some n l (by omega)
    exact ⟨⟨k, a, b⟩ :: g, by rw [graphOf, hg]; rfl⟩
/-- a node that is right, by its parts -/
theorem ok_get {g : Graph} (h : graphOk g = true) {i : Nat} {x : Node} (hx : g[i]? = some x) : nodeOk g.length x = true := by
  unfold graphOk at h
  simp only [Bool.and_eq_true, List.all_eq_true] at h
  exact h.2.2 x (List.mem_of_getElem? hx)
theorem ok_len {g : Graph} (h : graphOk g = true) : 1 ≤ g.length ∧ g.length ≤ 32 := by
  unfold graphOk at h
  simp only [Bool.and_eq_true, decide_eq_true_eq] at h
  exact ⟨h.1, h.2.1⟩
theorem nodeOk_leaf {n : Nat} {x : Node} (h : nodeOk n x = true) (hk : x.kind ≤ 3) : x.a = 0 ∧ x.b = 0 := by
  unfold nodeOk at h
  rw [if_pos hk] at h
  simpa using h
theorem nodeOk_inner {n : Nat} {x : Node} (h : nodeOk n x = true) (hk : 3 < x.kind) : x.kind ≤ 6 ∧ x.a < n ∧ x.b < n := by
  unfold nodeOk at h
  rw [if_neg (by omega)] at h
  simpa using h
theorem at_get {g : Graph} {i : Nat} {x : Node} (h : g[i]? = some x) : at_ g i = x := by
  unfold at_
  rw [List.getD_eq_getElem?_getD, h]
  rfl
theorem get_at {g : Graph} {i : Nat} (h : i < g.length) : g[i]? = some (at_ g i) := by
  rw [List.getElem?_eq_getElem h]
  congr 1
  exact (at_get (List.getElem?_eq_getElem h)).symm
/-- with_, by cases of what it asks -/
theorem with_bad {l nodes : List Nat} {f : Graph → Ans} {g : Graph} (h : graphOf l = some g) (hb : graphOk g = false) : with_ l nodes f = say (-71) := by
  unfold with_
  rw [h]
  exact if_pos hb
theorem with_no {l nodes : List Nat} {f : Graph → Ans} {g : Graph} (h : graphOf l = some g) (hb : graphOk g = true) (hn : nodes.all (fun i => decide (i < g.length)) = false) : with_ l nodes f = say (-2) := by
  unfold with_
  rw [h]
  show (if graphOk g = false then say (-71) else if nodes.all (fun i => decide (i < g.length)) = false then say (-2) else f g) = _
  rw [if_neg (by rw [hb]; decide), if_pos hn]
theorem with_ok {l nodes : List Nat} {f : Graph → Ans} {g : Graph} (h : graphOf l = some g) (hb : graphOk g = true) (hn : nodes.all (fun i => decide (i < g.length)) = true) : with_ l nodes f = f g := by
  unfold with_
  rw [h]
  show (if graphOk g = false then say (-71) else if nodes.all (fun i => decide (i < g.length)) = false then say (-2) else f g) = _
  rw [if_neg (by rw [hb]; decide), if_neg (by rw [hn]; decide)]
end Rt
namespace Rt
open Krk0
/-! ### so many different numbers below a bound -/
theorem nodup_le : ∀ (n : Nat) (l : List Nat), l.Nodup → (∀ x ∈ l, x < n) → l.length ≤ n
  | 0, l, _, h => by
    cases l with
    | nil => exact Nat.le_refl _
    | cons x l => exact absurd (h x List.mem_cons_self) (Nat.not_lt_zero _)
  | n + 1, l, hn, h => by
    by_cases hm : n ∈ l
    · have h1 := nodup_le n (l.erase n) (hn.erase n) (fun x hx => by
        have hx' := List.mem_of_mem_erase hx
        have hne : x ≠ n := fun e => by
          subst e
          exact absurd hx (List.Nodup.not_mem_erase hn)
        have := h x hx'
        omega)
      rw [List.length_erase_of_mem hm] at h1
      omega
    · have h1 := nodup_le n l hn (fun x hx => by
        have hne : x ≠ n := fun e => by
          subst e
          exact hm hx
        have := h x hx
        omega)
      omega
theorem nodup_map_on {α β : Type} {f : α → β} : ∀ {l : List α}, (∀ x ∈ l, ∀ y ∈ l, f x = f y → x = y) → l.Nodup → (l.map f).Nodup
  | [], _, _ => List.nodup_nil
  | a :: l, hf, h => by
    rw [List.map_cons, List.nodup_cons]
    rw [List.nodup_cons] at h
    refine ⟨fun hm => ?_, nodup_map_on (fun x hx y hy => hf x (List.mem_cons_of_mem _ hx) y (List.mem_cons_of_mem _ hy)) h.2⟩
    obtain ⟨y, hy, e⟩ := List.mem_map.mp hm
    have := hf a List.mem_cons_self y (List.mem_cons_of_mem _ hy) e.symm
    subst this
    exact h.1 hy
theorem pairs_le (n : Nat) (l : List (Nat × Nat)) (hn : l.Nodup) (h : ∀ x ∈ l, x.1 < n ∧ x.2 < n) : l.length ≤ n * n := by
  have h1 := nodup_le (n * n) (l.map fun p => p.1 * n + p.2) (nodup_map_on (fun x hx y hy e => by
    obtain ⟨x1, x2⟩ := h x hx
    obtain ⟨y1, y2⟩ := h y hy
    have d1 : (x.1 * n + x.2) / n = x.1 := by
      rw [Nat.mul_comm, Nat.mul_add_div (by omega), Nat.div_eq_of_lt x2, Nat.add_zero]
    have d2 : (y.1 * n + y.2) / n = y.1 := by
      rw [Nat.mul_comm, Nat.mul_add_div (by omega), Nat.div_eq_of_lt y2, Nat.add_zero]
    have e1 : x.1 = y.1 := by
      have e' : x.1 * n + x.2 = y.1 * n + y.2 := e
      rw [← d1, ← d2, e']
    have e2 : x.2 = y.2 := by
      have e' : x.1 * n + x.2 = y.1 * n + y.2 := e
      rw [e1] at e'
      omega
    exact Prod.ext e1 e2) hn) (fun z hz => by
      obtain ⟨x, hx, rfl⟩ := List.mem_map.mp hz
      obtain ⟨x1, x2⟩ := h x hx
      have : (x.1 + 1) * n ≤ n * n := Nat.mul_le_mul_right n x1
      rw [Nat.add_mul] at this
      show x.1 * n + x.2 < n * n
      omega)
  rw [List.length_map] at h1
  exact h1
end Rt
namespace Rt
open Krk0
/-- all nodes right, however many -/
def GOk (g : Graph) : Prop := ∀ x ∈ g, nodeOk g.length x = true
theorem gok_of {g : Graph} (h : graphOk g = true) : GOk g := by
  unfold graphOk at h
  simp only [Bool.and_eq_true, List.all_eq_true] at h
  exact h.2.2
theorem GOk.at_ {g : Graph} (h : GOk g) {i : Nat} (hi : i < g.length) : nodeOk g.length (at_ g i) = true := h _ (List.mem_of_getElem? (get_at hi))
theorem GOk.leaf {g : Graph} (h : GOk g) {i : Nat} (hi : i < g.length) (hk : (Krk0.at_ g i).kind ≤ 3) : (Krk0.at_ g i).a = 0 ∧ (Krk0.at_ g i).b = 0 := nodeOk_leaf (h.at_ hi) hk
theorem GOk.inner {g : Graph} (h : GOk g) {i : Nat} (hi : i < g.length) (hk : 3 < (Krk0.at_ g i).kind) : (Krk0.at_ g i).kind ≤ 6 ∧ (Krk0.at_ g i).a < g.length ∧ (Krk0.at_ g i).b < g.length := nodeOk_inner (h.at_ hi) hk
/-! ### like as far as so many steps, in two graphs -/
def Bk (g g' : Graph) : Nat → Nat → Nat → Prop
  | 0, _, _ => True
  | k + 1, i, j => (Krk0.at_ g i).kind = (Krk0.at_ g' j).kind ∧ (3 < (Krk0.at_ g i).kind → Bk g g' k (Krk0.at_ g i).a (Krk0.at_ g' j).a ∧ Bk g g' k (Krk0.at_ g i).b (Krk0.at_ g' j).b)
/-- however far -/
def Bis (g g' : Graph) (i j : Nat) : Prop := ∀ k, Bk g g' k i j
theorem Bis.kind {g g' : Graph} {i j : Nat} (h : Bis g g' i j) : (Krk0.at_ g i).kind = (Krk0.at_ g' j).kind := (h 1).1
theorem Bis.a {g g' : Graph} {i j : Nat} (h : Bis g g' i j) (hk : 3 < (Krk0.at_ g i).kind) : Bis g g' (Krk0.at_ g i).a (Krk0.at_ g' j).a := fun k => ((h (k + 1)).2 hk).1
theorem Bis.b {g g' : Graph} {i j : Nat} (h : Bis g g' i j) (hk : 3 < (Krk0.at_ g i).kind) : Bis g g' (Krk0.at_ g i).b (Krk0.at_ g' j).b := fun k => ((h (k + 1)).2 hk).2
/-- a relation that is kept by going down tells the like -/
theorem Bis.of {g g' : Graph} {R : Nat → Nat → Prop} (h : ∀ i j, R i j → (Krk0.at_ g i).kind = (Krk0.at_ g' j).kind ∧ (3 < (Krk0.at_ g i).kind → R (Krk0.at_ g i).a (Krk0.at_ g' j).a ∧ R (Krk0.at_ g i).b (Krk0.at_ g' j).b)) :
    ∀ {i j : Nat}, R i j → Bis g g' i j := by
  have : ∀ k i j, R i j → Bk g g' k i j := by
    intro k
    induction k with
    | zero => intro i j _; exact True.intro
    | succ k ih =>
      intro i j r
      obtain ⟨h1, h2⟩ := h i j r
      exact ⟨h1, fun hk => ⟨ih _ _ (h2 hk).1, ih _ _ (h2 hk).2⟩⟩
  intro i j r k
  exact this k i j r
theorem Bis.rfl' {g : Graph} {i : Nat} : Bis g g i i := Bis.of (R := fun i j => i = j) (fun i j e => by subst e; exact ⟨rfl, fun _ => ⟨rfl, rfl⟩⟩) rfl
theorem Bis.symm {g g' : Graph} {i j : Nat} (h : Bis g g' i j) : Bis g' g j i := Bis.of (R := fun j i => Bis g g' i j) (fun j i e => ⟨e.kind.symm, fun hk => by
  rw [← e.kind] at hk
  exact ⟨e.a hk, e.b hk⟩⟩) h
theorem Bis.trans {g g' g'' : Graph} {i j k : Nat} (h : Bis g g' i j) (h' : Bis g' g'' j k) : Bis g g'' i k := Bis.of (R := fun i k => ∃ j, Bis g g' i j ∧ Bis g' g'' j k) (fun i k ⟨j, e1, e2⟩ => ⟨e1.kind.trans e2.kind, fun hk => by
  have hk' := hk
  rw [e1.kind] at hk'
  exact ⟨⟨_, e1.a hk, e2.a hk'⟩, ⟨_, e1.b hk, e2.b hk'⟩⟩⟩) ⟨j, h, h'⟩
/-! ### the different ones of a list, as they come -/
section
variable {κ : Type} [DecidableEq κ]
def dd1 (acc : List κ) (k : κ) : List κ := if k ∈ acc then acc else acc ++ [k]
def dd (ks : List κ) : List κ := ks.foldl dd1 []
theorem dd_snoc (ks : List κ) (k : κ) : dd (ks ++ [k]) = dd1 (dd ks) k := by
  unfold dd
  rw [List.foldl_append]
  rfl
theorem dd1_mem {acc : List κ} {k x : κ} : x ∈ dd1 acc k ↔ x ∈ acc ∨ x = k := by
  unfold dd1
  by_cases h : k ∈ acc
  · rw [if_pos h]
    exact ⟨.inl, fun e => e.elim id fun e => by rw [e]; exact h⟩
  · rw [if_neg h, List.mem_append, List.mem_singleton]
theorem snoc_ind {α : Type} {P : List α → Prop} (h0 : P []) (hs : ∀ l x, P l → P (l ++ [x])) : ∀ l, P l := by
  have : ∀ l, P (List.reverse l) := by
    intro l
    induction l with
    | nil => exact h0
    | cons x l ih => rw [List.reverse_cons]; exact hs _ _ ih
  intro l
  rw [← List.reverse_reverse l]
  exact this _
theorem dd_mem (x : κ) : ∀ ks : List κ, x ∈ dd ks ↔ x ∈ ks := by
  refine snoc_ind (by unfold dd; exact Iff.rfl) fun ks k ih => ?_
  rw [dd_snoc, dd1_mem, ih, List.mem_append, List.mem_singleton]
theorem dd1_nodup {acc : List κ} {k : κ} (h : acc.Nodup) : (dd1 acc k).Nodup := by
  unfold dd1
  by_cases hk : k ∈ acc
  · rw [if_pos hk]; exact h
  · rw [if_neg hk]
    refine List.nodup_append.mpr ⟨h, by simp, fun a ha b hb e => ?_⟩
    rw [List.mem_singleton] at hb
    subst e
    subst hb
    exact hk ha
theorem dd_nodup : ∀ ks : List κ, (dd ks).Nodup := snoc_ind (by unfold dd; exact List.nodup_nil) fun ks k ih => by
  rw [dd_snoc]
  exact dd1_nodup ih
theorem dd1_len (acc : List κ) (k : κ) : (dd1 acc k).length = if k ∈ acc then acc.length else acc.length + 1 := by
  unfold dd1
  by_cases h : k ∈ acc
  · rw [if_pos h, if_pos h]
  · rw [if_neg h, if_neg h, List.length_append, List.length_singleton]
theorem dd_len (ks : List κ) : (dd ks).length ≤ ks.length := by
  refine snoc_ind (P := fun ks => (dd ks).length ≤ ks.length) (Nat.le_refl _) (fun ks k ih => ?_) ks
  rw [dd_snoc, dd1_len, List.length_append, List.length_singleton]
  split <;> omega
theorem dd_pos {ks : List κ} (h : ks ≠ []) : 1 ≤ (dd ks).length := by
  cases ks with
  | nil => exact absurd rfl h
  | cons k ks =>
    have : k ∈ dd (k :: ks) := (dd_mem k _).mpr List.mem_cons_self
    cases hd : dd (k :: ks) with
    | nil => rw [hd] at this; cases this
    | cons _ _ => simp
end
/-- finer ones are more; as many only where they tell no more apart -/
theorem dd_finer {α β : Type} [DecidableEq α] [DecidableEq β] : ∀ zs : List (α × β), (∀ z ∈ zs, ∀ z' ∈ zs, z.2 = z'.2 → z.1 = z'.1) →
    (dd (zs.map (·.1))).length ≤ (dd (zs.map (·.2))).length ∧ ((dd (zs.map (·.1))).length = (dd (zs.map (·.2))).length → ∀ z ∈ zs, ∀ z' ∈ zs, z.1 = z'.1 → z.2 = z'.2) := by
  refine snoc_ind (fun _ => ⟨Nat.le_refl _, fun _ z hz => nomatch hz⟩) fun zs x ih hd => ?_
  obtain ⟨ih1, ih2⟩ := ih fun z hz z' hz' => hd z (List.mem_append_left _ hz) z' (List.mem_append_left _ hz')
  have hx : x ∈ zs ++ [x] := List.mem_append_right _ List.mem_cons_self
  rw [List.map_append, List.map_append]
  show (dd (zs.map (·.1) ++ [x.1])).length ≤ (dd (zs.map (·.2) ++ [x.2])).length ∧ ((dd (zs.map (·.1) ++ [x.1])).length = (dd (zs.map (·.2) ++ [x.2])).length → _)
  rw [dd_snoc, dd_snoc, dd1_len, dd1_len]
  by_cases hb : x.2 ∈ dd (zs.map (·.2))
  · have hb' := (dd_mem _ _).mp hb
    obtain ⟨y, hy, ey⟩ := List.mem_map.mp hb'
    have e1 : y.1 = x.1 := hd y (List.mem_append_left _ hy) x hx ey
    have ha : x.1 ∈ dd (zs.map (·.1)) := (dd_mem _ _).mpr (List.mem_map.mpr ⟨y, hy, e1⟩)
    rw [if_pos hb, if_pos ha]
    refine ⟨ih1, fun e => ?_⟩
    have key := ih2 e
    intro z hz z' hz' e0
    rcases List.mem_append.mp hz with hz | hz
    · rcases List.mem_append.mp hz' with hz' | hz'
      · exact key z hz z' hz' e0
      · rw [List.mem_singleton.mp hz'] at e0 ⊢
        rw [← ey]
        exact key z hz y hy (e0.trans e1.symm)
    · rw [List.mem_singleton.mp hz] at e0 ⊢
      rcases List.mem_append.mp hz' with hz' | hz'
      · rw [← ey]
        exact key y hy z' hz' (e1.trans e0)
      · rw [List.mem_singleton.mp hz']
  · rw [if_neg hb]
    by_cases ha : x.1 ∈ dd (zs.map (·.1))
    · rw [if_pos ha]
      exact ⟨by omega, fun e => by omega⟩
    · rw [if_neg ha]
      have ha' : x.1 ∉ zs.map (·.1) := fun h => ha ((dd_mem _ _).mpr h)
      refine ⟨by omega, fun e => ?_⟩
      have key := ih2 (by omega)
      intro z hz z' hz' e0
      rcases List.mem_append.mp hz with hz | hz
      · rcases List.mem_append.mp hz' with hz' | hz'
        · exact key z hz z' hz' e0
        · rw [List.mem_singleton.mp hz'] at e0
          exact absurd (List.mem_map.mpr ⟨z, hz, e0⟩) ha'
      · rw [List.mem_singleton.mp hz] at e0 ⊢
        rcases List.mem_append.mp hz' with hz' | hz'
        · exact absurd (List.mem_map.mpr ⟨z', hz', e0.symm⟩) ha'
        · rw [List.mem_singleton.mp hz']
/-! ### places of firsts -/
section
variable {κ : Type} [BEq κ] [LawfulBEq κ]
theorem idxOf_get {ks : List κ} {i : Nat} {k : κ} (h : ks[i]? = some k) : ks.idxOf k ≤ i ∧ ks[ks.idxOf k]? = some k := by
  have hm : k ∈ ks := List.mem_of_getElem? h
  have hlt := List.idxOf_lt_length_of_mem hm
  refine ⟨?_, ?_⟩
  · by_cases hi : i < ks.idxOf k
    · have := List.not_of_lt_findIdx hi
      obtain ⟨hi', e⟩ := List.getElem?_eq_some_iff.mp h
      simp [e] at this
    · omega
  · rw [List.getElem?_eq_getElem hlt, List.getElem_idxOf hlt]
end
/-- like labels -/
def lab (c : List Nat) (i : Nat) : Nat := c.getD i 0
theorem lab_get {c : List Nat} {i v : Nat} (h : c[i]? = some v) : lab c i = v := by
  unfold lab
  rw [List.getD_eq_getElem?_getD, h]
  rfl
theorem get_lab {c : List Nat} {i : Nat} (h : i < c.length) : c[i]? = some (lab c i) := by
  rw [List.getElem?_eq_getElem h]
  congr 1
  exact (lab_get (List.getElem?_eq_getElem h)).symm
/-! ### the specification's classes -/
def keyO (c : List Nat) (x : Node) : Nat × Nat × Nat := if x.kind ≤ 3 then (x.kind, 0, 0) else (x.kind, lab c x.a, lab c x.b)
theorem finer_eq (g : Graph) (c : List Nat) : finer g c = (g.map (keyO c)).map fun k => (g.map (keyO c)).idxOf k := rfl
theorem finer_len (g : Graph) (c : List Nat) : (finer g c).length = g.length := by rw [finer_eq, List.length_map, List.length_map]
theorem finer_lab {g : Graph} {c : List Nat} {i : Nat} (hi : i < g.length) : lab (finer g c) i = (g.map (keyO c)).idxOf (keyO c (Krk0.at_ g i)) := by
  refine lab_get ?_
  rw [finer_eq, List.getElem?_map, List.getElem?_map, get_at hi]
  rfl
theorem finer_iff {g : Graph} {c : List Nat} {i j : Nat} (hi : i < g.length) (hj : j < g.length) : lab (finer g c) i = lab (finer g c) j ↔ keyO c (Krk0.at_ g i) = keyO c (Krk0.at_ g j) := by
  rw [finer_lab hi, finer_lab hj]
  constructor
  · intro e
    have h1 := (idxOf_get (ks := g.map (keyO c)) (i := i) (k := keyO c (Krk0.at_ g i)) (by rw [List.getElem?_map, get_at hi]; rfl)).2
    have h2 := (idxOf_get (ks := g.map (keyO c)) (i := j) (k := keyO c (Krk0.at_ g j)) (by rw [List.getElem?_map, get_at hj]; rfl)).2
    rw [e, h2] at h1
    exact (Option.some.inj h1).symm
  · intro e
    rw [e]
theorem keyO_iff {c : List Nat} {x y : Node} : keyO c x = keyO c y ↔ x.kind = y.kind ∧ (3 < x.kind → lab c x.a = lab c y.a ∧ lab c x.b = lab c y.b) := by
  unfold keyO
  constructor
  · intro e
    by_cases hx : x.kind ≤ 3
    · rw [if_pos hx] at e
      by_cases hy : y.kind ≤ 3
      · rw [if_pos hy] at e
        injection e with e1 _
        exact ⟨e1, fun h => absurd h (by omega)⟩
      · rw [if_neg hy] at e
        injection e with e1 _
        omega
    · rw [if_neg hx] at e
      by_cases hy : y.kind ≤ 3
      · rw [if_pos hy] at e
        injection e with e1 _
        omega
      · rw [if_neg hy] at e
        injection e with e1 e2
        injection e2 with e2 e3
        exact ⟨e1, fun _ => ⟨e2, e3⟩⟩
  · rintro ⟨e1, e2⟩
    by_cases hx : x.kind ≤ 3
    · rw [if_pos hx, if_pos (by omega), e1]
    · rw [if_neg hx, if_neg (by omega), e1, (e2 (by omega)).1, (e2 (by omega)).2]
def stage (g : Graph) : Nat → List Nat
  | 0 => g.map fun _ => 0
  | k + 1 => finer g (stage g k)
theorem stage_len (g : Graph) : ∀ k, (stage g k).length = g.length
  | 0 => by rw [stage, List.length_map]
  | k + 1 => finer_len _ _
theorem stage_iff {g : Graph} (hg : GOk g) : ∀ (k i j : Nat), i < g.length → j < g.length → (lab (stage g k) i = lab (stage g k) j ↔ Bk g g k i j)
  | 0, i, j, hi, hj => by
    have e : ∀ i, i < g.length → lab (stage g 0) i = 0 := fun i hi => lab_get (by show (g.map fun _ => 0)[i]? = some 0; rw [List.getElem?_map, get_at hi]; rfl)
    rw [e i hi, e j hj]
    exact ⟨fun _ => True.intro, fun _ => rfl⟩
  | k + 1, i, j, hi, hj => by
    show lab (finer g (stage g k)) i = lab (finer g (stage g k)) j ↔ _
    rw [finer_iff hi hj, keyO_iff]
    show _ ↔ ((Krk0.at_ g i).kind = (Krk0.at_ g j).kind ∧ (3 < (Krk0.at_ g i).kind → Bk g g k (Krk0.at_ g i).a (Krk0.at_ g j).a ∧ Bk g g k (Krk0.at_ g i).b (Krk0.at_ g j).b))
    refine and_congr_right fun e => ?_
    constructor
    · intro h hk
      obtain ⟨_, a1, b1⟩ := hg.inner hi hk
      obtain ⟨_, a2, b2⟩ := hg.inner hj (by rw [← e]; exact hk)
      exact ⟨(stage_iff hg k _ _ a1 a2).mp (h hk).1, (stage_iff hg k _ _ b1 b2).mp (h hk).2⟩
    · intro h hk
      obtain ⟨_, a1, b1⟩ := hg.inner hi hk
      obtain ⟨_, a2, b2⟩ := hg.inner hj (by rw [← e]; exact hk)
      exact ⟨(stage_iff hg k _ _ a1 a2).mpr (h hk).1, (stage_iff hg k _ _ b1 b2).mpr (h hk).2⟩
theorem Bk_down {g g' : Graph} : ∀ (k i j : Nat), Bk g g' (k + 1) i j → Bk g g' k i j
  | 0, _, _, _ => True.intro
  | k + 1, i, j, h => ⟨h.1, fun hk => ⟨Bk_down k _ _ (h.2 hk).1, Bk_down k _ _ (h.2 hk).2⟩⟩
/-- labels that are the places of the firsts -/
def Canon (n : Nat) (c : List Nat) : Prop := c.length = n ∧ ∀ i, i < n → lab c i ≤ i ∧ lab c (lab c i) = lab c i ∧ ∀ j, j < n → lab c j = lab c i → lab c i ≤ j
theorem finer_canon (g : Graph) (c : List Nat) : Canon g.length (finer g c) := by
  refine ⟨finer_len g c, fun i hi => ?_⟩
  have hget : ∀ i, i < g.length → (g.map (keyO c))[i]? = some (keyO c (Krk0.at_ g i)) := fun i hi => by rw [List.getElem?_map, get_at hi]; rfl
  obtain ⟨h1, h2⟩ := idxOf_get (hget i hi)
  rw [← finer_lab hi] at h1 h2
  have hlt : lab (finer g c) i < g.length := by omega
  rw [hget _ hlt] at h2
  refine ⟨h1, ?_, fun j hj e => ?_⟩
  · rw [finer_iff hlt hi]
    exact Option.some.inj h2
  · rw [← e, finer_lab hj]
    exact (idxOf_get (hget j hj)).1
theorem stage_canon (g : Graph) : ∀ k, Canon g.length (stage g k)
  | 0 => by
    have e : ∀ i, i < g.length → lab (stage g 0) i = 0 := fun i hi => lab_get (by show (g.map fun _ => 0)[i]? = some 0; rw [List.getElem?_map, get_at hi]; rfl)
    refine ⟨stage_len g 0, fun i hi => ?_⟩
    rw [e i hi]
    exact ⟨Nat.zero_le _, e 0 (by omega), fun j _ _ => Nat.zero_le _⟩
  | k + 1 => finer_canon _ _
theorem canon_eq {n : Nat} {c c' : List Nat} (h : Canon n c) (h' : Canon n c') (e : ∀ i j, i < n → j < n → (lab c i = lab c j ↔ lab c' i = lab c' j)) : c = c' := by
  have key : ∀ i, i < n → lab c i = lab c' i := by
    intro i hi
    obtain ⟨a1, a2, a3⟩ := h.2 i hi
    obtain ⟨b1, b2, b3⟩ := h'.2 i hi
    have h1 : lab c (lab c' i) = lab c i := (e _ _ (by omega) hi).mpr b2
    have h2 : lab c' (lab c i) = lab c' i := (e _ _ (by omega) hi).mp a2
    have := a3 _ (by omega) h1
    have := b3 _ (by omega) h2
    omega
  apply List.ext_getElem?
  intro i
  by_cases hi : i < n
  · rw [get_lab (by rw [h.1]; exact hi), get_lab (by rw [h'.1]; exact hi), key i hi]
  · rw [List.getElem?_eq_none (by rw [h.1]; omega), List.getElem?_eq_none (by rw [h'.1]; omega)]
theorem zip_labs {n : Nat} {c c' : List Nat} (h : c.length = n) (h' : c'.length = n) : (c.zip c').map (·.1) = c ∧ (c.zip c').map (·.2) = c' := ⟨List.map_fst_zip (by omega), List.map_snd_zip (by omega)⟩
theorem zip_lab {n : Nat} {c c' : List Nat} (h : c.length = n) (h' : c'.length = n) {z : Nat × Nat} (hz : z ∈ c.zip c') : ∃ i, i < n ∧ z = (lab c i, lab c' i) := by
  obtain ⟨i, hi⟩ := List.getElem?_of_mem hz
  obtain ⟨h1, h2⟩ := List.getElem?_zip_eq_some.mp hi
  have := (List.getElem?_eq_some_iff.mp h1).1
  exact ⟨i, by omega, by rw [lab_get h1, lab_get h2]⟩
theorem zip_lab' {n : Nat} {c c' : List Nat} (h : c.length = n) (h' : c'.length = n) {i : Nat} (hi : i < n) : (lab c i, lab c' i) ∈ c.zip c' := by
  refine List.mem_of_getElem? (i := i) (List.getElem?_zip_eq_some.mpr ⟨?_, ?_⟩)
  · exact get_lab (by omega)
  · exact get_lab (by omega)
theorem refined_ends {g : Graph} (hg : GOk g) (h1 : 1 ≤ g.length) : ∀ (f k : Nat), g.length + 1 ≤ (dd (stage g k)).length + f → ∃ K, refined g f (stage g k) = stage g K ∧ stage g (K + 1) = stage g K
  | 0, k, h => by
    have := dd_len (stage g k)
    rw [stage_len] at this
    omega
  | f + 1, k, h => by
    show ∃ K, (if finer g (stage g k) = stage g k then stage g k else refined g f (finer g (stage g k))) = stage g K ∧ _
    by_cases e : finer g (stage g k) = stage g k
    · rw [if_pos e]
      exact ⟨k, rfl, e⟩
    · rw [if_neg e]
      refine refined_ends hg h1 f (k + 1) ?_
      obtain ⟨z1, z2⟩ := zip_labs (stage_len g k) (stage_len g (k + 1))
      obtain ⟨d1, d2⟩ := dd_finer ((stage g k).zip (stage g (k + 1))) (fun z hz z' hz' ez => by
        obtain ⟨i, hi, rfl⟩ := zip_lab (stage_len g k) (stage_len g (k + 1)) hz
        obtain ⟨j, hj, rfl⟩ := zip_lab (stage_len g k) (stage_len g (k + 1)) hz'
        exact (stage_iff hg k i j hi hj).mpr (Bk_down k i j ((stage_iff hg (k + 1) i j hi hj).mp ez)))
      rw [z1, z2] at d1 d2
      by_cases hc : (dd (stage g k)).length = (dd (stage g (k + 1))).length
      · exfalso
        refine e (canon_eq (stage_canon g (k + 1)) (stage_canon g k) fun i j hi hj => ⟨fun h => ?_, fun h => ?_⟩)
        · exact (stage_iff hg k i j hi hj).mpr (Bk_down k i j ((stage_iff hg (k + 1) i j hi hj).mp h))
        · exact d2 hc _ (zip_lab' (stage_len g k) (stage_len g (k + 1)) hi) _ (zip_lab' (stage_len g k) (stage_len g (k + 1)) hj) h
      · omega
/-- **the classes tell the like** -/
theorem classes_ok {g : Graph} (hg : GOk g) (h1 : 1 ≤ g.length) : Canon g.length (classes g) ∧ ∀ i j, i < g.length → j < g.length → (lab (classes g) i = lab (classes g) j ↔ Bis g g i j) := by
  obtain ⟨K, e, hs⟩ := refined_ends hg h1 g.length 0 (by
    have : 1 ≤ (dd (stage g 0)).length := dd_pos fun z => by
      have := stage_len g 0
      rw [z] at this
      simp at this
      omega
    omega)
  have ec : classes g = stage g K := e
  rw [ec]
  refine ⟨stage_canon g K, fun i j hi hj => ⟨fun h => ?_, fun h => (stage_iff hg K i j hi hj).mpr (h K)⟩⟩
  refine Bis.of (R := fun i j => i < g.length ∧ j < g.length ∧ lab (stage g K) i = lab (stage g K) j) (fun i j ⟨hi, hj, h⟩ => ?_) ⟨hi, hj, h⟩
  have h' : lab (finer g (stage g K)) i = lab (finer g (stage g K)) j := by
    have : finer g (stage g K) = stage g K := hs
    rw [this]
    exact h
  rw [finer_iff hi hj, keyO_iff] at h'
  refine ⟨h'.1, fun hk => ?_⟩
  obtain ⟨_, a1, b1⟩ := hg.inner hi hk
  obtain ⟨_, a2, b2⟩ := hg.inner hj (by rw [← h'.1]; exact hk)
  exact ⟨⟨a1, a2, (h'.2 hk).1⟩, ⟨b1, b2, (h'.2 hk).2⟩⟩
end Rt
namespace Rt
open Krk0
/-! ### groups by what looks alike -/
def grp {κ : Type} [DecidableEq κ] (ks : List κ) : List Nat := ks.map fun k => (dd ks).idxOf k
section
variable {κ β : Type} [DecidableEq κ]
def gix (ks : List κ) (k : κ) : Nat := (dd ks).idxOf k
theorem grp_map (ks : List κ) (f : Nat → β) : (grp ks).map f = ks.map fun k => f (gix ks k) := by unfold grp; rw [List.map_map]; rfl
theorem grp_len (ks : List κ) : (grp ks).length = ks.length := by unfold grp; rw [List.length_map]
theorem grp_lab {ks : List κ} {i : Nat} {k : κ} (h : ks[i]? = some k) : lab (grp ks) i = (dd ks).idxOf k := by
  refine lab_get ?_
  unfold grp
  rw [List.getElem?_map, h]
  rfl
theorem grp_iff {ks : List κ} {i j : Nat} {k k' : κ} (h : ks[i]? = some k) (h' : ks[j]? = some k') : lab (grp ks) i = lab (grp ks) j ↔ k = k' := by
  rw [grp_lab h, grp_lab h']
  refine ⟨fun e => ?_, fun e => by rw [e]⟩
  have m := (dd_mem k ks).mpr (List.mem_of_getElem? h)
  have m' := (dd_mem k' ks).mpr (List.mem_of_getElem? h')
  have e1 := List.getElem_idxOf (List.idxOf_lt_length_of_mem m)
  have e2 := List.getElem_idxOf (List.idxOf_lt_length_of_mem m')
  rw [← e1, ← e2]
  congr 1
/-- the greatest, and one, are as many as there are different ones -/
def Dense (gs : List Nat) : Prop := ∀ m ∈ gs, (∀ y ∈ gs, y ≤ m) → m + 1 = (dd gs).length
theorem grp_dd (ks : List κ) : (dd (grp ks)).length = (dd ks).length := by
  have e1 : (ks.zip (grp ks)).map (·.1) = ks := List.map_fst_zip (by rw [grp_len]; exact Nat.le_refl _)
  have e2 : (ks.zip (grp ks)).map (·.2) = grp ks := List.map_snd_zip (by rw [grp_len]; exact Nat.le_refl _)
  have f1 : ((grp ks).zip ks).map (·.1) = grp ks := List.map_fst_zip (by rw [grp_len]; exact Nat.le_refl _)
  have f2 : ((grp ks).zip ks).map (·.2) = ks := List.map_snd_zip (by rw [grp_len]; exact Nat.le_refl _)
  have g1 := (dd_finer (ks.zip (grp ks)) (fun z hz z' hz' e => by
    obtain ⟨i, hi⟩ := List.getElem?_of_mem hz
    obtain ⟨j, hj⟩ := List.getElem?_of_mem hz'
    obtain ⟨a1, a2⟩ := List.getElem?_zip_eq_some.mp hi
    obtain ⟨b1, b2⟩ := List.getElem?_zip_eq_some.mp hj
    refine (grp_iff a1 b1).mp ?_
    rw [lab_get a2, lab_get b2]
    exact e)).1
  have g2 := (dd_finer ((grp ks).zip ks) (fun z hz z' hz' e => by
    obtain ⟨i, hi⟩ := List.getElem?_of_mem hz
    obtain ⟨j, hj⟩ := List.getElem?_of_mem hz'
    obtain ⟨a1, a2⟩ := List.getElem?_zip_eq_some.mp hi
    obtain ⟨b1, b2⟩ := List.getElem?_zip_eq_some.mp hj
    rw [← lab_get a1, ← lab_get b1]
    exact (grp_iff a2 b2).mpr e)).1
  rw [e1, e2] at g1
  rw [f1, f2] at g2
  omega
theorem grp_dense (ks : List κ) : Dense (grp ks) := by
  intro m hm hmax
  rw [grp_dd]
  obtain ⟨k, hk, e⟩ := List.mem_map.mp hm
  have h1 := List.idxOf_lt_length_of_mem ((dd_mem k ks).mpr hk)
  rw [e] at h1
  have hlast : (dd ks).length - 1 < (dd ks).length := by omega
  have hmem : (dd ks)[(dd ks).length - 1] ∈ ks := (dd_mem _ ks).mp (List.getElem_mem hlast)
  have hi : (dd ks).idxOf (dd ks)[(dd ks).length - 1] = (dd ks).length - 1 := by
    have nd := dd_nodup ks
    have hlt := List.idxOf_lt_length_of_mem (List.getElem_mem hlast)
    have := List.getElem_idxOf hlt
    exact (List.getElem_inj nd).mp this
  have := hmax _ (List.mem_map.mpr ⟨_, hmem, rfl⟩)
  rw [hi] at this
  omega
end
/-- how a node looks -/
def look4 (g : Graph) (gs : List Nat) (i : Nat) : List Nat := [lab gs i, (Krk0.at_ g i).kind, if 3 < (Krk0.at_ g i).kind then lab gs (Krk0.at_ g i).a else 0, if 3 < (Krk0.at_ g i).kind then lab gs (Krk0.at_ g i).b else 0]
theorem look4_iff {g : Graph} {gs : List Nat} {i j : Nat} : look4 g gs i = look4 g gs j ↔ lab gs i = lab gs j ∧ (Krk0.at_ g i).kind = (Krk0.at_ g j).kind ∧ (3 < (Krk0.at_ g i).kind → lab gs (Krk0.at_ g i).a = lab gs (Krk0.at_ g j).a ∧ lab gs (Krk0.at_ g i).b = lab gs (Krk0.at_ g j).b) := by
  unfold look4
  constructor
  · intro e
    injection e with e1 e
    injection e with e2 e
    injection e with e3 e
    injection e with e4 e
    refine ⟨e1, e2, fun hk => ?_⟩
    rw [if_pos hk, if_pos (by rw [← e2]; exact hk)] at e3 e4
    exact ⟨e3, e4⟩
  · rintro ⟨e1, e2, e3⟩
    rw [e1, e2]
    by_cases hk : 3 < (Krk0.at_ g j).kind
    · obtain ⟨a, b⟩ := e3 (by rw [e2]; exact hk)
      rw [if_pos hk, if_pos hk, if_pos hk, if_pos hk, a, b]
    · rw [if_neg hk, if_neg hk, if_neg hk, if_neg hk]
/-- groups told while they're made finer -/
structure GrpAt (g : Graph) (gs : List Nat) (before : Nat) : Prop where
  len : gs.length = g.length
  dense : Dense gs
  like : ∀ i j, i < g.length → j < g.length → Bis g g i j → lab gs i = lab gs j
  last : before = 0 ∨ ∃ gp : List Nat, gp.length = g.length ∧ before = (dd gp).length ∧ ∀ i j, i < g.length → j < g.length → (lab gs i = lab gs j ↔ look4 g gp i = look4 g gp j)
theorem GrpAt.start (g : Graph) : GrpAt g (grp (g.map fun x => x.kind)) 0 where
  len := by rw [grp_len, List.length_map]
  dense := grp_dense _
  like := fun i j hi hj h => (grp_iff (k := (Krk0.at_ g i).kind) (k' := (Krk0.at_ g j).kind) (by rw [List.getElem?_map, get_at hi]; rfl) (by rw [List.getElem?_map, get_at hj]; rfl)).mpr h.kind
  last := .inl rfl
theorem look_get {g : Graph} {gs : List Nat} {i : Nat} (hi : i < g.length) : ((List.range g.length).map (look4 g gs))[i]? = some (look4 g gs i) := by
  rw [List.getElem?_map, List.getElem?_range hi]
  rfl
theorem GrpAt.turn {g : Graph} {gs : List Nat} {before : Nat} (hg : GOk g) (h : GrpAt g gs before) : GrpAt g (grp ((List.range g.length).map (look4 g gs))) (dd gs).length where
  len := by rw [grp_len, List.length_map, List.length_range]
  dense := grp_dense _
  like := fun i j hi hj e => (grp_iff (look_get hi) (look_get hj)).mpr (look4_iff.mpr ⟨h.like i j hi hj e, e.kind, fun hk => by
    obtain ⟨_, a1, b1⟩ := hg.inner hi hk
    obtain ⟨_, a2, b2⟩ := hg.inner hj (by rw [← e.kind]; exact hk)
    exact ⟨h.like _ _ a1 a2 (e.a hk), h.like _ _ b1 b2 (e.b hk)⟩⟩)
  last := .inr ⟨gs, h.len, rfl, fun i j hi hj => grp_iff (look_get hi) (look_get hj)⟩
/-- labels that tell the like, and nothing else -/
def Tells (g : Graph) (gs : List Nat) : Prop := gs.length = g.length ∧ ∀ i j, i < g.length → j < g.length → (lab gs i = lab gs j ↔ Bis g g i j)
theorem GrpAt.ends {g : Graph} {gs : List Nat} {before : Nat} (hg : GOk g) (h1 : 1 ≤ g.length) (h : GrpAt g gs before) (he : (dd gs).length ≤ before) : Tells g gs := by
  refine ⟨h.len, fun i j hi hj => ⟨fun e => ?_, h.like i j hi hj⟩⟩
  have hpos : 1 ≤ (dd gs).length := dd_pos fun z => by
    have := h.len
    rw [z] at this
    simp at this
    omega
  rcases h.last with hb | ⟨gp, hl, hb, hlook⟩
  · omega
  · obtain ⟨z1, z2⟩ := zip_labs hl h.len
    obtain ⟨d1, d2⟩ := dd_finer (gp.zip gs) (fun z hz z' hz' ez => by
      obtain ⟨i, hi, rfl⟩ := zip_lab hl h.len hz
      obtain ⟨j, hj, rfl⟩ := zip_lab hl h.len hz'
      exact (look4_iff.mp ((hlook i j hi hj).mp ez)).1)
    rw [z1, z2] at d1 d2
    have same : ∀ i j, i < g.length → j < g.length → lab gp i = lab gp j → lab gs i = lab gs j := fun i j hi hj e => d2 (by omega) _ (zip_lab' hl h.len hi) _ (zip_lab' hl h.len hj) e
    refine Bis.of (R := fun i j => i < g.length ∧ j < g.length ∧ lab gs i = lab gs j) (fun i j ⟨hi, hj, e⟩ => ?_) ⟨hi, hj, e⟩
    obtain ⟨_, k1, k2⟩ := look4_iff.mp ((hlook i j hi hj).mp e)
    refine ⟨k1, fun hk => ?_⟩
    obtain ⟨_, a1, b1⟩ := hg.inner hi hk
    obtain ⟨_, a2, b2⟩ := hg.inner hj (by rw [← k1]; exact hk)
    exact ⟨⟨a1, a2, same _ _ a1 a2 (k2 hk).1⟩, ⟨b1, b2, same _ _ b1 b2 (k2 hk).2⟩⟩
theorem same_eq {g : Graph} {gs : List Nat} (hg : GOk g) (h1 : 1 ≤ g.length) (h : Tells g gs) {i j : Nat} (hi : i < g.length) (hj : j < g.length) : Krk0.same g i j = decide (lab gs i = lab gs j) := by
  show (lab (classes g) i == lab (classes g) j) = _
  have h2 := ((classes_ok hg h1).2 i j hi hj).trans (h.2 i j hi hj).symm
  by_cases e : lab gs i = lab gs j
  · rw [decide_eq_true e]
    exact beq_iff_eq.mpr (h2.mpr e)
  · rw [decide_eq_false e]
    exact beq_eq_false_iff_ne.mpr fun z => e (h2.mp z)
/-! ### told in the least way -/
def addR (gs : List Nat) (row : List Nat) (y : Nat) : List Nat := if lab gs y ∈ row.map (lab gs) then row else row ++ [y]
def turnR (g : Graph) (gs : List Nat) (row : List Nat) (r : Nat) : List Nat := if (Krk0.at_ g r).kind ≤ 3 then row else addR gs (addR gs row (Krk0.at_ g r).a) (Krk0.at_ g r).b
structure RowL (g : Graph) (gs : List Nat) (at' : Nat) (row : List Nat) : Prop where
  inn : ∀ r ∈ row, r < g.length
  nd : (row.map (lab gs)).Nodup
  clos : ∀ (j r : Nat), j < at' → row[j]? = some r → 3 < (Krk0.at_ g r).kind → lab gs (Krk0.at_ g r).a ∈ row.map (lab gs) ∧ lab gs (Krk0.at_ g r).b ∈ row.map (lab gs)
theorem nodup_of_map {α β : Type} {f : α → β} : ∀ {l : List α}, (l.map f).Nodup → l.Nodup
  | [], _ => List.nodup_nil
  | a :: l, h => by
    rw [List.map_cons, List.nodup_cons] at h
    rw [List.nodup_cons]
    exact ⟨fun hm => h.1 (List.mem_map.mpr ⟨a, hm, rfl⟩), nodup_of_map h.2⟩
theorem RowL.len {g : Graph} {gs : List Nat} {at' : Nat} {row : List Nat} (h : RowL g gs at' row) : row.length ≤ g.length := nodup_le _ _ (nodup_of_map h.nd) h.inn
theorem addR_mem {gs row : List Nat} {y : Nat} : lab gs y ∈ (addR gs row y).map (lab gs) := by
  unfold addR
  by_cases h : lab gs y ∈ row.map (lab gs)
  · rw [if_pos h]; exact h
  · rw [if_neg h, List.map_append]; exact List.mem_append_right _ List.mem_cons_self
theorem addR_keep {gs row : List Nat} {y v : Nat} (h : v ∈ row.map (lab gs)) : v ∈ (addR gs row y).map (lab gs) := by
  unfold addR
  split
  · exact h
  · rw [List.map_append]; exact List.mem_append_left _ h
theorem addR_get {gs row : List Nat} {y j r : Nat} (h : row[j]? = some r) : (addR gs row y)[j]? = some r := by
  unfold addR
  split
  · exact h
  · rw [List.getElem?_append_left (List.getElem?_eq_some_iff.mp h).1]; exact h
theorem addR_low {gs row : List Nat} {y j r : Nat} (hj : j < row.length) (h : (addR gs row y)[j]? = some r) : row[j]? = some r := by
  unfold addR at h
  split at h
  · exact h
  · rw [List.getElem?_append_left hj] at h; exact h
theorem addR_len {gs row : List Nat} {y : Nat} : row.length ≤ (addR gs row y).length := by
  unfold addR
  split
  · exact Nat.le_refl _
  · rw [List.length_append]; omega
theorem RowL.add {g : Graph} {gs : List Nat} {at' : Nat} {row : List Nat} {y : Nat} (h : RowL g gs at' row) (ha : at' ≤ row.length) (hy : y < g.length) : RowL g gs at' (addR gs row y) := by
  refine ⟨fun r hr => ?_, ?_, fun j r hj e hk => ?_⟩
  · unfold addR at hr
    split at hr
    · exact h.inn r hr
    · rcases List.mem_append.mp hr with hr | hr
      · exact h.inn r hr
      · rw [List.mem_singleton.mp hr]; exact hy
  · unfold addR
    by_cases hm : lab gs y ∈ row.map (lab gs)
    · rw [if_pos hm]; exact h.nd
    · rw [if_neg hm, List.map_append]
      refine List.nodup_append.mpr ⟨h.nd, by simp, fun a ha b hb e => ?_⟩
      rw [List.map_cons, List.map_nil, List.mem_singleton] at hb
      subst e
      subst hb
      exact hm ha
  · obtain ⟨a, b⟩ := h.clos j r hj (addR_low (by omega) e) hk
    exact ⟨addR_keep a, addR_keep b⟩
theorem RowL.turn {g : Graph} {gs : List Nat} {at' : Nat} {row : List Nat} {r : Nat} (hg : GOk g) (h : RowL g gs at' row) (hr : row[at']? = some r) : RowL g gs (at' + 1) (turnR g gs row r) ∧ at' + 1 ≤ (turnR g gs row r).length := by
  have hlt := (List.getElem?_eq_some_iff.mp hr).1
  unfold turnR
  by_cases hk : (Krk0.at_ g r).kind ≤ 3
  · rw [if_pos hk]
    refine ⟨⟨h.inn, h.nd, fun j r' hj e hk' => ?_⟩, by omega⟩
    by_cases hj' : j < at'
    · exact h.clos j r' hj' e hk'
    · have : j = at' := by omega
      subst this
      rw [hr] at e
      have := Option.some.inj e
      subst this
      omega
  · rw [if_neg hk]
    obtain ⟨_, a1, b1⟩ := hg.inner (h.inn r (List.mem_of_getElem? hr)) (by omega)
    have l1 := addR_len (gs := gs) (row := row) (y := (Krk0.at_ g r).a)
    have l2 := addR_len (gs := gs) (row := addR gs row (Krk0.at_ g r).a) (y := (Krk0.at_ g r).b)
    have h2 := (h.add (by omega) a1).add (by omega) b1
    refine ⟨⟨h2.inn, h2.nd, fun j r' hj e hk' => ?_⟩, by omega⟩
    by_cases hj' : j < at'
    · exact h2.clos j r' hj' e hk'
    · have : j = at' := by omega
      subst this
      rw [addR_get (addR_get hr)] at e
      have := Option.some.inj e
      subst this
      exact ⟨addR_keep addR_mem, addR_mem⟩
theorem Tells.lab_c {g : Graph} {gs : List Nat} (hg : GOk g) (h1 : 1 ≤ g.length) (h : Tells g gs) {i j : Nat} (hi : i < g.length) (hj : j < g.length) : lab gs i = lab gs j ↔ lab (classes g) i = lab (classes g) j :=
  (h.2 i j hi hj).trans ((classes_ok hg h1).2 i j hi hj).symm
theorem addR_map {g : Graph} {gs : List Nat} (hg : GOk g) (h1 : 1 ≤ g.length) (h : Tells g gs) {row : List Nat} {y : Nat} (hr : ∀ r ∈ row, r < g.length) (hy : y < g.length) :
    (addR gs row y).map (lab (classes g)) = if (row.map (lab (classes g))).contains (lab (classes g) y) then row.map (lab (classes g)) else row.map (lab (classes g)) ++ [lab (classes g) y] := by
  have e : lab gs y ∈ row.map (lab gs) ↔ (row.map (lab (classes g))).contains (lab (classes g) y) = true := by
    rw [List.contains_iff_mem, List.mem_map, List.mem_map]
    constructor
    · rintro ⟨z, hz, ez⟩
      exact ⟨z, hz, (h.lab_c hg h1 (hr z hz) hy).mp ez⟩
    · rintro ⟨z, hz, ez⟩
      exact ⟨z, hz, (h.lab_c hg h1 (hr z hz) hy).mpr ez⟩
  unfold addR
  by_cases hm : lab gs y ∈ row.map (lab gs)
  · rw [if_pos hm, if_pos (e.mp hm)]
  · rw [if_neg hm, if_neg (fun z => hm (e.mpr z)), List.map_append]
    rfl
/-- the class's first stands for each of it -/
theorem class_node {g : Graph} (hg : GOk g) (h1 : 1 ≤ g.length) {r : Nat} (hr : r < g.length) : lab (classes g) r < g.length ∧ Bis g g (lab (classes g) r) r := by
  obtain ⟨hc, he⟩ := classes_ok hg h1
  obtain ⟨a, b, _⟩ := hc.2 r hr
  exact ⟨by omega, (he _ _ (by omega) hr).mp b⟩
theorem found_turn {g : Graph} {gs : List Nat} (hg : GOk g) (h1 : 1 ≤ g.length) (h : Tells g gs) {row : List Nat} {at' r f : Nat} (hrow : ∀ r ∈ row, r < g.length) (hr : row[at']? = some r) :
    found g (classes g) (f + 1) at' (row.map (lab (classes g))) = found g (classes g) f (at' + 1) ((turnR g gs row r).map (lab (classes g))) := by
  have hrl := hrow r (List.mem_of_getElem? hr)
  obtain ⟨kl, kb⟩ := class_node hg h1 hrl
  have e0 : found g (classes g) (f + 1) at' (row.map (lab (classes g))) = (match (row.map (lab (classes g)))[at']? with
    | none => row.map (lab (classes g))
    | some k =>
      let x := Krk0.at_ g k
      if x.kind ≤ 3 then found g (classes g) f (at' + 1) (row.map (lab (classes g))) else
      let p := (classes g).getD x.a 0
      let m := if (row.map (lab (classes g))).contains p then row.map (lab (classes g)) else row.map (lab (classes g)) ++ [p]
      let q := (classes g).getD x.b 0
      found g (classes g) f (at' + 1) (if m.contains q then m else m ++ [q])) := rfl
  rw [e0, List.getElem?_map, hr]
  show (if (Krk0.at_ g (lab (classes g) r)).kind ≤ 3 then found g (classes g) f (at' + 1) (row.map (lab (classes g))) else
    found g (classes g) f (at' + 1) (if (if (row.map (lab (classes g))).contains (lab (classes g) (Krk0.at_ g (lab (classes g) r)).a) then row.map (lab (classes g)) else row.map (lab (classes g)) ++ [lab (classes g) (Krk0.at_ g (lab (classes g) r)).a]).contains (lab (classes g) (Krk0.at_ g (lab (classes g) r)).b)
      then (if (row.map (lab (classes g))).contains (lab (classes g) (Krk0.at_ g (lab (classes g) r)).a) then row.map (lab (classes g)) else row.map (lab (classes g)) ++ [lab (classes g) (Krk0.at_ g (lab (classes g) r)).a])
      else (if (row.map (lab (classes g))).contains (lab (classes g) (Krk0.at_ g (lab (classes g) r)).a) then row.map (lab (classes g)) else row.map (lab (classes g)) ++ [lab (classes g) (Krk0.at_ g (lab (classes g) r)).a]) ++ [lab (classes g) (Krk0.at_ g (lab (classes g) r)).b])) = _
  unfold turnR
  rw [kb.kind]
  by_cases hk : (Krk0.at_ g r).kind ≤ 3
  · rw [if_pos hk, if_pos hk]
  · rw [if_neg hk, if_neg hk]
    have hk' : 3 < (Krk0.at_ g (lab (classes g) r)).kind := by rw [kb.kind]; omega
    obtain ⟨_, a1, b1⟩ := hg.inner hrl (by omega)
    obtain ⟨_, a2, b2⟩ := hg.inner kl hk'
    have ea : lab (classes g) (Krk0.at_ g (lab (classes g) r)).a = lab (classes g) (Krk0.at_ g r).a := ((classes_ok hg h1).2 _ _ a2 a1).mpr (kb.a hk')
    have eb : lab (classes g) (Krk0.at_ g (lab (classes g) r)).b = lab (classes g) (Krk0.at_ g r).b := ((classes_ok hg h1).2 _ _ b2 b1).mpr (kb.b hk')
    have hrow2 : ∀ z ∈ addR gs row (Krk0.at_ g r).a, z < g.length := fun z hz => by
      unfold addR at hz
      split at hz
      · exact hrow z hz
      · rcases List.mem_append.mp hz with hz | hz
        · exact hrow z hz
        · rw [List.mem_singleton.mp hz]; exact a1
    rw [addR_map hg h1 h hrow2 b1, addR_map hg h1 h hrow a1, ea, eb]
/-- a node told by its groups' places -/
def renum (g : Graph) (gs row : List Nat) (r : Nat) : Node := if (Krk0.at_ g r).kind ≤ 3 then ⟨(Krk0.at_ g r).kind, 0, 0⟩ else ⟨(Krk0.at_ g r).kind, (row.map (lab gs)).idxOf (lab gs (Krk0.at_ g r).a), (row.map (lab gs)).idxOf (lab gs (Krk0.at_ g r).b)⟩
theorem idxOf_maps {α β γ : Type} [BEq β] [LawfulBEq β] [BEq γ] [LawfulBEq γ] {f : α → β} {h : α → γ} {v : β} {u : γ} : ∀ (row : List α), (∀ z ∈ row, f z = v ↔ h z = u) → (row.map f).idxOf v = (row.map h).idxOf u
  | [], _ => rfl
  | z :: row, e => by
    rw [List.map_cons, List.map_cons, List.idxOf_cons, List.idxOf_cons]
    have e1 := e z List.mem_cons_self
    rw [idxOf_maps row fun y hy => e y (List.mem_cons_of_mem _ hy)]
    by_cases hz : f z = v
    · rw [beq_iff_eq.mpr hz, beq_iff_eq.mpr (e1.mp hz)]
    · rw [beq_eq_false_iff_ne.mpr hz, beq_eq_false_iff_ne.mpr (fun q => hz (e1.mpr q))]
theorem found_all {g : Graph} {c : List Nat} {f i : Nat} {l : List Nat} (h : l.length ≤ i) : found g c f i l = l := by
  cases f with
  | zero => rfl
  | succ f =>
    show (match l[i]? with
      | none => l
      | some k => _) = l
    rw [List.getElem?_eq_none h]
/-- **least**: as the row tells -/
theorem least_row {g : Graph} {gs : List Nat} (hg : GOk g) (h1 : 1 ≤ g.length) (h : Tells g gs) {row : List Nat} {start f at' : Nat} (hR : RowL g gs at' row) (hat : row.length ≤ at')
    (hf : found g (classes g) f at' (row.map (lab (classes g))) = found g (classes g) (g.length + 1) 0 [lab (classes g) start]) : Krk0.least g start = row.map (renum g gs row) := by
  rw [found_all (by rw [List.length_map]; exact hat)] at hf
  show ((found g (classes g) (g.length + 1) 0 [lab (classes g) start]).map fun k => let x := Krk0.at_ g k
    if x.kind ≤ 3 then (⟨x.kind, 0, 0⟩ : Node) else ⟨x.kind, (found g (classes g) (g.length + 1) 0 [lab (classes g) start]).idxOf (lab (classes g) x.a), (found g (classes g) (g.length + 1) 0 [lab (classes g) start]).idxOf (lab (classes g) x.b)⟩) = _
  rw [← hf, List.map_map]
  refine List.map_congr_left fun r hr => ?_
  have hrl := hR.inn r hr
  obtain ⟨kl, kb⟩ := class_node hg h1 hrl
  show (if (Krk0.at_ g (lab (classes g) r)).kind ≤ 3 then (⟨(Krk0.at_ g (lab (classes g) r)).kind, 0, 0⟩ : Node) else ⟨(Krk0.at_ g (lab (classes g) r)).kind, (row.map (lab (classes g))).idxOf (lab (classes g) (Krk0.at_ g (lab (classes g) r)).a), (row.map (lab (classes g))).idxOf (lab (classes g) (Krk0.at_ g (lab (classes g) r)).b)⟩) = renum g gs row r
  unfold renum
  rw [kb.kind]
  by_cases hk : (Krk0.at_ g r).kind ≤ 3
  · rw [if_pos hk, if_pos hk]
  · rw [if_neg hk, if_neg hk]
    have hk' : 3 < (Krk0.at_ g (lab (classes g) r)).kind := by rw [kb.kind]; omega
    obtain ⟨_, a1, b1⟩ := hg.inner hrl (by omega)
    obtain ⟨_, a2, b2⟩ := hg.inner kl hk'
    have ea : lab (classes g) (Krk0.at_ g (lab (classes g) r)).a = lab (classes g) (Krk0.at_ g r).a := ((classes_ok hg h1).2 _ _ a2 a1).mpr (kb.a hk')
    have eb : lab (classes g) (Krk0.at_ g (lab (classes g) r)).b = lab (classes g) (Krk0.at_ g r).b := ((classes_ok hg h1).2 _ _ b2 b1).mpr (kb.b hk')
    rw [ea, eb]
    congr 1
    · exact idxOf_maps row fun z hz => (h.lab_c hg h1 (hR.inn z hz) a1).symm
    · exact idxOf_maps row fun z hz => (h.lab_c hg h1 (hR.inn z hz) b1).symm
end Rt
namespace Rt
open Krk0
/-! ### like nodes have the same least way of telling, whatever their graphs -/
inductive P2 {α β : Type} (F : α → β → Prop) : List α → List β → Prop
  | nil : P2 F [] []
  | cons {a b as bs} : F a b → P2 F as bs → P2 F (a :: as) (b :: bs)
theorem P2.length {α β : Type} {F : α → β → Prop} : ∀ {as : List α} {bs : List β}, P2 F as bs → as.length = bs.length
  | _, _, .nil => rfl
  | _, _, .cons _ t => by rw [List.length_cons, List.length_cons, t.length]
theorem P2.snoc {α β : Type} {F : α → β → Prop} {a : α} {b : β} (h : F a b) : ∀ {as : List α} {bs : List β}, P2 F as bs → P2 F (as ++ [a]) (bs ++ [b])
  | _, _, .nil => .cons h .nil
  | _, _, .cons x t => .cons x (t.snoc h)
theorem P2.get {α β : Type} {F : α → β → Prop} : ∀ {as : List α} {bs : List β}, P2 F as bs → ∀ {i : Nat} {a : α}, as[i]? = some a → ∃ b, bs[i]? = some b ∧ F a b
  | _, _, .nil, i, a, h => by simp at h
  | _, _, .cons x t, 0, a, h => by
    have e := Option.some.inj h
    subst e
    exact ⟨_, rfl, x⟩
  | _, _, .cons x t, i + 1, a, h => by
    obtain ⟨y, e1, e2⟩ := t.get (i := i) (a := a) (by simpa using h)
    exact ⟨y, by simpa using e1, e2⟩
section
variable {g g' : Graph}
/-- the rows tell like nodes, that there are -/
abbrev Like (g g' : Graph) : List Nat → List Nat → Prop := P2 fun r r' => r < g.length ∧ r' < g'.length ∧ Bis g g' r r'
theorem like_eq (hg : GOk g) (h1 : 1 ≤ g.length) (hg' : GOk g') (h1' : 1 ≤ g'.length) {r r' y y' : Nat} (hr : r < g.length ∧ r' < g'.length ∧ Bis g g' r r') (hy : y < g.length ∧ y' < g'.length ∧ Bis g g' y y') :
    lab (classes g) r = lab (classes g) y ↔ lab (classes g') r' = lab (classes g') y' := by
  rw [(classes_ok hg h1).2 _ _ hr.1 hy.1, (classes_ok hg' h1').2 _ _ hr.2.1 hy.2.1]
  exact ⟨fun e => (hr.2.2.symm.trans e).trans hy.2.2, fun e => (hr.2.2.trans e).trans hy.2.2.symm⟩
theorem like_mem (hg : GOk g) (h1 : 1 ≤ g.length) (hg' : GOk g') (h1' : 1 ≤ g'.length) {y y' : Nat} (hy : y < g.length ∧ y' < g'.length ∧ Bis g g' y y') : ∀ {row row' : List Nat}, Like g g' row row' →
    (lab (classes g) y ∈ row.map (lab (classes g)) ↔ lab (classes g') y' ∈ row'.map (lab (classes g')))
  | _, _, .nil => by simp
  | _, _, .cons x t => by
    rw [List.map_cons, List.map_cons, List.mem_cons, List.mem_cons, like_mem hg h1 hg' h1' hy t, eq_comm, like_eq hg h1 hg' h1' x hy, eq_comm]
theorem like_idx (hg : GOk g) (h1 : 1 ≤ g.length) (hg' : GOk g') (h1' : 1 ≤ g'.length) {y y' : Nat} (hy : y < g.length ∧ y' < g'.length ∧ Bis g g' y y') : ∀ {row row' : List Nat}, Like g g' row row' →
    (row.map (lab (classes g))).idxOf (lab (classes g) y) = (row'.map (lab (classes g'))).idxOf (lab (classes g') y')
  | _, _, .nil => rfl
  | _, _, .cons (a := a) (b := b) x t => by
    rw [List.map_cons, List.map_cons, List.idxOf_cons, List.idxOf_cons, like_idx hg h1 hg' h1' hy t]
    have e := like_eq hg h1 hg' h1' x hy
    by_cases h : lab (classes g) a = lab (classes g) y
    · rw [beq_iff_eq.mpr h, beq_iff_eq.mpr (e.mp h)]
    · rw [beq_eq_false_iff_ne.mpr h, beq_eq_false_iff_ne.mpr fun z => h (e.mpr z)]
theorem like_add (hg : GOk g) (h1 : 1 ≤ g.length) (hg' : GOk g') (h1' : 1 ≤ g'.length) {y y' : Nat} (hy : y < g.length ∧ y' < g'.length ∧ Bis g g' y y') {row row' : List Nat} (h : Like g g' row row') :
    Like g g' (addR (classes g) row y) (addR (classes g') row' y') := by
  unfold addR
  have e := like_mem hg h1 hg' h1' hy h
  by_cases hm : lab (classes g) y ∈ row.map (lab (classes g))
  · rw [if_pos hm, if_pos (e.mp hm)]
    exact h
  · rw [if_neg hm, if_neg fun z => hm (e.mpr z)]
    exact P2.snoc (F := fun r r' => r < g.length ∧ r' < g'.length ∧ Bis g g' r r') hy h
theorem like_turn (hg : GOk g) (h1 : 1 ≤ g.length) (hg' : GOk g') (h1' : 1 ≤ g'.length) {y y' : Nat} (hy : y < g.length ∧ y' < g'.length ∧ Bis g g' y y') {row row' : List Nat} (h : Like g g' row row') :
    Like g g' (turnR g (classes g) row y) (turnR g' (classes g') row' y') := by
  unfold turnR
  rw [← hy.2.2.kind]
  by_cases hk : (Krk0.at_ g y).kind ≤ 3
  · rw [if_pos hk, if_pos hk]
    exact h
  · rw [if_neg hk, if_neg hk]
    have hk2 : 3 < (Krk0.at_ g y).kind := by omega
    obtain ⟨_, a1, b1⟩ := hg.inner hy.1 hk2
    obtain ⟨_, a2, b2⟩ := hg'.inner hy.2.1 (by rw [← hy.2.2.kind]; exact hk2)
    exact like_add hg h1 hg' h1' ⟨b1, b2, hy.2.2.b hk2⟩ (like_add hg h1 hg' h1' ⟨a1, a2, hy.2.2.a hk2⟩ h)
theorem tells_classes (hg : GOk g) (h1 : 1 ≤ g.length) : Tells g (classes g) := ⟨(classes_ok hg h1).1.1, (classes_ok hg h1).2⟩
theorem like_map (hg : GOk g) (h1 : 1 ≤ g.length) (hg' : GOk g') (h1' : 1 ≤ g'.length) {R R' : List Nat} (hR : Like g g' R R') : ∀ {row row' : List Nat}, Like g g' row row' →
    row.map (renum g (classes g) R) = row'.map (renum g' (classes g') R')
  | _, _, .nil => rfl
  | _, _, .cons (a := r) (b := r') x t => by
    rw [List.map_cons, List.map_cons, like_map hg h1 hg' h1' hR t]
    congr 1
    unfold renum
    rw [← x.2.2.kind]
    by_cases hk : (Krk0.at_ g r).kind ≤ 3
    · rw [if_pos hk, if_pos hk]
    · rw [if_neg hk, if_neg hk]
      have hk2 : 3 < (Krk0.at_ g r).kind := by omega
      obtain ⟨_, a1, b1⟩ := hg.inner x.1 hk2
      obtain ⟨_, a2, b2⟩ := hg'.inner x.2.1 (by rw [← x.2.2.kind]; exact hk2)
      rw [like_idx hg h1 hg' h1' ⟨a1, a2, x.2.2.a hk2⟩ hR, like_idx hg h1 hg' h1' ⟨b1, b2, x.2.2.b hk2⟩ hR]
theorem least_like (hg : GOk g) (h1 : 1 ≤ g.length) (hg' : GOk g') (h1' : 1 ≤ g'.length) {i j : Nat} : ∀ (m at' f f' : Nat) (row row' : List Nat), g.length ≤ m + at' → Like g g' row row' → RowL g (classes g) at' row → RowL g' (classes g') at' row' → at' ≤ row.length → f + at' = g.length + 1 → f' + at' = g'.length + 1 →
    found g (classes g) f at' (row.map (lab (classes g))) = found g (classes g) (g.length + 1) 0 [lab (classes g) i] → found g' (classes g') f' at' (row'.map (lab (classes g'))) = found g' (classes g') (g'.length + 1) 0 [lab (classes g') j] →
    Krk0.least g i = Krk0.least g' j := by
  intro m
  induction m with
  | zero =>
    intro at' f f' row row' hm hL hR hR' hat hf hf' e e'
    have l1 := hR.len
    have l2 := hL.length
    rw [least_row hg h1 (tells_classes hg h1) hR (by omega) e, least_row hg' h1' (tells_classes hg' h1') hR' (by omega) e']
    exact like_map hg h1 hg' h1' hL hL
  | succ m ih =>
    intro at' f f' row row' hm hL hR hR' hat hf hf' e e'
    have l1 := hR.len
    have l1' := hR'.len
    have l2 := hL.length
    by_cases hlt : at' < row.length
    · obtain ⟨x, hx⟩ : ∃ x, row[at']? = some x := ⟨_, List.getElem?_eq_getElem hlt⟩
      obtain ⟨x', hx', hxx⟩ := hL.get hx
      obtain ⟨f, rfl⟩ : ∃ k, f = k + 1 := ⟨f - 1, by omega⟩
      obtain ⟨f', rfl⟩ : ∃ k, f' = k + 1 := ⟨f' - 1, by omega⟩
      rw [found_turn hg h1 (tells_classes hg h1) hR.inn hx] at e
      rw [found_turn hg' h1' (tells_classes hg' h1') hR'.inn hx'] at e'
      obtain ⟨t1, t2⟩ := hR.turn hg hx
      obtain ⟨t1', _⟩ := hR'.turn hg' hx'
      exact ih (at' + 1) f f' _ _ (by omega) (like_turn hg h1 hg' h1' hxx hL) t1 t1' t2 (by omega) (by omega) e e'
    · rw [least_row hg h1 (tells_classes hg h1) hR (by omega) e, least_row hg' h1' (tells_classes hg' h1') hR' (by omega) e']
      exact like_map hg h1 hg' h1' hL hL
/-- **least of like nodes** -/
theorem least_bis (hg : GOk g) (hg' : GOk g') {i j : Nat} (hi : i < g.length) (hj : j < g'.length) (h : Bis g g' i j) : Krk0.least g i = Krk0.least g' j := by
  have h1 : 1 ≤ g.length := by omega
  have h1' : 1 ≤ g'.length := by omega
  have start : ∀ {g : Graph} {i : Nat}, i < g.length → RowL g (classes g) 0 [i] := fun hi => ⟨fun z hz => by rw [List.mem_singleton.mp hz]; exact hi, by simp, fun j z hj => by omega⟩
  exact least_like hg h1 hg' h1' g.length 0 (g.length + 1) (g'.length + 1) [i] [j] (by omega) (.cons ⟨hi, hj, h⟩ .nil) (start hi) (start hj) (Nat.zero_le _) rfl rfl rfl rfl
end
/-! ### graphs of states -/
section
variable {σ τ : Type} [DecidableEq σ] [DecidableEq τ]
def stN (K : σ → Nat) (A B : σ → σ) (L : List σ) (s : σ) : Node := if K s ≤ 3 then ⟨K s, 0, 0⟩ else ⟨K s, L.idxOf (A s), L.idxOf (B s)⟩
def stG (K : σ → Nat) (A B : σ → σ) (L : List σ) : Graph := L.map (stN K A B L)
structure StOk (K : σ → Nat) (A B : σ → σ) (L : List σ) : Prop where
  clos : ∀ s ∈ L, 3 < K s → K s ≤ 6 ∧ A s ∈ L ∧ B s ∈ L
variable {K : σ → Nat} {A B : σ → σ} {L : List σ} {K' : τ → Nat} {A' B' : τ → τ} {L' : List τ}
theorem stG_len : (stG K A B L).length = L.length := by unfold stG; rw [List.length_map]
theorem stG_ok (h : StOk K A B L) : GOk (stG K A B L) := by
  intro x hx
  rw [stG_len]
  obtain ⟨s, hs, rfl⟩ := List.mem_map.mp hx
  unfold stN
  by_cases hk : K s ≤ 3
  · rw [if_pos hk]
    unfold nodeOk
    show (if K s ≤ 3 then ((0 : Nat) == 0 && (0 : Nat) == 0) else _) = true
    rw [if_pos hk]
    rfl
  · rw [if_neg hk]
    obtain ⟨h6, ha, hb⟩ := h.clos s hs (by omega)
    unfold nodeOk
    show (if K s ≤ 3 then (L.idxOf (A s) == 0 && L.idxOf (B s) == 0) else decide (K s ≤ 6) && (decide (L.idxOf (A s) < L.length) && decide (L.idxOf (B s) < L.length))) = true
    rw [if_neg hk, decide_eq_true h6, decide_eq_true (List.idxOf_lt_length_of_mem ha), decide_eq_true (List.idxOf_lt_length_of_mem hb)]
    rfl
theorem stG_at {s : σ} (hs : s ∈ L) : Krk0.at_ (stG K A B L) (L.idxOf s) = stN K A B L s := by
  have hi := List.idxOf_lt_length_of_mem hs
  have e : L[L.idxOf s]? = some s := List.getElem?_eq_some_iff.mpr ⟨hi, List.getElem_idxOf hi⟩
  unfold Krk0.at_ stG
  rw [List.getD_eq_getElem?_getD, List.getElem?_map, e]
  rfl
theorem stG_bis (h : StOk K A B L) (h' : StOk K' A' B' L') {R : σ → τ → Prop} (hR : ∀ s t, R s t → K s = K' t ∧ (3 < K s → R (A s) (A' t) ∧ R (B s) (B' t))) {s : σ} {t : τ} (hs : s ∈ L) (ht : t ∈ L') (r : R s t) :
    Bis (stG K A B L) (stG K' A' B' L') (L.idxOf s) (L'.idxOf t) := by
  refine Bis.of (R := fun i j => ∃ s t, s ∈ L ∧ t ∈ L' ∧ R s t ∧ i = L.idxOf s ∧ j = L'.idxOf t) ?_ ⟨s, t, hs, ht, r, rfl, rfl⟩
  rintro i j ⟨s, t, hs, ht, r, rfl, rfl⟩
  obtain ⟨ek, ch⟩ := hR s t r
  rw [stG_at hs, stG_at ht]
  unfold stN
  rw [← ek]
  by_cases hk : K s ≤ 3
  · rw [if_pos hk, if_pos hk]
    refine ⟨rfl, fun z => ?_⟩
    have z' : 3 < K s := z
    omega
  · rw [if_neg hk, if_neg hk]
    obtain ⟨_, ha, hb⟩ := h.clos s hs (by omega)
    obtain ⟨_, ha', hb'⟩ := h'.clos t ht (by rw [← ek]; omega)
    obtain ⟨ra, rb⟩ := ch (by omega)
    exact ⟨rfl, fun _ => ⟨⟨_, _, ha, ha', ra, rfl, rfl⟩, ⟨_, _, hb, hb', rb, rfl, rfl⟩⟩⟩
end
end Rt
namespace Rt
open Krk0
/-! ### rows of states, as they're found -/
section
variable {σ : Type} [DecidableEq σ]
def addG (row : List σ) (y : σ) : List σ := if y ∈ row then row else row ++ [y]
def turnG (K : σ → Nat) (A B : σ → σ) (row : List σ) (s : σ) : List σ := if K s ≤ 3 then row else addG (addG row (A s)) (B s)
structure RowG (K : σ → Nat) (A B : σ → σ) (V : σ → Prop) (start : σ) (at' : Nat) (row : List σ) : Prop where
  inn : ∀ s ∈ row, V s
  nd : row.Nodup
  clos : ∀ (j : Nat) (s : σ), j < at' → row[j]? = some s → 3 < K s → A s ∈ row ∧ B s ∈ row
  hd : row[0]? = some start
variable {K : σ → Nat} {A B : σ → σ} {V : σ → Prop} {start : σ} {at' : Nat} {row : List σ}
theorem RowG.new (h : V start) : RowG K A B V start 0 [start] := ⟨fun z hz => by rw [List.mem_singleton.mp hz]; exact h, by simp, fun j z hj => by omega, rfl⟩
theorem addG_mem {y : σ} : y ∈ addG row y := by
  unfold addG
  by_cases h : y ∈ row
  · rw [if_pos h]; exact h
  · rw [if_neg h]; exact List.mem_append_right _ List.mem_cons_self
theorem addG_keep {y v : σ} (h : v ∈ row) : v ∈ addG row y := by
  unfold addG
  split
  · exact h
  · exact List.mem_append_left _ h
theorem addG_get {y r : σ} {j : Nat} (h : row[j]? = some r) : (addG row y)[j]? = some r := by
  unfold addG
  split
  · exact h
  · rw [List.getElem?_append_left (List.getElem?_eq_some_iff.mp h).1]; exact h
theorem addG_low {y r : σ} {j : Nat} (hj : j < row.length) (h : (addG row y)[j]? = some r) : row[j]? = some r := by
  unfold addG at h
  split at h
  · exact h
  · rw [List.getElem?_append_left hj] at h; exact h
theorem addG_len {y : σ} : row.length ≤ (addG row y).length := by
  unfold addG
  split
  · exact Nat.le_refl _
  · rw [List.length_append]; omega
theorem addG_idx {y v : σ} (h : v ∈ row) : (addG row y).idxOf v = row.idxOf v := by
  unfold addG
  split
  · rfl
  · rw [List.idxOf_append, if_pos h]
theorem RowG.add {y : σ} (h : RowG K A B V start at' row) (ha : at' ≤ row.length) (hy : V y) : RowG K A B V start at' (addG row y) := by
  refine ⟨fun r hr => ?_, ?_, fun j r hj e hk => ?_, addG_get h.hd⟩
  · unfold addG at hr
    split at hr
    · exact h.inn r hr
    · rcases List.mem_append.mp hr with hr | hr
      · exact h.inn r hr
      · rw [List.mem_singleton.mp hr]; exact hy
  · unfold addG
    by_cases hm : y ∈ row
    · rw [if_pos hm]; exact h.nd
    · rw [if_neg hm]
      refine List.nodup_append.mpr ⟨h.nd, by simp, fun a ha b hb e => ?_⟩
      rw [List.mem_singleton] at hb
      subst e
      subst hb
      exact hm ha
  · obtain ⟨a, b⟩ := h.clos j r hj (addG_low (by omega) e) hk
    exact ⟨addG_keep a, addG_keep b⟩
theorem RowG.turn {s : σ} (hV : ∀ s, V s → 3 < K s → V (A s) ∧ V (B s)) (h : RowG K A B V start at' row) (hr : row[at']? = some s) : RowG K A B V start (at' + 1) (turnG K A B row s) ∧ at' + 1 ≤ (turnG K A B row s).length := by
  have hlt := (List.getElem?_eq_some_iff.mp hr).1
  unfold turnG
  by_cases hk : K s ≤ 3
  · rw [if_pos hk]
    refine ⟨⟨h.inn, h.nd, fun j r' hj e hk' => ?_, h.hd⟩, by omega⟩
    by_cases hj' : j < at'
    · exact h.clos j r' hj' e hk'
    · have : j = at' := by omega
      subst this
      rw [hr] at e
      have := Option.some.inj e
      subst this
      omega
  · rw [if_neg hk]
    obtain ⟨a1, b1⟩ := hV s (h.inn s (List.mem_of_getElem? hr)) (by omega)
    have l1 := addG_len (row := row) (y := A s)
    have l2 := addG_len (row := addG row (A s)) (y := B s)
    have h2 := (h.add (by omega) a1).add (by omega) b1
    refine ⟨⟨h2.inn, h2.nd, fun j r' hj e hk' => ?_, h2.hd⟩, by omega⟩
    by_cases hj' : j < at'
    · exact h2.clos j r' hj' e hk'
    · have : j = at' := by omega
      subst this
      rw [addG_get (addG_get hr)] at e
      have := Option.some.inj e
      subst this
      exact ⟨addG_keep addG_mem, addG_mem⟩
theorem RowG.len {M : Nat} {enc : σ → Nat} (h : RowG K A B V start at' row) (he : ∀ s t, V s → V t → enc s = enc t → s = t) (hM : ∀ s, V s → enc s < M) : row.length ≤ M := by
  have := nodup_le M (row.map enc) (nodup_map_on (fun x hx y hy e => he x y (h.inn x hx) (h.inn y hy) e) h.nd) (fun z hz => by
    obtain ⟨s, hs, rfl⟩ := List.mem_map.mp hz
    exact hM s (h.inn s hs))
  rwa [List.length_map] at this
theorem RowG.ok (h6 : ∀ s, V s → K s ≤ 6) (h : RowG K A B V start at' row) (hat : row.length ≤ at') : StOk K A B row := ⟨fun s hs hk => by
  obtain ⟨j, hj⟩ := List.getElem?_of_mem hs
  have := (List.getElem?_eq_some_iff.mp hj).1
  obtain ⟨a, b⟩ := h.clos j s (by omega) hj hk
  exact ⟨h6 s (h.inn s hs), a, b⟩⟩
theorem RowG.start_mem (h : RowG K A B V start at' row) : start ∈ row ∧ row.idxOf start = 0 := by
  cases row with
  | nil =>
    have := h.hd
    simp at this
  | cons a l =>
    have e : a = start := by simpa using h.hd
    subst e
    exact ⟨List.mem_cons_self, List.idxOf_cons_self⟩
end
/-! ### what stands at a state -/
def weakW (w : Nat) : Nat := if w = 0 then 0 else 1
def takeW (w : Nat) : Nat := if w = 0 then 1 else 0
def codeS (n w x y : Nat) : Nat := if w = 0 then joins n x y else meets n x y
def standW (n w : Nat) (x y : Node) : Node :=
  if x.kind = weakW w then y
  else if y.kind = weakW w then x
  else if x.kind ≠ y.kind ∨ x.kind = takeW w then ⟨takeW w, 0, 0⟩
  else if x.kind ≤ 3 then x
  else if x.kind = 6 then ⟨6, codeS n (1 - w) x.a y.a, codeS n w x.b y.b⟩ else ⟨x.kind, codeS n w x.a y.a, codeS n w x.b y.b⟩
theorem div_code {n x y : Nat} (hy : y < n) : (x * n + y) / n = x ∧ (x * n + y) % n = y := by
  have hn : 0 < n := by omega
  constructor
  · rw [Nat.mul_comm, Nat.mul_add_div hn, Nat.div_eq_of_lt hy, Nat.add_zero]
  · rw [Nat.mul_comm, Nat.mul_add_mod, Nat.mod_eq_of_lt hy]
theorem code_lt {n x y : Nat} (hx : x < n) (hy : y < n) : x * n + y < n * n := by
  have h1 : (x + 1) * n ≤ n * n := Nat.mul_le_mul_right n (by omega)
  rw [Nat.add_mul] at h1
  omega
theorem stands_node {g : Graph} {s : Nat} (h : s < g.length) : stands g s = Krk0.at_ g s := by
  unfold stands
  simp only [h, if_true]
theorem stands_code {g : Graph} {w x y : Nat} (hw : w ≤ 1) (hx : x < g.length) (hy : y < g.length) : stands g (codeS g.length w x y) = standW g.length w (Krk0.at_ g x) (Krk0.at_ g y) := by
  obtain ⟨d1, d2⟩ := div_code (x := x) hy
  have hl := code_lt hx hy
  rcases (by omega : w = 0 ∨ w = 1) with rfl | rfl
  · have e : codeS g.length 0 x y = g.length + x * g.length + y := rfl
    have h1 : ¬ g.length + x * g.length + y < g.length := by omega
    have h2 : g.length + x * g.length + y < g.length + g.length * g.length := by omega
    have h3 : g.length + x * g.length + y - g.length = x * g.length + y := by omega
    rw [e]
    unfold stands
    simp only [h1, h2, h3, d1, d2, if_false, decide_true, if_true]
    rfl
  · have e : codeS g.length 1 x y = g.length + g.length * g.length + x * g.length + y := rfl
    have h1 : ¬ g.length + g.length * g.length + x * g.length + y < g.length := by omega
    have h2 : ¬ g.length + g.length * g.length + x * g.length + y < g.length + g.length * g.length := by omega
    have h3 : g.length + g.length * g.length + x * g.length + y - g.length - g.length * g.length = x * g.length + y := by omega
    rw [e]
    unfold stands
    simp only [h1, h2, h3, d1, d2, if_false, decide_false, Bool.false_eq_true]
    rfl
/-! ### the program's states -/
abbrev PS := Nat × Nat × Nat
def leafS (w : Nat) : PS := if w = 0 then (3, 1, 0) else (3, 0, 0)
def stateS (g : Graph) (w x y : Nat) : PS :=
  if (Krk0.at_ g x).kind = weakW w then (2, y, 0)
  else if (Krk0.at_ g y).kind = weakW w then (2, x, 0)
  else if (Krk0.at_ g x).kind ≠ (Krk0.at_ g y).kind then leafS w
  else if 3 < (Krk0.at_ g x).kind then (w, x, y)
  else (2, x, 0)
def kindS (g : Graph) (p : PS) : Nat := if p.1 = 3 then p.2.1 else (Krk0.at_ g p.2.1).kind
def firstS (g : Graph) (p : PS) : Nat := if (Krk0.at_ g p.2.1).kind = 6 then 1 - p.1 else p.1
def aS (g : Graph) (p : PS) : PS := if p.1 = 2 then (2, (Krk0.at_ g p.2.1).a, 0) else stateS g (firstS g p) (Krk0.at_ g p.2.1).a (Krk0.at_ g p.2.2).a
def bS (g : Graph) (p : PS) : PS := if p.1 = 2 then (2, (Krk0.at_ g p.2.1).b, 0) else stateS g p.1 (Krk0.at_ g p.2.1).b (Krk0.at_ g p.2.2).b
structure WfS (g : Graph) (p : PS) : Prop where
  cs : (p.1 = 3 ∧ p.2.1 ≤ 1 ∧ p.2.2 = 0) ∨ (p.1 = 2 ∧ p.2.1 < g.length ∧ p.2.2 = 0) ∨ (p.1 ≤ 1 ∧ p.2.1 < g.length ∧ p.2.2 < g.length ∧ 3 < (Krk0.at_ g p.2.1).kind ∧ (Krk0.at_ g p.2.1).kind = (Krk0.at_ g p.2.2).kind)
theorem wf_state {g : Graph} {w x y : Nat} (hw : w ≤ 1) (hx : x < g.length) (hy : y < g.length) : WfS g (stateS g w x y) := by
  unfold stateS
  by_cases h1 : (Krk0.at_ g x).kind = weakW w
  · rw [if_pos h1]
    exact ⟨.inr (.inl ⟨rfl, hy, rfl⟩)⟩
  rw [if_neg h1]
  by_cases h2 : (Krk0.at_ g y).kind = weakW w
  · rw [if_pos h2]
    exact ⟨.inr (.inl ⟨rfl, hx, rfl⟩)⟩
  rw [if_neg h2]
  by_cases h3 : (Krk0.at_ g x).kind = (Krk0.at_ g y).kind
  · rw [if_neg (fun z => z h3)]
    by_cases h4 : 3 < (Krk0.at_ g x).kind
    · rw [if_pos h4]
      exact ⟨.inr (.inr ⟨hw, hx, hy, h4, h3⟩)⟩
    · rw [if_neg h4]
      exact ⟨.inr (.inl ⟨rfl, hx, rfl⟩)⟩
  · rw [if_pos h3]
    unfold leafS
    split
    · exact ⟨.inl ⟨rfl, Nat.le_refl _, rfl⟩⟩
    · exact ⟨.inl ⟨rfl, Nat.zero_le _, rfl⟩⟩
theorem wf_inner {g : Graph} {p : PS} (h : WfS g p) (hk : 3 < kindS g p) : (p.1 = 2 ∧ p.2.1 < g.length ∧ p.2.2 = 0 ∧ 3 < (Krk0.at_ g p.2.1).kind) ∨ (p.1 ≤ 1 ∧ p.2.1 < g.length ∧ p.2.2 < g.length ∧ 3 < (Krk0.at_ g p.2.1).kind ∧ (Krk0.at_ g p.2.1).kind = (Krk0.at_ g p.2.2).kind) := by
  unfold kindS at hk
  rcases h.cs with ⟨a, b, c⟩ | ⟨a, b, c⟩ | ⟨a, b, c, d, e⟩
  · rw [if_pos a] at hk
    omega
  · rw [if_neg (by omega)] at hk
    exact .inl ⟨a, b, c, hk⟩
  · exact .inr ⟨a, b, c, d, e⟩
theorem wf_next {g : Graph} (hg : GOk g) {p : PS} (h : WfS g p) (hk : 3 < kindS g p) : WfS g (aS g p) ∧ WfS g (bS g p) := by
  unfold aS bS
  rcases wf_inner h hk with ⟨a, b, c, d⟩ | ⟨a, b, c, d, e⟩
  · rw [if_pos a, if_pos a]
    obtain ⟨_, ha, hb⟩ := hg.inner b d
    exact ⟨⟨.inr (.inl ⟨rfl, ha, rfl⟩)⟩, ⟨.inr (.inl ⟨rfl, hb, rfl⟩)⟩⟩
  · rw [if_neg (by omega), if_neg (by omega)]
    obtain ⟨_, ha, hb⟩ := hg.inner b d
    obtain ⟨_, ha', hb'⟩ := hg.inner c (by omega)
    have hf : firstS g p ≤ 1 := by
      unfold firstS
      split <;> omega
    exact ⟨wf_state hf ha ha', wf_state a hb hb'⟩
theorem kind_6 {g : Graph} (hg : GOk g) {p : PS} (h : WfS g p) : kindS g p ≤ 6 := by
  by_cases hk : 3 < kindS g p
  · have e : kindS g p = (Krk0.at_ g p.2.1).kind := by
      unfold kindS
      rw [if_neg]
      rcases wf_inner h hk with ⟨a, _⟩ | ⟨a, _⟩ <;> omega
    rcases wf_inner h hk with ⟨a, b, c, d⟩ | ⟨a, b, c, d, f⟩
    · rw [e]; exact (hg.inner b d).1
    · rw [e]; exact (hg.inner b d).1
  · omega
def encS (p : PS) : Nat := p.1 * 121 + p.2.1 * 11 + p.2.2
theorem wf_small {g : Graph} (hl : g.length ≤ 10) {p : PS} (h : WfS g p) : p.1 ≤ 3 ∧ p.2.1 ≤ 10 ∧ p.2.2 ≤ 10 := by
  rcases h.cs with ⟨a, b, c⟩ | ⟨a, b, c⟩ | ⟨a, b, c, _⟩ <;> omega
theorem enc_inj {g : Graph} (hl : g.length ≤ 10) (p q : PS) (hp : WfS g p) (hq : WfS g q) (e : encS p = encS q) : p = q := by
  obtain ⟨a, b, c⟩ := wf_small hl hp
  obtain ⟨a', b', c'⟩ := wf_small hl hq
  unfold encS at e
  exact Prod.ext (by omega) (Prod.ext (by omega) (by omega))
theorem enc_lt {g : Graph} (hl : g.length ≤ 10) (p : PS) (hp : WfS g p) : encS p < 484 := by
  obtain ⟨a, b, c⟩ := wf_small hl hp
  unfold encS
  omega
/-! ### the program's states stand for the specification's -/
def RS (g : Graph) (p : PS) (s : Nat) : Prop := (∃ x, x < g.length ∧ p = (2, x, 0) ∧ s = x) ∨ ∃ w x y, w ≤ 1 ∧ x < g.length ∧ y < g.length ∧ p = stateS g w x y ∧ s = codeS g.length w x y
theorem RS_alone {g : Graph} (hg : GOk g) {x : Nat} (hx : x < g.length) {z : Node} (hz : z = Krk0.at_ g x) : kindS g (2, x, 0) = z.kind ∧ (3 < kindS g (2, x, 0) → RS g (aS g (2, x, 0)) z.a ∧ RS g (bS g (2, x, 0)) z.b) := by
  subst hz
  refine ⟨rfl, fun hk => ?_⟩
  obtain ⟨_, ha, hb⟩ := hg.inner hx hk
  exact ⟨.inl ⟨_, ha, rfl, rfl⟩, .inl ⟨_, hb, rfl, rfl⟩⟩
theorem RS_step {g : Graph} (hg : GOk g) (p : PS) (s : Nat) (h : RS g p s) : kindS g p = (stands g s).kind ∧ (3 < kindS g p → RS g (aS g p) (stands g s).a ∧ RS g (bS g p) (stands g s).b) := by
  rcases h with ⟨x, hx, rfl, rfl⟩ | ⟨w, x, y, hw, hx, hy, rfl, rfl⟩
  · exact RS_alone hg hx (stands_node hx)
  · rw [stands_code hw hx hy]
    unfold stateS standW
    by_cases h1 : (Krk0.at_ g x).kind = weakW w
    · rw [if_pos h1, if_pos h1]
      exact RS_alone hg hy rfl
    rw [if_neg h1, if_neg h1]
    by_cases h2 : (Krk0.at_ g y).kind = weakW w
    · rw [if_pos h2, if_pos h2]
      exact RS_alone hg hx rfl
    rw [if_neg h2, if_neg h2]
    by_cases h3 : (Krk0.at_ g x).kind = (Krk0.at_ g y).kind
    · rw [if_neg (fun z => z h3)]
      by_cases h5 : (Krk0.at_ g x).kind = takeW w
      · have h4 : ¬ 3 < (Krk0.at_ g x).kind := by
          rw [h5]
          unfold takeW
          split <;> omega
        rw [if_neg h4, if_pos (show (Krk0.at_ g x).kind ≠ (Krk0.at_ g y).kind ∨ (Krk0.at_ g x).kind = takeW w from .inr h5)]
        refine ⟨h5, fun hk => ?_⟩
        exact absurd hk h4
      rw [if_neg (show ¬ ((Krk0.at_ g x).kind ≠ (Krk0.at_ g y).kind ∨ (Krk0.at_ g x).kind = takeW w) from fun z => z.elim (fun q => q h3) h5)]
      by_cases h4 : 3 < (Krk0.at_ g x).kind
      · rw [if_pos h4, if_neg (show ¬ (Krk0.at_ g x).kind ≤ 3 by omega)]
        obtain ⟨_, ha, hb⟩ := hg.inner hx h4
        obtain ⟨_, ha', hb'⟩ := hg.inner hy (by omega)
        have ek : kindS g (w, x, y) = (Krk0.at_ g x).kind := by
          unfold kindS
          exact if_neg (show ¬ w = 3 by omega)
        have ea : aS g (w, x, y) = stateS g (if (Krk0.at_ g x).kind = 6 then 1 - w else w) (Krk0.at_ g x).a (Krk0.at_ g y).a := by
          unfold aS
          exact if_neg (show ¬ w = 2 by omega)
        have eb : bS g (w, x, y) = stateS g w (Krk0.at_ g x).b (Krk0.at_ g y).b := by
          unfold bS
          exact if_neg (show ¬ w = 2 by omega)
        rw [ek, ea, eb]
        by_cases h6 : (Krk0.at_ g x).kind = 6
        · rw [if_pos h6, if_pos h6]
          exact ⟨h6, fun _ => ⟨.inr ⟨_, _, _, by omega, ha, ha', rfl, rfl⟩, .inr ⟨_, _, _, hw, hb, hb', rfl, rfl⟩⟩⟩
        · rw [if_neg h6, if_neg h6]
          exact ⟨rfl, fun _ => ⟨.inr ⟨_, _, _, hw, ha, ha', rfl, rfl⟩, .inr ⟨_, _, _, hw, hb, hb', rfl, rfl⟩⟩⟩
      · rw [if_neg h4, if_pos (show (Krk0.at_ g x).kind ≤ 3 by omega)]
        exact RS_alone hg hx rfl
    · rw [if_pos h3, if_pos (show (Krk0.at_ g x).kind ≠ (Krk0.at_ g y).kind ∨ (Krk0.at_ g x).kind = takeW w from .inl h3)]
      unfold leafS takeW
      by_cases hw0 : w = 0
      · rw [if_pos hw0, if_pos hw0]
        exact ⟨rfl, fun hk => absurd hk (by show ¬ 3 < 1; decide)⟩
      · rw [if_neg hw0, if_neg hw0]
        exact ⟨rfl, fun hk => absurd hk (by show ¬ 3 < 0; decide)⟩
/-! ### the specification's states -/
def VN (g : Graph) (s : Nat) : Prop := s < g.length + 2 * (g.length * g.length)
theorem code_VN {g : Graph} {w x y : Nat} (hx : x < g.length) (hy : y < g.length) : VN g (codeS g.length w x y) := by
  have hl := code_lt hx hy
  unfold codeS VN
  split
  · unfold joins; omega
  · unfold meets; omega
theorem VN_code {g : Graph} {s : Nat} (h : VN g s) : s < g.length ∨ ∃ w x y, w ≤ 1 ∧ x < g.length ∧ y < g.length ∧ s = codeS g.length w x y := by
  unfold VN at h
  by_cases h0 : s < g.length
  · exact .inl h0
  right
  have hn : 0 < g.length := by
    cases hz : g.length with
    | zero => rw [hz] at h; omega
    | succ n => omega
  by_cases h1 : s < g.length + g.length * g.length
  · refine ⟨0, (s - g.length) / g.length, (s - g.length) % g.length, by omega, Nat.div_lt_of_lt_mul (by omega), Nat.mod_lt _ hn, ?_⟩
    have := Nat.div_add_mod (s - g.length) g.length
    rw [Nat.mul_comm] at this
    show s = g.length + _ * g.length + _
    omega
  · refine ⟨1, (s - g.length - g.length * g.length) / g.length, (s - g.length - g.length * g.length) % g.length, by omega, Nat.div_lt_of_lt_mul (by omega), Nat.mod_lt _ hn, ?_⟩
    have := Nat.div_add_mod (s - g.length - g.length * g.length) g.length
    rw [Nat.mul_comm] at this
    show s = g.length + g.length * g.length + _ * g.length + _
    omega
theorem VN_next {g : Graph} (hg : GOk g) (s : Nat) (h : VN g s) : (stands g s).kind ≤ 6 ∧ (3 < (stands g s).kind → VN g (stands g s).a ∧ VN g (stands g s).b) := by
  have nodes : ∀ x, x < g.length → (Krk0.at_ g x).kind ≤ 6 ∧ (3 < (Krk0.at_ g x).kind → VN g (Krk0.at_ g x).a ∧ VN g (Krk0.at_ g x).b) := by
    intro x hx
    by_cases hk : 3 < (Krk0.at_ g x).kind
    · obtain ⟨h6, ha, hb⟩ := hg.inner hx hk
      refine ⟨h6, fun _ => ⟨?_, ?_⟩⟩ <;> unfold VN <;> omega
    · exact ⟨by omega, fun z => absurd z hk⟩
  rcases VN_code h with hs | ⟨w, x, y, hw, hx, hy, rfl⟩
  · rw [stands_node hs]
    exact nodes s hs
  · rw [stands_code hw hx hy]
    unfold standW
    split
    · exact nodes y hy
    split
    · exact nodes x hx
    split
    · have : takeW w ≤ 1 := by
        unfold takeW
        split <;> omega
      exact ⟨by show takeW w ≤ 6; omega, fun z => by have z' : 3 < takeW w := z; omega⟩
    rename_i h3
    split
    · exact nodes x hx
    rename_i h4
    have hke : (Krk0.at_ g x).kind = (Krk0.at_ g y).kind := Decidable.byContradiction fun z => h3 (.inl z)
    obtain ⟨k6, ha, hb⟩ := hg.inner hx (by omega)
    obtain ⟨_, ha', hb'⟩ := hg.inner hy (by omega)
    split
    · exact ⟨Nat.le_refl _, fun _ => ⟨code_VN ha ha', code_VN hb hb'⟩⟩
    · exact ⟨k6, fun _ => ⟨code_VN ha ha', code_VN hb hb'⟩⟩
abbrev KN (g : Graph) : Nat → Nat := fun s => (stands g s).kind
abbrev AN (g : Graph) : Nat → Nat := fun s => (stands g s).a
abbrev BN (g : Graph) : Nat → Nat := fun s => (stands g s).b
theorem addG_contains (l : List Nat) (y : Nat) : (if l.contains y then l else l ++ [y]) = addG l y := by
  unfold addG
  by_cases h : y ∈ l
  · rw [if_pos h, if_pos (List.contains_iff_mem.mpr h)]
  · rw [if_neg h, if_neg fun z => h (List.contains_iff_mem.mp z)]
theorem reach_turn {g : Graph} {f i s : Nat} {l : List Nat} (h : l[i]? = some s) : reach g (f + 1) i l = reach g f (i + 1) (turnG (KN g) (AN g) (BN g) l s) := by
  have e0 : reach g (f + 1) i l = (match l[i]? with
    | none => l
    | some s =>
      let x := stands g s
      if x.kind ≤ 3 then reach g f (i + 1) l else
      let m := if l.contains x.a then l else l ++ [x.a]
      reach g f (i + 1) (if m.contains x.b then m else m ++ [x.b])) := rfl
  rw [e0, h]
  show (if (stands g s).kind ≤ 3 then reach g f (i + 1) l else reach g f (i + 1) (if (if l.contains (stands g s).a then l else l ++ [(stands g s).a]).contains (stands g s).b then (if l.contains (stands g s).a then l else l ++ [(stands g s).a]) else (if l.contains (stands g s).a then l else l ++ [(stands g s).a]) ++ [(stands g s).b])) = _
  rw [addG_contains, addG_contains]
  unfold turnG
  by_cases hk : (stands g s).kind ≤ 3
  · rw [if_pos hk, if_pos hk]
  · rw [if_neg hk, if_neg hk]
theorem reach_ok {g : Graph} (hg : GOk g) {s0 : Nat} : ∀ (f i : Nat) (l : List Nat), f + i = g.length + 2 * (g.length * g.length) + 1 → i ≤ l.length → RowG (KN g) (AN g) (BN g) (VN g) s0 i l → ∃ k, RowG (KN g) (AN g) (BN g) (VN g) s0 k (reach g f i l) ∧ (reach g f i l).length ≤ k := by
  intro f
  induction f with
  | zero =>
    intro i l hf hi h
    have := h.len (M := g.length + 2 * (g.length * g.length)) (enc := id) (fun _ _ _ _ e => e) (fun _ h => h)
    omega
  | succ f ih =>
    intro i l hf hi h
    by_cases hlt : i < l.length
    · obtain ⟨s, hs⟩ : ∃ s, l[i]? = some s := ⟨_, List.getElem?_eq_getElem hlt⟩
      rw [reach_turn hs]
      obtain ⟨h1, h2⟩ := h.turn (fun s hs => (VN_next hg s hs).2) hs
      exact ih (i + 1) _ (by omega) h2 h1
    · have e : reach g (f + 1) i l = l := by
        show (match l[i]? with
          | none => l
          | some s => _) = l
        rw [List.getElem?_eq_none (by omega)]
      rw [e]
      exact ⟨i, h, by omega⟩
/-- **what two nodes come to** -/
theorem both_least {g : Graph} (hg : GOk g) {w a b : Nat} (hw : w ≤ 1) (ha : a < g.length) (hb : b < g.length) {at' : Nat} {row : List PS} (hR : RowG (kindS g) (aS g) (bS g) (WfS g) (stateS g w a b) at' row) (hat : row.length ≤ at') :
    GOk (stG (kindS g) (aS g) (bS g) row) ∧ 1 ≤ row.length ∧ Krk0.least (stG (kindS g) (aS g) (bS g) row) 0 = typeAt g (codeS g.length w a b) := by
  have ok1 := hR.ok (fun s hs => kind_6 hg hs) hat
  obtain ⟨m1, z1⟩ := hR.start_mem
  have l1 := List.idxOf_lt_length_of_mem m1
  refine ⟨stG_ok ok1, by omega, ?_⟩
  obtain ⟨k, hS, hk⟩ := reach_ok hg (s0 := codeS g.length w a b) (g.length + 2 * (g.length * g.length) + 1) 0 [codeS g.length w a b] rfl (Nat.zero_le _) (.new (code_VN ha hb))
  have ok2 := hS.ok (fun s hs => (VN_next hg s hs).1) hk
  obtain ⟨m2, z2⟩ := hS.start_mem
  have l2 := List.idxOf_lt_length_of_mem m2
  have hb := stG_bis ok1 ok2 (R := RS g) (RS_step hg) m1 m2 (.inr ⟨w, a, b, hw, ha, hb, rfl, rfl⟩)
  rw [z1, z2] at hb
  exact least_bis (stG_ok ok1) (stG_ok ok2) (by rw [stG_len]; omega) (by rw [stG_len]; omega) hb
end Rt
namespace PySem
namespace LowX
open PySem.W PySem.Calls PyProof.Rows PySem.HandSPX
/-! ### the text of __init__ -/
def iA (p1 p2 : Pos) : Arguments := { posonlyargs := [], args := [{ arg := "self", annotation := none, pos := p1 }, { arg := "number", annotation := none, pos := p2 }], vararg := none, kwonlyargs := [], kw_defaults := [], kwarg := none, defaults := [] }
def iB (q1 q2 q3 q4 : Pos) : List Stmt := [.Assign [.Attribute (.Name "self" q1) "number" q2] (.Name "number" q3) q4]
def iS : Scope := { kind := .function, names := [(PySem.Str.ofString "self", .local), (PySem.Str.ofString "number", .local)], isGenerator := false, isCoroutine := false, more := [] }
/-- what the written part says of Low, at C, and of its __init__, at fI -/
structure LowTxt (K : Frag) (mg : Str → Option Value) (C fI : Addr) : Prop where
  gC : mg "Refused" = some (.ref C)
  cls : ∃ nm q N bs bm sn sub ab col dd k0 k1 k2 k3 k5, K.lookup C = some (excClassObj nm q C N bs bm true sn sub ab col dd k0 k1 k2 k3 k5 "ValueError.__new__") ∧ refsVE bm = true
  sa : findIn K (.ref C) "__setattr__" = some (some (.builtin "object.__setattr__"))
  ga : findIn K (.ref C) "__getattribute__" = some (some (.builtin "BaseException.__getattribute__"))
  gg : findIn K (.ref C) "__getattr__" = some none
  noN : findIn K (.ref C) "number" = some none
  iC : findIn K (.ref C) "__init__" = some (some (.ref fI))
  tC : typeIn K (.ref fI) = some (.type "function")
  kC : keepIn K (.ref C) = true
  exC : subIn K (.ref C) (.type "BaseException") = some true
  tyC : typeIn K (.ref C) = some (.type "type")
  hdC : hasDictIn K C = true
  te : exmOne K (.ref C) (.ref C) = some true
  fn : ∃ (oc : Value) (od : Option Addr) (doc pm : Value) (an : Option Addr) (cdv ct : Value) (osl : Array (Option Value)) (p1 p2 q1 q2 q3 q4 : Pos),
    K.lookup fI = some ⟨oc, od, .func (fnOf "__init__" "Refused.__init__" (iA p1 p2) (iB q1 q2 q3 q4) iS .none .none doc pm an cdv ct), osl⟩ ∧ codeIn K cdv "Refused.__init__" = true
theorem one_size (v : Value) : [v].length ≤ sizeLine := by
  rw [sizeLine_eq]
  exact (by decide : 1 ≤ 16777216)
theorem kept_but {K : Frag} {h h' : Heap} {x : Addr} (X : K.In h) (hx : K.lookup x = none) (k : ∀ b o, b ≠ x → h.get? b = some o → h'.get? b = some o) : K.In h' := fun a o e =>
  k a o (fun z => by rw [z, hx] at e; cases e) (X a o e)
theorem ldC {M : Model} {s : Shared} {name : Str} {scope : Scope} {L a : Addr} {cd : Value} {m : Str → Option Value} {x : Str} {pos : Pos} {v : Value} {Q : Value → Shared → Prop} {A : Around} {E : Value → Shared → Prop} (hn : s.heap.Ns L m) (hv : m x = some v) (h : Q v s)
    (hk : scope.kind = .function := by rfl) (hl : (envOfC name scope L a cd).kindOf x = some .local := by rfl) (hd : (x == ("__debug__" : Str)) = false := by decide) :
    wpAny M A (eval (.Name x pos) (envOfC name scope L a cd)) Q E s := wpAny_Name (wpAny_loadName_local hk hl hn hv h) hd
/-- what __init__ leaves of a fresh exception at x -/
structure InitEnd (h h' : Heap) (x C dx t1 : Addr) (v : Value) : Prop where
  keep : ∀ b o, b ≠ x → h.get? b = some o → h'.get? b = some o
  obj : h'.get? x = some { cls := .ref C, dict := some dx, data := .fields #[.ref t1, .none, .none, .none, .bool false, .none] }
  dbig : h.objs.size ≤ dx
  dne : dx ≠ x
  ns : h'.Ns1 dx (fun y => if y = "number" then some v else none)
/-- a made Low -/
structure OwnMade (h h' : Heap) (e C d : Addr) (v : Value) : Prop where
  keep : ∀ b o, h.get? b = some o → h'.get? b = some o
  new : h.objs.size ≤ e
  obj : ∃ oe vs, h'.get? e = some oe ∧ oe.cls = .ref C ∧ oe.dict = some d ∧ oe.data = .fields vs ∧ vs[1]? = some .none
  dbig : h.objs.size ≤ d
  dne : d ≠ e
  ns : h'.Ns1 d (fun y => if y = "number" then some v else none)
section
variable {prog : Program} {w : World} {A : Around} {E : Value → Shared → Prop} {R : Result → Shared → Prop} {s : Shared} {K : Frag} {mg : Str → Option Value} {C fI : Addr}
theorem low_init (T : LowTxt K mg C fI) {x t0 : Addr} {v : Value} (X : K.In s.heap) (hlim : s.heap.NoLimit) (hx : s.heap.get? x = some (excO C t0)) (hnx : K.lookup x = none) (hroom : A.depth < recursionLimit)
    (hq : ∀ h' tk dx, InitEnd s.heap h' x C dx t0 v → R (.ok (.ret .none)) { s with heap := h', toks := tk }) :
    codeAny (model prog w) A (.call (.ref fI) ⟨[.ref x, v], []⟩) R s := by
  obtain ⟨oc, od, doc, pm, an, cdv, ct, osl, p1, p2, q1, q2, q3, q4, ho, hcd⟩ := T.fn
  obtain ⟨nm, q, N, bs, bm, sn, sub, ab, col, dd, k0, k1, k2, k3, k5, hC, hbm⟩ := T.cls
  have hcl : clsIn K C = some { name := nm, bases := bs, mro := .ref C :: bm, ns := N, qualname := q, hasDict := true, slotNames := sn, subclasses := sub, abstract := ab, collection := col, hasDel := false } := by unfold clsIn; rw [hC] <;> rfl
  refine Att.call_fn (binds := [("self", .ref x), ("number", v)]) X hlim ho hcd hroom (BindsTo.of_eq (by first | rfl | with_unfolding_all rfl)) (by first | rfl | decide | with_unfolding_all rfl) (fun s₁ IC => ?_) rfl rfl rfl
  obtain ⟨h₁, tk₁, rfl⟩ := IC.toInCall.same
  have k : ∀ b o, s.heap.get? b = some o → h₁.get? b = some o := IC.toInCall.keep
  have hn := IC.toInCall.ns
  have hxL : s.heap.objs.size ≠ x := Nat.ne_of_gt (Heap.lt_size hx)
  have X₁ : K.In h₁ := X.keeps k
  have hx₁ := k _ _ hx
  -- self.by = by
  show wpAny _ _ (execs _ _) _ _ _
  refine wpAny_execs_cons (plainObj_wpAny_Assign_Attribute ?_)
  refine ldC (v := v) hn (by first | rfl | with_unfolding_all rfl | kernel_rfl) (ldC (v := .ref x) hn (by first | rfl | with_unfolding_all rfl | kernel_rfl) ?_)
  refine set_plain X₁ (ox := excO C t0) (od := none) ⟨hx₁, rfl, rfl, trivial⟩ T.sa ?_
  refine exc_osa X₁ hx₁ hcl (show refsVE (.ref C :: bm) = true from hbm) rfl T.noN (fun h₃ tk₃ dx k₃ dn dne hx₃ hn₃ => ?_)
  show wpAny _ _ (execs _ _) _ _ _
  have z : s.heap.objs.size < h₁.objs.size := hn.lt
  exact wpAny_execs_nil (hq h₃ tk₃ dx ⟨fun b o hb e => k₃ b o hb (k b o e), hx₃, Nat.le_of_lt (Nat.lt_of_lt_of_le z dn), dne, hn₃⟩)
theorem low_made (T : LowTxt K mg C fI) {v : Value} (X : K.In s.heap) (hlim : s.heap.NoLimit) (hroom : A.depth + 1 < recursionLimit)
    (hq : ∀ h' tk e d, OwnMade s.heap h' e C d v → R (.ok (.ret (.ref e))) { s with heap := h', toks := tk }) :
    codeAny (model prog w) A (.call (.ref C) ⟨[v], []⟩) R s := by
  obtain ⟨nm, q, N, bs, bm, sn, sub, ab, col, dd, k0, k1, k2, k3, k5, hC, hbm⟩ := T.cls
  obtain ⟨hp, g, dr, tk, os⟩ := s
  have k : ∀ b o, hp.get? b = some o → ((hp.push (kdv_tup [v])).push (excO C hp.objs.size)).get? b = some o := fun b o e => Heap.get?_push_of_some _ (Heap.get?_push_of_some _ e)
  have hget : ((hp.push (kdv_tup [v])).push (excO C hp.objs.size)).get? (hp.objs.size + 1) = some (excO C hp.objs.size) := by heap_get
  have hnx : K.lookup (hp.objs.size + 1) = none := by
    cases e : K.lookup (hp.objs.size + 1) with
    | none => rfl
    | some o =>
      have z : hp.get? (hp.objs.size + 1) = some o := X _ _ e
      exact absurd (Nat.lt_of_succ_lt (Heap.lt_size z)) (Nat.lt_irrefl _)
  refine call_own F.excBase_ValueError (fun X => refsVE_contains X bm hbm) (X _ _ hC) (looks_findIn X T.iC) (fun self => bind_fn X self T.tC) (one_size v) ?_
  refine low_init (s := ⟨(hp.push (kdv_tup [v])).push (excO C hp.objs.size), g, dr, tk, os⟩) T (X.keeps k) (hlim.keeps k) hget hnx ?_ fun h' tk' dx ⟨k', hx, dn, dne, hns⟩ => ?_
  · show A.depth + 1 < recursionLimit
    exact hroom
  · have old : ∀ b o, hp.get? b = some o → h'.get? b = some o := fun b o e => k' b o (Nat.ne_of_lt (Nat.lt_succ_of_lt (Heap.lt_size e))) (k b o e)
    have z : hp.objs.size + 1 + 1 ≤ dx := by
      first
        | (simpa only [Heap.size_push] using dn)
        | exact dn
        | (have q := dn; rw [Heap.size_push, Heap.size_push] at q; exact q)
    exact ⟨rfl, hq h' tk' (hp.objs.size + 1) dx ⟨old, Nat.le_succ _, ⟨_, _, hx, rfl, rfl, rfl, rfl⟩, Nat.le_trans (Nat.le_trans (Nat.le_succ _) (Nat.le_succ _)) z, dne, hns⟩⟩
end
end LowX
end PySem
namespace L2
open PySem PySem.Spec PyProof.Rows
theorem relO_low {v : V} {v' : Value} (r : RelV v v') (f : Str) : RelO (List.lookup f [(("number" : Str), v)]) (if f = "number" then some v' else none) := by
  by_cases hw : f = "number"
  · subst hw
    rw [if_pos rfl]
    have q : List.lookup ("number" : Str) [(("number" : Str), v)] = some v := by simp [List.lookup]
    rw [q]
    exact r
  · rw [if_neg hw]
    have qw : (f == ("number" : Str)) = false := by simpa using hw
    have q2 : List.lookup f [(("number" : Str), v)] = none := by simp [List.lookup, qw]
    rw [q2]
    trivial
section
variable {X : Cx} {C fI : Addr}
/-- Low(e) -/
def tMkLow (C : Addr) (ta : TA) : St → Hp → XK → Prop := fun σ H Q => ta σ H fun vs H1 => ∃ v, vs = [v] ∧ ∀ d, H1 d = none → Q (.ref C) (some d) (upd H1 d (.xd [(("number" : Str), v)]))
theorem pmk_low {a : Expr} {ta : TA} {p pos : Pos} {k : Nat} (T : PySem.LowX.LowTxt X.K X.mg C fI) (hr : Room k X.A) (ha : PA X [a] ta) (hg : Gl X "Refused" := by rfl)
    (he : starEach (a :: []) X.env = (false, eval a X.env) :: starEach [] X.env := by rfl) (hpl : (backTo pos (starEach [] X.env)).any (·.1) = false := by rfl) :
    PMk X (.Call (.Name "Refused" p) [a] [] pos) (tMkLow C ta) := by
  intro pins s σ H Q I h
  refine wpAny_Call_Name_kw (ld_glob I hg T.gC ?_)
  refine PySem.W.callWith_K (h₀ := X.base) I.ok.mod.kin T.kC (thn (ha.run pos pins s σ H _ I h) fun us s1 hh => ?_) he hpl
  obtain ⟨vs, H1, I1, r1, v, ev, q1⟩ := hh
  subst ev
  refine ⟨I1.kIn, ?_⟩
  cases r1 with
  | cons rv rn =>
    rename_i v' us'
    cases rn
    show wpAny _ _ (call (.ref C) [v']) _ _ _
    have hlim := I1.nolimit
    obtain ⟨hp, g, dr, tk, os⟩ := s1
    refine wpAny_call (PySem.LowX.low_made T I1.kIn hlim (by have := hr.dp; omega) fun h' tk' e d M => ?_)
    show MkP X pins σ Q (.ref e) ⟨h', g, dr, tk', os⟩
    obtain ⟨oe, fv, hoe, hc, hd, hdat, h1⟩ := M.obj
    have hns := M.ns
    obtain ⟨G', g1, g2⟩ := restrict h' fun b => decide (b ≠ e)
    have gk : ∀ b, b ≠ e → G'.get? b = h'.get? b := fun b hb => g1 b (decide_eq_true hb)
    have ge : G'.get? e = none := g2 e (by simp)
    have old : ∀ b o, hp.get? b = some o → G'.get? b = some o := fun b o q => (gk b (Nat.ne_of_lt (Nat.lt_of_lt_of_le (Heap.lt_size q) M.new))).trans (M.keep b o q)
    have ob : ObjOk X.prog X.w (upd H1 d (.xd [(("number" : Str), v)])) G' d (.xd [(("number" : Str), v)]) :=
      ⟨_, hns.at (fun o q => (gk d M.dne).trans q), fun f => relO_low rv f⟩
    have J : Inv X pins σ (upd H1 d (.xd [(("number" : Str), v)])) ⟨G', g, dr, tk', os⟩ := I1.laid (t' := tk') old M.dbig ob
    refine ⟨e, oe, fv, ⟨G', g, dr, tk', os⟩, _, .ref C, some d, rfl, J, fun b o q => ?_, ge, hoe, ⟨hc, hd⟩, hdat, h1, ?_, rfl, I1.bare, raises_own T.exC T.tyC, q1 d (I1.hok.fresh M.dbig)⟩
    · by_cases hb : b = e
      · have q' : G'.get? b = some o := q
        rw [hb, ge] at q'; cases q'
      · exact (gk b hb).symm.trans q
    · rw [upd_ne (Ne.symm M.dne)]
      exact I1.hok.fresh M.new
/-- raise Low(e) -/
def tRaiseLow (C : Addr) (W : WX) (ta : TA) : TS := fun _ σ H => tMkLow C ta σ H fun cls d H' => W cls d σ H'
theorem ps_raiseLow {a : Expr} {ta : TA} {W : WX} {p pos pos2 : Pos} {k : Nat} (hc : X.calm = true) (T : PySem.LowX.LowTxt X.K X.mg C fI) (hr : Room k X.A) (tk : Takes X W) (ha : PA X [a] ta) (hg : Gl X "Refused" := by rfl)
    (he : starEach (a :: []) X.env = (false, eval a X.env) :: starEach [] X.env := by rfl) (hpl : (backTo pos (starEach [] X.env)).any (·.1) = false := by rfl) :
    PS X (.Raise (some (.Call (.Name "Refused" p) [a] [] pos)) none pos2) (tRaiseLow C W ta) := ps_raise hc tk (pmk_low T hr ha hg he hpl)
/-- low.by, low the exception that the suite holds (at a; its class cls, its dict d) -/
def tByLow (C : Addr) (a : Addr) (cls : Value) (d : Option Addr) (te : TE) : TE := fun σ H Q => te σ H fun x H1 => x = .ref a ∧ cls = .ref C ∧ ∃ (dd : Addr) (v : V), d = some dd ∧ H1 dd = some (.xd [(("number" : Str), v)]) ∧ Q v H1
theorem pe_byLow {a : Addr} {oe : Obj} {cls : Value} {d : Option Addr} {pn : List (Addr × Obj)} {e : Expr} {te : TE} {pos : Pos} (T : PySem.LowX.LowTxt X.K X.mg C fI) (hz : Zc cls d oe) (hf : ∃ vs, oe.data = .fields vs) (he : PE (X.suite a ((a, oe) :: pn)) e te)
    (hb : attributeBase e "number" X.env (eval e X.env) = eval e X.env := by rfl) :
    PE (X.suite a ((a, oe) :: pn)) (.Attribute e "number" pos) (tByLow C a cls d te) := by
  refine ⟨fun pins s σ H Q I h => ?_⟩
  refine attr_of hb (thn (he.run pins s σ H _ I h) fun u s1 hh => ?_)
  obtain ⟨x, H1, I1, rx, ex, ec, dd, v, ed, ea, q⟩ := hh
  subst ex
  obtain rfl : u = Value.ref a := rx
  subst ec
  subst ed
  obtain ⟨ha, _⟩ := I1.pin (a, oe) (List.mem_append_left _ List.mem_cons_self)
  obtain ⟨vs, hd⟩ := hf
  have hx : ObjOk X.prog X.w H1 s1.heap dd (.xd [(("number" : Str), v)]) := I1.hok dd _ ea
  obtain ⟨mA, hns, hr⟩ := hx
  obtain ⟨od, ho, hl⟩ := lookIn_ns hns
  have l : List.lookup ("number" : Str) [(("number" : Str), v)] = some v := by simp [List.lookup]
  obtain ⟨u, hu, ru⟩ := RelO.some_of (v := v) (o := mA "number") (by rw [← l]; exact hr "number")
  have J : PySem.W.InstAt s1.heap a oe C (some od) := ⟨ha, hz.1, by unfold PySem.W.notCls; rw [hd] <;> rfl, by rw [hz.2]; exact ho⟩
  exact HandSPX.exc_get I1.kIn J T.ga T.gg T.exC (PySem.W.findObj_own T.hdC T.noN rfl (by rw [hl, hu])) (handed_of ru) ⟨v, H1, I1.tok _, ru, q⟩
end
end L2

namespace L2
open PySem PySem.Spec PyProof.Rows
/-- an if whose test is known -/
theorem if_true_of {c : Bool} {A B : Prop} (hc : c = true) (h : A) : if c = true then A else B := by
  rw [if_pos hc]
  exact h
theorem if_false_of {c : Bool} {A B : Prop} (hc : c = false) (h : B) : if c = true then A else B := by
  rw [hc, if_neg Bool.false_ne_true]
  exact h
end L2
namespace Rt
open PySem PySem.Spec PyProof.Rows L2
/-! ### callables of the text, by name -/
structure Cal (CX : CXT) (P : Program) (w : World) (K : PySem.W.Frag) (mg : Str → Option Value) (base : Heap) (k : Nat) (x : Str) (ps : List Str) (sp : Sp) : Prop where
  ex : ∃ (f : Addr) (fd : FuncData), mg x = some (.ref f) ∧ PySem.W.keepIn K (.ref f) = true ∧ FnOk P w K mg base CX k f fd ps sp ∧ Binds K fd ps []
section
variable {X : Cx} {e : Expr} {es : List Expr} {p pos : Pos} {x : Str} {ps : List Str} {sp : Sp} {t : TA} {k j : Nat} {W : WX}
theorem pc0 (c : Cal CX0 X.prog X.w X.K X.mg X.base k x ps sp) (hr : Room j X.A) (hk : k ≤ j) (ha : PA X (e :: es) t) (hg : Gl X x := by rfl) (hd : (x == ("__debug__" : Str)) = false := by decide)
    (he : starEach (e :: es) X.env = (false, eval e X.env) :: starEach es X.env := by rfl) (hpl : (backTo pos (starEach es X.env)).any (·.1) = false := by rfl) : PE X (.Call (.Name x p) (e :: es) [] pos) (tCall sp [] E0 t) := by
  obtain ⟨f, fd, g, kp, F, b⟩ := c.ex
  exact pe_call F (hr.mono hk) hg g kp b .nil pass0 ha (hdb := hd) (he := he) (hpl := hpl)
theorem pcX (c : Cal (L2.CX X.prog X.w) X.prog X.w X.K X.mg X.base k x ps sp) (hr : Room j X.A) (hk : k ≤ j) (tk : Takes X W) (ha : PA X (e :: es) t) (hg : Gl X x := by rfl) (hd : (x == ("__debug__" : Str)) = false := by decide)
    (he : starEach (e :: es) X.env = (false, eval e X.env) :: starEach es X.env := by rfl) (hpl : (backTo pos (starEach es X.env)).any (·.1) = false := by rfl) : PE X (.Call (.Name x p) (e :: es) [] pos) (tCallS sp (WE W) t) := by
  obtain ⟨f, fd, g, kp, F, b⟩ := c.ex
  exact pe_callS F (hr.mono hk) hg g kp b (fun σ => passAt tk σ) ha (hdb := hd) (he := he) (hpl := hpl)
/-- a module's number -/
def Ki (mg : Str → Option Value) (x : Str) (i : Int) : Prop := ∃ u, mg x = some (.int i u)
theorem pgi {i : Int} (h : Ki X.mg x i) (hg : Gl X x := by rfl) (hd : (x == ("__debug__" : Str)) = false := by decide) : PE X (.Name x pos) (tC (.int i)) := by
  obtain ⟨u, hm⟩ := h
  exact pe_glob (v := .int i) hg hm ⟨u, rfl⟩ hd
/-- len of a list or a tuple, the written part named -/
def rLenS (K : PySem.W.Frag) : List V → Hp → VK → Prop := fun xs H Q => ∃ p ys, xs = [.ref p] ∧ (SqL K H p ys ∨ SqT K H p ys) ∧ Q (.int ys.length) H
theorem cr_len {K : PySem.W.Frag} (h : X.K = K := by rfl) : CallR X (.builtin "len") (rLenS K) := by
  subst h
  exact call_len_seq
theorem op_eqDK {K : PySem.W.Frag} (hu : X.A.units + 64 < cLine) (h : X.K = K := by rfl) : OpR X (compareOp .Eq) (rEqD K) := by
  subst h
  exact op_eqD hu
theorem ixL {K : PySem.W.Frag} (h : X.K = K := by rfl) : IxR X (rIxL K) := by
  subst h
  exact ix_list
theorem ixT {K : PySem.W.Frag} (h : X.K = K := by rfl) : IxR X (rIxT K) := by
  subst h
  exact ix_tup
end
end Rt
namespace Rt
open PySem PySem.Spec PyProof.Rows L2
abbrev nV (n : Nat) : V := .int (n : Int)
theorem nV_eq (a b : Nat) : decide (nV a = nV b) = decide (a = b) := decide_eq_decide.mpr ⟨fun h => by injection h with h; omega, fun h => by rw [h]⟩
theorem same_upd {H : Hp} {p : Addr} {o : HO} (h : H p = none) : Same H (upd H p o) := fun b x e => by
  rw [upd_ne (ne_of_none e h)]
  exact e
/-- all but the thing at D, which is new -/
theorem same_new {H H1 : Hp} {D : Addr} {o : HO} (s : Same H H1) (n : H D = none) : Same H (upd H1 D o) := fun b x e => by
  rw [upd_ne (ne_of_none e n)]
  exact s b x e
/-- an error of the class at C, its number told; all else as it was -/
def Er (C : Addr) (n : Int) (H : Hp) (E : XK) : Prop := ∀ (d : Addr) (H1 : Hp), Same H H1 → H1 d = some (.xd [(("number" : Str), .int n)]) → E (.ref C) (some d) H1
theorem Er.mono {C : Addr} {n : Int} {H H' : Hp} {E : XK} (h : Er C n H E) (s : Same H H') : Er C n H' E := fun d H1 s1 e => h d H1 (s.trans s1) e
theorem sl1000 {n : Nat} (h : n ≤ 1000000) : n ≤ sizeLine := Nat.le_trans h (by rw [sizeLine_eq]; decide)
theorem slt1000 {n : Nat} (h : n ≤ 1000000) : n < sizeLine := Nat.lt_of_le_of_lt h (by rw [sizeLine_eq]; decide)
theorem map_get {α : Type} {xs : List α} {f : α → V} {i : Nat} {x : α} (h : xs[i]? = some x) : (xs.map f)[i]? = some (f x) := by
  rw [List.getElem?_map, h]
  rfl
theorem map_get_inv {α : Type} {xs : List α} {f : α → V} {i : Nat} {y : V} (h : (xs.map f)[i]? = some y) : ∃ x, xs[i]? = some x ∧ y = f x := by
  rw [List.getElem?_map] at h
  cases e : xs[i]? with
  | none => rw [e] at h; cases h
  | some x => rw [e] at h; exact ⟨x, rfl, (Option.some.inj h).symm⟩
theorem get_lt {α : Type} {xs : List α} {i : Nat} {x : α} (h : xs[i]? = some x) : i < xs.length := (List.getElem?_eq_some_iff.mp h).1
/-- the nodes' list at q -/
structure NodesAt (H : Hp) (q : Addr) (g : Krk0.Graph) : Prop where
  ex : ∃ ts : List Addr, H q = some (.lst (ts.map V.ref)) ∧ ts.length = g.length ∧ ∀ (i : Nat) (x : Krk0.Node), g[i]? = some x → ∃ t, ts[i]? = some t ∧ H t = some (.tup [nV x.kind, nV x.a, nV x.b])
theorem NodesAt.same {H H' : Hp} {q : Addr} {g : Krk0.Graph} (h : NodesAt H q g) (s : Same H H') : NodesAt H' q g := by
  obtain ⟨ts, h1, h2, h3⟩ := h.ex
  exact ⟨ts, s _ _ h1, h2, fun i x e => let ⟨t, a, b⟩ := h3 i x e; ⟨t, a, s _ _ b⟩⟩
/-- an item of it is a node's tuple -/
theorem NodesAt.item {H : Hp} {q : Addr} {g : Krk0.Graph} {xs : List V} {i : Nat} {y : V} {ys : List V} (h : NodesAt H q g) (eq : H q = some (.lst ys)) (e : xs[i]? = some y) (hx : xs = ys := by rfl) : ∃ (t : Addr) (x : Krk0.Node), g[i]? = some x ∧ y = V.ref t ∧ H t = some (.tup [nV x.kind, nV x.a, nV x.b]) := by
  subst hx
  obtain ⟨ts, h1, h2, h3⟩ := h.ex
  rw [eq] at h1
  injection h1 with h1
  injection h1 with h1
  rw [h1] at e
  obtain ⟨t, et, ey⟩ := map_get_inv e
  have hi : i < g.length := by
    have := get_lt et
    omega
  obtain ⟨t', e1, e2⟩ := h3 i _ (List.getElem?_eq_getElem hi)
  rw [et] at e1
  have q : t = t' := Option.some.inj e1
  subst q
  exact ⟨t, _, List.getElem?_eq_getElem hi, ey, e2⟩
/-- a node of it -/
theorem NodesAt.get {K : PySem.W.Frag} {H : Hp} {q : Addr} {g : Krk0.Graph} {i : Nat} {x : Krk0.Node} (h : NodesAt H q g) (e : g[i]? = some x) : ∃ xs t, SqL K H q xs ∧ xs.length = g.length ∧ atI xs (i : Int) = some (.ref t) ∧ H t = some (.tup [nV x.kind, nV x.a, nV x.b]) := by
  obtain ⟨ts, h1, h2, h3⟩ := h.ex
  obtain ⟨t, a, b⟩ := h3 i x e
  exact ⟨_, t, .inl (.inl h1), by rw [List.length_map, h2], atI_nat (by rw [List.getElem?_map, a]; rfl), b⟩
theorem NodesAt.sq {K : PySem.W.Frag} {H : Hp} {q : Addr} {g : Krk0.Graph} (h : NodesAt H q g) : ∃ xs, SqL K H q xs ∧ xs.length = g.length := by
  obtain ⟨ts, h1, h2, _⟩ := h.ex
  exact ⟨_, .inl (.inl h1), by rw [List.length_map, h2]⟩
theorem nodes_of {H1 : Hp} : ∀ (acc : List V) (g : List Krk0.Node), acc.length = g.length → (∀ (i : Nat) (y : V), acc[i]? = some y → ∃ (t : Addr) (x : Krk0.Node), g[i]? = some x ∧ y = V.ref t ∧ H1 t = some (.tup [nV x.kind, nV x.a, nV x.b])) →
    ∃ ts : List Addr, acc = ts.map V.ref ∧ ts.length = g.length ∧ ∀ (i : Nat) (x : Krk0.Node), g[i]? = some x → ∃ t, ts[i]? = some t ∧ H1 t = some (.tup [nV x.kind, nV x.a, nV x.b])
  | [], [], _, _ => ⟨[], rfl, rfl, fun i x e => by simp at e⟩
  | [], _ :: _, h, _ => by simp at h
  | _ :: _, [], h, _ => by simp at h
  | y :: acc, x0 :: g, h, ha => by
    obtain ⟨ts, e1, e2, e3⟩ := nodes_of acc g (by simpa using h) (fun i y e => by simpa using ha (i + 1) y (by simpa using e))
    obtain ⟨t, x, f1, f2, f3⟩ := ha 0 y rfl
    have ex : x0 = x := by simpa using f1
    subst ex
    refine ⟨t :: ts, by rw [f2, e1]; rfl, by simp [e2], fun i x e => ?_⟩
    cases i with
    | zero =>
      have ex : x0 = x := by simpa using e
      subst ex
      exact ⟨t, rfl, f3⟩
    | succ i => simpa using e3 i x (by simpa using e)
theorem NodesAt.of {H1 : Hp} {D : Addr} {acc : List V} {g : Krk0.Graph} (eD : H1 D = some (.lst acc)) (h : acc.length = g.length) (ha : ∀ (i : Nat) (y : V), acc[i]? = some y → ∃ (t : Addr) (x : Krk0.Node), g[i]? = some x ∧ y = V.ref t ∧ H1 t = some (.tup [nV x.kind, nV x.a, nV x.b])) : NodesAt H1 D g := by
  obtain ⟨ts, e1, e2, e3⟩ := nodes_of acc g h ha
  exact ⟨ts, by rw [eD, e1], e2, e3⟩
theorem lc_in {te : TE} {σ2 σ0 : L2.St} {vs : List Nat} {H2 : Hp} {Q : VK} {Z : Hp → Prop} (hw : wipe σ2 vs = σ0) (h : te σ2 H2 Q) : wipe σ2 vs = σ0 ∧ tYes σ2 H2 fun b H3 => if b = true then te σ2 H3 Q else Z H3 := ⟨hw, by
  show if true = true then te σ2 H2 Q else Z H2
  exact iteT h⟩
/-- a comprehension without a test: what is told (R) of each item -/
theorem lc_all {J : It} {n : Nat} {G : Hp → Prop} {Y : Nat → Hp → V → Hp → Prop} (w : Walk J n G Y) {g : TG} {te : TE} {vs : List Nat} {σ : L2.St} {H1 : Hp} {D : Addr} {Qd : Hp → Prop} (R : Nat → V → Hp → Prop)
    (nD : H1 D = none) (hn : n ≤ 1000000) (hG : ∀ H, Same H1 H → G H) (hR : ∀ i y H H', R i y H → (∀ b o, (∀ l, o ≠ HO.lst l) → H b = some o → H' b = some o) → R i y H')
    (hs : ∀ i x H H', i < n → Same H1 H → Y i H x H' → ∀ (Q : VK) (Z : Hp → Prop), (∀ y H4, Same H H4 → R i y H4 → Q y H4) → g x (wipe σ vs) H' fun σ2 H2 => wipe σ2 vs = wipe σ vs ∧ tYes σ2 H2 fun b H3 => if b = true then te σ2 H3 Q else Z H3)
    (hd : ∀ H acc, Same H1 H → H D = some (.lst acc) → acc.length = n → (∀ i y, acc[i]? = some y → R i y H) → Qd H) :
    ∃ W : Nat → Nat → Hp → Prop, (∃ m, W 0 m (upd H1 D (.lst []))) ∧ ∀ i m H, W i m H →
      (J.stop i H ∧ Qd H) ∨ (J.go i H ∧ ∃ Nx : Hp → Prop, (∀ H', Nx H' → ∃ m', m' < m ∧ W (i + 1) m' H') ∧ ∀ x H', J.yld i H x H' → g x (wipe σ vs) H' fun σ2 H2 => wipe σ2 vs = wipe σ vs ∧ tYes σ2 H2 fun b H3 =>
        if b = true then te σ2 H3 fun y H4 => ∃ acc, H4 D = some (.lst acc) ∧ acc.length < sizeLine ∧ Nx (upd H4 D (.lst (acc ++ [y]))) else Nx H3) := by
  refine lc_it w (fun i H => Same H1 H ∧ ∃ acc, H D = some (.lst acc) ∧ acc.length = i ∧ ∀ j y, acc[j]? = some y → R j y H) ⟨same_upd nD, [], upd_same, rfl, fun j y e => by simp at e⟩ (fun i H _ p => hG H p.1) ?_ ?_
  · rintro i x H H' hi ⟨s, acc, hD, hl, hacc⟩ y
    refine hs i x H H' hi s y _ _ fun v H4 s4 r => ?_
    have e4 : H4 D = some (.lst acc) := s4 _ _ hD
    refine ⟨acc, e4, slt1000 (by omega), same_new (s.trans s4) nD, acc ++ [v], upd_same, by rw [List.length_append, hl]; rfl, fun j z e => ?_⟩
    have keep : ∀ b o, (∀ l, o ≠ HO.lst l) → H4 b = some o → upd H4 D (.lst (acc ++ [v])) b = some o := fun b o ho eb => by
      have hb : b ≠ D := fun z => by
        rw [z, e4] at eb
        exact ho acc (Option.some.inj eb).symm
      rw [upd_ne hb]
      exact eb
    by_cases hj : j < acc.length
    · rw [List.getElem?_append_left hj] at e
      exact hR j z H4 _ (hR j z H H4 (hacc j z e) fun b o _ eb => s4 b o eb) keep
    · have hj2 : j = acc.length := by
        have q := get_lt e
        rw [List.length_append] at q
        simp at q
        omega
      subst hj2
      rw [List.getElem?_append_right (Nat.le_refl _), Nat.sub_self] at e
      have ez : v = z := Option.some.inj e
      subst ez
      rw [hl]
      exact hR i v H4 _ r keep
  · rintro H ⟨s, acc, hD, hl, hacc⟩
    exact hd H acc s hD hl hacc
end Rt
namespace Rt
open PySem PySem.Spec PyProof.Rows L2
/-! ### a list against an empty one -/
theorem eqv_nil (ds : List PyData) : PyData.eqv (.list ds) (.list []) = ds.isEmpty := by cases ds <;> rfl
theorem dpAll_len {K : PySem.W.Frag} {H : Hp} : ∀ {xs : List V} {ds : List PyData}, DpAll K H xs ds → xs.isEmpty = ds.isEmpty
  | _, _, .nil => rfl
  | _, _, .cons _ _ => rfl
theorem ne_nil {K : PySem.W.Frag} {H : Hp} {a b : Addr} {xs : List V} {ds : List PyData} {Q : VK} (hs : SqL K H a xs) (hd : DpAll K H xs ds) (hsh : SeqAt.shaped (.list ds) = true) (hb : SqL K H b []) (q : Q (.bl (!xs.isEmpty)) H) : rNeD K (.ref a) (.ref b) H Q := by
  refine ⟨.list ds, .list [], .lst hs hd, .lst hb .nil, hsh, rfl, ?_⟩
  rw [eqv_nil, ← dpAll_len hd]
  exact q
theorem eq_nil {K : PySem.W.Frag} {H : Hp} {a b : Addr} {xs : List V} {ds : List PyData} {Q : VK} (hs : SqL K H a xs) (hd : DpAll K H xs ds) (hsh : SeqAt.shaped (.list ds) = true) (hb : SqL K H b []) (q : Q (.bl xs.isEmpty) H) : rEqD K (.ref a) (.ref b) H Q := by
  refine ⟨.list ds, .list [], .lst hs hd, .lst hb .nil, hsh, rfl, ?_⟩
  rw [eqv_nil, ← dpAll_len hd]
  exact q
theorem dp_ints {K : PySem.W.Frag} {H : Hp} : ∀ ns : List Int, DpAll K H (ns.map V.int) (ns.map PyData.int)
  | [] => .nil
  | n :: r => .cons (.int n) (dp_ints r)
theorem shaped_list {ds : List PyData} {n : Nat} (hn : n + 1 ≤ 64) (h : ∀ d ∈ ds, PyData.canLay0 d = true ∧ PyData.depth d ≤ n) : SeqAt.shaped (.list ds) = true := by
  have h1 : ∀ ds : List PyData, (∀ d ∈ ds, PyData.canLay0 d = true ∧ PyData.depth d ≤ n) → PyData.canLayAll0 ds = true ∧ PyData.depthAll ds ≤ n := by
    intro ds
    induction ds with
    | nil => exact fun _ => ⟨rfl, Nat.zero_le _⟩
    | cons d ds ih =>
      intro h
      obtain ⟨a, b⟩ := ih fun z hz => h z (List.mem_cons_of_mem _ hz)
      obtain ⟨c, e⟩ := h d List.mem_cons_self
      refine ⟨?_, ?_⟩
      · show (PyData.canLay0 d && PyData.canLayAll0 ds) = true
        rw [c, a]
        rfl
      · show max (PyData.depth d) (PyData.depthAll ds) ≤ n
        omega
  obtain ⟨a, b⟩ := h1 ds h
  show (PyData.canLayAll0 ds && decide (PyData.depthAll ds + 1 ≤ 64)) = true
  rw [a, decide_eq_true (by omega)]
  rfl
theorem shaped_ints (ns : List Int) : SeqAt.shaped (.list (ns.map PyData.int)) = true := shaped_list (n := 0) (by decide) fun d hd => by
  obtain ⟨i, _, e⟩ := List.mem_map.mp hd
  subst e
  exact ⟨rfl, Nat.le_refl _⟩
theorem drop_at {α : Type} {l : List α} {i : Nat} {x : α} (h : l[i]? = some x) : l.drop i = x :: l.drop (i + 1) := by
  obtain ⟨hi, e⟩ := List.getElem?_eq_some_iff.mp h
  rw [List.drop_eq_getElem_cons hi, e]
theorem drop_end {α : Type} {l : List α} {i : Nat} (h : l.length ≤ i) : l.drop i = [] := List.drop_eq_nil_of_le h
end Rt
namespace Rt
open PySem PySem.Spec PyProof.Rows L2
/-! ### rules for dicts whose keys are tuples, and for extend by a tuple -/
section
variable {prog : Program} {w : World} {A : Around} {s : Shared} {E : Value → Shared → Prop}
theorem ext_tup {l b : Addr} {items items2 : Array Value} {n n2 : Nat} {o : Obj} {R : Result → Shared → Prop} (hl : s.heap.get? l = some { cls := .type "list", data := .seq items n }) (ho : s.heap.get? b = some o) (hc : o.cls = .type "tuple") (hd : o.data = .seq items2 n2)
    (hz : items.size + items2.size ≤ sizeLine) (hR : R (.ok (.ret Value.none)) { s with heap := s.heap.update l (Obj.mapSeq (· ++ items2)) }) :
    wpAny (model prog w) A.in1 (Builtin.List.listExtendWith (.ref l) (.ref b) .none)
      (fun fin s' => match fin with | .done f => R (.ok f) s' | .again c' => c'.quiet = true ∧ codeAny (model prog w) A c' R s') (fun e s' => R (.error e) s') s := by
  unfold Builtin.List.listExtendWith
  refine wpAny_bind (wpAny_typeOf ⟨o, ho, hc⟩ ?_)
  have h1 : (Builtin.List.listSameRef (.ref l) (.ref b) || Value.type "tuple" == Value.type "list" || Value.type "tuple" == Value.type "tuple") = true := by simp
  simp only [h1, if_true]
  refine wpAny_bind ?_
  unfold Builtin.List.listItems
  refine wpAny_bind (wpAny_seqItems ho hd (wpAny_pure ?_))
  refine wpAny_bind ?_
  refine wpAny_bind (wpAny_seqItems hl rfl (wpAny_pure ?_))
  have hlong : ¬ (!items.isEmpty && Builtin.List.listTooLong (items.size + items2.size)) = true := by
    rw [notLongL hz, Bool.and_false]
    exact Bool.false_ne_true
  rw [if_neg hlong]
  show wpAny _ A.in1 (updateSeq l (· ++ items2) >>= fun _ => ret Value.none) _ _ s
  refine wpAny_bind (wpAny_updateSeq hl rfl ?_ (hz := by omega) (_hz' := by rw [Array.size_append]; omega))
  exact wpAny_pure hR
theorem meets_extT {l b : Addr} {items items2 : Array Value} {n n2 : Nat} {o : Obj} (hc : o.cls = .type "tuple") (hd : o.data = .seq items2 n2) (hz : items.size + items2.size ≤ sizeLine) :
    Meets (Builtin.«list.extend» ⟨[.ref l, .ref b], []⟩) (fun _ R s => s.heap.get? l = some { cls := .type "list", data := .seq items n } ∧ s.heap.get? b = some o ∧ R (.ok (.ret Value.none)) { s with heap := s.heap.update l (Obj.mapSeq (· ++ items2)) }) := by
  intro prog w A R s h
  obtain ⟨hl, ho, h⟩ := h
  show wpAny _ A.in1 (Builtin.List.listExtendWith (.ref l) (.ref b) .none) _ _ s
  exact ext_tup hl ho hc hd hz h
end
section
variable {X : Cx}
/-- xs.extend(t), t a tuple -/
def rExtT (K : PySem.W.Frag) : V → List V → Hp → VK → Prop := fun x vs H Q => ∃ l b xs zs, x = .ref l ∧ vs = [.ref b] ∧ H l = some (.lst xs) ∧ SqT K H b zs ∧ xs.length + zs.length ≤ sizeLine ∧ Q .non (upd H l (.lst (xs ++ zs)))
theorem mt_extT : MtR X "list.extend" (rExtT X.K) := by
  intro pins s σ H x vs v us Q I rx rv h
  obtain ⟨l, b, xs, zs, rfl, rfl, hH, hB, hz, q⟩ := h
  cases rx
  obtain ⟨u, rfl, ru⟩ := rv.one
  cases ru
  obtain ⟨z, its, n, r, hl, e⟩ := I.lstM hH
  obtain ⟨its2, r2, ⟨o, ho, hc, n2, hd⟩, hz2⟩ := I.tuple hB
  have hl2 := r2.length
  refine call_meets F.slot_list_extend ⟨_, e, rfl⟩ F.entry_list_extend (F.args_list_extend_2 _ _)
    (meets_extT (n := n) hc hd (by rw [List.size_toArray, List.size_toArray]; omega)) ⟨e, ho, ?_⟩
  refine ⟨.non, _, I.lset (its' := its ++ its2) hH e (by simp) (r.append r2) ?_, rfl, q⟩
  rw [List.length_append]
  omega
/-- {k: v}, k a tuple -/
def tDisp1T (tk tv : TE) : TE := fun σ H Q => ∀ p, H p = none → tk σ (upd H p (.dT [])) fun x H1 => tv σ H1 fun y H2 => H2 p = some (.dT []) ∧ ∃ b ks, x = .ref b ∧ H2 b = some (.tup (ks.map kV)) ∧ Q (.ref p) (upd H2 p (.dT [(ks, y)]))
theorem pe_disp1T {k v : Expr} {pos : Pos} {tk tv : TE} (hu : X.A.units + 1 < cLine) (hk : PE X k tk) (hv : PE X v tv) : PE X (.Dict [some k] [v] pos) (tDisp1T tk tv) := by
  refine ⟨fun pins s σ H Q I q => ?_⟩
  have hn := I.hok.fresh (Nat.le_refl s.heap.objs.size)
  have I1 := I.laid (a := s.heap.objs.size) (o := .dT []) (h' := s.heap.push { cls := .type "dict", data := .dict #[] }) (t' := s.toks) (fun _ _ q => Heap.get?_push_of_some _ q) (Nat.le_refl _) (dt_empty s.heap I.big)
  have hshape := zip_pairTrees [some k] [v] X.env pos rfl rfl
  have hpl := pairTrees_length [some k] [v] X.env pos rfl rfl
  have hp0 : pairTrees [some k] [v] X.env pos ≠ [] := fun e => by rw [e] at hpl; cases hpl
  have hp1 : (pairTrees [some k] [v] X.env pos).length ≤ 15 := by rw [hpl]; exact (by decide : 1 ≤ 15)
  rw [arm_eval_Dict, hshape, dictDisplay_pairs _ hp0 (by omega)]
  refine wpAny_bind (wpAny_standAt (wpAny_bind (wpAny_subDictH (knd := tupleKind (mixKind X.prog X.w)) (Q := fun d s' => wpAny (model X.prog X.w) X.A (pure (Value.ref d)) (EP X pins σ Q) X.xe s') (Nat.lt_of_succ_lt hu) hp1 ?_)))
  refine pairTrees_cons_walk (thn (hk.run pins _ σ _ _ I1 (q _ hn)) fun u s1 ⟨x, H1, I1, rx, q1⟩ => thn (hv.run pins s1 σ H1 _ I1 q1) fun w2 s2 ⟨y, H2, I2, ry, e, b, ks, ex, eb, q2⟩ => pairTrees_nil_walk ?_)
  subst ex
  obtain rfl : u = Value.ref b := rx
  obtain ⟨z, hd, xs, r0, dd⟩ := dt_of I2.hok e
  cases r0
  refine ⟨[(ks, b, w2)], ⟨rfl, rfl, key_of I2.hok eb, True.intro⟩, dd, fun h' tk dd' hs => wpAny_pure ⟨.ref s.heap.objs.size, _, ?_, rfl, q2⟩⟩
  obtain ⟨qo, es, ep, hq, h2, h3, h4, _, h5⟩ := dd'
  have hbne : b ≠ s.heap.objs.size := fun z => by rw [z, e] at eb; cases eb
  refine d_write I2 (by rw [e]; exact True.intro) hs ⟨qo, hq⟩ ⟨by show 1 ≤ sizeLine; decide, hd, [(ks, b, w2)], .cons ⟨rfl, ?_, ry⟩ .nil, qo, es, ep, hq, h2, h3, h4, h5⟩
  rw [upd_ne hbne]
  exact eb
/-! ### dict(pairs) -/
def putE (acc : List (List Key × V)) (es : List (List Key × Addr × V)) : List (List Key × V) := es.foldl (fun acc e => putK acc e.1 e.2.2) acc
theorem putE_len : ∀ (es : List (List Key × Addr × V)) (acc : List (List Key × V)), (putE acc es).length ≤ acc.length + es.length
  | [], acc => by show acc.length ≤ acc.length + 0; omega
  | e :: es, acc => by
    have h1 := putE_len es (putK acc e.1 e.2.2)
    have h2 := length_putK acc e.1 e.2.2
    show (putE (putK acc e.1 e.2.2) es).length ≤ _
    rw [List.length_cons]
    omega
theorem KT_putE {H : Hp} : ∀ {es : List (List Key × Addr × V)} {ps : List (List Key × Addr × Value)} {acc : List (List Key × V)} {xs : List (List Key × Addr × Value)},
    Paired (fun (e : List Key × Addr × V) (q : List Key × Addr × Value) => e.1 = q.1 ∧ e.2.1 = q.2.1 ∧ H e.2.1 = some (.tup (e.1.map kV)) ∧ RelV e.2.2 q.2.2) es ps → KT H acc xs → KT H (putE acc es) (storedAllH xs ps)
  | _, _, acc, xs, .nil, h => h
  | e :: es, q :: ps, acc, xs, .cons a t, h => by
    obtain ⟨a1, a2, a3, a4⟩ := a
    have h' : KT H (putK acc e.1 e.2.2) (storedH xs q.1 q.2.1 q.2.2) := by
      have := h.put (b := e.2.1) e.1 a3 a4
      rw [← a1, ← a2]
      exact this
    show KT H (putE (putK acc e.1 e.2.2) es) (storedAllH (storedH xs q.1 q.2.1 q.2.2) ps)
    exact KT_putE t h'
def rDictT (K : PySem.W.Frag) : List V → Hp → VK → Prop := fun xs H Q => ∃ (a : Addr) (ts : List Addr) (es : List (List Key × Addr × V)), xs = [.ref a] ∧ SqL K H a (ts.map V.ref) ∧
  Paired (fun t (e : List Key × Addr × V) => SqT K H t [.ref e.2.1, e.2.2] ∧ H e.2.1 = some (.tup (e.1.map kV))) ts es ∧ ∀ p, H p = none → Q (.ref p) (upd H p (.dT (putE [] es)))
theorem pairsT_of {pins : List (Addr × Obj)} {σ : L2.St} {H : Hp} {s : Shared} (I : Inv X pins σ H s) : ∀ {ts : List Addr} {es : List (List Key × Addr × V)}, Paired (fun t (e : List Key × Addr × V) => SqT X.K H t [.ref e.2.1, e.2.2] ∧ H e.2.1 = some (.tup (e.1.map kV))) ts es →
    ∃ ps : List (List Key × Addr × Value), Paired (fun (e : List Key × Addr × V) (q : List Key × Addr × Value) => e.1 = q.1 ∧ e.2.1 = q.2.1 ∧ H e.2.1 = some (.tup (e.1.map kV)) ∧ RelV e.2.2 q.2.2) es ps ∧ ps.length = ts.length ∧
      ∀ (j : Nat) (q : List Key × Addr × Value), ps[j]? = some q → (∃ t, ts[j]? = some t ∧ IsTup s.heap t #[.ref q.2.1, q.2.2]) ∧ H q.2.1 = some (.tup (q.1.map kV))
  | _, _, .nil => ⟨[], .nil, rfl, fun j q e => by simp at e⟩
  | _, _, .cons (a := t) (b := e) h tl => by
    obtain ⟨ps, r, hl, hp⟩ := pairsT_of I tl
    obtain ⟨its, rv, ht, _⟩ := I.tuple h.1
    obtain ⟨u, y, ei, ru, ry⟩ := vals2 rv
    subst ei
    obtain rfl : u = Value.ref e.2.1 := ru
    refine ⟨(e.1, e.2.1, y) :: ps, .cons ⟨rfl, rfl, h.2, ry⟩ r, by rw [List.length_cons, List.length_cons, hl], fun j q hq => ?_⟩
    cases j with
    | zero =>
      have e' : (e.1, e.2.1, y) = q := Option.some.inj hq
      subst e'
      exact ⟨⟨t, rfl, ht⟩, h.2⟩
    | succ j => exact hp j q (by simpa using hq)
theorem call_dictT (hcalm : X.calm = true) (hu : X.A.units + 64 < cLine) : CallR X (.type "dict") (rDictT X.K) := by
  intro pins s σ H xs us Q I r q
  obtain ⟨a, ts, es, ex, hq, hp, q⟩ := q
  subst ex
  obtain ⟨u, eu, rx⟩ := vals1 r
  subst eu
  cases rx
  obtain ⟨its, rv, pl, hz⟩ := I.list hq
  have ei := refs_at rv
  subst ei
  rw [List.length_map] at hz
  obtain ⟨ps, rel, hl, hpr⟩ := pairsT_of I hp
  have hmap : ∀ (j : Nat) (k v : Value), (ps.map fun q => ((Value.ref q.2.1, q.2.2) : Value × Value))[j]? = some (k, v) → ∃ q, ps[j]? = some q ∧ k = Value.ref q.2.1 ∧ v = q.2.2 := fun j k v e => by
    rw [List.getElem?_map] at e
    cases ej : ps[j]? with
    | none => rw [ej] at e; cases e
    | some q =>
      rw [ej] at e
      injection e with e
      injection e with e1 e2
      exact ⟨q, rfl, e1.symm, e2.symm⟩
  refine call_dict_pairsH (knd := tupleKind (mixKind X.prog X.w)) (ps := ps) (PairArg.list a (ts.map Value.ref).toArray (fun j => ts.getD j 0) (ps.map fun q => (Value.ref q.2.1, q.2.2))) (I.ok.hd hcalm) (by show X.A.units + 1 + 1 < cLine; omega) ⟨pl, ?_, fun j k v e => ?_⟩ ⟨?_, fun j k v e => ?_⟩ (fun h' hk x hx => ?_) ?_ (fun h' tk dd' hk => ?_)
  · rw [List.size_toArray, List.length_map, List.length_map, hl]
  · obtain ⟨q, eq, rfl, rfl⟩ := hmap j k v e
    obtain ⟨⟨t, et, o, ho, hc, n, hd⟩, _⟩ := hpr j q eq
    have e1 : ts.getD j 0 = t := by rw [List.getD_eq_getElem?_getD, et]; rfl
    show (List.map Value.ref ts).toArray[j]? = some (Value.ref (ts.getD j 0)) ∧ PairAt s.heap (ts.getD j 0) (Value.ref q.2.1) q.2.2
    rw [e1]
    exact ⟨by simp [et], .inl ⟨o, ho, hc, n, hd⟩⟩
  · rw [List.length_map]
  · obtain ⟨q, eq, rfl, rfl⟩ := hmap j k v e
    exact ⟨q.1, q.2.1, eq, rfl⟩
  · obtain ⟨j, ej⟩ := List.getElem?_of_mem hx
    obtain ⟨_, ht⟩ := hpr j x ej
    obtain ⟨o, items, n, h1, h2, h3, h4⟩ := key_of (P := X.prog) (w := X.w) I.hok ht
    exact ⟨o, items, n, hk _ _ (Nat.ne_of_lt (Heap.lt_size h1)) (fun z => nomatch z) h1, h2, h3, h4⟩
  · rw [List.length_map, hl]
    exact hz
  · obtain ⟨qo, es', ep, hqo, h2, h3, h4, _, h5⟩ := dd'
    have hm : (s.heap.objs.size == sysModules) = false := beq_eq_false_iff_ne.mpr (Nat.ne_of_gt I.big)
    have hfree := I.hok.fresh (Nat.le_refl s.heap.objs.size)
    have hel : es.length = ps.length := Paired.length rel
    have hlen : (putE [] es).length ≤ sizeLine := by
      refine Nat.le_trans (putE_len es []) ?_
      rw [List.length_nil, Nat.zero_add, hel, hl]
      exact hz
    refine ⟨.ref s.heap.objs.size, upd H s.heap.objs.size (.dT (putE [] es)), I.laid (t' := tk) (fun b o e => hk b o (fun z => nomatch z) e) (Nat.le_refl _) ⟨hlen, hm, storedAllH [] ps, (KT_putE rel .nil).keeps fun c ys ec => ?_, qo, es', ep, hqo, h2, h3, h4, h5⟩, rfl, q _ hfree⟩
    rw [upd_ne (ne_of_none ec hfree)]
    exact ec
/-! ### for k in d.keys(), list(d.keys()) -/
def iKeysMT (td : TE) : TI := fun σ H R => td σ H fun x H1 => ∃ d o kvs, x = .ref d ∧ H1 d = some (.frz o (.dT kvs)) ∧ R (Itkt d o kvs) H1
theorem pi_keysMT {tg e : Expr} {td : TE} {apos cpos : Pos} (he : PE X e td) (hbase : attributeBase e "keys" X.env (eval e X.env) = eval e X.env := by rfl) (hline : (apos.endLine == cpos.line) = true := by rfl) : PI X tg (.Call (.Attribute e "keys" apos) [] [] cpos) (iKeysMT td) := by
  refine ⟨fun pins s σ H R I h => ?_⟩
  refine wpAny_Call_method (T := "dict") (id := "dict.keys") hbase rfl hline F.plainAttrs_dict F.slot_dict_keys F.type_dict_keys (thn (he.run pins s σ H _ I h) fun u s1 ⟨x, H1, I1, rx, d, o, kvs, ex, hd, q⟩ => ?_)
  subst ex
  obtain rfl : u = Value.ref d := rx
  obtain ⟨hs, hgd, hx, es, ep, hdt, hsz, ent⟩ := I1.frzT hd
  have raw : s1.heap.DictRaw d es ep := ⟨o, hgd, hx, hdt⟩
  refine ⟨raw.typeIs, fun b eb => by cases eb; exact ⟨o, hgd, hx.2.1⟩, ?_⟩
  have I2 : Inv X pins σ H1 { s1 with heap := s1.heap.push { cls := .type "dict_keys", data := .fields #[.ref d] } } := I1.kept (t' := s1.toks) fun b ob q => Heap.get?_push_of_some _ q
  have fin : wpAny (model X.prog X.w) X.A (pyIter (.ref s1.heap.objs.size)) (PIE X pins σ tg R) X.xe { s1 with heap := s1.heap.push { cls := .type "dict_keys", data := .fields #[.ref d] } } := by
    refine wpAny_pyIter_keys_raw (d := d) (es := es) (ep := ep) ⟨_, Heap.get?_push_size _ rfl, rfl, rfl⟩ (raw.push _) (pi_one (tk := s1.toks) I2 _ (turn_keysT _ hdt) ⟨_, Heap.get?_push_size _ rfl, rfl, ?_⟩ q)
    rw [hsz] <;> rfl
  show wpAny _ _ (callWith cpos (.builtin "dict.keys") [.ref d] [] []) _ X.xe s1
  exact method_meetsIn F.slot_dict_keys F.entry_dict_keys rfl (PySem.evalArgs_none ⟨rfl, raw.typeIs, F.args_dict_keys_1 _, _, meets_dict_keys_raw d hs, ⟨es, ep, raw⟩, fin⟩)
end
end Rt
namespace Rt
open PySem PySem.Spec PyProof.Rows L2
/-! ### a dict of groups' numbers -/
theorem valV_get2 {κ : Type} [DecidableEq κ] : ∀ {kvs : List (κ × V)} {i : Nat} {k : κ} {v : V}, (kvs.map (·.1)).Nodup → kvs[i]? = some (k, v) → valV kvs k = some v
  | [], i, k, v, _, h => by simp at h
  | p :: kvs, 0, k, v, _, h => by
    have e := Option.some.inj h
    subst e
    exact valV_pos rfl
  | p :: kvs, i + 1, k, v, hn, h => by
    rw [List.map_cons, List.nodup_cons] at hn
    have h' : kvs[i]? = some (k, v) := by simpa using h
    have hne : ¬ p.1 = k := fun e => hn.1 (List.mem_map.mpr ⟨(k, v), List.mem_of_getElem? h', e.symm⟩)
    rw [valV_neg hne]
    exact valV_get2 hn.2 h'
theorem nodup_map2 {α β : Type} {f : α → β} (hf : ∀ a b, f a = f b → a = b) : ∀ {l : List α}, l.Nodup → (l.map f).Nodup
  | [], _ => List.nodup_nil
  | a :: l, h => by
    rw [List.nodup_cons] at h
    rw [List.map_cons, List.nodup_cons]
    refine ⟨fun hm => ?_, nodup_map2 hf h.2⟩
    obtain ⟨b, hb, e⟩ := List.mem_map.mp hm
    exact h.1 (hf _ _ e ▸ hb)
section
variable {κ κ' : Type} [DecidableEq κ] [DecidableEq κ']
def entsL (f : κ → κ') (l : List κ) : List (κ' × V) := l.zipIdx.map fun p => (f p.1, nV p.2)
theorem entsL_len (f : κ → κ') (l : List κ) : (entsL f l).length = l.length := by unfold entsL; rw [List.length_map, List.length_zipIdx]
theorem entsL_get {f : κ → κ'} {l : List κ} {i : Nat} {k : κ} (h : l[i]? = some k) : (entsL f l)[i]? = some (f k, nV i) := by
  unfold entsL
  rw [List.getElem?_map, List.getElem?_zipIdx, h]
  show some (f k, nV (0 + i)) = _
  rw [Nat.zero_add]
theorem entsL_keys (f : κ → κ') (l : List κ) : (entsL f l).map (·.1) = l.map f := by
  unfold entsL
  rw [List.map_map]
  show l.zipIdx.map (f ∘ Prod.fst) = _
  rw [← List.map_map, List.zipIdx_map_fst]
theorem entsL_snoc (f : κ → κ') (l : List κ) (k : κ) : entsL f (l ++ [k]) = entsL f l ++ [(f k, nV l.length)] := by
  unfold entsL
  rw [List.zipIdx_append, List.map_append, Nat.zero_add]
  rfl
theorem entsL_in {f : κ → κ'} (hf : ∀ a b, f a = f b → a = b) {l : List κ} (hn : l.Nodup) {k : κ} (h : k ∈ l) : valV (entsL f l) (f k) = some (nV (l.idxOf k)) := by
  have hi := List.idxOf_lt_length_of_mem h
  refine valV_get2 ?_ (entsL_get (f := f) (List.getElem?_eq_some_iff.mpr ⟨hi, List.getElem_idxOf hi⟩))
  rw [entsL_keys]
  exact nodup_map2 hf hn
theorem entsL_out {f : κ → κ'} (hf : ∀ a b, f a = f b → a = b) {l : List κ} {k : κ} (h : ¬ k ∈ l) : valV (entsL f l) (f k) = none := by
  cases e : valV (entsL f l) (f k) with
  | none => rfl
  | some v =>
    have q := valV_in e
    rw [entsL_keys] at q
    obtain ⟨a, ha, ea⟩ := List.mem_map.mp q
    exact absurd (hf _ _ ea ▸ ha) h
theorem entsL_put {f : κ → κ'} (hf : ∀ a b, f a = f b → a = b) {l : List κ} {k : κ} (h : ¬ k ∈ l) {v : V} (hv : v = nV l.length) : putK (entsL f l) (f k) v = entsL f (l ++ [k]) := by
  rw [putK_new _ (entsL_out hf h), entsL_snoc, hv]
theorem dd_put {ks : List κ} {k : κ} (h : ¬ k ∈ dd ks) : dd (ks ++ [k]) = dd ks ++ [k] := by
  rw [dd_snoc]
  unfold dd1
  rw [if_neg h]
theorem dd_has {ks : List κ} {k : κ} (h : k ∈ dd ks) : dd (ks ++ [k]) = dd ks := by
  rw [dd_snoc]
  unfold dd1
  rw [if_pos h]
theorem take_snoc {α : Type} {ks : List α} {i : Nat} {k : α} (h : ks[i]? = some k) : ks.take (i + 1) = ks.take i ++ [k] := by
  rw [List.take_add_one, h]
  rfl
end
theorem maps_of {α : Type} {f : α → V} : ∀ (acc : List V) (ks : List α), acc.length = ks.length → (∀ (i : Nat) (y : V), acc[i]? = some y → ∃ k, ks[i]? = some k ∧ y = f k) → acc = ks.map f
  | [], [], _, _ => rfl
  | [], _ :: _, h, _ => by simp at h
  | _ :: _, [], h, _ => by simp at h
  | y :: acc, k0 :: ks, h, ha => by
    obtain ⟨k, f1, f2⟩ := ha 0 y rfl
    have ex : k0 = k := by simpa using f1
    subst ex
    rw [List.map_cons, maps_of acc ks (by simpa using h) (fun i y e => by simpa using ha (i + 1) y (by simpa using e)), f2]
def keyI (n : Nat) : Key := Sum.inl (n : Int)
theorem keyI_inj (a b : Nat) (h : keyI a = keyI b) : a = b := by
  unfold keyI at h
  injection h with h
  omega
theorem keyI_V (n : Nat) : kV (keyI n) = nV n := rfl
def keyL (k : List Nat) : List Key := k.map keyI
theorem keyL_inj : ∀ (a b : List Nat), keyL a = keyL b → a = b
  | [], [], _ => rfl
  | [], _ :: _, h => nomatch h
  | _ :: _, [], h => nomatch h
  | x :: a, y :: b, h => by
    unfold keyL at h
    rw [List.map_cons, List.map_cons] at h
    injection h with h1 h2
    rw [keyI_inj _ _ h1, keyL_inj a b h2]
theorem keyL_V (k : List Nat) : (keyL k).map kV = k.map nV := by
  unfold keyL
  rw [List.map_map]
  rfl
end Rt
namespace Rt
open PySem PySem.Spec PyProof.Rows L2
theorem dget_of {H : Hp} {a : Addr} {y : V} {o o' : Option V} (h : DGet H a y o) (e : o = o') : DGet H a y o' := e ▸ h
theorem pget {α β : Type} {F : α → β → Prop} : ∀ {xs : List α} {ys : List β}, Paired F xs ys → ∀ {i : Nat} {x : α}, xs[i]? = some x → ∃ y, ys[i]? = some y ∧ F x y
  | _, _, .nil, i, x, h => by simp at h
  | _, _, .cons r t, 0, x, h => by
    have e := Option.some.inj h
    subst e
    exact ⟨_, rfl, r⟩
  | _, _, .cons r t, i + 1, x, h => by
    obtain ⟨y, a, b⟩ := pget t (i := i) (x := x) (by simpa using h)
    exact ⟨y, by simpa using a, b⟩
theorem op_catTK {X : Cx} {K : PySem.W.Frag} (h : X.K = K := by rfl) : OpR X (binaryOp .Add) (rCatT K) := by
  subst h
  exact op_catT
theorem tups_of {H : Hp} : ∀ (acc : List V) (ks : List (List Nat)), acc.length = ks.length → (∀ (i : Nat) (y : V), acc[i]? = some y → ∃ (t : Addr) (k : List Nat), ks[i]? = some k ∧ y = V.ref t ∧ H t = some (.tup (k.map nV))) →
    ∃ ts : List Addr, acc = ts.map V.ref ∧ Paired (fun t k => H t = some (.tup (k.map nV))) ts ks
  | [], [], _, _ => ⟨[], rfl, .nil⟩
  | [], _ :: _, h, _ => by simp at h
  | _ :: _, [], h, _ => by simp at h
  | y :: acc, k0 :: ks, h, ha => by
    obtain ⟨ts, e1, e2⟩ := tups_of acc ks (by simpa using h) fun i y e => by simpa using ha (i + 1) y (by simpa using e)
    obtain ⟨t, p, f1, f2, f3⟩ := ha 0 y rfl
    have ep : k0 = p := by simpa using f1
    subst ep
    exact ⟨t :: ts, by rw [f2, e1]; rfl, .cons f3 e2⟩
theorem nats_V (gs : List Nat) : gs.map nV = (gs.map fun (n : Nat) => (n : Int)).map V.int := by
  rw [List.map_map]
  rfl
/-- the greatest of natural numbers -/
theorem max_nat {gs : List Nat} {m : Int} (hm : m ∈ gs.map fun (n : Nat) => (n : Int)) (hmax : ∀ y, y ∈ (gs.map fun (n : Nat) => (n : Int)) → y ≤ m) (hD : Dense gs) : m + 1 = ((dd gs).length : Int) := by
  obtain ⟨n, hn, rfl⟩ := List.mem_map.mp hm
  have := hD n hn fun y hy => by
    have := hmax _ (List.mem_map.mpr ⟨y, hy, rfl⟩)
    omega
  omega
end Rt
namespace Rt
open PySem PySem.Spec PyProof.Rows L2
/-! ### states, each a tuple -/
abbrev sT (p : PS) : List V := [nV p.1, nV p.2.1, nV p.2.2]
abbrev SP2 (H : Hp) : List Addr → List PS → Prop := Paired fun t p => H t = some (.tup (sT p))
theorem SP2.same {H H' : Hp} {ts : List Addr} {ps : List PS} (h : SP2 H ts ps) (s : ∀ b xs, H b = some (.tup xs) → H' b = some (.tup xs)) : SP2 H' ts ps := Paired.mapP h fun _ _ e => s _ _ e
def keyS (p : PS) : List Key := keyL [p.1, p.2.1, p.2.2]
theorem keyS_inj (p q : PS) (h : keyS p = keyS q) : p = q := by
  have e := keyL_inj _ _ h
  injection e with e1 e
  injection e with e2 e
  injection e with e3 e
  exact Prod.ext e1 (Prod.ext e2 e3)
theorem keyS_V (p : PS) : (keyS p).map kV = sT p := keyL_V _
def innerS (g : Krk0.Graph) (p : PS) : List PS := if kindS g p ≤ 3 then [] else [aS g p, bS g p]
theorem turnG_fold (g : Krk0.Graph) (row : List PS) (p : PS) : turnG (kindS g) (aS g) (bS g) row p = (innerS g p).foldl addG row := by
  unfold turnG innerS
  split <;> rfl
theorem pgetB {α β : Type} {F : α → β → Prop} : ∀ {xs : List α} {ys : List β}, Paired F xs ys → ∀ {i : Nat} {y : β}, ys[i]? = some y → ∃ x, xs[i]? = some x ∧ F x y
  | _, _, .nil, i, x, h => by simp at h
  | _, _, .cons r t, 0, x, h => by
    have e := Option.some.inj h
    subst e
    exact ⟨_, rfl, r⟩
  | _, _, .cons r t, i + 1, x, h => by
    obtain ⟨y, a, b⟩ := pgetB t (i := i) (y := x) (by simpa using h)
    exact ⟨y, by simpa using a, b⟩
/-- the nodes found -/
def FN (g : Krk0.Graph) (row : List PS) (n : Nat) : List Krk0.Node := (row.take n).map (stN (kindS g) (aS g) (bS g) row)
theorem FN_add {g : Krk0.Graph} {start : PS} {at' : Nat} {row : List PS} {y : PS} (h : RowG (kindS g) (aS g) (bS g) (WfS g) start at' row) (ha : at' ≤ row.length) : FN g (addG row y) at' = FN g row at' := by
  unfold FN
  have e : (addG row y).take at' = row.take at' := by
    unfold addG
    split
    · rfl
    · rw [List.take_append_of_le_length ha]
  rw [e]
  refine List.map_congr_left fun p hp => ?_
  obtain ⟨j, hj⟩ := List.getElem?_of_mem hp
  have hj' := (List.getElem?_eq_some_iff.mp hj).1
  rw [List.length_take] at hj'
  have hr : row[j]? = some p := by
    rw [List.getElem?_take] at hj
    split at hj
    · exact hj
    · cases hj
  unfold stN
  by_cases hk : kindS g p ≤ 3
  · rw [if_pos hk, if_pos hk]
  · obtain ⟨a, b⟩ := h.clos j p (by omega) hr (by omega)
    rw [if_neg hk, if_neg hk, addG_idx a, addG_idx b]
theorem FN_snoc {g : Krk0.Graph} {row : List PS} {n : Nat} {p : PS} (h : row[n]? = some p) : FN g row (n + 1) = FN g row n ++ [stN (kindS g) (aS g) (bS g) row p] := by
  unfold FN
  rw [List.take_add_one, h, List.map_append]
  rfl
theorem FN_all {g : Krk0.Graph} {row : List PS} {n : Nat} (h : row.length ≤ n) : FN g row n = stG (kindS g) (aS g) (bS g) row := by
  unfold FN stG
  rw [List.take_of_length_le h]
def ixG {σ : Type} [DecidableEq σ] (l : List σ) (s : σ) : Nat := l.idxOf s
theorem fold_get {σ : Type} [DecidableEq σ] {i : Nat} {p : σ} : ∀ (l row : List σ), row[i]? = some p → (l.foldl addG row)[i]? = some p
  | [], _, h => h
  | _ :: l, _, h => fold_get l _ (addG_get h)
abbrev NP2 (H : Hp) : List Addr → List Krk0.Node → Prop := Paired fun t x => H t = some (.tup [nV x.kind, nV x.a, nV x.b])
theorem NP2.same {H H' : Hp} {ts : List Addr} {ps : List Krk0.Node} (h : NP2 H ts ps) (s : ∀ b xs, H b = some (.tup xs) → H' b = some (.tup xs)) : NP2 H' ts ps := Paired.mapP h fun _ _ e => s _ _ e
/-- the dict at d, the row at r, the nodes found at f, made behind H -/
structure BSt (H H' : Hp) (d r f : Addr) (row : List PS) (fn : List Krk0.Node) : Prop where
  same : Same H H'
  nd : H d = none
  nr : H r = none
  nf : H f = none
  fr : f ≠ r
  ed : H' d = some (.dT (entsL keyS row))
  er : ∃ ts, H' r = some (.lst (ts.map V.ref)) ∧ SP2 H' ts row
  ef : ∃ fs, H' f = some (.lst (fs.map V.ref)) ∧ NP2 H' fs fn
theorem BSt.later {H H1 H2 : Hp} {d r f : Addr} {row : List PS} {fn : List Krk0.Node} (h : BSt H H1 d r f row fn) (s : Same H1 H2) : BSt H H2 d r f row fn := by
  obtain ⟨ts, a, b⟩ := h.er
  obtain ⟨fs, c, e⟩ := h.ef
  exact ⟨h.same.trans s, h.nd, h.nr, h.nf, h.fr, s _ _ h.ed, ⟨ts, s _ _ a, b.same fun x l z => s _ _ z⟩, ⟨fs, s _ _ c, e.same fun x l z => s _ _ z⟩⟩
theorem BSt.dr {H H1 : Hp} {d r f : Addr} {row : List PS} {fn : List Krk0.Node} (h : BSt H H1 d r f row fn) : d ≠ r := fun z => by
  obtain ⟨ts, a, _⟩ := h.er
  rw [← z, h.ed] at a
  cases a
theorem BSt.df {H H1 : Hp} {d r f : Addr} {row : List PS} {fn : List Krk0.Node} (h : BSt H H1 d r f row fn) : d ≠ f := fun z => by
  obtain ⟨fs, a, _⟩ := h.ef
  rw [← z, h.ed] at a
  cases a
/-- a state more -/
theorem BSt.more {H H1 : Hp} {d r f t : Addr} {row : List PS} {fn : List Krk0.Node} {p : PS} {ts : List Addr} (h : BSt H H1 d r f row fn) (ets : H1 r = some (.lst (ts.map V.ref))) (hts : SP2 H1 ts row) (ht : H1 t = some (.tup (sT p))) :
    BSt H (upd (upd H1 d (.dT (entsL keyS (row ++ [p])))) r (.lst (ts.map V.ref ++ [V.ref t]))) d r f (row ++ [p]) fn := by
  have hdr := h.dr
  have hdf := h.df
  have tups : ∀ c l, H1 c = some (.tup l) → upd (upd H1 d (.dT (entsL keyS (row ++ [p])))) r (.lst (ts.map V.ref ++ [V.ref t])) c = some (.tup l) := fun c l z => by
    have h1 : c ≠ d := fun e => by rw [e, h.ed] at z; cases z
    have h2 : c ≠ r := fun e => by rw [e, ets] at z; cases z
    rw [upd_ne h2, upd_ne h1]
    exact z
  obtain ⟨fs, c, e⟩ := h.ef
  refine ⟨fun c o z => ?_, h.nd, h.nr, h.nf, h.fr, ?_, ⟨ts ++ [t], ?_, Paired.snoc (hts.same tups) (tups _ _ ht)⟩, ⟨fs, ?_, e.same tups⟩⟩
  · rw [upd_ne (ne_of_none z h.nr), upd_ne (ne_of_none z h.nd)]
    exact h.same _ _ z
  · rw [upd_ne hdr, upd_same]
  · rw [upd_same, List.map_append]
    rfl
  · rw [upd_ne h.fr, upd_ne (Ne.symm hdf)]
    exact c
/-- a node more -/
theorem BSt.node {H H1 : Hp} {d r f t : Addr} {row : List PS} {fn : List Krk0.Node} {x : Krk0.Node} {fs : List Addr} (h : BSt H H1 d r f row fn) (efs : H1 f = some (.lst (fs.map V.ref))) (hfs : NP2 H1 fs fn) (ht : H1 t = some (.tup [nV x.kind, nV x.a, nV x.b])) :
    BSt H (upd H1 f (.lst (fs.map V.ref ++ [V.ref t]))) d r f row (fn ++ [x]) := by
  have tups : ∀ c l, H1 c = some (.tup l) → upd H1 f (.lst (fs.map V.ref ++ [V.ref t])) c = some (.tup l) := fun c l z => by
    have h2 : c ≠ f := fun e => by rw [e, efs] at z; cases z
    rw [upd_ne h2]
    exact z
  obtain ⟨ts, c, e⟩ := h.er
  refine ⟨fun c o z => ?_, h.nd, h.nr, h.nf, h.fr, ?_, ⟨ts, ?_, e.same tups⟩, ⟨fs ++ [t], ?_, Paired.snoc (hfs.same tups) (tups _ _ ht)⟩⟩
  · rw [upd_ne (ne_of_none z h.nf)]
    exact h.same _ _ z
  · rw [upd_ne h.df]
    exact h.ed
  · rw [upd_ne (Ne.symm h.fr)]
    exact c
  · rw [upd_same, List.map_append]
    rfl
end Rt
namespace Rt
open PySem PySem.Spec PyProof.Rows L2
def top (i : Nat) : Stmt := PySem.Challenge.pw_roundtypesworks_s05_meet.main.body.getD i (.Pass ⟨0, 0, 0, 0⟩)
abbrev s_must : Stmt := top 11
abbrev s_is_node : Stmt := top 12
abbrev s_nodes_in : Stmt := top 13
abbrev s_must_be_there : Stmt := top 14
abbrev s_told : Stmt := top 15
abbrev s_leaf_of : Stmt := top 21
abbrev s_weak_of : Stmt := top 22
abbrev s_state_of : Stmt := top 23
abbrev s_kind_of : Stmt := top 24
abbrev s_inner_states : Stmt := top 25
abbrev s_nodes_of_both : Stmt := top 26
abbrev s_is_inner : Stmt := top 28
abbrev s_look_of : Stmt := top 29
abbrev s_grouped_by : Stmt := top 30
abbrev s_groups_of : Stmt := top 31
abbrev s_least_way : Stmt := top 32
abbrev s_renumbered : Stmt := top 33
abbrev s_asked_nodes : Stmt := top 36
abbrev s_both : Stmt := top 37
abbrev s_meet : Stmt := top 38
/-! ### must -/
section
variable {P : Program} {w : World} {K : PySem.W.Frag} {mg : Str → Option Value} {base : Heap} {C fI : Addr}
theorem sc_must : FnScope ["so", "number"] ["so", "number"] (defScope s_must) := ⟨rfl, rfl, rfl, by decide +kernel, rfl, by decide +kernel, by decide +kernel⟩
def sp_must (C : Addr) : Sp := fun vs H Q E => ∃ (b : Bool) (n : Int), vs = [.bl b, .int n] ∧ (b = true → Q .non H) ∧ (b = false → Er C n H E)
theorem ok_must {f : Addr} {fd : FuncData} (F : Fun K "must" "must" s_must f fd) (low : PySem.LowX.LowTxt K mg C fI) : FnOk P w K mg base (L2.CX P w) 3 f fd ["so", "number"] (sp_must C) := by
  refine F.okX sc_must (fun vs H Q E h => ?_) (fun cdv A outer s H vs Q E hr h => ?_)
  · obtain ⟨b, n, rfl, _⟩ := h
    rfl
  · obtain ⟨b, n, rfl, k1, k2⟩ := h
    refine ⟨_, pss_one (ps_if (pt_not (pt_val (pv 0))) (pss_one (ps_raiseLow rfl low hr (takes_of rfl rfl rfl rfl) (pa_cons (pv 1) pa_nil))) pss_nil), ?_⟩
    refine ⟨_, rfl, b, rfl, ?_⟩
    cases b with
    | true => exact iteF (k1 rfl)
    | false => exact iteT ⟨_, rfl, _, rfl, fun d hd => k2 rfl d _ (same_upd hd) upd_same⟩
end
/-! ### is_node -/
section
variable {P : Program} {w : World} {K : PySem.W.Frag} {mg : Str → Option Value} {base : Heap}
theorem sc_is_node : FnScope ["node", "many", "kind", "a", "b"] ["node", "many"] (defScope s_is_node) := ⟨rfl, rfl, rfl, by decide +kernel, rfl, by decide +kernel, by decide +kernel⟩
def sp_is_node : Sp := fun vs H Q _ => ∃ (t : Addr) (n : Nat) (x : Krk0.Node), vs = [.ref t, nV n] ∧ H t = some (.tup [nV x.kind, nV x.a, nV x.b]) ∧ ∀ H', Same H H' → Q (.bl (Krk0.nodeOk n x)) H'
/-- three kinds in a tuple -/
theorem inV3 (k : Nat) : inV (nV k) [.int 4, .int 5, .int 6] = decide (4 ≤ k ∧ k ≤ 6) := by
  have e : inV (nV k) [.int 4, .int 5, .int 6] = (((4 : Int) == (k : Int)) || (((5 : Int) == (k : Int)) || (((6 : Int) == (k : Int)) || false))) := rfl
  rw [e]
  by_cases h : 4 ≤ k ∧ k ≤ 6
  · rw [decide_eq_true h]
    have : k = 4 ∨ k = 5 ∨ k = 6 := by omega
    rcases this with r | r | r <;> subst r <;> rfl
  · rw [decide_eq_false h]
    have h1 : ((4 : Int) == (k : Int)) = false := beq_eq_false_iff_ne.mpr (by omega)
    have h2 : ((5 : Int) == (k : Int)) = false := beq_eq_false_iff_ne.mpr (by omega)
    have h3 : ((6 : Int) == (k : Int)) = false := beq_eq_false_iff_ne.mpr (by omega)
    rw [h1, h2, h3]
    rfl
theorem ok_is_node {f : Addr} {fd : FuncData} (F : Fun K "is_node" "is_node" s_is_node f fd) (g4 : Ki mg "PAIR" 4) (g5 : Ki mg "CHOICE" 5) (g6 : Ki mg "FUNCTION" 6) :
    FnOk P w K mg base CX0 1 f fd ["node", "many"] sp_is_node := by
  refine F.ok sc_is_node (fun vs H Q E h => ?_) (fun cdv A outer s H vs Q E hr h => ?_)
  · obtain ⟨t, n, x, rfl, _⟩ := h
    rfl
  · obtain ⟨t, n, x, rfl, ht, q⟩ := h
    refine ⟨_, pss_cons (ps_asg (pv 0) (pg_tup rfl (pgs_cons (pg_name (i := 2) sc_is_node.nd rfl (.inl rfl)) (pgs_cons (pg_name (i := 3) sc_is_node.nd rfl (.inl rfl)) (pgs_cons (pg_name (i := 4) sc_is_node.nd rfl (.inl rfl)) pgs_nil)))))
      (pss_cons (ps_if (pt_cmpR op_in_seq (pv 2) (pe_tup (pa_cons (pgi g4) (pa_cons (pgi g5) (pa_cons (pgi g6) pa_nil)))) rfl)
          (pss_one (ps_ret (pe_and (pe_cmpR op_lt (pv 3) (pv 1) (nomark _)) (pe_one (pe_cmpR op_lt (pv 4) (pv 1) (nomark _)))))) pss_nil)
        (pss_one (ps_ret (pe_and (pe_cmpR op_lt (pv 2) (pgi g4) (nomark _)) (pe_and (pe_cmpR op_eq (pv 3) pe_int (nomark _)) (pe_one (pe_cmpR op_eq (pv 4) pe_int (nomark _)))))))), ?_⟩
    refine ⟨_, rfl, t, [nV x.kind, nV x.a, nV x.b], rfl, .inl (.inl ht), rfl, _, _, rfl, _, _, rfl, _, _, rfl, rfl, ?_⟩
    refine ⟨_, rfl, (by show 3 ≤ sizeLine; decide), fun p hp => ?_⟩
    have s1 := same_upd (o := .tup [.int 4, .int 5, .int 6]) hp
    refine ⟨p, [.int 4, .int 5, .int 6], rfl, .inr (.inl (.inl upd_same)), rfl, rfl, _, rfl, ?_⟩
    show if (inV (nV x.kind) [.int 4, .int 5, .int 6]) = true then _ else _
    rw [inV3]
    by_cases hk : 4 ≤ x.kind ∧ x.kind ≤ 6
    · rw [if_pos (decide_eq_true hk)]
      refine ⟨_, rfl, _, rfl, _, _, rfl, rfl, _, rfl, ?_⟩
      have e : Krk0.nodeOk n x = (decide (x.a < n) && decide (x.b < n)) := by
        unfold Krk0.nodeOk
        rw [if_neg (by omega), decide_eq_true (show x.kind ≤ 6 from hk.2), Bool.true_and]
      rw [e] at q
      by_cases ha : x.a < n
      · rw [if_pos (decide_eq_true (show (x.a : Int) < (n : Int) by omega))]
        refine ⟨_, rfl, _, rfl, _, _, rfl, rfl, ?_⟩
        have e2 : decide ((x.b : Int) < (n : Int)) = (decide (x.a < n) && decide (x.b < n)) := by
          rw [decide_eq_true ha, Bool.true_and]
          exact decide_eq_decide.mpr (by omega)
        have q1 := q _ s1
        rw [← e2] at q1
        exact q1
      · rw [if_neg (by rw [decide_eq_true_eq]; omega)]
        have e2 : (decide (x.a < n) && decide (x.b < n)) = false := by rw [decide_eq_false ha, Bool.false_and]
        rw [e2] at q
        exact q _ s1
    · rw [if_neg (by rw [decide_eq_true_eq]; exact hk)]
      refine ⟨_, rfl, _, _, rfl, rfl, _, rfl, ?_⟩
      by_cases h4 : x.kind < 4
      · rw [if_pos (decide_eq_true (show (x.kind : Int) < 4 by omega))]
        have e : Krk0.nodeOk n x = (x.a == 0 && x.b == 0) := by
          unfold Krk0.nodeOk
          rw [if_pos (by omega)]
        rw [e] at q
        refine ⟨_, rfl, rfl, _, rfl, ?_⟩
        by_cases ha : x.a = 0
        · rw [if_pos (decide_eq_true (by rw [ha]; rfl))]
          refine ⟨_, rfl, rfl, ?_⟩
          have e2 : decide (nV x.b = V.int 0) = (x.a == 0 && x.b == 0) := by
            rw [ha]
            by_cases hb : x.b = 0
            · rw [hb]; rfl
            · rw [decide_eq_false (fun z => hb (by injection z with z; omega))]
              simp [hb]
          have q1 := q _ s1
          rw [← e2] at q1
          exact q1
        · rw [if_neg (by rw [decide_eq_true_eq]; exact fun z => ha (by injection z with z; omega))]
          have e2 : (x.a == 0 && x.b == 0) = false := by simp [ha]
          rw [e2] at q
          exact q _ s1
      · rw [if_neg (by rw [decide_eq_true_eq]; omega)]
        have e : Krk0.nodeOk n x = false := by
          unfold Krk0.nodeOk
          rw [if_neg (by omega), decide_eq_false (show ¬ x.kind ≤ 6 by omega), Bool.false_and]
        rw [e] at q
        exact q _ s1
end
/-! ### nodes_in -/
section
variable {P : Program} {w : World} {K : PySem.W.Frag} {mg : Str → Option Value} {base : Heap} {C : Addr}
theorem sc_nodes_in : FnScope ["row", "found", "at", "node"] ["row"] (defScope s_nodes_in) := ⟨rfl, rfl, rfl, by decide +kernel, rfl, by decide +kernel, by decide +kernel⟩
def sp_nodes_in (K : PySem.W.Frag) (C : Addr) : Sp := fun vs H Q E => ∃ (p : Addr) (l : List Nat) (g : Krk0.Graph), vs = [.ref p] ∧ SqL K H p (l.map nV) ∧ Krk0.graphOf l = some g ∧ l.length ≤ 1000 ∧
  (Krk0.graphOk g = true → ∀ H' q, Same H H' → NodesAt H' q g → Q (.ref q) H') ∧ (Krk0.graphOk g = false → Er C (-71) H E)
theorem all_map_id {α : Type} (g : List α) (f : α → Bool) : (g.map f).all id = g.all f := by
  rw [List.all_map]
  rfl
theorem bools_of {f : Krk0.Node → Bool} : ∀ (acc : List V) (g : List Krk0.Node), acc.length = g.length → (∀ (i : Nat) (y : V), acc[i]? = some y → ∃ x, g[i]? = some x ∧ y = V.bl (f x)) → acc = (g.map f).map V.bl
  | [], [], _, _ => rfl
  | [], _ :: _, h, _ => by simp at h
  | _ :: _, [], h, _ => by simp at h
  | y :: acc, x0 :: g, h, ha => by
    obtain ⟨x, f1, f2⟩ := ha 0 y rfl
    have ex : x0 = x := by simpa using f1
    subst ex
    rw [bools_of acc g (by simpa using h) (fun i y e => by simpa using ha (i + 1) y (by simpa using e)), f2]
    rfl
theorem rsz3 (n : Nat) : Builtin.Range.rangeSize 0 (((3 * n : Nat) : Int) - 2) 3 = n := by
  unfold Builtin.Range.rangeSize
  rw [if_pos (by decide)]
  split <;> omega
theorem rng3 (n : Nat) (h : n ≤ 1000) : RgC 0 (((3 * n : Nat) : Int) - 2) 3 n := by
  refine ⟨by decide, by decide, ?_, ?_⟩
  · unfold Builtin.Range.small
    have e : Builtin.Range.rangeSize 0 (((3 * n : Nat) : Int) - 2) 3 = n := rsz3 n
    rw [e]
    simp only [Builtin.Range.rangeFitsLong, Bool.and_eq_true, Bool.or_eq_true, decide_eq_true_eq, beq_iff_eq, show ((3 : Int) > 0) by decide, if_true]
    omega
  · exact rsz3 n
theorem ok_nodes_in {f : Addr} {fd : FuncData} (F : Fun K "nodes_in" "nodes_in" s_nodes_in f fd) (c1 : Cal (L2.CX P w) P w K mg base 3 "must" ["so", "number"] (sp_must C)) (c2 : Cal CX0 P w K mg base 1 "is_node" ["node", "many"] sp_is_node)
    (mr : mg "range" = none) (ml : mg "len" = none) (ma : mg "all" = none) (gM : Ki mg "MOST_NODES" 32) (gN : Ki mg "NO_NODES" (-71)) : FnOk P w K mg base (L2.CX P w) 4 f fd ["row"] (sp_nodes_in K C) := by
  refine F.okX sc_nodes_in (fun vs H Q E h => ?_) (fun cdv A outer s H vs Q E hr h => ?_)
  · obtain ⟨p, l, g, rfl, _⟩ := h
    rfl
  · obtain ⟨p, l, g, rfl, hS, hg, hlen, k1, k2⟩ := h
    refine ⟨_, pss_cons (ps_set (i := 1) sc_nodes_in.nd rfl (.inr rfl) (pe_lc (own := [("at", 2)]) (g := gName 2) (tt := tYes) rfl sc_nodes_in.nd
          (pi_range3 (by rfl) mr (pa_cons pe_int (pa_cons (pe_op op_sub (pe_callB (cr_len (K := K)) (by rfl) ml PySem.boot_len (pa_cons (pv 0) pa_nil)) pe_int) (pa_cons pe_int pa_nil))))
          (blkOk_by (own := [("at", 2)]) (N := ["row", "found", "at", "node"]) (sc := defScope s_nodes_in) (by decide +kernel)) (fun _ _ _ _ _ => pg_name (i := 2) sc_nodes_in.nd rfl (Or.inl rfl)) (fun _ _ _ _ _ => pts_nil)
          (fun _ _ _ _ _ => pe_tup (pa_cons (pe_ix (ixL (K := K)) (pv 0) (pv 2) (fun _ _ => rfl)) (pa_cons (pe_ix (ixL (K := K)) (pv 0) (pe_op op_add (pv 2) pe_int) (fun _ _ => rfl)) (pa_cons (pe_ix (ixL (K := K)) (pv 0) (pe_op op_add (pv 2) pe_int) (fun _ _ => rfl)) pa_nil))))))
      (pss_cons (ps_expr (pcX c1 hr (by decide) (takes_of rfl rfl rfl rfl) (pa_cons (pe_and (pe_cmpR op_le pe_int (pe_callB (cr_len (K := K)) (by rfl) ml PySem.boot_len (pa_cons (pv 1) pa_nil)) (nomark _))
          (pe_and (pe_cmpR op_le (pe_callB (cr_len (K := K)) (by rfl) ml PySem.boot_len (pa_cons (pv 1) pa_nil)) (pgi gM) (nomark _))
            (pe_one (pe_cmpR op_eq (pe_callB (cr_len (K := K)) (by rfl) ml PySem.boot_len (pa_cons (pv 0) pa_nil)) (pe_op op_mul pe_int (pe_callB (cr_len (K := K)) (by rfl) ml PySem.boot_len (pa_cons (pv 1) pa_nil))) (nomark _))))) (pa_cons (pgi gN) pa_nil))))
      (pss_cons (ps_expr (pcX c1 hr (by decide) (takes_of rfl rfl rfl rfl) (pa_cons (pe_callB (cr_all rfl) (by rfl) ma (by decide +kernel) (pa_cons (pe_lc (own := [("node", 3)]) (g := gName 3) (tt := tYes) rfl sc_nodes_in.nd (pi_list (pv 1))
          (blkOk_by (own := [("node", 3)]) (N := ["row", "found", "at", "node"]) (sc := defScope s_nodes_in) (by decide +kernel)) (fun _ _ _ _ _ => pg_name (i := 3) sc_nodes_in.nd rfl (Or.inl rfl)) (fun _ _ _ _ _ => pts_nil)
          (fun _ _ _ _ _ => pc0 c2 hr (by decide) (pa_cons (pv 3) (pa_cons (pe_callB (cr_len (K := K)) (by rfl) ml PySem.boot_len (pa_cons (pv 1) pa_nil)) pa_nil)))) pa_nil)) (pa_cons (pgi gN) pa_nil))))
      (pss_one (ps_ret (pv 1))))), ?_⟩
    have hl3 := Rt.graphOf_len hg
    have hgl : g.length ≤ 1000 := by omega
    -- the rows of three
    refine ⟨_, rfl, p, _, rfl, .inl hS, _, _, rfl, rfl, 0, _, 3, g.length, rfl, ?_, fun D hD => lc_all walk_rangeC (fun i y H' => ∃ (t : Addr) (x : Krk0.Node), g[i]? = some x ∧ y = V.ref t ∧ H' t = some (.tup [nV x.kind, nV x.a, nV x.b])) hD (by omega) (fun _ _ => trivial) ?_ ?_ ?_⟩
    · rw [List.length_map, hl3]
      exact rng3 g.length hgl
    · rintro i y H1 H2 ⟨t, x, e1, rfl, e2⟩ kp
      exact ⟨t, x, e1, rfl, kp _ _ (fun _ z => nomatch z) e2⟩
    · rintro i x H1 H2 hi s1 ⟨rfl, rfl⟩ Q2 Z hq
      obtain ⟨e1, e2, e3⟩ := Rt.graphOf_get hg (List.getElem?_eq_getElem hi)
      have hS1 := s1.seq hS
      refine lc_in rfl ?_
      refine ⟨_, rfl, _, rfl, p, _, _, _, rfl, rfl, hS1, at_of (j := 3 * i) (by omega) (map_get e1), ?_⟩
      refine ⟨_, rfl, _, rfl, _, _, rfl, rfl, p, _, _, _, rfl, rfl, hS1, at_of (j := 3 * i + 1) (by omega) (map_get e2), ?_⟩
      refine ⟨_, rfl, _, rfl, _, _, rfl, rfl, p, _, _, _, rfl, rfl, hS1, at_of (j := 3 * i + 2) (by omega) (map_get e3), ?_⟩
      exact ⟨(by show 3 ≤ sizeLine; decide), fun t ht => hq _ _ (same_upd ht) ⟨t, _, List.getElem?_eq_getElem hi, rfl, upd_same⟩⟩
    · intro H1 acc s1 eD hacc hr1
      have N1 : NodesAt H1 D g := .of eD hacc hr1
      have hS1 := s1.seq hS
      have hX : SqL K H1 D acc := .inl (.inl eD)
      have hxl := hacc
      have hok : Krk0.graphOk g = (decide (1 ≤ g.length) && (decide (g.length ≤ 32) && g.all (Krk0.nodeOk g.length))) := rfl
      -- must(1 <= len(found) and ..)
      refine ⟨_, rfl, D, _, rfl, .inl hX, _, _, rfl, rfl, _, rfl, ?_⟩
      rw [hxl]
      by_cases h1 : 1 ≤ g.length
      case neg =>
        rw [if_neg (by rw [decide_eq_true_eq]; omega)]
        exact ⟨false, _, rfl, (fun z => nomatch z), fun _ => (k2 (by rw [hok, decide_eq_false h1, Bool.false_and])).mono s1⟩
      rw [if_pos (by rw [decide_eq_true_eq]; omega)]
      refine ⟨_, rfl, D, _, rfl, .inl hX, _, _, rfl, rfl, _, rfl, ?_⟩
      rw [hxl]
      by_cases h2 : g.length ≤ 32
      case neg =>
        rw [if_neg (by rw [decide_eq_true_eq]; omega)]
        exact ⟨false, _, rfl, (fun z => nomatch z), fun _ => (k2 (by rw [hok, decide_eq_false h2, Bool.false_and, Bool.and_false])).mono s1⟩
      rw [if_pos (by rw [decide_eq_true_eq]; omega)]
      refine ⟨_, rfl, p, _, rfl, .inl hS1, _, rfl, D, _, rfl, .inl hX, _, _, rfl, rfl, .inl ⟨by decide, by decide⟩, rfl, ?_⟩
      refine ⟨_, _, rfl, fun _ => ?_, fun z => ?_⟩
      case refine_2 =>
        exfalso
        have z' : decide (V.int (((l.map nV).length : Nat) : Int) = V.int (3 * (acc.length : Int))) = false := z
        rw [decide_eq_false_iff_not, List.length_map, hxl, hl3] at z'
        exact z' (congrArg V.int (by omega))
      -- must(all([..]), ..)
      refine ⟨_, rfl, D, rfl, ⟨_, hX⟩, fun D2 hD2 => lc_all walk_list (fun i y _ => ∃ x, g[i]? = some x ∧ y = V.bl (Krk0.nodeOk g.length x)) hD2 (by omega) (fun H2 s2 => s2.seq hX) (fun _ _ _ _ h _ => h) ?_ ?_⟩
      · rintro i x H2 H3 hi s2 ⟨rfl, hx⟩ Q2 Z hq
        have N2 := N1.same s2
        obtain ⟨xs2, hX2, hxl2⟩ := N2.sq (K := K)
        obtain ⟨t, nd, f1, f2, f3⟩ := N1.item eD hx
        refine lc_in rfl ?_
        refine ⟨_, rfl, _, rfl, D, _, rfl, .inl hX2, ?_⟩
        rw [hxl2]
        exact ⟨t, g.length, nd, by rw [f2]; rfl, s2 _ _ f3, fun H4 s4 => hq _ _ s4 ⟨nd, f1, rfl⟩⟩
      · intro H2 acc2 s2 eD2 hacc2 hr2
        have s12 := s1.trans s2
        refine ⟨D2, _, rfl, .inl (.inl (by rw [eD2, bools_of acc2 g (hacc2.trans hacc) hr2])), ?_⟩
        refine ⟨_, _, rfl, fun hall => ?_, fun hall => ?_⟩
        · refine ⟨_, rfl, k1 ?_ H2 D s12 (N1.same s2)⟩
          rw [hok, decide_eq_true h1, decide_eq_true h2, Bool.true_and, Bool.true_and, ← all_map_id]
          exact hall
        · refine (k2 ?_).mono s12
          rw [hok, decide_eq_true h1, decide_eq_true h2, Bool.true_and, Bool.true_and, ← all_map_id]
          exact hall
end
/-! ### must_be_there -/
section
variable {P : Program} {w : World} {K : PySem.W.Frag} {mg : Str → Option Value} {base : Heap} {C : Addr}
theorem sc_must_be_there : FnScope ["nodes", "numbers", "number"] ["nodes", "numbers"] (defScope s_must_be_there) := ⟨rfl, rfl, rfl, by decide +kernel, rfl, by decide +kernel, by decide +kernel⟩
def there (n : Nat) (ids : List Nat) : Bool := ids.all fun i => decide (i < n)
theorem there1 {n a : Nat} : there n [a] = decide (a < n) := by
  show (decide (a < n) && true) = _
  rw [Bool.and_true]
theorem there2 {n a b : Nat} : there n [a, b] = (decide (a < n) && decide (b < n)) := by
  show (decide (a < n) && (decide (b < n) && true)) = _
  rw [Bool.and_true]
def sp_must_be_there (K : PySem.W.Frag) (C : Addr) : Sp := fun vs H Q E => ∃ (q r : Addr) (g : Krk0.Graph) (ids : List Nat), vs = [.ref q, .ref r] ∧ NodesAt H q g ∧ g.length ≤ 1000 ∧ SqL K H r (ids.map nV) ∧ ids.length ≤ 1000 ∧
  (there g.length ids = true → ∀ H', Same H H' → Q .non H') ∧ (there g.length ids = false → Er C (-2) H E)
theorem bools_ids {f : Nat → Bool} : ∀ (acc : List V) (g : List Nat), acc.length = g.length → (∀ (i : Nat) (y : V), acc[i]? = some y → ∃ x, g[i]? = some x ∧ y = V.bl (f x)) → acc = (g.map f).map V.bl
  | [], [], _, _ => rfl
  | [], _ :: _, h, _ => by simp at h
  | _ :: _, [], h, _ => by simp at h
  | y :: acc, x0 :: g, h, ha => by
    obtain ⟨x, f1, f2⟩ := ha 0 y rfl
    have ex : x0 = x := by simpa using f1
    subst ex
    rw [bools_ids acc g (by simpa using h) (fun i y e => by simpa using ha (i + 1) y (by simpa using e)), f2]
    rfl
theorem ok_must_be_there {f : Addr} {fd : FuncData} (F : Fun K "must_be_there" "must_be_there" s_must_be_there f fd) (c1 : Cal (L2.CX P w) P w K mg base 3 "must" ["so", "number"] (sp_must C))
    (ml : mg "len" = none) (ma : mg "all" = none) (gN : Ki mg "NO_NODE" (-2)) : FnOk P w K mg base (L2.CX P w) 4 f fd ["nodes", "numbers"] (sp_must_be_there K C) := by
  refine F.okX sc_must_be_there (fun vs H Q E h => ?_) (fun cdv A outer s H vs Q E hr h => ?_)
  · obtain ⟨q, r, g, ids, rfl, _⟩ := h
    rfl
  · obtain ⟨q, r, g, ids, rfl, hN, hgl, hS, hil, k1, k2⟩ := h
    refine ⟨_, pss_one (ps_expr (pcX c1 hr (by decide) (takes_of rfl rfl rfl rfl) (pa_cons (pe_callB (cr_all rfl) (by rfl) ma (by decide +kernel) (pa_cons (pe_lc (own := [("number", 2)]) (g := gName 2) (tt := tYes) rfl sc_must_be_there.nd (pi_list (pv 1))
          (blkOk_by (own := [("number", 2)]) (N := ["nodes", "numbers", "number"]) (sc := defScope s_must_be_there) (by decide +kernel)) (fun _ _ _ _ _ => pg_name (i := 2) sc_must_be_there.nd rfl (Or.inl rfl)) (fun _ _ _ _ _ => pts_nil)
          (fun _ _ _ _ _ => pe_cmpR op_lt (pv 2) (pe_callB (cr_len (K := K)) (by rfl) ml PySem.boot_len (pa_cons (pv 0) pa_nil)) (nomark _))) pa_nil)) (pa_cons (pgi gN) pa_nil)))), ?_⟩
    refine ⟨_, rfl, r, rfl, ⟨_, hS⟩, fun D hD => lc_all walk_list (fun i y _ => ∃ x, ids[i]? = some x ∧ y = V.bl (decide (x < g.length))) hD (by rw [List.length_map]; omega) (fun H2 s2 => s2.seq hS) (fun _ _ _ _ h _ => h) ?_ ?_⟩
    · rintro i y H2 H3 hi s2 ⟨rfl, hx⟩ Q2 Z hq
      obtain ⟨x, e1, rfl⟩ := map_get_inv hx
      obtain ⟨xs2, hX2, hxl2⟩ := (hN.same s2).sq (K := K)
      refine lc_in rfl ?_
      refine ⟨_, rfl, _, rfl, q, _, rfl, .inl hX2, _, _, rfl, rfl, ?_⟩
      refine hq _ _ (Same.refl _) ⟨x, e1, ?_⟩
      show V.bl (decide ((x : Int) < (xs2.length : Int))) = _
      rw [hxl2]
      exact congrArg V.bl (decide_eq_decide.mpr (by omega))
    · intro H2 acc2 s2 eD2 hacc2 hr2
      rw [List.length_map] at hacc2
      refine ⟨D, _, rfl, .inl (.inl (by rw [eD2, bools_ids acc2 ids hacc2 hr2])), ?_⟩
      have e : ∀ b : Bool, ((ids.map fun x => decide (x < g.length)).all id) = b → there g.length ids = b := fun b h => by
        rw [← h, List.all_map]
        rfl
      exact ⟨_, _, rfl, fun hall => k1 (e _ hall) H2 s2, fun hall => (k2 (e _ hall)).mono s2⟩
end
/-! ### told -/
section
variable {P : Program} {w : World} {K : PySem.W.Frag} {mg : Str → Option Value} {base : Heap}
theorem sc_told : FnScope ["nodes", "found", "node"] ["nodes"] (defScope s_told) := ⟨rfl, rfl, rfl, by decide +kernel, rfl, by decide +kernel, by decide +kernel⟩
abbrev nT (x : Krk0.Node) : List V := [nV x.kind, nV x.a, nV x.b]
def sp_told : Sp := fun vs H Q _ => ∃ (q : Addr) (g : Krk0.Graph), vs = [.ref q] ∧ NodesAt H q g ∧ g.length ≤ 1000 ∧ ∀ H' r, H' r = some (.lst ((Krk0Neutral.told (Krk0.tells g)).map V.int)) → Q (.ref r) H'
theorem told_V (g : Krk0.Graph) : (Krk0Neutral.told (Krk0.tells g)).map V.int = nV g.length :: (g.map nT).flatten := by
  have h : ∀ g : List Krk0.Node, (Krk0Neutral.nums (Krk0.numbers g)).map V.int = (g.map nT).flatten := by
    intro g
    induction g with
    | nil => rfl
    | cons p g ih =>
      rw [List.map_cons, List.flatten_cons, ← ih]
      rfl
  rw [← h g]
  rfl
theorem flat_len (g : List Krk0.Node) : ((g.map nT).flatten).length = 3 * g.length := by
  induction g with
  | nil => rfl
  | cons z g ih =>
    rw [List.map_cons, List.flatten_cons, List.length_append, ih]
    show 3 + 3 * g.length = 3 * (g.length + 1)
    omega
theorem ok_told {f : Addr} {fd : FuncData} (F : Fun K "told" "told" s_told f fd) (ml : mg "len" = none) : FnOk P w K mg base CX0 1 f fd ["nodes"] sp_told := by
  refine F.ok sc_told (fun vs H Q E h => ?_) (fun cdv A outer s H vs Q E hr h => ?_)
  · obtain ⟨q, g, rfl, _⟩ := h
    rfl
  · obtain ⟨q, g, rfl, hN, hl, k⟩ := h
    refine ⟨_, pss_cons (ps_set (i := 1) sc_told.nd rfl (.inl rfl) (pe_lst (pa_cons (pe_callB (cr_len (K := K)) (by rfl) ml PySem.boot_len (pa_cons (pv 0) pa_nil)) pa_nil)))
      (pss_cons (ps_for PassesOwn.never rfl (pi_list (pv 0)) (pg_name (i := 2) sc_told.nd rfl (.inl rfl))
        (pss_one (ps_expr (pe_bm PySem.F.plainAttrs_list PySem.F.slot_list_extend PySem.F.type_list_extend mt_extT (pv 1) (pa_cons (pv 2) pa_nil)))))
      (pss_one (ps_ret (pv 1)))), ?_⟩
    obtain ⟨ts, eq, htl, hts⟩ := hN.ex
    refine ⟨_, rfl, q, _, rfl, .inl (.inl (.inl eq)), (by show 1 ≤ sizeLine; decide), fun rf hrf => ?_⟩
    have s8 := same_upd (o := .lst [.int ((ts.map V.ref).length : Nat)]) hrf
    have nrf : q ≠ rf := ne_of_none eq hrf
    refine ⟨_, rfl, q, rfl, ⟨_, .inl (.inl (s8 _ _ eq))⟩, for_list (K := K) (a := q) (xs := ts.map V.ref) (fun i σ H' => ∃ y : Option V, σ = [some (.ref q), some (.ref rf), y] ∧
        (∀ c o, c ≠ rf → H c = some o → H' c = some o) ∧ H' rf = some (.lst (nV g.length :: ((g.take i).map nT).flatten)))
      ⟨none, rfl, fun c o h1 h2 => s8 _ _ h2, by rw [upd_same, List.length_map, htl]; rfl⟩ (fun i σ H' _ h => let ⟨_, _, h2, _⟩ := h; .inl (.inl (h2 _ _ nrf eq))) ?_ ?_⟩
    · rintro i y σ H8 hi ⟨y7, rfl, kp, erf⟩
      obtain ⟨t3, x, hx, rfl, ex⟩ := hN.item eq hi
      have nt3 : t3 ≠ rf := ne_of_none ex hrf
      refine ⟨_, rfl, .inl ⟨rfl, _, .inl (.inl erf)⟩, _, rfl, rf, t3, _, _, rfl, rfl, erf, .inl (.inl (kp _ _ nt3 ex)), ?_, ?_⟩
      · refine sl1000 ?_
        rw [List.length_cons, flat_len, List.length_take]
        show _ + 3 ≤ _
        omega
      · refine ⟨_, rfl, fun c o h1 h2 => by rw [upd_ne h1]; exact kp c o h1 h2, ?_⟩
        rw [upd_same, List.take_add_one, hx, List.map_append, List.flatten_append]
        show some (HO.lst (V.int _ :: (_ ++ nT x))) = some (HO.lst (V.int _ :: (_ ++ (nT x ++ []))))
        rw [List.append_nil]
    · rintro σ H8 ⟨y7, rfl, kp, erf⟩
      refine ⟨_, rfl, k H8 rf ?_⟩
      rw [erf, told_V, List.length_map, htl, List.take_length]
end
/-! ### leaf_of -/
section
variable {P : Program} {w : World} {K : PySem.W.Frag} {mg : Str → Option Value} {base : Heap}
theorem sc_leaf_of : FnScope ["word"] ["word"] (defScope s_leaf_of) := ⟨rfl, rfl, rfl, by decide +kernel, rfl, by decide +kernel, by decide +kernel⟩
def sp_leaf_of : Sp := fun vs H Q _ => ∃ v : Nat, vs = [nV v] ∧ ∀ H' t, Same H H' → H' t = some (.tup (sT (leafS v))) → Q (.ref t) H'
theorem ok_leaf_of {f : Addr} {fd : FuncData} (F : Fun K "leaf_of" "leaf_of" s_leaf_of f fd) (gJ : Ki mg "JOIN" 0) (gL : Ki mg "LEAF" 3) (g1 : Ki mg "ANYTHING" 1) (g0 : Ki mg "NOTHING" 0) : FnOk P w K mg base CX0 1 f fd ["word"] sp_leaf_of := by
  refine F.ok sc_leaf_of (fun vs H Q E h => ?_) (fun cdv A outer s H vs Q E hr h => ?_)
  · obtain ⟨v, rfl, _⟩ := h
    rfl
  · obtain ⟨v, rfl, k⟩ := h
    refine ⟨_, pss_cons (ps_if (pt_cmpR op_eq (pv 0) (pgi gJ) (nomark _)) (pss_one (ps_ret (pe_tup (pa_cons (pgi gL) (pa_cons (pgi g1) (pa_cons pe_int pa_nil)))))) pss_nil)
      (pss_one (ps_ret (pe_tup (pa_cons (pgi gL) (pa_cons (pgi g0) (pa_cons pe_int pa_nil)))))), ?_⟩
    refine ⟨_, rfl, rfl, _, rfl, ?_⟩
    by_cases h0 : v = 0
    · refine if_true_of (by rw [show V.int 0 = nV 0 from rfl, nV_eq]; exact decide_eq_true h0) ?_
      refine ⟨(by show 3 ≤ sizeLine; decide), fun p hp => k _ p (same_upd hp) ?_⟩
      rw [upd_same]
      unfold leafS
      rw [if_pos h0]
      rfl
    · refine if_false_of (by rw [show V.int 0 = nV 0 from rfl, nV_eq]; exact decide_eq_false h0) ?_
      refine ⟨(by show 3 ≤ sizeLine; decide), fun p hp => k _ p (same_upd hp) ?_⟩
      rw [upd_same]
      unfold leafS
      rw [if_neg h0]
      rfl
end
/-! ### weak_of -/
section
variable {P : Program} {w : World} {K : PySem.W.Frag} {mg : Str → Option Value} {base : Heap}
theorem sc_weak_of : FnScope ["word"] ["word"] (defScope s_weak_of) := ⟨rfl, rfl, rfl, by decide +kernel, rfl, by decide +kernel, by decide +kernel⟩
def sp_weak_of : Sp := fun vs H Q _ => ∃ v : Nat, vs = [nV v] ∧ Q (nV (weakW v)) H
theorem ok_weak_of {f : Addr} {fd : FuncData} (F : Fun K "weak_of" "weak_of" s_weak_of f fd) (gJ : Ki mg "JOIN" 0) (g1 : Ki mg "ANYTHING" 1) (g0 : Ki mg "NOTHING" 0) : FnOk P w K mg base CX0 1 f fd ["word"] sp_weak_of := by
  refine F.ok sc_weak_of (fun vs H Q E h => ?_) (fun cdv A outer s H vs Q E hr h => ?_)
  · obtain ⟨v, rfl, _⟩ := h
    rfl
  · obtain ⟨v, rfl, k⟩ := h
    refine ⟨_, pss_cons (ps_if (pt_cmpR op_eq (pv 0) (pgi gJ) (nomark _)) (pss_one (ps_ret (pgi g0))) pss_nil) (pss_one (ps_ret (pgi g1))), ?_⟩
    unfold weakW at k
    refine ⟨_, rfl, rfl, _, rfl, ?_⟩
    by_cases h0 : v = 0
    · refine if_true_of (by rw [show V.int 0 = nV 0 from rfl, nV_eq]; exact decide_eq_true h0) ?_
      rw [if_pos h0] at k
      exact k
    · refine if_false_of (by rw [show V.int 0 = nV 0 from rfl, nV_eq]; exact decide_eq_false h0) ?_
      rw [if_neg h0] at k
      exact k
end
/-! ### state_of -/
section
variable {P : Program} {w : World} {K : PySem.W.Frag} {mg : Str → Option Value} {base : Heap}
theorem sc_state_of : FnScope ["nodes", "word", "x", "y", "one", "other"] ["nodes", "word", "x", "y"] (defScope s_state_of) := ⟨rfl, rfl, rfl, by decide +kernel, rfl, by decide +kernel, by decide +kernel⟩
def sp_state_of : Sp := fun vs H Q _ => ∃ (q : Addr) (g : Krk0.Graph) (v x y : Nat), vs = [.ref q, nV v, nV x, nV y] ∧ NodesAt H q g ∧ GOk g ∧ x < g.length ∧ y < g.length ∧ ∀ H' t, Same H H' → H' t = some (.tup (sT (stateS g v x y))) → Q (.ref t) H'
theorem kind_6n {g : Krk0.Graph} (hok : GOk g) {x : Nat} (hx : x < g.length) : (Krk0.at_ g x).kind ≤ 6 := by
  by_cases hk : 3 < (Krk0.at_ g x).kind
  · exact (hok.inner hx hk).1
  · omega
theorem ok_state_of {f : Addr} {fd : FuncData} (F : Fun K "state_of" "state_of" s_state_of f fd) (c1 : Cal CX0 P w K mg base 1 "weak_of" ["word"] sp_weak_of) (c2 : Cal CX0 P w K mg base 1 "leaf_of" ["word"] sp_leaf_of) (gA : Ki mg "ALONE" 2)
    (g4 : Ki mg "PAIR" 4) (g5 : Ki mg "CHOICE" 5) (g6 : Ki mg "FUNCTION" 6) : FnOk P w K mg base CX0 2 f fd ["nodes", "word", "x", "y"] sp_state_of := by
  refine F.ok sc_state_of (fun vs H Q E h => ?_) (fun cdv A outer s H vs Q E hr h => ?_)
  · obtain ⟨q, g, v, x, y, rfl, _⟩ := h
    rfl
  · obtain ⟨q, g, v, x, y, rfl, hN, hok, hx, hy, k⟩ := h
    refine ⟨_, pss_cons (ps_set (i := 4) sc_state_of.nd rfl (.inl rfl) (pe_ix ix_tup (pe_ix ix_list (pv 0) (pv 2) (fun _ _ => rfl)) pe_int (fun _ _ => rfl)))
      (pss_cons (ps_set (i := 5) sc_state_of.nd rfl (.inl rfl) (pe_ix ix_tup (pe_ix ix_list (pv 0) (pv 3) (fun _ _ => rfl)) pe_int (fun _ _ => rfl)))
      (pss_cons (ps_if (pt_cmpR op_eq (pv 4) (pc0 c1 hr (by decide) (pa_cons (pv 1) pa_nil)) (nomark _)) (pss_one (ps_ret (pe_tup (pa_cons (pgi gA) (pa_cons (pv 3) (pa_cons pe_int pa_nil)))))) pss_nil)
      (pss_cons (ps_if (pt_cmpR op_eq (pv 5) (pc0 c1 hr (by decide) (pa_cons (pv 1) pa_nil)) (nomark _)) (pss_one (ps_ret (pe_tup (pa_cons (pgi gA) (pa_cons (pv 2) (pa_cons pe_int pa_nil)))))) pss_nil)
      (pss_cons (ps_if (pt_cmpR op_ne (pv 4) (pv 5) (nomark _)) (pss_one (ps_ret (pc0 c2 hr (by decide) (pa_cons (pv 1) pa_nil)))) pss_nil)
      (pss_cons (ps_if (pt_cmpR op_in_seq (pv 4) (pe_tup (pa_cons (pgi g4) (pa_cons (pgi g5) (pa_cons (pgi g6) pa_nil)))) rfl) (pss_one (ps_ret (pe_tup (pa_cons (pv 1) (pa_cons (pv 2) (pa_cons (pv 3) pa_nil)))))) pss_nil)
      (pss_one (ps_ret (pe_tup (pa_cons (pgi gA) (pa_cons (pv 2) (pa_cons pe_int pa_nil))))))))))), ?_⟩
    obtain ⟨xs, tx, hX, hxl, hatx, htx⟩ := hN.get (K := K) (Rt.get_at hx)
    obtain ⟨ys, ty, hY, hyl, haty, hty⟩ := hN.get (K := K) (Rt.get_at hy)
    unfold stateS at k
    refine ⟨_, rfl, _, rfl, q, _, _, _, rfl, rfl, hX, hatx, tx, _, _, _, rfl, rfl, .inl (.inl htx), rfl, ?_⟩
    refine ⟨_, rfl, _, rfl, q, _, _, _, rfl, rfl, hY, haty, ty, _, _, _, rfl, rfl, .inl (.inl hty), rfl, ?_⟩
    refine ⟨_, rfl, _, rfl, v, rfl, rfl, _, rfl, ?_⟩
    by_cases h1 : (Krk0.at_ g x).kind = weakW v
    · refine if_true_of (by rw [nV_eq]; exact decide_eq_true h1) ?_
      rw [if_pos h1] at k
      exact ⟨_, rfl, (by show 3 ≤ sizeLine; decide), fun p hp => k _ p (same_upd hp) (by rw [upd_same] <;> rfl)⟩
    refine if_false_of (by rw [nV_eq]; exact decide_eq_false h1) ?_
    rw [if_neg h1] at k
    refine ⟨_, rfl, _, rfl, v, rfl, rfl, _, rfl, ?_⟩
    by_cases h2 : (Krk0.at_ g y).kind = weakW v
    · refine if_true_of (by rw [nV_eq]; exact decide_eq_true h2) ?_
      rw [if_pos h2] at k
      exact ⟨_, rfl, (by show 3 ≤ sizeLine; decide), fun p hp => k _ p (same_upd hp) (by rw [upd_same] <;> rfl)⟩
    refine if_false_of (by rw [nV_eq]; exact decide_eq_false h2) ?_
    rw [if_neg h2] at k
    refine ⟨_, rfl, _, rfl, rfl, _, rfl, ?_⟩
    by_cases h3 : (Krk0.at_ g x).kind = (Krk0.at_ g y).kind
    case neg =>
      refine if_true_of (by rw [nV_eq, decide_eq_false h3]; rfl) ?_
      rw [if_pos h3] at k
      exact ⟨_, rfl, v, rfl, k⟩
    refine if_false_of (by rw [nV_eq, decide_eq_true h3]; rfl) ?_
    rw [if_neg (fun z => z h3)] at k
    have h6 := kind_6n hok hx
    refine ⟨_, rfl, (by show 3 ≤ sizeLine; decide), fun p hp => ?_⟩
    have s1 := same_upd (o := .tup [.int 4, .int 5, .int 6]) hp
    refine ⟨p, [.int 4, .int 5, .int 6], rfl, .inr (.inl (.inl upd_same)), rfl, rfl, _, rfl, ?_⟩
    by_cases h4 : 3 < (Krk0.at_ g x).kind
    · refine if_true_of (by show inV (nV (Krk0.at_ g x).kind) [.int 4, .int 5, .int 6] = true; rw [inV3]; exact decide_eq_true (by omega)) ?_
      rw [if_pos h4] at k
      exact ⟨_, rfl, _, rfl, _, rfl, (by show 3 ≤ sizeLine; decide), fun p2 hp2 => k _ p2 (s1.trans (same_upd hp2)) (by rw [upd_same] <;> rfl)⟩
    · refine if_false_of (by show inV (nV (Krk0.at_ g x).kind) [.int 4, .int 5, .int 6] = false; rw [inV3]; exact decide_eq_false (by omega)) ?_
      rw [if_neg h4] at k
      exact ⟨_, rfl, (by show 3 ≤ sizeLine; decide), fun p2 hp2 => k _ p2 (s1.trans (same_upd hp2)) (by rw [upd_same] <;> rfl)⟩
end
/-! ### kind_of -/
section
variable {P : Program} {w : World} {K : PySem.W.Frag} {mg : Str → Option Value} {base : Heap}
theorem sc_kind_of : FnScope ["nodes", "state"] ["nodes", "state"] (defScope s_kind_of) := ⟨rfl, rfl, rfl, by decide +kernel, rfl, by decide +kernel, by decide +kernel⟩
def sp_kind_of : Sp := fun vs H Q _ => ∃ (q t : Addr) (g : Krk0.Graph) (p : PS), vs = [.ref q, .ref t] ∧ NodesAt H q g ∧ WfS g p ∧ H t = some (.tup (sT p)) ∧ Q (nV (kindS g p)) H
theorem wf_there {g : Krk0.Graph} {p : PS} (h : WfS g p) (hk : ¬ p.1 = 3) : p.2.1 < g.length := by
  rcases h.cs with ⟨a, b, c⟩ | ⟨a, b, c⟩ | ⟨a, b, c, _⟩
  · exact absurd a hk
  · exact b
  · exact b
theorem ok_kind_of {f : Addr} {fd : FuncData} (F : Fun K "kind_of" "kind_of" s_kind_of f fd) (gL : Ki mg "LEAF" 3) : FnOk P w K mg base CX0 1 f fd ["nodes", "state"] sp_kind_of := by
  refine F.ok sc_kind_of (fun vs H Q E h => ?_) (fun cdv A outer s H vs Q E hr h => ?_)
  · obtain ⟨q, t, g, p, rfl, _⟩ := h
    rfl
  · obtain ⟨q, t, g, p, rfl, hN, hw, ht, k⟩ := h
    refine ⟨_, pss_cons (ps_if (pt_cmpR op_eq (pe_ix ix_tup (pv 1) pe_int (fun _ _ => rfl)) (pgi gL) (nomark _)) (pss_one (ps_ret (pe_ix ix_tup (pv 1) pe_int (fun _ _ => rfl)))) pss_nil)
      (pss_one (ps_ret (pe_ix ix_tup (pe_ix ix_list (pv 0) (pe_ix ix_tup (pv 1) pe_int (fun _ _ => rfl)) (fun _ _ => rfl)) pe_int (fun _ _ => rfl)))), ?_⟩
    have st : SqT K H t (sT p) := .inl (.inl ht)
    unfold kindS at k
    refine ⟨_, rfl, t, _, _, _, rfl, rfl, st, rfl, rfl, _, rfl, ?_⟩
    by_cases h3 : p.1 = 3
    · refine if_true_of (by show decide (nV p.1 = nV 3) = true; rw [nV_eq]; exact decide_eq_true h3) ?_
      rw [if_pos h3] at k
      exact ⟨_, rfl, t, _, _, _, rfl, rfl, st, rfl, k⟩
    · refine if_false_of (by show decide (nV p.1 = nV 3) = false; rw [nV_eq]; exact decide_eq_false h3) ?_
      rw [if_neg h3] at k
      obtain ⟨xs, tx, hX, hxl, hatx, htx⟩ := hN.get (K := K) (Rt.get_at (wf_there hw h3))
      exact ⟨_, rfl, _, rfl, t, _, _, _, rfl, rfl, st, rfl, q, _, _, _, rfl, rfl, hX, hatx, tx, _, _, _, rfl, rfl, .inl (.inl htx), rfl, k⟩
end
/-! ### inner_states -/
section
variable {P : Program} {w : World} {K : PySem.W.Frag} {mg : Str → Option Value} {base : Heap}
theorem sc_inner_states : FnScope ["nodes", "state", "word", "x", "y", "one", "other", "first"] ["nodes", "state"] (defScope s_inner_states) := ⟨rfl, rfl, rfl, by decide +kernel, rfl, by decide +kernel, by decide +kernel⟩
def sp_inner_states : Sp := fun vs H Q _ => ∃ (q t : Addr) (g : Krk0.Graph) (p : PS), vs = [.ref q, .ref t] ∧ NodesAt H q g ∧ GOk g ∧ WfS g p ∧ H t = some (.tup (sT p)) ∧ ∀ H' r ts, Same H H' → H r = none → H' r = some (.lst (ts.map V.ref)) → SP2 H' ts (innerS g p) → Q (.ref r) H'
theorem ok_inner_states {f : Addr} {fd : FuncData} (F : Fun K "inner_states" "inner_states" s_inner_states f fd) (c1 : Cal CX0 P w K mg base 1 "kind_of" ["nodes", "state"] sp_kind_of) (c2 : Cal CX0 P w K mg base 2 "state_of" ["nodes", "word", "x", "y"] sp_state_of) (gA : Ki mg "ALONE" 2)
    (g4 : Ki mg "PAIR" 4) (g5 : Ki mg "CHOICE" 5) (g6 : Ki mg "FUNCTION" 6) : FnOk P w K mg base CX0 3 f fd ["nodes", "state"] sp_inner_states := by
  refine F.ok sc_inner_states (fun vs H Q E h => ?_) (fun cdv A outer s H vs Q E hr h => ?_)
  · obtain ⟨q, t, g, p, rfl, _⟩ := h
    rfl
  · obtain ⟨q, t, g, p, rfl, hN, hok, hw, ht, k⟩ := h
    refine ⟨_, pss_cons (ps_asg (pv 1) (pg_tup rfl (pgs_cons (pg_name (i := 2) sc_inner_states.nd rfl (.inl rfl)) (pgs_cons (pg_name (i := 3) sc_inner_states.nd rfl (.inl rfl)) (pgs_cons (pg_name (i := 4) sc_inner_states.nd rfl (.inl rfl)) pgs_nil)))))
      (pss_cons (ps_if (pt_cmpR op_notIn_seq (pc0 c1 hr (by decide) (pa_cons (pv 0) (pa_cons (pv 1) pa_nil))) (pe_tup (pa_cons (pgi g4) (pa_cons (pgi g5) (pa_cons (pgi g6) pa_nil)))) rfl) (pss_one (ps_ret (pe_lst pa_nil))) pss_nil)
      (pss_cons (ps_set (i := 5) sc_inner_states.nd rfl (.inl rfl) (pe_ix ix_list (pv 0) (pv 3) (fun _ _ => rfl)))
      (pss_cons (ps_if (pt_cmpR op_eq (pv 2) (pgi gA) (nomark _)) (pss_one (ps_ret (pe_lst (pa_cons (pe_tup (pa_cons (pgi gA) (pa_cons (pe_ix ix_tup (pv 5) pe_int (fun _ _ => rfl)) (pa_cons pe_int pa_nil)))) (pa_cons (pe_tup (pa_cons (pgi gA) (pa_cons (pe_ix ix_tup (pv 5) pe_int (fun _ _ => rfl)) (pa_cons pe_int pa_nil)))) pa_nil))))) pss_nil)
      (pss_cons (ps_set (i := 6) sc_inner_states.nd rfl (.inl rfl) (pe_ix ix_list (pv 0) (pv 4) (fun _ _ => rfl)))
      (pss_cons (ps_set (i := 7) sc_inner_states.nd rfl (.inl rfl) (pv 2))
      (pss_cons (ps_if (pt_cmpR op_eq (pe_ix ix_tup (pv 5) pe_int (fun _ _ => rfl)) (pgi g6) (nomark _)) (pss_one (ps_set (i := 7) sc_inner_states.nd rfl (.inl rfl) (pe_op op_sub pe_int (pv 2)))) pss_nil)
      (pss_one (ps_ret (pe_lst (pa_cons (pc0 c2 hr (by decide) (pa_cons (pv 0) (pa_cons (pv 7) (pa_cons (pe_ix ix_tup (pv 5) pe_int (fun _ _ => rfl)) (pa_cons (pe_ix ix_tup (pv 6) pe_int (fun _ _ => rfl)) pa_nil)))))
        (pa_cons (pc0 c2 hr (by decide) (pa_cons (pv 0) (pa_cons (pv 2) (pa_cons (pe_ix ix_tup (pv 5) pe_int (fun _ _ => rfl)) (pa_cons (pe_ix ix_tup (pv 6) pe_int (fun _ _ => rfl)) pa_nil))))) pa_nil))))))))))), ?_⟩
    refine ⟨_, rfl, t, _, rfl, .inl (.inl ht), rfl, _, _, rfl, _, _, rfl, _, _, rfl, rfl, ?_⟩
    refine ⟨_, rfl, _, rfl, q, t, g, p, rfl, hN, hw, ht, (by show 3 ≤ sizeLine; decide), fun tp htp => ?_⟩
    have s1 := same_upd (o := .tup [.int 4, .int 5, .int 6]) htp
    have h6 := kind_6 hok hw
    refine ⟨tp, [.int 4, .int 5, .int 6], rfl, .inr (.inl (.inl upd_same)), rfl, rfl, _, rfl, ?_⟩
    by_cases hk : 3 < kindS g p
    case neg =>
      refine if_true_of (by show (!inV (nV (kindS g p)) [.int 4, .int 5, .int 6]) = true; rw [inV3, decide_eq_false (by omega)]; rfl) ?_
      refine ⟨(by show 0 ≤ sizeLine; decide), fun r hr0 => k _ r [] (s1.trans (same_upd hr0)) (s1.free hr0) upd_same ?_⟩
      unfold innerS
      rw [if_pos (by omega)]
      exact .nil
    refine if_false_of (by show (!inV (nV (kindS g p)) [.int 4, .int 5, .int 6]) = false; rw [inV3, decide_eq_true (by omega)]; rfl) ?_
    have hin : innerS g p = [aS g p, bS g p] := by
      unfold innerS
      rw [if_neg (by omega)]
    have hxl : p.2.1 < g.length := by
      rcases wf_inner hw hk with ⟨_, b, _⟩ | ⟨_, b, _⟩ <;> exact b
    have hN1 := hN.same s1
    obtain ⟨xs, t5, hX, _, hatx, hx5⟩ := hN1.get (K := K) (Rt.get_at hxl)
    refine ⟨_, rfl, _, rfl, q, _, _, _, rfl, rfl, hX, hatx, _, rfl, rfl, _, rfl, ?_⟩
    by_cases h2 : p.1 = 2
    · refine if_true_of (by show decide (nV p.1 = nV 2) = true; rw [nV_eq]; exact decide_eq_true h2) ?_
      refine ⟨_, rfl, t5, _, _, _, rfl, rfl, .inl (.inl hx5), rfl, (by show 3 ≤ sizeLine; decide), fun r1 hr1 => ?_⟩
      have s2 := same_upd (o := .tup [.int 2, nV (Krk0.at_ g p.2.1).a, .int 0]) hr1
      have e1 : upd (upd H tp (.tup [.int 4, .int 5, .int 6])) r1 (.tup [.int 2, nV (Krk0.at_ g p.2.1).a, .int 0]) r1 = some (.tup [.int 2, nV (Krk0.at_ g p.2.1).a, .int 0]) := upd_same
      refine ⟨_, rfl, t5, _, _, _, rfl, rfl, .inl (.inl (s2 _ _ hx5)), rfl, (by show 3 ≤ sizeLine; decide), fun r2 hr2 => ?_⟩
      have s3 := same_upd (o := .tup [.int 2, nV (Krk0.at_ g p.2.1).b, .int 0]) hr2
      refine ⟨(by show 2 ≤ sizeLine; decide), fun rl hrl => ?_⟩
      have s4 := same_upd (o := .lst [.ref r1, .ref r2]) hrl
      refine k _ rl [r1, r2] (((s1.trans s2).trans s3).trans s4) (((s1.trans s2).trans s3).free hrl) upd_same ?_
      rw [hin]
      refine .cons (s4 _ _ (s3 _ _ ?_)) (.cons (s4 _ _ ?_) .nil)
      · rw [e1]
        unfold aS
        rw [if_pos h2]
        rfl
      · rw [upd_same]
        unfold bS
        rw [if_pos h2]
        rfl
    refine if_false_of (by show decide (nV p.1 = nV 2) = false; rw [nV_eq]; exact decide_eq_false h2) ?_
    obtain ⟨hw1, _, hyl, hk1, hke⟩ : p.1 ≤ 1 ∧ p.2.1 < g.length ∧ p.2.2 < g.length ∧ 3 < (Krk0.at_ g p.2.1).kind ∧ (Krk0.at_ g p.2.1).kind = (Krk0.at_ g p.2.2).kind := by
      rcases wf_inner hw hk with ⟨a, _⟩ | h
      · exact absurd a h2
      · exact h
    obtain ⟨ys, t6, hY, _, haty, hy6⟩ := hN1.get (K := K) (Rt.get_at hyl)
    obtain ⟨_, ha, hb⟩ := hok.inner hxl hk1
    obtain ⟨_, ha', hb'⟩ := hok.inner hyl (by omega)
    refine ⟨_, rfl, _, rfl, q, _, _, _, rfl, rfl, hY, haty, _, rfl, _, rfl, t5, _, _, _, rfl, rfl, .inl (.inl hx5), rfl, rfl, _, rfl, ?_⟩
    by_cases hf : (Krk0.at_ g p.2.1).kind = 6
    · refine if_true_of (by show decide (nV (Krk0.at_ g p.2.1).kind = nV 6) = true; rw [nV_eq]; exact decide_eq_true hf) ?_
      have ef : V.int (1 - ((p.1 : Nat) : Int)) = nV (firstS g p) := by
        unfold firstS
        rw [if_pos hf]
        show V.int (1 - ((p.1 : Nat) : Int)) = V.int (((1 - p.1 : Nat)) : Int)
        congr 1
        omega
      refine ⟨_, rfl, _, _, rfl, rfl, ?_⟩
      refine ⟨_, rfl, _, rfl, _, rfl, t5, _, _, _, rfl, rfl, .inl (.inl hx5), rfl, _, rfl, t6, _, _, _, rfl, rfl, .inl (.inl hy6), rfl, q, g, firstS g p, _, _, by rw [← ef]; rfl, hN1, hok, ha, ha', fun H2 r1 s2 e1 => ?_⟩
      refine ⟨_, rfl, _, rfl, _, rfl, t5, _, _, _, rfl, rfl, .inl (.inl (s2 _ _ hx5)), rfl, _, rfl, t6, _, _, _, rfl, rfl, .inl (.inl (s2 _ _ hy6)), rfl, q, g, p.1, _, _, rfl, hN1.same s2, hok, hb, hb', fun H3 r2 s3 e2 => ?_⟩
      refine ⟨(by show 2 ≤ sizeLine; decide), fun rl hrl => ?_⟩
      have s4 := same_upd (o := .lst [.ref r1, .ref r2]) hrl
      refine k _ rl [r1, r2] (((s1.trans s2).trans s3).trans s4) (((s1.trans s2).trans s3).free hrl) upd_same ?_
      rw [hin]
      refine .cons (s4 _ _ (s3 _ _ ?_)) (.cons (s4 _ _ ?_) .nil)
      · rw [e1]
        unfold aS
        rw [if_neg h2]
      · rw [e2]
        unfold bS
        rw [if_neg h2]
    · refine if_false_of (by show decide (nV (Krk0.at_ g p.2.1).kind = nV 6) = false; rw [nV_eq]; exact decide_eq_false hf) ?_
      have ef : nV p.1 = nV (firstS g p) := by
        unfold firstS
        rw [if_neg hf]
      refine ⟨_, rfl, _, rfl, _, rfl, t5, _, _, _, rfl, rfl, .inl (.inl hx5), rfl, _, rfl, t6, _, _, _, rfl, rfl, .inl (.inl hy6), rfl, q, g, firstS g p, _, _, by rw [← ef]; rfl, hN1, hok, ha, ha', fun H2 r1 s2 e1 => ?_⟩
      refine ⟨_, rfl, _, rfl, _, rfl, t5, _, _, _, rfl, rfl, .inl (.inl (s2 _ _ hx5)), rfl, _, rfl, t6, _, _, _, rfl, rfl, .inl (.inl (s2 _ _ hy6)), rfl, q, g, p.1, _, _, rfl, hN1.same s2, hok, hb, hb', fun H3 r2 s3 e2 => ?_⟩
      refine ⟨(by show 2 ≤ sizeLine; decide), fun rl hrl => ?_⟩
      have s4 := same_upd (o := .lst [.ref r1, .ref r2]) hrl
      refine k _ rl [r1, r2] (((s1.trans s2).trans s3).trans s4) (((s1.trans s2).trans s3).free hrl) upd_same ?_
      rw [hin]
      refine .cons (s4 _ _ (s3 _ _ ?_)) (.cons (s4 _ _ ?_) .nil)
      · rw [e1]
        unfold aS
        rw [if_neg h2]
      · rw [e2]
        unfold bS
        rw [if_neg h2]
end
/-! ### nodes_of_both -/
section
variable {P : Program} {w : World} {K : PySem.W.Frag} {mg : Str → Option Value} {base : Heap}
theorem sc_nodes_of_both : FnScope ["nodes", "word", "a", "b", "start", "numbers", "row", "found", "here", "inner", "state"] ["nodes", "word", "a", "b"] (defScope s_nodes_of_both) := ⟨rfl, rfl, rfl, by decide +kernel, rfl, by decide +kernel, by decide +kernel⟩
abbrev RowB (g : Krk0.Graph) (start : PS) (n : Nat) (row : List PS) : Prop := RowG (kindS g) (aS g) (bS g) (WfS g) start n row
def sp_nodes_of_both : Sp := fun vs H Q _ => ∃ (q : Addr) (g : Krk0.Graph) (v a b : Nat), vs = [.ref q, nV v, nV a, nV b] ∧ NodesAt H q g ∧ GOk g ∧ g.length ≤ 10 ∧ v ≤ 1 ∧ a < g.length ∧ b < g.length ∧
  ∀ H' r row n, Same H H' → RowB g (stateS g v a b) n row → row.length ≤ n → row.length ≤ 484 → NodesAt H' r (stG (kindS g) (aS g) (bS g) row) → Q (.ref r) H'
theorem ok_nodes_of_both {f : Addr} {fd : FuncData} (F : Fun K "nodes_of_both" "nodes_of_both" s_nodes_of_both f fd) (c1 : Cal CX0 P w K mg base 2 "state_of" ["nodes", "word", "x", "y"] sp_state_of) (c2 : Cal CX0 P w K mg base 3 "inner_states" ["nodes", "state"] sp_inner_states)
    (c3 : Cal CX0 P w K mg base 1 "kind_of" ["nodes", "state"] sp_kind_of) (ml : mg "len" = none) (mt : mg "tuple" = none) : FnOk P w K mg base CX0 4 f fd ["nodes", "word", "a", "b"] sp_nodes_of_both := by
  refine F.ok sc_nodes_of_both (fun vs H Q E h => ?_) (fun cdv A outer s H vs Q E hr h => ?_)
  · obtain ⟨q, g, v, a, b, rfl, _⟩ := h
    rfl
  · obtain ⟨q, g, v, a, b, rfl, hN, hok, hgl, hv, ha, hb, k⟩ := h
    refine ⟨_, pss_cons (ps_set (i := 4) sc_nodes_of_both.nd rfl (.inl rfl) (pc0 c1 hr (by decide) (pa_cons (pv 0) (pa_cons (pv 1) (pa_cons (pv 2) (pa_cons (pv 3) pa_nil))))))
      (pss_cons (ps_set (i := 5) sc_nodes_of_both.nd rfl (.inr rfl) (pe_disp1T (hu_of hr) (pv 4) pe_int))
      (pss_cons (ps_set (i := 6) sc_nodes_of_both.nd rfl (.inl rfl) (pe_lst (pa_cons (pv 4) pa_nil)))
      (pss_cons (ps_set (i := 7) sc_nodes_of_both.nd rfl (.inl rfl) (pe_lst pa_nil))
      (pss_cons (ps_while PassesOwn.never (pt_cmpR op_lt (pe_callB (cr_len (K := K)) (by rfl) ml PySem.boot_len (pa_cons (pv 7) pa_nil)) (pe_callB (cr_len (K := K)) (by rfl) ml PySem.boot_len (pa_cons (pv 6) pa_nil)) (nomark _))
        (pss_cons (ps_set (i := 8) sc_nodes_of_both.nd rfl (.inl rfl) (pe_ix ix_list (pv 6) (pe_callB (cr_len (K := K)) (by rfl) ml PySem.boot_len (pa_cons (pv 7) pa_nil)) (fun _ _ => rfl)))
        (pss_cons (ps_set (i := 9) sc_nodes_of_both.nd rfl (.inl rfl) (pc0 c2 hr (by decide) (pa_cons (pv 0) (pa_cons (pv 8) pa_nil))))
        (pss_cons (ps_for PassesOwn.never rfl (pi_list (pv 9)) (pg_name (i := 10) sc_nodes_of_both.nd rfl (.inl rfl))
          (pss_one (ps_if (pt_cmp (pc_dnotin (hu_of hr) (pv 10) (pv 5)))
            (pss_cons (ps_dput (hu_of hr) (pv 5) (pv 10) (pe_callB (cr_len (K := K)) (by rfl) ml PySem.boot_len (pa_cons (pv 6) pa_nil)) rfl)
              (pss_one (ps_expr (pe_bm PySem.F.plainAttrs_list PySem.F.slot_list_append PySem.F.type_list_append mt_append (pv 6) (pa_cons (pv 10) pa_nil))))) pss_nil)))
        (pss_one (ps_expr (pe_bm PySem.F.plainAttrs_list PySem.F.slot_list_append PySem.F.type_list_append mt_append (pv 7)
          (pa_cons (pe_tupleOf (by rfl) mt (pe_op op_cat (pe_lst (pa_cons (pc0 c3 hr (by decide) (pa_cons (pv 0) (pa_cons (pv 8) pa_nil))) pa_nil))
            (pe_slice sl_list (pe_op op_cat (pe_lc (own := [("state", 10)]) (g := gName 10) (tt := tYes) rfl sc_nodes_of_both.nd (pi_list (pv 9))
              (blkOk_by (own := [("state", 10)]) (N := ["nodes", "word", "a", "b", "start", "numbers", "row", "found", "here", "inner", "state"]) (sc := defScope s_nodes_of_both) (by decide +kernel)) (fun _ _ _ _ _ => pg_name (i := 10) sc_nodes_of_both.nd rfl (Or.inl rfl)) (fun _ _ _ _ _ => pts_nil)
              (fun _ _ _ _ _ => pe_dget (hu_of hr) (pv 5) (pv 10) (fun _ _ => rfl))) (pe_lst (pa_cons pe_int (pa_cons pe_int pa_nil)))) po_none (po_some pe_int)))) pa_nil))))))))
      (pss_one (ps_ret (pv 7))))))), ?_⟩
    -- start
    refine ⟨_, rfl, _, rfl, _, rfl, _, rfl, q, g, v, a, b, rfl, hN, hok, ha, hb, fun H1 t0 s1 e0 => ?_⟩
    have hwf := wf_state hv ha hb
    generalize hst : stateS g v a b = st at e0 hwf k
    -- numbers = {start: 0}
    refine fun d hd => ?_
    have sd := same_upd (o := .dT []) hd
    refine ⟨_, rfl, upd_same, t0, keyS st, rfl, by rw [keyS_V]; exact sd _ _ e0, ?_⟩
    have s2 : Same H1 (upd (upd H1 d (.dT [])) d (.dT [(keyS st, .int 0)])) := same_new sd hd
    have ed2 : upd (upd H1 d (.dT [])) d (.dT [(keyS st, .int 0)]) d = some (.dT (entsL keyS [st])) := by rw [upd_same]; rfl
    generalize upd (upd H1 d (.dT [])) d (.dT [(keyS st, .int 0)]) = H2 at s2 ed2
    -- row = [start]
    refine ⟨_, rfl, (by show 1 ≤ sizeLine; decide), fun r hr0 => ?_⟩
    have s3 := same_upd (o := .lst [.ref t0]) hr0
    have er3 : upd H2 r (.lst [.ref t0]) r = some (.lst [.ref t0]) := upd_same
    generalize upd H2 r (.lst [.ref t0]) = H3 at s3 er3
    -- found = []
    refine ⟨(by show 0 ≤ sizeLine; decide), fun fo hfo => ?_⟩
    have s4 := same_upd (o := .lst []) hfo
    have sH3 := (s1.trans s2).trans s3
    have w0 : BSt H (upd H3 fo (.lst [])) d r fo [st] (FN g [st] 0) := ⟨sH3.trans s4, s1.free hd, (s1.trans s2).free hr0, sH3.free hfo, (fun z => by rw [z, er3] at hfo; cases hfo), s4 _ _ (s3 _ _ ed2), ⟨[t0], s4 _ _ er3, .cons (s4 _ _ (s3 _ _ (s2 _ _ e0))) .nil⟩, ⟨[], upd_same, .nil⟩⟩
    generalize upd H3 fo (.lst []) = H4 at w0
    -- the walk
    refine ⟨fun m σ H' => ∃ (n : Nat) (row : List PS) (y8 y9 y10 : Option V), σ = [some (.ref q), some (nV v), some (nV a), some (nV b), some (.ref t0), some (.ref d), some (.ref r), some (.ref fo), y8, y9, y10] ∧ BSt H H' d r fo row (FN g row n) ∧ RowB g st n row ∧ n ≤ row.length ∧ m + n = 485,
      ⟨485, 0, [st], none, none, none, rfl, w0, .new hwf, Nat.zero_le _, rfl⟩, ?_⟩
    rintro m σ H5 ⟨n, row, y8, y9, y10, rfl, hW, hR, hn, hm⟩
    obtain ⟨ts, er, hts⟩ := hW.er
    obtain ⟨fs, ef, hfs⟩ := hW.ef
    have htl : ts.length = row.length := Paired.length hts
    have hfl : fs.length = n := by
      have := Paired.length hfs
      unfold FN at this
      rw [List.length_map, List.length_take] at this
      omega
    have hRl := hR.len (M := 484) (enc := encS) (fun p q hp hq => enc_inj hgl p q hp hq) (fun p hp => enc_lt hgl p hp)
    refine ⟨_, rfl, fo, _, rfl, .inl (.inl (.inl ef)), _, rfl, r, _, rfl, .inl (.inl (.inl er)), _, _, rfl, rfl, _, rfl, ?_⟩
    rw [List.length_map, List.length_map, hfl, htl]
    by_cases hlt : n < row.length
    case neg =>
      refine if_false_of (decide_eq_false (by omega)) ?_
      refine ⟨_, rfl, k H5 fo row n hW.same hR (by omega) hRl ?_⟩
      rw [FN_all (by omega)] at hfs
      exact ⟨fs, ef, Paired.length hfs, fun i x e => pgetB hfs e⟩
    refine if_true_of (decide_eq_true (by omega)) ?_
    obtain ⟨p, hp⟩ : ∃ p, row[n]? = some p := ⟨_, List.getElem?_eq_getElem hlt⟩
    have hwp := hR.inn p (List.mem_of_getElem? hp)
    obtain ⟨hR', hn'⟩ := hR.turn (fun s hs hk => wf_next hok hs hk) hp
    rw [turnG_fold] at hR' hn'
    obtain ⟨t1, et1, ht1⟩ := pgetB hts hp
    refine ⟨fun σ' H6 => ∃ (y8 y9 y10 : Option V), σ' = [some (.ref q), some (nV v), some (nV a), some (nV b), some (.ref t0), some (.ref d), some (.ref r), some (.ref fo), y8, y9, y10] ∧ BSt H H6 d r fo ((innerS g p).foldl addG row) (FN g ((innerS g p).foldl addG row) (n + 1)), ?_, ?_⟩
    · rintro σ' H6 ⟨z8, z9, z10, e1, e2⟩
      exact ⟨484 - n, by omega, n + 1, _, z8, z9, z10, e1, e2, hR', hn', by omega⟩
    -- here = row[len(found)]; inner = inner_states(nodes, here)
    refine ⟨_, rfl, _, rfl, fo, _, rfl, .inl (.inl (.inl ef)), r, _, _, _, rfl, rfl, .inl (.inl er), (by rw [List.length_map, hfl]; exact atI_nat (map_get et1)), ?_⟩
    refine ⟨_, rfl, _, rfl, q, t1, g, p, rfl, hN.same hW.same, hok, hwp, ht1, fun H6 ri ts2 s6 nri eri hts2 => ?_⟩
    have W6 := hW.later s6
    have nrd : ri ≠ r := fun z => by rw [z, er] at nri; cases nri
    have hil : ts2.length = (innerS g p).length := Paired.length hts2
    have hi2 : (innerS g p).length ≤ 2 := by
      unfold innerS
      split
      · exact Nat.zero_le _
      · exact Nat.le_refl _
    -- the inner ones
    refine ⟨_, rfl, ri, rfl, ⟨_, .inl (.inl eri)⟩, for_it (walk_list (xs := ts2.map V.ref)) (fun j σ' H' => ∃ (row' : List PS) (y10 : Option V), σ' = [some (.ref q), some (nV v), some (nV a), some (nV b), some (.ref t0), some (.ref d), some (.ref r), some (.ref fo), some (.ref t1), some (.ref ri), y10] ∧
        BSt H H' d r fo row' (FN g row' n) ∧ row' = ((innerS g p).take j).foldl addG row ∧ RowB g st n row' ∧ n ≤ row'.length ∧ H' ri = some (.lst (ts2.map V.ref)) ∧ SP2 H' ts2 (innerS g p) ∧ H' t1 = some (.tup (sT p)))
      ⟨row, y10, rfl, W6, rfl, hR, hn, eri, hts2, s6 _ _ ht1⟩ (fun j σ' H' _ h => let ⟨_, _, _, _, _, _, _, e, _⟩ := h; .inl (.inl e)) ?_ ?_⟩
    · rintro j y σ' H7 H8 hj ⟨row', z10, rfl, W', eR, hR7, hn7, eri7, hts7, ht17⟩ ⟨rfl, hy⟩
      obtain ⟨t2, et2, rfl⟩ := map_get_inv hy
      obtain ⟨pj, epj, ht2⟩ := pget hts7 et2
      have hwj : WfS g pj := by
        have hm := List.mem_of_getElem? epj
        unfold innerS at hm
        by_cases hk : kindS g p ≤ 3
        · rw [if_pos hk] at hm; cases hm
        · rw [if_neg hk] at hm
          obtain ⟨w1, w2⟩ := wf_next hok hwp (by omega)
          rcases List.mem_cons.mp hm with e | e
          · rw [e]; exact w1
          · rw [List.mem_singleton.mp e]; exact w2
      obtain ⟨tsr, er7, htsr⟩ := W'.er
      have hR8 := hR7.add hn7 hwj
      have hn8 := addG_len (row := row') (y := pj)
      have hRl7 := hR7.len (M := 484) (enc := encS) (fun p q hp hq => enc_inj hgl p q hp hq) (fun p hp => enc_lt hgl p hp)
      have hFN := FN_add (y := pj) hR7 hn7
      have e8 : addG row' pj = ((innerS g p).take (j + 1)).foldl addG row := by
        rw [take_snoc epj, List.foldl_append, ← eR]
        rfl
      have htrl : tsr.length = row'.length := Paired.length htsr
      refine ⟨_, rfl, _, rfl, d, _, rfl, DGet.t (k := keyS pj) W'.ed (by rw [keyS_V]; exact ht2), ?_⟩
      by_cases hm : pj ∈ row'
      · rw [entsL_in keyS_inj hR7.nd hm]
        refine ⟨_, rfl, ?_⟩
        refine if_false_of rfl ?_
        have ea : addG row' pj = row' := by unfold addG; rw [if_pos hm]
        exact ⟨row', _, rfl, W', by rw [← e8, ea], hR7, hn7, eri7, hts7, ht17⟩
      · rw [entsL_out keyS_inj hm]
        refine ⟨_, rfl, ?_⟩
        refine if_true_of rfl ?_
        have ea : addG row' pj = row' ++ [pj] := by unfold addG; rw [if_neg hm]
        refine ⟨_, rfl, r, _, rfl, .inl (.inl (.inl er7)), _, rfl, _, rfl, d, _, rfl, DPut.t (k := keyS pj) W'.ed (by rw [keyS_V]; exact ht2) (slt1000 (by rw [entsL_len]; omega)), ?_⟩
        rw [entsL_put keyS_inj hm (by rw [List.length_map, htrl])]
        have er10 : upd H8 d (.dT (entsL keyS (row' ++ [pj]))) r = some (.lst (tsr.map V.ref)) := by rw [upd_ne (Ne.symm W'.dr)]; exact er7
        refine ⟨_, rfl, .inl ⟨rfl, _, .inl (.inl er10)⟩, _, rfl, r, _, _, rfl, rfl, er10, slt1000 (by rw [List.length_map]; omega), ?_⟩
        have W8 := W'.more er7 htsr ht2
        have hne : ∀ c l, H8 c = some (.tup l) → upd (upd H8 d (.dT (entsL keyS (row' ++ [pj])))) r (.lst (tsr.map V.ref ++ [V.ref t2])) c = some (.tup l) := fun c l z => by
          have h1 : c ≠ d := fun e => by rw [e, W'.ed] at z; cases z
          have h2 : c ≠ r := fun e => by rw [e, er7] at z; cases z
          rw [upd_ne h2, upd_ne h1]
          exact z
        have hrd : ri ≠ d := fun e => by rw [e, W'.ed] at eri7; cases eri7
        rw [ea] at hR8 hn8 hFN
        refine ⟨row' ++ [pj], _, rfl, by rw [hFN]; exact W8, by rw [← e8, ea], hR8, by omega, ?_, hts7.same hne, hne _ _ ht17⟩
        rw [upd_ne nrd, upd_ne hrd]
        exact eri7
    · rintro σ' H7 ⟨row', z10, rfl, W', eR, hR7, hn7, eri7, hts7, ht17⟩
      rw [List.length_map, hil, List.take_length] at eR
      subst eR
      obtain ⟨fs7, ef7, hfs7⟩ := W'.ef
      have hp7 := fold_get (innerS g p) row hp
      generalize hrow : (innerS g p).foldl addG row = row7 at W' hR7 hn7 hR' hn' hfs7 hp7
      have hfl7 : fs7.length = n := by
        have := Paired.length hfs7
        unfold FN at this
        rw [List.length_map, List.length_take] at this
        omega
      have hmem : ∀ pj ∈ innerS g p, pj ∈ row7 := fun pj hm => by
        unfold innerS at hm
        by_cases hk : kindS g p ≤ 3
        · rw [if_pos hk] at hm; cases hm
        · rw [if_neg hk] at hm
          obtain ⟨w1, w2⟩ := hR'.clos n p (by omega) hp7 (by omega)
          rcases List.mem_cons.mp hm with e | e
          · rw [e]; exact w1
          · rw [List.mem_singleton.mp e]; exact w2
      -- found.append(tuple([kind] + ([..] + [0, 0])[:2]))
      refine ⟨_, rfl, .inl ⟨rfl, _, .inl (.inl ef7)⟩, _, rfl, _, rfl, q, t1, g, p, rfl, hN.same W'.same, hwp, ht17, (by show 1 ≤ sizeLine; decide), fun l1 hl1 => ?_⟩
      have s8 := same_upd (o := .lst [nV (kindS g p)]) hl1
      have e8 : upd H7 l1 (.lst [nV (kindS g p)]) l1 = some (.lst [nV (kindS g p)]) := upd_same
      generalize upd H7 l1 (.lst [nV (kindS g p)]) = H8 at s8 e8
      refine ⟨_, rfl, ri, rfl, ⟨_, .inl (.inl (s8 _ _ eri7))⟩, fun D hD => lc_all walk_list (fun i y _ => ∃ pj, (innerS g p)[i]? = some pj ∧ y = nV (ixG row7 pj)) hD (by rw [List.length_map]; omega) (fun H2 s2 => .inl (.inl (s2 _ _ (s8 _ _ eri7)))) (fun _ _ _ _ h _ => h) ?_ ?_⟩
      · rintro i y H9 H10 hi s9 ⟨rfl, hx⟩ Q2 Z hq
        obtain ⟨t2, et2, rfl⟩ := map_get_inv hx
        obtain ⟨pj, epj, ht2⟩ := pget hts7 et2
        refine lc_in rfl ?_
        exact ⟨_, rfl, _, rfl, d, _, rfl, dget_of (DGet.t (k := keyS pj) (s9 _ _ (s8 _ _ W'.ed)) (by rw [keyS_V]; exact s9 _ _ (s8 _ _ ht2))) (entsL_in keyS_inj hR7.nd (hmem pj (List.mem_of_getElem? epj))), hq _ _ (Same.refl _) ⟨pj, epj, rfl⟩⟩
      · intro H9 acc s9 eD hacc hr9
        rw [List.length_map, hil] at hacc
        have eacc := maps_of acc (innerS g p) hacc hr9
        refine ⟨(by show 2 ≤ sizeLine; decide), fun l2 hl2 => ?_⟩
        have s10 := same_upd (o := .lst [.int 0, .int 0]) hl2
        have e10 : upd H9 l2 (.lst [.int 0, .int 0]) l2 = some (.lst [.int 0, .int 0]) := upd_same
        generalize upd H9 l2 (.lst [.int 0, .int 0]) = H10 at s10 e10
        refine ⟨D, l2, _, _, rfl, rfl, s10 _ _ eD, e10, sl1000 (by rw [hacc]; show _ + 2 ≤ _; omega), fun l3 hl3 => ?_⟩
        have s11 := same_upd (o := .lst (acc ++ [.int 0, .int 0])) hl3
        have e11 : upd H10 l3 (.lst (acc ++ [.int 0, .int 0])) l3 = some (.lst (acc ++ [.int 0, .int 0])) := upd_same
        generalize upd H10 l3 (.lst (acc ++ [.int 0, .int 0])) = H11 at s11 e11
        refine ⟨2, rfl, l3, _, rfl, .inl (.inl e11), fun l4 hl4 => ?_⟩
        have ecut : cutV (acc ++ [.int 0, .int 0]) none (some 2) = [nV (stN (kindS g) (aS g) (bS g) row7 p).a, nV (stN (kindS g) (aS g) (bS g) row7 p).b] := by
          rw [eacc]
          unfold innerS stN
          by_cases hk : kindS g p ≤ 3
          · rw [if_pos hk, if_pos hk]
            rfl
          · rw [if_neg hk, if_neg hk]
            rfl
        rw [ecut]
        have ekind : (stN (kindS g) (aS g) (bS g) row7 p).kind = kindS g p := by
          unfold stN
          split <;> rfl
        generalize hnd : stN (kindS g) (aS g) (bS g) row7 p = nd7 at ecut ekind
        have s12 := same_upd (o := .lst [nV nd7.a, nV nd7.b]) hl4
        have e12 : upd H11 l4 (.lst [nV nd7.a, nV nd7.b]) l4 = some (.lst [nV nd7.a, nV nd7.b]) := upd_same
        generalize upd H11 l4 (.lst [nV nd7.a, nV nd7.b]) = H12 at s12 e12
        have s812 := ((s9.trans s10).trans s11).trans s12
        refine ⟨l1, l4, _, _, rfl, rfl, s812 _ _ e8, e12, (by show 1 + 2 ≤ sizeLine; decide), fun l5 hl5 => ?_⟩
        have s13 := same_upd (o := .lst ([nV (kindS g p)] ++ [nV nd7.a, nV nd7.b])) hl5
        have e13 : upd H12 l5 (.lst ([nV (kindS g p)] ++ [nV nd7.a, nV nd7.b])) l5 = some (.lst ([nV (kindS g p)] ++ [nV nd7.a, nV nd7.b])) := upd_same
        generalize upd H12 l5 (.lst ([nV (kindS g p)] ++ [nV nd7.a, nV nd7.b])) = H13 at s13 e13
        refine .inl ⟨l5, _, rfl, .inl (.inl e13), fun t5 ht5 => ?_⟩
        have s14 := same_upd (o := .tup ([nV (kindS g p)] ++ [nV nd7.a, nV nd7.b])) ht5
        have e14 : upd H13 t5 (.tup ([nV (kindS g p)] ++ [nV nd7.a, nV nd7.b])) t5 = some (.tup ([nV (kindS g p)] ++ [nV nd7.a, nV nd7.b])) := upd_same
        generalize upd H13 t5 (.tup ([nV (kindS g p)] ++ [nV nd7.a, nV nd7.b])) = H14 at s14 e14
        have sAll := (s8.trans s812).trans (s13.trans s14)
        have ef14 := sAll _ _ ef7
        refine ⟨fo, _, _, rfl, rfl, ef14, slt1000 (by rw [List.length_map]; omega), ?_⟩
        refine ⟨_, _, _, rfl, ?_⟩
        rw [FN_snoc hp7, hnd]
        exact (W'.later sAll).node ef14 (hfs7.same fun c l z => sAll _ _ z) (by rw [e14, ekind] <;> rfl)
end
/-! ### is_inner -/
section
variable {P : Program} {w : World} {K : PySem.W.Frag} {mg : Str → Option Value} {base : Heap}
theorem sc_is_inner : FnScope ["node"] ["node"] (defScope s_is_inner) := ⟨rfl, rfl, rfl, by decide +kernel, rfl, by decide +kernel, by decide +kernel⟩
def sp_is_inner : Sp := fun vs H Q _ => ∃ (t : Addr) (x : Krk0.Node), vs = [.ref t] ∧ H t = some (.tup [nV x.kind, nV x.a, nV x.b]) ∧ x.kind ≤ 6 ∧ ∀ H', Same H H' → Q (.bl (decide (3 < x.kind))) H'
theorem ok_is_inner {f : Addr} {fd : FuncData} (F : Fun K "is_inner" "is_inner" s_is_inner f fd) (g4 : Ki mg "PAIR" 4) (g5 : Ki mg "CHOICE" 5) (g6 : Ki mg "FUNCTION" 6) :
    FnOk P w K mg base CX0 1 f fd ["node"] sp_is_inner := by
  refine F.ok sc_is_inner (fun vs H Q E h => ?_) (fun cdv A outer s H vs Q E hr h => ?_)
  · obtain ⟨t, x, rfl, _⟩ := h
    rfl
  · obtain ⟨t, x, rfl, ht, hk, q⟩ := h
    refine ⟨_, pss_one (ps_ret (pe_cmpR op_in_seq (pe_ix ix_tup (pv 0) pe_int (fun _ _ => rfl)) (pe_tup (pa_cons (pgi g4) (pa_cons (pgi g5) (pa_cons (pgi g6) pa_nil)))) rfl)), ?_⟩
    refine ⟨_, rfl, t, _, _, _, rfl, rfl, .inl (.inl ht), rfl, (by show 3 ≤ sizeLine; decide), fun p hp => ?_⟩
    have s1 := same_upd (o := .tup [.int 4, .int 5, .int 6]) hp
    refine ⟨p, [.int 4, .int 5, .int 6], rfl, .inr (.inl (.inl upd_same)), rfl, rfl, ?_⟩
    show Q (.bl (inV (nV x.kind) [.int 4, .int 5, .int 6])) _
    rw [inV3]
    have e : decide (4 ≤ x.kind ∧ x.kind ≤ 6) = decide (3 < x.kind) := decide_eq_decide.mpr (by omega)
    rw [e]
    exact q _ s1
end
/-! ### look_of -/
section
variable {P : Program} {w : World} {K : PySem.W.Frag} {mg : Str → Option Value} {base : Heap}
theorem sc_look_of : FnScope ["nodes", "groups", "number", "kind", "a", "b"] ["nodes", "groups", "number"] (defScope s_look_of) := ⟨rfl, rfl, rfl, by decide +kernel, rfl, by decide +kernel, by decide +kernel⟩
def sp_look_of : Sp := fun vs H Q _ => ∃ (q r : Addr) (g : Krk0.Graph) (gs : List Nat) (i : Nat), vs = [.ref q, .ref r, nV i] ∧ NodesAt H q g ∧ GOk g ∧ H r = some (.lst (gs.map nV)) ∧ gs.length = g.length ∧ i < g.length ∧
  ∀ H' t, Same H H' → H' t = some (.tup (((look4 g gs i).drop 1).map nV)) → Q (.ref t) H'
theorem ok_look_of {f : Addr} {fd : FuncData} (F : Fun K "look_of" "look_of" s_look_of f fd) (c1 : Cal CX0 P w K mg base 1 "is_inner" ["node"] sp_is_inner) : FnOk P w K mg base CX0 2 f fd ["nodes", "groups", "number"] sp_look_of := by
  refine F.ok sc_look_of (fun vs H Q E h => ?_) (fun cdv A outer s H vs Q E hr h => ?_)
  · obtain ⟨q, r, g, gs, i, rfl, _⟩ := h
    rfl
  · obtain ⟨q, r, g, gs, i, rfl, hN, hok, hr1, hgl, hi, k⟩ := h
    refine ⟨_, pss_cons (ps_asg (pe_ix ix_list (pv 0) (pv 2) (fun _ _ => rfl)) (pg_tup rfl (pgs_cons (pg_name (i := 3) sc_look_of.nd rfl (.inl rfl)) (pgs_cons (pg_name (i := 4) sc_look_of.nd rfl (.inl rfl)) (pgs_cons (pg_name (i := 5) sc_look_of.nd rfl (.inl rfl)) pgs_nil)))))
      (pss_cons (ps_if (pt_val (pc0 c1 hr (by decide) (pa_cons (pe_ix ix_list (pv 0) (pv 2) (fun _ _ => rfl)) pa_nil)))
          (pss_one (ps_ret (pe_tup (pa_cons (pv 3) (pa_cons (pe_ix ix_list (pv 1) (pv 4) (fun _ _ => rfl)) (pa_cons (pe_ix ix_list (pv 1) (pv 5) (fun _ _ => rfl)) pa_nil)))))) pss_nil)
        (pss_one (ps_ret (pe_tup (pa_cons (pv 3) (pa_cons pe_int (pa_cons pe_int pa_nil))))))), ?_⟩
    obtain ⟨xs, t, hX, hxl, hat, ht⟩ := hN.get (K := K) (Rt.get_at hi)
    refine ⟨_, rfl, _, rfl, q, _, _, _, rfl, rfl, hX, hat, t, _, rfl, .inl (.inl ht), rfl, _, _, rfl, _, _, rfl, _, _, rfl, rfl, ?_⟩
    refine ⟨_, rfl, _, rfl, q, _, _, _, rfl, rfl, hX, hat, t, _, rfl, ht, ?_, fun H1 s1 => ?_⟩
    · by_cases hk : 3 < (Krk0.at_ g i).kind
      · exact (hok.inner hi hk).1
      · omega
    by_cases hk : 3 < (Krk0.at_ g i).kind
    · refine ⟨_, rfl, ?_⟩
      refine if_true_of (decide_eq_true hk) ?_
      obtain ⟨_, ha, hb⟩ := hok.inner hi hk
      refine ⟨_, rfl, _, rfl, _, rfl, r, _, _, _, rfl, rfl, .inl (.inl (s1 _ _ hr1)), atI_nat (map_get (get_lab (by omega))), _, rfl, _, rfl, r, _, _, _, rfl, rfl, .inl (.inl (s1 _ _ hr1)), atI_nat (map_get (get_lab (by omega))), ?_⟩
      refine ⟨(by show 3 ≤ sizeLine; decide), fun p hp => ?_⟩
      refine k _ p (s1.trans (same_upd hp)) ?_
      rw [upd_same]
      unfold look4
      rw [if_pos hk, if_pos hk]
      rfl
    · refine ⟨_, rfl, ?_⟩
      refine if_false_of (decide_eq_false hk) ?_
      refine ⟨_, rfl, (by show 3 ≤ sizeLine; decide), fun p hp => ?_⟩
      refine k _ p (s1.trans (same_upd hp)) ?_
      rw [upd_same]
      unfold look4
      rw [if_neg hk, if_neg hk]
      rfl
end
/-! ### grouped_by -/
section
variable {P : Program} {w : World} {K : PySem.W.Frag} {mg : Str → Option Value} {base : Heap}
theorem sc_grouped_by : FnScope ["looks", "numbers", "look"] ["looks"] (defScope s_grouped_by) := ⟨rfl, rfl, rfl, by decide +kernel, rfl, by decide +kernel, by decide +kernel⟩
def sp_grouped_by (K : PySem.W.Frag) : Sp := fun vs H Q _ => ∃ r : Addr, vs = [.ref r] ∧
  ((∃ ks : List Nat, SqL K H r (ks.map nV) ∧ ks.length ≤ 1000 ∧ ∀ H' d, Same H H' → H' d = some (.lst ((grp ks).map nV)) → Q (.ref d) H') ∨
   (∃ (ts : List Addr) (ks : List (List Nat)), SqL K H r (ts.map V.ref) ∧ Paired (fun t k => H t = some (.tup (k.map nV))) ts ks ∧ ks.length ≤ 1000 ∧ ∀ H' d, Same H H' → H' d = some (.lst ((grp ks).map nV)) → Q (.ref d) H'))
theorem ok_grouped_by {f : Addr} {fd : FuncData} (F : Fun K "grouped_by" "grouped_by" s_grouped_by f fd) (ml : mg "len" = none) : FnOk P w K mg base CX0 1 f fd ["looks"] (sp_grouped_by K) := by
  refine F.ok sc_grouped_by (fun vs H Q E h => ?_) (fun cdv A outer s H vs Q E hr h => ?_)
  · obtain ⟨r, rfl, _⟩ := h
    rfl
  · obtain ⟨r, rfl, h⟩ := h
    rcases h with ⟨ks, hS, hkl, k⟩ | ⟨ts, ks, hS, hT, hkl, k⟩
    · refine ⟨_, pss_cons (ps_set (i := 1) sc_grouped_by.nd rfl (.inr rfl) pe_dnewK)
        (pss_cons (ps_for PassesOwn.never rfl (pi_list (pv 0)) (pg_name (i := 2) sc_grouped_by.nd rfl (.inl rfl))
          (pss_one (ps_if (pt_cmp (pc_dnotin (hu_of hr) (pv 2) (pv 1))) (pss_one (ps_dput (hu_of hr) (pv 1) (pv 2) (pe_callB call_lenD (by rfl) ml PySem.boot_len (pa_cons (pv 1) pa_nil)) rfl)) pss_nil)))
        (pss_one (ps_ret (pe_lc (own := [("look", 2)]) (g := gName 2) (tt := tYes) rfl sc_grouped_by.nd (pi_list (pv 0))
          (blkOk_by (own := [("look", 2)]) (N := ["looks", "numbers", "look"]) (sc := defScope s_grouped_by) (by decide +kernel)) (fun _ _ _ _ _ => pg_name (i := 2) sc_grouped_by.nd rfl (Or.inl rfl)) (fun _ _ _ _ _ => pts_nil)
          (fun _ _ _ _ _ => pe_dget (hu_of hr) (pv 1) (pv 2) (fun _ _ => rfl)))))), ?_⟩
      intro d hd
      have s1 := same_upd (o := .dK []) hd
      have nd : H d = none := hd
      refine ⟨_, rfl, r, rfl, ⟨_, s1.seq hS⟩, for_list (K := K) (a := r) (xs := ks.map nV) (fun i σ H' => ∃ y : Option V, σ = [some (.ref r), some (.ref d), y] ∧ Same H H' ∧ H' d = some (.dK (entsL keyI (dd (ks.take i)))))
        ⟨none, rfl, s1, upd_same⟩ (fun i σ H' _ h => let ⟨_, _, h2, _⟩ := h; h2.seq hS) ?_ ?_⟩
      · rintro i y σ H1 hi ⟨y2, rfl, s2, ed⟩
        obtain ⟨k0, hk, rfl⟩ := map_get_inv hi
        have hil := get_lt hk
        have ht := take_snoc hk
        have hlen : (dd (ks.take i)).length ≤ 1000 := by
          have h1 := dd_len (ks.take i)
          rw [List.length_take] at h1
          omega
        refine ⟨_, rfl, _, rfl, d, _, rfl, DGet.k (k := keyI k0) ed, ?_⟩
        by_cases hm : k0 ∈ dd (ks.take i)
        · rw [entsL_in keyI_inj (dd_nodup _) hm]
          refine ⟨_, rfl, ?_⟩
          refine if_false_of rfl ?_
          refine ⟨_, rfl, s2, ?_⟩
          rw [ht, dd_has hm]
          exact ed
        · rw [entsL_out keyI_inj hm]
          refine ⟨_, rfl, ?_⟩
          refine if_true_of rfl ?_
          refine ⟨_, rfl, d, _, rfl, ed, _, rfl, _, rfl, d, _, rfl, DPut.k (k := keyI k0) ed (slt1000 (by rw [entsL_len]; omega)), _, rfl, same_new s2 nd, ?_⟩
          rw [upd_same, ht, dd_put hm, entsL_put keyI_inj hm (by rw [entsL_len])]
      · rintro σ H1 ⟨y2, rfl, s2, ed⟩
        rw [List.length_map, List.take_length] at ed
        refine ⟨_, rfl, r, rfl, ⟨_, s2.seq hS⟩, fun D hD => lc_all walk_list (fun i y _ => ∃ k0, ks[i]? = some k0 ∧ y = nV (gix ks k0)) hD (by rw [List.length_map]; omega) (fun H2 s3 => (s2.trans s3).seq hS) (fun _ _ _ _ h _ => h) ?_ ?_⟩
        · rintro i y H2 H3 hi s3 ⟨rfl, hx⟩ Q2 Z hq
          obtain ⟨k0, hk, rfl⟩ := map_get_inv hx
          refine lc_in rfl ?_
          have hm : k0 ∈ dd ks := (dd_mem _ _).mpr (List.mem_of_getElem? hk)
          refine ⟨_, rfl, _, rfl, d, _, rfl, dget_of (DGet.k (k := keyI k0) (s3 _ _ ed)) (entsL_in keyI_inj (dd_nodup _) hm), ?_⟩
          exact hq _ _ (Same.refl _) ⟨k0, hk, rfl⟩
        · intro H2 acc s3 eD hacc hr2
          rw [List.length_map] at hacc
          refine k H2 D (s2.trans s3) ?_
          rw [eD, maps_of acc ks hacc hr2]
          rw [grp_map]
    · have htl := Paired.length hT
      refine ⟨_, pss_cons (ps_set (i := 1) sc_grouped_by.nd rfl (.inr rfl) pe_dnewT)
        (pss_cons (ps_for PassesOwn.never rfl (pi_list (pv 0)) (pg_name (i := 2) sc_grouped_by.nd rfl (.inl rfl))
          (pss_one (ps_if (pt_cmp (pc_dnotin (hu_of hr) (pv 2) (pv 1))) (pss_one (ps_dput (hu_of hr) (pv 1) (pv 2) (pe_callB call_len_dT (by rfl) ml PySem.boot_len (pa_cons (pv 1) pa_nil)) rfl)) pss_nil)))
        (pss_one (ps_ret (pe_lc (own := [("look", 2)]) (g := gName 2) (tt := tYes) rfl sc_grouped_by.nd (pi_list (pv 0))
          (blkOk_by (own := [("look", 2)]) (N := ["looks", "numbers", "look"]) (sc := defScope s_grouped_by) (by decide +kernel)) (fun _ _ _ _ _ => pg_name (i := 2) sc_grouped_by.nd rfl (Or.inl rfl)) (fun _ _ _ _ _ => pts_nil)
          (fun _ _ _ _ _ => pe_dget (hu_of hr) (pv 1) (pv 2) (fun _ _ => rfl)))))), ?_⟩
      intro d hd
      have s1 := same_upd (o := .dT []) hd
      have nd : H d = none := hd
      refine ⟨_, rfl, r, rfl, ⟨_, s1.seq hS⟩, for_list (K := K) (a := r) (xs := ts.map V.ref) (fun i σ H' => ∃ y : Option V, σ = [some (.ref r), some (.ref d), y] ∧ Same H H' ∧ H' d = some (.dT (entsL keyL (dd (ks.take i)))))
        ⟨none, rfl, s1, upd_same⟩ (fun i σ H' _ h => let ⟨_, _, h2, _⟩ := h; h2.seq hS) ?_ ?_⟩
      · rintro i y σ H1 hi ⟨y2, rfl, s2, ed⟩
        obtain ⟨t0, ht0, rfl⟩ := map_get_inv hi
        obtain ⟨k0, hk, ek⟩ := pget hT ht0
        have hil := get_lt hk
        have ht := take_snoc hk
        have hlen : (dd (ks.take i)).length ≤ 1000 := by
          have h1 := dd_len (ks.take i)
          rw [List.length_take] at h1
          omega
        refine ⟨_, rfl, _, rfl, d, _, rfl, DGet.t (k := keyL k0) ed (by rw [keyL_V]; exact s2 _ _ ek), ?_⟩
        by_cases hm : k0 ∈ dd (ks.take i)
        · rw [entsL_in keyL_inj (dd_nodup _) hm]
          refine ⟨_, rfl, ?_⟩
          refine if_false_of rfl ?_
          refine ⟨_, rfl, s2, ?_⟩
          rw [ht, dd_has hm]
          exact ed
        · rw [entsL_out keyL_inj hm]
          refine ⟨_, rfl, ?_⟩
          refine if_true_of rfl ?_
          refine ⟨_, rfl, d, _, rfl, ed, _, rfl, _, rfl, d, _, rfl, DPut.t (k := keyL k0) ed (by rw [keyL_V]; exact s2 _ _ ek) (slt1000 (by rw [entsL_len]; omega)), _, rfl, same_new s2 nd, ?_⟩
          rw [upd_same, ht, dd_put hm, entsL_put keyL_inj hm (by rw [entsL_len])]
      · rintro σ H1 ⟨y2, rfl, s2, ed⟩
        rw [List.length_map, htl, List.take_length] at ed
        refine ⟨_, rfl, r, rfl, ⟨_, s2.seq hS⟩, fun D hD => lc_all walk_list (fun i y _ => ∃ k0, ks[i]? = some k0 ∧ y = nV (gix ks k0)) hD (by rw [List.length_map, htl]; omega) (fun H2 s3 => (s2.trans s3).seq hS) (fun _ _ _ _ h _ => h) ?_ ?_⟩
        · rintro i y H2 H3 hi s3 ⟨rfl, hx⟩ Q2 Z hq
          obtain ⟨t0, ht0, rfl⟩ := map_get_inv hx
          obtain ⟨k0, hk, ek⟩ := pget hT ht0
          refine lc_in rfl ?_
          have hm : k0 ∈ dd ks := (dd_mem _ _).mpr (List.mem_of_getElem? hk)
          refine ⟨_, rfl, _, rfl, d, _, rfl, dget_of (DGet.t (k := keyL k0) (s3 _ _ ed) (by rw [keyL_V]; exact s3 _ _ (s2 _ _ ek))) (entsL_in keyL_inj (dd_nodup _) hm), ?_⟩
          exact hq _ _ (Same.refl _) ⟨k0, hk, rfl⟩
        · intro H2 acc s3 eD hacc hr2
          rw [List.length_map, htl] at hacc
          refine k H2 D (s2.trans s3) ?_
          rw [eD, maps_of acc ks hacc hr2]
          rw [grp_map]
end
/-! ### groups_of -/
section
variable {P : Program} {w : World} {K : PySem.W.Frag} {mg : Str → Option Value} {base : Heap}
theorem sc_groups_of : FnScope ["nodes", "groups", "node", "before", "looks", "number"] ["nodes"] (defScope s_groups_of) := ⟨rfl, rfl, rfl, by decide +kernel, rfl, by decide +kernel, by decide +kernel⟩
def sp_groups_of : Sp := fun vs H Q _ => ∃ (q : Addr) (g : Krk0.Graph), vs = [.ref q] ∧ NodesAt H q g ∧ GOk g ∧ 1 ≤ g.length ∧ g.length ≤ 1000 ∧ ∀ H' d gs, Same H H' → Tells g gs → H' d = some (.lst (gs.map nV)) → Q (.ref d) H'
theorem ok_groups_of {f : Addr} {fd : FuncData} (F : Fun K "groups_of" "groups_of" s_groups_of f fd) (c1 : Cal CX0 P w K mg base 1 "grouped_by" ["looks"] (sp_grouped_by K)) (c2 : Cal CX0 P w K mg base 2 "look_of" ["nodes", "groups", "number"] sp_look_of)
    (mr : mg "range" = none) (ml : mg "len" = none) (mm : mg "max" = none) : FnOk P w K mg base CX0 3 f fd ["nodes"] sp_groups_of := by
  refine F.ok sc_groups_of (fun vs H Q E h => ?_) (fun cdv A outer s H vs Q E hr h => ?_)
  · obtain ⟨q, g, rfl, _⟩ := h
    rfl
  · obtain ⟨q, g, rfl, hN, hok, h1, hl, k⟩ := h
    refine ⟨_, pss_cons (ps_set (i := 1) sc_groups_of.nd rfl (.inr rfl) (pc0 c1 hr (by decide) (pa_cons (pe_lc (own := [("node", 2)]) (g := gName 2) (tt := tYes) rfl sc_groups_of.nd (pi_list (pv 0))
          (blkOk_by (own := [("node", 2)]) (N := ["nodes", "groups", "node", "before", "looks", "number"]) (sc := defScope s_groups_of) (by decide +kernel)) (fun _ _ _ _ _ => pg_name (i := 2) sc_groups_of.nd rfl (Or.inl rfl)) (fun _ _ _ _ _ => pts_nil)
          (fun _ _ _ _ _ => pe_ix (ixT (K := K)) (pv 2) pe_int (fun _ _ => rfl))) pa_nil)))
      (pss_cons (ps_set (i := 3) sc_groups_of.nd rfl (.inl rfl) pe_int)
      (pss_cons (ps_while PassesOwn.never (pt_cmpR op_gt (pe_op op_add (pe_callB (cr_max rfl) (by rfl) mm (by decide +kernel) (pa_cons (pv 1) pa_nil)) pe_int) (pv 3) (nomark _))
        (pss_cons (ps_set (i := 3) sc_groups_of.nd rfl (.inl rfl) (pe_op op_add (pe_callB (cr_max rfl) (by rfl) mm (by decide +kernel) (pa_cons (pv 1) pa_nil)) pe_int))
        (pss_cons (ps_setLc (i := 4) (own := [("number", 5)]) (g := gName 5) (tt := tYes) rfl sc_groups_of.nd rfl rfl rfl (pi_range1 (by rfl) mr (pa_cons (pe_callB (cr_len (K := K)) (by rfl) ml PySem.boot_len (pa_cons (pv 0) pa_nil)) pa_nil))
          (blkOk_by (own := [("number", 5)]) (N := ["nodes", "groups", "node", "before", "looks", "number"]) (sc := defScope s_groups_of) (by decide +kernel)) (fun _ _ _ _ _ => pg_name (i := 5) sc_groups_of.nd rfl (Or.inl rfl)) (fun _ _ _ _ _ => pts_nil)
          (fun _ _ _ _ _ => pe_op (op_catTK (K := K)) (pe_tup (pa_cons (pe_ix (ixL (K := K)) (pv 1) (pv 5) (fun _ _ => rfl)) pa_nil)) (pc0 c2 hr (by decide) (pa_cons (pv 0) (pa_cons (pv 1) (pa_cons (pv 5) pa_nil))))))
        (pss_one (ps_set (i := 1) sc_groups_of.nd rfl (.inr rfl) (pc0 c1 hr (by decide) (pa_cons (pv 4) pa_nil)))))))
      (pss_one (ps_ret (pv 1))))), ?_⟩
    obtain ⟨ts, eq, htl, hts⟩ := hN.ex
    -- groups = grouped_by([node[0] for node in nodes])
    refine ⟨_, rfl, q, rfl, ⟨_, .inl (.inl eq)⟩, fun D hD => lc_all walk_list (fun i y _ => ∃ x, g[i]? = some x ∧ y = nV x.kind) hD (by rw [List.length_map]; omega) (fun H2 s2 => .inl (.inl (s2 _ _ eq))) (fun _ _ _ _ h _ => h) ?_ ?_⟩
    · rintro i y H2 H3 hi s2 ⟨rfl, hx⟩ Q2 Z hq
      obtain ⟨t, x, e1, rfl, e2⟩ := (hN.same s2).item (s2 _ _ eq) hx
      refine lc_in rfl ?_
      exact ⟨_, rfl, t, _, _, _, rfl, rfl, .inl (.inl e2), rfl, hq _ _ (Same.refl _) ⟨x, e1, rfl⟩⟩
    · intro H2 acc s2 eD hacc hr2
      rw [List.length_map, htl] at hacc
      refine ⟨D, rfl, .inl ⟨g.map fun x => x.kind, .inl (.inl ?_), by rw [List.length_map]; exact hl, fun H3 r s3 er => ?_⟩⟩
      · rw [eD, List.map_map]
        exact congrArg (fun z => some (HO.lst z)) (maps_of (f := fun x : Krk0.Node => nV x.kind) acc g hacc hr2)
      -- before = 0; the rounds
      refine ⟨fun m σ H' => ∃ (gs : List Nat) (before : Nat) (r : Addr) (y : Option V), σ = [some (.ref q), some (.ref r), none, some (nV before), y, none] ∧ Same H H' ∧ H' r = some (.lst (gs.map nV)) ∧ GrpAt g gs before ∧ m + before = g.length + 1 ∧ before ≤ g.length,
        ⟨g.length + 1, _, 0, r, none, rfl, s2.trans s3, er, .start g, rfl, Nat.zero_le _⟩, ?_⟩
      rintro m σ H4 ⟨gs, before, r4, y, rfl, s4, er4, hG, hm, hb⟩
      have hgl := hG.len
      have hne : 0 < (gs.map fun (n : Nat) => (n : Int)).length := by rw [List.length_map]; omega
      have hddl := dd_len gs
      refine ⟨_, rfl, r4, _, rfl, .inl (.inl (by rw [er4, nats_V])), hne, fun mx hmx hmax => ?_⟩
      have emx := max_nat hmx hmax hG.dense
      refine ⟨_, _, rfl, rfl, ⟨_, rfl, _, _, rfl, rfl, ⟨_, rfl, ?_⟩⟩⟩
      by_cases hlt : before < (dd gs).length
      case neg =>
        refine if_false_of (decide_eq_false (by omega)) ?_
        exact ⟨_, rfl, k H4 r4 gs s4 (hG.ends hok h1 (by omega)) er4⟩
      refine if_true_of (decide_eq_true (by omega)) ?_
      have eb : ((dd gs).length : Int) = mx + 1 := emx.symm
      refine ⟨fun σ' H' => ∃ (gs' : List Nat) (r : Addr) (y : Option V), σ' = [some (.ref q), some (.ref r), none, some (nV (dd gs).length), y, none] ∧ Same H H' ∧ H' r = some (.lst (gs'.map nV)) ∧ GrpAt g gs' (dd gs).length, ?_, ?_⟩
      · rintro σ' H' ⟨gs', r', y', e1, e2, e3, e4⟩
        exact ⟨g.length + 1 - (dd gs).length, by omega, gs', (dd gs).length, r', y', e1, e2, e3, e4, by omega, by omega⟩
      -- before = max(groups) + 1
      refine ⟨_, rfl, r4, _, rfl, .inl (.inl (by rw [er4, nats_V])), hne, fun mx2 hmx2 hmax2 => ?_⟩
      have emx2 := max_nat hmx2 hmax2 hG.dense
      refine ⟨_, _, rfl, rfl, ?_⟩
      show gName 3 (V.int (mx2 + 1)) _ _ _
      rw [emx2]
      -- looks
      have hN4 := hN.same s4
      obtain ⟨xs, hX, hxl⟩ := hN4.sq (K := K)
      refine ⟨_, rfl, q, _, rfl, .inl hX, _, rfl, by omega, by rw [hxl]; omega, fun D4 hD4 => ?_⟩
      rw [hxl]
      refine lc_all walk_range (fun j y H' => ∃ t, y = V.ref t ∧ H' t = some (.tup ((look4 g gs j).map nV))) hD4 (by omega) (fun _ _ => trivial) ?_ ?_ ?_
      · rintro j y2 H5 H6 ⟨t, rfl, e⟩ kp
        exact ⟨t, rfl, kp _ _ (fun _ z => nomatch z) e⟩
      · rintro j y2 H5 H6 hj s5 ⟨rfl, rfl⟩ Q2 Z hq
        have hj' : j < g.length := by omega
        refine lc_in rfl ?_
        refine ⟨_, rfl, _, rfl, r4, _, _, _, rfl, rfl, .inl (.inl (s5 _ _ er4)), (by rw [Int.zero_add]; exact atI_nat (map_get (get_lab (by omega)))), ?_⟩
        refine ⟨(by show 1 ≤ sizeLine; decide), fun t1 ht1 => ?_⟩
        have s6 := same_upd (o := .tup [nV (lab gs j)]) ht1
        have er6 := s6 _ _ (s5 _ _ er4)
        have e6 : upd H6 t1 (.tup [nV (lab gs j)]) t1 = some (.tup [nV (lab gs j)]) := upd_same
        refine ⟨_, rfl, _, rfl, _, rfl, q, r4, g, gs, j, ?_, (hN4.same s5).same s6, hok, er6, hgl, hj', fun H7 t2 s7 e7 => ?_⟩
        · show [V.ref q, V.ref r4, V.int (0 + (j : Int))] = _
          rw [Int.zero_add]
        · refine ⟨t1, t2, _, _, rfl, rfl, .inl (.inl (s7 _ _ e6)), .inl (.inl e7), (by simp), (by show 1 + 3 ≤ sizeLine; decide), (fun z => nomatch z), fun _ t3 ht3 => ?_⟩
          exact hq _ _ ((s6.trans s7).trans (same_upd ht3)) ⟨t3, rfl, upd_same⟩
      · intro H5 acc5 s5 eD5 hacc5 hr5
        have hacc' : acc5.length = ((List.range g.length).map (look4 g gs)).length := by
          rw [List.length_map, List.length_range]
          omega
        obtain ⟨ts5, ea, hP⟩ := tups_of (H := H5) acc5 ((List.range g.length).map (look4 g gs)) hacc' fun i y hy => by
          obtain ⟨t, e1, e2⟩ := hr5 i y hy
          have hi : i < g.length := by have := get_lt hy; omega
          exact ⟨t, _, look_get hi, e1, e2⟩
        refine ⟨_, rfl, D4, rfl, .inr ⟨ts5, _, .inl (.inl (by rw [eD5, ea])), hP, by rw [List.length_map, List.length_range]; exact hl, fun H6 r6 s6 er6 => ?_⟩⟩
        exact ⟨_, r6, _, rfl, (s4.trans s5).trans s6, er6, hG.turn hok⟩
end
/-! ### renumbered -/
section
variable {P : Program} {w : World} {K : PySem.W.Frag} {mg : Str → Option Value} {base : Heap}
theorem sc_renumbered : FnScope ["node", "groups", "numbers", "kind", "a", "b"] ["node", "groups", "numbers"] (defScope s_renumbered) := ⟨rfl, rfl, rfl, by decide +kernel, rfl, by decide +kernel, by decide +kernel⟩
def sp_renumbered : Sp := fun vs H Q _ => ∃ (t rg d : Addr) (g : Krk0.Graph) (gs row : List Nat) (i : Nat), vs = [.ref t, .ref rg, .ref d] ∧ i < g.length ∧ GOk g ∧ gs.length = g.length ∧
  H t = some (.tup [nV (Krk0.at_ g i).kind, nV (Krk0.at_ g i).a, nV (Krk0.at_ g i).b]) ∧ H rg = some (.lst (gs.map nV)) ∧ H d = some (.dK (entsL keyI (row.map (lab gs)))) ∧ (row.map (lab gs)).Nodup ∧
  (3 < (Krk0.at_ g i).kind → lab gs (Krk0.at_ g i).a ∈ row.map (lab gs) ∧ lab gs (Krk0.at_ g i).b ∈ row.map (lab gs)) ∧
  ∀ H' t', Same H H' → H' t' = some (.tup [nV (renum g gs row i).kind, nV (renum g gs row i).a, nV (renum g gs row i).b]) → Q (.ref t') H'
theorem ok_renumbered {f : Addr} {fd : FuncData} (F : Fun K "renumbered" "renumbered" s_renumbered f fd) (c1 : Cal CX0 P w K mg base 1 "is_inner" ["node"] sp_is_inner) : FnOk P w K mg base CX0 2 f fd ["node", "groups", "numbers"] sp_renumbered := by
  refine F.ok sc_renumbered (fun vs H Q E h => ?_) (fun cdv A outer s H vs Q E hr h => ?_)
  · obtain ⟨t, rg, d, g, gs, row, i, rfl, _⟩ := h
    rfl
  · obtain ⟨t, rg, d, g, gs, row, i, rfl, hi, hok, hgl, ht, er, ed, hnd, hcl, k⟩ := h
    refine ⟨_, pss_cons (ps_asg (pv 0) (pg_tup rfl (pgs_cons (pg_name (i := 3) sc_renumbered.nd rfl (.inl rfl)) (pgs_cons (pg_name (i := 4) sc_renumbered.nd rfl (.inl rfl)) (pgs_cons (pg_name (i := 5) sc_renumbered.nd rfl (.inl rfl)) pgs_nil)))))
      (pss_cons (ps_if (pt_not (pt_val (pc0 c1 hr (by decide) (pa_cons (pv 0) pa_nil)))) (pss_one (ps_ret (pv 0))) pss_nil)
        (pss_one (ps_ret (pe_tup (pa_cons (pv 3) (pa_cons (pe_dget (hu_of hr) (pv 2) (pe_ix ix_list (pv 1) (pv 4) (fun _ _ => rfl)) (fun _ _ => rfl)) (pa_cons (pe_dget (hu_of hr) (pv 2) (pe_ix ix_list (pv 1) (pv 5) (fun _ _ => rfl)) (fun _ _ => rfl)) pa_nil))))))), ?_⟩
    refine ⟨_, rfl, t, _, rfl, .inl (.inl ht), rfl, _, _, rfl, _, _, rfl, _, _, rfl, rfl, ?_⟩
    refine ⟨_, rfl, t, _, rfl, ht, ?_, fun H1 s1 => ?_⟩
    · by_cases hk : 3 < (Krk0.at_ g i).kind
      · exact (hok.inner hi hk).1
      · omega
    by_cases hk : 3 < (Krk0.at_ g i).kind
    · refine ⟨_, rfl, ?_⟩
      refine if_false_of (by rw [decide_eq_true hk]; rfl) ?_
      obtain ⟨_, ha, hb⟩ := hok.inner hi hk
      obtain ⟨ma, mb⟩ := hcl hk
      refine ⟨_, rfl, _, rfl, _, rfl, _, rfl, rg, _, _, _, rfl, rfl, .inl (.inl (s1 _ _ er)), atI_nat (map_get (get_lab (by omega))), d, _, rfl, dget_of (DGet.k (k := keyI (lab gs (Krk0.at_ g i).a)) (s1 _ _ ed)) (entsL_in keyI_inj hnd ma),
        _, rfl, _, rfl, _, rfl, rg, _, _, _, rfl, rfl, .inl (.inl (s1 _ _ er)), atI_nat (map_get (get_lab (by omega))), d, _, rfl, dget_of (DGet.k (k := keyI (lab gs (Krk0.at_ g i).b)) (s1 _ _ ed)) (entsL_in keyI_inj hnd mb), ?_⟩
      refine ⟨(by show 3 ≤ sizeLine; decide), fun p hp => ?_⟩
      refine k _ p (s1.trans (same_upd hp)) ?_
      rw [upd_same]
      unfold renum
      rw [if_neg (by omega)]
    · refine ⟨_, rfl, ?_⟩
      refine if_true_of (by rw [decide_eq_false hk]; rfl) ?_
      refine ⟨_, rfl, k H1 t s1 ?_⟩
      rw [s1 _ _ ht]
      unfold renum
      obtain ⟨ea, eb⟩ := hok.leaf hi (by omega)
      rw [if_pos (by omega), ea, eb]
end
/-! ### least_way -/
section
variable {P : Program} {w : World} {K : PySem.W.Frag} {mg : Str → Option Value} {base : Heap}
theorem sc_least_way : FnScope ["nodes", "start", "groups", "numbers", "row", "at", "inner", "number"] ["nodes", "start"] (defScope s_least_way) := ⟨rfl, rfl, rfl, by decide +kernel, rfl, by decide +kernel, by decide +kernel⟩
def sp_least_way : Sp := fun vs H Q _ => ∃ (q : Addr) (g : Krk0.Graph) (a : Nat), vs = [.ref q, nV a] ∧ NodesAt H q g ∧ GOk g ∧ 1 ≤ g.length ∧ g.length ≤ 1000 ∧ a < g.length ∧ ∀ H' r, Same H H' → (Krk0.least g a).length ≤ 1000 → NodesAt H' r (Krk0.least g a) → Q (.ref r) H'
/-- the dict at d and the row at r, made behind H, tell the row -/
structure LSt (H H' : Hp) (d r : Addr) (gs row : List Nat) : Prop where
  same : Same H H'
  nd : H d = none
  nr : H r = none
  ed : H' d = some (.dK (entsL keyI (row.map (lab gs))))
  er : H' r = some (.lst (row.map nV))
theorem LSt.later {H H1 H2 : Hp} {d r : Addr} {gs row : List Nat} (h : LSt H H1 d r gs row) (s : Same H1 H2) : LSt H H2 d r gs row := ⟨h.same.trans s, h.nd, h.nr, s _ _ h.ed, s _ _ h.er⟩
theorem ok_least_way {f : Addr} {fd : FuncData} (F : Fun K "least_way" "least_way" s_least_way f fd) (c1 : Cal CX0 P w K mg base 3 "groups_of" ["nodes"] sp_groups_of) (c2 : Cal CX0 P w K mg base 1 "is_inner" ["node"] sp_is_inner)
    (c3 : Cal CX0 P w K mg base 2 "renumbered" ["node", "groups", "numbers"] sp_renumbered) (ml : mg "len" = none) : FnOk P w K mg base CX0 4 f fd ["nodes", "start"] sp_least_way := by
  refine F.ok sc_least_way (fun vs H Q E h => ?_) (fun cdv A outer s H vs Q E hr h => ?_)
  · obtain ⟨q, g, a, rfl, _⟩ := h
    rfl
  · obtain ⟨q, g, a, rfl, hN, hok, h1, hl, ha, k⟩ := h
    refine ⟨_, pss_cons (ps_set (i := 2) sc_least_way.nd rfl (.inr rfl) (pc0 c1 hr (by decide) (pa_cons (pv 0) pa_nil)))
      (pss_cons (ps_set (i := 3) sc_least_way.nd rfl (.inr rfl) (pe_disp (pps_cons (pe_ix ix_list (pv 2) (pv 1) (fun _ _ => rfl)) pe_int pps_nil) rfl rfl (by simp) (by decide)))
      (pss_cons (ps_set (i := 4) sc_least_way.nd rfl (.inl rfl) (pe_lst (pa_cons (pv 1) pa_nil)))
      (pss_cons (ps_set (i := 5) sc_least_way.nd rfl (.inl rfl) pe_int)
      (pss_cons (ps_while PassesOwn.never (pt_cmpR op_lt (pv 5) (pe_callB (cr_len (K := K)) (by rfl) ml PySem.boot_len (pa_cons (pv 4) pa_nil)) (nomark _))
        (pss_cons (ps_if (pt_val (pc0 c2 hr (by decide) (pa_cons (pe_ix ix_list (pv 0) (pe_ix ix_list (pv 4) (pv 5) (fun _ _ => rfl)) (fun _ _ => rfl)) pa_nil)))
          (pss_one (ps_for PassesOwn.never rfl (pi_tup (pe_slice sl_tup (pe_ix ix_list (pv 0) (pe_ix ix_list (pv 4) (pv 5) (fun _ _ => rfl)) (fun _ _ => rfl)) (po_some pe_int) po_none)) (pg_name (i := 6) sc_least_way.nd rfl (.inl rfl))
            (pss_one (ps_if (pt_cmp (pc_dnotin (hu_of hr) (pe_ix ix_list (pv 2) (pv 6) (fun _ _ => rfl)) (pv 3)))
              (pss_cons (ps_dput (hu_of hr) (pv 3) (pe_ix ix_list (pv 2) (pv 6) (fun _ _ => rfl)) (pe_callB (cr_len (K := K)) (by rfl) ml PySem.boot_len (pa_cons (pv 4) pa_nil)) rfl)
                (pss_one (ps_expr (pe_bm PySem.F.plainAttrs_list PySem.F.slot_list_append PySem.F.type_list_append mt_append (pv 4) (pa_cons (pv 6) pa_nil))))) pss_nil)))) pss_nil)
        (pss_one (ps_set (i := 5) sc_least_way.nd rfl (.inl rfl) (pe_op op_add (pv 5) pe_int)))))
      (pss_one (ps_ret (pe_lc (own := [("number", 7)]) (g := gName 7) (tt := tYes) rfl sc_least_way.nd (pi_list (pv 4))
          (blkOk_by (own := [("number", 7)]) (N := ["nodes", "start", "groups", "numbers", "row", "at", "inner", "number"]) (sc := defScope s_least_way) (by decide +kernel)) (fun _ _ _ _ _ => pg_name (i := 7) sc_least_way.nd rfl (Or.inl rfl)) (fun _ _ _ _ _ => pts_nil)
          (fun _ _ _ _ _ => pc0 c3 hr (by decide) (pa_cons (pe_ix (ixL (K := K)) (pv 0) (pv 7) (fun _ _ => rfl)) (pa_cons (pv 2) (pa_cons (pv 3) pa_nil))))))))))), ?_⟩
    refine ⟨_, rfl, q, g, rfl, hN, hok, h1, hl, fun H1 rg gs s1 hT eg => ?_⟩
    have hgl := hT.1
    -- numbers = {groups[start]: 0}
    refine fun d hd => ?_
    have s2 := s1.trans (same_upd (o := .dK []) hd)
    have nd : H1 d = none := hd
    have eg2 := (same_upd (o := .dK []) hd) _ _ eg
    refine ⟨_, rfl, _, rfl, rg, _, _, _, rfl, rfl, .inl (.inl eg2), atI_nat (map_get (get_lab (by omega))), ?_⟩
    refine ⟨upd_same, [(keyI (lab gs a), nV 0)], rfl, (by show 1 ≤ 15; decide), ?_⟩
    have s3 : Same H1 (upd (upd H1 d (.dK [])) d (.dK (mergeK [] [(keyI (lab gs a), nV 0)]))) := same_new (same_upd hd) hd
    have ed3 : upd (upd H1 d (.dK [])) d (.dK (mergeK [] [(keyI (lab gs a), nV 0)])) d = some (.dK (entsL keyI ([a].map (lab gs)))) := by rw [upd_same]; rfl
    generalize upd (upd H1 d (.dK [])) d (.dK (mergeK [] [(keyI (lab gs a), nV 0)])) = H3 at s3 ed3
    -- row = [start]
    refine ⟨_, rfl, (by show 1 ≤ sizeLine; decide), fun r hr0 => ?_⟩
    have s4 := same_upd (o := .lst [nV a]) hr0
    have w0 : LSt H1 (upd H3 r (.lst [nV a])) d r gs [a] := ⟨s3.trans s4, nd, s3.free hr0, s4 _ _ ed3, upd_same⟩
    generalize upd H3 r (.lst [nV a]) = H4 at w0
    -- the walk
    have hN1 := hN.same s1
    refine ⟨fun m σ H' => ∃ (at' : Nat) (row : List Nat) (y6 : Option V), σ = [some (.ref q), some (nV a), some (.ref rg), some (.ref d), some (.ref r), some (nV at'), y6, none] ∧ LSt H1 H' d r gs row ∧ RowL g gs at' row ∧ at' ≤ row.length ∧ m + at' = g.length + 1 ∧
        Krk0.found g (Krk0.classes g) m at' (row.map (lab (Krk0.classes g))) = Krk0.found g (Krk0.classes g) (g.length + 1) 0 [lab (Krk0.classes g) a],
      ⟨g.length + 1, 0, [a], none, rfl, w0, ⟨fun z hz => by rw [List.mem_singleton.mp hz]; exact ha, by simp, fun j z hj => by omega⟩, Nat.zero_le _, rfl, rfl⟩, ?_⟩
    rintro m σ H5 ⟨at', row, y6, rfl, hW, hR, hat, hm, hf⟩
    have hRl := hR.len
    refine ⟨_, rfl, _, rfl, r, _, rfl, .inl (.inl (.inl hW.er)), _, _, rfl, rfl, _, rfl, ?_⟩
    rw [List.length_map]
    by_cases hlt : at' < row.length
    case neg =>
      refine if_false_of (decide_eq_false (by omega)) ?_
      have hleast := least_row hok h1 hT hR (by omega) hf
      refine ⟨_, rfl, r, rfl, ⟨_, .inl (.inl hW.er)⟩, fun D hD => lc_all walk_list (fun i y H' => ∃ (t : Addr) (z : Nat), row[i]? = some z ∧ y = V.ref t ∧ H' t = some (.tup [nV (renum g gs row z).kind, nV (renum g gs row z).a, nV (renum g gs row z).b])) hD (by rw [List.length_map]; omega) (fun H2 s2 => .inl (.inl (s2 _ _ hW.er))) ?_ ?_ ?_⟩
      · rintro i y H6 H7 ⟨t, z, e1, rfl, e2⟩ kp
        exact ⟨t, z, e1, rfl, kp _ _ (fun _ z => nomatch z) e2⟩
      · rintro i y H6 H7 hi s6 ⟨rfl, hx⟩ Q2 Z hq
        obtain ⟨z, hz, rfl⟩ := map_get_inv hx
        have hzl := hR.inn z (List.mem_of_getElem? hz)
        have sH := hW.same.trans s6
        obtain ⟨xs, t, hX, hxl, hatx, ht⟩ := (hN1.same sH).get (K := K) (Rt.get_at hzl)
        refine lc_in rfl ?_
        refine ⟨_, rfl, _, rfl, q, _, _, _, rfl, rfl, hX, hatx, _, rfl, _, rfl, t, rg, d, g, gs, row, z, rfl, hzl, hok, hgl, ht, sH _ _ eg, s6 _ _ hW.ed, hR.nd, fun hk => ?_, fun H8 t8 s8 e8 => ?_⟩
        · exact hR.clos i z (by have := get_lt hz; omega) hz hk
        · exact hq _ _ s8 ⟨t8, z, hz, rfl, e8⟩
      · intro H6 acc s6 eD hacc hr6
        rw [List.length_map] at hacc
        refine k H6 D ((s1.trans hW.same).trans s6) ?_ ?_
        · rw [hleast, List.length_map]
          omega
        · rw [hleast]
          refine NodesAt.of eD (by rw [List.length_map]; exact hacc) fun i y hy => ?_
          obtain ⟨t, z, e1, e2, e3⟩ := hr6 i y hy
          exact ⟨t, renum g gs row z, by rw [List.getElem?_map, e1]; rfl, e2, e3⟩
    refine if_true_of (decide_eq_true (by omega)) ?_
    obtain ⟨x, hx⟩ : ∃ x, row[at']? = some x := ⟨_, List.getElem?_eq_getElem hlt⟩
    obtain ⟨m, rfl⟩ : ∃ m', m = m' + 1 := ⟨m - 1, by omega⟩
    have hxl := hR.inn x (List.mem_of_getElem? hx)
    obtain ⟨hR', hat'⟩ := hR.turn hok hx
    rw [found_turn hok h1 hT hR.inn hx] at hf
    obtain ⟨xs, t, hX, hxsl, hatx, ht⟩ := (hN1.same hW.same).get (K := K) (Rt.get_at hxl)
    refine ⟨fun σ' H6 => ∃ (row' : List Nat) (y6 : Option V), σ' = [some (.ref q), some (nV a), some (.ref rg), some (.ref d), some (.ref r), some (nV (at' + 1)), y6, none] ∧ LSt H1 H6 d r gs row' ∧ row' = turnR g gs row x, ?_, ?_⟩
    · rintro σ' H6 ⟨row', z6, e1, e2, rfl⟩
      exact ⟨m, by omega, at' + 1, _, z6, e1, e2, hR', hat', by omega, hf⟩
    refine ⟨_, rfl, _, rfl, _, rfl, r, _, _, _, rfl, rfl, .inl (.inl hW.er), atI_nat (map_get hx), q, _, _, _, rfl, rfl, hX, hatx, t, _, rfl, ht, ?_, fun H6 s6 => ?_⟩
    · by_cases hk : 3 < (Krk0.at_ g x).kind
      · exact (hok.inner hxl hk).1
      · omega
    have W6 := hW.later s6
    by_cases hk : 3 < (Krk0.at_ g x).kind
    case neg =>
      refine ⟨_, rfl, ?_⟩
      refine if_false_of (decide_eq_false hk) ?_
      refine ⟨_, rfl, _, _, rfl, rfl, row, y6, rfl, W6, ?_⟩
      unfold turnR
      rw [if_pos (by omega)]
    refine ⟨_, rfl, ?_⟩
    refine if_true_of (decide_eq_true hk) ?_
    obtain ⟨_, ha1, hb1⟩ := hok.inner hxl hk
    -- nodes[row[at]][1:]
    refine ⟨_, rfl, _, rfl, _, rfl, r, _, _, _, rfl, rfl, .inl (.inl W6.er), atI_nat (map_get hx), q, _, _, _, rfl, rfl, s6.seq hX, hatx, 1, rfl, t, _, rfl, .inl (.inl (s6 _ _ ht)), (by show ¬ (HT.sIx 3 0 (some 1) = 0 ∧ HT.sIx 3 3 none = 3); decide), fun tt htt => ?_⟩
    have s7 := same_upd (o := .tup [nV (Krk0.at_ g x).a, nV (Krk0.at_ g x).b]) htt
    have ett7 : upd H6 tt (.tup (([(Krk0.at_ g x).a, (Krk0.at_ g x).b] : List Nat).map nV)) tt = some (.tup (([(Krk0.at_ g x).a, (Krk0.at_ g x).b] : List Nat).map nV)) := upd_same
    have nd6 : tt ≠ d := fun z => by rw [z, W6.ed] at htt; cases htt
    have nr6 : tt ≠ r := fun z => by rw [z, W6.er] at htt; cases htt
    refine ⟨tt, rfl, ⟨_, .inl (.inl ett7)⟩, for_it (walk_tup (xs := ([(Krk0.at_ g x).a, (Krk0.at_ g x).b] : List Nat).map nV)) (fun j σ' H' => ∃ (row' : List Nat) (y6 : Option V), σ' = [some (.ref q), some (nV a), some (.ref rg), some (.ref d), some (.ref r), some (nV at'), y6, none] ∧ LSt H1 H' d r gs row' ∧
        row' = (([(Krk0.at_ g x).a, (Krk0.at_ g x).b] : List Nat).take j).foldl (addR gs) row ∧ RowL g gs at' row' ∧ at' ≤ row'.length ∧ H' tt = some (.tup (([(Krk0.at_ g x).a, (Krk0.at_ g x).b] : List Nat).map nV)))
      ⟨row, y6, rfl, W6.later s7, rfl, hR, hat, ett7⟩ (fun j σ' H' _ h => let ⟨_, _, _, _, _, _, _, e⟩ := h; .inl (.inl e)) ?_ ?_⟩
    · rintro j y σ' H7 H8 hj ⟨row', z6, rfl, W', eR, hR7, hat7, ett⟩ ⟨rfl, hy⟩
      obtain ⟨z, hz, rfl⟩ := map_get_inv hy
      have hzl : z < g.length := by
        rcases List.mem_cons.mp (List.mem_of_getElem? hz) with e | e
        · rw [e]; exact ha1
        · rw [List.mem_singleton.mp e]; exact hb1
      have hR8 := hR7.add hat7 hzl
      have hat8 := addR_len (gs := gs) (row := row') (y := z)
      have hRl7 := hR7.len
      have e8 : addR gs row' z = (([(Krk0.at_ g x).a, (Krk0.at_ g x).b] : List Nat).take (j + 1)).foldl (addR gs) row := by
        rw [take_snoc hz, List.foldl_append, ← eR]
        rfl
      refine ⟨_, rfl, _, rfl, rg, _, _, _, rfl, rfl, .inl (.inl (W'.same _ _ eg)), atI_nat (map_get (get_lab (by omega))), _, rfl, d, _, rfl, DGet.k (k := keyI (lab gs z)) W'.ed, ?_⟩
      by_cases hm : lab gs z ∈ row'.map (lab gs)
      · rw [entsL_in keyI_inj hR7.nd hm]
        refine ⟨_, rfl, ?_⟩
        refine if_false_of rfl ?_
        have ea : addR gs row' z = row' := by unfold addR; rw [if_pos hm]
        exact ⟨row', _, rfl, W', by rw [← e8, ea], hR7, hat7, ett⟩
      · rw [entsL_out keyI_inj hm]
        refine ⟨_, rfl, ?_⟩
        refine if_true_of rfl ?_
        have ea : addR gs row' z = row' ++ [z] := by unfold addR; rw [if_neg hm]
        refine ⟨_, rfl, r, _, rfl, .inl (.inl (.inl W'.er)), _, rfl, _, rfl, _, rfl, rg, _, _, _, rfl, rfl, .inl (.inl (W'.same _ _ eg)), atI_nat (map_get (get_lab (by omega))), d, _, rfl, DPut.k (k := keyI (lab gs z)) W'.ed (slt1000 (by rw [entsL_len, List.length_map]; omega)), ?_⟩
        rw [entsL_put keyI_inj hm (by rw [List.length_map, List.length_map])]
        have hdr : d ≠ r := fun e => by have := W'.er; rw [← e, W'.ed] at this; cases this
        have er10 : upd H8 d (.dK (entsL keyI (row'.map (lab gs) ++ [lab gs z]))) r = some (.lst (row'.map nV)) := by rw [upd_ne (Ne.symm hdr)]; exact W'.er
        refine ⟨_, rfl, .inl ⟨rfl, _, .inl (.inl er10)⟩, _, rfl, r, _, _, rfl, rfl, er10, slt1000 (by rw [List.length_map]; omega), ?_⟩
        refine ⟨row' ++ [z], _, rfl, ⟨fun c o e => ?_, W'.nd, W'.nr, ?_, ?_⟩, by rw [← e8, ea], by rw [← ea]; exact hR8, by rw [← ea]; omega, ?_⟩
        · rw [upd_ne (ne_of_none e W'.nr), upd_ne (ne_of_none e W'.nd)]
          exact W'.same _ _ e
        · rw [upd_ne hdr, upd_same, List.map_append]
          rfl
        · rw [upd_same, List.map_append]
          rfl
        · rw [upd_ne nr6, upd_ne nd6]
          exact ett
    · rintro σ' H7 ⟨row', z6, rfl, W', eR, _, _, _⟩
      refine ⟨_, rfl, _, _, rfl, rfl, row', z6, rfl, W', ?_⟩
      rw [eR]
      unfold turnR
      rw [if_neg (by omega)]
      rfl
end
/-! ### asked_nodes -/
section
variable {P : Program} {w : World} {K : PySem.W.Frag} {mg : Str → Option Value} {base : Heap} {C : Addr}
theorem sc_asked_nodes : FnScope ["row", "numbers", "found"] ["row", "numbers"] (defScope s_asked_nodes) := ⟨rfl, rfl, rfl, by decide +kernel, rfl, by decide +kernel, by decide +kernel⟩
def sp_asked_nodes (K : PySem.W.Frag) (C : Addr) : Sp := fun vs H Q E => ∃ (p r : Addr) (l : List Nat) (g : Krk0.Graph) (ids : List Nat), vs = [.ref p, .ref r] ∧ SqL K H p (l.map nV) ∧ Krk0.graphOf l = some g ∧ l.length ≤ 1000 ∧ SqL K H r (ids.map nV) ∧ ids.length ≤ 1000 ∧
  (Krk0.graphOk g = true → there g.length ids = true → ∀ H' q, Same H H' → NodesAt H' q g → Q (.ref q) H') ∧ (Krk0.graphOk g = false → Er C (-71) H E) ∧ (Krk0.graphOk g = true → there g.length ids = false → Er C (-2) H E)
theorem ok_asked_nodes {f : Addr} {fd : FuncData} (F : Fun K "asked_nodes" "asked_nodes" s_asked_nodes f fd) (c1 : Cal (L2.CX P w) P w K mg base 4 "nodes_in" ["row"] (sp_nodes_in K C)) (c2 : Cal (L2.CX P w) P w K mg base 4 "must_be_there" ["nodes", "numbers"] (sp_must_be_there K C)) :
    FnOk P w K mg base (L2.CX P w) 5 f fd ["row", "numbers"] (sp_asked_nodes K C) := by
  refine F.okX sc_asked_nodes (fun vs H Q E h => ?_) (fun cdv A outer s H vs Q E hr h => ?_)
  · obtain ⟨p, r, l, g, ids, rfl, _⟩ := h
    rfl
  · obtain ⟨p, r, l, g, ids, rfl, hS, hg, hll, hI, hil, k1, k2, k3⟩ := h
    refine ⟨_, pss_cons (ps_set (i := 2) sc_asked_nodes.nd rfl (.inl rfl) (pcX c1 hr (by decide) (takes_of rfl rfl rfl rfl) (pa_cons (pv 0) pa_nil)))
      (pss_cons (ps_expr (pcX c2 hr (by decide) (takes_of rfl rfl rfl rfl) (pa_cons (pv 2) (pa_cons (pv 1) pa_nil))))
      (pss_one (ps_ret (pv 2)))), ?_⟩
    have hl3 := Rt.graphOf_len hg
    refine ⟨_, rfl, p, l, g, rfl, hS, hg, hll, fun hok H1 q s1 N1 => ?_, fun hok => k2 hok⟩
    refine ⟨_, rfl, _, rfl, q, r, g, ids, rfl, N1, by omega, s1.seq hI, hil, fun ht H2 s2 => ?_, fun ht => (k3 hok ht).mono s1⟩
    exact ⟨_, rfl, k1 hok ht H2 q (s1.trans s2) (N1.same s2)⟩
end
/-! ### both -/
section
variable {P : Program} {w : World} {K : PySem.W.Frag} {mg : Str → Option Value} {base : Heap} {C fI : Addr}
theorem sc_both : FnScope ["word", "a", "b", "row", "nodes", "refusal"] ["word", "a", "b", "row"] (defScope s_both) := ⟨rfl, rfl, rfl, by decide +kernel, rfl, by decide +kernel, by decide +kernel⟩
def bothF (v a b : Nat) (g : Krk0.Graph) : Krk0.Ans := if Krk0.mostBoth < g.length then Krk0.say (-28) else Krk0.tells (Krk0.typeAt g (codeS g.length v a b))
def due_both (l : List Nat) (v a b : Nat) : List Int := Krk0Neutral.told (Krk0.with_ l [a, b] (bothF v a b))
def sp_both (K : PySem.W.Frag) : Sp := fun vs H Q _ => ∃ (v a b : Nat) (p : Addr) (l : List Nat) (g : Krk0.Graph), vs = [nV v, nV a, nV b, .ref p] ∧ v ≤ 1 ∧ SqL K H p (l.map nV) ∧ Krk0.graphOf l = some g ∧ l.length ≤ 1000 ∧
  ∀ H' q, H' q = some (.lst ((due_both l v a b).map V.int)) → Q (.ref q) H'
theorem ok_both {f : Addr} {fd : FuncData} (F : Fun K "both" "both" s_both f fd) (low : PySem.LowX.LowTxt K mg C fI) (c1 : Cal (L2.CX P w) P w K mg base 5 "asked_nodes" ["row", "numbers"] (sp_asked_nodes K C))
    (c2 : Cal (L2.CX P w) P w K mg base 3 "must" ["so", "number"] (sp_must C)) (c3 : Cal CX0 P w K mg base 4 "nodes_of_both" ["nodes", "word", "a", "b"] sp_nodes_of_both) (c4 : Cal CX0 P w K mg base 4 "least_way" ["nodes", "start"] sp_least_way) (c5 : Cal CX0 P w K mg base 1 "told" ["nodes"] sp_told)
    (ml : mg "len" = none) (gM : Ki mg "MOST_BOTH" 10) (gT : Ki mg "TOO_MANY" (-28)) : FnOk P w K mg base CX0 6 f fd ["word", "a", "b", "row"] (sp_both K) := by
  refine F.ok sc_both (fun vs H Q E h => ?_) (fun cdv A outer s H vs Q E hr h => ?_)
  · obtain ⟨v, a, b, p, l, g, rfl, _⟩ := h
    rfl
  · obtain ⟨v, a, b, p, l, g, rfl, hv, hS, hg, hll, k⟩ := h
    refine ⟨_, pss_one (ps_try_as (i := 5) rfl rfl sc_both.nd rfl rfl ⟨rfl, by decide, Or.inl low.gC⟩ takes0
      (fun W pn xe tk _ => pss_cons (ps_set (i := 4) sc_both.nd rfl (.inl rfl) (pcX c1 hr (by decide) tk (pa_cons (pv 3) (pa_cons (pe_lst (pa_cons (pv 1) (pa_cons (pv 2) pa_nil))) pa_nil))))
        (pss_cons (ps_expr (pcX c2 hr (by decide) tk (pa_cons (pe_cmpR op_le (pe_callB (cr_len (K := K)) (by rfl) ml PySem.boot_len (pa_cons (pv 4) pa_nil)) (pgi gM) (nomark _)) (pa_cons (pgi gT) pa_nil))))
        (pss_one (ps_ret (pc0 c5 hr (by decide) (pa_cons (pc0 c4 hr (by decide) (pa_cons (pc0 c3 hr (by decide) (pa_cons (pv 4) (pa_cons (pv 0) (pa_cons (pv 1) (pa_cons (pv 2) pa_nil))))) (pa_cons pe_int pa_nil))) pa_nil))))))
      (fun a oe cls d pn hz hf => pss_one (ps_ret (pe_lst (pa_cons (pe_byLow low hz hf (pv 5)) pa_nil))))), ?_⟩
    have res : ∀ (n : Int) (H1 : Hp), due_both l v a b = [n] → ∀ q, H1 q = none → Q (.ref q) (upd H1 q (.lst [.int n])) := fun n H1 e q _ => k _ q (by rw [e, upd_same]; rfl)
    have fin : ∀ (n : Int) (d : Addr) (H1 : Hp) (σ : L2.St) (X : L2.St → Hp → Prop), σ.length = 6 → H1 d = some (.xd [(("number" : Str), .int n)]) → due_both l v a b = [n] → wAs K (.ref C) 5 (fun a cls d => tRet (tLst (tCons (tByLow C a cls d (tVar 5)) tNil))) (fun _ _ _ _ => False) { nx := X, rt := Q } (.ref C) (some d) σ H1 := by
      intro n d H1 σ X hσ e1 e
      refine ⟨true, low.te, fun _ a0 _ => ?_, fun z => Bool.noConfusion z⟩
      refine ⟨_, List.getElem?_set_self (by omega), rfl, rfl, d, _, rfl, e1, (by show 1 ≤ sizeLine; decide), res _ H1 e⟩
    refine ⟨_, rfl, _, rfl, _, rfl, (by show 2 ≤ sizeLine; decide), fun r0 hr0 => ?_⟩
    have s1 := same_upd (o := .lst [nV a, nV b]) hr0
    refine ⟨p, r0, l, g, [a, b], rfl, s1.seq hS, hg, hll, .inl (.inl upd_same), by simp, fun hok ht H2 q s2 N2 => ?_, fun hok => ?_, fun hok ht => ?_⟩
    · have hwith := Rt.with_ok (f := bothF v a b) hg hok ht
      rw [there2, Bool.and_eq_true, decide_eq_true_eq, decide_eq_true_eq] at ht
      have hgl := Rt.ok_len hok
      obtain ⟨xs, hX, hxl⟩ := N2.sq (K := K)
      refine ⟨_, rfl, q, _, rfl, .inl hX, _, _, rfl, rfl, ?_⟩
      by_cases h10 : g.length ≤ 10
      case neg =>
        refine ⟨_, -28, rfl, fun e => ?_, fun e => ?_⟩
        · exact absurd (of_decide_eq_true e) (by omega)
        · intro d H3 s3 e3
          refine fin _ d H3 _ _ rfl e3 ?_
          unfold due_both
          rw [hwith]
          unfold bothF
          rw [if_pos (show Krk0.mostBoth < g.length by show 10 < _; omega)]
          rfl
      refine ⟨_, -28, rfl, fun e => ?_, fun e => ?_⟩
      case refine_2 => exact absurd (of_decide_eq_false e) (by omega)
      refine ⟨_, rfl, _, rfl, _, rfl, _, rfl, q, g, v, a, b, rfl, N2, gok_of hok, h10, hv, ht.1, ht.2, fun H3 r3 row n s3 hR hn hl3 N3 => ?_⟩
      obtain ⟨hG, hpos, hleast⟩ := both_least (gok_of hok) hv ht.1 ht.2 hR hn
      refine ⟨r3, _, 0, rfl, N3, hG, by rw [stG_len]; exact hpos, by rw [stG_len]; omega, by rw [stG_len]; omega, fun H4 r4 s4 hl4 N4 => ?_⟩
      refine ⟨r4, _, rfl, N4, hl4, fun H5 r5 e5 => k H5 r5 ?_⟩
      rw [e5]
      unfold due_both
      rw [hwith]
      unfold bothF
      rw [if_neg (show ¬ Krk0.mostBoth < g.length by show ¬ 10 < _; omega), hleast]
    · intro d H1 s1 e1
      refine fin _ d H1 _ _ rfl e1 ?_
      unfold due_both
      rw [Rt.with_bad hg hok]
      rfl
    · intro d H1 s1 e1
      refine fin _ d H1 _ _ rfl e1 ?_
      unfold due_both
      rw [Rt.with_no hg hok ht]
      rfl
end
/-! ### meet -/
section
variable {P : Program} {w : World} {K : PySem.W.Frag} {mg : Str → Option Value} {base : Heap}
theorem sc_meet : FnScope ["a", "b", "nodes"] ["a", "b", "nodes"] (defScope s_meet) := ⟨rfl, rfl, rfl, by decide +kernel, rfl, by decide +kernel, by decide +kernel⟩
def due_meet (l : List Nat) (a b : Nat) : List Int := Krk0Neutral.told (Krk0.act (.meet l a b))
def sp_meet (K : PySem.W.Frag) : Sp := fun vs H Q _ => ∃ (a b : Nat) (p : Addr) (l : List Nat) (g : Krk0.Graph), vs = [nV a, nV b, .ref p] ∧ SqL K H p (l.map nV) ∧ Krk0.graphOf l = some g ∧ l.length ≤ 1000 ∧
  ∀ H' q, H' q = some (.lst ((due_meet l a b).map V.int)) → Q (.ref q) H'
theorem ok_meet {f : Addr} {fd : FuncData} (F : Fun K "meet" "meet" s_meet f fd) (c1 : Cal CX0 P w K mg base 6 "both" ["word", "a", "b", "row"] (sp_both K)) (gJ : Ki mg "MEET" 1) : FnOk P w K mg base CX0 7 f fd ["a", "b", "nodes"] (sp_meet K) := by
  refine F.ok sc_meet (fun vs H Q E h => ?_) (fun cdv A outer s H vs Q E hr h => ?_)
  · obtain ⟨a, b, p, l, g, rfl, _⟩ := h
    rfl
  · obtain ⟨a, b, p, l, g, rfl, hS, hg, hll, k⟩ := h
    refine ⟨_, pss_one (ps_ret (pc0 c1 hr (by decide) (pa_cons (pgi gJ) (pa_cons (pv 0) (pa_cons (pv 1) (pa_cons (pv 2) pa_nil)))))), ?_⟩
    exact ⟨_, rfl, _, rfl, _, rfl, 1, a, b, p, l, g, rfl, by decide, hS, hg, hll, fun H1 r e => k H1 r e⟩
end
/-! ### the end -/
theorem exm_self {K : PySem.W.Frag} {S : Addr} (h1 : PySem.W.subIn K (.ref S) (.type "BaseException") = some true) (h2 : PySem.W.isClsIn K S = true) (h3 : PySem.W.typeIn K (.ref S) = some (.type "type")) (h4 : PySem.W.subIn K (.ref S) (.ref S) = some true) :
    PySem.W.exmOne K (.ref S) (.ref S) = some true := by
  have e1 : (PySem.W.subIn K (.ref S) (.type "BaseException") == some true) = true := by rw [h1] <;> rfl
  have e2 : ((PySem.W.clsIn K S).isSome && PySem.W.typeIn K (.ref S) == some (.type "type")) = true := by
    have h2' : (PySem.W.clsIn K S).isSome = true := h2
    rw [h2', h3] <;> rfl
  show (if (PySem.W.subIn K (.ref S) (.type "BaseException") == some true) = true then (if ((PySem.W.clsIn K S).isSome && PySem.W.typeIn K (.ref S) == some (.type "type")) = true then PySem.W.subIn K (.ref S) (.ref S) else none) else none) = some true
  rw [if_pos e1, if_pos e2]
  exact h4
theorem all_mk {P : Program} {w : World} {K : PySem.W.Frag} {h : Heap} {mg : Str → Option Value} {fa C fi : Addr} (X : K.In h) (G : h.Ns mainGlobals mg) (hfa : mg "meet" = some (.ref fa))
    {nm q : Str} {N : Addr} {bs : List Value} {sn : List Str} {sub : List Value} {ab : Bool} {col : Option Bool} {dd : Option Addr} {m0 m1 m2 m3 m5 : Option Value}
    {odi ani : Option Addr} {sli : Array (Option Value)} {oci dci pmi cdi cti : Value}
    {f0 : Addr} {od0 an0 : Option Addr} {sl0 : Array (Option Value)} {oc0 kV0 dc0 pm0 cd0 ct0 : Value}
    {f1 : Addr} {od1 an1 : Option Addr} {sl1 : Array (Option Value)} {oc1 kV1 dc1 pm1 cd1 ct1 : Value}
    {f2 : Addr} {od2 an2 : Option Addr} {sl2 : Array (Option Value)} {oc2 kV2 dc2 pm2 cd2 ct2 : Value}
    {f3 : Addr} {od3 an3 : Option Addr} {sl3 : Array (Option Value)} {oc3 kV3 dc3 pm3 cd3 ct3 : Value}
    {f4 : Addr} {od4 an4 : Option Addr} {sl4 : Array (Option Value)} {oc4 kV4 dc4 pm4 cd4 ct4 : Value}
    {f5 : Addr} {od5 an5 : Option Addr} {sl5 : Array (Option Value)} {oc5 kV5 dc5 pm5 cd5 ct5 : Value}
    {f6 : Addr} {od6 an6 : Option Addr} {sl6 : Array (Option Value)} {oc6 kV6 dc6 pm6 cd6 ct6 : Value}
    {f7 : Addr} {od7 an7 : Option Addr} {sl7 : Array (Option Value)} {oc7 kV7 dc7 pm7 cd7 ct7 : Value}
    {f8 : Addr} {od8 an8 : Option Addr} {sl8 : Array (Option Value)} {oc8 kV8 dc8 pm8 cd8 ct8 : Value}
    {f9 : Addr} {od9 an9 : Option Addr} {sl9 : Array (Option Value)} {oc9 kV9 dc9 pm9 cd9 ct9 : Value}
    {f10 : Addr} {od10 an10 : Option Addr} {sl10 : Array (Option Value)} {oc10 kV10 dc10 pm10 cd10 ct10 : Value}
    {f11 : Addr} {od11 an11 : Option Addr} {sl11 : Array (Option Value)} {oc11 kV11 dc11 pm11 cd11 ct11 : Value}
    {f12 : Addr} {od12 an12 : Option Addr} {sl12 : Array (Option Value)} {oc12 kV12 dc12 pm12 cd12 ct12 : Value}
    {f13 : Addr} {od13 an13 : Option Addr} {sl13 : Array (Option Value)} {oc13 kV13 dc13 pm13 cd13 ct13 : Value}
    {f14 : Addr} {od14 an14 : Option Addr} {sl14 : Array (Option Value)} {oc14 kV14 dc14 pm14 cd14 ct14 : Value}
    {f15 : Addr} {od15 an15 : Option Addr} {sl15 : Array (Option Value)} {oc15 kV15 dc15 pm15 cd15 ct15 : Value}
    {f16 : Addr} {od16 an16 : Option Addr} {sl16 : Array (Option Value)} {oc16 kV16 dc16 pm16 cd16 ct16 : Value}
    {f17 : Addr} {od17 an17 : Option Addr} {sl17 : Array (Option Value)} {oc17 kV17 dc17 pm17 cd17 ct17 : Value}
    {f18 : Addr} {od18 an18 : Option Addr} {sl18 : Array (Option Value)} {oc18 kV18 dc18 pm18 cd18 ct18 : Value}
    {f19 : Addr} {od19 an19 : Option Addr} {sl19 : Array (Option Value)} {oc19 kV19 dc19 pm19 cd19 ct19 : Value}
    {u_PAIR : Tok}
    {u_CHOICE : Tok}
    {u_FUNCTION : Tok}
    {u_MOST_NODES : Tok}
    {u_NO_NODES : Tok}
    {u_NO_NODE : Tok}
    {u_JOIN : Tok}
    {u_LEAF : Tok}
    {u_ANYTHING : Tok}
    {u_NOTHING : Tok}
    {u_ALONE : Tok}
    {u_MOST_BOTH : Tok}
    {u_TOO_MANY : Tok}
    {u_MEET : Tok}
    (aC : PySem.W.nsIn K mainGlobals "Refused" = some (some (.ref C)))
    (xL : K.lookup C = some (excClassObj nm q C N bs [.type "ValueError", .type "Exception", .type "BaseException", .type "object"] true sn sub ab col dd m0 m1 m2 m3 m5 "ValueError.__new__"))
    (sa : PySem.W.findIn K (.ref C) "__setattr__" = some (some (.builtin "object.__setattr__"))) (ga : PySem.W.findIn K (.ref C) "__getattribute__" = some (some (.builtin "BaseException.__getattribute__"))) (gg : PySem.W.findIn K (.ref C) "__getattr__" = some none) (nb : PySem.W.findIn K (.ref C) "number" = some none)
    (ai : PySem.W.findIn K (.ref C) "__init__" = some (some (.ref fi))) (ti : PySem.W.typeIn K (.ref fi) = some (.type "function"))
    (li : K.lookup fi = some ⟨oci, odi, .func (PySem.W.fnOf "__init__" "Refused.__init__" (PySem.LowX.iA ⟨13, 17, 13, 21⟩ ⟨13, 23, 13, 29⟩) (PySem.LowX.iB ⟨14, 8, 14, 12⟩ ⟨14, 8, 14, 19⟩ ⟨14, 22, 14, 28⟩ ⟨14, 8, 14, 28⟩) PySem.LowX.iS .none .none dci pmi ani cdi cti), sli⟩) (ci : PySem.W.codeIn K cdi "Refused.__init__" = true)
    (kC : PySem.W.keepIn K (.ref C) = true) (eC : PySem.W.subIn K (.ref C) (.type "BaseException") = some true) (tC : PySem.W.typeIn K (.ref C) = some (.type "type")) (hC : PySem.W.hasDictIn K C = true) (iC : PySem.W.isClsIn K C = true) (sC : PySem.W.subIn K (.ref C) (.ref C) = some true)
    (a0 : PySem.W.nsIn K mainGlobals "must" = some (some (.ref f0))) (l0 : K.lookup f0 = some ⟨oc0, od0, .func (PySem.W.fnOf "must" "must" (defArgs s_must) (defBody s_must) (defScope s_must) .none kV0 dc0 pm0 an0 cd0 ct0), sl0⟩) (c0 : PySem.W.codeIn K cd0 "must" = true) (k0 : PySem.W.keepIn K (.ref f0) = true)
    (a1 : PySem.W.nsIn K mainGlobals "is_node" = some (some (.ref f1))) (l1 : K.lookup f1 = some ⟨oc1, od1, .func (PySem.W.fnOf "is_node" "is_node" (defArgs s_is_node) (defBody s_is_node) (defScope s_is_node) .none kV1 dc1 pm1 an1 cd1 ct1), sl1⟩) (c1 : PySem.W.codeIn K cd1 "is_node" = true) (k1 : PySem.W.keepIn K (.ref f1) = true)
    (a2 : PySem.W.nsIn K mainGlobals "nodes_in" = some (some (.ref f2))) (l2 : K.lookup f2 = some ⟨oc2, od2, .func (PySem.W.fnOf "nodes_in" "nodes_in" (defArgs s_nodes_in) (defBody s_nodes_in) (defScope s_nodes_in) .none kV2 dc2 pm2 an2 cd2 ct2), sl2⟩) (c2 : PySem.W.codeIn K cd2 "nodes_in" = true) (k2 : PySem.W.keepIn K (.ref f2) = true)
    (a3 : PySem.W.nsIn K mainGlobals "must_be_there" = some (some (.ref f3))) (l3 : K.lookup f3 = some ⟨oc3, od3, .func (PySem.W.fnOf "must_be_there" "must_be_there" (defArgs s_must_be_there) (defBody s_must_be_there) (defScope s_must_be_there) .none kV3 dc3 pm3 an3 cd3 ct3), sl3⟩) (c3 : PySem.W.codeIn K cd3 "must_be_there" = true) (k3 : PySem.W.keepIn K (.ref f3) = true)
    (a4 : PySem.W.nsIn K mainGlobals "told" = some (some (.ref f4))) (l4 : K.lookup f4 = some ⟨oc4, od4, .func (PySem.W.fnOf "told" "told" (defArgs s_told) (defBody s_told) (defScope s_told) .none kV4 dc4 pm4 an4 cd4 ct4), sl4⟩) (c4 : PySem.W.codeIn K cd4 "told" = true) (k4 : PySem.W.keepIn K (.ref f4) = true)
    (a5 : PySem.W.nsIn K mainGlobals "leaf_of" = some (some (.ref f5))) (l5 : K.lookup f5 = some ⟨oc5, od5, .func (PySem.W.fnOf "leaf_of" "leaf_of" (defArgs s_leaf_of) (defBody s_leaf_of) (defScope s_leaf_of) .none kV5 dc5 pm5 an5 cd5 ct5), sl5⟩) (c5 : PySem.W.codeIn K cd5 "leaf_of" = true) (k5 : PySem.W.keepIn K (.ref f5) = true)
    (a6 : PySem.W.nsIn K mainGlobals "weak_of" = some (some (.ref f6))) (l6 : K.lookup f6 = some ⟨oc6, od6, .func (PySem.W.fnOf "weak_of" "weak_of" (defArgs s_weak_of) (defBody s_weak_of) (defScope s_weak_of) .none kV6 dc6 pm6 an6 cd6 ct6), sl6⟩) (c6 : PySem.W.codeIn K cd6 "weak_of" = true) (k6 : PySem.W.keepIn K (.ref f6) = true)
    (a7 : PySem.W.nsIn K mainGlobals "state_of" = some (some (.ref f7))) (l7 : K.lookup f7 = some ⟨oc7, od7, .func (PySem.W.fnOf "state_of" "state_of" (defArgs s_state_of) (defBody s_state_of) (defScope s_state_of) .none kV7 dc7 pm7 an7 cd7 ct7), sl7⟩) (c7 : PySem.W.codeIn K cd7 "state_of" = true) (k7 : PySem.W.keepIn K (.ref f7) = true)
    (a8 : PySem.W.nsIn K mainGlobals "kind_of" = some (some (.ref f8))) (l8 : K.lookup f8 = some ⟨oc8, od8, .func (PySem.W.fnOf "kind_of" "kind_of" (defArgs s_kind_of) (defBody s_kind_of) (defScope s_kind_of) .none kV8 dc8 pm8 an8 cd8 ct8), sl8⟩) (c8 : PySem.W.codeIn K cd8 "kind_of" = true) (k8 : PySem.W.keepIn K (.ref f8) = true)
    (a9 : PySem.W.nsIn K mainGlobals "inner_states" = some (some (.ref f9))) (l9 : K.lookup f9 = some ⟨oc9, od9, .func (PySem.W.fnOf "inner_states" "inner_states" (defArgs s_inner_states) (defBody s_inner_states) (defScope s_inner_states) .none kV9 dc9 pm9 an9 cd9 ct9), sl9⟩) (c9 : PySem.W.codeIn K cd9 "inner_states" = true) (k9 : PySem.W.keepIn K (.ref f9) = true)
    (a10 : PySem.W.nsIn K mainGlobals "nodes_of_both" = some (some (.ref f10))) (l10 : K.lookup f10 = some ⟨oc10, od10, .func (PySem.W.fnOf "nodes_of_both" "nodes_of_both" (defArgs s_nodes_of_both) (defBody s_nodes_of_both) (defScope s_nodes_of_both) .none kV10 dc10 pm10 an10 cd10 ct10), sl10⟩) (c10 : PySem.W.codeIn K cd10 "nodes_of_both" = true) (k10 : PySem.W.keepIn K (.ref f10) = true)
    (a11 : PySem.W.nsIn K mainGlobals "is_inner" = some (some (.ref f11))) (l11 : K.lookup f11 = some ⟨oc11, od11, .func (PySem.W.fnOf "is_inner" "is_inner" (defArgs s_is_inner) (defBody s_is_inner) (defScope s_is_inner) .none kV11 dc11 pm11 an11 cd11 ct11), sl11⟩) (c11 : PySem.W.codeIn K cd11 "is_inner" = true) (k11 : PySem.W.keepIn K (.ref f11) = true)
    (a12 : PySem.W.nsIn K mainGlobals "look_of" = some (some (.ref f12))) (l12 : K.lookup f12 = some ⟨oc12, od12, .func (PySem.W.fnOf "look_of" "look_of" (defArgs s_look_of) (defBody s_look_of) (defScope s_look_of) .none kV12 dc12 pm12 an12 cd12 ct12), sl12⟩) (c12 : PySem.W.codeIn K cd12 "look_of" = true) (k12 : PySem.W.keepIn K (.ref f12) = true)
    (a13 : PySem.W.nsIn K mainGlobals "grouped_by" = some (some (.ref f13))) (l13 : K.lookup f13 = some ⟨oc13, od13, .func (PySem.W.fnOf "grouped_by" "grouped_by" (defArgs s_grouped_by) (defBody s_grouped_by) (defScope s_grouped_by) .none kV13 dc13 pm13 an13 cd13 ct13), sl13⟩) (c13 : PySem.W.codeIn K cd13 "grouped_by" = true) (k13 : PySem.W.keepIn K (.ref f13) = true)
    (a14 : PySem.W.nsIn K mainGlobals "groups_of" = some (some (.ref f14))) (l14 : K.lookup f14 = some ⟨oc14, od14, .func (PySem.W.fnOf "groups_of" "groups_of" (defArgs s_groups_of) (defBody s_groups_of) (defScope s_groups_of) .none kV14 dc14 pm14 an14 cd14 ct14), sl14⟩) (c14 : PySem.W.codeIn K cd14 "groups_of" = true) (k14 : PySem.W.keepIn K (.ref f14) = true)
    (a15 : PySem.W.nsIn K mainGlobals "least_way" = some (some (.ref f15))) (l15 : K.lookup f15 = some ⟨oc15, od15, .func (PySem.W.fnOf "least_way" "least_way" (defArgs s_least_way) (defBody s_least_way) (defScope s_least_way) .none kV15 dc15 pm15 an15 cd15 ct15), sl15⟩) (c15 : PySem.W.codeIn K cd15 "least_way" = true) (k15 : PySem.W.keepIn K (.ref f15) = true)
    (a16 : PySem.W.nsIn K mainGlobals "renumbered" = some (some (.ref f16))) (l16 : K.lookup f16 = some ⟨oc16, od16, .func (PySem.W.fnOf "renumbered" "renumbered" (defArgs s_renumbered) (defBody s_renumbered) (defScope s_renumbered) .none kV16 dc16 pm16 an16 cd16 ct16), sl16⟩) (c16 : PySem.W.codeIn K cd16 "renumbered" = true) (k16 : PySem.W.keepIn K (.ref f16) = true)
    (a17 : PySem.W.nsIn K mainGlobals "asked_nodes" = some (some (.ref f17))) (l17 : K.lookup f17 = some ⟨oc17, od17, .func (PySem.W.fnOf "asked_nodes" "asked_nodes" (defArgs s_asked_nodes) (defBody s_asked_nodes) (defScope s_asked_nodes) .none kV17 dc17 pm17 an17 cd17 ct17), sl17⟩) (c17 : PySem.W.codeIn K cd17 "asked_nodes" = true) (k17 : PySem.W.keepIn K (.ref f17) = true)
    (a18 : PySem.W.nsIn K mainGlobals "both" = some (some (.ref f18))) (l18 : K.lookup f18 = some ⟨oc18, od18, .func (PySem.W.fnOf "both" "both" (defArgs s_both) (defBody s_both) (defScope s_both) .none kV18 dc18 pm18 an18 cd18 ct18), sl18⟩) (c18 : PySem.W.codeIn K cd18 "both" = true) (k18 : PySem.W.keepIn K (.ref f18) = true)
    (a19 : PySem.W.nsIn K mainGlobals "meet" = some (some (.ref f19))) (l19 : K.lookup f19 = some ⟨oc19, od19, .func (PySem.W.fnOf "meet" "meet" (defArgs s_meet) (defBody s_meet) (defScope s_meet) .none kV19 dc19 pm19 an19 cd19 ct19), sl19⟩) (c19 : PySem.W.codeIn K cd19 "meet" = true) (k19 : PySem.W.keepIn K (.ref f19) = true)
    (n_PAIR : PySem.W.nsIn K mainGlobals "PAIR" = some (some (.int (4) u_PAIR)))
    (n_CHOICE : PySem.W.nsIn K mainGlobals "CHOICE" = some (some (.int (5) u_CHOICE)))
    (n_FUNCTION : PySem.W.nsIn K mainGlobals "FUNCTION" = some (some (.int (6) u_FUNCTION)))
    (n_MOST_NODES : PySem.W.nsIn K mainGlobals "MOST_NODES" = some (some (.int (32) u_MOST_NODES)))
    (n_NO_NODES : PySem.W.nsIn K mainGlobals "NO_NODES" = some (some (.int (-71) u_NO_NODES)))
    (n_NO_NODE : PySem.W.nsIn K mainGlobals "NO_NODE" = some (some (.int (-2) u_NO_NODE)))
    (n_JOIN : PySem.W.nsIn K mainGlobals "JOIN" = some (some (.int (0) u_JOIN)))
    (n_LEAF : PySem.W.nsIn K mainGlobals "LEAF" = some (some (.int (3) u_LEAF)))
    (n_ANYTHING : PySem.W.nsIn K mainGlobals "ANYTHING" = some (some (.int (1) u_ANYTHING)))
    (n_NOTHING : PySem.W.nsIn K mainGlobals "NOTHING" = some (some (.int (0) u_NOTHING)))
    (n_ALONE : PySem.W.nsIn K mainGlobals "ALONE" = some (some (.int (2) u_ALONE)))
    (n_MOST_BOTH : PySem.W.nsIn K mainGlobals "MOST_BOTH" = some (some (.int (10) u_MOST_BOTH)))
    (n_TOO_MANY : PySem.W.nsIn K mainGlobals "TOO_MANY" = some (some (.int (-28) u_TOO_MANY)))
    (n_MEET : PySem.W.nsIn K mainGlobals "MEET" = some (some (.int (1) u_MEET)))
    (z_range : PySem.W.nsIn K mainGlobals "range" = some none)
    (z_len : PySem.W.nsIn K mainGlobals "len" = some none)
    (z_all : PySem.W.nsIn K mainGlobals "all" = some none)
    (z_tuple : PySem.W.nsIn K mainGlobals "tuple" = some none)
    (z_max : PySem.W.nsIn K mainGlobals "max" = some none)
    : ∃ fd : FuncData, (∀ (s : Shared) (us : List Value), us.length = (["a", "b", "nodes"] : List Str).length → BindsTo s fd ⟨us, []⟩ ((["a", "b", "nodes"] : List Str).zip us)) ∧ ∀ base : Heap, K.In base → base.Ns mainGlobals mg → FnOk P w K mg base CX0 7 fa fd ["a", "b", "nodes"] (sp_meet K) := by
  have e := hfa.symm.trans (PySem.W.mg_of X G a19)
  cases e
  have low : PySem.LowX.LowTxt K mg C fi :=
    { gC := PySem.W.mg_of X G aC, cls := ⟨nm, q, N, bs, _, sn, sub, ab, col, dd, m0, m1, m2, m3, m5, xL, by decide +kernel⟩, sa := sa, ga := ga, gg := gg, noN := nb, iC := ai, tC := ti, kC := kC, exC := eC, tyC := tC, hdC := hC, te := exm_self eC iC tC sC,
      fn := ⟨_, _, _, _, _, _, _, _, _, _, _, _, _, _, li, ci⟩ }
  refine ⟨PySem.W.fnOf "meet" "meet" (defArgs s_meet) (defBody s_meet) (defScope s_meet) .none kV19 dc19 pm19 an19 cd19 ct19, fun s us hu => match us, hu with | [_, _, _], _ => .of_eq rfl, fun base _ _ => ?_⟩
  have F0 := fun_mk (st := s_must) l0 c0 k0
  have C_must : Cal (L2.CX P w) P w K mg base 3 "must" ["so", "number"] (sp_must C) := ⟨_, _, PySem.W.mg_of X G a0, k0, ok_must F0 low, F0.binds fun _ _ _ _ _ _ us hl => match us, hl with | [_, _], _ => rfl⟩
  have F1 := fun_mk (st := s_is_node) l1 c1 k1
  have C_is_node : Cal CX0 P w K mg base 1 "is_node" ["node", "many"] sp_is_node := ⟨_, _, PySem.W.mg_of X G a1, k1, ok_is_node F1 ⟨_, PySem.W.mg_of X G n_PAIR⟩ ⟨_, PySem.W.mg_of X G n_CHOICE⟩ ⟨_, PySem.W.mg_of X G n_FUNCTION⟩, F1.binds fun _ _ _ _ _ _ us hl => match us, hl with | [_, _], _ => rfl⟩
  have F2 := fun_mk (st := s_nodes_in) l2 c2 k2
  have C_nodes_in : Cal (L2.CX P w) P w K mg base 4 "nodes_in" ["row"] (sp_nodes_in K C) := ⟨_, _, PySem.W.mg_of X G a2, k2, ok_nodes_in F2 C_must C_is_node (PySem.W.mg_none_of X G z_range) (PySem.W.mg_none_of X G z_len) (PySem.W.mg_none_of X G z_all) ⟨_, PySem.W.mg_of X G n_MOST_NODES⟩ ⟨_, PySem.W.mg_of X G n_NO_NODES⟩, F2.binds fun _ _ _ _ _ _ us hl => match us, hl with | [_], _ => rfl⟩
  have F3 := fun_mk (st := s_must_be_there) l3 c3 k3
  have C_must_be_there : Cal (L2.CX P w) P w K mg base 4 "must_be_there" ["nodes", "numbers"] (sp_must_be_there K C) := ⟨_, _, PySem.W.mg_of X G a3, k3, ok_must_be_there F3 C_must (PySem.W.mg_none_of X G z_len) (PySem.W.mg_none_of X G z_all) ⟨_, PySem.W.mg_of X G n_NO_NODE⟩, F3.binds fun _ _ _ _ _ _ us hl => match us, hl with | [_, _], _ => rfl⟩
  have F4 := fun_mk (st := s_told) l4 c4 k4
  have C_told : Cal CX0 P w K mg base 1 "told" ["nodes"] sp_told := ⟨_, _, PySem.W.mg_of X G a4, k4, ok_told F4 (PySem.W.mg_none_of X G z_len), F4.binds fun _ _ _ _ _ _ us hl => match us, hl with | [_], _ => rfl⟩
  have F5 := fun_mk (st := s_leaf_of) l5 c5 k5
  have C_leaf_of : Cal CX0 P w K mg base 1 "leaf_of" ["word"] sp_leaf_of := ⟨_, _, PySem.W.mg_of X G a5, k5, ok_leaf_of F5 ⟨_, PySem.W.mg_of X G n_JOIN⟩ ⟨_, PySem.W.mg_of X G n_LEAF⟩ ⟨_, PySem.W.mg_of X G n_ANYTHING⟩ ⟨_, PySem.W.mg_of X G n_NOTHING⟩, F5.binds fun _ _ _ _ _ _ us hl => match us, hl with | [_], _ => rfl⟩
  have F6 := fun_mk (st := s_weak_of) l6 c6 k6
  have C_weak_of : Cal CX0 P w K mg base 1 "weak_of" ["word"] sp_weak_of := ⟨_, _, PySem.W.mg_of X G a6, k6, ok_weak_of F6 ⟨_, PySem.W.mg_of X G n_JOIN⟩ ⟨_, PySem.W.mg_of X G n_ANYTHING⟩ ⟨_, PySem.W.mg_of X G n_NOTHING⟩, F6.binds fun _ _ _ _ _ _ us hl => match us, hl with | [_], _ => rfl⟩
  have F7 := fun_mk (st := s_state_of) l7 c7 k7
  have C_state_of : Cal CX0 P w K mg base 2 "state_of" ["nodes", "word", "x", "y"] sp_state_of := ⟨_, _, PySem.W.mg_of X G a7, k7, ok_state_of F7 C_weak_of C_leaf_of ⟨_, PySem.W.mg_of X G n_ALONE⟩ ⟨_, PySem.W.mg_of X G n_PAIR⟩ ⟨_, PySem.W.mg_of X G n_CHOICE⟩ ⟨_, PySem.W.mg_of X G n_FUNCTION⟩, F7.binds fun _ _ _ _ _ _ us hl => match us, hl with | [_, _, _, _], _ => rfl⟩
  have F8 := fun_mk (st := s_kind_of) l8 c8 k8
  have C_kind_of : Cal CX0 P w K mg base 1 "kind_of" ["nodes", "state"] sp_kind_of := ⟨_, _, PySem.W.mg_of X G a8, k8, ok_kind_of F8 ⟨_, PySem.W.mg_of X G n_LEAF⟩, F8.binds fun _ _ _ _ _ _ us hl => match us, hl with | [_, _], _ => rfl⟩
  have F9 := fun_mk (st := s_inner_states) l9 c9 k9
  have C_inner_states : Cal CX0 P w K mg base 3 "inner_states" ["nodes", "state"] sp_inner_states := ⟨_, _, PySem.W.mg_of X G a9, k9, ok_inner_states F9 C_kind_of C_state_of ⟨_, PySem.W.mg_of X G n_ALONE⟩ ⟨_, PySem.W.mg_of X G n_PAIR⟩ ⟨_, PySem.W.mg_of X G n_CHOICE⟩ ⟨_, PySem.W.mg_of X G n_FUNCTION⟩, F9.binds fun _ _ _ _ _ _ us hl => match us, hl with | [_, _], _ => rfl⟩
  have F10 := fun_mk (st := s_nodes_of_both) l10 c10 k10
  have C_nodes_of_both : Cal CX0 P w K mg base 4 "nodes_of_both" ["nodes", "word", "a", "b"] sp_nodes_of_both := ⟨_, _, PySem.W.mg_of X G a10, k10, ok_nodes_of_both F10 C_state_of C_inner_states C_kind_of (PySem.W.mg_none_of X G z_len) (PySem.W.mg_none_of X G z_tuple), F10.binds fun _ _ _ _ _ _ us hl => match us, hl with | [_, _, _, _], _ => rfl⟩
  have F11 := fun_mk (st := s_is_inner) l11 c11 k11
  have C_is_inner : Cal CX0 P w K mg base 1 "is_inner" ["node"] sp_is_inner := ⟨_, _, PySem.W.mg_of X G a11, k11, ok_is_inner F11 ⟨_, PySem.W.mg_of X G n_PAIR⟩ ⟨_, PySem.W.mg_of X G n_CHOICE⟩ ⟨_, PySem.W.mg_of X G n_FUNCTION⟩, F11.binds fun _ _ _ _ _ _ us hl => match us, hl with | [_], _ => rfl⟩
  have F12 := fun_mk (st := s_look_of) l12 c12 k12
  have C_look_of : Cal CX0 P w K mg base 2 "look_of" ["nodes", "groups", "number"] sp_look_of := ⟨_, _, PySem.W.mg_of X G a12, k12, ok_look_of F12 C_is_inner, F12.binds fun _ _ _ _ _ _ us hl => match us, hl with | [_, _, _], _ => rfl⟩
  have F13 := fun_mk (st := s_grouped_by) l13 c13 k13
  have C_grouped_by : Cal CX0 P w K mg base 1 "grouped_by" ["looks"] (sp_grouped_by K) := ⟨_, _, PySem.W.mg_of X G a13, k13, ok_grouped_by F13 (PySem.W.mg_none_of X G z_len), F13.binds fun _ _ _ _ _ _ us hl => match us, hl with | [_], _ => rfl⟩
  have F14 := fun_mk (st := s_groups_of) l14 c14 k14
  have C_groups_of : Cal CX0 P w K mg base 3 "groups_of" ["nodes"] sp_groups_of := ⟨_, _, PySem.W.mg_of X G a14, k14, ok_groups_of F14 C_grouped_by C_look_of (PySem.W.mg_none_of X G z_range) (PySem.W.mg_none_of X G z_len) (PySem.W.mg_none_of X G z_max), F14.binds fun _ _ _ _ _ _ us hl => match us, hl with | [_], _ => rfl⟩
  have F16 := fun_mk (st := s_renumbered) l16 c16 k16
  have C_renumbered : Cal CX0 P w K mg base 2 "renumbered" ["node", "groups", "numbers"] sp_renumbered := ⟨_, _, PySem.W.mg_of X G a16, k16, ok_renumbered F16 C_is_inner, F16.binds fun _ _ _ _ _ _ us hl => match us, hl with | [_, _, _], _ => rfl⟩
  have F15 := fun_mk (st := s_least_way) l15 c15 k15
  have C_least_way : Cal CX0 P w K mg base 4 "least_way" ["nodes", "start"] sp_least_way := ⟨_, _, PySem.W.mg_of X G a15, k15, ok_least_way F15 C_groups_of C_is_inner C_renumbered (PySem.W.mg_none_of X G z_len), F15.binds fun _ _ _ _ _ _ us hl => match us, hl with | [_, _], _ => rfl⟩
  have F17 := fun_mk (st := s_asked_nodes) l17 c17 k17
  have C_asked_nodes : Cal (L2.CX P w) P w K mg base 5 "asked_nodes" ["row", "numbers"] (sp_asked_nodes K C) := ⟨_, _, PySem.W.mg_of X G a17, k17, ok_asked_nodes F17 C_nodes_in C_must_be_there, F17.binds fun _ _ _ _ _ _ us hl => match us, hl with | [_, _], _ => rfl⟩
  have F18 := fun_mk (st := s_both) l18 c18 k18
  have C_both : Cal CX0 P w K mg base 6 "both" ["word", "a", "b", "row"] (sp_both K) := ⟨_, _, PySem.W.mg_of X G a18, k18, ok_both F18 low C_asked_nodes C_must C_nodes_of_both C_least_way C_told (PySem.W.mg_none_of X G z_len) ⟨_, PySem.W.mg_of X G n_MOST_BOTH⟩ ⟨_, PySem.W.mg_of X G n_TOO_MANY⟩, F18.binds fun _ _ _ _ _ _ us hl => match us, hl with | [_, _, _, _], _ => rfl⟩
  have F19 := fun_mk (st := s_meet) l19 c19 k19
  exact ok_meet F19 C_both ⟨_, PySem.W.mg_of X G n_MEET⟩
theorem nat_list : ∀ (ns : List Int), (∀ z ∈ ns, 0 ≤ z) → ns.map V.int = (ns.map Int.toNat).map nV
  | [], _ => rfl
  | z :: r, h => by
    have e : ((z.toNat : Nat) : Int) = z := Int.toNat_of_nonneg (h z List.mem_cons_self)
    rw [List.map_cons, List.map_cons, List.map_cons, nat_list r fun y hy => h y (List.mem_cons_of_mem _ hy)]
    show _ = V.int ((z.toNat : Nat) : Int) :: _
    rw [e]
theorem natural_nn {z : Int} (h : Krk0Neutral.natural z 32 = true) : 0 ≤ z := by
  unfold Krk0Neutral.natural at h
  rw [Bool.and_eq_true, decide_eq_true_eq] at h
  exact h.1
theorem naturals_nn {ns : List Int} (h : ns.all (fun (z : Int) => Krk0Neutral.natural z 32) = true) : ∀ z ∈ ns, 0 ≤ z := fun z hz => natural_nn (List.all_eq_true.mp h z hz)
theorem int_V {z : Int} (h : 0 ≤ z) : V.int z = nV z.toNat := by
  show _ = V.int ((z.toNat : Nat) : Int)
  rw [Int.toNat_of_nonneg h]
end Rt
open PySem PySem.W PyProof.Rows
set_option maxRecDepth 100000 in
set_option maxHeartbeats 8000000 in
theorem PySem.Challenge.cw_roundtypesworks_s05_meet_holds : PySem.Challenge.rw_roundtypesworks_s05_meet.Holds := by
  w_on; k_headS; (case hw => exact ⟨[.int 0, .int 0, .list []], by decide +kernel, by decide +kernel⟩)
  k_fillS
  refine L2.walk_specK (r := PySem.Challenge.rw_roundtypesworks_s05_meet) (k := 7) (CX := L2.CX0) (ps := ["a", "b", "nodes"]) (sp := fun K => Rt.sp_meet K) (by decide +kernel) rfl rfl ⟨rfl, by decide, by decide⟩ (fun w h Y => PySem.W.kIn_of Y) ?F ?S (fun _ _ _ _ z => z)
  case F =>
    intro w mg fa h Y KX G hmg
    refine' Rt.all_mk KX G hmg ?aC ?xL ?sa ?ga ?gg ?nb ?ai ?ti ?li ?ci ?kC ?eC ?tC ?hC ?iC ?sC ?a0 ?l0 ?c0 ?k0 ?a1 ?l1 ?c1 ?k1 ?a2 ?l2 ?c2 ?k2 ?a3 ?l3 ?c3 ?k3 ?a4 ?l4 ?c4 ?k4 ?a5 ?l5 ?c5 ?k5 ?a6 ?l6 ?c6 ?k6 ?a7 ?l7 ?c7 ?k7 ?a8 ?l8 ?c8 ?k8 ?a9 ?l9 ?c9 ?k9 ?a10 ?l10 ?c10 ?k10 ?a11 ?l11 ?c11 ?k11 ?a12 ?l12 ?c12 ?k12 ?a13 ?l13 ?c13 ?k13 ?a14 ?l14 ?c14 ?k14 ?a15 ?l15 ?c15 ?k15 ?a16 ?l16 ?c16 ?k16 ?a17 ?l17 ?c17 ?k17 ?a18 ?l18 ?c18 ?k18 ?a19 ?l19 ?c19 ?k19 ?n_PAIR ?n_CHOICE ?n_FUNCTION ?n_MOST_NODES ?n_NO_NODES ?n_NO_NODE ?n_JOIN ?n_LEAF ?n_ANYTHING ?n_NOTHING ?n_ALONE ?n_MOST_BOTH ?n_TOO_MANY ?n_MEET ?z_range ?z_len ?z_all ?z_tuple ?z_max
    (case aC => k_is)
    (case xL => k_is)
    (case sa => k_is)
    (case ga => k_is)
    (case gg => k_is)
    (case nb => k_is)
    (case ai => k_is)
    (case ti => k_is)
    (case li => k_is)
    (case ci => k_is)
    (case kC => k_is)
    (case eC => k_is)
    (case tC => k_is)
    (case hC => k_is)
    (case iC => k_is)
    (case sC => first | rfl | k_is)
    (case a0 => k_is)
    (case l0 => k_is)
    (case c0 => k_is)
    (case k0 => k_is)
    (case a1 => k_is)
    (case l1 => k_is)
    (case c1 => k_is)
    (case k1 => k_is)
    (case a2 => k_is)
    (case l2 => k_is)
    (case c2 => k_is)
    (case k2 => k_is)
    (case a3 => k_is)
    (case l3 => k_is)
    (case c3 => k_is)
    (case k3 => k_is)
    (case a4 => k_is)
    (case l4 => k_is)
    (case c4 => k_is)
    (case k4 => k_is)
    (case a5 => k_is)
    (case l5 => k_is)
    (case c5 => k_is)
    (case k5 => k_is)
    (case a6 => k_is)
    (case l6 => k_is)
    (case c6 => k_is)
    (case k6 => k_is)
    (case a7 => k_is)
    (case l7 => k_is)
    (case c7 => k_is)
    (case k7 => k_is)
    (case a8 => k_is)
    (case l8 => k_is)
    (case c8 => k_is)
    (case k8 => k_is)
    (case a9 => k_is)
    (case l9 => k_is)
    (case c9 => k_is)
    (case k9 => k_is)
    (case a10 => k_is)
    (case l10 => k_is)
    (case c10 => k_is)
    (case k10 => k_is)
    (case a11 => k_is)
    (case l11 => k_is)
    (case c11 => k_is)
    (case k11 => k_is)
    (case a12 => k_is)
    (case l12 => k_is)
    (case c12 => k_is)
    (case k12 => k_is)
    (case a13 => k_is)
    (case l13 => k_is)
    (case c13 => k_is)
    (case k13 => k_is)
    (case a14 => k_is)
    (case l14 => k_is)
    (case c14 => k_is)
    (case k14 => k_is)
    (case a15 => k_is)
    (case l15 => k_is)
    (case c15 => k_is)
    (case k15 => k_is)
    (case a16 => k_is)
    (case l16 => k_is)
    (case c16 => k_is)
    (case k16 => k_is)
    (case a17 => k_is)
    (case l17 => k_is)
    (case c17 => k_is)
    (case k17 => k_is)
    (case a18 => k_is)
    (case l18 => k_is)
    (case c18 => k_is)
    (case k18 => k_is)
    (case a19 => k_is)
    (case l19 => k_is)
    (case c19 => k_is)
    (case k19 => k_is)
    (case n_PAIR => k_is)
    (case n_CHOICE => k_is)
    (case n_FUNCTION => k_is)
    (case n_MOST_NODES => k_is)
    (case n_NO_NODES => k_is)
    (case n_NO_NODE => k_is)
    (case n_JOIN => k_is)
    (case n_LEAF => k_is)
    (case n_ANYTHING => k_is)
    (case n_NOTHING => k_is)
    (case n_ALONE => k_is)
    (case n_MOST_BOTH => k_is)
    (case n_TOO_MANY => k_is)
    (case n_MEET => k_is)
    (case z_range => k_is)
    (case z_len => k_is)
    (case z_all => k_is)
    (case z_tuple => k_is)
    (case z_max => k_is)
  case S =>
    intro K H xs a hO hwi hask hx
    obtain ⟨x0, x1, x2, u⟩ := a
    cases hx with
    | cons h0 t0 =>
    cases t0 with
    | cons h1 t1 =>
    cases t1 with
    | cons h2 t2 =>
    cases t2
    cases h0
    cases h1
    cases h2 with
    | lst hs2 ha2 =>
    have e2 := L2.ints_dw x2 _ ha2
    subst e2
    have q : PyKrk0.meet_asked x0 x1 x2 = true := hask
    have q' : (Krk0Neutral.natural x0 32 && Krk0Neutral.natural x1 32 && x2.all (fun (z : Int) => Krk0Neutral.natural z 32) && x2.length % 3 == 0 && decide (x2.length < 768)) = true := q
    simp only [Bool.and_eq_true, decide_eq_true_eq, beq_iff_eq] at q'
    obtain ⟨⟨⟨⟨q0, q1⟩, q2⟩, q3⟩, q4⟩ := q'
    obtain ⟨g, hg⟩ := Rt.graphOf_some (x2.length / 3) (x2.map Int.toNat) (by rw [List.length_map]; omega)
    refine ⟨x0.toNat, x1.toNat, _, x2.map Int.toNat, g, by rw [Rt.int_V (Rt.natural_nn q0), Rt.int_V (Rt.natural_nn q1)], by rw [← Rt.nat_list x2 (Rt.naturals_nn q2)]; exact hs2, hg, by rw [List.length_map]; omega, fun H' p hp => ?_⟩
    exact .lst (L2.SqL.of hp) (L2.dw_ints _)
#print axioms PySem.Challenge.cw_roundtypesworks_s05_meet_holds
