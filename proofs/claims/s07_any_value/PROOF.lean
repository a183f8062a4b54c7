import PyProof.Rows.All
import Wide.All
import OpenK.AllK
import Wide.FinOn
import PyProof.EqAt
import PyProof.EqKinds
import PyProof.TupleCall
import Open.SpecLaws
import KE.OsGo
import HandS.ForSpec
import HandS.Comp
import HandS.Dict
import HandS.Iter
import HandS.Walk
import PySem.Challenge.RW_roundtypesworks_s07_any_value
set_option Elab.async false
set_option linter.all false
set_option maxRecDepth 100000
set_option maxHeartbeats 4000000
namespace Rt
open Krk0
theorem graphOf_len : ∀ {l : List Nat} {g : Graph}, graphOf l = some g → l.length = 3 * g.length
  | [], g, h => by
    have e : ([] : Graph) = g := Option.some.inj h
    subst e
    rfl
  | [_], g, h => by simp [graphOf] at h
  | [_, _], g, h => by simp [graphOf] at h
  | k :: a :: b :: l, g, h => by
    rw [graphOf] at h
    cases e : graphOf l with
    | none => rw [e] at h; simp at h
    | some g' =>
      rw [e] at h
      simp only [Option.map_some, Option.some.injEq] at h
      subst h
      have ih := graphOf_len e
      simp only [List.length_cons]
      omega
theorem graphOf_get : ∀ {l : List Nat} {g : Graph} {i : Nat} {x : Node}, graphOf l = some g → g[i]? = some x → l[3 * i]? = some x.kind ∧ l[3 * i + 1]? = some x.a ∧ l[3 * i + 2]? = some x.b
  | [], g, i, x, h, hx => by
    have e : ([] : Graph) = g := Option.some.inj h
    subst e
    simp at hx
  | [_], g, i, x, h, hx => by simp [graphOf] at h
  | [_, _], g, i, x, h, hx => by simp [graphOf] at h
  | k :: a :: b :: l, g, i, x, h, hx => by
    rw [graphOf] at h
    cases e : graphOf l with
    | none => rw [e] at h; simp at h
    | some g' =>
      rw [e] at h
      simp only [Option.map_some, Option.some.injEq] at h
      subst h
      cases i with
      | zero =>
        simp only [List.getElem?_cons_zero, Option.some.injEq] at hx
        subst hx
        exact ⟨rfl, rfl, rfl⟩
      | succ i =>
        simp only [List.getElem?_cons_succ] at hx
        have ih := graphOf_get e hx
        have e1 : 3 * (i + 1) = 3 * i + 1 + 1 + 1 := by omega
        have e2 : 3 * (i + 1) + 1 = 3 * i + 1 + 1 + 1 + 1 := by omega
        have e3 : 3 * (i + 1) + 2 = 3 * i + 2 + 1 + 1 + 1 := by omega
        rw [e3, e2, e1]
        simp only [List.getElem?_cons_succ]
        exact ih
theorem graphOf_some : ∀ (n : Nat) (l : List Nat), l.length = 3 * n → ∃ g, graphOf l = some g
  | 0, [], _ => ⟨[], rfl⟩
  | 0, _ :: _, h => by simp at h
  | n + 1, [], h => by simp at h
  | n + 1, [_], h => by simp at h; omega
  | n + 1, [_, _], h => by simp at h; omega
  | n + 1, k :: a :: b :: l, h => by
    simp only [List.length_cons] at h
    obtain ⟨g, hg⟩ := graphOf_some n l (by omega)
    exact ⟨⟨k, a, b⟩ :: g, by rw [graphOf, hg]; rfl⟩
/-- a node that is right, by its parts -/
theorem ok_get {g : Graph} (h : graphOk g = true) {i : Nat} {x : Node} (hx : g[i]? = some x) : nodeOk g.length x = true := by
  unfold graphOk at h
  simp only [Bool.and_eq_true, List.all_eq_true] at h
  exact h.2.2 x (List.mem_of_getElem? hx)
theorem ok_len {g : Graph} (h : graphOk g = true) : 1 ≤ g.length ∧ g.length ≤ 32 := by
  unfold graphOk at h
  simp only [Bool.and_eq_true, decide_eq_true_eq] at h
  exact ⟨h.1, h.2.1⟩
theorem nodeOk_leaf {n : Nat} {x : Node} (h : nodeOk n x = true) (hk : x.kind ≤ 3) : x.a = 0 ∧ x.b = 0 := by
  unfold nodeOk at h
  rw [if_pos hk] at h
  simpa using h
theorem nodeOk_inner {n : Nat} {x : Node} (h : nodeOk n x = true) (hk : 3 < x.kind) : x.kind ≤ 6 ∧ x.a < n ∧ x.b < n := by
  unfold nodeOk at h
  rw [if_neg (by omega)] at h
  simpa using h
theorem at_get {g : Graph} {i : Nat} {x : Node} (h : g[i]? = some x) : at_ g i = x := by
  unfold at_
  rw [List.getD_eq_getElem?_getD, h]
  rfl
theorem get_at {g : Graph} {i : Nat} (h : i < g.length) : g[i]? = some (at_ g i) := by
  rw [List.getElem?_eq_getElem h]
  congr 1
  exact (at_get (List.getElem?_eq_getElem h)).symm
/-- with_, by cases of what it asks -/
theorem with_bad {l nodes : List Nat} {f : Graph → Ans} {g : Graph} (h : graphOf l = some g) (hb : graphOk g = false) : with_ l nodes f = say (-71) := by
  unfold with_
  rw [h]
  exact if_pos hb
theorem with_no {l nodes : List Nat} {f : Graph → Ans} {g : Graph} (h : graphOf l = some g) (hb : graphOk g = true) (hn : nodes.all (fun i => decide (i < g.length)) = false) : with_ l nodes f = say (-2) := by
  unfold with_
  rw [h]
  show (if graphOk g = false then say (-71) else if nodes.all (fun i => decide (i < g.length)) = false then say (-2) else f g) = _
  rw [if_neg (by rw [hb]; decide), if_pos hn]
theorem with_ok {l nodes : List Nat} {f : Graph → Ans} {g : Graph} (h : graphOf l = some g) (hb : graphOk g = true) (hn : nodes.all (fun i => decide (i < g.length)) = true) : with_ l nodes f = f g := by
  unfold with_
  rw [h]
  show (if graphOk g = false then say (-71) else if nodes.all (fun i => decide (i < g.length)) = false then say (-2) else f g) = _
  rw [if_neg (by rw [hb]; decide), if_neg (by rw [hn]; decide)]
end Rt
namespace Rt
open Krk0
def fillAt (c : List Bool) (x : Node) : Bool := match x.kind with
  | 1 => true
  | 2 => true
  | 3 => true
  | 4 => c.getD x.a false && c.getD x.b false
  | 5 => c.getD x.a false || c.getD x.b false
  | _ => false
theorem filled_map (g : Graph) (c : List Bool) : filled g c = g.map (fillAt c) := rfl
theorem filled_len (g : Graph) (c : List Bool) : (filled g c).length = g.length := by rw [filled_map, List.length_map]
/-- the rounds, one more behind -/
def fillN (g : Graph) : Nat → List Bool
  | 0 => g.map fun _ => false
  | k + 1 => filled g (fillN g k)
theorem fillN_len (g : Graph) : ∀ k, (fillN g k).length = g.length
  | 0 => by rw [fillN, List.length_map]
  | k + 1 => filled_len _ _
theorem fill_from (g : Graph) : ∀ (f k : Nat), fill g f (fillN g k) = fillN g (k + f)
  | 0, k => rfl
  | f + 1, k => by
    show fill g f (fillN g (k + 1)) = _
    rw [fill_from g f (k + 1)]
    congr 1
    omega
theorem any_eq (g : Graph) (i : Nat) : Krk0.any g i = (fillN g g.length).getD i false := by
  have e := fill_from g g.length 0
  rw [Nat.zero_add] at e
  show (fill g g.length (g.map fun _ => false)).getD i false = _
  rw [← e]
  rfl
end Rt
namespace PySem
namespace LowX
open PySem.W PySem.Calls PyProof.Rows PySem.HandSPX
/-! ### the text of __init__ -/
def iA (p1 p2 : Pos) : Arguments := { posonlyargs := [], args := [{ arg := "self", annotation := none, pos := p1 }, { arg := "number", annotation := none, pos := p2 }], vararg := none, kwonlyargs := [], kw_defaults := [], kwarg := none, defaults := [] }
def iB (q1 q2 q3 q4 : Pos) : List Stmt := [.Assign [.Attribute (.Name "self" q1) "number" q2] (.Name "number" q3) q4]
def iS : Scope := { kind := .function, names := [(PySem.Str.ofString "self", .local), (PySem.Str.ofString "number", .local)], isGenerator := false, isCoroutine := false, more := [] }
/-- what the written part says of Low, at C, and of its __init__, at fI -/
structure LowTxt (K : Frag) (mg : Str → Option Value) (C fI : Addr) : Prop where
  gC : mg "Refused" = some (.ref C)
  cls : ∃ nm q N bs bm sn sub ab col dd k0 k1 k2 k3 k5, K.lookup C = some (excClassObj nm q C N bs bm true sn sub ab col dd k0 k1 k2 k3 k5 "ValueError.__new__") ∧ refsVE bm = true
  sa : findIn K (.ref C) "__setattr__" = some (some (.builtin "object.__setattr__"))
  ga : findIn K (.ref C) "__getattribute__" = some (some (.builtin "BaseException.__getattribute__"))
  gg : findIn K (.ref C) "__getattr__" = some none
  noN : findIn K (.ref C) "number" = some none
  iC : findIn K (.ref C) "__init__" = some (some (.ref fI))
  tC : typeIn K (.ref fI) = some (.type "function")
  kC : keepIn K (.ref C) = true
  exC : subIn K (.ref C) (.type "BaseException") = some true
  tyC : typeIn K (.ref C) = some (.type "type")
  hdC : hasDictIn K C = true
  te : exmOne K (.ref C) (.ref C) = some true
  fn : ∃ (oc : Value) (od : Option Addr) (doc pm : Value) (an : Option Addr) (cdv ct : Value) (osl : Array (Option Value)) (p1 p2 q1 q2 q3 q4 : Pos),
    K.lookup fI = some ⟨oc, od, .func (fnOf "__init__" "Refused.__init__" (iA p1 p2) (iB q1 q2 q3 q4) iS .none .none doc pm an cdv ct), osl⟩ ∧ codeIn K cdv "Refused.__init__" = true
theorem one_size (v : Value) : [v].length ≤ sizeLine := by
  rw [sizeLine_eq]
  exact (by decide : 1 ≤ 16777216)
theorem kept_but {K : Frag} {h h' : Heap} {x : Addr} (X : K.In h) (hx : K.lookup x = none) (k : ∀ b o, b ≠ x → h.get? b = some o → h'.get? b = some o) : K.In h' := fun a o e =>
  k a o (fun z => by rw [z, hx] at e; cases e) (X a o e)
theorem ldC {M : Model} {s : Shared} {name : Str} {scope : Scope} {L a : Addr} {cd : Value} {m : Str → Option Value} {x : Str} {pos : Pos} {v : Value} {Q : Value → Shared → Prop} {A : Around} {E : Value → Shared → Prop} (hn : s.heap.Ns L m) (hv : m x = some v) (h : Q v s)
    (hk : scope.kind = .function := by rfl) (hl : (envOfC name scope L a cd).kindOf x = some .local := by rfl) (hd : (x == ("__debug__" : Str)) = false := by decide) :
    wpAny M A (eval (.Name x pos) (envOfC name scope L a cd)) Q E s := wpAny_Name (wpAny_loadName_local hk hl hn hv h) hd
/-- what __init__ leaves of a fresh exception at x -/
structure InitEnd (h h' : Heap) (x C dx t1 : Addr) (v : Value) : Prop where
  keep : ∀ b o, b ≠ x → h.get? b = some o → h'.get? b = some o
  obj : h'.get? x = some { cls := .ref C, dict := some dx, data := .fields #[.ref t1, .none, .none, .none, .bool false, .none] }
  dbig : h.objs.size ≤ dx
  dne : dx ≠ x
  ns : h'.Ns1 dx (fun y => if y = "number" then some v else none)
/-- a made Low -/
structure OwnMade (h h' : Heap) (e C d : Addr) (v : Value) : Prop where
  keep : ∀ b o, h.get? b = some o → h'.get? b = some o
  new : h.objs.size ≤ e
  obj : ∃ oe vs, h'.get? e = some oe ∧ oe.cls = .ref C ∧ oe.dict = some d ∧ oe.data = .fields vs ∧ vs[1]? = some .none
  dbig : h.objs.size ≤ d
  dne : d ≠ e
  ns : h'.Ns1 d (fun y => if y = "number" then some v else none)
section
variable {prog : Program} {w : World} {A : Around} {E : Value → Shared → Prop} {R : Result → Shared → Prop} {s : Shared} {K : Frag} {mg : Str → Option Value} {C fI : Addr}
theorem low_init (T : LowTxt K mg C fI) {x t0 : Addr} {v : Value} (X : K.In s.heap) (hlim : s.heap.NoLimit) (hx : s.heap.get? x = some (excO C t0)) (hnx : K.lookup x = none) (hroom : A.depth < recursionLimit)
    (hq : ∀ h' tk dx, InitEnd s.heap h' x C dx t0 v → R (.ok (.ret .none)) { s with heap := h', toks := tk }) :
    codeAny (model prog w) A (.call (.ref fI) ⟨[.ref x, v], []⟩) R s := by
  obtain ⟨oc, od, doc, pm, an, cdv, ct, osl, p1, p2, q1, q2, q3, q4, ho, hcd⟩ := T.fn
  obtain ⟨nm, q, N, bs, bm, sn, sub, ab, col, dd, k0, k1, k2, k3, k5, hC, hbm⟩ := T.cls
  have hcl : clsIn K C = some { name := nm, bases := bs, mro := .ref C :: bm, ns := N, qualname := q, hasDict := true, slotNames := sn, subclasses := sub, abstract := ab, collection := col, hasDel := false } := by unfold clsIn; rw [hC] <;> rfl
  refine Att.call_fn (binds := [("self", .ref x), ("number", v)]) X hlim ho hcd hroom (BindsTo.of_eq (by first | rfl | with_unfolding_all rfl)) (by first | rfl | decide | with_unfolding_all rfl) (fun s₁ IC => ?_) rfl rfl rfl
  obtain ⟨h₁, tk₁, rfl⟩ := IC.toInCall.same
  have k : ∀ b o, s.heap.get? b = some o → h₁.get? b = some o := IC.toInCall.keep
  have hn := IC.toInCall.ns
  have hxL : s.heap.objs.size ≠ x := Nat.ne_of_gt (Heap.lt_size hx)
  have X₁ : K.In h₁ := X.keeps k
  have hx₁ := k _ _ hx
  -- self.by = by
  show wpAny _ _ (execs _ _) _ _ _
  refine wpAny_execs_cons (plainObj_wpAny_Assign_Attribute ?_)
  refine ldC (v := v) hn (by first | rfl | with_unfolding_all rfl | kernel_rfl) (ldC (v := .ref x) hn (by first | rfl | with_unfolding_all rfl | kernel_rfl) ?_)
  refine set_plain X₁ (ox := excO C t0) (od := none) ⟨hx₁, rfl, rfl, trivial⟩ T.sa ?_
  refine exc_osa X₁ hx₁ hcl (show refsVE (.ref C :: bm) = true from hbm) rfl T.noN (fun h₃ tk₃ dx k₃ dn dne hx₃ hn₃ => ?_)
  show wpAny _ _ (execs _ _) _ _ _
  have z : s.heap.objs.size < h₁.objs.size := hn.lt
  exact wpAny_execs_nil (hq h₃ tk₃ dx ⟨fun b o hb e => k₃ b o hb (k b o e), hx₃, Nat.le_of_lt (Nat.lt_of_lt_of_le z dn), dne, hn₃⟩)
theorem low_made (T : LowTxt K mg C fI) {v : Value} (X : K.In s.heap) (hlim : s.heap.NoLimit) (hroom : A.depth + 1 < recursionLimit)
    (hq : ∀ h' tk e d, OwnMade s.heap h' e C d v → R (.ok (.ret (.ref e))) { s with heap := h', toks := tk }) :
    codeAny (model prog w) A (.call (.ref C) ⟨[v], []⟩) R s := by
  obtain ⟨nm, q, N, bs, bm, sn, sub, ab, col, dd, k0, k1, k2, k3, k5, hC, hbm⟩ := T.cls
  obtain ⟨hp, g, dr, tk, os⟩ := s
  have k : ∀ b o, hp.get? b = some o → ((hp.push (kdv_tup [v])).push (excO C hp.objs.size)).get? b = some o := fun b o e => Heap.get?_push_of_some _ (Heap.get?_push_of_some _ e)
  have hget : ((hp.push (kdv_tup [v])).push (excO C hp.objs.size)).get? (hp.objs.size + 1) = some (excO C hp.objs.size) := by heap_get
  have hnx : K.lookup (hp.objs.size + 1) = none := by
    cases e : K.lookup (hp.objs.size + 1) with
    | none => rfl
    | some o =>
      have z : hp.get? (hp.objs.size + 1) = some o := X _ _ e
      exact absurd (Nat.lt_of_succ_lt (Heap.lt_size z)) (Nat.lt_irrefl _)
  refine call_own F.excBase_ValueError (fun X => refsVE_contains X bm hbm) (X _ _ hC) (looks_findIn X T.iC) (fun self => bind_fn X self T.tC) (one_size v) ?_
  refine low_init (s := ⟨(hp.push (kdv_tup [v])).push (excO C hp.objs.size), g, dr, tk, os⟩) T (X.keeps k) (hlim.keeps k) hget hnx ?_ fun h' tk' dx ⟨k', hx, dn, dne, hns⟩ => ?_
  · show A.depth + 1 < recursionLimit
    exact hroom
  · have old : ∀ b o, hp.get? b = some o → h'.get? b = some o := fun b o e => k' b o (Nat.ne_of_lt (Nat.lt_succ_of_lt (Heap.lt_size e))) (k b o e)
    have z : hp.objs.size + 1 + 1 ≤ dx := by
      first
        | (simpa only [Heap.size_push] using dn)
        | exact dn
        | (have q := dn; rw [Heap.size_push, Heap.size_push] at q; exact q)
    exact ⟨rfl, hq h' tk' (hp.objs.size + 1) dx ⟨old, Nat.le_succ _, ⟨_, _, hx, rfl, rfl, rfl, rfl⟩, Nat.le_trans (Nat.le_trans (Nat.le_succ _) (Nat.le_succ _)) z, dne, hns⟩⟩
end
end LowX
end PySem
namespace L2
open PySem PySem.Spec PyProof.Rows
theorem relO_low {v : V} {v' : Value} (r : RelV v v') (f : Str) : RelO (List.lookup f [(("number" : Str), v)]) (if f = "number" then some v' else none) := by
  by_cases hw : f = "number"
  · subst hw
    rw [if_pos rfl]
    have q : List.lookup ("number" : Str) [(("number" : Str), v)] = some v := by simp [List.lookup]
    rw [q]
    exact r
  · rw [if_neg hw]
    have qw : (f == ("number" : Str)) = false := by simpa using hw
    have q2 : List.lookup f [(("number" : Str), v)] = none := by simp [List.lookup, qw]
    rw [q2]
    trivial
section
variable {X : Cx} {C fI : Addr}
/-- Low(e) -/
def tMkLow (C : Addr) (ta : TA) : St → Hp → XK → Prop := fun σ H Q => ta σ H fun vs H1 => ∃ v, vs = [v] ∧ ∀ d, H1 d = none → Q (.ref C) (some d) (upd H1 d (.xd [(("number" : Str), v)]))
theorem pmk_low {a : Expr} {ta : TA} {p pos : Pos} {k : Nat} (T : PySem.LowX.LowTxt X.K X.mg C fI) (hr : Room k X.A) (ha : PA X [a] ta) (hg : Gl X "Refused" := by rfl)
    (he : starEach (a :: []) X.env = (false, eval a X.env) :: starEach [] X.env := by rfl) (hpl : (backTo pos (starEach [] X.env)).any (·.1) = false := by rfl) :
    PMk X (.Call (.Name "Refused" p) [a] [] pos) (tMkLow C ta) := by
  intro pins s σ H Q I h
  refine wpAny_Call_Name_kw (ld_glob I hg T.gC ?_)
  refine PySem.W.callWith_K (h₀ := X.base) I.ok.mod.kin T.kC (thn (ha.run pos pins s σ H _ I h) fun us s1 hh => ?_) he hpl
  obtain ⟨vs, H1, I1, r1, v, ev, q1⟩ := hh
  subst ev
  refine ⟨I1.kIn, ?_⟩
  cases r1 with
  | cons rv rn =>
    rename_i v' us'
    cases rn
    show wpAny _ _ (call (.ref C) [v']) _ _ _
    have hlim := I1.nolimit
    obtain ⟨hp, g, dr, tk, os⟩ := s1
    refine wpAny_call (PySem.LowX.low_made T I1.kIn hlim (by have := hr.dp; omega) fun h' tk' e d M => ?_)
    show MkP X pins σ Q (.ref e) ⟨h', g, dr, tk', os⟩
    obtain ⟨oe, fv, hoe, hc, hd, hdat, h1⟩ := M.obj
    have hns := M.ns
    obtain ⟨G', g1, g2⟩ := restrict h' fun b => decide (b ≠ e)
    have gk : ∀ b, b ≠ e → G'.get? b = h'.get? b := fun b hb => g1 b (decide_eq_true hb)
    have ge : G'.get? e = none := g2 e (by simp)
    have old : ∀ b o, hp.get? b = some o → G'.get? b = some o := fun b o q => (gk b (Nat.ne_of_lt (Nat.lt_of_lt_of_le (Heap.lt_size q) M.new))).trans (M.keep b o q)
    have ob : ObjOk X.prog X.w (upd H1 d (.xd [(("number" : Str), v)])) G' d (.xd [(("number" : Str), v)]) :=
      ⟨_, hns.at (fun o q => (gk d M.dne).trans q), fun f => relO_low rv f⟩
    have J : Inv X pins σ (upd H1 d (.xd [(("number" : Str), v)])) ⟨G', g, dr, tk', os⟩ := I1.laid (t' := tk') old M.dbig ob
    refine ⟨e, oe, fv, ⟨G', g, dr, tk', os⟩, _, .ref C, some d, rfl, J, fun b o q => ?_, ge, hoe, ⟨hc, hd⟩, hdat, h1, ?_, rfl, I1.bare, raises_own T.exC T.tyC, q1 d (I1.hok.fresh M.dbig)⟩
    · by_cases hb : b = e
      · have q' : G'.get? b = some o := q
        rw [hb, ge] at q'; cases q'
      · exact (gk b hb).symm.trans q
    · rw [upd_ne (Ne.symm M.dne)]
      exact I1.hok.fresh M.new
/-- raise Low(e) -/
def tRaiseLow (C : Addr) (W : WX) (ta : TA) : TS := fun _ σ H => tMkLow C ta σ H fun cls d H' => W cls d σ H'
theorem ps_raiseLow {a : Expr} {ta : TA} {W : WX} {p pos pos2 : Pos} {k : Nat} (hc : X.calm = true) (T : PySem.LowX.LowTxt X.K X.mg C fI) (hr : Room k X.A) (tk : Takes X W) (ha : PA X [a] ta) (hg : Gl X "Refused" := by rfl)
    (he : starEach (a :: []) X.env = (false, eval a X.env) :: starEach [] X.env := by rfl) (hpl : (backTo pos (starEach [] X.env)).any (·.1) = false := by rfl) :
    PS X (.Raise (some (.Call (.Name "Refused" p) [a] [] pos)) none pos2) (tRaiseLow C W ta) := ps_raise hc tk (pmk_low T hr ha hg he hpl)
/-- low.by, low the exception that the suite holds (at a; its class cls, its dict d) -/
def tByLow (C : Addr) (a : Addr) (cls : Value) (d : Option Addr) (te : TE) : TE := fun σ H Q => te σ H fun x H1 => x = .ref a ∧ cls = .ref C ∧ ∃ (dd : Addr) (v : V), d = some dd ∧ H1 dd = some (.xd [(("number" : Str), v)]) ∧ Q v H1
theorem pe_byLow {a : Addr} {oe : Obj} {cls : Value} {d : Option Addr} {pn : List (Addr × Obj)} {e : Expr} {te : TE} {pos : Pos} (T : PySem.LowX.LowTxt X.K X.mg C fI) (hz : Zc cls d oe) (hf : ∃ vs, oe.data = .fields vs) (he : PE (X.suite a ((a, oe) :: pn)) e te)
    (hb : attributeBase e "number" X.env (eval e X.env) = eval e X.env := by rfl) :
    PE (X.suite a ((a, oe) :: pn)) (.Attribute e "number" pos) (tByLow C a cls d te) := by
  refine ⟨fun pins s σ H Q I h => ?_⟩
  refine attr_of hb (thn (he.run pins s σ H _ I h) fun u s1 hh => ?_)
  obtain ⟨x, H1, I1, rx, ex, ec, dd, v, ed, ea, q⟩ := hh
  subst ex
  obtain rfl : u = Value.ref a := rx
  subst ec
  subst ed
  obtain ⟨ha, _⟩ := I1.pin (a, oe) (List.mem_append_left _ List.mem_cons_self)
  obtain ⟨vs, hd⟩ := hf
  have hx : ObjOk X.prog X.w H1 s1.heap dd (.xd [(("number" : Str), v)]) := I1.hok dd _ ea
  obtain ⟨mA, hns, hr⟩ := hx
  obtain ⟨od, ho, hl⟩ := lookIn_ns hns
  have l : List.lookup ("number" : Str) [(("number" : Str), v)] = some v := by simp [List.lookup]
  obtain ⟨u, hu, ru⟩ := RelO.some_of (v := v) (o := mA "number") (by rw [← l]; exact hr "number")
  have J : PySem.W.InstAt s1.heap a oe C (some od) := ⟨ha, hz.1, by unfold PySem.W.notCls; rw [hd] <;> rfl, by rw [hz.2]; exact ho⟩
  exact HandSPX.exc_get I1.kIn J T.ga T.gg T.exC (PySem.W.findObj_own T.hdC T.noN rfl (by rw [hl, hu])) (handed_of ru) ⟨v, H1, I1.tok _, ru, q⟩
end
end L2

namespace L2
open PySem PySem.Spec PyProof.Rows
/-- an if whose test is known -/
theorem if_true_of {c : Bool} {A B : Prop} (hc : c = true) (h : A) : if c = true then A else B := by
  rw [if_pos hc]
  exact h
theorem if_false_of {c : Bool} {A B : Prop} (hc : c = false) (h : B) : if c = true then A else B := by
  rw [hc, if_neg Bool.false_ne_true]
  exact h
end L2
namespace Rt
open PySem PySem.Spec PyProof.Rows L2
/-! ### callables of the text, by name -/
structure Cal (CX : CXT) (P : Program) (w : World) (K : PySem.W.Frag) (mg : Str → Option Value) (base : Heap) (k : Nat) (x : Str) (ps : List Str) (sp : Sp) : Prop where
  ex : ∃ (f : Addr) (fd : FuncData), mg x = some (.ref f) ∧ PySem.W.keepIn K (.ref f) = true ∧ FnOk P w K mg base CX k f fd ps sp ∧ Binds K fd ps []
section
variable {X : Cx} {e : Expr} {es : List Expr} {p pos : Pos} {x : Str} {ps : List Str} {sp : Sp} {t : TA} {k j : Nat} {W : WX}
theorem pc0 (c : Cal CX0 X.prog X.w X.K X.mg X.base k x ps sp) (hr : Room j X.A) (hk : k ≤ j) (ha : PA X (e :: es) t) (hg : Gl X x := by rfl) (hd : (x == ("__debug__" : Str)) = false := by decide)
    (he : starEach (e :: es) X.env = (false, eval e X.env) :: starEach es X.env := by rfl) (hpl : (backTo pos (starEach es X.env)).any (·.1) = false := by rfl) : PE X (.Call (.Name x p) (e :: es) [] pos) (tCall sp [] E0 t) := by
  obtain ⟨f, fd, g, kp, F, b⟩ := c.ex
  exact pe_call F (hr.mono hk) hg g kp b .nil pass0 ha (hdb := hd) (he := he) (hpl := hpl)
theorem pcX (c : Cal (L2.CX X.prog X.w) X.prog X.w X.K X.mg X.base k x ps sp) (hr : Room j X.A) (hk : k ≤ j) (tk : Takes X W) (ha : PA X (e :: es) t) (hg : Gl X x := by rfl) (hd : (x == ("__debug__" : Str)) = false := by decide)
    (he : starEach (e :: es) X.env = (false, eval e X.env) :: starEach es X.env := by rfl) (hpl : (backTo pos (starEach es X.env)).any (·.1) = false := by rfl) : PE X (.Call (.Name x p) (e :: es) [] pos) (tCallS sp (WE W) t) := by
  obtain ⟨f, fd, g, kp, F, b⟩ := c.ex
  exact pe_callS F (hr.mono hk) hg g kp b (fun σ => passAt tk σ) ha (hdb := hd) (he := he) (hpl := hpl)
/-- a module's number -/
def Ki (mg : Str → Option Value) (x : Str) (i : Int) : Prop := ∃ u, mg x = some (.int i u)
theorem pgi {i : Int} (h : Ki X.mg x i) (hg : Gl X x := by rfl) (hd : (x == ("__debug__" : Str)) = false := by decide) : PE X (.Name x pos) (tC (.int i)) := by
  obtain ⟨u, hm⟩ := h
  exact pe_glob (v := .int i) hg hm ⟨u, rfl⟩ hd
/-- len of a list or a tuple, the written part named -/
def rLenS (K : PySem.W.Frag) : List V → Hp → VK → Prop := fun xs H Q => ∃ p ys, xs = [.ref p] ∧ (SqL K H p ys ∨ SqT K H p ys) ∧ Q (.int ys.length) H
theorem cr_len {K : PySem.W.Frag} (h : X.K = K := by rfl) : CallR X (.builtin "len") (rLenS K) := by
  subst h
  exact call_len_seq
theorem ixL {K : PySem.W.Frag} (h : X.K = K := by rfl) : IxR X (rIxL K) := by
  subst h
  exact ix_list
theorem ixT {K : PySem.W.Frag} (h : X.K = K := by rfl) : IxR X (rIxT K) := by
  subst h
  exact ix_tup
end
end Rt
namespace Rt
open PySem PySem.Spec PyProof.Rows L2
abbrev nV (n : Nat) : V := .int (n : Int)
theorem same_upd {H : Hp} {p : Addr} {o : HO} (h : H p = none) : Same H (upd H p o) := fun b x e => by
  rw [upd_ne (ne_of_none e h)]
  exact e
/-- all but the thing at D, which is new -/
theorem same_new {H H1 : Hp} {D : Addr} {o : HO} (s : Same H H1) (n : H D = none) : Same H (upd H1 D o) := fun b x e => by
  rw [upd_ne (ne_of_none e n)]
  exact s b x e
/-- an error of the class at C, its number told; all else as it was -/
def Er (C : Addr) (n : Int) (H : Hp) (E : XK) : Prop := ∀ (d : Addr) (H1 : Hp), Same H H1 → H1 d = some (.xd [(("number" : Str), .int n)]) → E (.ref C) (some d) H1
theorem Er.mono {C : Addr} {n : Int} {H H' : Hp} {E : XK} (h : Er C n H E) (s : Same H H') : Er C n H' E := fun d H1 s1 e => h d H1 (s.trans s1) e
theorem sl1000 {n : Nat} (h : n ≤ 1000000) : n ≤ sizeLine := Nat.le_trans h (by rw [sizeLine_eq]; decide)
theorem slt1000 {n : Nat} (h : n ≤ 1000000) : n < sizeLine := Nat.lt_of_le_of_lt h (by rw [sizeLine_eq]; decide)
theorem map_get {α : Type} {xs : List α} {f : α → V} {i : Nat} {x : α} (h : xs[i]? = some x) : (xs.map f)[i]? = some (f x) := by
  rw [List.getElem?_map, h]
  rfl
theorem map_get_inv {α : Type} {xs : List α} {f : α → V} {i : Nat} {y : V} (h : (xs.map f)[i]? = some y) : ∃ x, xs[i]? = some x ∧ y = f x := by
  rw [List.getElem?_map] at h
  cases e : xs[i]? with
  | none => rw [e] at h; cases h
  | some x => rw [e] at h; exact ⟨x, rfl, (Option.some.inj h).symm⟩
theorem get_lt {α : Type} {xs : List α} {i : Nat} {x : α} (h : xs[i]? = some x) : i < xs.length := (List.getElem?_eq_some_iff.mp h).1
/-- the nodes' list at q -/
structure NodesAt (H : Hp) (q : Addr) (g : Krk0.Graph) : Prop where
  ex : ∃ ts : List Addr, H q = some (.lst (ts.map V.ref)) ∧ ts.length = g.length ∧ ∀ (i : Nat) (x : Krk0.Node), g[i]? = some x → ∃ t, ts[i]? = some t ∧ H t = some (.tup [nV x.kind, nV x.a, nV x.b])
theorem NodesAt.same {H H' : Hp} {q : Addr} {g : Krk0.Graph} (h : NodesAt H q g) (s : Same H H') : NodesAt H' q g := by
  obtain ⟨ts, h1, h2, h3⟩ := h.ex
  exact ⟨ts, s _ _ h1, h2, fun i x e => let ⟨t, a, b⟩ := h3 i x e; ⟨t, a, s _ _ b⟩⟩
/-- an item of it is a node's tuple -/
theorem NodesAt.item {H : Hp} {q : Addr} {g : Krk0.Graph} {xs : List V} {i : Nat} {y : V} {ys : List V} (h : NodesAt H q g) (eq : H q = some (.lst ys)) (e : xs[i]? = some y) (hx : xs = ys := by rfl) : ∃ (t : Addr) (x : Krk0.Node), g[i]? = some x ∧ y = V.ref t ∧ H t = some (.tup [nV x.kind, nV x.a, nV x.b]) := by
  subst hx
  obtain ⟨ts, h1, h2, h3⟩ := h.ex
  rw [eq] at h1
  injection h1 with h1
  injection h1 with h1
  rw [h1] at e
  obtain ⟨t, et, ey⟩ := map_get_inv e
  have hi : i < g.length := by
    have := get_lt et
    omega
  obtain ⟨t', e1, e2⟩ := h3 i _ (List.getElem?_eq_getElem hi)
  rw [et] at e1
  have q : t = t' := Option.some.inj e1
  subst q
  exact ⟨t, _, List.getElem?_eq_getElem hi, ey, e2⟩
/-- a node of it -/
theorem NodesAt.get {K : PySem.W.Frag} {H : Hp} {q : Addr} {g : Krk0.Graph} {i : Nat} {x : Krk0.Node} (h : NodesAt H q g) (e : g[i]? = some x) : ∃ xs t, SqL K H q xs ∧ xs.length = g.length ∧ atI xs (i : Int) = some (.ref t) ∧ H t = some (.tup [nV x.kind, nV x.a, nV x.b]) := by
  obtain ⟨ts, h1, h2, h3⟩ := h.ex
  obtain ⟨t, a, b⟩ := h3 i x e
  exact ⟨_, t, .inl (.inl h1), by rw [List.length_map, h2], atI_nat (by rw [List.getElem?_map, a]; rfl), b⟩
theorem NodesAt.sq {K : PySem.W.Frag} {H : Hp} {q : Addr} {g : Krk0.Graph} (h : NodesAt H q g) : ∃ xs, SqL K H q xs ∧ xs.length = g.length := by
  obtain ⟨ts, h1, h2, _⟩ := h.ex
  exact ⟨_, .inl (.inl h1), by rw [List.length_map, h2]⟩
theorem nodes_of {H1 : Hp} : ∀ (acc : List V) (g : List Krk0.Node), acc.length = g.length → (∀ (i : Nat) (y : V), acc[i]? = some y → ∃ (t : Addr) (x : Krk0.Node), g[i]? = some x ∧ y = V.ref t ∧ H1 t = some (.tup [nV x.kind, nV x.a, nV x.b])) →
    ∃ ts : List Addr, acc = ts.map V.ref ∧ ts.length = g.length ∧ ∀ (i : Nat) (x : Krk0.Node), g[i]? = some x → ∃ t, ts[i]? = some t ∧ H1 t = some (.tup [nV x.kind, nV x.a, nV x.b])
  | [], [], _, _ => ⟨[], rfl, rfl, fun i x e => by simp at e⟩
  | [], _ :: _, h, _ => by simp at h
  | _ :: _, [], h, _ => by simp at h
  | y :: acc, x0 :: g, h, ha => by
    obtain ⟨ts, e1, e2, e3⟩ := nodes_of acc g (by simpa using h) (fun i y e => by simpa using ha (i + 1) y (by simpa using e))
    obtain ⟨t, x, f1, f2, f3⟩ := ha 0 y rfl
    have ex : x0 = x := by simpa using f1
    subst ex
    refine ⟨t :: ts, by rw [f2, e1]; rfl, by simp [e2], fun i x e => ?_⟩
    cases i with
    | zero =>
      have ex : x0 = x := by simpa using e
      subst ex
      exact ⟨t, rfl, f3⟩
    | succ i => simpa using e3 i x (by simpa using e)
theorem NodesAt.of {H1 : Hp} {D : Addr} {acc : List V} {g : Krk0.Graph} (eD : H1 D = some (.lst acc)) (h : acc.length = g.length) (ha : ∀ (i : Nat) (y : V), acc[i]? = some y → ∃ (t : Addr) (x : Krk0.Node), g[i]? = some x ∧ y = V.ref t ∧ H1 t = some (.tup [nV x.kind, nV x.a, nV x.b])) : NodesAt H1 D g := by
  obtain ⟨ts, e1, e2, e3⟩ := nodes_of acc g h ha
  exact ⟨ts, by rw [eD, e1], e2, e3⟩
theorem lc_in {te : TE} {σ2 σ0 : L2.St} {vs : List Nat} {H2 : Hp} {Q : VK} {Z : Hp → Prop} (hw : wipe σ2 vs = σ0) (h : te σ2 H2 Q) : wipe σ2 vs = σ0 ∧ tYes σ2 H2 fun b H3 => if b = true then te σ2 H3 Q else Z H3 := ⟨hw, by
  show if true = true then te σ2 H2 Q else Z H2
  exact iteT h⟩
/-- a comprehension without a test: what is told (R) of each item -/
theorem lc_all {J : It} {n : Nat} {G : Hp → Prop} {Y : Nat → Hp → V → Hp → Prop} (w : Walk J n G Y) {g : TG} {te : TE} {vs : List Nat} {σ : L2.St} {H1 : Hp} {D : Addr} {Qd : Hp → Prop} (R : Nat → V → Hp → Prop)
    (nD : H1 D = none) (hn : n ≤ 1000000) (hG : ∀ H, Same H1 H → G H) (hR : ∀ i y H H', R i y H → (∀ b o, (∀ l, o ≠ HO.lst l) → H b = some o → H' b = some o) → R i y H')
    (hs : ∀ i x H H', i < n → Same H1 H → Y i H x H' → ∀ (Q : VK) (Z : Hp → Prop), (∀ y H4, Same H H4 → R i y H4 → Q y H4) → g x (wipe σ vs) H' fun σ2 H2 => wipe σ2 vs = wipe σ vs ∧ tYes σ2 H2 fun b H3 => if b = true then te σ2 H3 Q else Z H3)
    (hd : ∀ H acc, Same H1 H → H D = some (.lst acc) → acc.length = n → (∀ i y, acc[i]? = some y → R i y H) → Qd H) :
    ∃ W : Nat → Nat → Hp → Prop, (∃ m, W 0 m (upd H1 D (.lst []))) ∧ ∀ i m H, W i m H →
      (J.stop i H ∧ Qd H) ∨ (J.go i H ∧ ∃ Nx : Hp → Prop, (∀ H', Nx H' → ∃ m', m' < m ∧ W (i + 1) m' H') ∧ ∀ x H', J.yld i H x H' → g x (wipe σ vs) H' fun σ2 H2 => wipe σ2 vs = wipe σ vs ∧ tYes σ2 H2 fun b H3 =>
        if b = true then te σ2 H3 fun y H4 => ∃ acc, H4 D = some (.lst acc) ∧ acc.length < sizeLine ∧ Nx (upd H4 D (.lst (acc ++ [y]))) else Nx H3) := by
  refine lc_it w (fun i H => Same H1 H ∧ ∃ acc, H D = some (.lst acc) ∧ acc.length = i ∧ ∀ j y, acc[j]? = some y → R j y H) ⟨same_upd nD, [], upd_same, rfl, fun j y e => by simp at e⟩ (fun i H _ p => hG H p.1) ?_ ?_
  · rintro i x H H' hi ⟨s, acc, hD, hl, hacc⟩ y
    refine hs i x H H' hi s y _ _ fun v H4 s4 r => ?_
    have e4 : H4 D = some (.lst acc) := s4 _ _ hD
    refine ⟨acc, e4, slt1000 (by omega), same_new (s.trans s4) nD, acc ++ [v], upd_same, by rw [List.length_append, hl]; rfl, fun j z e => ?_⟩
    have keep : ∀ b o, (∀ l, o ≠ HO.lst l) → H4 b = some o → upd H4 D (.lst (acc ++ [v])) b = some o := fun b o ho eb => by
      have hb : b ≠ D := fun z => by
        rw [z, e4] at eb
        exact ho acc (Option.some.inj eb).symm
      rw [upd_ne hb]
      exact eb
    by_cases hj : j < acc.length
    · rw [List.getElem?_append_left hj] at e
      exact hR j z H4 _ (hR j z H H4 (hacc j z e) fun b o _ eb => s4 b o eb) keep
    · have hj2 : j = acc.length := by
        have q := get_lt e
        rw [List.length_append] at q
        simp at q
        omega
      subst hj2
      rw [List.getElem?_append_right (Nat.le_refl _), Nat.sub_self] at e
      have ez : v = z := Option.some.inj e
      subst ez
      rw [hl]
      exact hR i v H4 _ r keep
  · rintro H ⟨s, acc, hD, hl, hacc⟩
    exact hd H acc s hD hl hacc
end Rt
namespace Rt
open PySem PySem.Spec PyProof.Rows L2
def top (i : Nat) : Stmt := PySem.Challenge.pw_roundtypesworks_s07_any_value.main.body.getD i (.Pass ⟨0, 0, 0, 0⟩)
abbrev s_must : Stmt := top 11
abbrev s_is_node : Stmt := top 12
abbrev s_nodes_in : Stmt := top 13
abbrev s_must_be_there : Stmt := top 14
abbrev s_is_filled : Stmt := top 16
abbrev s_has_values : Stmt := top 17
abbrev s_asked_nodes : Stmt := top 19
abbrev s_any_value : Stmt := top 20
/-! ### must -/
section
variable {P : Program} {w : World} {K : PySem.W.Frag} {mg : Str → Option Value} {base : Heap} {C fI : Addr}
theorem sc_must : FnScope ["so", "number"] ["so", "number"] (defScope s_must) := ⟨rfl, rfl, rfl, by decide +kernel, rfl, by decide +kernel, by decide +kernel⟩
def sp_must (C : Addr) : Sp := fun vs H Q E => ∃ (b : Bool) (n : Int), vs = [.bl b, .int n] ∧ (b = true → Q .non H) ∧ (b = false → Er C n H E)
theorem ok_must {f : Addr} {fd : FuncData} (F : Fun K "must" "must" s_must f fd) (low : PySem.LowX.LowTxt K mg C fI) : FnOk P w K mg base (L2.CX P w) 3 f fd ["so", "number"] (sp_must C) := by
  refine F.okX sc_must (fun vs H Q E h => ?_) (fun cdv A outer s H vs Q E hr h => ?_)
  · obtain ⟨b, n, rfl, _⟩ := h
    rfl
  · obtain ⟨b, n, rfl, k1, k2⟩ := h
    refine ⟨_, pss_one (ps_if (pt_not (pt_val (pv 0))) (pss_one (ps_raiseLow rfl low hr (takes_of rfl rfl rfl rfl) (pa_cons (pv 1) pa_nil))) pss_nil), ?_⟩
    refine ⟨_, rfl, b, rfl, ?_⟩
    cases b with
    | true => exact iteF (k1 rfl)
    | false => exact iteT ⟨_, rfl, _, rfl, fun d hd => k2 rfl d _ (same_upd hd) upd_same⟩
end
/-! ### is_node -/
section
variable {P : Program} {w : World} {K : PySem.W.Frag} {mg : Str → Option Value} {base : Heap}
theorem sc_is_node : FnScope ["node", "many", "kind", "a", "b"] ["node", "many"] (defScope s_is_node) := ⟨rfl, rfl, rfl, by decide +kernel, rfl, by decide +kernel, by decide +kernel⟩
def sp_is_node : Sp := fun vs H Q _ => ∃ (t : Addr) (n : Nat) (x : Krk0.Node), vs = [.ref t, nV n] ∧ H t = some (.tup [nV x.kind, nV x.a, nV x.b]) ∧ ∀ H', Same H H' → Q (.bl (Krk0.nodeOk n x)) H'
/-- three kinds in a tuple -/
theorem inV3 (k : Nat) : inV (nV k) [.int 4, .int 5, .int 6] = decide (4 ≤ k ∧ k ≤ 6) := by
  have e : inV (nV k) [.int 4, .int 5, .int 6] = (((4 : Int) == (k : Int)) || (((5 : Int) == (k : Int)) || (((6 : Int) == (k : Int)) || false))) := rfl
  rw [e]
  by_cases h : 4 ≤ k ∧ k ≤ 6
  · rw [decide_eq_true h]
    have : k = 4 ∨ k = 5 ∨ k = 6 := by omega
    rcases this with r | r | r <;> subst r <;> rfl
  · rw [decide_eq_false h]
    have h1 : ((4 : Int) == (k : Int)) = false := beq_eq_false_iff_ne.mpr (by omega)
    have h2 : ((5 : Int) == (k : Int)) = false := beq_eq_false_iff_ne.mpr (by omega)
    have h3 : ((6 : Int) == (k : Int)) = false := beq_eq_false_iff_ne.mpr (by omega)
    rw [h1, h2, h3]
    rfl
theorem ok_is_node {f : Addr} {fd : FuncData} (F : Fun K "is_node" "is_node" s_is_node f fd) (g4 : Ki mg "PAIR" 4) (g5 : Ki mg "CHOICE" 5) (g6 : Ki mg "FUNCTION" 6) :
    FnOk P w K mg base CX0 1 f fd ["node", "many"] sp_is_node := by
  refine F.ok sc_is_node (fun vs H Q E h => ?_) (fun cdv A outer s H vs Q E hr h => ?_)
  · obtain ⟨t, n, x, rfl, _⟩ := h
    rfl
  · obtain ⟨t, n, x, rfl, ht, q⟩ := h
    refine ⟨_, pss_cons (ps_asg (pv 0) (pg_tup rfl (pgs_cons (pg_name (i := 2) sc_is_node.nd rfl (.inl rfl)) (pgs_cons (pg_name (i := 3) sc_is_node.nd rfl (.inl rfl)) (pgs_cons (pg_name (i := 4) sc_is_node.nd rfl (.inl rfl)) pgs_nil)))))
      (pss_cons (ps_if (pt_cmpR op_in_seq (pv 2) (pe_tup (pa_cons (pgi g4) (pa_cons (pgi g5) (pa_cons (pgi g6) pa_nil)))) rfl)
          (pss_one (ps_ret (pe_and (pe_cmpR op_lt (pv 3) (pv 1) (nomark _)) (pe_one (pe_cmpR op_lt (pv 4) (pv 1) (nomark _)))))) pss_nil)
        (pss_one (ps_ret (pe_and (pe_cmpR op_lt (pv 2) (pgi g4) (nomark _)) (pe_and (pe_cmpR op_eq (pv 3) pe_int (nomark _)) (pe_one (pe_cmpR op_eq (pv 4) pe_int (nomark _)))))))), ?_⟩
    refine ⟨_, rfl, t, [nV x.kind, nV x.a, nV x.b], rfl, .inl (.inl ht), rfl, _, _, rfl, _, _, rfl, _, _, rfl, rfl, ?_⟩
    refine ⟨_, rfl, (by show 3 ≤ sizeLine; decide), fun p hp => ?_⟩
    have s1 := same_upd (o := .tup [.int 4, .int 5, .int 6]) hp
    refine ⟨p, [.int 4, .int 5, .int 6], rfl, .inr (.inl (.inl upd_same)), rfl, rfl, _, rfl, ?_⟩
    show if (inV (nV x.kind) [.int 4, .int 5, .int 6]) = true then _ else _
    rw [inV3]
    by_cases hk : 4 ≤ x.kind ∧ x.kind ≤ 6
    · rw [if_pos (decide_eq_true hk)]
      refine ⟨_, rfl, _, rfl, _, _, rfl, rfl, _, rfl, ?_⟩
      have e : Krk0.nodeOk n x = (decide (x.a < n) && decide (x.b < n)) := by
        unfold Krk0.nodeOk
        rw [if_neg (by omega), decide_eq_true (show x.kind ≤ 6 from hk.2), Bool.true_and]
      rw [e] at q
      by_cases ha : x.a < n
      · rw [if_pos (decide_eq_true (show (x.a : Int) < (n : Int) by omega))]
        refine ⟨_, rfl, _, rfl, _, _, rfl, rfl, ?_⟩
        have e2 : decide ((x.b : Int) < (n : Int)) = (decide (x.a < n) && decide (x.b < n)) := by
          rw [decide_eq_true ha, Bool.true_and]
          exact decide_eq_decide.mpr (by omega)
        have q1 := q _ s1
        rw [← e2] at q1
        exact q1
      · rw [if_neg (by rw [decide_eq_true_eq]; omega)]
        have e2 : (decide (x.a < n) && decide (x.b < n)) = false := by rw [decide_eq_false ha, Bool.false_and]
        rw [e2] at q
        exact q _ s1
    · rw [if_neg (by rw [decide_eq_true_eq]; exact hk)]
      refine ⟨_, rfl, _, _, rfl, rfl, _, rfl, ?_⟩
      by_cases h4 : x.kind < 4
      · rw [if_pos (decide_eq_true (show (x.kind : Int) < 4 by omega))]
        have e : Krk0.nodeOk n x = (x.a == 0 && x.b == 0) := by
          unfold Krk0.nodeOk
          rw [if_pos (by omega)]
        rw [e] at q
        refine ⟨_, rfl, rfl, _, rfl, ?_⟩
        by_cases ha : x.a = 0
        · rw [if_pos (decide_eq_true (by rw [ha]; rfl))]
          refine ⟨_, rfl, rfl, ?_⟩
          have e2 : decide (nV x.b = V.int 0) = (x.a == 0 && x.b == 0) := by
            rw [ha]
            by_cases hb : x.b = 0
            · rw [hb]; rfl
            · rw [decide_eq_false (fun z => hb (by injection z with z; omega))]
              simp [hb]
          have q1 := q _ s1
          rw [← e2] at q1
          exact q1
        · rw [if_neg (by rw [decide_eq_true_eq]; exact fun z => ha (by injection z with z; omega))]
          have e2 : (x.a == 0 && x.b == 0) = false := by simp [ha]
          rw [e2] at q
          exact q _ s1
      · rw [if_neg (by rw [decide_eq_true_eq]; omega)]
        have e : Krk0.nodeOk n x = false := by
          unfold Krk0.nodeOk
          rw [if_neg (by omega), decide_eq_false (show ¬ x.kind ≤ 6 by omega), Bool.false_and]
        rw [e] at q
        exact q _ s1
end
/-! ### nodes_in -/
section
variable {P : Program} {w : World} {K : PySem.W.Frag} {mg : Str → Option Value} {base : Heap} {C : Addr}
theorem sc_nodes_in : FnScope ["row", "found", "at", "node"] ["row"] (defScope s_nodes_in) := ⟨rfl, rfl, rfl, by decide +kernel, rfl, by decide +kernel, by decide +kernel⟩
def sp_nodes_in (K : PySem.W.Frag) (C : Addr) : Sp := fun vs H Q E => ∃ (p : Addr) (l : List Nat) (g : Krk0.Graph), vs = [.ref p] ∧ SqL K H p (l.map nV) ∧ Krk0.graphOf l = some g ∧ l.length ≤ 1000 ∧
  (Krk0.graphOk g = true → ∀ H' q, Same H H' → NodesAt H' q g → Q (.ref q) H') ∧ (Krk0.graphOk g = false → Er C (-71) H E)
theorem all_map_id {α : Type} (g : List α) (f : α → Bool) : (g.map f).all id = g.all f := by
  rw [List.all_map]
  rfl
theorem bools_of {f : Krk0.Node → Bool} : ∀ (acc : List V) (g : List Krk0.Node), acc.length = g.length → (∀ (i : Nat) (y : V), acc[i]? = some y → ∃ x, g[i]? = some x ∧ y = V.bl (f x)) → acc = (g.map f).map V.bl
  | [], [], _, _ => rfl
  | [], _ :: _, h, _ => by simp at h
  | _ :: _, [], h, _ => by simp at h
  | y :: acc, x0 :: g, h, ha => by
    obtain ⟨x, f1, f2⟩ := ha 0 y rfl
    have ex : x0 = x := by simpa using f1
    subst ex
    rw [bools_of acc g (by simpa using h) (fun i y e => by simpa using ha (i + 1) y (by simpa using e)), f2]
    rfl
theorem rsz3 (n : Nat) : Builtin.Range.rangeSize 0 (((3 * n : Nat) : Int) - 2) 3 = n := by
  unfold Builtin.Range.rangeSize
  rw [if_pos (by decide)]
  split <;> omega
theorem rng3 (n : Nat) (h : n ≤ 1000) : RgC 0 (((3 * n : Nat) : Int) - 2) 3 n := by
  refine ⟨by decide, by decide, ?_, ?_⟩
  · unfold Builtin.Range.small
    have e : Builtin.Range.rangeSize 0 (((3 * n : Nat) : Int) - 2) 3 = n := rsz3 n
    rw [e]
    simp only [Builtin.Range.rangeFitsLong, Bool.and_eq_true, Bool.or_eq_true, decide_eq_true_eq, beq_iff_eq, show ((3 : Int) > 0) by decide, if_true]
    omega
  · exact rsz3 n
theorem ok_nodes_in {f : Addr} {fd : FuncData} (F : Fun K "nodes_in" "nodes_in" s_nodes_in f fd) (c1 : Cal (L2.CX P w) P w K mg base 3 "must" ["so", "number"] (sp_must C)) (c2 : Cal CX0 P w K mg base 1 "is_node" ["node", "many"] sp_is_node)
    (mr : mg "range" = none) (ml : mg "len" = none) (ma : mg "all" = none) (gM : Ki mg "MOST_NODES" 32) (gN : Ki mg "NO_NODES" (-71)) : FnOk P w K mg base (L2.CX P w) 4 f fd ["row"] (sp_nodes_in K C) := by
  refine F.okX sc_nodes_in (fun vs H Q E h => ?_) (fun cdv A outer s H vs Q E hr h => ?_)
  · obtain ⟨p, l, g, rfl, _⟩ := h
    rfl
  · obtain ⟨p, l, g, rfl, hS, hg, hlen, k1, k2⟩ := h
    refine ⟨_, pss_cons (ps_set (i := 1) sc_nodes_in.nd rfl (.inr rfl) (pe_lc (own := [("at", 2)]) (g := gName 2) (tt := tYes) rfl sc_nodes_in.nd
          (pi_range3 (by rfl) mr (pa_cons pe_int (pa_cons (pe_op op_sub (pe_callB (cr_len (K := K)) (by rfl) ml PySem.boot_len (pa_cons (pv 0) pa_nil)) pe_int) (pa_cons pe_int pa_nil))))
          (blkOk_by (own := [("at", 2)]) (N := ["row", "found", "at", "node"]) (sc := defScope s_nodes_in) (by decide +kernel)) (fun _ _ _ _ _ => pg_name (i := 2) sc_nodes_in.nd rfl (Or.inl rfl)) (fun _ _ _ _ _ => pts_nil)
          (fun _ _ _ _ _ => pe_tup (pa_cons (pe_ix (ixL (K := K)) (pv 0) (pv 2) (fun _ _ => rfl)) (pa_cons (pe_ix (ixL (K := K)) (pv 0) (pe_op op_add (pv 2) pe_int) (fun _ _ => rfl)) (pa_cons (pe_ix (ixL (K := K)) (pv 0) (pe_op op_add (pv 2) pe_int) (fun _ _ => rfl)) pa_nil))))))
      (pss_cons (ps_expr (pcX c1 hr (by decide) (takes_of rfl rfl rfl rfl) (pa_cons (pe_and (pe_cmpR op_le pe_int (pe_callB (cr_len (K := K)) (by rfl) ml PySem.boot_len (pa_cons (pv 1) pa_nil)) (nomark _))
          (pe_and (pe_cmpR op_le (pe_callB (cr_len (K := K)) (by rfl) ml PySem.boot_len (pa_cons (pv 1) pa_nil)) (pgi gM) (nomark _))
            (pe_one (pe_cmpR op_eq (pe_callB (cr_len (K := K)) (by rfl) ml PySem.boot_len (pa_cons (pv 0) pa_nil)) (pe_op op_mul pe_int (pe_callB (cr_len (K := K)) (by rfl) ml PySem.boot_len (pa_cons (pv 1) pa_nil))) (nomark _))))) (pa_cons (pgi gN) pa_nil))))
      (pss_cons (ps_expr (pcX c1 hr (by decide) (takes_of rfl rfl rfl rfl) (pa_cons (pe_callB (cr_all rfl) (by rfl) ma (by decide +kernel) (pa_cons (pe_lc (own := [("node", 3)]) (g := gName 3) (tt := tYes) rfl sc_nodes_in.nd (pi_list (pv 1))
          (blkOk_by (own := [("node", 3)]) (N := ["row", "found", "at", "node"]) (sc := defScope s_nodes_in) (by decide +kernel)) (fun _ _ _ _ _ => pg_name (i := 3) sc_nodes_in.nd rfl (Or.inl rfl)) (fun _ _ _ _ _ => pts_nil)
          (fun _ _ _ _ _ => pc0 c2 hr (by decide) (pa_cons (pv 3) (pa_cons (pe_callB (cr_len (K := K)) (by rfl) ml PySem.boot_len (pa_cons (pv 1) pa_nil)) pa_nil)))) pa_nil)) (pa_cons (pgi gN) pa_nil))))
      (pss_one (ps_ret (pv 1))))), ?_⟩
    have hl3 := Rt.graphOf_len hg
    have hgl : g.length ≤ 1000 := by omega
    -- the rows of three
    refine ⟨_, rfl, p, _, rfl, .inl hS, _, _, rfl, rfl, 0, _, 3, g.length, rfl, ?_, fun D hD => lc_all walk_rangeC (fun i y H' => ∃ (t : Addr) (x : Krk0.Node), g[i]? = some x ∧ y = V.ref t ∧ H' t = some (.tup [nV x.kind, nV x.a, nV x.b])) hD (by omega) (fun _ _ => trivial) ?_ ?_ ?_⟩
    · rw [List.length_map, hl3]
      exact rng3 g.length hgl
    · rintro i y H1 H2 ⟨t, x, e1, rfl, e2⟩ kp
      exact ⟨t, x, e1, rfl, kp _ _ (fun _ z => nomatch z) e2⟩
    · rintro i x H1 H2 hi s1 ⟨rfl, rfl⟩ Q2 Z hq
      obtain ⟨e1, e2, e3⟩ := Rt.graphOf_get hg (List.getElem?_eq_getElem hi)
      have hS1 := s1.seq hS
      refine lc_in rfl ?_
      refine ⟨_, rfl, _, rfl, p, _, _, _, rfl, rfl, hS1, at_of (j := 3 * i) (by omega) (map_get e1), ?_⟩
      refine ⟨_, rfl, _, rfl, _, _, rfl, rfl, p, _, _, _, rfl, rfl, hS1, at_of (j := 3 * i + 1) (by omega) (map_get e2), ?_⟩
      refine ⟨_, rfl, _, rfl, _, _, rfl, rfl, p, _, _, _, rfl, rfl, hS1, at_of (j := 3 * i + 2) (by omega) (map_get e3), ?_⟩
      exact ⟨(by show 3 ≤ sizeLine; decide), fun t ht => hq _ _ (same_upd ht) ⟨t, _, List.getElem?_eq_getElem hi, rfl, upd_same⟩⟩
    · intro H1 acc s1 eD hacc hr1
      have N1 : NodesAt H1 D g := .of eD hacc hr1
      have hS1 := s1.seq hS
      have hX : SqL K H1 D acc := .inl (.inl eD)
      have hxl := hacc
      have hok : Krk0.graphOk g = (decide (1 ≤ g.length) && (decide (g.length ≤ 32) && g.all (Krk0.nodeOk g.length))) := rfl
      -- must(1 <= len(found) and ..)
      refine ⟨_, rfl, D, _, rfl, .inl hX, _, _, rfl, rfl, _, rfl, ?_⟩
      rw [hxl]
      by_cases h1 : 1 ≤ g.length
      case neg =>
        rw [if_neg (by rw [decide_eq_true_eq]; omega)]
        exact ⟨false, _, rfl, (fun z => nomatch z), fun _ => (k2 (by rw [hok, decide_eq_false h1, Bool.false_and])).mono s1⟩
      rw [if_pos (by rw [decide_eq_true_eq]; omega)]
      refine ⟨_, rfl, D, _, rfl, .inl hX, _, _, rfl, rfl, _, rfl, ?_⟩
      rw [hxl]
      by_cases h2 : g.length ≤ 32
      case neg =>
        rw [if_neg (by rw [decide_eq_true_eq]; omega)]
        exact ⟨false, _, rfl, (fun z => nomatch z), fun _ => (k2 (by rw [hok, decide_eq_false h2, Bool.false_and, Bool.and_false])).mono s1⟩
      rw [if_pos (by rw [decide_eq_true_eq]; omega)]
      refine ⟨_, rfl, p, _, rfl, .inl hS1, _, rfl, D, _, rfl, .inl hX, _, _, rfl, rfl, .inl ⟨by decide, by decide⟩, rfl, ?_⟩
      refine ⟨_, _, rfl, fun _ => ?_, fun z => ?_⟩
      case refine_2 =>
        exfalso
        have z' : decide (V.int (((l.map nV).length : Nat) : Int) = V.int (3 * (acc.length : Int))) = false := z
        rw [decide_eq_false_iff_not, List.length_map, hxl, hl3] at z'
        exact z' (congrArg V.int (by omega))
      -- must(all([..]), ..)
      refine ⟨_, rfl, D, rfl, ⟨_, hX⟩, fun D2 hD2 => lc_all walk_list (fun i y _ => ∃ x, g[i]? = some x ∧ y = V.bl (Krk0.nodeOk g.length x)) hD2 (by omega) (fun H2 s2 => s2.seq hX) (fun _ _ _ _ h _ => h) ?_ ?_⟩
      · rintro i x H2 H3 hi s2 ⟨rfl, hx⟩ Q2 Z hq
        have N2 := N1.same s2
        obtain ⟨xs2, hX2, hxl2⟩ := N2.sq (K := K)
        obtain ⟨t, nd, f1, f2, f3⟩ := N1.item eD hx
        refine lc_in rfl ?_
        refine ⟨_, rfl, _, rfl, D, _, rfl, .inl hX2, ?_⟩
        rw [hxl2]
        exact ⟨t, g.length, nd, by rw [f2]; rfl, s2 _ _ f3, fun H4 s4 => hq _ _ s4 ⟨nd, f1, rfl⟩⟩
      · intro H2 acc2 s2 eD2 hacc2 hr2
        have s12 := s1.trans s2
        refine ⟨D2, _, rfl, .inl (.inl (by rw [eD2, bools_of acc2 g (hacc2.trans hacc) hr2])), ?_⟩
        refine ⟨_, _, rfl, fun hall => ?_, fun hall => ?_⟩
        · refine ⟨_, rfl, k1 ?_ H2 D s12 (N1.same s2)⟩
          rw [hok, decide_eq_true h1, decide_eq_true h2, Bool.true_and, Bool.true_and, ← all_map_id]
          exact hall
        · refine (k2 ?_).mono s12
          rw [hok, decide_eq_true h1, decide_eq_true h2, Bool.true_and, Bool.true_and, ← all_map_id]
          exact hall
end
/-! ### must_be_there -/
section
variable {P : Program} {w : World} {K : PySem.W.Frag} {mg : Str → Option Value} {base : Heap} {C : Addr}
theorem sc_must_be_there : FnScope ["nodes", "numbers", "number"] ["nodes", "numbers"] (defScope s_must_be_there) := ⟨rfl, rfl, rfl, by decide +kernel, rfl, by decide +kernel, by decide +kernel⟩
def there (n : Nat) (ids : List Nat) : Bool := ids.all fun i => decide (i < n)
def sp_must_be_there (K : PySem.W.Frag) (C : Addr) : Sp := fun vs H Q E => ∃ (q r : Addr) (g : Krk0.Graph) (ids : List Nat), vs = [.ref q, .ref r] ∧ NodesAt H q g ∧ g.length ≤ 1000 ∧ SqL K H r (ids.map nV) ∧ ids.length ≤ 1000 ∧
  (there g.length ids = true → ∀ H', Same H H' → Q .non H') ∧ (there g.length ids = false → Er C (-2) H E)
theorem bools_ids {f : Nat → Bool} : ∀ (acc : List V) (g : List Nat), acc.length = g.length → (∀ (i : Nat) (y : V), acc[i]? = some y → ∃ x, g[i]? = some x ∧ y = V.bl (f x)) → acc = (g.map f).map V.bl
  | [], [], _, _ => rfl
  | [], _ :: _, h, _ => by simp at h
  | _ :: _, [], h, _ => by simp at h
  | y :: acc, x0 :: g, h, ha => by
    obtain ⟨x, f1, f2⟩ := ha 0 y rfl
    have ex : x0 = x := by simpa using f1
    subst ex
    rw [bools_ids acc g (by simpa using h) (fun i y e => by simpa using ha (i + 1) y (by simpa using e)), f2]
    rfl
theorem ok_must_be_there {f : Addr} {fd : FuncData} (F : Fun K "must_be_there" "must_be_there" s_must_be_there f fd) (c1 : Cal (L2.CX P w) P w K mg base 3 "must" ["so", "number"] (sp_must C))
    (ml : mg "len" = none) (ma : mg "all" = none) (gN : Ki mg "NO_NODE" (-2)) : FnOk P w K mg base (L2.CX P w) 4 f fd ["nodes", "numbers"] (sp_must_be_there K C) := by
  refine F.okX sc_must_be_there (fun vs H Q E h => ?_) (fun cdv A outer s H vs Q E hr h => ?_)
  · obtain ⟨q, r, g, ids, rfl, _⟩ := h
    rfl
  · obtain ⟨q, r, g, ids, rfl, hN, hgl, hS, hil, k1, k2⟩ := h
    refine ⟨_, pss_one (ps_expr (pcX c1 hr (by decide) (takes_of rfl rfl rfl rfl) (pa_cons (pe_callB (cr_all rfl) (by rfl) ma (by decide +kernel) (pa_cons (pe_lc (own := [("number", 2)]) (g := gName 2) (tt := tYes) rfl sc_must_be_there.nd (pi_list (pv 1))
          (blkOk_by (own := [("number", 2)]) (N := ["nodes", "numbers", "number"]) (sc := defScope s_must_be_there) (by decide +kernel)) (fun _ _ _ _ _ => pg_name (i := 2) sc_must_be_there.nd rfl (Or.inl rfl)) (fun _ _ _ _ _ => pts_nil)
          (fun _ _ _ _ _ => pe_cmpR op_lt (pv 2) (pe_callB (cr_len (K := K)) (by rfl) ml PySem.boot_len (pa_cons (pv 0) pa_nil)) (nomark _))) pa_nil)) (pa_cons (pgi gN) pa_nil)))), ?_⟩
    refine ⟨_, rfl, r, rfl, ⟨_, hS⟩, fun D hD => lc_all walk_list (fun i y _ => ∃ x, ids[i]? = some x ∧ y = V.bl (decide (x < g.length))) hD (by rw [List.length_map]; omega) (fun H2 s2 => s2.seq hS) (fun _ _ _ _ h _ => h) ?_ ?_⟩
    · rintro i y H2 H3 hi s2 ⟨rfl, hx⟩ Q2 Z hq
      obtain ⟨x, e1, rfl⟩ := map_get_inv hx
      obtain ⟨xs2, hX2, hxl2⟩ := (hN.same s2).sq (K := K)
      refine lc_in rfl ?_
      refine ⟨_, rfl, _, rfl, q, _, rfl, .inl hX2, _, _, rfl, rfl, ?_⟩
      refine hq _ _ (Same.refl _) ⟨x, e1, ?_⟩
      show V.bl (decide ((x : Int) < (xs2.length : Int))) = _
      rw [hxl2]
      exact congrArg V.bl (decide_eq_decide.mpr (by omega))
    · intro H2 acc2 s2 eD2 hacc2 hr2
      rw [List.length_map] at hacc2
      refine ⟨D, _, rfl, .inl (.inl (by rw [eD2, bools_ids acc2 ids hacc2 hr2])), ?_⟩
      have e : ∀ b : Bool, ((ids.map fun x => decide (x < g.length)).all id) = b → there g.length ids = b := fun b h => by
        rw [← h, List.all_map]
        rfl
      exact ⟨_, _, rfl, fun hall => k1 (e _ hall) H2 s2, fun hall => (k2 (e _ hall)).mono s2⟩
end
/-! ### is_filled -/
section
variable {P : Program} {w : World} {K : PySem.W.Frag} {mg : Str → Option Value} {base : Heap}
theorem sc_is_filled : FnScope ["nodes", "filled", "number", "kind", "a", "b"] ["nodes", "filled", "number"] (defScope s_is_filled) := ⟨rfl, rfl, rfl, by decide +kernel, rfl, by decide +kernel, by decide +kernel⟩
def sp_is_filled (K : PySem.W.Frag) : Sp := fun vs H Q _ => ∃ (q r : Addr) (g : Krk0.Graph) (i : Nat) (x : Krk0.Node) (c : List Bool), vs = [.ref q, .ref r, nV i] ∧ NodesAt H q g ∧ g[i]? = some x ∧ Krk0.nodeOk g.length x = true ∧ SqL K H r (c.map V.bl) ∧ c.length = g.length ∧
  ∀ H', Same H H' → Q (.bl (fillAt c x)) H'
theorem inV123 (k : Nat) : inV (nV k) [.int 1, .int 2, .int 3] = decide (1 ≤ k ∧ k ≤ 3) := by
  have e : inV (nV k) [.int 1, .int 2, .int 3] = (((1 : Int) == (k : Int)) || (((2 : Int) == (k : Int)) || (((3 : Int) == (k : Int)) || false))) := rfl
  rw [e]
  by_cases h : 1 ≤ k ∧ k ≤ 3
  · rw [decide_eq_true h]
    have : k = 1 ∨ k = 2 ∨ k = 3 := by omega
    rcases this with r | r | r <;> subst r <;> rfl
  · rw [decide_eq_false h]
    have h1 : ((1 : Int) == (k : Int)) = false := beq_eq_false_iff_ne.mpr (by omega)
    have h2 : ((2 : Int) == (k : Int)) = false := beq_eq_false_iff_ne.mpr (by omega)
    have h3 : ((3 : Int) == (k : Int)) = false := beq_eq_false_iff_ne.mpr (by omega)
    rw [h1, h2, h3]
    rfl
/-- two small whole numbers as values -/
theorem nV_eq (a b : Nat) : decide (nV a = nV b) = decide (a = b) := decide_eq_decide.mpr ⟨fun h => by injection h with h; omega, fun h => by rw [h]⟩
theorem fillAt4 {c : List Bool} {x : Krk0.Node} (h : x.kind = 4) : fillAt c x = (c.getD x.a false && c.getD x.b false) := by
  unfold fillAt
  rw [h]
  rfl
theorem fillAt5 {c : List Bool} {x : Krk0.Node} (h : x.kind = 5) : fillAt c x = (c.getD x.a false || c.getD x.b false) := by
  unfold fillAt
  rw [h]
  rfl
theorem fillAtE {c : List Bool} {x : Krk0.Node} (h : x.kind ≠ 4) (h5 : x.kind ≠ 5) : fillAt c x = decide (1 ≤ x.kind ∧ x.kind ≤ 3) := by
  by_cases k : 1 ≤ x.kind ∧ x.kind ≤ 3
  · rw [decide_eq_true k]
    have : x.kind = 1 ∨ x.kind = 2 ∨ x.kind = 3 := by omega
    unfold fillAt
    rcases this with e | e | e <;> rw [e] <;> rfl
  · rw [decide_eq_false k]
    unfold fillAt
    split
    · exact absurd (show x.kind = 1 by assumption) (by omega)
    · exact absurd (show x.kind = 2 by assumption) (by omega)
    · exact absurd (show x.kind = 3 by assumption) (by omega)
    · exact absurd (by assumption) h
    · exact absurd (by assumption) h5
    · rfl
theorem getD_get {c : List Bool} {i : Nat} (h : i < c.length) : c[i]? = some (c.getD i false) := by
  rw [List.getD_eq_getElem?_getD, List.getElem?_eq_getElem h]
  rfl
theorem ok_is_filled {f : Addr} {fd : FuncData} (F : Fun K "is_filled" "is_filled" s_is_filled f fd) (g1 : Ki mg "ANYTHING" 1) (g2 : Ki mg "NUMBER" 2) (g3 : Ki mg "TRUTH" 3) (g4 : Ki mg "PAIR" 4) (g5 : Ki mg "CHOICE" 5) :
    FnOk P w K mg base CX0 1 f fd ["nodes", "filled", "number"] (sp_is_filled K) := by
  refine F.ok sc_is_filled (fun vs H Q E h => ?_) (fun cdv A outer s H vs Q E hr h => ?_)
  · obtain ⟨q, r, g, i, x, c, rfl, _⟩ := h
    rfl
  · obtain ⟨q, r, g, i, x, c, rfl, hN, hx, hok, hC, hcl, k⟩ := h
    refine ⟨_, pss_cons (ps_asg (pe_ix ix_list (pv 0) (pv 2) (fun _ _ => rfl)) (pg_tup rfl (pgs_cons (pg_name (i := 3) sc_is_filled.nd rfl (.inl rfl)) (pgs_cons (pg_name (i := 4) sc_is_filled.nd rfl (.inl rfl)) (pgs_cons (pg_name (i := 5) sc_is_filled.nd rfl (.inl rfl)) pgs_nil)))))
      (pss_cons (ps_if (pt_cmpR op_eq (pv 3) (pgi g4) (nomark _)) (pss_one (ps_ret (pe_and (pe_ix ix_list (pv 1) (pv 4) (fun _ _ => rfl)) (pe_one (pe_ix ix_list (pv 1) (pv 5) (fun _ _ => rfl)))))) pss_nil)
      (pss_cons (ps_if (pt_cmpR op_eq (pv 3) (pgi g5) (nomark _)) (pss_one (ps_ret (pe_or (pe_ix ix_list (pv 1) (pv 4) (fun _ _ => rfl)) (pe_one (pe_ix ix_list (pv 1) (pv 5) (fun _ _ => rfl)))))) pss_nil)
      (pss_one (ps_ret (pe_cmpR op_in_seq (pv 3) (pe_tup (pa_cons (pgi g1) (pa_cons (pgi g2) (pa_cons (pgi g3) pa_nil)))) rfl))))), ?_⟩
    obtain ⟨xs, t, hX, hxl, hat, ht⟩ := hN.get (K := K) hx
    refine ⟨_, rfl, _, rfl, q, xs, _, _, rfl, rfl, hX, hat, ?_⟩
    refine ⟨t, _, rfl, .inl (.inl ht), rfl, _, _, rfl, _, _, rfl, _, _, rfl, rfl, ?_⟩
    refine ⟨_, rfl, rfl, _, rfl, ?_⟩
    by_cases h4 : x.kind = 4
    · refine if_true_of (decide_eq_true (by rw [h4]; rfl)) ?_
      obtain ⟨_, ha, hb⟩ := Rt.nodeOk_inner hok (by omega)
      refine ⟨_, rfl, _, rfl, r, _, _, _, rfl, rfl, hC, atI_nat (map_get (getD_get (by omega))), _, rfl, ?_⟩
      rw [fillAt4 h4] at k
      cases ea : c.getD x.a false with
      | true =>
        rw [ea, Bool.true_and] at k
        exact iteT ⟨_, rfl, _, rfl, r, _, _, _, rfl, rfl, hC, atI_nat (map_get (getD_get (by omega))), k H (Same.refl _)⟩
      | false =>
        rw [ea, Bool.false_and] at k
        exact iteF (k H (Same.refl _))
    · refine if_false_of (decide_eq_false (fun z => h4 (by injection z with z; omega))) ?_
      refine ⟨_, rfl, rfl, _, rfl, ?_⟩
      by_cases h5 : x.kind = 5
      · refine if_true_of (decide_eq_true (by rw [h5]; rfl)) ?_
        obtain ⟨_, ha, hb⟩ := Rt.nodeOk_inner hok (by omega)
        refine ⟨_, rfl, _, rfl, r, _, _, _, rfl, rfl, hC, atI_nat (map_get (getD_get (by omega))), _, rfl, ?_⟩
        rw [fillAt5 h5] at k
        cases ea : c.getD x.a false with
        | true =>
          rw [ea, Bool.true_or] at k
          exact iteT (k H (Same.refl _))
        | false =>
          rw [ea, Bool.false_or] at k
          exact iteF ⟨_, rfl, _, rfl, r, _, _, _, rfl, rfl, hC, atI_nat (map_get (getD_get (by omega))), k H (Same.refl _)⟩
      · refine if_false_of (decide_eq_false (fun z => h5 (by injection z with z; omega))) ?_
        refine ⟨_, rfl, (by show 3 ≤ sizeLine; decide), fun p hp => ?_⟩
        refine ⟨p, [.int 1, .int 2, .int 3], rfl, .inr (.inl (.inl upd_same)), rfl, rfl, ?_⟩
        have k' := k _ (same_upd (o := .tup [.int 1, .int 2, .int 3]) hp)
        rw [fillAtE h4 h5, ← inV123] at k'
        exact k'
end
/-! ### has_values -/
section
variable {P : Program} {w : World} {K : PySem.W.Frag} {mg : Str → Option Value} {base : Heap}
theorem sc_has_values : FnScope ["nodes", "start", "filled", "turn", "number"] ["nodes", "start"] (defScope s_has_values) := ⟨rfl, rfl, rfl, by decide +kernel, rfl, by decide +kernel, by decide +kernel⟩
def sp_has_values : Sp := fun vs H Q _ => ∃ (q : Addr) (g : Krk0.Graph) (a : Nat), vs = [.ref q, nV a] ∧ NodesAt H q g ∧ Krk0.graphOk g = true ∧ a < g.length ∧ ∀ H', Same H H' → Q (.bl (Krk0.any g a)) H'
theorem rep1 (n : Nat) : (List.replicate n [V.bl false]).flatten = (List.replicate n false).map V.bl := by
  induction n with
  | zero => rfl
  | succ n ih =>
    rw [List.replicate_succ, List.flatten_cons, ih, List.replicate_succ]
    rfl
theorem bools_at {c : List Bool} {f : Krk0.Node → Bool} (acc : List V) (g : List Krk0.Node) (h : acc.length = g.length) (ha : ∀ (i : Nat) (y : V), acc[i]? = some y → ∃ x, g[i]? = some x ∧ y = V.bl (f x)) : acc = (g.map f).map V.bl := bools_of acc g h ha
theorem ok_has_values {f : Addr} {fd : FuncData} (F : Fun K "has_values" "has_values" s_has_values f fd) (c1 : Cal CX0 P w K mg base 1 "is_filled" ["nodes", "filled", "number"] (sp_is_filled K)) (mr : mg "range" = none) (ml : mg "len" = none) :
    FnOk P w K mg base CX0 2 f fd ["nodes", "start"] sp_has_values := by
  refine F.ok sc_has_values (fun vs H Q E h => ?_) (fun cdv A outer s H vs Q E hr h => ?_)
  · obtain ⟨q, g, a, rfl, _⟩ := h
    rfl
  · obtain ⟨q, g, a, rfl, hN, hok, ha, k⟩ := h
    refine ⟨_, pss_cons (ps_set (i := 2) sc_has_values.nd rfl (.inr rfl) (pe_op op_rep (pe_lst (pa_cons pe_bl pa_nil)) (pe_callB (cr_len (K := K)) (by rfl) ml PySem.boot_len (pa_cons (pv 0) pa_nil))))
      (pss_cons (ps_for PassesOwn.never rfl (pi_range1 (by rfl) mr (pa_cons (pe_callB (cr_len (K := K)) (by rfl) ml PySem.boot_len (pa_cons (pv 0) pa_nil)) pa_nil)) (pg_name (i := 3) sc_has_values.nd rfl (.inl rfl))
        (pss_one (ps_set (i := 2) sc_has_values.nd rfl (.inr rfl) (pe_lc (own := [("number", 4)]) (g := gName 4) (tt := tYes) rfl sc_has_values.nd
          (pi_range1 (by rfl) mr (pa_cons (pe_callB (cr_len (K := K)) (by rfl) ml PySem.boot_len (pa_cons (pv 0) pa_nil)) pa_nil))
          (blkOk_by (own := [("number", 4)]) (N := ["nodes", "start", "filled", "turn", "number"]) (sc := defScope s_has_values) (by decide +kernel)) (fun _ _ _ _ _ => pg_name (i := 4) sc_has_values.nd rfl (Or.inl rfl)) (fun _ _ _ _ _ => pts_nil)
          (fun _ _ _ _ _ => pc0 c1 hr (by decide) (pa_cons (pv 0) (pa_cons (pv 2) (pa_cons (pv 4) pa_nil))))))))
      (pss_one (ps_ret (pe_ix ix_list (pv 2) (pv 1) (fun _ _ => rfl))))), ?_⟩
    have hgl := Rt.ok_len hok
    obtain ⟨xs, hX, hxl⟩ := hN.sq (K := K)
    -- filled = [False] * len(nodes)
    refine ⟨(by show 1 ≤ sizeLine; decide), fun p hp => ?_⟩
    have s1 := same_upd (o := .lst [.bl false]) hp
    refine ⟨_, rfl, q, _, rfl, .inl (s1.seq hX), p, _, _, rfl, rfl, upd_same, by omega, by rw [hxl]; omega, by rw [hxl, Int.toNat_natCast]; exact sl1000 (by simp; omega), fun p2 hp2 => ?_⟩
    have s2 := s1.trans (same_upd (o := .lst (List.replicate (xs.length : Int).toNat [V.bl false]).flatten) hp2)
    have e2 := upd_same (H := upd H p (.lst [.bl false])) (a := p2) (o := .lst (List.replicate (xs.length : Int).toNat [V.bl false]).flatten)
    generalize upd (upd H p (.lst [.bl false])) p2 (.lst (List.replicate (xs.length : Int).toNat [V.bl false]).flatten) = H2 at s2 e2
    rw [hxl, Int.toNat_natCast, rep1] at e2
    -- the rounds
    refine ⟨_, rfl, q, _, rfl, .inl (s2.seq hX), _, rfl, by omega, by rw [hxl]; omega, ?_⟩
    rw [hxl]
    refine for_range (lo := 0) (n := ((g.length : Int) - 0).toNat) (fun i σ H' => ∃ (y : Option V) (r : Addr), σ = [some (.ref q), some (nV a), some (.ref r), y, none] ∧ Same H H' ∧ H' r = some (.lst ((fillN g i).map V.bl))) ?_ ?_ ?_
    · refine ⟨none, p2, rfl, s2, ?_⟩
      rw [e2]
      congr 3
      show _ = g.map fun _ => false
      rw [List.map_const']
    · rintro i σ H' hi ⟨y, r, rfl, s3, er⟩
      have N3 := hN.same s3
      have hX3 := s3.seq hX
      refine ⟨_, rfl, q, _, rfl, .inl hX3, _, rfl, by omega, by rw [hxl]; omega, fun D hD => ?_⟩
      rw [hxl]
      refine lc_all walk_range (fun j y _ => ∃ x, g[j]? = some x ∧ y = V.bl (fillAt (fillN g i) x)) hD (by omega) (fun _ _ => trivial) (fun _ _ _ _ h _ => h) ?_ ?_
      · rintro j y2 H4 H5 hj s4 ⟨rfl, rfl⟩ Q2 Z hq
        have hj' : j < g.length := by omega
        refine lc_in rfl ?_
        refine ⟨_, rfl, _, rfl, _, rfl, ?_⟩
        refine ⟨q, r, g, j, _, fillN g i, ?_, N3.same s4, Rt.get_at hj', Rt.ok_get hok (Rt.get_at hj'), .inl (.inl (s4 _ _ er)), fillN_len g i, fun H6 s6 => hq _ _ s6 ⟨_, Rt.get_at hj', rfl⟩⟩
        show [V.ref q, V.ref r, V.int (0 + (j : Int))] = _
        rw [Int.zero_add]
      · intro H4 acc s4 eD hacc hr4
        refine ⟨_, D, rfl, s3.trans s4, ?_⟩
        rw [eD, bools_of acc g (by rw [hacc]; omega) hr4]
        rfl
    · rintro σ H' ⟨y, r, rfl, s3, er⟩
      have e : ((g.length : Int) - 0).toNat = g.length := by omega
      rw [e] at er
      refine ⟨_, rfl, _, rfl, r, _, _, _, rfl, rfl, .inl (.inl er), atI_nat (map_get (getD_get (by rw [fillN_len]; exact ha))), ?_⟩
      rw [← any_eq]
      exact k H' s3
end
/-! ### asked_nodes -/
section
variable {P : Program} {w : World} {K : PySem.W.Frag} {mg : Str → Option Value} {base : Heap} {C : Addr}
theorem sc_asked_nodes : FnScope ["row", "numbers", "found"] ["row", "numbers"] (defScope s_asked_nodes) := ⟨rfl, rfl, rfl, by decide +kernel, rfl, by decide +kernel, by decide +kernel⟩
def sp_asked_nodes (K : PySem.W.Frag) (C : Addr) : Sp := fun vs H Q E => ∃ (p r : Addr) (l : List Nat) (g : Krk0.Graph) (ids : List Nat), vs = [.ref p, .ref r] ∧ SqL K H p (l.map nV) ∧ Krk0.graphOf l = some g ∧ l.length ≤ 1000 ∧ SqL K H r (ids.map nV) ∧ ids.length ≤ 1000 ∧
  (Krk0.graphOk g = true → there g.length ids = true → ∀ H' q, Same H H' → NodesAt H' q g → Q (.ref q) H') ∧ (Krk0.graphOk g = false → Er C (-71) H E) ∧ (Krk0.graphOk g = true → there g.length ids = false → Er C (-2) H E)
theorem ok_asked_nodes {f : Addr} {fd : FuncData} (F : Fun K "asked_nodes" "asked_nodes" s_asked_nodes f fd) (c1 : Cal (L2.CX P w) P w K mg base 4 "nodes_in" ["row"] (sp_nodes_in K C)) (c2 : Cal (L2.CX P w) P w K mg base 4 "must_be_there" ["nodes", "numbers"] (sp_must_be_there K C)) :
    FnOk P w K mg base (L2.CX P w) 5 f fd ["row", "numbers"] (sp_asked_nodes K C) := by
  refine F.okX sc_asked_nodes (fun vs H Q E h => ?_) (fun cdv A outer s H vs Q E hr h => ?_)
  · obtain ⟨p, r, l, g, ids, rfl, _⟩ := h
    rfl
  · obtain ⟨p, r, l, g, ids, rfl, hS, hg, hll, hI, hil, k1, k2, k3⟩ := h
    refine ⟨_, pss_cons (ps_set (i := 2) sc_asked_nodes.nd rfl (.inl rfl) (pcX c1 hr (by decide) (takes_of rfl rfl rfl rfl) (pa_cons (pv 0) pa_nil)))
      (pss_cons (ps_expr (pcX c2 hr (by decide) (takes_of rfl rfl rfl rfl) (pa_cons (pv 2) (pa_cons (pv 1) pa_nil))))
      (pss_one (ps_ret (pv 2)))), ?_⟩
    have hl3 := Rt.graphOf_len hg
    refine ⟨_, rfl, p, l, g, rfl, hS, hg, hll, fun hok H1 q s1 N1 => ?_, fun hok => k2 hok⟩
    refine ⟨_, rfl, _, rfl, q, r, g, ids, rfl, N1, by omega, s1.seq hI, hil, fun ht H2 s2 => ?_, fun ht => (k3 hok ht).mono s1⟩
    exact ⟨_, rfl, k1 hok ht H2 q (s1.trans s2) (N1.same s2)⟩
end
/-! ### any_value -/
section
variable {P : Program} {w : World} {K : PySem.W.Frag} {mg : Str → Option Value} {base : Heap} {C fI : Addr}
theorem sc_any_value : FnScope ["a", "nodes", "refusal"] ["a", "nodes"] (defScope s_any_value) := ⟨rfl, rfl, rfl, by decide +kernel, rfl, by decide +kernel, by decide +kernel⟩
def due_any (l : List Nat) (a : Nat) : List Int := Krk0Neutral.told (Krk0.act (.any l a))
def sp_any_value (K : PySem.W.Frag) : Sp := fun vs H Q _ => ∃ (a : Nat) (p : Addr) (l : List Nat) (g : Krk0.Graph), vs = [nV a, .ref p] ∧ SqL K H p (l.map nV) ∧ Krk0.graphOf l = some g ∧ l.length ≤ 1000 ∧
  ∀ H' q, H' q = some (.lst ((due_any l a).map V.int)) → Q (.ref q) H'
theorem told_say (n : Int) : Krk0Neutral.told (Krk0.say n) = [n] := rfl
theorem told_yes (b : Bool) : Krk0Neutral.told (Krk0.yes b) = [if b then 1 else 0] := rfl
theorem there1 {n a : Nat} : there n [a] = decide (a < n) := by
  show (decide (a < n) && true) = _
  rw [Bool.and_true]
theorem ok_any_value {f : Addr} {fd : FuncData} (F : Fun K "any_value" "any_value" s_any_value f fd) (low : PySem.LowX.LowTxt K mg C fI) (c1 : Cal (L2.CX P w) P w K mg base 5 "asked_nodes" ["row", "numbers"] (sp_asked_nodes K C))
    (c2 : Cal CX0 P w K mg base 2 "has_values" ["nodes", "start"] sp_has_values) (mi : mg "int" = none) : FnOk P w K mg base CX0 6 f fd ["a", "nodes"] (sp_any_value K) := by
  refine F.ok sc_any_value (fun vs H Q E h => ?_) (fun cdv A outer s H vs Q E hr h => ?_)
  · obtain ⟨a, p, l, g, rfl, _⟩ := h
    rfl
  · obtain ⟨a, p, l, g, rfl, hS, hg, hll, k⟩ := h
    refine ⟨_, pss_one (ps_try_as (i := 2) rfl rfl sc_any_value.nd rfl rfl ⟨rfl, by decide, Or.inl low.gC⟩ takes0
      (fun W pn xe tk _ => pss_one (ps_ret (pe_lst (pa_cons (pe_callTy call_int1 (by rfl) mi (by decide +kernel) (pa_cons (pc0 c2 hr (by decide) (pa_cons (pcX c1 hr (by decide) tk (pa_cons (pv 1) (pa_cons (pe_lst (pa_cons (pv 0) pa_nil)) pa_nil))) (pa_cons (pv 0) pa_nil))) pa_nil)) pa_nil))))
      (fun a oe cls d pn hz hf => pss_one (ps_ret (pe_lst (pa_cons (pe_byLow low hz hf (pv 2)) pa_nil))))), ?_⟩
    have res : ∀ (n : Int) (H1 : Hp), due_any l a = [n] → ∀ q, H1 q = none → Q (.ref q) (upd H1 q (.lst [.int n])) := fun n H1 e q _ => k _ q (by rw [e, upd_same]; rfl)
    refine ⟨_, rfl, _, rfl, (by show 1 ≤ sizeLine; decide), fun r hr0 => ?_⟩
    have s1 := same_upd (o := .lst [nV a]) hr0
    refine ⟨p, r, l, g, [a], rfl, s1.seq hS, hg, hll, .inl (.inl upd_same), by simp, fun hok ht H2 q s2 N2 => ?_, fun hok => ?_, fun hok ht => ?_⟩
    · rw [there1, decide_eq_true_eq] at ht
      refine ⟨_, rfl, q, g, a, rfl, N2, hok, ht, fun H3 s3 => ?_⟩
      refine .inr ⟨_, rfl, (by show 1 ≤ sizeLine; decide), res _ H3 ?_⟩
      show Krk0Neutral.told (Krk0.with_ l [a] fun g => Krk0.yes (Krk0.any g a)) = _
      rw [Rt.with_ok hg hok ((there1 (a := a)).trans (decide_eq_true ht))]
      rfl
    · intro d H1 s1 e1
      refine ⟨true, low.te, fun _ a0 _ => ?_, fun z => Bool.noConfusion z⟩
      refine ⟨_, rfl, rfl, rfl, d, _, rfl, e1, (by show 1 ≤ sizeLine; decide), res _ H1 ?_⟩
      show Krk0Neutral.told (Krk0.with_ l [a] fun g => Krk0.yes (Krk0.any g a)) = _
      rw [Rt.with_bad hg hok]
      rfl
    · intro d H1 s1 e1
      refine ⟨true, low.te, fun _ a0 _ => ?_, fun z => Bool.noConfusion z⟩
      refine ⟨_, rfl, rfl, rfl, d, _, rfl, e1, (by show 1 ≤ sizeLine; decide), res _ H1 ?_⟩
      show Krk0Neutral.told (Krk0.with_ l [a] fun g => Krk0.yes (Krk0.any g a)) = _
      rw [Rt.with_no hg hok ht]
      rfl
end
/-! ### the end -/
theorem exm_self {K : PySem.W.Frag} {S : Addr} (h1 : PySem.W.subIn K (.ref S) (.type "BaseException") = some true) (h2 : PySem.W.isClsIn K S = true) (h3 : PySem.W.typeIn K (.ref S) = some (.type "type")) (h4 : PySem.W.subIn K (.ref S) (.ref S) = some true) :
    PySem.W.exmOne K (.ref S) (.ref S) = some true := by
  have e1 : (PySem.W.subIn K (.ref S) (.type "BaseException") == some true) = true := by rw [h1] <;> rfl
  have e2 : ((PySem.W.clsIn K S).isSome && PySem.W.typeIn K (.ref S) == some (.type "type")) = true := by
    have h2' : (PySem.W.clsIn K S).isSome = true := h2
    rw [h2', h3] <;> rfl
  show (if (PySem.W.subIn K (.ref S) (.type "BaseException") == some true) = true then (if ((PySem.W.clsIn K S).isSome && PySem.W.typeIn K (.ref S) == some (.type "type")) = true then PySem.W.subIn K (.ref S) (.ref S) else none) else none) = some true
  rw [if_pos e1, if_pos e2]
  exact h4
theorem all_mk {P : Program} {w : World} {K : PySem.W.Frag} {h : Heap} {mg : Str → Option Value} {fa C fi : Addr} (X : K.In h) (G : h.Ns mainGlobals mg) (hfa : mg "any_value" = some (.ref fa))
    {nm q : Str} {N : Addr} {bs : List Value} {sn : List Str} {sub : List Value} {ab : Bool} {col : Option Bool} {dd : Option Addr} {m0 m1 m2 m3 m5 : Option Value}
    {odi ani : Option Addr} {sli : Array (Option Value)} {oci dci pmi cdi cti : Value}
    {f0 : Addr} {od0 an0 : Option Addr} {sl0 : Array (Option Value)} {oc0 kV0 dc0 pm0 cd0 ct0 : Value}
    {f1 : Addr} {od1 an1 : Option Addr} {sl1 : Array (Option Value)} {oc1 kV1 dc1 pm1 cd1 ct1 : Value}
    {f2 : Addr} {od2 an2 : Option Addr} {sl2 : Array (Option Value)} {oc2 kV2 dc2 pm2 cd2 ct2 : Value}
    {f3 : Addr} {od3 an3 : Option Addr} {sl3 : Array (Option Value)} {oc3 kV3 dc3 pm3 cd3 ct3 : Value}
    {f4 : Addr} {od4 an4 : Option Addr} {sl4 : Array (Option Value)} {oc4 kV4 dc4 pm4 cd4 ct4 : Value}
    {f5 : Addr} {od5 an5 : Option Addr} {sl5 : Array (Option Value)} {oc5 kV5 dc5 pm5 cd5 ct5 : Value}
    {f6 : Addr} {od6 an6 : Option Addr} {sl6 : Array (Option Value)} {oc6 kV6 dc6 pm6 cd6 ct6 : Value}
    {f7 : Addr} {od7 an7 : Option Addr} {sl7 : Array (Option Value)} {oc7 kV7 dc7 pm7 cd7 ct7 : Value}
    {u_PAIR : Tok}
    {u_CHOICE : Tok}
    {u_FUNCTION : Tok}
    {u_MOST_NODES : Tok}
    {u_NO_NODES : Tok}
    {u_NO_NODE : Tok}
    {u_ANYTHING : Tok}
    {u_NUMBER : Tok}
    {u_TRUTH : Tok}
    (aC : PySem.W.nsIn K mainGlobals "Refused" = some (some (.ref C)))
    (xL : K.lookup C = some (excClassObj nm q C N bs [.type "ValueError", .type "Exception", .type "BaseException", .type "object"] true sn sub ab col dd m0 m1 m2 m3 m5 "ValueError.__new__"))
    (sa : PySem.W.findIn K (.ref C) "__setattr__" = some (some (.builtin "object.__setattr__"))) (ga : PySem.W.findIn K (.ref C) "__getattribute__" = some (some (.builtin "BaseException.__getattribute__"))) (gg : PySem.W.findIn K (.ref C) "__getattr__" = some none) (nb : PySem.W.findIn K (.ref C) "number" = some none)
    (ai : PySem.W.findIn K (.ref C) "__init__" = some (some (.ref fi))) (ti : PySem.W.typeIn K (.ref fi) = some (.type "function"))
    (li : K.lookup fi = some ⟨oci, odi, .func (PySem.W.fnOf "__init__" "Refused.__init__" (PySem.LowX.iA ⟨13, 17, 13, 21⟩ ⟨13, 23, 13, 29⟩) (PySem.LowX.iB ⟨14, 8, 14, 12⟩ ⟨14, 8, 14, 19⟩ ⟨14, 22, 14, 28⟩ ⟨14, 8, 14, 28⟩) PySem.LowX.iS .none .none dci pmi ani cdi cti), sli⟩) (ci : PySem.W.codeIn K cdi "Refused.__init__" = true)
    (kC : PySem.W.keepIn K (.ref C) = true) (eC : PySem.W.subIn K (.ref C) (.type "BaseException") = some true) (tC : PySem.W.typeIn K (.ref C) = some (.type "type")) (hC : PySem.W.hasDictIn K C = true) (iC : PySem.W.isClsIn K C = true) (sC : PySem.W.subIn K (.ref C) (.ref C) = some true)
    (a0 : PySem.W.nsIn K mainGlobals "must" = some (some (.ref f0))) (l0 : K.lookup f0 = some ⟨oc0, od0, .func (PySem.W.fnOf "must" "must" (defArgs s_must) (defBody s_must) (defScope s_must) .none kV0 dc0 pm0 an0 cd0 ct0), sl0⟩) (c0 : PySem.W.codeIn K cd0 "must" = true) (k0 : PySem.W.keepIn K (.ref f0) = true)
    (a1 : PySem.W.nsIn K mainGlobals "is_node" = some (some (.ref f1))) (l1 : K.lookup f1 = some ⟨oc1, od1, .func (PySem.W.fnOf "is_node" "is_node" (defArgs s_is_node) (defBody s_is_node) (defScope s_is_node) .none kV1 dc1 pm1 an1 cd1 ct1), sl1⟩) (c1 : PySem.W.codeIn K cd1 "is_node" = true) (k1 : PySem.W.keepIn K (.ref f1) = true)
    (a2 : PySem.W.nsIn K mainGlobals "nodes_in" = some (some (.ref f2))) (l2 : K.lookup f2 = some ⟨oc2, od2, .func (PySem.W.fnOf "nodes_in" "nodes_in" (defArgs s_nodes_in) (defBody s_nodes_in) (defScope s_nodes_in) .none kV2 dc2 pm2 an2 cd2 ct2), sl2⟩) (c2 : PySem.W.codeIn K cd2 "nodes_in" = true) (k2 : PySem.W.keepIn K (.ref f2) = true)
    (a3 : PySem.W.nsIn K mainGlobals "must_be_there" = some (some (.ref f3))) (l3 : K.lookup f3 = some ⟨oc3, od3, .func (PySem.W.fnOf "must_be_there" "must_be_there" (defArgs s_must_be_there) (defBody s_must_be_there) (defScope s_must_be_there) .none kV3 dc3 pm3 an3 cd3 ct3), sl3⟩) (c3 : PySem.W.codeIn K cd3 "must_be_there" = true) (k3 : PySem.W.keepIn K (.ref f3) = true)
    (a4 : PySem.W.nsIn K mainGlobals "is_filled" = some (some (.ref f4))) (l4 : K.lookup f4 = some ⟨oc4, od4, .func (PySem.W.fnOf "is_filled" "is_filled" (defArgs s_is_filled) (defBody s_is_filled) (defScope s_is_filled) .none kV4 dc4 pm4 an4 cd4 ct4), sl4⟩) (c4 : PySem.W.codeIn K cd4 "is_filled" = true) (k4 : PySem.W.keepIn K (.ref f4) = true)
    (a5 : PySem.W.nsIn K mainGlobals "has_values" = some (some (.ref f5))) (l5 : K.lookup f5 = some ⟨oc5, od5, .func (PySem.W.fnOf "has_values" "has_values" (defArgs s_has_values) (defBody s_has_values) (defScope s_has_values) .none kV5 dc5 pm5 an5 cd5 ct5), sl5⟩) (c5 : PySem.W.codeIn K cd5 "has_values" = true) (k5 : PySem.W.keepIn K (.ref f5) = true)
    (a6 : PySem.W.nsIn K mainGlobals "asked_nodes" = some (some (.ref f6))) (l6 : K.lookup f6 = some ⟨oc6, od6, .func (PySem.W.fnOf "asked_nodes" "asked_nodes" (defArgs s_asked_nodes) (defBody s_asked_nodes) (defScope s_asked_nodes) .none kV6 dc6 pm6 an6 cd6 ct6), sl6⟩) (c6 : PySem.W.codeIn K cd6 "asked_nodes" = true) (k6 : PySem.W.keepIn K (.ref f6) = true)
    (a7 : PySem.W.nsIn K mainGlobals "any_value" = some (some (.ref f7))) (l7 : K.lookup f7 = some ⟨oc7, od7, .func (PySem.W.fnOf "any_value" "any_value" (defArgs s_any_value) (defBody s_any_value) (defScope s_any_value) .none kV7 dc7 pm7 an7 cd7 ct7), sl7⟩) (c7 : PySem.W.codeIn K cd7 "any_value" = true) (k7 : PySem.W.keepIn K (.ref f7) = true)
    (n_PAIR : PySem.W.nsIn K mainGlobals "PAIR" = some (some (.int (4) u_PAIR)))
    (n_CHOICE : PySem.W.nsIn K mainGlobals "CHOICE" = some (some (.int (5) u_CHOICE)))
    (n_FUNCTION : PySem.W.nsIn K mainGlobals "FUNCTION" = some (some (.int (6) u_FUNCTION)))
    (n_MOST_NODES : PySem.W.nsIn K mainGlobals "MOST_NODES" = some (some (.int (32) u_MOST_NODES)))
    (n_NO_NODES : PySem.W.nsIn K mainGlobals "NO_NODES" = some (some (.int (-71) u_NO_NODES)))
    (n_NO_NODE : PySem.W.nsIn K mainGlobals "NO_NODE" = some (some (.int (-2) u_NO_NODE)))
    (n_ANYTHING : PySem.W.nsIn K mainGlobals "ANYTHING" = some (some (.int (1) u_ANYTHING)))
    (n_NUMBER : PySem.W.nsIn K mainGlobals "NUMBER" = some (some (.int (2) u_NUMBER)))
    (n_TRUTH : PySem.W.nsIn K mainGlobals "TRUTH" = some (some (.int (3) u_TRUTH)))
    (z_range : PySem.W.nsIn K mainGlobals "range" = some none)
    (z_len : PySem.W.nsIn K mainGlobals "len" = some none)
    (z_all : PySem.W.nsIn K mainGlobals "all" = some none)
    (z_int : PySem.W.nsIn K mainGlobals "int" = some none)
    : ∃ fd : FuncData, (∀ (s : Shared) (us : List Value), us.length = (["a", "nodes"] : List Str).length → BindsTo s fd ⟨us, []⟩ ((["a", "nodes"] : List Str).zip us)) ∧ ∀ base : Heap, K.In base → base.Ns mainGlobals mg → FnOk P w K mg base CX0 6 fa fd ["a", "nodes"] (sp_any_value K) := by
  have e := hfa.symm.trans (PySem.W.mg_of X G a7)
  cases e
  have low : PySem.LowX.LowTxt K mg C fi :=
    { gC := PySem.W.mg_of X G aC, cls := ⟨nm, q, N, bs, _, sn, sub, ab, col, dd, m0, m1, m2, m3, m5, xL, by decide +kernel⟩, sa := sa, ga := ga, gg := gg, noN := nb, iC := ai, tC := ti, kC := kC, exC := eC, tyC := tC, hdC := hC, te := exm_self eC iC tC sC,
      fn := ⟨_, _, _, _, _, _, _, _, _, _, _, _, _, _, li, ci⟩ }
  refine ⟨PySem.W.fnOf "any_value" "any_value" (defArgs s_any_value) (defBody s_any_value) (defScope s_any_value) .none kV7 dc7 pm7 an7 cd7 ct7, fun s us hu => match us, hu with | [_, _], _ => .of_eq rfl, fun base _ _ => ?_⟩
  have F0 := fun_mk (st := s_must) l0 c0 k0
  have C_must : Cal (L2.CX P w) P w K mg base 3 "must" ["so", "number"] (sp_must C) := ⟨_, _, PySem.W.mg_of X G a0, k0, ok_must F0 low, F0.binds fun _ _ _ _ _ _ us hl => match us, hl with | [_, _], _ => rfl⟩
  have F1 := fun_mk (st := s_is_node) l1 c1 k1
  have C_is_node : Cal CX0 P w K mg base 1 "is_node" ["node", "many"] sp_is_node := ⟨_, _, PySem.W.mg_of X G a1, k1, ok_is_node F1 ⟨_, PySem.W.mg_of X G n_PAIR⟩ ⟨_, PySem.W.mg_of X G n_CHOICE⟩ ⟨_, PySem.W.mg_of X G n_FUNCTION⟩, F1.binds fun _ _ _ _ _ _ us hl => match us, hl with | [_, _], _ => rfl⟩
  have F2 := fun_mk (st := s_nodes_in) l2 c2 k2
  have C_nodes_in : Cal (L2.CX P w) P w K mg base 4 "nodes_in" ["row"] (sp_nodes_in K C) := ⟨_, _, PySem.W.mg_of X G a2, k2, ok_nodes_in F2 C_must C_is_node (PySem.W.mg_none_of X G z_range) (PySem.W.mg_none_of X G z_len) (PySem.W.mg_none_of X G z_all) ⟨_, PySem.W.mg_of X G n_MOST_NODES⟩ ⟨_, PySem.W.mg_of X G n_NO_NODES⟩, F2.binds fun _ _ _ _ _ _ us hl => match us, hl with | [_], _ => rfl⟩
  have F3 := fun_mk (st := s_must_be_there) l3 c3 k3
  have C_must_be_there : Cal (L2.CX P w) P w K mg base 4 "must_be_there" ["nodes", "numbers"] (sp_must_be_there K C) := ⟨_, _, PySem.W.mg_of X G a3, k3, ok_must_be_there F3 C_must (PySem.W.mg_none_of X G z_len) (PySem.W.mg_none_of X G z_all) ⟨_, PySem.W.mg_of X G n_NO_NODE⟩, F3.binds fun _ _ _ _ _ _ us hl => match us, hl with | [_, _], _ => rfl⟩
  have F4 := fun_mk (st := s_is_filled) l4 c4 k4
  have C_is_filled : Cal CX0 P w K mg base 1 "is_filled" ["nodes", "filled", "number"] (sp_is_filled K) := ⟨_, _, PySem.W.mg_of X G a4, k4, ok_is_filled F4 ⟨_, PySem.W.mg_of X G n_ANYTHING⟩ ⟨_, PySem.W.mg_of X G n_NUMBER⟩ ⟨_, PySem.W.mg_of X G n_TRUTH⟩ ⟨_, PySem.W.mg_of X G n_PAIR⟩ ⟨_, PySem.W.mg_of X G n_CHOICE⟩, F4.binds fun _ _ _ _ _ _ us hl => match us, hl with | [_, _, _], _ => rfl⟩
  have F5 := fun_mk (st := s_has_values) l5 c5 k5
  have C_has_values : Cal CX0 P w K mg base 2 "has_values" ["nodes", "start"] sp_has_values := ⟨_, _, PySem.W.mg_of X G a5, k5, ok_has_values F5 C_is_filled (PySem.W.mg_none_of X G z_range) (PySem.W.mg_none_of X G z_len), F5.binds fun _ _ _ _ _ _ us hl => match us, hl with | [_, _], _ => rfl⟩
  have F6 := fun_mk (st := s_asked_nodes) l6 c6 k6
  have C_asked_nodes : Cal (L2.CX P w) P w K mg base 5 "asked_nodes" ["row", "numbers"] (sp_asked_nodes K C) := ⟨_, _, PySem.W.mg_of X G a6, k6, ok_asked_nodes F6 C_nodes_in C_must_be_there, F6.binds fun _ _ _ _ _ _ us hl => match us, hl with | [_, _], _ => rfl⟩
  have F7 := fun_mk (st := s_any_value) l7 c7 k7
  exact ok_any_value F7 low C_asked_nodes C_has_values (PySem.W.mg_none_of X G z_int)
theorem nat_list : ∀ (ns : List Int), (∀ z ∈ ns, 0 ≤ z) → ns.map V.int = (ns.map Int.toNat).map nV
  | [], _ => rfl
  | z :: r, h => by
    have e : ((z.toNat : Nat) : Int) = z := Int.toNat_of_nonneg (h z List.mem_cons_self)
    rw [List.map_cons, List.map_cons, List.map_cons, nat_list r fun y hy => h y (List.mem_cons_of_mem _ hy)]
    show _ = V.int ((z.toNat : Nat) : Int) :: _
    rw [e]
theorem natural_nn {z : Int} (h : Krk0Neutral.natural z 32 = true) : 0 ≤ z := by
  unfold Krk0Neutral.natural at h
  rw [Bool.and_eq_true, decide_eq_true_eq] at h
  exact h.1
theorem naturals_nn {ns : List Int} (h : ns.all (fun (z : Int) => Krk0Neutral.natural z 32) = true) : ∀ z ∈ ns, 0 ≤ z := fun z hz => natural_nn (List.all_eq_true.mp h z hz)
theorem int_V {z : Int} (h : 0 ≤ z) : V.int z = nV z.toNat := by
  show _ = V.int ((z.toNat : Nat) : Int)
  rw [Int.toNat_of_nonneg h]
end Rt
open PySem PySem.W PyProof.Rows
set_option maxRecDepth 100000 in
set_option maxHeartbeats 8000000 in
theorem PySem.Challenge.cw_roundtypesworks_s07_any_value_holds : PySem.Challenge.rw_roundtypesworks_s07_any_value.Holds := by
  w_on; k_headS; (case hw => exact ⟨[.int 0, .list []], by decide +kernel, by decide +kernel⟩)
  k_fillS
  refine L2.walk_specK (r := PySem.Challenge.rw_roundtypesworks_s07_any_value) (k := 6) (CX := L2.CX0) (ps := ["a", "nodes"]) (sp := fun K => Rt.sp_any_value K) (by decide +kernel) rfl rfl ⟨rfl, by decide, by decide⟩ (fun w h Y => PySem.W.kIn_of Y) ?F ?S (fun _ _ _ _ z => z)
  case F =>
    intro w mg fa h Y KX G hmg
    refine' Rt.all_mk KX G hmg ?aC ?xL ?sa ?ga ?gg ?nb ?ai ?ti ?li ?ci ?kC ?eC ?tC ?hC ?iC ?sC ?a0 ?l0 ?c0 ?k0 ?a1 ?l1 ?c1 ?k1 ?a2 ?l2 ?c2 ?k2 ?a3 ?l3 ?c3 ?k3 ?a4 ?l4 ?c4 ?k4 ?a5 ?l5 ?c5 ?k5 ?a6 ?l6 ?c6 ?k6 ?a7 ?l7 ?c7 ?k7 ?n_PAIR ?n_CHOICE ?n_FUNCTION ?n_MOST_NODES ?n_NO_NODES ?n_NO_NODE ?n_ANYTHING ?n_NUMBER ?n_TRUTH ?z_range ?z_len ?z_all ?z_int
    (case aC => k_is)
    (case xL => k_is)
    (case sa => k_is)
    (case ga => k_is)
    (case gg => k_is)
    (case nb => k_is)
    (case ai => k_is)
    (case ti => k_is)
    (case li => k_is)
    (case ci => k_is)
    (case kC => k_is)
    (case eC => k_is)
    (case tC => k_is)
    (case hC => k_is)
    (case iC => k_is)
    (case sC => first | rfl | k_is)
    (case a0 => k_is)
    (case l0 => k_is)
    (case c0 => k_is)
    (case k0 => k_is)
    (case a1 => k_is)
    (case l1 => k_is)
    (case c1 => k_is)
    (case k1 => k_is)
    (case a2 => k_is)
    (case l2 => k_is)
    (case c2 => k_is)
    (case k2 => k_is)
    (case a3 => k_is)
    (case l3 => k_is)
    (case c3 => k_is)
    (case k3 => k_is)
    (case a4 => k_is)
    (case l4 => k_is)
    (case c4 => k_is)
    (case k4 => k_is)
    (case a5 => k_is)
    (case l5 => k_is)
    (case c5 => k_is)
    (case k5 => k_is)
    (case a6 => k_is)
    (case l6 => k_is)
    (case c6 => k_is)
    (case k6 => k_is)
    (case a7 => k_is)
    (case l7 => k_is)
    (case c7 => k_is)
    (case k7 => k_is)
    (case n_PAIR => k_is)
    (case n_CHOICE => k_is)
    (case n_FUNCTION => k_is)
    (case n_MOST_NODES => k_is)
    (case n_NO_NODES => k_is)
    (case n_NO_NODE => k_is)
    (case n_ANYTHING => k_is)
    (case n_NUMBER => k_is)
    (case n_TRUTH => k_is)
    (case z_range => k_is)
    (case z_len => k_is)
    (case z_all => k_is)
    (case z_int => k_is)
  case S =>
    intro K H xs a hO hwi hask hx
    obtain ⟨x0, x1, u⟩ := a
    cases hx with
    | cons h0 t0 =>
    cases t0 with
    | cons h1 t1 =>
    cases t1
    cases h0
    cases h1 with
    | lst hs1 ha1 =>
    have e1 := L2.ints_dw x1 _ ha1
    subst e1
    have q : PyKrk0.any_value_asked x0 x1 = true := hask
    have q' : (Krk0Neutral.natural x0 32 && x1.all (fun (z : Int) => Krk0Neutral.natural z 32) && x1.length % 3 == 0 && decide (x1.length < 768)) = true := q
    simp only [Bool.and_eq_true, decide_eq_true_eq, beq_iff_eq] at q'
    obtain ⟨⟨⟨q0, q1⟩, q2⟩, q3⟩ := q'
    obtain ⟨g, hg⟩ := Rt.graphOf_some (x1.length / 3) (x1.map Int.toNat) (by rw [List.length_map]; omega)
    refine ⟨x0.toNat, _, x1.map Int.toNat, g, by rw [Rt.int_V (Rt.natural_nn q0)], by rw [← Rt.nat_list x1 (Rt.naturals_nn q1)]; exact hs1, hg, by rw [List.length_map]; omega, fun H' p hp => ?_⟩
    exact .lst (L2.SqL.of hp) (L2.dw_ints _)
#print axioms PySem.Challenge.cw_roundtypesworks_s07_any_value_holds
