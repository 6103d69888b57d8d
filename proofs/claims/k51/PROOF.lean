import PyProof.Rows.All
import Wide.All
import OpenK.AllK
import Wide.FinOn
import HandS.Base
import HandS.Call
import HandS.List
import HandS.Comp
import HandS.Iter
import HandS.Zip
import HandS.Text
import HandS.Deep
import HandS.TupAny
import HandS.Exc
import HandS.ExcOwn
import HandS.Words
import HandS.WordsExc
import HandS.Defaults
import PyProof.AutoSeq1
import PyProof.Draws
import PyProof.EnumMake
import KE.GoesMore
import KE.GoesEnum
import HandS.ExcIs
import HandS.IsInst
import HandS.TryOnly
import HandS.TryMany
import HandS.HeadHook1
import HandS.HeadHook2
import KE.KIntText
import KE.KStateDown
import HandS.Head0
import HandS.Head1
import HandS.Head2
import HandS.HeadEnd
import PySem.Challenge.RW_cloak_k51_whole_showings_checked
set_option Elab.async false
set_option linter.all false
set_option maxRecDepth 100000
set_option maxHeartbeats 1000000
set_option autoImplicit false
/-! # Data level: what a value stands for, in a part G of the heap that nobody changes any more (the frozen part); expressions give data, statements turn data environments -/
namespace Ck
open PySem PySem.Spec PyProof.Rows L2

/-! ### values and data -/
mutual
inductive Is (G : Hp) : V → PyData → Prop
  | non : Is G .non .none
  | bl (b : Bool) : Is G (.bl b) (.bool b)
  | int (i : Int) : Is G (.int i) (.int i)
  | str (x : Str) : Is G (.str x) (.str x)
  | lst {a : Addr} {xs : List V} {ds : List PyData} : G a = some (.lst xs) → Iss G xs ds → Is G (.ref a) (.list ds)
  | tup {a : Addr} {xs : List V} {ds : List PyData} : G a = some (.tup xs) → Iss G xs ds → Is G (.ref a) (.tuple ds)
inductive Iss (G : Hp) : List V → List PyData → Prop
  | nil : Iss G [] []
  | cons {v : V} {vs : List V} {d : PyData} {ds : List PyData} : Is G v d → Iss G vs ds → Iss G (v :: vs) (d :: ds)
end
mutual
theorem Is.up {G G' : Hp} (e : Same G G') : ∀ (d : PyData) (v : V), Is G v d → Is G' v d
  | .none, _, h => by cases h; exact .non
  | .bool b, _, h => by cases h; exact .bl b
  | .int i, _, h => by cases h; exact .int i
  | .str x, _, h => by cases h; exact .str x
  | .list ds, _, h => by
    cases h with
    | lst h1 h2 => exact .lst (e _ _ h1) (Iss.up e ds _ h2)
  | .tuple ds, _, h => by
    cases h with
    | tup h1 h2 => exact .tup (e _ _ h1) (Iss.up e ds _ h2)
  | .dict _, _, h => by cases h
theorem Iss.up {G G' : Hp} (e : Same G G') : ∀ (ds : List PyData) (vs : List V), Iss G vs ds → Iss G' vs ds
  | [], _, h => by cases h; exact .nil
  | d :: ds, _, h => by
    cases h with
    | cons h1 h2 => exact .cons (Is.up e d _ h1) (Iss.up e ds _ h2)
end
mutual
theorem Is.dp {K : PySem.W.Frag} {G : Hp} : ∀ (d : PyData) (v : V), Is G v d → Dp K G v d
  | .none, _, h => by cases h; exact .non
  | .bool b, _, h => by cases h; exact .bl b
  | .int i, _, h => by cases h; exact .int i
  | .str x, _, h => by cases h; exact .str x
  | .list ds, _, h => by
    cases h with
    | lst h1 h2 => exact .lst (SqL.of h1) (Iss.dp ds _ h2)
  | .tuple ds, _, h => by
    cases h with
    | tup h1 h2 => exact .tup (SqT.of h1) (Iss.dp ds _ h2)
  | .dict _, _, h => by cases h
theorem Iss.dp {K : PySem.W.Frag} {G : Hp} : ∀ (ds : List PyData) (vs : List V), Iss G vs ds → DpAll K G vs ds
  | [], _, h => by cases h; exact .nil
  | d :: ds, _, h => by
    cases h with
    | cons h1 h2 => exact .cons (Is.dp d _ h1) (Iss.dp ds _ h2)
end
theorem Is.mono {G G' : Hp} {v : V} {d : PyData} (h : Is G v d) (e : Same G G') : Is G' v d := Is.up e d v h
theorem Iss.mono {G G' : Hp} {vs : List V} {ds : List PyData} (h : Iss G vs ds) (e : Same G G') : Iss G' vs ds := Iss.up e ds vs h
theorem Iss.length {G : Hp} : ∀ {vs : List V} {ds : List PyData}, Iss G vs ds → vs.length = ds.length
  | _, [], h => by cases h; rfl
  | _, d :: ds, h => by
    cases h with
    | cons h1 h2 => simp [Iss.length h2]
theorem Iss.at_ {G : Hp} : ∀ {ds : List PyData} {vs : List V} {i : Nat} {d : PyData}, Iss G vs ds → ds[i]? = some d → ∃ v, vs[i]? = some v ∧ Is G v d
  | [], _, i, d, h, e => by simp at e
  | d0 :: ds, _, i, d, h, e => by
    cases h with
    | cons h1 h2 =>
      cases i with
      | zero =>
        have e' : d0 = d := by simpa using e
        subst e'
        exact ⟨_, rfl, h1⟩
      | succ i =>
        obtain ⟨v, q, r⟩ := Iss.at_ (i := i) h2 (by simpa using e)
        exact ⟨v, by simpa using q, r⟩
theorem Iss.atV {G : Hp} : ∀ {ds : List PyData} {vs : List V} {i : Nat} {v : V}, Iss G vs ds → vs[i]? = some v → ∃ d, ds[i]? = some d ∧ Is G v d
  | [], _, i, v, h, e => by cases h; simp at e
  | d0 :: ds, _, i, v, h, e => by
    cases h with
    | @cons v0 vs _ _ h1 h2 =>
      cases i with
      | zero =>
        have e' : v0 = v := by simpa using e
        subst e'
        exact ⟨_, rfl, h1⟩
      | succ i =>
        obtain ⟨d, q, r⟩ := Iss.atV (i := i) h2 (by simpa using e)
        exact ⟨d, by simpa using q, r⟩
theorem Iss.app {G : Hp} : ∀ {ds : List PyData} {vs : List V} {es : List PyData} {ws : List V}, Iss G vs ds → Iss G ws es → Iss G (vs ++ ws) (ds ++ es)
  | [], _, _, _, h, k => by cases h; exact k
  | d :: ds, _, _, _, h, k => by
    cases h with
    | cons h1 h2 => exact .cons h1 (Iss.app h2 k)
theorem Iss.take {G : Hp} : ∀ {ds : List PyData} {vs : List V} (n : Nat), Iss G vs ds → Iss G (vs.take n) (ds.take n)
  | [], _, n, h => by cases h; simp; exact .nil
  | d :: ds, _, n, h => by
    cases h with
    | cons h1 h2 =>
      cases n with
      | zero => exact .nil
      | succ n => exact .cons h1 (Iss.take n h2)
theorem Iss.drop {G : Hp} : ∀ {ds : List PyData} {vs : List V} (n : Nat), Iss G vs ds → Iss G (vs.drop n) (ds.drop n)
  | [], _, n, h => by cases h; simp; exact .nil
  | d :: ds, _, n, h => by
    cases h with
    | cons h1 h2 =>
      cases n with
      | zero => exact .cons h1 h2
      | succ n => exact Iss.drop n h2
theorem Iss.set {G : Hp} {v : V} {d : PyData} (k : Is G v d) : ∀ {ds : List PyData} {vs : List V} (n : Nat), Iss G vs ds → Iss G (vs.set n v) (ds.set n d)
  | [], _, n, h => by cases h; exact .nil
  | d0 :: ds, _, n, h => by
    cases h with
    | cons h1 h2 =>
      cases n with
      | zero => exact .cons k h2
      | succ n => exact .cons h1 (Iss.set k n h2)
theorem Is.int_eq {G : Hp} {v : V} {i : Int} (h : Is G v (.int i)) : v = .int i := by cases h; rfl
theorem Is.bl_eq {G : Hp} {v : V} {b : Bool} (h : Is G v (.bool b)) : v = .bl b := by cases h; rfl
theorem Is.str_eq {G : Hp} {v : V} {x : Str} (h : Is G v (.str x)) : v = .str x := by cases h; rfl
theorem Is.non_eq {G : Hp} {v : V} (h : Is G v .none) : v = .non := by cases h; rfl
theorem Is.tup_inv {G : Hp} {v : V} {ds : List PyData} (h : Is G v (.tuple ds)) : ∃ a xs, v = .ref a ∧ G a = some (.tup xs) ∧ Iss G xs ds := by
  cases h with
  | tup h1 h2 => exact ⟨_, _, rfl, h1, h2⟩
theorem Is.lst_inv {G : Hp} {v : V} {ds : List PyData} (h : Is G v (.list ds)) : ∃ a xs, v = .ref a ∧ G a = some (.lst xs) ∧ Iss G xs ds := by
  cases h with
  | lst h1 h2 => exact ⟨_, _, rfl, h1, h2⟩
/-- ints, texts, bools as data -/
def dI (ns : List Int) : List PyData := ns.map .int
def dS (xs : List Str) : List PyData := xs.map .str
def dB (bs : List Bool) : List PyData := bs.map .bool
theorem Iss.ints {G : Hp} : ∀ {ns : List Int} {vs : List V}, Iss G vs (dI ns) → vs = ns.map V.int
  | [], _, h => by cases h; rfl
  | n :: ns, _, h => by
    cases h with
    | cons h1 h2 => rw [h1.int_eq, Iss.ints h2]; rfl
theorem Iss.strs {G : Hp} : ∀ {ns : List Str} {vs : List V}, Iss G vs (dS ns) → vs = ns.map V.str
  | [], _, h => by cases h; rfl
  | n :: ns, _, h => by
    cases h with
    | cons h1 h2 => rw [h1.str_eq, Iss.strs h2]; rfl
theorem Iss.bls {G : Hp} : ∀ {ns : List Bool} {vs : List V}, Iss G vs (dB ns) → vs = ns.map V.bl
  | [], _, h => by cases h; rfl
  | n :: ns, _, h => by
    cases h with
    | cons h1 h2 => rw [h1.bl_eq, Iss.bls h2]; rfl
theorem Iss.of_ints {G : Hp} : ∀ ns : List Int, Iss G (ns.map V.int) (dI ns)
  | [] => .nil
  | n :: ns => .cons (.int n) (Iss.of_ints ns)

/-! ### the frozen part grows -/
structure Ax (H G H2 G2 : Hp) : Prop where
  h : Same H H2
  g : Same G G2
  s : Same G2 H2
  f : ∀ a o, H a = some o → G a = none → G2 a = none
theorem Ax.refl {H G : Hp} (s : Same G H) : Ax H G H G := ⟨Same.refl H, Same.refl G, s, fun _ _ _ n => n⟩
theorem Ax.trans {H G H1 G1 H2 G2 : Hp} (a : Ax H G H1 G1) (b : Ax H1 G1 H2 G2) : Ax H G H2 G2 :=
  ⟨a.h.trans b.h, a.g.trans b.g, b.s, fun x o e n => b.f x o (a.h x o e) (a.f x o e n)⟩
theorem Same.new {H : Hp} {p : Addr} {o : HO} (n : H p = none) : Same H (upd H p o) := fun b u e => by
  rw [upd_ne (ne_of_none e n)]
  exact e
/-- a new object, known to the frozen part -/
theorem Ax.new {H G : Hp} {p : Addr} {o : HO} (s : Same G H) (n : H p = none) : Ax H G (upd H p o) (upd G p o) := by
  have ng : G p = none := Same.free s n
  refine ⟨Same.new n, Same.new ng, fun b u e => ?_, fun a u e z => ?_⟩
  · by_cases hb : b = p
    · rw [hb, upd_same] at e
      rw [hb, upd_same]
      exact e
    · rw [upd_ne hb] at e
      rw [upd_ne hb]
      exact s b u e
  · rw [upd_ne (ne_of_none e n)]
    exact z
/-- a new object that stays outside it -/
theorem Ax.skip {H G : Hp} {p : Addr} {o : HO} (s : Same G H) (n : H p = none) : Ax H G (upd H p o) G :=
  ⟨Same.new n, Same.refl G, s.trans (Same.new n), fun _ _ _ z => z⟩

/-! ### environments -/
abbrev Ev := List (Option PyData)
structure EnvD (G : Hp) (σ : L2.St) (ρ : Ev) : Prop where
  len : σ.length = ρ.length
  at_ : ∀ (i : Nat) (d : PyData), ρ[i]? = some (some d) → ∃ v, σ[i]? = some (some v) ∧ Is G v d
theorem EnvD.mono {G G' : Hp} {σ : L2.St} {ρ : Ev} (h : EnvD G σ ρ) (e : Same G G') : EnvD G' σ ρ :=
  ⟨h.len, fun i d q => let ⟨v, q1, q2⟩ := h.at_ i d q; ⟨v, q1, q2.mono e⟩⟩
theorem EnvD.set {G : Hp} {σ : L2.St} {ρ : Ev} {v : V} {d : PyData} (h : EnvD G σ ρ) (k : Is G v d) (i : Nat) : EnvD G (σ.set i (some v)) (ρ.set i (some d)) := by
  refine ⟨by simp [h.len], fun j e q => ?_⟩
  by_cases hj : i = j
  · subst hj
    have hi : i < ρ.length := by
      have := (List.getElem?_eq_some_iff.mp q).1
      simpa using this
    rw [List.getElem?_set_self hi] at q
    have e' : d = e := by simpa using q
    subst e'
    exact ⟨v, List.getElem?_set_self (by rw [h.len]; exact hi), k⟩
  · rw [List.getElem?_set_ne hj] at q
    rw [List.getElem?_set_ne hj]
    exact h.at_ j e q
theorem EnvD.forget {G : Hp} {σ : L2.St} {ρ : Ev} {v : Option V} (h : EnvD G σ ρ) (i : Nat) : EnvD G (σ.set i v) (ρ.set i none) := by
  refine ⟨by simp [h.len], fun j e q => ?_⟩
  by_cases hj : i = j
  · subst hj
    have hi : i < ρ.length := by
      have := (List.getElem?_eq_some_iff.mp q).1
      simpa using this
    rw [List.getElem?_set_self hi] at q
    simp at q
  · rw [List.getElem?_set_ne hj] at q
    rw [List.getElem?_set_ne hj]
    exact h.at_ j e q
/-- the slots of a block's own names forgotten -/
def wipeR (ρ : Ev) : List Nat → Ev
  | [] => ρ
  | v :: vs => (wipeR ρ vs).set v none
theorem EnvD.wipe {G : Hp} {σ : L2.St} {ρ : Ev} (h : EnvD G σ ρ) : ∀ vs : List Nat, EnvD G (L2.wipe σ vs) (wipeR ρ vs)
  | [] => h
  | v :: vs => (EnvD.wipe h vs).forget v
def startR (N : List Str) (ds : List PyData) : Ev := ds.map some ++ List.replicate (N.length - ds.length) none
theorem EnvD.start {G : Hp} {N : List Str} {vs : List V} {ds : List PyData} (h : Iss G vs ds) : EnvD G (L2.start N vs) (startR N ds) := by
  refine ⟨by simp [L2.start, startR, h.length], fun i d q => ?_⟩
  unfold startR at q
  by_cases hi : i < ds.length
  · rw [List.getElem?_append_left (by simpa using hi), List.getElem?_map] at q
    cases e : ds[i]? with
    | none => rw [e] at q; simp at q
    | some d0 =>
      rw [e] at q
      have e' : d0 = d := by simpa using q
      subst e'
      obtain ⟨v, q1, q2⟩ := h.at_ e
      refine ⟨v, ?_, q2⟩
      unfold L2.start
      rw [List.getElem?_append_left (by rw [List.length_map, h.length]; exact hi), List.getElem?_map, q1]
      rfl
  · rw [List.getElem?_append_right (by simpa using hi)] at q
    have := List.mem_of_getElem? q
    simp at this

/-! ### expressions -/
def E (te : TE) (ρ : Ev) (d : PyData) : Prop := ∀ (σ : L2.St) (H G : Hp), Same G H → EnvD G σ ρ → ∀ Q : VK, (∀ v H2 G2, Ax H G H2 G2 → Is G2 v d → Q v H2) → te σ H Q
def T (tt : TT) (ρ : Ev) (b : Bool) : Prop := ∀ (σ : L2.St) (H G : Hp), Same G H → EnvD G σ ρ → ∀ Q : Bool → Hp → Prop, (∀ H2 G2, Ax H G H2 G2 → Q b H2) → tt σ H Q
def A (ta : TA) (ρ : Ev) (ds : List PyData) : Prop := ∀ (σ : L2.St) (H G : Hp), Same G H → EnvD G σ ρ → ∀ Q : List V → Hp → Prop, (∀ vs H2 G2, Ax H G H2 G2 → Iss G2 vs ds → Q vs H2) → ta σ H Q
def O (to : TO) (ρ : Ev) (o : Option Int) : Prop := ∀ (σ : L2.St) (H G : Hp), Same G H → EnvD G σ ρ → ∀ Q : Option Int → Hp → Prop, (∀ H2 G2, Ax H G H2 G2 → Q o H2) → to σ H Q
/-- operations on values -/
def OpD (r : R2) (d1 d2 d : PyData) : Prop := ∀ (x y : V) (H G : Hp), Same G H → Is G x d1 → Is G y d2 → ∀ Q : VK, (∀ v H2 G2, Ax H G H2 G2 → Is G2 v d → Q v H2) → r x y H Q
def CaD (r : List V → Hp → VK → Prop) (ds : List PyData) (d : PyData) : Prop := ∀ (vs : List V) (H G : Hp), Same G H → Iss G vs ds → ∀ Q : VK, (∀ v H2 G2, Ax H G H2 G2 → Is G2 v d → Q v H2) → r vs H Q
def SlD (r : V → Option Int → Option Int → Hp → VK → Prop) (d1 : PyData) (lo hi : Option Int) (d : PyData) : Prop := ∀ (x : V) (H G : Hp), Same G H → Is G x d1 → ∀ Q : VK, (∀ v H2 G2, Ax H G H2 G2 → Is G2 v d → Q v H2) → r x lo hi H Q
section
variable {ρ : Ev} {ta tb tc : TE} {d1 d2 d3 d : PyData} {r r' : R2}
theorem e_var {i : Nat} (h : ρ[i]? = some (some d)) : E (tVar i) ρ d := fun σ H G s e Q q => by
  obtain ⟨v, q1, q2⟩ := e.at_ i d h
  exact ⟨v, q1, q v H G (Ax.refl s) q2⟩
theorem e_int {i : Int} : E (tC (.int i)) ρ (.int i) := fun σ H G s e Q q => q _ H G (Ax.refl s) (.int i)
theorem e_bl {b : Bool} : E (tC (.bl b)) ρ (.bool b) := fun σ H G s e Q q => q _ H G (Ax.refl s) (.bl b)
theorem e_str {x : Str} : E (tC (.str x)) ρ (.str x) := fun σ H G s e Q q => q _ H G (Ax.refl s) (.str x)
theorem e_non : E (tC .non) ρ .none := fun σ H G s e Q q => q _ H G (Ax.refl s) .non
theorem e_op (ha : E ta ρ d1) (hb : E tb ρ d2) (hr : OpD r d1 d2 d) : E (tOp r ta tb) ρ d := fun σ H G s e Q q =>
  ha σ H G s e _ fun x H1 G1 a1 i1 => hb σ H1 G1 a1.s (e.mono a1.g) _ fun y H2 G2 a2 i2 =>
    hr x y H2 G2 a2.s (i1.mono a2.g) i2 Q fun v H3 G3 a3 i3 => q v H3 G3 ((a1.trans a2).trans a3) i3
theorem e_is {d' : PyData} (h : E ta ρ d) (e : d = d') : E ta ρ d' := e ▸ h
theorem OpD.i0 {g : Int → Int → Int} {i j : Int} : OpD (rI0 fun i j => .int (g i j)) (.int i) (.int j) (.int (g i j)) := fun x y H G s h1 h2 Q q =>
  ⟨i, j, h1.int_eq, h2.int_eq, q _ H G (Ax.refl s) (.int _)⟩
theorem OpD.b0 {g : Int → Int → Bool} {i j : Int} : OpD (rI0 fun i j => .bl (g i j)) (.int i) (.int j) (.bool (g i j)) := fun x y H G s h1 h2 Q q =>
  ⟨i, j, h1.int_eq, h2.int_eq, q _ H G (Ax.refl s) (.bl _)⟩
theorem OpD.ic {C : Int → Int → Prop} {g : Int → Int → Int} {i j : Int} (c : C i j) : OpD (rI C fun i j => .int (g i j)) (.int i) (.int j) (.int (g i j)) := fun x y H G s h1 h2 Q q =>
  ⟨i, j, h1.int_eq, h2.int_eq, c, q _ H G (Ax.refl s) (.int _)⟩
/-! the operators by name -/
def oAdd : R2 := rI0 fun i j => .int (i + j)
def oSub : R2 := rI0 fun i j => .int (i - j)
def oMul : R2 := rI CMul fun i j => .int (i * j)
def oMod : R2 := rI (fun _ j => 0 < j) fun i j => .int (i % j)
def oDiv : R2 := rI CDiv fun i j => .int (i / j)
def oPow : R2 := rI CPow fun i j => .int (i ^ j.toNat)
def oLt : R2 := rI0 fun i j => .bl (decide (i < j))
def oLe : R2 := rI0 fun i j => .bl (decide (i ≤ j))
def oGt : R2 := rI0 fun i j => .bl (decide (j < i))
def oGe : R2 := rI0 fun i j => .bl (decide (j ≤ i))
variable {i j : Int}
theorem o_add : OpD oAdd (.int i) (.int j) (.int (i + j)) := OpD.i0
theorem o_sub : OpD oSub (.int i) (.int j) (.int (i - j)) := OpD.i0
theorem o_mul (h : (-(2 ^ 64) < i ∧ i < 2 ^ 64) ∨ (-(2 ^ 64) < j ∧ j < 2 ^ 64)) : OpD oMul (.int i) (.int j) (.int (i * j)) := OpD.ic h
theorem o_mod (h : 0 < j) : OpD oMod (.int i) (.int j) (.int (i % j)) := OpD.ic h
theorem o_div (h : 0 < j ∧ j < 1073741824) : OpD oDiv (.int i) (.int j) (.int (i / j)) := OpD.ic h
theorem o_pow (h : 0 ≤ j ∧ j ≤ 1000000 ∧ i.natAbs < 2 ^ 64) : OpD oPow (.int i) (.int j) (.int (i ^ j.toNat)) := OpD.ic h
theorem o_lt : OpD oLt (.int i) (.int j) (.bool (decide (i < j))) := OpD.b0
theorem o_le : OpD oLe (.int i) (.int j) (.bool (decide (i ≤ j))) := OpD.b0
theorem o_gt : OpD oGt (.int i) (.int j) (.bool (decide (j < i))) := OpD.b0
theorem o_ge : OpD oGe (.int i) (.int j) (.bool (decide (j ≤ i))) := OpD.b0
theorem o_eqI : OpD rEq (.int i) (.int j) (.bool (decide (i = j))) := fun x y H G s h1 h2 Q q => by
  rw [h1.int_eq, h2.int_eq]
  refine ⟨rfl, ?_⟩
  have e : decide (V.int i = V.int j) = decide (i = j) := by simp
  rw [e]
  exact q _ H G (Ax.refl s) (.bl _)
theorem o_neI : OpD rNe (.int i) (.int j) (.bool (!decide (i = j))) := fun x y H G s h1 h2 Q q => by
  rw [h1.int_eq, h2.int_eq]
  refine ⟨rfl, ?_⟩
  have e : decide (V.int i = V.int j) = decide (i = j) := by simp
  rw [e]
  exact q _ H G (Ax.refl s) (.bl _)
theorem o_eqS {a b : Str} : OpD rEq (.str a) (.str b) (.bool (decide (a = b))) := fun x y H G s h1 h2 Q q => by
  rw [h1.str_eq, h2.str_eq]
  refine ⟨rfl, ?_⟩
  have e : decide (V.str a = V.str b) = decide (a = b) := by simp
  rw [e]
  exact q _ H G (Ax.refl s) (.bl _)
theorem o_neS {a b : Str} : OpD rNe (.str a) (.str b) (.bool (!decide (a = b))) := fun x y H G s h1 h2 Q q => by
  rw [h1.str_eq, h2.str_eq]
  refine ⟨rfl, ?_⟩
  have e : decide (V.str a = V.str b) = decide (a = b) := by simp
  rw [e]
  exact q _ H G (Ax.refl s) (.bl _)
variable {K : PySem.W.Frag}
theorem o_eqD (h1 : SeqAt.shaped d1 = true) (h2 : SeqAt.shaped d2 = true) : OpD (rEqD K) d1 d2 (.bool (PyData.eqv d1 d2)) := fun x y H G s k1 k2 Q q =>
  ⟨d1, d2, (k1.mono s).dp, (k2.mono s).dp, h1, h2, q _ H G (Ax.refl s) (.bl _)⟩
theorem o_notInD {ds : List PyData} (h1 : SeqAt.shaped d1 = true) (h2 : SeqAt.shaped (.list ds) = true) : OpD (rNotInD K) d1 (.list ds) (.bool (!ds.any fun z => PyData.eqv z d1)) := fun x y H G s k1 k2 Q q =>
  ⟨d1, ds, (k1.mono s).dp, (k2.mono s).dp, h1, h2, q _ H G (Ax.refl s) (.bl _)⟩
theorem atI_map {ds : List PyData} {vs : List V} {G : Hp} (h : Iss G vs ds) {n : Int} (e : atI ds n = some d) : ∃ v, atI vs n = some v ∧ Is G v d := by
  unfold atI at e ⊢
  rw [h.length]
  cases q : ixN ds.length n with
  | none => rw [q] at e; simp at e
  | some k =>
    rw [q] at e
    exact h.at_ e
theorem o_ixT {ds : List PyData} {n : Int} (e : atI ds n = some d) : OpD (rIxT K) (.tuple ds) (.int n) d := fun x y H G s h1 h2 Q q => by
  obtain ⟨a, xs, rfl, ha, hs⟩ := h1.tup_inv
  obtain ⟨v, q1, q2⟩ := atI_map hs e
  exact ⟨a, xs, n, v, rfl, h2.int_eq, SqT.of (s _ _ ha), q1, q v H G (Ax.refl s) q2⟩
theorem o_ixL {ds : List PyData} {n : Int} (e : atI ds n = some d) : OpD (rIxL K) (.list ds) (.int n) d := fun x y H G s h1 h2 Q q => by
  obtain ⟨a, xs, rfl, ha, hs⟩ := h1.lst_inv
  obtain ⟨v, q1, q2⟩ := atI_map hs e
  exact ⟨a, xs, n, v, rfl, h2.int_eq, SqL.of (s _ _ ha), q1, q v H G (Ax.refl s) q2⟩
def oCatS : R2 := fun x y H Q => ∃ i j, x = .str i ∧ y = .str j ∧ i.length + j.length ≤ sizeLine ∧ Q (.str (i ++ j)) H
theorem o_catS {a b : Str} (h : a.length + b.length ≤ sizeLine) : OpD oCatS (.str a) (.str b) (.str (a ++ b)) := fun x y H G s h1 h2 Q q =>
  ⟨a, b, h1.str_eq, h2.str_eq, h, q _ H G (Ax.refl s) (.str _)⟩
theorem o_catL {ds es : List PyData} (h : ds.length + es.length ≤ sizeLine) : OpD rCat (.list ds) (.list es) (.list (ds ++ es)) := fun x y H G s h1 h2 Q q => by
  obtain ⟨a, xs, rfl, ha, hs⟩ := h1.lst_inv
  obtain ⟨b, ys, rfl, hb, ht⟩ := h2.lst_inv
  refine ⟨a, b, xs, ys, rfl, rfl, s _ _ ha, s _ _ hb, by rw [hs.length, ht.length]; exact h, fun p hp => ?_⟩
  have ax := Ax.new (o := .lst (xs ++ ys)) s hp
  exact q _ _ _ ax (.lst upd_same ((hs.app ht).mono ax.g))
theorem o_catT {ds es : List PyData} (h : ds.length + es.length ≤ sizeLine) : OpD (rCatA K) (.tuple ds) (.tuple es) (.tuple (ds ++ es)) := fun x y H G s h1 h2 Q q => by
  obtain ⟨a, xs, rfl, ha, hs⟩ := h1.tup_inv
  obtain ⟨b, ys, rfl, hb, ht⟩ := h2.tup_inv
  refine ⟨a, b, xs, ys, rfl, rfl, SqT.of (s _ _ ha), SqT.of (s _ _ hb), by rw [hs.length, ht.length]; exact h, fun e => ?_, fun _ e => ?_, fun _ _ p hp => ?_⟩
  · have l := hs.length
    rw [e] at l
    have e2 : ds = [] := List.eq_nil_of_length_eq_zero l.symm
    rw [e2] at q
    exact q _ H G (Ax.refl s) h2
  · have l := ht.length
    rw [e] at l
    have e2 : es = [] := List.eq_nil_of_length_eq_zero l.symm
    rw [e2, List.append_nil] at q
    exact q _ H G (Ax.refl s) h1
  · have ax := Ax.new (o := .tup (xs ++ ys)) s hp
    exact q _ _ _ ax (.tup upd_same ((hs.app ht).mono ax.g))
theorem flat_ints : ∀ ns : List Int, (ns.map V.int).all flatV = true
  | [] => rfl
  | n :: ns => by
    show (flatV (V.int n) && (ns.map V.int).all flatV) = true
    rw [flat_ints ns] <;> rfl
theorem inV_ints (i : Int) : ∀ ns : List Int, inV (.int i) (ns.map V.int) = decide (i ∈ ns)
  | [] => rfl
  | n :: ns => by
    have ih := inV_ints i ns
    unfold inV at ih ⊢
    rw [List.map_cons, List.any_cons, ih]
    have e : eqV (V.int n) (V.int i) = decide (n = i) := by
      first
        | rfl
        | simp [eqV]
    rw [e]
    by_cases h : n = i
    · simp [h]
    · have h2 : ¬ i = n := fun z => h z.symm
      simp [h, h2]
theorem o_inL {ns : List Int} : OpD (rIn K false) (.int i) (.list (dI ns)) (.bool (decide (i ∈ ns))) := fun x y H G s h1 h2 Q q => by
  obtain ⟨b, ys, rfl, hb, ht⟩ := h2.lst_inv
  have e := ht.ints
  subst e
  rw [h1.int_eq]
  refine ⟨b, _, rfl, .inl (SqL.of (s _ _ hb)), rfl, flat_ints ns, ?_⟩
  rw [inV_ints]
  exact q _ H G (Ax.refl s) (.bl _)
def oInS : R2 := fun x y H Q => ∃ (c : Nat) (z : Str), x = .str ⟨#[c]⟩ ∧ y = .str z ∧ Q (.bl (decide (c ∈ z.cps.toList))) H
theorem o_inS {c : Nat} {z : Str} : OpD oInS (.str ⟨#[c]⟩) (.str z) (.bool (decide (c ∈ z.cps.toList))) := fun x y H G s h1 h2 Q q =>
  ⟨c, z, h1.str_eq, h2.str_eq, q _ H G (Ax.refl s) (.bl _)⟩
theorem e_chain {b1 b2 : Bool} (ha : E ta ρ d1) (hb : E tb ρ d2) (hr : OpD r d1 d2 (.bool b1)) (hc : b1 = true → E tc ρ d3) (hr' : b1 = true → OpD r' d2 d3 (.bool b2)) : E (tChain r r' ta tb tc) ρ (.bool (b1 && b2)) := fun σ H G s e Q q =>
  ha σ H G s e _ fun x H1 G1 a1 i1 => hb σ H1 G1 a1.s (e.mono a1.g) _ fun y H2 G2 a2 i2 =>
    hr x y H2 G2 a2.s (i1.mono a2.g) i2 _ fun v H3 G3 a3 i3 => by
      refine ⟨b1, i3.bl_eq, ?_⟩
      cases b1 with
      | false => exact q _ H3 G3 ((a1.trans a2).trans a3) (.bl _)
      | true =>
        exact hc rfl σ H3 G3 a3.s (((e.mono a1.g).mono a2.g).mono a3.g) _ fun z H4 G4 a4 i4 =>
          hr' rfl y z H4 G4 a4.s ((i2.mono a3.g).mono a4.g) i4 Q fun v H5 G5 a5 i5 => q v H5 G5 ((((a1.trans a2).trans a3).trans a4).trans a5) i5
theorem e_neg (ha : E ta ρ (.int i)) : E (tUn (rU fun i => .int (-i)) ta) ρ (.int (-i)) := fun σ H G s e Q q =>
  ha σ H G s e _ fun x H1 G1 a1 i1 => ⟨i, i1.int_eq, q _ H1 G1 a1 (.int _)⟩
/-! displays, arguments -/
theorem a_nil : A tNil ρ [] := fun σ H G s e Q q => q [] H G (Ax.refl s) .nil
theorem a_cons {tr : TA} {ds : List PyData} (h : E ta ρ d) (hr : A tr ρ ds) : A (tCons ta tr) ρ (d :: ds) := fun σ H G s e Q q =>
  h σ H G s e _ fun x H1 G1 a1 i1 => hr σ H1 G1 a1.s (e.mono a1.g) _ fun vs H2 G2 a2 i2 => q _ H2 G2 (a1.trans a2) (.cons (i1.mono a2.g) i2)
theorem sz_ok {n : Nat} (h : n ≤ 100000) : n ≤ sizeLine := Nat.le_trans h (by decide)
theorem e_tup {t : TA} {ds : List PyData} (h : A t ρ ds) (hl : ds.length ≤ 100000) : E (tTup t) ρ (.tuple ds) := fun σ H G s e Q q =>
  h σ H G s e _ fun vs H1 G1 a1 i1 => ⟨by rw [i1.length]; exact sz_ok hl, fun p hp => by
    have ax := Ax.new (o := .tup vs) a1.s hp
    exact q _ _ _ (a1.trans ax) (.tup upd_same (i1.mono ax.g))⟩
theorem e_lst {t : TA} {ds : List PyData} (h : A t ρ ds) (hl : ds.length ≤ 100000) : E (tLst t) ρ (.list ds) := fun σ H G s e Q q =>
  h σ H G s e _ fun vs H1 G1 a1 i1 => ⟨by rw [i1.length]; exact sz_ok hl, fun p hp => by
    have ax := Ax.new (o := .lst vs) a1.s hp
    exact q _ _ _ (a1.trans ax) (.lst upd_same (i1.mono ax.g))⟩
/-! slices -/
theorem p_none : O tNoPart ρ none := fun σ H G s e Q q => q H G (Ax.refl s)
theorem p_some (h : E ta ρ (.int i)) : O (tPart ta) ρ (some i) := fun σ H G s e Q q => h σ H G s e _ fun x H1 G1 a1 i1 => ⟨i, i1.int_eq, q H1 G1 a1⟩
theorem e_sl {r : V → Option Int → Option Int → Hp → VK → Prop} {tl th : TO} {lo hi : Option Int} (ha : E ta ρ d1) (hl : O tl ρ lo) (hh : O th ρ hi) (hr : SlD r d1 lo hi d) : E (tSl r ta tl th) ρ d := fun σ H G s e Q q =>
  ha σ H G s e _ fun x H1 G1 a1 i1 => hl σ H1 G1 a1.s (e.mono a1.g) _ fun H2 G2 a2 => hh σ H2 G2 a2.s ((e.mono a1.g).mono a2.g) _ fun H3 G3 a3 =>
    hr x H3 G3 a3.s ((i1.mono a2.g).mono a3.g) Q fun v H4 G4 a4 i4 => q v H4 G4 (((a1.trans a2).trans a3).trans a4) i4
def cutD (ds : List PyData) (lo hi : Option Int) : List PyData := (ds.drop (HT.sIx ds.length 0 lo)).take (HT.sIx ds.length ds.length hi - HT.sIx ds.length 0 lo)
theorem Iss.cut {G : Hp} {ds : List PyData} {vs : List V} (h : Iss G vs ds) (lo hi : Option Int) : Iss G (cutV vs lo hi) (cutD ds lo hi) := by
  unfold cutV cutD
  rw [h.length]
  exact (h.drop _).take _
theorem cutD_whole {ds : List PyData} {lo hi : Option Int} (h : HT.sIx ds.length 0 lo = 0 ∧ HT.sIx ds.length ds.length hi = ds.length) : cutD ds lo hi = ds := by
  unfold cutD
  rw [h.1, h.2]
  simp
theorem s_tup {ds : List PyData} {lo hi : Option Int} : SlD (rSlA K) (.tuple ds) lo hi (.tuple (cutD ds lo hi)) := fun x H G s h1 Q q => by
  obtain ⟨a, xs, rfl, ha, hs⟩ := h1.tup_inv
  refine ⟨a, xs, rfl, SqT.of (s _ _ ha), fun z => ?_, fun _ p hp => ?_⟩
  · rw [hs.length] at z
    rw [cutD_whole z] at q
    exact q _ H G (Ax.refl s) h1
  · have ax := Ax.new (o := .tup (cutV xs lo hi)) s hp
    exact q _ _ _ ax (.tup upd_same ((hs.cut lo hi).mono ax.g))
theorem s_lst {ds : List PyData} {lo hi : Option Int} : SlD (rSlL K) (.list ds) lo hi (.list (cutD ds lo hi)) := fun x H G s h1 Q q => by
  obtain ⟨a, xs, rfl, ha, hs⟩ := h1.lst_inv
  refine ⟨a, xs, rfl, SqL.of (s _ _ ha), fun p hp => ?_⟩
  have ax := Ax.new (o := .lst (cutV xs lo hi)) s hp
  exact q _ _ _ ax (.lst upd_same ((hs.cut lo hi).mono ax.g))
/-! built-ins by name -/
theorem e_cb {r : List V → Hp → VK → Prop} {t : TA} {ds : List PyData} (h : A t ρ ds) (hr : CaD r ds d) : E (tCB r t) ρ d := fun σ H G s e Q q =>
  h σ H G s e _ fun vs H1 G1 a1 i1 => hr vs H1 G1 a1.s i1 Q fun v H2 G2 a2 i2 => q v H2 G2 (a1.trans a2) i2
theorem Iss.one {G : Hp} {vs : List V} (h : Iss G vs [d]) : ∃ v, vs = [v] ∧ Is G v d := by
  cases h with
  | cons h1 h2 => cases h2; exact ⟨_, rfl, h1⟩
theorem Iss.two {G : Hp} {vs : List V} (h : Iss G vs [d1, d2]) : ∃ v w, vs = [v, w] ∧ Is G v d1 ∧ Is G w d2 := by
  cases h with
  | cons h1 h2 =>
    obtain ⟨w, rfl, h3⟩ := h2.one
    exact ⟨_, _, rfl, h1, h3⟩
def cLen (K : PySem.W.Frag) : List V → Hp → VK → Prop := fun xs H Q => ∃ p ys, xs = [.ref p] ∧ (SqL K H p ys ∨ SqT K H p ys) ∧ Q (.int ys.length) H
def cLenS : List V → Hp → VK → Prop := fun xs H Q => ∃ z, xs = [.str z] ∧ z.length ≤ sizeLine ∧ Q (.int z.length) H
def cInt : List V → Hp → VK → Prop := fun xs H Q => (∃ i, xs = [.int i] ∧ Q (.int i) H) ∨ ∃ k, xs = [.bl k] ∧ Q (.int (if k then 1 else 0)) H
def cAbs : List V → Hp → VK → Prop := fun xs H Q => ∃ i, xs = [.int i] ∧ Q (.int (if i < 0 then -i else i)) H
def cOrd : List V → Hp → VK → Prop := fun xs H Q => ∃ x, xs = [.str x] ∧ x.length = 1 ∧ Q (.int (x.cps.getD 0 0 : Nat)) H
def cStr : List V → Hp → VK → Prop := fun xs H Q => ∃ i, xs = [.int i] ∧ i.natAbs.log2 < 1920 ∧ Q (.str (toString i)) H
def cList (K : PySem.W.Frag) : List V → Hp → VK → Prop := fun xs H Q => ∃ p ys, xs = [.ref p] ∧ (SqL K H p ys ∨ SqT K H p ys) ∧ ∀ l, H l = none → Q (.ref l) (upd H l (.lst ys))
def cTuple (K : PySem.W.Frag) : List V → Hp → VK → Prop := fun xs H Q => ∃ p ys, xs = [.ref p] ∧ ((SqL K H p ys ∧ ∀ l, H l = none → Q (.ref l) (upd H l (.tup ys))) ∨ (SqT K H p ys ∧ Q (.ref p) H))
theorem c_lenL {ds : List PyData} : CaD (cLen K) [.list ds] (.int ds.length) := fun vs H G s h Q q => by
  obtain ⟨v, rfl, h1⟩ := h.one
  obtain ⟨a, xs, rfl, ha, hs⟩ := h1.lst_inv
  refine ⟨a, xs, rfl, .inl (SqL.of (s _ _ ha)), ?_⟩
  rw [hs.length]
  exact q _ H G (Ax.refl s) (.int _)
theorem c_lenT {ds : List PyData} : CaD (cLen K) [.tuple ds] (.int ds.length) := fun vs H G s h Q q => by
  obtain ⟨v, rfl, h1⟩ := h.one
  obtain ⟨a, xs, rfl, ha, hs⟩ := h1.tup_inv
  refine ⟨a, xs, rfl, .inr (SqT.of (s _ _ ha)), ?_⟩
  rw [hs.length]
  exact q _ H G (Ax.refl s) (.int _)
theorem c_lenS {x : Str} (hz : x.length ≤ sizeLine) : CaD cLenS [.str x] (.int x.length) := fun vs H G s h Q q => by
  obtain ⟨v, rfl, h1⟩ := h.one
  rw [h1.str_eq]
  exact ⟨x, rfl, hz, q _ H G (Ax.refl s) (.int _)⟩
theorem c_int : CaD cInt [.int i] (.int i) := fun vs H G s h Q q => by
  obtain ⟨v, rfl, h1⟩ := h.one
  rw [h1.int_eq]
  exact .inl ⟨i, rfl, q _ H G (Ax.refl s) (.int _)⟩
theorem c_intB {b : Bool} : CaD cInt [.bool b] (.int (if b then 1 else 0)) := fun vs H G s h Q q => by
  obtain ⟨v, rfl, h1⟩ := h.one
  rw [h1.bl_eq]
  exact .inr ⟨b, rfl, q _ H G (Ax.refl s) (.int _)⟩
theorem c_abs : CaD cAbs [.int i] (.int (if i < 0 then -i else i)) := fun vs H G s h Q q => by
  obtain ⟨v, rfl, h1⟩ := h.one
  rw [h1.int_eq]
  exact ⟨i, rfl, q _ H G (Ax.refl s) (.int _)⟩
theorem c_ord {c : Nat} : CaD cOrd [.str ⟨#[c]⟩] (.int c) := fun vs H G s h Q q => by
  obtain ⟨v, rfl, h1⟩ := h.one
  rw [h1.str_eq]
  exact ⟨_, rfl, rfl, q _ H G (Ax.refl s) (.int _)⟩
theorem c_str (hi : i.natAbs.log2 < 1920) : CaD cStr [.int i] (.str (toString i)) := fun vs H G s h Q q => by
  obtain ⟨v, rfl, h1⟩ := h.one
  rw [h1.int_eq]
  exact ⟨i, rfl, hi, q _ H G (Ax.refl s) (.str _)⟩
theorem c_listT {ds : List PyData} : CaD (cList K) [.tuple ds] (.list ds) := fun vs H G s h Q q => by
  obtain ⟨v, rfl, h1⟩ := h.one
  obtain ⟨a, xs, rfl, ha, hs⟩ := h1.tup_inv
  refine ⟨a, xs, rfl, .inr (SqT.of (s _ _ ha)), fun l hl => ?_⟩
  have ax := Ax.new (o := .lst xs) s hl
  exact q _ _ _ ax (.lst upd_same (hs.mono ax.g))
theorem c_listL {ds : List PyData} : CaD (cList K) [.list ds] (.list ds) := fun vs H G s h Q q => by
  obtain ⟨v, rfl, h1⟩ := h.one
  obtain ⟨a, xs, rfl, ha, hs⟩ := h1.lst_inv
  refine ⟨a, xs, rfl, .inl (SqL.of (s _ _ ha)), fun l hl => ?_⟩
  have ax := Ax.new (o := .lst xs) s hl
  exact q _ _ _ ax (.lst upd_same (hs.mono ax.g))
theorem c_tupL {ds : List PyData} : CaD (cTuple K) [.list ds] (.tuple ds) := fun vs H G s h Q q => by
  obtain ⟨v, rfl, h1⟩ := h.one
  obtain ⟨a, xs, rfl, ha, hs⟩ := h1.lst_inv
  refine ⟨a, xs, rfl, .inl ⟨SqL.of (s _ _ ha), fun l hl => ?_⟩⟩
  have ax := Ax.new (o := .tup xs) s hl
  exact q _ _ _ ax (.tup upd_same (hs.mono ax.g))
theorem c_tupT {ds : List PyData} : CaD (cTuple K) [.tuple ds] (.tuple ds) := fun vs H G s h Q q => by
  obtain ⟨v, rfl, h1⟩ := h.one
  obtain ⟨a, xs, rfl, ha, hs⟩ := h1.tup_inv
  exact ⟨a, xs, rfl, .inr ⟨SqT.of (s _ _ ha), q _ H G (Ax.refl s) h1⟩⟩
theorem c_all {bs : List Bool} : CaD (rAll K) [.list (dB bs)] (.bool (bs.all id)) := fun vs H G s h Q q => by
  obtain ⟨v, rfl, h1⟩ := h.one
  obtain ⟨a, xs, rfl, ha, hs⟩ := h1.lst_inv
  have e := hs.bls
  subst e
  exact ⟨a, bs, rfl, SqL.of (s _ _ ha), q _ H G (Ax.refl s) (.bl _)⟩
theorem c_sum {ns : List Int} : CaD (rSum K) [.list (dI ns)] (.int ns.sum) := fun vs H G s h Q q => by
  obtain ⟨v, rfl, h1⟩ := h.one
  obtain ⟨a, xs, rfl, ha, hs⟩ := h1.lst_inv
  have e := hs.ints
  subst e
  exact ⟨a, ns, rfl, SqL.of (s _ _ ha), q _ H G (Ax.refl s) (.int _)⟩
/-- sep.join(list of texts) -/
def tJoin (K : PySem.W.Frag) (to te : TE) : TE := tM1 (fun x xs H Q => ∃ a p, ∃ ys : List Str, x = .str a ∧ xs = [.ref p] ∧ (SqL K H p (ys.map V.str) ∨ SqT K H p (ys.map V.str)) ∧ (ys.map (·.length)).sum + ys.length * a.length ≤ 16777216 ∧ Q (.str (Txt.join a ys)) H) to te
theorem e_join {x : Str} {ys : List Str} (ho : E ta ρ (.str x)) (he : E tb ρ (.list (dS ys))) (hz : (ys.map (·.length)).sum + ys.length * x.length ≤ 16777216) : E (tJoin K ta tb) ρ (.str (Txt.join x ys)) := fun σ H G s e Q q =>
  ho σ H G s e _ fun v H1 G1 a1 i1 => ⟨⟨x, i1.str_eq⟩, he σ H1 G1 a1.s (e.mono a1.g) _ fun w H2 G2 a2 i2 => by
    obtain ⟨p, xs, rfl, hp, hs⟩ := i2.lst_inv
    have e2 := hs.strs
    subst e2
    exact ⟨x, p, ys, i1.str_eq, rfl, .inl (SqL.of (a2.s _ _ hp)), hz, q _ H2 G2 (a1.trans a2) (.str _)⟩⟩
/-- xs.index(y), nested data -/
theorem e_indexD {ds : List PyData} {k : Nat} {z : PyData} (ho : E ta ρ (.list ds)) (he : E tb ρ d) (h1 : SeqAt.shaped (.list ds) = true) (h2 : SeqAt.shaped d = true) (hk : ds[k]? = some z) (hz : PyData.eqv z d = true)
    (hn : ∀ (m : Nat) (z' : PyData), m < k → ds[m]? = some z' → PyData.eqv z' d = false) : E (tBM K "list" (rIndexD K) ta (tCons tb tNil)) ρ (.int (k : Nat)) := fun σ H G s e Q q =>
  ho σ H G s e _ fun v H1 G1 a1 i1 => by
    obtain ⟨a, xs, rfl, ha, hs⟩ := i1.lst_inv
    refine ⟨.inl ⟨rfl, xs, SqL.of (a1.s _ _ ha)⟩, ?_⟩
    refine he σ H1 G1 a1.s (e.mono a1.g) _ fun w H2 G2 a2 i2 => ?_
    exact ⟨a, w, d, ds, k, z, rfl, rfl, ((i1.mono a2.g).mono a2.s).dp, (i2.mono a2.s).dp, h1, h2, hk, hz, hn, q _ H2 G2 (a1.trans a2) (.int _)⟩
/-! tests -/
theorem t_test {b : Bool} (h : E ta ρ (.bool b)) : T (tTest ta) ρ b := fun σ H G s e Q q => h σ H G s e _ fun v H1 G1 a1 i1 => ⟨b, i1.bl_eq, q H1 G1 a1⟩
theorem t_b {b : Bool} (h : E ta ρ (.bool b)) : T (tB ta) ρ b := fun σ H G s e Q q => h σ H G s e _ fun v H1 G1 a1 i1 => ⟨b, i1.bl_eq, q H1 G1 a1⟩
theorem t_not {t : TT} {b : Bool} (h : T t ρ b) : T (tNot t) ρ (!b) := fun σ H G s e Q q => h σ H G s e _ fun H1 G1 a1 => q H1 G1 a1
theorem t_and {t u : TT} {b c : Bool} (h : T t ρ b) (k : b = true → T u ρ c) : T (tAnd t u) ρ (b && c) := fun σ H G s e Q q => h σ H G s e _ fun H1 G1 a1 => by
  cases b with
  | true => exact k rfl σ H1 G1 a1.s (e.mono a1.g) Q fun H2 G2 a2 => q H2 G2 (a1.trans a2)
  | false => exact q H1 G1 a1
theorem t_or {t u : TT} {b c : Bool} (h : T t ρ b) (k : b = false → T u ρ c) : T (tOr t u) ρ (b || c) := fun σ H G s e Q q => h σ H G s e _ fun H1 G1 a1 => by
  cases b with
  | false => exact k rfl σ H1 G1 a1.s (e.mono a1.g) Q fun H2 G2 a2 => q H2 G2 (a1.trans a2)
  | true => exact q H1 G1 a1
theorem t_is {t : TT} {b c : Bool} (h : T t ρ b) (e : b = c) : T t ρ c := e ▸ h
theorem e_and {b c : Bool} (h : E ta ρ (.bool b)) (k : b = true → E tb ρ (.bool c)) : E (tAndV ta tb) ρ (.bool (b && c)) := fun σ H G s e Q q => h σ H G s e _ fun v H1 G1 a1 i1 => ⟨b, i1.bl_eq, by
  cases b with
  | true => exact k rfl σ H1 G1 a1.s (e.mono a1.g) Q fun v H2 G2 a2 i2 => q v H2 G2 (a1.trans a2) i2
  | false => exact q _ H1 G1 a1 (.bl _)⟩
theorem e_not {b : Bool} (h : E ta ρ (.bool b)) : E (tNotV ta) ρ (.bool (!b)) := fun σ H G s e Q q => h σ H G s e _ fun v H1 G1 a1 i1 => ⟨b, i1.bl_eq, q _ H1 G1 a1 (.bl _)⟩
def isNone : PyData → Bool
  | .none => true
  | _ => false
theorem e_notN (h : E ta ρ d) : E (tNotN ta) ρ (.bool (!isNone d)) := fun σ H G s e Q q => h σ H G s e _ fun v H1 G1 a1 i1 => by
  have eq : (!decide (v = .non)) = !isNone d := by
    cases i1 <;> simp [isNone]
  show Q (.bl (!decide (v = .non))) H1
  rw [eq]
  exact q _ H1 G1 a1 (.bl _)
end
end Ck

set_option Elab.async false
set_option linter.all false
set_option maxRecDepth 100000
set_option maxHeartbeats 1000000
set_option autoImplicit false
/-! # Rules that the layer lacks: extend by a tuple, enumerate over a tuple, try with a named and an unnamed clause, isinstance of a caught error with a tuple of classes -/
namespace Ck
open PySem PySem.Spec PyProof.Rows L2
open PySem.AutoSeq1 (idx_int wpAny_loadPart')

/-! ### xs.extend(list), xs.extend(tuple) -/
/-- t a tuple object of any slots -/
theorem extend_tup (l b : Addr) (its its2 : Array Value) (n n2 : Nat) (dd : Option Addr) (sl : Array (Option Value)) (short : ¬ (!its.isEmpty && Builtin.List.listTooLong (its.size + its2.size)) = true) (fit : its.size ≤ sizeLine) (fit2 : its.size + its2.size ≤ sizeLine + 1) :
    Meets (Builtin.«list.extend» ⟨[.ref l, .ref b], []⟩) (fun _ R s => s.heap.get? l = some { cls := .type "list", dict := none, data := .seq its n, slots := #[] } ∧ s.heap.get? b = some { cls := .type "tuple", dict := dd, data := .seq its2 n2, slots := sl } ∧
      R (.ok (.ret Value.none)) { s with heap := s.heap.update l (Obj.mapSeq fun x => x ++ its2), toks := s.toks }) := .of_wp fun prog w A R s h => by
  obtain ⟨hp, g, d, tk, os⟩ := s
  obtain ⟨hl, hb, h⟩ := h
  have f1 := idx_int
  have f2 := AutoSeq1.sub_tuple_tuple
  have f3 := AutoSeq1.sub_list_list
  have f4 := AutoSeq1.sub_tuple_list
  have f5 := AutoSeq1.sub_list_tuple
  have room : (its ++ its2).size ≤ sizeLine + 1 := by
    rw [Array.size_append]
    exact fit2
  wp_walk using (wpAny_updateSeq hl rfl (hz := fit) (_hz' := room)), wpAny_loadPart' hl, wpAny_loadPart' hb
  exact ⟨_, rfl, h⟩
def rExtend2 (K : PySem.W.Frag) : V → List V → Hp → VK → Prop := fun x vs H Q => ∃ (l b : Addr) (xs zs : List V), x = .ref l ∧ vs = [.ref b] ∧ H l = some (.lst xs) ∧ (H b = some (.lst zs) ∨ SqT K H b zs) ∧ xs.length + zs.length ≤ sizeLine ∧ Q .non (upd H l (.lst (xs ++ zs)))
theorem mt_extend2 {X : Cx} : MtR X "list.extend" (rExtend2 X.K) := by
  intro pins s σ H x vs v us Q I rx rv h
  obtain ⟨l, b, xs, zs, rfl, rfl, hH, hB | hB, hz, q⟩ := h
  · exact mt_extend pins s σ H _ _ v us Q I rx rv ⟨l, b, xs, zs, rfl, rfl, hH, hB, hz, q⟩
  · cases rx
    obtain ⟨u, rfl, ru⟩ := rv.one
    cases ru
    obtain ⟨z, its, n, r, hl, e⟩ := I.lstM hH
    obtain ⟨its2, r2, ⟨o2, ho2, hc2, n2, hd2⟩, hl2⟩ := I.tuple hB
    have l2 := r2.length
    have fit : its.toArray.size + its2.toArray.size ≤ sizeLine := by
      rw [List.size_toArray, List.size_toArray]
      omega
    have short : ¬ (!its.toArray.isEmpty && Builtin.List.listTooLong (its.toArray.size + its2.toArray.size)) = true := by
      rw [notLongL fit, Bool.and_false]
      decide
    obtain ⟨c2, d2, dt2, sl2⟩ := o2
    dsimp only at hc2 hd2
    subst hc2 hd2
    refine call_meets F.slot_list_extend ⟨_, e, rfl⟩ F.entry_list_extend (F.args_list_extend_2 _ _)
      (extend_tup l b its.toArray its2.toArray n n2 d2 sl2 short (by rw [List.size_toArray]; omega) (by omega)) ⟨e, ho2, ?_⟩
    refine ⟨.non, _, I.lset (its' := its ++ its2) hH e (by simp) (r.append r2) ?_, rfl, q⟩
    rw [List.length_append]
    omega

/-! ### enumerate(tuple) -/
theorem enum_newT (l : Addr) (items : Array Value) :
    Meets (Builtin.«enumerate.__new__» ⟨[.type "enumerate", .ref l], []⟩) (fun _ R s => s.heap.IsTuple l items ∧
      R (.ok (.ret (.ref (s.heap.push { cls := .type "tuple_iterator", data := .fields #[.ref l, .int 0 0] }).objs.size)))
        { s with heap := (s.heap.push { cls := .type "tuple_iterator", data := .fields #[.ref l, .int 0 0] }).push { cls := .type "enumerate", data := .fields #[.none, .bool false, .ref s.heap.objs.size, rawInt 0, .none, .none] } }) :=
  .of_wp fun prog w A R s h => by
    obtain ⟨hp, g, d, tk, os⟩ := s
    obtain ⟨hL, h⟩ := h
    obtain ⟨⟨oc, od, odt, osl⟩, ho, hc, n, hd⟩ := id hL
    dsimp only at hc hd
    subst hc hd
    have sub := sub_enumerate
    wp_walk using wpAny_loadPart' ho
    refine wpAny_stack_any fun st => wpAny_pure ?_
    split
    · rename_i c _ _ _ _ _
      cases (c == Value.type "enumerate") <;> (wp_walk using wpAny_loadPart' ho, wpAny_pyIter_tuple hL; exact ⟨_, rfl, h⟩)
    · wp_walk using wpAny_loadPart' ho, wpAny_pyIter_tuple hL
      exact ⟨_, rfl, h⟩
theorem call_enumT {prog : Program} {w : World} {A : Around} {E : Value → Shared → Prop} {s : Shared} {l : Addr} {items : Array Value} {Q : Value → Shared → Prop} (hL : s.heap.IsTuple l items)
    (h : ∀ h', IsEnum h' (s.heap.objs.size + 1) s.heap.objs.size 0 .none → h'.IsTupleIter s.heap.objs.size l 0 → h'.objs.size = s.heap.objs.size + 2 → (∀ b o, s.heap.get? b = some o → h'.get? b = some o) → Q (.ref (s.heap.objs.size + 1)) { s with heap := h' }) :
    wpAny (model prog w) A (call (.type "enumerate") [.ref l]) Q E s := by
  refine callType_new F.called_enumerate (by decide) (F.typeCall_enumerate_1 _) (F.newCall_enumerate_1 _) (fun obj => F.args_object_init_2 obj _) F.entry_enumerate_new (enum_newT l items) ⟨hL, ?_⟩
  generalize hi : ({ cls := .type "tuple_iterator", data := .fields #[.ref l, .int 0 0] } : Obj) = oi
  have fr : oi.isFreed = false := by rw [← hi]; rfl
  have hz : (s.heap.push oi).objs.size = s.heap.objs.size + 1 := Heap.size_push ..
  show _ ∧ _
  rw [hz]
  generalize hj : ({ cls := .type "enumerate", data := .fields #[.none, .bool false, .ref s.heap.objs.size, rawInt 0, .none, .none] } : Obj) = oj
  have fj : oj.isFreed = false := by rw [← hj]; rfl
  have he : ((s.heap.push oi).push oj).get? (s.heap.objs.size + 1) = some oj := by
    have z := Heap.get?_push_size (s.heap.push oi) (o := oj) fj
    rw [hz] at z
    exact z
  have hit : ((s.heap.push oi).push oj).get? s.heap.objs.size = some oi := Heap.get?_push_of_some _ (Heap.get?_push_size _ fr)
  refine ⟨⟨oj, he, by rw [← hj]⟩, h _ (by rw [IsEnum, he, ← hj]) ⟨oi, hit, by rw [← hi], by rw [← hi]; rfl⟩ (by rw [Heap.size_push, hz]) fun b o x => Heap.get?_push_of_some _ (Heap.get?_push_of_some _ x)⟩
/-- the enumerate is through -/
theorem enum_doneT {prog : Program} {w : World} {A : Around} {E : Value → Shared → Prop} {s : Shared} {e it l : Addr} {i : Nat} {items : Array Value} {old : Value} {Q : Option Value → Shared → Prop} (hh : A.handled = none)
    (he : IsEnum s.heap e it i old) (hit : s.heap.IsTupleIter it l i) (hl : s.heap.IsTuple l items) (hx : items[i]? = none) (hQ : ∀ h', Heap.ExtBut it s.heap h' → Q none { s with heap := h' }) :
    wpAny (model prog w) A (pyNext (.ref e)) Q E s := by
  have ty : s.TypeIs (.ref e) "enumerate" := ⟨_, he, rfl⟩
  unfold pyNext
  refine wpAny_bind (wpAny_attempt (wpAny_callSpecial?_slot (name := Str.ofString "__next__") ty F.slot_enumerate_next (wpAny_call_entry F.slot_enumerate_next ty F.entry_enumerate_next ?_ (F.args_enumerate_next_1 _))))
  show wpAny _ _ (field (.ref e) 2 >>= _) _ _ _
  refine wpAny_bind (wpAny_field he rfl (x := .ref it) rfl ?_)
  refine wpAny_bind (RZ.nextOf_tuple_end hh hit hl hx fun h' x he' hx' => ?_)
  obtain ⟨o, ho, hc⟩ := hx'
  refine wpAny_bind (wpAny_isInstance (T := "StopIteration") (b := true) ⟨o, ho, hc⟩ isSubtype_stop ?_)
  exact wpAny_pure (hQ _ he')
/-- the tuple at a, each item in a new pair with its place -/
def IteT (K : PySem.W.Frag) (a : Addr) : It :=
  ⟨fun i H => ∃ (xs : List V) (x : V), SqT K H a xs ∧ xs[i]? = some x, fun i H v H' => ∃ (T : Addr) (x : V), v = .ref T ∧ H T = none ∧ H' = upd H T (.tup [.int (i : Nat), x]) ∧ ∀ xs, SqT K H a xs → xs[i]? = some x, fun i H => ∃ xs : List V, SqT K H a xs ∧ xs.length ≤ i⟩
theorem turn_enumT {P : Program} {w : World} {K : PySem.W.Frag} {elts : List Expr} {kk : Nat} {tpos : Pos} (a e it : Addr) :
    Turn P w K (.Tuple elts kk tpos) (IteT K a) [e, it] e (fun i h => (∃ old, IsEnum h e it ((i : Nat) : Int) old) ∧ h.IsTupleIter it a i ∧ e ≠ it) where
  mem := by simp
  obj := fun i h st b hb => by
    obtain ⟨⟨old, he⟩, ⟨o, ho, hc, hd⟩, _⟩ := st
    have two : b = e ∨ b = it := by simpa using hb
    rcases two with z | z
    · subst z
      exact ⟨_, he, fun v q => nomatch q⟩
    · subst z
      exact ⟨o, ho, fun v q => by rw [hd] at q; cases q⟩
  keep := fun i h h' st k => by
    obtain ⟨⟨old, he⟩, hi, hne⟩ := st
    exact ⟨⟨old, k e (by simp) _ he⟩, hi.at fun o q => k it (by simp) o q, hne⟩
  item := by
    intro X hP hw hK hc i pins s σ H E I hf st hg
    subst hP hw hK
    obtain ⟨⟨old, he⟩, hit, hne⟩ := st
    obtain ⟨xs, x, hq, hx⟩ := hg
    obtain ⟨its, rv, p, hz⟩ := I.tuple hq
    obtain ⟨u, hu, ru⟩ := rv.get hx
    have hl : i < its.length := (List.getElem?_eq_some_iff.mp hu).1
    have pt : s.heap.IsTuple a its.toArray := p
    have hel : e < s.heap.objs.size := Heap.lt_size he
    obtain ⟨oi, hoi, hci, hdi⟩ := id hit
    have hil : it < s.heap.objs.size := Heap.lt_size hoi
    obtain ⟨ot, hot, hct, nt, hdt⟩ := id pt
    have ne1 : a ≠ it := fun z => by
      rw [z, hoi] at hot
      cases hot
      rw [hdi] at hdt
      cases hdt
    have ne2 : e ≠ a := fun z => by
      rw [← z, he] at hot
      cases hot
      cases hdt
    have D := Draws.tuple (prog := X.prog) (w := X.w) (A := X.A.in1) (I.ok.hd hc) it a ne1 its.toArray
    refine wpAny_pyNext_enum_itemD D he ⟨hit, pt⟩ (by simpa using hl) hne (by simp [hne, ne2]) fun y h' tk hy ho' st' hT hsz hk => ?_
    have eu : y = u := by
      have z : its.toArray[i]? = some y := hy
      rw [List.getElem?_toArray, hu] at z
      exact (Option.some.inj z).symm
    subst eu
    refine ⟨_, rfl, wpAny_letOwnedTupleGo_enum (s := { s with heap := h', toks := tk + 1 }) ho' fun h'' he' sb => ?_⟩
    have hT2 : h''.get? s.heap.objs.size = some { cls := .type "tuple", data := .seq #[.int i tk, y] } := (sb.2 _ (Nat.ne_of_gt hel)).trans hT
    have new : ObjOk X.prog X.w (upd H s.heap.objs.size (.tup [.int (i : Nat), x])) h'' s.heap.objs.size (.tup [.int (i : Nat), x]) :=
      ⟨by show 2 ≤ sizeLine; decide, [.int i tk, y], .cons ⟨_, rfl⟩ (.cons ru .nil), ⟨_, hT2, rfl, _, rfl⟩⟩
    have I1 : Inv X pins σ (upd H s.heap.objs.size (.tup [.int (i : Nat), x])) { s with heap := h'', toks := tk + 1 } :=
      I.turnedNew (ch := [e, it]) (fun b ob hb q => (sb.2 b (fun z => hb (by simp [z]))).trans (hk b ob (fun z => hb (by simp [z])) (fun z => hb (by simp [z])) q)) hf (Nat.le_refl _) new
    refine ⟨.ref s.heap.objs.size, _, I1, rfl, ⟨_, x, rfl, I.hok.fresh (Nat.le_refl _), rfl, fun ys hy => by rw [I.tuple_inj hy hq]; exact hx⟩, ⟨⟨y, ?_⟩, st'.1.at fun o q => (sb.2 it (Ne.symm hne)).trans q, hne⟩, fun b hb => ?_⟩
    · have e1 : ((i + 1 : Nat) : Int) = (i : Int) + 1 := by omega
      rw [e1]
      exact he'
    · have lt : b < s.heap.objs.size := by
        have two : b = e ∨ b = it := by simpa using hb
        rcases two with z | z <;> (rw [z]; assumption)
      rw [upd_ne (Nat.ne_of_lt lt)]
      exact (hf b hb).1
  done := by
    intro X hP hw hK hc i pins s σ H E I hf st hg
    subst hP hw hK
    obtain ⟨⟨old, he⟩, hit, hne⟩ := st
    obtain ⟨xs, hq, hx⟩ := hg
    obtain ⟨its, rv, p, hz⟩ := I.tuple hq
    have pt : s.heap.IsTuple a its.toArray := p
    obtain ⟨f0, f1, f2, f3, f4, f5⟩ := hf it (by simp)
    have hl := rv.length
    have stop : its.toArray[i]? = none := by simp; omega
    exact enum_doneT (I.ok.hd hc) he hit pt stop fun h' eb => ⟨rfl, I.turned (t' := s.toks) (fun b o hb q => eb b o hb q) f0 f1 f3 f4 f5⟩
  self := fun A i s Q E st h => let ⟨⟨_, he⟩, _⟩ := st; wpAny_pyIter_enum he h
def iEnumT (K : PySem.W.Frag) (ta : TA) : TI := fun σ H R => ta σ H fun vs H1 => ∃ (a : Addr) (xs : List V), vs = [.ref a] ∧ SqT K H1 a xs ∧ R (IteT K a) H1
theorem pi_enumT {X : Cx} {e : Expr} {ta : TA} {p pos tpos : Pos} {elts : List Expr} {kk : Nat} (hg : Gl X "enumerate") (hm : X.mg "enumerate" = none) (ha : PA X [e] ta) (hs : starEach [e] X.env = [(false, eval e X.env)] := by rfl) :
    PI X (.Tuple elts kk tpos) (.Call (.Name "enumerate" p) [e] [] pos) (iEnumT X.K ta) := by
  refine ⟨fun pins s σ H R I h => ?_⟩
  refine Call_ (ld_blt I hg hm boot_enumerate (PyProof.Rows.callWith_type1 (thn (ha.run pos pins s σ H _ I h) fun us s1 ⟨vs, H1, I1, r1, q1⟩ => ?_) hs rfl))
  obtain ⟨a, xs, ex, hq, q⟩ := q1
  subst ex
  cases r1 with
  | cons r rr =>
    cases rr
    cases r
    obtain ⟨its, rv, pt, hz⟩ := I1.tuple hq
    refine call_enumT (show s1.heap.IsTuple a its.toArray from pt) fun h' he hit hsz hk => wpAny_pyIter_enum he ?_
    have I2 : Inv X pins σ H1 { s1 with heap := h' } := I1.kept (t' := s1.toks) hk
    refine ⟨s1.heap.objs.size + 1, [s1.heap.objs.size + 1, s1.heap.objs.size], _, _, H1, rfl, I2, turn_enumT a (s1.heap.objs.size + 1) s1.heap.objs.size, ⟨⟨.none, he⟩, hit, Nat.succ_ne_self _⟩, fun b hb => ?_, q⟩
    have two : b = s1.heap.objs.size + 1 ∨ b = s1.heap.objs.size := by simpa using hb
    have le : s1.heap.objs.size ≤ b := by
      rcases two with z | z <;> rw [z]
      · exact Nat.le_add_right _ _
      · exact Nat.le_refl _
    exact I1.fpOk le (I1.hok.fresh le)

/-! ### try: body, except A as n: .., except B: .. (any row of clauses, each with a name or without) -/
/-- what a row of clauses wishes of an exception of the body -/
inductive Cls (X : Cx) : List ExceptHandler → (Ends → WX) → Prop
  | out {Wout : WX} (tk : Takes X Wout) : Cls X [] (fun _ => Wout)
  | plain {x : Str} {c : Value} {ts : Addr → Value → Option Addr → TS} {b0 : Stmt} {suite : List Stmt} {np p : Pos} {hds : List ExceptHandler} {w : Ends → WX} (hc : Names X x c)
      (su : ∀ (a : Addr) (oe : Obj) (cls : Value) (d : Option Addr) (pn : List (Addr × Obj)), Zc cls d oe → (∃ vs, oe.data = .fields vs) → PSs (X.suite a ((a, oe) :: pn)) (b0 :: suite) (ts a cls d)) (r : Cls X hds w) :
      Cls X (.ExceptHandler (some (.Name x np)) none (b0 :: suite) p :: hds) (fun D cls d σ H => ∃ b, PySem.W.exmOne X.K cls c = some b ∧ (b = true → ∀ a, H a = none → ts a cls d D σ H) ∧ (b = false → w D cls d σ H))
  | named {x n : Str} {i : Nat} {c : Value} {ts : Addr → Value → Option Addr → TS} {b0 : Stmt} {suite : List Stmt} {np p : Pos} {hds : List ExceptHandler} {w : Ends → WX} (hN : X.N.Nodup) (hi : X.N[i]? = some n) (hl : X.env.kindOf n = some .local) (hc : Names X x c)
      (su : ∀ (a : Addr) (oe : Obj) (cls : Value) (d : Option Addr) (pn : List (Addr × Obj)), Zc cls d oe → (∃ vs, oe.data = .fields vs) → PSs (X.suite a ((a, oe) :: pn)) (b0 :: suite) (ts a cls d)) (r : Cls X hds w) :
      Cls X (.ExceptHandler (some (.Name x np)) (some n) (b0 :: suite) p :: hds) (fun D cls d σ H => ∃ b, PySem.W.exmOne X.K cls c = some b ∧
        (b = true → ∀ a, H a = none → ts a cls d { nx := fun s h => D.nx (s.set i none) h, rt := D.rt, bk := fun s h => D.bk (s.set i none) h, ct := fun s h => D.ct (s.set i none) h } (σ.set i (some (.ref a))) H) ∧ (b = false → w D cls d σ H))
section
variable {X : Cx}
/-- an exception that lies over this frame is met by the clauses -/
theorem met {pins : List (Addr × Obj)} {sI s' : Shared} {σ : L2.St} {H : Hp} {D : Ends} {a : Addr} {B : Heap} {cls : Value} {d : Option Addr} {h3 : Heap} (hs : X.stack = X.env :: X.outer) (hf : X.env.frame = some X.env.locals) (J : Inv X pins σ H sI)
    (nb : ∀ b o, sI.heap.get? b = some o → b ∉ frs X.stack → B.get? b = some o) (up : sI.heap.UpToSlots h3) (fl : HandSPX.FlyingZ B (X.env :: X.outer) a (Zc cls d) h3) (na : H a = none) (os : s'.os = sI.os) (ag : AllBare s'.gens) :
    ∀ {hds : List ExceptHandler} {w : Ends → WX}, Cls X hds w → w D cls d σ H → wpAny (model X.prog X.w) X.A (handleBy (.ref a) X.env hds) (SP X pins D) X.xe { s' with heap := h3 } := by
  have land : ∀ {h : Heap}, HandSPX.FlyingZ B (X.env :: X.outer) a (Zc cls d) h → sI.heap.UpToSlots h → Inv X pins σ H { s' with heap := h } := fun {h} f u => J.landed nb f.1 u os ag
  have away : ∀ {h : Heap} {o : Obj} {vs : Array Value}, h.FunFrames B (X.env :: X.outer) → h.get? a = some o → o.data = .fields vs → a ≠ X.env.locals ∧ a ∉ X.fs := fun {h o vs} ff e dd => by
    have out : a ∉ frs (X.env :: X.outer) := fun hm => by
      obtain ⟨_, o', e', hnf⟩ := ff.mem hm
      rw [e] at e'
      cases e'
      exact hnf _ dd
    refine ⟨fun z => out (List.mem_filterMap.mpr ⟨X.env, List.mem_cons_self, by rw [hf, z]⟩), fun hm => ?_⟩
    obtain ⟨v, hv, q⟩ := List.mem_filterMap.mp hm
    exact out (List.mem_filterMap.mpr ⟨v, List.mem_cons_of_mem _ hv, q⟩)
  have ok := J.ok
  obtain ⟨oe3, vs3, he3, hz3, hd3⟩ := fl.there
  obtain ⟨nL, nF⟩ := away fl.2.2.1 he3 hd3
  have S3 := (land fl up).suite he3 hd3 na nL nF
  have asks : ∀ {x : Str} {c : Value} {np : Pos}, Names X x c → ∀ {Q E : Value → Shared → Prop}, Q c { s' with heap := h3 } → wpAny (model X.prog X.w) (X.A.mark (some (.ref a))) (eval (.Name x np) X.env) Q E { s' with heap := h3 } := fun {x c np} hc {Q E} q => by
    obtain ⟨hg, hdbg, hm | ⟨hm, hv, hnn⟩⟩ := hc
    · exact ld_glob (X := X.suite a ((a, oe3) :: (X.pn ++ pins))) S3 hg hm q hdbg
    · exact ld_blt (X := X.suite a ((a, oe3) :: (X.pn ++ pins))) S3 hg hm hv q hnn hdbg
  have LT : PySem.W.Looks (model X.prog X.w) h3 (typeOf (.ref a)) cls := fun A Q E s k q => wpAny_typeOf_ref (k _ _ he3) (by rw [hz3.1]; exact q)
  intro hds w k
  induction k with
  | @out Wout tk =>
    intro hw
    refine wpAny_handleBy_nil ?_
    obtain ⟨_, _, _, oe, vs, T, _, _, he, _, hd, h1, _⟩ := id fl
    unfold PySem.passOn
    refine wpAny_bind (wpAny_field he hd h1 ?_)
    rw [if_neg (show ¬ ((Value.ref T == Value.none) = true) by simp)]
    have last : wpAny (model X.prog X.w) X.A (setFlight (.ref a) X.env.frame) (fun _ s4 => wpAny (model X.prog X.w) X.A (throw (.ref a) : Sem Flow) (SP X pins D) X.xe s4) X.xe { s' with heap := h3 } := by
      rw [hf]
      refine HandSPX.setFlight_upZ fl fun h4 hh4 up4 => wpAny_throw (tk _ _ ?_)
      exact ⟨a, B, sI, pins, σ, H, cls, d, rfl, J, nb, up.trans up4, .inr (.inr (by rw [hs]; exact hh4)), na, os, ag, hw⟩
    first
      | exact wpAny_bind (wpAny_pure (wpAny_bind last))
      | exact wpAny_bind last
  | @plain x c ts b0 suite np p hds w hc su r ih =>
    intro hw
    obtain ⟨b, hb, yes, no⟩ := hw
    refine wpAny_handleBy_cons (codeAny_handlers_test ?_) (by intro q; cases q)
    refine asks hc ((PySem.W.exm_one (M := model X.prog X.w) S3.kIn LT hb).here ?_)
    cases b with
    | false => exact ih (no rfl)
    | true =>
      refine codeAny_handlers_suite (HandSPX.lands_againZ fl fun h4 fl4 up4 => ?_)
      obtain ⟨oe4, vs4, he4, hz4, hd4⟩ := fl4.there
      have S4 := (land fl4 (up.trans up4)).suite he4 hd4 na nL nF
      refine wpAny_mono ((su a oe4 cls d (X.pn ++ pins) hz4 ⟨_, hd4⟩).run [] _ σ H _ S4 (yes rfl a na)) (fun f s6 sp => ?_) (fun _ _ z => False.elim z)
      cases f with
      | ret u =>
        obtain ⟨v6, σ6, H6, S6, r6, q6⟩ := sp
        exact ⟨v6, σ6, H6, S6.unsuite ok, r6, q6⟩
      | _ =>
        obtain ⟨σ6, H6, S6, q6⟩ := sp
        exact ⟨σ6, H6, S6.unsuite ok, q6⟩
  | @named x n i c ts b0 suite np p hds w hN hi hl hc su r ih =>
    intro hw
    obtain ⟨b, hb, yes, no⟩ := hw
    refine wpAny_handleBy_cons (codeAny_handlers_test ?_) (by intro q; cases q)
    refine asks hc ((PySem.W.exm_one (M := model X.prog X.w) S3.kIn LT hb).here ?_)
    cases b with
    | false => exact ih (no rfl)
    | true =>
      refine codeAny_handlers_suite_as (HandSPX.lands_againZ fl fun h4 fl4 up4 => ?_)
      obtain ⟨oe4, vs4, he4, hz4, hd4⟩ := fl4.there
      have S4 := (land fl4 (up.trans up4)).suite he4 hd4 na nL nF
      refine store_ok (X := X.suite a ((a, oe4) :: (X.pn ++ pins))) (v := .ref a) S4 hN hi (.inl hl) rfl (fun s5 S5 => ?_) (.inr hl)
      refine wpAny_mono ((su a oe4 cls d (X.pn ++ pins) hz4 ⟨_, hd4⟩).run [] s5 _ H _ S5 (yes rfl a na)) (fun f s6 sp => ?_) (fun _ _ z => False.elim z)
      have gone : ∀ {σ6 : L2.St} {H6 : Hp} {Q : Shared → Prop}, Inv (X.suite a ((a, oe4) :: (X.pn ++ pins))) [] σ6 H6 s6 → (∀ s7, Inv X pins (σ6.set i none) H6 s7 → Q s7) →
          wpAny (model X.prog X.w) X.A (do bindName X.env n .none; unbindBehindTheSuite X.env n p) (fun _ s7 => Q s7) X.xe s6 := fun {σ6 H6 Q} S6 hq => gone_ok (S6.unsuite ok) hN hi hl hq
      cases f with
      | ret u =>
        obtain ⟨v6, σ6, H6, S6, r6, q6⟩ := sp
        exact gone S6 fun s7 J7 => ⟨v6, _, _, J7, r6, q6⟩
      | _ =>
        obtain ⟨σ6, H6, S6, q6⟩ := sp
        exact gone S6 fun s7 J7 => ⟨_, _, J7, q6⟩
theorem ps_tryC {body : List Stmt} {h0 : ExceptHandler} {hds : List ExceptHandler} {w : Ends → WX} {pos : Pos} {tb : WX → TS} (hs : X.stack = X.env :: X.outer) (hf : X.env.frame = some X.env.locals)
    (hb : ∀ (W : WX) (pn : List (Addr × Obj)) (xe : Value → Shared → Prop), Takes (X.tr pn xe) W → PassesOwn (model X.prog X.w) X.A X.env xe → PSs (X.tr pn xe) body (tb W)) (hh : Cls X (h0 :: hds) w) :
    PS X (.Try body (h0 :: hds) [] [] pos) (fun D σ H => tb (w D) D σ H) := by
  refine ⟨fun pins s σ H D I h => ?_⟩
  have ok := I.ok
  have hfr : X.A.frames = some (X.env :: X.outer) := by rw [ok.frames, hs]
  refine wpAny_Try_except ?_
  refine wpAny_mono ((hb (w D) (X.pn ++ pins) (fun e s1 => wpAny (model X.prog X.w) X.A (noteFrame e X.env) (fun _ s2 => wpAny (model X.prog X.w) X.A (setFlight e none) (fun _ s3 =>
    wpAny (model X.prog X.w) X.A (handleBy e X.env (h0 :: hds)) (SP X pins D) X.xe s3) X.xe s2) X.xe s1) (fun u s' xx => ?_) PassesOwn.looking).run [] s σ H D (I.toTry _) h) (fun f s1 sp => ?_) (fun e s1 he => he)
  · obtain ⟨a, B, sI, pins', σ', H', cls, d, rfl, J', nb, up, sky, na, os, ag, wd⟩ := xx
    have J : Inv X pins σ' H' sI := J'.ofTry ok
    have sky2 : Sky B (X.env :: X.outer) a (Zc cls d) X.env.locals s'.heap := by rw [← hs]; exact sky
    show wpAny (model X.prog X.w) X.A (noteFrame (.ref a) X.env) _ _ _
    exact Sky.land Zc.steady hfr hf sky2 fun h3 fl3 up3 => met hs hf J nb (up.trans up3) fl3 na os ag hh wd
  · cases f with
    | next =>
      obtain ⟨σ', H', J', q⟩ := sp
      exact wpAny_execs_nil ⟨σ', H', J'.ofTry ok, q⟩
    | ret u =>
      obtain ⟨v, σ', H', J', r, q⟩ := sp
      exact ⟨v, σ', H', J'.ofTry ok, r, q⟩
    | _ =>
      obtain ⟨σ', H', J', q⟩ := sp
      exact ⟨σ', H', J'.ofTry ok, q⟩
end
/-! ### isinstance(e, (A, B)), e the error that the suite holds -/
def rIsET (K : PySem.W.Frag) (D a : Addr) : List V → Hp → VK → Prop := fun xs H Q => ∃ (tp : Addr) (cs : List V) (us : List Value) (b : Bool), xs = [.ref a, .ref tp] ∧ H tp = some (.tup cs) ∧ Paired ClsV cs us ∧ PySem.W.kitAny K (.ref D) us = some b ∧ Q (.bl b) H
theorem call_isET {X : Cx} {a D : Addr} {oe : Obj} {pn : List (Addr × Obj)} (C : ExcC X.K D) (hz : Zc (.ref D) none oe) (hf : ∃ vs, oe.data = .fields vs) : CallR (X.suite a ((a, oe) :: pn)) (.builtin "isinstance") (rIsET X.K D a) := by
  intro pins s σ H xs us Q I r h
  obtain ⟨tp, cs, ws, b, rfl, hT, k, e, q⟩ := h
  obtain ⟨u1, u2, rfl, r1, r2⟩ := vals2 r
  cases (show u1 = Value.ref a from r1)
  cases (show u2 = Value.ref tp from r2)
  obtain ⟨hget, _⟩ := I.pin (a, oe) (List.mem_append.mpr (.inl List.mem_cons_self))
  obtain ⟨vs, hv⟩ := hf
  have J : PySem.W.InstAt s.heap a oe D none := by
    obtain ⟨oc, od, oda, osl⟩ := oe
    obtain ⟨h1, h2⟩ := hz
    dsimp only at h1 h2 hv
    subst h1 h2 hv
    exact ⟨hget, rfl, rfl, trivial⟩
  obtain ⟨_, its, rv, o, h1, h2, n, h3⟩ := (show ObjOk X.prog X.w H s.heap tp (.tup cs) from I.hok tp _ hT)
  have e3 := ClsV.all k rv
  subst e3
  obtain ⟨oc, od, dt, sl⟩ := o
  simp only at h2 h3
  subst h2 h3
  exact PySem.W.kia_tup (PySem.W.handS_kitx_exc C.hg C.hk C.hs C.hd C.ha C.hn C.ht C.hm) I.kIn J h1 e (fun z => nomatch z) fun tk => ⟨.bl b, H, I.kept (t' := tk) fun _ _ z => z, rfl, q⟩
end Ck

set_option Elab.async false
set_option linter.all false
set_option maxRecDepth 100000
set_option maxHeartbeats 1000000
set_option autoImplicit false
/-! # Data level: what is walked, targets, statements, defs -/
namespace Ck
open PySem PySem.Spec PyProof.Rows L2

/-! ### what is walked -/
structure WalkD (J : It) (G1 : Hp) (ds : List PyData) : Prop where
  go : ∀ (i : Nat) (H : Hp), i < ds.length → Same G1 H → J.go i H
  stop : ∀ H : Hp, Same G1 H → J.stop ds.length H
  yld : ∀ (i : Nat) (H G : Hp) (x : V) (H' : Hp), i < ds.length → Same G1 G → Same G H → J.yld i H x H' → ∃ d G', ds[i]? = some d ∧ Ax H G H' G' ∧ Is G' x d
def Wk (wi : TI) (ρ : Ev) (ds : List PyData) : Prop := ∀ (σ : L2.St) (H G : Hp), Same G H → EnvD G σ ρ → ∀ R : It → Hp → Prop, (∀ J H1 G1, Ax H G H1 G1 → WalkD J G1 ds → R J H1) → wi σ H R
section
variable {ρ : Ev} {K : PySem.W.Frag} {tl : TE} {ta : TA} {ds es : List PyData}
theorem ex_at {ds : List PyData} {i : Nat} (h : i < ds.length) : ∃ d, ds[i]? = some d := ⟨ds[i], by simp [h]⟩
theorem w_list (h : E tl ρ (.list ds)) : Wk (iList K tl) ρ ds := fun σ H G s e R q => h σ H G s e _ fun v H1 G1 a1 i1 => by
  obtain ⟨a, xs, rfl, ha, hs⟩ := i1.lst_inv
  refine ⟨a, rfl, ⟨xs, SqL.of (a1.s _ _ ha)⟩, q _ H1 G1 a1 ⟨fun i H' hi s' => ?_, fun H' s' => ?_, fun i H' G' x H'' hi s1 s2 y => ?_⟩⟩
  · obtain ⟨d, hd⟩ := ex_at hi
    obtain ⟨v, hv, _⟩ := hs.at_ hd
    exact ⟨xs, v, SqL.of (s' _ _ ha), hv⟩
  · exact ⟨xs, SqL.of (s' _ _ ha), Nat.le_of_eq hs.length⟩
  · obtain ⟨rfl, y2⟩ := y
    obtain ⟨d, hd⟩ := ex_at hi
    obtain ⟨v, hv, iv⟩ := hs.at_ hd
    have ex := y2 xs (SqL.of (s2 _ _ (s1 _ _ ha)))
    rw [hv] at ex
    cases ex
    exact ⟨d, G', hd, Ax.refl s2, iv.mono s1⟩
theorem w_tup (h : E tl ρ (.tuple ds)) : Wk (iTup K tl) ρ ds := fun σ H G s e R q => h σ H G s e _ fun v H1 G1 a1 i1 => by
  obtain ⟨a, xs, rfl, ha, hs⟩ := i1.tup_inv
  refine ⟨a, rfl, ⟨xs, SqT.of (a1.s _ _ ha)⟩, q _ H1 G1 a1 ⟨fun i H' hi s' => ?_, fun H' s' => ?_, fun i H' G' x H'' hi s1 s2 y => ?_⟩⟩
  · obtain ⟨d, hd⟩ := ex_at hi
    obtain ⟨v, hv, _⟩ := hs.at_ hd
    exact ⟨xs, v, SqT.of (s' _ _ ha), hv⟩
  · exact ⟨xs, SqT.of (s' _ _ ha), Nat.le_of_eq hs.length⟩
  · obtain ⟨rfl, y2⟩ := y
    obtain ⟨d, hd⟩ := ex_at hi
    obtain ⟨v, hv, iv⟩ := hs.at_ hd
    have ex := y2 xs (SqT.of (s2 _ _ (s1 _ _ ha)))
    rw [hv] at ex
    cases ex
    exact ⟨d, G', hd, Ax.refl s2, iv.mono s1⟩
/-- lo, lo + 1, .. (n of them) -/
def rngD (lo : Int) (n : Nat) : List PyData := (List.range n).map fun i => .int (lo + (i : Nat))
theorem rngD_length (lo : Int) (n : Nat) : (rngD lo n).length = n := by simp [rngD]
theorem rngD_at {lo : Int} {n i : Nat} (h : i < n) : (rngD lo n)[i]? = some (.int (lo + (i : Nat))) := by simp [rngD, h]
theorem walk_rng (lo : Int) (n : Nat) (G1 : Hp) : WalkD (Itr lo n) G1 (rngD lo n) := by
  refine ⟨fun i H' hi s' => ?_, fun H' s' => ?_, fun i H' G' x H'' hi s1 s2 y => ?_⟩
  · rw [rngD_length] at hi
    exact hi
  · rw [rngD_length]
    exact Nat.le_refl n
  · rw [rngD_length] at hi
    obtain ⟨rfl, rfl⟩ := y
    exact ⟨_, G', rngD_at hi, Ax.refl s2, .int _⟩
theorem Iss.int1 {G : Hp} {vs : List V} {i : Int} (h : Iss G vs [.int i]) : vs = [.int i] := by
  obtain ⟨v, rfl, h1⟩ := h.one
  rw [h1.int_eq]
theorem w_rng1 {n : Int} (h : A ta ρ [.int n]) (hn : 0 ≤ n ∧ n < 2 ^ 62) : Wk (iRng1 ta) ρ (rngD 0 n.toNat) := fun σ H G s e R q => h σ H G s e _ fun vs H1 G1 a1 i1 =>
  ⟨n, i1.int1, by omega, hn.2, q _ H1 G1 a1 (walk_rng 0 n.toNat G1)⟩
theorem w_rng2 {lo n : Int} (h : A ta ρ [.int lo, .int n]) (hn : 0 ≤ lo ∧ lo < 2 ^ 62 ∧ 0 ≤ n ∧ n < 2 ^ 62) : Wk (iRng2 ta) ρ (rngD lo (n - lo).toNat) := fun σ H G s e R q => h σ H G s e _ fun vs H1 G1 a1 i1 => by
  obtain ⟨v, w, rfl, h1, h2⟩ := i1.two
  rw [h1.int_eq, h2.int_eq]
  exact ⟨lo, n, rfl, ⟨by omega, hn.2.1, by omega, hn.2.2.2⟩, q _ H1 G1 a1 (walk_rng lo (n - lo).toNat G1)⟩
/-- the signs of a text -/
def signsD (x : Str) : List PyData := x.cps.toList.map fun c => .str ⟨#[c]⟩
theorem w_str {x : Str} (h : E tl ρ (.str x)) : Wk (iStr tl) ρ (signsD x) := fun σ H G s e R q => h σ H G s e _ fun v H1 G1 a1 i1 => by
  have hl : (signsD x).length = x.cps.size := by simp [signsD]
  refine ⟨x, i1.str_eq, q _ H1 G1 a1 ⟨fun i H' hi s' => ?_, fun H' s' => ?_, fun i H' G' y H'' hi s1 s2 z => ?_⟩⟩
  · rw [hl] at hi
    exact hi
  · rw [hl]
    exact Nat.le_refl _
  · obtain ⟨rfl, c, hc, rfl⟩ := z
    refine ⟨.str ⟨#[c]⟩, G', ?_, Ax.refl s2, .str _⟩
    unfold signsD
    rw [List.getElem?_map, Array.getElem?_toList, hc]
    rfl
def zipD (ds es : List PyData) : List PyData := List.zipWith (fun a b => .tuple [a, b]) ds es
theorem zipD_length (h : ds.length = es.length) : (zipD ds es).length = ds.length := by simp [zipD, h]
theorem zipD_at {i : Nat} {a b : PyData} (h1 : ds[i]? = some a) (h2 : es[i]? = some b) : (zipD ds es)[i]? = some (.tuple [a, b]) := by
  unfold zipD
  rw [List.getElem?_zipWith, h1, h2]
theorem w_zipL (h : A ta ρ [.list ds, .list es]) (hl : ds.length = es.length) : Wk (RZ.iZipA K ta) ρ (zipD ds es) := fun σ H G s e R q => h σ H G s e _ fun vs H1 G1 a1 i1 => by
  obtain ⟨v, w, rfl, h1, h2⟩ := i1.two
  obtain ⟨a, xs, rfl, ha, hs⟩ := h1.lst_inv
  obtain ⟨b, ys, rfl, hb, ht⟩ := h2.lst_inv
  refine ⟨a, b, xs, ys, rfl, .inl ⟨SqL.of (a1.s _ _ ha), SqL.of (a1.s _ _ hb), q _ H1 G1 a1 ⟨fun i H' hi s' => ?_, fun H' s' => ?_, fun i H' G' x H'' hi s1 s2 y => ?_⟩⟩⟩
  · rw [zipD_length hl] at hi
    obtain ⟨d, hd⟩ := ex_at hi
    obtain ⟨f, hf⟩ := ex_at (ds := es) (i := i) (by omega)
    obtain ⟨v, hv, _⟩ := hs.at_ hd
    obtain ⟨w, hw, _⟩ := ht.at_ hf
    exact ⟨xs, ys, v, w, SqL.of (s' _ _ ha), SqL.of (s' _ _ hb), hv, hw⟩
  · rw [zipD_length hl]
    exact ⟨xs, ys, SqL.of (s' _ _ ha), SqL.of (s' _ _ hb), .inl (Nat.le_of_eq hs.length)⟩
  · rw [zipD_length hl] at hi
    obtain ⟨d, hd⟩ := ex_at hi
    obtain ⟨f, hf⟩ := ex_at (ds := es) (i := i) (by omega)
    obtain ⟨v, hv, iv⟩ := hs.at_ hd
    obtain ⟨w, hw, iw⟩ := ht.at_ hf
    obtain ⟨T, x1, y1, rfl, hT, rfl, e1, e2⟩ := y
    have z1 := e1 xs (SqL.of (s2 _ _ (s1 _ _ ha)))
    have z2 := e2 ys (SqL.of (s2 _ _ (s1 _ _ hb)))
    rw [hv] at z1
    rw [hw] at z2
    cases z1
    cases z2
    have ax := Ax.new (o := .tup [v, w]) s2 hT
    exact ⟨_, _, zipD_at hd hf, ax, .tup upd_same (.cons (iv.mono (s1.trans ax.g)) (.cons (iw.mono (s1.trans ax.g)) .nil))⟩
theorem w_zipT (h : A ta ρ [.tuple ds, .tuple es]) (hl : ds.length = es.length) : Wk (RZ.iZipA K ta) ρ (zipD ds es) := fun σ H G s e R q => h σ H G s e _ fun vs H1 G1 a1 i1 => by
  obtain ⟨v, w, rfl, h1, h2⟩ := i1.two
  obtain ⟨a, xs, rfl, ha, hs⟩ := h1.tup_inv
  obtain ⟨b, ys, rfl, hb, ht⟩ := h2.tup_inv
  refine ⟨a, b, xs, ys, rfl, .inr ⟨SqT.of (a1.s _ _ ha), SqT.of (a1.s _ _ hb), q _ H1 G1 a1 ⟨fun i H' hi s' => ?_, fun H' s' => ?_, fun i H' G' x H'' hi s1 s2 y => ?_⟩⟩⟩
  · rw [zipD_length hl] at hi
    obtain ⟨d, hd⟩ := ex_at hi
    obtain ⟨f, hf⟩ := ex_at (ds := es) (i := i) (by omega)
    obtain ⟨v, hv, _⟩ := hs.at_ hd
    obtain ⟨w, hw, _⟩ := ht.at_ hf
    exact ⟨xs, ys, v, w, SqT.of (s' _ _ ha), SqT.of (s' _ _ hb), hv, hw⟩
  · rw [zipD_length hl]
    exact ⟨xs, ys, SqT.of (s' _ _ ha), SqT.of (s' _ _ hb), .inl (Nat.le_of_eq hs.length)⟩
  · rw [zipD_length hl] at hi
    obtain ⟨d, hd⟩ := ex_at hi
    obtain ⟨f, hf⟩ := ex_at (ds := es) (i := i) (by omega)
    obtain ⟨v, hv, iv⟩ := hs.at_ hd
    obtain ⟨w, hw, iw⟩ := ht.at_ hf
    obtain ⟨T, x1, y1, rfl, hT, rfl, e1, e2⟩ := y
    have z1 := e1 xs (SqT.of (s2 _ _ (s1 _ _ ha)))
    have z2 := e2 ys (SqT.of (s2 _ _ (s1 _ _ hb)))
    rw [hv] at z1
    rw [hw] at z2
    cases z1
    cases z2
    have ax := Ax.new (o := .tup [v, w]) s2 hT
    exact ⟨_, _, zipD_at hd hf, ax, .tup upd_same (.cons (iv.mono (s1.trans ax.g)) (.cons (iw.mono (s1.trans ax.g)) .nil))⟩
def enumD (ds : List PyData) : List PyData := (List.range ds.length).map fun i => .tuple [.int (i : Nat), ds.getD i .none]
theorem enumD_length (ds : List PyData) : (enumD ds).length = ds.length := by simp [enumD]
theorem enumD_at {i : Nat} {d : PyData} (h : ds[i]? = some d) : (enumD ds)[i]? = some (.tuple [.int (i : Nat), d]) := by
  have hi : i < ds.length := (List.getElem?_eq_some_iff.mp h).1
  have e : ds[i] = d := by
    have z := List.getElem?_eq_getElem hi
    rw [h] at z
    exact (Option.some.inj z).symm
  simp [enumD, hi, e]
theorem w_enumT (h : A ta ρ [.tuple ds]) : Wk (iEnumT K ta) ρ (enumD ds) := fun σ H G s e R q => h σ H G s e _ fun vs H1 G1 a1 i1 => by
  obtain ⟨v, rfl, h1⟩ := i1.one
  obtain ⟨a, xs, rfl, ha, hs⟩ := h1.tup_inv
  refine ⟨a, xs, rfl, SqT.of (a1.s _ _ ha), q _ H1 G1 a1 ⟨fun i H' hi s' => ?_, fun H' s' => ?_, fun i H' G' x H'' hi s1 s2 y => ?_⟩⟩
  · rw [enumD_length] at hi
    obtain ⟨d, hd⟩ := ex_at hi
    obtain ⟨v, hv, _⟩ := hs.at_ hd
    exact ⟨xs, v, SqT.of (s' _ _ ha), hv⟩
  · rw [enumD_length]
    exact ⟨xs, SqT.of (s' _ _ ha), Nat.le_of_eq hs.length⟩
  · rw [enumD_length] at hi
    obtain ⟨d, hd⟩ := ex_at hi
    obtain ⟨v, hv, iv⟩ := hs.at_ hd
    obtain ⟨T, x1, rfl, hT, rfl, e1⟩ := y
    have z1 := e1 xs (SqT.of (s2 _ _ (s1 _ _ ha)))
    rw [hv] at z1
    cases z1
    have ax := Ax.new (o := .tup [.int (i : Nat), v]) s2 hT
    exact ⟨_, _, enumD_at hd, ax, .tup upd_same (.cons (.int _) (.cons (iv.mono (s1.trans ax.g)) .nil))⟩
end

/-! ### targets -/
def Tg (g : TG) (js : List Nat) (d : PyData) (ρ ρ' : Ev) : Prop := ∀ (v : V) (σ : L2.St) (H G : Hp), Same G H → EnvD G σ ρ → Is G v d → ∀ Q : L2.St → Hp → Prop, (∀ σ' : L2.St, EnvD G σ' ρ' → σ'.length = σ.length → (∀ j, j ∉ js → σ'[j]? = σ[j]?) → Q σ' H) → g v σ H Q
def Tgs (g : TGs) (js : List Nat) (ds : List PyData) (ρ ρ' : Ev) : Prop := ∀ (vs : List V) (σ : L2.St) (H G : Hp), Same G H → EnvD G σ ρ → Iss G vs ds → ∀ Q : L2.St → Hp → Prop, (∀ σ' : L2.St, EnvD G σ' ρ' → σ'.length = σ.length → (∀ j, j ∉ js → σ'[j]? = σ[j]?) → Q σ' H) → g vs σ H Q
theorem g_name {j : Nat} {d : PyData} {ρ : Ev} : Tg (gName j) [j] d ρ (ρ.set j (some d)) := fun v σ H G s e i Q q =>
  q _ (e.set i j) (by simp) fun k hk => List.getElem?_set_ne (by simpa using Ne.symm (by simpa using hk))
theorem g_nil {ρ : Ev} : Tgs gNil [] [] ρ ρ := fun vs σ H G s e i Q q => by
  cases i
  exact ⟨rfl, q σ e rfl fun _ _ => rfl⟩
theorem g_cons {g : TGs} {j : Nat} {js : List Nat} {d : PyData} {ds : List PyData} {ρ ρ' : Ev} (h : Tgs g js ds (ρ.set j (some d)) ρ') : Tgs (gCons (gName j) g) (j :: js) (d :: ds) ρ ρ' := fun vs σ H G s e i Q q => by
  cases i with
  | @cons v vs _ _ i1 i2 =>
    refine ⟨v, vs, rfl, ?_⟩
    refine h vs _ H G s (e.set i1 j) i2 Q fun σ' e' l' k => q σ' e' (by rw [l']; simp) fun m hm => ?_
    have h1 : m ≠ j := fun z => hm (by simp [z])
    have h2 : m ∉ js := fun z => hm (by simp [z])
    rw [k m h2, List.getElem?_set_ne (Ne.symm h1)]
theorem g_tup {g : TGs} {js : List Nat} {ds : List PyData} {ρ ρ' : Ev} {K : PySem.W.Frag} {n : Nat} (h : Tgs g js ds ρ ρ') (hn : ds.length = n) : Tg (gTup K n g) js (.tuple ds) ρ ρ' := fun v σ H G s e i Q q => by
  obtain ⟨a, xs, rfl, ha, hs⟩ := i.tup_inv
  exact ⟨a, xs, rfl, SqT.of (s _ _ ha), by rw [hs.length, hn], h xs σ H G s e hs Q q⟩

/-! ### comprehensions -/
theorem wipe_at {σ : L2.St} : ∀ {vs : List Nat} {j : Nat}, j ∉ vs → (L2.wipe σ vs)[j]? = σ[j]?
  | [], _, _ => rfl
  | v :: vs, j, h => by
    unfold L2.wipe
    rw [List.getElem?_set_ne (fun z => h (by simp [z]))]
    exact wipe_at fun z => h (by simp [z])
theorem wipe_in {σ : L2.St} : ∀ {vs : List Nat} {j : Nat}, j ∈ vs → j < σ.length → (L2.wipe σ vs)[j]? = some none
  | v :: vs, j, h, hl => by
    unfold L2.wipe
    by_cases e : v = j
    · subst e
      rw [List.getElem?_set_self (by rw [L2.wipe_length]; exact hl)]
    · rw [List.getElem?_set_ne e]
      refine wipe_in ?_ hl
      rcases List.mem_cons.mp h with z | z
      · exact absurd z.symm e
      · exact z
theorem wipe_same {σ σ' : L2.St} {vs : List Nat} (hl : σ'.length = σ.length) (h : ∀ j, j ∉ vs → σ'[j]? = σ[j]?) : L2.wipe σ' vs = L2.wipe σ vs := by
  apply List.ext_getElem?
  intro j
  by_cases hj : j ∈ vs
  · by_cases hb : j < σ.length
    · rw [wipe_in hj hb, wipe_in hj (by omega)]
    · rw [List.getElem?_eq_none (by rw [L2.wipe_length]; omega), List.getElem?_eq_none (by rw [L2.wipe_length]; omega)]
  · rw [wipe_at hj, wipe_at hj, h j hj]
theorem wipe_wipe {σ : L2.St} {vs : List Nat} : L2.wipe (L2.wipe σ vs) vs = L2.wipe σ vs := wipe_same (L2.wipe_length σ vs) fun _ hj => wipe_at hj
section
variable {ρ : Ev} {wi : TI} {g : TG} {tt : TT} {te : TE} {vs : List Nat} {ds : List PyData}
/-- F i: the list behind i turns -/
theorem e_lc (hw : Wk wi ρ ds) (F : Nat → List PyData) (h0 : F 0 = []) (hz : ds.length ≤ 100000) (hF : ∀ i, i ≤ ds.length → (F i).length ≤ i)
    (hs : ∀ (i : Nat) (d : PyData), ds[i]? = some d → ∃ js ρ' b, Tg g js d (wipeR ρ vs) ρ' ∧ (∀ j ∈ js, j ∈ vs) ∧ T tt ρ' b ∧ (b = true → ∃ e, E te ρ' e ∧ F (i + 1) = F i ++ [e]) ∧ (b = false → F (i + 1) = F i)) :
    E (tLc wi g tt te vs) ρ (.list (F ds.length)) := fun σ H G s e Q q => hw σ H G s e _ fun J H1 G1 a1 wk => by
  intro D hD
  -- the new list stays outside the frozen part until the end
  refine ⟨fun i m H' => m = ds.length - i ∧ i ≤ ds.length ∧ ∃ G' xs, Ax H1 G1 H' G' ∧ G' D = none ∧ H' D = some (.lst xs) ∧ Iss G' xs (F i), ⟨ds.length, rfl, Nat.zero_le _, G1, [], Ax.skip a1.s hD, Same.free a1.s hD, upd_same, by rw [h0]; exact .nil⟩, ?_⟩
  rintro i m H' ⟨rfl, hi, G', xs, ax, gD, hx, hxs⟩
  by_cases hlt : i < ds.length
  · obtain ⟨d, hd⟩ := ex_at hlt
    obtain ⟨js, ρ', b, htg, hjs, htt, hyes, hno⟩ := hs i d hd
    refine .inr ⟨wk.go i H' hlt (ax.g.trans ax.s), fun H2 => ∃ G2 ys, Ax H1 G1 H2 G2 ∧ G2 D = none ∧ H2 D = some (.lst ys) ∧ Iss G2 ys (F (i + 1)), fun H2 ⟨G2, ys, x1, x2, x3, x4⟩ => ⟨ds.length - (i + 1), by omega, rfl, hlt, G2, ys, x1, x2, x3, x4⟩, fun x H2 y => ?_⟩
    obtain ⟨d', G2, hd', a2, i2⟩ := wk.yld i H' G' x H2 hlt ax.g ax.s y
    rw [hd] at hd'
    cases hd'
    have gD2 := a2.f D _ hx gD
    have hx2 := a2.h _ _ hx
    have e2 : EnvD G2 (L2.wipe σ vs) (wipeR ρ vs) := ((e.mono a1.g).mono (ax.g.trans a2.g)).wipe vs
    refine htg x _ H2 G2 a2.s e2 i2 _ fun σ' e' l' k' => ⟨?_, ?_⟩
    · rw [← wipe_wipe (σ := σ)]
      exact wipe_same l' fun j hj => k' j fun z => hj (hjs j z)
    · refine htt σ' H2 G2 a2.s e' _ fun H3 G3 a3 => ?_
      have gD3 := a3.f D _ hx2 gD2
      have hx3 := a3.h _ _ hx2
      cases b with
      | false =>
        show ∃ G2 ys, _
        rw [hno rfl]
        exact ⟨G3, xs, ax.trans (a2.trans a3), gD3, hx3, hxs.mono (a2.g.trans a3.g)⟩
      | true =>
        show te σ' H3 _
        obtain ⟨el, hel, hFi⟩ := hyes rfl
        refine hel σ' H3 G3 a3.s (e'.mono a3.g) _ fun y H4 G4 a4 i4 => ?_
        have gD4 := a4.f D _ hx3 gD3
        have hx4 := a4.h _ _ hx3
        have all := ax.trans ((a2.trans a3).trans a4)
        have hN : H1 D = none := hD
        refine ⟨xs, hx4, ?_, G4, xs ++ [y], ⟨fun c o z => ?_, all.g, fun c o z => ?_, all.f⟩, gD4, upd_same, ?_⟩
        · have := hF i hi
          rw [hxs.length]
          exact Nat.lt_of_le_of_lt (Nat.le_trans this (Nat.le_trans hi hz)) (by decide)
        · rw [upd_ne (ne_of_none z hN)]
          exact all.h c o z
        · rw [upd_ne (ne_of_none z gD4)]
          exact a4.s c o z
        · rw [hFi]
          exact (hxs.mono (a2.g.trans (a3.g.trans a4.g))).app (.cons i4 .nil)
  · have ei : i = ds.length := by omega
    subst ei
    refine .inl ⟨wk.stop H' (ax.g.trans ax.s), q _ H' (upd G' D (.lst xs)) (a1.trans ⟨ax.h, ax.g.trans (Same.new gD), fun c o z => ?_, fun c o z n => ?_⟩) (.lst upd_same (hxs.mono (Same.new gD)))⟩
    · by_cases hc : c = D
      · rw [hc, upd_same] at z
        rw [hc, hx]
        exact z
      · rw [upd_ne hc] at z
        exact ax.s c o z
    · rw [upd_ne (ne_of_none z hD)]
      exact ax.f c o z n
/-- every turn gives -/
theorem e_lcM (hw : Wk wi ρ ds) (out : List PyData) (hl : out.length = ds.length) (hz : ds.length ≤ 100000)
    (hs : ∀ (i : Nat) (d : PyData), ds[i]? = some d → ∃ js ρ' e, Tg g js d (wipeR ρ vs) ρ' ∧ (∀ j ∈ js, j ∈ vs) ∧ E te ρ' e ∧ out[i]? = some e) : E (tLc wi g tYes te vs) ρ (.list out) := by
  have h := e_lc (g := g) (tt := tYes) (te := te) (vs := vs) hw (fun i => out.take i) (by simp) hz (fun i hi => by rw [List.length_take]; omega) fun i d hd => by
    obtain ⟨js, ρ', e, h1, h2, h3, h4⟩ := hs i d hd
    refine ⟨js, ρ', true, h1, h2, fun σ H G s _ Q q => q H G (Ax.refl s), fun _ => ⟨e, h3, ?_⟩, fun z => by cases z⟩
    rw [List.take_add_one, h4]
    rfl
  rw [← hl, List.take_length] at h
  exact h
end

/-! ### statements -/
/-- the one list of one's own that the def fills: its slot, what it holds -/
abbrev Ow := Option (Nat × List PyData)
structure Out where
  nx : Ev → Ow → Prop := fun _ _ => False
  rt : PyData → Prop := fun _ => False
  ro : List PyData → Prop := fun _ => False
  rs : Value → Prop := fun _ => False
def Own (H0 H G : Hp) (σ : L2.St) : Ow → Prop
  | none => True
  | some (i, ds) => ∃ (p : Addr) (xs : List V), σ[i]? = some (some (.ref p)) ∧ H0 p = none ∧ G p = none ∧ H p = some (.lst xs) ∧ Iss G xs ds
theorem Own.of {H0 H G : Hp} {σ : L2.St} {i : Nat} {ds : List PyData} {p : Addr} {xs : List V} (h1 : σ[i]? = some (some (.ref p))) (h2 : H0 p = none) (h3 : G p = none) (h4 : H p = some (.lst xs)) (h5 : Iss G xs ds) : Own H0 H G σ (some (i, ds)) :=
  ⟨p, xs, h1, h2, h3, h4, h5⟩
theorem Own.mono {H0 H G H2 G2 : Hp} {σ : L2.St} {ow : Ow} (h : Own H0 H G σ ow) (a : Ax H G H2 G2) : Own H0 H2 G2 σ ow := by
  cases ow with
  | none => trivial
  | some q =>
    obtain ⟨i, ds⟩ := q
    obtain ⟨p, xs, h1, h2, h3, h4, h5⟩ := h
    exact ⟨p, xs, h1, h2, a.f p _ h4 h3, a.h _ _ h4, h5.mono a.g⟩
def clear : Ow → List Nat → Bool
  | none, _ => true
  | some (i, _), js => !js.contains i
theorem Own.slots {H0 H G : Hp} {σ σ' : L2.St} {ow : Ow} {js : List Nat} (h : Own H0 H G σ ow) (c : clear ow js = true) (k : ∀ j, j ∉ js → σ'[j]? = σ[j]?) : Own H0 H G σ' ow := by
  cases ow with
  | none => trivial
  | some q =>
    obtain ⟨i, ds⟩ := q
    obtain ⟨p, xs, h1, h2⟩ := h
    refine ⟨p, xs, ?_, h2⟩
    rw [k i (by simpa [clear] using c)]
    exact h1
def S (W : WX) (ts : TS) (ρ : Ev) (ow : Ow) (O : Out) : Prop := ∀ (H0 G0 : Hp) (D : Ends) (σ : L2.St) (H G : Hp), Ax H0 G0 H G → EnvD G σ ρ → Own H0 H G σ ow →
  (∀ σ' H' G' ρ' ow', Ax H0 G0 H' G' → Same G G' → EnvD G' σ' ρ' → Own H0 H' G' σ' ow' → O.nx ρ' ow' → D.nx σ' H') →
  (∀ v H' G' d, Ax H0 G0 H' G' → Is G' v d → O.rt d → D.rt v H') →
  (∀ p xs ds H' G', Ax H0 G0 H' G' → H0 p = none → G' p = none → H' p = some (.lst xs) → Iss G' xs ds → O.ro ds → D.rt (.ref p) H') →
  (∀ c σ' H' G', Ax H0 G0 H' G' → O.rs c → W c none σ' H') → ts D σ H
section
variable {W : WX} {ρ : Ev} {ow : Ow} {o : Out} {t u : TS} {te ta tb : TE} {d : PyData} {ds es : List PyData} {K : PySem.W.Frag} {i : Nat}
theorem s_seq (h : S W t ρ ow ⟨fun ρ' ow' => S W u ρ' ow' o, o.rt, o.ro, o.rs⟩) : S W (tSeq t u) ρ ow o := fun H0 G0 D σ H G ax e w nx rt ro rs =>
  h H0 G0 { D with nx := u D } σ H G ax e w (fun σ' H' G' ρ' ow' ax' sm e' w' k => k H0 G0 D σ' H' G' ax' e' w' (fun σ2 H2 G2 ρ2 ow2 a2 s2 e2 w2 k2 => nx σ2 H2 G2 ρ2 ow2 a2 (sm.trans s2) e2 w2 k2) rt ro rs) rt ro rs
theorem s_next (k : o.nx ρ ow) : S W tNext ρ ow o := fun H0 G0 D σ H G ax e w nx rt ro rs => nx σ H G ρ ow ax (Same.refl G) e w k
theorem s_asg {g : TG} {js : List Nat} {ρ' : Ev} (h : E te ρ d) (hg : Tg g js d ρ ρ') (hc : clear ow js = true) (k : o.nx ρ' ow) : S W (tAsg te g) ρ ow o := fun H0 G0 D σ H G ax e w nx rt ro rs =>
  h σ H G ax.s e _ fun v H1 G1 a1 i1 => hg v σ H1 G1 a1.s (e.mono a1.g) i1 _ fun σ' e' l' k' => nx σ' H1 G1 ρ' ow (ax.trans a1) a1.g e' ((w.mono a1).slots hc k') k
theorem s_set (h : E te ρ d) (hc : clear ow [i] = true) (k : o.nx (ρ.set i (some d)) ow) : S W (tAsg te (gName i)) ρ ow o := s_asg h g_name hc k
theorem s_drop (h : E te ρ d) (k : o.nx ρ ow) : S W (tDrop te) ρ ow o := fun H0 G0 D σ H G ax e w nx rt ro rs =>
  h σ H G ax.s e _ fun v H1 G1 a1 i1 => nx σ H1 G1 ρ ow (ax.trans a1) a1.g (e.mono a1.g) (w.mono a1) k
theorem s_ret (h : E te ρ d) (k : o.rt d) : S W (tRet te) ρ ow o := fun H0 G0 D σ H G ax e w nx rt ro rs => h σ H G ax.s e _ fun v H1 G1 a1 i1 => rt v H1 G1 d (ax.trans a1) i1 k
theorem s_if {c : TT} {b : Bool} (h : T c ρ b) (k1 : b = true → S W t ρ ow o) (k2 : b = false → S W u ρ ow o) : S W (tIfS c t u) ρ ow o := fun H0 G0 D σ H G ax e w nx rt ro rs =>
  h σ H G ax.s e _ fun H1 G1 a1 => by
    have nx' := fun σ' H' G' ρ' ow' (x : Ax H0 G0 H' G') (y : Same G1 G') => nx σ' H' G' ρ' ow' x (a1.g.trans y)
    cases b with
    | true => exact k1 rfl H0 G0 D σ H1 G1 (ax.trans a1) (e.mono a1.g) (w.mono a1) nx' rt ro rs
    | false => exact k2 rfl H0 G0 D σ H1 G1 (ax.trans a1) (e.mono a1.g) (w.mono a1) nx' rt ro rs
theorem q_set (h : E te ρ d) (hc : clear ow [i] = true) (k : S W u (ρ.set i (some d)) ow o) : S W (tSeq (tAsg te (gName i)) u) ρ ow o := s_seq (s_set h hc k)
theorem q_asg {g : TG} {js : List Nat} {ρ' : Ev} (h : E te ρ d) (hg : Tg g js d ρ ρ') (hc : clear ow js = true) (k : S W u ρ' ow o) : S W (tSeq (tAsg te g) u) ρ ow o := s_seq (s_asg h hg hc k)
theorem q_drop (h : E te ρ d) (k : S W u ρ ow o) : S W (tSeq (tDrop te) u) ρ ow o := s_seq (s_drop h k)
/-- if c: t, then u; what t leaves is told at its end -/
theorem q_if {c : TT} {t1 t2 : TS} {b : Bool} (h : T c ρ b) (k1 : b = true → S W t1 ρ ow ⟨fun ρ' ow' => S W u ρ' ow' o, o.rt, o.ro, o.rs⟩) (k2 : b = false → S W t2 ρ ow ⟨fun ρ' ow' => S W u ρ' ow' o, o.rt, o.ro, o.rs⟩) : S W (tSeq (tIfS c t1 t2) u) ρ ow o := s_seq (s_if h k1 k2)
/-- a guard: its test is false -/
theorem q_pass {c : TT} {t1 : TS} (h : T c ρ false) (k : S W u ρ ow o) : S W (tSeq (tIfS c t1 tNext) u) ρ ow o := q_if h (fun z => by cases z) fun _ => s_next k
theorem s_pass {c : TT} {t1 : TS} (h : T c ρ false) (k : o.nx ρ ow) : S W (tIfS c t1 tNext) ρ ow o := s_if h (fun z => by cases z) fun _ => s_next k
/-- a way that returns, a way that goes on -/
theorem q_when {c : TT} {t1 : TS} {b : Bool} (h : T c ρ b) (k1 : b = true → S W t1 ρ ow { o with nx := fun _ _ => False }) (k2 : b = false → S W u ρ ow o) : S W (tSeq (tIfS c t1 tNext) u) ρ ow o :=
  q_if h (fun z => fun H0 G0 D σ H G ax e w nx rt ro rs => k1 z H0 G0 D σ H G ax e w (fun _ _ _ _ _ _ _ _ _ f => f.elim) rt ro rs) fun z => s_next (k2 z)
/-! a list of one's own -/
theorem s_own {ta : TA} (h : A ta ρ ds) (hl : ds.length ≤ 100000) (k : o.nx (ρ.set i none) (some (i, ds))) (hi : i < ρ.length) : S W (tAsg (tLst ta) (gName i)) ρ none o := fun H0 G0 D σ H G ax e w nx rt ro rs =>
  h σ H G ax.s e _ fun vs H1 G1 a1 i1 => ⟨by rw [i1.length]; exact sz_ok hl, fun p hp => by
    have h0 : H0 p = none := Same.free (ax.h.trans a1.h) hp
    have g1 : G1 p = none := Same.free a1.s hp
    refine nx _ _ G1 _ _ ((ax.trans a1).trans (Ax.skip a1.s hp)) a1.g ((e.mono a1.g).forget i) (Own.of ?_ h0 g1 upd_same i1) k
    exact List.getElem?_set_self (by rw [e.len]; exact hi)⟩
theorem s_ownList (h : E ta ρ (.tuple ds)) (k : o.nx (ρ.set i none) (some (i, ds))) (hi : i < ρ.length) : S W (tAsg (tCB (cList K) (tCons ta tNil)) (gName i)) ρ none o := fun H0 G0 D σ H G ax e w nx rt ro rs =>
  h σ H G ax.s e _ fun v H1 G1 a1 i1 => by
    obtain ⟨a, xs, rfl, ha, hs⟩ := i1.tup_inv
    refine ⟨a, xs, rfl, .inr (SqT.of (a1.s _ _ ha)), fun p hp => ?_⟩
    have h0 : H0 p = none := Same.free (ax.h.trans a1.h) hp
    have g1 : G1 p = none := Same.free a1.s hp
    refine nx _ _ G1 _ _ ((ax.trans a1).trans (Ax.skip a1.s hp)) a1.g ((e.mono a1.g).forget i) (Own.of ?_ h0 g1 upd_same hs) k
    exact List.getElem?_set_self (by rw [e.len]; exact hi)
/-- the list is whole: from here on nobody changes it -/
theorem s_freeze (k : S W t (ρ.set i (some (.list ds))) none o) : S W t ρ (some (i, ds)) o := fun H0 G0 D σ H G ax e w nx rt ro rs => by
  obtain ⟨p, xs, h1, h2, h3, h4, h5⟩ := w
  have sm : Same G (upd G p (.lst xs)) := Same.new h3
  have ax2 : Ax H0 G0 H (upd G p (.lst xs)) := by
    refine ⟨ax.h, ax.g.trans sm, fun c ob z => ?_, fun c ob z n => ?_⟩
    · by_cases hc : c = p
      · rw [hc, upd_same] at z
        rw [hc, h4]
        exact z
      · rw [upd_ne hc] at z
        exact ax.s c ob z
    · rw [upd_ne (ne_of_none z h2)]
      exact ax.f c ob z n
  have hi : σ.set i (some (.ref p)) = σ := by
    apply List.ext_getElem?
    intro j
    by_cases hj : i = j
    · subst hj
      have hl := (List.getElem?_eq_some_iff.mp h1).1
      rw [List.getElem?_set_self hl, h1]
    · rw [List.getElem?_set_ne hj]
  have e2 := (e.mono sm).set (v := .ref p) (d := .list ds) (.lst upd_same (h5.mono sm)) i
  rw [hi] at e2
  exact k H0 G0 D σ H _ ax2 e2 trivial (fun σ' H' G' ρ' ow' x y => nx σ' H' G' ρ' ow' x (sm.trans y)) rt ro rs
theorem s_retOwn (k : o.ro ds) : S W (tRet (tVar i)) ρ (some (i, ds)) o := fun H0 G0 D σ H G ax e w nx rt ro rs => by
  obtain ⟨p, xs, h1, h2, h3, h4, h5⟩ := w
  exact ⟨_, h1, ro p xs ds H G ax h2 h3 h4 h5 k⟩
/-- the list at p changes: what is known stays -/
theorem Ax.mut {H0 G0 H G : Hp} {p : Addr} {ob : HO} (ax : Ax H0 G0 H G) (h0 : H0 p = none) (g : G p = none) : Ax H0 G0 (upd H p ob) G := by
  refine ⟨fun c u z => ?_, ax.g, fun c u z => ?_, ax.f⟩
  · rw [upd_ne (ne_of_none z h0)]
    exact ax.h c u z
  · rw [upd_ne (ne_of_none z g)]
    exact ax.s c u z
theorem s_append (h : E te ρ d) (hl : ds.length < 100000) (k : o.nx ρ (some (i, ds ++ [d]))) : S W (tDrop (tBM K "list" rAppend (tVar i) (tCons te tNil))) ρ (some (i, ds)) o := fun H0 G0 D σ H G ax e w nx rt ro rs => by
  obtain ⟨p, xs, h1, h2, h3, h4, h5⟩ := w
  refine ⟨_, h1, .inl ⟨rfl, xs, SqL.of h4⟩, ?_⟩
  refine h σ H G ax.s e _ fun v H1 G1 a1 i1 => ?_
  have g1 := a1.f p _ h4 h3
  refine ⟨p, xs, v, rfl, rfl, a1.h _ _ h4, by rw [h5.length]; exact Nat.lt_of_lt_of_le hl (by decide), ?_⟩
  exact nx σ _ G1 ρ _ ((ax.trans a1).mut h2 g1) a1.g (e.mono a1.g) (Own.of h1 h2 g1 upd_same ((h5.mono a1.g).app (.cons i1 .nil))) k
theorem s_extendT (h : E te ρ (.tuple es)) (hl : ds.length + es.length ≤ 100000) (k : o.nx ρ (some (i, ds ++ es))) : S W (tDrop (tBM K "list" (rExtend2 K) (tVar i) (tCons te tNil))) ρ (some (i, ds)) o := fun H0 G0 D σ H G ax e w nx rt ro rs => by
  obtain ⟨p, xs, h1, h2, h3, h4, h5⟩ := w
  refine ⟨_, h1, .inl ⟨rfl, xs, SqL.of h4⟩, ?_⟩
  refine h σ H G ax.s e _ fun v H1 G1 a1 i1 => ?_
  have g1 := a1.f p _ h4 h3
  obtain ⟨b, ys, rfl, hb, hs⟩ := i1.tup_inv
  refine ⟨p, b, xs, ys, rfl, rfl, a1.h _ _ h4, .inr (SqT.of (a1.s _ _ hb)), by rw [h5.length, hs.length]; exact sz_ok hl, ?_⟩
  exact nx σ _ G1 ρ _ ((ax.trans a1).mut h2 g1) a1.g (e.mono a1.g) (Own.of h1 h2 g1 upd_same ((h5.mono a1.g).app hs)) k
theorem s_extendL (h : E te ρ (.list es)) (hl : ds.length + es.length ≤ 100000) (k : o.nx ρ (some (i, ds ++ es))) : S W (tDrop (tBM K "list" (rExtend2 K) (tVar i) (tCons te tNil))) ρ (some (i, ds)) o := fun H0 G0 D σ H G ax e w nx rt ro rs => by
  obtain ⟨p, xs, h1, h2, h3, h4, h5⟩ := w
  refine ⟨_, h1, .inl ⟨rfl, xs, SqL.of h4⟩, ?_⟩
  refine h σ H G ax.s e _ fun v H1 G1 a1 i1 => ?_
  have g1 := a1.f p _ h4 h3
  obtain ⟨b, ys, rfl, hb, hs⟩ := i1.lst_inv
  refine ⟨p, b, xs, ys, rfl, rfl, a1.h _ _ h4, .inl (a1.s _ _ hb), by rw [h5.length, hs.length]; exact sz_ok hl, ?_⟩
  exact nx σ _ G1 ρ _ ((ax.trans a1).mut h2 g1) a1.g (e.mono a1.g) (Own.of h1 h2 g1 upd_same ((h5.mono a1.g).app hs)) k
theorem ixN_at {n j : Nat} (hj : j < n) : ixN n (j : Int) = some j := by
  unfold ixN
  rw [if_pos (Int.natCast_nonneg j), if_pos (by omega)]
  simp
/-- xs[j] = e -/
theorem s_item {j : Nat} (h : E te ρ d) (hj : E tb ρ (.int (j : Nat))) (hl : j < ds.length) (k : o.nx ρ (some (i, ds.set j d))) : S W (tAsg te (gSub (tVar i) tb rSetL)) ρ (some (i, ds)) o := fun H0 G0 D σ H G ax e w nx rt ro rs => by
  obtain ⟨p, xs, h1, h2, h3, h4, h5⟩ := w
  refine h σ H G ax.s e _ fun v H1 G1 a1 i1 => ?_
  have g1 := a1.f p _ h4 h3
  refine ⟨_, h1, ?_⟩
  refine hj σ H1 G1 a1.s (e.mono a1.g) _ fun z H2 G2 a2 i2 => ?_
  have g2 := a2.f p _ (a1.h _ _ h4) g1
  have l5 := h5.length
  refine ⟨p, xs, (j : Int), j, rfl, i2.int_eq, a2.h _ _ (a1.h _ _ h4), ixN_at (by omega), ?_⟩
  exact nx σ _ G2 ρ _ (((ax.trans a1).trans a2).mut h2 g2) (a1.g.trans a2.g) ((e.mono a1.g).mono a2.g) (Own.of h1 h2 g2 upd_same (((h5.mono a1.g).mono a2.g).set (i1.mono a2.g) j)) k
/-! loops -/
theorem s_for {wi : TI} {g : TG} {tb : TS} (hw : Wk wi ρ ds) (Pv : Nat → Ev → Ow → Prop) (h0 : Pv 0 ρ ow)
    (hs : ∀ (i : Nat) (d : PyData) (ρ1 : Ev) (w1 : Ow), ds[i]? = some d → Pv i ρ1 w1 → ∃ js ρ2, Tg g js d ρ1 ρ2 ∧ clear w1 js = true ∧ S W tb ρ2 w1 ⟨Pv (i + 1), o.rt, o.ro, o.rs⟩) (hd : ∀ ρ' w', Pv ds.length ρ' w' → o.nx ρ' w') : S W (tFor wi g tb) ρ ow o := fun H0 G0 D σ H G ax e w nx rt ro rs =>
  hw σ H G ax.s e _ fun J H1 G1 a1 wk => by
    refine ⟨fun i m σ' H' => m = ds.length - i ∧ i ≤ ds.length ∧ ∃ G' ρ' w', Ax H0 G0 H' G' ∧ Same G1 G' ∧ EnvD G' σ' ρ' ∧ Own H0 H' G' σ' w' ∧ Pv i ρ' w',
      ⟨ds.length, rfl, Nat.zero_le _, G1, ρ, ow, ax.trans a1, Same.refl G1, e.mono a1.g, w.mono a1, h0⟩, ?_⟩
    rintro i m σ' H' ⟨rfl, hi, G', ρ', w', ax', sm, e', ow', pv⟩
    by_cases hlt : i < ds.length
    · obtain ⟨d, hdi⟩ := ex_at hlt
      obtain ⟨js, ρ2, htg, hc, hb⟩ := hs i d ρ' w' hdi pv
      refine .inr ⟨wk.go i H' hlt (sm.trans ax'.s), fun σ2 H2 => ∃ G2 ρ2 w2, Ax H0 G0 H2 G2 ∧ Same G1 G2 ∧ EnvD G2 σ2 ρ2 ∧ Own H0 H2 G2 σ2 w2 ∧ Pv (i + 1) ρ2 w2, fun σ2 H2 ⟨G2, ρ2, w2, x1, x2, x3, x4, x5⟩ => ⟨ds.length - (i + 1), by omega, rfl, hlt, G2, ρ2, w2, x1, x2, x3, x4, x5⟩, fun x H2 y => ?_⟩
      obtain ⟨d', G2, hd', a2, i2⟩ := wk.yld i H' G' x H2 hlt sm ax'.s y
      rw [hdi] at hd'
      cases hd'
      refine htg x σ' H2 G2 a2.s (e'.mono a2.g) i2 _ fun σ3 e3 l3 k3 => ?_
      exact hb H0 G0 _ σ3 H2 G2 (ax'.trans a2) e3 ((ow'.mono a2).slots hc k3) (fun σ4 H4 G4 ρ4 w4 x1 x2 x3 x4 x5 => ⟨G4, ρ4, w4, x1, sm.trans (a2.g.trans x2), x3, x4, x5⟩) rt ro rs
    · have ei : i = ds.length := by omega
      subst ei
      exact .inl ⟨wk.stop H' (sm.trans ax'.s), nx σ' H' G' ρ' w' ax' (a1.g.trans sm) e' ow' (hd ρ' w' pv)⟩
theorem s_while {c : TT} {tb : TS} (Wv : Nat → Ev → Ow → Prop) (m0 : Nat) (h0 : Wv m0 ρ ow)
    (hs : ∀ (m : Nat) (ρ1 : Ev) (w1 : Ow), Wv m ρ1 w1 → ∃ b, T c ρ1 b ∧ (b = true → S W tb ρ1 w1 ⟨fun ρ2 w2 => ∃ m', m' < m ∧ Wv m' ρ2 w2, o.rt, o.ro, o.rs⟩) ∧ (b = false → o.nx ρ1 w1)) : S W (tWhile c tb) ρ ow o := fun H0 G0 D σ H G ax e w nx rt ro rs => by
  refine ⟨fun m σ' H' => ∃ G' ρ' w', Ax H0 G0 H' G' ∧ Same G G' ∧ EnvD G' σ' ρ' ∧ Own H0 H' G' σ' w' ∧ Wv m ρ' w', ⟨m0, G, ρ, ow, ax, Same.refl G, e, w, h0⟩, ?_⟩
  rintro m σ' H' ⟨G', ρ', w', ax', sm, e', ow', pv⟩
  obtain ⟨b, ht, k1, k2⟩ := hs m ρ' w' pv
  refine ht σ' H' G' ax'.s e' _ fun H1 G1 a1 => ?_
  cases b with
  | true =>
    show ∃ N : L2.St → Hp → Prop, _
    refine ⟨fun σ2 H2 => ∃ m', m' < m ∧ ∃ G2 ρ2 w2, Ax H0 G0 H2 G2 ∧ Same G G2 ∧ EnvD G2 σ2 ρ2 ∧ Own H0 H2 G2 σ2 w2 ∧ Wv m' ρ2 w2, fun σ2 H2 h => h, ?_⟩
    exact k1 rfl H0 G0 _ σ' H1 G1 (ax'.trans a1) (e'.mono a1.g) (ow'.mono a1) (fun σ4 H4 G4 ρ4 w4 x1 x2 x3 x4 ⟨m', hm, x5⟩ => ⟨m', hm, G4, ρ4, w4, x1, sm.trans (a1.g.trans x2), x3, x4, x5⟩) rt ro rs
  | false =>
    show D.nx σ' H1
    exact nx σ' H1 G1 ρ' w' (ax'.trans a1) (sm.trans a1.g) (e'.mono a1.g) (ow'.mono a1) (k2 rfl)
/-- x op= e, x an int -/
theorem s_aug {r : R2} (h1 : ρ[i]? = some (some d)) {d2 d3 : PyData} (h : E te ρ d2) (hr : OpD r d d2 d3) (hc : clear ow [i] = true) (k : o.nx (ρ.set i (some d3)) ow) : S W (tAug i te r) ρ ow o := fun H0 G0 D σ H G ax e w nx rt ro rs => by
  obtain ⟨x, hx, ix⟩ := e.at_ i d h1
  refine ⟨x, hx, h σ H G ax.s e _ fun y H1 G1 a1 i1 => hr x y H1 G1 a1.s (ix.mono a1.g) i1 _ fun z H2 G2 a2 i2 => ?_⟩
  have a := a1.trans a2
  exact nx _ H2 G2 _ ow (ax.trans a) a.g ((e.mono a.g).set i2 i) ((w.mono a).slots hc fun j hj => List.getElem?_set_ne (by simpa using Ne.symm (by simpa using hj))) k
end

/-! ### promises -/
def SP (n : Nat) (R : List PyData → PyData → Prop) : Sp := fun vs H Q _ => ∃ (G : Hp) (ds : List PyData) (d : PyData), Same G H ∧ Iss G vs ds ∧ ds.length = n ∧ R ds d ∧ ∀ v H2 G2, Ax H G H2 G2 → Is G2 v d → Q v H2
/-- the answer is a new list that nobody else has -/
def SPo (n : Nat) (R : List PyData → List PyData → Prop) : Sp := fun vs H Q _ => ∃ (G : Hp) (ds es : List PyData), Same G H ∧ Iss G vs ds ∧ ds.length = n ∧ R ds es ∧ ∀ p xs H2 G2, Ax H G H2 G2 → H p = none → G2 p = none → H2 p = some (.lst xs) → Iss G2 xs es → Q (.ref p) H2
/-- it may raise an exception of the class C, Rx ds C -/
def SPX (n : Nat) (R : List PyData → PyData → Prop) (Rx : List PyData → Value → Prop) : Sp := fun vs H Q E => ∃ (G : Hp) (ds : List PyData), Same G H ∧ Iss G vs ds ∧ ds.length = n ∧ ((∃ d, R ds d ∧ ∀ v H2 G2, Ax H G H2 G2 → Is G2 v d → Q v H2) ∨ ∃ c, Rx ds c ∧ ∀ H2 G2, Ax H G H2 G2 → E c none H2)
section
variable {W : WX} {ρ : Ev} {ow : Ow} {o : Out} {ta : TA} {d : PyData} {ds es : List PyData} {i : Nat} {R : List PyData → PyData → Prop} {Rx : List PyData → Value → Prop} {Ro : List PyData → List PyData → Prop} {Ee : XK} {n : Nat}
theorem e_call (h : A ta ρ ds) (hn : ds.length = n) (r : R ds d) : E (tCall (SP n R) [] Ee ta) ρ d := fun σ H G s e Q q => h σ H G s e _ fun vs H1 G1 a1 i1 => by
  rw [List.append_nil]
  exact ⟨G1, ds, d, a1.s, i1, hn, r, fun v H2 G2 a2 i2 => q v H2 G2 (a1.trans a2) i2⟩
theorem e_callX (h : A ta ρ ds) (hn : ds.length = n) (r : R ds d) : E (tCall (SPX n R Rx) [] Ee ta) ρ d := fun σ H G s e Q q => h σ H G s e _ fun vs H1 G1 a1 i1 => by
  rw [List.append_nil]
  exact ⟨G1, ds, a1.s, i1, hn, .inl ⟨d, r, fun v H2 G2 a2 i2 => q v H2 G2 (a1.trans a2) i2⟩⟩
theorem s_callOwn (h : A ta ρ ds) (hn : ds.length = n) (r : Ro ds es) (k : o.nx (ρ.set i none) (some (i, es))) (hi : i < ρ.length) : S W (tAsg (tCall (SPo n Ro) [] Ee ta) (gName i)) ρ none o := fun H0 G0 D σ H G ax e w nx rt ro rs =>
  h σ H G ax.s e _ fun vs H1 G1 a1 i1 => by
    rw [List.append_nil]
    refine ⟨G1, ds, es, a1.s, i1, hn, r, fun p xs H2 G2 a2 h1 g2 h2 i2 => ?_⟩
    have a := ax.trans (a1.trans a2)
    refine nx _ H2 G2 _ _ a (a1.g.trans a2.g) ((e.mono (a1.g.trans a2.g)).forget i) (Own.of ?_ (Same.free (ax.h.trans a1.h) h1) g2 h2 i2) k
    exact List.getElem?_set_self (by rw [e.len]; exact hi)
/-- raise C(..) -/
def tRaiseC (W : WX) (C : Addr) : TS := fun _ σ H => W (.ref C) none σ H
theorem s_raise {C : Addr} (k : o.rs (.ref C)) : S W (tRaiseC W C) ρ ow o := fun H0 G0 D σ H G ax e w nx rt ro rs => rs _ σ H G ax k
/-- f(..), f may raise -/
theorem s_dropX (h : A ta ρ ds) (hn : ds.length = n) (r : (∃ d, R ds d ∧ o.nx ρ ow) ∨ ∃ c, Rx ds c ∧ o.rs c) : S W (tDrop (tCallS (SPX n R Rx) (WE W) ta)) ρ ow o := fun H0 G0 D σ H G ax e w nx rt ro rs =>
  h σ H G ax.s e _ fun vs H1 G1 a1 i1 => by
    refine ⟨G1, ds, a1.s, i1, hn, ?_⟩
    rcases r with ⟨d, r, k⟩ | ⟨c, r, k⟩
    · exact .inl ⟨d, r, fun v H2 G2 a2 i2 => nx σ H2 G2 ρ ow (ax.trans (a1.trans a2)) (a1.g.trans a2.g) (e.mono (a1.g.trans a2.g)) (w.mono (a1.trans a2)) k⟩
    · exact .inr ⟨c, r, fun H2 G2 a2 => rs c σ H2 G2 (ax.trans (a1.trans a2)) k⟩
end
/-- where a def stands, what it is worth -/
structure Pr (P : Program) (w : World) (K : PySem.W.Frag) (mg : Str → Option Value) (base : Heap) (CX : CXT) (k : Nat) (x : Str) (ps : List Str) (sp : Sp) : Prop where
  ex : ∃ (f : Addr) (fd : FuncData), FnOk P w K mg base CX k f fd ps sp ∧ mg x = some (.ref f) ∧ PySem.W.keepIn K (.ref f) = true ∧ Binds K fd ps []
section
variable {X : Cx} {CX : CXT} {k : Nat} {x : Str} {ps : List Str} {sp : Sp} {e : Expr} {es : List Expr} {t : TA} {p pos : Pos}
theorem pe_c (F : Pr X.prog X.w X.K X.mg X.base CX k x ps sp) (hr : Room k X.A) (hx : Passes CX X E0) (ha : PA X (e :: es) t) (hg : Gl X x := by rfl) (hdb : (x == ("__debug__" : Str)) = false := by decide)
    (he : starEach (e :: es) X.env = (false, eval e X.env) :: starEach es X.env := by rfl) (hpl : (backTo pos (starEach es X.env)).any (·.1) = false := by rfl) : PE X (.Call (.Name x p) (e :: es) [] pos) (tCall sp [] E0 t) := by
  obtain ⟨f, fd, h1, h2, h3, h4⟩ := F.ex
  exact pe_call h1 hr hg h2 h3 h4 .nil hx ha hdb he hpl
/-- a call that may raise -/
theorem pe_cX {W : WX} (F : Pr X.prog X.w X.K X.mg X.base (L2.CX X.prog X.w) k x ps sp) (hr : Room k X.A) (tk : Takes X W) (ha : PA X (e :: es) t) (hg : Gl X x := by rfl) (hdb : (x == ("__debug__" : Str)) = false := by decide)
    (he : starEach (e :: es) X.env = (false, eval e X.env) :: starEach es X.env := by rfl) (hpl : (backTo pos (starEach es X.env)).any (·.1) = false := by rfl) : PE X (.Call (.Name x p) (e :: es) [] pos) (tCallS sp (WE W) t) := by
  obtain ⟨f, fd, h1, h2, h3, h4⟩ := F.ex
  exact pe_callS h1 hr hg h2 h3 h4 (fun σ => passAt tk σ) ha hdb he hpl
theorem pe_gi {i : Int} (h : ∃ t, X.mg x = some (.int i t)) (hg : Gl X x := by rfl) (hd : (x == ("__debug__" : Str)) = false := by decide) : PE X (.Name x pos) (tC (.int i)) := by
  obtain ⟨t, h⟩ := h
  exact pe_glob hg h ⟨t, rfl⟩ hd
theorem pe_gs {z : Str} (h : ∃ t, X.mg x = some (.str z t)) (hg : Gl X x := by rfl) (hd : (x == ("__debug__" : Str)) = false := by decide) : PE X (.Name x pos) (tC (.str z)) := by
  obtain ⟨t, h⟩ := h
  exact pe_glob hg h ⟨t, rfl⟩ hd
end
section
variable {P : Program} {w : World} {K : PySem.W.Frag} {mg : Str → Option Value} {base : Heap} {f : Addr} {fd : FuncData} {nm : Str} {args : Arguments} {body : List Stmt} {sc : Scope} {N ps : List Str} {k : Nat}
abbrev W0 : WX := fun _ _ _ _ => False
/-- a def from which no exception leaves -/
theorem okD {R : List PyData → PyData → Prop} (F : FunD K nm nm args body sc [] [] f fd) (fs : FnScope N ps sc) (t : TS)
    (der : ∀ (cdv : Value) (A : Around) (outer : List PySem.Env) (s : Shared) (H : Hp) (E : XK), Room k (A.deeper (envOfC nm sc s.heap.objs.size f cdv)) → PSs (cxOf CX0 P w K mg base N nm sc f cdv A outer s H E).nox body t)
    (sem : ∀ ds d, R ds d → S W0 t (startR N ds) none { nx := fun _ _ => d = .none, rt := fun d' => d' = d }) : FnOk P w K mg base CX0 (k + 1) f fd ps (SP ps.length R) :=
  F.ok fs (fun vs H Q E ⟨G, ds, d, _, i, hn, _⟩ => by rw [i.length]; exact hn) fun cdv A outer s H vs Q E hr ⟨G, ds, d, sm, i, _, r, q⟩ => by
    refine ⟨t, (der cdv A outer s H E hr).nox, ?_⟩
    refine sem ds d r H G _ (L2.start N vs) H G (Ax.refl sm) (EnvD.start i) trivial (fun σ' H' G' ρ' ow' ax _ _ _ e => ?_) (fun v H' G' d' ax iv e => ?_) (fun _ _ _ _ _ _ _ _ _ _ z => z.elim) (fun _ _ _ _ _ z => z.elim)
    · have e' : d = .none := e
      subst e'
      exact q .non H' G' ax .non
    · have e' : d' = d := e
      subst e'
      exact q v H' G' ax iv
theorem okO {R : List PyData → List PyData → Prop} (F : FunD K nm nm args body sc [] [] f fd) (fs : FnScope N ps sc) (t : TS)
    (der : ∀ (cdv : Value) (A : Around) (outer : List PySem.Env) (s : Shared) (H : Hp) (E : XK), Room k (A.deeper (envOfC nm sc s.heap.objs.size f cdv)) → PSs (cxOf CX0 P w K mg base N nm sc f cdv A outer s H E).nox body t)
    (sem : ∀ ds es, R ds es → S W0 t (startR N ds) none { ro := fun es' => es' = es }) : FnOk P w K mg base CX0 (k + 1) f fd ps (SPo ps.length R) :=
  F.ok fs (fun vs H Q E ⟨G, ds, d, _, i, hn, _⟩ => by rw [i.length]; exact hn) fun cdv A outer s H vs Q E hr ⟨G, ds, es, sm, i, _, r, q⟩ => by
    refine ⟨t, (der cdv A outer s H E hr).nox, ?_⟩
    refine sem ds es r H G _ (L2.start N vs) H G (Ax.refl sm) (EnvD.start i) trivial (fun σ' H' G' ρ' ow' ax _ _ _ e => e.elim) (fun v H' G' d' ax iv e => e.elim) (fun p xs es' H' G' ax h0 g' h' is e => ?_) (fun _ _ _ _ _ z => z.elim)
    have e' : es' = es := e
    subst e'
    exact q p xs H' G' ax h0 g' h' is
abbrev WofE (E : XK) : WX := fun c d _ H => E c d H
/-- a def that may raise -/
theorem okX {R : List PyData → PyData → Prop} {Rx : List PyData → Value → Prop} (F : FunD K nm nm args body sc [] [] f fd) (fs : FnScope N ps sc) (t : WX → TS)
    (der : ∀ (cdv : Value) (A : Around) (outer : List PySem.Env) (s : Shared) (H : Hp) (E : XK), Room k (A.deeper (envOfC nm sc s.heap.objs.size f cdv)) → PSs (cxOf (L2.CX P w) P w K mg base N nm sc f cdv A outer s H E) body (t (WofE E)))
    (sem : ∀ W ds d, R ds d → S W (t W) (startR N ds) none { nx := fun _ _ => d = .none, rt := fun d' => d' = d }) (semx : ∀ W ds c, Rx ds c → S W (t W) (startR N ds) none { rs := fun c' => c' = c }) : FnOk P w K mg base (L2.CX P w) (k + 1) f fd ps (SPX ps.length R Rx) :=
  F.ok fs (fun vs H Q E ⟨G, ds, _, i, hn, _⟩ => by rw [i.length]; exact hn) fun cdv A outer s H vs Q E hr ⟨G, ds, sm, i, _, r⟩ => by
    refine ⟨t (WofE E), der cdv A outer s H E hr, ?_⟩
    rcases r with ⟨d, r, q⟩ | ⟨c, r, q⟩
    · refine sem _ ds d r H G _ (L2.start N vs) H G (Ax.refl sm) (EnvD.start i) trivial (fun σ' H' G' ρ' ow' ax _ _ _ e => ?_) (fun v H' G' d' ax iv e => ?_) (fun _ _ _ _ _ _ _ _ _ _ z => z.elim) (fun _ _ _ _ _ z => z.elim)
      · have e' : d = .none := e
        subst e'
        exact q .non H' G' ax .non
      · have e' : d' = d := e
        subst e'
        exact q v H' G' ax iv
    · refine semx _ ds c r H G _ (L2.start N vs) H G (Ax.refl sm) (EnvD.start i) trivial (fun σ' H' G' ρ' ow' ax _ _ _ e => e.elim) (fun v H' G' d' ax iv e => e.elim) (fun _ _ _ _ _ _ _ _ _ _ z => z.elim) (fun c' σ' H' G' ax e => ?_)
      have e' : c' = c := e
      subst e'
      exact q H' G' ax
end
end Ck

set_option Elab.async false
set_option linter.all false
set_option maxRecDepth 100000
set_option maxHeartbeats 1000000
set_option autoImplicit false
namespace Ck
open PySem PySem.Spec PyProof.Rows L2
def top (i : Nat) : Stmt := PySem.Challenge.pw_cloak_k51_whole_showings_checked.main.body.getD i (.Pass ⟨0, 0, 0, 0⟩)
abbrev FnP (K : PySem.W.Frag) (x : Str) (st : Stmt) (f : Addr) (fd : FuncData) : Prop := FunD K x x (defArgs st) (defBody st) (defScope st) [] [] f fd
abbrev s_coin : Stmt := top 9
abbrev s_challenge : Stmt := top 10
abbrev s_joined_text : Stmt := top 11
abbrev s_challenge_of : Stmt := top 12
abbrev s_raised : Stmt := top 15
abbrev s_is_element : Stmt := top 16
abbrev s_check_element : Stmt := top 17
abbrev s_power : Stmt := top 18
abbrev s_product : Stmt := top 19
abbrev s_product_of_powers : Stmt := top 20
abbrev s_inverse : Stmt := top 21
abbrev s_quotient : Stmt := top 22
abbrev s_setup_of : Stmt := top 23
abbrev s_is_exponent : Stmt := top 25
abbrev s_are_values : Stmt := top 27
abbrev s_check_values : Stmt := top 28
abbrev s_holds : Stmt := top 29
abbrev s_claim_numbers : Stmt := top 30
abbrev s_traces : Stmt := top 31
abbrev s_choice_numbers : Stmt := top 33
abbrev s_has_form : Stmt := top 34
abbrev s_call_of : Stmt := top 35
abbrev s_check_maker : Stmt := top 36
abbrev s_sum_of_others : Stmt := top 37
abbrev s_make_paper : Stmt := top 38
abbrev s_check_paper : Stmt := top 39
abbrev s_is_pair : Stmt := top 43
abbrev s_index_of : Stmt := top 44
abbrev s_check_set : Stmt := top 45
abbrev s_is_exponent2 : Stmt := top 48
abbrev s_check_person : Stmt := top 50
abbrev s_plain_mark : Stmt := top 51
abbrev s_mark_of : Stmt := top 52
abbrev s_check_secret : Stmt := top 54
abbrev s_check_exponents : Stmt := top 55
abbrev s_check_blinding : Stmt := top 56
abbrev s_key_of : Stmt := top 57
abbrev s_offer_of : Stmt := top 58
abbrev s_hidden : Stmt := top 59
abbrev s_challenge_for : Stmt := top 60
abbrev s_request_of : Stmt := top 61
abbrev s_grant_of : Stmt := top 62
abbrev s_is_granted : Stmt := top 63
abbrev s_ticket_of : Stmt := top 64
abbrev s_spend_of : Stmt := top 66
abbrev s_is_spend : Stmt := top 67
abbrev s_inner_challenge : Stmt := top 69
abbrev s_is_ticket : Stmt := top 70
abbrev s_is_gate_name : Stmt := top 75
abbrev s_check_context : Stmt := top 76
abbrev s_stage_numbers : Stmt := top 77
abbrev s_stage_challenge : Stmt := top 78
abbrev s_choice_of : Stmt := top 79
abbrev s_paper_text : Stmt := top 80
abbrev s_make_showing : Stmt := top 81
abbrev s_check_showing : Stmt := top 82
abbrev s_law_row : Stmt := top 84
abbrev s_law_at : Stmt := top 85
abbrev s_law_setup : Stmt := top 86
abbrev s_law_person : Stmt := top 87
abbrev s_law_session : Stmt := top 88
abbrev s_law_pairs : Stmt := top 89
abbrev s_law_noise : Stmt := top 90
abbrev s_law_challenge : Stmt := top 91
abbrev s_law_joined : Stmt := top 92
abbrev s_law_powers : Stmt := top 93
abbrev s_law_inside : Stmt := top 94
abbrev s_law_paper : Stmt := top 95
abbrev s_law_right : Stmt := top 96
abbrev s_law_told : Stmt := top 97
abbrev s_law_changed : Stmt := top 98
abbrev s_law : Stmt := top 99
abbrev n_coin : List Str := ["seed", "n", "text", "value", "sign", "_"]
theorem sc_coin : FnScope n_coin ["seed", "n", "text"] (defScope s_coin) := ⟨rfl, rfl, rfl, by decide +kernel, rfl, by decide +kernel, by decide +kernel⟩
abbrev n_challenge : List Str := ["q", "text"]
theorem sc_challenge : FnScope n_challenge ["q", "text"] (defScope s_challenge) := ⟨rfl, rfl, rfl, by decide +kernel, rfl, by decide +kernel, by decide +kernel⟩
abbrev n_joined_text : List Str := ["word", "numbers", "number"]
theorem sc_joined_text : FnScope n_joined_text ["word", "numbers"] (defScope s_joined_text) := ⟨rfl, rfl, rfl, by decide +kernel, rfl, by decide +kernel, by decide +kernel⟩
abbrev n_challenge_of : List Str := ["q", "word", "numbers"]
theorem sc_challenge_of : FnScope n_challenge_of ["q", "word", "numbers"] (defScope s_challenge_of) := ⟨rfl, rfl, rfl, by decide +kernel, rfl, by decide +kernel, by decide +kernel⟩
abbrev n_raised : List Str := ["base", "exponent", "modulus", "value", "square"]
theorem sc_raised : FnScope n_raised ["base", "exponent", "modulus"] (defScope s_raised) := ⟨rfl, rfl, rfl, by decide +kernel, rfl, by decide +kernel, by decide +kernel⟩
abbrev n_is_element : List Str := ["q", "value"]
theorem sc_is_element : FnScope n_is_element ["q", "value"] (defScope s_is_element) := ⟨rfl, rfl, rfl, by decide +kernel, rfl, by decide +kernel, by decide +kernel⟩
abbrev n_check_element : List Str := ["q", "value"]
theorem sc_check_element : FnScope n_check_element ["q", "value"] (defScope s_check_element) := ⟨rfl, rfl, rfl, by decide +kernel, rfl, by decide +kernel, by decide +kernel⟩
abbrev n_power : List Str := ["q", "base", "exponent"]
theorem sc_power : FnScope n_power ["q", "base", "exponent"] (defScope s_power) := ⟨rfl, rfl, rfl, by decide +kernel, rfl, by decide +kernel, by decide +kernel⟩
abbrev n_product : List Str := ["q", "first", "second"]
theorem sc_product : FnScope n_product ["q", "first", "second"] (defScope s_product) := ⟨rfl, rfl, rfl, by decide +kernel, rfl, by decide +kernel, by decide +kernel⟩
abbrev n_product_of_powers : List Str := ["q", "bases", "exponents", "value", "base", "exponent"]
theorem sc_product_of_powers : FnScope n_product_of_powers ["q", "bases", "exponents"] (defScope s_product_of_powers) := ⟨rfl, rfl, rfl, by decide +kernel, rfl, by decide +kernel, by decide +kernel⟩
abbrev n_inverse : List Str := ["q", "value"]
theorem sc_inverse : FnScope n_inverse ["q", "value"] (defScope s_inverse) := ⟨rfl, rfl, rfl, by decide +kernel, rfl, by decide +kernel, by decide +kernel⟩
abbrev n_quotient : List Str := ["q", "first", "second"]
theorem sc_quotient : FnScope n_quotient ["q", "first", "second"] (defScope s_quotient) := ⟨rfl, rfl, rfl, by decide +kernel, rfl, by decide +kernel, by decide +kernel⟩
abbrev n_setup_of : List Str := ["q", "seed", "at"]
theorem sc_setup_of : FnScope n_setup_of ["q", "seed"] (defScope s_setup_of) := ⟨rfl, rfl, rfl, by decide +kernel, rfl, by decide +kernel, by decide +kernel⟩
abbrev n_is_exponent : List Str := ["q", "number"]
theorem sc_is_exponent : FnScope n_is_exponent ["q", "number"] (defScope s_is_exponent) := ⟨rfl, rfl, rfl, by decide +kernel, rfl, by decide +kernel, by decide +kernel⟩
abbrev n_are_values : List Str := ["q", "claim", "values", "value"]
theorem sc_are_values : FnScope n_are_values ["q", "claim", "values"] (defScope s_are_values) := ⟨rfl, rfl, rfl, by decide +kernel, rfl, by decide +kernel, by decide +kernel⟩
abbrev n_check_values : List Str := ["q", "claim", "values"]
theorem sc_check_values : FnScope n_check_values ["q", "claim", "values"] (defScope s_check_values) := ⟨rfl, rfl, rfl, by decide +kernel, rfl, by decide +kernel, by decide +kernel⟩
abbrev n_holds : List Str := ["q", "claim", "values", "y", "bases"]
theorem sc_holds : FnScope n_holds ["q", "claim", "values"] (defScope s_holds) := ⟨rfl, rfl, rfl, by decide +kernel, rfl, by decide +kernel, by decide +kernel⟩
abbrev n_claim_numbers : List Str := ["claim", "numbers", "y", "bases"]
theorem sc_claim_numbers : FnScope n_claim_numbers ["claim"] (defScope s_claim_numbers) := ⟨rfl, rfl, rfl, by decide +kernel, rfl, by decide +kernel, by decide +kernel⟩
abbrev n_traces : List Str := ["q", "claim", "c", "answers", "found", "y", "bases", "whole"]
theorem sc_traces : FnScope n_traces ["q", "claim", "c", "answers"] (defScope s_traces) := ⟨rfl, rfl, rfl, by decide +kernel, rfl, by decide +kernel, by decide +kernel⟩
abbrev n_choice_numbers : List Str := ["choice", "numbers", "claim"]
theorem sc_choice_numbers : FnScope n_choice_numbers ["choice"] (defScope s_choice_numbers) := ⟨rfl, rfl, rfl, by decide +kernel, rfl, by decide +kernel, by decide +kernel⟩
abbrev n_has_form : List Str := ["q", "choice", "paper", "claim", "pair"]
theorem sc_has_form : FnScope n_has_form ["q", "choice", "paper"] (defScope s_has_form) := ⟨rfl, rfl, rfl, by decide +kernel, rfl, by decide +kernel, by decide +kernel⟩
abbrev n_call_of : List Str := ["q", "text", "choice", "paper", "numbers", "claim", "pair"]
theorem sc_call_of : FnScope n_call_of ["q", "text", "choice", "paper"] (defScope s_call_of) := ⟨rfl, rfl, rfl, by decide +kernel, rfl, by decide +kernel, by decide +kernel⟩
abbrev n_check_maker : List Str := ["q", "choice", "index", "values"]
theorem sc_check_maker : FnScope n_check_maker ["q", "choice", "index", "values"] (defScope s_check_maker) := ⟨rfl, rfl, rfl, by decide +kernel, rfl, by decide +kernel, by decide +kernel⟩
abbrev n_sum_of_others : List Str := ["paper", "index", "at", "pair"]
theorem sc_sum_of_others : FnScope n_sum_of_others ["paper", "index"] (defScope s_sum_of_others) := ⟨rfl, rfl, rfl, by decide +kernel, rfl, by decide +kernel, by decide +kernel⟩
abbrev n_make_paper : List Str := ["q", "text", "choice", "index", "values", "noise", "c", "answers", "n", "x"]
theorem sc_make_paper : FnScope n_make_paper ["q", "text", "choice", "index", "values", "noise"] (defScope s_make_paper) := ⟨rfl, rfl, rfl, by decide +kernel, rfl, by decide +kernel, by decide +kernel⟩
abbrev n_check_paper : List Str := ["q", "text", "choice", "paper"]
theorem sc_check_paper : FnScope n_check_paper ["q", "text", "choice", "paper"] (defScope s_check_paper) := ⟨rfl, rfl, rfl, by decide +kernel, rfl, by decide +kernel, by decide +kernel⟩
abbrev n_is_pair : List Str := ["pair"]
theorem sc_is_pair : FnScope n_is_pair ["pair"] (defScope s_is_pair) := ⟨rfl, rfl, rfl, by decide +kernel, rfl, by decide +kernel, by decide +kernel⟩
abbrev n_index_of : List Str := ["pair"]
theorem sc_index_of : FnScope n_index_of ["pair"] (defScope s_index_of) := ⟨rfl, rfl, rfl, by decide +kernel, rfl, by decide +kernel, by decide +kernel⟩
abbrev n_check_set : List Str := ["pairs", "last", "pair", "index"]
theorem sc_check_set : FnScope n_check_set ["pairs"] (defScope s_check_set) := ⟨rfl, rfl, rfl, by decide +kernel, rfl, by decide +kernel, by decide +kernel⟩
abbrev n_is_exponent2 : List Str := ["q", "value"]
theorem sc_is_exponent2 : FnScope n_is_exponent2 ["q", "value"] (defScope s_is_exponent2) := ⟨rfl, rfl, rfl, by decide +kernel, rfl, by decide +kernel, by decide +kernel⟩
abbrev n_check_person : List Str := ["setup", "person", "number", "age", "zone"]
theorem sc_check_person : FnScope n_check_person ["setup", "person"] (defScope s_check_person) := ⟨rfl, rfl, rfl, by decide +kernel, rfl, by decide +kernel, by decide +kernel⟩
abbrev n_plain_mark : List Str := ["setup", "person", "q", "bases"]
theorem sc_plain_mark : FnScope n_plain_mark ["setup", "person"] (defScope s_plain_mark) := ⟨rfl, rfl, rfl, by decide +kernel, rfl, by decide +kernel, by decide +kernel⟩
abbrev n_mark_of : List Str := ["setup", "person", "mark"]
theorem sc_mark_of : FnScope n_mark_of ["setup", "person"] (defScope s_mark_of) := ⟨rfl, rfl, rfl, by decide +kernel, rfl, by decide +kernel, by decide +kernel⟩
abbrev n_check_secret : List Str := ["setup", "secret"]
theorem sc_check_secret : FnScope n_check_secret ["setup", "secret"] (defScope s_check_secret) := ⟨rfl, rfl, rfl, by decide +kernel, rfl, by decide +kernel, by decide +kernel⟩
abbrev n_check_exponents : List Str := ["setup", "values", "value"]
theorem sc_check_exponents : FnScope n_check_exponents ["setup", "values"] (defScope s_check_exponents) := ⟨rfl, rfl, rfl, by decide +kernel, rfl, by decide +kernel, by decide +kernel⟩
abbrev n_check_blinding : List Str := ["setup", "blinding", "s", "u", "v", "rest"]
theorem sc_check_blinding : FnScope n_check_blinding ["setup", "blinding"] (defScope s_check_blinding) := ⟨rfl, rfl, rfl, by decide +kernel, rfl, by decide +kernel, by decide +kernel⟩
abbrev n_key_of : List Str := ["setup", "secret"]
theorem sc_key_of : FnScope n_key_of ["setup", "secret"] (defScope s_key_of) := ⟨rfl, rfl, rfl, by decide +kernel, rfl, by decide +kernel, by decide +kernel⟩
abbrev n_offer_of : List Str := ["setup", "secret", "person", "w", "mark", "q"]
theorem sc_offer_of : FnScope n_offer_of ["setup", "secret", "person", "w"] (defScope s_offer_of) := ⟨rfl, rfl, rfl, by decide +kernel, rfl, by decide +kernel, by decide +kernel⟩
abbrev n_hidden : List Str := ["setup", "person", "offer", "blinding", "mark", "q", "bases", "z", "a", "b", "s", "u", "v", "rest", "first", "second", "a1", "b1", "value"]
theorem sc_hidden : FnScope n_hidden ["setup", "person", "offer", "blinding"] (defScope s_hidden) := ⟨rfl, rfl, rfl, by decide +kernel, rfl, by decide +kernel, by decide +kernel⟩
abbrev n_challenge_for : List Str := ["q", "numbers"]
theorem sc_challenge_for : FnScope n_challenge_for ["q", "numbers"] (defScope s_challenge_for) := ⟨rfl, rfl, rfl, by decide +kernel, rfl, by decide +kernel, by decide +kernel⟩
abbrev n_request_of : List Str := ["setup", "person", "offer", "blinding", "q", "numbers"]
theorem sc_request_of : FnScope n_request_of ["setup", "person", "offer", "blinding"] (defScope s_request_of) := ⟨rfl, rfl, rfl, by decide +kernel, rfl, by decide +kernel, by decide +kernel⟩
abbrev n_grant_of : List Str := ["setup", "secret", "w", "c"]
theorem sc_grant_of : FnScope n_grant_of ["setup", "secret", "w", "c"] (defScope s_grant_of) := ⟨rfl, rfl, rfl, by decide +kernel, rfl, by decide +kernel, by decide +kernel⟩
abbrev n_is_granted : List Str := ["q", "base", "r", "first", "second", "c"]
theorem sc_is_granted : FnScope n_is_granted ["q", "base", "r", "first", "second", "c"] (defScope s_is_granted) := ⟨rfl, rfl, rfl, by decide +kernel, rfl, by decide +kernel, by decide +kernel⟩
abbrev n_ticket_of : List Str := ["setup", "key", "person", "offer", "blinding", "r", "numbers", "q", "bases", "z", "a", "b", "c"]
theorem sc_ticket_of : FnScope n_ticket_of ["setup", "key", "person", "offer", "blinding", "r"] (defScope s_ticket_of) := ⟨rfl, rfl, rfl, by decide +kernel, rfl, by decide +kernel, by decide +kernel⟩
abbrev n_spend_of : List Str := ["setup", "person", "blinding", "d", "exponents", "scale", "answers", "x", "exponent"]
theorem sc_spend_of : FnScope n_spend_of ["setup", "person", "blinding", "d"] (defScope s_spend_of) := ⟨rfl, rfl, rfl, by decide +kernel, rfl, by decide +kernel, by decide +kernel⟩
abbrev n_is_spend : List Str := ["setup", "ticket", "spend", "q", "bases", "d", "answers", "answer"]
theorem sc_is_spend : FnScope n_is_spend ["setup", "ticket", "spend"] (defScope s_is_spend) := ⟨rfl, rfl, rfl, by decide +kernel, rfl, by decide +kernel, by decide +kernel⟩
abbrev n_inner_challenge : List Str := ["setup", "ticket"]
theorem sc_inner_challenge : FnScope n_inner_challenge ["setup", "ticket"] (defScope s_inner_challenge) := ⟨rfl, rfl, rfl, by decide +kernel, rfl, by decide +kernel, by decide +kernel⟩
abbrev n_is_ticket : List Str := ["setup", "key", "ticket", "q", "bases", "first", "_", "z1", "a1", "b1", "r1", "c1", "value"]
theorem sc_is_ticket : FnScope n_is_ticket ["setup", "key", "ticket"] (defScope s_is_ticket) := ⟨rfl, rfl, rfl, by decide +kernel, rfl, by decide +kernel, by decide +kernel⟩
abbrev n_is_gate_name : List Str := ["text", "sign"]
theorem sc_is_gate_name : FnScope n_is_gate_name ["text"] (defScope s_is_gate_name) := ⟨rfl, rfl, rfl, by decide +kernel, rfl, by decide +kernel, by decide +kernel⟩
abbrev n_check_context : List Str := ["context", "gate", "moment"]
theorem sc_check_context : FnScope n_check_context ["context"] (defScope s_check_context) := ⟨rfl, rfl, rfl, by decide +kernel, rfl, by decide +kernel, by decide +kernel⟩
abbrev n_stage_numbers : List Str := ["context", "pairs", "pair"]
theorem sc_stage_numbers : FnScope n_stage_numbers ["context", "pairs"] (defScope s_stage_numbers) := ⟨rfl, rfl, rfl, by decide +kernel, rfl, by decide +kernel, by decide +kernel⟩
abbrev n_stage_challenge : List Str := ["setup", "context", "pairs", "numbers"]
theorem sc_stage_challenge : FnScope n_stage_challenge ["setup", "context", "pairs"] (defScope s_stage_challenge) := ⟨rfl, rfl, rfl, by decide +kernel, rfl, by decide +kernel, by decide +kernel⟩
abbrev n_choice_of : List Str := ["setup", "ticket", "pairs", "q", "bases", "claims", "age", "zone", "base"]
theorem sc_choice_of : FnScope n_choice_of ["setup", "ticket", "pairs"] (defScope s_choice_of) := ⟨rfl, rfl, rfl, by decide +kernel, rfl, by decide +kernel, by decide +kernel⟩
abbrev n_paper_text : List Str := ["context", "pairs", "ticket", "spend", "numbers"]
theorem sc_paper_text : FnScope n_paper_text ["context", "pairs", "ticket", "spend"] (defScope s_paper_text) := ⟨rfl, rfl, rfl, by decide +kernel, rfl, by decide +kernel, by decide +kernel⟩
abbrev n_make_showing : List Str := ["setup", "person", "ticket", "blinding", "context", "pairs", "noise", "d", "spend", "choice", "values", "text", "paper"]
theorem sc_make_showing : FnScope n_make_showing ["setup", "person", "ticket", "blinding", "context", "pairs", "noise"] (defScope s_make_showing) := ⟨rfl, rfl, rfl, by decide +kernel, rfl, by decide +kernel, by decide +kernel⟩
abbrev n_check_showing : List Str := ["setup", "key", "context", "pairs", "showing", "d", "ticket", "spend", "paper", "text"]
theorem sc_check_showing : FnScope n_check_showing ["setup", "key", "context", "pairs", "showing"] (defScope s_check_showing) := ⟨rfl, rfl, rfl, by decide +kernel, rfl, by decide +kernel, by decide +kernel⟩
abbrev n_law_row : List Str := ["_law_script", "_law_row_here", "_law_k", "_law_cell", "_law_turn", "_law_mixed"]
theorem sc_law_row : FnScope n_law_row ["_law_script"] (defScope s_law_row) := ⟨rfl, rfl, rfl, by decide +kernel, rfl, by decide +kernel, by decide +kernel⟩
abbrev n_law_at : List Str := ["_law_row_here", "_law_at_here"]
theorem sc_law_at : FnScope n_law_at ["_law_row_here", "_law_at_here"] (defScope s_law_at) := ⟨rfl, rfl, rfl, by decide +kernel, rfl, by decide +kernel, by decide +kernel⟩
abbrev n_law_setup : List Str := ["_law_row_here", "_law_q"]
theorem sc_law_setup : FnScope n_law_setup ["_law_row_here"] (defScope s_law_setup) := ⟨rfl, rfl, rfl, by decide +kernel, rfl, by decide +kernel, by decide +kernel⟩
abbrev n_law_person : List Str := ["_law_setup_here", "_law_row_here", "_law_at_here", "_law_person_here", "_law_k"]
theorem sc_law_person : FnScope n_law_person ["_law_setup_here", "_law_row_here", "_law_at_here"] (defScope s_law_person) := ⟨rfl, rfl, rfl, by decide +kernel, rfl, by decide +kernel, by decide +kernel⟩
abbrev n_law_session : List Str := ["_law_setup_here", "_law_secret", "_law_person_here", "_law_row_here", "_law_at_here", "_law_q", "_law_draws", "_law_rest", "_law_blinding", "_law_w", "_law_offer", "_law_c", "_law_r", "_law_ticket", "_law_k"]
theorem sc_law_session : FnScope n_law_session ["_law_setup_here", "_law_secret", "_law_person_here", "_law_row_here", "_law_at_here"] (defScope s_law_session) := ⟨rfl, rfl, rfl, by decide +kernel, rfl, by decide +kernel, by decide +kernel⟩
abbrev n_law_pairs : List Str := ["_law_row_here", "_law_at_here", "_law_person_here", "_law_pairs_here", "_law_index"]
theorem sc_law_pairs : FnScope n_law_pairs ["_law_row_here", "_law_at_here", "_law_person_here"] (defScope s_law_pairs) := ⟨rfl, rfl, rfl, by decide +kernel, rfl, by decide +kernel, by decide +kernel⟩
abbrev n_law_noise : List Str := ["_law_q", "_law_pairs_here", "_law_own", "_law_row_here", "_law_at_here", "_law_noise_here", "_law_k", "_law_c"]
theorem sc_law_noise : FnScope n_law_noise ["_law_q", "_law_pairs_here", "_law_own", "_law_row_here", "_law_at_here"] (defScope s_law_noise) := ⟨rfl, rfl, rfl, by decide +kernel, rfl, by decide +kernel, by decide +kernel⟩
abbrev n_law_challenge : List Str := ["_law_q", "_law_text", "_law_h", "_law_sign", "_law_turn"]
theorem sc_law_challenge : FnScope n_law_challenge ["_law_q", "_law_text"] (defScope s_law_challenge) := ⟨rfl, rfl, rfl, by decide +kernel, rfl, by decide +kernel, by decide +kernel⟩
abbrev n_law_joined : List Str := ["_law_word", "_law_numbers", "_law_number"]
theorem sc_law_joined : FnScope n_law_joined ["_law_word", "_law_numbers"] (defScope s_law_joined) := ⟨rfl, rfl, rfl, by decide +kernel, rfl, by decide +kernel, by decide +kernel⟩
abbrev n_law_powers : List Str := ["_law_p", "_law_bases", "_law_exponents", "_law_value", "_law_k", "_law_turn"]
theorem sc_law_powers : FnScope n_law_powers ["_law_p", "_law_bases", "_law_exponents"] (defScope s_law_powers) := ⟨rfl, rfl, rfl, by decide +kernel, rfl, by decide +kernel, by decide +kernel⟩
abbrev n_law_inside : List Str := ["_law_q", "_law_p", "_law_ticket", "_law_spend", "_law_paper_here", "_law_squares", "_law_c", "_law_answers", "_law_x", "_law_value"]
theorem sc_law_inside : FnScope n_law_inside ["_law_q", "_law_p", "_law_ticket", "_law_spend", "_law_paper_here"] (defScope s_law_inside) := ⟨rfl, rfl, rfl, by decide +kernel, rfl, by decide +kernel, by decide +kernel⟩
abbrev n_law_paper : List Str := ["_law_setup_here", "_law_p", "_law_context", "_law_pairs_here", "_law_ticket", "_law_spend", "_law_paper_here", "_law_q", "_law_stage", "_law_text", "_law_numbers", "_law_seen", "_law_k", "_law_base", "_law_c", "_law_answers", "_law_left", "_law_call", "_law_pair"]
theorem sc_law_paper : FnScope n_law_paper ["_law_setup_here", "_law_p", "_law_context", "_law_pairs_here", "_law_ticket", "_law_spend", "_law_paper_here"] (defScope s_law_paper) := ⟨rfl, rfl, rfl, by decide +kernel, rfl, by decide +kernel, by decide +kernel⟩
abbrev n_law_right : List Str := ["_law_setup_here", "_law_key", "_law_context", "_law_pairs_here", "_law_showing", "_law_q", "_law_bases", "_law_p", "_law_ticket", "_law_spend", "_law_paper_here", "_law_stage", "_law_c", "_law_pair"]
theorem sc_law_right : FnScope n_law_right ["_law_setup_here", "_law_key", "_law_context", "_law_pairs_here", "_law_showing"] (defScope s_law_right) := ⟨rfl, rfl, rfl, by decide +kernel, rfl, by decide +kernel, by decide +kernel⟩
abbrev n_law_told : List Str := ["_law_setup_here", "_law_key", "_law_context", "_law_pairs_here", "_law_showing", "why"]
theorem sc_law_told : FnScope n_law_told ["_law_setup_here", "_law_key", "_law_context", "_law_pairs_here", "_law_showing"] (defScope s_law_told) := ⟨rfl, rfl, rfl, by decide +kernel, rfl, by decide +kernel, by decide +kernel⟩
abbrev n_law_changed : List Str := ["_law_showing", "_law_number", "_law_q", "_law_ticket", "_law_spend", "_law_paper_here", "_law_at_here", "_law_step", "_law_answers", "_law_pairs_here", "_law_which", "_law_pair"]
theorem sc_law_changed : FnScope n_law_changed ["_law_showing", "_law_number", "_law_q"] (defScope s_law_changed) := ⟨rfl, rfl, rfl, by decide +kernel, rfl, by decide +kernel, by decide +kernel⟩
abbrev n_law : List Str := ["_law_script", "_law_row_here", "_law_setup_here", "_law_q", "_law_secret", "_law_person_here", "_law_ticket", "_law_blinding", "_law_record", "_law_pairs_here", "_law_context", "_law_noise_here", "_law_showing", "_law_key", "_law_other", "_law_moved", "_law_fewer", "_law_k", "_law_changed_here", "_law_due", "_law_one", "_law_cut"]
theorem sc_law : FnScope n_law ["_law_script"] (defScope s_law) := ⟨rfl, rfl, rfl, by decide +kernel, rfl, by decide +kernel, by decide +kernel⟩
/-- what the top has left: the defs, the constants, the two errors that are raised, the built-ins untouched -/
structure Wd (K : PySem.W.Frag) (mg : Str → Option Value) (CN CB : Addr) : Prop where
  d_coin : ∃ (f : Addr) (fd : FuncData), FnP K "coin" s_coin f fd ∧ mg "coin" = some (.ref f)
  d_challenge : ∃ (f : Addr) (fd : FuncData), FnP K "challenge" s_challenge f fd ∧ mg "challenge" = some (.ref f)
  d_joined_text : ∃ (f : Addr) (fd : FuncData), FnP K "joined_text" s_joined_text f fd ∧ mg "joined_text" = some (.ref f)
  d_challenge_of : ∃ (f : Addr) (fd : FuncData), FnP K "challenge_of" s_challenge_of f fd ∧ mg "challenge_of" = some (.ref f)
  d_raised : ∃ (f : Addr) (fd : FuncData), FnP K "raised" s_raised f fd ∧ mg "raised" = some (.ref f)
  d_is_element : ∃ (f : Addr) (fd : FuncData), FnP K "is_element" s_is_element f fd ∧ mg "is_element" = some (.ref f)
  d_check_element : ∃ (f : Addr) (fd : FuncData), FnP K "check_element" s_check_element f fd ∧ mg "check_element" = some (.ref f)
  d_power : ∃ (f : Addr) (fd : FuncData), FnP K "power" s_power f fd ∧ mg "power" = some (.ref f)
  d_product : ∃ (f : Addr) (fd : FuncData), FnP K "product" s_product f fd ∧ mg "product" = some (.ref f)
  d_product_of_powers : ∃ (f : Addr) (fd : FuncData), FnP K "product_of_powers" s_product_of_powers f fd ∧ mg "product_of_powers" = some (.ref f)
  d_inverse : ∃ (f : Addr) (fd : FuncData), FnP K "inverse" s_inverse f fd ∧ mg "inverse" = some (.ref f)
  d_quotient : ∃ (f : Addr) (fd : FuncData), FnP K "quotient" s_quotient f fd ∧ mg "quotient" = some (.ref f)
  d_setup_of : ∃ (f : Addr) (fd : FuncData), FnP K "setup_of" s_setup_of f fd ∧ mg "setup_of" = some (.ref f)
  d_is_exponent : ∃ (f : Addr) (fd : FuncData), FnP K "is_exponent" s_is_exponent f fd ∧ mg "is_exponent_claims" = some (.ref f)
  d_are_values : ∃ (f : Addr) (fd : FuncData), FnP K "are_values" s_are_values f fd ∧ mg "are_values" = some (.ref f)
  d_check_values : ∃ (f : Addr) (fd : FuncData), FnP K "check_values" s_check_values f fd ∧ mg "check_values" = some (.ref f)
  d_holds : ∃ (f : Addr) (fd : FuncData), FnP K "holds" s_holds f fd ∧ mg "holds" = some (.ref f)
  d_claim_numbers : ∃ (f : Addr) (fd : FuncData), FnP K "claim_numbers" s_claim_numbers f fd ∧ mg "claim_numbers" = some (.ref f)
  d_traces : ∃ (f : Addr) (fd : FuncData), FnP K "traces" s_traces f fd ∧ mg "traces" = some (.ref f)
  d_choice_numbers : ∃ (f : Addr) (fd : FuncData), FnP K "choice_numbers" s_choice_numbers f fd ∧ mg "choice_numbers" = some (.ref f)
  d_has_form : ∃ (f : Addr) (fd : FuncData), FnP K "has_form" s_has_form f fd ∧ mg "has_form" = some (.ref f)
  d_call_of : ∃ (f : Addr) (fd : FuncData), FnP K "call_of" s_call_of f fd ∧ mg "call_of" = some (.ref f)
  d_check_maker : ∃ (f : Addr) (fd : FuncData), FnP K "check_maker" s_check_maker f fd ∧ mg "check_maker" = some (.ref f)
  d_sum_of_others : ∃ (f : Addr) (fd : FuncData), FnP K "sum_of_others" s_sum_of_others f fd ∧ mg "sum_of_others" = some (.ref f)
  d_make_paper : ∃ (f : Addr) (fd : FuncData), FnP K "make_paper" s_make_paper f fd ∧ mg "make_paper" = some (.ref f)
  d_check_paper : ∃ (f : Addr) (fd : FuncData), FnP K "check_paper" s_check_paper f fd ∧ mg "check_paper" = some (.ref f)
  d_is_pair : ∃ (f : Addr) (fd : FuncData), FnP K "is_pair" s_is_pair f fd ∧ mg "is_pair" = some (.ref f)
  d_index_of : ∃ (f : Addr) (fd : FuncData), FnP K "index_of" s_index_of f fd ∧ mg "index_of" = some (.ref f)
  d_check_set : ∃ (f : Addr) (fd : FuncData), FnP K "check_set" s_check_set f fd ∧ mg "check_set" = some (.ref f)
  d_is_exponent2 : ∃ (f : Addr) (fd : FuncData), FnP K "is_exponent" s_is_exponent2 f fd ∧ mg "is_exponent_passes" = some (.ref f)
  d_check_person : ∃ (f : Addr) (fd : FuncData), FnP K "check_person" s_check_person f fd ∧ mg "check_person" = some (.ref f)
  d_plain_mark : ∃ (f : Addr) (fd : FuncData), FnP K "plain_mark" s_plain_mark f fd ∧ mg "plain_mark" = some (.ref f)
  d_mark_of : ∃ (f : Addr) (fd : FuncData), FnP K "mark_of" s_mark_of f fd ∧ mg "mark_of" = some (.ref f)
  d_check_secret : ∃ (f : Addr) (fd : FuncData), FnP K "check_secret" s_check_secret f fd ∧ mg "check_secret" = some (.ref f)
  d_check_exponents : ∃ (f : Addr) (fd : FuncData), FnP K "check_exponents" s_check_exponents f fd ∧ mg "check_exponents" = some (.ref f)
  d_check_blinding : ∃ (f : Addr) (fd : FuncData), FnP K "check_blinding" s_check_blinding f fd ∧ mg "check_blinding" = some (.ref f)
  d_key_of : ∃ (f : Addr) (fd : FuncData), FnP K "key_of" s_key_of f fd ∧ mg "key_of" = some (.ref f)
  d_offer_of : ∃ (f : Addr) (fd : FuncData), FnP K "offer_of" s_offer_of f fd ∧ mg "offer_of" = some (.ref f)
  d_hidden : ∃ (f : Addr) (fd : FuncData), FnP K "hidden" s_hidden f fd ∧ mg "hidden" = some (.ref f)
  d_challenge_for : ∃ (f : Addr) (fd : FuncData), FnP K "challenge_for" s_challenge_for f fd ∧ mg "challenge_for" = some (.ref f)
  d_request_of : ∃ (f : Addr) (fd : FuncData), FnP K "request_of" s_request_of f fd ∧ mg "request_of" = some (.ref f)
  d_grant_of : ∃ (f : Addr) (fd : FuncData), FnP K "grant_of" s_grant_of f fd ∧ mg "grant_of" = some (.ref f)
  d_is_granted : ∃ (f : Addr) (fd : FuncData), FnP K "is_granted" s_is_granted f fd ∧ mg "is_granted" = some (.ref f)
  d_ticket_of : ∃ (f : Addr) (fd : FuncData), FnP K "ticket_of" s_ticket_of f fd ∧ mg "ticket_of" = some (.ref f)
  d_spend_of : ∃ (f : Addr) (fd : FuncData), FnP K "spend_of" s_spend_of f fd ∧ mg "spend_of" = some (.ref f)
  d_is_spend : ∃ (f : Addr) (fd : FuncData), FnP K "is_spend" s_is_spend f fd ∧ mg "is_spend" = some (.ref f)
  d_inner_challenge : ∃ (f : Addr) (fd : FuncData), FnP K "inner_challenge" s_inner_challenge f fd ∧ mg "inner_challenge" = some (.ref f)
  d_is_ticket : ∃ (f : Addr) (fd : FuncData), FnP K "is_ticket" s_is_ticket f fd ∧ mg "is_ticket" = some (.ref f)
  d_is_gate_name : ∃ (f : Addr) (fd : FuncData), FnP K "is_gate_name" s_is_gate_name f fd ∧ mg "is_gate_name" = some (.ref f)
  d_check_context : ∃ (f : Addr) (fd : FuncData), FnP K "check_context" s_check_context f fd ∧ mg "check_context" = some (.ref f)
  d_stage_numbers : ∃ (f : Addr) (fd : FuncData), FnP K "stage_numbers" s_stage_numbers f fd ∧ mg "stage_numbers" = some (.ref f)
  d_stage_challenge : ∃ (f : Addr) (fd : FuncData), FnP K "stage_challenge" s_stage_challenge f fd ∧ mg "stage_challenge" = some (.ref f)
  d_choice_of : ∃ (f : Addr) (fd : FuncData), FnP K "choice_of" s_choice_of f fd ∧ mg "choice_of" = some (.ref f)
  d_paper_text : ∃ (f : Addr) (fd : FuncData), FnP K "paper_text" s_paper_text f fd ∧ mg "paper_text" = some (.ref f)
  d_make_showing : ∃ (f : Addr) (fd : FuncData), FnP K "make_showing" s_make_showing f fd ∧ mg "make_showing" = some (.ref f)
  d_check_showing : ∃ (f : Addr) (fd : FuncData), FnP K "check_showing" s_check_showing f fd ∧ mg "check_showing" = some (.ref f)
  d_law_row : ∃ (f : Addr) (fd : FuncData), FnP K "_law_row" s_law_row f fd ∧ mg "_law_row" = some (.ref f)
  d_law_at : ∃ (f : Addr) (fd : FuncData), FnP K "_law_at" s_law_at f fd ∧ mg "_law_at" = some (.ref f)
  d_law_setup : ∃ (f : Addr) (fd : FuncData), FnP K "_law_setup" s_law_setup f fd ∧ mg "_law_setup" = some (.ref f)
  d_law_person : ∃ (f : Addr) (fd : FuncData), FnP K "_law_person" s_law_person f fd ∧ mg "_law_person" = some (.ref f)
  d_law_session : ∃ (f : Addr) (fd : FuncData), FnP K "_law_session" s_law_session f fd ∧ mg "_law_session" = some (.ref f)
  d_law_pairs : ∃ (f : Addr) (fd : FuncData), FnP K "_law_pairs" s_law_pairs f fd ∧ mg "_law_pairs" = some (.ref f)
  d_law_noise : ∃ (f : Addr) (fd : FuncData), FnP K "_law_noise" s_law_noise f fd ∧ mg "_law_noise" = some (.ref f)
  d_law_challenge : ∃ (f : Addr) (fd : FuncData), FnP K "_law_challenge" s_law_challenge f fd ∧ mg "_law_challenge" = some (.ref f)
  d_law_joined : ∃ (f : Addr) (fd : FuncData), FnP K "_law_joined" s_law_joined f fd ∧ mg "_law_joined" = some (.ref f)
  d_law_powers : ∃ (f : Addr) (fd : FuncData), FnP K "_law_powers" s_law_powers f fd ∧ mg "_law_powers" = some (.ref f)
  d_law_inside : ∃ (f : Addr) (fd : FuncData), FnP K "_law_inside" s_law_inside f fd ∧ mg "_law_inside" = some (.ref f)
  d_law_paper : ∃ (f : Addr) (fd : FuncData), FnP K "_law_paper" s_law_paper f fd ∧ mg "_law_paper" = some (.ref f)
  d_law_right : ∃ (f : Addr) (fd : FuncData), FnP K "_law_right" s_law_right f fd ∧ mg "_law_right" = some (.ref f)
  d_law_told : ∃ (f : Addr) (fd : FuncData), FnP K "_law_told" s_law_told f fd ∧ mg "_law_told" = some (.ref f)
  d_law_changed : ∃ (f : Addr) (fd : FuncData), FnP K "_law_changed" s_law_changed f fd ∧ mg "_law_changed" = some (.ref f)
  d_law : ∃ (f : Addr) (fd : FuncData), FnP K "law" s_law f fd ∧ mg "law" = some (.ref f)
  f_len : mg "len" = none
  f_str : mg "str" = none
  f_ord : mg "ord" = none
  f_all : mg "all" = none
  f_tuple : mg "tuple" = none
  f_list : mg "list" = none
  f_zip : mg "zip" = none
  f_range : mg "range" = none
  f_int : mg "int" = none
  f_abs : mg "abs" = none
  f_sum : mg "sum" = none
  f_enumerate : mg "enumerate" = none
  f_isinstance : mg "isinstance" = none
  c_MODULUS : ∃ t, mg "MODULUS" = some (.int 2147483647 t)
  c_SIDES : ∃ t, mg "SIDES" = some (.int 1000000 t)
  c_BASES : ∃ t, mg "BASES" = some (.int 5 t)
  c_AGES : ∃ t, mg "AGES" = some (.int 5 t)
  c_ZONES : ∃ t, mg "ZONES" = some (.int 5 t)
  c_GREATEST : ∃ t, mg "GREATEST" = some (.int 4 t)
  c_MAX_GATE : ∃ t, mg "MAX_GATE" = some (.int 6 t)
  c_MAX_MOMENT : ∃ t, mg "MAX_MOMENT" = some (.int 999999 t)
  c_SMALL : ∃ t, mg "SMALL" = some (.str "abcdefghijklmnopqrstuvwxyz" t)
  gN : mg "NotAllowed" = some (.ref CN)
  xN : PySem.W.excIn K CN He.veBase "ValueError.__new__" = true
  kN : PySem.W.keepIn K (.ref CN) = true
  bN : PySem.W.subIn K (.ref CN) (.type "BaseException") = some true
  tN : PySem.W.typeIn K (.ref CN) = some (.type "type")
  gB : mg "BadPaper" = some (.ref CB)
  xB : PySem.W.excIn K CB He.veBase "ValueError.__new__" = true
  kB : PySem.W.keepIn K (.ref CB) = true
  bB : PySem.W.subIn K (.ref CB) (.type "BaseException") = some true
  tB : PySem.W.typeIn K (.ref CB) = some (.type "type")
  mNN : PySem.W.exmOne K (.ref CN) (.ref CN) = some true
  mNB : PySem.W.exmOne K (.ref CN) (.ref CB) = some false
  mBB : PySem.W.exmOne K (.ref CB) (.ref CB) = some true
  isB : ExcC K CB
  isC : ∃ (CC : Addr), mg "CloakError" = some (.ref CC) ∧ PySem.W.kitOne K (.ref CB) (.ref CC) = some true
  isF : ∃ (CF : Addr), mg "BadForm" = some (.ref CF) ∧ PySem.W.kitAny K (.ref CB) [.ref CF, .ref CN] = some false
theorem bt_len : bootBuiltins "len" = some (.builtin "len") := by decide +kernel
theorem bt_ord : bootBuiltins "ord" = some (.builtin "ord") := by decide +kernel
theorem bt_all : bootBuiltins "all" = some (.builtin "all") := by decide +kernel
theorem bt_abs : bootBuiltins "abs" = some (.builtin "abs") := by decide +kernel
theorem bt_sum : bootBuiltins "sum" = some (.builtin "sum") := by decide +kernel
theorem bt_isinstance : bootBuiltins "isinstance" = some (.builtin "isinstance") := by decide +kernel
theorem bt_str : bootBuiltins "str" = some (.type "str") := by decide +kernel
theorem bt_tuple : bootBuiltins "tuple" = some (.type "tuple") := by decide +kernel
theorem bt_list : bootBuiltins "list" = some (.type "list") := by decide +kernel
theorem bt_int : bootBuiltins "int" = some (.type "int") := by decide +kernel
theorem room65 {k : Nat} {A : Around} (r : Room k A) : A.units + 65 < cLine := by
  have := r.un
  omega
end Ck

set_option Elab.async false
set_option linter.all false
set_option maxRecDepth 100000
set_option maxHeartbeats 1000000
set_option autoImplicit false
/-! # Coins and texts: what is reckoned -/
namespace Ck
open PySem PySem.Spec PyProof.Rows L2
local macro_rules | `(tactic| walk_at "ev1") => `(tactic| first
  | ((with_reducible apply e_var); exact rfl)
  | with_reducible exact e_int
  | with_reducible exact e_str
  | with_reducible exact e_bl
  | with_reducible exact e_non
  | with_reducible apply e_op
  | with_reducible exact o_add
  | with_reducible exact o_sub
  | with_reducible apply o_mul
  | with_reducible apply o_mod
  | with_reducible apply o_div
  | with_reducible exact o_lt
  | with_reducible exact o_le
  | with_reducible exact o_gt
  | with_reducible exact o_ge
  | with_reducible exact o_eqI
  | with_reducible exact o_neI
  | with_reducible exact o_eqS
  | with_reducible exact o_neS
  | ((with_reducible apply o_ixT); exact rfl)
  | ((with_reducible apply o_ixL); exact rfl)
  | with_reducible exact a_nil
  | with_reducible apply a_cons
  | with_reducible apply e_tup
  | with_reducible apply e_lst
  | with_reducible apply e_cb
  | with_reducible exact c_int
  | with_reducible exact c_intB
  | with_reducible exact c_abs
  | with_reducible exact c_ord
  | with_reducible exact c_lenL
  | with_reducible exact c_lenT
  | with_reducible exact c_listT
  | with_reducible exact c_tupL
  | with_reducible exact c_tupT
  | with_reducible exact c_all
  | with_reducible exact c_sum
  | with_reducible apply e_sl
  | with_reducible exact p_none
  | with_reducible apply p_some
  | with_reducible exact s_tup
  | with_reducible exact s_lst
  | ((with_reducible show CaD (cList _) _ _); first | exact c_listT | exact c_listL)
  | ((with_reducible show CaD (cTuple _) _ _); first | exact c_tupL | exact c_tupT)
  | with_reducible apply e_neg
  | with_reducible apply o_catL
  | with_reducible apply o_catT
  | with_reducible apply o_catS
  | with_reducible apply t_test
  | with_reducible apply t_b
  | with_reducible apply t_not)
local macro_rules | `(tactic| walk_at "ev") => `(tactic| repeat' walk_at "ev1")
local macro_rules | `(tactic| walk_at "side") => `(tactic| all_goals (try (first | rfl | omega)))
local macro_rules | `(tactic| walk_at "set") => `(tactic| (apply s_set; walk_at "ev"; walk_at "side"))
local macro_rules | `(tactic| walk_at "qset") => `(tactic| (apply q_set; walk_at "ev"; walk_at "side"))
local macro_rules | `(tactic| walk_at "ret") => `(tactic| (apply s_ret; walk_at "ev"; walk_at "side"))
/-! ### coins -/
def coinS (v : Int) (c : Nat) : Int := (v * 263 + (c : Int) + 1) % 2147483647
def coin1 (v : Int) : Int := (v * 48271 + 12345) % 2147483647
def coinT (h : Int) (t : Str) : Int := coin1 (coin1 (coin1 (t.cps.toList.foldl coinS h))) / 1000 % 1000000
def coinV (seed n : Int) (t : Str) : Int := coinT ((seed * 31 + n * 1009 + 11) % 2147483647) t
def chal (q : Int) (t : Str) : Int := 1 + coinV 0 q t % (q - 1)
theorem chal_range {q : Int} {t : Str} (h : 2 ≤ q) : 1 ≤ chal q t ∧ chal q t < q := by
  have h1 := Int.emod_nonneg (coinV 0 q t) (show q - 1 ≠ 0 by omega)
  have h2 := Int.emod_lt_of_pos (coinV 0 q t) (show 0 < q - 1 by omega)
  unfold chal
  omega
def R_coin : List PyData → PyData → Prop := fun ds d => ∃ (seed n : Int) (t : Str), ds = [.int seed, .int n, .str t] ∧ d = .int (coinV seed n t)
def t_coin (K : PySem.W.Frag) (CN CB : Addr) : TS := (tSeq (tAsg (tOp oMod (tOp oAdd (tOp oAdd (tOp oMul (tVar 0) (tC (.int 31))) (tOp oMul (tVar 1) (tC (.int 1009)))) (tC (.int 11))) (tC (.int 2147483647))) (gName 3))
  (tSeq (tFor (iStr (tVar 2)) (gName 4) (tAsg (tOp oMod (tOp oAdd (tOp oAdd (tOp oMul (tVar 3) (tC (.int 263))) (tCB cOrd (tCons (tVar 4) tNil))) (tC (.int 1))) (tC (.int 2147483647))) (gName 3)))
  (tSeq (tFor (iRng1 (tCons (tC (.int 3)) tNil)) (gName 5) (tAsg (tOp oMod (tOp oAdd (tOp oMul (tVar 3) (tC (.int 48271))) (tC (.int 12345))) (tC (.int 2147483647))) (gName 3)))
  (tRet (tOp oMod (tOp oDiv (tVar 3) (tC (.int 1000))) (tC (.int 1000000)))))))
theorem signsD_at {t : Str} {i : Nat} {d : PyData} (h : (signsD t)[i]? = some d) : ∃ c, t.cps.toList[i]? = some c ∧ d = .str ⟨#[c]⟩ := by
  unfold signsD at h
  rw [List.getElem?_map] at h
  cases e : t.cps.toList[i]? with
  | none => rw [e] at h; cases h
  | some c =>
    rw [e] at h
    exact ⟨c, rfl, (Option.some.inj h).symm⟩
theorem foldl_take {α β : Type} (f : β → α → β) (b : β) {l : List α} {i : Nat} {x : α} (h : l[i]? = some x) : (l.take (i + 1)).foldl f b = f ((l.take i).foldl f b) x := by
  rw [List.take_add_one, h, List.foldl_append]
  rfl
theorem rngD_mem {lo : Int} {n i : Nat} {d : PyData} (h : (rngD lo n)[i]? = some d) : i < n ∧ d = .int (lo + (i : Nat)) := by
  have hi : i < n := by
    have := (List.getElem?_eq_some_iff.mp h).1
    rwa [rngD_length] at this
  rw [rngD_at hi] at h
  exact ⟨hi, (Option.some.inj h).symm⟩
theorem sem_coin {K : PySem.W.Frag} {CN CB : Addr} (ds : List PyData) (d : PyData) (h : R_coin ds d) : S W0 (t_coin K CN CB) (startR n_coin ds) none { nx := fun _ _ => d = .none, rt := fun d' => d' = d } := by
  obtain ⟨seed, n, t, rfl, rfl⟩ := h
  show S W0 _ [some (.int seed), some (.int n), some (.str t), none, none, none] none _
  walk_at "qset"
  refine s_seq (s_for (w_str (e_var rfl)) (fun i ρ ow => ow = none ∧ ∃ x4, ρ = [some (.int seed), some (.int n), some (.str t), some (.int ((t.cps.toList.take i).foldl coinS ((seed * 31 + n * 1009 + 11) % 2147483647))), x4, none])
    ⟨rfl, none, rfl⟩ ?_ ?_)
  · rintro i d ρ1 w1 hd ⟨rfl, x4, rfl⟩
    obtain ⟨c, hc, rfl⟩ := signsD_at hd
    refine ⟨_, _, g_name, rfl, ?_⟩
    walk_at "set"
    refine ⟨rfl, some (.str ⟨#[c]⟩), ?_⟩
    rw [foldl_take _ _ hc]
    rfl
  · rintro ρ' w' ⟨rfl, x4, rfl⟩
    have hl : t.cps.toList.take (signsD t).length = t.cps.toList := by
      rw [show (signsD t).length = t.cps.toList.length by simp [signsD], List.take_length]
    rw [hl]
    refine s_seq (s_for (ds := rngD 0 3) (w_rng1 (n := 3) (by walk_at "ev") (by decide)) (fun i ρ ow => ow = none ∧ ∃ x5, ρ = [some (.int seed), some (.int n), some (.str t), some (.int (Nat.rec (t.cps.toList.foldl coinS ((seed * 31 + n * 1009 + 11) % 2147483647)) (fun _ v => coin1 v) i)), x4, x5])
      ⟨rfl, none, rfl⟩ ?_ ?_)
    · rintro i d ρ1 w1 hd ⟨rfl, x5, rfl⟩
      refine ⟨_, _, g_name, rfl, ?_⟩
      walk_at "set"
      exact ⟨rfl, some d, rfl⟩
    · rintro ρ' w' ⟨rfl, x5, rfl⟩
      walk_at "ret"
theorem der_coin {P : Program} {w : World} {K : PySem.W.Frag} {mg : Str → Option Value} {base : Heap} {CN CB : Addr} {f : Addr} (h : Wd K mg CN CB) (cdv : Value) (A : Around) (outer : List PySem.Env) (s : Shared) (H : Hp) (E : XK) (hr : Room 0 (A.deeper (envOfC "coin" (defScope s_coin) s.heap.objs.size f cdv))) :
    PSs ((cxOf CX0 P w K mg base n_coin "coin" (defScope s_coin) f cdv A outer s H E).nox) (defBody s_coin) (t_coin K CN CB) :=
  (pss_cons (ps_set (i := 3) sc_coin.nd rfl (by first | exact Or.inl rfl | exact Or.inr rfl) (pe_op op_mod (pe_op op_add (pe_op op_add (pe_op op_mul (pv 0) pe_int) (pe_op op_mul (pv 1) pe_int)) pe_int) (pe_gi h.c_MODULUS)))
  (pss_cons (ps_for PassesOwn.never rfl (pi_str (pv 2)) (pg_name (i := 4) sc_coin.nd rfl (by first | exact Or.inl rfl | exact Or.inr rfl)) (pss_one (ps_set (i := 3) sc_coin.nd rfl (by first | exact Or.inl rfl | exact Or.inr rfl) (pe_op op_mod (pe_op op_add (pe_op op_add (pe_op op_mul (pv 3) pe_int) (pe_callB call_ord (by rfl) h.f_ord bt_ord (pa_cons (pv 4) pa_nil))) pe_int) (pe_gi h.c_MODULUS)))))
  (pss_cons (ps_for PassesOwn.never rfl (pi_range1 (by rfl) h.f_range (pa_cons pe_int pa_nil)) (pg_name (i := 5) sc_coin.nd rfl (by first | exact Or.inl rfl | exact Or.inr rfl)) (pss_one (ps_set (i := 3) sc_coin.nd rfl (by first | exact Or.inl rfl | exact Or.inr rfl) (pe_op op_mod (pe_op op_add (pe_op op_mul (pv 3) pe_int) pe_int) (pe_gi h.c_MODULUS)))))
  (pss_one (ps_ret (pe_op op_mod (pe_op op_fdiv (pv 3) pe_int) (pe_gi h.c_SIDES)))))))
theorem pr_coin {P : Program} {w : World} {K : PySem.W.Frag} {mg : Str → Option Value} {base : Heap} {CN CB : Addr} (h : Wd K mg CN CB) : Pr P w K mg base CX0 1 "coin" ["seed", "n", "text"] (SP 3 R_coin) := by
  obtain ⟨f, fd, F, g⟩ := h.d_coin
  exact ⟨f, fd, okD F sc_coin (t_coin K CN CB) (der_coin h) (sem_coin (CN := CN) (CB := CB)), g, F.kp, F.bindsN fun _ _ _ _ _ _ us hl => match us, hl with | [_, _, _], _ => rfl⟩
theorem c_coin {ρ : Ev} {ta : TA} {seed n : Int} {t : Str} (h : A ta ρ [.int seed, .int n, .str t]) : E (tCall (SP 3 R_coin) [] E0 ta) ρ (.int (coinV seed n t)) := e_call h rfl ⟨_, _, _, rfl, rfl⟩
def R_challenge : List PyData → PyData → Prop := fun ds d => ∃ (q : Int) (t : Str), ds = [.int q, .str t] ∧ 2 ≤ q ∧ d = .int (chal q t)
def t_challenge (K : PySem.W.Frag) (CN CB : Addr) : TS := (tRet (tOp oAdd (tC (.int 1)) (tOp oMod (tCall (SP 3 R_coin) [] E0 (tCons (tC (.int 0)) (tCons (tVar 0) (tCons (tVar 1) tNil)))) (tOp oSub (tVar 0) (tC (.int 1))))))
local macro_rules | `(tactic| walk_at "ev1") => `(tactic| with_reducible apply c_coin)
theorem sem_challenge {K : PySem.W.Frag} {CN CB : Addr} (ds : List PyData) (d : PyData) (h : R_challenge ds d) : S W0 (t_challenge K CN CB) (startR n_challenge ds) none { nx := fun _ _ => d = .none, rt := fun d' => d' = d } := by
  obtain ⟨q, t, rfl, hq, rfl⟩ := h
  show S W0 _ [some (.int q), some (.str t)] none _
  walk_at "ret"
theorem der_challenge {P : Program} {w : World} {K : PySem.W.Frag} {mg : Str → Option Value} {base : Heap} {CN CB : Addr} {f : Addr} (h : Wd K mg CN CB) (cdv : Value) (A : Around) (outer : List PySem.Env) (s : Shared) (H : Hp) (E : XK) (hr : Room 1 (A.deeper (envOfC "challenge" (defScope s_challenge) s.heap.objs.size f cdv))) :
    PSs ((cxOf CX0 P w K mg base n_challenge "challenge" (defScope s_challenge) f cdv A outer s H E).nox) (defBody s_challenge) (t_challenge K CN CB) :=
  (pss_one (ps_ret (pe_op op_add pe_int (pe_op op_mod (pe_c (pr_coin h) hr pass0 (pa_cons pe_int (pa_cons (pv 0) (pa_cons (pv 1) pa_nil)))) (pe_op op_sub (pv 0) pe_int)))))
theorem pr_challenge {P : Program} {w : World} {K : PySem.W.Frag} {mg : Str → Option Value} {base : Heap} {CN CB : Addr} (h : Wd K mg CN CB) : Pr P w K mg base CX0 2 "challenge" ["q", "text"] (SP 2 R_challenge) := by
  obtain ⟨f, fd, F, g⟩ := h.d_challenge
  exact ⟨f, fd, okD F sc_challenge (t_challenge K CN CB) (der_challenge h) (sem_challenge (CN := CN) (CB := CB)), g, F.kp, F.bindsN fun _ _ _ _ _ _ us hl => match us, hl with | [_, _], _ => rfl⟩
theorem c_challenge {ρ : Ev} {ta : TA} {q : Int} {t : Str} (h : A ta ρ [.int q, .str t]) (hq : 2 ≤ q) : E (tCall (SP 2 R_challenge) [] E0 ta) ρ (.int (chal q t)) := e_call h rfl ⟨_, _, rfl, hq, rfl⟩
/-! ### joined texts -/
def strI (n : Int) : Str := PySem.Str.ofString (toString n)
def joinV (w : Str) (ns : List Int) : Str := Txt.join " " (w :: ns.map strI)
/-- small numbers -/
def Small (ns : List Int) : Prop := ∀ n ∈ ns, 0 ≤ n ∧ n < 10000000
theorem strI_len {n : Int} (h0 : 0 ≤ n) (h1 : n < 10000000) : (strI n).length ≤ 10 := PySem.W.KT.len_num h0 (by omega)
theorem sum_len : ∀ {ns : List Int}, Small ns → ((ns.map strI).map (·.length)).sum ≤ 10 * ns.length
  | [], _ => by simp
  | n :: ns, h => by
    have ih := sum_len (ns := ns) fun m hm => h m (List.mem_cons_of_mem _ hm)
    have h1 := h n List.mem_cons_self
    have h2 := strI_len h1.1 h1.2
    simp only [List.map_cons, List.sum_cons, List.length_cons] at ih ⊢
    omega
theorem joinV_len {w : Str} {ns : List Int} (h : Small ns) : (joinV w ns).length ≤ w.length + 11 * ns.length := by
  unfold joinV
  have e : (Txt.join " " (w :: ns.map strI)).length = ((w :: ns.map strI).map (·.length)).sum + ((w :: ns.map strI).length - 1) * (PySem.Str.ofString " ").length := size_glued _ _
  have s := sum_len h
  rw [e]
  simp only [List.map_cons, List.sum_cons, List.length_cons, List.length_map] at s ⊢
  have o : (PySem.Str.ofString " ").length = 1 := by decide
  rw [o]
  omega
theorem log_small {n : Int} (h0 : 0 ≤ n) (h1 : n < 10000000) : n.natAbs.log2 < 1920 := by
  by_cases h : n.natAbs = 0
  · rw [h]
    decide
  · have := (Nat.log2_lt h (k := 24)).mpr (by omega)
    omega
def R_joined_text : List PyData → PyData → Prop := fun ds d => ∃ (w : Str) (ns : List Int), ds = [.str w, .list (dI ns)] ∧ w.length ≤ 10000 ∧ ns.length ≤ 1000 ∧ Small ns ∧ d = .str (joinV w ns)
def t_joined_text (K : PySem.W.Frag) (CN CB : Addr) : TS := (tRet (tJoin K (tC (.str " ")) (tOp rCat (tLst (tCons (tVar 0) tNil)) (tLc (iList K (tVar 1)) (gName 2) tYes (tCB cStr (tCons (tVar 2) tNil)) [2]))))
theorem dI_at {ns : List Int} {i : Nat} {d : PyData} (h : (dI ns)[i]? = some d) : ∃ n, ns[i]? = some n ∧ d = .int n := by
  unfold dI at h
  rw [List.getElem?_map] at h
  cases e : ns[i]? with
  | none => rw [e] at h; cases h
  | some c =>
    rw [e] at h
    exact ⟨c, rfl, (Option.some.inj h).symm⟩
theorem dI_len (ns : List Int) : (dI ns).length = ns.length := by simp [dI]
theorem at_map {α β : Type} {l : List α} {f : α → β} {i : Nat} {a : α} (h : l[i]? = some a) : (l.map f)[i]? = some (f a) := by rw [List.getElem?_map, h]; rfl
/-- [str(n) for n in ns] -/
theorem e_strs {K : PySem.W.Frag} {ρ : Ev} {k j : Nat} {ns : List Int} (h1 : ρ[k]? = some (some (.list (dI ns)))) (hs : Small ns) (hl : ns.length ≤ 1000) (hj : j < ρ.length) : E (tLc (iList K (tVar k)) (gName j) tYes (tCB cStr (tCons (tVar j) tNil)) [j]) ρ (.list (dS (ns.map strI))) := by
  refine e_lcM (w_list (e_var h1)) (dS (ns.map strI)) (by simp [dS, dI]) (by rw [dI_len]; omega) fun i d hd => ?_
  obtain ⟨n, hn, rfl⟩ := dI_at hd
  have hm := hs n (List.mem_of_getElem? hn)
  refine ⟨_, _, .str (strI n), g_name, fun j hj => hj, e_cb (a_cons (e_var ?_) a_nil) (c_str (log_small hm.1 hm.2)), ?_⟩
  · show ((ρ.set j none).set j (some (.int n)))[j]? = _
    rw [List.getElem?_set_self (by simpa using hj)]
  · unfold dS
    exact at_map (at_map hn)
theorem join_fits {w : Str} {ns : List Int} (hw : w.length ≤ 10000) (hl : ns.length ≤ 1000) (hs : Small ns) : ((w :: ns.map strI).map (·.length)).sum + (w :: ns.map strI).length * (PySem.Str.ofString " ").length ≤ 16777216 := by
  have s := sum_len hs
  have o : (PySem.Str.ofString " ").length = 1 := by decide
  rw [o]
  simp only [List.map_cons, List.sum_cons, List.length_cons, List.length_map] at s ⊢
  omega
theorem sem_joined_text {K : PySem.W.Frag} {CN CB : Addr} (ds : List PyData) (d : PyData) (h : R_joined_text ds d) : S W0 (t_joined_text K CN CB) (startR n_joined_text ds) none { nx := fun _ _ => d = .none, rt := fun d' => d' = d } := by
  obtain ⟨w, ns, rfl, hw, hl, hs, rfl⟩ := h
  show S W0 _ [some (.str w), some (.list (dI ns)), none] none _
  refine s_ret (e_join (ys := w :: ns.map strI) e_str (e_op (e_lst (a_cons (e_var rfl) a_nil) (by simp)) (e_strs rfl hs hl (by simp)) (o_catL ?_)) (join_fits hw hl hs)) rfl
  have : (dS (ns.map strI)).length ≤ 1000 := by simpa [dS] using hl
  exact sz_ok (by simp only [List.length_cons, List.length_nil]; omega)
theorem der_joined_text {P : Program} {w : World} {K : PySem.W.Frag} {mg : Str → Option Value} {base : Heap} {CN CB : Addr} {f : Addr} (h : Wd K mg CN CB) (cdv : Value) (A : Around) (outer : List PySem.Env) (s : Shared) (H : Hp) (E : XK) (hr : Room 0 (A.deeper (envOfC "joined_text" (defScope s_joined_text) s.heap.objs.size f cdv))) :
    PSs ((cxOf CX0 P w K mg base n_joined_text "joined_text" (defScope s_joined_text) f cdv A outer s H E).nox) (defBody s_joined_text) (t_joined_text K CN CB) :=
  (pss_one (ps_ret (pe_join pe_str (pe_op op_cat (pe_lst (pa_cons (pv 0) pa_nil)) (pe_lc (own := [("number", 2)]) rfl sc_joined_text.nd (pi_list (pv 1)) (blkOk_by (own := [("number", 2)]) (N := n_joined_text) (sc := defScope s_joined_text) (by decide +kernel)) (fun _ _ _ _ _ => (pg_name (i := 2) sc_joined_text.nd rfl (by first | exact Or.inl rfl | exact Or.inr rfl))) (fun _ _ _ _ _ => pts_nil) (fun _ _ _ _ _ => (pe_callTy call_str_int (by rfl) h.f_str bt_str (pa_cons (pv 2) pa_nil))))))))
theorem pr_joined_text {P : Program} {w : World} {K : PySem.W.Frag} {mg : Str → Option Value} {base : Heap} {CN CB : Addr} (h : Wd K mg CN CB) : Pr P w K mg base CX0 1 "joined_text" ["word", "numbers"] (SP 2 R_joined_text) := by
  obtain ⟨f, fd, F, g⟩ := h.d_joined_text
  exact ⟨f, fd, okD F sc_joined_text (t_joined_text K CN CB) (der_joined_text h) (sem_joined_text (CN := CN) (CB := CB)), g, F.kp, F.bindsN fun _ _ _ _ _ _ us hl => match us, hl with | [_, _], _ => rfl⟩
theorem c_joined_text {ρ : Ev} {ta : TA} {w : Str} {ns : List Int} (h : A ta ρ [.str w, .list (dI ns)]) (hw : w.length ≤ 10000) (hl : ns.length ≤ 1000) (hs : Small ns) : E (tCall (SP 2 R_joined_text) [] E0 ta) ρ (.str (joinV w ns)) := e_call h rfl ⟨_, _, rfl, hw, hl, hs, rfl⟩
def R_challenge_of : List PyData → PyData → Prop := fun ds d => ∃ (q : Int) (w : Str) (ns : List Int), ds = [.int q, .str w, .list (dI ns)] ∧ 2 ≤ q ∧ w.length ≤ 10000 ∧ ns.length ≤ 1000 ∧ Small ns ∧ d = .int (chal q (joinV w ns))
def t_challenge_of (K : PySem.W.Frag) (CN CB : Addr) : TS := (tRet (tCall (SP 2 R_challenge) [] E0 (tCons (tVar 0) (tCons (tCall (SP 2 R_joined_text) [] E0 (tCons (tVar 1) (tCons (tVar 2) tNil))) tNil))))
theorem sem_challenge_of {K : PySem.W.Frag} {CN CB : Addr} (ds : List PyData) (d : PyData) (h : R_challenge_of ds d) : S W0 (t_challenge_of K CN CB) (startR n_challenge_of ds) none { nx := fun _ _ => d = .none, rt := fun d' => d' = d } := by
  obtain ⟨q, w, ns, rfl, hq, hw, hl, hs, rfl⟩ := h
  show S W0 _ [some (.int q), some (.str w), some (.list (dI ns))] none _
  exact s_ret (c_challenge (a_cons (e_var rfl) (a_cons (c_joined_text (by walk_at "ev") hw hl hs) a_nil)) hq) rfl
theorem der_challenge_of {P : Program} {w : World} {K : PySem.W.Frag} {mg : Str → Option Value} {base : Heap} {CN CB : Addr} {f : Addr} (h : Wd K mg CN CB) (cdv : Value) (A : Around) (outer : List PySem.Env) (s : Shared) (H : Hp) (E : XK) (hr : Room 2 (A.deeper (envOfC "challenge_of" (defScope s_challenge_of) s.heap.objs.size f cdv))) :
    PSs ((cxOf CX0 P w K mg base n_challenge_of "challenge_of" (defScope s_challenge_of) f cdv A outer s H E).nox) (defBody s_challenge_of) (t_challenge_of K CN CB) :=
  (pss_one (ps_ret (pe_c (pr_challenge h) hr pass0 (pa_cons (pv 0) (pa_cons (pe_c (pr_joined_text h) (hr.mono (by decide)) pass0 (pa_cons (pv 1) (pa_cons (pv 2) pa_nil))) pa_nil)))))
theorem pr_challenge_of {P : Program} {w : World} {K : PySem.W.Frag} {mg : Str → Option Value} {base : Heap} {CN CB : Addr} (h : Wd K mg CN CB) : Pr P w K mg base CX0 3 "challenge_of" ["q", "word", "numbers"] (SP 3 R_challenge_of) := by
  obtain ⟨f, fd, F, g⟩ := h.d_challenge_of
  exact ⟨f, fd, okD F sc_challenge_of (t_challenge_of K CN CB) (der_challenge_of h) (sem_challenge_of (CN := CN) (CB := CB)), g, F.kp, F.bindsN fun _ _ _ _ _ _ us hl => match us, hl with | [_, _, _], _ => rfl⟩
theorem c_challenge_of {ρ : Ev} {ta : TA} {q : Int} {w : Str} {ns : List Int} (h : A ta ρ [.int q, .str w, .list (dI ns)]) (hq : 2 ≤ q) (hw : w.length ≤ 10000) (hl : ns.length ≤ 1000) (hs : Small ns) : E (tCall (SP 3 R_challenge_of) [] E0 ta) ρ (.int (chal q (joinV w ns))) := e_call h rfl ⟨_, _, _, rfl, hq, hw, hl, hs, rfl⟩
end Ck

/-! # Plain arithmetic: powers by a modulus, the eight orders -/
set_option autoImplicit false
namespace Ck
theorem mul_mod_l (a b m : Int) : a % m * b % m = a * b % m := by rw [Int.mul_emod, Int.emod_emod, ← Int.mul_emod]
theorem mul_mod_r (a b m : Int) : a * (b % m) % m = a * b % m := by rw [Int.mul_emod, Int.emod_emod, ← Int.mul_emod]
theorem pow_mod (a m : Int) : ∀ k : Nat, (a % m) ^ k % m = a ^ k % m
  | 0 => by simp
  | k + 1 => by rw [Int.pow_succ, Int.pow_succ, Int.mul_emod, pow_mod a m k, Int.emod_emod, ← Int.mul_emod]
theorem pow_two_mul (s : Int) (k : Nat) : (s * s) ^ k = s ^ (2 * k) := by
  induction k with
  | zero => simp
  | succ k ih => rw [Int.pow_succ, ih, show 2 * (k + 1) = 2 * k + 1 + 1 by omega, Int.pow_succ, Int.pow_succ, Int.mul_assoc]
/-- b ** e by the modulus m, e not below 0 -/
def rs (b e m : Int) : Int := b ^ e.toNat % m
theorem rs_range {b e m : Int} (h : 2 ≤ m) : 0 ≤ rs b e m ∧ rs b e m < m := ⟨Int.emod_nonneg _ (by omega), Int.emod_lt_of_pos _ (by omega)⟩
/-- one turn of squaring: what is left over stays -/
theorem square_odd {v s e m : Int} (h0 : 0 < e) (h1 : e % 2 = 1) : (v * s % m) * (s * s % m) ^ (e / 2).toNat % m = v * s ^ e.toNat % m := by
  have he : e.toNat = 2 * (e / 2).toNat + 1 := by omega
  rw [mul_mod_l, ← mul_mod_r, pow_mod, mul_mod_r, pow_two_mul, he, Int.pow_succ, Int.mul_assoc, Int.mul_comm s]
theorem square_even {v s e m : Int} (h0 : 0 < e) (h1 : ¬ e % 2 = 1) : v * (s * s % m) ^ (e / 2).toNat % m = v * s ^ e.toNat % m := by
  have he : e.toNat = 2 * (e / 2).toNat := by omega
  rw [← mul_mod_r, pow_mod, mul_mod_r, pow_two_mul, he]
/-! ### elements of the order q -/
def isEl (q v : Int) : Bool := (decide (0 < v) && decide (v < 2 * q + 1)) && decide (rs v q (2 * q + 1) = 1)
def pw (q b e : Int) : Int := rs b (e % q) (2 * q + 1)
def pops (q : Int) (bs es : List Int) : Int := (bs.zip es).foldl (fun v x => v * pw q x.1 x.2 % (2 * q + 1)) 1
def quo (q f s : Int) : Int := f * rs s (q - 2) q % q
/-- the orders' bounds -/
def Bd (q : Int) : Prop := 11 ≤ q ∧ q ≤ 1013
theorem pw_range {q b e : Int} (h : Bd q) : 0 ≤ pw q b e ∧ pw q b e < 2 * q + 1 := rs_range (by unfold Bd at h; omega)
theorem isEl_range {q v : Int} (h : isEl q v = true) : 0 < v ∧ v < 2 * q + 1 := by
  unfold isEl at h
  simp only [Bool.and_eq_true, decide_eq_true_eq] at h
  exact h.1
theorem isEl_pow {q v : Int} (h : isEl q v = true) : v ^ q.toNat % (2 * q + 1) = 1 := by
  unfold isEl at h
  simp only [Bool.and_eq_true, decide_eq_true_eq] at h
  exact h.2
theorem isEl_of {q v : Int} (h1 : 0 < v) (h2 : v < 2 * q + 1) (h3 : v ^ q.toNat % (2 * q + 1) = 1) : isEl q v = true := by
  unfold isEl
  simp only [Bool.and_eq_true, decide_eq_true_eq]
  exact ⟨⟨h1, h2⟩, h3⟩
theorem pops_range {q : Int} (h : Bd q) (l : List (Int × Int)) : ∀ v : Int, 0 ≤ v ∧ v < 2 * q + 1 → 0 ≤ l.foldl (fun v x => v * pw q x.1 x.2 % (2 * q + 1)) v ∧ l.foldl (fun v x => v * pw q x.1 x.2 % (2 * q + 1)) v < 2 * q + 1 := by
  unfold Bd at h
  induction l with
  | nil => intro v hv; exact hv
  | cons x l ih => intro v hv; exact ih _ ⟨Int.emod_nonneg _ (by omega), Int.emod_lt_of_pos _ (by omega)⟩
end Ck
namespace Ck
/-! ### elements: closed under products and powers -/
theorem pow_pow_swap (b : Int) (n k : Nat) : (b ^ n) ^ k = (b ^ k) ^ n := by rw [← Int.pow_mul, ← Int.pow_mul, Nat.mul_comm]
theorem one_pow' (k : Nat) : (1 : Int) ^ k = 1 := by
  induction k with
  | zero => rfl
  | succ k ih => rw [Int.pow_succ, ih]; rfl
theorem mul_pow' (a b : Int) (k : Nat) : (a * b) ^ k = a ^ k * b ^ k := by
  induction k with
  | zero => simp
  | succ k ih => rw [Int.pow_succ, Int.pow_succ, Int.pow_succ, ih, Int.mul_assoc, Int.mul_assoc, Int.mul_left_comm (b ^ k)]
theorem el_mod {q v : Int} (hq : Bd q) (h : v ^ q.toNat % (2 * q + 1) = 1) : isEl q (v % (2 * q + 1)) = true := by
  have hq' := hq
  unfold Bd at hq'
  have n0 := Int.emod_nonneg v (show 2 * q + 1 ≠ 0 by omega)
  have n1 := Int.emod_lt_of_pos v (show 0 < 2 * q + 1 by omega)
  have e : (v % (2 * q + 1)) ^ q.toNat % (2 * q + 1) = 1 := by rw [pow_mod, h]
  refine isEl_of ?_ n1 e
  by_cases z : v % (2 * q + 1) = 0
  · rw [z] at e
    have hq1 : q.toNat = (q.toNat - 1) + 1 := by omega
    rw [hq1, Int.pow_succ, Int.mul_zero, Int.zero_emod] at e
    cases e
  · omega
theorem el_mul {q a b : Int} (hq : Bd q) (ha : isEl q a = true) (hb : isEl q b = true) : isEl q (a * b % (2 * q + 1)) = true := by
  refine el_mod hq ?_
  unfold Bd at hq
  rw [mul_pow', Int.mul_emod, isEl_pow ha, isEl_pow hb]
  exact Int.emod_eq_of_lt (by decide) (by omega)
theorem el_pow {q b : Int} (hq : Bd q) (hb : isEl q b = true) (n : Nat) : isEl q (b ^ n % (2 * q + 1)) = true := by
  refine el_mod hq ?_
  unfold Bd at hq
  rw [pow_pow_swap, ← pow_mod, isEl_pow hb, one_pow']
  exact Int.emod_eq_of_lt (by decide) (by omega)
theorem el_rs {q b e : Int} (hq : Bd q) (hb : isEl q b = true) : isEl q (rs b e (2 * q + 1)) = true := el_pow hq hb _
theorem el_pw {q b e : Int} (hq : Bd q) (hb : isEl q b = true) : isEl q (pw q b e) = true := el_pow hq hb _
theorem el_one {q : Int} (hq : Bd q) : isEl q 1 = true := by
  have e := hq
  unfold Bd at e
  exact isEl_of (by decide) (by omega) (by rw [one_pow']; exact Int.emod_eq_of_lt (by decide) (by omega))
theorem el_fold {q : Int} (hq : Bd q) : ∀ (l : List (Int × Int)) (v : Int), (∀ x ∈ l, isEl q x.1 = true) → isEl q v = true → isEl q (l.foldl (fun v x => v * pw q x.1 x.2 % (2 * q + 1)) v) = true
  | [], v, _, hv => hv
  | x :: l, v, h, hv => el_fold hq l _ (fun y hy => h y (List.mem_cons_of_mem _ hy)) (el_mul hq hv (el_pw hq (h x List.mem_cons_self)))
theorem el_pops {q : Int} {bs es : List Int} (hq : Bd q) (h : ∀ b ∈ bs, isEl q b = true) : isEl q (pops q bs es) = true := by
  refine el_fold hq _ 1 (fun x hx => h x.1 ?_) (el_one hq)
  obtain ⟨a, b⟩ := x
  exact (List.of_mem_zip hx).1
end Ck

set_option Elab.async false
set_option linter.all false
set_option maxRecDepth 100000
set_option maxHeartbeats 1000000
set_option autoImplicit false
/-! # Groups -/
namespace Ck
open PySem PySem.Spec PyProof.Rows L2
local macro_rules | `(tactic| walk_at "ev1") => `(tactic| first
  | ((with_reducible apply e_var); exact rfl)
  | with_reducible exact e_int
  | with_reducible exact e_str
  | with_reducible exact e_bl
  | with_reducible exact e_non
  | with_reducible apply e_op
  | with_reducible exact o_add
  | with_reducible exact o_sub
  | with_reducible apply o_mul
  | with_reducible apply o_mod
  | with_reducible apply o_div
  | with_reducible exact o_lt
  | with_reducible exact o_le
  | with_reducible exact o_gt
  | with_reducible exact o_ge
  | with_reducible exact o_eqI
  | with_reducible exact o_neI
  | with_reducible exact o_eqS
  | with_reducible exact o_neS
  | ((with_reducible apply o_ixT); exact rfl)
  | ((with_reducible apply o_ixL); exact rfl)
  | with_reducible exact a_nil
  | with_reducible apply a_cons
  | with_reducible apply e_tup
  | with_reducible apply e_lst
  | with_reducible apply e_cb
  | with_reducible exact c_int
  | with_reducible exact c_intB
  | with_reducible exact c_abs
  | with_reducible exact c_ord
  | with_reducible exact c_lenL
  | with_reducible exact c_lenT
  | with_reducible exact c_listT
  | with_reducible exact c_tupL
  | with_reducible exact c_tupT
  | with_reducible exact c_all
  | with_reducible exact c_sum
  | with_reducible apply e_sl
  | with_reducible exact p_none
  | with_reducible apply p_some
  | with_reducible exact s_tup
  | with_reducible exact s_lst
  | ((with_reducible show CaD (cList _) _ _); first | exact c_listT | exact c_listL)
  | ((with_reducible show CaD (cTuple _) _ _); first | exact c_tupL | exact c_tupT)
  | with_reducible apply e_neg
  | with_reducible apply o_catL
  | with_reducible apply o_catT
  | with_reducible apply o_catS
  | with_reducible apply t_test
  | with_reducible apply t_b
  | with_reducible apply t_not)
local macro_rules | `(tactic| walk_at "ev") => `(tactic| repeat' walk_at "ev1")
local macro_rules | `(tactic| walk_at "side") => `(tactic| all_goals (try (first | rfl | omega)))
local macro_rules | `(tactic| walk_at "set") => `(tactic| (apply s_set; walk_at "ev"; walk_at "side"))
local macro_rules | `(tactic| walk_at "qset") => `(tactic| (apply q_set; walk_at "ev"; walk_at "side"))
local macro_rules | `(tactic| walk_at "ret") => `(tactic| (apply s_ret; walk_at "ev"; walk_at "side"))
local macro_rules | `(tactic| walk_at "ev1") => `(tactic| with_reducible apply c_coin)
local macro_rules | `(tactic| walk_at "ev1") => `(tactic| with_reducible apply c_challenge)
def R_raised : List PyData → PyData → Prop := fun ds d => ∃ b e m : Int, ds = [.int b, .int e, .int m] ∧ 0 ≤ e ∧ 2 ≤ m ∧ m < 1073741824 ∧ d = .int (rs b e m)
def t_raised (K : PySem.W.Frag) (CN CB : Addr) : TS := (tSeq (tAsg (tC (.int 1)) (gName 3))
  (tSeq (tAsg (tOp oMod (tVar 0) (tVar 2)) (gName 4))
  (tSeq (tWhile (tTest (tOp oGt (tVar 1) (tC (.int 0)))) (tSeq (tIfS (tTest (tOp rEq (tOp oMod (tVar 1) (tC (.int 2))) (tC (.int 1)))) (tAsg (tOp oMod (tOp oMul (tVar 3) (tVar 4)) (tVar 2)) (gName 3)) tNext)
  (tSeq (tAsg (tOp oMod (tOp oMul (tVar 4) (tVar 4)) (tVar 2)) (gName 4))
  (tAug 1 (tC (.int 2)) oDiv))))
  (tRet (tVar 3)))))
theorem sem_raised {K : PySem.W.Frag} {CN CB : Addr} (ds : List PyData) (d : PyData) (h : R_raised ds d) : S W0 (t_raised K CN CB) (startR n_raised ds) none { nx := fun _ _ => d = .none, rt := fun d' => d' = d } := by
  obtain ⟨b, e, m, rfl, he, hm, hm2, rfl⟩ := h
  show S W0 _ [some (.int b), some (.int e), some (.int m), none, none] none _
  walk_at "qset"
  walk_at "qset"
  refine s_seq (s_while (fun k ρ ow => ow = none ∧ ∃ e1 v s : Int, ρ = [some (.int b), some (.int e1), some (.int m), some (.int v), some (.int s)] ∧ 0 ≤ e1 ∧ k = e1.toNat ∧ (0 ≤ v ∧ v < m) ∧ (0 ≤ s ∧ s < m) ∧ v * s ^ e1.toNat % m = rs b e m) e.toNat
    ⟨rfl, e, 1, b % m, rfl, he, rfl, by omega, ⟨Int.emod_nonneg _ (by omega), Int.emod_lt_of_pos _ (by omega)⟩, by rw [Int.one_mul, pow_mod]; rfl⟩ ?_)
  rintro k ρ1 w1 ⟨rfl, e1, v, s, rfl, h0, rfl, hv, hs, hi⟩
  refine ⟨decide (0 < e1), by walk_at "ev", fun hb => ?_, fun hb => ?_⟩
  · have hp : 0 < e1 := of_decide_eq_true hb
    have s2 : 0 ≤ s * s % m ∧ s * s % m < m := ⟨Int.emod_nonneg _ (by omega), Int.emod_lt_of_pos _ (by omega)⟩
    have v2 : 0 ≤ v * s % m ∧ v * s % m < m := ⟨Int.emod_nonneg _ (by omega), Int.emod_lt_of_pos _ (by omega)⟩
    refine q_if (b := decide (e1 % 2 = 1)) (by walk_at "ev" <;> omega) (fun hc => ?_) (fun hc => ?_)
    · have hc' : e1 % 2 = 1 := of_decide_eq_true hc
      walk_at "set"
      show S W0 _ _ _ _
      walk_at "qset"
      refine s_aug rfl e_int (o_div (by decide)) rfl ⟨(e1 / 2).toNat, by omega, rfl, e1 / 2, _, _, rfl, by omega, rfl, v2, s2, ?_⟩
      rw [square_odd hp hc', hi]
    · have hc' : ¬ e1 % 2 = 1 := of_decide_eq_false hc
      refine s_next ?_
      show S W0 _ _ _ _
      walk_at "qset"
      refine s_aug rfl e_int (o_div (by decide)) rfl ⟨(e1 / 2).toNat, by omega, rfl, e1 / 2, _, _, rfl, by omega, rfl, hv, s2, ?_⟩
      rw [square_even hp hc', hi]
  · have hp : ¬ 0 < e1 := of_decide_eq_false hb
    have z : e1.toNat = 0 := by omega
    rw [z, Int.pow_zero, Int.mul_one, Int.emod_eq_of_lt hv.1 hv.2] at hi
    subst hi
    show S W0 _ _ _ _
    walk_at "ret"
theorem der_raised {P : Program} {w : World} {K : PySem.W.Frag} {mg : Str → Option Value} {base : Heap} {CN CB : Addr} {f : Addr} (h : Wd K mg CN CB) (cdv : Value) (A : Around) (outer : List PySem.Env) (s : Shared) (H : Hp) (E : XK) (hr : Room 0 (A.deeper (envOfC "raised" (defScope s_raised) s.heap.objs.size f cdv))) :
    PSs ((cxOf CX0 P w K mg base n_raised "raised" (defScope s_raised) f cdv A outer s H E).nox) (defBody s_raised) (t_raised K CN CB) :=
  (pss_cons (ps_set (i := 3) sc_raised.nd rfl (by first | exact Or.inl rfl | exact Or.inr rfl) pe_int)
  (pss_cons (ps_set (i := 4) sc_raised.nd rfl (by first | exact Or.inl rfl | exact Or.inr rfl) (pe_op op_mod (pv 0) (pv 2)))
  (pss_cons (ps_while PassesOwn.never (pt_cmpR op_gt (pv 1) pe_int (nomark _)) (pss_cons (ps_if (pt_cmpR op_eq (pe_op op_mod (pv 1) pe_int) pe_int (nomark _)) (pss_one (ps_set (i := 3) sc_raised.nd rfl (by first | exact Or.inl rfl | exact Or.inr rfl) (pe_op op_mod (pe_op op_mul (pv 3) (pv 4)) (pv 2)))) pss_nil)
  (pss_cons (ps_set (i := 4) sc_raised.nd rfl (by first | exact Or.inl rfl | exact Or.inr rfl) (pe_op op_mod (pe_op op_mul (pv 4) (pv 4)) (pv 2)))
  (pss_one (ps_aug (i := 1) sc_raised.nd rfl (Or.inl rfl) pe_int iop_fdiv)))))
  (pss_one (ps_ret (pv 3))))))
theorem pr_raised {P : Program} {w : World} {K : PySem.W.Frag} {mg : Str → Option Value} {base : Heap} {CN CB : Addr} (h : Wd K mg CN CB) : Pr P w K mg base CX0 1 "raised" ["base", "exponent", "modulus"] (SP 3 R_raised) := by
  obtain ⟨f, fd, F, g⟩ := h.d_raised
  exact ⟨f, fd, okD F sc_raised (t_raised K CN CB) (der_raised h) (sem_raised (CN := CN) (CB := CB)), g, F.kp, F.bindsN fun _ _ _ _ _ _ us hl => match us, hl with | [_, _, _], _ => rfl⟩
theorem c_raised {ρ : Ev} {ta : TA} {b e m : Int} (h : A ta ρ [.int b, .int e, .int m]) (h1 : 0 ≤ e) (h2 : 2 ≤ m) (h3 : m < 1073741824) : E (tCall (SP 3 R_raised) [] E0 ta) ρ (.int (rs b e m)) := e_call h rfl ⟨_, _, _, rfl, h1, h2, h3, rfl⟩
local macro_rules | `(tactic| walk_at "ev1") => `(tactic| with_reducible apply c_raised)
def R_is_element : List PyData → PyData → Prop := fun ds d => ∃ q v : Int, ds = [.int q, .int v] ∧ Bd q ∧ d = .bool (isEl q v)
def t_is_element (K : PySem.W.Frag) (CN CB : Addr) : TS := (tRet (tAndV (tChain oLt oLt (tC (.int 0)) (tVar 1) (tOp oAdd (tOp oMul (tC (.int 2)) (tVar 0)) (tC (.int 1)))) (tOp rEq (tCall (SP 3 R_raised) [] E0 (tCons (tVar 1) (tCons (tVar 0) (tCons (tOp oAdd (tOp oMul (tC (.int 2)) (tVar 0)) (tC (.int 1))) tNil)))) (tC (.int 1)))))
theorem sem_is_element {K : PySem.W.Frag} {CN CB : Addr} (ds : List PyData) (d : PyData) (h : R_is_element ds d) : S W0 (t_is_element K CN CB) (startR n_is_element ds) none { nx := fun _ _ => d = .none, rt := fun d' => d' = d } := by
  obtain ⟨q, v, rfl, hq, rfl⟩ := h
  unfold Bd at hq
  show S W0 _ [some (.int q), some (.int v)] none _
  refine s_ret (e_and (b := decide (0 < v) && decide (v < 2 * q + 1)) (c := decide (rs v q (2 * q + 1) = 1)) (e_chain e_int (e_var rfl) o_lt (fun _ => ?_) (fun _ => o_lt)) (fun _ => ?_)) rfl
  · walk_at "ev"
    walk_at "side"
  · walk_at "ev"
    walk_at "side"
theorem der_is_element {P : Program} {w : World} {K : PySem.W.Frag} {mg : Str → Option Value} {base : Heap} {CN CB : Addr} {f : Addr} (h : Wd K mg CN CB) (cdv : Value) (A : Around) (outer : List PySem.Env) (s : Shared) (H : Hp) (E : XK) (hr : Room 1 (A.deeper (envOfC "is_element" (defScope s_is_element) s.heap.objs.size f cdv))) :
    PSs ((cxOf CX0 P w K mg base n_is_element "is_element" (defScope s_is_element) f cdv A outer s H E).nox) (defBody s_is_element) (t_is_element K CN CB) :=
  (pss_one (ps_ret (pe_and (pe_chain op_lt op_lt pe_int (pv 1) (pe_op op_add (pe_op op_mul pe_int (pv 0)) pe_int)) (pe_one (pe_cmpR op_eq (pe_c (pr_raised h) hr pass0 (pa_cons (pv 1) (pa_cons (pv 0) (pa_cons (pe_op op_add (pe_op op_mul pe_int (pv 0)) pe_int) pa_nil)))) pe_int (nomark _))))))
theorem pr_is_element {P : Program} {w : World} {K : PySem.W.Frag} {mg : Str → Option Value} {base : Heap} {CN CB : Addr} (h : Wd K mg CN CB) : Pr P w K mg base CX0 2 "is_element" ["q", "value"] (SP 2 R_is_element) := by
  obtain ⟨f, fd, F, g⟩ := h.d_is_element
  exact ⟨f, fd, okD F sc_is_element (t_is_element K CN CB) (der_is_element h) (sem_is_element (CN := CN) (CB := CB)), g, F.kp, F.bindsN fun _ _ _ _ _ _ us hl => match us, hl with | [_, _], _ => rfl⟩
theorem c_is_element {ρ : Ev} {ta : TA} {q v : Int} (h : A ta ρ [.int q, .int v]) (hq : Bd q) : E (tCall (SP 2 R_is_element) [] E0 ta) ρ (.bool (isEl q v)) := e_call h rfl ⟨_, _, rfl, hq, rfl⟩
def R_check_element : List PyData → PyData → Prop := fun ds d => ∃ q v : Int, ds = [.int q, .int v] ∧ Bd q ∧ isEl q v = true ∧ d = .none
def t_check_element (K : PySem.W.Frag) (CN CB : Addr) : TS := (tIfS (tNot (tB (tCall (SP 2 R_is_element) [] E0 (tCons (tVar 0) (tCons (tVar 1) tNil))))) tNever tNext)
theorem sem_check_element {K : PySem.W.Frag} {CN CB : Addr} (ds : List PyData) (d : PyData) (h : R_check_element ds d) : S W0 (t_check_element K CN CB) (startR n_check_element ds) none { nx := fun _ _ => d = .none, rt := fun d' => d' = d } := by
  obtain ⟨q, v, rfl, hq, hv, rfl⟩ := h
  show S W0 _ [some (.int q), some (.int v)] none _
  exact s_pass (t_is (t_not (t_b (c_is_element (by walk_at "ev") hq))) (by rw [hv]; rfl)) rfl
theorem der_check_element {P : Program} {w : World} {K : PySem.W.Frag} {mg : Str → Option Value} {base : Heap} {CN CB : Addr} {f : Addr} (h : Wd K mg CN CB) (cdv : Value) (A : Around) (outer : List PySem.Env) (s : Shared) (H : Hp) (E : XK) (hr : Room 2 (A.deeper (envOfC "check_element" (defScope s_check_element) s.heap.objs.size f cdv))) :
    PSs ((cxOf CX0 P w K mg base n_check_element "check_element" (defScope s_check_element) f cdv A outer s H E).nox) (defBody s_check_element) (t_check_element K CN CB) :=
  (pss_one (ps_if (pt_not (pt_val (pe_c (pr_is_element h) hr pass0 (pa_cons (pv 0) (pa_cons (pv 1) pa_nil))))) (pss_one ps_never) pss_nil))
theorem pr_check_element {P : Program} {w : World} {K : PySem.W.Frag} {mg : Str → Option Value} {base : Heap} {CN CB : Addr} (h : Wd K mg CN CB) : Pr P w K mg base CX0 3 "check_element" ["q", "value"] (SP 2 R_check_element) := by
  obtain ⟨f, fd, F, g⟩ := h.d_check_element
  exact ⟨f, fd, okD F sc_check_element (t_check_element K CN CB) (der_check_element h) (sem_check_element (CN := CN) (CB := CB)), g, F.kp, F.bindsN fun _ _ _ _ _ _ us hl => match us, hl with | [_, _], _ => rfl⟩
theorem c_check_element {ρ : Ev} {ta : TA} {q v : Int} (h : A ta ρ [.int q, .int v]) (hq : Bd q) (hv : isEl q v = true) : E (tCall (SP 2 R_check_element) [] E0 ta) ρ .none := e_call h rfl ⟨_, _, rfl, hq, hv, rfl⟩
def R_power : List PyData → PyData → Prop := fun ds d => ∃ q b e : Int, ds = [.int q, .int b, .int e] ∧ Bd q ∧ isEl q b = true ∧ d = .int (pw q b e)
def t_power (K : PySem.W.Frag) (CN CB : Addr) : TS := (tSeq (tDrop (tCall (SP 2 R_check_element) [] E0 (tCons (tVar 0) (tCons (tVar 1) tNil))))
  (tRet (tCall (SP 3 R_raised) [] E0 (tCons (tVar 1) (tCons (tOp oMod (tVar 2) (tVar 0)) (tCons (tOp oAdd (tOp oMul (tC (.int 2)) (tVar 0)) (tC (.int 1))) tNil))))))
theorem sem_power {K : PySem.W.Frag} {CN CB : Addr} (ds : List PyData) (d : PyData) (h : R_power ds d) : S W0 (t_power K CN CB) (startR n_power ds) none { nx := fun _ _ => d = .none, rt := fun d' => d' = d } := by
  obtain ⟨q, b, e, rfl, hq, hb, rfl⟩ := h
  have hq' := hq
  unfold Bd at hq'
  show S W0 _ [some (.int q), some (.int b), some (.int e)] none _
  refine q_drop (c_check_element (by walk_at "ev") hq hb) ?_
  have h1 := Int.emod_nonneg e (show q ≠ 0 by omega)
  walk_at "ret"
theorem der_power {P : Program} {w : World} {K : PySem.W.Frag} {mg : Str → Option Value} {base : Heap} {CN CB : Addr} {f : Addr} (h : Wd K mg CN CB) (cdv : Value) (A : Around) (outer : List PySem.Env) (s : Shared) (H : Hp) (E : XK) (hr : Room 3 (A.deeper (envOfC "power" (defScope s_power) s.heap.objs.size f cdv))) :
    PSs ((cxOf CX0 P w K mg base n_power "power" (defScope s_power) f cdv A outer s H E).nox) (defBody s_power) (t_power K CN CB) :=
  (pss_cons (ps_expr (pe_c (pr_check_element h) hr pass0 (pa_cons (pv 0) (pa_cons (pv 1) pa_nil))))
  (pss_one (ps_ret (pe_c (pr_raised h) (hr.mono (by decide)) pass0 (pa_cons (pv 1) (pa_cons (pe_op op_mod (pv 2) (pv 0)) (pa_cons (pe_op op_add (pe_op op_mul pe_int (pv 0)) pe_int) pa_nil)))))))
theorem pr_power {P : Program} {w : World} {K : PySem.W.Frag} {mg : Str → Option Value} {base : Heap} {CN CB : Addr} (h : Wd K mg CN CB) : Pr P w K mg base CX0 4 "power" ["q", "base", "exponent"] (SP 3 R_power) := by
  obtain ⟨f, fd, F, g⟩ := h.d_power
  exact ⟨f, fd, okD F sc_power (t_power K CN CB) (der_power h) (sem_power (CN := CN) (CB := CB)), g, F.kp, F.bindsN fun _ _ _ _ _ _ us hl => match us, hl with | [_, _, _], _ => rfl⟩
theorem c_power {ρ : Ev} {ta : TA} {q b e : Int} (h : A ta ρ [.int q, .int b, .int e]) (hq : Bd q) (hb : isEl q b = true) : E (tCall (SP 3 R_power) [] E0 ta) ρ (.int (pw q b e)) := e_call h rfl ⟨_, _, _, rfl, hq, hb, rfl⟩
def R_product : List PyData → PyData → Prop := fun ds d => ∃ q a b : Int, ds = [.int q, .int a, .int b] ∧ Bd q ∧ isEl q a = true ∧ isEl q b = true ∧ d = .int (a * b % (2 * q + 1))
def t_product (K : PySem.W.Frag) (CN CB : Addr) : TS := (tSeq (tDrop (tCall (SP 2 R_check_element) [] E0 (tCons (tVar 0) (tCons (tVar 1) tNil))))
  (tSeq (tDrop (tCall (SP 2 R_check_element) [] E0 (tCons (tVar 0) (tCons (tVar 2) tNil))))
  (tRet (tOp oMod (tOp oMul (tVar 1) (tVar 2)) (tOp oAdd (tOp oMul (tC (.int 2)) (tVar 0)) (tC (.int 1)))))))
theorem sem_product {K : PySem.W.Frag} {CN CB : Addr} (ds : List PyData) (d : PyData) (h : R_product ds d) : S W0 (t_product K CN CB) (startR n_product ds) none { nx := fun _ _ => d = .none, rt := fun d' => d' = d } := by
  obtain ⟨q, a, b, rfl, hq, ha, hb, rfl⟩ := h
  have hq' := hq
  unfold Bd at hq'
  have h1 := isEl_range ha
  show S W0 _ [some (.int q), some (.int a), some (.int b)] none _
  refine q_drop (c_check_element (by walk_at "ev") hq ha) ?_
  refine q_drop (c_check_element (by walk_at "ev") hq hb) ?_
  walk_at "ret"
theorem der_product {P : Program} {w : World} {K : PySem.W.Frag} {mg : Str → Option Value} {base : Heap} {CN CB : Addr} {f : Addr} (h : Wd K mg CN CB) (cdv : Value) (A : Around) (outer : List PySem.Env) (s : Shared) (H : Hp) (E : XK) (hr : Room 3 (A.deeper (envOfC "product" (defScope s_product) s.heap.objs.size f cdv))) :
    PSs ((cxOf CX0 P w K mg base n_product "product" (defScope s_product) f cdv A outer s H E).nox) (defBody s_product) (t_product K CN CB) :=
  (pss_cons (ps_expr (pe_c (pr_check_element h) hr pass0 (pa_cons (pv 0) (pa_cons (pv 1) pa_nil))))
  (pss_cons (ps_expr (pe_c (pr_check_element h) hr pass0 (pa_cons (pv 0) (pa_cons (pv 2) pa_nil))))
  (pss_one (ps_ret (pe_op op_mod (pe_op op_mul (pv 1) (pv 2)) (pe_op op_add (pe_op op_mul pe_int (pv 0)) pe_int))))))
theorem pr_product {P : Program} {w : World} {K : PySem.W.Frag} {mg : Str → Option Value} {base : Heap} {CN CB : Addr} (h : Wd K mg CN CB) : Pr P w K mg base CX0 4 "product" ["q", "first", "second"] (SP 3 R_product) := by
  obtain ⟨f, fd, F, g⟩ := h.d_product
  exact ⟨f, fd, okD F sc_product (t_product K CN CB) (der_product h) (sem_product (CN := CN) (CB := CB)), g, F.kp, F.bindsN fun _ _ _ _ _ _ us hl => match us, hl with | [_, _, _], _ => rfl⟩
theorem c_product {ρ : Ev} {ta : TA} {q a b : Int} (h : A ta ρ [.int q, .int a, .int b]) (hq : Bd q) (ha : isEl q a = true) (hb : isEl q b = true) : E (tCall (SP 3 R_product) [] E0 ta) ρ (.int (a * b % (2 * q + 1))) := e_call h rfl ⟨_, _, _, rfl, hq, ha, hb, rfl⟩
def R_product_of_powers : List PyData → PyData → Prop := fun ds d => ∃ (q : Int) (bs es : List Int), ds = [.int q, .list (dI bs), .list (dI es)] ∧ Bd q ∧ bs.length = es.length ∧ (∀ b ∈ bs, isEl q b = true) ∧ d = .int (pops q bs es)
def t_product_of_powers (K : PySem.W.Frag) (CN CB : Addr) : TS := (tSeq (tIfS (tTest (tOp rNe (tCB (cLen K) (tCons (tVar 1) tNil)) (tCB (cLen K) (tCons (tVar 2) tNil)))) tNever tNext)
  (tSeq (tAsg (tC (.int 1)) (gName 3))
  (tSeq (tFor (RZ.iZipA K (tCons (tVar 1) (tCons (tVar 2) tNil))) (gTup K 2 (gCons (gName 4) (gCons (gName 5) gNil))) (tAsg (tOp oMod (tOp oMul (tVar 3) (tCall (SP 3 R_power) [] E0 (tCons (tVar 0) (tCons (tVar 4) (tCons (tVar 5) tNil))))) (tOp oAdd (tOp oMul (tC (.int 2)) (tVar 0)) (tC (.int 1)))) (gName 3)))
  (tRet (tVar 3)))))
theorem zipD_mem {bs es : List Int} {i : Nat} {d : PyData} (h : (zipD (dI bs) (dI es))[i]? = some d) : ∃ b e, bs[i]? = some b ∧ es[i]? = some e ∧ d = .tuple [.int b, .int e] := by
  unfold zipD dI at h
  rw [List.getElem?_zipWith, List.getElem?_map, List.getElem?_map] at h
  cases e1 : bs[i]? with
  | none => rw [e1] at h; cases h
  | some b =>
    cases e2 : es[i]? with
    | none => rw [e1, e2] at h; cases h
    | some e =>
      rw [e1, e2] at h
      exact ⟨b, e, rfl, rfl, (Option.some.inj h).symm⟩
theorem zip_at {α β : Type} {as : List α} {bs : List β} {i : Nat} {a : α} {b : β} (h1 : as[i]? = some a) (h2 : bs[i]? = some b) : (as.zip bs)[i]? = some (a, b) := by
  rw [List.zip, List.getElem?_zipWith, h1, h2]
theorem sem_product_of_powers {K : PySem.W.Frag} {CN CB : Addr} (ds : List PyData) (d : PyData) (h : R_product_of_powers ds d) : S W0 (t_product_of_powers K CN CB) (startR n_product_of_powers ds) none { nx := fun _ _ => d = .none, rt := fun d' => d' = d } := by
  obtain ⟨q, bs, es, rfl, hq, hl, hb, rfl⟩ := h
  have hq' := hq
  unfold Bd at hq'
  show S W0 _ [some (.int q), some (.list (dI bs)), some (.list (dI es)), none, none, none] none _
  refine q_pass (t_is (t_test (by walk_at "ev")) (by simp [dI_len, hl])) ?_
  walk_at "qset"
  refine s_seq (s_for (w_zipL (by walk_at "ev") (by rw [dI_len, dI_len, hl])) (fun i ρ ow => ow = none ∧ ∃ x4 x5, ρ = [some (.int q), some (.list (dI bs)), some (.list (dI es)), some (.int (((bs.zip es).take i).foldl (fun v x => v * pw q x.1 x.2 % (2 * q + 1)) 1)), x4, x5])
    ⟨rfl, none, none, rfl⟩ ?_ ?_)
  · rintro i d ρ1 w1 hd ⟨rfl, x4, x5, rfl⟩
    obtain ⟨b, e, h1, h2, rfl⟩ := zipD_mem hd
    refine ⟨_, _, g_tup (g_cons (g_cons g_nil)) rfl, rfl, ?_⟩
    have hp := pw_range (b := b) (e := e) hq
    have hel := hb b (List.mem_of_getElem? h1)
    refine s_set (e_op (e_op (e_var rfl) (c_power (by walk_at "ev") hq hel) (o_mul ?_)) (e_op (e_op e_int (e_var rfl) (o_mul ?_)) e_int o_add) (o_mod ?_)) rfl ⟨rfl, some (.int b), some (.int e), ?_⟩
    · omega
    · omega
    · omega
    · rw [foldl_take _ _ (zip_at h1 h2)]
      rfl
  · rintro ρ' w' ⟨rfl, x4, x5, rfl⟩
    have hn : (bs.zip es).take (zipD (dI bs) (dI es)).length = bs.zip es := by
      rw [show (zipD (dI bs) (dI es)).length = (bs.zip es).length by simp [zipD, dI], List.take_length]
    rw [hn]
    walk_at "ret"
theorem der_product_of_powers {P : Program} {w : World} {K : PySem.W.Frag} {mg : Str → Option Value} {base : Heap} {CN CB : Addr} {f : Addr} (h : Wd K mg CN CB) (cdv : Value) (A : Around) (outer : List PySem.Env) (s : Shared) (H : Hp) (E : XK) (hr : Room 4 (A.deeper (envOfC "product_of_powers" (defScope s_product_of_powers) s.heap.objs.size f cdv))) :
    PSs ((cxOf CX0 P w K mg base n_product_of_powers "product_of_powers" (defScope s_product_of_powers) f cdv A outer s H E).nox) (defBody s_product_of_powers) (t_product_of_powers K CN CB) :=
  (pss_cons (ps_if (pt_cmpR op_ne (pe_callB call_len_seq (by rfl) h.f_len bt_len (pa_cons (pv 1) pa_nil)) (pe_callB call_len_seq (by rfl) h.f_len bt_len (pa_cons (pv 2) pa_nil)) (nomark _)) (pss_one ps_never) pss_nil)
  (pss_cons (ps_set (i := 3) sc_product_of_powers.nd rfl (by first | exact Or.inl rfl | exact Or.inr rfl) pe_int)
  (pss_cons (ps_for PassesOwn.never rfl (RZ.pi_zipA (by rfl) h.f_zip (pa_cons (pv 1) (pa_cons (pv 2) pa_nil))) (pg_tup rfl (pgs_cons (pg_name (i := 4) sc_product_of_powers.nd rfl (by first | exact Or.inl rfl | exact Or.inr rfl)) (pgs_cons (pg_name (i := 5) sc_product_of_powers.nd rfl (by first | exact Or.inl rfl | exact Or.inr rfl)) pgs_nil))) (pss_one (ps_set (i := 3) sc_product_of_powers.nd rfl (by first | exact Or.inl rfl | exact Or.inr rfl) (pe_op op_mod (pe_op op_mul (pv 3) (pe_c (pr_power h) hr pass0 (pa_cons (pv 0) (pa_cons (pv 4) (pa_cons (pv 5) pa_nil))))) (pe_op op_add (pe_op op_mul pe_int (pv 0)) pe_int)))))
  (pss_one (ps_ret (pv 3))))))
theorem pr_product_of_powers {P : Program} {w : World} {K : PySem.W.Frag} {mg : Str → Option Value} {base : Heap} {CN CB : Addr} (h : Wd K mg CN CB) : Pr P w K mg base CX0 5 "product_of_powers" ["q", "bases", "exponents"] (SP 3 R_product_of_powers) := by
  obtain ⟨f, fd, F, g⟩ := h.d_product_of_powers
  exact ⟨f, fd, okD F sc_product_of_powers (t_product_of_powers K CN CB) (der_product_of_powers h) (sem_product_of_powers (CN := CN) (CB := CB)), g, F.kp, F.bindsN fun _ _ _ _ _ _ us hl => match us, hl with | [_, _, _], _ => rfl⟩
theorem c_product_of_powers {ρ : Ev} {ta : TA} {q : Int} {bs es : List Int} (h : A ta ρ [.int q, .list (dI bs), .list (dI es)]) (hq : Bd q) (hl : bs.length = es.length) (hb : ∀ b ∈ bs, isEl q b = true) : E (tCall (SP 3 R_product_of_powers) [] E0 ta) ρ (.int (pops q bs es)) := e_call h rfl ⟨_, _, _, rfl, hq, hl, hb, rfl⟩
def R_inverse : List PyData → PyData → Prop := fun ds d => ∃ q v : Int, ds = [.int q, .int v] ∧ Bd q ∧ isEl q v = true ∧ d = .int (pw q v (-1))
def t_inverse (K : PySem.W.Frag) (CN CB : Addr) : TS := (tRet (tCall (SP 3 R_power) [] E0 (tCons (tVar 0) (tCons (tVar 1) (tCons (tUn (rU fun i => .int (-i)) (tC (.int 1))) tNil)))))
theorem sem_inverse {K : PySem.W.Frag} {CN CB : Addr} (ds : List PyData) (d : PyData) (h : R_inverse ds d) : S W0 (t_inverse K CN CB) (startR n_inverse ds) none { nx := fun _ _ => d = .none, rt := fun d' => d' = d } := by
  obtain ⟨q, v, rfl, hq, hv, rfl⟩ := h
  show S W0 _ [some (.int q), some (.int v)] none _
  exact s_ret (c_power (by walk_at "ev") hq hv) rfl
theorem der_inverse {P : Program} {w : World} {K : PySem.W.Frag} {mg : Str → Option Value} {base : Heap} {CN CB : Addr} {f : Addr} (h : Wd K mg CN CB) (cdv : Value) (A : Around) (outer : List PySem.Env) (s : Shared) (H : Hp) (E : XK) (hr : Room 4 (A.deeper (envOfC "inverse" (defScope s_inverse) s.heap.objs.size f cdv))) :
    PSs ((cxOf CX0 P w K mg base n_inverse "inverse" (defScope s_inverse) f cdv A outer s H E).nox) (defBody s_inverse) (t_inverse K CN CB) :=
  (pss_one (ps_ret (pe_c (pr_power h) hr pass0 (pa_cons (pv 0) (pa_cons (pv 1) (pa_cons (pe_un un_neg pe_int) pa_nil))))))
theorem pr_inverse {P : Program} {w : World} {K : PySem.W.Frag} {mg : Str → Option Value} {base : Heap} {CN CB : Addr} (h : Wd K mg CN CB) : Pr P w K mg base CX0 5 "inverse" ["q", "value"] (SP 2 R_inverse) := by
  obtain ⟨f, fd, F, g⟩ := h.d_inverse
  exact ⟨f, fd, okD F sc_inverse (t_inverse K CN CB) (der_inverse h) (sem_inverse (CN := CN) (CB := CB)), g, F.kp, F.bindsN fun _ _ _ _ _ _ us hl => match us, hl with | [_, _], _ => rfl⟩
theorem c_inverse {ρ : Ev} {ta : TA} {q v : Int} (h : A ta ρ [.int q, .int v]) (hq : Bd q) (hv : isEl q v = true) : E (tCall (SP 2 R_inverse) [] E0 ta) ρ (.int (pw q v (-1))) := e_call h rfl ⟨_, _, rfl, hq, hv, rfl⟩
def R_quotient : List PyData → PyData → Prop := fun ds d => ∃ q f s : Int, ds = [.int q, .int f, .int s] ∧ Bd q ∧ s % q ≠ 0 ∧ d = .int (quo q f s)
def t_quotient (K : PySem.W.Frag) (CN CB : Addr) : TS := (tSeq (tIfS (tTest (tOp rEq (tOp oMod (tVar 2) (tVar 0)) (tC (.int 0)))) tNever tNext)
  (tRet (tOp oMod (tOp oMul (tVar 1) (tCall (SP 3 R_raised) [] E0 (tCons (tVar 2) (tCons (tOp oSub (tVar 0) (tC (.int 2))) (tCons (tVar 0) tNil))))) (tVar 0))))
theorem sem_quotient {K : PySem.W.Frag} {CN CB : Addr} (ds : List PyData) (d : PyData) (h : R_quotient ds d) : S W0 (t_quotient K CN CB) (startR n_quotient ds) none { nx := fun _ _ => d = .none, rt := fun d' => d' = d } := by
  obtain ⟨q, f, s, rfl, hq, hs, rfl⟩ := h
  unfold Bd at hq
  have hr := rs_range (b := s) (e := q - 2) (m := q) (by omega)
  show S W0 _ [some (.int q), some (.int f), some (.int s)] none _
  refine q_pass (t_is (t_test (e_op (e_op (e_var rfl) (e_var rfl) (o_mod ?_)) e_int o_eqI)) (decide_eq_false hs)) ?_
  · omega
  · walk_at "ret"
theorem der_quotient {P : Program} {w : World} {K : PySem.W.Frag} {mg : Str → Option Value} {base : Heap} {CN CB : Addr} {f : Addr} (h : Wd K mg CN CB) (cdv : Value) (A : Around) (outer : List PySem.Env) (s : Shared) (H : Hp) (E : XK) (hr : Room 1 (A.deeper (envOfC "quotient" (defScope s_quotient) s.heap.objs.size f cdv))) :
    PSs ((cxOf CX0 P w K mg base n_quotient "quotient" (defScope s_quotient) f cdv A outer s H E).nox) (defBody s_quotient) (t_quotient K CN CB) :=
  (pss_cons (ps_if (pt_cmpR op_eq (pe_op op_mod (pv 2) (pv 0)) pe_int (nomark _)) (pss_one ps_never) pss_nil)
  (pss_one (ps_ret (pe_op op_mod (pe_op op_mul (pv 1) (pe_c (pr_raised h) hr pass0 (pa_cons (pv 2) (pa_cons (pe_op op_sub (pv 0) pe_int) (pa_cons (pv 0) pa_nil))))) (pv 0)))))
theorem pr_quotient {P : Program} {w : World} {K : PySem.W.Frag} {mg : Str → Option Value} {base : Heap} {CN CB : Addr} (h : Wd K mg CN CB) : Pr P w K mg base CX0 2 "quotient" ["q", "first", "second"] (SP 3 R_quotient) := by
  obtain ⟨f, fd, F, g⟩ := h.d_quotient
  exact ⟨f, fd, okD F sc_quotient (t_quotient K CN CB) (der_quotient h) (sem_quotient (CN := CN) (CB := CB)), g, F.kp, F.bindsN fun _ _ _ _ _ _ us hl => match us, hl with | [_, _, _], _ => rfl⟩
theorem c_quotient {ρ : Ev} {ta : TA} {q f s : Int} (h : A ta ρ [.int q, .int f, .int s]) (hq : Bd q) (hs : s % q ≠ 0) : E (tCall (SP 3 R_quotient) [] E0 ta) ρ (.int (quo q f s)) := e_call h rfl ⟨_, _, _, rfl, hq, hs, rfl⟩
/-- the bases of a setup -/
def baseAt (q seed i : Int) : Int := pw q 4 (1 + coinV seed i "base" % (q - 1))
def basesOf (q seed : Int) : List Int := (List.range 5).map fun i => baseAt q seed ((0 : Int) + (i : Nat))
def R_setup_of : List PyData → PyData → Prop := fun ds d => ∃ q seed : Int, ds = [.int q, .int seed] ∧ Bd q ∧ isEl q 4 = true ∧ d = .tuple [.int q, .tuple (dI (basesOf q seed))]
def t_setup_of (K : PySem.W.Frag) (CN CB : Addr) : TS := (tRet (tTup (tCons (tVar 0) (tCons (tCB (cTuple K) (tCons (tLc (iRng1 (tCons (tC (.int 5)) tNil)) (gName 2) tYes (tCall (SP 3 R_power) [] E0 (tCons (tVar 0) (tCons (tC (.int 4)) (tCons (tOp oAdd (tC (.int 1)) (tOp oMod (tCall (SP 3 R_coin) [] E0 (tCons (tVar 1) (tCons (tVar 2) (tCons (tC (.str "base")) tNil)))) (tOp oSub (tVar 0) (tC (.int 1))))) tNil)))) [2]) tNil)) tNil))))
theorem sem_setup_of {K : PySem.W.Frag} {CN CB : Addr} (ds : List PyData) (d : PyData) (h : R_setup_of ds d) : S W0 (t_setup_of K CN CB) (startR n_setup_of ds) none { nx := fun _ _ => d = .none, rt := fun d' => d' = d } := by
  obtain ⟨q, seed, rfl, hq, h4, rfl⟩ := h
  have hq' := hq
  unfold Bd at hq'
  show S W0 _ [some (.int q), some (.int seed), none] none _
  refine s_ret (e_tup (a_cons (e_var rfl) (a_cons (e_cb (a_cons (e_lcM (w_rng1 (n := 5) (by walk_at "ev") (by decide)) (dI (basesOf q seed)) (by simp [dI, basesOf, rngD]) (by rw [rngD_length]; decide) fun i d hd => ?_) a_nil) c_tupL) a_nil)) (by simp)) rfl
  obtain ⟨hi, rfl⟩ := rngD_mem hd
  refine ⟨_, _, _, g_name, fun j hj => hj, c_power (a_cons (e_var rfl) (a_cons e_int (a_cons (e_op e_int (e_op (c_coin (by walk_at "ev")) (e_op (e_var rfl) e_int o_sub) (o_mod ?_)) o_add) a_nil))) hq h4, ?_⟩
  · omega
  · refine at_map (l := basesOf q seed) ?_
    unfold basesOf
    refine at_map ?_
    have hi5 : i < 5 := hi
    simp [hi5]
theorem der_setup_of {P : Program} {w : World} {K : PySem.W.Frag} {mg : Str → Option Value} {base : Heap} {CN CB : Addr} {f : Addr} (h : Wd K mg CN CB) (cdv : Value) (A : Around) (outer : List PySem.Env) (s : Shared) (H : Hp) (E : XK) (hr : Room 4 (A.deeper (envOfC "setup_of" (defScope s_setup_of) s.heap.objs.size f cdv))) :
    PSs ((cxOf CX0 P w K mg base n_setup_of "setup_of" (defScope s_setup_of) f cdv A outer s H E).nox) (defBody s_setup_of) (t_setup_of K CN CB) :=
  (pss_one (ps_ret (pe_tup (pa_cons (pv 0) (pa_cons (pe_callTy call_tuple_of (by rfl) h.f_tuple bt_tuple (pa_cons (pe_lc (own := [("at", 2)]) rfl sc_setup_of.nd (pi_range1 (by rfl) h.f_range (pa_cons (pe_gi h.c_BASES) pa_nil)) (blkOk_by (own := [("at", 2)]) (N := n_setup_of) (sc := defScope s_setup_of) (by decide +kernel)) (fun _ _ _ _ _ => (pg_name (i := 2) sc_setup_of.nd rfl (by first | exact Or.inl rfl | exact Or.inr rfl))) (fun _ _ _ _ _ => pts_nil) (fun _ _ _ _ _ => (pe_c (pr_power h) hr pass0 (pa_cons (pv 0) (pa_cons pe_int (pa_cons (pe_op op_add pe_int (pe_op op_mod (pe_c (pr_coin h) (hr.mono (by decide)) pass0 (pa_cons (pv 1) (pa_cons (pv 2) (pa_cons pe_str pa_nil)))) (pe_op op_sub (pv 0) pe_int))) pa_nil)))))) pa_nil)) pa_nil)))))
theorem pr_setup_of {P : Program} {w : World} {K : PySem.W.Frag} {mg : Str → Option Value} {base : Heap} {CN CB : Addr} (h : Wd K mg CN CB) : Pr P w K mg base CX0 5 "setup_of" ["q", "seed"] (SP 2 R_setup_of) := by
  obtain ⟨f, fd, F, g⟩ := h.d_setup_of
  exact ⟨f, fd, okD F sc_setup_of (t_setup_of K CN CB) (der_setup_of h) (sem_setup_of (CN := CN) (CB := CB)), g, F.kp, F.bindsN fun _ _ _ _ _ _ us hl => match us, hl with | [_, _], _ => rfl⟩
theorem c_setup_of {ρ : Ev} {ta : TA} {q seed : Int} (h : A ta ρ [.int q, .int seed]) (hq : Bd q) (h4 : isEl q 4 = true) : E (tCall (SP 2 R_setup_of) [] E0 ta) ρ (.tuple [.int q, .tuple (dI (basesOf q seed))]) := e_call h rfl ⟨_, _, rfl, hq, h4, rfl⟩
end Ck

set_option Elab.async false
set_option linter.all false
set_option maxRecDepth 100000
set_option maxHeartbeats 1000000
set_option autoImplicit false
/-! # Claims, choices, papers -/
namespace Ck
open PySem PySem.Spec PyProof.Rows L2
local macro_rules | `(tactic| walk_at "ev1") => `(tactic| first
  | ((with_reducible apply e_var); exact rfl)
  | with_reducible exact e_int
  | with_reducible exact e_str
  | with_reducible exact e_bl
  | with_reducible exact e_non
  | with_reducible apply e_op
  | with_reducible exact o_add
  | with_reducible exact o_sub
  | with_reducible apply o_mul
  | with_reducible apply o_mod
  | with_reducible apply o_div
  | with_reducible exact o_lt
  | with_reducible exact o_le
  | with_reducible exact o_gt
  | with_reducible exact o_ge
  | with_reducible exact o_eqI
  | with_reducible exact o_neI
  | with_reducible exact o_eqS
  | with_reducible exact o_neS
  | ((with_reducible apply o_ixT); exact rfl)
  | ((with_reducible apply o_ixL); exact rfl)
  | with_reducible exact a_nil
  | with_reducible apply a_cons
  | with_reducible apply e_tup
  | with_reducible apply e_lst
  | with_reducible apply e_cb
  | with_reducible exact c_int
  | with_reducible exact c_intB
  | with_reducible exact c_abs
  | with_reducible exact c_ord
  | with_reducible exact c_lenL
  | with_reducible exact c_lenT
  | with_reducible exact c_listT
  | with_reducible exact c_tupL
  | with_reducible exact c_tupT
  | with_reducible exact c_all
  | with_reducible exact c_sum
  | with_reducible apply e_sl
  | with_reducible exact p_none
  | with_reducible apply p_some
  | with_reducible exact s_tup
  | with_reducible exact s_lst
  | ((with_reducible show CaD (cList _) _ _); first | exact c_listT | exact c_listL)
  | ((with_reducible show CaD (cTuple _) _ _); first | exact c_tupL | exact c_tupT)
  | with_reducible apply e_neg
  | with_reducible apply o_catL
  | with_reducible apply o_catT
  | with_reducible apply o_catS
  | with_reducible apply t_test
  | with_reducible apply t_b
  | with_reducible apply t_not)
local macro_rules | `(tactic| walk_at "ev") => `(tactic| repeat' walk_at "ev1")
local macro_rules | `(tactic| walk_at "side") => `(tactic| all_goals (try (first | rfl | omega)))
local macro_rules | `(tactic| walk_at "set") => `(tactic| (apply s_set; walk_at "ev"; walk_at "side"))
local macro_rules | `(tactic| walk_at "qset") => `(tactic| (apply q_set; walk_at "ev"; walk_at "side"))
local macro_rules | `(tactic| walk_at "ret") => `(tactic| (apply s_ret; walk_at "ev"; walk_at "side"))
local macro_rules | `(tactic| walk_at "ev1") => `(tactic| with_reducible apply c_coin)
local macro_rules | `(tactic| walk_at "ev1") => `(tactic| with_reducible apply c_challenge)
/-! ### data -/
abbrev Pp := Int × Int × Int
abbrev dClaim (a0 b g1 : Int) : PyData := .tuple [.int 2, .tuple [.tuple [.int a0, .tuple [.int b, .int g1]]]]
abbrev dChoice (a0 g1 : Int) (bs : List Int) : PyData := .tuple (bs.map fun b => dClaim a0 b g1)
abbrev dPP (p : Pp) : PyData := .tuple [.int p.1, .tuple [.int p.2.1, .int p.2.2]]
abbrev dPaper (ps : List Pp) : PyData := .tuple (ps.map dPP)
def inQ (q n : Int) : Bool := decide (0 ≤ n) && decide (n < q)
theorem inQ_iff {q n : Int} : inQ q n = true ↔ 0 ≤ n ∧ n < q := by
  unfold inQ
  simp only [Bool.and_eq_true, decide_eq_true_eq]
def okPP (q : Int) (p : Pp) : Bool := inQ q p.1 && (inQ q p.2.1 && inQ q p.2.2)
theorem okPP_iff {q : Int} {p : Pp} : okPP q p = true ↔ (inQ q p.1 = true ∧ inQ q p.2.1 = true ∧ inQ q p.2.2 = true) := by
  unfold okPP
  simp only [Bool.and_eq_true]
theorem map_at {α β : Type} {l : List α} {f : α → β} {i : Nat} {d : β} (h : (l.map f)[i]? = some d) : ∃ a, l[i]? = some a ∧ d = f a := by
  rw [List.getElem?_map] at h
  cases e : l[i]? with
  | none => rw [e] at h; cases h
  | some a =>
    rw [e] at h
    exact ⟨a, rfl, (Option.some.inj h).symm⟩
theorem zipM_at {α β : Type} {as : List α} {bs : List β} {f : α → PyData} {g : β → PyData} {i : Nat} {d : PyData} (h : (zipD (as.map f) (bs.map g))[i]? = some d) : ∃ a b, as[i]? = some a ∧ bs[i]? = some b ∧ d = .tuple [f a, g b] := by
  unfold zipD at h
  rw [List.getElem?_zipWith, List.getElem?_map, List.getElem?_map] at h
  cases e1 : as[i]? with
  | none => rw [e1] at h; cases h
  | some a =>
    cases e2 : bs[i]? with
    | none => rw [e1, e2] at h; cases h
    | some b =>
      rw [e1, e2] at h
      exact ⟨a, b, rfl, rfl, (Option.some.inj h).symm⟩
theorem zipM_len {α β : Type} {as : List α} {bs : List β} {f : α → PyData} {g : β → PyData} (h : as.length = bs.length) : (zipD (as.map f) (bs.map g)).length = as.length := by
  rw [zipD_length (by simpa using h), List.length_map]
theorem enumD_mem {ds : List PyData} {i : Nat} {d : PyData} (h : (enumD ds)[i]? = some d) : ∃ e, ds[i]? = some e ∧ d = .tuple [.int (i : Nat), e] := by
  have hi : i < ds.length := by
    have := (List.getElem?_eq_some_iff.mp h).1
    rwa [enumD_length] at this
  obtain ⟨e, he⟩ := ex_at hi
  rw [enumD_at he] at h
  exact ⟨e, he, (Option.some.inj h).symm⟩
theorem one_at {α : Type} {a d : α} {i : Nat} (h : [a][i]? = some d) : i = 0 ∧ d = a := by
  cases i with
  | zero => exact ⟨rfl, (Option.some.inj h).symm⟩
  | succ i => simp at h

def R_is_exponent : List PyData → PyData → Prop := fun ds d => ∃ q n : Int, ds = [.int q, .int n] ∧ d = .bool (inQ q n)
def t_is_exponent (K : PySem.W.Frag) (CN CB : Addr) : TS := (tRet (tChain oLe oLt (tC (.int 0)) (tVar 1) (tVar 0)))
theorem sem_is_exponent {K : PySem.W.Frag} {CN CB : Addr} (ds : List PyData) (d : PyData) (h : R_is_exponent ds d) : S W0 (t_is_exponent K CN CB) (startR n_is_exponent ds) none { nx := fun _ _ => d = .none, rt := fun d' => d' = d } := by
  obtain ⟨q, n, rfl, rfl⟩ := h
  show S W0 _ [some (.int q), some (.int n)] none _
  exact s_ret (e_chain e_int (e_var rfl) o_le (fun _ => e_var rfl) (fun _ => o_lt)) rfl
theorem der_is_exponent {P : Program} {w : World} {K : PySem.W.Frag} {mg : Str → Option Value} {base : Heap} {CN CB : Addr} {f : Addr} (h : Wd K mg CN CB) (cdv : Value) (A : Around) (outer : List PySem.Env) (s : Shared) (H : Hp) (E : XK) (hr : Room 0 (A.deeper (envOfC "is_exponent" (defScope s_is_exponent) s.heap.objs.size f cdv))) :
    PSs ((cxOf CX0 P w K mg base n_is_exponent "is_exponent" (defScope s_is_exponent) f cdv A outer s H E).nox) (defBody s_is_exponent) (t_is_exponent K CN CB) :=
  (pss_one (ps_ret (pe_chain op_le op_lt pe_int (pv 1) (pv 0))))
theorem pr_is_exponent {P : Program} {w : World} {K : PySem.W.Frag} {mg : Str → Option Value} {base : Heap} {CN CB : Addr} (h : Wd K mg CN CB) : Pr P w K mg base CX0 1 "is_exponent_claims" ["q", "number"] (SP 2 R_is_exponent) := by
  obtain ⟨f, fd, F, g⟩ := h.d_is_exponent
  exact ⟨f, fd, okD F sc_is_exponent (t_is_exponent K CN CB) (der_is_exponent h) (sem_is_exponent (CN := CN) (CB := CB)), g, F.kp, F.bindsN fun _ _ _ _ _ _ us hl => match us, hl with | [_, _], _ => rfl⟩
theorem c_is_exponent {ρ : Ev} {ta : TA} {q n : Int} (h : A ta ρ [.int q, .int n]) : E (tCall (SP 2 R_is_exponent) [] E0 ta) ρ (.bool (inQ q n)) := e_call h rfl ⟨_, _, rfl, rfl⟩
local macro_rules | `(tactic| walk_at "ev1") => `(tactic| with_reducible apply c_is_exponent)
/-- [f(q, v) for v in vs] of truth values: the comprehension's own slot j, q's slot k -/
theorem e_testAll {K : PySem.W.Frag} {ρ : Ev} {wi : TI} {te : TE} {j : Nat} {q : Int} {vs : List Int} (f : Int → Bool) (hw : Wk wi ρ (dI vs)) (hl : vs.length ≤ 1000) (he : ∀ v, v ∈ vs → E te ((ρ.set j none).set j (some (.int v))) (.bool (f v))) : E (tCB (rAll K) (tCons (tLc wi (gName j) tYes te [j]) tNil)) ρ (.bool (vs.all f)) := by
  refine e_is (e_cb (a_cons (e_lcM hw (dB (vs.map f)) (by simp [dB, dI]) (by rw [dI_len]; omega) fun i d hd => ?_) a_nil) c_all) (by simp [List.all_map])
  obtain ⟨n, hn, rfl⟩ := dI_at hd
  exact ⟨_, _, _, g_name, fun j hj => hj, he n (List.mem_of_getElem? hn), at_map (at_map hn)⟩
def R_are_values : List PyData → PyData → Prop := fun ds d => ∃ (q a0 b g1 : Int) (vs : List Int), ds = [.int q, dClaim a0 b g1, .tuple (dI vs)] ∧ vs.length ≤ 1000 ∧ d = .bool (decide ((vs.length : Int) = 2) && vs.all (inQ q))
def t_are_values (K : PySem.W.Frag) (CN CB : Addr) : TS := (tRet (tAndV (tOp rEq (tCB (cLen K) (tCons (tVar 2) tNil)) (tOp (rIxT K) (tVar 1) (tC (.int 0)))) (tCB (rAll K) (tCons (tLc (iTup K (tVar 2)) (gName 3) tYes (tCall (SP 2 R_is_exponent) [] E0 (tCons (tVar 0) (tCons (tVar 3) tNil))) [3]) tNil))))
theorem sem_are_values {K : PySem.W.Frag} {CN CB : Addr} (ds : List PyData) (d : PyData) (h : R_are_values ds d) : S W0 (t_are_values K CN CB) (startR n_are_values ds) none { nx := fun _ _ => d = .none, rt := fun d' => d' = d } := by
  obtain ⟨q, a0, b, g1, vs, rfl, hl, rfl⟩ := h
  show S W0 _ [some (.int q), some (dClaim a0 b g1), some (.tuple (dI vs)), none] none _
  refine s_ret (e_and (b := decide ((vs.length : Int) = 2)) (c := vs.all (inQ q)) (e_is (e_op (e_cb (a_cons (e_var rfl) a_nil) c_lenT) (e_op (e_var rfl) e_int (o_ixT rfl)) o_eqI) (by rw [dI_len])) (fun _ => ?_)) rfl
  refine e_testAll (q := q) (inQ q) (w_tup (e_var rfl)) hl fun v _ => ?_
  walk_at "ev"
theorem der_are_values {P : Program} {w : World} {K : PySem.W.Frag} {mg : Str → Option Value} {base : Heap} {CN CB : Addr} {f : Addr} (h : Wd K mg CN CB) (cdv : Value) (A : Around) (outer : List PySem.Env) (s : Shared) (H : Hp) (E : XK) (hr : Room 1 (A.deeper (envOfC "are_values" (defScope s_are_values) s.heap.objs.size f cdv))) :
    PSs ((cxOf CX0 P w K mg base n_are_values "are_values" (defScope s_are_values) f cdv A outer s H E).nox) (defBody s_are_values) (t_are_values K CN CB) :=
  (pss_one (ps_ret (pe_and (pe_cmpR op_eq (pe_callB call_len_seq (by rfl) h.f_len bt_len (pa_cons (pv 2) pa_nil)) (pe_ix ix_tup (pv 1) pe_int (fun _ _ => rfl)) (nomark _)) (pe_one (pe_callB (cr_all rfl) (by rfl) h.f_all bt_all (pa_cons (pe_lc (own := [("value", 3)]) rfl sc_are_values.nd (pi_tup (pv 2)) (blkOk_by (own := [("value", 3)]) (N := n_are_values) (sc := defScope s_are_values) (by decide +kernel)) (fun _ _ _ _ _ => (pg_name (i := 3) sc_are_values.nd rfl (by first | exact Or.inl rfl | exact Or.inr rfl))) (fun _ _ _ _ _ => pts_nil) (fun _ _ _ _ _ => (pe_c (pr_is_exponent h) hr pass0 (pa_cons (pv 0) (pa_cons (pv 3) pa_nil))))) pa_nil))))))
theorem pr_are_values {P : Program} {w : World} {K : PySem.W.Frag} {mg : Str → Option Value} {base : Heap} {CN CB : Addr} (h : Wd K mg CN CB) : Pr P w K mg base CX0 2 "are_values" ["q", "claim", "values"] (SP 3 R_are_values) := by
  obtain ⟨f, fd, F, g⟩ := h.d_are_values
  exact ⟨f, fd, okD F sc_are_values (t_are_values K CN CB) (der_are_values h) (sem_are_values (CN := CN) (CB := CB)), g, F.kp, F.bindsN fun _ _ _ _ _ _ us hl => match us, hl with | [_, _, _], _ => rfl⟩
theorem c_are_values {ρ : Ev} {ta : TA} {q a0 b g1 : Int} {vs : List Int} (h : A ta ρ [.int q, dClaim a0 b g1, .tuple (dI vs)]) (hl : vs.length ≤ 1000) : E (tCall (SP 3 R_are_values) [] E0 ta) ρ (.bool (decide ((vs.length : Int) = 2) && vs.all (inQ q))) := e_call h rfl ⟨_, _, _, _, _, rfl, hl, rfl⟩
def R_check_values : List PyData → PyData → Prop := fun ds d => ∃ q a0 b g1 x y : Int, ds = [.int q, dClaim a0 b g1, .tuple (dI [x, y])] ∧ inQ q x = true ∧ inQ q y = true ∧ d = .none
def t_check_values (K : PySem.W.Frag) (CN CB : Addr) : TS := (tIfS (tNot (tB (tCall (SP 3 R_are_values) [] E0 (tCons (tVar 0) (tCons (tVar 1) (tCons (tVar 2) tNil)))))) tNever tNext)
theorem two_ok {q x y : Int} (hx : inQ q x = true) (hy : inQ q y = true) : (decide ((([x, y] : List Int).length : Int) = 2) && [x, y].all (inQ q)) = true := by
  simp [hx, hy]
theorem sem_check_values {K : PySem.W.Frag} {CN CB : Addr} (ds : List PyData) (d : PyData) (h : R_check_values ds d) : S W0 (t_check_values K CN CB) (startR n_check_values ds) none { nx := fun _ _ => d = .none, rt := fun d' => d' = d } := by
  obtain ⟨q, a0, b, g1, x, y, rfl, hx, hy, rfl⟩ := h
  show S W0 _ [some (.int q), some (dClaim a0 b g1), some (.tuple (dI [x, y]))] none _
  exact s_pass (t_is (t_not (t_b (c_are_values (vs := [x, y]) (by walk_at "ev") (by simp)))) (by rw [two_ok hx hy]; rfl)) rfl
theorem der_check_values {P : Program} {w : World} {K : PySem.W.Frag} {mg : Str → Option Value} {base : Heap} {CN CB : Addr} {f : Addr} (h : Wd K mg CN CB) (cdv : Value) (A : Around) (outer : List PySem.Env) (s : Shared) (H : Hp) (E : XK) (hr : Room 2 (A.deeper (envOfC "check_values" (defScope s_check_values) s.heap.objs.size f cdv))) :
    PSs ((cxOf CX0 P w K mg base n_check_values "check_values" (defScope s_check_values) f cdv A outer s H E).nox) (defBody s_check_values) (t_check_values K CN CB) :=
  (pss_one (ps_if (pt_not (pt_val (pe_c (pr_are_values h) hr pass0 (pa_cons (pv 0) (pa_cons (pv 1) (pa_cons (pv 2) pa_nil)))))) (pss_one ps_never) pss_nil))
theorem pr_check_values {P : Program} {w : World} {K : PySem.W.Frag} {mg : Str → Option Value} {base : Heap} {CN CB : Addr} (h : Wd K mg CN CB) : Pr P w K mg base CX0 3 "check_values" ["q", "claim", "values"] (SP 3 R_check_values) := by
  obtain ⟨f, fd, F, g⟩ := h.d_check_values
  exact ⟨f, fd, okD F sc_check_values (t_check_values K CN CB) (der_check_values h) (sem_check_values (CN := CN) (CB := CB)), g, F.kp, F.bindsN fun _ _ _ _ _ _ us hl => match us, hl with | [_, _, _], _ => rfl⟩
theorem c_check_values {ρ : Ev} {ta : TA} {q a0 b g1 x y : Int} (h : A ta ρ [.int q, dClaim a0 b g1, .tuple (dI [x, y])]) (hx : inQ q x = true) (hy : inQ q y = true) : E (tCall (SP 3 R_check_values) [] E0 ta) ρ .none := e_call h rfl ⟨_, _, _, _, _, _, rfl, hx, hy, rfl⟩
def R_holds : List PyData → PyData → Prop := fun ds d => ∃ q a0 b g1 x y : Int, ds = [.int q, dClaim a0 b g1, .tuple (dI [x, y])] ∧ Bd q ∧ isEl q b = true ∧ isEl q g1 = true ∧ inQ q x = true ∧ inQ q y = true ∧ d = .bool (decide (pops q [b, g1] [x, y] = a0))
def t_holds (K : PySem.W.Frag) (CN CB : Addr) : TS := (tSeq (tDrop (tCall (SP 3 R_check_values) [] E0 (tCons (tVar 0) (tCons (tVar 1) (tCons (tVar 2) tNil)))))
  (tRet (tCB (rAll K) (tCons (tLc (iTup K (tOp (rIxT K) (tVar 1) (tC (.int 1)))) (gTup K 2 (gCons (gName 3) (gCons (gName 4) gNil))) tYes (tOp rEq (tCall (SP 3 R_product_of_powers) [] E0 (tCons (tVar 0) (tCons (tCB (cList K) (tCons (tVar 4) tNil)) (tCons (tCB (cList K) (tCons (tVar 2) tNil)) tNil)))) (tVar 3)) [3, 4]) tNil))))
theorem two_el {q b g1 : Int} (hb : isEl q b = true) (hg : isEl q g1 = true) : ∀ z ∈ [b, g1], isEl q z = true := by
  intro z hz
  rcases List.mem_cons.mp hz with rfl | hz
  · exact hb
  · rcases List.mem_cons.mp hz with rfl | hz
    · exact hg
    · cases hz
theorem sem_holds {K : PySem.W.Frag} {CN CB : Addr} (ds : List PyData) (d : PyData) (h : R_holds ds d) : S W0 (t_holds K CN CB) (startR n_holds ds) none { nx := fun _ _ => d = .none, rt := fun d' => d' = d } := by
  obtain ⟨q, a0, b, g1, x, y, rfl, hq, hb, hg, hx, hy, rfl⟩ := h
  show S W0 _ [some (.int q), some (dClaim a0 b g1), some (.tuple (dI [x, y])), none, none] none _
  refine q_drop (c_check_values (by walk_at "ev") hx hy) ?_
  refine s_ret (e_cb (a_cons (e_lcM (w_tup (ds := [.tuple [.int a0, .tuple [.int b, .int g1]]]) (e_op (e_var rfl) e_int (o_ixT rfl))) (dB [decide (pops q [b, g1] [x, y] = a0)]) rfl (by show 1 ≤ 100000; omega) fun i d hd => ?_) a_nil) c_all) (by show PyData.bool (_ && true) = _; rw [Bool.and_true]; rfl)
  obtain ⟨rfl, rfl⟩ := one_at hd
  refine ⟨_, _, _, g_tup (g_cons (g_cons g_nil)) rfl, fun j hj => hj, e_op (c_product_of_powers (bs := [b, g1]) (es := [x, y]) (by walk_at "ev") hq rfl (two_el hb hg)) (e_var rfl) o_eqI, rfl⟩
theorem der_holds {P : Program} {w : World} {K : PySem.W.Frag} {mg : Str → Option Value} {base : Heap} {CN CB : Addr} {f : Addr} (h : Wd K mg CN CB) (cdv : Value) (A : Around) (outer : List PySem.Env) (s : Shared) (H : Hp) (E : XK) (hr : Room 5 (A.deeper (envOfC "holds" (defScope s_holds) s.heap.objs.size f cdv))) :
    PSs ((cxOf CX0 P w K mg base n_holds "holds" (defScope s_holds) f cdv A outer s H E).nox) (defBody s_holds) (t_holds K CN CB) :=
  (pss_cons (ps_expr (pe_c (pr_check_values h) (hr.mono (by decide)) pass0 (pa_cons (pv 0) (pa_cons (pv 1) (pa_cons (pv 2) pa_nil)))))
  (pss_one (ps_ret (pe_callB (cr_all rfl) (by rfl) h.f_all bt_all (pa_cons (pe_lc (own := [("y", 3), ("bases", 4)]) rfl sc_holds.nd (pi_tup (pe_ix ix_tup (pv 1) pe_int (fun _ _ => rfl))) (blkOk_by (own := [("y", 3), ("bases", 4)]) (N := n_holds) (sc := defScope s_holds) (by decide +kernel)) (fun _ _ _ _ _ => (pg_tup rfl (pgs_cons (pg_name (i := 3) sc_holds.nd rfl (by first | exact Or.inl rfl | exact Or.inr rfl)) (pgs_cons (pg_name (i := 4) sc_holds.nd rfl (by first | exact Or.inl rfl | exact Or.inr rfl)) pgs_nil)))) (fun _ _ _ _ _ => pts_nil) (fun _ _ _ _ _ => (pe_cmpR op_eq (pe_c (pr_product_of_powers h) hr pass0 (pa_cons (pv 0) (pa_cons (pe_callTy call_list_of (by rfl) h.f_list bt_list (pa_cons (pv 4) pa_nil)) (pa_cons (pe_callTy call_list_of (by rfl) h.f_list bt_list (pa_cons (pv 2) pa_nil)) pa_nil)))) (pv 3) (nomark _)))) pa_nil)))))
theorem pr_holds {P : Program} {w : World} {K : PySem.W.Frag} {mg : Str → Option Value} {base : Heap} {CN CB : Addr} (h : Wd K mg CN CB) : Pr P w K mg base CX0 6 "holds" ["q", "claim", "values"] (SP 3 R_holds) := by
  obtain ⟨f, fd, F, g⟩ := h.d_holds
  exact ⟨f, fd, okD F sc_holds (t_holds K CN CB) (der_holds h) (sem_holds (CN := CN) (CB := CB)), g, F.kp, F.bindsN fun _ _ _ _ _ _ us hl => match us, hl with | [_, _, _], _ => rfl⟩
theorem c_holds {ρ : Ev} {ta : TA} {q a0 b g1 x y : Int} (h : A ta ρ [.int q, dClaim a0 b g1, .tuple (dI [x, y])]) (hq : Bd q) (hb : isEl q b = true) (hg : isEl q g1 = true) (hx : inQ q x = true) (hy : inQ q y = true) : E (tCall (SP 3 R_holds) [] E0 ta) ρ (.bool (decide (pops q [b, g1] [x, y] = a0))) := e_call h rfl ⟨_, _, _, _, _, _, rfl, hq, hb, hg, hx, hy, rfl⟩
def R_claim_numbers : List PyData → PyData → Prop := fun ds d => ∃ a0 b g1 : Int, ds = [dClaim a0 b g1] ∧ d = .list (dI [2, 1, a0, b, g1])
def t_claim_numbers (K : PySem.W.Frag) (CN CB : Addr) : TS := (tSeq (tAsg (tLst (tCons (tOp (rIxT K) (tVar 0) (tC (.int 0))) (tCons (tCB (cLen K) (tCons (tOp (rIxT K) (tVar 0) (tC (.int 1))) tNil)) tNil))) (gName 1))
  (tSeq (tFor (iTup K (tOp (rIxT K) (tVar 0) (tC (.int 1)))) (gTup K 2 (gCons (gName 2) (gCons (gName 3) gNil))) (tSeq (tDrop (tBM K "list" rAppend (tVar 1) (tCons (tVar 2) tNil)))
  (tDrop (tBM K "list" (rExtend2 K) (tVar 1) (tCons (tVar 3) tNil)))))
  (tRet (tVar 1))))
theorem sem_claim_numbers {K : PySem.W.Frag} {CN CB : Addr} (ds : List PyData) (d : PyData) (h : R_claim_numbers ds d) : S W0 (t_claim_numbers K CN CB) (startR n_claim_numbers ds) none { nx := fun _ _ => d = .none, rt := fun d' => d' = d } := by
  obtain ⟨a0, b, g1, rfl, rfl⟩ := h
  show S W0 _ [some (dClaim a0 b g1), none, none, none] none _
  refine s_seq (s_own (ds := [.int 2, .int 1]) (a_cons (e_op (e_var rfl) e_int (o_ixT rfl)) (a_cons (e_cb (a_cons (e_op (e_var rfl) e_int (o_ixT rfl)) a_nil) c_lenT) a_nil)) (by simp) ?_ (by simp))
  refine s_seq (s_for (w_tup (e_op (e_var rfl) e_int (o_ixT rfl))) (fun i ρ ow => ∃ x2 x3, ρ = [some (dClaim a0 b g1), none, x2, x3] ∧ ow = some (1, if i = 0 then [.int 2, .int 1] else [.int 2, .int 1, .int a0, .int b, .int g1])) ⟨none, none, rfl, rfl⟩ ?_ ?_)
  · rintro i d ρ1 w1 hd ⟨x2, x3, rfl, rfl⟩
    obtain ⟨rfl, rfl⟩ := one_at hd
    refine ⟨_, _, g_tup (g_cons (g_cons g_nil)) rfl, rfl, ?_⟩
    refine s_seq (s_append (e_var rfl) (by simp) ?_)
    exact s_extendT (e_var rfl) (by simp) ⟨_, _, rfl, rfl⟩
  · rintro ρ' w' ⟨x2, x3, rfl, rfl⟩
    exact s_freeze (s_ret (e_var rfl) rfl)
theorem der_claim_numbers {P : Program} {w : World} {K : PySem.W.Frag} {mg : Str → Option Value} {base : Heap} {CN CB : Addr} {f : Addr} (h : Wd K mg CN CB) (cdv : Value) (A : Around) (outer : List PySem.Env) (s : Shared) (H : Hp) (E : XK) (hr : Room 0 (A.deeper (envOfC "claim_numbers" (defScope s_claim_numbers) s.heap.objs.size f cdv))) :
    PSs ((cxOf CX0 P w K mg base n_claim_numbers "claim_numbers" (defScope s_claim_numbers) f cdv A outer s H E).nox) (defBody s_claim_numbers) (t_claim_numbers K CN CB) :=
  (pss_cons (ps_set (i := 1) sc_claim_numbers.nd rfl (by first | exact Or.inl rfl | exact Or.inr rfl) (pe_lst (pa_cons (pe_ix ix_tup (pv 0) pe_int (fun _ _ => rfl)) (pa_cons (pe_callB call_len_seq (by rfl) h.f_len bt_len (pa_cons (pe_ix ix_tup (pv 0) pe_int (fun _ _ => rfl)) pa_nil)) pa_nil))))
  (pss_cons (ps_for PassesOwn.never rfl (pi_tup (pe_ix ix_tup (pv 0) pe_int (fun _ _ => rfl))) (pg_tup rfl (pgs_cons (pg_name (i := 2) sc_claim_numbers.nd rfl (by first | exact Or.inl rfl | exact Or.inr rfl)) (pgs_cons (pg_name (i := 3) sc_claim_numbers.nd rfl (by first | exact Or.inl rfl | exact Or.inr rfl)) pgs_nil))) (pss_cons (ps_expr (pe_bm PySem.F.plainAttrs_list PySem.F.slot_list_append PySem.F.type_list_append mt_append (pv 1) (pa_cons (pv 2) pa_nil)))
  (pss_one (ps_expr (pe_bm PySem.F.plainAttrs_list PySem.F.slot_list_extend PySem.F.type_list_extend mt_extend2 (pv 1) (pa_cons (pv 3) pa_nil))))))
  (pss_one (ps_ret (pv 1)))))
theorem pr_claim_numbers {P : Program} {w : World} {K : PySem.W.Frag} {mg : Str → Option Value} {base : Heap} {CN CB : Addr} (h : Wd K mg CN CB) : Pr P w K mg base CX0 1 "claim_numbers" ["claim"] (SP 1 R_claim_numbers) := by
  obtain ⟨f, fd, F, g⟩ := h.d_claim_numbers
  exact ⟨f, fd, okD F sc_claim_numbers (t_claim_numbers K CN CB) (der_claim_numbers h) (sem_claim_numbers (CN := CN) (CB := CB)), g, F.kp, F.bindsN fun _ _ _ _ _ _ us hl => match us, hl with | [_], _ => rfl⟩
theorem c_claim_numbers {ρ : Ev} {ta : TA} {a0 b g1 : Int} (h : A ta ρ [dClaim a0 b g1]) : E (tCall (SP 1 R_claim_numbers) [] E0 ta) ρ (.list (dI [2, 1, a0, b, g1])) := e_call h rfl ⟨_, _, _, rfl, rfl⟩
/-- the trace -/
def tr (q a0 b g1 c x y : Int) : Int := pops q [b, g1] [x, y] * pw q (pw q a0 c) (-1) % (2 * q + 1)
def R_traces : List PyData → PyData → Prop := fun ds d => ∃ q a0 b g1 c x y : Int, ds = [.int q, dClaim a0 b g1, .int c, .tuple (dI [x, y])] ∧ Bd q ∧ isEl q a0 = true ∧ isEl q b = true ∧ isEl q g1 = true ∧ inQ q c = true ∧ inQ q x = true ∧ inQ q y = true ∧ d = .list (dI [tr q a0 b g1 c x y])
def t_traces (K : PySem.W.Frag) (CN CB : Addr) : TS := (tSeq (tIfS (tNot (tB (tCall (SP 2 R_is_exponent) [] E0 (tCons (tVar 0) (tCons (tVar 2) tNil))))) tNever tNext)
  (tSeq (tDrop (tCall (SP 3 R_check_values) [] E0 (tCons (tVar 0) (tCons (tVar 1) (tCons (tVar 3) tNil)))))
  (tSeq (tAsg (tLst tNil) (gName 4))
  (tSeq (tFor (iTup K (tOp (rIxT K) (tVar 1) (tC (.int 1)))) (gTup K 2 (gCons (gName 5) (gCons (gName 6) gNil))) (tSeq (tAsg (tCall (SP 3 R_product_of_powers) [] E0 (tCons (tVar 0) (tCons (tCB (cList K) (tCons (tVar 6) tNil)) (tCons (tCB (cList K) (tCons (tVar 3) tNil)) tNil)))) (gName 7))
  (tDrop (tBM K "list" rAppend (tVar 4) (tCons (tCall (SP 3 R_product) [] E0 (tCons (tVar 0) (tCons (tVar 7) (tCons (tCall (SP 2 R_inverse) [] E0 (tCons (tVar 0) (tCons (tCall (SP 3 R_power) [] E0 (tCons (tVar 0) (tCons (tVar 5) (tCons (tVar 2) tNil)))) tNil))) tNil)))) tNil)))))
  (tRet (tVar 4))))))
theorem sem_traces {K : PySem.W.Frag} {CN CB : Addr} (ds : List PyData) (d : PyData) (h : R_traces ds d) : S W0 (t_traces K CN CB) (startR n_traces ds) none { nx := fun _ _ => d = .none, rt := fun d' => d' = d } := by
  obtain ⟨q, a0, b, g1, c, x, y, rfl, hq, hA, hb, hg, hc, hx, hy, rfl⟩ := h
  show S W0 _ [some (.int q), some (dClaim a0 b g1), some (.int c), some (.tuple (dI [x, y])), none, none, none, none] none _
  refine q_pass (t_is (t_not (t_b (c_is_exponent (by walk_at "ev")))) (by rw [hc]; rfl)) ?_
  refine q_drop (c_check_values (by walk_at "ev") hx hy) ?_
  refine s_seq (s_own (ds := []) a_nil (by simp) ?_ (by simp))
  refine s_seq (s_for (w_tup (e_op (e_var rfl) e_int (o_ixT rfl))) (fun i ρ ow => ∃ x5 x6 x7, ρ = [some (.int q), some (dClaim a0 b g1), some (.int c), some (.tuple (dI [x, y])), none, x5, x6, x7] ∧ ow = some (4, if i = 0 then [] else [.int (tr q a0 b g1 c x y)])) ⟨none, none, none, rfl, rfl⟩ ?_ ?_)
  · rintro i d ρ1 w1 hd ⟨x5, x6, x7, rfl, rfl⟩
    obtain ⟨rfl, rfl⟩ := one_at hd
    refine ⟨_, _, g_tup (g_cons (g_cons g_nil)) rfl, rfl, ?_⟩
    refine q_set (c_product_of_powers (bs := [b, g1]) (es := [x, y]) (by walk_at "ev") hq rfl (two_el hb hg)) rfl ?_
    refine s_append (c_product (a_cons (e_var rfl) (a_cons (e_var rfl) (a_cons (c_inverse (a_cons (e_var rfl) (a_cons (c_power (by walk_at "ev") hq hA) a_nil)) hq (el_pw hq hA)) a_nil))) hq (el_pops hq (two_el hb hg)) (el_pw hq (el_pw hq hA))) (by simp) ⟨_, _, _, rfl, rfl⟩
  · rintro ρ' w' ⟨x5, x6, x7, rfl, rfl⟩
    exact s_freeze (s_ret (e_var rfl) rfl)
theorem der_traces {P : Program} {w : World} {K : PySem.W.Frag} {mg : Str → Option Value} {base : Heap} {CN CB : Addr} {f : Addr} (h : Wd K mg CN CB) (cdv : Value) (A : Around) (outer : List PySem.Env) (s : Shared) (H : Hp) (E : XK) (hr : Room 5 (A.deeper (envOfC "traces" (defScope s_traces) s.heap.objs.size f cdv))) :
    PSs ((cxOf CX0 P w K mg base n_traces "traces" (defScope s_traces) f cdv A outer s H E).nox) (defBody s_traces) (t_traces K CN CB) :=
  (pss_cons (ps_if (pt_not (pt_val (pe_c (pr_is_exponent h) (hr.mono (by decide)) pass0 (pa_cons (pv 0) (pa_cons (pv 2) pa_nil))))) (pss_one ps_never) pss_nil)
  (pss_cons (ps_expr (pe_c (pr_check_values h) (hr.mono (by decide)) pass0 (pa_cons (pv 0) (pa_cons (pv 1) (pa_cons (pv 3) pa_nil)))))
  (pss_cons (ps_set (i := 4) sc_traces.nd rfl (by first | exact Or.inl rfl | exact Or.inr rfl) (pe_lst pa_nil))
  (pss_cons (ps_for PassesOwn.never rfl (pi_tup (pe_ix ix_tup (pv 1) pe_int (fun _ _ => rfl))) (pg_tup rfl (pgs_cons (pg_name (i := 5) sc_traces.nd rfl (by first | exact Or.inl rfl | exact Or.inr rfl)) (pgs_cons (pg_name (i := 6) sc_traces.nd rfl (by first | exact Or.inl rfl | exact Or.inr rfl)) pgs_nil))) (pss_cons (ps_set (i := 7) sc_traces.nd rfl (by first | exact Or.inl rfl | exact Or.inr rfl) (pe_c (pr_product_of_powers h) hr pass0 (pa_cons (pv 0) (pa_cons (pe_callTy call_list_of (by rfl) h.f_list bt_list (pa_cons (pv 6) pa_nil)) (pa_cons (pe_callTy call_list_of (by rfl) h.f_list bt_list (pa_cons (pv 3) pa_nil)) pa_nil)))))
  (pss_one (ps_expr (pe_bm PySem.F.plainAttrs_list PySem.F.slot_list_append PySem.F.type_list_append mt_append (pv 4) (pa_cons (pe_c (pr_product h) (hr.mono (by decide)) pass0 (pa_cons (pv 0) (pa_cons (pv 7) (pa_cons (pe_c (pr_inverse h) hr pass0 (pa_cons (pv 0) (pa_cons (pe_c (pr_power h) (hr.mono (by decide)) pass0 (pa_cons (pv 0) (pa_cons (pv 5) (pa_cons (pv 2) pa_nil)))) pa_nil))) pa_nil)))) pa_nil))))))
  (pss_one (ps_ret (pv 4)))))))
theorem pr_traces {P : Program} {w : World} {K : PySem.W.Frag} {mg : Str → Option Value} {base : Heap} {CN CB : Addr} (h : Wd K mg CN CB) : Pr P w K mg base CX0 6 "traces" ["q", "claim", "c", "answers"] (SP 4 R_traces) := by
  obtain ⟨f, fd, F, g⟩ := h.d_traces
  exact ⟨f, fd, okD F sc_traces (t_traces K CN CB) (der_traces h) (sem_traces (CN := CN) (CB := CB)), g, F.kp, F.bindsN fun _ _ _ _ _ _ us hl => match us, hl with | [_, _, _, _], _ => rfl⟩
theorem c_traces {ρ : Ev} {ta : TA} {q a0 b g1 c x y : Int} (h : A ta ρ [.int q, dClaim a0 b g1, .int c, .tuple (dI [x, y])]) (hq : Bd q) (hA : isEl q a0 = true) (hb : isEl q b = true) (hg : isEl q g1 = true) (hc : inQ q c = true) (hx : inQ q x = true) (hy : inQ q y = true) :
    E (tCall (SP 4 R_traces) [] E0 ta) ρ (.list (dI [tr q a0 b g1 c x y])) := e_call h rfl ⟨_, _, _, _, _, _, _, rfl, hq, hA, hb, hg, hc, hx, hy, rfl⟩
/-! ### choices -/
def clN (a0 g1 b : Int) : List Int := [2, 1, a0, b, g1]
def chN (a0 g1 : Int) (bs : List Int) : List Int := (bs.length : Int) :: bs.flatMap (clN a0 g1)
def R_choice_numbers : List PyData → List PyData → Prop := fun ds es => ∃ (a0 g1 : Int) (bs : List Int), ds = [dChoice a0 g1 bs] ∧ bs.length ≤ 25 ∧ es = dI (chN a0 g1 bs)
def t_choice_numbers (K : PySem.W.Frag) (CN CB : Addr) : TS := (tSeq (tAsg (tLst (tCons (tCB (cLen K) (tCons (tVar 0) tNil)) tNil)) (gName 1))
  (tSeq (tFor (iTup K (tVar 0)) (gName 2) (tDrop (tBM K "list" (rExtend2 K) (tVar 1) (tCons (tCall (SP 1 R_claim_numbers) [] E0 (tCons (tVar 2) tNil)) tNil))))
  (tRet (tVar 1))))
theorem flat_len (a0 g1 : Int) (bs : List Int) : (bs.flatMap (clN a0 g1)).length = 5 * bs.length := by
  induction bs with
  | nil => rfl
  | cons b bs ih =>
    rw [List.flatMap_cons, List.length_append, ih]
    simp only [clN, List.length_cons, List.length_nil]
    omega
theorem chN_len (a0 g1 : Int) (bs : List Int) : (chN a0 g1 bs).length = 5 * bs.length + 1 := by
  unfold chN
  rw [List.length_cons, flat_len]
theorem flat_take {a0 g1 : Int} {bs : List Int} {i : Nat} {b : Int} (h : bs[i]? = some b) : (bs.take (i + 1)).flatMap (clN a0 g1) = (bs.take i).flatMap (clN a0 g1) ++ clN a0 g1 b := by
  rw [List.take_add_one, h, List.flatMap_append]
  simp
theorem dI_app (a b : List Int) : dI (a ++ b) = dI a ++ dI b := by simp [dI]
theorem sem_choice_numbers {K : PySem.W.Frag} {CN CB : Addr} (ds : List PyData) (es : List PyData) (h : R_choice_numbers ds es) : S W0 (t_choice_numbers K CN CB) (startR n_choice_numbers ds) none { ro := fun es' => es' = es } := by
  obtain ⟨a0, g1, bs, rfl, hl, rfl⟩ := h
  show S W0 _ [some (dChoice a0 g1 bs), none, none] none _
  refine s_seq (s_own (ds := [.int bs.length]) (a_cons (e_is (e_cb (a_cons (e_var rfl) a_nil) c_lenT) (by rw [List.length_map])) a_nil) (by simp) ?_ (by simp))
  refine s_seq (s_for (w_tup (e_var rfl)) (fun i ρ ow => ∃ x2, ρ = [some (dChoice a0 g1 bs), none, x2] ∧ ow = some (1, dI ((bs.length : Int) :: (bs.take i).flatMap (clN a0 g1)))) ⟨none, rfl, rfl⟩ ?_ ?_)
  · rintro i d ρ1 w1 hd ⟨x2, rfl, rfl⟩
    obtain ⟨b, hb, rfl⟩ := map_at hd
    refine ⟨_, _, g_name, rfl, ?_⟩
    refine s_extendL (c_claim_numbers (by walk_at "ev")) ?_ ⟨some (dClaim a0 b g1), rfl, ?_⟩
    · have hz : (bs.take i).length ≤ 25 := by rw [List.length_take]; omega
      rw [dI_len, dI_len, List.length_cons, flat_len]
      simp only [List.length_cons, List.length_nil]
      omega
    · rw [flat_take hb, ← dI_app]
      rfl
  · rintro ρ' w' ⟨x2, rfl, rfl⟩
    rw [List.length_map, List.take_length]
    exact s_retOwn rfl
theorem der_choice_numbers {P : Program} {w : World} {K : PySem.W.Frag} {mg : Str → Option Value} {base : Heap} {CN CB : Addr} {f : Addr} (h : Wd K mg CN CB) (cdv : Value) (A : Around) (outer : List PySem.Env) (s : Shared) (H : Hp) (E : XK) (hr : Room 1 (A.deeper (envOfC "choice_numbers" (defScope s_choice_numbers) s.heap.objs.size f cdv))) :
    PSs ((cxOf CX0 P w K mg base n_choice_numbers "choice_numbers" (defScope s_choice_numbers) f cdv A outer s H E).nox) (defBody s_choice_numbers) (t_choice_numbers K CN CB) :=
  (pss_cons (ps_set (i := 1) sc_choice_numbers.nd rfl (by first | exact Or.inl rfl | exact Or.inr rfl) (pe_lst (pa_cons (pe_callB call_len_seq (by rfl) h.f_len bt_len (pa_cons (pv 0) pa_nil)) pa_nil)))
  (pss_cons (ps_for PassesOwn.never rfl (pi_tup (pv 0)) (pg_name (i := 2) sc_choice_numbers.nd rfl (by first | exact Or.inl rfl | exact Or.inr rfl)) (pss_one (ps_expr (pe_bm PySem.F.plainAttrs_list PySem.F.slot_list_extend PySem.F.type_list_extend mt_extend2 (pv 1) (pa_cons (pe_c (pr_claim_numbers h) hr pass0 (pa_cons (pv 2) pa_nil)) pa_nil)))))
  (pss_one (ps_ret (pv 1)))))
theorem pr_choice_numbers {P : Program} {w : World} {K : PySem.W.Frag} {mg : Str → Option Value} {base : Heap} {CN CB : Addr} (h : Wd K mg CN CB) : Pr P w K mg base CX0 2 "choice_numbers" ["choice"] (SPo 1 R_choice_numbers) := by
  obtain ⟨f, fd, F, g⟩ := h.d_choice_numbers
  exact ⟨f, fd, okO F sc_choice_numbers (t_choice_numbers K CN CB) (der_choice_numbers h) (sem_choice_numbers (CN := CN) (CB := CB)), g, F.kp, F.bindsN fun _ _ _ _ _ _ us hl => match us, hl with | [_], _ => rfl⟩
def R_has_form : List PyData → PyData → Prop := fun ds d => ∃ (q a0 g1 : Int) (bs : List Int) (ps : List Pp), ds = [.int q, dChoice a0 g1 bs, dPaper ps] ∧ bs.length = ps.length ∧ (∀ p ∈ ps, okPP q p = true) ∧ d = .bool true
def t_has_form (K : PySem.W.Frag) (CN CB : Addr) : TS := (tSeq (tIfS (tTest (tOp rNe (tCB (cLen K) (tCons (tVar 2) tNil)) (tCB (cLen K) (tCons (tVar 1) tNil)))) (tRet (tC (.bl false))) tNext)
  (tSeq (tFor (RZ.iZipA K (tCons (tVar 1) (tCons (tVar 2) tNil))) (gTup K 2 (gCons (gName 3) (gCons (gName 4) gNil))) (tIfS (tOr (tTest (tOp rNe (tCB (cLen K) (tCons (tVar 4) tNil)) (tC (.int 2)))) (tOr (tNot (tB (tCall (SP 2 R_is_exponent) [] E0 (tCons (tVar 0) (tCons (tOp (rIxT K) (tVar 4) (tC (.int 0))) tNil))))) (tNot (tB (tCall (SP 3 R_are_values) [] E0 (tCons (tVar 0) (tCons (tVar 3) (tCons (tOp (rIxT K) (tVar 4) (tC (.int 1))) tNil)))))))) (tRet (tC (.bl false))) tNext))
  (tRet (tC (.bl true)))))
theorem sem_has_form {K : PySem.W.Frag} {CN CB : Addr} (ds : List PyData) (d : PyData) (h : R_has_form ds d) : S W0 (t_has_form K CN CB) (startR n_has_form ds) none { nx := fun _ _ => d = .none, rt := fun d' => d' = d } := by
  obtain ⟨q, a0, g1, bs, ps, rfl, hl, hp, rfl⟩ := h
  show S W0 _ [some (.int q), some (dChoice a0 g1 bs), some (dPaper ps), none, none] none _
  refine q_pass (t_is (t_test (by walk_at "ev")) (by simp [hl])) ?_
  refine s_seq (s_for (w_zipT (by walk_at "ev") (by simp [hl])) (fun i ρ ow => ow = none ∧ ∃ x3 x4, ρ = [some (.int q), some (dChoice a0 g1 bs), some (dPaper ps), x3, x4]) ⟨rfl, none, none, rfl⟩ ?_ ?_)
  · rintro i d ρ1 w1 hd ⟨rfl, x3, x4, rfl⟩
    obtain ⟨b, p, hb, hpp, rfl⟩ := zipM_at hd
    have ok := okPP_iff.mp (hp p (List.mem_of_getElem? hpp))
    refine ⟨_, _, g_tup (g_cons (g_cons g_nil)) rfl, rfl, ?_⟩
    refine s_pass (t_is (t_or (b := false) (c := false) (t_is (t_test (e_op (e_cb (a_cons (e_var rfl) a_nil) c_lenT) e_int o_neI)) rfl) (fun _ => t_is (t_or (t_not (t_b (c_is_exponent (by walk_at "ev")))) (fun _ => t_not (t_b (c_are_values (vs := [p.2.1, p.2.2]) (by walk_at "ev") (by simp))))) ?_)) rfl) ⟨rfl, _, _, rfl⟩
    rw [ok.1, two_ok ok.2.1 ok.2.2]
    rfl
  · rintro ρ' w' ⟨rfl, x3, x4, rfl⟩
    walk_at "ret"
theorem der_has_form {P : Program} {w : World} {K : PySem.W.Frag} {mg : Str → Option Value} {base : Heap} {CN CB : Addr} {f : Addr} (h : Wd K mg CN CB) (cdv : Value) (A : Around) (outer : List PySem.Env) (s : Shared) (H : Hp) (E : XK) (hr : Room 2 (A.deeper (envOfC "has_form" (defScope s_has_form) s.heap.objs.size f cdv))) :
    PSs ((cxOf CX0 P w K mg base n_has_form "has_form" (defScope s_has_form) f cdv A outer s H E).nox) (defBody s_has_form) (t_has_form K CN CB) :=
  (pss_cons (ps_if (pt_cmpR op_ne (pe_callB call_len_seq (by rfl) h.f_len bt_len (pa_cons (pv 2) pa_nil)) (pe_callB call_len_seq (by rfl) h.f_len bt_len (pa_cons (pv 1) pa_nil)) (nomark _)) (pss_one (ps_ret pe_bl)) pss_nil)
  (pss_cons (ps_for PassesOwn.never rfl (RZ.pi_zipA (by rfl) h.f_zip (pa_cons (pv 1) (pa_cons (pv 2) pa_nil))) (pg_tup rfl (pgs_cons (pg_name (i := 3) sc_has_form.nd rfl (by first | exact Or.inl rfl | exact Or.inr rfl)) (pgs_cons (pg_name (i := 4) sc_has_form.nd rfl (by first | exact Or.inl rfl | exact Or.inr rfl)) pgs_nil))) (pss_one (ps_if (PW.pt (pw_or (pt_cmpR op_ne (pe_callB call_len_seq (by rfl) h.f_len bt_len (pa_cons (pv 4) pa_nil)) pe_int (nomark _)) (pw_or (pt_not (pt_val (pe_c (pr_is_exponent h) (hr.mono (by decide)) pass0 (pa_cons (pv 0) (pa_cons (pe_ix ix_tup (pv 4) pe_int (fun _ _ => rfl)) pa_nil))))) (pw_or1 (pt_not (pt_val (pe_c (pr_are_values h) hr pass0 (pa_cons (pv 0) (pa_cons (pv 3) (pa_cons (pe_ix ix_tup (pv 4) pe_int (fun _ _ => rfl)) pa_nil)))))))))) (pss_one (ps_ret pe_bl)) pss_nil)))
  (pss_one (ps_ret pe_bl))))
theorem pr_has_form {P : Program} {w : World} {K : PySem.W.Frag} {mg : Str → Option Value} {base : Heap} {CN CB : Addr} (h : Wd K mg CN CB) : Pr P w K mg base CX0 3 "has_form" ["q", "choice", "paper"] (SP 3 R_has_form) := by
  obtain ⟨f, fd, F, g⟩ := h.d_has_form
  exact ⟨f, fd, okD F sc_has_form (t_has_form K CN CB) (der_has_form h) (sem_has_form (CN := CN) (CB := CB)), g, F.kp, F.bindsN fun _ _ _ _ _ _ us hl => match us, hl with | [_, _, _], _ => rfl⟩
theorem c_has_form {ρ : Ev} {ta : TA} {q a0 g1 : Int} {bs : List Int} {ps : List Pp} (h : A ta ρ [.int q, dChoice a0 g1 bs, dPaper ps]) (hl : bs.length = ps.length) (hp : ∀ p ∈ ps, okPP q p = true) : E (tCall (SP 3 R_has_form) [] E0 ta) ρ (.bool true) := e_call h rfl ⟨_, _, _, _, _, rfl, hl, hp, rfl⟩
/-- the traces of all claims -/
def trs (q a0 g1 : Int) (bs : List Int) (ps : List Pp) : List Int := (bs.zip ps).map fun x => tr q a0 x.1 g1 x.2.1 x.2.2.1 x.2.2.2
def callV (q : Int) (t : Str) (a0 g1 : Int) (bs : List Int) (ps : List Pp) : Int := chal q (joinV ("paper " ++ t) (chN a0 g1 bs ++ trs q a0 g1 bs ps))
/-- a choice over elements -/
structure GoodC (q0 a1 g1 : Int) (bs : List Int) : Prop where
  q : Bd q0
  a0 : isEl q0 a1 = true
  g : isEl q0 g1 = true
  b : ∀ b ∈ bs, isEl q0 b = true
  l : bs.length ≤ 25
def R_call_of : List PyData → PyData → Prop := fun ds d => ∃ (q : Int) (t : Str) (a0 g1 : Int) (bs : List Int) (ps : List Pp), ds = [.int q, .str t, dChoice a0 g1 bs, dPaper ps] ∧ GoodC q a0 g1 bs ∧ bs.length = ps.length ∧ (∀ p ∈ ps, okPP q p = true) ∧ t.length ≤ 9000 ∧ d = .int (callV q t a0 g1 bs ps)
def t_call_of (K : PySem.W.Frag) (CN CB : Addr) : TS := (tSeq (tAsg (tCall (SPo 1 R_choice_numbers) [] E0 (tCons (tVar 2) tNil)) (gName 4))
  (tSeq (tFor (RZ.iZipA K (tCons (tVar 2) (tCons (tVar 3) tNil))) (gTup K 2 (gCons (gName 5) (gCons (gName 6) gNil))) (tDrop (tBM K "list" (rExtend2 K) (tVar 4) (tCons (tCall (SP 4 R_traces) [] E0 (tCons (tVar 0) (tCons (tVar 5) (tCons (tOp (rIxT K) (tVar 6) (tC (.int 0))) (tCons (tOp (rIxT K) (tVar 6) (tC (.int 1))) tNil))))) tNil))))
  (tRet (tCall (SP 3 R_challenge_of) [] E0 (tCons (tVar 0) (tCons (tOp oCatS (tC (.str "paper ")) (tVar 1)) (tCons (tVar 4) tNil)))))))
theorem tr_range {q a0 b g1 c x y : Int} (hq : Bd q) : 0 ≤ tr q a0 b g1 c x y ∧ tr q a0 b g1 c x y < 2 * q + 1 := by
  unfold Bd at hq
  exact ⟨Int.emod_nonneg _ (by omega), Int.emod_lt_of_pos _ (by omega)⟩
theorem trs_small {q a0 g1 : Int} {bs : List Int} {ps : List Pp} (hq : Bd q) : Small (trs q a0 g1 bs ps) := fun n hn => by
  obtain ⟨x, _, rfl⟩ := List.mem_map.mp hn
  have h := tr_range (a0 := a0) (b := x.1) (g1 := g1) (c := x.2.1) (x := x.2.2.1) (y := x.2.2.2) hq
  unfold Bd at hq
  omega
theorem chN_small {q a0 g1 : Int} {bs : List Int} (g : GoodC q a0 g1 bs) : Small (chN a0 g1 bs) := fun n hn => by
  have hq := g.q
  unfold Bd at hq
  have hA := isEl_range g.a0
  have hg := isEl_range g.g
  have hl := g.l
  unfold chN at hn
  rcases List.mem_cons.mp hn with rfl | hn
  · omega
  · obtain ⟨b, hb, hn⟩ := List.mem_flatMap.mp hn
    have hb' := isEl_range (g.b b hb)
    simp only [clN, List.mem_cons, List.not_mem_nil, or_false] at hn
    omega
theorem Small.app {a b : List Int} (h : Small a) (k : Small b) : Small (a ++ b) := fun n hn => (List.mem_append.mp hn).elim (h n) (k n)
theorem trs_take {q a0 g1 : Int} {bs : List Int} {ps : List Pp} {i : Nat} {b : Int} {p : Pp} (h1 : bs[i]? = some b) (h2 : ps[i]? = some p) : ((bs.zip ps).take (i + 1)).map (fun x => tr q a0 x.1 g1 x.2.1 x.2.2.1 x.2.2.2) = ((bs.zip ps).take i).map (fun x => tr q a0 x.1 g1 x.2.1 x.2.2.1 x.2.2.2) ++ [tr q a0 b g1 p.1 p.2.1 p.2.2] := by
  rw [List.take_add_one, zip_at h1 h2, List.map_append]
  rfl
theorem pre_len (a t : Str) : (a ++ t).length = a.length + t.length := by
  show (a.cps ++ t.cps).size = _
  rw [Array.size_append]
  rfl
theorem sem_call_of {K : PySem.W.Frag} {CN CB : Addr} (ds : List PyData) (d : PyData) (h : R_call_of ds d) : S W0 (t_call_of K CN CB) (startR n_call_of ds) none { nx := fun _ _ => d = .none, rt := fun d' => d' = d } := by
  obtain ⟨q, t, a0, g1, bs, ps, rfl, g, hl, hp, ht, rfl⟩ := h
  have hq := g.q
  have hq' := hq
  unfold Bd at hq'
  have hl25 := g.l
  have o6 : (PySem.Str.ofString "paper ").length = 6 := by decide
  show S W0 _ [some (.int q), some (.str t), some (dChoice a0 g1 bs), some (dPaper ps), none, none, none] none _
  refine s_seq (s_callOwn (es := dI (chN a0 g1 bs)) (a_cons (e_var rfl) a_nil) rfl ⟨_, _, _, rfl, hl25, rfl⟩ ?_ (by simp))
  refine s_seq (s_for (w_zipT (by walk_at "ev") (by simp [hl])) (fun i ρ ow => ∃ x5 x6, ρ = [some (.int q), some (.str t), some (dChoice a0 g1 bs), some (dPaper ps), none, x5, x6] ∧ ow = some (4, dI (chN a0 g1 bs ++ ((bs.zip ps).take i).map fun x => tr q a0 x.1 g1 x.2.1 x.2.2.1 x.2.2.2))) ⟨none, none, rfl, by simp⟩ ?_ ?_)
  · rintro i d ρ1 w1 hd ⟨x5, x6, rfl, rfl⟩
    obtain ⟨b, p, hb, hpp, rfl⟩ := zipM_at hd
    have ok := okPP_iff.mp (hp p (List.mem_of_getElem? hpp))
    refine ⟨_, _, g_tup (g_cons (g_cons g_nil)) rfl, rfl, ?_⟩
    refine s_extendL (c_traces (x := p.2.1) (y := p.2.2) (by walk_at "ev") hq g.a0 (g.b b (List.mem_of_getElem? hb)) g.g ok.1 ok.2.1 ok.2.2) ?_ ⟨_, _, rfl, ?_⟩
    · have z := List.length_take_le' i (bs.zip ps)
      have z2 : (bs.zip ps).length ≤ 25 := by rw [List.length_zip]; omega
      rw [dI_len, dI_len, List.length_append, chN_len, List.length_map]
      simp only [List.length_cons, List.length_nil]
      omega
    · rw [trs_take hb hpp, ← List.append_assoc, dI_app (_ ++ _) [_]]
  · rintro ρ' w' ⟨x5, x6, rfl, rfl⟩
    have hn : (bs.zip ps).take (zipD (bs.map fun b => dClaim a0 b g1) (ps.map dPP)).length = bs.zip ps := by
      rw [zipM_len hl, show bs.length = (bs.zip ps).length by rw [List.length_zip]; omega, List.take_length]
    rw [hn]
    have hz : (chN a0 g1 bs ++ trs q a0 g1 bs ps).length ≤ 1000 := by
      rw [List.length_append, chN_len, trs, List.length_map, List.length_zip]
      omega
    refine s_freeze (s_ret (c_challenge_of (w := "paper " ++ t) (ns := chN a0 g1 bs ++ trs q a0 g1 bs ps) (a_cons (e_var rfl) (a_cons (e_op e_str (e_var rfl) (o_catS ?_)) (a_cons (e_var rfl) a_nil))) (by omega) ?_ hz ((chN_small g).app (trs_small hq))) rfl)
    · exact sz_ok (by rw [o6]; omega)
    · rw [pre_len, o6]
      omega
theorem der_call_of {P : Program} {w : World} {K : PySem.W.Frag} {mg : Str → Option Value} {base : Heap} {CN CB : Addr} {f : Addr} (h : Wd K mg CN CB) (cdv : Value) (A : Around) (outer : List PySem.Env) (s : Shared) (H : Hp) (E : XK) (hr : Room 6 (A.deeper (envOfC "call_of" (defScope s_call_of) s.heap.objs.size f cdv))) :
    PSs ((cxOf CX0 P w K mg base n_call_of "call_of" (defScope s_call_of) f cdv A outer s H E).nox) (defBody s_call_of) (t_call_of K CN CB) :=
  (pss_cons (ps_set (i := 4) sc_call_of.nd rfl (by first | exact Or.inl rfl | exact Or.inr rfl) (pe_c (pr_choice_numbers h) (hr.mono (by decide)) pass0 (pa_cons (pv 2) pa_nil)))
  (pss_cons (ps_for PassesOwn.never rfl (RZ.pi_zipA (by rfl) h.f_zip (pa_cons (pv 2) (pa_cons (pv 3) pa_nil))) (pg_tup rfl (pgs_cons (pg_name (i := 5) sc_call_of.nd rfl (by first | exact Or.inl rfl | exact Or.inr rfl)) (pgs_cons (pg_name (i := 6) sc_call_of.nd rfl (by first | exact Or.inl rfl | exact Or.inr rfl)) pgs_nil))) (pss_one (ps_expr (pe_bm PySem.F.plainAttrs_list PySem.F.slot_list_extend PySem.F.type_list_extend mt_extend2 (pv 4) (pa_cons (pe_c (pr_traces h) hr pass0 (pa_cons (pv 0) (pa_cons (pv 5) (pa_cons (pe_ix ix_tup (pv 6) pe_int (fun _ _ => rfl)) (pa_cons (pe_ix ix_tup (pv 6) pe_int (fun _ _ => rfl)) pa_nil))))) pa_nil)))))
  (pss_one (ps_ret (pe_c (pr_challenge_of h) (hr.mono (by decide)) pass0 (pa_cons (pv 0) (pa_cons (pe_op op_add_str pe_str (pv 1)) (pa_cons (pv 4) pa_nil))))))))
theorem pr_call_of {P : Program} {w : World} {K : PySem.W.Frag} {mg : Str → Option Value} {base : Heap} {CN CB : Addr} (h : Wd K mg CN CB) : Pr P w K mg base CX0 7 "call_of" ["q", "text", "choice", "paper"] (SP 4 R_call_of) := by
  obtain ⟨f, fd, F, g⟩ := h.d_call_of
  exact ⟨f, fd, okD F sc_call_of (t_call_of K CN CB) (der_call_of h) (sem_call_of (CN := CN) (CB := CB)), g, F.kp, F.bindsN fun _ _ _ _ _ _ us hl => match us, hl with | [_, _, _, _], _ => rfl⟩
theorem c_call_of {ρ : Ev} {ta : TA} {q : Int} {t : Str} {a0 g1 : Int} {bs : List Int} {ps : List Pp} (h : A ta ρ [.int q, .str t, dChoice a0 g1 bs, dPaper ps]) (g : GoodC q a0 g1 bs) (hl : bs.length = ps.length) (hp : ∀ p ∈ ps, okPP q p = true) (ht : t.length ≤ 9000) :
    E (tCall (SP 4 R_call_of) [] E0 ta) ρ (.int (callV q t a0 g1 bs ps)) := e_call h rfl ⟨_, _, _, _, _, _, rfl, g, hl, hp, ht, rfl⟩
def R_check_maker : List PyData → PyData → Prop := fun ds d => ∃ (q a0 g1 : Int) (bs : List Int) (k : Nat) (b x y : Int), ds = [.int q, dChoice a0 g1 bs, .int (k : Nat), .tuple (dI [x, y])] ∧ GoodC q a0 g1 bs ∧ bs[k]? = some b ∧ inQ q x = true ∧ inQ q y = true ∧ pops q [b, g1] [x, y] = a0 ∧ d = .none
def t_check_maker (K : PySem.W.Frag) (CN CB : Addr) : TS := (tSeq (tIfS (tOr (tTest (tOp oLt (tVar 2) (tC (.int 0)))) (tOr (tTest (tOp oGe (tVar 2) (tCB (cLen K) (tCons (tVar 1) tNil)))) (tNot (tB (tCall (SP 3 R_are_values) [] E0 (tCons (tVar 0) (tCons (tOp (rIxT K) (tVar 1) (tVar 2)) (tCons (tVar 3) tNil)))))))) tNever tNext)
  (tIfS (tNot (tB (tCall (SP 3 R_holds) [] E0 (tCons (tVar 0) (tCons (tOp (rIxT K) (tVar 1) (tVar 2)) (tCons (tVar 3) tNil)))))) tNever tNext))
theorem atI_map' {bs : List Int} {a0 g1 b : Int} {k : Nat} (h : bs[k]? = some b) : atI (bs.map fun b => dClaim a0 b g1) (k : Nat) = some (dClaim a0 b g1) := atI_nat (at_map h)
theorem sem_check_maker {K : PySem.W.Frag} {CN CB : Addr} (ds : List PyData) (d : PyData) (h : R_check_maker ds d) : S W0 (t_check_maker K CN CB) (startR n_check_maker ds) none { nx := fun _ _ => d = .none, rt := fun d' => d' = d } := by
  obtain ⟨q, a0, g1, bs, k, b, x, y, rfl, g, hb, hx, hy, hh, rfl⟩ := h
  have hk : k < bs.length := (List.getElem?_eq_some_iff.mp hb).1
  show S W0 _ [some (.int q), some (dChoice a0 g1 bs), some (.int (k : Nat)), some (.tuple (dI [x, y]))] none _
  refine q_pass (t_is (t_or (b := false) (c := false) (t_is (t_test (by walk_at "ev")) (decide_eq_false (by omega))) (fun _ => t_is (t_or (b := false) (c := false) (t_is (t_test (by walk_at "ev")) (decide_eq_false (by rw [List.length_map]; omega)))
    (fun _ => t_is (t_not (t_b (c_are_values (vs := [x, y]) (a_cons (e_var rfl) (a_cons (e_op (e_var rfl) (e_var rfl) (o_ixT (atI_map' hb))) (a_cons (e_var rfl) a_nil))) (by simp)))) (by rw [two_ok hx hy]; rfl))) rfl)) rfl) ?_
  refine s_pass (t_is (t_not (t_b (c_holds (x := x) (y := y) (a_cons (e_var rfl) (a_cons (e_op (e_var rfl) (e_var rfl) (o_ixT (atI_map' hb))) (a_cons (e_var rfl) a_nil))) g.q (g.b b (List.mem_of_getElem? hb)) g.g hx hy))) (by rw [decide_eq_true hh]; rfl)) rfl
theorem der_check_maker {P : Program} {w : World} {K : PySem.W.Frag} {mg : Str → Option Value} {base : Heap} {CN CB : Addr} {f : Addr} (h : Wd K mg CN CB) (cdv : Value) (A : Around) (outer : List PySem.Env) (s : Shared) (H : Hp) (E : XK) (hr : Room 6 (A.deeper (envOfC "check_maker" (defScope s_check_maker) s.heap.objs.size f cdv))) :
    PSs ((cxOf CX0 P w K mg base n_check_maker "check_maker" (defScope s_check_maker) f cdv A outer s H E).nox) (defBody s_check_maker) (t_check_maker K CN CB) :=
  (pss_cons (ps_if (PW.pt (pw_or (pt_cmpR op_lt (pv 2) pe_int (nomark _)) (pw_or (pt_cmpR op_ge (pv 2) (pe_callB call_len_seq (by rfl) h.f_len bt_len (pa_cons (pv 1) pa_nil)) (nomark _)) (pw_or1 (pt_not (pt_val (pe_c (pr_are_values h) (hr.mono (by decide)) pass0 (pa_cons (pv 0) (pa_cons (pe_ix ix_tup (pv 1) (pv 2) (fun _ _ => rfl)) (pa_cons (pv 3) pa_nil)))))))))) (pss_one ps_never) pss_nil)
  (pss_one (ps_if (pt_not (pt_val (pe_c (pr_holds h) hr pass0 (pa_cons (pv 0) (pa_cons (pe_ix ix_tup (pv 1) (pv 2) (fun _ _ => rfl)) (pa_cons (pv 3) pa_nil)))))) (pss_one ps_never) pss_nil)))
theorem pr_check_maker {P : Program} {w : World} {K : PySem.W.Frag} {mg : Str → Option Value} {base : Heap} {CN CB : Addr} (h : Wd K mg CN CB) : Pr P w K mg base CX0 7 "check_maker" ["q", "choice", "index", "values"] (SP 4 R_check_maker) := by
  obtain ⟨f, fd, F, g⟩ := h.d_check_maker
  exact ⟨f, fd, okD F sc_check_maker (t_check_maker K CN CB) (der_check_maker h) (sem_check_maker (CN := CN) (CB := CB)), g, F.kp, F.bindsN fun _ _ _ _ _ _ us hl => match us, hl with | [_, _, _, _], _ => rfl⟩
theorem c_check_maker {ρ : Ev} {ta : TA} {q a0 g1 : Int} {bs : List Int} {k : Nat} {b x y : Int} (h : A ta ρ [.int q, dChoice a0 g1 bs, .int (k : Nat), .tuple (dI [x, y])]) (g : GoodC q a0 g1 bs) (hb : bs[k]? = some b) (hx : inQ q x = true) (hy : inQ q y = true) (hh : pops q [b, g1] [x, y] = a0) :
    E (tCall (SP 4 R_check_maker) [] E0 ta) ρ .none := e_call h rfl ⟨_, _, _, _, _, _, _, _, rfl, g, hb, hx, hy, hh, rfl⟩
/-- the c of the first i claims but that at idx -/
def othC (ps : List Pp) (idx : Int) (i : Nat) : List Int := ((List.range i).filter fun j => !decide (((j : Nat) : Int) = idx)).map fun j => (ps.getD j (0, 0, 0)).1
def sumO (ps : List Pp) (idx : Int) : Int := (othC ps idx ps.length).sum
theorem othC_yes {ps : List Pp} {idx : Int} {i : Nat} (h : (!decide (((i : Nat) : Int) = idx)) = true) : othC ps idx (i + 1) = othC ps idx i ++ [(ps.getD i (0, 0, 0)).1] := by
  unfold othC
  rw [List.range_succ, List.filter_append, List.map_append, List.filter_cons, if_pos h]
  rfl
theorem othC_no {ps : List Pp} {idx : Int} {i : Nat} (h : (!decide (((i : Nat) : Int) = idx)) = false) : othC ps idx (i + 1) = othC ps idx i := by
  unfold othC
  rw [List.range_succ, List.filter_append, List.map_append, List.filter_cons, if_neg (by rw [h]; decide)]
  simp
theorem othC_len (ps : List Pp) (idx : Int) (i : Nat) : (othC ps idx i).length ≤ i := by
  unfold othC
  rw [List.length_map]
  have h := List.length_filter_le (fun j : Nat => !decide (((j : Nat) : Int) = idx)) (List.range i)
  rw [List.length_range] at h
  exact h
theorem getD_at {α : Type} {l : List α} {i : Nat} {a z : α} (h : l[i]? = some a) : l.getD i z = a := by
  rw [List.getD_eq_getElem?_getD, h]
  rfl
def R_sum_of_others : List PyData → PyData → Prop := fun ds d => ∃ (ps : List Pp) (idx : Int), ds = [dPaper ps, .int idx] ∧ ps.length ≤ 1000 ∧ d = .int (sumO ps idx)
def t_sum_of_others (K : PySem.W.Frag) (CN CB : Addr) : TS := (tRet (tCB (rSum K) (tCons (tLc (iEnumT K (tCons (tVar 0) tNil)) (gTup K 2 (gCons (gName 2) (gCons (gName 3) gNil))) (tTest (tOp rNe (tVar 2) (tVar 1))) (tOp (rIxT K) (tVar 3) (tC (.int 0))) [2, 3]) tNil)))
theorem sem_sum_of_others {K : PySem.W.Frag} {CN CB : Addr} (ds : List PyData) (d : PyData) (h : R_sum_of_others ds d) : S W0 (t_sum_of_others K CN CB) (startR n_sum_of_others ds) none { nx := fun _ _ => d = .none, rt := fun d' => d' = d } := by
  obtain ⟨ps, idx, rfl, hl, rfl⟩ := h
  show S W0 _ [some (dPaper ps), some (.int idx), none, none] none _
  have hn : (enumD (ps.map dPP)).length = ps.length := by rw [enumD_length, List.length_map]
  refine s_ret (e_cb (a_cons (e_is (e_lc (ds := enumD (ps.map dPP)) (w_enumT (by walk_at "ev")) (fun i => dI (othC ps idx i)) rfl (by rw [hn]; omega) (fun i _ => by rw [dI_len]; exact othC_len ps idx i) fun i d hd => ?_) (by rw [hn])) a_nil) c_sum) rfl
  obtain ⟨e, he, rfl⟩ := enumD_mem hd
  obtain ⟨p, hp, rfl⟩ := map_at he
  refine ⟨_, _, !decide (((i : Nat) : Int) = idx), g_tup (g_cons (g_cons g_nil)) rfl, fun j hj => hj, t_test (by walk_at "ev"), fun hb => ⟨.int p.1, by walk_at "ev", ?_⟩, fun hb => ?_⟩
  · rw [othC_yes hb, dI_app, getD_at hp]
    rfl
  · rw [othC_no hb]
theorem der_sum_of_others {P : Program} {w : World} {K : PySem.W.Frag} {mg : Str → Option Value} {base : Heap} {CN CB : Addr} {f : Addr} (h : Wd K mg CN CB) (cdv : Value) (A : Around) (outer : List PySem.Env) (s : Shared) (H : Hp) (E : XK) (hr : Room 0 (A.deeper (envOfC "sum_of_others" (defScope s_sum_of_others) s.heap.objs.size f cdv))) :
    PSs ((cxOf CX0 P w K mg base n_sum_of_others "sum_of_others" (defScope s_sum_of_others) f cdv A outer s H E).nox) (defBody s_sum_of_others) (t_sum_of_others K CN CB) :=
  (pss_one (ps_ret (pe_callB (cr_sum rfl) (by rfl) h.f_sum bt_sum (pa_cons (pe_lc (own := [("at", 2), ("pair", 3)]) rfl sc_sum_of_others.nd (pi_enumT (by rfl) h.f_enumerate (pa_cons (pv 0) pa_nil)) (blkOk_by (own := [("at", 2), ("pair", 3)]) (N := n_sum_of_others) (sc := defScope s_sum_of_others) (by decide +kernel)) (fun _ _ _ _ _ => (pg_tup rfl (pgs_cons (pg_name (i := 2) sc_sum_of_others.nd rfl (by first | exact Or.inl rfl | exact Or.inr rfl)) (pgs_cons (pg_name (i := 3) sc_sum_of_others.nd rfl (by first | exact Or.inl rfl | exact Or.inr rfl)) pgs_nil)))) (fun _ _ _ _ _ => (pts_one (pt_cmpR op_ne (pv 2) (pv 1) (nomark _)))) (fun _ _ _ _ _ => (pe_ix ix_tup (pv 3) pe_int (fun _ _ => rfl)))) pa_nil))))
theorem pr_sum_of_others {P : Program} {w : World} {K : PySem.W.Frag} {mg : Str → Option Value} {base : Heap} {CN CB : Addr} (h : Wd K mg CN CB) : Pr P w K mg base CX0 1 "sum_of_others" ["paper", "index"] (SP 2 R_sum_of_others) := by
  obtain ⟨f, fd, F, g⟩ := h.d_sum_of_others
  exact ⟨f, fd, okD F sc_sum_of_others (t_sum_of_others K CN CB) (der_sum_of_others h) (sem_sum_of_others (CN := CN) (CB := CB)), g, F.kp, F.bindsN fun _ _ _ _ _ _ us hl => match us, hl with | [_, _], _ => rfl⟩
theorem c_sum_of_others {ρ : Ev} {ta : TA} {ps : List Pp} {idx : Int} (h : A ta ρ [dPaper ps, .int idx]) (hl : ps.length ≤ 1000) : E (tCall (SP 2 R_sum_of_others) [] E0 ta) ρ (.int (sumO ps idx)) := e_call h rfl ⟨_, _, rfl, hl, rfl⟩
/-- the paper that is made -/
def mkC (q : Int) (t : Str) (a0 g1 : Int) (bs : List Int) (k : Nat) (nz : List Pp) : Int := (callV q t a0 g1 bs nz - sumO nz (k : Nat)) % q
def mkP (q : Int) (t : Str) (a0 g1 : Int) (bs : List Int) (k : Nat) (x y : Int) (nz : List Pp) (n : Pp) : List Pp := nz.set k (mkC q t a0 g1 bs k nz, (n.2.1 + mkC q t a0 g1 bs k nz * x) % q, (n.2.2 + mkC q t a0 g1 bs k nz * y) % q)
def R_make_paper : List PyData → PyData → Prop := fun ds d => ∃ (q : Int) (t : Str) (a0 g1 : Int) (bs : List Int) (k : Nat) (b x y : Int) (nz : List Pp) (n : Pp), ds = [.int q, .str t, dChoice a0 g1 bs, .int (k : Nat), .tuple (dI [x, y]), dPaper nz] ∧ GoodC q a0 g1 bs ∧ bs[k]? = some b ∧ inQ q x = true ∧ inQ q y = true ∧ pops q [b, g1] [x, y] = a0 ∧
  bs.length = nz.length ∧ (∀ p ∈ nz, okPP q p = true) ∧ nz[k]? = some n ∧ n.1 = 0 ∧ t.length ≤ 9000 ∧ d = dPaper (mkP q t a0 g1 bs k x y nz n)
def t_make_paper (K : PySem.W.Frag) (CN CB : Addr) : TS := (tSeq (tDrop (tCall (SP 4 R_check_maker) [] E0 (tCons (tVar 0) (tCons (tVar 2) (tCons (tVar 3) (tCons (tVar 4) tNil))))))
  (tSeq (tIfS (tOr (tNot (tB (tCall (SP 3 R_has_form) [] E0 (tCons (tVar 0) (tCons (tVar 2) (tCons (tVar 5) tNil)))))) (tTest (tOp rNe (tOp (rIxT K) (tOp (rIxT K) (tVar 5) (tVar 3)) (tC (.int 0))) (tC (.int 0))))) tNever tNext)
  (tSeq (tAsg (tOp oMod (tOp oSub (tCall (SP 4 R_call_of) [] E0 (tCons (tVar 0) (tCons (tVar 1) (tCons (tVar 2) (tCons (tVar 5) tNil))))) (tCall (SP 2 R_sum_of_others) [] E0 (tCons (tVar 5) (tCons (tVar 3) tNil)))) (tVar 0)) (gName 6))
  (tSeq (tAsg (tCB (cTuple K) (tCons (tLc (RZ.iZipA K (tCons (tOp (rIxT K) (tOp (rIxT K) (tVar 5) (tVar 3)) (tC (.int 1))) (tCons (tVar 4) tNil))) (gTup K 2 (gCons (gName 8) (gCons (gName 9) gNil))) tYes (tOp oMod (tOp oAdd (tVar 8) (tOp oMul (tVar 6) (tVar 9))) (tVar 0)) [8, 9]) tNil)) (gName 7))
  (tRet (tOp (rCatA K) (tOp (rCatA K) (tSl (rSlA K) (tVar 5) tNoPart (tPart (tVar 3))) (tTup (tCons (tTup (tCons (tVar 6) (tCons (tVar 7) tNil))) tNil))) (tSl (rSlA K) (tVar 5) (tPart (tOp oAdd (tVar 3) (tC (.int 1)))) tNoPart)))))))
theorem cutD_pre {ds : List PyData} {k : Nat} (h : k < ds.length) : cutD ds none (some (k : Int)) = ds.take k := by
  unfold cutD
  rw [HT.sIx_none, HT.sIx_nat, Nat.min_eq_left (Nat.le_of_lt h)]
  simp
theorem cutD_post {ds : List PyData} {k : Nat} (h : k < ds.length) : cutD ds (some ((k : Int) + 1)) none = ds.drop (k + 1) := by
  unfold cutD
  have e : ((k : Int) + 1) = ((k + 1 : Nat) : Int) := by omega
  rw [HT.sIx_none, e, HT.sIx_nat, Nat.min_eq_left (by omega), List.take_of_length_le (by rw [List.length_drop]; omega)]
theorem set_split {α : Type} {l : List α} {k : Nat} {v : α} (h : k < l.length) : l.set k v = l.take k ++ v :: l.drop (k + 1) := by
  rw [List.set_eq_take_append_cons_drop, if_pos h]
theorem sem_make_paper {K : PySem.W.Frag} {CN CB : Addr} (ds : List PyData) (d : PyData) (h : R_make_paper ds d) : S W0 (t_make_paper K CN CB) (startR n_make_paper ds) none { nx := fun _ _ => d = .none, rt := fun d' => d' = d } := by
  obtain ⟨q, t, a0, g1, bs, k, b, x, y, nz, n, rfl, g, hb, hx, hy, hh, hl, hz, hn, hn0, ht, rfl⟩ := h
  have hq := g.q
  unfold Bd at hq
  have hl25 := g.l
  have hx' := inQ_iff.mp hx
  have hy' := inQ_iff.mp hy
  have hk : k < nz.length := (List.getElem?_eq_some_iff.mp hn).1
  have hk2 : k < (nz.map dPP).length := by rw [List.length_map]; exact hk
  have at_n : atI (nz.map dPP) (k : Nat) = some (dPP n) := atI_nat (at_map hn)
  have hc1 := Int.emod_nonneg (callV q t a0 g1 bs nz - sumO nz (k : Nat)) (show q ≠ 0 by omega)
  have hc2 := Int.emod_lt_of_pos (callV q t a0 g1 bs nz - sumO nz (k : Nat)) (show 0 < q by omega)
  show S W0 _ [some (.int q), some (.str t), some (dChoice a0 g1 bs), some (.int (k : Nat)), some (.tuple (dI [x, y])), some (dPaper nz), none, none, none, none] none _
  refine q_drop (c_check_maker (x := x) (y := y) (by walk_at "ev") g hb hx hy hh) ?_
  refine q_pass (t_is (t_or (b := false) (c := false) (t_is (t_not (t_b (c_has_form (by walk_at "ev") hl hz))) rfl) (fun _ => t_is (t_test (e_op (e_op (e_op (e_var rfl) (e_var rfl) (o_ixT at_n)) e_int (o_ixT rfl)) e_int o_neI)) (by simp [hn0]))) rfl) ?_
  refine q_set (d := .int (mkC q t a0 g1 bs k nz)) (e_op (e_op (c_call_of (by walk_at "ev") g hl hz ht) (c_sum_of_others (by walk_at "ev") (by omega)) o_sub) (e_var rfl) (o_mod (by omega))) rfl ?_
  refine q_set (d := .tuple (dI [(n.2.1 + mkC q t a0 g1 bs k nz * x) % q, (n.2.2 + mkC q t a0 g1 bs k nz * y) % q])) (e_cb (a_cons (e_lcM (w_zipT (ds := [.int n.2.1, .int n.2.2]) (es := [.int x, .int y]) (a_cons (e_op (e_op (e_var rfl) (e_var rfl) (o_ixT at_n)) e_int (o_ixT rfl)) (a_cons (e_var rfl) a_nil)) rfl) (dI [(n.2.1 + mkC q t a0 g1 bs k nz * x) % q, (n.2.2 + mkC q t a0 g1 bs k nz * y) % q]) rfl (by show 2 ≤ 100000; omega) fun i d hd => ?_) a_nil) c_tupL) rfl ?_
  · have hi : i = 0 ∨ i = 1 := by
      have := (List.getElem?_eq_some_iff.mp hd).1
      have e : (zipD [PyData.int n.2.1, .int n.2.2] [.int x, .int y]).length = 2 := rfl
      omega
    rcases hi with rfl | rfl
    · obtain rfl : PyData.tuple [.int n.2.1, .int x] = d := Option.some.inj hd
      exact ⟨_, _, _, g_tup (g_cons (g_cons g_nil)) rfl, fun j hj => hj, e_op (e_op (e_var rfl) (e_op (e_var rfl) (e_var rfl) (o_mul (.inr (by omega)))) o_add) (e_var rfl) (o_mod (by omega)), rfl⟩
    · obtain rfl : PyData.tuple [.int n.2.2, .int y] = d := Option.some.inj hd
      exact ⟨_, _, _, g_tup (g_cons (g_cons g_nil)) rfl, fun j hj => hj, e_op (e_op (e_var rfl) (e_op (e_var rfl) (e_var rfl) (o_mul (.inr (by omega)))) o_add) (e_var rfl) (o_mod (by omega)), rfl⟩
  · have l1 : (cutD (nz.map dPP) none (some (k : Int))).length ≤ 25 := by rw [cutD_pre hk2, List.length_take, List.length_map]; omega
    have l2 : (cutD (nz.map dPP) (some ((k : Int) + 1)) none).length ≤ 25 := by rw [cutD_post hk2, List.length_drop, List.length_map]; omega
    refine s_ret (e_op (e_op (e_sl (e_var rfl) p_none (p_some (e_var rfl)) s_tup) (e_tup (a_cons (e_tup (a_cons (e_var rfl) (a_cons (e_var rfl) a_nil)) (by simp)) a_nil) (by simp)) (o_catT ?_)) (e_sl (e_var rfl) (p_some (e_op (e_var rfl) e_int o_add)) p_none s_tup) (o_catT ?_)) ?_
    · exact sz_ok (by simp only [List.length_cons, List.length_nil]; omega)
    · exact sz_ok (by rw [List.length_append]; simp only [List.length_cons, List.length_nil]; omega)
    · show PyData.tuple _ = dPaper _
      rw [cutD_pre hk2, cutD_post hk2]
      unfold mkP
      show PyData.tuple _ = PyData.tuple ((nz.set k _).map dPP)
      rw [List.map_set, set_split hk2, List.append_assoc]
      rfl
theorem der_make_paper {P : Program} {w : World} {K : PySem.W.Frag} {mg : Str → Option Value} {base : Heap} {CN CB : Addr} {f : Addr} (h : Wd K mg CN CB) (cdv : Value) (A : Around) (outer : List PySem.Env) (s : Shared) (H : Hp) (E : XK) (hr : Room 7 (A.deeper (envOfC "make_paper" (defScope s_make_paper) s.heap.objs.size f cdv))) :
    PSs ((cxOf CX0 P w K mg base n_make_paper "make_paper" (defScope s_make_paper) f cdv A outer s H E).nox) (defBody s_make_paper) (t_make_paper K CN CB) :=
  (pss_cons (ps_expr (pe_c (pr_check_maker h) hr pass0 (pa_cons (pv 0) (pa_cons (pv 2) (pa_cons (pv 3) (pa_cons (pv 4) pa_nil))))))
  (pss_cons (ps_if (PW.pt (pw_or (pt_not (pt_val (pe_c (pr_has_form h) (hr.mono (by decide)) pass0 (pa_cons (pv 0) (pa_cons (pv 2) (pa_cons (pv 5) pa_nil)))))) (pw_or1 (pt_cmpR op_ne (pe_ix ix_tup (pe_ix ix_tup (pv 5) (pv 3) (fun _ _ => rfl)) pe_int (fun _ _ => rfl)) pe_int (nomark _))))) (pss_one ps_never) pss_nil)
  (pss_cons (ps_set (i := 6) sc_make_paper.nd rfl (by first | exact Or.inl rfl | exact Or.inr rfl) (pe_op op_mod (pe_op op_sub (pe_c (pr_call_of h) hr pass0 (pa_cons (pv 0) (pa_cons (pv 1) (pa_cons (pv 2) (pa_cons (pv 5) pa_nil))))) (pe_c (pr_sum_of_others h) (hr.mono (by decide)) pass0 (pa_cons (pv 5) (pa_cons (pv 3) pa_nil)))) (pv 0)))
  (pss_cons (ps_set (i := 7) sc_make_paper.nd rfl (by first | exact Or.inl rfl | exact Or.inr rfl) (pe_callTy call_tuple_of (by rfl) h.f_tuple bt_tuple (pa_cons (pe_lc (own := [("n", 8), ("x", 9)]) rfl sc_make_paper.nd (RZ.pi_zipA (by rfl) h.f_zip (pa_cons (pe_ix ix_tup (pe_ix ix_tup (pv 5) (pv 3) (fun _ _ => rfl)) pe_int (fun _ _ => rfl)) (pa_cons (pv 4) pa_nil))) (blkOk_by (own := [("n", 8), ("x", 9)]) (N := n_make_paper) (sc := defScope s_make_paper) (by decide +kernel)) (fun _ _ _ _ _ => (pg_tup rfl (pgs_cons (pg_name (i := 8) sc_make_paper.nd rfl (by first | exact Or.inl rfl | exact Or.inr rfl)) (pgs_cons (pg_name (i := 9) sc_make_paper.nd rfl (by first | exact Or.inl rfl | exact Or.inr rfl)) pgs_nil)))) (fun _ _ _ _ _ => pts_nil) (fun _ _ _ _ _ => (pe_op op_mod (pe_op op_add (pv 8) (pe_op op_mul (pv 6) (pv 9))) (pv 0)))) pa_nil)))
  (pss_one (ps_ret (pe_op op_catA (pe_op op_catA (pe_slice sl_tupA (pv 5) po_none (po_some (pv 3))) (pe_tup (pa_cons (pe_tup (pa_cons (pv 6) (pa_cons (pv 7) pa_nil))) pa_nil))) (pe_slice sl_tupA (pv 5) (po_some (pe_op op_add (pv 3) pe_int)) po_none))))))))
theorem pr_make_paper {P : Program} {w : World} {K : PySem.W.Frag} {mg : Str → Option Value} {base : Heap} {CN CB : Addr} (h : Wd K mg CN CB) : Pr P w K mg base CX0 8 "make_paper" ["q", "text", "choice", "index", "values", "noise"] (SP 6 R_make_paper) := by
  obtain ⟨f, fd, F, g⟩ := h.d_make_paper
  exact ⟨f, fd, okD F sc_make_paper (t_make_paper K CN CB) (der_make_paper h) (sem_make_paper (CN := CN) (CB := CB)), g, F.kp, F.bindsN fun _ _ _ _ _ _ us hl => match us, hl with | [_, _, _, _, _, _], _ => rfl⟩
theorem c_make_paper {ρ : Ev} {ta : TA} {q : Int} {t : Str} {a0 g1 : Int} {bs : List Int} {k : Nat} {b x y : Int} {nz : List Pp} {n : Pp} (h : A ta ρ [.int q, .str t, dChoice a0 g1 bs, .int (k : Nat), .tuple (dI [x, y]), dPaper nz]) (g : GoodC q a0 g1 bs) (hb : bs[k]? = some b) (hx : inQ q x = true) (hy : inQ q y = true) (hh : pops q [b, g1] [x, y] = a0)
    (hl : bs.length = nz.length) (hz : ∀ p ∈ nz, okPP q p = true) (hn : nz[k]? = some n) (hn0 : n.1 = 0) (ht : t.length ≤ 9000) : E (tCall (SP 6 R_make_paper) [] E0 ta) ρ (dPaper (mkP q t a0 g1 bs k x y nz n)) := e_call h rfl ⟨_, _, _, _, _, _, _, _, _, _, _, rfl, g, hb, hx, hy, hh, hl, hz, hn, hn0, ht, rfl⟩
/-- the paper is right -/
def rightP (q : Int) (t : Str) (a0 g1 : Int) (bs : List Int) (ps : List Pp) : Bool := decide ((sumO ps (-1) - callV q t a0 g1 bs ps) % q = 0)
structure GoodCP (q0 : Int) (t0 : Str) (a1 g1 : Int) (bs : List Int) (ps : List Pp) : Prop where
  c : GoodC q0 a1 g1 bs
  l : bs.length = ps.length
  p : ∀ p ∈ ps, okPP q0 p = true
  t : t0.length ≤ 9000
def R_check_paper : List PyData → PyData → Prop := fun ds d => ∃ (q : Int) (t : Str) (a0 g1 : Int) (bs : List Int) (ps : List Pp), ds = [.int q, .str t, dChoice a0 g1 bs, dPaper ps] ∧ GoodCP q t a0 g1 bs ps ∧ rightP q t a0 g1 bs ps = true ∧ d = .none
def Rx_check_paper (CN CB : Addr) : List PyData → Value → Prop := fun ds c => ∃ (q : Int) (t : Str) (a0 g1 : Int) (bs : List Int) (ps : List Pp), ds = [.int q, .str t, dChoice a0 g1 bs, dPaper ps] ∧ GoodCP q t a0 g1 bs ps ∧ rightP q t a0 g1 bs ps = false ∧ c = .ref CB
def t_check_paper (K : PySem.W.Frag) (CN CB : Addr) (W : WX) : TS := (tSeq (tIfS (tNot (tB (tCall (SP 3 R_has_form) [] E0 (tCons (tVar 0) (tCons (tVar 2) (tCons (tVar 3) tNil)))))) tNever tNext)
  (tIfS (tTest (tOp rNe (tOp oMod (tOp oSub (tCall (SP 2 R_sum_of_others) [] E0 (tCons (tVar 3) (tCons (tUn (rU fun i => .int (-i)) (tC (.int 1))) tNil))) (tCall (SP 4 R_call_of) [] E0 (tCons (tVar 0) (tCons (tVar 1) (tCons (tVar 2) (tCons (tVar 3) tNil)))))) (tVar 0)) (tC (.int 0)))) (tRaiseC W CB) tNext))
theorem t_rightP {q : Int} {t : Str} {a0 g1 : Int} {bs : List Int} {ps : List Pp} {Ec Es : TE} {ρ : Ev} (h0 : ρ[0]? = some (some (.int q))) (hq : Bd q) (hc : E Ec ρ (.int (callV q t a0 g1 bs ps))) (hs : E Es ρ (.int (sumO ps (-1)))) :
    T (tTest (tOp rNe (tOp oMod (tOp oSub Es Ec) (tVar 0)) (tC (.int 0)))) ρ (!rightP q t a0 g1 bs ps) := by
  unfold Bd at hq
  exact t_test (e_op (e_op (e_op hs hc o_sub) (e_var h0) (o_mod (by omega))) e_int o_neI)
theorem sem_check_paper {K : PySem.W.Frag} {CN CB : Addr} (W : WX) (ds : List PyData) (d : PyData) (h : R_check_paper ds d) : S W (t_check_paper K CN CB W) (startR n_check_paper ds) none { nx := fun _ _ => d = .none, rt := fun d' => d' = d } := by
  obtain ⟨q, t, a0, g1, bs, ps, rfl, g, hr, rfl⟩ := h
  have hl25 := g.c.l
  have hl := g.l
  show S W _ [some (.int q), some (.str t), some (dChoice a0 g1 bs), some (dPaper ps)] none _
  refine q_pass (t_is (t_not (t_b (c_has_form (by walk_at "ev") g.l g.p))) rfl) ?_
  exact s_pass (t_is (t_rightP rfl g.c.q (c_call_of (by walk_at "ev") g.c g.l g.p g.t) (c_sum_of_others (idx := -1) (by walk_at "ev") (by omega))) (by rw [hr]; rfl)) rfl
theorem semx_check_paper {K : PySem.W.Frag} {CN CB : Addr} (W : WX) (ds : List PyData) (c : Value) (h : Rx_check_paper CN CB ds c) : S W (t_check_paper K CN CB W) (startR n_check_paper ds) none { rs := fun c' => c' = c } := by
  obtain ⟨q, t, a0, g1, bs, ps, rfl, g, hr, rfl⟩ := h
  have hl25 := g.c.l
  have hl := g.l
  show S W _ [some (.int q), some (.str t), some (dChoice a0 g1 bs), some (dPaper ps)] none _
  refine q_pass (t_is (t_not (t_b (c_has_form (by walk_at "ev") g.l g.p))) rfl) ?_
  refine s_if (b := true) (t_is (t_rightP rfl g.c.q (c_call_of (by walk_at "ev") g.c g.l g.p g.t) (c_sum_of_others (idx := -1) (by walk_at "ev") (by omega))) (by rw [hr]; rfl)) (fun _ => s_raise rfl) (fun z => by cases z)
theorem der_check_paper {P : Program} {w : World} {K : PySem.W.Frag} {mg : Str → Option Value} {base : Heap} {CN CB : Addr} {f : Addr} (h : Wd K mg CN CB) (cdv : Value) (A : Around) (outer : List PySem.Env) (s : Shared) (H : Hp) (E : XK) (hr : Room 7 (A.deeper (envOfC "check_paper" (defScope s_check_paper) s.heap.objs.size f cdv))) :
    PSs (cxOf (L2.CX P w) P w K mg base n_check_paper "check_paper" (defScope s_check_paper) f cdv A outer s H E) (defBody s_check_paper) (t_check_paper K CN CB (WofE E)) :=
  (pss_cons (ps_if (pt_not (pt_val (pe_c (pr_has_form h) (hr.mono (by decide)) pass0 (pa_cons (pv 0) (pa_cons (pv 2) (pa_cons (pv 3) pa_nil)))))) (pss_one ps_never) pss_nil)
  (pss_one (ps_if (pt_cmpR op_ne (pe_op op_mod (pe_op op_sub (pe_c (pr_sum_of_others h) (hr.mono (by decide)) pass0 (pa_cons (pv 3) (pa_cons (pe_un un_neg pe_int) pa_nil))) (pe_c (pr_call_of h) hr pass0 (pa_cons (pv 0) (pa_cons (pv 1) (pa_cons (pv 2) (pa_cons (pv 3) pa_nil)))))) (pv 0)) pe_int (nomark _)) (pss_one (ps_raise rfl (takes_of rfl rfl rfl rfl) (pmk_own PySem.F.excBase_ValueError h.xB h.gB h.kB (raises_own h.bB h.tB) (by rfl)))) pss_nil)))
theorem pr_check_paper {P : Program} {w : World} {K : PySem.W.Frag} {mg : Str → Option Value} {base : Heap} {CN CB : Addr} (h : Wd K mg CN CB) : Pr P w K mg base (L2.CX P w) 8 "check_paper" ["q", "text", "choice", "paper"] (SPX 4 R_check_paper (Rx_check_paper CN CB)) := by
  obtain ⟨f, fd, F, g⟩ := h.d_check_paper
  exact ⟨f, fd, okX F sc_check_paper (t_check_paper K CN CB) (der_check_paper h) (sem_check_paper (CN := CN) (CB := CB)) (semx_check_paper (CN := CN) (CB := CB)), g, F.kp, F.bindsN fun _ _ _ _ _ _ us hl => match us, hl with | [_, _, _, _], _ => rfl⟩
end Ck

set_option Elab.async false
set_option linter.all false
set_option maxRecDepth 100000
set_option maxHeartbeats 1000000
set_option autoImplicit false
/-! # Pairs, passes, issuing -/
namespace Ck
open PySem PySem.Spec PyProof.Rows L2
local macro_rules | `(tactic| walk_at "ev1") => `(tactic| first
  | ((with_reducible apply e_var); exact rfl)
  | with_reducible exact e_int
  | with_reducible exact e_str
  | with_reducible exact e_bl
  | with_reducible exact e_non
  | with_reducible apply e_op
  | with_reducible exact o_add
  | with_reducible exact o_sub
  | with_reducible apply o_mul
  | with_reducible apply o_mod
  | with_reducible apply o_div
  | with_reducible exact o_lt
  | with_reducible exact o_le
  | with_reducible exact o_gt
  | with_reducible exact o_ge
  | with_reducible exact o_eqI
  | with_reducible exact o_neI
  | with_reducible exact o_eqS
  | with_reducible exact o_neS
  | ((with_reducible apply o_ixT); exact rfl)
  | ((with_reducible apply o_ixL); exact rfl)
  | with_reducible exact a_nil
  | with_reducible apply a_cons
  | with_reducible apply e_tup
  | with_reducible apply e_lst
  | with_reducible apply e_cb
  | with_reducible exact c_int
  | with_reducible exact c_intB
  | with_reducible exact c_abs
  | with_reducible exact c_ord
  | with_reducible exact c_lenL
  | with_reducible exact c_lenT
  | with_reducible exact c_listT
  | with_reducible exact c_tupL
  | with_reducible exact c_tupT
  | with_reducible exact c_all
  | with_reducible exact c_sum
  | with_reducible apply e_sl
  | with_reducible exact p_none
  | with_reducible apply p_some
  | with_reducible exact s_tup
  | with_reducible exact s_lst
  | ((with_reducible show CaD (cList _) _ _); first | exact c_listT | exact c_listL)
  | ((with_reducible show CaD (cTuple _) _ _); first | exact c_tupL | exact c_tupT)
  | with_reducible apply e_neg
  | with_reducible apply o_catL
  | with_reducible apply o_catT
  | with_reducible apply o_catS
  | with_reducible apply t_test
  | with_reducible apply t_b
  | with_reducible apply t_not)
local macro_rules | `(tactic| walk_at "ev") => `(tactic| repeat' walk_at "ev1")
local macro_rules | `(tactic| walk_at "side") => `(tactic| all_goals (try (first | rfl | omega)))
local macro_rules | `(tactic| walk_at "set") => `(tactic| (apply s_set; walk_at "ev"; walk_at "side"))
local macro_rules | `(tactic| walk_at "qset") => `(tactic| (apply q_set; walk_at "ev"; walk_at "side"))
local macro_rules | `(tactic| walk_at "ret") => `(tactic| (apply s_ret; walk_at "ev"; walk_at "side"))
local macro_rules | `(tactic| walk_at "ev1") => `(tactic| with_reducible apply c_coin)
local macro_rules | `(tactic| walk_at "ev1") => `(tactic| with_reducible apply c_challenge)
section
variable {ρ : Ev} {te : TE} {t u : TT}
theorem t_orF (h : T t ρ false) (k : T u ρ false) : T (tOr t u) ρ false := t_or (b := false) (c := false) h fun _ => k
theorem t_no (h : E te ρ (.bool true)) : T (tNot (tB te)) ρ false := t_not (b := true) (t_b h)
theorem t_noT (h : E te ρ (.bool true)) : T (tNot (tTest te)) ρ false := t_not (b := true) (t_test h)
end
/-! ### pairs -/
abbrev Q2 := Int × Int
abbrev dP (p : Q2) : PyData := .tuple [.int p.1, .int p.2]
abbrev dPs (ps : List Q2) : PyData := .list (ps.map dP)
def ix (p : Q2) : Int := 5 * p.1 + p.2
def OkP (p : Q2) : Prop := inQ 5 p.1 = true ∧ inQ 5 p.2 = true
structure GoodPs (ps : List Q2) : Prop where
  ok : ∀ p ∈ ps, OkP p
  up : ps.Pairwise fun a b => ix a < ix b
  l : ps.length ≤ 25
theorem OkP.ix_range {p : Q2} (h : OkP p) : 0 ≤ ix p ∧ ix p < 25 := by
  have h1 := inQ_iff.mp h.1
  have h2 := inQ_iff.mp h.2
  unfold ix
  omega
def R_is_pair : List PyData → PyData → Prop := fun ds d => ∃ p : Q2, ds = [dP p] ∧ OkP p ∧ d = .bool true
def t_is_pair (K : PySem.W.Frag) (CN CB : Addr) : TS := (tRet (tAndV (tOp rEq (tCB (cLen K) (tCons (tVar 0) tNil)) (tC (.int 2))) (tAndV (tChain oLe oLt (tC (.int 0)) (tOp (rIxT K) (tVar 0) (tC (.int 0))) (tC (.int 5))) (tChain oLe oLt (tC (.int 0)) (tOp (rIxT K) (tVar 0) (tC (.int 1))) (tC (.int 5))))))
theorem sem_is_pair {K : PySem.W.Frag} {CN CB : Addr} (ds : List PyData) (d : PyData) (h : R_is_pair ds d) : S W0 (t_is_pair K CN CB) (startR n_is_pair ds) none { nx := fun _ _ => d = .none, rt := fun d' => d' = d } := by
  obtain ⟨p, rfl, hp, rfl⟩ := h
  show S W0 _ [some (dP p)] none _
  refine s_ret (e_is (e_and (e_op (e_cb (a_cons (e_var rfl) a_nil) c_lenT) e_int o_eqI) fun _ => e_and (e_chain e_int (e_op (e_var rfl) e_int (o_ixT rfl)) o_le (fun _ => e_int) (fun _ => o_lt)) fun _ => e_chain e_int (e_op (e_var rfl) e_int (o_ixT rfl)) o_le (fun _ => e_int) (fun _ => o_lt)) ?_) rfl
  show PyData.bool (true && (inQ 5 p.1 && inQ 5 p.2)) = _
  rw [hp.1, hp.2]
  rfl
theorem der_is_pair {P : Program} {w : World} {K : PySem.W.Frag} {mg : Str → Option Value} {base : Heap} {CN CB : Addr} {f : Addr} (h : Wd K mg CN CB) (cdv : Value) (A : Around) (outer : List PySem.Env) (s : Shared) (H : Hp) (E : XK) (hr : Room 0 (A.deeper (envOfC "is_pair" (defScope s_is_pair) s.heap.objs.size f cdv))) :
    PSs ((cxOf CX0 P w K mg base n_is_pair "is_pair" (defScope s_is_pair) f cdv A outer s H E).nox) (defBody s_is_pair) (t_is_pair K CN CB) :=
  (pss_one (ps_ret (pe_and (pe_cmpR op_eq (pe_callB call_len_seq (by rfl) h.f_len bt_len (pa_cons (pv 0) pa_nil)) pe_int (nomark _)) (pe_and (pe_chain op_le op_lt pe_int (pe_ix ix_tup (pv 0) pe_int (fun _ _ => rfl)) (pe_gi h.c_AGES)) (pe_one (pe_chain op_le op_lt pe_int (pe_ix ix_tup (pv 0) pe_int (fun _ _ => rfl)) (pe_gi h.c_ZONES)))))))
theorem pr_is_pair {P : Program} {w : World} {K : PySem.W.Frag} {mg : Str → Option Value} {base : Heap} {CN CB : Addr} (h : Wd K mg CN CB) : Pr P w K mg base CX0 1 "is_pair" ["pair"] (SP 1 R_is_pair) := by
  obtain ⟨f, fd, F, g⟩ := h.d_is_pair
  exact ⟨f, fd, okD F sc_is_pair (t_is_pair K CN CB) (der_is_pair h) (sem_is_pair (CN := CN) (CB := CB)), g, F.kp, F.bindsN fun _ _ _ _ _ _ us hl => match us, hl with | [_], _ => rfl⟩
theorem c_is_pair {ρ : Ev} {ta : TA} {p : Q2} (h : A ta ρ [dP p]) (hp : OkP p) : E (tCall (SP 1 R_is_pair) [] E0 ta) ρ (.bool true) := e_call h rfl ⟨_, rfl, hp, rfl⟩
def R_index_of : List PyData → PyData → Prop := fun ds d => ∃ p : Q2, ds = [dP p] ∧ OkP p ∧ d = .int (ix p)
def t_index_of (K : PySem.W.Frag) (CN CB : Addr) : TS := (tSeq (tIfS (tNot (tB (tCall (SP 1 R_is_pair) [] E0 (tCons (tVar 0) tNil)))) tNever tNext)
  (tRet (tOp oAdd (tOp oMul (tC (.int 5)) (tOp (rIxT K) (tVar 0) (tC (.int 0)))) (tOp (rIxT K) (tVar 0) (tC (.int 1))))))
theorem sem_index_of {K : PySem.W.Frag} {CN CB : Addr} (ds : List PyData) (d : PyData) (h : R_index_of ds d) : S W0 (t_index_of K CN CB) (startR n_index_of ds) none { nx := fun _ _ => d = .none, rt := fun d' => d' = d } := by
  obtain ⟨p, rfl, hp, rfl⟩ := h
  show S W0 _ [some (dP p)] none _
  refine q_pass (t_no (c_is_pair (a_cons (e_var rfl) a_nil) hp)) ?_
  exact s_ret (e_op (e_op e_int (e_op (e_var rfl) e_int (o_ixT rfl)) (o_mul (.inl (by decide)))) (e_op (e_var rfl) e_int (o_ixT rfl)) o_add) rfl
theorem der_index_of {P : Program} {w : World} {K : PySem.W.Frag} {mg : Str → Option Value} {base : Heap} {CN CB : Addr} {f : Addr} (h : Wd K mg CN CB) (cdv : Value) (A : Around) (outer : List PySem.Env) (s : Shared) (H : Hp) (E : XK) (hr : Room 1 (A.deeper (envOfC "index_of" (defScope s_index_of) s.heap.objs.size f cdv))) :
    PSs ((cxOf CX0 P w K mg base n_index_of "index_of" (defScope s_index_of) f cdv A outer s H E).nox) (defBody s_index_of) (t_index_of K CN CB) :=
  (pss_cons (ps_if (pt_not (pt_val (pe_c (pr_is_pair h) hr pass0 (pa_cons (pv 0) pa_nil)))) (pss_one ps_never) pss_nil)
  (pss_one (ps_ret (pe_op op_add (pe_op op_mul (pe_gi h.c_ZONES) (pe_ix ix_tup (pv 0) pe_int (fun _ _ => rfl))) (pe_ix ix_tup (pv 0) pe_int (fun _ _ => rfl))))))
theorem pr_index_of {P : Program} {w : World} {K : PySem.W.Frag} {mg : Str → Option Value} {base : Heap} {CN CB : Addr} (h : Wd K mg CN CB) : Pr P w K mg base CX0 2 "index_of" ["pair"] (SP 1 R_index_of) := by
  obtain ⟨f, fd, F, g⟩ := h.d_index_of
  exact ⟨f, fd, okD F sc_index_of (t_index_of K CN CB) (der_index_of h) (sem_index_of (CN := CN) (CB := CB)), g, F.kp, F.bindsN fun _ _ _ _ _ _ us hl => match us, hl with | [_], _ => rfl⟩
theorem c_index_of {ρ : Ev} {ta : TA} {p : Q2} (h : A ta ρ [dP p]) (hp : OkP p) : E (tCall (SP 1 R_index_of) [] E0 ta) ρ (.int (ix p)) := e_call h rfl ⟨_, rfl, hp, rfl⟩
def R_check_set : List PyData → PyData → Prop := fun ds d => ∃ ps : List Q2, ds = [dPs ps] ∧ GoodPs ps ∧ d = .none
theorem up_at {ps : List Q2} (h : ps.Pairwise fun a b => ix a < ix b) {i j : Nat} {a b : Q2} (hij : i < j) (ha : ps[i]? = some a) (hb : ps[j]? = some b) : ix a < ix b := by
  have h1 := (List.getElem?_eq_some_iff.mp ha)
  have h2 := (List.getElem?_eq_some_iff.mp hb)
  obtain ⟨l1, e1⟩ := h1
  obtain ⟨l2, e2⟩ := h2
  have := List.pairwise_iff_getElem.mp h i j l1 l2 hij
  rw [e1, e2] at this
  exact this
def t_check_set (K : PySem.W.Frag) (CN CB : Addr) : TS := (tSeq (tAsg (tUn (rU fun i => .int (-i)) (tC (.int 1))) (gName 1))
  (tFor (iList K (tVar 0)) (gName 2) (tSeq (tAsg (tCall (SP 1 R_index_of) [] E0 (tCons (tVar 2) tNil)) (gName 3))
  (tSeq (tIfS (tTest (tOp oLe (tVar 3) (tVar 1))) tNever tNext)
  (tAsg (tVar 3) (gName 1))))))
theorem sem_check_set {K : PySem.W.Frag} {CN CB : Addr} (ds : List PyData) (d : PyData) (h : R_check_set ds d) : S W0 (t_check_set K CN CB) (startR n_check_set ds) none { nx := fun _ _ => d = .none, rt := fun d' => d' = d } := by
  obtain ⟨ps, rfl, g, rfl⟩ := h
  show S W0 _ [some (dPs ps), none, none, none] none _
  refine q_set (e_neg e_int) rfl ?_
  refine s_for (w_list (e_var rfl)) (fun i ρ ow => ow = none ∧ ∃ l x2 x3, ρ = [some (dPs ps), some (.int l), x2, x3] ∧ ∀ p, ps[i]? = some p → l < ix p) ⟨rfl, _, _, _, rfl, fun p hp => ?_⟩ ?_ ?_
  · have := (g.ok p (List.mem_of_getElem? hp)).ix_range
    omega
  · rintro i d ρ1 w1 hd ⟨rfl, l, x2, x3, rfl, hl⟩
    obtain ⟨p, hp, rfl⟩ := map_at hd
    refine ⟨_, _, g_name, rfl, ?_⟩
    refine q_set (c_index_of (a_cons (e_var rfl) a_nil) (g.ok p (List.mem_of_getElem? hp))) rfl ?_
    refine q_pass (t_is (t_test (e_op (e_var rfl) (e_var rfl) o_le)) (decide_eq_false (by have := hl p hp; omega))) ?_
    exact s_set (e_var rfl) rfl ⟨rfl, _, _, _, rfl, fun p' hp' => up_at g.up (Nat.lt_succ_self i) hp hp'⟩
  · rintro ρ' w' _
    rfl
theorem der_check_set {P : Program} {w : World} {K : PySem.W.Frag} {mg : Str → Option Value} {base : Heap} {CN CB : Addr} {f : Addr} (h : Wd K mg CN CB) (cdv : Value) (A : Around) (outer : List PySem.Env) (s : Shared) (H : Hp) (E : XK) (hr : Room 2 (A.deeper (envOfC "check_set" (defScope s_check_set) s.heap.objs.size f cdv))) :
    PSs ((cxOf CX0 P w K mg base n_check_set "check_set" (defScope s_check_set) f cdv A outer s H E).nox) (defBody s_check_set) (t_check_set K CN CB) :=
  (pss_cons (ps_set (i := 1) sc_check_set.nd rfl (by first | exact Or.inl rfl | exact Or.inr rfl) (pe_un un_neg pe_int))
  (pss_one (ps_for PassesOwn.never rfl (pi_list (pv 0)) (pg_name (i := 2) sc_check_set.nd rfl (by first | exact Or.inl rfl | exact Or.inr rfl)) (pss_cons (ps_set (i := 3) sc_check_set.nd rfl (by first | exact Or.inl rfl | exact Or.inr rfl) (pe_c (pr_index_of h) hr pass0 (pa_cons (pv 2) pa_nil)))
  (pss_cons (ps_if (pt_cmpR op_le (pv 3) (pv 1) (nomark _)) (pss_one ps_never) pss_nil)
  (pss_one (ps_set (i := 1) sc_check_set.nd rfl (by first | exact Or.inl rfl | exact Or.inr rfl) (pv 3))))))))
theorem pr_check_set {P : Program} {w : World} {K : PySem.W.Frag} {mg : Str → Option Value} {base : Heap} {CN CB : Addr} (h : Wd K mg CN CB) : Pr P w K mg base CX0 3 "check_set" ["pairs"] (SP 1 R_check_set) := by
  obtain ⟨f, fd, F, g⟩ := h.d_check_set
  exact ⟨f, fd, okD F sc_check_set (t_check_set K CN CB) (der_check_set h) (sem_check_set (CN := CN) (CB := CB)), g, F.kp, F.bindsN fun _ _ _ _ _ _ us hl => match us, hl with | [_], _ => rfl⟩
theorem c_check_set {ρ : Ev} {ta : TA} {ps : List Q2} (h : A ta ρ [dPs ps]) (hp : GoodPs ps) : E (tCall (SP 1 R_check_set) [] E0 ta) ρ .none := e_call h rfl ⟨_, rfl, hp, rfl⟩
/-! ### setups, persons, marks -/
structure Su where
  q : Int
  b0 : Int
  b1 : Int
  b2 : Int
  b3 : Int
  b4 : Int
abbrev dSu (s : Su) : PyData := .tuple [.int s.q, .tuple (dI [s.b0, s.b1, s.b2, s.b3, s.b4])]
structure GoodS (s : Su) : Prop where
  q : Bd s.q
  e0 : isEl s.q s.b0 = true
  e1 : isEl s.q s.b1 = true
  e2 : isEl s.q s.b2 = true
  e3 : isEl s.q s.b3 = true
  e4 : isEl s.q s.b4 = true
structure Pe where
  n : Int
  a : Int
  z : Int
abbrev dPe (p : Pe) : PyData := .tuple [.int p.n, .int p.a, .int p.z]
structure GoodPe (q : Int) (p : Pe) : Prop where
  n : inQ q p.n = true
  a : inQ 5 p.a = true
  z : inQ 5 p.z = true
def R_is_exponent2 : List PyData → PyData → Prop := fun ds d => ∃ q n : Int, ds = [.int q, .int n] ∧ d = .bool (inQ q n)
def t_is_exponent2 (K : PySem.W.Frag) (CN CB : Addr) : TS := (tRet (tChain oLe oLt (tC (.int 0)) (tVar 1) (tVar 0)))
theorem sem_is_exponent2 {K : PySem.W.Frag} {CN CB : Addr} (ds : List PyData) (d : PyData) (h : R_is_exponent2 ds d) : S W0 (t_is_exponent2 K CN CB) (startR n_is_exponent2 ds) none { nx := fun _ _ => d = .none, rt := fun d' => d' = d } := by
  obtain ⟨q, n, rfl, rfl⟩ := h
  show S W0 _ [some (.int q), some (.int n)] none _
  exact s_ret (e_chain e_int (e_var rfl) o_le (fun _ => e_var rfl) (fun _ => o_lt)) rfl
theorem der_is_exponent2 {P : Program} {w : World} {K : PySem.W.Frag} {mg : Str → Option Value} {base : Heap} {CN CB : Addr} {f : Addr} (h : Wd K mg CN CB) (cdv : Value) (A : Around) (outer : List PySem.Env) (s : Shared) (H : Hp) (E : XK) (hr : Room 0 (A.deeper (envOfC "is_exponent" (defScope s_is_exponent2) s.heap.objs.size f cdv))) :
    PSs ((cxOf CX0 P w K mg base n_is_exponent2 "is_exponent" (defScope s_is_exponent2) f cdv A outer s H E).nox) (defBody s_is_exponent2) (t_is_exponent2 K CN CB) :=
  (pss_one (ps_ret (pe_chain op_le op_lt pe_int (pv 1) (pv 0))))
theorem pr_is_exponent2 {P : Program} {w : World} {K : PySem.W.Frag} {mg : Str → Option Value} {base : Heap} {CN CB : Addr} (h : Wd K mg CN CB) : Pr P w K mg base CX0 1 "is_exponent_passes" ["q", "value"] (SP 2 R_is_exponent2) := by
  obtain ⟨f, fd, F, g⟩ := h.d_is_exponent2
  exact ⟨f, fd, okD F sc_is_exponent2 (t_is_exponent2 K CN CB) (der_is_exponent2 h) (sem_is_exponent2 (CN := CN) (CB := CB)), g, F.kp, F.bindsN fun _ _ _ _ _ _ us hl => match us, hl with | [_, _], _ => rfl⟩
theorem c_is_exponent2 {ρ : Ev} {ta : TA} {q n : Int} (h : A ta ρ [.int q, .int n]) : E (tCall (SP 2 R_is_exponent2) [] E0 ta) ρ (.bool (inQ q n)) := e_call h rfl ⟨_, _, rfl, rfl⟩
local macro_rules | `(tactic| walk_at "ev1") => `(tactic| with_reducible apply c_is_exponent2)
def R_check_person : List PyData → PyData → Prop := fun ds d => ∃ (s : Su) (p : Pe), ds = [dSu s, dPe p] ∧ GoodPe s.q p ∧ d = .none
def t_check_person (K : PySem.W.Frag) (CN CB : Addr) : TS := (tSeq (tAsg (tVar 1) (gTup K 3 (gCons (gName 2) (gCons (gName 3) (gCons (gName 4) gNil)))))
  (tIfS (tOr (tNot (tB (tCall (SP 2 R_is_exponent2) [] E0 (tCons (tOp (rIxT K) (tVar 0) (tC (.int 0))) (tCons (tVar 2) tNil))))) (tOr (tNot (tTest (tChain oLe oLe (tC (.int 0)) (tVar 3) (tC (.int 4))))) (tNot (tTest (tChain oLe oLe (tC (.int 0)) (tVar 4) (tC (.int 4))))))) tNever tNext))
theorem five {n : Int} (h : inQ 5 n = true) : (decide ((0 : Int) ≤ n) && decide (n ≤ 4)) = true := by
  have := inQ_iff.mp h
  simp only [Bool.and_eq_true, decide_eq_true_eq]
  omega
theorem sem_check_person {K : PySem.W.Frag} {CN CB : Addr} (ds : List PyData) (d : PyData) (h : R_check_person ds d) : S W0 (t_check_person K CN CB) (startR n_check_person ds) none { nx := fun _ _ => d = .none, rt := fun d' => d' = d } := by
  obtain ⟨s, p, rfl, g, rfl⟩ := h
  show S W0 _ [some (dSu s), some (dPe p), none, none, none] none _
  refine q_asg (e_var rfl) (g_tup (g_cons (g_cons (g_cons g_nil))) rfl) rfl ?_
  refine s_pass (t_orF (t_no (e_is (c_is_exponent2 (n := p.n) (by walk_at "ev")) (by rw [g.n]))) (t_orF (t_noT (e_is (e_chain e_int (e_var rfl) o_le (fun _ => e_int) (fun _ => o_le)) (by rw [five g.a]))) (t_noT (e_is (e_chain e_int (e_var rfl) o_le (fun _ => e_int) (fun _ => o_le)) (by rw [five g.z]))))) rfl
theorem der_check_person {P : Program} {w : World} {K : PySem.W.Frag} {mg : Str → Option Value} {base : Heap} {CN CB : Addr} {f : Addr} (h : Wd K mg CN CB) (cdv : Value) (A : Around) (outer : List PySem.Env) (s : Shared) (H : Hp) (E : XK) (hr : Room 1 (A.deeper (envOfC "check_person" (defScope s_check_person) s.heap.objs.size f cdv))) :
    PSs ((cxOf CX0 P w K mg base n_check_person "check_person" (defScope s_check_person) f cdv A outer s H E).nox) (defBody s_check_person) (t_check_person K CN CB) :=
  (pss_cons (ps_asg (pv 1) (pg_tup rfl (pgs_cons (pg_name (i := 2) sc_check_person.nd rfl (by first | exact Or.inl rfl | exact Or.inr rfl)) (pgs_cons (pg_name (i := 3) sc_check_person.nd rfl (by first | exact Or.inl rfl | exact Or.inr rfl)) (pgs_cons (pg_name (i := 4) sc_check_person.nd rfl (by first | exact Or.inl rfl | exact Or.inr rfl)) pgs_nil)))))
  (pss_one (ps_if (PW.pt (pw_or (pt_not (pt_val (pe_c (pr_is_exponent2 h) hr pass0 (pa_cons (pe_ix ix_tup (pv 0) pe_int (fun _ _ => rfl)) (pa_cons (pv 2) pa_nil))))) (pw_or (pt_not (pt_chain op_le op_le pe_int (pv 3) (pe_gi h.c_GREATEST))) (pw_or1 (pt_not (pt_chain op_le op_le pe_int (pv 4) (pe_gi h.c_GREATEST))))))) (pss_one ps_never) pss_nil)))
theorem pr_check_person {P : Program} {w : World} {K : PySem.W.Frag} {mg : Str → Option Value} {base : Heap} {CN CB : Addr} (h : Wd K mg CN CB) : Pr P w K mg base CX0 2 "check_person" ["setup", "person"] (SP 2 R_check_person) := by
  obtain ⟨f, fd, F, g⟩ := h.d_check_person
  exact ⟨f, fd, okD F sc_check_person (t_check_person K CN CB) (der_check_person h) (sem_check_person (CN := CN) (CB := CB)), g, F.kp, F.bindsN fun _ _ _ _ _ _ us hl => match us, hl with | [_, _], _ => rfl⟩
theorem c_check_person {ρ : Ev} {ta : TA} {s : Su} {p : Pe} (h : A ta ρ [dSu s, dPe p]) (g : GoodPe s.q p) : E (tCall (SP 2 R_check_person) [] E0 ta) ρ .none := e_call h rfl ⟨_, _, rfl, g, rfl⟩
def rest (s : Su) : List Int := [s.b1, s.b2, s.b3, s.b4]
theorem rest_el {s : Su} (g : GoodS s) : ∀ b ∈ rest s, isEl s.q b = true := by
  intro b hb
  simp only [rest, List.mem_cons, List.not_mem_nil, or_false] at hb
  rcases hb with rfl | rfl | rfl | rfl
  · exact g.e1
  · exact g.e2
  · exact g.e3
  · exact g.e4
def mark (s : Su) (p : Pe) : Int := pops s.q (rest s) [1, p.n, p.a, p.z]
theorem el_mark {s : Su} {p : Pe} (g : GoodS s) : isEl s.q (mark s p) = true := el_pops g.q (rest_el g)
def R_plain_mark : List PyData → PyData → Prop := fun ds d => ∃ (s : Su) (p : Pe), ds = [dSu s, dPe p] ∧ GoodS s ∧ d = .int (mark s p)
def t_plain_mark (K : PySem.W.Frag) (CN CB : Addr) : TS := (tSeq (tAsg (tVar 0) (gTup K 2 (gCons (gName 2) (gCons (gName 3) gNil))))
  (tRet (tCall (SP 3 R_product_of_powers) [] E0 (tCons (tVar 2) (tCons (tCB (cList K) (tCons (tSl (rSlA K) (tVar 3) (tPart (tC (.int 1))) tNoPart) tNil)) (tCons (tOp rCat (tLst (tCons (tC (.int 1)) tNil)) (tCB (cList K) (tCons (tVar 1) tNil))) tNil))))))
theorem cut_rest {s : Su} : cutD (dI [s.b0, s.b1, s.b2, s.b3, s.b4]) (some 1) none = dI (rest s) := rfl
theorem sem_plain_mark {K : PySem.W.Frag} {CN CB : Addr} (ds : List PyData) (d : PyData) (h : R_plain_mark ds d) : S W0 (t_plain_mark K CN CB) (startR n_plain_mark ds) none { nx := fun _ _ => d = .none, rt := fun d' => d' = d } := by
  obtain ⟨s, p, rfl, g, rfl⟩ := h
  show S W0 _ [some (dSu s), some (dPe p), none, none] none _
  refine q_asg (e_var rfl) (g_tup (g_cons (g_cons g_nil)) rfl) rfl ?_
  exact s_ret (c_product_of_powers (bs := rest s) (es := [1, p.n, p.a, p.z]) (a_cons (e_var rfl) (a_cons (e_cb (a_cons (e_sl (e_var rfl) (p_some e_int) p_none s_tup) a_nil) c_listT) (a_cons (e_op (e_lst (a_cons e_int a_nil) (by decide)) (e_cb (a_cons (e_var rfl) a_nil) c_listT) (o_catL (sz_ok (by simp [dI])))) a_nil))) g.q rfl (rest_el g)) rfl
theorem der_plain_mark {P : Program} {w : World} {K : PySem.W.Frag} {mg : Str → Option Value} {base : Heap} {CN CB : Addr} {f : Addr} (h : Wd K mg CN CB) (cdv : Value) (A : Around) (outer : List PySem.Env) (s : Shared) (H : Hp) (E : XK) (hr : Room 5 (A.deeper (envOfC "plain_mark" (defScope s_plain_mark) s.heap.objs.size f cdv))) :
    PSs ((cxOf CX0 P w K mg base n_plain_mark "plain_mark" (defScope s_plain_mark) f cdv A outer s H E).nox) (defBody s_plain_mark) (t_plain_mark K CN CB) :=
  (pss_cons (ps_asg (pv 0) (pg_tup rfl (pgs_cons (pg_name (i := 2) sc_plain_mark.nd rfl (by first | exact Or.inl rfl | exact Or.inr rfl)) (pgs_cons (pg_name (i := 3) sc_plain_mark.nd rfl (by first | exact Or.inl rfl | exact Or.inr rfl)) pgs_nil))))
  (pss_one (ps_ret (pe_c (pr_product_of_powers h) hr pass0 (pa_cons (pv 2) (pa_cons (pe_callTy call_list_of (by rfl) h.f_list bt_list (pa_cons (pe_slice sl_tupA (pv 3) (po_some pe_int) po_none) pa_nil)) (pa_cons (pe_op op_cat (pe_lst (pa_cons pe_int pa_nil)) (pe_callTy call_list_of (by rfl) h.f_list bt_list (pa_cons (pv 1) pa_nil))) pa_nil)))))))
theorem pr_plain_mark {P : Program} {w : World} {K : PySem.W.Frag} {mg : Str → Option Value} {base : Heap} {CN CB : Addr} (h : Wd K mg CN CB) : Pr P w K mg base CX0 6 "plain_mark" ["setup", "person"] (SP 2 R_plain_mark) := by
  obtain ⟨f, fd, F, g⟩ := h.d_plain_mark
  exact ⟨f, fd, okD F sc_plain_mark (t_plain_mark K CN CB) (der_plain_mark h) (sem_plain_mark (CN := CN) (CB := CB)), g, F.kp, F.bindsN fun _ _ _ _ _ _ us hl => match us, hl with | [_, _], _ => rfl⟩
theorem c_plain_mark {ρ : Ev} {ta : TA} {s : Su} {p : Pe} (h : A ta ρ [dSu s, dPe p]) (g : GoodS s) : E (tCall (SP 2 R_plain_mark) [] E0 ta) ρ (.int (mark s p)) := e_call h rfl ⟨_, _, rfl, g, rfl⟩
def R_mark_of : List PyData → PyData → Prop := fun ds d => ∃ (s : Su) (p : Pe), ds = [dSu s, dPe p] ∧ GoodS s ∧ GoodPe s.q p ∧ mark s p ≠ 1 ∧ d = .int (mark s p)
def Rx_mark_of (CN CB : Addr) : List PyData → Value → Prop := fun ds c => ∃ (s : Su) (p : Pe), ds = [dSu s, dPe p] ∧ GoodS s ∧ GoodPe s.q p ∧ mark s p = 1 ∧ c = .ref CN
def t_mark_of (K : PySem.W.Frag) (CN CB : Addr) (W : WX) : TS := (tSeq (tDrop (tCall (SP 2 R_check_person) [] E0 (tCons (tVar 0) (tCons (tVar 1) tNil))))
  (tSeq (tAsg (tCall (SP 2 R_plain_mark) [] E0 (tCons (tVar 0) (tCons (tVar 1) tNil))) (gName 2))
  (tSeq (tIfS (tTest (tOp rEq (tVar 2) (tC (.int 1)))) (tRaiseC W CN) tNext)
  (tRet (tVar 2)))))
theorem sem_mark_of {K : PySem.W.Frag} {CN CB : Addr} (W : WX) (ds : List PyData) (d : PyData) (h : R_mark_of ds d) : S W (t_mark_of K CN CB W) (startR n_mark_of ds) none { nx := fun _ _ => d = .none, rt := fun d' => d' = d } := by
  obtain ⟨s, p, rfl, g, gp, hm, rfl⟩ := h
  show S W _ [some (dSu s), some (dPe p), none] none _
  refine q_drop (c_check_person (by walk_at "ev") gp) ?_
  refine q_set (c_plain_mark (by walk_at "ev") g) rfl ?_
  refine q_pass (t_is (t_test (e_op (e_var rfl) e_int o_eqI)) (decide_eq_false hm)) ?_
  exact s_ret (e_var rfl) rfl
theorem semx_mark_of {K : PySem.W.Frag} {CN CB : Addr} (W : WX) (ds : List PyData) (c : Value) (h : Rx_mark_of CN CB ds c) : S W (t_mark_of K CN CB W) (startR n_mark_of ds) none { rs := fun c' => c' = c } := by
  obtain ⟨s, p, rfl, g, gp, hm, rfl⟩ := h
  show S W _ [some (dSu s), some (dPe p), none] none _
  refine q_drop (c_check_person (by walk_at "ev") gp) ?_
  refine q_set (c_plain_mark (by walk_at "ev") g) rfl ?_
  exact q_if (t_is (t_test (e_op (e_var rfl) e_int o_eqI)) (decide_eq_true hm)) (fun _ => s_raise rfl) (fun z => by cases z)
theorem der_mark_of {P : Program} {w : World} {K : PySem.W.Frag} {mg : Str → Option Value} {base : Heap} {CN CB : Addr} {f : Addr} (h : Wd K mg CN CB) (cdv : Value) (A : Around) (outer : List PySem.Env) (s : Shared) (H : Hp) (E : XK) (hr : Room 6 (A.deeper (envOfC "mark_of" (defScope s_mark_of) s.heap.objs.size f cdv))) :
    PSs (cxOf (L2.CX P w) P w K mg base n_mark_of "mark_of" (defScope s_mark_of) f cdv A outer s H E) (defBody s_mark_of) (t_mark_of K CN CB (WofE E)) :=
  (pss_cons (ps_expr (pe_c (pr_check_person h) (hr.mono (by decide)) pass0 (pa_cons (pv 0) (pa_cons (pv 1) pa_nil))))
  (pss_cons (ps_set (i := 2) sc_mark_of.nd rfl (by first | exact Or.inl rfl | exact Or.inr rfl) (pe_c (pr_plain_mark h) hr pass0 (pa_cons (pv 0) (pa_cons (pv 1) pa_nil))))
  (pss_cons (ps_if (pt_cmpR op_eq (pv 2) pe_int (nomark _)) (pss_one (ps_raise rfl (takes_of rfl rfl rfl rfl) (pmk_own PySem.F.excBase_ValueError h.xN h.gN h.kN (raises_own h.bN h.tN) (by rfl)))) pss_nil)
  (pss_one (ps_ret (pv 2))))))
theorem pr_mark_of {P : Program} {w : World} {K : PySem.W.Frag} {mg : Str → Option Value} {base : Heap} {CN CB : Addr} (h : Wd K mg CN CB) : Pr P w K mg base (L2.CX P w) 7 "mark_of" ["setup", "person"] (SPX 2 R_mark_of (Rx_mark_of CN CB)) := by
  obtain ⟨f, fd, F, g⟩ := h.d_mark_of
  exact ⟨f, fd, okX F sc_mark_of (t_mark_of K CN CB) (der_mark_of h) (sem_mark_of (CN := CN) (CB := CB)) (semx_mark_of (CN := CN) (CB := CB)), g, F.kp, F.bindsN fun _ _ _ _ _ _ us hl => match us, hl with | [_, _], _ => rfl⟩
theorem c_mark_of {CN CB : Addr} {ρ : Ev} {ta : TA} {s : Su} {p : Pe} (h : A ta ρ [dSu s, dPe p]) (g : GoodS s) (gp : GoodPe s.q p) (hm : mark s p ≠ 1) : E (tCall (SPX 2 R_mark_of (Rx_mark_of CN CB)) [] E0 ta) ρ (.int (mark s p)) := e_callX h rfl ⟨_, _, rfl, g, gp, hm, rfl⟩
/-! ### issuing -/
def R_check_secret : List PyData → PyData → Prop := fun ds d => ∃ (s : Su) (x : Int), ds = [dSu s, .int x] ∧ 1 ≤ x ∧ x < s.q ∧ d = .none
def t_check_secret (K : PySem.W.Frag) (CN CB : Addr) : TS := (tIfS (tNot (tTest (tChain oLe oLt (tC (.int 1)) (tVar 1) (tOp (rIxT K) (tVar 0) (tC (.int 0)))))) tNever tNext)
theorem sem_check_secret {K : PySem.W.Frag} {CN CB : Addr} (ds : List PyData) (d : PyData) (h : R_check_secret ds d) : S W0 (t_check_secret K CN CB) (startR n_check_secret ds) none { nx := fun _ _ => d = .none, rt := fun d' => d' = d } := by
  obtain ⟨s, x, rfl, h1, h2, rfl⟩ := h
  show S W0 _ [some (dSu s), some (.int x)] none _
  exact s_pass (t_noT (e_is (e_chain e_int (e_var rfl) o_le (fun _ => e_op (e_var rfl) e_int (o_ixT rfl)) (fun _ => o_lt)) (by rw [decide_eq_true h1, decide_eq_true h2]; rfl))) rfl
theorem der_check_secret {P : Program} {w : World} {K : PySem.W.Frag} {mg : Str → Option Value} {base : Heap} {CN CB : Addr} {f : Addr} (h : Wd K mg CN CB) (cdv : Value) (A : Around) (outer : List PySem.Env) (s : Shared) (H : Hp) (E : XK) (hr : Room 0 (A.deeper (envOfC "check_secret" (defScope s_check_secret) s.heap.objs.size f cdv))) :
    PSs ((cxOf CX0 P w K mg base n_check_secret "check_secret" (defScope s_check_secret) f cdv A outer s H E).nox) (defBody s_check_secret) (t_check_secret K CN CB) :=
  (pss_one (ps_if (pt_not (pt_chain op_le op_lt pe_int (pv 1) (pe_ix ix_tup (pv 0) pe_int (fun _ _ => rfl)))) (pss_one ps_never) pss_nil))
theorem pr_check_secret {P : Program} {w : World} {K : PySem.W.Frag} {mg : Str → Option Value} {base : Heap} {CN CB : Addr} (h : Wd K mg CN CB) : Pr P w K mg base CX0 1 "check_secret" ["setup", "secret"] (SP 2 R_check_secret) := by
  obtain ⟨f, fd, F, g⟩ := h.d_check_secret
  exact ⟨f, fd, okD F sc_check_secret (t_check_secret K CN CB) (der_check_secret h) (sem_check_secret (CN := CN) (CB := CB)), g, F.kp, F.bindsN fun _ _ _ _ _ _ us hl => match us, hl with | [_, _], _ => rfl⟩
theorem c_check_secret {ρ : Ev} {ta : TA} {s : Su} {x : Int} (h : A ta ρ [dSu s, .int x]) (h1 : 1 ≤ x) (h2 : x < s.q) : E (tCall (SP 2 R_check_secret) [] E0 ta) ρ .none := e_call h rfl ⟨_, _, rfl, h1, h2, rfl⟩
def R_check_exponents : List PyData → PyData → Prop := fun ds d => ∃ (s : Su) (vs : List Int), ds = [dSu s, .list (dI vs)] ∧ vs.length ≤ 1000 ∧ vs.all (inQ s.q) = true ∧ d = .none
def t_check_exponents (K : PySem.W.Frag) (CN CB : Addr) : TS := (tIfS (tNot (tB (tCB (rAll K) (tCons (tLc (iList K (tVar 1)) (gName 2) tYes (tCall (SP 2 R_is_exponent2) [] E0 (tCons (tOp (rIxT K) (tVar 0) (tC (.int 0))) (tCons (tVar 2) tNil))) [2]) tNil)))) tNever tNext)
theorem sem_check_exponents {K : PySem.W.Frag} {CN CB : Addr} (ds : List PyData) (d : PyData) (h : R_check_exponents ds d) : S W0 (t_check_exponents K CN CB) (startR n_check_exponents ds) none { nx := fun _ _ => d = .none, rt := fun d' => d' = d } := by
  obtain ⟨s, vs, rfl, hl, hv, rfl⟩ := h
  show S W0 _ [some (dSu s), some (.list (dI vs)), none] none _
  refine s_pass (t_no (e_is (e_testAll (q := s.q) (inQ s.q) (w_list (e_var rfl)) hl fun v _ => ?_) (by rw [hv]))) rfl
  exact c_is_exponent2 (a_cons (e_op (e_var rfl) e_int (o_ixT rfl)) (a_cons (e_var rfl) a_nil))
theorem der_check_exponents {P : Program} {w : World} {K : PySem.W.Frag} {mg : Str → Option Value} {base : Heap} {CN CB : Addr} {f : Addr} (h : Wd K mg CN CB) (cdv : Value) (A : Around) (outer : List PySem.Env) (s : Shared) (H : Hp) (E : XK) (hr : Room 1 (A.deeper (envOfC "check_exponents" (defScope s_check_exponents) s.heap.objs.size f cdv))) :
    PSs ((cxOf CX0 P w K mg base n_check_exponents "check_exponents" (defScope s_check_exponents) f cdv A outer s H E).nox) (defBody s_check_exponents) (t_check_exponents K CN CB) :=
  (pss_one (ps_if (pt_not (pt_val (pe_callB (cr_all rfl) (by rfl) h.f_all bt_all (pa_cons (pe_lc (own := [("value", 2)]) rfl sc_check_exponents.nd (pi_list (pv 1)) (blkOk_by (own := [("value", 2)]) (N := n_check_exponents) (sc := defScope s_check_exponents) (by decide +kernel)) (fun _ _ _ _ _ => (pg_name (i := 2) sc_check_exponents.nd rfl (by first | exact Or.inl rfl | exact Or.inr rfl))) (fun _ _ _ _ _ => pts_nil) (fun _ _ _ _ _ => (pe_c (pr_is_exponent2 h) hr pass0 (pa_cons (pe_ix ix_tup (pv 0) pe_int (fun _ _ => rfl)) (pa_cons (pv 2) pa_nil))))) pa_nil)))) (pss_one ps_never) pss_nil))
theorem pr_check_exponents {P : Program} {w : World} {K : PySem.W.Frag} {mg : Str → Option Value} {base : Heap} {CN CB : Addr} (h : Wd K mg CN CB) : Pr P w K mg base CX0 2 "check_exponents" ["setup", "values"] (SP 2 R_check_exponents) := by
  obtain ⟨f, fd, F, g⟩ := h.d_check_exponents
  exact ⟨f, fd, okD F sc_check_exponents (t_check_exponents K CN CB) (der_check_exponents h) (sem_check_exponents (CN := CN) (CB := CB)), g, F.kp, F.bindsN fun _ _ _ _ _ _ us hl => match us, hl with | [_, _], _ => rfl⟩
theorem c_check_exponents {ρ : Ev} {ta : TA} {s : Su} {vs : List Int} (h : A ta ρ [dSu s, .list (dI vs)]) (hl : vs.length ≤ 1000) (hv : vs.all (inQ s.q) = true) : E (tCall (SP 2 R_check_exponents) [] E0 ta) ρ .none := e_call h rfl ⟨_, _, rfl, hl, hv, rfl⟩
structure Bl where
  s : Int
  u : Int
  v : Int
  r1 : Int
  r2 : Int
  r3 : Int
  r4 : Int
abbrev dBl (b : Bl) : PyData := .tuple [.int b.s, .int b.u, .int b.v, .tuple (dI [b.r1, b.r2, b.r3, b.r4])]
structure GoodB (q : Int) (b : Bl) : Prop where
  al : [b.s, b.u, b.v, b.r1, b.r2, b.r3, b.r4].all (inQ q) = true
  s : b.s ≠ 0
  u : b.u ≠ 0
def R_check_blinding : List PyData → PyData → Prop := fun ds d => ∃ (s : Su) (b : Bl), ds = [dSu s, dBl b] ∧ GoodB s.q b ∧ d = .none
def t_check_blinding (K : PySem.W.Frag) (CN CB : Addr) : TS := (tSeq (tAsg (tVar 1) (gTup K 4 (gCons (gName 2) (gCons (gName 3) (gCons (gName 4) (gCons (gName 5) gNil))))))
  (tSeq (tDrop (tCall (SP 2 R_check_exponents) [] E0 (tCons (tVar 0) (tCons (tOp rCat (tLst (tCons (tVar 2) (tCons (tVar 3) (tCons (tVar 4) tNil)))) (tCB (cList K) (tCons (tVar 5) tNil))) tNil))))
  (tIfS (tOr (tTest (tOp rEq (tVar 2) (tC (.int 0)))) (tTest (tOp rEq (tVar 3) (tC (.int 0))))) tNever tNext)))
theorem sem_check_blinding {K : PySem.W.Frag} {CN CB : Addr} (ds : List PyData) (d : PyData) (h : R_check_blinding ds d) : S W0 (t_check_blinding K CN CB) (startR n_check_blinding ds) none { nx := fun _ _ => d = .none, rt := fun d' => d' = d } := by
  obtain ⟨s, b, rfl, g, rfl⟩ := h
  show S W0 _ [some (dSu s), some (dBl b), none, none, none, none] none _
  refine q_asg (e_var rfl) (g_tup (g_cons (g_cons (g_cons (g_cons g_nil)))) rfl) rfl ?_
  refine q_drop (c_check_exponents (vs := [b.s, b.u, b.v, b.r1, b.r2, b.r3, b.r4]) (a_cons (e_var rfl) (a_cons (e_op (e_lst (a_cons (e_var rfl) (a_cons (e_var rfl) (a_cons (e_var rfl) a_nil))) (by simp)) (e_cb (a_cons (e_var rfl) a_nil) c_listT) (o_catL (sz_ok (by simp [dI])))) a_nil)) (by simp) g.al) ?_
  exact s_pass (t_orF (t_is (t_test (e_op (e_var rfl) e_int o_eqI)) (decide_eq_false g.s)) (t_is (t_test (e_op (e_var rfl) e_int o_eqI)) (decide_eq_false g.u))) rfl
theorem der_check_blinding {P : Program} {w : World} {K : PySem.W.Frag} {mg : Str → Option Value} {base : Heap} {CN CB : Addr} {f : Addr} (h : Wd K mg CN CB) (cdv : Value) (A : Around) (outer : List PySem.Env) (s : Shared) (H : Hp) (E : XK) (hr : Room 2 (A.deeper (envOfC "check_blinding" (defScope s_check_blinding) s.heap.objs.size f cdv))) :
    PSs ((cxOf CX0 P w K mg base n_check_blinding "check_blinding" (defScope s_check_blinding) f cdv A outer s H E).nox) (defBody s_check_blinding) (t_check_blinding K CN CB) :=
  (pss_cons (ps_asg (pv 1) (pg_tup rfl (pgs_cons (pg_name (i := 2) sc_check_blinding.nd rfl (by first | exact Or.inl rfl | exact Or.inr rfl)) (pgs_cons (pg_name (i := 3) sc_check_blinding.nd rfl (by first | exact Or.inl rfl | exact Or.inr rfl)) (pgs_cons (pg_name (i := 4) sc_check_blinding.nd rfl (by first | exact Or.inl rfl | exact Or.inr rfl)) (pgs_cons (pg_name (i := 5) sc_check_blinding.nd rfl (by first | exact Or.inl rfl | exact Or.inr rfl)) pgs_nil))))))
  (pss_cons (ps_expr (pe_c (pr_check_exponents h) hr pass0 (pa_cons (pv 0) (pa_cons (pe_op op_cat (pe_lst (pa_cons (pv 2) (pa_cons (pv 3) (pa_cons (pv 4) pa_nil)))) (pe_callTy call_list_of (by rfl) h.f_list bt_list (pa_cons (pv 5) pa_nil))) pa_nil))))
  (pss_one (ps_if (PW.pt (pw_or (pt_cmpR op_eq (pv 2) pe_int (nomark _)) (pw_or1 (pt_cmpR op_eq (pv 3) pe_int (nomark _))))) (pss_one ps_never) pss_nil))))
theorem pr_check_blinding {P : Program} {w : World} {K : PySem.W.Frag} {mg : Str → Option Value} {base : Heap} {CN CB : Addr} (h : Wd K mg CN CB) : Pr P w K mg base CX0 3 "check_blinding" ["setup", "blinding"] (SP 2 R_check_blinding) := by
  obtain ⟨f, fd, F, g⟩ := h.d_check_blinding
  exact ⟨f, fd, okD F sc_check_blinding (t_check_blinding K CN CB) (der_check_blinding h) (sem_check_blinding (CN := CN) (CB := CB)), g, F.kp, F.bindsN fun _ _ _ _ _ _ us hl => match us, hl with | [_, _], _ => rfl⟩
theorem c_check_blinding {ρ : Ev} {ta : TA} {s : Su} {b : Bl} (h : A ta ρ [dSu s, dBl b]) (g : GoodB s.q b) : E (tCall (SP 2 R_check_blinding) [] E0 ta) ρ .none := e_call h rfl ⟨_, _, rfl, g, rfl⟩
def R_key_of : List PyData → PyData → Prop := fun ds d => ∃ (s : Su) (x : Int), ds = [dSu s, .int x] ∧ GoodS s ∧ 1 ≤ x ∧ x < s.q ∧ d = .int (pw s.q s.b0 x)
def t_key_of (K : PySem.W.Frag) (CN CB : Addr) : TS := (tSeq (tDrop (tCall (SP 2 R_check_secret) [] E0 (tCons (tVar 0) (tCons (tVar 1) tNil))))
  (tRet (tCall (SP 3 R_power) [] E0 (tCons (tOp (rIxT K) (tVar 0) (tC (.int 0))) (tCons (tOp (rIxT K) (tOp (rIxT K) (tVar 0) (tC (.int 1))) (tC (.int 0))) (tCons (tVar 1) tNil))))))
theorem sem_key_of {K : PySem.W.Frag} {CN CB : Addr} (ds : List PyData) (d : PyData) (h : R_key_of ds d) : S W0 (t_key_of K CN CB) (startR n_key_of ds) none { nx := fun _ _ => d = .none, rt := fun d' => d' = d } := by
  obtain ⟨s, x, rfl, g, h1, h2, rfl⟩ := h
  show S W0 _ [some (dSu s), some (.int x)] none _
  refine q_drop (c_check_secret (by walk_at "ev") h1 h2) ?_
  exact s_ret (c_power (a_cons (e_op (e_var rfl) e_int (o_ixT rfl)) (a_cons (e_op (e_op (e_var rfl) e_int (o_ixT rfl)) e_int (o_ixT rfl)) (a_cons (e_var rfl) a_nil))) g.q g.e0) rfl
theorem der_key_of {P : Program} {w : World} {K : PySem.W.Frag} {mg : Str → Option Value} {base : Heap} {CN CB : Addr} {f : Addr} (h : Wd K mg CN CB) (cdv : Value) (A : Around) (outer : List PySem.Env) (s : Shared) (H : Hp) (E : XK) (hr : Room 4 (A.deeper (envOfC "key_of" (defScope s_key_of) s.heap.objs.size f cdv))) :
    PSs ((cxOf CX0 P w K mg base n_key_of "key_of" (defScope s_key_of) f cdv A outer s H E).nox) (defBody s_key_of) (t_key_of K CN CB) :=
  (pss_cons (ps_expr (pe_c (pr_check_secret h) (hr.mono (by decide)) pass0 (pa_cons (pv 0) (pa_cons (pv 1) pa_nil))))
  (pss_one (ps_ret (pe_c (pr_power h) hr pass0 (pa_cons (pe_ix ix_tup (pv 0) pe_int (fun _ _ => rfl)) (pa_cons (pe_ix ix_tup (pe_ix ix_tup (pv 0) pe_int (fun _ _ => rfl)) pe_int (fun _ _ => rfl)) (pa_cons (pv 1) pa_nil)))))))
theorem pr_key_of {P : Program} {w : World} {K : PySem.W.Frag} {mg : Str → Option Value} {base : Heap} {CN CB : Addr} (h : Wd K mg CN CB) : Pr P w K mg base CX0 5 "key_of" ["setup", "secret"] (SP 2 R_key_of) := by
  obtain ⟨f, fd, F, g⟩ := h.d_key_of
  exact ⟨f, fd, okD F sc_key_of (t_key_of K CN CB) (der_key_of h) (sem_key_of (CN := CN) (CB := CB)), g, F.kp, F.bindsN fun _ _ _ _ _ _ us hl => match us, hl with | [_, _], _ => rfl⟩
theorem c_key_of {ρ : Ev} {ta : TA} {s : Su} {x : Int} (h : A ta ρ [dSu s, .int x]) (g : GoodS s) (h1 : 1 ≤ x) (h2 : x < s.q) : E (tCall (SP 2 R_key_of) [] E0 ta) ρ (.int (pw s.q s.b0 x)) := e_call h rfl ⟨_, _, rfl, g, h1, h2, rfl⟩
structure Of where
  z : Int
  a : Int
  b : Int
abbrev dOf (o : Of) : PyData := .tuple [.int o.z, .int o.a, .int o.b]
structure GoodO (q : Int) (o : Of) : Prop where
  z : isEl q o.z = true
  a : isEl q o.a = true
  b : isEl q o.b = true
  n : o.z ≠ 1
def offer (s : Su) (x : Int) (p : Pe) (w : Int) : Of := ⟨pw s.q (mark s p) x, pw s.q s.b0 w, pw s.q (mark s p) w⟩
def R_offer_of : List PyData → PyData → Prop := fun ds d => ∃ (s : Su) (x : Int) (p : Pe) (w : Int), ds = [dSu s, .int x, dPe p, .int w] ∧ GoodS s ∧ 1 ≤ x ∧ x < s.q ∧ GoodPe s.q p ∧ mark s p ≠ 1 ∧ inQ s.q w = true ∧ d = dOf (offer s x p w)
def t_offer_of (K : PySem.W.Frag) (CN CB : Addr) : TS := (tSeq (tDrop (tCall (SP 2 R_check_secret) [] E0 (tCons (tVar 0) (tCons (tVar 1) tNil))))
  (tSeq (tDrop (tCall (SP 2 R_check_exponents) [] E0 (tCons (tVar 0) (tCons (tLst (tCons (tVar 3) tNil)) tNil))))
  (tSeq (tAsg (tCall (SPX 2 R_mark_of (Rx_mark_of CN CB)) [] E0 (tCons (tVar 0) (tCons (tVar 2) tNil))) (gName 4))
  (tSeq (tAsg (tOp (rIxT K) (tVar 0) (tC (.int 0))) (gName 5))
  (tRet (tTup (tCons (tCall (SP 3 R_power) [] E0 (tCons (tVar 5) (tCons (tVar 4) (tCons (tVar 1) tNil)))) (tCons (tCall (SP 3 R_power) [] E0 (tCons (tVar 5) (tCons (tOp (rIxT K) (tOp (rIxT K) (tVar 0) (tC (.int 1))) (tC (.int 0))) (tCons (tVar 3) tNil)))) (tCons (tCall (SP 3 R_power) [] E0 (tCons (tVar 5) (tCons (tVar 4) (tCons (tVar 3) tNil)))) tNil)))))))))
theorem sem_offer_of {K : PySem.W.Frag} {CN CB : Addr} (ds : List PyData) (d : PyData) (h : R_offer_of ds d) : S W0 (t_offer_of K CN CB) (startR n_offer_of ds) none { nx := fun _ _ => d = .none, rt := fun d' => d' = d } := by
  obtain ⟨s, x, p, w, rfl, g, h1, h2, gp, hm, hw, rfl⟩ := h
  show S W0 _ [some (dSu s), some (.int x), some (dPe p), some (.int w), none, none] none _
  refine q_drop (c_check_secret (by walk_at "ev") h1 h2) ?_
  refine q_drop (c_check_exponents (vs := [w]) (a_cons (e_var rfl) (a_cons (e_lst (a_cons (e_var rfl) a_nil) (by simp [dI])) a_nil)) (by simp) (by simp [hw])) ?_
  refine q_set (c_mark_of (by walk_at "ev") g gp hm) rfl ?_
  refine q_set (e_op (e_var rfl) e_int (o_ixT rfl)) rfl ?_
  exact s_ret (e_tup (a_cons (c_power (by walk_at "ev") g.q (el_mark g)) (a_cons (c_power (a_cons (e_var rfl) (a_cons (e_op (e_op (e_var rfl) e_int (o_ixT rfl)) e_int (o_ixT rfl)) (a_cons (e_var rfl) a_nil))) g.q g.e0) (a_cons (c_power (by walk_at "ev") g.q (el_mark g)) a_nil))) (by simp)) rfl
theorem der_offer_of {P : Program} {w : World} {K : PySem.W.Frag} {mg : Str → Option Value} {base : Heap} {CN CB : Addr} {f : Addr} (h : Wd K mg CN CB) (cdv : Value) (A : Around) (outer : List PySem.Env) (s : Shared) (H : Hp) (E : XK) (hr : Room 7 (A.deeper (envOfC "offer_of" (defScope s_offer_of) s.heap.objs.size f cdv))) :
    PSs ((cxOf CX0 P w K mg base n_offer_of "offer_of" (defScope s_offer_of) f cdv A outer s H E).nox) (defBody s_offer_of) (t_offer_of K CN CB) :=
  (pss_cons (ps_expr (pe_c (pr_check_secret h) (hr.mono (by decide)) pass0 (pa_cons (pv 0) (pa_cons (pv 1) pa_nil))))
  (pss_cons (ps_expr (pe_c (pr_check_exponents h) (hr.mono (by decide)) pass0 (pa_cons (pv 0) (pa_cons (pe_lst (pa_cons (pv 3) pa_nil)) pa_nil))))
  (pss_cons (ps_set (i := 4) sc_offer_of.nd rfl (by first | exact Or.inl rfl | exact Or.inr rfl) (pe_c (pr_mark_of h) hr passL (pa_cons (pv 0) (pa_cons (pv 2) pa_nil))))
  (pss_cons (ps_set (i := 5) sc_offer_of.nd rfl (by first | exact Or.inl rfl | exact Or.inr rfl) (pe_ix ix_tup (pv 0) pe_int (fun _ _ => rfl)))
  (pss_one (ps_ret (pe_tup (pa_cons (pe_c (pr_power h) (hr.mono (by decide)) pass0 (pa_cons (pv 5) (pa_cons (pv 4) (pa_cons (pv 1) pa_nil)))) (pa_cons (pe_c (pr_power h) (hr.mono (by decide)) pass0 (pa_cons (pv 5) (pa_cons (pe_ix ix_tup (pe_ix ix_tup (pv 0) pe_int (fun _ _ => rfl)) pe_int (fun _ _ => rfl)) (pa_cons (pv 3) pa_nil)))) (pa_cons (pe_c (pr_power h) (hr.mono (by decide)) pass0 (pa_cons (pv 5) (pa_cons (pv 4) (pa_cons (pv 3) pa_nil)))) pa_nil))))))))))
theorem pr_offer_of {P : Program} {w : World} {K : PySem.W.Frag} {mg : Str → Option Value} {base : Heap} {CN CB : Addr} (h : Wd K mg CN CB) : Pr P w K mg base CX0 8 "offer_of" ["setup", "secret", "person", "w"] (SP 4 R_offer_of) := by
  obtain ⟨f, fd, F, g⟩ := h.d_offer_of
  exact ⟨f, fd, okD F sc_offer_of (t_offer_of K CN CB) (der_offer_of h) (sem_offer_of (CN := CN) (CB := CB)), g, F.kp, F.bindsN fun _ _ _ _ _ _ us hl => match us, hl with | [_, _, _, _], _ => rfl⟩
theorem c_offer_of {ρ : Ev} {ta : TA} {s : Su} {x : Int} {p : Pe} {w : Int} (h : A ta ρ [dSu s, .int x, dPe p, .int w]) (g : GoodS s) (h1 : 1 ≤ x) (h2 : x < s.q) (gp : GoodPe s.q p) (hm : mark s p ≠ 1) (hw : inQ s.q w = true) : E (tCall (SP 4 R_offer_of) [] E0 ta) ρ (dOf (offer s x p w)) :=
  e_call h rfl ⟨_, _, _, _, rfl, g, h1, h2, gp, hm, hw, rfl⟩
/-- the five numbers of the ticket -/
def hid (s : Su) (p : Pe) (o : Of) (b : Bl) : List Int :=
  [pw s.q (mark s p) b.s, pops s.q (rest s) [b.r1, b.r2, b.r3, b.r4], pw s.q o.z b.s, pw s.q o.a b.u * pw s.q s.b0 b.v % (2 * s.q + 1), pw s.q o.b (b.s * b.u) * pw s.q (pw s.q (mark s p) b.s) b.v % (2 * s.q + 1)]
structure GoodH (s0 : Su) (p0 : Pe) (o0 : Of) (b0 : Bl) : Prop where
  s : GoodS s0
  p : GoodPe s0.q p0
  m : mark s0 p0 ≠ 1
  o : GoodO s0.q o0
  b : GoodB s0.q b0
def R_hidden : List PyData → PyData → Prop := fun ds d => ∃ (s : Su) (p : Pe) (o : Of) (b : Bl), ds = [dSu s, dPe p, dOf o, dBl b] ∧ GoodH s p o b ∧ d = .tuple (dI (hid s p o b))
theorem hid_el {s : Su} {p : Pe} {o : Of} {b : Bl} (g : GoodH s p o b) : ∀ v ∈ hid s p o b, isEl s.q v = true := by
  intro v hv
  have hm := el_mark (p := p) g.s
  simp only [hid, List.mem_cons, List.not_mem_nil, or_false] at hv
  rcases hv with rfl | rfl | rfl | rfl | rfl
  · exact el_pw g.s.q hm
  · exact el_pops g.s.q (rest_el g.s)
  · exact el_pw g.s.q g.o.z
  · exact el_mul g.s.q (el_pw g.s.q g.o.a) (el_pw g.s.q g.s.e0)
  · exact el_mul g.s.q (el_pw g.s.q g.o.b) (el_pw g.s.q (el_pw g.s.q hm))
def t_hidden (K : PySem.W.Frag) (CN CB : Addr) : TS := (tSeq (tAsg (tCall (SPX 2 R_mark_of (Rx_mark_of CN CB)) [] E0 (tCons (tVar 0) (tCons (tVar 1) tNil))) (gName 4))
  (tSeq (tAsg (tVar 0) (gTup K 2 (gCons (gName 5) (gCons (gName 6) gNil))))
  (tSeq (tIfS (tOr (tNot (tB (tCB (rAll K) (tCons (tLc (iTup K (tVar 2)) (gName 18) tYes (tCall (SP 2 R_is_element) [] E0 (tCons (tVar 5) (tCons (tVar 18) tNil))) [18]) tNil)))) (tTest (tOp rEq (tOp (rIxT K) (tVar 2) (tC (.int 0))) (tC (.int 1))))) tNever tNext)
  (tSeq (tDrop (tCall (SP 2 R_check_blinding) [] E0 (tCons (tVar 0) (tCons (tVar 3) tNil))))
  (tSeq (tAsg (tVar 2) (gTup K 3 (gCons (gName 7) (gCons (gName 8) (gCons (gName 9) gNil)))))
  (tSeq (tAsg (tVar 3) (gTup K 4 (gCons (gName 10) (gCons (gName 11) (gCons (gName 12) (gCons (gName 13) gNil))))))
  (tSeq (tAsg (tCall (SP 3 R_power) [] E0 (tCons (tVar 5) (tCons (tVar 4) (tCons (tVar 10) tNil)))) (gName 14))
  (tSeq (tAsg (tCall (SP 3 R_product_of_powers) [] E0 (tCons (tVar 5) (tCons (tCB (cList K) (tCons (tSl (rSlA K) (tVar 6) (tPart (tC (.int 1))) tNoPart) tNil)) (tCons (tCB (cList K) (tCons (tVar 13) tNil)) tNil)))) (gName 15))
  (tSeq (tAsg (tCall (SP 3 R_product) [] E0 (tCons (tVar 5) (tCons (tCall (SP 3 R_power) [] E0 (tCons (tVar 5) (tCons (tVar 8) (tCons (tVar 11) tNil)))) (tCons (tCall (SP 3 R_power) [] E0 (tCons (tVar 5) (tCons (tOp (rIxT K) (tVar 6) (tC (.int 0))) (tCons (tVar 12) tNil)))) tNil)))) (gName 16))
  (tSeq (tAsg (tCall (SP 3 R_product) [] E0 (tCons (tVar 5) (tCons (tCall (SP 3 R_power) [] E0 (tCons (tVar 5) (tCons (tVar 9) (tCons (tOp oMul (tVar 10) (tVar 11)) tNil)))) (tCons (tCall (SP 3 R_power) [] E0 (tCons (tVar 5) (tCons (tVar 14) (tCons (tVar 12) tNil)))) tNil)))) (gName 17))
  (tRet (tTup (tCons (tVar 14) (tCons (tVar 15) (tCons (tCall (SP 3 R_power) [] E0 (tCons (tVar 5) (tCons (tVar 7) (tCons (tVar 10) tNil)))) (tCons (tVar 16) (tCons (tVar 17) tNil)))))))))))))))))
theorem sem_hidden {K : PySem.W.Frag} {CN CB : Addr} (ds : List PyData) (d : PyData) (h : R_hidden ds d) : S W0 (t_hidden K CN CB) (startR n_hidden ds) none { nx := fun _ _ => d = .none, rt := fun d' => d' = d } := by
  obtain ⟨s, p, o, b, rfl, ⟨g, gp, hm, go, gb⟩, rfl⟩ := h
  have hb := gb.al
  simp only [List.all_cons, List.all_nil, Bool.and_true, Bool.and_eq_true] at hb
  have bs := inQ_iff.mp hb.1
  have bu := inQ_iff.mp hb.2.1
  have hq := g.q
  unfold Bd at hq
  have em := el_mark (p := p) g
  show S W0 _ [some (dSu s), some (dPe p), some (dOf o), some (dBl b), none, none, none, none, none, none, none, none, none, none, none, none, none, none, none] none _
  refine q_set (c_mark_of (by walk_at "ev") g gp hm) rfl ?_
  refine q_asg (e_var rfl) (g_tup (g_cons (g_cons g_nil)) rfl) rfl ?_
  refine q_pass (t_orF (t_no (e_is (e_testAll (q := s.q) (vs := [o.z, o.a, o.b]) (isEl s.q) (w_tup (e_var rfl)) (by simp) fun v _ => c_is_element (by walk_at "ev") g.q) (by simp [go.z, go.a, go.b]))) (t_is (t_test (e_op (e_op (e_var rfl) e_int (o_ixT rfl)) e_int o_eqI)) (decide_eq_false go.n))) ?_
  refine q_drop (c_check_blinding (by walk_at "ev") gb) ?_
  refine q_asg (e_var rfl) (g_tup (g_cons (g_cons (g_cons g_nil))) rfl) rfl ?_
  refine q_asg (e_var rfl) (g_tup (g_cons (g_cons (g_cons (g_cons g_nil)))) rfl) rfl ?_
  refine q_set (c_power (by walk_at "ev") g.q em) rfl ?_
  refine q_set (c_product_of_powers (bs := rest s) (es := [b.r1, b.r2, b.r3, b.r4]) (a_cons (e_var rfl) (a_cons (e_cb (a_cons (e_sl (e_var rfl) (p_some e_int) p_none s_tup) a_nil) c_listT) (a_cons (e_cb (a_cons (e_var rfl) a_nil) c_listT) a_nil))) g.q rfl (rest_el g)) rfl ?_
  refine q_set (c_product (a_cons (e_var rfl) (a_cons (c_power (by walk_at "ev") g.q go.a) (a_cons (c_power (a_cons (e_var rfl) (a_cons (e_op (e_var rfl) e_int (o_ixT rfl)) (a_cons (e_var rfl) a_nil))) g.q g.e0) a_nil))) g.q (el_pw g.q go.a) (el_pw g.q g.e0)) rfl ?_
  show S W0 _ [some (dSu s), some (dPe p), some (dOf o), some (dBl b), some (.int (mark s p)), some (.int s.q), some (.tuple (dI [s.b0, s.b1, s.b2, s.b3, s.b4])), some (.int o.z), some (.int o.a), some (.int o.b), some (.int b.s), some (.int b.u), some (.int b.v), some (.tuple (dI [b.r1, b.r2, b.r3, b.r4])), some (.int (pw s.q (mark s p) b.s)), some (.int (pops s.q (rest s) [b.r1, b.r2, b.r3, b.r4])), some (.int (pw s.q o.a b.u * pw s.q s.b0 b.v % (2 * s.q + 1))), none, none] none _
  have em2 : isEl s.q (pw s.q (mark s p) b.s) = true := el_pw g.q em
  refine q_set (c_product (a_cons (e_var rfl) (a_cons (c_power (a_cons (e_var rfl) (a_cons (e_var rfl) (a_cons (e_op (e_var rfl) (e_var rfl) (o_mul (.inl (by omega)))) a_nil))) g.q go.b) (a_cons (c_power (a_cons (e_var rfl) (a_cons (e_var rfl) (a_cons (e_var rfl) a_nil))) g.q em2) a_nil))) g.q (el_pw g.q go.b) (el_pw g.q em2)) rfl ?_
  exact s_ret (e_tup (a_cons (e_var rfl) (a_cons (e_var rfl) (a_cons (c_power (a_cons (e_var rfl) (a_cons (e_var rfl) (a_cons (e_var rfl) a_nil))) g.q go.z) (a_cons (e_var rfl) (a_cons (e_var rfl) a_nil))))) (by simp)) rfl
theorem der_hidden {P : Program} {w : World} {K : PySem.W.Frag} {mg : Str → Option Value} {base : Heap} {CN CB : Addr} {f : Addr} (h : Wd K mg CN CB) (cdv : Value) (A : Around) (outer : List PySem.Env) (s : Shared) (H : Hp) (E : XK) (hr : Room 7 (A.deeper (envOfC "hidden" (defScope s_hidden) s.heap.objs.size f cdv))) :
    PSs ((cxOf CX0 P w K mg base n_hidden "hidden" (defScope s_hidden) f cdv A outer s H E).nox) (defBody s_hidden) (t_hidden K CN CB) :=
  (pss_cons (ps_set (i := 4) sc_hidden.nd rfl (by first | exact Or.inl rfl | exact Or.inr rfl) (pe_c (pr_mark_of h) hr passL (pa_cons (pv 0) (pa_cons (pv 1) pa_nil))))
  (pss_cons (ps_asg (pv 0) (pg_tup rfl (pgs_cons (pg_name (i := 5) sc_hidden.nd rfl (by first | exact Or.inl rfl | exact Or.inr rfl)) (pgs_cons (pg_name (i := 6) sc_hidden.nd rfl (by first | exact Or.inl rfl | exact Or.inr rfl)) pgs_nil))))
  (pss_cons (ps_if (PW.pt (pw_or (pt_not (pt_val (pe_callB (cr_all rfl) (by rfl) h.f_all bt_all (pa_cons (pe_lc (own := [("value", 18)]) rfl sc_hidden.nd (pi_tup (pv 2)) (blkOk_by (own := [("value", 18)]) (N := n_hidden) (sc := defScope s_hidden) (by decide +kernel)) (fun _ _ _ _ _ => (pg_name (i := 18) sc_hidden.nd rfl (by first | exact Or.inl rfl | exact Or.inr rfl))) (fun _ _ _ _ _ => pts_nil) (fun _ _ _ _ _ => (pe_c (pr_is_element h) (hr.mono (by decide)) pass0 (pa_cons (pv 5) (pa_cons (pv 18) pa_nil))))) pa_nil)))) (pw_or1 (pt_cmpR op_eq (pe_ix ix_tup (pv 2) pe_int (fun _ _ => rfl)) pe_int (nomark _))))) (pss_one ps_never) pss_nil)
  (pss_cons (ps_expr (pe_c (pr_check_blinding h) (hr.mono (by decide)) pass0 (pa_cons (pv 0) (pa_cons (pv 3) pa_nil))))
  (pss_cons (ps_asg (pv 2) (pg_tup rfl (pgs_cons (pg_name (i := 7) sc_hidden.nd rfl (by first | exact Or.inl rfl | exact Or.inr rfl)) (pgs_cons (pg_name (i := 8) sc_hidden.nd rfl (by first | exact Or.inl rfl | exact Or.inr rfl)) (pgs_cons (pg_name (i := 9) sc_hidden.nd rfl (by first | exact Or.inl rfl | exact Or.inr rfl)) pgs_nil)))))
  (pss_cons (ps_asg (pv 3) (pg_tup rfl (pgs_cons (pg_name (i := 10) sc_hidden.nd rfl (by first | exact Or.inl rfl | exact Or.inr rfl)) (pgs_cons (pg_name (i := 11) sc_hidden.nd rfl (by first | exact Or.inl rfl | exact Or.inr rfl)) (pgs_cons (pg_name (i := 12) sc_hidden.nd rfl (by first | exact Or.inl rfl | exact Or.inr rfl)) (pgs_cons (pg_name (i := 13) sc_hidden.nd rfl (by first | exact Or.inl rfl | exact Or.inr rfl)) pgs_nil))))))
  (pss_cons (ps_set (i := 14) sc_hidden.nd rfl (by first | exact Or.inl rfl | exact Or.inr rfl) (pe_c (pr_power h) (hr.mono (by decide)) pass0 (pa_cons (pv 5) (pa_cons (pv 4) (pa_cons (pv 10) pa_nil)))))
  (pss_cons (ps_set (i := 15) sc_hidden.nd rfl (by first | exact Or.inl rfl | exact Or.inr rfl) (pe_c (pr_product_of_powers h) (hr.mono (by decide)) pass0 (pa_cons (pv 5) (pa_cons (pe_callTy call_list_of (by rfl) h.f_list bt_list (pa_cons (pe_slice sl_tupA (pv 6) (po_some pe_int) po_none) pa_nil)) (pa_cons (pe_callTy call_list_of (by rfl) h.f_list bt_list (pa_cons (pv 13) pa_nil)) pa_nil)))))
  (pss_cons (ps_set (i := 16) sc_hidden.nd rfl (by first | exact Or.inl rfl | exact Or.inr rfl) (pe_c (pr_product h) (hr.mono (by decide)) pass0 (pa_cons (pv 5) (pa_cons (pe_c (pr_power h) (hr.mono (by decide)) pass0 (pa_cons (pv 5) (pa_cons (pv 8) (pa_cons (pv 11) pa_nil)))) (pa_cons (pe_c (pr_power h) (hr.mono (by decide)) pass0 (pa_cons (pv 5) (pa_cons (pe_ix ix_tup (pv 6) pe_int (fun _ _ => rfl)) (pa_cons (pv 12) pa_nil)))) pa_nil)))))
  (pss_cons (ps_set (i := 17) sc_hidden.nd rfl (by first | exact Or.inl rfl | exact Or.inr rfl) (pe_c (pr_product h) (hr.mono (by decide)) pass0 (pa_cons (pv 5) (pa_cons (pe_c (pr_power h) (hr.mono (by decide)) pass0 (pa_cons (pv 5) (pa_cons (pv 9) (pa_cons (pe_op op_mul (pv 10) (pv 11)) pa_nil)))) (pa_cons (pe_c (pr_power h) (hr.mono (by decide)) pass0 (pa_cons (pv 5) (pa_cons (pv 14) (pa_cons (pv 12) pa_nil)))) pa_nil)))))
  (pss_one (ps_ret (pe_tup (pa_cons (pv 14) (pa_cons (pv 15) (pa_cons (pe_c (pr_power h) (hr.mono (by decide)) pass0 (pa_cons (pv 5) (pa_cons (pv 7) (pa_cons (pv 10) pa_nil)))) (pa_cons (pv 16) (pa_cons (pv 17) pa_nil))))))))))))))))))
theorem pr_hidden {P : Program} {w : World} {K : PySem.W.Frag} {mg : Str → Option Value} {base : Heap} {CN CB : Addr} (h : Wd K mg CN CB) : Pr P w K mg base CX0 8 "hidden" ["setup", "person", "offer", "blinding"] (SP 4 R_hidden) := by
  obtain ⟨f, fd, F, g⟩ := h.d_hidden
  exact ⟨f, fd, okD F sc_hidden (t_hidden K CN CB) (der_hidden h) (sem_hidden (CN := CN) (CB := CB)), g, F.kp, F.bindsN fun _ _ _ _ _ _ us hl => match us, hl with | [_, _, _, _], _ => rfl⟩
theorem c_hidden {ρ : Ev} {ta : TA} {s : Su} {p : Pe} {o : Of} {b : Bl} (h : A ta ρ [dSu s, dPe p, dOf o, dBl b]) (g : GoodH s p o b) : E (tCall (SP 4 R_hidden) [] E0 ta) ρ (.tuple (dI (hid s p o b))) := e_call h rfl ⟨_, _, _, _, rfl, g, rfl⟩
def tkC (q : Int) (ns : List Int) : Int := chal q (joinV "ticket" ns)
def R_challenge_for : List PyData → PyData → Prop := fun ds d => ∃ (q : Int) (ns : List Int), ds = [.int q, .tuple (dI ns)] ∧ 2 ≤ q ∧ ns.length ≤ 1000 ∧ Small ns ∧ d = .int (tkC q ns)
def t_challenge_for (K : PySem.W.Frag) (CN CB : Addr) : TS := (tRet (tCall (SP 3 R_challenge_of) [] E0 (tCons (tVar 0) (tCons (tC (.str "ticket")) (tCons (tCB (cList K) (tCons (tVar 1) tNil)) tNil)))))
theorem sem_challenge_for {K : PySem.W.Frag} {CN CB : Addr} (ds : List PyData) (d : PyData) (h : R_challenge_for ds d) : S W0 (t_challenge_for K CN CB) (startR n_challenge_for ds) none { nx := fun _ _ => d = .none, rt := fun d' => d' = d } := by
  obtain ⟨q, ns, rfl, hq, hl, hs, rfl⟩ := h
  show S W0 _ [some (.int q), some (.tuple (dI ns))] none _
  exact s_ret (c_challenge_of (ns := ns) (a_cons (e_var rfl) (a_cons e_str (a_cons (e_cb (a_cons (e_var rfl) a_nil) c_listT) a_nil))) hq (by decide) hl hs) rfl
theorem der_challenge_for {P : Program} {w : World} {K : PySem.W.Frag} {mg : Str → Option Value} {base : Heap} {CN CB : Addr} {f : Addr} (h : Wd K mg CN CB) (cdv : Value) (A : Around) (outer : List PySem.Env) (s : Shared) (H : Hp) (E : XK) (hr : Room 3 (A.deeper (envOfC "challenge_for" (defScope s_challenge_for) s.heap.objs.size f cdv))) :
    PSs ((cxOf CX0 P w K mg base n_challenge_for "challenge_for" (defScope s_challenge_for) f cdv A outer s H E).nox) (defBody s_challenge_for) (t_challenge_for K CN CB) :=
  (pss_one (ps_ret (pe_c (pr_challenge_of h) hr pass0 (pa_cons (pv 0) (pa_cons pe_str (pa_cons (pe_callTy call_list_of (by rfl) h.f_list bt_list (pa_cons (pv 1) pa_nil)) pa_nil))))))
theorem pr_challenge_for {P : Program} {w : World} {K : PySem.W.Frag} {mg : Str → Option Value} {base : Heap} {CN CB : Addr} (h : Wd K mg CN CB) : Pr P w K mg base CX0 4 "challenge_for" ["q", "numbers"] (SP 2 R_challenge_for) := by
  obtain ⟨f, fd, F, g⟩ := h.d_challenge_for
  exact ⟨f, fd, okD F sc_challenge_for (t_challenge_for K CN CB) (der_challenge_for h) (sem_challenge_for (CN := CN) (CB := CB)), g, F.kp, F.bindsN fun _ _ _ _ _ _ us hl => match us, hl with | [_, _], _ => rfl⟩
theorem c_challenge_for {ρ : Ev} {ta : TA} {q : Int} {ns : List Int} (h : A ta ρ [.int q, .tuple (dI ns)]) (hq : 2 ≤ q) (hl : ns.length ≤ 1000) (hs : Small ns) : E (tCall (SP 2 R_challenge_for) [] E0 ta) ρ (.int (tkC q ns)) := e_call h rfl ⟨_, _, rfl, hq, hl, hs, rfl⟩
theorem el_small {q : Int} (hq : Bd q) {vs : List Int} (h : ∀ v ∈ vs, isEl q v = true) : Small vs := fun n hn => by
  have := isEl_range (h n hn)
  unfold Bd at hq
  omega
theorem c_chal_hid {ρ : Ev} {ta : TA} {s : Su} {p : Pe} {o : Of} {b : Bl} (h : A ta ρ [.int s.q, .tuple (dI (hid s p o b))]) (g : GoodH s p o b) : E (tCall (SP 2 R_challenge_for) [] E0 ta) ρ (.int (tkC s.q (hid s p o b))) := by
  have hq := g.s.q
  have hq' := hq
  unfold Bd at hq'
  exact c_challenge_for h (by omega) (by simp [hid]) (el_small hq (hid_el g))
def reqC (s : Su) (p : Pe) (o : Of) (b : Bl) : Int := quo s.q (tkC s.q (hid s p o b)) b.u
theorem GoodB.um {q : Int} {b : Bl} (g : GoodB q b) : b.u % q ≠ 0 := by
  have h := g.al
  simp only [List.all_cons, List.all_nil, Bool.and_true, Bool.and_eq_true] at h
  have hu := inQ_iff.mp h.2.1
  have hn := g.u
  rw [Int.emod_eq_of_lt hu.1 hu.2]
  exact hn
def R_request_of : List PyData → PyData → Prop := fun ds d => ∃ (s : Su) (p : Pe) (o : Of) (b : Bl), ds = [dSu s, dPe p, dOf o, dBl b] ∧ GoodH s p o b ∧ d = .int (reqC s p o b)
def t_request_of (K : PySem.W.Frag) (CN CB : Addr) : TS := (tSeq (tAsg (tOp (rIxT K) (tVar 0) (tC (.int 0))) (gName 4))
  (tSeq (tAsg (tCall (SP 4 R_hidden) [] E0 (tCons (tVar 0) (tCons (tVar 1) (tCons (tVar 2) (tCons (tVar 3) tNil))))) (gName 5))
  (tRet (tCall (SP 3 R_quotient) [] E0 (tCons (tVar 4) (tCons (tCall (SP 2 R_challenge_for) [] E0 (tCons (tVar 4) (tCons (tVar 5) tNil))) (tCons (tOp (rIxT K) (tVar 3) (tC (.int 1))) tNil)))))))
theorem sem_request_of {K : PySem.W.Frag} {CN CB : Addr} (ds : List PyData) (d : PyData) (h : R_request_of ds d) : S W0 (t_request_of K CN CB) (startR n_request_of ds) none { nx := fun _ _ => d = .none, rt := fun d' => d' = d } := by
  obtain ⟨s, p, o, b, rfl, g, rfl⟩ := h
  show S W0 _ [some (dSu s), some (dPe p), some (dOf o), some (dBl b), none, none] none _
  refine q_set (e_op (e_var rfl) e_int (o_ixT rfl)) rfl ?_
  refine q_set (c_hidden (by walk_at "ev") g) rfl ?_
  exact s_ret (c_quotient (a_cons (e_var rfl) (a_cons (c_chal_hid (by walk_at "ev") g) (a_cons (e_op (e_var rfl) e_int (o_ixT rfl)) a_nil))) g.s.q g.b.um) rfl
theorem der_request_of {P : Program} {w : World} {K : PySem.W.Frag} {mg : Str → Option Value} {base : Heap} {CN CB : Addr} {f : Addr} (h : Wd K mg CN CB) (cdv : Value) (A : Around) (outer : List PySem.Env) (s : Shared) (H : Hp) (E : XK) (hr : Room 8 (A.deeper (envOfC "request_of" (defScope s_request_of) s.heap.objs.size f cdv))) :
    PSs ((cxOf CX0 P w K mg base n_request_of "request_of" (defScope s_request_of) f cdv A outer s H E).nox) (defBody s_request_of) (t_request_of K CN CB) :=
  (pss_cons (ps_set (i := 4) sc_request_of.nd rfl (by first | exact Or.inl rfl | exact Or.inr rfl) (pe_ix ix_tup (pv 0) pe_int (fun _ _ => rfl)))
  (pss_cons (ps_set (i := 5) sc_request_of.nd rfl (by first | exact Or.inl rfl | exact Or.inr rfl) (pe_c (pr_hidden h) hr pass0 (pa_cons (pv 0) (pa_cons (pv 1) (pa_cons (pv 2) (pa_cons (pv 3) pa_nil))))))
  (pss_one (ps_ret (pe_c (pr_quotient h) (hr.mono (by decide)) pass0 (pa_cons (pv 4) (pa_cons (pe_c (pr_challenge_for h) (hr.mono (by decide)) pass0 (pa_cons (pv 4) (pa_cons (pv 5) pa_nil))) (pa_cons (pe_ix ix_tup (pv 3) pe_int (fun _ _ => rfl)) pa_nil))))))))
theorem pr_request_of {P : Program} {w : World} {K : PySem.W.Frag} {mg : Str → Option Value} {base : Heap} {CN CB : Addr} (h : Wd K mg CN CB) : Pr P w K mg base CX0 9 "request_of" ["setup", "person", "offer", "blinding"] (SP 4 R_request_of) := by
  obtain ⟨f, fd, F, g⟩ := h.d_request_of
  exact ⟨f, fd, okD F sc_request_of (t_request_of K CN CB) (der_request_of h) (sem_request_of (CN := CN) (CB := CB)), g, F.kp, F.bindsN fun _ _ _ _ _ _ us hl => match us, hl with | [_, _, _, _], _ => rfl⟩
theorem c_request_of {ρ : Ev} {ta : TA} {s : Su} {p : Pe} {o : Of} {b : Bl} (h : A ta ρ [dSu s, dPe p, dOf o, dBl b]) (g : GoodH s p o b) : E (tCall (SP 4 R_request_of) [] E0 ta) ρ (.int (reqC s p o b)) := e_call h rfl ⟨_, _, _, _, rfl, g, rfl⟩
def R_grant_of : List PyData → PyData → Prop := fun ds d => ∃ (s : Su) (x w c : Int), ds = [dSu s, .int x, .int w, .int c] ∧ Bd s.q ∧ 1 ≤ x ∧ x < s.q ∧ inQ s.q w = true ∧ inQ s.q c = true ∧ d = .int ((w + c * x) % s.q)
def t_grant_of (K : PySem.W.Frag) (CN CB : Addr) : TS := (tSeq (tDrop (tCall (SP 2 R_check_secret) [] E0 (tCons (tVar 0) (tCons (tVar 1) tNil))))
  (tSeq (tDrop (tCall (SP 2 R_check_exponents) [] E0 (tCons (tVar 0) (tCons (tLst (tCons (tVar 2) (tCons (tVar 3) tNil))) tNil))))
  (tRet (tOp oMod (tOp oAdd (tVar 2) (tOp oMul (tVar 3) (tVar 1))) (tOp (rIxT K) (tVar 0) (tC (.int 0)))))))
theorem sem_grant_of {K : PySem.W.Frag} {CN CB : Addr} (ds : List PyData) (d : PyData) (h : R_grant_of ds d) : S W0 (t_grant_of K CN CB) (startR n_grant_of ds) none { nx := fun _ _ => d = .none, rt := fun d' => d' = d } := by
  obtain ⟨s, x, w, c, rfl, hq, h1, h2, hw, hc, rfl⟩ := h
  unfold Bd at hq
  show S W0 _ [some (dSu s), some (.int x), some (.int w), some (.int c)] none _
  refine q_drop (c_check_secret (by walk_at "ev") h1 h2) ?_
  refine q_drop (c_check_exponents (vs := [w, c]) (a_cons (e_var rfl) (a_cons (e_lst (a_cons (e_var rfl) (a_cons (e_var rfl) a_nil)) (by simp [dI])) a_nil)) (by simp) (by simp [hw, hc])) ?_
  exact s_ret (e_op (e_op (e_var rfl) (e_op (e_var rfl) (e_var rfl) (o_mul (.inr (by omega)))) o_add) (e_op (e_var rfl) e_int (o_ixT rfl)) (o_mod (by omega))) rfl
theorem der_grant_of {P : Program} {w : World} {K : PySem.W.Frag} {mg : Str → Option Value} {base : Heap} {CN CB : Addr} {f : Addr} (h : Wd K mg CN CB) (cdv : Value) (A : Around) (outer : List PySem.Env) (s : Shared) (H : Hp) (E : XK) (hr : Room 2 (A.deeper (envOfC "grant_of" (defScope s_grant_of) s.heap.objs.size f cdv))) :
    PSs ((cxOf CX0 P w K mg base n_grant_of "grant_of" (defScope s_grant_of) f cdv A outer s H E).nox) (defBody s_grant_of) (t_grant_of K CN CB) :=
  (pss_cons (ps_expr (pe_c (pr_check_secret h) (hr.mono (by decide)) pass0 (pa_cons (pv 0) (pa_cons (pv 1) pa_nil))))
  (pss_cons (ps_expr (pe_c (pr_check_exponents h) hr pass0 (pa_cons (pv 0) (pa_cons (pe_lst (pa_cons (pv 2) (pa_cons (pv 3) pa_nil))) pa_nil))))
  (pss_one (ps_ret (pe_op op_mod (pe_op op_add (pv 2) (pe_op op_mul (pv 3) (pv 1))) (pe_ix ix_tup (pv 0) pe_int (fun _ _ => rfl)))))))
theorem pr_grant_of {P : Program} {w : World} {K : PySem.W.Frag} {mg : Str → Option Value} {base : Heap} {CN CB : Addr} (h : Wd K mg CN CB) : Pr P w K mg base CX0 3 "grant_of" ["setup", "secret", "w", "c"] (SP 4 R_grant_of) := by
  obtain ⟨f, fd, F, g⟩ := h.d_grant_of
  exact ⟨f, fd, okD F sc_grant_of (t_grant_of K CN CB) (der_grant_of h) (sem_grant_of (CN := CN) (CB := CB)), g, F.kp, F.bindsN fun _ _ _ _ _ _ us hl => match us, hl with | [_, _, _, _], _ => rfl⟩
theorem c_grant_of {ρ : Ev} {ta : TA} {s : Su} {x w c : Int} (h : A ta ρ [dSu s, .int x, .int w, .int c]) (hq : Bd s.q) (h1 : 1 ≤ x) (h2 : x < s.q) (hw : inQ s.q w = true) (hc : inQ s.q c = true) : E (tCall (SP 4 R_grant_of) [] E0 ta) ρ (.int ((w + c * x) % s.q)) :=
  e_call h rfl ⟨_, _, _, _, rfl, hq, h1, h2, hw, hc, rfl⟩
def granted (q b r f s c : Int) : Bool := decide (pw q b r = f * pw q s c % (2 * q + 1))
def R_is_granted : List PyData → PyData → Prop := fun ds d => ∃ q b r f s c : Int, ds = [.int q, .int b, .int r, .int f, .int s, .int c] ∧ Bd q ∧ isEl q b = true ∧ isEl q f = true ∧ isEl q s = true ∧ d = .bool (granted q b r f s c)
def t_is_granted (K : PySem.W.Frag) (CN CB : Addr) : TS := (tRet (tOp rEq (tCall (SP 3 R_power) [] E0 (tCons (tVar 0) (tCons (tVar 1) (tCons (tVar 2) tNil)))) (tCall (SP 3 R_product) [] E0 (tCons (tVar 0) (tCons (tVar 3) (tCons (tCall (SP 3 R_power) [] E0 (tCons (tVar 0) (tCons (tVar 4) (tCons (tVar 5) tNil)))) tNil))))))
theorem sem_is_granted {K : PySem.W.Frag} {CN CB : Addr} (ds : List PyData) (d : PyData) (h : R_is_granted ds d) : S W0 (t_is_granted K CN CB) (startR n_is_granted ds) none { nx := fun _ _ => d = .none, rt := fun d' => d' = d } := by
  obtain ⟨q, b, r, f, s, c, rfl, hq, hb, hf, hs, rfl⟩ := h
  show S W0 _ [some (.int q), some (.int b), some (.int r), some (.int f), some (.int s), some (.int c)] none _
  exact s_ret (e_op (c_power (by walk_at "ev") hq hb) (c_product (a_cons (e_var rfl) (a_cons (e_var rfl) (a_cons (c_power (by walk_at "ev") hq hs) a_nil))) hq hf (el_pw hq hs)) o_eqI) rfl
theorem der_is_granted {P : Program} {w : World} {K : PySem.W.Frag} {mg : Str → Option Value} {base : Heap} {CN CB : Addr} {f : Addr} (h : Wd K mg CN CB) (cdv : Value) (A : Around) (outer : List PySem.Env) (s : Shared) (H : Hp) (E : XK) (hr : Room 4 (A.deeper (envOfC "is_granted" (defScope s_is_granted) s.heap.objs.size f cdv))) :
    PSs ((cxOf CX0 P w K mg base n_is_granted "is_granted" (defScope s_is_granted) f cdv A outer s H E).nox) (defBody s_is_granted) (t_is_granted K CN CB) :=
  (pss_one (ps_ret (pe_cmpR op_eq (pe_c (pr_power h) hr pass0 (pa_cons (pv 0) (pa_cons (pv 1) (pa_cons (pv 2) pa_nil)))) (pe_c (pr_product h) hr pass0 (pa_cons (pv 0) (pa_cons (pv 3) (pa_cons (pe_c (pr_power h) hr pass0 (pa_cons (pv 0) (pa_cons (pv 4) (pa_cons (pv 5) pa_nil)))) pa_nil)))) (nomark _))))
theorem pr_is_granted {P : Program} {w : World} {K : PySem.W.Frag} {mg : Str → Option Value} {base : Heap} {CN CB : Addr} (h : Wd K mg CN CB) : Pr P w K mg base CX0 5 "is_granted" ["q", "base", "r", "first", "second", "c"] (SP 6 R_is_granted) := by
  obtain ⟨f, fd, F, g⟩ := h.d_is_granted
  exact ⟨f, fd, okD F sc_is_granted (t_is_granted K CN CB) (der_is_granted h) (sem_is_granted (CN := CN) (CB := CB)), g, F.kp, F.bindsN fun _ _ _ _ _ _ us hl => match us, hl with | [_, _, _, _, _, _], _ => rfl⟩
theorem c_is_granted {ρ : Ev} {ta : TA} {q b r f s c : Int} (h : A ta ρ [.int q, .int b, .int r, .int f, .int s, .int c]) (hq : Bd q) (hb : isEl q b = true) (hf : isEl q f = true) (hs : isEl q s = true) : E (tCall (SP 6 R_is_granted) [] E0 ta) ρ (.bool (granted q b r f s c)) :=
  e_call h rfl ⟨_, _, _, _, _, _, rfl, hq, hb, hf, hs, rfl⟩
def tick (s : Su) (p : Pe) (o : Of) (b : Bl) (r : Int) : List Int := hid s p o b ++ [(b.u * r + b.v) % s.q]
structure GoodK (s : Su) (key : Int) (p : Pe) (o : Of) (b : Bl) (r0 : Int) : Prop where
  h : GoodH s p o b
  k : isEl s.q key = true
  r : inQ s.q r0 = true
  g1 : granted s.q s.b0 r0 o.a key (reqC s p o b) = true
  g2 : granted s.q (mark s p) r0 o.b o.z (reqC s p o b) = true
def R_ticket_of : List PyData → PyData → Prop := fun ds d => ∃ (s : Su) (key : Int) (p : Pe) (o : Of) (b : Bl) (r : Int), ds = [dSu s, .int key, dPe p, dOf o, dBl b, .int r] ∧ GoodK s key p o b r ∧ d = .tuple (dI (tick s p o b r))
def t_ticket_of (K : PySem.W.Frag) (CN CB : Addr) : TS := (tSeq (tAsg (tCall (SP 4 R_hidden) [] E0 (tCons (tVar 0) (tCons (tVar 2) (tCons (tVar 3) (tCons (tVar 4) tNil))))) (gName 6))
  (tSeq (tDrop (tCall (SP 2 R_check_exponents) [] E0 (tCons (tVar 0) (tCons (tLst (tCons (tVar 5) tNil)) tNil))))
  (tSeq (tAsg (tVar 0) (gTup K 2 (gCons (gName 7) (gCons (gName 8) gNil))))
  (tSeq (tAsg (tVar 3) (gTup K 3 (gCons (gName 9) (gCons (gName 10) (gCons (gName 11) gNil)))))
  (tSeq (tAsg (tCall (SP 3 R_quotient) [] E0 (tCons (tVar 7) (tCons (tCall (SP 2 R_challenge_for) [] E0 (tCons (tVar 7) (tCons (tVar 6) tNil))) (tCons (tOp (rIxT K) (tVar 4) (tC (.int 1))) tNil)))) (gName 12))
  (tSeq (tIfS (tOr (tNot (tB (tCall (SP 6 R_is_granted) [] E0 (tCons (tVar 7) (tCons (tOp (rIxT K) (tVar 8) (tC (.int 0))) (tCons (tVar 5) (tCons (tVar 10) (tCons (tVar 1) (tCons (tVar 12) tNil))))))))) (tNot (tB (tCall (SP 6 R_is_granted) [] E0 (tCons (tVar 7) (tCons (tCall (SPX 2 R_mark_of (Rx_mark_of CN CB)) [] E0 (tCons (tVar 0) (tCons (tVar 2) tNil))) (tCons (tVar 5) (tCons (tVar 11) (tCons (tVar 9) (tCons (tVar 12) tNil)))))))))) tNever tNext)
  (tRet (tOp (rCatA K) (tVar 6) (tTup (tCons (tOp oMod (tOp oAdd (tOp oMul (tOp (rIxT K) (tVar 4) (tC (.int 1))) (tVar 5)) (tOp (rIxT K) (tVar 4) (tC (.int 2)))) (tVar 7)) tNil))))))))))
theorem sem_ticket_of {K : PySem.W.Frag} {CN CB : Addr} (ds : List PyData) (d : PyData) (h : R_ticket_of ds d) : S W0 (t_ticket_of K CN CB) (startR n_ticket_of ds) none { nx := fun _ _ => d = .none, rt := fun d' => d' = d } := by
  obtain ⟨s, key, p, o, b, r, rfl, ⟨g, hk, hr, g1, g2⟩, rfl⟩ := h
  have hq := g.s.q
  have hq' := hq
  unfold Bd at hq'
  have hr' := inQ_iff.mp hr
  have em := el_mark (p := p) g.s
  show S W0 _ [some (dSu s), some (.int key), some (dPe p), some (dOf o), some (dBl b), some (.int r), none, none, none, none, none, none, none] none _
  refine q_set (c_hidden (by walk_at "ev") g) rfl ?_
  refine q_drop (c_check_exponents (vs := [r]) (a_cons (e_var rfl) (a_cons (e_lst (a_cons (e_var rfl) a_nil) (by simp [dI])) a_nil)) (by simp) (by simp [hr])) ?_
  refine q_asg (e_var rfl) (g_tup (g_cons (g_cons g_nil)) rfl) rfl ?_
  refine q_asg (e_var rfl) (g_tup (g_cons (g_cons (g_cons g_nil))) rfl) rfl ?_
  refine q_set (d := .int (reqC s p o b)) (c_quotient (a_cons (e_var rfl) (a_cons (c_chal_hid (by walk_at "ev") g) (a_cons (e_op (e_var rfl) e_int (o_ixT rfl)) a_nil))) hq g.b.um) rfl ?_
  refine q_pass (t_orF (t_no (e_is (c_is_granted (a_cons (e_var rfl) (a_cons (e_op (e_var rfl) e_int (o_ixT rfl)) (by walk_at "ev"))) hq g.s.e0 g.o.a hk) (by rw [g1]))) (t_no (e_is (c_is_granted (a_cons (e_var rfl) (a_cons (c_mark_of (by walk_at "ev") g.s g.p g.m) (by walk_at "ev"))) hq em g.o.b g.o.z) (by rw [g2])))) ?_
  refine s_ret (e_op (e_var rfl) (e_tup (a_cons (e_op (e_op (e_op (e_op (e_var rfl) e_int (o_ixT rfl)) (e_var rfl) (o_mul (.inr (by omega)))) (e_op (e_var rfl) e_int (o_ixT rfl)) o_add) (e_var rfl) (o_mod (by omega))) a_nil) (by simp)) (o_catT (sz_ok (by simp [hid, dI])))) rfl
theorem der_ticket_of {P : Program} {w : World} {K : PySem.W.Frag} {mg : Str → Option Value} {base : Heap} {CN CB : Addr} {f : Addr} (h : Wd K mg CN CB) (cdv : Value) (A : Around) (outer : List PySem.Env) (s : Shared) (H : Hp) (E : XK) (hr : Room 8 (A.deeper (envOfC "ticket_of" (defScope s_ticket_of) s.heap.objs.size f cdv))) :
    PSs ((cxOf CX0 P w K mg base n_ticket_of "ticket_of" (defScope s_ticket_of) f cdv A outer s H E).nox) (defBody s_ticket_of) (t_ticket_of K CN CB) :=
  (pss_cons (ps_set (i := 6) sc_ticket_of.nd rfl (by first | exact Or.inl rfl | exact Or.inr rfl) (pe_c (pr_hidden h) hr pass0 (pa_cons (pv 0) (pa_cons (pv 2) (pa_cons (pv 3) (pa_cons (pv 4) pa_nil))))))
  (pss_cons (ps_expr (pe_c (pr_check_exponents h) (hr.mono (by decide)) pass0 (pa_cons (pv 0) (pa_cons (pe_lst (pa_cons (pv 5) pa_nil)) pa_nil))))
  (pss_cons (ps_asg (pv 0) (pg_tup rfl (pgs_cons (pg_name (i := 7) sc_ticket_of.nd rfl (by first | exact Or.inl rfl | exact Or.inr rfl)) (pgs_cons (pg_name (i := 8) sc_ticket_of.nd rfl (by first | exact Or.inl rfl | exact Or.inr rfl)) pgs_nil))))
  (pss_cons (ps_asg (pv 3) (pg_tup rfl (pgs_cons (pg_name (i := 9) sc_ticket_of.nd rfl (by first | exact Or.inl rfl | exact Or.inr rfl)) (pgs_cons (pg_name (i := 10) sc_ticket_of.nd rfl (by first | exact Or.inl rfl | exact Or.inr rfl)) (pgs_cons (pg_name (i := 11) sc_ticket_of.nd rfl (by first | exact Or.inl rfl | exact Or.inr rfl)) pgs_nil)))))
  (pss_cons (ps_set (i := 12) sc_ticket_of.nd rfl (by first | exact Or.inl rfl | exact Or.inr rfl) (pe_c (pr_quotient h) (hr.mono (by decide)) pass0 (pa_cons (pv 7) (pa_cons (pe_c (pr_challenge_for h) (hr.mono (by decide)) pass0 (pa_cons (pv 7) (pa_cons (pv 6) pa_nil))) (pa_cons (pe_ix ix_tup (pv 4) pe_int (fun _ _ => rfl)) pa_nil)))))
  (pss_cons (ps_if (PW.pt (pw_or (pt_not (pt_val (pe_c (pr_is_granted h) (hr.mono (by decide)) pass0 (pa_cons (pv 7) (pa_cons (pe_ix ix_tup (pv 8) pe_int (fun _ _ => rfl)) (pa_cons (pv 5) (pa_cons (pv 10) (pa_cons (pv 1) (pa_cons (pv 12) pa_nil))))))))) (pw_or1 (pt_not (pt_val (pe_c (pr_is_granted h) (hr.mono (by decide)) pass0 (pa_cons (pv 7) (pa_cons (pe_c (pr_mark_of h) (hr.mono (by decide)) passL (pa_cons (pv 0) (pa_cons (pv 2) pa_nil))) (pa_cons (pv 5) (pa_cons (pv 11) (pa_cons (pv 9) (pa_cons (pv 12) pa_nil)))))))))))) (pss_one ps_never) pss_nil)
  (pss_one (ps_ret (pe_op op_catA (pv 6) (pe_tup (pa_cons (pe_op op_mod (pe_op op_add (pe_op op_mul (pe_ix ix_tup (pv 4) pe_int (fun _ _ => rfl)) (pv 5)) (pe_ix ix_tup (pv 4) pe_int (fun _ _ => rfl))) (pv 7)) pa_nil)))))))))))
theorem pr_ticket_of {P : Program} {w : World} {K : PySem.W.Frag} {mg : Str → Option Value} {base : Heap} {CN CB : Addr} (h : Wd K mg CN CB) : Pr P w K mg base CX0 9 "ticket_of" ["setup", "key", "person", "offer", "blinding", "r"] (SP 6 R_ticket_of) := by
  obtain ⟨f, fd, F, g⟩ := h.d_ticket_of
  exact ⟨f, fd, okD F sc_ticket_of (t_ticket_of K CN CB) (der_ticket_of h) (sem_ticket_of (CN := CN) (CB := CB)), g, F.kp, F.bindsN fun _ _ _ _ _ _ us hl => match us, hl with | [_, _, _, _, _, _], _ => rfl⟩
theorem c_ticket_of {ρ : Ev} {ta : TA} {s : Su} {key : Int} {p : Pe} {o : Of} {b : Bl} {r : Int} (h : A ta ρ [dSu s, .int key, dPe p, dOf o, dBl b, .int r]) (g : GoodK s key p o b r) : E (tCall (SP 6 R_ticket_of) [] E0 ta) ρ (.tuple (dI (tick s p o b r))) := e_call h rfl ⟨_, _, _, _, _, _, rfl, g, rfl⟩
end Ck

set_option Elab.async false
set_option linter.all false
set_option maxRecDepth 100000
set_option maxHeartbeats 1000000
set_option autoImplicit false
/-! # Spends, tickets, showings -/
namespace Ck
open PySem PySem.Spec PyProof.Rows L2
local macro_rules | `(tactic| walk_at "ev1") => `(tactic| first
  | ((with_reducible apply e_var); exact rfl)
  | with_reducible exact e_int
  | with_reducible exact e_str
  | with_reducible exact e_bl
  | with_reducible exact e_non
  | with_reducible apply e_op
  | with_reducible exact o_add
  | with_reducible exact o_sub
  | with_reducible apply o_mul
  | with_reducible apply o_mod
  | with_reducible apply o_div
  | with_reducible exact o_lt
  | with_reducible exact o_le
  | with_reducible exact o_gt
  | with_reducible exact o_ge
  | with_reducible exact o_eqI
  | with_reducible exact o_neI
  | with_reducible exact o_eqS
  | with_reducible exact o_neS
  | ((with_reducible apply o_ixT); exact rfl)
  | ((with_reducible apply o_ixL); exact rfl)
  | with_reducible exact a_nil
  | with_reducible apply a_cons
  | with_reducible apply e_tup
  | with_reducible apply e_lst
  | with_reducible apply e_cb
  | with_reducible exact c_int
  | with_reducible exact c_intB
  | with_reducible exact c_abs
  | with_reducible exact c_ord
  | with_reducible exact c_lenL
  | with_reducible exact c_lenT
  | with_reducible exact c_listT
  | with_reducible exact c_tupL
  | with_reducible exact c_tupT
  | with_reducible exact c_all
  | with_reducible exact c_sum
  | with_reducible apply e_sl
  | with_reducible exact p_none
  | with_reducible apply p_some
  | with_reducible exact s_tup
  | with_reducible exact s_lst
  | ((with_reducible show CaD (cList _) _ _); first | exact c_listT | exact c_listL)
  | ((with_reducible show CaD (cTuple _) _ _); first | exact c_tupL | exact c_tupT)
  | with_reducible apply e_neg
  | with_reducible apply o_catL
  | with_reducible apply o_catT
  | with_reducible apply o_catS
  | with_reducible apply t_test
  | with_reducible apply t_b
  | with_reducible apply t_not)
local macro_rules | `(tactic| walk_at "ev") => `(tactic| repeat' walk_at "ev1")
local macro_rules | `(tactic| walk_at "side") => `(tactic| all_goals (try (first | rfl | omega)))
local macro_rules | `(tactic| walk_at "set") => `(tactic| (apply s_set; walk_at "ev"; walk_at "side"))
local macro_rules | `(tactic| walk_at "qset") => `(tactic| (apply q_set; walk_at "ev"; walk_at "side"))
local macro_rules | `(tactic| walk_at "ret") => `(tactic| (apply s_ret; walk_at "ev"; walk_at "side"))
local macro_rules | `(tactic| walk_at "ev1") => `(tactic| with_reducible apply c_coin)
local macro_rules | `(tactic| walk_at "ev1") => `(tactic| with_reducible apply c_challenge)
local macro_rules | `(tactic| walk_at "ev1") => `(tactic| with_reducible apply c_is_exponent2)
theorem chal_inQ {q : Int} {t : Str} (hq : 2 ≤ q) : inQ q (chal q t) = true := by
  have h1 := Int.emod_nonneg (coinV 0 q t) (show q - 1 ≠ 0 by omega)
  have h2 := Int.emod_lt_of_pos (coinV 0 q t) (show 0 < q - 1 by omega)
  unfold chal
  exact inQ_iff.mpr ⟨by omega, by omega⟩
theorem chal_pos {q : Int} {t : Str} (hq : 2 ≤ q) : 1 ≤ chal q t ∧ chal q t < q := by
  have h1 := Int.emod_nonneg (coinV 0 q t) (show q - 1 ≠ 0 by omega)
  have h2 := Int.emod_lt_of_pos (coinV 0 q t) (show 0 < q - 1 by omega)
  unfold chal
  omega
structure Tk where
  n0 : Int
  n1 : Int
  n2 : Int
  n3 : Int
  n4 : Int
  n5 : Int
def t5 (t : Tk) : List Int := [t.n0, t.n1, t.n2, t.n3, t.n4]
def t6 (t : Tk) : List Int := [t.n0, t.n1, t.n2, t.n3, t.n4, t.n5]
abbrev dTk (t : Tk) : PyData := .tuple (dI [t.n0, t.n1, t.n2, t.n3, t.n4, t.n5])
structure Sn where
  d : Int
  a1 : Int
  a2 : Int
  a3 : Int
  a4 : Int
def s4 (x : Sn) : List Int := [x.a1, x.a2, x.a3, x.a4]
abbrev dSn (x : Sn) : PyData := .tuple [.int x.d, .tuple (dI [x.a1, x.a2, x.a3, x.a4])]
structure Ct where
  g : Str
  m : Int
abbrev dCt (x : Ct) : PyData := .tuple [.str x.g, .int x.m]
/-! ### spends -/
def spd (s : Su) (p : Pe) (b : Bl) (d : Int) : Sn := ⟨d, (b.r1 + d * b.s * 1) % s.q, (b.r2 + d * b.s * p.n) % s.q, (b.r3 + d * b.s * p.a) % s.q, (b.r4 + d * b.s * p.z) % s.q⟩
def R_spend_of : List PyData → PyData → Prop := fun ds r => ∃ (s : Su) (p : Pe) (b : Bl) (d : Int), ds = [dSu s, dPe p, dBl b, .int d] ∧ Bd s.q ∧ GoodPe s.q p ∧ GoodB s.q b ∧ inQ s.q d = true ∧ r = dSn (spd s p b d)
def t_spend_of (K : PySem.W.Frag) (CN CB : Addr) : TS := (tSeq (tDrop (tCall (SP 2 R_check_person) [] E0 (tCons (tVar 0) (tCons (tVar 1) tNil))))
  (tSeq (tDrop (tCall (SP 2 R_check_blinding) [] E0 (tCons (tVar 0) (tCons (tVar 2) tNil))))
  (tSeq (tDrop (tCall (SP 2 R_check_exponents) [] E0 (tCons (tVar 0) (tCons (tLst (tCons (tVar 3) tNil)) tNil))))
  (tSeq (tAsg (tOp (rCatA K) (tTup (tCons (tC (.int 1)) tNil)) (tCB (cTuple K) (tCons (tVar 1) tNil))) (gName 4))
  (tSeq (tAsg (tOp oMul (tVar 3) (tOp (rIxT K) (tVar 2) (tC (.int 0)))) (gName 5))
  (tSeq (tAsg (tLc (RZ.iZipA K (tCons (tOp (rIxT K) (tVar 2) (tC (.int 3))) (tCons (tVar 4) tNil))) (gTup K 2 (gCons (gName 7) (gCons (gName 8) gNil))) tYes (tOp oMod (tOp oAdd (tVar 7) (tOp oMul (tVar 5) (tVar 8))) (tOp (rIxT K) (tVar 0) (tC (.int 0)))) [7, 8]) (gName 6))
  (tRet (tTup (tCons (tVar 3) (tCons (tCB (cTuple K) (tCons (tVar 6) tNil)) tNil))))))))))
theorem sem_spend_of {K : PySem.W.Frag} {CN CB : Addr} (ds : List PyData) (d : PyData) (h : R_spend_of ds d) : S W0 (t_spend_of K CN CB) (startR n_spend_of ds) none { nx := fun _ _ => d = .none, rt := fun d' => d' = d } := by
  obtain ⟨s, p, b, c, rfl, hq, gp, gb, hd, rfl⟩ := h
  have hb := gb.al
  simp only [List.all_cons, List.all_nil, Bool.and_true, Bool.and_eq_true] at hb
  have bs := inQ_iff.mp hb.1
  have bd := inQ_iff.mp hd
  unfold Bd at hq
  have m1 : c * b.s ≤ 1013 * 1013 := Int.mul_le_mul (by omega) (by omega) (by omega) (by omega)
  have m0 : 0 ≤ c * b.s := Int.mul_nonneg (by omega) (by omega)
  show S W0 _ [some (dSu s), some (dPe p), some (dBl b), some (.int c), none, none, none, none, none] none _
  refine q_drop (c_check_person (by walk_at "ev") gp) ?_
  refine q_drop (c_check_blinding (by walk_at "ev") gb) ?_
  refine q_drop (c_check_exponents (vs := [c]) (a_cons (e_var rfl) (a_cons (e_lst (a_cons (e_var rfl) a_nil) (by simp [dI])) a_nil)) (by simp) (by simp [hd])) ?_
  refine q_set (d := .tuple (dI [1, p.n, p.a, p.z])) (e_op (e_tup (a_cons e_int a_nil) (by simp)) (e_cb (a_cons (e_var rfl) a_nil) c_tupT) (o_catT (sz_ok (by simp)))) rfl ?_
  refine q_set (e_op (e_var rfl) (e_op (e_var rfl) e_int (o_ixT rfl)) (o_mul (.inr (by omega)))) rfl ?_
  refine q_set (d := .list (dI (List.zipWith (fun x e => (x + c * b.s * e) % s.q) [b.r1, b.r2, b.r3, b.r4] [1, p.n, p.a, p.z]))) (e_lcM (w_zipT (ds := dI [b.r1, b.r2, b.r3, b.r4]) (es := dI [1, p.n, p.a, p.z]) (a_cons (e_op (e_var rfl) e_int (o_ixT rfl)) (a_cons (e_var rfl) a_nil)) rfl) _ rfl (by show 4 ≤ 100000; omega) fun i d hd => ?_) rfl ?_
  · obtain ⟨x, e, h1, h2, rfl⟩ := zipD_mem hd
    refine ⟨_, _, _, g_tup (g_cons (g_cons g_nil)) rfl, fun j hj => hj, e_op (e_op (e_var rfl) (e_op (e_var rfl) (e_var rfl) (o_mul (.inl (by omega)))) o_add) (e_op (e_var rfl) e_int (o_ixT rfl)) (o_mod (by omega)), ?_⟩
    refine at_map ?_
    rw [List.getElem?_zipWith, h1, h2]
  · exact s_ret (e_tup (a_cons (e_var rfl) (a_cons (e_cb (a_cons (e_var rfl) a_nil) c_tupL) a_nil)) (by simp)) rfl
theorem der_spend_of {P : Program} {w : World} {K : PySem.W.Frag} {mg : Str → Option Value} {base : Heap} {CN CB : Addr} {f : Addr} (h : Wd K mg CN CB) (cdv : Value) (A : Around) (outer : List PySem.Env) (s : Shared) (H : Hp) (E : XK) (hr : Room 3 (A.deeper (envOfC "spend_of" (defScope s_spend_of) s.heap.objs.size f cdv))) :
    PSs ((cxOf CX0 P w K mg base n_spend_of "spend_of" (defScope s_spend_of) f cdv A outer s H E).nox) (defBody s_spend_of) (t_spend_of K CN CB) :=
  (pss_cons (ps_expr (pe_c (pr_check_person h) (hr.mono (by decide)) pass0 (pa_cons (pv 0) (pa_cons (pv 1) pa_nil))))
  (pss_cons (ps_expr (pe_c (pr_check_blinding h) hr pass0 (pa_cons (pv 0) (pa_cons (pv 2) pa_nil))))
  (pss_cons (ps_expr (pe_c (pr_check_exponents h) (hr.mono (by decide)) pass0 (pa_cons (pv 0) (pa_cons (pe_lst (pa_cons (pv 3) pa_nil)) pa_nil))))
  (pss_cons (ps_set (i := 4) sc_spend_of.nd rfl (by first | exact Or.inl rfl | exact Or.inr rfl) (pe_op op_catA (pe_tup (pa_cons pe_int pa_nil)) (pe_callTy call_tuple_of (by rfl) h.f_tuple bt_tuple (pa_cons (pv 1) pa_nil))))
  (pss_cons (ps_set (i := 5) sc_spend_of.nd rfl (by first | exact Or.inl rfl | exact Or.inr rfl) (pe_op op_mul (pv 3) (pe_ix ix_tup (pv 2) pe_int (fun _ _ => rfl))))
  (pss_cons (ps_setLc (i := 6) (own := [("x", 7), ("exponent", 8)]) rfl sc_spend_of.nd rfl rfl (sw_true rfl rfl rfl (by decide +kernel)) (RZ.pi_zipA (by rfl) h.f_zip (pa_cons (pe_ix ix_tup (pv 2) pe_int (fun _ _ => rfl)) (pa_cons (pv 4) pa_nil))) (blkOk_by (own := [("x", 7), ("exponent", 8)]) (N := n_spend_of) (sc := defScope s_spend_of) (by decide +kernel)) (fun _ _ _ _ _ => (pg_tup rfl (pgs_cons (pg_name (i := 7) sc_spend_of.nd rfl (by first | exact Or.inl rfl | exact Or.inr rfl)) (pgs_cons (pg_name (i := 8) sc_spend_of.nd rfl (by first | exact Or.inl rfl | exact Or.inr rfl)) pgs_nil)))) (fun _ _ _ _ _ => pts_nil) (fun _ _ _ _ _ => (pe_op op_mod (pe_op op_add (pv 7) (pe_op op_mul (pv 5) (pv 8))) (pe_ix ix_tup (pv 0) pe_int (fun _ _ => rfl)))))
  (pss_one (ps_ret (pe_tup (pa_cons (pv 3) (pa_cons (pe_callTy call_tuple_of (by rfl) h.f_tuple bt_tuple (pa_cons (pv 6) pa_nil)) pa_nil)))))))))))
theorem pr_spend_of {P : Program} {w : World} {K : PySem.W.Frag} {mg : Str → Option Value} {base : Heap} {CN CB : Addr} (h : Wd K mg CN CB) : Pr P w K mg base CX0 4 "spend_of" ["setup", "person", "blinding", "d"] (SP 4 R_spend_of) := by
  obtain ⟨f, fd, F, g⟩ := h.d_spend_of
  exact ⟨f, fd, okD F sc_spend_of (t_spend_of K CN CB) (der_spend_of h) (sem_spend_of (CN := CN) (CB := CB)), g, F.kp, F.bindsN fun _ _ _ _ _ _ us hl => match us, hl with | [_, _, _, _], _ => rfl⟩
theorem c_spend_of {ρ : Ev} {ta : TA} {s : Su} {p : Pe} {b : Bl} {d : Int} (h : A ta ρ [dSu s, dPe p, dBl b, .int d]) (hq : Bd s.q) (gp : GoodPe s.q p) (gb : GoodB s.q b) (hd : inQ s.q d = true) : E (tCall (SP 4 R_spend_of) [] E0 ta) ρ (dSn (spd s p b d)) := e_call h rfl ⟨_, _, _, _, rfl, hq, gp, gb, hd, rfl⟩
theorem nand_t {a b c : Bool} (h : (!a || !b) = true) : ((a && b) && c) = false := by
  cases a <;> cases b <;> simp_all
theorem nand_f {a b : Bool} (h : (!a || !b) = false) : a = true ∧ b = true := by
  cases a <;> cases b <;> simp_all
def spendB (s : Su) (t : Tk) (x : Sn) : Bool := (isEl s.q t.n0 && isEl s.q t.n1) && ((inQ s.q x.d && (s4 x).all (inQ s.q)) && decide (pops s.q (rest s) (s4 x) = pw s.q t.n0 x.d * t.n1 % (2 * s.q + 1)))
def R_is_spend : List PyData → PyData → Prop := fun ds r => ∃ (s : Su) (t : Tk) (x : Sn), ds = [dSu s, dTk t, dSn x] ∧ GoodS s ∧ r = .bool (spendB s t x)
def t_is_spend (K : PySem.W.Frag) (CN CB : Addr) : TS := (tSeq (tAsg (tVar 0) (gTup K 2 (gCons (gName 3) (gCons (gName 4) gNil))))
  (tSeq (tAsg (tVar 2) (gTup K 2 (gCons (gName 5) (gCons (gName 6) gNil))))
  (tSeq (tIfS (tOr (tNot (tB (tCall (SP 2 R_is_element) [] E0 (tCons (tVar 3) (tCons (tOp (rIxT K) (tVar 1) (tC (.int 0))) tNil))))) (tNot (tB (tCall (SP 2 R_is_element) [] E0 (tCons (tVar 3) (tCons (tOp (rIxT K) (tVar 1) (tC (.int 1))) tNil)))))) (tRet (tC (.bl false))) tNext)
  (tSeq (tIfS (tOr (tNot (tB (tCall (SP 2 R_is_exponent2) [] E0 (tCons (tVar 3) (tCons (tVar 5) tNil))))) (tNot (tB (tCB (rAll K) (tCons (tLc (iTup K (tVar 6)) (gName 7) tYes (tCall (SP 2 R_is_exponent2) [] E0 (tCons (tVar 3) (tCons (tVar 7) tNil))) [7]) tNil))))) (tRet (tC (.bl false))) tNext)
  (tRet (tOp rEq (tCall (SP 3 R_product_of_powers) [] E0 (tCons (tVar 3) (tCons (tCB (cList K) (tCons (tSl (rSlA K) (tVar 4) (tPart (tC (.int 1))) tNoPart) tNil)) (tCons (tCB (cList K) (tCons (tVar 6) tNil)) tNil)))) (tCall (SP 3 R_product) [] E0 (tCons (tVar 3) (tCons (tCall (SP 3 R_power) [] E0 (tCons (tVar 3) (tCons (tOp (rIxT K) (tVar 1) (tC (.int 0))) (tCons (tVar 5) tNil)))) (tCons (tOp (rIxT K) (tVar 1) (tC (.int 1))) tNil))))))))))
theorem sem_is_spend {K : PySem.W.Frag} {CN CB : Addr} (ds : List PyData) (d : PyData) (h : R_is_spend ds d) : S W0 (t_is_spend K CN CB) (startR n_is_spend ds) none { nx := fun _ _ => d = .none, rt := fun d' => d' = d } := by
  obtain ⟨s, t, x, rfl, g, rfl⟩ := h
  show S W0 _ [some (dSu s), some (dTk t), some (dSn x), none, none, none, none, none] none _
  refine q_asg (e_var rfl) (g_tup (g_cons (g_cons g_nil)) rfl) rfl ?_
  refine q_asg (e_var rfl) (g_tup (g_cons (g_cons g_nil)) rfl) rfl ?_
  refine q_when (b := !isEl s.q t.n0 || !isEl s.q t.n1) (t_or (t_not (t_b (c_is_element (a_cons (e_var rfl) (a_cons (e_op (e_var rfl) e_int (o_ixT rfl)) a_nil)) g.q))) fun _ => t_not (t_b (c_is_element (a_cons (e_var rfl) (a_cons (e_op (e_var rfl) e_int (o_ixT rfl)) a_nil)) g.q))) (fun hb => s_ret e_bl ?_) fun hb => ?_
  · show PyData.bool false = .bool (spendB s t x)
    unfold spendB
    rw [nand_t hb]
  obtain ⟨k0, k1⟩ := nand_f hb
  refine q_when (b := !inQ s.q x.d || !(s4 x).all (inQ s.q)) (t_or (t_not (t_b (c_is_exponent2 (a_cons (e_var rfl) (a_cons (e_var rfl) a_nil))))) fun _ => t_not (t_b (e_testAll (q := s.q) (vs := s4 x) (inQ s.q) (w_tup (e_var rfl)) (by simp [s4]) fun v _ => c_is_exponent2 (a_cons (e_var rfl) (a_cons (e_var rfl) a_nil))))) (fun hb => s_ret e_bl ?_) fun hb => ?_
  · show PyData.bool false = .bool (spendB s t x)
    unfold spendB
    rw [nand_t hb, Bool.and_false]
  obtain ⟨k2, k3⟩ := nand_f hb
  refine s_ret (e_op (c_product_of_powers (bs := rest s) (es := s4 x) (a_cons (e_var rfl) (a_cons (e_cb (a_cons (e_sl (e_var rfl) (p_some e_int) p_none s_tup) a_nil) c_listT) (a_cons (e_cb (a_cons (e_var rfl) a_nil) c_listT) a_nil))) g.q rfl (rest_el g)) (c_product (a_cons (e_var rfl) (a_cons (c_power (a_cons (e_var rfl) (a_cons (e_op (e_var rfl) e_int (o_ixT rfl)) (a_cons (e_var rfl) a_nil))) g.q k0) (a_cons (e_op (e_var rfl) e_int (o_ixT rfl)) a_nil))) g.q (el_pw g.q k0) k1) o_eqI) ?_
  show PyData.bool _ = .bool (spendB s t x)
  unfold spendB
  rw [k0, k1, k2, k3]
  rfl
theorem der_is_spend {P : Program} {w : World} {K : PySem.W.Frag} {mg : Str → Option Value} {base : Heap} {CN CB : Addr} {f : Addr} (h : Wd K mg CN CB) (cdv : Value) (A : Around) (outer : List PySem.Env) (s : Shared) (H : Hp) (E : XK) (hr : Room 5 (A.deeper (envOfC "is_spend" (defScope s_is_spend) s.heap.objs.size f cdv))) :
    PSs ((cxOf CX0 P w K mg base n_is_spend "is_spend" (defScope s_is_spend) f cdv A outer s H E).nox) (defBody s_is_spend) (t_is_spend K CN CB) :=
  (pss_cons (ps_asg (pv 0) (pg_tup rfl (pgs_cons (pg_name (i := 3) sc_is_spend.nd rfl (by first | exact Or.inl rfl | exact Or.inr rfl)) (pgs_cons (pg_name (i := 4) sc_is_spend.nd rfl (by first | exact Or.inl rfl | exact Or.inr rfl)) pgs_nil))))
  (pss_cons (ps_asg (pv 2) (pg_tup rfl (pgs_cons (pg_name (i := 5) sc_is_spend.nd rfl (by first | exact Or.inl rfl | exact Or.inr rfl)) (pgs_cons (pg_name (i := 6) sc_is_spend.nd rfl (by first | exact Or.inl rfl | exact Or.inr rfl)) pgs_nil))))
  (pss_cons (ps_if (PW.pt (pw_or (pt_not (pt_val (pe_c (pr_is_element h) (hr.mono (by decide)) pass0 (pa_cons (pv 3) (pa_cons (pe_ix ix_tup (pv 1) pe_int (fun _ _ => rfl)) pa_nil))))) (pw_or1 (pt_not (pt_val (pe_c (pr_is_element h) (hr.mono (by decide)) pass0 (pa_cons (pv 3) (pa_cons (pe_ix ix_tup (pv 1) pe_int (fun _ _ => rfl)) pa_nil)))))))) (pss_one (ps_ret pe_bl)) pss_nil)
  (pss_cons (ps_if (PW.pt (pw_or (pt_not (pt_val (pe_c (pr_is_exponent2 h) (hr.mono (by decide)) pass0 (pa_cons (pv 3) (pa_cons (pv 5) pa_nil))))) (pw_or1 (pt_not (pt_val (pe_callB (cr_all rfl) (by rfl) h.f_all bt_all (pa_cons (pe_lc (own := [("answer", 7)]) rfl sc_is_spend.nd (pi_tup (pv 6)) (blkOk_by (own := [("answer", 7)]) (N := n_is_spend) (sc := defScope s_is_spend) (by decide +kernel)) (fun _ _ _ _ _ => (pg_name (i := 7) sc_is_spend.nd rfl (by first | exact Or.inl rfl | exact Or.inr rfl))) (fun _ _ _ _ _ => pts_nil) (fun _ _ _ _ _ => (pe_c (pr_is_exponent2 h) (hr.mono (by decide)) pass0 (pa_cons (pv 3) (pa_cons (pv 7) pa_nil))))) pa_nil))))))) (pss_one (ps_ret pe_bl)) pss_nil)
  (pss_one (ps_ret (pe_cmpR op_eq (pe_c (pr_product_of_powers h) hr pass0 (pa_cons (pv 3) (pa_cons (pe_callTy call_list_of (by rfl) h.f_list bt_list (pa_cons (pe_slice sl_tupA (pv 4) (po_some pe_int) po_none) pa_nil)) (pa_cons (pe_callTy call_list_of (by rfl) h.f_list bt_list (pa_cons (pv 6) pa_nil)) pa_nil)))) (pe_c (pr_product h) (hr.mono (by decide)) pass0 (pa_cons (pv 3) (pa_cons (pe_c (pr_power h) (hr.mono (by decide)) pass0 (pa_cons (pv 3) (pa_cons (pe_ix ix_tup (pv 1) pe_int (fun _ _ => rfl)) (pa_cons (pv 5) pa_nil)))) (pa_cons (pe_ix ix_tup (pv 1) pe_int (fun _ _ => rfl)) pa_nil)))) (nomark _))))))))
theorem pr_is_spend {P : Program} {w : World} {K : PySem.W.Frag} {mg : Str → Option Value} {base : Heap} {CN CB : Addr} (h : Wd K mg CN CB) : Pr P w K mg base CX0 6 "is_spend" ["setup", "ticket", "spend"] (SP 3 R_is_spend) := by
  obtain ⟨f, fd, F, g⟩ := h.d_is_spend
  exact ⟨f, fd, okD F sc_is_spend (t_is_spend K CN CB) (der_is_spend h) (sem_is_spend (CN := CN) (CB := CB)), g, F.kp, F.bindsN fun _ _ _ _ _ _ us hl => match us, hl with | [_, _, _], _ => rfl⟩
theorem c_is_spend {ρ : Ev} {ta : TA} {s : Su} {t : Tk} {x : Sn} (h : A ta ρ [dSu s, dTk t, dSn x]) (g : GoodS s) : E (tCall (SP 3 R_is_spend) [] E0 ta) ρ (.bool (spendB s t x)) := e_call h rfl ⟨_, _, _, rfl, g, rfl⟩
/-! ### tickets -/
def R_inner_challenge : List PyData → PyData → Prop := fun ds r => ∃ (s : Su) (t : Tk), ds = [dSu s, dTk t] ∧ Bd s.q ∧ (∀ v ∈ t5 t, isEl s.q v = true) ∧ r = .int (tkC s.q (t5 t))
def t_inner_challenge (K : PySem.W.Frag) (CN CB : Addr) : TS := (tRet (tCall (SP 2 R_challenge_for) [] E0 (tCons (tOp (rIxT K) (tVar 0) (tC (.int 0))) (tCons (tSl (rSlA K) (tVar 1) tNoPart (tPart (tC (.int 5)))) tNil))))
theorem sem_inner_challenge {K : PySem.W.Frag} {CN CB : Addr} (ds : List PyData) (d : PyData) (h : R_inner_challenge ds d) : S W0 (t_inner_challenge K CN CB) (startR n_inner_challenge ds) none { nx := fun _ _ => d = .none, rt := fun d' => d' = d } := by
  obtain ⟨s, t, rfl, hq, he, rfl⟩ := h
  have hq' := hq
  unfold Bd at hq'
  show S W0 _ [some (dSu s), some (dTk t)] none _
  exact s_ret (c_challenge_for (ns := t5 t) (a_cons (e_op (e_var rfl) e_int (o_ixT rfl)) (a_cons (e_sl (e_var rfl) p_none (p_some e_int) s_tup) a_nil)) (by omega) (by simp [t5]) (el_small hq he)) rfl
theorem der_inner_challenge {P : Program} {w : World} {K : PySem.W.Frag} {mg : Str → Option Value} {base : Heap} {CN CB : Addr} {f : Addr} (h : Wd K mg CN CB) (cdv : Value) (A : Around) (outer : List PySem.Env) (s : Shared) (H : Hp) (E : XK) (hr : Room 4 (A.deeper (envOfC "inner_challenge" (defScope s_inner_challenge) s.heap.objs.size f cdv))) :
    PSs ((cxOf CX0 P w K mg base n_inner_challenge "inner_challenge" (defScope s_inner_challenge) f cdv A outer s H E).nox) (defBody s_inner_challenge) (t_inner_challenge K CN CB) :=
  (pss_one (ps_ret (pe_c (pr_challenge_for h) hr pass0 (pa_cons (pe_ix ix_tup (pv 0) pe_int (fun _ _ => rfl)) (pa_cons (pe_slice sl_tupA (pv 1) po_none (po_some pe_int)) pa_nil)))))
theorem pr_inner_challenge {P : Program} {w : World} {K : PySem.W.Frag} {mg : Str → Option Value} {base : Heap} {CN CB : Addr} (h : Wd K mg CN CB) : Pr P w K mg base CX0 5 "inner_challenge" ["setup", "ticket"] (SP 2 R_inner_challenge) := by
  obtain ⟨f, fd, F, g⟩ := h.d_inner_challenge
  exact ⟨f, fd, okD F sc_inner_challenge (t_inner_challenge K CN CB) (der_inner_challenge h) (sem_inner_challenge (CN := CN) (CB := CB)), g, F.kp, F.bindsN fun _ _ _ _ _ _ us hl => match us, hl with | [_, _], _ => rfl⟩
theorem c_inner_challenge {ρ : Ev} {ta : TA} {s : Su} {t : Tk} (h : A ta ρ [dSu s, dTk t]) (hq : Bd s.q) (he : ∀ v ∈ t5 t, isEl s.q v = true) : E (tCall (SP 2 R_inner_challenge) [] E0 ta) ρ (.int (tkC s.q (t5 t))) := e_call h rfl ⟨_, _, rfl, hq, he, rfl⟩
def ticketB (s : Su) (key : Int) (t : Tk) : Bool := ((t5 t).all (isEl s.q) && (!(decide (t.n0 = 1) || !inQ s.q t.n5))) && (granted s.q s.b0 t.n5 t.n3 key (tkC s.q (t5 t)) && granted s.q t.n0 t.n5 t.n4 t.n2 (tkC s.q (t5 t)))
def R_is_ticket : List PyData → PyData → Prop := fun ds r => ∃ (s : Su) (key : Int) (t : Tk), ds = [dSu s, .int key, dTk t] ∧ GoodS s ∧ isEl s.q key = true ∧ r = .bool (ticketB s key t)
def t_is_ticket (K : PySem.W.Frag) (CN CB : Addr) : TS := (tSeq (tAsg (tVar 0) (gTup K 2 (gCons (gName 3) (gCons (gName 4) gNil))))
  (tSeq (tIfS (tOr (tNot (tB (tCB (rAll K) (tCons (tLc (iTup K (tSl (rSlA K) (tVar 2) tNoPart (tPart (tC (.int 5))))) (gName 12) tYes (tCall (SP 2 R_is_element) [] E0 (tCons (tVar 3) (tCons (tVar 12) tNil))) [12]) tNil)))) (tOr (tTest (tOp rEq (tOp (rIxT K) (tVar 2) (tC (.int 0))) (tC (.int 1)))) (tNot (tB (tCall (SP 2 R_is_exponent2) [] E0 (tCons (tVar 3) (tCons (tOp (rIxT K) (tVar 2) (tC (.int 5))) tNil))))))) (tRet (tC (.bl false))) tNext)
  (tSeq (tAsg (tVar 2) (gTup K 6 (gCons (gName 5) (gCons (gName 6) (gCons (gName 7) (gCons (gName 8) (gCons (gName 9) (gCons (gName 10) gNil))))))))
  (tSeq (tAsg (tCall (SP 2 R_inner_challenge) [] E0 (tCons (tVar 0) (tCons (tVar 2) tNil))) (gName 11))
  (tRet (tAndV (tCall (SP 6 R_is_granted) [] E0 (tCons (tVar 3) (tCons (tOp (rIxT K) (tVar 4) (tC (.int 0))) (tCons (tVar 10) (tCons (tVar 8) (tCons (tVar 1) (tCons (tVar 11) tNil))))))) (tCall (SP 6 R_is_granted) [] E0 (tCons (tVar 3) (tCons (tVar 5) (tCons (tVar 10) (tCons (tVar 9) (tCons (tVar 7) (tCons (tVar 11) tNil)))))))))))))
theorem sem_is_ticket {K : PySem.W.Frag} {CN CB : Addr} (ds : List PyData) (d : PyData) (h : R_is_ticket ds d) : S W0 (t_is_ticket K CN CB) (startR n_is_ticket ds) none { nx := fun _ _ => d = .none, rt := fun d' => d' = d } := by
  obtain ⟨s, key, t, rfl, g, hk, rfl⟩ := h
  show S W0 _ [some (dSu s), some (.int key), some (dTk t), none, none, none, none, none, none, none, none, none, none] none _
  refine q_asg (e_var rfl) (g_tup (g_cons (g_cons g_nil)) rfl) rfl ?_
  refine q_when (b := !(t5 t).all (isEl s.q) || !!(decide (t.n0 = 1) || !inQ s.q t.n5)) (t_or (t_not (t_b (e_testAll (q := s.q) (vs := t5 t) (isEl s.q) (w_tup (e_sl (e_var rfl) p_none (p_some e_int) s_tup)) (by simp [t5]) fun v _ => c_is_element (a_cons (e_var rfl) (a_cons (e_var rfl) a_nil)) g.q))) fun _ => t_is (t_or (t_test (e_op (e_op (e_var rfl) e_int (o_ixT rfl)) e_int o_eqI)) fun _ => t_not (t_b (c_is_exponent2 (a_cons (e_var rfl) (a_cons (e_op (e_var rfl) e_int (o_ixT rfl)) a_nil))))) (by rw [Bool.not_not])) (fun hb => s_ret e_bl ?_) fun hb => ?_
  · show PyData.bool false = .bool (ticketB s key t)
    unfold ticketB
    rw [nand_t hb]
  obtain ⟨k0, k1⟩ := nand_f hb
  have el : ∀ v ∈ t5 t, isEl s.q v = true := List.all_eq_true.mp k0
  have e0 : isEl s.q t.n0 = true := el _ (by simp [t5])
  have e2 : isEl s.q t.n2 = true := el _ (by simp [t5])
  have e3 : isEl s.q t.n3 = true := el _ (by simp [t5])
  have e4 : isEl s.q t.n4 = true := el _ (by simp [t5])
  refine q_asg (e_var rfl) (g_tup (g_cons (g_cons (g_cons (g_cons (g_cons (g_cons g_nil)))))) rfl) rfl ?_
  refine q_set (c_inner_challenge (a_cons (e_var rfl) (a_cons (e_var rfl) a_nil)) g.q el) rfl ?_
  show S W0 _ [some (dSu s), some (.int key), some (dTk t), some (.int s.q), some (.tuple (dI [s.b0, s.b1, s.b2, s.b3, s.b4])), some (.int t.n0), some (.int t.n1), some (.int t.n2), some (.int t.n3), some (.int t.n4), some (.int t.n5), some (.int (tkC s.q (t5 t))), none] none _
  refine s_ret (e_and (c_is_granted (a_cons (e_var rfl) (a_cons (e_op (e_var rfl) e_int (o_ixT rfl)) (by walk_at "ev"))) g.q g.e0 e3 hk) fun _ => c_is_granted (by walk_at "ev") g.q e0 e4 e2) ?_
  show PyData.bool _ = .bool (ticketB s key t)
  unfold ticketB
  rw [k0, k1]
  rfl
theorem der_is_ticket {P : Program} {w : World} {K : PySem.W.Frag} {mg : Str → Option Value} {base : Heap} {CN CB : Addr} {f : Addr} (h : Wd K mg CN CB) (cdv : Value) (A : Around) (outer : List PySem.Env) (s : Shared) (H : Hp) (E : XK) (hr : Room 5 (A.deeper (envOfC "is_ticket" (defScope s_is_ticket) s.heap.objs.size f cdv))) :
    PSs ((cxOf CX0 P w K mg base n_is_ticket "is_ticket" (defScope s_is_ticket) f cdv A outer s H E).nox) (defBody s_is_ticket) (t_is_ticket K CN CB) :=
  (pss_cons (ps_asg (pv 0) (pg_tup rfl (pgs_cons (pg_name (i := 3) sc_is_ticket.nd rfl (by first | exact Or.inl rfl | exact Or.inr rfl)) (pgs_cons (pg_name (i := 4) sc_is_ticket.nd rfl (by first | exact Or.inl rfl | exact Or.inr rfl)) pgs_nil))))
  (pss_cons (ps_if (PW.pt (pw_or (pt_not (pt_val (pe_callB (cr_all rfl) (by rfl) h.f_all bt_all (pa_cons (pe_lc (own := [("value", 12)]) rfl sc_is_ticket.nd (pi_tup (pe_slice sl_tupA (pv 2) po_none (po_some pe_int))) (blkOk_by (own := [("value", 12)]) (N := n_is_ticket) (sc := defScope s_is_ticket) (by decide +kernel)) (fun _ _ _ _ _ => (pg_name (i := 12) sc_is_ticket.nd rfl (by first | exact Or.inl rfl | exact Or.inr rfl))) (fun _ _ _ _ _ => pts_nil) (fun _ _ _ _ _ => (pe_c (pr_is_element h) (hr.mono (by decide)) pass0 (pa_cons (pv 3) (pa_cons (pv 12) pa_nil))))) pa_nil)))) (pw_or (pt_cmpR op_eq (pe_ix ix_tup (pv 2) pe_int (fun _ _ => rfl)) pe_int (nomark _)) (pw_or1 (pt_not (pt_val (pe_c (pr_is_exponent2 h) (hr.mono (by decide)) pass0 (pa_cons (pv 3) (pa_cons (pe_ix ix_tup (pv 2) pe_int (fun _ _ => rfl)) pa_nil))))))))) (pss_one (ps_ret pe_bl)) pss_nil)
  (pss_cons (ps_asg (pv 2) (pg_tup rfl (pgs_cons (pg_name (i := 5) sc_is_ticket.nd rfl (by first | exact Or.inl rfl | exact Or.inr rfl)) (pgs_cons (pg_name (i := 6) sc_is_ticket.nd rfl (by first | exact Or.inl rfl | exact Or.inr rfl)) (pgs_cons (pg_name (i := 7) sc_is_ticket.nd rfl (by first | exact Or.inl rfl | exact Or.inr rfl)) (pgs_cons (pg_name (i := 8) sc_is_ticket.nd rfl (by first | exact Or.inl rfl | exact Or.inr rfl)) (pgs_cons (pg_name (i := 9) sc_is_ticket.nd rfl (by first | exact Or.inl rfl | exact Or.inr rfl)) (pgs_cons (pg_name (i := 10) sc_is_ticket.nd rfl (by first | exact Or.inl rfl | exact Or.inr rfl)) pgs_nil))))))))
  (pss_cons (ps_set (i := 11) sc_is_ticket.nd rfl (by first | exact Or.inl rfl | exact Or.inr rfl) (pe_c (pr_inner_challenge h) hr pass0 (pa_cons (pv 0) (pa_cons (pv 2) pa_nil))))
  (pss_one (ps_ret (pe_and (pe_c (pr_is_granted h) hr pass0 (pa_cons (pv 3) (pa_cons (pe_ix ix_tup (pv 4) pe_int (fun _ _ => rfl)) (pa_cons (pv 10) (pa_cons (pv 8) (pa_cons (pv 1) (pa_cons (pv 11) pa_nil))))))) (pe_one (pe_c (pr_is_granted h) hr pass0 (pa_cons (pv 3) (pa_cons (pv 5) (pa_cons (pv 10) (pa_cons (pv 9) (pa_cons (pv 7) (pa_cons (pv 11) pa_nil)))))))))))))))
theorem pr_is_ticket {P : Program} {w : World} {K : PySem.W.Frag} {mg : Str → Option Value} {base : Heap} {CN CB : Addr} (h : Wd K mg CN CB) : Pr P w K mg base CX0 6 "is_ticket" ["setup", "key", "ticket"] (SP 3 R_is_ticket) := by
  obtain ⟨f, fd, F, g⟩ := h.d_is_ticket
  exact ⟨f, fd, okD F sc_is_ticket (t_is_ticket K CN CB) (der_is_ticket h) (sem_is_ticket (CN := CN) (CB := CB)), g, F.kp, F.bindsN fun _ _ _ _ _ _ us hl => match us, hl with | [_, _, _], _ => rfl⟩
theorem c_is_ticket {ρ : Ev} {ta : TA} {s : Su} {key : Int} {t : Tk} (h : A ta ρ [dSu s, .int key, dTk t]) (g : GoodS s) (hk : isEl s.q key = true) : E (tCall (SP 3 R_is_ticket) [] E0 ta) ρ (.bool (ticketB s key t)) := e_call h rfl ⟨_, _, _, rfl, g, hk, rfl⟩
/-! ### contexts, stages -/
abbrev smallS : Str := "abcdefghijklmnopqrstuvwxyz"
def GateOk (g : Str) : Prop := 1 ≤ g.length ∧ g.length ≤ 6 ∧ ∀ c ∈ g.cps.toList, c ∈ smallS.cps.toList
structure GoodX (x : Ct) : Prop where
  g : GateOk x.g
  m : 0 ≤ x.m ∧ x.m ≤ 999999
def R_is_gate_name : List PyData → PyData → Prop := fun ds r => ∃ g : Str, ds = [.str g] ∧ GateOk g ∧ r = .bool true
def t_is_gate_name (K : PySem.W.Frag) (CN CB : Addr) : TS := (tRet (tAndV (tChain oLe oLe (tC (.int 1)) (tCB cLenS (tCons (tVar 0) tNil)) (tC (.int 6))) (tCB (rAll K) (tCons (tLc (iStr (tVar 0)) (gName 1) tYes (tOp oInS (tVar 1) (tC (.str "abcdefghijklmnopqrstuvwxyz"))) [1]) tNil))))
theorem sem_is_gate_name {K : PySem.W.Frag} {CN CB : Addr} (ds : List PyData) (d : PyData) (h : R_is_gate_name ds d) : S W0 (t_is_gate_name K CN CB) (startR n_is_gate_name ds) none { nx := fun _ _ => d = .none, rt := fun d' => d' = d } := by
  obtain ⟨g, rfl, ⟨h1, h2, h3⟩, rfl⟩ := h
  show S W0 _ [some (.str g), none] none _
  refine s_ret (e_is (e_and (b := true) (c := true) (e_is (e_chain e_int (e_cb (a_cons (e_var rfl) a_nil) (c_lenS (Nat.le_trans h2 (by decide)))) o_le (fun _ => e_int) (fun _ => o_le)) ?_) fun _ => e_is (e_cb (a_cons (e_lcM (w_str (e_var rfl)) (dB (g.cps.toList.map fun c => decide (c ∈ smallS.cps.toList))) ?_ ?_ fun i d hd => ?_) a_nil) c_all) ?_) rfl) rfl
  · rw [decide_eq_true (show (1 : Int) ≤ (g.length : Nat) by omega), decide_eq_true (show ((g.length : Nat) : Int) ≤ 6 by omega)]
    rfl
  · simp [dB, signsD]
  · have e : (signsD g).length = g.length := by
      simp [signsD]
      rfl
    omega
  · obtain ⟨c, hc, rfl⟩ := signsD_at hd
    exact ⟨_, _, _, g_name, fun j hj => hj, e_op (e_var rfl) e_str o_inS, at_map (at_map hc)⟩
  · have e : (g.cps.toList.map fun c => decide (c ∈ smallS.cps.toList)).all id = true := by
      rw [List.all_eq_true]
      intro b hb
      obtain ⟨c, hc, rfl⟩ := List.mem_map.mp hb
      exact decide_eq_true (h3 c hc)
    rw [e]
theorem der_is_gate_name {P : Program} {w : World} {K : PySem.W.Frag} {mg : Str → Option Value} {base : Heap} {CN CB : Addr} {f : Addr} (h : Wd K mg CN CB) (cdv : Value) (A : Around) (outer : List PySem.Env) (s : Shared) (H : Hp) (E : XK) (hr : Room 0 (A.deeper (envOfC "is_gate_name" (defScope s_is_gate_name) s.heap.objs.size f cdv))) :
    PSs ((cxOf CX0 P w K mg base n_is_gate_name "is_gate_name" (defScope s_is_gate_name) f cdv A outer s H E).nox) (defBody s_is_gate_name) (t_is_gate_name K CN CB) :=
  (pss_one (ps_ret (pe_and (pe_chain op_le op_le pe_int (pe_callB call_len_str (by rfl) h.f_len bt_len (pa_cons (pv 0) pa_nil)) (pe_gi h.c_MAX_GATE)) (pe_one (pe_callB (cr_all rfl) (by rfl) h.f_all bt_all (pa_cons (pe_lc (own := [("sign", 1)]) rfl sc_is_gate_name.nd (pi_str (pv 0)) (blkOk_by (own := [("sign", 1)]) (N := n_is_gate_name) (sc := defScope s_is_gate_name) (by decide +kernel)) (fun _ _ _ _ _ => (pg_name (i := 1) sc_is_gate_name.nd rfl (by first | exact Or.inl rfl | exact Or.inr rfl))) (fun _ _ _ _ _ => pts_nil) (fun _ _ _ _ _ => (pe_cmpR op_in_sign (pv 1) (pe_gs h.c_SMALL) (by rfl)))) pa_nil))))))
theorem pr_is_gate_name {P : Program} {w : World} {K : PySem.W.Frag} {mg : Str → Option Value} {base : Heap} {CN CB : Addr} (h : Wd K mg CN CB) : Pr P w K mg base CX0 1 "is_gate_name" ["text"] (SP 1 R_is_gate_name) := by
  obtain ⟨f, fd, F, g⟩ := h.d_is_gate_name
  exact ⟨f, fd, okD F sc_is_gate_name (t_is_gate_name K CN CB) (der_is_gate_name h) (sem_is_gate_name (CN := CN) (CB := CB)), g, F.kp, F.bindsN fun _ _ _ _ _ _ us hl => match us, hl with | [_], _ => rfl⟩
theorem c_is_gate_name {ρ : Ev} {ta : TA} {g : Str} (h : A ta ρ [.str g]) (hg : GateOk g) : E (tCall (SP 1 R_is_gate_name) [] E0 ta) ρ (.bool true) := e_call h rfl ⟨_, rfl, hg, rfl⟩
def R_check_context : List PyData → PyData → Prop := fun ds r => ∃ x : Ct, ds = [dCt x] ∧ GoodX x ∧ r = .none
def t_check_context (K : PySem.W.Frag) (CN CB : Addr) : TS := (tSeq (tAsg (tVar 0) (gTup K 2 (gCons (gName 1) (gCons (gName 2) gNil))))
  (tIfS (tOr (tNot (tB (tCall (SP 1 R_is_gate_name) [] E0 (tCons (tVar 1) tNil)))) (tOr (tTest (tOp oLt (tVar 2) (tC (.int 0)))) (tTest (tOp oGt (tVar 2) (tC (.int 999999)))))) tNever tNext))
theorem sem_check_context {K : PySem.W.Frag} {CN CB : Addr} (ds : List PyData) (d : PyData) (h : R_check_context ds d) : S W0 (t_check_context K CN CB) (startR n_check_context ds) none { nx := fun _ _ => d = .none, rt := fun d' => d' = d } := by
  obtain ⟨x, rfl, ⟨hg, hm⟩, rfl⟩ := h
  show S W0 _ [some (dCt x), none, none] none _
  refine q_asg (e_var rfl) (g_tup (g_cons (g_cons g_nil)) rfl) rfl ?_
  exact s_pass (t_orF (t_no (c_is_gate_name (a_cons (e_var rfl) a_nil) hg)) (t_orF (t_is (t_test (e_op (e_var rfl) e_int o_lt)) (decide_eq_false (by omega))) (t_is (t_test (e_op (e_var rfl) e_int o_gt)) (decide_eq_false (by omega))))) rfl
theorem der_check_context {P : Program} {w : World} {K : PySem.W.Frag} {mg : Str → Option Value} {base : Heap} {CN CB : Addr} {f : Addr} (h : Wd K mg CN CB) (cdv : Value) (A : Around) (outer : List PySem.Env) (s : Shared) (H : Hp) (E : XK) (hr : Room 1 (A.deeper (envOfC "check_context" (defScope s_check_context) s.heap.objs.size f cdv))) :
    PSs ((cxOf CX0 P w K mg base n_check_context "check_context" (defScope s_check_context) f cdv A outer s H E).nox) (defBody s_check_context) (t_check_context K CN CB) :=
  (pss_cons (ps_asg (pv 0) (pg_tup rfl (pgs_cons (pg_name (i := 1) sc_check_context.nd rfl (by first | exact Or.inl rfl | exact Or.inr rfl)) (pgs_cons (pg_name (i := 2) sc_check_context.nd rfl (by first | exact Or.inl rfl | exact Or.inr rfl)) pgs_nil))))
  (pss_one (ps_if (PW.pt (pw_or (pt_not (pt_val (pe_c (pr_is_gate_name h) hr pass0 (pa_cons (pv 1) pa_nil)))) (pw_or (pt_cmpR op_lt (pv 2) pe_int (nomark _)) (pw_or1 (pt_cmpR op_gt (pv 2) (pe_gi h.c_MAX_MOMENT) (nomark _)))))) (pss_one ps_never) pss_nil)))
theorem pr_check_context {P : Program} {w : World} {K : PySem.W.Frag} {mg : Str → Option Value} {base : Heap} {CN CB : Addr} (h : Wd K mg CN CB) : Pr P w K mg base CX0 2 "check_context" ["context"] (SP 1 R_check_context) := by
  obtain ⟨f, fd, F, g⟩ := h.d_check_context
  exact ⟨f, fd, okD F sc_check_context (t_check_context K CN CB) (der_check_context h) (sem_check_context (CN := CN) (CB := CB)), g, F.kp, F.bindsN fun _ _ _ _ _ _ us hl => match us, hl with | [_], _ => rfl⟩
theorem c_check_context {ρ : Ev} {ta : TA} {x : Ct} (h : A ta ρ [dCt x]) (hx : GoodX x) : E (tCall (SP 1 R_check_context) [] E0 ta) ρ .none := e_call h rfl ⟨_, rfl, hx, rfl⟩
def stg (x : Ct) (ps : List Q2) : List Int := [x.m, (ps.length : Int)] ++ ps.map ix
theorem stg_small {x : Ct} {ps : List Q2} (hx : GoodX x) (hp : GoodPs ps) : Small (stg x ps) := fun n hn => by
  have hm := hx.m
  have hl := hp.l
  unfold stg at hn
  rcases List.mem_append.mp hn with hn | hn
  · simp only [List.mem_cons, List.not_mem_nil, or_false] at hn
    omega
  · obtain ⟨p, h1, rfl⟩ := List.mem_map.mp hn
    have := (hp.ok p h1).ix_range
    omega
theorem stg_len {x : Ct} {ps : List Q2} : (stg x ps).length = ps.length + 2 := by
  unfold stg
  rw [List.length_append, List.length_map]
  simp only [List.length_cons, List.length_nil]
  omega
def R_stage_numbers : List PyData → PyData → Prop := fun ds r => ∃ (x : Ct) (ps : List Q2), ds = [dCt x, dPs ps] ∧ GoodX x ∧ GoodPs ps ∧ r = .list (dI (stg x ps))
def t_stage_numbers (K : PySem.W.Frag) (CN CB : Addr) : TS := (tSeq (tDrop (tCall (SP 1 R_check_context) [] E0 (tCons (tVar 0) tNil)))
  (tSeq (tDrop (tCall (SP 1 R_check_set) [] E0 (tCons (tVar 1) tNil)))
  (tRet (tOp rCat (tLst (tCons (tOp (rIxT K) (tVar 0) (tC (.int 1))) (tCons (tCB (cLen K) (tCons (tVar 1) tNil)) tNil))) (tLc (iList K (tVar 1)) (gName 2) tYes (tCall (SP 1 R_index_of) [] E0 (tCons (tVar 2) tNil)) [2])))))
theorem sem_stage_numbers {K : PySem.W.Frag} {CN CB : Addr} (ds : List PyData) (d : PyData) (h : R_stage_numbers ds d) : S W0 (t_stage_numbers K CN CB) (startR n_stage_numbers ds) none { nx := fun _ _ => d = .none, rt := fun d' => d' = d } := by
  obtain ⟨x, ps, rfl, hx, hp, rfl⟩ := h
  have hl := hp.l
  show S W0 _ [some (dCt x), some (dPs ps), none] none _
  refine q_drop (c_check_context (by walk_at "ev") hx) ?_
  refine q_drop (c_check_set (by walk_at "ev") hp) ?_
  refine s_ret (e_op (e_lst (a_cons (e_op (e_var rfl) e_int (o_ixT rfl)) (a_cons (e_is (e_cb (a_cons (e_var rfl) a_nil) c_lenL) (by rw [List.length_map])) a_nil)) (by simp)) (e_lcM (w_list (e_var rfl)) (dI (ps.map ix)) (by simp [dI]) (by rw [List.length_map]; omega) fun i d hd => ?_) (o_catL (sz_ok ?_))) ?_
  · obtain ⟨p, h1, rfl⟩ := map_at hd
    exact ⟨_, _, _, g_name, fun j hj => hj, c_index_of (a_cons (e_var rfl) a_nil) (hp.ok p (List.mem_of_getElem? h1)), at_map (at_map h1)⟩
  · rw [dI_len, List.length_map]
    simp only [List.length_cons, List.length_nil]
    omega
  · show PyData.list _ = .list (dI (stg x ps))
    unfold stg
    rw [dI_app]
    rfl
theorem der_stage_numbers {P : Program} {w : World} {K : PySem.W.Frag} {mg : Str → Option Value} {base : Heap} {CN CB : Addr} {f : Addr} (h : Wd K mg CN CB) (cdv : Value) (A : Around) (outer : List PySem.Env) (s : Shared) (H : Hp) (E : XK) (hr : Room 3 (A.deeper (envOfC "stage_numbers" (defScope s_stage_numbers) s.heap.objs.size f cdv))) :
    PSs ((cxOf CX0 P w K mg base n_stage_numbers "stage_numbers" (defScope s_stage_numbers) f cdv A outer s H E).nox) (defBody s_stage_numbers) (t_stage_numbers K CN CB) :=
  (pss_cons (ps_expr (pe_c (pr_check_context h) (hr.mono (by decide)) pass0 (pa_cons (pv 0) pa_nil)))
  (pss_cons (ps_expr (pe_c (pr_check_set h) hr pass0 (pa_cons (pv 1) pa_nil)))
  (pss_one (ps_ret (pe_op op_cat (pe_lst (pa_cons (pe_ix ix_tup (pv 0) pe_int (fun _ _ => rfl)) (pa_cons (pe_callB call_len_seq (by rfl) h.f_len bt_len (pa_cons (pv 1) pa_nil)) pa_nil))) (pe_lc (own := [("pair", 2)]) rfl sc_stage_numbers.nd (pi_list (pv 1)) (blkOk_by (own := [("pair", 2)]) (N := n_stage_numbers) (sc := defScope s_stage_numbers) (by decide +kernel)) (fun _ _ _ _ _ => (pg_name (i := 2) sc_stage_numbers.nd rfl (by first | exact Or.inl rfl | exact Or.inr rfl))) (fun _ _ _ _ _ => pts_nil) (fun _ _ _ _ _ => (pe_c (pr_index_of h) (hr.mono (by decide)) pass0 (pa_cons (pv 2) pa_nil)))))))))
theorem pr_stage_numbers {P : Program} {w : World} {K : PySem.W.Frag} {mg : Str → Option Value} {base : Heap} {CN CB : Addr} (h : Wd K mg CN CB) : Pr P w K mg base CX0 4 "stage_numbers" ["context", "pairs"] (SP 2 R_stage_numbers) := by
  obtain ⟨f, fd, F, g⟩ := h.d_stage_numbers
  exact ⟨f, fd, okD F sc_stage_numbers (t_stage_numbers K CN CB) (der_stage_numbers h) (sem_stage_numbers (CN := CN) (CB := CB)), g, F.kp, F.bindsN fun _ _ _ _ _ _ us hl => match us, hl with | [_, _], _ => rfl⟩
theorem c_stage_numbers {ρ : Ev} {ta : TA} {x : Ct} {ps : List Q2} (h : A ta ρ [dCt x, dPs ps]) (hx : GoodX x) (hp : GoodPs ps) : E (tCall (SP 2 R_stage_numbers) [] E0 ta) ρ (.list (dI (stg x ps))) := e_call h rfl ⟨_, _, rfl, hx, hp, rfl⟩
def stC (s : Su) (x : Ct) (ps : List Q2) : Int := chal s.q (joinV ("show " ++ x.g) (stg x ps))
def R_stage_challenge : List PyData → PyData → Prop := fun ds r => ∃ (s : Su) (x : Ct) (ps : List Q2), ds = [dSu s, dCt x, dPs ps] ∧ Bd s.q ∧ GoodX x ∧ GoodPs ps ∧ r = .int (stC s x ps)
def t_stage_challenge (K : PySem.W.Frag) (CN CB : Addr) : TS := (tSeq (tAsg (tCall (SP 2 R_stage_numbers) [] E0 (tCons (tVar 1) (tCons (tVar 2) tNil))) (gName 3))
  (tRet (tCall (SP 3 R_challenge_of) [] E0 (tCons (tOp (rIxT K) (tVar 0) (tC (.int 0))) (tCons (tOp oCatS (tC (.str "show ")) (tOp (rIxT K) (tVar 1) (tC (.int 0)))) (tCons (tVar 3) tNil))))))
theorem sem_stage_challenge {K : PySem.W.Frag} {CN CB : Addr} (ds : List PyData) (d : PyData) (h : R_stage_challenge ds d) : S W0 (t_stage_challenge K CN CB) (startR n_stage_challenge ds) none { nx := fun _ _ => d = .none, rt := fun d' => d' = d } := by
  obtain ⟨s, x, ps, rfl, hq, hx, hp, rfl⟩ := h
  unfold Bd at hq
  have hg := hx.g.2.1
  have hl := hp.l
  have o5 : (PySem.Str.ofString "show ").length = 5 := by decide
  show S W0 _ [some (dSu s), some (dCt x), some (dPs ps), none] none _
  refine q_set (c_stage_numbers (by walk_at "ev") hx hp) rfl ?_
  refine s_ret (c_challenge_of (w := "show " ++ x.g) (ns := stg x ps) (a_cons (e_op (e_var rfl) e_int (o_ixT rfl)) (a_cons (e_op e_str (e_op (e_var rfl) e_int (o_ixT rfl)) (o_catS ?_)) (a_cons (e_var rfl) a_nil))) (by omega) ?_ ?_ (stg_small hx hp)) rfl
  · exact sz_ok (by rw [o5]; omega)
  · rw [pre_len, o5]
    omega
  · rw [stg_len]
    omega
theorem der_stage_challenge {P : Program} {w : World} {K : PySem.W.Frag} {mg : Str → Option Value} {base : Heap} {CN CB : Addr} {f : Addr} (h : Wd K mg CN CB) (cdv : Value) (A : Around) (outer : List PySem.Env) (s : Shared) (H : Hp) (E : XK) (hr : Room 4 (A.deeper (envOfC "stage_challenge" (defScope s_stage_challenge) s.heap.objs.size f cdv))) :
    PSs ((cxOf CX0 P w K mg base n_stage_challenge "stage_challenge" (defScope s_stage_challenge) f cdv A outer s H E).nox) (defBody s_stage_challenge) (t_stage_challenge K CN CB) :=
  (pss_cons (ps_set (i := 3) sc_stage_challenge.nd rfl (by first | exact Or.inl rfl | exact Or.inr rfl) (pe_c (pr_stage_numbers h) hr pass0 (pa_cons (pv 1) (pa_cons (pv 2) pa_nil))))
  (pss_one (ps_ret (pe_c (pr_challenge_of h) (hr.mono (by decide)) pass0 (pa_cons (pe_ix ix_tup (pv 0) pe_int (fun _ _ => rfl)) (pa_cons (pe_op op_add_str pe_str (pe_ix ix_tup (pv 1) pe_int (fun _ _ => rfl))) (pa_cons (pv 3) pa_nil)))))))
theorem pr_stage_challenge {P : Program} {w : World} {K : PySem.W.Frag} {mg : Str → Option Value} {base : Heap} {CN CB : Addr} (h : Wd K mg CN CB) : Pr P w K mg base CX0 5 "stage_challenge" ["setup", "context", "pairs"] (SP 3 R_stage_challenge) := by
  obtain ⟨f, fd, F, g⟩ := h.d_stage_challenge
  exact ⟨f, fd, okD F sc_stage_challenge (t_stage_challenge K CN CB) (der_stage_challenge h) (sem_stage_challenge (CN := CN) (CB := CB)), g, F.kp, F.bindsN fun _ _ _ _ _ _ us hl => match us, hl with | [_, _, _], _ => rfl⟩
theorem c_stage_challenge {ρ : Ev} {ta : TA} {s : Su} {x : Ct} {ps : List Q2} (h : A ta ρ [dSu s, dCt x, dPs ps]) (hq : Bd s.q) (hx : GoodX x) (hp : GoodPs ps) : E (tCall (SP 3 R_stage_challenge) [] E0 ta) ρ (.int (stC s x ps)) := e_call h rfl ⟨_, _, _, rfl, hq, hx, hp, rfl⟩
/-! ### the choice -/
def cb (s : Su) (p : Q2) : Int := pops s.q [s.b1, s.b3, s.b4] [1, p.1, p.2]
theorem cb_els {s : Su} (g : GoodS s) : ∀ b ∈ [s.b1, s.b3, s.b4], isEl s.q b = true := by
  intro b hb
  simp only [List.mem_cons, List.not_mem_nil, or_false] at hb
  rcases hb with rfl | rfl | rfl
  · exact g.e1
  · exact g.e3
  · exact g.e4
theorem el_cb {s : Su} (g : GoodS s) (p : Q2) : isEl s.q (cb s p) = true := el_pops g.q (cb_els g)
theorem goodC {s : Su} {a0 : Int} {ps : List Q2} (g : GoodS s) (h0 : isEl s.q a0 = true) (hp : GoodPs ps) : GoodC s.q a0 s.b2 (ps.map (cb s)) := ⟨g.q, h0, g.e2, fun b hb => by
  obtain ⟨p, _, rfl⟩ := List.mem_map.mp hb
  exact el_cb g p, by rw [List.length_map]; exact hp.l⟩
def R_choice_of : List PyData → PyData → Prop := fun ds r => ∃ (s : Su) (t : Tk) (ps : List Q2), ds = [dSu s, dTk t, dPs ps] ∧ GoodS s ∧ isEl s.q t.n0 = true ∧ GoodPs ps ∧ ps ≠ [] ∧ r = dChoice t.n0 s.b2 (ps.map (cb s))
def t_choice_of (K : PySem.W.Frag) (CN CB : Addr) : TS := (tSeq (tDrop (tCall (SP 1 R_check_set) [] E0 (tCons (tVar 2) tNil)))
  (tSeq (tAsg (tVar 0) (gTup K 2 (gCons (gName 3) (gCons (gName 4) gNil))))
  (tSeq (tIfS (tOr (tTest (tOp rEq (tCB (cLen K) (tCons (tVar 2) tNil)) (tC (.int 0)))) (tNot (tB (tCall (SP 2 R_is_element) [] E0 (tCons (tVar 3) (tCons (tOp (rIxT K) (tVar 1) (tC (.int 0))) tNil)))))) tNever tNext)
  (tSeq (tAsg (tLst tNil) (gName 5))
  (tSeq (tFor (iList K (tVar 2)) (gTup K 2 (gCons (gName 6) (gCons (gName 7) gNil))) (tSeq (tAsg (tCall (SP 3 R_product_of_powers) [] E0 (tCons (tVar 3) (tCons (tLst (tCons (tOp (rIxT K) (tVar 4) (tC (.int 1))) (tCons (tOp (rIxT K) (tVar 4) (tC (.int 3))) (tCons (tOp (rIxT K) (tVar 4) (tC (.int 4))) tNil)))) (tCons (tLst (tCons (tC (.int 1)) (tCons (tVar 6) (tCons (tVar 7) tNil)))) tNil)))) (gName 8))
  (tDrop (tBM K "list" rAppend (tVar 5) (tCons (tTup (tCons (tC (.int 2)) (tCons (tTup (tCons (tTup (tCons (tOp (rIxT K) (tVar 1) (tC (.int 0))) (tCons (tTup (tCons (tVar 8) (tCons (tOp (rIxT K) (tVar 4) (tC (.int 2))) tNil))) tNil))) tNil)) tNil))) tNil)))))
  (tRet (tCB (cTuple K) (tCons (tVar 5) tNil))))))))
theorem sem_choice_of {K : PySem.W.Frag} {CN CB : Addr} (ds : List PyData) (d : PyData) (h : R_choice_of ds d) : S W0 (t_choice_of K CN CB) (startR n_choice_of ds) none { nx := fun _ _ => d = .none, rt := fun d' => d' = d } := by
  obtain ⟨s, t, ps, rfl, g, h0, hp, hne, rfl⟩ := h
  have hl := hp.l
  have hpos : 0 < ps.length := List.length_pos_iff.mpr hne
  show S W0 _ [some (dSu s), some (dTk t), some (dPs ps), none, none, none, none, none, none] none _
  refine q_drop (c_check_set (by walk_at "ev") hp) ?_
  refine q_asg (e_var rfl) (g_tup (g_cons (g_cons g_nil)) rfl) rfl ?_
  refine q_pass (t_orF (t_is (t_test (e_op (e_cb (a_cons (e_var rfl) a_nil) c_lenL) e_int o_eqI)) (decide_eq_false (by rw [List.length_map]; omega))) (t_no (e_is (c_is_element (a_cons (e_var rfl) (a_cons (e_op (e_var rfl) e_int (o_ixT rfl)) a_nil)) g.q) (by rw [h0])))) ?_
  refine s_seq (s_own (ds := []) a_nil (by simp) ?_ (by simp))
  refine s_seq (s_for (w_list (e_var rfl)) (fun i ρ ow => ∃ x6 x7 x8, ρ = [some (dSu s), some (dTk t), some (dPs ps), some (.int s.q), some (.tuple (dI [s.b0, s.b1, s.b2, s.b3, s.b4])), none, x6, x7, x8] ∧ ow = some (5, (ps.take i).map fun p => dClaim t.n0 (cb s p) s.b2)) ⟨none, none, none, rfl, rfl⟩ ?_ ?_)
  · rintro i d ρ1 w1 hd ⟨x6, x7, x8, rfl, rfl⟩
    obtain ⟨p, h1, rfl⟩ := map_at hd
    refine ⟨_, _, g_tup (g_cons (g_cons g_nil)) rfl, rfl, ?_⟩
    refine q_set (c_product_of_powers (bs := [s.b1, s.b3, s.b4]) (es := [1, p.1, p.2]) (a_cons (e_var rfl) (a_cons (e_lst (a_cons (e_op (e_var rfl) e_int (o_ixT rfl)) (a_cons (e_op (e_var rfl) e_int (o_ixT rfl)) (a_cons (e_op (e_var rfl) e_int (o_ixT rfl)) a_nil))) (by simp [dI])) (a_cons (e_lst (a_cons e_int (a_cons (e_var rfl) (a_cons (e_var rfl) a_nil))) (by simp [dI])) a_nil))) g.q rfl (cb_els g)) rfl ?_
    refine s_append (d := dClaim t.n0 (cb s p) s.b2) (e_tup (a_cons e_int (a_cons (e_tup (a_cons (e_tup (a_cons (e_op (e_var rfl) e_int (o_ixT rfl)) (a_cons (e_tup (a_cons (e_var rfl) (a_cons (e_op (e_var rfl) e_int (o_ixT rfl)) a_nil)) (by simp)) a_nil)) (by simp)) a_nil) (by simp)) a_nil)) (by simp)) ?_ ⟨_, _, _, rfl, ?_⟩
    · rw [List.length_map, List.length_take]
      omega
    · rw [List.take_add_one, h1, List.map_append]
      rfl
  · rintro ρ' w' ⟨x6, x7, x8, rfl, rfl⟩
    refine s_freeze (s_ret (e_cb (a_cons (e_var rfl) a_nil) c_tupL) ?_)
    show PyData.tuple _ = dChoice t.n0 s.b2 (ps.map (cb s))
    rw [List.length_map, List.take_length]
    unfold dChoice
    rw [List.map_map]
    rfl
theorem der_choice_of {P : Program} {w : World} {K : PySem.W.Frag} {mg : Str → Option Value} {base : Heap} {CN CB : Addr} {f : Addr} (h : Wd K mg CN CB) (cdv : Value) (A : Around) (outer : List PySem.Env) (s : Shared) (H : Hp) (E : XK) (hr : Room 5 (A.deeper (envOfC "choice_of" (defScope s_choice_of) s.heap.objs.size f cdv))) :
    PSs ((cxOf CX0 P w K mg base n_choice_of "choice_of" (defScope s_choice_of) f cdv A outer s H E).nox) (defBody s_choice_of) (t_choice_of K CN CB) :=
  (pss_cons (ps_expr (pe_c (pr_check_set h) (hr.mono (by decide)) pass0 (pa_cons (pv 2) pa_nil)))
  (pss_cons (ps_asg (pv 0) (pg_tup rfl (pgs_cons (pg_name (i := 3) sc_choice_of.nd rfl (by first | exact Or.inl rfl | exact Or.inr rfl)) (pgs_cons (pg_name (i := 4) sc_choice_of.nd rfl (by first | exact Or.inl rfl | exact Or.inr rfl)) pgs_nil))))
  (pss_cons (ps_if (PW.pt (pw_or (pt_cmpR op_eq (pe_callB call_len_seq (by rfl) h.f_len bt_len (pa_cons (pv 2) pa_nil)) pe_int (nomark _)) (pw_or1 (pt_not (pt_val (pe_c (pr_is_element h) (hr.mono (by decide)) pass0 (pa_cons (pv 3) (pa_cons (pe_ix ix_tup (pv 1) pe_int (fun _ _ => rfl)) pa_nil)))))))) (pss_one ps_never) pss_nil)
  (pss_cons (ps_set (i := 5) sc_choice_of.nd rfl (by first | exact Or.inl rfl | exact Or.inr rfl) (pe_lst pa_nil))
  (pss_cons (ps_for PassesOwn.never rfl (pi_list (pv 2)) (pg_tup rfl (pgs_cons (pg_name (i := 6) sc_choice_of.nd rfl (by first | exact Or.inl rfl | exact Or.inr rfl)) (pgs_cons (pg_name (i := 7) sc_choice_of.nd rfl (by first | exact Or.inl rfl | exact Or.inr rfl)) pgs_nil))) (pss_cons (ps_set (i := 8) sc_choice_of.nd rfl (by first | exact Or.inl rfl | exact Or.inr rfl) (pe_c (pr_product_of_powers h) hr pass0 (pa_cons (pv 3) (pa_cons (pe_lst (pa_cons (pe_ix ix_tup (pv 4) pe_int (fun _ _ => rfl)) (pa_cons (pe_ix ix_tup (pv 4) pe_int (fun _ _ => rfl)) (pa_cons (pe_ix ix_tup (pv 4) pe_int (fun _ _ => rfl)) pa_nil)))) (pa_cons (pe_lst (pa_cons pe_int (pa_cons (pv 6) (pa_cons (pv 7) pa_nil)))) pa_nil)))))
  (pss_one (ps_expr (pe_bm PySem.F.plainAttrs_list PySem.F.slot_list_append PySem.F.type_list_append mt_append (pv 5) (pa_cons (pe_tup (pa_cons pe_int (pa_cons (pe_tup (pa_cons (pe_tup (pa_cons (pe_ix ix_tup (pv 1) pe_int (fun _ _ => rfl)) (pa_cons (pe_tup (pa_cons (pv 8) (pa_cons (pe_ix ix_tup (pv 4) pe_int (fun _ _ => rfl)) pa_nil))) pa_nil))) pa_nil)) pa_nil))) pa_nil))))))
  (pss_one (ps_ret (pe_callTy call_tuple_of (by rfl) h.f_tuple bt_tuple (pa_cons (pv 5) pa_nil)))))))))
theorem pr_choice_of {P : Program} {w : World} {K : PySem.W.Frag} {mg : Str → Option Value} {base : Heap} {CN CB : Addr} (h : Wd K mg CN CB) : Pr P w K mg base CX0 6 "choice_of" ["setup", "ticket", "pairs"] (SP 3 R_choice_of) := by
  obtain ⟨f, fd, F, g⟩ := h.d_choice_of
  exact ⟨f, fd, okD F sc_choice_of (t_choice_of K CN CB) (der_choice_of h) (sem_choice_of (CN := CN) (CB := CB)), g, F.kp, F.bindsN fun _ _ _ _ _ _ us hl => match us, hl with | [_, _, _], _ => rfl⟩
theorem c_choice_of {ρ : Ev} {ta : TA} {s : Su} {t : Tk} {ps : List Q2} (h : A ta ρ [dSu s, dTk t, dPs ps]) (g : GoodS s) (h0 : isEl s.q t.n0 = true) (hp : GoodPs ps) (hne : ps ≠ []) : E (tCall (SP 3 R_choice_of) [] E0 ta) ρ (dChoice t.n0 s.b2 (ps.map (cb s))) := e_call h rfl ⟨_, _, _, rfl, g, h0, hp, hne, rfl⟩
def ptN (x : Ct) (ps : List Q2) (t : Tk) (y : Sn) : List Int := ((stg x ps ++ t6 t) ++ [y.d]) ++ s4 y
def ptx (x : Ct) (ps : List Q2) (t : Tk) (y : Sn) : Str := joinV ("paper " ++ x.g) (ptN x ps t y)
structure SmallT (t : Tk) (y : Sn) : Prop where
  t : Small (t6 t)
  y : Small (y.d :: s4 y)
theorem ptN_small {x : Ct} {ps : List Q2} {t : Tk} {y : Sn} (hx : GoodX x) (hp : GoodPs ps) (hs : SmallT t y) : Small (ptN x ps t y) := by
  unfold ptN
  rw [List.append_assoc]
  exact ((stg_small hx hp).app hs.t).app hs.y
theorem ptN_len {x : Ct} {ps : List Q2} {t : Tk} {y : Sn} : (ptN x ps t y).length = ps.length + 13 := by
  unfold ptN
  rw [List.length_append, List.length_append, List.length_append, stg_len]
  simp only [t6, s4, List.length_cons, List.length_nil]
theorem ptx_len {x : Ct} {ps : List Q2} {t : Tk} {y : Sn} (hx : GoodX x) (hp : GoodPs ps) (hs : SmallT t y) : (ptx x ps t y).length ≤ 9000 := by
  have h1 := joinV_len (w := "paper " ++ x.g) (ptN_small hx hp hs)
  have h2 := hp.l
  have h3 := hx.g.2.1
  have o6 : (PySem.Str.ofString "paper ").length = 6 := by decide
  rw [ptN_len, pre_len, o6] at h1
  unfold ptx
  omega
def R_paper_text : List PyData → PyData → Prop := fun ds r => ∃ (x : Ct) (ps : List Q2) (t : Tk) (y : Sn), ds = [dCt x, dPs ps, dTk t, dSn y] ∧ GoodX x ∧ GoodPs ps ∧ SmallT t y ∧ r = .str (ptx x ps t y)
def t_paper_text (K : PySem.W.Frag) (CN CB : Addr) : TS := (tSeq (tAsg (tCall (SP 2 R_stage_numbers) [] E0 (tCons (tVar 0) (tCons (tVar 1) tNil))) (gName 4))
  (tSeq (tAsg (tOp rCat (tOp rCat (tOp rCat (tVar 4) (tCB (cList K) (tCons (tVar 2) tNil))) (tLst (tCons (tOp (rIxT K) (tVar 3) (tC (.int 0))) tNil))) (tCB (cList K) (tCons (tOp (rIxT K) (tVar 3) (tC (.int 1))) tNil))) (gName 4))
  (tRet (tCall (SP 2 R_joined_text) [] E0 (tCons (tOp oCatS (tC (.str "paper ")) (tOp (rIxT K) (tVar 0) (tC (.int 0)))) (tCons (tVar 4) tNil))))))
theorem sem_paper_text {K : PySem.W.Frag} {CN CB : Addr} (ds : List PyData) (d : PyData) (h : R_paper_text ds d) : S W0 (t_paper_text K CN CB) (startR n_paper_text ds) none { nx := fun _ _ => d = .none, rt := fun d' => d' = d } := by
  obtain ⟨x, ps, t, y, rfl, hx, hp, hs, rfl⟩ := h
  have hl := hp.l
  have hg := hx.g.2.1
  have o6 : (PySem.Str.ofString "paper ").length = 6 := by decide
  show S W0 _ [some (dCt x), some (dPs ps), some (dTk t), some (dSn y), none] none _
  refine q_set (c_stage_numbers (by walk_at "ev") hx hp) rfl ?_
  refine q_set (d := .list (dI (ptN x ps t y))) (e_is (e_op (e_op (e_op (e_var rfl) (e_cb (a_cons (e_var rfl) a_nil) c_listT) (o_catL (sz_ok ?_))) (e_lst (a_cons (e_op (e_var rfl) e_int (o_ixT rfl)) a_nil) (by simp)) (o_catL (sz_ok ?_))) (e_cb (a_cons (e_op (e_var rfl) e_int (o_ixT rfl)) a_nil) c_listT) (o_catL (sz_ok ?_))) ?_) rfl ?_
  · rw [dI_len, dI_len, stg_len]
    simp only [List.length_cons, List.length_nil]
    omega
  · rw [List.length_append, dI_len, dI_len, stg_len]
    simp only [List.length_cons, List.length_nil]
    omega
  · rw [List.length_append, List.length_append, dI_len, dI_len, dI_len, stg_len]
    simp only [List.length_cons, List.length_nil]
    omega
  · unfold ptN
    rw [dI_app, dI_app, dI_app]
    rfl
  refine s_ret (c_joined_text (w := "paper " ++ x.g) (ns := ptN x ps t y) (a_cons (e_op e_str (e_op (e_var rfl) e_int (o_ixT rfl)) (o_catS ?_)) (a_cons (e_var rfl) a_nil)) ?_ ?_ (ptN_small hx hp hs)) rfl
  · exact sz_ok (by rw [o6]; omega)
  · rw [pre_len, o6]
    omega
  · rw [ptN_len]
    omega
theorem der_paper_text {P : Program} {w : World} {K : PySem.W.Frag} {mg : Str → Option Value} {base : Heap} {CN CB : Addr} {f : Addr} (h : Wd K mg CN CB) (cdv : Value) (A : Around) (outer : List PySem.Env) (s : Shared) (H : Hp) (E : XK) (hr : Room 4 (A.deeper (envOfC "paper_text" (defScope s_paper_text) s.heap.objs.size f cdv))) :
    PSs ((cxOf CX0 P w K mg base n_paper_text "paper_text" (defScope s_paper_text) f cdv A outer s H E).nox) (defBody s_paper_text) (t_paper_text K CN CB) :=
  (pss_cons (ps_set (i := 4) sc_paper_text.nd rfl (by first | exact Or.inl rfl | exact Or.inr rfl) (pe_c (pr_stage_numbers h) hr pass0 (pa_cons (pv 0) (pa_cons (pv 1) pa_nil))))
  (pss_cons (ps_set (i := 4) sc_paper_text.nd rfl (by first | exact Or.inl rfl | exact Or.inr rfl) (pe_op op_cat (pe_op op_cat (pe_op op_cat (pv 4) (pe_callTy call_list_of (by rfl) h.f_list bt_list (pa_cons (pv 2) pa_nil))) (pe_lst (pa_cons (pe_ix ix_tup (pv 3) pe_int (fun _ _ => rfl)) pa_nil))) (pe_callTy call_list_of (by rfl) h.f_list bt_list (pa_cons (pe_ix ix_tup (pv 3) pe_int (fun _ _ => rfl)) pa_nil))))
  (pss_one (ps_ret (pe_c (pr_joined_text h) (hr.mono (by decide)) pass0 (pa_cons (pe_op op_add_str pe_str (pe_ix ix_tup (pv 0) pe_int (fun _ _ => rfl))) (pa_cons (pv 4) pa_nil)))))))
theorem pr_paper_text {P : Program} {w : World} {K : PySem.W.Frag} {mg : Str → Option Value} {base : Heap} {CN CB : Addr} (h : Wd K mg CN CB) : Pr P w K mg base CX0 5 "paper_text" ["context", "pairs", "ticket", "spend"] (SP 4 R_paper_text) := by
  obtain ⟨f, fd, F, g⟩ := h.d_paper_text
  exact ⟨f, fd, okD F sc_paper_text (t_paper_text K CN CB) (der_paper_text h) (sem_paper_text (CN := CN) (CB := CB)), g, F.kp, F.bindsN fun _ _ _ _ _ _ us hl => match us, hl with | [_, _, _, _], _ => rfl⟩
theorem c_paper_text {ρ : Ev} {ta : TA} {x : Ct} {ps : List Q2} {t : Tk} {y : Sn} (h : A ta ρ [dCt x, dPs ps, dTk t, dSn y]) (hx : GoodX x) (hp : GoodPs ps) (hs : SmallT t y) : E (tCall (SP 4 R_paper_text) [] E0 ta) ρ (.str (ptx x ps t y)) := e_call h rfl ⟨_, _, _, _, rfl, hx, hp, hs, rfl⟩
/-! ### pairs that are compared -/
theorem dP_lay (z : Q2) : (dP z).canLay0 = true := by simp [dP, PyData.canLay0, PyData.canLayAll0]
theorem dP_depth (z : Q2) : (dP z).depth = 1 := by simp [dP, PyData.depth, PyData.depthAll]
theorem dPs_lay : ∀ zs : List Q2, PyData.canLayAll0 (zs.map dP) = true
  | [] => by simp [PyData.canLayAll0]
  | z :: zs => by simp only [List.map_cons, PyData.canLayAll0, dP_lay z, dPs_lay zs, Bool.and_self]
theorem dPs_depth : ∀ zs : List Q2, PyData.depthAll (zs.map dP) ≤ 1
  | [] => by simp [PyData.depthAll]
  | z :: zs => by
    have h1 := dPs_depth zs
    have h2 := dP_depth z
    simp only [List.map_cons, PyData.depthAll]
    omega
theorem dP_shaped (z : Q2) : SeqAt.shaped (dP z) = true := by
  have h := dP_depth z
  show ((dP z).canLay0 && decide ((dP z).depth ≤ 64)) = true
  rw [Bool.and_eq_true]
  exact ⟨dP_lay z, decide_eq_true (by omega)⟩
theorem dPs_shaped (zs : List Q2) : SeqAt.shaped (dPs zs) = true := by
  have h1 := dPs_depth zs
  have h2 : PyData.depth (.list (zs.map dP)) ≤ 64 := by
    simp only [PyData.depth]
    omega
  show (PyData.canLay0 (.list (zs.map dP)) && decide (PyData.depth (.list (zs.map dP)) ≤ 64)) = true
  rw [Bool.and_eq_true]
  exact ⟨by simp only [PyData.canLay0]; exact dPs_lay zs, decide_eq_true h2⟩
theorem dP_eqv (z w : Q2) : PyData.eqv (dP z) (dP w) = decide (z = w) := by
  obtain ⟨a, b⟩ := z
  obtain ⟨a', b'⟩ := w
  have e : PyData.eqv (dP (a, b)) (dP (a', b')) = ((a == a') && ((b == b') && true)) := by simp only [dP, PyData.eqv, PyData.eqvAll]
  rw [e]
  by_cases h1 : a = a'
  · by_cases h2 : b = b'
    · subst h1; subst h2; simp
    · have q : (b == b') = false := beq_eq_false_iff_ne.mpr h2
      rw [q, decide_eq_false (fun z => h2 (by injection z))]
      simp
  · have q : (a == a') = false := beq_eq_false_iff_ne.mpr h1
    rw [q, decide_eq_false (fun z => h1 (by injection z))]
    simp
/-! ### making a showing -/
structure GoodM (s : Su) (p : Pe) (t : Tk) (b : Bl) (x : Ct) (ps : List Q2) (nz : List Pp) (k : Nat) (n0 : Pp) : Prop where
  gs : GoodS s
  gp : GoodPe s.q p
  gb : GoodB s.q b
  gx : GoodX x
  gq : GoodPs ps
  at_ : ps[k]? = some (p.a, p.z)
  sm : Small (t6 t)
  e0 : isEl s.q t.n0 = true
  hh : pops s.q [cb s (p.a, p.z), s.b2] [b.s, b.s * p.n % s.q] = t.n0
  l : ps.length = nz.length
  z : ∀ p ∈ nz, okPP s.q p = true
  n : nz[k]? = some n0
  nn : n0.1 = 0
def mkSp (s : Su) (p : Pe) (b : Bl) (x : Ct) (ps : List Q2) : Sn := spd s p b (stC s x ps)
def mkPp (s : Su) (p : Pe) (t : Tk) (b : Bl) (x : Ct) (ps : List Q2) (nz : List Pp) (k : Nat) (n0 : Pp) : List Pp :=
  mkP s.q (ptx x ps t (mkSp s p b x ps)) t.n0 s.b2 (ps.map (cb s)) k b.s (b.s * p.n % s.q) nz n0
abbrev dSh (t : Tk) (y : Sn) (pp : List Pp) : PyData := .tuple [dTk t, dSn y, dPaper pp]
theorem mkSp_small {s : Su} {p : Pe} {b : Bl} {x : Ct} {ps : List Q2} (hq : Bd s.q) : Small ((mkSp s p b x ps).d :: s4 (mkSp s p b x ps)) := fun n hn => by
  unfold Bd at hq
  have hd := inQ_iff.mp (chal_inQ (q := s.q) (t := joinV ("show " ++ x.g) (stg x ps)) (by omega))
  have m0 := fun a : Int => Int.emod_nonneg a (show s.q ≠ 0 by omega)
  have m1 := fun a : Int => Int.emod_lt_of_pos a (show 0 < s.q by omega)
  simp only [s4, mkSp, spd, stC, List.mem_cons, List.not_mem_nil, or_false] at hn
  rcases hn with rfl | rfl | rfl | rfl | rfl
  · omega
  all_goals
    refine ⟨m0 _, Int.lt_trans (m1 _) (by omega)⟩
def R_make_showing : List PyData → PyData → Prop := fun ds r => ∃ (s : Su) (p : Pe) (t : Tk) (b : Bl) (x : Ct) (ps : List Q2) (nz : List Pp) (k : Nat) (n0 : Pp), ds = [dSu s, dPe p, dTk t, dBl b, dCt x, dPs ps, dPaper nz] ∧ GoodM s p t b x ps nz k n0 ∧ r = dSh t (mkSp s p b x ps) (mkPp s p t b x ps nz k n0)
def t_make_showing (K : PySem.W.Frag) (CN CB : Addr) : TS := (tSeq (tAsg (tCall (SP 3 R_stage_challenge) [] E0 (tCons (tVar 0) (tCons (tVar 4) (tCons (tVar 5) tNil)))) (gName 7))
  (tSeq (tIfS (tTest (tOp (rNotInD K) (tSl (rSlA K) (tVar 1) (tPart (tC (.int 1))) tNoPart) (tVar 5))) tNever tNext)
  (tSeq (tAsg (tCall (SP 4 R_spend_of) [] E0 (tCons (tVar 0) (tCons (tVar 1) (tCons (tVar 3) (tCons (tVar 7) tNil))))) (gName 8))
  (tSeq (tAsg (tCall (SP 3 R_choice_of) [] E0 (tCons (tVar 0) (tCons (tVar 2) (tCons (tVar 5) tNil)))) (gName 9))
  (tSeq (tAsg (tTup (tCons (tOp (rIxT K) (tVar 3) (tC (.int 0))) (tCons (tOp oMod (tOp oMul (tOp (rIxT K) (tVar 3) (tC (.int 0))) (tOp (rIxT K) (tVar 1) (tC (.int 0)))) (tOp (rIxT K) (tVar 0) (tC (.int 0)))) tNil))) (gName 10))
  (tSeq (tAsg (tCall (SP 4 R_paper_text) [] E0 (tCons (tVar 4) (tCons (tVar 5) (tCons (tVar 2) (tCons (tVar 8) tNil))))) (gName 11))
  (tSeq (tAsg (tCall (SP 6 R_make_paper) [] E0 (tCons (tOp (rIxT K) (tVar 0) (tC (.int 0))) (tCons (tVar 11) (tCons (tVar 9) (tCons (tBM K "list" (rIndexD K) (tVar 5) (tCons (tSl (rSlA K) (tVar 1) (tPart (tC (.int 1))) tNoPart) tNil)) (tCons (tVar 10) (tCons (tVar 6) tNil))))))) (gName 12))
  (tRet (tTup (tCons (tVar 2) (tCons (tVar 8) (tCons (tVar 12) tNil))))))))))))
theorem sem_make_showing {K : PySem.W.Frag} {CN CB : Addr} (ds : List PyData) (d : PyData) (h : R_make_showing ds d) : S W0 (t_make_showing K CN CB) (startR n_make_showing ds) none { nx := fun _ _ => d = .none, rt := fun d' => d' = d } := by
  obtain ⟨s, p, t, b, x, ps, nz, k, n0, rfl, g, rfl⟩ := h
  have hq := g.gs.q
  have hq' := hq
  unfold Bd at hq'
  have hb := g.gb.al
  simp only [List.all_cons, List.all_nil, Bool.and_true, Bool.and_eq_true] at hb
  have bs := inQ_iff.mp hb.1
  have np := inQ_iff.mp g.gp.n
  have hne : ps ≠ [] := fun z => by
    have := g.at_
    rw [z] at this
    cases this
  have hy : inQ s.q (b.s * p.n % s.q) = true := inQ_iff.mpr ⟨Int.emod_nonneg _ (by omega), Int.emod_lt_of_pos _ (by omega)⟩
  have hsm : SmallT t (mkSp s p b x ps) := ⟨g.sm, mkSp_small hq⟩
  have any1 : ((ps.map dP).any fun z => PyData.eqv z (dP (p.a, p.z))) = true := by
    rw [List.any_eq_true]
    exact ⟨dP (p.a, p.z), List.mem_map.mpr ⟨_, List.mem_of_getElem? g.at_, rfl⟩, by rw [dP_eqv]; exact decide_eq_true rfl⟩
  show S W0 _ [some (dSu s), some (dPe p), some (dTk t), some (dBl b), some (dCt x), some (dPs ps), some (dPaper nz), none, none, none, none, none, none] none _
  refine q_set (c_stage_challenge (by walk_at "ev") hq g.gx g.gq) rfl ?_
  refine q_pass (t_is (t_test (e_op (d1 := dP (p.a, p.z)) (e_sl (e_var rfl) (p_some e_int) p_none s_tup) (e_var rfl) (o_notInD (dP_shaped _) (dPs_shaped _)))) (by rw [any1]; rfl)) ?_
  refine q_set (d := dSn (mkSp s p b x ps)) (c_spend_of (by walk_at "ev") hq g.gp g.gb (chal_inQ (by omega))) rfl ?_
  refine q_set (c_choice_of (by walk_at "ev") g.gs g.e0 g.gq hne) rfl ?_
  refine q_set (d := .tuple (dI [b.s, b.s * p.n % s.q])) (e_tup (a_cons (e_op (e_var rfl) e_int (o_ixT rfl)) (a_cons (e_op (e_op (e_op (e_var rfl) e_int (o_ixT rfl)) (e_op (e_var rfl) e_int (o_ixT rfl)) (o_mul (.inl (by omega)))) (e_op (e_var rfl) e_int (o_ixT rfl)) (o_mod (by omega))) a_nil)) (by simp [dI])) rfl ?_
  refine q_set (c_paper_text (a_cons (e_var rfl) (a_cons (e_var rfl) (a_cons (e_var rfl) (a_cons (e_var rfl) a_nil)))) g.gx g.gq hsm) rfl ?_
  have ix : E (tBM K "list" (rIndexD K) (tVar 5) (tCons (tSl (rSlA K) (tVar 1) (tPart (tC (.int 1))) tNoPart) tNil)) [some (dSu s), some (dPe p), some (dTk t), some (dBl b), some (dCt x), some (dPs ps), some (dPaper nz), some (.int (stC s x ps)), some (dSn (mkSp s p b x ps)), some (dChoice t.n0 s.b2 (ps.map (cb s))), some (.tuple (dI [b.s, b.s * p.n % s.q])), some (.str (ptx x ps t (mkSp s p b x ps))), none] (.int (k : Nat)) := by
    refine e_indexD (d := dP (p.a, p.z)) (e_var rfl) (e_sl (e_var rfl) (p_some e_int) p_none s_tup) (dPs_shaped ps) (dP_shaped _) (at_map g.at_) (by rw [dP_eqv]; exact decide_eq_true rfl) fun m z' hm hz => ?_
    obtain ⟨w, hw, rfl⟩ := map_at hz
    rw [dP_eqv]
    refine decide_eq_false fun e => ?_
    subst e
    have := up_at g.gq.up hm hw g.at_
    omega
  show S W0 _ [some (dSu s), some (dPe p), some (dTk t), some (dBl b), some (dCt x), some (dPs ps), some (dPaper nz), some (.int (stC s x ps)), some (dSn (mkSp s p b x ps)), some (dChoice t.n0 s.b2 (ps.map (cb s))), some (.tuple (dI [b.s, b.s * p.n % s.q])), some (.str (ptx x ps t (mkSp s p b x ps))), none] none _
  refine q_set (d := dPaper (mkPp s p t b x ps nz k n0)) (c_make_paper (k := k) (x := b.s) (y := b.s * p.n % s.q) (a_cons (e_op (e_var rfl) e_int (o_ixT rfl)) (a_cons (e_var rfl) (a_cons (e_var rfl) (a_cons ix (a_cons (e_var rfl) (a_cons (e_var rfl) a_nil)))))) (goodC g.gs g.e0 g.gq) (b := cb s (p.a, p.z)) ?_ hb.1 hy g.hh ?_ g.z g.n g.nn (ptx_len g.gx g.gq hsm)) rfl ?_
  · rw [List.getElem?_map, g.at_]
    rfl
  · rw [List.length_map]
    exact g.l
  · exact s_ret (e_tup (a_cons (e_var rfl) (a_cons (e_var rfl) (a_cons (e_var rfl) a_nil))) (by simp)) rfl
theorem der_make_showing {P : Program} {w : World} {K : PySem.W.Frag} {mg : Str → Option Value} {base : Heap} {CN CB : Addr} {f : Addr} (h : Wd K mg CN CB) (cdv : Value) (A : Around) (outer : List PySem.Env) (s : Shared) (H : Hp) (E : XK) (hr : Room 8 (A.deeper (envOfC "make_showing" (defScope s_make_showing) s.heap.objs.size f cdv))) :
    PSs ((cxOf CX0 P w K mg base n_make_showing "make_showing" (defScope s_make_showing) f cdv A outer s H E).nox) (defBody s_make_showing) (t_make_showing K CN CB) :=
  (pss_cons (ps_set (i := 7) sc_make_showing.nd rfl (by first | exact Or.inl rfl | exact Or.inr rfl) (pe_c (pr_stage_challenge h) (hr.mono (by decide)) pass0 (pa_cons (pv 0) (pa_cons (pv 4) (pa_cons (pv 5) pa_nil)))))
  (pss_cons (ps_if (pt_cmpR (op_notInD (room65 hr)) (pe_slice sl_tupA (pv 1) (po_some pe_int) po_none) (pv 5) (by rfl)) (pss_one ps_never) pss_nil)
  (pss_cons (ps_set (i := 8) sc_make_showing.nd rfl (by first | exact Or.inl rfl | exact Or.inr rfl) (pe_c (pr_spend_of h) (hr.mono (by decide)) pass0 (pa_cons (pv 0) (pa_cons (pv 1) (pa_cons (pv 3) (pa_cons (pv 7) pa_nil))))))
  (pss_cons (ps_set (i := 9) sc_make_showing.nd rfl (by first | exact Or.inl rfl | exact Or.inr rfl) (pe_c (pr_choice_of h) (hr.mono (by decide)) pass0 (pa_cons (pv 0) (pa_cons (pv 2) (pa_cons (pv 5) pa_nil)))))
  (pss_cons (ps_set (i := 10) sc_make_showing.nd rfl (by first | exact Or.inl rfl | exact Or.inr rfl) (pe_tup (pa_cons (pe_ix ix_tup (pv 3) pe_int (fun _ _ => rfl)) (pa_cons (pe_op op_mod (pe_op op_mul (pe_ix ix_tup (pv 3) pe_int (fun _ _ => rfl)) (pe_ix ix_tup (pv 1) pe_int (fun _ _ => rfl))) (pe_ix ix_tup (pv 0) pe_int (fun _ _ => rfl))) pa_nil))))
  (pss_cons (ps_set (i := 11) sc_make_showing.nd rfl (by first | exact Or.inl rfl | exact Or.inr rfl) (pe_c (pr_paper_text h) (hr.mono (by decide)) pass0 (pa_cons (pv 4) (pa_cons (pv 5) (pa_cons (pv 2) (pa_cons (pv 8) pa_nil))))))
  (pss_cons (ps_set (i := 12) sc_make_showing.nd rfl (by first | exact Or.inl rfl | exact Or.inr rfl) (pe_c (pr_make_paper h) hr pass0 (pa_cons (pe_ix ix_tup (pv 0) pe_int (fun _ _ => rfl)) (pa_cons (pv 11) (pa_cons (pv 9) (pa_cons (pe_bm PySem.F.plainAttrs_list PySem.F.slot_list_index PySem.F.type_list_index (mt_indexD (room65 hr)) (pv 5) (pa_cons (pe_slice sl_tupA (pv 1) (po_some pe_int) po_none) pa_nil)) (pa_cons (pv 10) (pa_cons (pv 6) pa_nil))))))))
  (pss_one (ps_ret (pe_tup (pa_cons (pv 2) (pa_cons (pv 8) (pa_cons (pv 12) pa_nil)))))))))))))
theorem pr_make_showing {P : Program} {w : World} {K : PySem.W.Frag} {mg : Str → Option Value} {base : Heap} {CN CB : Addr} (h : Wd K mg CN CB) : Pr P w K mg base CX0 9 "make_showing" ["setup", "person", "ticket", "blinding", "context", "pairs", "noise"] (SP 7 R_make_showing) := by
  obtain ⟨f, fd, F, g⟩ := h.d_make_showing
  exact ⟨f, fd, okD F sc_make_showing (t_make_showing K CN CB) (der_make_showing h) (sem_make_showing (CN := CN) (CB := CB)), g, F.kp, F.bindsN fun _ _ _ _ _ _ us hl => match us, hl with | [_, _, _, _, _, _, _], _ => rfl⟩
theorem c_make_showing {ρ : Ev} {ta : TA} {s : Su} {p : Pe} {t : Tk} {b : Bl} {x : Ct} {ps : List Q2} {nz : List Pp} {k : Nat} {n0 : Pp} (h : A ta ρ [dSu s, dPe p, dTk t, dBl b, dCt x, dPs ps, dPaper nz]) (g : GoodM s p t b x ps nz k n0) :
    E (tCall (SP 7 R_make_showing) [] E0 ta) ρ (dSh t (mkSp s p b x ps) (mkPp s p t b x ps nz k n0)) := e_call h rfl ⟨_, _, _, _, _, _, _, _, _, rfl, g, rfl⟩
/-! ### checking a showing -/
def showB (s : Su) (key : Int) (x : Ct) (ps : List Q2) (t : Tk) (y : Sn) (pp : List Pp) : Bool :=
  ticketB s key t && ((decide (y.d = stC s x ps) && spendB s t y) && rightP s.q (ptx x ps t y) t.n0 s.b2 (ps.map (cb s)) pp)
structure GoodW (s : Su) (key : Int) (x : Ct) (ps : List Q2) (t : Tk) (y : Sn) (pp : List Pp) : Prop where
  gs : GoodS s
  k : isEl s.q key = true
  gx : GoodX x
  gq : GoodPs ps
  sm : SmallT t y
  z : ∀ p ∈ pp, okPP s.q p = true
def R_check_showing : List PyData → PyData → Prop := fun ds r => ∃ (s : Su) (key : Int) (x : Ct) (ps : List Q2) (t : Tk) (y : Sn) (pp : List Pp), ds = [dSu s, .int key, dCt x, dPs ps, dSh t y pp] ∧ GoodW s key x ps t y pp ∧ ps ≠ [] ∧ ps.length = pp.length ∧ showB s key x ps t y pp = true ∧ r = .none
def Rx_check_showing (CN CB : Addr) : List PyData → Value → Prop := fun ds c => ∃ (s : Su) (key : Int) (x : Ct) (ps : List Q2) (t : Tk) (y : Sn) (pp : List Pp), ds = [dSu s, .int key, dCt x, dPs ps, dSh t y pp] ∧ GoodW s key x ps t y pp ∧ ((ps = [] ∧ c = .ref CN) ∨ (ps ≠ [] ∧ ps.length = pp.length ∧ showB s key x ps t y pp = false ∧ c = .ref CB))
def t_check_showing (K : PySem.W.Frag) (CN CB : Addr) (W : WX) : TS := (tSeq (tAsg (tCall (SP 3 R_stage_challenge) [] E0 (tCons (tVar 0) (tCons (tVar 2) (tCons (tVar 3) tNil)))) (gName 5))
  (tSeq (tIfS (tTest (tOp rEq (tCB (cLen K) (tCons (tVar 3) tNil)) (tC (.int 0)))) (tRaiseC W CN) tNext)
  (tSeq (tAsg (tVar 4) (gTup K 3 (gCons (gName 6) (gCons (gName 7) (gCons (gName 8) gNil)))))
  (tSeq (tIfS (tNot (tB (tCall (SP 3 R_is_ticket) [] E0 (tCons (tVar 0) (tCons (tVar 1) (tCons (tVar 6) tNil)))))) (tRaiseC W CB) tNext)
  (tSeq (tIfS (tOr (tTest (tOp rNe (tOp (rIxT K) (tVar 7) (tC (.int 0))) (tVar 5))) (tNot (tB (tCall (SP 3 R_is_spend) [] E0 (tCons (tVar 0) (tCons (tVar 6) (tCons (tVar 7) tNil))))))) (tRaiseC W CB) tNext)
  (tSeq (tAsg (tCall (SP 4 R_paper_text) [] E0 (tCons (tVar 2) (tCons (tVar 3) (tCons (tVar 6) (tCons (tVar 7) tNil))))) (gName 9))
  (tDrop (tCallS (SPX 4 R_check_paper (Rx_check_paper CN CB)) (WE W) (tCons (tOp (rIxT K) (tVar 0) (tC (.int 0))) (tCons (tVar 9) (tCons (tCall (SP 3 R_choice_of) [] E0 (tCons (tVar 0) (tCons (tVar 6) (tCons (tVar 3) tNil)))) (tCons (tVar 8) tNil))))))))))))
theorem ticketB_el {s : Su} {key : Int} {t : Tk} (h : ticketB s key t = true) : ∀ v ∈ t5 t, isEl s.q v = true := by
  unfold ticketB at h
  rw [Bool.and_eq_true, Bool.and_eq_true] at h
  exact List.all_eq_true.mp h.1.1
/-- the walk, what the three answers lead to -/
theorem walk_check {K : PySem.W.Frag} {CN CB : Addr} {W : WX} {o : Out} {s : Su} {key : Int} {x : Ct} {ps : List Q2} {t : Tk} {y : Sn} {pp : List Pp} (g : GoodW s key x ps t y pp) (hne : ps ≠ []) (hl : ps.length = pp.length)
    (h1 : showB s key x ps t y pp = true → ∀ ρ ow, o.nx ρ ow) (h2 : showB s key x ps t y pp = false → o.rs (.ref CB)) :
    S W (t_check_showing K CN CB W) [some (dSu s), some (.int key), some (dCt x), some (dPs ps), some (dSh t y pp), none, none, none, none, none] none o := by
  have hq := g.gs.q
  have hpos : 0 < ps.length := List.length_pos_iff.mpr hne
  refine q_set (c_stage_challenge (by walk_at "ev") hq g.gx g.gq) rfl ?_
  refine q_pass (t_is (t_test (e_op (e_cb (a_cons (e_var rfl) a_nil) c_lenL) e_int o_eqI)) (decide_eq_false (by rw [List.length_map]; omega))) ?_
  refine q_asg (e_var rfl) (g_tup (g_cons (g_cons (g_cons g_nil))) rfl) rfl ?_
  refine q_if (t_not (t_b (c_is_ticket (a_cons (e_var rfl) (a_cons (e_var rfl) (a_cons (e_var rfl) a_nil))) g.gs g.k))) (fun hb => s_raise (h2 ?_)) fun hb => s_next ?_
  · unfold showB
    rw [Bool.not_eq_true'] at hb
    rw [hb]
    rfl
  have k1 : ticketB s key t = true := by simpa using hb
  have e0 : isEl s.q t.n0 = true := ticketB_el k1 _ (by simp [t5])
  refine q_if (b := !decide (y.d = stC s x ps) || !spendB s t y) (t_or (t_test (e_op (e_op (e_var rfl) e_int (o_ixT rfl)) (e_var rfl) o_neI)) fun _ => t_not (t_b (c_is_spend (a_cons (e_var rfl) (a_cons (e_var rfl) (a_cons (e_var rfl) a_nil))) g.gs))) (fun hb => s_raise (h2 ?_)) fun hb => s_next ?_
  · unfold showB
    rw [nand_t hb, Bool.and_false]
  obtain ⟨k2, k3⟩ := nand_f hb
  have e1 : rightP s.q (ptx x ps t y) t.n0 s.b2 (ps.map (cb s)) pp = showB s key x ps t y pp := by
    unfold showB
    rw [k1, k2, k3]
    rfl
  refine q_set (c_paper_text (a_cons (e_var rfl) (a_cons (e_var rfl) (a_cons (e_var rfl) (a_cons (e_var rfl) a_nil)))) g.gx g.gq g.sm) rfl ?_
  have gc : GoodCP s.q (ptx x ps t y) t.n0 s.b2 (ps.map (cb s)) pp := ⟨goodC g.gs e0 g.gq, by rw [List.length_map]; exact hl, g.z, ptx_len g.gx g.gq g.sm⟩
  refine s_dropX (a_cons (e_op (e_var rfl) e_int (o_ixT rfl)) (a_cons (e_var rfl) (a_cons (c_choice_of (a_cons (e_var rfl) (a_cons (e_var rfl) (a_cons (e_var rfl) a_nil))) g.gs e0 g.gq hne) (a_cons (e_var rfl) a_nil)))) rfl ?_
  cases hb : showB s key x ps t y pp with
  | true => exact .inl ⟨.none, ⟨_, _, _, _, _, _, rfl, gc, by rw [e1, hb], rfl⟩, h1 hb _ _⟩
  | false => exact .inr ⟨.ref CB, ⟨_, _, _, _, _, _, rfl, gc, by rw [e1, hb], rfl⟩, h2 hb⟩
theorem sem_check_showing {K : PySem.W.Frag} {CN CB : Addr} (W : WX) (ds : List PyData) (d : PyData) (h : R_check_showing ds d) : S W (t_check_showing K CN CB W) (startR n_check_showing ds) none { nx := fun _ _ => d = .none, rt := fun d' => d' = d } := by
  obtain ⟨s, key, x, ps, t, y, pp, rfl, g, hne, hl, hr, rfl⟩ := h
  exact walk_check g hne hl (fun _ _ _ => rfl) (fun z => by rw [hr] at z; cases z)
theorem semx_check_showing {K : PySem.W.Frag} {CN CB : Addr} (W : WX) (ds : List PyData) (c : Value) (h : Rx_check_showing CN CB ds c) : S W (t_check_showing K CN CB W) (startR n_check_showing ds) none { rs := fun c' => c' = c } := by
  obtain ⟨s, key, x, ps, t, y, pp, rfl, g, h⟩ := h
  rcases h with ⟨rfl, rfl⟩ | ⟨hne, hl, hr, rfl⟩
  · show S W _ [some (dSu s), some (.int key), some (dCt x), some (dPs []), some (dSh t y pp), none, none, none, none, none] none _
    refine q_set (c_stage_challenge (by walk_at "ev") g.gs.q g.gx g.gq) rfl ?_
    exact q_if (t_is (t_test (e_op (e_cb (a_cons (e_var rfl) a_nil) c_lenL) e_int o_eqI)) rfl) (fun _ => s_raise rfl) (fun z => by cases z)
  · exact walk_check g hne hl (fun z => by rw [hr] at z; cases z) (fun _ => rfl)
theorem der_check_showing {P : Program} {w : World} {K : PySem.W.Frag} {mg : Str → Option Value} {base : Heap} {CN CB : Addr} {f : Addr} (h : Wd K mg CN CB) (cdv : Value) (A : Around) (outer : List PySem.Env) (s : Shared) (H : Hp) (E : XK) (hr : Room 8 (A.deeper (envOfC "check_showing" (defScope s_check_showing) s.heap.objs.size f cdv))) :
    PSs (cxOf (L2.CX P w) P w K mg base n_check_showing "check_showing" (defScope s_check_showing) f cdv A outer s H E) (defBody s_check_showing) (t_check_showing K CN CB (WofE E)) :=
  (pss_cons (ps_set (i := 5) sc_check_showing.nd rfl (by first | exact Or.inl rfl | exact Or.inr rfl) (pe_c (pr_stage_challenge h) (hr.mono (by decide)) pass0 (pa_cons (pv 0) (pa_cons (pv 2) (pa_cons (pv 3) pa_nil)))))
  (pss_cons (ps_if (pt_cmpR op_eq (pe_callB call_len_seq (by rfl) h.f_len bt_len (pa_cons (pv 3) pa_nil)) pe_int (nomark _)) (pss_one (ps_raise rfl (takes_of rfl rfl rfl rfl) (pmk_own PySem.F.excBase_ValueError h.xN h.gN h.kN (raises_own h.bN h.tN) (by rfl)))) pss_nil)
  (pss_cons (ps_asg (pv 4) (pg_tup rfl (pgs_cons (pg_name (i := 6) sc_check_showing.nd rfl (by first | exact Or.inl rfl | exact Or.inr rfl)) (pgs_cons (pg_name (i := 7) sc_check_showing.nd rfl (by first | exact Or.inl rfl | exact Or.inr rfl)) (pgs_cons (pg_name (i := 8) sc_check_showing.nd rfl (by first | exact Or.inl rfl | exact Or.inr rfl)) pgs_nil)))))
  (pss_cons (ps_if (pt_not (pt_val (pe_c (pr_is_ticket h) (hr.mono (by decide)) pass0 (pa_cons (pv 0) (pa_cons (pv 1) (pa_cons (pv 6) pa_nil)))))) (pss_one (ps_raise rfl (takes_of rfl rfl rfl rfl) (pmk_own PySem.F.excBase_ValueError h.xB h.gB h.kB (raises_own h.bB h.tB) (by rfl)))) pss_nil)
  (pss_cons (ps_if (PW.pt (pw_or (pt_cmpR op_ne (pe_ix ix_tup (pv 7) pe_int (fun _ _ => rfl)) (pv 5) (nomark _)) (pw_or1 (pt_not (pt_val (pe_c (pr_is_spend h) (hr.mono (by decide)) pass0 (pa_cons (pv 0) (pa_cons (pv 6) (pa_cons (pv 7) pa_nil))))))))) (pss_one (ps_raise rfl (takes_of rfl rfl rfl rfl) (pmk_own PySem.F.excBase_ValueError h.xB h.gB h.kB (raises_own h.bB h.tB) (by rfl)))) pss_nil)
  (pss_cons (ps_set (i := 9) sc_check_showing.nd rfl (by first | exact Or.inl rfl | exact Or.inr rfl) (pe_c (pr_paper_text h) (hr.mono (by decide)) pass0 (pa_cons (pv 2) (pa_cons (pv 3) (pa_cons (pv 6) (pa_cons (pv 7) pa_nil))))))
  (pss_one (ps_expr (pe_cX (pr_check_paper h) hr (takes_of rfl rfl rfl rfl) (pa_cons (pe_ix ix_tup (pv 0) pe_int (fun _ _ => rfl)) (pa_cons (pv 9) (pa_cons (pe_c (pr_choice_of h) (hr.mono (by decide)) pass0 (pa_cons (pv 0) (pa_cons (pv 6) (pa_cons (pv 3) pa_nil)))) (pa_cons (pv 8) pa_nil)))))))))))))
theorem pr_check_showing {P : Program} {w : World} {K : PySem.W.Frag} {mg : Str → Option Value} {base : Heap} {CN CB : Addr} (h : Wd K mg CN CB) : Pr P w K mg base (L2.CX P w) 9 "check_showing" ["setup", "key", "context", "pairs", "showing"] (SPX 5 R_check_showing (Rx_check_showing CN CB)) := by
  obtain ⟨f, fd, F, g⟩ := h.d_check_showing
  exact ⟨f, fd, okX F sc_check_showing (t_check_showing K CN CB) (der_check_showing h) (sem_check_showing (CN := CN) (CB := CB)) (semx_check_showing (CN := CN) (CB := CB)), g, F.kp, F.bindsN fun _ _ _ _ _ _ us hl => match us, hl with | [_, _, _, _, _], _ => rfl⟩
end Ck

set_option Elab.async false
set_option linter.all false
set_option maxRecDepth 100000
set_option maxHeartbeats 1000000
set_option autoImplicit false
/-! # The law's own helpers -/
namespace Ck
open PySem PySem.Spec PyProof.Rows L2
local macro_rules | `(tactic| walk_at "ev1") => `(tactic| first
  | ((with_reducible apply e_var); exact rfl)
  | with_reducible exact e_int
  | with_reducible exact e_str
  | with_reducible exact e_bl
  | with_reducible exact e_non
  | with_reducible apply e_op
  | with_reducible exact o_add
  | with_reducible exact o_sub
  | with_reducible apply o_mul
  | with_reducible apply o_mod
  | with_reducible apply o_div
  | with_reducible exact o_lt
  | with_reducible exact o_le
  | with_reducible exact o_gt
  | with_reducible exact o_ge
  | with_reducible exact o_eqI
  | with_reducible exact o_neI
  | with_reducible exact o_eqS
  | with_reducible exact o_neS
  | ((with_reducible apply o_ixT); exact rfl)
  | ((with_reducible apply o_ixL); exact rfl)
  | with_reducible exact a_nil
  | with_reducible apply a_cons
  | with_reducible apply e_tup
  | with_reducible apply e_lst
  | with_reducible apply e_cb
  | with_reducible exact c_int
  | with_reducible exact c_intB
  | with_reducible exact c_abs
  | with_reducible exact c_ord
  | with_reducible exact c_lenL
  | with_reducible exact c_lenT
  | with_reducible exact c_listT
  | with_reducible exact c_tupL
  | with_reducible exact c_tupT
  | with_reducible exact c_all
  | with_reducible exact c_sum
  | with_reducible apply e_sl
  | with_reducible exact p_none
  | with_reducible apply p_some
  | with_reducible exact s_tup
  | with_reducible exact s_lst
  | ((with_reducible show CaD (cList _) _ _); first | exact c_listT | exact c_listL)
  | ((with_reducible show CaD (cTuple _) _ _); first | exact c_tupL | exact c_tupT)
  | with_reducible apply e_neg
  | with_reducible apply o_catL
  | with_reducible apply o_catT
  | with_reducible apply o_catS
  | with_reducible apply t_test
  | with_reducible apply t_b
  | with_reducible apply t_not)
local macro_rules | `(tactic| walk_at "ev") => `(tactic| repeat' walk_at "ev1")
local macro_rules | `(tactic| walk_at "side") => `(tactic| all_goals (try (first | rfl | omega)))
local macro_rules | `(tactic| walk_at "set") => `(tactic| (apply s_set; walk_at "ev"; walk_at "side"))
local macro_rules | `(tactic| walk_at "qset") => `(tactic| (apply q_set; walk_at "ev"; walk_at "side"))
local macro_rules | `(tactic| walk_at "ret") => `(tactic| (apply s_ret; walk_at "ev"; walk_at "side"))
local macro_rules | `(tactic| walk_at "ev1") => `(tactic| with_reducible apply c_coin)
local macro_rules | `(tactic| walk_at "ev1") => `(tactic| with_reducible apply c_challenge)
local macro_rules | `(tactic| walk_at "ev1") => `(tactic| with_reducible apply c_is_exponent2)
/-! ### rows -/
structure RowOk (row : List Int) : Prop where
  r : ∀ y ∈ row, 0 ≤ y ∧ y < 1009
  l : row.length ≤ 2600
def atR (row : List Int) (n : Int) : Int := if decide (0 ≤ n) && decide (n < row.length) then row.getD n.toNat 0 else 0
theorem atR_range {row : List Int} (g : RowOk row) (n : Int) : 0 ≤ atR row n ∧ atR row n < 1009 := by
  unfold atR
  split
  · rename_i h
    simp only [Bool.and_eq_true, decide_eq_true_eq] at h
    have hn : n.toNat < row.length := by omega
    rw [List.getD_eq_getElem?_getD, List.getElem?_eq_getElem hn]
    exact g.r _ (List.getElem_mem hn)
  · omega
theorem at_list {ns : List Int} {i : Int} (h0 : 0 ≤ i) (h1 : i < ns.length) : atI (dI ns) i = some (.int (ns.getD i.toNat 0)) := by
  have hn : i.toNat < ns.length := by omega
  have e : i = ((i.toNat : Nat) : Int) := by omega
  rw [e]
  refine atI_nat ?_
  rw [Int.toNat_natCast]
  refine at_map ?_
  rw [List.getD_eq_getElem?_getD, List.getElem?_eq_getElem hn]
  rfl
def R_law_at : List PyData → PyData → Prop := fun ds d => ∃ (row : List Int) (n : Int), ds = [.list (dI row), .int n] ∧ d = .int (atR row n)
def t_law_at (K : PySem.W.Frag) (CN CB : Addr) : TS := (tSeq (tIfS (tTest (tChain oLe oLt (tC (.int 0)) (tVar 1) (tCB (cLen K) (tCons (tVar 0) tNil)))) (tRet (tOp (rIxL K) (tVar 0) (tVar 1))) tNext)
  (tRet (tC (.int 0))))
theorem sem_law_at {K : PySem.W.Frag} {CN CB : Addr} (ds : List PyData) (d : PyData) (h : R_law_at ds d) : S W0 (t_law_at K CN CB) (startR n_law_at ds) none { nx := fun _ _ => d = .none, rt := fun d' => d' = d } := by
  obtain ⟨row, n, rfl, rfl⟩ := h
  show S W0 _ [some (.list (dI row)), some (.int n)] none _
  refine q_when (b := decide (0 ≤ n) && decide (n < row.length)) (t_test (e_is (e_chain e_int (e_var rfl) o_le (fun _ => e_cb (a_cons (e_var rfl) a_nil) c_lenL) (fun _ => o_lt)) (by rw [dI_len]))) (fun hb => ?_) fun hb => ?_
  · have hb' := hb
    simp only [Bool.and_eq_true, decide_eq_true_eq] at hb'
    refine s_ret (e_op (e_var rfl) (e_var rfl) (o_ixL (at_list hb'.1 hb'.2))) ?_
    show PyData.int _ = .int (atR row n)
    unfold atR
    rw [if_pos hb]
  · refine s_ret e_int ?_
    show PyData.int _ = .int (atR row n)
    unfold atR
    rw [if_neg (by rw [hb]; decide)]
theorem der_law_at {P : Program} {w : World} {K : PySem.W.Frag} {mg : Str → Option Value} {base : Heap} {CN CB : Addr} {f : Addr} (h : Wd K mg CN CB) (cdv : Value) (A : Around) (outer : List PySem.Env) (s : Shared) (H : Hp) (E : XK) (hr : Room 0 (A.deeper (envOfC "_law_at" (defScope s_law_at) s.heap.objs.size f cdv))) :
    PSs ((cxOf CX0 P w K mg base n_law_at "_law_at" (defScope s_law_at) f cdv A outer s H E).nox) (defBody s_law_at) (t_law_at K CN CB) :=
  (pss_cons (ps_if (pt_chain op_le op_lt pe_int (pv 1) (pe_callB call_len_seq (by rfl) h.f_len bt_len (pa_cons (pv 0) pa_nil))) (pss_one (ps_ret (pe_ix ix_list (pv 0) (pv 1) (fun _ _ => rfl)))) pss_nil)
  (pss_one (ps_ret pe_int)))
theorem pr_law_at {P : Program} {w : World} {K : PySem.W.Frag} {mg : Str → Option Value} {base : Heap} {CN CB : Addr} (h : Wd K mg CN CB) : Pr P w K mg base CX0 1 "_law_at" ["_law_row_here", "_law_at_here"] (SP 2 R_law_at) := by
  obtain ⟨f, fd, F, g⟩ := h.d_law_at
  exact ⟨f, fd, okD F sc_law_at (t_law_at K CN CB) (der_law_at h) (sem_law_at (CN := CN) (CB := CB)), g, F.kp, F.bindsN fun _ _ _ _ _ _ us hl => match us, hl with | [_, _], _ => rfl⟩
theorem c_law_at {ρ : Ev} {ta : TA} {row : List Int} {n : Int} (h : A ta ρ [.list (dI row), .int n]) : E (tCall (SP 2 R_law_at) [] E0 ta) ρ (.int (atR row n)) := e_call h rfl ⟨_, _, rfl, rfl⟩
local macro_rules | `(tactic| walk_at "ev1") => `(tactic| with_reducible apply c_law_at)
/-- int(_law_at(row, n)) -/
theorem c_at {ρ : Ev} {ta : TA} {row : List Int} {n : Int} (h : A ta ρ [.list (dI row), .int n]) : E (tCB cInt (tCons (tCall (SP 2 R_law_at) [] E0 ta) tNil)) ρ (.int (atR row n)) := e_cb (a_cons (c_law_at h) a_nil) c_int
/-! ### challenges, joined texts, powers once more -/
def R_law_challenge : List PyData → PyData → Prop := fun ds d => ∃ (q : Int) (t : Str), ds = [.int q, .str t] ∧ 2 ≤ q ∧ d = .int (chal q t)
def t_law_challenge (K : PySem.W.Frag) (CN CB : Addr) : TS := (tSeq (tAsg (tOp oMod (tCB cInt (tCons (tOp oAdd (tOp oMul (tVar 0) (tC (.int 1009))) (tC (.int 11))) tNil)) (tC (.int 2147483647))) (gName 2))
  (tSeq (tFor (iStr (tVar 1)) (gName 3) (tAsg (tOp oMod (tCB cInt (tCons (tOp oAdd (tOp oAdd (tOp oMul (tVar 2) (tC (.int 263))) (tCB cOrd (tCons (tVar 3) tNil))) (tC (.int 1))) tNil)) (tC (.int 2147483647))) (gName 2)))
  (tSeq (tFor (iRng1 (tCons (tC (.int 3)) tNil)) (gName 4) (tAsg (tOp oMod (tCB cInt (tCons (tOp oAdd (tOp oMul (tVar 2) (tC (.int 48271))) (tC (.int 12345))) tNil)) (tC (.int 2147483647))) (gName 2)))
  (tRet (tOp oAdd (tC (.int 1)) (tOp oMod (tOp oMod (tCB cInt (tCons (tOp oDiv (tVar 2) (tC (.int 1000))) tNil)) (tC (.int 1000000))) (tOp oSub (tVar 0) (tC (.int 1)))))))))
theorem start_same (q : Int) : (q * 1009 + 11) % 2147483647 = ((0 : Int) * 31 + q * 1009 + 11) % 2147483647 := by
  congr 1
  omega
theorem sem_law_challenge {K : PySem.W.Frag} {CN CB : Addr} (ds : List PyData) (d : PyData) (h : R_law_challenge ds d) : S W0 (t_law_challenge K CN CB) (startR n_law_challenge ds) none { nx := fun _ _ => d = .none, rt := fun d' => d' = d } := by
  obtain ⟨q, t, rfl, hq, rfl⟩ := h
  show S W0 _ [some (.int q), some (.str t), none, none, none] none _
  walk_at "qset"
  rw [start_same]
  refine s_seq (s_for (w_str (e_var rfl)) (fun i ρ ow => ow = none ∧ ∃ x3, ρ = [some (.int q), some (.str t), some (.int ((t.cps.toList.take i).foldl coinS (((0 : Int) * 31 + q * 1009 + 11) % 2147483647))), x3, none])
    ⟨rfl, none, rfl⟩ ?_ ?_)
  · rintro i d ρ1 w1 hd ⟨rfl, x4, rfl⟩
    obtain ⟨c, hc, rfl⟩ := signsD_at hd
    refine ⟨_, _, g_name, rfl, ?_⟩
    walk_at "set"
    refine ⟨rfl, some (.str ⟨#[c]⟩), ?_⟩
    rw [foldl_take _ _ hc]
    rfl
  · rintro ρ' w' ⟨rfl, x4, rfl⟩
    have hl : t.cps.toList.take (signsD t).length = t.cps.toList := by
      rw [show (signsD t).length = t.cps.toList.length by simp [signsD], List.take_length]
    rw [hl]
    refine s_seq (s_for (ds := rngD 0 3) (w_rng1 (n := 3) (by walk_at "ev") (by decide)) (fun i ρ ow => ow = none ∧ ∃ x5, ρ = [some (.int q), some (.str t), some (.int (Nat.rec (t.cps.toList.foldl coinS (((0 : Int) * 31 + q * 1009 + 11) % 2147483647)) (fun _ v => coin1 v) i)), x4, x5])
      ⟨rfl, none, rfl⟩ ?_ ?_)
    · rintro i d ρ1 w1 hd ⟨rfl, x5, rfl⟩
      refine ⟨_, _, g_name, rfl, ?_⟩
      walk_at "set"
      exact ⟨rfl, some d, rfl⟩
    · rintro ρ' w' ⟨rfl, x5, rfl⟩
      refine s_ret (e_op e_int (e_op (e_op (e_cb (a_cons (e_op (e_var rfl) e_int (o_div (by decide))) a_nil) c_int) e_int (o_mod (by decide))) (e_op (e_var rfl) e_int o_sub) (o_mod (by omega))) o_add) rfl
theorem der_law_challenge {P : Program} {w : World} {K : PySem.W.Frag} {mg : Str → Option Value} {base : Heap} {CN CB : Addr} {f : Addr} (h : Wd K mg CN CB) (cdv : Value) (A : Around) (outer : List PySem.Env) (s : Shared) (H : Hp) (E : XK) (hr : Room 0 (A.deeper (envOfC "_law_challenge" (defScope s_law_challenge) s.heap.objs.size f cdv))) :
    PSs ((cxOf CX0 P w K mg base n_law_challenge "_law_challenge" (defScope s_law_challenge) f cdv A outer s H E).nox) (defBody s_law_challenge) (t_law_challenge K CN CB) :=
  (pss_cons (ps_set (i := 2) sc_law_challenge.nd rfl (by first | exact Or.inl rfl | exact Or.inr rfl) (pe_op op_mod (pe_callTy call_int1 (by rfl) h.f_int bt_int (pa_cons (pe_op op_add (pe_op op_mul (pv 0) pe_int) pe_int) pa_nil)) pe_int))
  (pss_cons (ps_for PassesOwn.never rfl (pi_str (pv 1)) (pg_name (i := 3) sc_law_challenge.nd rfl (by first | exact Or.inl rfl | exact Or.inr rfl)) (pss_one (ps_set (i := 2) sc_law_challenge.nd rfl (by first | exact Or.inl rfl | exact Or.inr rfl) (pe_op op_mod (pe_callTy call_int1 (by rfl) h.f_int bt_int (pa_cons (pe_op op_add (pe_op op_add (pe_op op_mul (pv 2) pe_int) (pe_callB call_ord (by rfl) h.f_ord bt_ord (pa_cons (pv 3) pa_nil))) pe_int) pa_nil)) pe_int))))
  (pss_cons (ps_for PassesOwn.never rfl (pi_range1 (by rfl) h.f_range (pa_cons pe_int pa_nil)) (pg_name (i := 4) sc_law_challenge.nd rfl (by first | exact Or.inl rfl | exact Or.inr rfl)) (pss_one (ps_set (i := 2) sc_law_challenge.nd rfl (by first | exact Or.inl rfl | exact Or.inr rfl) (pe_op op_mod (pe_callTy call_int1 (by rfl) h.f_int bt_int (pa_cons (pe_op op_add (pe_op op_mul (pv 2) pe_int) pe_int) pa_nil)) pe_int))))
  (pss_one (ps_ret (pe_op op_add pe_int (pe_op op_mod (pe_op op_mod (pe_callTy call_int1 (by rfl) h.f_int bt_int (pa_cons (pe_op op_fdiv (pv 2) pe_int) pa_nil)) pe_int) (pe_op op_sub (pv 0) pe_int))))))))
theorem pr_law_challenge {P : Program} {w : World} {K : PySem.W.Frag} {mg : Str → Option Value} {base : Heap} {CN CB : Addr} (h : Wd K mg CN CB) : Pr P w K mg base CX0 1 "_law_challenge" ["_law_q", "_law_text"] (SP 2 R_law_challenge) := by
  obtain ⟨f, fd, F, g⟩ := h.d_law_challenge
  exact ⟨f, fd, okD F sc_law_challenge (t_law_challenge K CN CB) (der_law_challenge h) (sem_law_challenge (CN := CN) (CB := CB)), g, F.kp, F.bindsN fun _ _ _ _ _ _ us hl => match us, hl with | [_, _], _ => rfl⟩
theorem c_law_challenge {ρ : Ev} {ta : TA} {q : Int} {t : Str} (h : A ta ρ [.int q, .str t]) (hq : 2 ≤ q) : E (tCall (SP 2 R_law_challenge) [] E0 ta) ρ (.int (chal q t)) := e_call h rfl ⟨_, _, rfl, hq, rfl⟩
def R_law_joined : List PyData → PyData → Prop := fun ds d => ∃ (w : Str) (ns : List Int), ds = [.str w, .list (dI ns)] ∧ w.length ≤ 10000 ∧ ns.length ≤ 1000 ∧ Small ns ∧ d = .str (joinV w ns)
def t_law_joined (K : PySem.W.Frag) (CN CB : Addr) : TS := (tRet (tJoin K (tC (.str " ")) (tOp rCat (tLst (tCons (tVar 0) tNil)) (tLc (iList K (tVar 1)) (gName 2) tYes (tCB cStr (tCons (tVar 2) tNil)) [2]))))
theorem sem_law_joined {K : PySem.W.Frag} {CN CB : Addr} (ds : List PyData) (d : PyData) (h : R_law_joined ds d) : S W0 (t_law_joined K CN CB) (startR n_law_joined ds) none { nx := fun _ _ => d = .none, rt := fun d' => d' = d } := by
  obtain ⟨w, ns, rfl, hw, hl, hs, rfl⟩ := h
  show S W0 _ [some (.str w), some (.list (dI ns)), none] none _
  refine s_ret (e_join (ys := w :: ns.map strI) e_str (e_op (e_lst (a_cons (e_var rfl) a_nil) (by simp)) (e_strs rfl hs hl (by simp)) (o_catL ?_)) (join_fits hw hl hs)) rfl
  have : (dS (ns.map strI)).length ≤ 1000 := by simpa [dS] using hl
  exact sz_ok (by simp only [List.length_cons, List.length_nil]; omega)
theorem der_law_joined {P : Program} {w : World} {K : PySem.W.Frag} {mg : Str → Option Value} {base : Heap} {CN CB : Addr} {f : Addr} (h : Wd K mg CN CB) (cdv : Value) (A : Around) (outer : List PySem.Env) (s : Shared) (H : Hp) (E : XK) (hr : Room 0 (A.deeper (envOfC "_law_joined" (defScope s_law_joined) s.heap.objs.size f cdv))) :
    PSs ((cxOf CX0 P w K mg base n_law_joined "_law_joined" (defScope s_law_joined) f cdv A outer s H E).nox) (defBody s_law_joined) (t_law_joined K CN CB) :=
  (pss_one (ps_ret (pe_join pe_str (pe_op op_cat (pe_lst (pa_cons (pv 0) pa_nil)) (pe_lc (own := [("_law_number", 2)]) rfl sc_law_joined.nd (pi_list (pv 1)) (blkOk_by (own := [("_law_number", 2)]) (N := n_law_joined) (sc := defScope s_law_joined) (by decide +kernel)) (fun _ _ _ _ _ => (pg_name (i := 2) sc_law_joined.nd rfl (by first | exact Or.inl rfl | exact Or.inr rfl))) (fun _ _ _ _ _ => pts_nil) (fun _ _ _ _ _ => (pe_callTy call_str_int (by rfl) h.f_str bt_str (pa_cons (pv 2) pa_nil))))))))
theorem pr_law_joined {P : Program} {w : World} {K : PySem.W.Frag} {mg : Str → Option Value} {base : Heap} {CN CB : Addr} (h : Wd K mg CN CB) : Pr P w K mg base CX0 1 "_law_joined" ["_law_word", "_law_numbers"] (SP 2 R_law_joined) := by
  obtain ⟨f, fd, F, g⟩ := h.d_law_joined
  exact ⟨f, fd, okD F sc_law_joined (t_law_joined K CN CB) (der_law_joined h) (sem_law_joined (CN := CN) (CB := CB)), g, F.kp, F.bindsN fun _ _ _ _ _ _ us hl => match us, hl with | [_, _], _ => rfl⟩
theorem c_law_joined {ρ : Ev} {ta : TA} {w : Str} {ns : List Int} (h : A ta ρ [.str w, .list (dI ns)]) (hw : w.length ≤ 10000) (hl : ns.length ≤ 1000) (hs : Small ns) : E (tCall (SP 2 R_law_joined) [] E0 ta) ρ (.str (joinV w ns)) := e_call h rfl ⟨_, _, rfl, hw, hl, hs, rfl⟩
/-- a list or a tuple of ints -/
def sq (b : Bool) (ns : List Int) : PyData := if b then .tuple (dI ns) else .list (dI ns)
theorem o_ixSq {K : PySem.W.Frag} {b : Bool} {ns : List Int} {n : Int} {d : PyData} (e : atI (dI ns) n = some d) : OpD (rIx K) (sq b ns) (.int n) d := fun x y H G s h1 h2 Q q => by
  cases b with
  | false => exact .inl (o_ixL e x y H G s h1 h2 Q q)
  | true => exact .inr (.inl (o_ixT e x y H G s h1 h2 Q q))
theorem c_lenSq {K : PySem.W.Frag} {b : Bool} {ns : List Int} : CaD (cLen K) [sq b ns] (.int ns.length) := by
  have e : ((dI ns).length : Int) = ns.length := by rw [dI_len]
  rw [← e]
  cases b with
  | false => exact c_lenL
  | true => exact c_lenT
/-- powers by repeated products -/
def lp (p : Int) (bs es : List Int) : Int := (bs.zip es).foldl (fun v x => v * x.1 ^ x.2.toNat % p) 1
theorem lp_range {p : Int} (hp : 2 ≤ p) (l : List (Int × Int)) : ∀ v : Int, 0 ≤ v ∧ v < p → 0 ≤ l.foldl (fun v x => v * x.1 ^ x.2.toNat % p) v ∧ l.foldl (fun v x => v * x.1 ^ x.2.toNat % p) v < p := by
  induction l with
  | nil => intro v hv; exact hv
  | cons x l ih => intro v hv; exact ih _ ⟨Int.emod_nonneg _ (by omega), Int.emod_lt_of_pos _ (by omega)⟩
def R_law_powers : List PyData → PyData → Prop := fun ds d => ∃ (p : Int) (b1 b2 : Bool) (bs es : List Int), ds = [.int p, sq b1 bs, sq b2 es] ∧ 2 ≤ p ∧ p < 1073741824 ∧ bs.length = es.length ∧ bs.length ≤ 1000 ∧ (∀ e ∈ es, 0 ≤ e ∧ e < 1073741824) ∧ d = .int (lp p bs es)
def t_law_powers (K : PySem.W.Frag) (CN CB : Addr) : TS := (tSeq (tAsg (tC (.int 1)) (gName 3))
  (tSeq (tFor (iRng1 (tCons (tCB (cLen K) (tCons (tVar 1) tNil)) tNil)) (gName 4) (tFor (iRng1 (tCons (tOp (rIx K) (tVar 2) (tVar 4)) tNil)) (gName 5) (tAsg (tOp oMod (tCB cInt (tCons (tOp oMul (tVar 3) (tOp (rIx K) (tVar 1) (tVar 4))) tNil)) (tVar 0)) (gName 3))))
  (tRet (tVar 3))))
theorem sem_law_powers {K : PySem.W.Frag} {CN CB : Addr} (ds : List PyData) (d : PyData) (h : R_law_powers ds d) : S W0 (t_law_powers K CN CB) (startR n_law_powers ds) none { nx := fun _ _ => d = .none, rt := fun d' => d' = d } := by
  obtain ⟨p, b1, b2, bs, es, rfl, hp, hp2, hl, hl2, he, rfl⟩ := h
  show S W0 _ [some (.int p), some (sq b1 bs), some (sq b2 es), none, none, none] none _
  refine q_set e_int rfl ?_
  refine s_seq (s_for (w_rng1 (n := bs.length) (a_cons (e_cb (a_cons (e_var rfl) a_nil) c_lenSq) a_nil) ⟨by omega, by omega⟩) (fun i ρ ow => ow = none ∧ ∃ x4 x5, ρ = [some (.int p), some (sq b1 bs), some (sq b2 es), some (.int (((bs.zip es).take i).foldl (fun v x => v * x.1 ^ x.2.toNat % p) 1)), x4, x5])
    ⟨rfl, none, none, rfl⟩ ?_ ?_)
  · rintro i d ρ1 w1 hd ⟨rfl, x4, x5, rfl⟩
    obtain ⟨hi, rfl⟩ := rngD_mem hd
    have hi' : i < bs.length := by omega
    have hj : i < es.length := by omega
    obtain ⟨b, hb⟩ : ∃ b, bs[i]? = some b := ⟨bs[i], by simp [hi']⟩
    obtain ⟨e, hee⟩ : ∃ e, es[i]? = some e := ⟨es[i], by simp [hj]⟩
    have her := he e (List.mem_of_getElem? hee)
    have ab : atI (dI bs) (0 + (i : Nat)) = some (.int b) := by
      rw [Int.zero_add]
      exact atI_nat (at_map hb)
    have ae : atI (dI es) (0 + (i : Nat)) = some (.int e) := by
      rw [Int.zero_add]
      exact atI_nat (at_map hee)
    refine ⟨_, _, g_name, rfl, ?_⟩
    rw [foldl_take _ _ (zip_at hb hee)]
    generalize hv : ((bs.zip es).take i).foldl (fun v x => v * x.1 ^ x.2.toNat % p) 1 = v
    have hvr : 0 ≤ v ∧ v < p := by
      rw [← hv]
      exact lp_range hp _ 1 ⟨by omega, by omega⟩
    refine s_for (w_rng1 (n := e) (a_cons (e_op (e_var rfl) (e_var rfl) (o_ixSq ae)) a_nil) ⟨by omega, by omega⟩) (fun j ρ ow => ow = none ∧ ∃ x5, ρ = [some (.int p), some (sq b1 bs), some (sq b2 es), some (.int (v * b ^ j % p)), some (.int (0 + (i : Nat))), x5])
      ⟨rfl, x5, by rw [Int.pow_zero, Int.mul_one, Int.emod_eq_of_lt hvr.1 hvr.2]; rfl⟩ ?_ ?_
    · rintro j d ρ1 w1 hd ⟨rfl, x5, rfl⟩
      have n1 := Int.emod_nonneg (v * b ^ j) (show p ≠ 0 by omega)
      have n2 := Int.emod_lt_of_pos (v * b ^ j) (show 0 < p by omega)
      refine ⟨_, _, g_name, rfl, ?_⟩
      refine s_set (e_op (e_cb (a_cons (e_op (e_var rfl) (e_op (e_var rfl) (e_var rfl) (o_ixSq ab)) (o_mul (.inl (by omega)))) a_nil) c_int) (e_var rfl) (o_mod (by omega))) rfl ⟨rfl, some d, ?_⟩
      rw [mul_mod_l, Int.mul_assoc, ← Int.pow_succ]
      rfl
    · rintro ρ' w' ⟨rfl, x5, rfl⟩
      refine ⟨rfl, some (.int (0 + (i : Nat))), x5, ?_⟩
      rw [rngD_length]
  · rintro ρ' w' ⟨rfl, x4, x5, rfl⟩
    refine s_ret (e_var rfl) ?_
    show PyData.int _ = .int (lp p bs es)
    unfold lp
    rw [List.take_of_length_le (by rw [rngD_length, List.length_zip]; omega)]
theorem der_law_powers {P : Program} {w : World} {K : PySem.W.Frag} {mg : Str → Option Value} {base : Heap} {CN CB : Addr} {f : Addr} (h : Wd K mg CN CB) (cdv : Value) (A : Around) (outer : List PySem.Env) (s : Shared) (H : Hp) (E : XK) (hr : Room 0 (A.deeper (envOfC "_law_powers" (defScope s_law_powers) s.heap.objs.size f cdv))) :
    PSs ((cxOf CX0 P w K mg base n_law_powers "_law_powers" (defScope s_law_powers) f cdv A outer s H E).nox) (defBody s_law_powers) (t_law_powers K CN CB) :=
  (pss_cons (ps_set (i := 3) sc_law_powers.nd rfl (by first | exact Or.inl rfl | exact Or.inr rfl) pe_int)
  (pss_cons (ps_for PassesOwn.never rfl (pi_range1 (by rfl) h.f_range (pa_cons (pe_callB call_len_seq (by rfl) h.f_len bt_len (pa_cons (pv 1) pa_nil)) pa_nil)) (pg_name (i := 4) sc_law_powers.nd rfl (by first | exact Or.inl rfl | exact Or.inr rfl)) (pss_one (ps_for PassesOwn.never rfl (pi_range1 (by rfl) h.f_range (pa_cons (pe_ix ix_seq (pv 2) (pv 4) (fun _ _ => rfl)) pa_nil)) (pg_name (i := 5) sc_law_powers.nd rfl (by first | exact Or.inl rfl | exact Or.inr rfl)) (pss_one (ps_set (i := 3) sc_law_powers.nd rfl (by first | exact Or.inl rfl | exact Or.inr rfl) (pe_op op_mod (pe_callTy call_int1 (by rfl) h.f_int bt_int (pa_cons (pe_op op_mul (pv 3) (pe_ix ix_seq (pv 1) (pv 4) (fun _ _ => rfl))) pa_nil)) (pv 0)))))))
  (pss_one (ps_ret (pv 3)))))
theorem pr_law_powers {P : Program} {w : World} {K : PySem.W.Frag} {mg : Str → Option Value} {base : Heap} {CN CB : Addr} (h : Wd K mg CN CB) : Pr P w K mg base CX0 1 "_law_powers" ["_law_p", "_law_bases", "_law_exponents"] (SP 3 R_law_powers) := by
  obtain ⟨f, fd, F, g⟩ := h.d_law_powers
  exact ⟨f, fd, okD F sc_law_powers (t_law_powers K CN CB) (der_law_powers h) (sem_law_powers (CN := CN) (CB := CB)), g, F.kp, F.bindsN fun _ _ _ _ _ _ us hl => match us, hl with | [_, _, _], _ => rfl⟩
theorem c_law_powers {ρ : Ev} {ta : TA} {p : Int} (b1 b2 : Bool) {bs es : List Int} (h : A ta ρ [.int p, sq b1 bs, sq b2 es]) (hp : 2 ≤ p) (hp2 : p < 1073741824) (hl : bs.length = es.length) (hl2 : bs.length ≤ 1000) (he : ∀ e ∈ es, 0 ≤ e ∧ e < 1073741824) : E (tCall (SP 3 R_law_powers) [] E0 ta) ρ (.int (lp p bs es)) :=
  e_call h rfl ⟨_, _, _, _, _, rfl, hp, hp2, hl, hl2, he, rfl⟩
/-! ### setups -/
def qs : List Int := [11, 23, 29, 41, 53, 83, 89, 113]
theorem qs_ok : ∀ q ∈ qs, Bd q ∧ isEl q 4 = true := by
  intro q hq
  simp only [qs, List.mem_cons, List.not_mem_nil, or_false] at hq
  rcases hq with rfl | rfl | rfl | rfl | rfl | rfl | rfl | rfl <;> exact ⟨by unfold Bd; omega, by decide +kernel⟩
def qOf (row : List Int) : Int := qs.getD (atR row 0 % 8).toNat 0
theorem qOf_mem (row : List Int) : qOf row ∈ qs := by
  have h0 := Int.emod_nonneg (atR row 0) (show (8 : Int) ≠ 0 by decide)
  have h1 := Int.emod_lt_of_pos (atR row 0) (show (0 : Int) < 8 by decide)
  unfold qOf
  have hn : (atR row 0 % 8).toNat < qs.length := by
    show _ < 8
    omega
  rw [List.getD_eq_getElem?_getD, List.getElem?_eq_getElem hn]
  exact List.getElem_mem hn
def suOf (row : List Int) : Su := ⟨qOf row, baseAt (qOf row) (atR row 1) 0, baseAt (qOf row) (atR row 1) 1, baseAt (qOf row) (atR row 1) 2, baseAt (qOf row) (atR row 1) 3, baseAt (qOf row) (atR row 1) 4⟩
theorem goodSu (row : List Int) : GoodS (suOf row) := by
  obtain ⟨hb, h4⟩ := qs_ok _ (qOf_mem row)
  exact ⟨hb, el_pw hb h4, el_pw hb h4, el_pw hb h4, el_pw hb h4, el_pw hb h4⟩
def R_law_setup : List PyData → PyData → Prop := fun ds d => ∃ row : List Int, ds = [.list (dI row)] ∧ d = dSu (suOf row)
def t_law_setup (K : PySem.W.Frag) (CN CB : Addr) : TS := (tSeq (tAsg (tOp (rIxL K) (tLst (tCons (tC (.int 11)) (tCons (tC (.int 23)) (tCons (tC (.int 29)) (tCons (tC (.int 41)) (tCons (tC (.int 53)) (tCons (tC (.int 83)) (tCons (tC (.int 89)) (tCons (tC (.int 113)) tNil))))))))) (tOp oMod (tCB cInt (tCons (tCall (SP 2 R_law_at) [] E0 (tCons (tVar 0) (tCons (tC (.int 0)) tNil))) tNil)) (tC (.int 8)))) (gName 1))
  (tRet (tCall (SP 2 R_setup_of) [] E0 (tCons (tVar 1) (tCons (tCB cInt (tCons (tCall (SP 2 R_law_at) [] E0 (tCons (tVar 0) (tCons (tC (.int 1)) tNil))) tNil)) tNil)))))
theorem sem_law_setup {K : PySem.W.Frag} {CN CB : Addr} (ds : List PyData) (d : PyData) (h : R_law_setup ds d) : S W0 (t_law_setup K CN CB) (startR n_law_setup ds) none { nx := fun _ _ => d = .none, rt := fun d' => d' = d } := by
  obtain ⟨row, rfl, rfl⟩ := h
  obtain ⟨hb, h4⟩ := qs_ok _ (qOf_mem row)
  have h0 := Int.emod_nonneg (atR row 0) (show (8 : Int) ≠ 0 by decide)
  have h1 := Int.emod_lt_of_pos (atR row 0) (show (0 : Int) < 8 by decide)
  show S W0 _ [some (.list (dI row)), none] none _
  refine q_set (d := .int (qOf row)) (e_op (d1 := .list (dI qs)) (e_lst (a_cons e_int (a_cons e_int (a_cons e_int (a_cons e_int (a_cons e_int (a_cons e_int (a_cons e_int (a_cons e_int a_nil)))))))) (by decide)) (e_op (c_at (a_cons (e_var rfl) (a_cons e_int a_nil))) e_int (o_mod (by decide))) (o_ixL (at_list h0 h1))) rfl ?_
  exact s_ret (c_setup_of (a_cons (e_var rfl) (a_cons (c_at (a_cons (e_var rfl) (a_cons e_int a_nil))) a_nil)) hb h4) rfl
theorem der_law_setup {P : Program} {w : World} {K : PySem.W.Frag} {mg : Str → Option Value} {base : Heap} {CN CB : Addr} {f : Addr} (h : Wd K mg CN CB) (cdv : Value) (A : Around) (outer : List PySem.Env) (s : Shared) (H : Hp) (E : XK) (hr : Room 5 (A.deeper (envOfC "_law_setup" (defScope s_law_setup) s.heap.objs.size f cdv))) :
    PSs ((cxOf CX0 P w K mg base n_law_setup "_law_setup" (defScope s_law_setup) f cdv A outer s H E).nox) (defBody s_law_setup) (t_law_setup K CN CB) :=
  (pss_cons (ps_set (i := 1) sc_law_setup.nd rfl (by first | exact Or.inl rfl | exact Or.inr rfl) (pe_ix ix_list (pe_lst (pa_cons pe_int (pa_cons pe_int (pa_cons pe_int (pa_cons pe_int (pa_cons pe_int (pa_cons pe_int (pa_cons pe_int (pa_cons pe_int pa_nil))))))))) (pe_op op_mod (pe_callTy call_int1 (by rfl) h.f_int bt_int (pa_cons (pe_c (pr_law_at h) (hr.mono (by decide)) pass0 (pa_cons (pv 0) (pa_cons pe_int pa_nil))) pa_nil)) pe_int) (fun _ _ => rfl)))
  (pss_one (ps_ret (pe_c (pr_setup_of h) hr pass0 (pa_cons (pv 1) (pa_cons (pe_callTy call_int1 (by rfl) h.f_int bt_int (pa_cons (pe_c (pr_law_at h) (hr.mono (by decide)) pass0 (pa_cons (pv 0) (pa_cons pe_int pa_nil))) pa_nil)) pa_nil))))))
theorem pr_law_setup {P : Program} {w : World} {K : PySem.W.Frag} {mg : Str → Option Value} {base : Heap} {CN CB : Addr} (h : Wd K mg CN CB) : Pr P w K mg base CX0 6 "_law_setup" ["_law_row_here"] (SP 1 R_law_setup) := by
  obtain ⟨f, fd, F, g⟩ := h.d_law_setup
  exact ⟨f, fd, okD F sc_law_setup (t_law_setup K CN CB) (der_law_setup h) (sem_law_setup (CN := CN) (CB := CB)), g, F.kp, F.bindsN fun _ _ _ _ _ _ us hl => match us, hl with | [_], _ => rfl⟩
theorem c_law_setup {ρ : Ev} {ta : TA} {row : List Int} (h : A ta ρ [.list (dI row)]) : E (tCall (SP 1 R_law_setup) [] E0 ta) ρ (dSu (suOf row)) := e_call h rfl ⟨_, rfl, rfl⟩
/-! ### pairs -/
def pOf (i : Nat) : Q2 := ((0 + (i : Nat) : Int) / 5, (0 + (i : Nat) : Int) % 5)
def cond (row : List Int) (n : Int) (own : Q2) (i : Nat) : Bool := decide (atR row (n + (0 + (i : Nat) : Int) / 5) / (1 + (0 + (i : Nat) : Int) % 5) % 3 = 0) || decide (pOf i = own)
def pairsL (row : List Int) (n : Int) (own : Q2) (k : Nat) : List Q2 := ((List.range k).filter (cond row n own)).map pOf
theorem pairsL_yes {row : List Int} {n : Int} {own : Q2} {k : Nat} (h : cond row n own k = true) : pairsL row n own (k + 1) = pairsL row n own k ++ [pOf k] := by
  unfold pairsL
  rw [List.range_succ, List.filter_append, List.map_append, List.filter_cons, if_pos h]
  rfl
theorem pairsL_no {row : List Int} {n : Int} {own : Q2} {k : Nat} (h : cond row n own k = false) : pairsL row n own (k + 1) = pairsL row n own k := by
  unfold pairsL
  rw [List.range_succ, List.filter_append, List.map_append, List.filter_cons, if_neg (by rw [h]; decide)]
  simp
theorem pairsL_len (row : List Int) (n : Int) (own : Q2) (k : Nat) : (pairsL row n own k).length ≤ k := by
  unfold pairsL
  rw [List.length_map]
  have h := List.length_filter_le (cond row n own) (List.range k)
  rw [List.length_range] at h
  exact h
theorem ix_pOf (i : Nat) : ix (pOf i) = (i : Nat) := by
  unfold ix pOf
  simp only
  omega
theorem goodPairs (row : List Int) (n : Int) (own : Q2) : GoodPs (pairsL row n own 25) := by
  refine ⟨fun p hp => ?_, ?_, pairsL_len row n own 25⟩
  · obtain ⟨i, hi, rfl⟩ := List.mem_map.mp hp
    have h1 : i < 25 := List.mem_range.mp (List.mem_filter.mp hi).1
    refine ⟨inQ_iff.mpr ?_, inQ_iff.mpr ?_⟩
    · show 0 ≤ (0 + (i : Nat) : Int) / 5 ∧ (0 + (i : Nat) : Int) / 5 < 5
      omega
    · show 0 ≤ (0 + (i : Nat) : Int) % 5 ∧ (0 + (i : Nat) : Int) % 5 < 5
      omega
  · unfold pairsL
    rw [List.pairwise_map]
    refine List.Pairwise.imp (fun {a b} hab => ?_) ((List.pairwise_lt_range (n := 25)).filter (cond row n own))
    rw [ix_pOf, ix_pOf]
    omega
theorem own_at (row : List Int) (n : Int) {own : Q2} (h : OkP own) : ∃ k : Nat, (pairsL row n own 25)[k]? = some own := by
  have h1 := inQ_iff.mp h.1
  have h2 := inQ_iff.mp h.2
  have e : pOf (5 * own.1 + own.2).toNat = own := by
    obtain ⟨a, b⟩ := own
    unfold pOf
    simp only at h1 h2 ⊢
    rw [show ((5 * a + b).toNat : Int) = 5 * a + b by omega]
    congr 1
    · omega
    · omega
  refine List.getElem?_of_mem (List.mem_map.mpr ⟨(5 * own.1 + own.2).toNat, List.mem_filter.mpr ⟨List.mem_range.mpr (by omega), ?_⟩, e⟩)
  unfold cond
  rw [decide_eq_true e, Bool.or_true]
def R_law_pairs : List PyData → PyData → Prop := fun ds d => ∃ (row : List Int) (n : Int) (p : Pe), ds = [.list (dI row), .int n, dPe p] ∧ d = dPs (pairsL row n (p.a, p.z) 25)
def t_law_pairs (K : PySem.W.Frag) (CN CB : Addr) : TS := (tSeq (tAsg (tLst tNil) (gName 3))
  (tSeq (tFor (iRng1 (tCons (tC (.int 25)) tNil)) (gName 4) (tIfS (tOr (tTest (tOp rEq (tOp oMod (tOp oDiv (tCB cInt (tCons (tCall (SP 2 R_law_at) [] E0 (tCons (tVar 0) (tCons (tOp oAdd (tVar 1) (tOp oDiv (tVar 4) (tC (.int 5)))) tNil))) tNil)) (tOp oAdd (tC (.int 1)) (tOp oMod (tVar 4) (tC (.int 5))))) (tC (.int 3))) (tC (.int 0)))) (tTest (tOp (rEqD K) (tTup (tCons (tOp oDiv (tVar 4) (tC (.int 5))) (tCons (tOp oMod (tVar 4) (tC (.int 5))) tNil))) (tSl (rSlA K) (tVar 2) (tPart (tC (.int 1))) tNoPart)))) (tDrop (tBM K "list" rAppend (tVar 3) (tCons (tTup (tCons (tOp oDiv (tVar 4) (tC (.int 5))) (tCons (tOp oMod (tVar 4) (tC (.int 5))) tNil))) tNil))) tNext))
  (tRet (tVar 3))))
theorem sem_law_pairs {K : PySem.W.Frag} {CN CB : Addr} (ds : List PyData) (d : PyData) (h : R_law_pairs ds d) : S W0 (t_law_pairs K CN CB) (startR n_law_pairs ds) none { nx := fun _ _ => d = .none, rt := fun d' => d' = d } := by
  obtain ⟨row, n, p, rfl, rfl⟩ := h
  show S W0 _ [some (.list (dI row)), some (.int n), some (dPe p), none, none] none _
  refine s_seq (s_own (ds := []) a_nil (by simp) ?_ (by simp))
  refine s_seq (s_for (w_rng1 (n := 25) (a_cons e_int a_nil) (by decide)) (fun i ρ ow => ∃ x4, ρ = [some (.list (dI row)), some (.int n), some (dPe p), none, x4] ∧ ow = some (3, (pairsL row n (p.a, p.z) i).map dP)) ⟨none, rfl, rfl⟩ ?_ ?_)
  · rintro i d ρ1 w1 hd ⟨x4, rfl, rfl⟩
    obtain ⟨hi, rfl⟩ := rngD_mem hd
    refine ⟨_, _, g_name, rfl, ?_⟩
    have el := pairsL_len row n (p.a, p.z) i
    have hi' : i < 25 := hi
    have e1 : E (tOp oDiv (tVar 4) (tC (.int 5))) [some (.list (dI row)), some (.int n), some (dPe p), none, some (.int (0 + (i : Nat)))] (.int ((0 + (i : Nat) : Int) / 5)) := e_op (e_var rfl) e_int (o_div (by decide))
    have e2 : E (tOp oMod (tVar 4) (tC (.int 5))) [some (.list (dI row)), some (.int n), some (dPe p), none, some (.int (0 + (i : Nat)))] (.int ((0 + (i : Nat) : Int) % 5)) := e_op (e_var rfl) e_int (o_mod (by decide))
    refine s_if (b := cond row n (p.a, p.z) i) (t_or (t_test (e_op (e_op (e_op (c_at (a_cons (e_var rfl) (a_cons (e_op (e_var rfl) e1 o_add) a_nil))) (e_op e_int e2 o_add) (o_div ?_)) e_int (o_mod (by decide))) e_int o_eqI)) fun _ => t_test (e_is (e_op (d1 := dP (pOf i)) (d2 := dP (p.a, p.z)) (e_tup (a_cons e1 (a_cons e2 a_nil)) (by simp)) (e_sl (e_var rfl) (p_some e_int) p_none s_tup) (o_eqD (dP_shaped _) (dP_shaped _))) (by rw [dP_eqv]))) (fun hb => ?_) (fun hb => s_next ⟨_, rfl, by rw [pairsL_no hb]⟩)
    · omega
    · refine s_append (e_tup (a_cons e1 (a_cons e2 a_nil)) (by simp)) (by rw [List.length_map]; omega) ⟨_, rfl, ?_⟩
      rw [pairsL_yes hb, List.map_append]
      rfl
  · rintro ρ' w' ⟨x4, rfl, rfl⟩
    exact s_freeze (s_ret (e_var rfl) rfl)
theorem der_law_pairs {P : Program} {w : World} {K : PySem.W.Frag} {mg : Str → Option Value} {base : Heap} {CN CB : Addr} {f : Addr} (h : Wd K mg CN CB) (cdv : Value) (A : Around) (outer : List PySem.Env) (s : Shared) (H : Hp) (E : XK) (hr : Room 1 (A.deeper (envOfC "_law_pairs" (defScope s_law_pairs) s.heap.objs.size f cdv))) :
    PSs ((cxOf CX0 P w K mg base n_law_pairs "_law_pairs" (defScope s_law_pairs) f cdv A outer s H E).nox) (defBody s_law_pairs) (t_law_pairs K CN CB) :=
  (pss_cons (ps_set (i := 3) sc_law_pairs.nd rfl (by first | exact Or.inl rfl | exact Or.inr rfl) (pe_lst pa_nil))
  (pss_cons (ps_for PassesOwn.never rfl (pi_range1 (by rfl) h.f_range (pa_cons pe_int pa_nil)) (pg_name (i := 4) sc_law_pairs.nd rfl (by first | exact Or.inl rfl | exact Or.inr rfl)) (pss_one (ps_if (PW.pt (pw_or (pt_cmpR op_eq (pe_op op_mod (pe_op op_fdiv (pe_callTy call_int1 (by rfl) h.f_int bt_int (pa_cons (pe_c (pr_law_at h) hr pass0 (pa_cons (pv 0) (pa_cons (pe_op op_add (pv 1) (pe_op op_fdiv (pv 4) pe_int)) pa_nil))) pa_nil)) (pe_op op_add pe_int (pe_op op_mod (pv 4) pe_int))) pe_int) pe_int (nomark _)) (pw_or1 (pt_cmpR (op_eqD hr.units) (pe_tup (pa_cons (pe_op op_fdiv (pv 4) pe_int) (pa_cons (pe_op op_mod (pv 4) pe_int) pa_nil))) (pe_slice sl_tupA (pv 2) (po_some pe_int) po_none) (nomark _))))) (pss_one (ps_expr (pe_bm PySem.F.plainAttrs_list PySem.F.slot_list_append PySem.F.type_list_append mt_append (pv 3) (pa_cons (pe_tup (pa_cons (pe_op op_fdiv (pv 4) pe_int) (pa_cons (pe_op op_mod (pv 4) pe_int) pa_nil))) pa_nil)))) pss_nil)))
  (pss_one (ps_ret (pv 3)))))
theorem pr_law_pairs {P : Program} {w : World} {K : PySem.W.Frag} {mg : Str → Option Value} {base : Heap} {CN CB : Addr} (h : Wd K mg CN CB) : Pr P w K mg base CX0 2 "_law_pairs" ["_law_row_here", "_law_at_here", "_law_person_here"] (SP 3 R_law_pairs) := by
  obtain ⟨f, fd, F, g⟩ := h.d_law_pairs
  exact ⟨f, fd, okD F sc_law_pairs (t_law_pairs K CN CB) (der_law_pairs h) (sem_law_pairs (CN := CN) (CB := CB)), g, F.kp, F.bindsN fun _ _ _ _ _ _ us hl => match us, hl with | [_, _, _], _ => rfl⟩
theorem c_law_pairs {ρ : Ev} {ta : TA} {row : List Int} {n : Int} {p : Pe} (h : A ta ρ [.list (dI row), .int n, dPe p]) : E (tCall (SP 3 R_law_pairs) [] E0 ta) ρ (dPs (pairsL row n (p.a, p.z) 25)) := e_call h rfl ⟨_, _, _, rfl, rfl⟩
/-! ### noise -/
def nzAt (q : Int) (ps : List Q2) (own : Q2) (row : List Int) (n : Int) (k : Nat) : Pp :=
  (if ps.getD k (0, 0) = own then 0 else atR row (n + 3 * (0 + (k : Nat) : Int)) % q, atR row (n + 3 * (0 + (k : Nat) : Int) + 1) % q, atR row (n + 3 * (0 + (k : Nat) : Int) + 2) % q)
def noiseL (q : Int) (ps : List Q2) (own : Q2) (row : List Int) (n : Int) (k : Nat) : List Pp := (List.range k).map (nzAt q ps own row n)
theorem noiseL_succ (q : Int) (ps : List Q2) (own : Q2) (row : List Int) (n : Int) (k : Nat) : noiseL q ps own row n (k + 1) = noiseL q ps own row n k ++ [nzAt q ps own row n k] := by
  unfold noiseL
  rw [List.range_succ, List.map_append]
  rfl
theorem noiseL_len (q : Int) (ps : List Q2) (own : Q2) (row : List Int) (n : Int) (k : Nat) : (noiseL q ps own row n k).length = k := by simp [noiseL]
theorem noise_ok {q : Int} (hq : Bd q) {ps : List Q2} {own : Q2} {row : List Int} {n : Int} {k : Nat} : ∀ p ∈ noiseL q ps own row n k, okPP q p = true := by
  intro p hp
  unfold Bd at hq
  obtain ⟨i, hi, rfl⟩ := List.mem_map.mp hp
  have m : ∀ a : Int, inQ q (a % q) = true := fun a => inQ_iff.mpr ⟨Int.emod_nonneg _ (by omega), Int.emod_lt_of_pos _ (by omega)⟩
  refine okPP_iff.mpr ⟨?_, m _, m _⟩
  unfold nzAt
  simp only
  split
  · exact inQ_iff.mpr ⟨by omega, by omega⟩
  · exact m _
theorem noise_own {q : Int} {ps : List Q2} {own : Q2} {row : List Int} {n : Int} {k : Nat} (h : ps[k]? = some own) : ∃ n0 : Pp, (noiseL q ps own row n ps.length)[k]? = some n0 ∧ n0.1 = 0 := by
  have hk : k < ps.length := (List.getElem?_eq_some_iff.mp h).1
  refine ⟨nzAt q ps own row n k, at_map (by simp [hk]), ?_⟩
  unfold nzAt
  simp only
  rw [if_pos (getD_at h)]
def R_law_noise : List PyData → PyData → Prop := fun ds d => ∃ (q : Int) (ps : List Q2) (own : Q2) (row : List Int) (n : Int), ds = [.int q, dPs ps, dP own, .list (dI row), .int n] ∧ Bd q ∧ ps.length ≤ 25 ∧ d = dPaper (noiseL q ps own row n ps.length)
def t_law_noise (K : PySem.W.Frag) (CN CB : Addr) : TS := (tSeq (tAsg (tLst tNil) (gName 5))
  (tSeq (tFor (iRng1 (tCons (tCB (cLen K) (tCons (tVar 1) tNil)) tNil)) (gName 6) (tSeq (tAsg (tOp oMod (tCB cInt (tCons (tCall (SP 2 R_law_at) [] E0 (tCons (tVar 3) (tCons (tOp oAdd (tVar 4) (tOp oMul (tC (.int 3)) (tVar 6))) tNil))) tNil)) (tVar 0)) (gName 7))
  (tSeq (tIfS (tTest (tOp (rEqD K) (tOp (rIxL K) (tVar 1) (tVar 6)) (tVar 2))) (tAsg (tC (.int 0)) (gName 7)) tNext)
  (tDrop (tBM K "list" rAppend (tVar 5) (tCons (tTup (tCons (tVar 7) (tCons (tTup (tCons (tOp oMod (tCB cInt (tCons (tCall (SP 2 R_law_at) [] E0 (tCons (tVar 3) (tCons (tOp oAdd (tOp oAdd (tVar 4) (tOp oMul (tC (.int 3)) (tVar 6))) (tC (.int 1))) tNil))) tNil)) (tVar 0)) (tCons (tOp oMod (tCB cInt (tCons (tCall (SP 2 R_law_at) [] E0 (tCons (tVar 3) (tCons (tOp oAdd (tOp oAdd (tVar 4) (tOp oMul (tC (.int 3)) (tVar 6))) (tC (.int 2))) tNil))) tNil)) (tVar 0)) tNil))) tNil))) tNil))))))
  (tRet (tCB (cTuple K) (tCons (tVar 5) tNil)))))
theorem sem_law_noise {K : PySem.W.Frag} {CN CB : Addr} (ds : List PyData) (d : PyData) (h : R_law_noise ds d) : S W0 (t_law_noise K CN CB) (startR n_law_noise ds) none { nx := fun _ _ => d = .none, rt := fun d' => d' = d } := by
  obtain ⟨q, ps, own, row, n, rfl, hq, hl, rfl⟩ := h
  unfold Bd at hq
  show S W0 _ [some (.int q), some (dPs ps), some (dP own), some (.list (dI row)), some (.int n), none, none, none] none _
  refine s_seq (s_own (ds := []) a_nil (by simp) ?_ (by simp))
  refine s_seq (s_for (w_rng1 (n := ps.length) (a_cons (e_is (e_cb (a_cons (e_var rfl) a_nil) c_lenL) (by rw [List.length_map])) a_nil) ⟨by omega, by omega⟩) (fun i ρ ow => ∃ x6 x7, ρ = [some (.int q), some (dPs ps), some (dP own), some (.list (dI row)), some (.int n), none, x6, x7] ∧ ow = some (5, (noiseL q ps own row n i).map dPP)) ⟨none, none, rfl, rfl⟩ ?_ ?_)
  · rintro i d ρ1 w1 hd ⟨x6, x7, rfl, rfl⟩
    obtain ⟨hi, rfl⟩ := rngD_mem hd
    have hi' : i < ps.length := by omega
    obtain ⟨p, hp⟩ : ∃ p, ps[i]? = some p := ⟨ps[i], by simp [hi']⟩
    have ap : atI (ps.map dP) (0 + (i : Nat)) = some (dP p) := by
      rw [Int.zero_add]
      exact atI_nat (at_map hp)
    have len := noiseL_len q ps own row n i
    refine ⟨_, _, g_name, rfl, ?_⟩
    refine q_set (e_op (c_at (a_cons (e_var rfl) (a_cons (e_op (e_var rfl) (e_op e_int (e_var rfl) (o_mul (.inl (by decide)))) o_add) a_nil))) (e_var rfl) (o_mod (by omega))) rfl ?_
    refine q_if (b := decide (p = own)) (t_test (e_is (e_op (e_op (e_var rfl) (e_var rfl) (o_ixL ap)) (e_var rfl) (o_eqD (dP_shaped _) (dP_shaped _))) (by rw [dP_eqv]))) (fun hb => s_set (d := .int (nzAt q ps own row n i).1) (e_is e_int ?_) rfl ?_) (fun hb => s_next ?_)
    · unfold nzAt
      simp only
      rw [if_pos ((getD_at hp).trans (of_decide_eq_true hb))]
    · refine s_append (d := dPP (nzAt q ps own row n i)) (e_tup (a_cons (e_var rfl) (a_cons (e_tup (a_cons (e_op (c_at (a_cons (e_var rfl) (a_cons (e_op (e_op (e_var rfl) (e_op e_int (e_var rfl) (o_mul (.inl (by decide)))) o_add) e_int o_add) a_nil))) (e_var rfl) (o_mod (by omega))) (a_cons (e_op (c_at (a_cons (e_var rfl) (a_cons (e_op (e_op (e_var rfl) (e_op e_int (e_var rfl) (o_mul (.inl (by decide)))) o_add) e_int o_add) a_nil))) (e_var rfl) (o_mod (by omega))) a_nil)) (by simp)) a_nil)) (by simp)) ?_ ⟨_, _, rfl, ?_⟩
      · rw [List.length_map]
        omega
      · rw [noiseL_succ, List.map_append]
        rfl
    · have ne : ¬ ps.getD i (0, 0) = own := by
        rw [getD_at hp]
        exact of_decide_eq_false hb
      have e1 : (nzAt q ps own row n i).1 = atR row (n + 3 * (0 + (i : Nat) : Int)) % q := by
        unfold nzAt
        simp only
        rw [if_neg ne]
      refine s_append (d := dPP (nzAt q ps own row n i)) (e_tup (a_cons (e_is (e_var rfl) (by rw [e1])) (a_cons (e_tup (a_cons (e_op (c_at (a_cons (e_var rfl) (a_cons (e_op (e_op (e_var rfl) (e_op e_int (e_var rfl) (o_mul (.inl (by decide)))) o_add) e_int o_add) a_nil))) (e_var rfl) (o_mod (by omega))) (a_cons (e_op (c_at (a_cons (e_var rfl) (a_cons (e_op (e_op (e_var rfl) (e_op e_int (e_var rfl) (o_mul (.inl (by decide)))) o_add) e_int o_add) a_nil))) (e_var rfl) (o_mod (by omega))) a_nil)) (by simp)) a_nil)) (by simp)) ?_ ⟨_, _, rfl, ?_⟩
      · rw [List.length_map]
        omega
      · rw [noiseL_succ, List.map_append]
        rfl
  · rintro ρ' w' ⟨x6, x7, rfl, rfl⟩
    refine s_freeze (s_ret (e_cb (a_cons (e_var rfl) a_nil) c_tupL) ?_)
    show PyData.tuple _ = dPaper _
    rw [rngD_length, Int.toNat_natCast]
theorem der_law_noise {P : Program} {w : World} {K : PySem.W.Frag} {mg : Str → Option Value} {base : Heap} {CN CB : Addr} {f : Addr} (h : Wd K mg CN CB) (cdv : Value) (A : Around) (outer : List PySem.Env) (s : Shared) (H : Hp) (E : XK) (hr : Room 1 (A.deeper (envOfC "_law_noise" (defScope s_law_noise) s.heap.objs.size f cdv))) :
    PSs ((cxOf CX0 P w K mg base n_law_noise "_law_noise" (defScope s_law_noise) f cdv A outer s H E).nox) (defBody s_law_noise) (t_law_noise K CN CB) :=
  (pss_cons (ps_set (i := 5) sc_law_noise.nd rfl (by first | exact Or.inl rfl | exact Or.inr rfl) (pe_lst pa_nil))
  (pss_cons (ps_for PassesOwn.never rfl (pi_range1 (by rfl) h.f_range (pa_cons (pe_callB call_len_seq (by rfl) h.f_len bt_len (pa_cons (pv 1) pa_nil)) pa_nil)) (pg_name (i := 6) sc_law_noise.nd rfl (by first | exact Or.inl rfl | exact Or.inr rfl)) (pss_cons (ps_set (i := 7) sc_law_noise.nd rfl (by first | exact Or.inl rfl | exact Or.inr rfl) (pe_op op_mod (pe_callTy call_int1 (by rfl) h.f_int bt_int (pa_cons (pe_c (pr_law_at h) hr pass0 (pa_cons (pv 3) (pa_cons (pe_op op_add (pv 4) (pe_op op_mul pe_int (pv 6))) pa_nil))) pa_nil)) (pv 0)))
  (pss_cons (ps_if (pt_cmpR (op_eqD hr.units) (pe_ix ix_list (pv 1) (pv 6) (fun _ _ => rfl)) (pv 2) (nomark _)) (pss_one (ps_set (i := 7) sc_law_noise.nd rfl (by first | exact Or.inl rfl | exact Or.inr rfl) pe_int)) pss_nil)
  (pss_one (ps_expr (pe_bm PySem.F.plainAttrs_list PySem.F.slot_list_append PySem.F.type_list_append mt_append (pv 5) (pa_cons (pe_tup (pa_cons (pv 7) (pa_cons (pe_tup (pa_cons (pe_op op_mod (pe_callTy call_int1 (by rfl) h.f_int bt_int (pa_cons (pe_c (pr_law_at h) hr pass0 (pa_cons (pv 3) (pa_cons (pe_op op_add (pe_op op_add (pv 4) (pe_op op_mul pe_int (pv 6))) pe_int) pa_nil))) pa_nil)) (pv 0)) (pa_cons (pe_op op_mod (pe_callTy call_int1 (by rfl) h.f_int bt_int (pa_cons (pe_c (pr_law_at h) hr pass0 (pa_cons (pv 3) (pa_cons (pe_op op_add (pe_op op_add (pv 4) (pe_op op_mul pe_int (pv 6))) pe_int) pa_nil))) pa_nil)) (pv 0)) pa_nil))) pa_nil))) pa_nil)))))))
  (pss_one (ps_ret (pe_callTy call_tuple_of (by rfl) h.f_tuple bt_tuple (pa_cons (pv 5) pa_nil))))))
theorem pr_law_noise {P : Program} {w : World} {K : PySem.W.Frag} {mg : Str → Option Value} {base : Heap} {CN CB : Addr} (h : Wd K mg CN CB) : Pr P w K mg base CX0 2 "_law_noise" ["_law_q", "_law_pairs_here", "_law_own", "_law_row_here", "_law_at_here"] (SP 5 R_law_noise) := by
  obtain ⟨f, fd, F, g⟩ := h.d_law_noise
  exact ⟨f, fd, okD F sc_law_noise (t_law_noise K CN CB) (der_law_noise h) (sem_law_noise (CN := CN) (CB := CB)), g, F.kp, F.bindsN fun _ _ _ _ _ _ us hl => match us, hl with | [_, _, _, _, _], _ => rfl⟩
theorem c_law_noise {ρ : Ev} {ta : TA} {q : Int} {ps : List Q2} {own : Q2} {row : List Int} {n : Int} (h : A ta ρ [.int q, dPs ps, dP own, .list (dI row), .int n]) (hq : Bd q) (hl : ps.length ≤ 25) : E (tCall (SP 5 R_law_noise) [] E0 ta) ρ (dPaper (noiseL q ps own row n ps.length)) := e_call h rfl ⟨_, _, _, _, _, rfl, hq, hl, rfl⟩
/-! ### a session -/
def blOf (q : Int) (row : List Int) (n : Int) : Bl := ⟨1 + atR row (n + (0 + (0 : Nat))) % (q - 1), 1 + atR row (n + (0 + (1 : Nat))) % (q - 1), atR row (n + (0 + (2 : Nat))) % q, atR row (n + (0 + (4 : Nat))) % q, atR row (n + (0 + (5 : Nat))) % q, atR row (n + (0 + (6 : Nat))) % q, atR row (n + (0 + (7 : Nat))) % q⟩
def wOf (q : Int) (row : List Int) (n : Int) : Int := atR row (n + (0 + (3 : Nat))) % q
def rOf (s : Su) (x : Int) (p : Pe) (row : List Int) (n : Int) : Int := (wOf s.q row n + reqC s p (offer s x p (wOf s.q row n)) (blOf s.q row n) * x) % s.q
def tkOf (s : Su) (x : Int) (p : Pe) (row : List Int) (n : Int) : List Int := tick s p (offer s x p (wOf s.q row n)) (blOf s.q row n) (rOf s x p row n)
structure GoodL (s : Su) (x : Int) (p : Pe) (row : List Int) (n : Int) : Prop where
  x1 : 1 ≤ x
  x2 : x < s.q
  c : inQ s.q (reqC s p (offer s x p (wOf s.q row n)) (blOf s.q row n)) = true
  k : GoodK s (pw s.q s.b0 x) p (offer s x p (wOf s.q row n)) (blOf s.q row n) (rOf s x p row n)
def R_law_session : List PyData → PyData → Prop := fun ds d => ∃ (s : Su) (x : Int) (p : Pe) (row : List Int) (n : Int), ds = [dSu s, .int x, dPe p, .list (dI row), .int n] ∧ GoodL s x p row n ∧
  d = .tuple [.tuple (dI (tkOf s x p row n)), dBl (blOf s.q row n), .tuple [dPe p, dOf (offer s x p (wOf s.q row n)), .int (reqC s p (offer s x p (wOf s.q row n)) (blOf s.q row n)), .int (rOf s x p row n)]]
def t_law_session (K : PySem.W.Frag) (CN CB : Addr) : TS := (tSeq (tAsg (tOp (rIxT K) (tVar 0) (tC (.int 0))) (gName 5))
  (tSeq (tAsg (tLc (iRng1 (tCons (tC (.int 8)) tNil)) (gName 14) tYes (tCB cInt (tCons (tCall (SP 2 R_law_at) [] E0 (tCons (tVar 3) (tCons (tOp oAdd (tVar 4) (tVar 14)) tNil))) tNil)) [14]) (gName 6))
  (tSeq (tAsg (tCB (cTuple K) (tCons (tLc (iRng1 (tCons (tC (.int 4)) tNil)) (gName 14) tYes (tOp oMod (tOp (rIxL K) (tVar 6) (tOp oAdd (tC (.int 4)) (tVar 14))) (tVar 5)) [14]) tNil)) (gName 7))
  (tSeq (tAsg (tTup (tCons (tOp oAdd (tC (.int 1)) (tOp oMod (tOp (rIxL K) (tVar 6) (tC (.int 0))) (tOp oSub (tVar 5) (tC (.int 1))))) (tCons (tOp oAdd (tC (.int 1)) (tOp oMod (tOp (rIxL K) (tVar 6) (tC (.int 1))) (tOp oSub (tVar 5) (tC (.int 1))))) (tCons (tOp oMod (tOp (rIxL K) (tVar 6) (tC (.int 2))) (tVar 5)) (tCons (tVar 7) tNil))))) (gName 8))
  (tSeq (tAsg (tOp oMod (tOp (rIxL K) (tVar 6) (tC (.int 3))) (tVar 5)) (gName 9))
  (tSeq (tAsg (tCall (SP 4 R_offer_of) [] E0 (tCons (tVar 0) (tCons (tVar 1) (tCons (tVar 2) (tCons (tVar 9) tNil))))) (gName 10))
  (tSeq (tAsg (tCall (SP 4 R_request_of) [] E0 (tCons (tVar 0) (tCons (tVar 2) (tCons (tVar 10) (tCons (tVar 8) tNil))))) (gName 11))
  (tSeq (tAsg (tCall (SP 4 R_grant_of) [] E0 (tCons (tVar 0) (tCons (tVar 1) (tCons (tVar 9) (tCons (tVar 11) tNil))))) (gName 12))
  (tSeq (tAsg (tCall (SP 6 R_ticket_of) [] E0 (tCons (tVar 0) (tCons (tCall (SP 2 R_key_of) [] E0 (tCons (tVar 0) (tCons (tVar 1) tNil))) (tCons (tVar 2) (tCons (tVar 10) (tCons (tVar 8) (tCons (tVar 12) tNil))))))) (gName 13))
  (tRet (tTup (tCons (tVar 13) (tCons (tVar 8) (tCons (tTup (tCons (tVar 2) (tCons (tVar 10) (tCons (tVar 11) (tCons (tVar 12) tNil))))) tNil))))))))))))))
theorem sem_law_session {K : PySem.W.Frag} {CN CB : Addr} (ds : List PyData) (d : PyData) (h : R_law_session ds d) : S W0 (t_law_session K CN CB) (startR n_law_session ds) none { nx := fun _ _ => d = .none, rt := fun d' => d' = d } := by
  obtain ⟨s, x, p, row, n, rfl, ⟨x1, x2, hc, g⟩, rfl⟩ := h
  have hq := g.h.s.q
  have hq' := hq
  unfold Bd at hq'
  have hw : inQ s.q (wOf s.q row n) = true := inQ_iff.mpr ⟨Int.emod_nonneg _ (by omega), Int.emod_lt_of_pos _ (by omega)⟩
  show S W0 _ [some (dSu s), some (.int x), some (dPe p), some (.list (dI row)), some (.int n), none, none, none, none, none, none, none, none, none, none] none _
  refine q_set (e_op (e_var rfl) e_int (o_ixT rfl)) rfl ?_
  refine q_set (e_lcM (w_rng1 (n := 8) (a_cons e_int a_nil) (by decide)) (dI ((List.range 8).map fun i => atR row (n + (0 + (i : Nat))))) rfl (by decide) fun i d hd => ?_) rfl ?_
  · obtain ⟨hi, rfl⟩ := rngD_mem hd
    have hi' : i < 8 := hi
    exact ⟨_, _, _, g_name, fun j hj => hj, c_at (a_cons (e_var rfl) (a_cons (e_op (e_var rfl) (e_var rfl) o_add) a_nil)), at_map (at_map (by simp [hi']))⟩
  show S W0 _ [some (dSu s), some (.int x), some (dPe p), some (.list (dI row)), some (.int n), some (.int s.q), some (.list (dI [atR row (n + (0 + (0 : Nat))), atR row (n + (0 + (1 : Nat))), atR row (n + (0 + (2 : Nat))), atR row (n + (0 + (3 : Nat))), atR row (n + (0 + (4 : Nat))), atR row (n + (0 + (5 : Nat))), atR row (n + (0 + (6 : Nat))), atR row (n + (0 + (7 : Nat)))])), none, none, none, none, none, none, none, none] none _
  refine q_set (d := .tuple (dI [(blOf s.q row n).r1, (blOf s.q row n).r2, (blOf s.q row n).r3, (blOf s.q row n).r4])) (e_cb (a_cons (e_lcM (w_rng1 (n := 4) (a_cons e_int a_nil) (by decide)) (dI [(blOf s.q row n).r1, (blOf s.q row n).r2, (blOf s.q row n).r3, (blOf s.q row n).r4]) rfl (by decide) fun i d hd => ?_) a_nil) c_tupL) rfl ?_
  · obtain ⟨hi, rfl⟩ := rngD_mem hd
    have hi' : i < 4 := hi
    have h4 : i = 0 ∨ i = 1 ∨ i = 2 ∨ i = 3 := by omega
    rcases h4 with rfl | rfl | rfl | rfl <;> exact ⟨_, _, _, g_name, fun j hj => hj, e_op (e_op (e_var rfl) (e_op e_int (e_var rfl) o_add) (o_ixL rfl)) (e_var rfl) (o_mod (by omega)), rfl⟩
  refine q_set (d := dBl (blOf s.q row n)) (e_tup (a_cons (e_op e_int (e_op (e_op (e_var rfl) e_int (o_ixL rfl)) (e_op (e_var rfl) e_int o_sub) (o_mod (by omega))) o_add) (a_cons (e_op e_int (e_op (e_op (e_var rfl) e_int (o_ixL rfl)) (e_op (e_var rfl) e_int o_sub) (o_mod (by omega))) o_add) (a_cons (e_op (e_op (e_var rfl) e_int (o_ixL rfl)) (e_var rfl) (o_mod (by omega))) (a_cons (e_var rfl) a_nil)))) (by simp)) rfl ?_
  refine q_set (d := .int (wOf s.q row n)) (e_op (e_op (e_var rfl) e_int (o_ixL rfl)) (e_var rfl) (o_mod (by omega))) rfl ?_
  refine q_set (c_offer_of (a_cons (e_var rfl) (a_cons (e_var rfl) (a_cons (e_var rfl) (a_cons (e_var rfl) a_nil)))) g.h.s x1 x2 g.h.p g.h.m hw) rfl ?_
  refine q_set (c_request_of (a_cons (e_var rfl) (a_cons (e_var rfl) (a_cons (e_var rfl) (a_cons (e_var rfl) a_nil)))) g.h) rfl ?_
  refine q_set (d := .int (rOf s x p row n)) (c_grant_of (a_cons (e_var rfl) (a_cons (e_var rfl) (a_cons (e_var rfl) (a_cons (e_var rfl) a_nil)))) hq x1 x2 hw hc) rfl ?_
  refine q_set (c_ticket_of (key := pw s.q s.b0 x) (a_cons (e_var rfl) (a_cons (c_key_of (a_cons (e_var rfl) (a_cons (e_var rfl) a_nil)) g.h.s x1 x2) (a_cons (e_var rfl) (a_cons (e_var rfl) (a_cons (e_var rfl) (a_cons (e_var rfl) a_nil)))))) g) rfl ?_
  exact s_ret (e_tup (a_cons (e_var rfl) (a_cons (e_var rfl) (a_cons (e_tup (a_cons (e_var rfl) (a_cons (e_var rfl) (a_cons (e_var rfl) (a_cons (e_var rfl) a_nil)))) (by simp)) a_nil))) (by simp)) rfl
theorem der_law_session {P : Program} {w : World} {K : PySem.W.Frag} {mg : Str → Option Value} {base : Heap} {CN CB : Addr} {f : Addr} (h : Wd K mg CN CB) (cdv : Value) (A : Around) (outer : List PySem.Env) (s : Shared) (H : Hp) (E : XK) (hr : Room 9 (A.deeper (envOfC "_law_session" (defScope s_law_session) s.heap.objs.size f cdv))) :
    PSs ((cxOf CX0 P w K mg base n_law_session "_law_session" (defScope s_law_session) f cdv A outer s H E).nox) (defBody s_law_session) (t_law_session K CN CB) :=
  (pss_cons (ps_set (i := 5) sc_law_session.nd rfl (by first | exact Or.inl rfl | exact Or.inr rfl) (pe_ix ix_tup (pv 0) pe_int (fun _ _ => rfl)))
  (pss_cons (ps_set (i := 6) sc_law_session.nd rfl (by first | exact Or.inl rfl | exact Or.inr rfl) (pe_lc (own := [("_law_k", 14)]) rfl sc_law_session.nd (pi_range1 (by rfl) h.f_range (pa_cons pe_int pa_nil)) (blkOk_by (own := [("_law_k", 14)]) (N := n_law_session) (sc := defScope s_law_session) (by decide +kernel)) (fun _ _ _ _ _ => (pg_name (i := 14) sc_law_session.nd rfl (by first | exact Or.inl rfl | exact Or.inr rfl))) (fun _ _ _ _ _ => pts_nil) (fun _ _ _ _ _ => (pe_callTy call_int1 (by rfl) h.f_int bt_int (pa_cons (pe_c (pr_law_at h) (hr.mono (by decide)) pass0 (pa_cons (pv 3) (pa_cons (pe_op op_add (pv 4) (pv 14)) pa_nil))) pa_nil)))))
  (pss_cons (ps_set (i := 7) sc_law_session.nd rfl (by first | exact Or.inl rfl | exact Or.inr rfl) (pe_callTy call_tuple_of (by rfl) h.f_tuple bt_tuple (pa_cons (pe_lc (own := [("_law_k", 14)]) rfl sc_law_session.nd (pi_range1 (by rfl) h.f_range (pa_cons pe_int pa_nil)) (blkOk_by (own := [("_law_k", 14)]) (N := n_law_session) (sc := defScope s_law_session) (by decide +kernel)) (fun _ _ _ _ _ => (pg_name (i := 14) sc_law_session.nd rfl (by first | exact Or.inl rfl | exact Or.inr rfl))) (fun _ _ _ _ _ => pts_nil) (fun _ _ _ _ _ => (pe_op op_mod (pe_ix ix_list (pv 6) (pe_op op_add pe_int (pv 14)) (fun _ _ => rfl)) (pv 5)))) pa_nil)))
  (pss_cons (ps_set (i := 8) sc_law_session.nd rfl (by first | exact Or.inl rfl | exact Or.inr rfl) (pe_tup (pa_cons (pe_op op_add pe_int (pe_op op_mod (pe_ix ix_list (pv 6) pe_int (fun _ _ => rfl)) (pe_op op_sub (pv 5) pe_int))) (pa_cons (pe_op op_add pe_int (pe_op op_mod (pe_ix ix_list (pv 6) pe_int (fun _ _ => rfl)) (pe_op op_sub (pv 5) pe_int))) (pa_cons (pe_op op_mod (pe_ix ix_list (pv 6) pe_int (fun _ _ => rfl)) (pv 5)) (pa_cons (pv 7) pa_nil))))))
  (pss_cons (ps_set (i := 9) sc_law_session.nd rfl (by first | exact Or.inl rfl | exact Or.inr rfl) (pe_op op_mod (pe_ix ix_list (pv 6) pe_int (fun _ _ => rfl)) (pv 5)))
  (pss_cons (ps_set (i := 10) sc_law_session.nd rfl (by first | exact Or.inl rfl | exact Or.inr rfl) (pe_c (pr_offer_of h) (hr.mono (by decide)) pass0 (pa_cons (pv 0) (pa_cons (pv 1) (pa_cons (pv 2) (pa_cons (pv 9) pa_nil))))))
  (pss_cons (ps_set (i := 11) sc_law_session.nd rfl (by first | exact Or.inl rfl | exact Or.inr rfl) (pe_c (pr_request_of h) hr pass0 (pa_cons (pv 0) (pa_cons (pv 2) (pa_cons (pv 10) (pa_cons (pv 8) pa_nil))))))
  (pss_cons (ps_set (i := 12) sc_law_session.nd rfl (by first | exact Or.inl rfl | exact Or.inr rfl) (pe_c (pr_grant_of h) (hr.mono (by decide)) pass0 (pa_cons (pv 0) (pa_cons (pv 1) (pa_cons (pv 9) (pa_cons (pv 11) pa_nil))))))
  (pss_cons (ps_set (i := 13) sc_law_session.nd rfl (by first | exact Or.inl rfl | exact Or.inr rfl) (pe_c (pr_ticket_of h) hr pass0 (pa_cons (pv 0) (pa_cons (pe_c (pr_key_of h) (hr.mono (by decide)) pass0 (pa_cons (pv 0) (pa_cons (pv 1) pa_nil))) (pa_cons (pv 2) (pa_cons (pv 10) (pa_cons (pv 8) (pa_cons (pv 12) pa_nil))))))))
  (pss_one (ps_ret (pe_tup (pa_cons (pv 13) (pa_cons (pv 8) (pa_cons (pe_tup (pa_cons (pv 2) (pa_cons (pv 10) (pa_cons (pv 11) (pa_cons (pv 12) pa_nil))))) pa_nil)))))))))))))))
theorem pr_law_session {P : Program} {w : World} {K : PySem.W.Frag} {mg : Str → Option Value} {base : Heap} {CN CB : Addr} (h : Wd K mg CN CB) : Pr P w K mg base CX0 10 "_law_session" ["_law_setup_here", "_law_secret", "_law_person_here", "_law_row_here", "_law_at_here"] (SP 5 R_law_session) := by
  obtain ⟨f, fd, F, g⟩ := h.d_law_session
  exact ⟨f, fd, okD F sc_law_session (t_law_session K CN CB) (der_law_session h) (sem_law_session (CN := CN) (CB := CB)), g, F.kp, F.bindsN fun _ _ _ _ _ _ us hl => match us, hl with | [_, _, _, _, _], _ => rfl⟩
end Ck

/-! # Plain arithmetic: exponents -/
set_option autoImplicit false
set_option linter.all false
namespace Ck
theorem el_exp {q b : Int} (hq : Bd q) (hb : isEl q b = true) (n : Nat) : b ^ n % (2 * q + 1) = pw q b n := by
  have hq' := hq
  unfold Bd at hq'
  obtain ⟨k, hk⟩ : ∃ k, q = (k : Nat) := ⟨q.toNat, by omega⟩
  have e0 := isEl_pow hb
  subst hk
  rw [Int.toNat_natCast] at e0
  unfold pw rs
  rw [show ((n : Int) % (k : Int)).toNat = n % k by rw [← Int.natCast_emod, Int.toNat_natCast]]
  have h := Nat.div_add_mod n k
  have e1 : b ^ n = (b ^ k) ^ (n / k) * b ^ (n % k) := by
    rw [← Int.pow_mul, ← Int.pow_add, h]
  rw [e1, ← mul_mod_l, ← pow_mod, e0, one_pow', mul_mod_l, Int.one_mul]
theorem pw_congr {q b m n : Int} (h : m % q = n % q) : pw q b m = pw q b n := by
  unfold pw
  rw [h]
theorem pw_add {q a m n : Int} (hq : Bd q) (ha : isEl q a = true) : pw q a m * pw q a n % (2 * q + 1) = pw q a (m + n) := by
  have hq' := hq
  unfold Bd at hq'
  have h1 := Int.emod_nonneg m (show q ≠ 0 by omega)
  have h2 := Int.emod_nonneg n (show q ≠ 0 by omega)
  have e : pw q a m * pw q a n % (2 * q + 1) = a ^ ((m % q).toNat + (n % q).toNat) % (2 * q + 1) := by
    unfold pw rs
    rw [mul_mod_l, mul_mod_r, Int.pow_add]
  rw [e, el_exp hq ha]
  refine pw_congr ?_
  rw [show (((m % q).toNat + (n % q).toNat : Nat) : Int) = m % q + n % q by omega, ← Int.add_emod]
theorem pw_pw {q a m n : Int} (hq : Bd q) (ha : isEl q a = true) : pw q (pw q a m) n = pw q a (m * n) := by
  have hq' := hq
  unfold Bd at hq'
  have h1 := Int.emod_nonneg m (show q ≠ 0 by omega)
  have h2 := Int.emod_nonneg n (show q ≠ 0 by omega)
  have e : pw q (pw q a m) n = a ^ ((m % q).toNat * (n % q).toNat) % (2 * q + 1) := by
    unfold pw rs
    rw [pow_mod, Int.pow_mul]
  rw [e, el_exp hq ha]
  refine pw_congr ?_
  rw [Int.natCast_mul, show (((m % q).toNat : Nat) : Int) = m % q by omega, show (((n % q).toNat : Nat) : Int) = n % q by omega, ← Int.mul_emod]
theorem pw_mul {q a b n : Int} : pw q (a * b % (2 * q + 1)) n = pw q a n * pw q b n % (2 * q + 1) := by
  unfold pw rs
  rw [pow_mod, mul_pow', mul_mod_l, mul_mod_r]
theorem pw_self {q b e : Int} (hq : Bd q) : pw q b e % (2 * q + 1) = pw q b e := by
  unfold pw rs
  rw [Int.emod_emod]
theorem pops_one {q b e : Int} (hq : Bd q) : pops q [b] [e] = pw q b e := by
  show 1 * pw q b e % (2 * q + 1) = _
  rw [Int.one_mul, pw_self hq]
/-- the inverse trace -/
theorem inv_tr {q a c : Int} (hq : Bd q) (ha : isEl q a = true) : pw q (pw q a c) (-1) = pw q a (q - c) := by
  rw [pw_pw hq ha]
  refine pw_congr ?_
  rw [show c * -1 = (q - c) + q * (-1) by grind, Int.add_mul_emod_self_left]
end Ck

set_option Elab.async false
set_option linter.all false
set_option maxRecDepth 100000
set_option maxHeartbeats 1000000
set_option autoImplicit false
/-! # What the law asks of a showing -/
namespace Ck
open PySem PySem.Spec PyProof.Rows L2
local macro_rules | `(tactic| walk_at "ev1") => `(tactic| first
  | ((with_reducible apply e_var); exact rfl)
  | with_reducible exact e_int
  | with_reducible exact e_str
  | with_reducible exact e_bl
  | with_reducible exact e_non
  | with_reducible apply e_op
  | with_reducible exact o_add
  | with_reducible exact o_sub
  | with_reducible apply o_mul
  | with_reducible apply o_mod
  | with_reducible apply o_div
  | with_reducible exact o_lt
  | with_reducible exact o_le
  | with_reducible exact o_gt
  | with_reducible exact o_ge
  | with_reducible exact o_eqI
  | with_reducible exact o_neI
  | with_reducible exact o_eqS
  | with_reducible exact o_neS
  | ((with_reducible apply o_ixT); exact rfl)
  | ((with_reducible apply o_ixL); exact rfl)
  | with_reducible exact a_nil
  | with_reducible apply a_cons
  | with_reducible apply e_tup
  | with_reducible apply e_lst
  | with_reducible apply e_cb
  | with_reducible exact c_int
  | with_reducible exact c_intB
  | with_reducible exact c_abs
  | with_reducible exact c_ord
  | with_reducible exact c_lenL
  | with_reducible exact c_lenT
  | with_reducible exact c_listT
  | with_reducible exact c_tupL
  | with_reducible exact c_tupT
  | with_reducible exact c_all
  | with_reducible exact c_sum
  | with_reducible apply e_sl
  | with_reducible exact p_none
  | with_reducible apply p_some
  | with_reducible exact s_tup
  | with_reducible exact s_lst
  | ((with_reducible show CaD (cList _) _ _); first | exact c_listT | exact c_listL)
  | ((with_reducible show CaD (cTuple _) _ _); first | exact c_tupL | exact c_tupT)
  | with_reducible apply e_neg
  | with_reducible apply o_catL
  | with_reducible apply o_catT
  | with_reducible apply o_catS
  | with_reducible apply t_test
  | with_reducible apply t_b
  | with_reducible apply t_not)
local macro_rules | `(tactic| walk_at "ev") => `(tactic| repeat' walk_at "ev1")
local macro_rules | `(tactic| walk_at "side") => `(tactic| all_goals (try (first | rfl | omega)))
local macro_rules | `(tactic| walk_at "set") => `(tactic| (apply s_set; walk_at "ev"; walk_at "side"))
local macro_rules | `(tactic| walk_at "qset") => `(tactic| (apply q_set; walk_at "ev"; walk_at "side"))
local macro_rules | `(tactic| walk_at "ret") => `(tactic| (apply s_ret; walk_at "ev"; walk_at "side"))
local macro_rules | `(tactic| walk_at "ev1") => `(tactic| with_reducible apply c_coin)
local macro_rules | `(tactic| walk_at "ev1") => `(tactic| with_reducible apply c_challenge)
local macro_rules | `(tactic| walk_at "ev1") => `(tactic| with_reducible apply c_is_exponent2)
local macro_rules | `(tactic| walk_at "ev1") => `(tactic| with_reducible apply c_law_at)
theorem lp_fold {q : Int} (hq : Bd q) : ∀ (l : List (Int × Int)), (∀ x ∈ l, isEl q x.1 = true ∧ 0 ≤ x.2) → ∀ v : Int, l.foldl (fun v x => v * x.1 ^ x.2.toNat % (2 * q + 1)) v = l.foldl (fun v x => v * pw q x.1 x.2 % (2 * q + 1)) v
  | [], _, _ => rfl
  | x :: l, h, v => by
    have hx := h x List.mem_cons_self
    rw [List.foldl_cons, List.foldl_cons, lp_fold hq l (fun y hy => h y (List.mem_cons_of_mem _ hy)), ← mul_mod_r v (x.1 ^ x.2.toNat), el_exp hq hx.1, show ((x.2.toNat : Nat) : Int) = x.2 by omega]
theorem lp_eq {q : Int} (hq : Bd q) {bs es : List Int} (hb : ∀ b ∈ bs, isEl q b = true) (he : ∀ e ∈ es, 0 ≤ e) : lp (2 * q + 1) bs es = pops q bs es := by
  unfold lp pops
  exact lp_fold hq (bs.zip es) (fun x hx => ⟨hb _ (List.of_mem_zip hx).1, he _ (List.of_mem_zip hx).2⟩) 1
theorem c_session {ρ : Ev} {ta : TA} {s : Su} {x : Int} {p : Pe} {row : List Int} {n : Int} (h : A ta ρ [dSu s, .int x, dPe p, .list (dI row), .int n]) (g : GoodL s x p row n) : E (tCall (SP 5 R_law_session) [] E0 ta) ρ (.tuple [.tuple (dI (tkOf s x p row n)), dBl (blOf s.q row n), .tuple [dPe p, dOf (offer s x p (wOf s.q row n)), .int (reqC s p (offer s x p (wOf s.q row n)) (blOf s.q row n)), .int (rOf s x p row n)]]) :=
  e_call h rfl ⟨_, _, _, _, _, rfl, g, rfl⟩
/-! ### the squares are the elements -/
def sqL (q : Int) : List Int := (List.range q.toNat).map fun i => (1 + (i : Nat) : Int) * (1 + (i : Nat) : Int) % (2 * q + 1)
def sqChk (q : Int) : Bool := (List.range (2 * q + 1).toNat).all fun v => (sqL q).contains (v : Int) == isEl q (v : Int)
theorem sq_chk : ∀ q ∈ qs, sqChk q = true := by
  intro q hq
  simp only [qs, List.mem_cons, List.not_mem_nil, or_false] at hq
  rcases hq with rfl | rfl | rfl | rfl | rfl | rfl | rfl | rfl <;> decide +kernel
theorem sq_el {q : Int} (hq : q ∈ qs) (v : Int) : decide (v ∈ sqL q) = isEl q v := by
  have hb := (qs_ok q hq).1
  unfold Bd at hb
  by_cases hr : 0 ≤ v ∧ v < 2 * q + 1
  · have h := List.all_eq_true.mp (sq_chk q hq) v.toNat (List.mem_range.mpr (by omega))
    rw [show ((v.toNat : Nat) : Int) = v by omega, beq_iff_eq] at h
    rw [← h]
    by_cases hm : v ∈ sqL q
    · rw [decide_eq_true hm, List.contains_iff_mem.mpr hm]
    · rw [decide_eq_false hm]
      cases hc : (sqL q).contains v with
      | false => rfl
      | true => exact absurd (List.contains_iff_mem.mp hc) hm
  · have h1 : isEl q v = false := by
      cases he : isEl q v with
      | false => rfl
      | true =>
        have := isEl_range he
        omega
    rw [h1]
    refine decide_eq_false fun hm => ?_
    obtain ⟨i, _, rfl⟩ := List.mem_map.mp hm
    exact hr ⟨Int.emod_nonneg _ (by omega), Int.emod_lt_of_pos _ (by omega)⟩
def insideB (q : Int) (t : Tk) (y : Sn) : Bool := ((t5 t).all (isEl q) && !(decide (t.n0 = 1) || !inQ q t.n5)) && ((s4 y).all (inQ q) && inQ q y.d)
def R_law_inside : List PyData → PyData → Prop := fun ds r => ∃ (q : Int) (t : Tk) (y : Sn) (pp : List Pp), ds = [.int q, .int (2 * q + 1), dTk t, dSn y, dPaper pp] ∧ q ∈ qs ∧ (∀ p ∈ pp, okPP q p = true) ∧ r = .bool (insideB q t y)
def t_law_inside (K : PySem.W.Frag) (CN CB : Addr) : TS := (tSeq (tAsg (tLc (iRng2 (tCons (tC (.int 1)) (tCons (tOp oAdd (tVar 0) (tC (.int 1))) tNil))) (gName 8) tYes (tOp oMod (tCB cInt (tCons (tOp oMul (tVar 8) (tVar 8)) tNil)) (tVar 1)) [8]) (gName 5))
  (tSeq (tIfS (tOr (tNot (tB (tCB (rAll K) (tCons (tLc (iTup K (tSl (rSlA K) (tVar 2) tNoPart (tPart (tC (.int 5))))) (gName 9) tYes (tOp (rIn K false) (tVar 9) (tVar 5)) [9]) tNil)))) (tOr (tTest (tOp rEq (tOp (rIxT K) (tVar 2) (tC (.int 0))) (tC (.int 1)))) (tNot (tTest (tChain oLe oLt (tC (.int 0)) (tOp (rIxT K) (tVar 2) (tC (.int 5))) (tVar 0)))))) (tRet (tC (.bl false))) tNext)
  (tSeq (tIfS (tOr (tNot (tB (tCB (rAll K) (tCons (tLc (iTup K (tOp (rIxT K) (tVar 3) (tC (.int 1)))) (gName 9) tYes (tChain oLe oLt (tC (.int 0)) (tVar 9) (tVar 0)) [9]) tNil)))) (tNot (tTest (tChain oLe oLt (tC (.int 0)) (tOp (rIxT K) (tVar 3) (tC (.int 0))) (tVar 0))))) (tRet (tC (.bl false))) tNext)
  (tSeq (tFor (iTup K (tVar 4)) (gTup K 2 (gCons (gName 6) (gCons (gName 7) gNil))) (tIfS (tOr (tNot (tTest (tChain oLe oLt (tC (.int 0)) (tVar 6) (tVar 0)))) (tNot (tB (tCB (rAll K) (tCons (tLc (iTup K (tVar 7)) (gName 9) tYes (tChain oLe oLt (tC (.int 0)) (tVar 9) (tVar 0)) [9]) tNil))))) (tRet (tC (.bl false))) tNext))
  (tRet (tC (.bl true)))))))
theorem sem_law_inside {K : PySem.W.Frag} {CN CB : Addr} (ds : List PyData) (d : PyData) (h : R_law_inside ds d) : S W0 (t_law_inside K CN CB) (startR n_law_inside ds) none { nx := fun _ _ => d = .none, rt := fun d' => d' = d } := by
  obtain ⟨q, t, y, pp, rfl, hq, hp, rfl⟩ := h
  have hb := (qs_ok q hq).1
  unfold Bd at hb
  show S W0 _ [some (.int q), some (.int (2 * q + 1)), some (dTk t), some (dSn y), some (dPaper pp), none, none, none, none, none] none _
  refine q_set (d := .list (dI (sqL q))) (e_lcM (w_rng2 (lo := 1) (n := q + 1) (a_cons e_int (a_cons (e_op (e_var rfl) e_int o_add) a_nil)) ⟨by omega, by omega, by omega, by omega⟩) (dI (sqL q)) (by rw [dI_len, rngD_length]; simp [sqL]) (by rw [rngD_length]; omega) fun i d hd => ?_) rfl ?_
  · obtain ⟨hi, rfl⟩ := rngD_mem hd
    have hi' : i < q.toNat := by omega
    exact ⟨_, _, _, g_name, fun j hj => hj, e_op (e_cb (a_cons (e_op (e_var rfl) (e_var rfl) (o_mul (.inl (by omega)))) a_nil) c_int) (e_var rfl) (o_mod (by omega)), at_map (l := sqL q) (at_map (by simp [hi']))⟩
  have e5 : (t5 t).all (fun v => decide (v ∈ sqL q)) = (t5 t).all (isEl q) := by
    congr 1
    funext v
    exact sq_el hq v
  refine q_when (b := !(t5 t).all (isEl q) || !!(decide (t.n0 = 1) || !inQ q t.n5)) (t_is (t_or (t_not (t_b (e_testAll (q := q) (vs := t5 t) (fun v => decide (v ∈ sqL q)) (w_tup (e_sl (e_var rfl) p_none (p_some e_int) s_tup)) (by simp [t5]) fun v _ => e_op (e_var rfl) (e_var rfl) o_inL))) fun _ => t_or (t_test (e_op (e_op (e_var rfl) e_int (o_ixT rfl)) e_int o_eqI)) fun _ => t_not (t_test (e_chain e_int (e_op (e_var rfl) e_int (o_ixT rfl)) o_le (fun _ => e_var rfl) (fun _ => o_lt)))) (by rw [e5, Bool.not_not]; rfl)) (fun hb => s_ret e_bl ?_) fun hb => ?_
  · show PyData.bool false = .bool (insideB q t y)
    unfold insideB
    rw [nand_t hb]
  obtain ⟨k0, k1⟩ := nand_f hb
  refine q_when (b := !(s4 y).all (inQ q) || !inQ q y.d) (t_or (t_not (t_b (e_testAll (q := q) (vs := s4 y) (inQ q) (w_tup (e_op (e_var rfl) e_int (o_ixT rfl))) (by simp [s4]) fun v _ => e_chain e_int (e_var rfl) o_le (fun _ => e_var rfl) (fun _ => o_lt)))) fun _ => t_not (t_test (e_chain e_int (e_op (e_var rfl) e_int (o_ixT rfl)) o_le (fun _ => e_var rfl) (fun _ => o_lt)))) (fun hb => s_ret e_bl ?_) fun hb => ?_
  · show PyData.bool false = .bool (insideB q t y)
    unfold insideB
    have : ((s4 y).all (inQ q) && inQ q y.d) = false := by
      cases h1 : (s4 y).all (inQ q) <;> cases h2 : inQ q y.d <;> simp_all
    rw [this, Bool.and_false]
  obtain ⟨k2, k3⟩ := nand_f hb
  refine s_seq (s_for (w_tup (e_var rfl)) (fun i ρ ow => ow = none ∧ ∃ x6 x7, ρ = [some (.int q), some (.int (2 * q + 1)), some (dTk t), some (dSn y), some (dPaper pp), some (.list (dI (sqL q))), x6, x7, none, none]) ⟨rfl, none, none, rfl⟩ ?_ ?_)
  · rintro i d ρ1 w1 hd ⟨rfl, x6, x7, rfl⟩
    obtain ⟨p, h1, rfl⟩ := map_at hd
    have ok := okPP_iff.mp (hp p (List.mem_of_getElem? h1))
    refine ⟨_, _, g_tup (g_cons (g_cons g_nil)) rfl, rfl, ?_⟩
    refine s_pass (t_orF (t_noT (e_is (e_chain e_int (e_var rfl) o_le (fun _ => e_var rfl) (fun _ => o_lt)) ?_)) (t_no (e_is (e_testAll (q := q) (vs := [p.2.1, p.2.2]) (inQ q) (w_tup (e_var rfl)) (by simp) fun v _ => e_chain e_int (e_var rfl) o_le (fun _ => e_var rfl) (fun _ => o_lt)) (by simp [ok.2.1, ok.2.2])))) ⟨rfl, _, _, rfl⟩
    show PyData.bool (inQ q p.1) = _
    rw [ok.1]
  · rintro ρ' w' ⟨rfl, x6, x7, rfl⟩
    refine s_ret e_bl ?_
    show PyData.bool true = .bool (insideB q t y)
    unfold insideB
    rw [k0, k1, k2, k3]
    rfl
theorem der_law_inside {P : Program} {w : World} {K : PySem.W.Frag} {mg : Str → Option Value} {base : Heap} {CN CB : Addr} {f : Addr} (h : Wd K mg CN CB) (cdv : Value) (A : Around) (outer : List PySem.Env) (s : Shared) (H : Hp) (E : XK) (hr : Room 0 (A.deeper (envOfC "_law_inside" (defScope s_law_inside) s.heap.objs.size f cdv))) :
    PSs ((cxOf CX0 P w K mg base n_law_inside "_law_inside" (defScope s_law_inside) f cdv A outer s H E).nox) (defBody s_law_inside) (t_law_inside K CN CB) :=
  (pss_cons (ps_set (i := 5) sc_law_inside.nd rfl (by first | exact Or.inl rfl | exact Or.inr rfl) (pe_lc (own := [("_law_x", 8)]) rfl sc_law_inside.nd (pi_range2 (by rfl) h.f_range (pa_cons pe_int (pa_cons (pe_op op_add (pv 0) pe_int) pa_nil))) (blkOk_by (own := [("_law_x", 8)]) (N := n_law_inside) (sc := defScope s_law_inside) (by decide +kernel)) (fun _ _ _ _ _ => (pg_name (i := 8) sc_law_inside.nd rfl (by first | exact Or.inl rfl | exact Or.inr rfl))) (fun _ _ _ _ _ => pts_nil) (fun _ _ _ _ _ => (pe_op op_mod (pe_callTy call_int1 (by rfl) h.f_int bt_int (pa_cons (pe_op op_mul (pv 8) (pv 8)) pa_nil)) (pv 1)))))
  (pss_cons (ps_if (PW.pt (pw_or (pt_not (pt_val (pe_callB (cr_all rfl) (by rfl) h.f_all bt_all (pa_cons (pe_lc (own := [("_law_value", 9)]) rfl sc_law_inside.nd (pi_tup (pe_slice sl_tupA (pv 2) po_none (po_some pe_int))) (blkOk_by (own := [("_law_value", 9)]) (N := n_law_inside) (sc := defScope s_law_inside) (by decide +kernel)) (fun _ _ _ _ _ => (pg_name (i := 9) sc_law_inside.nd rfl (by first | exact Or.inl rfl | exact Or.inr rfl))) (fun _ _ _ _ _ => pts_nil) (fun _ _ _ _ _ => (pe_cmpR op_in_seq (pv 9) (pv 5) (by rfl)))) pa_nil)))) (pw_or (pt_cmpR op_eq (pe_ix ix_tup (pv 2) pe_int (fun _ _ => rfl)) pe_int (nomark _)) (pw_or1 (pt_not (pt_chain op_le op_lt pe_int (pe_ix ix_tup (pv 2) pe_int (fun _ _ => rfl)) (pv 0))))))) (pss_one (ps_ret pe_bl)) pss_nil)
  (pss_cons (ps_if (PW.pt (pw_or (pt_not (pt_val (pe_callB (cr_all rfl) (by rfl) h.f_all bt_all (pa_cons (pe_lc (own := [("_law_value", 9)]) rfl sc_law_inside.nd (pi_tup (pe_ix ix_tup (pv 3) pe_int (fun _ _ => rfl))) (blkOk_by (own := [("_law_value", 9)]) (N := n_law_inside) (sc := defScope s_law_inside) (by decide +kernel)) (fun _ _ _ _ _ => (pg_name (i := 9) sc_law_inside.nd rfl (by first | exact Or.inl rfl | exact Or.inr rfl))) (fun _ _ _ _ _ => pts_nil) (fun _ _ _ _ _ => (pe_chain op_le op_lt pe_int (pv 9) (pv 0)))) pa_nil)))) (pw_or1 (pt_not (pt_chain op_le op_lt pe_int (pe_ix ix_tup (pv 3) pe_int (fun _ _ => rfl)) (pv 0)))))) (pss_one (ps_ret pe_bl)) pss_nil)
  (pss_cons (ps_for PassesOwn.never rfl (pi_tup (pv 4)) (pg_tup rfl (pgs_cons (pg_name (i := 6) sc_law_inside.nd rfl (by first | exact Or.inl rfl | exact Or.inr rfl)) (pgs_cons (pg_name (i := 7) sc_law_inside.nd rfl (by first | exact Or.inl rfl | exact Or.inr rfl)) pgs_nil))) (pss_one (ps_if (PW.pt (pw_or (pt_not (pt_chain op_le op_lt pe_int (pv 6) (pv 0))) (pw_or1 (pt_not (pt_val (pe_callB (cr_all rfl) (by rfl) h.f_all bt_all (pa_cons (pe_lc (own := [("_law_value", 9)]) rfl sc_law_inside.nd (pi_tup (pv 7)) (blkOk_by (own := [("_law_value", 9)]) (N := n_law_inside) (sc := defScope s_law_inside) (by decide +kernel)) (fun _ _ _ _ _ => (pg_name (i := 9) sc_law_inside.nd rfl (by first | exact Or.inl rfl | exact Or.inr rfl))) (fun _ _ _ _ _ => pts_nil) (fun _ _ _ _ _ => (pe_chain op_le op_lt pe_int (pv 9) (pv 0)))) pa_nil))))))) (pss_one (ps_ret pe_bl)) pss_nil)))
  (pss_one (ps_ret pe_bl))))))
theorem pr_law_inside {P : Program} {w : World} {K : PySem.W.Frag} {mg : Str → Option Value} {base : Heap} {CN CB : Addr} (h : Wd K mg CN CB) : Pr P w K mg base CX0 1 "_law_inside" ["_law_q", "_law_p", "_law_ticket", "_law_spend", "_law_paper_here"] (SP 5 R_law_inside) := by
  obtain ⟨f, fd, F, g⟩ := h.d_law_inside
  exact ⟨f, fd, okD F sc_law_inside (t_law_inside K CN CB) (der_law_inside h) (sem_law_inside (CN := CN) (CB := CB)), g, F.kp, F.bindsN fun _ _ _ _ _ _ us hl => match us, hl with | [_, _, _, _, _], _ => rfl⟩
theorem c_law_inside {ρ : Ev} {ta : TA} {q : Int} {t : Tk} {y : Sn} {pp : List Pp} (h : A ta ρ [.int q, .int (2 * q + 1), dTk t, dSn y, dPaper pp]) (hq : q ∈ qs) (hp : ∀ p ∈ pp, okPP q p = true) : E (tCall (SP 5 R_law_inside) [] E0 ta) ρ (.bool (insideB q t y)) := e_call h rfl ⟨_, _, _, _, rfl, hq, hp, rfl⟩
/-- [m, len(pairs)] + [5 * pair[0] + pair[1] for pair in pairs]: the context in slot j, the pairs in slot k, the block's name in slot m -/
theorem e_stage {K : PySem.W.Frag} {ρ : Ev} {j k m : Nat} {x : Ct} {ps : List Q2} (h1 : ρ[j]? = some (some (dCt x))) (h2 : ρ[k]? = some (some (dPs ps))) (hm : m < ρ.length) (hl : ps.length ≤ 25) :
    E (tOp rCat (tLst (tCons (tOp (rIxT K) (tVar j) (tC (.int 1))) (tCons (tCB (cLen K) (tCons (tVar k) tNil)) tNil))) (tLc (iList K (tVar k)) (gName m) tYes (tOp oAdd (tOp oMul (tC (.int 5)) (tOp (rIxT K) (tVar m) (tC (.int 0)))) (tOp (rIxT K) (tVar m) (tC (.int 1)))) [m])) ρ (.list (dI (stg x ps))) := by
  refine e_is (e_op (e_lst (a_cons (e_op (e_var h1) e_int (o_ixT rfl)) (a_cons (e_is (e_cb (a_cons (e_var h2) a_nil) c_lenL) (by rw [List.length_map])) a_nil)) (by simp)) (e_lcM (w_list (e_var h2)) (dI (ps.map ix)) (by simp [dI]) (by rw [List.length_map]; omega) fun i d hd => ?_) (o_catL (sz_ok ?_))) ?_
  · obtain ⟨p, hp, rfl⟩ := map_at hd
    have e : ((ρ.set m none).set m (some (dP p)))[m]? = some (some (dP p)) := List.getElem?_set_self (by simpa using hm)
    exact ⟨_, _, _, g_name, fun j hj => hj, e_op (e_op e_int (e_op (e_var e) e_int (o_ixT rfl)) (o_mul (.inl (by decide)))) (e_op (e_var e) e_int (o_ixT rfl)) o_add, at_map (at_map hp)⟩
  · rw [dI_len, List.length_map]
    simp only [List.length_cons, List.length_nil]
    omega
  · unfold stg
    rw [dI_app]
    rfl
/-! ### the paper -/
theorem sumO_all (ps : List Pp) : sumO ps (-1) = (ps.map (·.1)).sum := by
  unfold sumO
  have h : ∀ i, i ≤ ps.length → othC ps (-1) i = (ps.map (·.1)).take i := by
    intro i
    induction i with
    | zero => intro _; rfl
    | succ i ih =>
      intro hi
      obtain ⟨p, hp⟩ : ∃ p, ps[i]? = some p := ⟨ps[i], by simp⟩
      rw [othC_yes (by rw [decide_eq_false (by omega)]; rfl), ih (by omega), List.take_add_one, at_map (f := (·.1)) hp, getD_at hp]
      rfl
  rw [h ps.length (Nat.le_refl _), List.take_of_length_le (by rw [List.length_map]; exact Nat.le_refl _)]
structure GoodN (s : Su) (x : Ct) (ps : List Q2) (t : Tk) (y : Sn) (pp : List Pp) : Prop where
  gs : GoodS s
  gx : GoodX x
  gq : GoodPs ps
  sm : SmallT t y
  e0 : isEl s.q t.n0 = true
  l : ps.length = pp.length
  z : ∀ p ∈ pp, okPP s.q p = true
def R_law_paper : List PyData → PyData → Prop := fun ds r => ∃ (s : Su) (x : Ct) (ps : List Q2) (t : Tk) (y : Sn) (pp : List Pp), ds = [dSu s, .int (2 * s.q + 1), dCt x, dPs ps, dTk t, dSn y, dPaper pp] ∧ GoodN s x ps t y pp ∧ r = .bool (rightP s.q (ptx x ps t y) t.n0 s.b2 (ps.map (cb s)) pp)
def t_law_paper (K : PySem.W.Frag) (CN CB : Addr) : TS := (tSeq (tAsg (tOp (rIxT K) (tVar 0) (tC (.int 0))) (gName 7))
  (tSeq (tAsg (tOp rCat (tLst (tCons (tOp (rIxT K) (tVar 2) (tC (.int 1))) (tCons (tCB (cLen K) (tCons (tVar 3) tNil)) tNil))) (tLc (iList K (tVar 3)) (gName 18) tYes (tOp oAdd (tOp oMul (tC (.int 5)) (tOp (rIxT K) (tVar 18) (tC (.int 0)))) (tOp (rIxT K) (tVar 18) (tC (.int 1)))) [18])) (gName 8))
  (tSeq (tAsg (tCall (SP 2 R_law_joined) [] E0 (tCons (tOp oCatS (tC (.str "paper ")) (tOp (rIxT K) (tVar 2) (tC (.int 0)))) (tCons (tOp rCat (tOp rCat (tOp rCat (tVar 8) (tCB (cList K) (tCons (tVar 4) tNil))) (tLst (tCons (tOp (rIxT K) (tVar 5) (tC (.int 0))) tNil))) (tCB (cList K) (tCons (tOp (rIxT K) (tVar 5) (tC (.int 1))) tNil))) tNil))) (gName 9))
  (tSeq (tAsg (tLst (tCons (tCB (cLen K) (tCons (tVar 3) tNil)) tNil)) (gName 10))
  (tSeq (tAsg (tLst tNil) (gName 11))
  (tSeq (tFor (iRng1 (tCons (tCB (cLen K) (tCons (tVar 3) tNil)) tNil)) (gName 12) (tSeq (tAsg (tCall (SP 3 R_law_powers) [] E0 (tCons (tVar 1) (tCons (tLst (tCons (tOp (rIxT K) (tOp (rIxT K) (tVar 0) (tC (.int 1))) (tC (.int 1))) (tCons (tOp (rIxT K) (tOp (rIxT K) (tVar 0) (tC (.int 1))) (tC (.int 3))) (tCons (tOp (rIxT K) (tOp (rIxT K) (tVar 0) (tC (.int 1))) (tC (.int 4))) tNil)))) (tCons (tLst (tCons (tC (.int 1)) (tCons (tOp (rIxT K) (tOp (rIxL K) (tVar 3) (tVar 12)) (tC (.int 0))) (tCons (tOp (rIxT K) (tOp (rIxL K) (tVar 3) (tVar 12)) (tC (.int 1))) tNil)))) tNil)))) (gName 13))
  (tSeq (tAsg (tOp rCat (tVar 10) (tLst (tCons (tC (.int 2)) (tCons (tC (.int 1)) (tCons (tOp (rIxT K) (tVar 4) (tC (.int 0))) (tCons (tVar 13) (tCons (tOp (rIxT K) (tOp (rIxT K) (tVar 0) (tC (.int 1))) (tC (.int 2))) tNil))))))) (gName 10))
  (tSeq (tAsg (tOp (rIxT K) (tVar 6) (tVar 12)) (gTup K 2 (gCons (gName 14) (gCons (gName 15) gNil))))
  (tSeq (tAsg (tCall (SP 3 R_law_powers) [] E0 (tCons (tVar 1) (tCons (tLst (tCons (tVar 13) (tCons (tOp (rIxT K) (tOp (rIxT K) (tVar 0) (tC (.int 1))) (tC (.int 2))) tNil))) (tCons (tVar 15) tNil)))) (gName 16))
  (tDrop (tBM K "list" rAppend (tVar 11) (tCons (tOp oMod (tCB cInt (tCons (tOp oMul (tVar 16) (tCall (SP 3 R_law_powers) [] E0 (tCons (tVar 1) (tCons (tLst (tCons (tOp (rIxT K) (tVar 4) (tC (.int 0))) tNil)) (tCons (tLst (tCons (tOp oSub (tVar 7) (tVar 14)) tNil)) tNil))))) tNil)) (tVar 1)) tNil))))))))
  (tSeq (tAsg (tCall (SP 2 R_law_challenge) [] E0 (tCons (tVar 7) (tCons (tCall (SP 2 R_law_joined) [] E0 (tCons (tOp oCatS (tC (.str "paper ")) (tVar 9)) (tCons (tOp rCat (tVar 10) (tVar 11)) tNil))) tNil))) (gName 17))
  (tRet (tOp rEq (tOp oMod (tCB cInt (tCons (tOp oSub (tCB (rSum K) (tCons (tLc (iTup K (tVar 6)) (gName 18) tYes (tOp (rIxT K) (tVar 18) (tC (.int 0))) [18]) tNil)) (tVar 17)) tNil)) (tVar 7)) (tC (.int 0)))))))))))
def numsL (s : Su) (t : Tk) (ps : List Q2) (i : Nat) : List Int := (ps.length : Int) :: ((ps.map (cb s)).take i).flatMap (clN t.n0 s.b2)
def seenL (s : Su) (t : Tk) (ps : List Q2) (pp : List Pp) (i : Nat) : List Int := (((ps.map (cb s)).zip pp).take i).map fun x => tr s.q t.n0 x.1 s.b2 x.2.1 x.2.2.1 x.2.2.2
theorem seen_len (s : Su) (t : Tk) (ps : List Q2) (pp : List Pp) (i : Nat) : (seenL s t ps pp i).length ≤ i := by
  unfold seenL
  rw [List.length_map, List.length_take]
  omega
theorem sem_law_paper {K : PySem.W.Frag} {CN CB : Addr} (ds : List PyData) (d : PyData) (h : R_law_paper ds d) : S W0 (t_law_paper K CN CB) (startR n_law_paper ds) none { nx := fun _ _ => d = .none, rt := fun d' => d' = d } := by
  obtain ⟨s, x, ps, t, y, pp, rfl, ⟨gs, gx, gq, sm, e0, hl, hz⟩, rfl⟩ := h
  have hq := gs.q
  have hq' := hq
  unfold Bd at hq'
  have hl25 := gq.l
  have hg := gx.g.2.1
  have o6 : (PySem.Str.ofString "paper ").length = 6 := by decide
  have hls : (stg x ps).length ≤ 27 := by rw [stg_len]; omega
  show S W0 _ [some (dSu s), some (.int (2 * s.q + 1)), some (dCt x), some (dPs ps), some (dTk t), some (dSn y), some (dPaper pp), none, none, none, none, none, none, none, none, none, none, none, none] none _
  refine q_set (e_op (e_var rfl) e_int (o_ixT rfl)) rfl ?_
  refine q_set (e_stage (x := x) (ps := ps) rfl rfl (by simp) hl25) rfl ?_
  refine q_set (d := .str (ptx x ps t y)) (c_law_joined (w := "paper " ++ x.g) (ns := ptN x ps t y) (a_cons (e_op e_str (e_op (e_var rfl) e_int (o_ixT rfl)) (o_catS (sz_ok (by rw [o6]; omega)))) (a_cons (e_is (e_op (e_op (e_op (e_var rfl) (e_cb (a_cons (e_var rfl) a_nil) c_listT) (o_catL (sz_ok ?_))) (e_lst (a_cons (e_op (e_var rfl) e_int (o_ixT rfl)) a_nil) (by simp)) (o_catL (sz_ok ?_))) (e_cb (a_cons (e_op (e_var rfl) e_int (o_ixT rfl)) a_nil) c_listT) (o_catL (sz_ok ?_))) ?_) a_nil)) ?_ ?_ (ptN_small gx gq sm)) rfl ?_
  · rw [dI_len, dI_len]
    simp only [List.length_cons, List.length_nil]
    omega
  · rw [List.length_append, dI_len, dI_len]
    simp only [List.length_cons, List.length_nil]
    omega
  · rw [List.length_append, List.length_append, dI_len, dI_len, dI_len]
    simp only [List.length_cons, List.length_nil]
    omega
  · unfold ptN
    rw [dI_app, dI_app, dI_app]
    rfl
  · rw [pre_len, o6]
    omega
  · rw [ptN_len]
    omega
  refine q_set (d := .list (dI (numsL s t ps 0))) (e_lst (a_cons (e_is (e_cb (a_cons (e_var rfl) a_nil) c_lenL) (by rw [List.length_map])) a_nil) (by simp [dI, numsL])) rfl ?_
  refine s_seq (s_own (ds := []) a_nil (by simp) ?_ (by simp))
  refine s_seq (s_for (w_rng1 (n := ps.length) (a_cons (e_is (e_cb (a_cons (e_var rfl) a_nil) c_lenL) (by rw [List.length_map])) a_nil) ⟨by omega, by omega⟩) (fun i ρ ow => ∃ x12 x13 x14 x15 x16, ρ = [some (dSu s), some (.int (2 * s.q + 1)), some (dCt x), some (dPs ps), some (dTk t), some (dSn y), some (dPaper pp), some (.int s.q), some (.list (dI (stg x ps))), some (.str (ptx x ps t y)), some (.list (dI (numsL s t ps i))), none, x12, x13, x14, x15, x16, none, none] ∧ ow = some (11, dI (seenL s t ps pp i))) ⟨none, none, none, none, none, rfl, rfl⟩ ?_ ?_)
  · rintro i d ρ1 w1 hd ⟨x12, x13, x14, x15, x16, rfl, rfl⟩
    obtain ⟨hi, rfl⟩ := rngD_mem hd
    have hi' : i < ps.length := by omega
    obtain ⟨p, hp⟩ : ∃ p, ps[i]? = some p := ⟨ps[i], by simp [hi']⟩
    obtain ⟨u, hu⟩ : ∃ u, pp[i]? = some u := ⟨pp[i]'(by omega), by simp⟩
    have okp := gq.ok p (List.mem_of_getElem? hp)
    have p1 := inQ_iff.mp okp.1
    have p2 := inQ_iff.mp okp.2
    have oku := okPP_iff.mp (hz u (List.mem_of_getElem? hu))
    have u0 := inQ_iff.mp oku.1
    have u1 := inQ_iff.mp oku.2.1
    have u2 := inQ_iff.mp oku.2.2
    have ap : atI (ps.map dP) (0 + (i : Nat)) = some (dP p) := by
      rw [Int.zero_add]
      exact atI_nat (at_map hp)
    have au : atI (pp.map dPP) (0 + (i : Nat)) = some (dPP u) := by
      rw [Int.zero_add]
      exact atI_nat (at_map hu)
    have hcb : (ps.map (cb s))[i]? = some (cb s p) := at_map hp
    have ecb := el_cb gs p
    have l1 : lp (2 * s.q + 1) [s.b1, s.b3, s.b4] [1, p.1, p.2] = cb s p := lp_eq hq (cb_els gs) (by
      intro e he
      simp only [List.mem_cons, List.not_mem_nil, or_false] at he
      omega)
    have l2 : lp (2 * s.q + 1) [cb s p, s.b2] [u.2.1, u.2.2] = pops s.q [cb s p, s.b2] [u.2.1, u.2.2] := lp_eq hq (two_el ecb gs.e2) (by
      intro e he
      simp only [List.mem_cons, List.not_mem_nil, or_false] at he
      omega)
    have l3 : lp (2 * s.q + 1) [t.n0] [s.q - u.1] = pw s.q (pw s.q t.n0 u.1) (-1) := by
      rw [lp_eq hq (fun b hb => by rw [List.mem_singleton.mp hb]; exact e0) (by
        intro e he
        rw [List.mem_singleton] at he
        omega), pops_one hq, inv_tr hq e0]
    have rl := el_pops (es := [u.2.1, u.2.2]) hq (two_el ecb gs.e2)
    have rr := isEl_range rl
    have ln : (numsL s t ps i).length ≤ 130 := by
      unfold numsL
      rw [List.length_cons, flat_len, List.length_take]
      omega
    have ls := seen_len s t ps pp i
    refine ⟨_, _, g_name, rfl, ?_⟩
    refine q_set (e_is (c_law_powers false false (bs := [s.b1, s.b3, s.b4]) (es := [1, p.1, p.2]) (a_cons (e_var rfl) (a_cons (e_lst (a_cons (e_op (e_op (e_var rfl) e_int (o_ixT rfl)) e_int (o_ixT rfl)) (a_cons (e_op (e_op (e_var rfl) e_int (o_ixT rfl)) e_int (o_ixT rfl)) (a_cons (e_op (e_op (e_var rfl) e_int (o_ixT rfl)) e_int (o_ixT rfl)) a_nil))) (by simp [dI])) (a_cons (e_lst (a_cons e_int (a_cons (e_op (e_op (e_var rfl) (e_var rfl) (o_ixL ap)) e_int (o_ixT rfl)) (a_cons (e_op (e_op (e_var rfl) (e_var rfl) (o_ixL ap)) e_int (o_ixT rfl)) a_nil))) (by simp [dI])) a_nil))) (by omega) (by omega) rfl (by show 3 ≤ 1000; omega) (by
      intro e he
      simp only [List.mem_cons, List.not_mem_nil, or_false] at he
      omega)) (by rw [l1])) rfl ?_
    refine q_set (d := .list (dI (numsL s t ps (i + 1)))) (e_is (e_op (e_var rfl) (e_lst (ds := dI (clN t.n0 s.b2 (cb s p))) (a_cons e_int (a_cons e_int (a_cons (e_op (e_var rfl) e_int (o_ixT rfl)) (a_cons (e_var rfl) (a_cons (e_op (e_op (e_var rfl) e_int (o_ixT rfl)) e_int (o_ixT rfl)) a_nil))))) (by simp [dI, clN])) (o_catL (sz_ok ?_))) ?_) rfl ?_
    · rw [dI_len, dI_len]
      simp only [clN, List.length_cons, List.length_nil]
      omega
    · unfold numsL
      rw [flat_take hcb, ← dI_app]
      rfl
    refine q_asg (e_op (e_var rfl) (e_var rfl) (o_ixT au)) (g_tup (g_cons (g_cons g_nil)) rfl) rfl ?_
    refine q_set (e_is (c_law_powers false true (bs := [cb s p, s.b2]) (es := [u.2.1, u.2.2]) (a_cons (e_var rfl) (a_cons (e_lst (a_cons (e_var rfl) (a_cons (e_op (e_op (e_var rfl) e_int (o_ixT rfl)) e_int (o_ixT rfl)) a_nil)) (by simp [dI])) (a_cons (e_var rfl) a_nil))) (by omega) (by omega) rfl (by show 2 ≤ 1000; omega) (by
      intro e he
      simp only [List.mem_cons, List.not_mem_nil, or_false] at he
      omega)) (by rw [l2])) rfl ?_
    refine s_append (d := .int (tr s.q t.n0 (cb s p) s.b2 u.1 u.2.1 u.2.2)) (e_is (e_op (e_cb (a_cons (e_op (e_var rfl) (c_law_powers false false (bs := [t.n0]) (es := [s.q - u.1]) (a_cons (e_var rfl) (a_cons (e_lst (a_cons (e_op (e_var rfl) e_int (o_ixT rfl)) a_nil) (by simp [dI])) (a_cons (e_lst (a_cons (e_op (e_var rfl) (e_var rfl) o_sub) a_nil) (by simp [dI])) a_nil))) (by omega) (by omega) rfl (by show 1 ≤ 1000; omega) (by
      intro e he
      rw [List.mem_singleton] at he
      omega)) (o_mul (.inl (by omega)))) a_nil) c_int) (e_var rfl) (o_mod (by omega))) (by rw [l3]; rfl)) (by rw [dI_len]; omega) ⟨_, _, _, _, _, rfl, ?_⟩
    unfold seenL
    rw [trs_take hcb hu, dI_app]
    rfl
  · rintro ρ' w' ⟨x12, x13, x14, x15, x16, rfl, rfl⟩
    have en : numsL s t ps (rngD 0 (ps.length : Int).toNat).length = chN t.n0 s.b2 (ps.map (cb s)) := by
      unfold numsL chN
      rw [rngD_length, Int.toNat_natCast, List.take_of_length_le (by rw [List.length_map]; exact Nat.le_refl _), List.length_map]
    have es : seenL s t ps pp (rngD 0 (ps.length : Int).toNat).length = trs s.q t.n0 s.b2 (ps.map (cb s)) pp := by
      unfold seenL trs
      rw [rngD_length, Int.toNat_natCast, List.take_of_length_le (by rw [List.length_zip, List.length_map]; omega)]
    rw [en, es]
    have gc := goodC (ps := ps) gs e0 gq
    have lc : (chN t.n0 s.b2 (ps.map (cb s))).length ≤ 126 := by rw [chN_len, List.length_map]; omega
    have lt : (trs s.q t.n0 s.b2 (ps.map (cb s)) pp).length ≤ 25 := by rw [trs, List.length_map, List.length_zip, List.length_map]; omega
    have lx := ptx_len gx gq sm
    refine s_freeze ?_
    refine q_set (d := .int (callV s.q (ptx x ps t y) t.n0 s.b2 (ps.map (cb s)) pp)) (c_law_challenge (a_cons (e_var rfl) (a_cons (c_law_joined (w := "paper " ++ ptx x ps t y) (ns := chN t.n0 s.b2 (ps.map (cb s)) ++ trs s.q t.n0 s.b2 (ps.map (cb s)) pp) (a_cons (e_op e_str (e_var rfl) (o_catS (sz_ok (by rw [o6]; omega)))) (a_cons (e_is (e_op (e_var rfl) (e_var rfl) (o_catL (sz_ok (by rw [dI_len, dI_len]; omega)))) (by rw [dI_app])) a_nil)) (by rw [pre_len, o6]; omega) (by rw [List.length_append]; omega) ((chN_small gc).app (trs_small hq))) a_nil)) (by omega)) rfl ?_
    refine s_ret (e_op (e_op (e_cb (a_cons (e_op (e_cb (a_cons (e_lcM (w_tup (e_var rfl)) (dI (pp.map (·.1))) (by simp [dI]) (by rw [List.length_map]; omega) fun i d hd => ?_) a_nil) c_sum) (e_var rfl) o_sub) a_nil) c_int) (e_var rfl) (o_mod (by omega))) e_int o_eqI) ?_
    · obtain ⟨u, hu, rfl⟩ := map_at hd
      exact ⟨_, _, _, g_name, fun j hj => hj, e_op (e_var rfl) e_int (o_ixT rfl), at_map (at_map hu)⟩
    · show PyData.bool _ = .bool (rightP s.q (ptx x ps t y) t.n0 s.b2 (ps.map (cb s)) pp)
      unfold rightP
      rw [sumO_all]
theorem der_law_paper {P : Program} {w : World} {K : PySem.W.Frag} {mg : Str → Option Value} {base : Heap} {CN CB : Addr} {f : Addr} (h : Wd K mg CN CB) (cdv : Value) (A : Around) (outer : List PySem.Env) (s : Shared) (H : Hp) (E : XK) (hr : Room 1 (A.deeper (envOfC "_law_paper" (defScope s_law_paper) s.heap.objs.size f cdv))) :
    PSs ((cxOf CX0 P w K mg base n_law_paper "_law_paper" (defScope s_law_paper) f cdv A outer s H E).nox) (defBody s_law_paper) (t_law_paper K CN CB) :=
  (pss_cons (ps_set (i := 7) sc_law_paper.nd rfl (by first | exact Or.inl rfl | exact Or.inr rfl) (pe_ix ix_tup (pv 0) pe_int (fun _ _ => rfl)))
  (pss_cons (ps_set (i := 8) sc_law_paper.nd rfl (by first | exact Or.inl rfl | exact Or.inr rfl) (pe_op op_cat (pe_lst (pa_cons (pe_ix ix_tup (pv 2) pe_int (fun _ _ => rfl)) (pa_cons (pe_callB call_len_seq (by rfl) h.f_len bt_len (pa_cons (pv 3) pa_nil)) pa_nil))) (pe_lc (own := [("_law_pair", 18)]) rfl sc_law_paper.nd (pi_list (pv 3)) (blkOk_by (own := [("_law_pair", 18)]) (N := n_law_paper) (sc := defScope s_law_paper) (by decide +kernel)) (fun _ _ _ _ _ => (pg_name (i := 18) sc_law_paper.nd rfl (by first | exact Or.inl rfl | exact Or.inr rfl))) (fun _ _ _ _ _ => pts_nil) (fun _ _ _ _ _ => (pe_op op_add (pe_op op_mul pe_int (pe_ix ix_tup (pv 18) pe_int (fun _ _ => rfl))) (pe_ix ix_tup (pv 18) pe_int (fun _ _ => rfl)))))))
  (pss_cons (ps_set (i := 9) sc_law_paper.nd rfl (by first | exact Or.inl rfl | exact Or.inr rfl) (pe_c (pr_law_joined h) hr pass0 (pa_cons (pe_op op_add_str pe_str (pe_ix ix_tup (pv 2) pe_int (fun _ _ => rfl))) (pa_cons (pe_op op_cat (pe_op op_cat (pe_op op_cat (pv 8) (pe_callTy call_list_of (by rfl) h.f_list bt_list (pa_cons (pv 4) pa_nil))) (pe_lst (pa_cons (pe_ix ix_tup (pv 5) pe_int (fun _ _ => rfl)) pa_nil))) (pe_callTy call_list_of (by rfl) h.f_list bt_list (pa_cons (pe_ix ix_tup (pv 5) pe_int (fun _ _ => rfl)) pa_nil))) pa_nil))))
  (pss_cons (ps_set (i := 10) sc_law_paper.nd rfl (by first | exact Or.inl rfl | exact Or.inr rfl) (pe_lst (pa_cons (pe_callB call_len_seq (by rfl) h.f_len bt_len (pa_cons (pv 3) pa_nil)) pa_nil)))
  (pss_cons (ps_set (i := 11) sc_law_paper.nd rfl (by first | exact Or.inl rfl | exact Or.inr rfl) (pe_lst pa_nil))
  (pss_cons (ps_for PassesOwn.never rfl (pi_range1 (by rfl) h.f_range (pa_cons (pe_callB call_len_seq (by rfl) h.f_len bt_len (pa_cons (pv 3) pa_nil)) pa_nil)) (pg_name (i := 12) sc_law_paper.nd rfl (by first | exact Or.inl rfl | exact Or.inr rfl)) (pss_cons (ps_set (i := 13) sc_law_paper.nd rfl (by first | exact Or.inl rfl | exact Or.inr rfl) (pe_c (pr_law_powers h) hr pass0 (pa_cons (pv 1) (pa_cons (pe_lst (pa_cons (pe_ix ix_tup (pe_ix ix_tup (pv 0) pe_int (fun _ _ => rfl)) pe_int (fun _ _ => rfl)) (pa_cons (pe_ix ix_tup (pe_ix ix_tup (pv 0) pe_int (fun _ _ => rfl)) pe_int (fun _ _ => rfl)) (pa_cons (pe_ix ix_tup (pe_ix ix_tup (pv 0) pe_int (fun _ _ => rfl)) pe_int (fun _ _ => rfl)) pa_nil)))) (pa_cons (pe_lst (pa_cons pe_int (pa_cons (pe_ix ix_tup (pe_ix ix_list (pv 3) (pv 12) (fun _ _ => rfl)) pe_int (fun _ _ => rfl)) (pa_cons (pe_ix ix_tup (pe_ix ix_list (pv 3) (pv 12) (fun _ _ => rfl)) pe_int (fun _ _ => rfl)) pa_nil)))) pa_nil)))))
  (pss_cons (ps_set (i := 10) sc_law_paper.nd rfl (by first | exact Or.inl rfl | exact Or.inr rfl) (pe_op op_cat (pv 10) (pe_lst (pa_cons pe_int (pa_cons pe_int (pa_cons (pe_ix ix_tup (pv 4) pe_int (fun _ _ => rfl)) (pa_cons (pv 13) (pa_cons (pe_ix ix_tup (pe_ix ix_tup (pv 0) pe_int (fun _ _ => rfl)) pe_int (fun _ _ => rfl)) pa_nil))))))))
  (pss_cons (ps_asg (pe_ix ix_tup (pv 6) (pv 12) (fun _ _ => rfl)) (pg_tup rfl (pgs_cons (pg_name (i := 14) sc_law_paper.nd rfl (by first | exact Or.inl rfl | exact Or.inr rfl)) (pgs_cons (pg_name (i := 15) sc_law_paper.nd rfl (by first | exact Or.inl rfl | exact Or.inr rfl)) pgs_nil))))
  (pss_cons (ps_set (i := 16) sc_law_paper.nd rfl (by first | exact Or.inl rfl | exact Or.inr rfl) (pe_c (pr_law_powers h) hr pass0 (pa_cons (pv 1) (pa_cons (pe_lst (pa_cons (pv 13) (pa_cons (pe_ix ix_tup (pe_ix ix_tup (pv 0) pe_int (fun _ _ => rfl)) pe_int (fun _ _ => rfl)) pa_nil))) (pa_cons (pv 15) pa_nil)))))
  (pss_one (ps_expr (pe_bm PySem.F.plainAttrs_list PySem.F.slot_list_append PySem.F.type_list_append mt_append (pv 11) (pa_cons (pe_op op_mod (pe_callTy call_int1 (by rfl) h.f_int bt_int (pa_cons (pe_op op_mul (pv 16) (pe_c (pr_law_powers h) hr pass0 (pa_cons (pv 1) (pa_cons (pe_lst (pa_cons (pe_ix ix_tup (pv 4) pe_int (fun _ _ => rfl)) pa_nil)) (pa_cons (pe_lst (pa_cons (pe_op op_sub (pv 7) (pv 14)) pa_nil)) pa_nil))))) pa_nil)) (pv 1)) pa_nil)))))))))
  (pss_cons (ps_set (i := 17) sc_law_paper.nd rfl (by first | exact Or.inl rfl | exact Or.inr rfl) (pe_c (pr_law_challenge h) hr pass0 (pa_cons (pv 7) (pa_cons (pe_c (pr_law_joined h) hr pass0 (pa_cons (pe_op op_add_str pe_str (pv 9)) (pa_cons (pe_op op_cat (pv 10) (pv 11)) pa_nil))) pa_nil))))
  (pss_one (ps_ret (pe_cmpR op_eq (pe_op op_mod (pe_callTy call_int1 (by rfl) h.f_int bt_int (pa_cons (pe_op op_sub (pe_callB (cr_sum rfl) (by rfl) h.f_sum bt_sum (pa_cons (pe_lc (own := [("_law_pair", 18)]) rfl sc_law_paper.nd (pi_tup (pv 6)) (blkOk_by (own := [("_law_pair", 18)]) (N := n_law_paper) (sc := defScope s_law_paper) (by decide +kernel)) (fun _ _ _ _ _ => (pg_name (i := 18) sc_law_paper.nd rfl (by first | exact Or.inl rfl | exact Or.inr rfl))) (fun _ _ _ _ _ => pts_nil) (fun _ _ _ _ _ => (pe_ix ix_tup (pv 18) pe_int (fun _ _ => rfl)))) pa_nil)) (pv 17)) pa_nil)) (pv 7)) pe_int (nomark _)))))))))))
theorem pr_law_paper {P : Program} {w : World} {K : PySem.W.Frag} {mg : Str → Option Value} {base : Heap} {CN CB : Addr} (h : Wd K mg CN CB) : Pr P w K mg base CX0 2 "_law_paper" ["_law_setup_here", "_law_p", "_law_context", "_law_pairs_here", "_law_ticket", "_law_spend", "_law_paper_here"] (SP 7 R_law_paper) := by
  obtain ⟨f, fd, F, g⟩ := h.d_law_paper
  exact ⟨f, fd, okD F sc_law_paper (t_law_paper K CN CB) (der_law_paper h) (sem_law_paper (CN := CN) (CB := CB)), g, F.kp, F.bindsN fun _ _ _ _ _ _ us hl => match us, hl with | [_, _, _, _, _, _, _], _ => rfl⟩
theorem c_law_paper {ρ : Ev} {ta : TA} {s : Su} {x : Ct} {ps : List Q2} {t : Tk} {y : Sn} {pp : List Pp} (h : A ta ρ [dSu s, .int (2 * s.q + 1), dCt x, dPs ps, dTk t, dSn y, dPaper pp]) (g : GoodN s x ps t y pp) : E (tCall (SP 7 R_law_paper) [] E0 ta) ρ (.bool (rightP s.q (ptx x ps t y) t.n0 s.b2 (ps.map (cb s)) pp)) :=
  e_call h rfl ⟨_, _, _, _, _, _, rfl, g, rfl⟩
/-! ### the whole showing -/
def R_law_right : List PyData → PyData → Prop := fun ds r => ∃ (s : Su) (key : Int) (x : Ct) (ps : List Q2) (t : Tk) (y : Sn) (pp : List Pp), ds = [dSu s, .int key, dCt x, dPs ps, dSh t y pp] ∧ s.q ∈ qs ∧ GoodW s key x ps t y pp ∧ ps.length = pp.length ∧ r = .bool (showB s key x ps t y pp)
def t_law_right (K : PySem.W.Frag) (CN CB : Addr) : TS := (tSeq (tAsg (tVar 0) (gTup K 2 (gCons (gName 5) (gCons (gName 6) gNil))))
  (tSeq (tAsg (tOp oAdd (tOp oMul (tC (.int 2)) (tVar 5)) (tC (.int 1))) (gName 7))
  (tSeq (tAsg (tVar 4) (gTup K 3 (gCons (gName 8) (gCons (gName 9) (gCons (gName 10) gNil)))))
  (tSeq (tAsg (tOp rCat (tLst (tCons (tOp (rIxT K) (tVar 2) (tC (.int 1))) (tCons (tCB (cLen K) (tCons (tVar 3) tNil)) tNil))) (tLc (iList K (tVar 3)) (gName 13) tYes (tOp oAdd (tOp oMul (tC (.int 5)) (tOp (rIxT K) (tVar 13) (tC (.int 0)))) (tOp (rIxT K) (tVar 13) (tC (.int 1)))) [13])) (gName 11))
  (tSeq (tIfS (tTest (tOp rNe (tOp (rIxT K) (tVar 9) (tC (.int 0))) (tCall (SP 2 R_law_challenge) [] E0 (tCons (tVar 5) (tCons (tCall (SP 2 R_law_joined) [] E0 (tCons (tOp oCatS (tC (.str "show ")) (tOp (rIxT K) (tVar 2) (tC (.int 0)))) (tCons (tVar 11) tNil))) tNil))))) (tRet (tC (.bl false))) tNext)
  (tSeq (tIfS (tNot (tB (tCall (SP 5 R_law_inside) [] E0 (tCons (tVar 5) (tCons (tVar 7) (tCons (tVar 8) (tCons (tVar 9) (tCons (tVar 10) tNil)))))))) (tRet (tC (.bl false))) tNext)
  (tSeq (tAsg (tCall (SP 2 R_law_challenge) [] E0 (tCons (tVar 5) (tCons (tCall (SP 2 R_law_joined) [] E0 (tCons (tC (.str "ticket")) (tCons (tCB (cList K) (tCons (tSl (rSlA K) (tVar 8) tNoPart (tPart (tC (.int 5)))) tNil)) tNil))) tNil))) (gName 12))
  (tSeq (tIfS (tTest (tOp rNe (tCall (SP 3 R_law_powers) [] E0 (tCons (tVar 7) (tCons (tLst (tCons (tOp (rIxT K) (tVar 6) (tC (.int 0))) tNil)) (tCons (tLst (tCons (tOp (rIxT K) (tVar 8) (tC (.int 5))) tNil)) tNil)))) (tOp oMod (tCB cInt (tCons (tOp oMul (tOp (rIxT K) (tVar 8) (tC (.int 3))) (tCall (SP 3 R_law_powers) [] E0 (tCons (tVar 7) (tCons (tLst (tCons (tVar 1) tNil)) (tCons (tLst (tCons (tVar 12) tNil)) tNil))))) tNil)) (tVar 7)))) (tRet (tC (.bl false))) tNext)
  (tSeq (tIfS (tTest (tOp rNe (tCall (SP 3 R_law_powers) [] E0 (tCons (tVar 7) (tCons (tLst (tCons (tOp (rIxT K) (tVar 8) (tC (.int 0))) tNil)) (tCons (tLst (tCons (tOp (rIxT K) (tVar 8) (tC (.int 5))) tNil)) tNil)))) (tOp oMod (tCB cInt (tCons (tOp oMul (tOp (rIxT K) (tVar 8) (tC (.int 4))) (tCall (SP 3 R_law_powers) [] E0 (tCons (tVar 7) (tCons (tLst (tCons (tOp (rIxT K) (tVar 8) (tC (.int 2))) tNil)) (tCons (tLst (tCons (tVar 12) tNil)) tNil))))) tNil)) (tVar 7)))) (tRet (tC (.bl false))) tNext)
  (tSeq (tIfS (tTest (tOp rNe (tCall (SP 3 R_law_powers) [] E0 (tCons (tVar 7) (tCons (tSl (rSlA K) (tVar 6) (tPart (tC (.int 1))) tNoPart) (tCons (tOp (rIxT K) (tVar 9) (tC (.int 1))) tNil)))) (tOp oMod (tCB cInt (tCons (tOp oMul (tOp (rIxT K) (tVar 8) (tC (.int 1))) (tCall (SP 3 R_law_powers) [] E0 (tCons (tVar 7) (tCons (tLst (tCons (tOp (rIxT K) (tVar 8) (tC (.int 0))) tNil)) (tCons (tLst (tCons (tOp (rIxT K) (tVar 9) (tC (.int 0))) tNil)) tNil))))) tNil)) (tVar 7)))) (tRet (tC (.bl false))) tNext)
  (tRet (tCall (SP 7 R_law_paper) [] E0 (tCons (tVar 0) (tCons (tVar 7) (tCons (tVar 2) (tCons (tVar 3) (tCons (tVar 8) (tCons (tVar 9) (tCons (tVar 10) tNil)))))))))))))))))))
theorem inside_f {a b c d e f g h i : Bool} (k : ((a && b) && (c && d)) = false) : (((a && b) && e) && ((f && (g && ((d && c) && h))) && i)) = false := by
  cases a <;> cases b <;> cases c <;> cases d <;> simp_all
theorem sem_law_right {K : PySem.W.Frag} {CN CB : Addr} (ds : List PyData) (d : PyData) (h : R_law_right ds d) : S W0 (t_law_right K CN CB) (startR n_law_right ds) none { nx := fun _ _ => d = .none, rt := fun d' => d' = d } := by
  obtain ⟨s, key, x, ps, t, y, pp, rfl, hqs, ⟨gs, gk, gx, gq, sm, gz⟩, hl, rfl⟩ := h
  have hq := gs.q
  have hq' := hq
  unfold Bd at hq'
  have hl25 := gq.l
  have hg := gx.g.2.1
  have o5 : (PySem.Str.ofString "show ").length = 5 := by decide
  have ls : (stg x ps).length ≤ 27 := by rw [stg_len]; omega
  have hp2 : (2 : Int) ≤ 2 * s.q + 1 := by omega
  have hp3 : 2 * s.q + 1 < 1073741824 := by omega
  show S W0 _ [some (dSu s), some (.int key), some (dCt x), some (dPs ps), some (dSh t y pp), none, none, none, none, none, none, none, none, none] none _
  refine q_asg (e_var rfl) (g_tup (g_cons (g_cons g_nil)) rfl) rfl ?_
  refine q_set (e_op (e_op e_int (e_var rfl) (o_mul (.inl (by decide)))) e_int o_add) rfl ?_
  refine q_asg (e_var rfl) (g_tup (g_cons (g_cons (g_cons g_nil))) rfl) rfl ?_
  refine q_set (e_stage (x := x) (ps := ps) rfl rfl (by simp) hl25) rfl ?_
  refine q_when (b := !decide (y.d = stC s x ps)) (t_test (e_op (e_op (e_var rfl) e_int (o_ixT rfl)) (d2 := .int (stC s x ps)) (c_law_challenge (a_cons (e_var rfl) (a_cons (c_law_joined (w := "show " ++ x.g) (ns := stg x ps) (a_cons (e_op e_str (e_op (e_var rfl) e_int (o_ixT rfl)) (o_catS (sz_ok (by rw [o5]; omega)))) (a_cons (e_var rfl) a_nil)) (by rw [pre_len, o5]; omega) (by omega) (stg_small gx gq)) a_nil)) (by omega)) o_neI)) (fun hb => s_ret e_bl ?_) fun hb => ?_
  · show PyData.bool false = .bool (showB s key x ps t y pp)
    unfold showB
    rw [Bool.not_eq_true'] at hb
    rw [hb]
    simp
  have k1 : decide (y.d = stC s x ps) = true := by simpa using hb
  refine q_when (b := !insideB s.q t y) (t_not (t_b (c_law_inside (a_cons (e_var rfl) (a_cons (e_var rfl) (a_cons (e_var rfl) (a_cons (e_var rfl) (a_cons (e_var rfl) a_nil))))) hqs gz))) (fun hb => s_ret e_bl ?_) fun hb => ?_
  · show PyData.bool false = .bool (showB s key x ps t y pp)
    rw [Bool.not_eq_true'] at hb
    unfold insideB at hb
    unfold showB ticketB spendB
    rw [inside_f hb]
  have k2 : insideB s.q t y = true := by simpa using hb
  have k2' := k2
  unfold insideB at k2'
  rw [Bool.and_eq_true, Bool.and_eq_true, Bool.and_eq_true] at k2'
  obtain ⟨⟨i1, i2⟩, i3, i4⟩ := k2'
  have el : ∀ v ∈ t5 t, isEl s.q v = true := List.all_eq_true.mp i1
  have e0 : isEl s.q t.n0 = true := el _ (by simp [t5])
  have e1 : isEl s.q t.n1 = true := el _ (by simp [t5])
  have e2 : isEl s.q t.n2 = true := el _ (by simp [t5])
  have e3 : isEl s.q t.n3 = true := el _ (by simp [t5])
  have e4 : isEl s.q t.n4 = true := el _ (by simp [t5])
  have r3 := isEl_range e3
  have r4 := isEl_range e4
  have r1 := isEl_range e1
  have q5 : inQ s.q t.n5 = true := by
    cases h5 : inQ s.q t.n5 with
    | true => rfl
    | false =>
      rw [h5] at i2
      simp at i2
  have n5 := inQ_iff.mp q5
  have yd := inQ_iff.mp i4
  have ck := chal_range (q := s.q) (t := joinV "ticket" (t5 t)) (by omega)
  have one : ∀ {b e : Int}, isEl s.q b = true → 0 ≤ e → lp (2 * s.q + 1) [b] [e] = pw s.q b e := fun hb he => by
    rw [lp_eq hq (fun z hz => by rw [List.mem_singleton.mp hz]; exact hb) (fun z hz => by rw [List.mem_singleton.mp hz]; exact he), pops_one hq]
  have rng1 : ∀ {e : Int}, 0 ≤ e → e < 1073741824 → ∀ z ∈ [e], 0 ≤ z ∧ z < 1073741824 := fun h1 h2 z hz => by
    rw [List.mem_singleton] at hz
    omega
  refine q_set (d := .int (tkC s.q (t5 t))) (c_law_challenge (a_cons (e_var rfl) (a_cons (c_law_joined (w := "ticket") (ns := t5 t) (a_cons e_str (a_cons (e_cb (a_cons (e_sl (e_var rfl) p_none (p_some e_int) s_tup) a_nil) c_listT) a_nil)) (by decide) (by simp [t5]) (el_small hq el)) a_nil)) (by omega)) rfl ?_
  show S W0 _ [some (dSu s), some (.int key), some (dCt x), some (dPs ps), some (dSh t y pp), some (.int s.q), some (.tuple (dI [s.b0, s.b1, s.b2, s.b3, s.b4])), some (.int (2 * s.q + 1)), some (dTk t), some (dSn y), some (dPaper pp), some (.list (dI (stg x ps))), some (.int (tkC s.q (t5 t))), none] none _
  have ck' : 0 ≤ tkC s.q (t5 t) ∧ tkC s.q (t5 t) < 1073741824 := by
    unfold tkC
    omega
  refine q_when (b := !granted s.q s.b0 t.n5 t.n3 key (tkC s.q (t5 t))) (t_is (t_test (e_op (c_law_powers false false (bs := [s.b0]) (es := [t.n5]) (a_cons (e_var rfl) (a_cons (e_lst (a_cons (e_op (e_var rfl) e_int (o_ixT rfl)) a_nil) (by simp [dI])) (a_cons (e_lst (a_cons (e_op (e_var rfl) e_int (o_ixT rfl)) a_nil) (by simp [dI])) a_nil))) hp2 hp3 rfl (by show 1 ≤ 1000; omega) (rng1 n5.1 (by omega)))
      (e_op (e_cb (a_cons (e_op (e_op (e_var rfl) e_int (o_ixT rfl)) (c_law_powers false false (bs := [key]) (es := [tkC s.q (t5 t)]) (a_cons (e_var rfl) (a_cons (e_lst (a_cons (e_var rfl) a_nil) (by simp [dI])) (a_cons (e_lst (a_cons (e_var rfl) a_nil) (by simp [dI])) a_nil))) hp2 hp3 rfl (by show 1 ≤ 1000; omega) (rng1 ck'.1 ck'.2)) (o_mul (.inl (by omega)))) a_nil) c_int) (e_var rfl) (o_mod (by omega))) o_neI)) (by rw [one gs.e0 n5.1, one gk ck'.1]; rfl)) (fun hb => s_ret e_bl ?_) fun hb => ?_
  · show PyData.bool false = .bool (showB s key x ps t y pp)
    rw [Bool.not_eq_true'] at hb
    unfold showB ticketB
    rw [hb]
    simp
  have k3 : granted s.q s.b0 t.n5 t.n3 key (tkC s.q (t5 t)) = true := by simpa using hb
  refine q_when (b := !granted s.q t.n0 t.n5 t.n4 t.n2 (tkC s.q (t5 t))) (t_is (t_test (e_op (c_law_powers false false (bs := [t.n0]) (es := [t.n5]) (a_cons (e_var rfl) (a_cons (e_lst (a_cons (e_op (e_var rfl) e_int (o_ixT rfl)) a_nil) (by simp [dI])) (a_cons (e_lst (a_cons (e_op (e_var rfl) e_int (o_ixT rfl)) a_nil) (by simp [dI])) a_nil))) hp2 hp3 rfl (by show 1 ≤ 1000; omega) (rng1 n5.1 (by omega)))
      (e_op (e_cb (a_cons (e_op (e_op (e_var rfl) e_int (o_ixT rfl)) (c_law_powers false false (bs := [t.n2]) (es := [tkC s.q (t5 t)]) (a_cons (e_var rfl) (a_cons (e_lst (a_cons (e_op (e_var rfl) e_int (o_ixT rfl)) a_nil) (by simp [dI])) (a_cons (e_lst (a_cons (e_var rfl) a_nil) (by simp [dI])) a_nil))) hp2 hp3 rfl (by show 1 ≤ 1000; omega) (rng1 ck'.1 ck'.2)) (o_mul (.inl (by omega)))) a_nil) c_int) (e_var rfl) (o_mod (by omega))) o_neI)) (by rw [one e0 n5.1, one e2 ck'.1]; rfl)) (fun hb => s_ret e_bl ?_) fun hb => ?_
  · show PyData.bool false = .bool (showB s key x ps t y pp)
    rw [Bool.not_eq_true'] at hb
    unfold showB ticketB
    rw [hb]
    simp
  have k4 : granted s.q t.n0 t.n5 t.n4 t.n2 (tkC s.q (t5 t)) = true := by simpa using hb
  have y4 : ∀ e ∈ s4 y, 0 ≤ e ∧ e < 1073741824 := fun e he => by
    have := inQ_iff.mp (List.all_eq_true.mp i3 e he)
    omega
  refine q_when (b := !decide (pops s.q (rest s) (s4 y) = pw s.q t.n0 y.d * t.n1 % (2 * s.q + 1))) (t_is (t_test (e_op (c_law_powers true true (bs := rest s) (es := s4 y) (a_cons (e_var rfl) (a_cons (e_sl (e_var rfl) (p_some e_int) p_none s_tup) (a_cons (e_op (e_var rfl) e_int (o_ixT rfl)) a_nil))) hp2 hp3 rfl (by simp [rest]) y4)
      (e_op (e_cb (a_cons (e_op (e_op (e_var rfl) e_int (o_ixT rfl)) (c_law_powers false false (bs := [t.n0]) (es := [y.d]) (a_cons (e_var rfl) (a_cons (e_lst (a_cons (e_op (e_var rfl) e_int (o_ixT rfl)) a_nil) (by simp [dI])) (a_cons (e_lst (a_cons (e_op (e_var rfl) e_int (o_ixT rfl)) a_nil) (by simp [dI])) a_nil))) hp2 hp3 rfl (by show 1 ≤ 1000; omega) (rng1 yd.1 (by omega))) (o_mul (.inl (by omega)))) a_nil) c_int) (e_var rfl) (o_mod (by omega))) o_neI)) (by rw [one e0 yd.1, lp_eq hq (rest_el gs) (fun e he => (y4 e he).1), Int.mul_comm])) (fun hb => s_ret e_bl ?_) fun hb => ?_
  · show PyData.bool false = .bool (showB s key x ps t y pp)
    rw [Bool.not_eq_true'] at hb
    unfold showB spendB
    rw [hb]
    simp
  have k5 : decide (pops s.q (rest s) (s4 y) = pw s.q t.n0 y.d * t.n1 % (2 * s.q + 1)) = true := by simpa using hb
  refine s_ret (c_law_paper (a_cons (e_var rfl) (a_cons (e_var rfl) (a_cons (e_var rfl) (a_cons (e_var rfl) (a_cons (e_var rfl) (a_cons (e_var rfl) (a_cons (e_var rfl) a_nil))))))) ⟨gs, gx, gq, sm, e0, hl, gz⟩) ?_
  show PyData.bool _ = .bool (showB s key x ps t y pp)
  unfold showB ticketB spendB
  rw [i1, i2, i3, i4, k1, k3, k4, k5, e0, e1]
  rfl
theorem der_law_right {P : Program} {w : World} {K : PySem.W.Frag} {mg : Str → Option Value} {base : Heap} {CN CB : Addr} {f : Addr} (h : Wd K mg CN CB) (cdv : Value) (A : Around) (outer : List PySem.Env) (s : Shared) (H : Hp) (E : XK) (hr : Room 2 (A.deeper (envOfC "_law_right" (defScope s_law_right) s.heap.objs.size f cdv))) :
    PSs ((cxOf CX0 P w K mg base n_law_right "_law_right" (defScope s_law_right) f cdv A outer s H E).nox) (defBody s_law_right) (t_law_right K CN CB) :=
  (pss_cons (ps_asg (pv 0) (pg_tup rfl (pgs_cons (pg_name (i := 5) sc_law_right.nd rfl (by first | exact Or.inl rfl | exact Or.inr rfl)) (pgs_cons (pg_name (i := 6) sc_law_right.nd rfl (by first | exact Or.inl rfl | exact Or.inr rfl)) pgs_nil))))
  (pss_cons (ps_set (i := 7) sc_law_right.nd rfl (by first | exact Or.inl rfl | exact Or.inr rfl) (pe_op op_add (pe_op op_mul pe_int (pv 5)) pe_int))
  (pss_cons (ps_asg (pv 4) (pg_tup rfl (pgs_cons (pg_name (i := 8) sc_law_right.nd rfl (by first | exact Or.inl rfl | exact Or.inr rfl)) (pgs_cons (pg_name (i := 9) sc_law_right.nd rfl (by first | exact Or.inl rfl | exact Or.inr rfl)) (pgs_cons (pg_name (i := 10) sc_law_right.nd rfl (by first | exact Or.inl rfl | exact Or.inr rfl)) pgs_nil)))))
  (pss_cons (ps_set (i := 11) sc_law_right.nd rfl (by first | exact Or.inl rfl | exact Or.inr rfl) (pe_op op_cat (pe_lst (pa_cons (pe_ix ix_tup (pv 2) pe_int (fun _ _ => rfl)) (pa_cons (pe_callB call_len_seq (by rfl) h.f_len bt_len (pa_cons (pv 3) pa_nil)) pa_nil))) (pe_lc (own := [("_law_pair", 13)]) rfl sc_law_right.nd (pi_list (pv 3)) (blkOk_by (own := [("_law_pair", 13)]) (N := n_law_right) (sc := defScope s_law_right) (by decide +kernel)) (fun _ _ _ _ _ => (pg_name (i := 13) sc_law_right.nd rfl (by first | exact Or.inl rfl | exact Or.inr rfl))) (fun _ _ _ _ _ => pts_nil) (fun _ _ _ _ _ => (pe_op op_add (pe_op op_mul pe_int (pe_ix ix_tup (pv 13) pe_int (fun _ _ => rfl))) (pe_ix ix_tup (pv 13) pe_int (fun _ _ => rfl)))))))
  (pss_cons (ps_if (pt_cmpR op_ne (pe_ix ix_tup (pv 9) pe_int (fun _ _ => rfl)) (pe_c (pr_law_challenge h) (hr.mono (by decide)) pass0 (pa_cons (pv 5) (pa_cons (pe_c (pr_law_joined h) (hr.mono (by decide)) pass0 (pa_cons (pe_op op_add_str pe_str (pe_ix ix_tup (pv 2) pe_int (fun _ _ => rfl))) (pa_cons (pv 11) pa_nil))) pa_nil))) (nomark _)) (pss_one (ps_ret pe_bl)) pss_nil)
  (pss_cons (ps_if (pt_not (pt_val (pe_c (pr_law_inside h) (hr.mono (by decide)) pass0 (pa_cons (pv 5) (pa_cons (pv 7) (pa_cons (pv 8) (pa_cons (pv 9) (pa_cons (pv 10) pa_nil)))))))) (pss_one (ps_ret pe_bl)) pss_nil)
  (pss_cons (ps_set (i := 12) sc_law_right.nd rfl (by first | exact Or.inl rfl | exact Or.inr rfl) (pe_c (pr_law_challenge h) (hr.mono (by decide)) pass0 (pa_cons (pv 5) (pa_cons (pe_c (pr_law_joined h) (hr.mono (by decide)) pass0 (pa_cons pe_str (pa_cons (pe_callTy call_list_of (by rfl) h.f_list bt_list (pa_cons (pe_slice sl_tupA (pv 8) po_none (po_some pe_int)) pa_nil)) pa_nil))) pa_nil))))
  (pss_cons (ps_if (pt_cmpR op_ne (pe_c (pr_law_powers h) (hr.mono (by decide)) pass0 (pa_cons (pv 7) (pa_cons (pe_lst (pa_cons (pe_ix ix_tup (pv 6) pe_int (fun _ _ => rfl)) pa_nil)) (pa_cons (pe_lst (pa_cons (pe_ix ix_tup (pv 8) pe_int (fun _ _ => rfl)) pa_nil)) pa_nil)))) (pe_op op_mod (pe_callTy call_int1 (by rfl) h.f_int bt_int (pa_cons (pe_op op_mul (pe_ix ix_tup (pv 8) pe_int (fun _ _ => rfl)) (pe_c (pr_law_powers h) (hr.mono (by decide)) pass0 (pa_cons (pv 7) (pa_cons (pe_lst (pa_cons (pv 1) pa_nil)) (pa_cons (pe_lst (pa_cons (pv 12) pa_nil)) pa_nil))))) pa_nil)) (pv 7)) (nomark _)) (pss_one (ps_ret pe_bl)) pss_nil)
  (pss_cons (ps_if (pt_cmpR op_ne (pe_c (pr_law_powers h) (hr.mono (by decide)) pass0 (pa_cons (pv 7) (pa_cons (pe_lst (pa_cons (pe_ix ix_tup (pv 8) pe_int (fun _ _ => rfl)) pa_nil)) (pa_cons (pe_lst (pa_cons (pe_ix ix_tup (pv 8) pe_int (fun _ _ => rfl)) pa_nil)) pa_nil)))) (pe_op op_mod (pe_callTy call_int1 (by rfl) h.f_int bt_int (pa_cons (pe_op op_mul (pe_ix ix_tup (pv 8) pe_int (fun _ _ => rfl)) (pe_c (pr_law_powers h) (hr.mono (by decide)) pass0 (pa_cons (pv 7) (pa_cons (pe_lst (pa_cons (pe_ix ix_tup (pv 8) pe_int (fun _ _ => rfl)) pa_nil)) (pa_cons (pe_lst (pa_cons (pv 12) pa_nil)) pa_nil))))) pa_nil)) (pv 7)) (nomark _)) (pss_one (ps_ret pe_bl)) pss_nil)
  (pss_cons (ps_if (pt_cmpR op_ne (pe_c (pr_law_powers h) (hr.mono (by decide)) pass0 (pa_cons (pv 7) (pa_cons (pe_slice sl_tupA (pv 6) (po_some pe_int) po_none) (pa_cons (pe_ix ix_tup (pv 9) pe_int (fun _ _ => rfl)) pa_nil)))) (pe_op op_mod (pe_callTy call_int1 (by rfl) h.f_int bt_int (pa_cons (pe_op op_mul (pe_ix ix_tup (pv 8) pe_int (fun _ _ => rfl)) (pe_c (pr_law_powers h) (hr.mono (by decide)) pass0 (pa_cons (pv 7) (pa_cons (pe_lst (pa_cons (pe_ix ix_tup (pv 8) pe_int (fun _ _ => rfl)) pa_nil)) (pa_cons (pe_lst (pa_cons (pe_ix ix_tup (pv 9) pe_int (fun _ _ => rfl)) pa_nil)) pa_nil))))) pa_nil)) (pv 7)) (nomark _)) (pss_one (ps_ret pe_bl)) pss_nil)
  (pss_one (ps_ret (pe_c (pr_law_paper h) hr pass0 (pa_cons (pv 0) (pa_cons (pv 7) (pa_cons (pv 2) (pa_cons (pv 3) (pa_cons (pv 8) (pa_cons (pv 9) (pa_cons (pv 10) pa_nil))))))))))))))))))))
theorem pr_law_right {P : Program} {w : World} {K : PySem.W.Frag} {mg : Str → Option Value} {base : Heap} {CN CB : Addr} (h : Wd K mg CN CB) : Pr P w K mg base CX0 3 "_law_right" ["_law_setup_here", "_law_key", "_law_context", "_law_pairs_here", "_law_showing"] (SP 5 R_law_right) := by
  obtain ⟨f, fd, F, g⟩ := h.d_law_right
  exact ⟨f, fd, okD F sc_law_right (t_law_right K CN CB) (der_law_right h) (sem_law_right (CN := CN) (CB := CB)), g, F.kp, F.bindsN fun _ _ _ _ _ _ us hl => match us, hl with | [_, _, _, _, _], _ => rfl⟩
theorem c_law_right {ρ : Ev} {ta : TA} {s : Su} {key : Int} {x : Ct} {ps : List Q2} {t : Tk} {y : Sn} {pp : List Pp} (h : A ta ρ [dSu s, .int key, dCt x, dPs ps, dSh t y pp]) (hqs : s.q ∈ qs) (g : GoodW s key x ps t y pp) (hl : ps.length = pp.length) : E (tCall (SP 5 R_law_right) [] E0 ta) ρ (.bool (showB s key x ps t y pp)) :=
  e_call h rfl ⟨_, _, _, _, _, _, _, rfl, hqs, g, hl, rfl⟩
end Ck

set_option Elab.async false
set_option linter.all false
set_option maxRecDepth 100000
set_option maxHeartbeats 1000000
set_option autoImplicit false
/-! # try / except at the data level -/
namespace Ck
open PySem PySem.Spec PyProof.Rows L2
/-- except c: ts -/
def wPlain (K : PySem.W.Frag) (c : Value) (ts : TS) (w : Ends → WX) : Ends → WX := fun D cls d σ H => ∃ b, PySem.W.exmOne K cls c = some b ∧ (b = true → ∀ a, H a = none → ts D σ H) ∧ (b = false → w D cls d σ H)
/-- except c as (slot i): ts -/
def wNamed (K : PySem.W.Frag) (c : Value) (i : Nat) (ts : Addr → Value → Option Addr → TS) (w : Ends → WX) : Ends → WX := fun D cls d σ H => ∃ b, PySem.W.exmOne K cls c = some b ∧
  (b = true → ∀ a, H a = none → ts a cls d { nx := fun s h => D.nx (s.set i none) h, rt := D.rt, bk := fun s h => D.bk (s.set i none) h, ct := fun s h => D.ct (s.set i none) h } (σ.set i (some (.ref a))) H) ∧ (b = false → w D cls d σ H)
def wNone : Ends → WX := fun _ => W0
def tTryC (tb : WX → TS) (w : Ends → WX) : TS := fun D σ H => tb (w D) D σ H
def tOnly (p : Prop) (t : TS) : TS := fun D σ H => p ∧ t D σ H
theorem takes0 {X : Cx} : Takes X W0 := fun u s' ⟨a, B, sI, pins, σ, H, cls, d, e, I, nb, up, sky, na, os, ag, w⟩ => w.elim
theorem pss_only {X : Cx} {p : Prop} {b : List Stmt} {t : TS} (h : p → PSs X b t) : PSs X b (tOnly p t) := ⟨fun pins s σ H D I k => (h k.1).run pins s σ H D I k.2⟩
theorem cls_plain {X : Cx} {x : Str} {c : Value} {ts : TS} {b0 : Stmt} {suite : List Stmt} {np p : Pos} {hds : List ExceptHandler} {w : Ends → WX} (hc : Names X x c)
    (su : ∀ (a : Addr) (oe : Obj) (pn : List (Addr × Obj)), PSs (X.suite a ((a, oe) :: pn)) (b0 :: suite) ts) (r : Cls X hds w) : Cls X (.ExceptHandler (some (.Name x np)) none (b0 :: suite) p :: hds) (wPlain X.K c ts w) :=
  .plain (ts := fun _ _ _ => ts) hc (fun a oe _ _ pn _ _ => su a oe pn) r
theorem cls_named {X : Cx} {x n : Str} {i : Nat} {c : Value} {ts : Addr → Value → Option Addr → TS} {b0 : Stmt} {suite : List Stmt} {np p : Pos} {hds : List ExceptHandler} {w : Ends → WX} (hN : X.N.Nodup) (hi : X.N[i]? = some n) (hl : X.env.kindOf n = some .local) (hc : Names X x c)
    (su : ∀ (a : Addr) (oe : Obj) (cls : Value) (d : Option Addr) (pn : List (Addr × Obj)), Zc cls d oe → (∃ vs, oe.data = .fields vs) → PSs (X.suite a ((a, oe) :: pn)) (b0 :: suite) (ts a cls d)) (r : Cls X hds w) :
    Cls X (.ExceptHandler (some (.Name x np)) (some n) (b0 :: suite) p :: hds) (wNamed X.K c i ts w) := .named hN hi hl hc su r
theorem cls_none {X : Cx} : Cls X [] wNone := .out takes0
theorem ps_tryD {X : Cx} {body : List Stmt} {h0 : ExceptHandler} {hds : List ExceptHandler} {w : Ends → WX} {pos : Pos} {tb : WX → TS} (hs : X.stack = X.env :: X.outer) (hf : X.env.frame = some X.env.locals)
    (hb : ∀ (W : WX) (pn : List (Addr × Obj)) (xe : Value → Shared → Prop), Takes (X.tr pn xe) W → PSs (X.tr pn xe) body (tb W)) (hh : Cls X (h0 :: hds) w) : PS X (.Try body (h0 :: hds) [] [] pos) (tTryC tb w) :=
  ps_tryC hs hf (fun W pn xe tk _ => hb W pn xe tk) hh
section
variable {W : WX} {ρ : Ev} {ow : Ow} {o : Out} {t : TS} {ta : TA} {ds : List PyData} {d : PyData} {n : Nat} {R : List PyData → PyData → Prop} {Rx : List PyData → Value → Prop} {w : Ends → WX} {c : Value} {K : PySem.W.Frag} {cv : Value}
/-- what the clauses do at an exception of the class c -/
def tCatch (w : Ends → WX) (c : Value) : TS := fun D σ H => w D c none σ H
theorem s_plain (h : PySem.W.exmOne K c cv = some true) (k : S W t ρ ow o) : S W (tCatch (wPlain K cv t w) c) ρ ow o := fun H0 G0 D σ H G ax e wn nx rt ro rs =>
  ⟨true, h, fun _ a _ => k H0 G0 D σ H G ax e wn nx rt ro rs, fun z => (by cases z)⟩
theorem s_plainNo (h : PySem.W.exmOne K c cv = some false) (k : S W (tCatch w c) ρ ow o) : S W (tCatch (wPlain K cv t w) c) ρ ow o := fun H0 G0 D σ H G ax e wn nx rt ro rs =>
  ⟨false, h, fun z => (by cases z), fun _ => k H0 G0 D σ H G ax e wn nx rt ro rs⟩
theorem s_namedNo {i : Nat} {ts : Addr → Value → Option Addr → TS} (h : PySem.W.exmOne K c cv = some false) (k : S W (tCatch w c) ρ ow o) : S W (tCatch (wNamed K cv i ts w) c) ρ ow o := fun H0 G0 D σ H G ax e wn nx rt ro rs =>
  ⟨false, h, fun z => (by cases z), fun _ => k H0 G0 D σ H G ax e wn nx rt ro rs⟩
/-- return [x, y][int(isinstance(e, CC) and not isinstance(e, (CF, CN)))], e the error held in slot i -/
def tSuite (K : PySem.W.Frag) (CB CC CF CN : Addr) (i : Nat) (x y : Str) (a : Addr) : TS := tRet (tOp (rIxL K) (tLst (tCons (tC (.str x)) (tCons (tC (.str y)) tNil))) (tCB cInt (tCons (tAndV (tCB (rIsE K CB a) (tCons (tVar i) (tCons (tC (.ref CC)) tNil))) (tNotV (tCB (rIsET K CB a) (tCons (tVar i) (tCons (tTup (tCons (tC (.ref CF)) (tCons (tC (.ref CN)) tNil))) tNil))))) tNil)))
theorem s_suite {CB CC CF CN : Addr} {i : Nat} {x y : Str} (h : PySem.W.exmOne K (.ref CB) (.ref CB) = some true) (h1 : PySem.W.kitOne K (.ref CB) (.ref CC) = some true) (h2 : PySem.W.kitAny K (.ref CB) [.ref CF, .ref CN] = some false) (hi : i < ρ.length) (k : o.rt (.str y)) :
    S W (tCatch (wNamed K (.ref CB) i (fun a cls d => tOnly (cls = .ref CB ∧ d = none) (tSuite K CB CC CF CN i x y a)) w) (.ref CB)) ρ ow o := fun H0 G0 D σ H G ax e wn nx rt ro rs => by
  refine ⟨true, h, fun _ a na => ⟨⟨rfl, rfl⟩, ?_⟩, fun z => (by cases z)⟩
  have e' : EnvD G (σ.set i (some (.ref a))) (ρ.set i none) := e.forget i
  have hs : (σ.set i (some (V.ref a)))[i]? = some (some (.ref a)) := List.getElem?_set_self (by rw [e.len]; exact hi)
  show tLst (tCons (tC (.str x)) (tCons (tC (.str y)) tNil)) (σ.set i (some (.ref a))) H (fun l H1 => (tCB cInt (tCons (tAndV (tCB (rIsE K CB a) (tCons (tVar i) (tCons (tC (.ref CC)) tNil))) (tNotV (tCB (rIsET K CB a) (tCons (tVar i) (tCons (tTup (tCons (tC (.ref CF)) (tCons (tC (.ref CN)) tNil))) tNil))))) tNil)) (σ.set i (some (.ref a))) H1 fun y' H2 => rIxL K l y' H2 D.rt)
  refine (e_lst (ds := [.str x, .str y]) (a_cons e_str (a_cons e_str a_nil)) (by simp)) _ H G ax.s e' _ fun l H1 G1 a1 i1 => ?_
  refine ⟨_, hs, ⟨.ref CC, .ref CC, true, rfl, fun u r => r, h1, true, rfl, ?_⟩⟩
  refine ⟨_, hs, ⟨sz_ok (by simp), fun p hp => ⟨p, [.ref CF, .ref CN], [.ref CF, .ref CN], false, rfl, upd_same, .cons (.own CF) (.cons (.own CN) .nil), h2, false, rfl, .inr ⟨true, rfl, ?_⟩⟩⟩⟩
  have ax2 := Ax.new (o := .tup [.ref CF, .ref CN]) a1.s hp
  exact o_ixL (ds := [.str x, .str y]) (n := 1) rfl l _ _ _ ax2.s (i1.mono ax2.g) (.int 1) _ fun v H3 G3 a3 i3 => rt v H3 G3 _ (((ax.trans a1).trans ax2).trans a3) i3 k
/-- try: f(..); then u -/
theorem s_tryDrop {u : WX → TS} (h : A ta ρ ds) (hn : ds.length = n) (r : (∃ d, R ds d ∧ ∀ W', S W' (u W') ρ ow { o with rs := fun _ => False }) ∨ ∃ c, Rx ds c ∧ S W (tCatch w c) ρ ow o) :
    S W (tTryC (fun W' => tSeq (tDrop (tCallS (SPX n R Rx) (WE W') ta)) (u W')) w) ρ ow o := fun H0 G0 D σ H G ax e wn nx rt ro rs =>
  h σ H G ax.s e _ fun vs H1 G1 a1 i1 => by
    refine ⟨G1, ds, a1.s, i1, hn, ?_⟩
    rcases r with ⟨d, r, k⟩ | ⟨c, r, k⟩
    · exact .inl ⟨d, r, fun v H2 G2 a2 i2 => k (w D) H0 G0 D σ H2 G2 (ax.trans (a1.trans a2)) (e.mono (a1.g.trans a2.g)) (wn.mono (a1.trans a2)) (fun σ' H' G' ρ' ow' x y => nx σ' H' G' ρ' ow' x ((a1.g.trans a2.g).trans y)) rt ro (fun _ _ _ _ _ z => z.elim)⟩
    · exact .inr ⟨c, r, fun H2 G2 a2 => k H0 G0 D σ H2 G2 (ax.trans (a1.trans a2)) (e.mono (a1.g.trans a2.g)) (wn.mono (a1.trans a2)) (fun σ' H' G' ρ' ow' x y => nx σ' H' G' ρ' ow' x ((a1.g.trans a2.g).trans y)) rt ro rs⟩
/-- try: if f(..) is not None: u -/
theorem s_tryNone {u : WX → TS} (h : A ta ρ ds) (hn : ds.length = n) (r : (R ds .none ∧ o.nx ρ ow) ∨ ∃ c, Rx ds c ∧ S W (tCatch w c) ρ ow o) :
    S W (tTryC (fun W' => tIfS (tB (tNotN (tCallS (SPX n R Rx) (WE W') ta))) (u W') tNext) w) ρ ow o := fun H0 G0 D σ H G ax e wn nx rt ro rs =>
  h σ H G ax.s e _ fun vs H1 G1 a1 i1 => by
    refine ⟨G1, ds, a1.s, i1, hn, ?_⟩
    rcases r with ⟨r, k⟩ | ⟨c, r, k⟩
    · refine .inl ⟨.none, r, fun v H2 G2 a2 i2 => ?_⟩
      rw [i2.non_eq]
      refine ⟨false, ?_, ?_⟩
      · rfl
      · exact nx σ H2 G2 ρ ow (ax.trans (a1.trans a2)) (a1.g.trans a2.g) (e.mono (a1.g.trans a2.g)) (wn.mono (a1.trans a2)) k
    · exact .inr ⟨c, r, fun H2 G2 a2 => k H0 G0 D σ H2 G2 (ax.trans (a1.trans a2)) (e.mono (a1.g.trans a2.g)) (wn.mono (a1.trans a2)) (fun σ' H' G' ρ' ow' x y => nx σ' H' G' ρ' ow' x ((a1.g.trans a2.g).trans y)) rt ro rs⟩
end
end Ck

set_option Elab.async false
set_option linter.all false
set_option maxRecDepth 100000
set_option maxHeartbeats 1000000
set_option autoImplicit false
/-! # Persons, what is told -/
namespace Ck
open PySem PySem.Spec PyProof.Rows L2
local macro_rules | `(tactic| walk_at "ev1") => `(tactic| first
  | ((with_reducible apply e_var); exact rfl)
  | with_reducible exact e_int
  | with_reducible exact e_str
  | with_reducible exact e_bl
  | with_reducible exact e_non
  | with_reducible apply e_op
  | with_reducible exact o_add
  | with_reducible exact o_sub
  | with_reducible apply o_mul
  | with_reducible apply o_mod
  | with_reducible apply o_div
  | with_reducible exact o_lt
  | with_reducible exact o_le
  | with_reducible exact o_gt
  | with_reducible exact o_ge
  | with_reducible exact o_eqI
  | with_reducible exact o_neI
  | with_reducible exact o_eqS
  | with_reducible exact o_neS
  | ((with_reducible apply o_ixT); exact rfl)
  | ((with_reducible apply o_ixL); exact rfl)
  | with_reducible exact a_nil
  | with_reducible apply a_cons
  | with_reducible apply e_tup
  | with_reducible apply e_lst
  | with_reducible apply e_cb
  | with_reducible exact c_int
  | with_reducible exact c_intB
  | with_reducible exact c_abs
  | with_reducible exact c_ord
  | with_reducible exact c_lenL
  | with_reducible exact c_lenT
  | with_reducible exact c_listT
  | with_reducible exact c_tupL
  | with_reducible exact c_tupT
  | with_reducible exact c_all
  | with_reducible exact c_sum
  | with_reducible apply e_sl
  | with_reducible exact p_none
  | with_reducible apply p_some
  | with_reducible exact s_tup
  | with_reducible exact s_lst
  | ((with_reducible show CaD (cList _) _ _); first | exact c_listT | exact c_listL)
  | ((with_reducible show CaD (cTuple _) _ _); first | exact c_tupL | exact c_tupT)
  | with_reducible apply e_neg
  | with_reducible apply o_catL
  | with_reducible apply o_catT
  | with_reducible apply o_catS
  | with_reducible apply t_test
  | with_reducible apply t_b
  | with_reducible apply t_not)
local macro_rules | `(tactic| walk_at "ev") => `(tactic| repeat' walk_at "ev1")
local macro_rules | `(tactic| walk_at "side") => `(tactic| all_goals (try (first | rfl | omega)))
local macro_rules | `(tactic| walk_at "set") => `(tactic| (apply s_set; walk_at "ev"; walk_at "side"))
local macro_rules | `(tactic| walk_at "qset") => `(tactic| (apply q_set; walk_at "ev"; walk_at "side"))
local macro_rules | `(tactic| walk_at "ret") => `(tactic| (apply s_ret; walk_at "ev"; walk_at "side"))
local macro_rules | `(tactic| walk_at "ev1") => `(tactic| with_reducible apply c_coin)
local macro_rules | `(tactic| walk_at "ev1") => `(tactic| with_reducible apply c_challenge)
local macro_rules | `(tactic| walk_at "ev1") => `(tactic| with_reducible apply c_is_exponent2)
local macro_rules | `(tactic| walk_at "ev1") => `(tactic| with_reducible apply c_law_at)
def prs0 (s : Su) (row : List Int) (n : Int) : Pe := ⟨atR row n % s.q, atR row (n + 1) % 5, atR row (n + 2) % 5⟩
def nextP (s : Su) (p : Pe) : Pe := ⟨(p.n + 1) % s.q, p.a, p.z⟩
def prs (s : Su) (row : List Int) (n : Int) : Pe := if mark s (prs0 s row n) = 1 then nextP s (prs0 s row n) else prs0 s row n
theorem goodP0 {s : Su} (hq : Bd s.q) (row : List Int) (n : Int) : GoodPe s.q (prs0 s row n) := by
  unfold Bd at hq
  exact ⟨inQ_iff.mpr ⟨Int.emod_nonneg _ (by omega), Int.emod_lt_of_pos _ (by omega)⟩, inQ_iff.mpr ⟨Int.emod_nonneg _ (by omega), Int.emod_lt_of_pos _ (by omega)⟩, inQ_iff.mpr ⟨Int.emod_nonneg _ (by omega), Int.emod_lt_of_pos _ (by omega)⟩⟩
theorem goodNext {s : Su} (hq : Bd s.q) {p : Pe} (g : GoodPe s.q p) : GoodPe s.q (nextP s p) := by
  unfold Bd at hq
  exact ⟨inQ_iff.mpr ⟨Int.emod_nonneg _ (by omega), Int.emod_lt_of_pos _ (by omega)⟩, g.a, g.z⟩
theorem goodPrs {s : Su} (hq : Bd s.q) (row : List Int) (n : Int) : GoodPe s.q (prs s row n) := by
  unfold prs
  split
  · exact goodNext hq (goodP0 hq row n)
  · exact goodP0 hq row n
def R_law_person : List PyData → PyData → Prop := fun ds d => ∃ (s : Su) (row : List Int) (n : Int), ds = [dSu s, .list (dI row), .int n] ∧ GoodS s ∧ (mark s (prs0 s row n) = 1 → mark s (nextP s (prs0 s row n)) ≠ 1) ∧ d = dPe (prs s row n)
def t_law_person (K : PySem.W.Frag) (CN CB : Addr) : TS := (tSeq (tAsg (tTup (tCons (tOp oMod (tCB cInt (tCons (tCall (SP 2 R_law_at) [] E0 (tCons (tVar 1) (tCons (tVar 2) tNil))) tNil)) (tOp (rIxT K) (tVar 0) (tC (.int 0)))) (tCons (tOp oMod (tCB cInt (tCons (tCall (SP 2 R_law_at) [] E0 (tCons (tVar 1) (tCons (tOp oAdd (tVar 2) (tC (.int 1))) tNil))) tNil)) (tC (.int 5))) (tCons (tOp oMod (tCB cInt (tCons (tCall (SP 2 R_law_at) [] E0 (tCons (tVar 1) (tCons (tOp oAdd (tVar 2) (tC (.int 2))) tNil))) tNil)) (tC (.int 5))) tNil)))) (gName 3))
  (tSeq (tFor (iRng1 (tCons (tC (.int 3)) tNil)) (gName 4) (tTryC (fun W => (tSeq (tDrop (tCallS (SPX 2 R_mark_of (Rx_mark_of CN CB)) (WE W) (tCons (tVar 0) (tCons (tVar 3) tNil))))
  (tRet (tVar 3)))) (wPlain K (.ref CN) (tAsg (tTup (tCons (tOp oMod (tCB cInt (tCons (tOp oAdd (tOp (rIxT K) (tVar 3) (tC (.int 0))) (tC (.int 1))) tNil)) (tOp (rIxT K) (tVar 0) (tC (.int 0)))) (tCons (tOp (rIxT K) (tVar 3) (tC (.int 1))) (tCons (tOp (rIxT K) (tVar 3) (tC (.int 2))) tNil)))) (gName 3)) wNone)))
  (tRet (tVar 3))))
theorem sem_law_person {K : PySem.W.Frag} {CN CB : Addr} (hNN : PySem.W.exmOne K (.ref CN) (.ref CN) = some true) (ds : List PyData) (d : PyData) (h : R_law_person ds d) : S W0 (t_law_person K CN CB) (startR n_law_person ds) none { nx := fun _ _ => d = .none, rt := fun d' => d' = d } := by
  obtain ⟨s, row, n, rfl, gs, hm, rfl⟩ := h
  have hq := gs.q
  have hq' := hq
  unfold Bd at hq'
  have g0 := goodP0 hq row n
  show S W0 _ [some (dSu s), some (.list (dI row)), some (.int n), none, none] none _
  refine q_set (d := dPe (prs0 s row n)) (e_tup (a_cons (e_op (c_at (a_cons (e_var rfl) (a_cons (e_var rfl) a_nil))) (e_op (e_var rfl) e_int (o_ixT rfl)) (o_mod (by omega))) (a_cons (e_op (c_at (a_cons (e_var rfl) (a_cons (e_op (e_var rfl) e_int o_add) a_nil))) e_int (o_mod (by decide))) (a_cons (e_op (c_at (a_cons (e_var rfl) (a_cons (e_op (e_var rfl) e_int o_add) a_nil))) e_int (o_mod (by decide))) a_nil))) (by simp)) rfl ?_
  refine s_seq (s_for (w_rng1 (n := 3) (a_cons e_int a_nil) (by decide)) (fun i ρ ow => ow = none ∧ ∃ x4 p, ρ = [some (dSu s), some (.list (dI row)), some (.int n), some (dPe p), x4] ∧ ((i = 0 ∧ p = prs0 s row n) ∨ (i = 1 ∧ p = nextP s (prs0 s row n) ∧ mark s (prs0 s row n) = 1))) ⟨rfl, none, _, rfl, .inl ⟨rfl, rfl⟩⟩ ?_ ?_)
  · rintro i d ρ1 w1 hd ⟨rfl, x4, p, rfl, hp⟩
    refine ⟨_, _, g_name, rfl, ?_⟩
    have gp : GoodPe s.q p := by
      rcases hp with ⟨_, rfl⟩ | ⟨_, rfl, _⟩
      · exact g0
      · exact goodNext hq g0
    refine s_tryDrop (a_cons (e_var rfl) (a_cons (e_var rfl) a_nil)) rfl ?_
    by_cases m1 : mark s p = 1
    · refine .inr ⟨.ref CN, ⟨s, p, rfl, gs, gp, m1, rfl⟩, s_plain hNN ?_⟩
      rcases hp with ⟨rfl, rfl⟩ | ⟨rfl, rfl, m0⟩
      · exact s_set (d := dPe (nextP s (prs0 s row n))) (e_tup (a_cons (e_op (e_cb (a_cons (e_op (e_op (e_var rfl) e_int (o_ixT rfl)) e_int o_add) a_nil) c_int) (e_op (e_var rfl) e_int (o_ixT rfl)) (o_mod (by omega))) (a_cons (e_op (e_var rfl) e_int (o_ixT rfl)) (a_cons (e_op (e_var rfl) e_int (o_ixT rfl)) a_nil))) (by simp)) rfl ⟨rfl, _, _, rfl, .inr ⟨rfl, rfl, m1⟩⟩
      · exact absurd m1 (hm m0)
    · refine .inl ⟨_, ⟨s, p, rfl, gs, gp, m1, rfl⟩, fun W' => s_ret (e_var rfl) ?_⟩
      show dPe p = dPe (prs s row n)
      unfold prs
      rcases hp with ⟨rfl, rfl⟩ | ⟨rfl, rfl, m0⟩
      · rw [if_neg m1]
      · rw [if_pos m0]
  · rintro ρ' w' ⟨rfl, x4, p, rfl, hp⟩
    rcases hp with ⟨h3, _⟩ | ⟨h3, _⟩
    · cases h3
    · cases h3
theorem der_law_person {P : Program} {w : World} {K : PySem.W.Frag} {mg : Str → Option Value} {base : Heap} {CN CB : Addr} {f : Addr} (h : Wd K mg CN CB) (cdv : Value) (A : Around) (outer : List PySem.Env) (s : Shared) (H : Hp) (E : XK) (hr : Room 7 (A.deeper (envOfC "_law_person" (defScope s_law_person) s.heap.objs.size f cdv))) :
    PSs ((cxOf CX0 P w K mg base n_law_person "_law_person" (defScope s_law_person) f cdv A outer s H E).nox) (defBody s_law_person) (t_law_person K CN CB) :=
  (pss_cons (ps_set (i := 3) sc_law_person.nd rfl (by first | exact Or.inl rfl | exact Or.inr rfl) (pe_tup (pa_cons (pe_op op_mod (pe_callTy call_int1 (by rfl) h.f_int bt_int (pa_cons (pe_c (pr_law_at h) (hr.mono (by decide)) pass0 (pa_cons (pv 1) (pa_cons (pv 2) pa_nil))) pa_nil)) (pe_ix ix_tup (pv 0) pe_int (fun _ _ => rfl))) (pa_cons (pe_op op_mod (pe_callTy call_int1 (by rfl) h.f_int bt_int (pa_cons (pe_c (pr_law_at h) (hr.mono (by decide)) pass0 (pa_cons (pv 1) (pa_cons (pe_op op_add (pv 2) pe_int) pa_nil))) pa_nil)) pe_int) (pa_cons (pe_op op_mod (pe_callTy call_int1 (by rfl) h.f_int bt_int (pa_cons (pe_c (pr_law_at h) (hr.mono (by decide)) pass0 (pa_cons (pv 1) (pa_cons (pe_op op_add (pv 2) pe_int) pa_nil))) pa_nil)) pe_int) pa_nil)))))
  (pss_cons (ps_for PassesOwn.never rfl (pi_range1 (by rfl) h.f_range (pa_cons pe_int pa_nil)) (pg_name (i := 4) sc_law_person.nd rfl (by first | exact Or.inl rfl | exact Or.inr rfl)) (pss_one (ps_tryD rfl rfl (fun W pn xe tk => (pss_cons (ps_expr (pe_cX (pr_mark_of h) hr tk (pa_cons (pv 0) (pa_cons (pv 3) pa_nil))))
  (pss_one (ps_ret (pv 3))))) (cls_plain ⟨by rfl, by decide, .inl h.gN⟩ (fun _ _ _ => (pss_one (ps_set (i := 3) sc_law_person.nd rfl (by first | exact Or.inl rfl | exact Or.inr rfl) (pe_tup (pa_cons (pe_op op_mod (pe_callTy call_int1 (by rfl) h.f_int bt_int (pa_cons (pe_op op_add (pe_ix ix_tup (pv 3) pe_int (fun _ _ => rfl)) pe_int) pa_nil)) (pe_ix ix_tup (pv 0) pe_int (fun _ _ => rfl))) (pa_cons (pe_ix ix_tup (pv 3) pe_int (fun _ _ => rfl)) (pa_cons (pe_ix ix_tup (pv 3) pe_int (fun _ _ => rfl)) pa_nil))))))) cls_none))))
  (pss_one (ps_ret (pv 3)))))
theorem pr_law_person {P : Program} {w : World} {K : PySem.W.Frag} {mg : Str → Option Value} {base : Heap} {CN CB : Addr} (h : Wd K mg CN CB) : Pr P w K mg base CX0 8 "_law_person" ["_law_setup_here", "_law_row_here", "_law_at_here"] (SP 3 R_law_person) := by
  obtain ⟨f, fd, F, g⟩ := h.d_law_person
  exact ⟨f, fd, okD F sc_law_person (t_law_person K CN CB) (der_law_person h) (sem_law_person h.mNN (CN := CN) (CB := CB)), g, F.kp, F.bindsN fun _ _ _ _ _ _ us hl => match us, hl with | [_, _, _], _ => rfl⟩
theorem c_law_person {ρ : Ev} {ta : TA} {s : Su} {row : List Int} {n : Int} (h : A ta ρ [dSu s, .list (dI row), .int n]) (gs : GoodS s) (hm : mark s (prs0 s row n) = 1 → mark s (nextP s (prs0 s row n)) ≠ 1) : E (tCall (SP 3 R_law_person) [] E0 ta) ρ (dPe (prs s row n)) := e_call h rfl ⟨_, _, _, rfl, gs, hm, rfl⟩
/-! ### what is told -/
def toldS (s : Su) (key : Int) (x : Ct) (ps : List Q2) (t : Tk) (y : Sn) (pp : List Pp) : Str := if ps.isEmpty then "not allowed" else if showB s key x ps t y pp then "right" else "bad"
def R_law_told : List PyData → PyData → Prop := fun ds d => ∃ (s : Su) (key : Int) (x : Ct) (ps : List Q2) (t : Tk) (y : Sn) (pp : List Pp), ds = [dSu s, .int key, dCt x, dPs ps, dSh t y pp] ∧ GoodW s key x ps t y pp ∧ (ps ≠ [] → ps.length = pp.length) ∧ d = .str (toldS s key x ps t y pp)
def t_law_told (K : PySem.W.Frag) (CN CB : Addr) (CC CF : Addr) : TS := (tSeq (tTryC (fun W => (tIfS (tB (tNotN (tCallS (SPX 5 R_check_showing (Rx_check_showing CN CB)) (WE W) (tCons (tVar 0) (tCons (tVar 1) (tCons (tVar 2) (tCons (tVar 3) (tCons (tVar 4) tNil)))))))) (tRet (tC (.str "other"))) tNext)) (wNamed K (.ref CB) 5 (fun a cls d => tOnly (cls = .ref CB ∧ d = none) (tRet (tOp (rIxL K) (tLst (tCons (tC (.str "other")) (tCons (tC (.str "bad")) tNil))) (tCB cInt (tCons (tAndV (tCB (rIsE K CB a) (tCons (tVar 5) (tCons (tC (.ref CC)) tNil))) (tNotV (tCB (rIsET K CB a) (tCons (tVar 5) (tCons (tTup (tCons (tC (.ref CF)) (tCons (tC (.ref CN)) tNil))) tNil))))) tNil))))) (wPlain K (.ref CN) (tRet (tC (.str "not allowed"))) wNone)))
  (tRet (tC (.str "right"))))
theorem sem_law_told {K : PySem.W.Frag} {CN CB CC CF : Addr} (hNN : PySem.W.exmOne K (.ref CN) (.ref CN) = some true) (hNB : PySem.W.exmOne K (.ref CN) (.ref CB) = some false) (hBB : PySem.W.exmOne K (.ref CB) (.ref CB) = some true) (h1 : PySem.W.kitOne K (.ref CB) (.ref CC) = some true) (h2 : PySem.W.kitAny K (.ref CB) [.ref CF, .ref CN] = some false)
    (ds : List PyData) (d : PyData) (h : R_law_told ds d) : S W0 (t_law_told K CN CB CC CF) (startR n_law_told ds) none { nx := fun _ _ => d = .none, rt := fun d' => d' = d } := by
  obtain ⟨s, key, x, ps, t, y, pp, rfl, g, hl, rfl⟩ := h
  show S W0 _ [some (dSu s), some (.int key), some (dCt x), some (dPs ps), some (dSh t y pp), none] none _
  refine s_seq (s_tryNone (a_cons (e_var rfl) (a_cons (e_var rfl) (a_cons (e_var rfl) (a_cons (e_var rfl) (a_cons (e_var rfl) a_nil))))) rfl ?_)
  by_cases hne : ps = []
  · subst hne
    exact .inr ⟨.ref CN, ⟨s, key, x, [], t, y, pp, rfl, g, .inl ⟨rfl, rfl⟩⟩, s_namedNo hNB (s_plain hNN (s_ret e_str rfl))⟩
  · have he : ps.isEmpty = false := by
      cases ps with
      | nil => exact absurd rfl hne
      | cons _ _ => rfl
    cases hb : showB s key x ps t y pp with
    | true =>
      refine .inl ⟨⟨s, key, x, ps, t, y, pp, rfl, g, hne, hl hne, hb, rfl⟩, s_ret e_str ?_⟩
      show PyData.str _ = .str (toldS s key x ps t y pp)
      unfold toldS
      rw [he, hb]
      rfl
    | false =>
      refine .inr ⟨.ref CB, ⟨s, key, x, ps, t, y, pp, rfl, g, .inr ⟨hne, hl hne, hb, rfl⟩⟩, s_suite hBB h1 h2 (by simp) ?_⟩
      show PyData.str _ = .str (toldS s key x ps t y pp)
      unfold toldS
      rw [he, hb]
      rfl
theorem der_law_told {P : Program} {w : World} {K : PySem.W.Frag} {mg : Str → Option Value} {base : Heap} {CN CB : Addr} {f : Addr} (h : Wd K mg CN CB) {CC CF : Addr} (hC : mg "CloakError" = some (.ref CC)) (hF : mg "BadForm" = some (.ref CF)) (cdv : Value) (A : Around) (outer : List PySem.Env) (s : Shared) (H : Hp) (E : XK) (hr : Room 9 (A.deeper (envOfC "_law_told" (defScope s_law_told) s.heap.objs.size f cdv))) :
    PSs ((cxOf CX0 P w K mg base n_law_told "_law_told" (defScope s_law_told) f cdv A outer s H E).nox) (defBody s_law_told) (t_law_told K CN CB CC CF) :=
  (pss_cons (ps_tryD rfl rfl (fun W pn xe tk => (pss_one (ps_if (pt_cmp (pc_notN (pe_cX (pr_check_showing h) hr tk (pa_cons (pv 0) (pa_cons (pv 1) (pa_cons (pv 2) (pa_cons (pv 3) (pa_cons (pv 4) pa_nil)))))))) (pss_one (ps_ret pe_str)) pss_nil))) (cls_named (i := 5) sc_law_told.nd rfl rfl ⟨by rfl, by decide, .inl h.gB⟩ (fun a oe cls d pn hz hf => pss_only fun z => by
    obtain ⟨rfl, rfl⟩ := z
    exact (pss_one (ps_ret (pe_ix ix_list (pe_lst (pa_cons pe_str (pa_cons pe_str pa_nil))) (pe_callTy call_int1 (by rfl) h.f_int bt_int (pa_cons (pe_and (pe_callB (call_isE h.isB hz hf) (by rfl) h.f_isinstance bt_isinstance (pa_cons (pv 5) (pa_cons (pe_glob (by rfl) hC rfl) pa_nil))) (pe_one (pe_not (pe_callB (call_isET h.isB hz hf) (by rfl) h.f_isinstance bt_isinstance (pa_cons (pv 5) (pa_cons (pe_tup (pa_cons (pe_glob (by rfl) hF rfl) (pa_cons (pe_glob (by rfl) h.gN rfl) pa_nil))) pa_nil)))))) pa_nil)) (fun _ _ => rfl))))) (cls_plain ⟨by rfl, by decide, .inl h.gN⟩ (fun _ _ _ => (pss_one (ps_ret pe_str))) cls_none)))
  (pss_one (ps_ret pe_str)))
theorem pr_law_told {P : Program} {w : World} {K : PySem.W.Frag} {mg : Str → Option Value} {base : Heap} {CN CB : Addr} (h : Wd K mg CN CB) : Pr P w K mg base CX0 10 "_law_told" ["_law_setup_here", "_law_key", "_law_context", "_law_pairs_here", "_law_showing"] (SP 5 R_law_told) := by
  obtain ⟨f, fd, F, g⟩ := h.d_law_told
  obtain ⟨CC, hC, k1⟩ := h.isC
  obtain ⟨CF, hF, k2⟩ := h.isF
  exact ⟨f, fd, okD F sc_law_told (t_law_told K CN CB CC CF) (der_law_told h hC hF) (sem_law_told h.mNN h.mNB h.mBB k1 k2), g, F.kp, F.bindsN fun _ _ _ _ _ _ us hl => match us, hl with | [_, _, _, _, _], _ => rfl⟩
theorem c_law_told {ρ : Ev} {ta : TA} {s : Su} {key : Int} {x : Ct} {ps : List Q2} {t : Tk} {y : Sn} {pp : List Pp} (h : A ta ρ [dSu s, .int key, dCt x, dPs ps, dSh t y pp]) (g : GoodW s key x ps t y pp) (hl : ps ≠ [] → ps.length = pp.length) : E (tCall (SP 5 R_law_told) [] E0 ta) ρ (.str (toldS s key x ps t y pp)) :=
  e_call h rfl ⟨_, _, _, _, _, _, _, rfl, g, hl, rfl⟩
end Ck

set_option Elab.async false
set_option linter.all false
set_option maxRecDepth 100000
set_option maxHeartbeats 1000000
set_option autoImplicit false
/-! # The row of the script, by hand: the script may lie in the heap or in the written part -/
namespace Ck
open PySem PySem.Spec PyProof.Rows L2
local macro_rules | `(tactic| walk_at "ev1") => `(tactic| first
  | ((with_reducible apply e_var); exact rfl)
  | with_reducible exact e_int
  | with_reducible exact e_str
  | with_reducible exact e_bl
  | with_reducible exact e_non
  | with_reducible apply e_op
  | with_reducible exact o_add
  | with_reducible exact o_sub
  | with_reducible apply o_mul
  | with_reducible apply o_mod
  | with_reducible apply o_div
  | with_reducible exact o_lt
  | with_reducible exact o_le
  | with_reducible exact o_gt
  | with_reducible exact o_ge
  | with_reducible exact o_eqI
  | with_reducible exact o_neI
  | with_reducible exact o_eqS
  | with_reducible exact o_neS
  | ((with_reducible apply o_ixT); exact rfl)
  | ((with_reducible apply o_ixL); exact rfl)
  | with_reducible exact a_nil
  | with_reducible apply a_cons
  | with_reducible apply e_tup
  | with_reducible apply e_lst
  | with_reducible apply e_cb
  | with_reducible exact c_int
  | with_reducible exact c_intB
  | with_reducible exact c_abs
  | with_reducible exact c_ord
  | with_reducible exact c_lenL
  | with_reducible exact c_lenT
  | with_reducible exact c_listT
  | with_reducible exact c_tupL
  | with_reducible exact c_tupT
  | with_reducible exact c_all
  | with_reducible exact c_sum
  | with_reducible apply e_sl
  | with_reducible exact p_none
  | with_reducible apply p_some
  | with_reducible exact s_tup
  | with_reducible exact s_lst
  | ((with_reducible show CaD (cList _) _ _); first | exact c_listT | exact c_listL)
  | ((with_reducible show CaD (cTuple _) _ _); first | exact c_tupL | exact c_tupT)
  | with_reducible apply e_neg
  | with_reducible apply o_catL
  | with_reducible apply o_catT
  | with_reducible apply o_catS
  | with_reducible apply t_test
  | with_reducible apply t_b
  | with_reducible apply t_not)
local macro_rules | `(tactic| walk_at "ev") => `(tactic| repeat' walk_at "ev1")
local macro_rules | `(tactic| walk_at "side") => `(tactic| all_goals (try (first | rfl | omega)))
local macro_rules | `(tactic| walk_at "set") => `(tactic| (apply s_set; walk_at "ev"; walk_at "side"))
local macro_rules | `(tactic| walk_at "qset") => `(tactic| (apply q_set; walk_at "ev"; walk_at "side"))
local macro_rules | `(tactic| walk_at "ret") => `(tactic| (apply s_ret; walk_at "ev"; walk_at "side"))
local macro_rules | `(tactic| walk_at "ev1") => `(tactic| with_reducible apply c_coin)
local macro_rules | `(tactic| walk_at "ev1") => `(tactic| with_reducible apply c_challenge)
local macro_rules | `(tactic| walk_at "ev1") => `(tactic| with_reducible apply c_is_exponent2)
local macro_rules | `(tactic| walk_at "ev1") => `(tactic| with_reducible apply c_law_at)
def iE1 : Option V → Option PyData
  | some (.int n) => some (.int n)
  | _ => none
def iE (σ : L2.St) : Ev := σ.map iE1
theorem iE_ok (G : Hp) (σ : L2.St) : EnvD G σ (iE σ) := by
  refine ⟨by simp [iE], fun i d q => ?_⟩
  unfold iE at q
  rw [List.getElem?_map] at q
  cases e : σ[i]? with
  | none => rw [e] at q; cases q
  | some o =>
    rw [e] at q
    have q' : iE1 o = some d := Option.some.inj q
    match o, q' with
    | some (.int n), q' =>
      cases q'
      exact ⟨_, rfl, .int n⟩
theorem run_int {te : TE} {σ : L2.St} {H : Hp} {Q : VK} {i : Int} (h : E te (iE σ) (.int i)) (k : ∀ H2, Same H H2 → Q (.int i) H2) : te σ H Q :=
  h σ H (fun _ => none) (fun _ _ z => by cases z) (iE_ok _ _) Q fun v H2 G2 a i => by
    rw [i.int_eq]
    exact k H2 a.h
theorem run_test {tt : TT} {σ : L2.St} {H : Hp} {Q : Bool → Hp → Prop} {b : Bool} (h : T tt (iE σ) b) (k : ∀ H2, Same H H2 → Q b H2) : tt σ H Q :=
  h σ H (fun _ => none) (fun _ _ z => by cases z) (iE_ok _ _) Q fun H2 G2 a => k H2 a.h
section
variable {K : PySem.W.Frag} {D : Ends} {σ : L2.St} {H : Hp} {te : TE} {i : Int}
theorem r_append {p : Addr} {xs : List V} (h1 : σ[1]? = some (some (.ref p))) (h4 : H p = some (.lst xs)) (hl : xs.length < 100000) (h : E te (iE σ) (.int i)) (k : ∀ H2, Same H H2 → D.nx σ (upd H2 p (.lst (xs ++ [.int i])))) : (tDrop (tBM K "list" rAppend (tVar 1) (tCons te tNil))) D σ H := by
  refine ⟨_, h1, .inl ⟨rfl, xs, SqL.of h4⟩, ?_⟩
  refine run_int h fun H2 s => ?_
  exact ⟨p, xs, .int i, rfl, rfl, s _ _ h4, Nat.lt_of_lt_of_le hl (by decide), k H2 s⟩
theorem r_seq {t u : TS} (h : t { D with nx := u D } σ H) : (tSeq t u) D σ H := h
theorem r_own {j : Nat} (h : ∀ p, H p = none → D.nx (σ.set j (some (.ref p))) (upd H p (.lst []))) : (tAsg (tLst tNil) (gName j)) D σ H := ⟨by decide, fun p hp => h p hp⟩
theorem r_if {c : TT} {t u : TS} {b : Bool} (h : T c (iE σ) b) (k1 : b = true → ∀ H2, Same H H2 → t D σ H2) (k2 : b = false → ∀ H2, Same H H2 → u D σ H2) : (tIfS c t u) D σ H := run_test h fun H2 s => by
  cases b with
  | true => exact k1 rfl H2 s
  | false => exact k2 rfl H2 s
theorem r_set {j : Nat} (h : E te (iE σ) (.int i)) (k : ∀ H2, Same H H2 → D.nx (σ.set j (some (.int i))) H2) : (tAsg te (gName j)) D σ H := run_int h k
theorem r_for {wi : TI} {tb : TS} {j n : Nat} (hw : ∀ R : It → Hp → Prop, (∀ H2, Same H H2 → R (Itr 0 n) H2) → wi σ H R) (I : Nat → L2.St → Hp → Prop) (h0 : ∀ H2, Same H H2 → I 0 σ H2)
    (hs : ∀ i σ' H', i < n → I i σ' H' → tb { D with nx := I (i + 1), ct := I (i + 1), bk := D.nx } (σ'.set j (some (.int (0 + (i : Nat))))) H') (hd : ∀ σ' H', I n σ' H' → D.nx σ' H') : (tFor wi (gName j) tb) D σ H := by
  refine hw _ fun H2 s => ?_
  refine ⟨fun i m σ' H' => m = n - i ∧ i ≤ n ∧ I i σ' H', ⟨n, rfl, Nat.zero_le _, h0 H2 s⟩, ?_⟩
  rintro i m σ' H' ⟨rfl, hi, hI⟩
  by_cases hlt : i < n
  · refine .inr ⟨hlt, I (i + 1), fun σ2 H2 h => ⟨n - (i + 1), by omega, rfl, hlt, h⟩, fun x H2 y => ?_⟩
    obtain ⟨rfl, rfl⟩ := y
    exact hs i σ' _ hlt hI
  · have e : i = n := by omega
    subst e
    exact .inl ⟨Nat.le_refl _, hd σ' H' hI⟩
theorem w_const {n : Int} (hn : 0 ≤ n ∧ n < 2 ^ 62) (R : It → Hp → Prop) (k : ∀ H2, Same H H2 → R (Itr 0 n.toNat) H2) : iRng1 (tCons (tC (.int n)) tNil) σ H R := ⟨n, rfl, by omega, hn.2, k H (Same.refl H)⟩
end
theorem sql_keep {K : PySem.W.Frag} {H H2 : Hp} {a : Addr} {xs : List V} (h : SqL K H a xs) (s : Same H H2) : SqL K H2 a xs := by
  rcases h with h | h
  · rcases h with h | ⟨o, h⟩
    · exact .inl (.inl (s _ _ h))
    · exact .inl (.inr ⟨o, s _ _ h⟩)
  · exact .inr h
/-- what the row's list holds -/
structure RowAt (H0 : Hp) (p : Addr) (n : Nat) (H : Hp) : Prop where
  s : Same H0 H
  ex : ∃ ys : List Int, H p = some (.lst (ys.map V.int)) ∧ (∀ y ∈ ys, 0 ≤ y ∧ y < 1009) ∧ ys.length ≤ n
theorem RowAt.mono {H0 H H2 : Hp} {p : Addr} {n : Nat} (r : RowAt H0 p n H) (s : Same H H2) : RowAt H0 p n H2 := by
  obtain ⟨s0, ys, h1, h2, h3⟩ := r
  exact ⟨s0.trans s, ys, s _ _ h1, h2, h3⟩
theorem RowAt.le {H0 H : Hp} {p : Addr} {n m : Nat} (r : RowAt H0 p n H) (h : n ≤ m) : RowAt H0 p m H := by
  obtain ⟨s0, ys, h1, h2, h3⟩ := r
  exact ⟨s0, ys, h1, h2, by omega⟩
/-- row.append(e % 1009) -/
theorem row_append {K : PySem.W.Frag} {D : Ends} {σ : L2.St} {H H0 : Hp} {p : Addr} {n : Nat} {te : TE} {i : Int} (h0 : H0 p = none) (h1 : σ[1]? = some (some (.ref p))) (r : RowAt H0 p n H) (hn : n < 100000) (h : E te (iE σ) (.int (i % 1009))) (k : ∀ H2, RowAt H0 p (n + 1) H2 → D.nx σ H2) : (tDrop (tBM K "list" rAppend (tVar 1) (tCons te tNil))) D σ H := by
  obtain ⟨s0, ys, e1, e2, e3⟩ := r
  refine r_append h1 e1 (by rw [List.length_map]; omega) h fun H2 s => k _ ⟨fun c u z => ?_, ys ++ [i % 1009], ?_, fun y hy => ?_, by rw [List.length_append]; simp only [List.length_cons, List.length_nil]; omega⟩
  · rw [upd_ne (ne_of_none z h0)]
    exact s _ _ (s0 _ _ z)
  · rw [upd_same, List.map_append]
    rfl
  · rcases List.mem_append.mp hy with hy | hy
    · exact e2 y hy
    · rw [List.mem_singleton.mp hy]
      exact ⟨Int.emod_nonneg _ (by decide), Int.emod_lt_of_pos _ (by decide)⟩
def t_law_row (K : PySem.W.Frag) (CN CB : Addr) : TS := (tSeq (tAsg (tLst tNil) (gName 1))
  (tSeq (tFor (iRng1 (tCons (tCB (cLen K) (tCons (tVar 0) tNil)) tNil)) (gName 2) (tSeq (tAsg (tCB cAbs (tCons (tCB cInt (tCons (tOp (rIxL K) (tVar 0) (tVar 2)) tNil)) tNil)) (gName 3))
  (tIfS (tTest (tOp oGe (tVar 3) (tOp oPow (tC (.int 10)) (tC (.int 18))))) (tFor (iRng1 (tCons (tC (.int 40)) tNil)) (gName 4) (tIfS (tTest (tOp oGt (tVar 3) (tC (.int 0)))) (tSeq (tDrop (tBM K "list" rAppend (tVar 1) (tCons (tOp oMod (tCB cInt (tCons (tVar 3) tNil)) (tC (.int 1009))) tNil)))
  (tAsg (tOp oDiv (tVar 3) (tC (.int 1009))) (gName 3))) tNext)) (tSeq (tAsg (tOp oMod (tCB cInt (tCons (tOp oAdd (tOp oAdd (tOp oMul (tVar 3) (tC (.int 48271))) (tOp oMul (tVar 2) (tC (.int 69621)))) (tC (.int 12345))) tNil)) (tC (.int 2147483647))) (gName 5))
  (tFor (iRng1 (tCons (tC (.int 6)) tNil)) (gName 4) (tSeq (tAsg (tOp oMod (tCB cInt (tCons (tOp oAdd (tOp oAdd (tOp oMul (tVar 5) (tC (.int 16807))) (tOp oMul (tC (.int 11)) (tVar 4))) (tC (.int 1))) tNil)) (tC (.int 2147483647))) (gName 5))
  (tDrop (tBM K "list" rAppend (tVar 1) (tCons (tOp oMod (tCB cInt (tCons (tOp oDiv (tVar 5) (tC (.int 7))) tNil)) (tC (.int 1009))) tNil)))))))))
  (tRet (tVar 1))))
/-- the big cell: its digits -/
def SPr (K : PySem.W.Frag) : Sp := fun vs H Q _ => ∃ (a : Addr) (ns : List Int), vs = [.ref a] ∧ SqL K H a (ns.map V.int) ∧ ns.length ≤ 63 ∧ ∀ (ys : List Int) (p : Addr) (H2 : Hp), RowOk ys → Same H H2 → H p = none → H2 p = some (.lst (ys.map V.int)) → Q (.ref p) H2
theorem sem_law_row {K : PySem.W.Frag} {CN CB : Addr} {D : Ends} {H : Hp} {a : Addr} {ns : List Int} (hs : SqL K H a (ns.map V.int)) (hl : ns.length ≤ 63) (k : ∀ (ys : List Int) (p : Addr) (H2 : Hp), RowOk ys → Same H H2 → H p = none → H2 p = some (.lst (ys.map V.int)) → D.rt (.ref p) H2) :
    t_law_row K CN CB D [some (.ref a), none, none, none, none, none] H := by
  refine r_seq (r_own fun p hp => ?_)
  have st : RowAt H p 0 (upd H p (.lst [])) := ⟨Same.new hp, [], upd_same, fun y hy => (by cases hy), Nat.le_refl _⟩
  try dsimp only
  refine r_seq (r_for (σ := [some (.ref a), some (.ref p), none, none, none, none]) (n := ns.length) (fun R q => ?_) (fun i σ H' => ∃ x2 x3 x4 x5, σ = [some (.ref a), some (.ref p), x2, x3, x4, x5] ∧ RowAt H p (40 * i) H') (fun H2 s => ⟨_, _, _, _, rfl, st.mono s⟩) ?_ ?_)
  · refine ⟨.ref a, rfl, ⟨a, ns.map V.int, rfl, .inl (sql_keep hs st.s), ⟨((ns.map V.int).length : Nat), rfl, by omega, by rw [List.length_map]; omega, ?_⟩⟩⟩
    rw [List.length_map, Int.toNat_natCast]
    exact q _ (Same.refl _)
  · rintro i σ H' hi ⟨x2, x3, x4, x5, rfl, r⟩
    obtain ⟨n, hn⟩ : ∃ n, ns[i]? = some n := ⟨ns[i], by simp⟩
    have an : atI (ns.map V.int) (0 + (i : Nat)) = some (.int n) := by
      rw [Int.zero_add]
      exact atI_nat (at_map hn)
    have sq' := sql_keep hs r.s
    try dsimp only
    refine r_seq ?_
    refine ⟨.ref a, rfl, ⟨.int (0 + (i : Nat)), rfl, ⟨a, ns.map V.int, (0 + (i : Nat) : Int), .int n, rfl, rfl, sq', an, .inl ⟨n, rfl, ⟨n, rfl, ?_⟩⟩⟩⟩⟩
    have hc : 0 ≤ (if n < 0 then -n else n) := by split <;> omega
    generalize (if n < 0 then -n else n) = c at hc
    try dsimp only
    refine r_if (σ := [some (.ref a), some (.ref p), some (.int (0 + (i : Nat))), some (.int c), x4, x5]) (b := decide (((10 : Int) ^ (18 : Int).toNat) ≤ c)) (t_test (e_op (e_var rfl) (e_op e_int e_int (o_pow ⟨by decide, by decide, by decide⟩)) o_ge)) (fun _ H2 s2 => ?_) (fun _ H2 s2 => ?_)
    · have r2 := r.mono s2
      try dsimp only
      refine r_for (n := (40 : Int).toNat) (fun R q => w_const (by decide) R q) (fun j σ H' => ∃ x3 x4, σ = [some (.ref a), some (.ref p), some (.int (0 + (i : Nat))), some (.int x3), x4, x5] ∧ RowAt H p (40 * i + j) H') (fun H3 s3 => ⟨_, _, rfl, r2.mono s3⟩) ?_ ?_
      · rintro j σ H' hj ⟨x3, x4, rfl, r3⟩
        have hj' : j < 40 := hj
        try dsimp only
        refine r_if (σ := [some (.ref a), some (.ref p), some (.int (0 + (i : Nat))), some (.int x3), some (.int (0 + (j : Nat))), x5]) (t_test (e_op (e_var rfl) e_int o_gt)) (fun _ H4 s4 => ?_) (fun _ H4 s4 => ⟨_, _, rfl, (r3.mono s4).le (by omega)⟩)
        try dsimp only
        refine r_seq (row_append (i := x3) hp rfl (r3.mono s4) (by omega) (e_op (e_cb (a_cons (e_var rfl) a_nil) c_int) e_int (o_mod (by decide))) fun H5 r5 => ?_)
        try dsimp only
        exact r_set (e_op (e_var rfl) e_int (o_div (by decide))) fun H6 s6 => ⟨_, _, rfl, r5.mono s6⟩
      · rintro σ H' ⟨x3, x4, rfl, r3⟩
        exact ⟨_, _, _, _, rfl, r3.le (by show 40 * i + 40 ≤ 40 * (i + 1); omega)⟩
    · try dsimp only
      refine r_seq (r_set (e_op (e_cb (a_cons (e_op (e_op (e_op (e_var rfl) e_int (o_mul (.inr (by decide)))) (e_op (e_var rfl) e_int (o_mul (.inr (by decide)))) o_add) e_int o_add) a_nil) c_int) e_int (o_mod (by decide))) fun H3 s3 => ?_)
      have r3 := (r.mono s2).mono s3
      generalize (c * 48271 + (0 + (i : Nat)) * 69621 + 12345) % 2147483647 = m
      try dsimp only
      refine r_for (σ := [some (.ref a), some (.ref p), some (.int (0 + (i : Nat))), some (.int c), x4, some (.int m)]) (n := (6 : Int).toNat) (fun R q => w_const (by decide) R q) (fun j σ H' => ∃ x4 m, σ = [some (.ref a), some (.ref p), some (.int (0 + (i : Nat))), some (.int c), x4, some (.int m)] ∧ RowAt H p (40 * i + j) H') (fun H4 s4 => ⟨_, _, rfl, r3.mono s4⟩) ?_ ?_
      · rintro j σ H' hj ⟨x4, m, rfl, r4⟩
        have hj' : j < 6 := hj
        try dsimp only
        refine r_seq (r_set (σ := [some (.ref a), some (.ref p), some (.int (0 + (i : Nat))), some (.int c), some (.int (0 + (j : Nat))), some (.int m)]) (e_op (e_cb (a_cons (e_op (e_op (e_op (e_var rfl) e_int (o_mul (.inr (by decide)))) (e_op e_int (e_var rfl) (o_mul (.inl (by decide)))) o_add) e_int o_add) a_nil) c_int) e_int (o_mod (by decide))) fun H5 s5 => ?_)
        generalize (m * 16807 + 11 * (0 + (j : Nat)) + 1) % 2147483647 = m2
        try dsimp only
        exact row_append (σ := [some (.ref a), some (.ref p), some (.int (0 + (i : Nat))), some (.int c), some (.int (0 + (j : Nat))), some (.int m2)]) (i := m2 / 7) hp rfl (r4.mono s5) (by omega) (e_op (e_cb (a_cons (e_op (e_var rfl) e_int (o_div (by decide))) a_nil) c_int) e_int (o_mod (by decide))) fun H6 r6 => ⟨_, _, rfl, r6⟩
      · rintro σ H' ⟨x4, m, rfl, r4⟩
        exact ⟨_, _, _, _, rfl, r4.le (by show 40 * i + 6 ≤ 40 * (i + 1); omega)⟩
  · rintro σ H' ⟨x2, x3, x4, x5, rfl, s0, ys, h1, h2, h3⟩
    exact ⟨.ref p, rfl, k ys p H' ⟨h2, by omega⟩ s0 hp h1⟩
theorem der_law_row {P : Program} {w : World} {K : PySem.W.Frag} {mg : Str → Option Value} {base : Heap} {CN CB : Addr} {f : Addr} (h : Wd K mg CN CB) (cdv : Value) (A : Around) (outer : List PySem.Env) (s : Shared) (H : Hp) (E : XK) (hr : Room 0 (A.deeper (envOfC "_law_row" (defScope s_law_row) s.heap.objs.size f cdv))) :
    PSs ((cxOf CX0 P w K mg base n_law_row "_law_row" (defScope s_law_row) f cdv A outer s H E).nox) (defBody s_law_row) (t_law_row K CN CB) :=
  (pss_cons (ps_set (i := 1) sc_law_row.nd rfl (by first | exact Or.inl rfl | exact Or.inr rfl) (pe_lst pa_nil))
  (pss_cons (ps_for PassesOwn.never rfl (pi_range1 (by rfl) h.f_range (pa_cons (pe_callB call_len_seq (by rfl) h.f_len bt_len (pa_cons (pv 0) pa_nil)) pa_nil)) (pg_name (i := 2) sc_law_row.nd rfl (by first | exact Or.inl rfl | exact Or.inr rfl)) (pss_cons (ps_set (i := 3) sc_law_row.nd rfl (by first | exact Or.inl rfl | exact Or.inr rfl) (pe_callB call_abs (by rfl) h.f_abs bt_abs (pa_cons (pe_callTy call_int1 (by rfl) h.f_int bt_int (pa_cons (pe_ix ix_list (pv 0) (pv 2) (fun _ _ => rfl)) pa_nil)) pa_nil)))
  (pss_one (ps_if (pt_cmpR op_ge (pv 3) (pe_op op_pow pe_int pe_int) (nomark _)) (pss_one (ps_for PassesOwn.never rfl (pi_range1 (by rfl) h.f_range (pa_cons pe_int pa_nil)) (pg_name (i := 4) sc_law_row.nd rfl (by first | exact Or.inl rfl | exact Or.inr rfl)) (pss_one (ps_if (pt_cmpR op_gt (pv 3) pe_int (nomark _)) (pss_cons (ps_expr (pe_bm PySem.F.plainAttrs_list PySem.F.slot_list_append PySem.F.type_list_append mt_append (pv 1) (pa_cons (pe_op op_mod (pe_callTy call_int1 (by rfl) h.f_int bt_int (pa_cons (pv 3) pa_nil)) pe_int) pa_nil)))
  (pss_one (ps_set (i := 3) sc_law_row.nd rfl (by first | exact Or.inl rfl | exact Or.inr rfl) (pe_op op_fdiv (pv 3) pe_int)))) pss_nil)))) (pss_cons (ps_set (i := 5) sc_law_row.nd rfl (by first | exact Or.inl rfl | exact Or.inr rfl) (pe_op op_mod (pe_callTy call_int1 (by rfl) h.f_int bt_int (pa_cons (pe_op op_add (pe_op op_add (pe_op op_mul (pv 3) pe_int) (pe_op op_mul (pv 2) pe_int)) pe_int) pa_nil)) pe_int))
  (pss_one (ps_for PassesOwn.never rfl (pi_range1 (by rfl) h.f_range (pa_cons pe_int pa_nil)) (pg_name (i := 4) sc_law_row.nd rfl (by first | exact Or.inl rfl | exact Or.inr rfl)) (pss_cons (ps_set (i := 5) sc_law_row.nd rfl (by first | exact Or.inl rfl | exact Or.inr rfl) (pe_op op_mod (pe_callTy call_int1 (by rfl) h.f_int bt_int (pa_cons (pe_op op_add (pe_op op_add (pe_op op_mul (pv 5) pe_int) (pe_op op_mul pe_int (pv 4))) pe_int) pa_nil)) pe_int))
  (pss_one (ps_expr (pe_bm PySem.F.plainAttrs_list PySem.F.slot_list_append PySem.F.type_list_append mt_append (pv 1) (pa_cons (pe_op op_mod (pe_callTy call_int1 (by rfl) h.f_int bt_int (pa_cons (pe_op op_fdiv (pv 5) pe_int) pa_nil)) pe_int) pa_nil))))))))))))
  (pss_one (ps_ret (pv 1)))))
theorem pr_law_row {P : Program} {w : World} {K : PySem.W.Frag} {mg : Str → Option Value} {base : Heap} {CN CB : Addr} (h : Wd K mg CN CB) : Pr P w K mg base CX0 1 "_law_row" ["_law_script"] (SPr K) := by
  obtain ⟨f, fd, F, g⟩ := h.d_law_row
  refine ⟨f, fd, F.ok sc_law_row (fun vs H Q E ⟨a, ns, e, _⟩ => by rw [e]; rfl) (fun cdv A outer s H vs Q E hr ⟨a, ns, e, hs, hl, q⟩ => ?_), g, F.kp, F.bindsN fun _ _ _ _ _ _ us hl => match us, hl with | [_], _ => rfl⟩
  subst e
  exact ⟨t_law_row K CN CB, (der_law_row h cdv A outer s H E hr).nox, sem_law_row hs hl q⟩
end Ck

set_option Elab.async false
set_option linter.all false
set_option maxRecDepth 100000
set_option maxHeartbeats 1000000
set_option autoImplicit false
/-! # A showing with one number changed -/
namespace Ck
open PySem PySem.Spec PyProof.Rows L2
local macro_rules | `(tactic| walk_at "ev1") => `(tactic| first
  | ((with_reducible apply e_var); exact rfl)
  | with_reducible exact e_int
  | with_reducible exact e_str
  | with_reducible exact e_bl
  | with_reducible exact e_non
  | with_reducible apply e_op
  | with_reducible exact o_add
  | with_reducible exact o_sub
  | with_reducible apply o_mul
  | with_reducible apply o_mod
  | with_reducible apply o_div
  | with_reducible exact o_lt
  | with_reducible exact o_le
  | with_reducible exact o_gt
  | with_reducible exact o_ge
  | with_reducible exact o_eqI
  | with_reducible exact o_neI
  | with_reducible exact o_eqS
  | with_reducible exact o_neS
  | ((with_reducible apply o_ixT); exact rfl)
  | ((with_reducible apply o_ixL); exact rfl)
  | with_reducible exact a_nil
  | with_reducible apply a_cons
  | with_reducible apply e_tup
  | with_reducible apply e_lst
  | with_reducible apply e_cb
  | with_reducible exact c_int
  | with_reducible exact c_intB
  | with_reducible exact c_abs
  | with_reducible exact c_ord
  | with_reducible exact c_lenL
  | with_reducible exact c_lenT
  | with_reducible exact c_listT
  | with_reducible exact c_tupL
  | with_reducible exact c_tupT
  | with_reducible exact c_all
  | with_reducible exact c_sum
  | with_reducible apply e_sl
  | with_reducible exact p_none
  | with_reducible apply p_some
  | with_reducible exact s_tup
  | with_reducible exact s_lst
  | ((with_reducible show CaD (cList _) _ _); first | exact c_listT | exact c_listL)
  | ((with_reducible show CaD (cTuple _) _ _); first | exact c_tupL | exact c_tupT)
  | with_reducible apply e_neg
  | with_reducible apply o_catL
  | with_reducible apply o_catT
  | with_reducible apply o_catS
  | with_reducible apply t_test
  | with_reducible apply t_b
  | with_reducible apply t_not)
local macro_rules | `(tactic| walk_at "ev") => `(tactic| repeat' walk_at "ev1")
local macro_rules | `(tactic| walk_at "side") => `(tactic| all_goals (try (first | rfl | omega)))
local macro_rules | `(tactic| walk_at "set") => `(tactic| (apply s_set; walk_at "ev"; walk_at "side"))
local macro_rules | `(tactic| walk_at "qset") => `(tactic| (apply q_set; walk_at "ev"; walk_at "side"))
local macro_rules | `(tactic| walk_at "ret") => `(tactic| (apply s_ret; walk_at "ev"; walk_at "side"))
local macro_rules | `(tactic| walk_at "ev1") => `(tactic| with_reducible apply c_coin)
local macro_rules | `(tactic| walk_at "ev1") => `(tactic| with_reducible apply c_challenge)
local macro_rules | `(tactic| walk_at "ev1") => `(tactic| with_reducible apply c_is_exponent2)
local macro_rules | `(tactic| walk_at "ev1") => `(tactic| with_reducible apply c_law_at)
/-! ### a list of tuples (int, list of two ints), all of them new and not yet frozen -/
abbrev nestD1 (p : Pp) : PyData := .tuple [.int p.1, .list (dI [p.2.1, p.2.2])]
abbrev nestD (ps : List Pp) : PyData := .list (ps.map nestD1)
structure Nest (H1 : Hp) (D : Addr) (H : Hp) (es : List (Addr × Addr)) (ps : List Pp) : Prop where
  s : Same H1 H
  d0 : H1 D = none
  d : H D = some (.lst (es.map fun e => V.ref e.1))
  l : es.length = ps.length
  at_ : ∀ (j : Nat) (e : Addr × Addr) (p : Pp), es[j]? = some e → ps[j]? = some p → H e.1 = some (.tup [.int p.1, .ref e.2]) ∧ H e.2 = some (.lst [.int p.2.1, .int p.2.2]) ∧ H1 e.1 = none ∧ H1 e.2 = none
  inj : ∀ (j k : Nat) (e e' : Addr × Addr), es[j]? = some e → es[k]? = some e' → e.2 = e'.2 → j = k
theorem Nest.mono {H1 H H2 : Hp} {D : Addr} {es : List (Addr × Addr)} {ps : List Pp} (n : Nest H1 D H es ps) (s : Same H H2) : Nest H1 D H2 es ps :=
  ⟨n.s.trans s, n.d0, s _ _ n.d, n.l, fun j e p h1 h2 => let ⟨a, b, c, d⟩ := n.at_ j e p h1 h2; ⟨s _ _ a, s _ _ b, c, d⟩, n.inj⟩
theorem Nest.get {H1 H : Hp} {D : Addr} {es : List (Addr × Addr)} {ps : List Pp} (n : Nest H1 D H es ps) {j : Nat} {e : Addr × Addr} (h : es[j]? = some e) : ∃ p, ps[j]? = some p := by
  have := (List.getElem?_eq_some_iff.mp h).1
  have l := n.l
  exact ⟨ps[j]'(by omega), by simp⟩
/-- the addresses differ from D -/
theorem Nest.ne {H1 H : Hp} {D : Addr} {es : List (Addr × Addr)} {ps : List Pp} (n : Nest H1 D H es ps) {j : Nat} {e : Addr × Addr} (h : es[j]? = some e) : e.1 ≠ D ∧ e.2 ≠ D := by
  obtain ⟨p, hp⟩ := n.get h
  obtain ⟨a, b, _, _⟩ := n.at_ j e p h hp
  have d := n.d
  refine ⟨fun z => ?_, fun z => ?_⟩
  · rw [z, d] at a
    cases a
  · rw [z, d] at b
    cases es with
    | nil => cases h
    | cons e0 es => cases b
theorem Nest.new {H1 H : Hp} {D : Addr} {es : List (Addr × Addr)} {ps : List Pp} (n : Nest H1 D H es ps) {b t : Addr} {c x y : Int} (hb : H b = none) (ht : (upd H b (.lst [.int x, .int y])) t = none) :
    Nest H1 D (upd (upd (upd H b (.lst [.int x, .int y])) t (.tup [.int c, .ref b])) D (.lst ((es.map fun e => V.ref e.1) ++ [.ref t]))) (es ++ [(t, b)]) (ps ++ [(c, x, y)]) := by
  have bt : b ≠ t := fun z => by rw [z, upd_same] at ht; cases ht
  have ht2 : H t = none := by rwa [upd_ne (Ne.symm bt)] at ht
  have bD : b ≠ D := fun z => by rw [z, n.d] at hb; cases hb
  have tD : t ≠ D := fun z => by rw [z, n.d] at ht2; cases ht2
  have keep : ∀ a o, H a = some o → a ≠ D → (upd (upd (upd H b (.lst [.int x, .int y])) t (.tup [.int c, .ref b])) D (.lst ((es.map fun e => V.ref e.1) ++ [.ref t]))) a = some o := fun a o h hD => by
    rw [upd_ne hD, upd_ne (fun z => by rw [z, ht2] at h; cases h), upd_ne (fun z => by rw [z, hb] at h; cases h)]
    exact h
  refine ⟨fun a o h => keep a o (n.s a o h) (fun z => by rw [z, n.d0] at h; cases h), n.d0, ?_, by rw [List.length_append, List.length_append, n.l]; rfl, fun j e p h1 h2 => ?_, fun j k e e' h1 h2 h3 => ?_⟩
  · rw [upd_same, List.map_append]
    rfl
  · by_cases hj : j < es.length
    · rw [List.getElem?_append_left hj] at h1
      rw [List.getElem?_append_left (by rw [← n.l]; exact hj)] at h2
      obtain ⟨a1, a2, a3, a4⟩ := n.at_ j e p h1 h2
      obtain ⟨n1, n2⟩ := n.ne h1
      exact ⟨keep _ _ a1 n1, keep _ _ a2 n2, a3, a4⟩
    · rw [List.getElem?_append_right (by omega)] at h1
      rw [List.getElem?_append_right (by rw [← n.l]; omega), ← n.l] at h2
      obtain ⟨e0, rfl⟩ := one_at h1
      obtain ⟨_, rfl⟩ := one_at h2
      refine ⟨?_, ?_, Same.free n.s ht2, Same.free n.s hb⟩
      · rw [upd_ne tD, upd_same]
      · rw [upd_ne bD, upd_ne bt, upd_same]
  · have old : ∀ (i : Nat) (e : Addr × Addr), es[i]? = some e → e.2 ≠ b := fun i e h z => by
      obtain ⟨p, hp⟩ := n.get h
      have := (n.at_ i e p h hp).2.1
      rw [z, hb] at this
      cases this
    by_cases hj : j < es.length
    · rw [List.getElem?_append_left hj] at h1
      by_cases hk : k < es.length
      · rw [List.getElem?_append_left hk] at h2
        exact n.inj j k e e' h1 h2 h3
      · rw [List.getElem?_append_right (by omega)] at h2
        obtain ⟨_, rfl⟩ := one_at h2
        exact absurd h3 (old j e h1)
    · rw [List.getElem?_append_right (by omega)] at h1
      obtain ⟨j0, rfl⟩ := one_at h1
      by_cases hk : k < es.length
      · rw [List.getElem?_append_left hk] at h2
        exact absurd h3.symm (old k e' h2)
      · rw [List.getElem?_append_right (by omega)] at h2
        obtain ⟨k0, rfl⟩ := one_at h2
        omega
/-- a new tuple in the place w, with the same list -/
theorem Nest.put {H1 H : Hp} {D : Addr} {es : List (Addr × Addr)} {ps : List Pp} (n : Nest H1 D H es ps) {w : Nat} {e : Addr × Addr} {p : Pp} (he : es[w]? = some e) (hp : ps[w]? = some p) {t : Addr} {c : Int} (ht : H t = none) :
    Nest H1 D (upd (upd H t (.tup [.int c, .ref e.2])) D (.lst ((es.map fun e => V.ref e.1).set w (.ref t)))) (es.set w (t, e.2)) (ps.set w (c, p.2)) := by
  have tD : t ≠ D := fun z => by rw [z, n.d] at ht; cases ht
  have keep : ∀ a o, H a = some o → a ≠ D → (upd (upd H t (.tup [.int c, .ref e.2])) D (.lst ((es.map fun e => V.ref e.1).set w (.ref t)))) a = some o := fun a o h hD => by
    rw [upd_ne hD, upd_ne (fun z => by rw [z, ht] at h; cases h)]
    exact h
  have hw : w < es.length := (List.getElem?_eq_some_iff.mp he).1
  have hw2 : w < ps.length := (List.getElem?_eq_some_iff.mp hp).1
  have snd : ∀ (j : Nat) (f : Addr × Addr), (es.set w (t, e.2))[j]? = some f → ∃ g, es[j]? = some g ∧ g.2 = f.2 := fun j f h => by
    by_cases hj : w = j
    · subst hj
      rw [List.getElem?_set_self hw] at h
      cases h
      exact ⟨e, he, rfl⟩
    · rw [List.getElem?_set_ne hj] at h
      exact ⟨f, h, rfl⟩
  refine ⟨fun a o h => keep a o (n.s a o h) (fun z => by rw [z, n.d0] at h; cases h), n.d0, ?_, by rw [List.length_set, List.length_set, n.l], fun j f u h1 h2 => ?_, fun j k f f' h1 h2 h3 => ?_⟩
  · rw [upd_same, List.map_set]
  · by_cases hj : w = j
    · subst hj
      rw [List.getElem?_set_self hw] at h1
      rw [List.getElem?_set_self hw2] at h2
      cases h1
      cases h2
      obtain ⟨a1, a2, a3, a4⟩ := n.at_ w e p he hp
      refine ⟨?_, keep _ _ a2 (n.ne he).2, Same.free n.s ht, a4⟩
      rw [upd_ne tD, upd_same]
    · rw [List.getElem?_set_ne hj] at h1 h2
      obtain ⟨a1, a2, a3, a4⟩ := n.at_ j f u h1 h2
      obtain ⟨n1, n2⟩ := n.ne h1
      exact ⟨keep _ _ a1 n1, keep _ _ a2 n2, a3, a4⟩
  · obtain ⟨g, g1, g2⟩ := snd j f h1
    obtain ⟨g', g3, g4⟩ := snd k f' h2
    exact n.inj j k g g' g1 g3 (by rw [g2, g4, h3])
/-- the list in the place w changed -/
theorem Nest.inner {H1 H : Hp} {D : Addr} {es : List (Addr × Addr)} {ps : List Pp} (n : Nest H1 D H es ps) {w : Nat} {e : Addr × Addr} {p : Pp} (he : es[w]? = some e) (hp : ps[w]? = some p) {x y : Int} :
    Nest H1 D (upd H e.2 (.lst [.int x, .int y])) es (ps.set w (p.1, x, y)) := by
  obtain ⟨b1, b2, b3, b4⟩ := n.at_ w e p he hp
  have hw2 : w < ps.length := (List.getElem?_eq_some_iff.mp hp).1
  refine ⟨fun a o h => ?_, n.d0, ?_, by rw [List.length_set, n.l], fun j f u h1 h2 => ?_, n.inj⟩
  · rw [upd_ne (fun z => by rw [z, b4] at h; cases h)]
    exact n.s a o h
  · rw [upd_ne (Ne.symm (n.ne he).2)]
    exact n.d
  · have tl : ∀ {v : Pp}, ps[j]? = some v → f.1 ≠ e.2 := fun {v} hv z => by
      have := (n.at_ j f v h1 hv).1
      rw [z, b2] at this
      cases this
    by_cases hj : w = j
    · subst hj
      rw [he] at h1
      cases h1
      rw [List.getElem?_set_self hw2] at h2
      cases h2
      exact ⟨by rw [upd_ne (tl hp)]; exact b1, upd_same, b3, b4⟩
    · rw [List.getElem?_set_ne hj] at h2
      obtain ⟨a1, a2, a3, a4⟩ := n.at_ j f u h1 h2
      refine ⟨by rw [upd_ne (tl h2)]; exact a1, ?_, a3, a4⟩
      rw [upd_ne (fun z => hj (n.inj w j e f he h1 z.symm))]
      exact a2
/-- all that is new becomes part of the frozen heap -/
def fz (H1 G1 H : Hp) : Hp := fun a => match H1 a with
  | none => H a
  | some _ => G1 a
theorem fz_new {H1 G1 H : Hp} {a : Addr} (h : H1 a = none) : fz H1 G1 H a = H a := by
  unfold fz
  rw [h]
theorem fz_old {H1 G1 H : Hp} {a : Addr} {o : HO} (h : H1 a = some o) : fz H1 G1 H a = G1 a := by
  unfold fz
  rw [h]
theorem fz_g {H1 G1 H : Hp} (s : Same G1 H) : Same G1 (fz H1 G1 H) := fun a o h => by
  cases e : H1 a with
  | none => rw [fz_new e]; exact s _ _ h
  | some _ => rw [fz_old e]; exact h
theorem fz_s {H1 G1 H : Hp} (s : Same G1 H) : Same (fz H1 G1 H) H := fun a o h => by
  cases e : H1 a with
  | none => rwa [fz_new e] at h
  | some _ => rw [fz_old e] at h; exact s _ _ h
theorem fz_ax {H0 G0 H1 G1 H : Hp} (ax : Ax H0 G0 H1 G1) (s : Same H1 H) : Ax H0 G0 H (fz H1 G1 H) :=
  ⟨ax.h.trans s, ax.g.trans (fz_g (ax.s.trans s)), fz_s (ax.s.trans s), fun a o h g => by
    rw [fz_old (ax.h _ _ h)]
    exact ax.f a o h g⟩
theorem Nest.is {H1 G1 H : Hp} {D : Addr} {es : List (Addr × Addr)} {ps : List Pp} (n : Nest H1 D H es ps) : Is (fz H1 G1 H) (.ref D) (nestD ps) := by
  refine .lst ((fz_new n.d0).trans n.d) ?_
  have at_ : ∀ (j : Nat) (e : Addr × Addr) (p : Pp), es[j]? = some e → ps[j]? = some p → Is (fz H1 G1 H) (.ref e.1) (nestD1 p) := fun j e p h1 h2 => by
    obtain ⟨a1, a2, a3, a4⟩ := n.at_ j e p h1 h2
    exact .tup ((fz_new a3).trans a1) (.cons (.int _) (.cons (.lst ((fz_new a4).trans a2) (.cons (.int _) (.cons (.int _) .nil))) .nil))
  have l := n.l
  clear n
  induction es generalizing ps with
  | nil =>
    cases ps with
    | nil => exact .nil
    | cons _ _ => cases l
  | cons e es ih =>
    cases ps with
    | nil => cases l
    | cons p ps =>
      exact .cons (at_ 0 e p rfl rfl) (ih (fun j f u h1 h2 => at_ (j + 1) f u (by simpa using h1) (by simpa using h2)) (by simpa using l))
/-! ### the state while the nested list is not frozen: it is in slot 9 -/
structure NSt (H0 G0 H1 G1 : Hp) (D : Addr) (es : List (Addr × Addr)) (ps : List Pp) (ρ : Ev) (σ : L2.St) (H : Hp) : Prop where
  ax : Ax H0 G0 H1 G1
  n : Nest H1 D H es ps
  e : EnvD G1 σ ρ
  h9 : σ[9]? = some (some (.ref D))
section
variable {H0 G0 H1 G1 : Hp} {D : Addr} {es : List (Addr × Addr)} {ps : List Pp} {ρ : Ev} {σ : L2.St} {H : Hp}
theorem NSt.mono (t : NSt H0 G0 H1 G1 D es ps ρ σ H) {H2 : Hp} (s : Same H H2) : NSt H0 G0 H1 G1 D es ps ρ σ H2 := ⟨t.ax, t.n.mono s, t.e, t.h9⟩
theorem NSt.env (t : NSt H0 G0 H1 G1 D es ps ρ σ H) : EnvD (fz H1 G1 H) σ (ρ.set 9 (some (nestD ps))) := by
  have h := (t.e.mono (fz_g (H1 := H1) (t.ax.s.trans t.n.s))).set (v := .ref D) (t.n.is (G1 := G1)) 9
  have hi : σ.set 9 (some (.ref D)) = σ := by
    apply List.ext_getElem?
    intro j
    by_cases hj : 9 = j
    · subst hj
      have hl := (List.getElem?_eq_some_iff.mp t.h9).1
      rw [List.getElem?_set_self hl, t.h9]
    · rw [List.getElem?_set_ne hj]
  rwa [hi] at h
theorem NSt.int {te : TE} {Q : VK} {i : Int} (t : NSt H0 G0 H1 G1 D es ps ρ σ H) (h : E te (ρ.set 9 (some (nestD ps))) (.int i)) (k : ∀ H2, NSt H0 G0 H1 G1 D es ps ρ σ H2 → Q (.int i) H2) : te σ H Q :=
  h σ H _ (fz_s (t.ax.s.trans t.n.s)) t.env Q fun v H2 G2 a j => by
    rw [j.int_eq]
    exact k H2 (t.mono a.h)
theorem NSt.test {tt : TT} {Q : Bool → Hp → Prop} {b : Bool} (t : NSt H0 G0 H1 G1 D es ps ρ σ H) (h : T tt (ρ.set 9 (some (nestD ps))) b) (k : ∀ H2, NSt H0 G0 H1 G1 D es ps ρ σ H2 → Q b H2) : tt σ H Q :=
  h σ H _ (fz_s (t.ax.s.trans t.n.s)) t.env Q fun H2 G2 a => k H2 (t.mono a.h)
theorem NSt.set (t : NSt H0 G0 H1 G1 D es ps ρ σ H) {j : Nat} (hj : j ≠ 9) (i : Int) : NSt H0 G0 H1 G1 D es ps (ρ.set j (some (.int i))) (σ.set j (some (.int i))) H :=
  ⟨t.ax, t.n, t.e.set (.int i) j, by rw [List.getElem?_set_ne hj]; exact t.h9⟩
end
/-- [(pair[0], list(pair[1])) for pair in paper] -/
theorem lcNest {K : PySem.W.Frag} {ρ : Ev} {σ : L2.St} {H G : Hp} {Q : VK} {ps : List Pp} (s : Same G H) (e : EnvD G σ ρ) (h5 : ρ[5]? = some (some (dPaper ps))) (h11 : 11 < ρ.length) (hl : ps.length ≤ 1000)
    (k : ∀ H1 G1 D es H2, Ax H G H1 G1 → Nest H1 D H2 es ps → Q (.ref D) H2) : (tLc (iTup K (tVar 5)) (gName 11) tYes (tTup (tCons (tOp (rIxT K) (tVar 11) (tC (.int 0))) (tCons (tCB (cList K) (tCons (tOp (rIxT K) (tVar 11) (tC (.int 1))) tNil)) tNil))) [11]) σ H Q :=
  w_tup (K := K) (e_var h5) σ H G s e _ fun J H1 G1 a1 wk => by
    intro D hD
    have gD : G1 D = none := Same.free a1.s hD
    have n0 : Nest H1 D (upd H1 D (.lst [])) [] [] := ⟨Same.new hD, hD, upd_same, rfl, fun j e p h => (by cases h), fun j k e e' h => (by cases h)⟩
    refine ⟨fun i m H' => m = ps.length - i ∧ i ≤ ps.length ∧ ∃ es, Nest H1 D H' es (ps.take i), ⟨ps.length, rfl, Nat.zero_le _, [], n0⟩, ?_⟩
    rintro i m H' ⟨rfl, hi, es, n⟩
    have hlen : (ps.map dPP).length = ps.length := List.length_map _
    by_cases hlt : i < ps.length
    · refine .inr ⟨wk.go i H' (by rw [hlen]; exact hlt) (a1.s.trans n.s), fun H2 => ∃ es, Nest H1 D H2 es (ps.take (i + 1)), fun H2 ⟨es, h⟩ => ⟨ps.length - (i + 1), by omega, rfl, hlt, es, h⟩, fun x H2 y => ?_⟩
      obtain ⟨d', G2, hd', a2, i2⟩ := wk.yld i H' G1 x H2 (by rw [hlen]; exact hlt) (Same.refl G1) (a1.s.trans n.s) y
      obtain ⟨p, hp, rfl⟩ := map_at hd'
      obtain ⟨ta, xs, rfl, hta, hxs⟩ := i2.tup_inv
      obtain ⟨v1, v2, rfl, j1, j2⟩ := hxs.two
      obtain ⟨tb, ys, rfl, htb, hys⟩ := j2.tup_inv
      obtain ⟨v3, v4, rfl, j3, j4⟩ := hys.two
      rw [j3.int_eq, j4.int_eq] at htb
      rw [j1.int_eq] at hta
      have n2 := n.mono a2.h
      have hs : ((L2.wipe σ [11]).set 11 (some (V.ref ta)))[11]? = some (some (.ref ta)) := List.getElem?_set_self (by rw [L2.wipe_length, e.len]; exact h11)
      refine ⟨?_, ?_⟩
      · exact (wipe_same (vs := [11]) (σ' := (L2.wipe σ [11]).set 11 (some (V.ref ta))) (σ := L2.wipe σ [11]) (by simp) fun j hj => List.getElem?_set_ne (by simpa using Ne.symm (by simpa using hj))).trans wipe_wipe
      · unfold tYes
        simp only [↓reduceIte]
        refine ⟨_, hs, ⟨ta, [.int p.1, .ref tb], 0, .int p.1, rfl, rfl, SqT.of (a2.s _ _ hta), rfl, ?_⟩⟩
        refine ⟨_, hs, ⟨ta, [.int p.1, .ref tb], 1, .ref tb, rfl, rfl, SqT.of (a2.s _ _ hta), rfl, ?_⟩⟩
        refine ⟨tb, [.int p.2.1, .int p.2.2], rfl, .inr (SqT.of (a2.s _ _ htb)), fun b hb => ⟨sz_ok (by simp), fun t ht => ?_⟩⟩
        have bD : b ≠ D := fun z => by rw [z, n2.d] at hb; cases hb
        have tD : t ≠ D := fun z => by
          rw [z, upd_ne (Ne.symm bD), n2.d] at ht
          cases ht
        refine ⟨es.map fun e => V.ref e.1, ?_, ?_, es ++ [(t, b)], ?_⟩
        · rw [upd_ne (Ne.symm tD), upd_ne (Ne.symm bD)]
          exact n2.d
        · rw [List.length_map, n2.l, List.length_take]
          exact Nat.lt_of_le_of_lt (m := 1000) (by omega) (by decide)
        · have h := n2.new (c := p.1) (x := p.2.1) (y := p.2.2) hb ht
          rw [List.take_add_one, hp]
          exact h
    · have ei : i = ps.length := by omega
      subst ei
      rw [List.take_length] at n
      exact .inl ⟨by rw [← hlen]; exact wk.stop H' (a1.s.trans n.s), k H1 G1 D es H' a1 n⟩
end Ck

set_option Elab.async false
set_option linter.all false
set_option maxRecDepth 100000
set_option maxHeartbeats 1000000
set_option autoImplicit false
/-! # The changed showing -/
namespace Ck
open PySem PySem.Spec PyProof.Rows L2
local macro_rules | `(tactic| walk_at "ev1") => `(tactic| first
  | ((with_reducible apply e_var); exact rfl)
  | with_reducible exact e_int
  | with_reducible exact e_str
  | with_reducible exact e_bl
  | with_reducible exact e_non
  | with_reducible apply e_op
  | with_reducible exact o_add
  | with_reducible exact o_sub
  | with_reducible apply o_mul
  | with_reducible apply o_mod
  | with_reducible apply o_div
  | with_reducible exact o_lt
  | with_reducible exact o_le
  | with_reducible exact o_gt
  | with_reducible exact o_ge
  | with_reducible exact o_eqI
  | with_reducible exact o_neI
  | with_reducible exact o_eqS
  | with_reducible exact o_neS
  | ((with_reducible apply o_ixT); exact rfl)
  | ((with_reducible apply o_ixL); exact rfl)
  | with_reducible exact a_nil
  | with_reducible apply a_cons
  | with_reducible apply e_tup
  | with_reducible apply e_lst
  | with_reducible apply e_cb
  | with_reducible exact c_int
  | with_reducible exact c_intB
  | with_reducible exact c_abs
  | with_reducible exact c_ord
  | with_reducible exact c_lenL
  | with_reducible exact c_lenT
  | with_reducible exact c_listT
  | with_reducible exact c_tupL
  | with_reducible exact c_tupT
  | with_reducible exact c_all
  | with_reducible exact c_sum
  | with_reducible apply e_sl
  | with_reducible exact p_none
  | with_reducible apply p_some
  | with_reducible exact s_tup
  | with_reducible exact s_lst
  | ((with_reducible show CaD (cList _) _ _); first | exact c_listT | exact c_listL)
  | ((with_reducible show CaD (cTuple _) _ _); first | exact c_tupL | exact c_tupT)
  | with_reducible apply e_neg
  | with_reducible apply o_catL
  | with_reducible apply o_catT
  | with_reducible apply o_catS
  | with_reducible apply t_test
  | with_reducible apply t_b
  | with_reducible apply t_not)
local macro_rules | `(tactic| walk_at "ev") => `(tactic| repeat' walk_at "ev1")
local macro_rules | `(tactic| walk_at "side") => `(tactic| all_goals (try (first | rfl | omega)))
local macro_rules | `(tactic| walk_at "set") => `(tactic| (apply s_set; walk_at "ev"; walk_at "side"))
local macro_rules | `(tactic| walk_at "qset") => `(tactic| (apply q_set; walk_at "ev"; walk_at "side"))
local macro_rules | `(tactic| walk_at "ret") => `(tactic| (apply s_ret; walk_at "ev"; walk_at "side"))
local macro_rules | `(tactic| walk_at "ev1") => `(tactic| with_reducible apply c_coin)
local macro_rules | `(tactic| walk_at "ev1") => `(tactic| with_reducible apply c_challenge)
local macro_rules | `(tactic| walk_at "ev1") => `(tactic| with_reducible apply c_is_exponent2)
local macro_rules | `(tactic| walk_at "ev1") => `(tactic| with_reducible apply c_law_at)
/-- xs[j] = e, e an int that may be read from xs itself -/
theorem s_itemR {W : WX} {ρ : Ev} {o : Out} {te tb : TE} {ds : List PyData} {i j : Nat} {n : Int} (h : E te (ρ.set i (some (.list ds))) (.int n)) (hj : E tb ρ (.int (j : Nat))) (hl : j < ds.length) (k : o.nx ρ (some (i, ds.set j (.int n)))) : S W (tAsg te (gSub (tVar i) tb rSetL)) ρ (some (i, ds)) o := fun H0 G0 D σ H G ax e w nx rt ro rs => by
  obtain ⟨p, xs, h1, h2, h3, h4, h5⟩ := w
  have sm : Same G (upd G p (.lst xs)) := Same.new h3
  have sh : Same (upd G p (.lst xs)) H := fun c ob z => by
    by_cases hc : c = p
    · rw [hc, upd_same] at z
      rw [hc, h4]
      exact z
    · rw [upd_ne hc] at z
      exact ax.s c ob z
  have hi : σ.set i (some (.ref p)) = σ := by
    apply List.ext_getElem?
    intro j
    by_cases hj : i = j
    · subst hj
      have hl := (List.getElem?_eq_some_iff.mp h1).1
      rw [List.getElem?_set_self hl, h1]
    · rw [List.getElem?_set_ne hj]
  have e2 := (e.mono sm).set (v := .ref p) (d := .list ds) (.lst upd_same (h5.mono sm)) i
  rw [hi] at e2
  refine h σ H _ sh e2 _ fun v H1 G1 a1 i1 => ?_
  rw [i1.int_eq]
  have s1 : Same G H1 := ax.s.trans a1.h
  refine ⟨_, h1, ?_⟩
  refine hj σ H1 G s1 e _ fun z H2 G2 a2 i2 => ?_
  have g2 := a2.f p _ (a1.h _ _ h4) h3
  have l5 := h5.length
  refine ⟨p, xs, (j : Int), j, rfl, i2.int_eq, a2.h _ _ (a1.h _ _ h4), ixN_at (by omega), ?_⟩
  have ax1 : Ax H0 G0 H1 G := ⟨ax.h.trans a1.h, ax.g, s1, ax.f⟩
  exact nx σ _ G2 ρ _ ((ax1.trans a2).mut h2 g2) a2.g (e.mono a2.g) (Own.of h1 h2 g2 upd_same ((h5.mono a2.g).set (.int n) j)) k
theorem r_name {j : Nat} {v : V} {σ : L2.St} {H : Hp} {Q : L2.St → Hp → Prop} (h : Q (σ.set j (some v)) H) : gName j v σ H Q := h
section
variable {H0 G0 H1 G1 : Hp} {A1 : Addr} {D : Ends} {es : List (Addr × Addr)} {ps : List Pp} {ρ : Ev} {σ : L2.St} {H : Hp} {K : PySem.W.Frag} {e : Addr × Addr} {p : Pp} {w : Nat}
theorem NSt.asg {te : TE} {j : Nat} {i : Int} (t : NSt H0 G0 H1 G1 A1 es ps ρ σ H) (hj : j ≠ 9) (h : E te (ρ.set 9 (some (nestD ps))) (.int i)) (k : ∀ H2, NSt H0 G0 H1 G1 A1 es ps (ρ.set j (some (.int i))) (σ.set j (some (.int i))) H2 → D.nx (σ.set j (some (.int i))) H2) : (tAsg te (gName j)) D σ H :=
  t.int h fun H2 t2 => k H2 (t2.set hj i)
theorem NSt.iff {c : TT} {t1 u1 : TS} {b : Bool} (t : NSt H0 G0 H1 G1 A1 es ps ρ σ H) (h : T c (ρ.set 9 (some (nestD ps))) b) (k1 : b = true → ∀ H2, NSt H0 G0 H1 G1 A1 es ps ρ σ H2 → t1 D σ H2) (k2 : b = false → ∀ H2, NSt H0 G0 H1 G1 A1 es ps ρ σ H2 → u1 D σ H2) : (tIfS c t1 u1) D σ H :=
  t.test h fun H2 t2 => by
    cases b with
    | true => exact k1 rfl H2 t2
    | false => exact k2 rfl H2 t2
theorem NSt.freeze {W : WX} {u : TS} {P : PyData → Prop} (t : NSt H0 G0 H1 G1 A1 es ps ρ σ H) (k : S W u (ρ.set 9 (some (nestD ps))) none { rt := P }) (rt : ∀ v H' G' d, Ax H0 G0 H' G' → Is G' v d → P d → D.rt v H') : u D σ H :=
  k H0 G0 D σ H _ (fz_ax t.ax t.n.s) t.env trivial (fun _ _ _ _ _ _ _ _ _ z => z.elim) rt (fun _ _ _ _ _ _ _ _ _ _ z => z.elim) (fun _ _ _ _ _ z => z.elim)
theorem NSt.put {te : TE} {c : Int} (t : NSt H0 G0 H1 G1 A1 es ps ρ σ H) (he : es[w]? = some e) (hp : ps[w]? = some p) (h10 : ρ[10]? = some (some (.int (w : Nat)))) (h : E te (ρ.set 9 (some (nestD ps))) (.int c)) (k : ∀ H2 es2, NSt H0 G0 H1 G1 A1 es2 (ps.set w (c, p.2)) ρ σ H2 → D.nx σ H2) :
    (tAsg (tTup (tCons te (tCons (tOp (rIxT K) (tOp (rIxL K) (tVar 9) (tVar 10)) (tC (.int 1))) tNil))) (gSub (tVar 9) (tVar 10) rSetL)) D σ H := by
  show te σ H _
  refine t.int h fun H2 t2 => ?_
  obtain ⟨v10, q10, i10⟩ := t2.e.at_ 10 _ h10
  have e10 := i10.int_eq
  subst e10
  obtain ⟨a1, a2, a3, a4⟩ := t2.n.at_ w e p he hp
  have hw : w < es.length := (List.getElem?_eq_some_iff.mp he).1
  refine ⟨.ref A1, t2.h9, ⟨.int (w : Nat), q10, ⟨A1, es.map (fun e => V.ref e.1), (w : Nat), .ref e.1, rfl, rfl, SqL.of t2.n.d, atI_nat (at_map he), ⟨e.1, [.int p.1, .ref e.2], 1, .ref e.2, rfl, rfl, SqT.of a1, rfl, ⟨sz_ok (by simp), fun T hT => ?_⟩⟩⟩⟩⟩
  have nT : A1 ≠ T := fun z => by rw [← z, t2.n.d] at hT; cases hT
  refine ⟨.ref A1, t2.h9, ⟨.int (w : Nat), q10, ⟨A1, es.map (fun e => V.ref e.1), (w : Nat), w, rfl, rfl, by rw [upd_ne nT]; exact t2.n.d, ixN_at (by rw [List.length_map]; exact hw), ?_⟩⟩⟩
  exact k _ _ ⟨t2.ax, t2.n.put he hp hT, t2.e, t2.h9⟩
theorem NSt.inner {te tj : TE} {c x y : Int} {j : Nat} (t : NSt H0 G0 H1 G1 A1 es ps ρ σ H) (he : es[w]? = some e) (hp : ps[w]? = some p) (h10 : ρ[10]? = some (some (.int (w : Nat)))) (h : E te (ρ.set 9 (some (nestD ps))) (.int c)) (hj : E tj (ρ.set 9 (some (nestD ps))) (.int (j : Nat))) (hj2 : j < 2)
    (hs : [V.int p.2.1, V.int p.2.2].set j (.int c) = [.int x, .int y]) (k : ∀ H2 es2, NSt H0 G0 H1 G1 A1 es2 (ps.set w (p.1, x, y)) ρ σ H2 → D.nx σ H2) :
    (tAsg te (gSub (tOp (rIxT K) (tOp (rIxL K) (tVar 9) (tVar 10)) (tC (.int 1))) tj rSetL)) D σ H := by
  show te σ H _
  refine t.int h fun H2 t2 => ?_
  obtain ⟨v10, q10, i10⟩ := t2.e.at_ 10 _ h10
  have e10 := i10.int_eq
  subst e10
  obtain ⟨a1, a2, a3, a4⟩ := t2.n.at_ w e p he hp
  refine ⟨.ref A1, t2.h9, ⟨.int (w : Nat), q10, ⟨A1, es.map (fun e => V.ref e.1), (w : Nat), .ref e.1, rfl, rfl, SqL.of t2.n.d, atI_nat (at_map he), ⟨e.1, [.int p.1, .ref e.2], 1, .ref e.2, rfl, rfl, SqT.of a1, rfl, ?_⟩⟩⟩⟩
  refine t2.int hj fun H3 t3 => ?_
  obtain ⟨b1, b2, b3, b4⟩ := t3.n.at_ w e p he hp
  refine ⟨e.2, [.int p.2.1, .int p.2.2], (j : Nat), j, rfl, rfl, b2, ixN_at (by simpa using hj2), ?_⟩
  rw [hs]
  exact k _ _ ⟨t3.ax, t3.n.inner he hp, t3.e, t3.h9⟩
end
/-! ### what is changed -/
def tkL (l : List Int) : Tk := ⟨l.getD 0 0, l.getD 1 0, l.getD 2 0, l.getD 3 0, l.getD 4 0, l.getD 5 0⟩
def snL (d : Int) (l : List Int) : Sn := ⟨d, l.getD 0 0, l.getD 1 0, l.getD 2 0, l.getD 3 0⟩
def stepOf (q m : Int) : Int := ([1, q - 1, 3] : List Int).getD (m % 3).toNat 0
def chgT (q st k : Int) (t : Tk) : Tk := tkL ((t6 t).set k.toNat (((t6 t).getD k.toNat 0 + st) % (2 * q + 1)))
def chgA (q st j : Int) (y : Sn) : Sn := snL y.d ((s4 y).set j.toNat (((s4 y).getD j.toNat 0 + st) % (q + 1)))
def chgP (q st k : Int) (p : Pp) : Pp := if k < 14 then ((p.1 + st) % q, p.2) else if k % 2 = 0 then (p.1, (p.2.1 + st) % q, p.2.2) else (p.1, p.2.1, (p.2.2 + st) % q)
def chgL (q st k : Int) (w : Nat) (pp : List Pp) : List Pp := pp.set w (chgP q st k (pp.getD w (0, 0, 0)))
def chg (q m : Int) (t : Tk) (y : Sn) (pp : List Pp) : Tk × Sn × List Pp :=
  if m / 3 % 20 < 6 then (chgT q (stepOf q m) (m / 3 % 20) t, y, pp)
  else if m / 3 % 20 = 6 then (t, { y with d := (y.d + stepOf q m) % q }, pp)
  else if m / 3 % 20 < 11 then (t, chgA q (stepOf q m) (m / 3 % 20 - 7) y, pp)
  else (t, y, chgL q (stepOf q m) (m / 3 % 20) (m / 60 % (pp.length : Int)).toNat pp)
def R_law_changed : List PyData → PyData → Prop := fun ds d => ∃ (t : Tk) (y : Sn) (pp : List Pp) (m q : Int), ds = [dSh t y pp, .int m, .int q] ∧ Bd q ∧ pp ≠ [] ∧ pp.length ≤ 25 ∧ d = dSh (chg q m t y pp).1 (chg q m t y pp).2.1 (chg q m t y pp).2.2
def t_law_changed (K : PySem.W.Frag) (CN CB : Addr) : TS := (tSeq (tAsg (tVar 0) (gTup K 3 (gCons (gName 3) (gCons (gName 4) (gCons (gName 5) gNil)))))
  (tSeq (tAsg (tOp oMod (tOp oDiv (tCB cInt (tCons (tVar 1) tNil)) (tC (.int 3))) (tC (.int 20))) (gName 6))
  (tSeq (tAsg (tOp (rIxL K) (tLst (tCons (tC (.int 1)) (tCons (tOp oSub (tVar 2) (tC (.int 1))) (tCons (tC (.int 3)) tNil)))) (tOp oMod (tCB cInt (tCons (tVar 1) tNil)) (tC (.int 3)))) (gName 7))
  (tSeq (tIfS (tTest (tOp oLt (tVar 6) (tC (.int 6)))) (tRet (tTup (tCons (tOp (rCatA K) (tOp (rCatA K) (tSl (rSlA K) (tVar 3) tNoPart (tPart (tVar 6))) (tTup (tCons (tOp oMod (tCB cInt (tCons (tOp oAdd (tOp (rIxT K) (tVar 3) (tVar 6)) (tVar 7)) tNil)) (tOp oAdd (tOp oMul (tC (.int 2)) (tVar 2)) (tC (.int 1)))) tNil))) (tSl (rSlA K) (tVar 3) (tPart (tOp oAdd (tVar 6) (tC (.int 1)))) tNoPart)) (tCons (tVar 4) (tCons (tVar 5) tNil))))) tNext)
  (tSeq (tIfS (tTest (tOp rEq (tVar 6) (tC (.int 6)))) (tRet (tTup (tCons (tVar 3) (tCons (tTup (tCons (tOp oMod (tCB cInt (tCons (tOp oAdd (tOp (rIxT K) (tVar 4) (tC (.int 0))) (tVar 7)) tNil)) (tVar 2)) (tCons (tOp (rIxT K) (tVar 4) (tC (.int 1))) tNil))) (tCons (tVar 5) tNil))))) tNext)
  (tSeq (tIfS (tTest (tOp oLt (tVar 6) (tC (.int 11)))) (tSeq (tAsg (tCB (cList K) (tCons (tOp (rIxT K) (tVar 4) (tC (.int 1))) tNil)) (gName 8))
  (tSeq (tAsg (tOp oMod (tCB cInt (tCons (tOp oAdd (tOp (rIxL K) (tVar 8) (tOp oSub (tVar 6) (tC (.int 7)))) (tVar 7)) tNil)) (tOp oAdd (tVar 2) (tC (.int 1)))) (gSub (tVar 8) (tOp oSub (tVar 6) (tC (.int 7))) rSetL))
  (tRet (tTup (tCons (tVar 3) (tCons (tTup (tCons (tOp (rIxT K) (tVar 4) (tC (.int 0))) (tCons (tCB (cTuple K) (tCons (tVar 8) tNil)) tNil))) (tCons (tVar 5) tNil))))))) tNext)
  (tSeq (tAsg (tLc (iTup K (tVar 5)) (gName 11) tYes (tTup (tCons (tOp (rIxT K) (tVar 11) (tC (.int 0))) (tCons (tCB (cList K) (tCons (tOp (rIxT K) (tVar 11) (tC (.int 1))) tNil)) tNil))) [11]) (gName 9))
  (tSeq (tAsg (tOp oMod (tOp oDiv (tCB cInt (tCons (tVar 1) tNil)) (tC (.int 60))) (tCB (cLen K) (tCons (tVar 9) tNil))) (gName 10))
  (tSeq (tIfS (tTest (tOp oLt (tVar 6) (tC (.int 14)))) (tAsg (tTup (tCons (tOp oMod (tCB cInt (tCons (tOp oAdd (tOp (rIxT K) (tOp (rIxL K) (tVar 9) (tVar 10)) (tC (.int 0))) (tVar 7)) tNil)) (tVar 2)) (tCons (tOp (rIxT K) (tOp (rIxL K) (tVar 9) (tVar 10)) (tC (.int 1))) tNil))) (gSub (tVar 9) (tVar 10) rSetL)) (tAsg (tOp oMod (tCB cInt (tCons (tOp oAdd (tOp (rIxL K) (tOp (rIxT K) (tOp (rIxL K) (tVar 9) (tVar 10)) (tC (.int 1))) (tOp oMod (tVar 6) (tC (.int 2)))) (tVar 7)) tNil)) (tVar 2)) (gSub (tOp (rIxT K) (tOp (rIxL K) (tVar 9) (tVar 10)) (tC (.int 1))) (tOp oMod (tVar 6) (tC (.int 2))) rSetL)))
  (tRet (tTup (tCons (tVar 3) (tCons (tVar 4) (tCons (tCB (cTuple K) (tCons (tLc (iList K (tVar 9)) (gName 11) tYes (tTup (tCons (tOp (rIxT K) (tVar 11) (tC (.int 0))) (tCons (tCB (cTuple K) (tCons (tOp (rIxT K) (tVar 11) (tC (.int 1))) tNil)) tNil))) [11]) tNil)) tNil))))))))))))))
theorem sem_law_changed {K : PySem.W.Frag} {CN CB : Addr} (ds : List PyData) (d : PyData) (h : R_law_changed ds d) : S W0 (t_law_changed K CN CB) (startR n_law_changed ds) none { nx := fun _ _ => d = .none, rt := fun d' => d' = d } := by
  obtain ⟨t, y, pp, m, q, rfl, hq, hne, hl, rfl⟩ := h
  unfold Bd at hq
  have hpos : 0 < pp.length := List.length_pos_iff.mpr hne
  have k0 := Int.emod_nonneg (m / 3) (show (20 : Int) ≠ 0 by decide)
  have k1 := Int.emod_lt_of_pos (m / 3) (show (0 : Int) < 20 by decide)
  have m0 := Int.emod_nonneg m (show (3 : Int) ≠ 0 by decide)
  have m1 := Int.emod_lt_of_pos m (show (0 : Int) < 3 by decide)
  show S W0 _ [some (dSh t y pp), some (.int m), some (.int q), none, none, none, none, none, none, none, none, none] none _
  refine q_asg (e_var rfl) (g_tup (g_cons (g_cons (g_cons g_nil))) rfl) rfl ?_
  refine q_set (e_op (e_op (e_cb (a_cons (e_var rfl) a_nil) c_int) e_int (o_div (by decide))) e_int (o_mod (by decide))) rfl ?_
  refine q_set (d := .int (stepOf q m)) (e_op (d1 := .list (dI [1, q - 1, 3])) (e_lst (a_cons e_int (a_cons (e_op (e_var rfl) e_int o_sub) (a_cons e_int a_nil))) (by simp [dI])) (e_op (e_cb (a_cons (e_var rfl) a_nil) c_int) e_int (o_mod (by decide))) (o_ixL (at_list m0 m1))) rfl ?_
  unfold chg
  generalize m / 3 % 20 = k at k0 k1
  generalize stepOf q m = st
  show S W0 _ [some (dSh t y pp), some (.int m), some (.int q), some (dTk t), some (dSn y), some (dPaper pp), some (.int k), some (.int st), none, none, none, none] none _
  refine q_when (b := decide (k < 6)) (t_test (e_op (e_var rfl) e_int o_lt)) (fun hb => ?_) fun hb => ?_
  · have hk := of_decide_eq_true hb
    have h6 : k = 0 ∨ k = 1 ∨ k = 2 ∨ k = 3 ∨ k = 4 ∨ k = 5 := by omega
    rcases h6 with rfl | rfl | rfl | rfl | rfl | rfl <;> exact s_ret (e_tup (a_cons (e_op (e_op (e_sl (e_var rfl) p_none (p_some (e_var rfl)) s_tup) (e_tup (a_cons (e_op (e_cb (a_cons (e_op (e_op (e_var rfl) (e_var rfl) (o_ixT rfl)) (e_var rfl) o_add) a_nil) c_int) (e_op (e_op e_int (e_var rfl) (o_mul (.inl (by decide)))) e_int o_add) (o_mod (by omega))) a_nil) (by simp)) (o_catT (Nat.le_of_ble_eq_true rfl))) (e_sl (e_var rfl) (p_some (e_op (e_var rfl) e_int o_add)) p_none s_tup) (o_catT (Nat.le_of_ble_eq_true rfl))) (a_cons (e_var rfl) (a_cons (e_var rfl) a_nil))) (by simp)) rfl
  have n6 := of_decide_eq_false hb
  rw [if_neg n6]
  refine q_when (b := decide (k = 6)) (t_test (e_op (e_var rfl) e_int o_eqI)) (fun hb => ?_) fun hb => ?_
  · have hk := of_decide_eq_true hb
    rw [if_pos hk]
    exact s_ret (e_tup (a_cons (e_var rfl) (a_cons (e_tup (a_cons (e_op (e_cb (a_cons (e_op (e_op (e_var rfl) e_int (o_ixT rfl)) (e_var rfl) o_add) a_nil) c_int) (e_var rfl) (o_mod (by omega))) (a_cons (e_op (e_var rfl) e_int (o_ixT rfl)) a_nil)) (by simp)) (a_cons (e_var rfl) a_nil))) (by simp)) rfl
  have n7 := of_decide_eq_false hb
  rw [if_neg n7]
  refine q_when (b := decide (k < 11)) (t_test (e_op (e_var rfl) e_int o_lt)) (fun hb => ?_) fun hb => ?_
  · have hk := of_decide_eq_true hb
    rw [if_pos hk]
    have h4 : k = 7 ∨ k = 8 ∨ k = 9 ∨ k = 10 := by omega
    refine s_seq (s_ownList (e_op (e_var rfl) e_int (o_ixT rfl)) ?_ (by simp))
    rcases h4 with rfl | rfl | rfl | rfl
    · exact s_seq (s_itemR (j := 0) (e_op (e_cb (a_cons (e_op (e_op (e_var rfl) (e_op (e_var rfl) e_int o_sub) (o_ixL rfl)) (e_var rfl) o_add) a_nil) c_int) (e_op (e_var rfl) e_int o_add) (o_mod (by omega))) (e_op (e_var rfl) e_int o_sub) (by simp [dI]) (s_freeze (s_ret (e_tup (a_cons (e_var rfl) (a_cons (e_tup (a_cons (e_op (e_var rfl) e_int (o_ixT rfl)) (a_cons (e_cb (a_cons (e_var rfl) a_nil) c_tupL) a_nil)) (by simp)) (a_cons (e_var rfl) a_nil))) (by simp)) rfl)))
    · exact s_seq (s_itemR (j := 1) (e_op (e_cb (a_cons (e_op (e_op (e_var rfl) (e_op (e_var rfl) e_int o_sub) (o_ixL rfl)) (e_var rfl) o_add) a_nil) c_int) (e_op (e_var rfl) e_int o_add) (o_mod (by omega))) (e_op (e_var rfl) e_int o_sub) (by simp [dI]) (s_freeze (s_ret (e_tup (a_cons (e_var rfl) (a_cons (e_tup (a_cons (e_op (e_var rfl) e_int (o_ixT rfl)) (a_cons (e_cb (a_cons (e_var rfl) a_nil) c_tupL) a_nil)) (by simp)) (a_cons (e_var rfl) a_nil))) (by simp)) rfl)))
    · exact s_seq (s_itemR (j := 2) (e_op (e_cb (a_cons (e_op (e_op (e_var rfl) (e_op (e_var rfl) e_int o_sub) (o_ixL rfl)) (e_var rfl) o_add) a_nil) c_int) (e_op (e_var rfl) e_int o_add) (o_mod (by omega))) (e_op (e_var rfl) e_int o_sub) (by simp [dI]) (s_freeze (s_ret (e_tup (a_cons (e_var rfl) (a_cons (e_tup (a_cons (e_op (e_var rfl) e_int (o_ixT rfl)) (a_cons (e_cb (a_cons (e_var rfl) a_nil) c_tupL) a_nil)) (by simp)) (a_cons (e_var rfl) a_nil))) (by simp)) rfl)))
    · exact s_seq (s_itemR (j := 3) (e_op (e_cb (a_cons (e_op (e_op (e_var rfl) (e_op (e_var rfl) e_int o_sub) (o_ixL rfl)) (e_var rfl) o_add) a_nil) c_int) (e_op (e_var rfl) e_int o_add) (o_mod (by omega))) (e_op (e_var rfl) e_int o_sub) (by simp [dI]) (s_freeze (s_ret (e_tup (a_cons (e_var rfl) (a_cons (e_tup (a_cons (e_op (e_var rfl) e_int (o_ixT rfl)) (a_cons (e_cb (a_cons (e_var rfl) a_nil) c_tupL) a_nil)) (by simp)) (a_cons (e_var rfl) a_nil))) (by simp)) rfl)))
  have n11 := of_decide_eq_false hb
  rw [if_neg n11]
  intro H0 G0 D σ H G ax e wn nx rt ro rs
  refine r_seq ?_
  show (tLc _ _ _ _ _) σ H _
  refine lcNest ax.s e rfl (by simp) (by omega) fun H1 G1 A1 es H2 a1 n => ?_
  have hlen : σ.length = 12 := e.len
  have t0 : NSt H0 G0 H1 G1 A1 es pp _ (σ.set 9 (some (.ref A1))) H2 := ⟨ax.trans a1, n, (e.mono a1.g).forget 9, List.getElem?_set_self (by omega)⟩
  have w0 := Int.emod_nonneg (m / 60) (show (pp.length : Int) ≠ 0 by omega)
  have w1 := Int.emod_lt_of_pos (m / 60) (show (0 : Int) < pp.length by omega)
  obtain ⟨w, hw⟩ : ∃ w : Nat, m / 60 % (pp.length : Int) = w := ⟨(m / 60 % (pp.length : Int)).toNat, by omega⟩
  rw [hw] at w0 w1
  rw [hw, Int.toNat_natCast] at rt
  have hwl : w < pp.length := by omega
  obtain ⟨p, hp⟩ : ∃ p, pp[w]? = some p := ⟨pp[w], by simp⟩
  obtain ⟨a, ha⟩ : ∃ a, es[w]? = some a := ⟨es[w]'(by rw [n.l]; exact hwl), by simp⟩
  have an : atI (pp.map nestD1) (w : Nat) = some (nestD1 p) := atI_nat (at_map hp)
  refine r_name ?_
  dsimp only
  refine r_seq (t0.asg (by decide) (i := (w : Nat)) (e_is (e_op (e_op (e_cb (a_cons (e_var rfl) a_nil) c_int) e_int (o_div (by decide))) (e_cb (a_cons (e_var rfl) a_nil) c_lenL) (o_mod (by rw [List.length_map]; omega))) (by rw [List.length_map, hw])) fun H3 t3 => ?_)
  dsimp only
  -- the last row: all is frozen, the lists become tuples
  have fin : ∀ (pp2 : List Pp), pp2.length ≤ 25 → S W0 (tRet (tTup (tCons (tVar 3) (tCons (tVar 4) (tCons (tCB (cTuple K) (tCons (tLc (iList K (tVar 9)) (gName 11) tYes (tTup (tCons (tOp (rIxT K) (tVar 11) (tC (.int 0))) (tCons (tCB (cTuple K) (tCons (tOp (rIxT K) (tVar 11) (tC (.int 1))) tNil)) tNil))) [11]) tNil)) tNil))))) [some (dSh t y pp), some (.int m), some (.int q), some (dTk t), some (dSn y), some (dPaper pp), some (.int k), some (.int st), none, some (nestD pp2), some (.int (w : Nat)), none] none { rt := fun d => d = dSh t y pp2 } := fun pp2 h2 => by
    refine s_ret (e_tup (a_cons (e_var rfl) (a_cons (e_var rfl) (a_cons (e_cb (a_cons (e_lcM (w_list (e_var rfl)) (pp2.map dPP) (by simp) (by rw [List.length_map]; omega) fun i d hd => ?_) a_nil) c_tupL) a_nil))) (by simp)) rfl
    obtain ⟨u, hu, rfl⟩ := map_at hd
    exact ⟨_, _, _, g_name, fun j hj => hj, e_tup (a_cons (e_op (e_var rfl) e_int (o_ixT rfl)) (a_cons (e_cb (a_cons (e_op (e_var rfl) e_int (o_ixT rfl)) a_nil) c_tupL) a_nil)) (by simp), at_map hu⟩
  have don : ∀ {es2 pp2 σ2 H4}, NSt H0 G0 H1 G1 A1 es2 pp2 [some (dSh t y pp), some (.int m), some (.int q), some (dTk t), some (dSn y), some (dPaper pp), some (.int k), some (.int st), none, none, some (.int (w : Nat)), none] σ2 H4 → pp2 = chgL q st k w pp → (tRet (tTup (tCons (tVar 3) (tCons (tVar 4) (tCons (tCB (cTuple K) (tCons (tLc (iList K (tVar 9)) (gName 11) tYes (tTup (tCons (tOp (rIxT K) (tVar 11) (tC (.int 0))) (tCons (tCB (cTuple K) (tCons (tOp (rIxT K) (tVar 11) (tC (.int 1))) tNil)) tNil))) [11]) tNil)) tNil))))) D σ2 H4 := fun t4 he => t4.freeze (fin _ (by rw [he]; unfold chgL; rw [List.length_set]; exact hl)) fun v H' G' d a i z => rt v H' G' d a i (by rw [z, he])
  have gp : pp.getD w (0, 0, 0) = p := getD_at hp
  refine r_seq (t3.iff (b := decide (k < 14)) (t_test (e_op (e_var rfl) e_int o_lt)) (fun hb H4 t4 => ?_) (fun hb H4 t4 => ?_))
  · refine t4.put ha hp rfl (e_op (e_cb (a_cons (e_op (e_op (e_op (e_var rfl) (e_var rfl) (o_ixL an)) e_int (o_ixT rfl)) (e_var rfl) o_add) a_nil) c_int) (e_var rfl) (o_mod (by omega))) fun H5 es2 t5 => ?_
    refine don t5 ?_
    unfold chgL chgP
    rw [gp, if_pos (of_decide_eq_true hb)]
  · have n14 := of_decide_eq_false hb
    have h2 : k % 2 = 0 ∨ k % 2 = 1 := by omega
    rcases h2 with h2 | h2
    · refine t4.inner (j := 0) (x := (p.2.1 + st) % q) (y := p.2.2) ha hp rfl (c := (p.2.1 + st) % q) (e_op (e_cb (a_cons (e_op (e_op (e_op (e_op (e_var rfl) (e_var rfl) (o_ixL an)) e_int (o_ixT rfl)) (e_is (e_op (e_var rfl) e_int (o_mod (by decide))) (by rw [h2])) (o_ixL rfl)) (e_var rfl) o_add) a_nil) c_int) (e_var rfl) (o_mod (by omega))) (e_is (e_op (e_var rfl) e_int (o_mod (by decide))) (by rw [h2]; rfl)) (by decide) rfl fun H5 es2 t5 => ?_
      refine don t5 ?_
      unfold chgL chgP
      rw [gp, if_neg n14, if_pos h2]
    · refine t4.inner (j := 1) (x := p.2.1) (y := (p.2.2 + st) % q) ha hp rfl (c := (p.2.2 + st) % q) (e_op (e_cb (a_cons (e_op (e_op (e_op (e_op (e_var rfl) (e_var rfl) (o_ixL an)) e_int (o_ixT rfl)) (e_is (e_op (e_var rfl) e_int (o_mod (by decide))) (by rw [h2])) (o_ixL rfl)) (e_var rfl) o_add) a_nil) c_int) (e_var rfl) (o_mod (by omega))) (e_is (e_op (e_var rfl) e_int (o_mod (by decide))) (by rw [h2]; rfl)) (by decide) rfl fun H5 es2 t5 => ?_
      refine don t5 ?_
      unfold chgL chgP
      rw [gp, if_neg n14, if_neg (by omega)]
theorem der_law_changed {P : Program} {w : World} {K : PySem.W.Frag} {mg : Str → Option Value} {base : Heap} {CN CB : Addr} {f : Addr} (h : Wd K mg CN CB) (cdv : Value) (A : Around) (outer : List PySem.Env) (s : Shared) (H : Hp) (E : XK) (hr : Room 0 (A.deeper (envOfC "_law_changed" (defScope s_law_changed) s.heap.objs.size f cdv))) :
    PSs ((cxOf CX0 P w K mg base n_law_changed "_law_changed" (defScope s_law_changed) f cdv A outer s H E).nox) (defBody s_law_changed) (t_law_changed K CN CB) :=
  (pss_cons (ps_asg (pv 0) (pg_tup rfl (pgs_cons (pg_name (i := 3) sc_law_changed.nd rfl (by first | exact Or.inl rfl | exact Or.inr rfl)) (pgs_cons (pg_name (i := 4) sc_law_changed.nd rfl (by first | exact Or.inl rfl | exact Or.inr rfl)) (pgs_cons (pg_name (i := 5) sc_law_changed.nd rfl (by first | exact Or.inl rfl | exact Or.inr rfl)) pgs_nil)))))
  (pss_cons (ps_set (i := 6) sc_law_changed.nd rfl (by first | exact Or.inl rfl | exact Or.inr rfl) (pe_op op_mod (pe_op op_fdiv (pe_callTy call_int1 (by rfl) h.f_int bt_int (pa_cons (pv 1) pa_nil)) pe_int) pe_int))
  (pss_cons (ps_set (i := 7) sc_law_changed.nd rfl (by first | exact Or.inl rfl | exact Or.inr rfl) (pe_ix ix_list (pe_lst (pa_cons pe_int (pa_cons (pe_op op_sub (pv 2) pe_int) (pa_cons pe_int pa_nil)))) (pe_op op_mod (pe_callTy call_int1 (by rfl) h.f_int bt_int (pa_cons (pv 1) pa_nil)) pe_int) (fun _ _ => rfl)))
  (pss_cons (ps_if (pt_cmpR op_lt (pv 6) pe_int (nomark _)) (pss_one (ps_ret (pe_tup (pa_cons (pe_op op_catA (pe_op op_catA (pe_slice sl_tupA (pv 3) po_none (po_some (pv 6))) (pe_tup (pa_cons (pe_op op_mod (pe_callTy call_int1 (by rfl) h.f_int bt_int (pa_cons (pe_op op_add (pe_ix ix_tup (pv 3) (pv 6) (fun _ _ => rfl)) (pv 7)) pa_nil)) (pe_op op_add (pe_op op_mul pe_int (pv 2)) pe_int)) pa_nil))) (pe_slice sl_tupA (pv 3) (po_some (pe_op op_add (pv 6) pe_int)) po_none)) (pa_cons (pv 4) (pa_cons (pv 5) pa_nil)))))) pss_nil)
  (pss_cons (ps_if (pt_cmpR op_eq (pv 6) pe_int (nomark _)) (pss_one (ps_ret (pe_tup (pa_cons (pv 3) (pa_cons (pe_tup (pa_cons (pe_op op_mod (pe_callTy call_int1 (by rfl) h.f_int bt_int (pa_cons (pe_op op_add (pe_ix ix_tup (pv 4) pe_int (fun _ _ => rfl)) (pv 7)) pa_nil)) (pv 2)) (pa_cons (pe_ix ix_tup (pv 4) pe_int (fun _ _ => rfl)) pa_nil))) (pa_cons (pv 5) pa_nil)))))) pss_nil)
  (pss_cons (ps_if (pt_cmpR op_lt (pv 6) pe_int (nomark _)) (pss_cons (ps_set (i := 8) sc_law_changed.nd rfl (by first | exact Or.inl rfl | exact Or.inr rfl) (pe_callTy call_list_of (by rfl) h.f_list bt_list (pa_cons (pe_ix ix_tup (pv 4) pe_int (fun _ _ => rfl)) pa_nil)))
  (pss_cons (ps_asg (pe_op op_mod (pe_callTy call_int1 (by rfl) h.f_int bt_int (pa_cons (pe_op op_add (pe_ix ix_list (pv 8) (pe_op op_sub (pv 6) pe_int) (fun _ _ => rfl)) (pv 7)) pa_nil)) (pe_op op_add (pv 2) pe_int)) (pg_sub (pv 8) (pe_op op_sub (pv 6) pe_int) set_list))
  (pss_one (ps_ret (pe_tup (pa_cons (pv 3) (pa_cons (pe_tup (pa_cons (pe_ix ix_tup (pv 4) pe_int (fun _ _ => rfl)) (pa_cons (pe_callTy call_tuple_of (by rfl) h.f_tuple bt_tuple (pa_cons (pv 8) pa_nil)) pa_nil))) (pa_cons (pv 5) pa_nil)))))))) pss_nil)
  (pss_cons (ps_setLc (i := 9) (own := [("_law_pair", 11)]) rfl sc_law_changed.nd rfl rfl (sw_true rfl rfl rfl (by decide +kernel)) (pi_tup (pv 5)) (blkOk_by (own := [("_law_pair", 11)]) (N := n_law_changed) (sc := defScope s_law_changed) (by decide +kernel)) (fun _ _ _ _ _ => (pg_name (i := 11) sc_law_changed.nd rfl (by first | exact Or.inl rfl | exact Or.inr rfl))) (fun _ _ _ _ _ => pts_nil) (fun _ _ _ _ _ => (pe_tup (pa_cons (pe_ix ix_tup (pv 11) pe_int (fun _ _ => rfl)) (pa_cons (pe_callTy call_list_of (by rfl) h.f_list bt_list (pa_cons (pe_ix ix_tup (pv 11) pe_int (fun _ _ => rfl)) pa_nil)) pa_nil)))))
  (pss_cons (ps_set (i := 10) sc_law_changed.nd rfl (by first | exact Or.inl rfl | exact Or.inr rfl) (pe_op op_mod (pe_op op_fdiv (pe_callTy call_int1 (by rfl) h.f_int bt_int (pa_cons (pv 1) pa_nil)) pe_int) (pe_callB call_len_seq (by rfl) h.f_len bt_len (pa_cons (pv 9) pa_nil))))
  (pss_cons (ps_if (pt_cmpR op_lt (pv 6) pe_int (nomark _)) (pss_one (ps_asg (pe_tup (pa_cons (pe_op op_mod (pe_callTy call_int1 (by rfl) h.f_int bt_int (pa_cons (pe_op op_add (pe_ix ix_tup (pe_ix ix_list (pv 9) (pv 10) (fun _ _ => rfl)) pe_int (fun _ _ => rfl)) (pv 7)) pa_nil)) (pv 2)) (pa_cons (pe_ix ix_tup (pe_ix ix_list (pv 9) (pv 10) (fun _ _ => rfl)) pe_int (fun _ _ => rfl)) pa_nil))) (pg_sub (pv 9) (pv 10) set_list))) (pss_one (ps_asg (pe_op op_mod (pe_callTy call_int1 (by rfl) h.f_int bt_int (pa_cons (pe_op op_add (pe_ix ix_list (pe_ix ix_tup (pe_ix ix_list (pv 9) (pv 10) (fun _ _ => rfl)) pe_int (fun _ _ => rfl)) (pe_op op_mod (pv 6) pe_int) (fun _ _ => rfl)) (pv 7)) pa_nil)) (pv 2)) (pg_sub (pe_ix ix_tup (pe_ix ix_list (pv 9) (pv 10) (fun _ _ => rfl)) pe_int (fun _ _ => rfl)) (pe_op op_mod (pv 6) pe_int) set_list))))
  (pss_one (ps_ret (pe_tup (pa_cons (pv 3) (pa_cons (pv 4) (pa_cons (pe_callTy call_tuple_of (by rfl) h.f_tuple bt_tuple (pa_cons (pe_lc (own := [("_law_pair", 11)]) rfl sc_law_changed.nd (pi_list (pv 9)) (blkOk_by (own := [("_law_pair", 11)]) (N := n_law_changed) (sc := defScope s_law_changed) (by decide +kernel)) (fun _ _ _ _ _ => (pg_name (i := 11) sc_law_changed.nd rfl (by first | exact Or.inl rfl | exact Or.inr rfl))) (fun _ _ _ _ _ => pts_nil) (fun _ _ _ _ _ => (pe_tup (pa_cons (pe_ix ix_tup (pv 11) pe_int (fun _ _ => rfl)) (pa_cons (pe_callTy call_tuple_of (by rfl) h.f_tuple bt_tuple (pa_cons (pe_ix ix_tup (pv 11) pe_int (fun _ _ => rfl)) pa_nil)) pa_nil))))) pa_nil)) pa_nil)))))))))))))))
theorem pr_law_changed {P : Program} {w : World} {K : PySem.W.Frag} {mg : Str → Option Value} {base : Heap} {CN CB : Addr} (h : Wd K mg CN CB) : Pr P w K mg base CX0 1 "_law_changed" ["_law_showing", "_law_number", "_law_q"] (SP 3 R_law_changed) := by
  obtain ⟨f, fd, F, g⟩ := h.d_law_changed
  exact ⟨f, fd, okD F sc_law_changed (t_law_changed K CN CB) (der_law_changed h) (sem_law_changed (CN := CN) (CB := CB)), g, F.kp, F.bindsN fun _ _ _ _ _ _ us hl => match us, hl with | [_, _, _], _ => rfl⟩
theorem c_law_changed {ρ : Ev} {ta : TA} {t : Tk} {y : Sn} {pp : List Pp} {m q : Int} (h : A ta ρ [dSh t y pp, .int m, .int q]) (hq : Bd q) (hne : pp ≠ []) (hl : pp.length ≤ 25) : E (tCall (SP 3 R_law_changed) [] E0 ta) ρ (dSh (chg q m t y pp).1 (chg q m t y pp).2.1 (chg q m t y pp).2.2) :=
  e_call h rfl ⟨_, _, _, _, _, rfl, hq, hne, hl, rfl⟩
end Ck

set_option Elab.async false
set_option linter.all false
set_option maxRecDepth 100000
set_option maxHeartbeats 1000000
set_option autoImplicit false
/-! # The mathematics of an honest showing: every element is a power of 4 -/
namespace Ck
open PySem PySem.Spec PyProof.Rows L2
abbrev gx (q e : Int) : Int := pw q 4 e
section
variable {q a b c e : Int}
theorem g_mul (h : q ∈ qs) : gx q a * gx q b % (2 * q + 1) = gx q (a + b) := pw_add (qs_ok q h).1 (qs_ok q h).2
theorem g_pw (h : q ∈ qs) : pw q (gx q a) e = gx q (a * e) := pw_pw (qs_ok q h).1 (qs_ok q h).2
theorem g_k (k : Int) (h : a = b + q * k) : gx q a = gx q b := by
  refine pw_congr ?_
  rw [h, Int.add_mul_emod_self_left]
theorem g_zero (h : q ∈ qs) : gx q 0 = 1 := by
  have hb := (qs_ok q h).1
  unfold Bd at hb
  show (4 : Int) ^ ((0 : Int) % q).toNat % (2 * q + 1) = 1
  rw [Int.zero_emod]
  exact Int.emod_eq_of_lt (by decide) (by show (1 : Int) < _; omega)
def dot (ks es : List Int) : Int := (ks.zip es).foldl (fun c x => c + x.1 * x.2) 0
theorem g_fold (h : q ∈ qs) : ∀ (ks es : List Int) (c : Int), ((ks.map (gx q)).zip es).foldl (fun v x => v * pw q x.1 x.2 % (2 * q + 1)) (gx q c) = gx q ((ks.zip es).foldl (fun c x => c + x.1 * x.2) c)
  | [], _, _ => rfl
  | _ :: _, [], _ => rfl
  | k :: ks, e :: es, c => by
    show ((ks.map (gx q)).zip es).foldl _ (gx q c * pw q (gx q k) e % (2 * q + 1)) = _
    rw [g_pw h, g_mul h, g_fold h ks es]
    rfl
theorem g_pops (h : q ∈ qs) (ks es : List Int) : pops q (ks.map (gx q)) es = gx q (dot ks es) := by
  unfold pops dot
  rw [← g_fold h ks es 0, g_zero h]
/-! facts of the eight orders, by looking -/
def okOne (q : Int) : Bool := (List.range q.toNat).all fun a => a == 0 || !decide (pw q 4 (a : Int) = 1)
theorem ok_one : ∀ q ∈ qs, okOne q = true := by
  intro q hq
  simp only [qs, List.mem_cons, List.not_mem_nil, or_false] at hq
  rcases hq with rfl | rfl | rfl | rfl | rfl | rfl | rfl | rfl <;> decide +kernel
theorem g_one (h : q ∈ qs) (e1 : gx q a = 1) : a % q = 0 := by
  have hb := (qs_ok q h).1
  unfold Bd at hb
  have m0 := Int.emod_nonneg a (show q ≠ 0 by omega)
  have m1 := Int.emod_lt_of_pos a (show 0 < q by omega)
  have e2 : gx q (((a % q).toNat : Nat) : Int) = 1 := by
    rw [← e1, show (((a % q).toNat : Nat) : Int) = a % q by omega]
    exact pw_congr (Int.emod_emod _ _)
  have hc := List.all_eq_true.mp (ok_one q h) (a % q).toNat (List.mem_range.mpr (by omega))
  rw [decide_eq_true e2] at hc
  have hz : (a % q).toNat = 0 := by simpa using hc
  omega
def okPrime (q : Int) : Bool := (List.range q.toNat).all fun a => (List.range q.toNat).all fun b => a == 0 || b == 0 || !decide (((a : Int) * (b : Int)) % q = 0)
theorem ok_prime : ∀ q ∈ qs, okPrime q = true := by
  intro q hq
  simp only [qs, List.mem_cons, List.not_mem_nil, or_false] at hq
  rcases hq with rfl | rfl | rfl | rfl | rfl | rfl | rfl | rfl <;> decide +kernel
theorem q_prime (h : q ∈ qs) (e1 : a * b % q = 0) : a % q = 0 ∨ b % q = 0 := by
  have hb := (qs_ok q h).1
  unfold Bd at hb
  have a0 := Int.emod_nonneg a (show q ≠ 0 by omega)
  have a1 := Int.emod_lt_of_pos a (show 0 < q by omega)
  have b0 := Int.emod_nonneg b (show q ≠ 0 by omega)
  have b1 := Int.emod_lt_of_pos b (show 0 < q by omega)
  have e2 : (((a % q).toNat : Int) * ((b % q).toNat : Int)) % q = 0 := by
    rw [show (((a % q).toNat : Nat) : Int) = a % q by omega, show (((b % q).toNat : Nat) : Int) = b % q by omega, ← Int.mul_emod, e1]
  have hc := List.all_eq_true.mp (List.all_eq_true.mp (ok_prime q h) (a % q).toNat (List.mem_range.mpr (by omega))) (b % q).toNat (List.mem_range.mpr (by omega))
  rw [decide_eq_true e2] at hc
  have hz : (a % q).toNat = 0 ∨ (b % q).toNat = 0 := by simpa using hc
  omega
def okInv (q : Int) : Bool := (List.range q.toNat).all fun u => u == 0 || decide (((u : Int) * rs (u : Int) (q - 2) q) % q = 1)
theorem ok_inv : ∀ q ∈ qs, okInv q = true := by
  intro q hq
  simp only [qs, List.mem_cons, List.not_mem_nil, or_false] at hq
  rcases hq with rfl | rfl | rfl | rfl | rfl | rfl | rfl | rfl <;> decide +kernel
theorem q_inv {u f : Int} (h : q ∈ qs) (h1 : 1 ≤ u) (h2 : u < q) : ∃ k, u * quo q f u = f + q * k := by
  have hb := (qs_ok q h).1
  unfold Bd at hb
  have hc := List.all_eq_true.mp (ok_inv q h) u.toNat (List.mem_range.mpr (by omega))
  rw [show ((u.toNat : Nat) : Int) = u by omega] at hc
  have hd : u * rs u (q - 2) q % q = 1 := by
    have hn : ¬ u.toNat = 0 := by omega
    simpa [hn] using hc
  unfold quo
  generalize rs u (q - 2) q = r at hd
  have e1 := Int.emod_def (f * r) q
  have e2 := Int.emod_def (u * r) q
  rw [hd] at e2
  refine ⟨f * (u * r / q) - u * (f * r / q), ?_⟩
  rw [e1]
  generalize f * r / q = k1
  generalize u * r / q = k2 at e2
  grind
end
/-! ### the logarithms of a setup -/
structure Logs (s : Su) (k0 k1 k2 k3 k4 : Int) : Prop where
  hq : s.q ∈ qs
  e0 : s.b0 = gx s.q k0
  e1 : s.b1 = gx s.q k1
  e2 : s.b2 = gx s.q k2
  e3 : s.b3 = gx s.q k3
  e4 : s.b4 = gx s.q k4
  r : 1 ≤ k2 ∧ k2 < s.q
theorem logs (row : List Int) : ∃ k0 k1 k2 k3 k4, Logs (suOf row) k0 k1 k2 k3 k4 := by
  have hb := (qs_ok _ (qOf_mem row)).1
  unfold Bd at hb
  have m0 := Int.emod_nonneg (coinV (atR row 1) 2 "base") (show qOf row - 1 ≠ 0 by omega)
  have m1 := Int.emod_lt_of_pos (coinV (atR row 1) 2 "base") (show 0 < qOf row - 1 by omega)
  exact ⟨_, _, _, _, _, qOf_mem row, rfl, rfl, rfl, rfl, rfl, by omega, by show _ < qOf row; omega⟩
section
variable {s : Su} {k0 k1 k2 k3 k4 : Int}
/-- the logarithm of a person's mark -/
def lgM (k1 k2 k3 k4 : Int) (p : Pe) : Int := 0 + k1 * 1 + k2 * p.n + k3 * p.a + k4 * p.z
theorem mark_g (l : Logs s k0 k1 k2 k3 k4) (p : Pe) : mark s p = gx s.q (lgM k1 k2 k3 k4 p) := by
  unfold mark rest
  rw [l.e1, l.e2, l.e3, l.e4]
  exact g_pops l.hq [k1, k2, k3, k4] [1, p.n, p.a, p.z]
theorem mark_next (l : Logs s k0 k1 k2 k3 k4) {p : Pe} (h : mark s p = 1) : mark s (nextP s p) ≠ 1 := fun h2 => by
  have hb := (qs_ok _ l.hq).1
  unfold Bd at hb
  rw [mark_g l] at h h2
  have z1 := g_one l.hq h
  have z2 := g_one l.hq h2
  unfold lgM nextP at z2
  unfold lgM at z1
  simp only at z2
  have d1 := Int.emod_def (0 + k1 * 1 + k2 * p.n + k3 * p.a + k4 * p.z) s.q
  have d2 := Int.emod_def (0 + k1 * 1 + k2 * ((p.n + 1) % s.q) + k3 * p.a + k4 * p.z) s.q
  rw [z1] at d1
  rw [z2] at d2
  have d3 := Int.emod_def (p.n + 1) s.q
  rw [d3] at d2
  generalize (0 + k1 * 1 + k2 * p.n + k3 * p.a + k4 * p.z) / s.q = t1 at d1
  generalize (0 + k1 * 1 + k2 * (p.n + 1 - s.q * ((p.n + 1) / s.q)) + k3 * p.a + k4 * p.z) / s.q = t2 at d2
  generalize (p.n + 1) / s.q = t3 at d2
  have e : k2 = s.q * (t2 - t1 + k2 * t3) := by grind
  have e2 : k2 % s.q = 0 := by
    rw [e]
    exact Int.mul_emod_right _ _
  rw [Int.emod_eq_of_lt (by have := l.r; omega) l.r.2] at e2
  have := l.r
  omega
theorem ne_one (h : s.q ∈ qs) {a b : Int} (ha : gx s.q a ≠ 1) (h1 : 1 ≤ b) (h2 : b < s.q) : gx s.q (a * b) ≠ 1 := fun e => by
  rcases q_prime h (g_one h e) with z | z
  · refine ha ?_
    rw [← g_zero h]
    refine pw_congr ?_
    rw [z, Int.zero_emod]
  · rw [Int.emod_eq_of_lt (by omega) h2] at z
    omega
/-! ### the session -/
theorem inQ_mod {q : Int} (h : q ∈ qs) (a : Int) : inQ q (a % q) = true := by
  have hb := (qs_ok q h).1
  unfold Bd at hb
  exact inQ_iff.mpr ⟨Int.emod_nonneg _ (by omega), Int.emod_lt_of_pos _ (by omega)⟩
theorem one_mod {q : Int} (h : q ∈ qs) (a : Int) : 1 ≤ 1 + a % (q - 1) ∧ 1 + a % (q - 1) < q := by
  have hb := (qs_ok q h).1
  unfold Bd at hb
  have m0 := Int.emod_nonneg a (show q - 1 ≠ 0 by omega)
  have m1 := Int.emod_lt_of_pos a (show 0 < q - 1 by omega)
  omega
theorem goodBl {q : Int} (h : q ∈ qs) (row : List Int) (n : Int) : GoodB q (blOf q row n) := by
  have o1 := one_mod h (atR row (n + (0 + (0 : Nat))))
  have o2 := one_mod h (atR row (n + (0 + (1 : Nat))))
  refine ⟨?_, ?_, ?_⟩
  · simp only [List.all_cons, List.all_nil, Bool.and_true, Bool.and_eq_true]
    refine ⟨inQ_iff.mpr ?_, inQ_iff.mpr ?_, inQ_mod h _, inQ_mod h _, inQ_mod h _, inQ_mod h _, inQ_mod h _⟩
    · show 0 ≤ 1 + atR row (n + (0 + (0 : Nat))) % (q - 1) ∧ 1 + atR row (n + (0 + (0 : Nat))) % (q - 1) < q
      omega
    · show 0 ≤ 1 + atR row (n + (0 + (1 : Nat))) % (q - 1) ∧ 1 + atR row (n + (0 + (1 : Nat))) % (q - 1) < q
      omega
  · show 1 + atR row (n + (0 + (0 : Nat))) % (q - 1) ≠ 0
    omega
  · show 1 + atR row (n + (0 + (1 : Nat))) % (q - 1) ≠ 0
    omega
theorem goodL (g : GoodS s) (l : Logs s k0 k1 k2 k3 k4) {x : Int} {p : Pe} {row : List Int} {n : Int} (h1 : 1 ≤ x) (h2 : x < s.q) (gp : GoodPe s.q p) (hm : mark s p ≠ 1) : GoodL s x p row n := by
  have hq := l.hq
  have hb := (qs_ok _ hq).1
  have em := mark_g l p
  have c0 : inQ s.q (reqC s p (offer s x p (wOf s.q row n)) (blOf s.q row n)) = true := inQ_mod hq _
  have go : GoodO s.q (offer s x p (wOf s.q row n)) := by
    refine ⟨el_pw hb (el_mark g), el_pw hb g.e0, el_pw hb (el_mark g), ?_⟩
    show pw s.q (mark s p) x ≠ 1
    rw [em, g_pw hq]
    exact ne_one hq (by rw [← em]; exact hm) h1 h2
  refine ⟨h1, h2, c0, ⟨⟨g, gp, hm, go, goodBl hq row n⟩, el_pw hb g.e0, inQ_mod hq _, ?_, ?_⟩⟩
  · refine decide_eq_true ?_
    unfold rOf
    generalize reqC s p (offer s x p (wOf s.q row n)) (blOf s.q row n) = c
    show pw s.q s.b0 ((wOf s.q row n + c * x) % s.q) = pw s.q s.b0 (wOf s.q row n) * pw s.q (pw s.q s.b0 x) c % (2 * s.q + 1)
    generalize wOf s.q row n = w
    rw [l.e0, g_pw hq, g_pw hq, g_pw hq, g_pw hq, g_mul hq, Int.emod_def]
    exact g_k (-(k0 * ((w + c * x) / s.q))) (by generalize (w + c * x) / s.q = t; grind)
  · refine decide_eq_true ?_
    unfold rOf
    generalize reqC s p (offer s x p (wOf s.q row n)) (blOf s.q row n) = c
    show pw s.q (mark s p) ((wOf s.q row n + c * x) % s.q) = pw s.q (mark s p) (wOf s.q row n) * pw s.q (pw s.q (mark s p) x) c % (2 * s.q + 1)
    generalize wOf s.q row n = w
    rw [em]
    generalize lgM k1 k2 k3 k4 p = m
    rw [g_pw hq, g_pw hq, g_pw hq, g_pw hq, g_mul hq, Int.emod_def]
    exact g_k (-(m * ((w + c * x) / s.q))) (by generalize (w + c * x) / s.q = t; grind)
/-! ### the ticket that is made -/
def tkT (s : Su) (x : Int) (p : Pe) (row : List Int) (n : Int) : Tk := tkL (tkOf s x p row n)
theorem tkT_d (s : Su) (x : Int) (p : Pe) (row : List Int) (n : Int) : PyData.tuple (dI (tkOf s x p row n)) = dTk (tkT s x p row n) := rfl
theorem t5_tk (s : Su) (x : Int) (p : Pe) (row : List Int) (n : Int) : t5 (tkT s x p row n) = hid s p (offer s x p (wOf s.q row n)) (blOf s.q row n) := rfl
theorem honest_ticket (g : GoodS s) (l : Logs s k0 k1 k2 k3 k4) {x : Int} {p : Pe} {row : List Int} {n : Int} (h1 : 1 ≤ x) (h2 : x < s.q) (gp : GoodPe s.q p) (hm : mark s p ≠ 1) : ticketB s (pw s.q s.b0 x) (tkT s x p row n) = true := by
  have hq := l.hq
  have hb := (qs_ok _ hq).1
  have em := mark_g l p
  have gl := goodL (row := row) (n := n) g l h1 h2 gp hm
  have gh := gl.k.h
  have gb := gh.b.al
  simp only [List.all_cons, List.all_nil, Bool.and_true, Bool.and_eq_true] at gb
  have bs := inQ_iff.mp gb.1
  have bu := inQ_iff.mp gb.2.1
  have s0 := gh.b.s
  have u0 := gh.b.u
  have hel : (t5 (tkT s x p row n)).all (isEl s.q) = true := by
    rw [t5_tk]
    exact List.all_eq_true.mpr (hid_el gh)
  have n1 : (tkT s x p row n).n0 ≠ 1 := by
    show pw s.q (mark s p) (blOf s.q row n).s ≠ 1
    rw [em, g_pw hq]
    exact ne_one hq (by rw [← em]; exact hm) (by omega) bs.2
  have n5 : inQ s.q (tkT s x p row n).n5 = true := inQ_mod hq _
  obtain ⟨kq, hk⟩ := q_inv (f := tkC s.q (t5 (tkT s x p row n))) hq (show 1 ≤ (blOf s.q row n).u by omega) bu.2
  have hc : reqC s p (offer s x p (wOf s.q row n)) (blOf s.q row n) = quo s.q (tkC s.q (t5 (tkT s x p row n))) (blOf s.q row n).u := by
    rw [t5_tk]
    rfl
  have er : (tkT s x p row n).n5 = ((blOf s.q row n).u * rOf s x p row n + (blOf s.q row n).v) % s.q := rfl
  have e3 : (tkT s x p row n).n3 = pw s.q (pw s.q s.b0 (wOf s.q row n)) (blOf s.q row n).u * pw s.q s.b0 (blOf s.q row n).v % (2 * s.q + 1) := rfl
  have e4 : (tkT s x p row n).n4 = pw s.q (pw s.q (mark s p) (wOf s.q row n)) ((blOf s.q row n).s * (blOf s.q row n).u) * pw s.q (pw s.q (mark s p) (blOf s.q row n).s) (blOf s.q row n).v % (2 * s.q + 1) := rfl
  have e0 : (tkT s x p row n).n0 = pw s.q (mark s p) (blOf s.q row n).s := rfl
  have e2 : (tkT s x p row n).n2 = pw s.q (pw s.q (mark s p) x) (blOf s.q row n).s := rfl
  have er2 : rOf s x p row n = (wOf s.q row n + quo s.q (tkC s.q (t5 (tkT s x p row n))) (blOf s.q row n).u * x) % s.q := by
    unfold rOf
    rw [hc]
  unfold ticketB granted
  rw [hel, n5, decide_eq_false n1]
  generalize tkC s.q (t5 (tkT s x p row n)) = c1 at *
  rw [er, e3, e4, e0, e2, er2]
  generalize (blOf s.q row n).u = u at *
  generalize (blOf s.q row n).v = v at *
  generalize (blOf s.q row n).s = ss at *
  generalize wOf s.q row n = w at *
  generalize quo s.q c1 u = c at *
  rw [em, l.e0]
  generalize lgM k1 k2 k3 k4 p = m at *
  have f1 : pw s.q (gx s.q k0) ((u * ((w + c * x) % s.q) + v) % s.q) = pw s.q (pw s.q (gx s.q k0) w) u * pw s.q (gx s.q k0) v % (2 * s.q + 1) * pw s.q (pw s.q (gx s.q k0) x) c1 % (2 * s.q + 1) := by
    rw [g_pw hq, g_pw hq, g_pw hq, g_pw hq, g_pw hq, g_pw hq, g_mul hq, g_mul hq, Int.emod_def (w + c * x), Int.emod_def]
    refine g_k (k0 * (x * kq) - k0 * (u * ((w + c * x) / s.q)) - k0 * ((u * (w + c * x - s.q * ((w + c * x) / s.q)) + v) / s.q)) ?_
    generalize (u * (w + c * x - s.q * ((w + c * x) / s.q)) + v) / s.q = t2
    generalize (w + c * x) / s.q = t1
    grind
  have f2 : pw s.q (pw s.q (gx s.q m) ss) ((u * ((w + c * x) % s.q) + v) % s.q) = pw s.q (pw s.q (gx s.q m) w) (ss * u) * pw s.q (pw s.q (gx s.q m) ss) v % (2 * s.q + 1) * pw s.q (pw s.q (pw s.q (gx s.q m) x) ss) c1 % (2 * s.q + 1) := by
    rw [g_pw hq, g_pw hq, g_pw hq, g_pw hq, g_pw hq, g_pw hq, g_pw hq, g_pw hq, g_mul hq, g_mul hq, Int.emod_def (w + c * x), Int.emod_def]
    refine g_k (m * (ss * (x * kq)) - m * (ss * (u * ((w + c * x) / s.q))) - m * (ss * ((u * (w + c * x - s.q * ((w + c * x) / s.q)) + v) / s.q))) ?_
    generalize (u * (w + c * x - s.q * ((w + c * x) / s.q)) + v) / s.q = t2
    generalize (w + c * x) / s.q = t1
    grind
  rw [decide_eq_true f1, decide_eq_true f2]
  rfl
end
end Ck

set_option Elab.async false
set_option linter.all false
set_option maxRecDepth 100000
set_option maxHeartbeats 1000000
set_option autoImplicit false
/-! # The mathematics of an honest showing: the spend, the paper -/
namespace Ck
open PySem PySem.Spec PyProof.Rows L2
section
variable {s : Su} {k0 k1 k2 k3 k4 : Int}
theorem rest_g (l : Logs s k0 k1 k2 k3 k4) : rest s = [k1, k2, k3, k4].map (gx s.q) := by
  unfold rest
  rw [l.e1, l.e2, l.e3, l.e4]
  rfl
theorem honest_spend (g : GoodS s) (l : Logs s k0 k1 k2 k3 k4) {x : Int} {p : Pe} {row : List Int} {n : Int} {cx : Ct} {ps : List Q2} (gh : GoodH s p (offer s x p (wOf s.q row n)) (blOf s.q row n)) : spendB s (tkT s x p row n) (mkSp s p (blOf s.q row n) cx ps) = true := by
  have hq := l.hq
  have hb := (qs_ok _ hq).1
  have hb' := hb
  unfold Bd at hb'
  have em := mark_g l p
  have el : ∀ v ∈ t5 (tkT s x p row n), isEl s.q v = true := by
    rw [t5_tk]
    exact hid_el gh
  have e0 : isEl s.q (tkT s x p row n).n0 = true := el _ (by simp [t5])
  have e1 : isEl s.q (tkT s x p row n).n1 = true := el _ (by simp [t5])
  have hd : inQ s.q (mkSp s p (blOf s.q row n) cx ps).d = true := chal_inQ (by omega)
  have ha : (s4 (mkSp s p (blOf s.q row n) cx ps)).all (inQ s.q) = true := by
    simp only [s4, mkSp, spd, List.all_cons, List.all_nil, Bool.and_true, Bool.and_eq_true]
    exact ⟨inQ_mod hq _, inQ_mod hq _, inQ_mod hq _, inQ_mod hq _⟩
  have n0 : (tkT s x p row n).n0 = pw s.q (mark s p) (blOf s.q row n).s := rfl
  have n1 : (tkT s x p row n).n1 = pops s.q (rest s) [(blOf s.q row n).r1, (blOf s.q row n).r2, (blOf s.q row n).r3, (blOf s.q row n).r4] := rfl
  unfold spendB
  rw [e0, e1, hd, ha, n0, n1]
  have f : pops s.q (rest s) (s4 (mkSp s p (blOf s.q row n) cx ps)) = pw s.q (pw s.q (mark s p) (blOf s.q row n).s) (mkSp s p (blOf s.q row n) cx ps).d * pops s.q (rest s) [(blOf s.q row n).r1, (blOf s.q row n).r2, (blOf s.q row n).r3, (blOf s.q row n).r4] % (2 * s.q + 1) := by
    rw [rest_g l, g_pops hq, g_pops hq, em, g_pw hq, g_pw hq, g_mul hq]
    unfold mkSp spd s4 dot lgM
    simp only [List.zip_cons_cons, List.zip_nil_right, List.foldl_cons, List.foldl_nil]
    generalize stC s cx ps = c
    generalize (blOf s.q row n).s = ss
    generalize (blOf s.q row n).r1 = r1
    generalize (blOf s.q row n).r2 = r2
    generalize (blOf s.q row n).r3 = r3
    generalize (blOf s.q row n).r4 = r4
    rw [Int.emod_def, Int.emod_def, Int.emod_def, Int.emod_def]
    refine g_k (-(k1 * ((r1 + c * ss * 1) / s.q) + k2 * ((r2 + c * ss * p.n) / s.q) + k3 * ((r3 + c * ss * p.a) / s.q) + k4 * ((r4 + c * ss * p.z) / s.q))) ?_
    generalize (r1 + c * ss * 1) / s.q = t1
    generalize (r2 + c * ss * p.n) / s.q = t2
    generalize (r3 + c * ss * p.a) / s.q = t3
    generalize (r4 + c * ss * p.z) / s.q = t4
    grind
  rw [decide_eq_true f]
  rfl
/-- the logarithm of a pair's base -/
def lgC (k1 k3 k4 : Int) (p : Q2) : Int := 0 + k1 * 1 + k3 * p.1 + k4 * p.2
theorem cb_g (l : Logs s k0 k1 k2 k3 k4) (p : Q2) : cb s p = gx s.q (lgC k1 k3 k4 p) := by
  unfold cb
  rw [l.e1, l.e3, l.e4]
  exact g_pops l.hq [k1, k3, k4] [1, p.1, p.2]
theorem holds_own (l : Logs s k0 k1 k2 k3 k4) (p : Pe) (b : Int) : pops s.q [cb s (p.a, p.z), s.b2] [b, b * p.n % s.q] = pw s.q (mark s p) b := by
  have hq := l.hq
  rw [cb_g l, l.e2, mark_g l, g_pw hq]
  rw [show [gx s.q (lgC k1 k3 k4 (p.a, p.z)), gx s.q k2] = [lgC k1 k3 k4 (p.a, p.z), k2].map (gx s.q) from rfl, g_pops hq]
  unfold dot lgC lgM
  simp only [List.zip_cons_cons, List.zip_nil_right, List.foldl_cons, List.foldl_nil]
  rw [Int.emod_def]
  refine g_k (-(k2 * (b * p.n / s.q))) ?_
  generalize b * p.n / s.q = t
  grind
end
/-! ### the paper -/
theorem tr_g {q kb k2 ka c x y : Int} (h : q ∈ qs) : tr q (gx q ka) (gx q kb) (gx q k2) c x y = gx q (0 + kb * x + k2 * y + ka * c * -1) := by
  unfold tr
  rw [show [gx q kb, gx q k2] = [kb, k2].map (gx q) from rfl, g_pops h, g_pw h, g_pw h, g_mul h]
  rfl
/-- the trace of the claim that holds: the noise's own -/
theorem tr_same {q kb k2 x y c n1 n2 A : Int} (h : q ∈ qs) (hA : pops q [gx q kb, gx q k2] [x, y] = A) : tr q A (gx q kb) (gx q k2) c ((n1 + c * x) % q) ((n2 + c * y) % q) = tr q A (gx q kb) (gx q k2) 0 n1 n2 := by
  rw [show [gx q kb, gx q k2] = [kb, k2].map (gx q) from rfl, g_pops h] at hA
  have e : A = gx q (0 + kb * x + k2 * y) := hA.symm
  rw [e, tr_g h, tr_g h, Int.emod_def, Int.emod_def]
  refine g_k (-(kb * ((n1 + c * x) / q)) - k2 * ((n2 + c * y) / q)) ?_
  generalize (n1 + c * x) / q = t1
  generalize (n2 + c * y) / q = t2
  grind
theorem oth_set {ps : List Pp} {k : Nat} {v : Pp} : ∀ i : Nat, othC (ps.set k v) (k : Nat) i = othC ps (k : Nat) i
  | 0 => rfl
  | i + 1 => by
    by_cases h : i = k
    · subst h
      rw [othC_no (by simp), othC_no (by simp), oth_set i]
    · have hb : (!decide (((i : Nat) : Int) = ((k : Nat) : Int))) = true := by
        rw [decide_eq_false (by omega)]
        rfl
      rw [othC_yes hb, othC_yes hb, oth_set i]
      have e : (ps.set k v).getD i (0, 0, 0) = ps.getD i (0, 0, 0) := by
        rw [List.getD_eq_getElem?_getD, List.getD_eq_getElem?_getD, List.getElem?_set_ne (fun z => h z.symm)]
      rw [e]
theorem sum_app1 (l : List Int) (x : Int) : (l ++ [x]).sum = l.sum + x := by
  rw [List.sum_append]
  simp
theorem oth_sum (ps : List Pp) (k : Nat) : ∀ i : Nat, (othC ps (-1) i).sum = (othC ps (k : Nat) i).sum + (if k < i then (ps.getD k (0, 0, 0)).1 else 0)
  | 0 => by
    rw [if_neg (by omega)]
    rfl
  | i + 1 => by
    have hm : (!decide (((i : Nat) : Int) = (-1 : Int))) = true := by
      rw [decide_eq_false (by omega)]
      rfl
    rw [othC_yes hm, sum_app1, oth_sum ps k i]
    by_cases h : i = k
    · subst h
      rw [othC_no (by simp), if_neg (by omega), if_pos (by omega)]
      omega
    · have hb : (!decide (((i : Nat) : Int) = ((k : Nat) : Int))) = true := by
        rw [decide_eq_false (by omega)]
        rfl
      rw [othC_yes hb, sum_app1]
      by_cases h2 : k < i
      · rw [if_pos h2, if_pos (by omega)]
        omega
      · rw [if_neg h2, if_neg (by omega)]
        omega
theorem trs_set {q a0 g1 b : Int} {bs : List Int} {ps : List Pp} {k : Nat} {n v : Pp} (hb : bs[k]? = some b) (hn : ps[k]? = some n) (h : tr q a0 b g1 v.1 v.2.1 v.2.2 = tr q a0 b g1 n.1 n.2.1 n.2.2) : trs q a0 g1 bs (ps.set k v) = trs q a0 g1 bs ps := by
  unfold trs
  apply List.ext_getElem?
  intro j
  rw [List.getElem?_map, List.getElem?_map, List.zip, List.getElem?_zipWith, List.getElem?_zipWith]
  have hk : k < ps.length := (List.getElem?_eq_some_iff.mp hn).1
  by_cases hj : k = j
  · subst hj
    rw [List.getElem?_set_self hk, hb, hn]
    exact congrArg some h
  · rw [List.getElem?_set_ne hj]
theorem paper_right {q : Int} (h : q ∈ qs) {t : Str} {kb k2 A x y b g1 : Int} {bs : List Int} {k : Nat} {nz : List Pp} {n : Pp} (eb : b = gx q kb) (eg : g1 = gx q k2) (hb : bs[k]? = some b) (hn : nz[k]? = some n) (n0 : n.1 = 0) (hA : pops q [b, g1] [x, y] = A) :
    rightP q t A g1 bs (mkP q t A g1 bs k x y nz n) = true := by
  have hq := (qs_ok q h).1
  unfold Bd at hq
  have hk : k < nz.length := (List.getElem?_eq_some_iff.mp hn).1
  have et : trs q A g1 bs (mkP q t A g1 bs k x y nz n) = trs q A g1 bs nz := by
    refine trs_set hb hn ?_
    rw [n0, eb, eg]
    refine tr_same h ?_
    rw [← eb, ← eg]
    exact hA
  have ec : callV q t A g1 bs (mkP q t A g1 bs k x y nz n) = callV q t A g1 bs nz := by
    unfold callV
    rw [et]
  have es : sumO (mkP q t A g1 bs k x y nz n) (-1) = sumO nz (k : Nat) + mkC q t A g1 bs k nz := by
    unfold sumO
    rw [oth_sum _ k]
    have ln : (mkP q t A g1 bs k x y nz n).length = nz.length := by
      unfold mkP
      rw [List.length_set]
    rw [ln, if_pos hk]
    unfold mkP
    rw [oth_set, getD_at (List.getElem?_set_self hk)]
  unfold rightP
  rw [es, ec]
  unfold mkC
  refine decide_eq_true ?_
  rw [Int.emod_def (callV q t A g1 bs nz - sumO nz (k : Nat)) q, show sumO nz (k : Nat) + (callV q t A g1 bs nz - sumO nz (k : Nat) - q * ((callV q t A g1 bs nz - sumO nz (k : Nat)) / q)) - callV q t A g1 bs nz = q * (-((callV q t A g1 bs nz - sumO nz (k : Nat)) / q)) by
    generalize (callV q t A g1 bs nz - sumO nz (k : Nat)) / q = d
    grind]
  exact Int.mul_emod_right _ _
/-! ### the whole honest showing -/
section
variable {s : Su} {k0 k1 k2 k3 k4 : Int}
theorem tk_small {x : Int} {p : Pe} {row : List Int} {n : Int} (hq : s.q ∈ qs) (gh : GoodH s p (offer s x p (wOf s.q row n)) (blOf s.q row n)) : Small (t6 (tkT s x p row n)) := by
  have hb := (qs_ok _ hq).1
  have h5 : Small (t5 (tkT s x p row n)) := el_small hb (by rw [t5_tk]; exact hid_el gh)
  have n5 := inQ_iff.mp (inQ_mod hq ((blOf s.q row n).u * rOf s x p row n + (blOf s.q row n).v))
  unfold Bd at hb
  intro v hv
  have hv' : v ∈ t5 (tkT s x p row n) ++ [(tkT s x p row n).n5] := hv
  rcases List.mem_append.mp hv' with h | h
  · exact h5 v h
  · rw [List.mem_singleton] at h
    rw [h]
    show 0 ≤ ((blOf s.q row n).u * rOf s x p row n + (blOf s.q row n).v) % s.q ∧ ((blOf s.q row n).u * rOf s x p row n + (blOf s.q row n).v) % s.q < 10000000
    omega
theorem goodM (g : GoodS s) (l : Logs s k0 k1 k2 k3 k4) {x : Int} {p : Pe} {row : List Int} {n : Int} {cx : Ct} {ps : List Q2} {nz : List Pp} {k : Nat} {n0 : Pp} (gh : GoodH s p (offer s x p (wOf s.q row n)) (blOf s.q row n)) (gx' : GoodX cx) (gq : GoodPs ps) (hk : ps[k]? = some (p.a, p.z)) (hl : ps.length = nz.length)
    (hz : ∀ p ∈ nz, okPP s.q p = true) (hn : nz[k]? = some n0) (hn0 : n0.1 = 0) : GoodM s p (tkT s x p row n) (blOf s.q row n) cx ps nz k n0 := by
  have el : ∀ v ∈ t5 (tkT s x p row n), isEl s.q v = true := by
    rw [t5_tk]
    exact hid_el gh
  exact ⟨g, gh.p, gh.b, gx', gq, hk, tk_small l.hq gh, el _ (by simp [t5]), holds_own l p _, hl, hz, hn, hn0⟩
theorem honest_show (l : Logs s k0 k1 k2 k3 k4) {x : Int} {p : Pe} {row : List Int} {n : Int} {cx : Ct} {ps : List Q2} {nz : List Pp} {k : Nat} {n0 : Pp} (h1 : 1 ≤ x) (h2 : x < s.q) (g : GoodM s p (tkT s x p row n) (blOf s.q row n) cx ps nz k n0) (gh : GoodH s p (offer s x p (wOf s.q row n)) (blOf s.q row n)) :
    showB s (pw s.q s.b0 x) cx ps (tkT s x p row n) (mkSp s p (blOf s.q row n) cx ps) (mkPp s p (tkT s x p row n) (blOf s.q row n) cx ps nz k n0) = true := by
  unfold showB
  rw [honest_ticket g.gs l h1 h2 g.gp gh.m, honest_spend g.gs l gh]
  have ed : decide ((mkSp s p (blOf s.q row n) cx ps).d = stC s cx ps) = true := decide_eq_true rfl
  rw [ed]
  have hr := paper_right (t := ptx cx ps (tkT s x p row n) (mkSp s p (blOf s.q row n) cx ps)) (bs := ps.map (cb s)) l.hq (cb_g l (p.a, p.z)) l.e2 (at_map g.at_) g.n g.nn g.hh
  unfold mkPp
  rw [hr]
  rfl
theorem mkPp_len {p : Pe} {t : Tk} {b : Bl} {cx : Ct} {ps : List Q2} {nz : List Pp} {k : Nat} {n0 : Pp} : (mkPp s p t b cx ps nz k n0).length = nz.length := by
  unfold mkPp mkP
  rw [List.length_set]
theorem mkPp_ok (hq : s.q ∈ qs) {p : Pe} {t : Tk} {b : Bl} {cx : Ct} {ps : List Q2} {nz : List Pp} {k : Nat} {n0 : Pp} (hz : ∀ p ∈ nz, okPP s.q p = true) : ∀ u ∈ mkPp s p t b cx ps nz k n0, okPP s.q u = true := by
  intro u hu
  unfold mkPp mkP at hu
  rcases List.mem_or_eq_of_mem_set hu with h | h
  · exact hz u h
  · rw [h]
    exact okPP_iff.mpr ⟨inQ_mod hq _, inQ_mod hq _, inQ_mod hq _⟩
end
/-! ### changed showings stay in range -/
theorem small_set {l : List Int} {i : Nat} {v : Int} (h : Small l) (hv : 0 ≤ v ∧ v < 10000000) : Small (l.set i v) := fun n hn => by
  rcases List.mem_or_eq_of_mem_set hn with h1 | h1
  · exact h n h1
  · rw [h1]
    exact hv
theorem six {l : List Int} (h : l.length = 6) : t6 (tkL l) = l := by
  match l, h with
  | [a, b, c, d, e, f], _ => rfl
theorem four {l : List Int} {d : Int} (h : l.length = 4) : (snL d l).d :: s4 (snL d l) = d :: l := by
  match l, h with
  | [a, b, c, e], _ => rfl
theorem chg_ok {q m : Int} (h : q ∈ qs) {t : Tk} {y : Sn} {pp : List Pp} (sm : SmallT t y) (hz : ∀ p ∈ pp, okPP q p = true) :
    SmallT (chg q m t y pp).1 (chg q m t y pp).2.1 ∧ (∀ p ∈ (chg q m t y pp).2.2, okPP q p = true) ∧ (chg q m t y pp).2.2.length = pp.length := by
  have hb := (qs_ok q h).1
  unfold Bd at hb
  have md : ∀ a b : Int, 0 < b → b < 10000000 → 0 ≤ a % b ∧ a % b < 10000000 := fun a b h1 h2 => ⟨Int.emod_nonneg _ (by omega), Int.lt_trans (Int.emod_lt_of_pos _ h1) h2⟩
  unfold chg
  split
  · refine ⟨⟨?_, sm.y⟩, hz, rfl⟩
    unfold chgT
    show Small (t6 (tkL _))
    rw [six (by simp [t6])]
    exact small_set sm.t (md _ _ (by omega) (by omega))
  split
  · refine ⟨⟨sm.t, fun n hn => ?_⟩, hz, rfl⟩
    have hn' : n ∈ ((y.d + stepOf q m) % q) :: s4 y := hn
    rcases List.mem_cons.mp hn' with h1 | h1
    · rw [h1]
      exact md _ _ (by omega) (by omega)
    · exact sm.y n (List.mem_cons_of_mem _ h1)
  split
  · refine ⟨⟨sm.t, ?_⟩, hz, rfl⟩
    unfold chgA
    show Small ((snL y.d _).d :: s4 (snL y.d _))
    rw [four (by simp [s4])]
    intro n hn
    rcases List.mem_cons.mp hn with h1 | h1
    · rw [h1]
      exact sm.y _ List.mem_cons_self
    · exact small_set (fun n hn => sm.y n (List.mem_cons_of_mem _ hn)) (md _ _ (by omega) (by omega)) n h1
  · refine ⟨sm, fun p hp => ?_, ?_⟩
    · show okPP q p = true
      have hp' : p ∈ chgL q (stepOf q m) (m / 3 % 20) (m / 60 % (pp.length : Int)).toNat pp := hp
      unfold chgL at hp'
      rcases List.mem_or_eq_of_mem_set hp' with h1 | h1
      · exact hz p h1
      · rw [h1]
        have hu : okPP q (pp.getD (m / 60 % (pp.length : Int)).toNat (0, 0, 0)) = true := by
          rw [List.getD_eq_getElem?_getD]
          cases e : pp[(m / 60 % (pp.length : Int)).toNat]? with
          | none => exact okPP_iff.mpr ⟨inQ_iff.mpr ⟨by show (0 : Int) ≤ 0; omega, by show (0 : Int) < q; omega⟩, inQ_iff.mpr ⟨by show (0 : Int) ≤ 0; omega, by show (0 : Int) < q; omega⟩, inQ_iff.mpr ⟨by show (0 : Int) ≤ 0; omega, by show (0 : Int) < q; omega⟩⟩
          | some u => exact hz u (List.mem_of_getElem? e)
        have ho := okPP_iff.mp hu
        unfold chgP
        split
        · exact okPP_iff.mpr ⟨inQ_mod h _, ho.2.1, ho.2.2⟩
        split
        · exact okPP_iff.mpr ⟨ho.1, inQ_mod h _, ho.2.2⟩
        · exact okPP_iff.mpr ⟨ho.1, ho.2.1, inQ_mod h _⟩
    · show (chgL _ _ _ _ pp).length = _
      unfold chgL
      rw [List.length_set]
end Ck

set_option Elab.async false
set_option linter.all false
set_option maxRecDepth 100000
set_option maxHeartbeats 2000000
set_option autoImplicit false
/-! # The law -/
namespace Ck
open PySem PySem.Spec PyProof.Rows L2
local macro_rules | `(tactic| walk_at "ev1") => `(tactic| first
  | ((with_reducible apply e_var); exact rfl)
  | with_reducible exact e_int
  | with_reducible exact e_str
  | with_reducible exact e_bl
  | with_reducible exact e_non
  | with_reducible apply e_op
  | with_reducible exact o_add
  | with_reducible exact o_sub
  | with_reducible apply o_mul
  | with_reducible apply o_mod
  | with_reducible apply o_div
  | with_reducible exact o_lt
  | with_reducible exact o_le
  | with_reducible exact o_gt
  | with_reducible exact o_ge
  | with_reducible exact o_eqI
  | with_reducible exact o_neI
  | with_reducible exact o_eqS
  | with_reducible exact o_neS
  | ((with_reducible apply o_ixT); exact rfl)
  | ((with_reducible apply o_ixL); exact rfl)
  | with_reducible exact a_nil
  | with_reducible apply a_cons
  | with_reducible apply e_tup
  | with_reducible apply e_lst
  | with_reducible apply e_cb
  | with_reducible exact c_int
  | with_reducible exact c_intB
  | with_reducible exact c_abs
  | with_reducible exact c_ord
  | with_reducible exact c_lenL
  | with_reducible exact c_lenT
  | with_reducible exact c_listT
  | with_reducible exact c_tupL
  | with_reducible exact c_tupT
  | with_reducible exact c_all
  | with_reducible exact c_sum
  | with_reducible apply e_sl
  | with_reducible exact p_none
  | with_reducible apply p_some
  | with_reducible exact s_tup
  | with_reducible exact s_lst
  | ((with_reducible show CaD (cList _) _ _); first | exact c_listT | exact c_listL)
  | ((with_reducible show CaD (cTuple _) _ _); first | exact c_tupL | exact c_tupT)
  | with_reducible apply e_neg
  | with_reducible apply o_catL
  | with_reducible apply o_catT
  | with_reducible apply o_catS
  | with_reducible apply t_test
  | with_reducible apply t_b
  | with_reducible apply t_not)
local macro_rules | `(tactic| walk_at "ev") => `(tactic| repeat' walk_at "ev1")
local macro_rules | `(tactic| walk_at "side") => `(tactic| all_goals (try (first | rfl | omega)))
local macro_rules | `(tactic| walk_at "set") => `(tactic| (apply s_set; walk_at "ev"; walk_at "side"))
local macro_rules | `(tactic| walk_at "qset") => `(tactic| (apply q_set; walk_at "ev"; walk_at "side"))
local macro_rules | `(tactic| walk_at "ret") => `(tactic| (apply s_ret; walk_at "ev"; walk_at "side"))
local macro_rules | `(tactic| walk_at "ev1") => `(tactic| with_reducible apply c_coin)
local macro_rules | `(tactic| walk_at "ev1") => `(tactic| with_reducible apply c_challenge)
local macro_rules | `(tactic| walk_at "ev1") => `(tactic| with_reducible apply c_is_exponent2)
local macro_rules | `(tactic| walk_at "ev1") => `(tactic| with_reducible apply c_law_at)
theorem cutD_last (ds : List PyData) : cutD ds none (some (-1)) = ds.dropLast := by
  unfold cutD
  rw [HT.sIx_none]
  have e : HT.sIx ds.length ds.length (some (-1)) = ds.length - 1 := by
    unfold HT.sIx
    simp
    omega
  rw [e, List.dropLast_eq_take]
  simp
def gates : List Str := ["a", "gate", "zz"]
theorem gate_ok : ∀ g ∈ gates, GateOk g := by
  intro g hg
  simp only [gates, List.mem_cons, List.not_mem_nil, or_false] at hg
  rcases hg with rfl | rfl | rfl <;> exact ⟨by decide, by decide, by decide⟩
def gateOf (row : List Int) : Str := gates.getD (atR row 19 % 3).toNat ""
theorem gateOf_mem (row : List Int) : gateOf row ∈ gates := by
  have h0 := Int.emod_nonneg (atR row 19) (show (3 : Int) ≠ 0 by decide)
  have h1 := Int.emod_lt_of_pos (atR row 19) (show (0 : Int) < 3 by decide)
  unfold gateOf
  have hn : (atR row 19 % 3).toNat < gates.length := by
    show _ < 3
    omega
  rw [List.getD_eq_getElem?_getD, List.getElem?_eq_getElem hn]
  exact List.getElem_mem hn
theorem at_listS {ns : List Str} {i : Int} (h0 : 0 ≤ i) (h1 : i < ns.length) : atI (dS ns) i = some (.str (ns.getD i.toNat "")) := by
  have hn : i.toNat < ns.length := by omega
  have e : i = ((i.toNat : Nat) : Int) := by omega
  rw [e]
  refine atI_nat ?_
  rw [Int.toNat_natCast]
  refine at_map ?_
  rw [List.getD_eq_getElem?_getD, List.getElem?_eq_getElem hn]
  rfl
/-- ['bad', 'right'][int(b)] -/
theorem e_due {K : PySem.W.Frag} {ρ : Ev} {te : TE} {b : Bool} (h : E te ρ (.bool b)) : E (tOp (rIxL K) (tLst (tCons (tC (.str "bad")) (tCons (tC (.str "right")) tNil))) (tCB cInt (tCons te tNil))) ρ (.str (if b then "right" else "bad")) := by
  refine e_op (d1 := .list (dS ["bad", "right"])) (e_lst (a_cons e_str (a_cons e_str a_nil)) (by decide)) (e_cb (a_cons h a_nil) c_intB) ?_
  cases b with
  | true => exact o_ixL rfl
  | false => exact o_ixL rfl
theorem told_due {s : Su} {key : Int} {x : Ct} {ps : List Q2} {t : Tk} {y : Sn} {pp : List Pp} (h : ps ≠ []) : toldS s key x ps t y pp = (if showB s key x ps t y pp then ("right" : Str) else ("bad" : Str)) := by
  have he : ps.isEmpty = false := by
    cases ps with
    | nil => exact absurd rfl h
    | cons _ _ => rfl
  unfold toldS
  rw [he]
  rfl
/-- told != due: never -/
theorem t_same {K : PySem.W.Frag} {ρ : Ev} {ta tb : TE} {a b : Str} (h1 : E ta ρ (.str a)) (h2 : E tb ρ (.str b)) (e : a = b) : T (tTest (tOp rNe ta tb)) ρ false := t_is (t_test (e_op h1 h2 o_neS)) (by rw [decide_eq_true e]; rfl)
theorem GoodPs.last {ps : List Q2} (g : GoodPs ps) : GoodPs ps.dropLast :=
  ⟨fun p hp => g.ok p (List.dropLast_subset ps hp), g.up.sublist (List.dropLast_sublist ps), Nat.le_trans (by rw [List.length_dropLast]; omega) g.l⟩
theorem good_nil : GoodPs [] := ⟨fun p hp => (by cases hp), .nil, by decide⟩
def SPlaw (K : PySem.W.Frag) : Sp := fun vs H Q _ => ∃ (a : Addr) (ns : List Int), vs = [.ref a] ∧ SqL K H a (ns.map V.int) ∧ ns.length ≤ 63 ∧ ∀ H2, Same H H2 → Q (.bl true) H2
def t_law (K : PySem.W.Frag) (CN CB : Addr) : TS := (tSeq (tAsg (tCall (SPr K) [] E0 (tCons (tVar 0) tNil)) (gName 1))
  (tSeq (tAsg (tCall (SP 1 R_law_setup) [] E0 (tCons (tVar 1) tNil)) (gName 2))
  (tSeq (tAsg (tOp (rIxT K) (tVar 2) (tC (.int 0))) (gName 3))
  (tSeq (tAsg (tOp oAdd (tC (.int 1)) (tOp oMod (tCB cInt (tCons (tCall (SP 2 R_law_at) [] E0 (tCons (tVar 1) (tCons (tC (.int 2)) tNil))) tNil)) (tOp oSub (tVar 3) (tC (.int 1))))) (gName 4))
  (tSeq (tAsg (tCall (SP 3 R_law_person) [] E0 (tCons (tVar 2) (tCons (tVar 1) (tCons (tC (.int 3)) tNil)))) (gName 5))
  (tSeq (tAsg (tCall (SP 5 R_law_session) [] E0 (tCons (tVar 2) (tCons (tVar 4) (tCons (tVar 5) (tCons (tVar 1) (tCons (tC (.int 6)) tNil)))))) (gTup K 3 (gCons (gName 6) (gCons (gName 7) (gCons (gName 8) gNil)))))
  (tSeq (tAsg (tCall (SP 3 R_law_pairs) [] E0 (tCons (tVar 1) (tCons (tC (.int 14)) (tCons (tVar 5) tNil)))) (gName 9))
  (tSeq (tAsg (tTup (tCons (tOp (rIxL K) (tLst (tCons (tC (.str "a")) (tCons (tC (.str "gate")) (tCons (tC (.str "zz")) tNil)))) (tOp oMod (tCB cInt (tCons (tCall (SP 2 R_law_at) [] E0 (tCons (tVar 1) (tCons (tC (.int 19)) tNil))) tNil)) (tC (.int 3)))) (tCons (tCB cInt (tCons (tCall (SP 2 R_law_at) [] E0 (tCons (tVar 1) (tCons (tC (.int 20)) tNil))) tNil)) tNil))) (gName 10))
  (tSeq (tAsg (tCall (SP 5 R_law_noise) [] E0 (tCons (tVar 3) (tCons (tVar 9) (tCons (tSl (rSlA K) (tVar 5) (tPart (tC (.int 1))) tNoPart) (tCons (tVar 1) (tCons (tC (.int 30)) tNil)))))) (gName 11))
  (tSeq (tAsg (tCall (SP 7 R_make_showing) [] E0 (tCons (tVar 2) (tCons (tVar 5) (tCons (tVar 6) (tCons (tVar 7) (tCons (tVar 10) (tCons (tCB (cList K) (tCons (tVar 9) tNil)) (tCons (tVar 11) tNil)))))))) (gName 12))
  (tSeq (tAsg (tCall (SP 2 R_key_of) [] E0 (tCons (tVar 2) (tCons (tVar 4) tNil))) (gName 13))
  (tSeq (tIfS (tOr (tNot (tB (tCall (SP 5 R_law_right) [] E0 (tCons (tVar 2) (tCons (tVar 13) (tCons (tVar 10) (tCons (tVar 9) (tCons (tVar 12) tNil)))))))) (tTest (tOp rNe (tCall (SP 5 R_law_told) [] E0 (tCons (tVar 2) (tCons (tVar 13) (tCons (tVar 10) (tCons (tVar 9) (tCons (tVar 12) tNil)))))) (tC (.str "right"))))) (tRet (tC (.bl false))) tNext)
  (tSeq (tAsg (tCall (SP 2 R_key_of) [] E0 (tCons (tVar 2) (tCons (tOp oAdd (tC (.int 1)) (tOp oMod (tCB cInt (tCons (tCall (SP 2 R_law_at) [] E0 (tCons (tVar 1) (tCons (tC (.int 21)) tNil))) tNil)) (tOp oSub (tVar 3) (tC (.int 1))))) tNil))) (gName 14))
  (tSeq (tAsg (tTup (tCons (tOp (rIxT K) (tVar 10) (tC (.int 0))) (tCons (tOp oAdd (tOp (rIxT K) (tVar 10) (tC (.int 1))) (tC (.int 1))) tNil))) (gName 15))
  (tSeq (tAsg (tSl (rSlL K) (tVar 9) tNoPart (tPart (tUn (rU fun i => .int (-i)) (tC (.int 1))))) (gName 16))
  (tSeq (tFor (iRng1 (tCons (tC (.int 3)) tNil)) (gName 17) (tSeq (tAsg (tCall (SP 3 R_law_changed) [] E0 (tCons (tVar 12) (tCons (tCall (SP 2 R_law_at) [] E0 (tCons (tVar 1) (tCons (tOp oAdd (tC (.int 22)) (tVar 17)) tNil))) (tCons (tVar 3) tNil)))) (gName 18))
  (tSeq (tAsg (tOp (rIxL K) (tLst (tCons (tC (.str "bad")) (tCons (tC (.str "right")) tNil))) (tCB cInt (tCons (tCall (SP 5 R_law_right) [] E0 (tCons (tVar 2) (tCons (tVar 13) (tCons (tVar 10) (tCons (tVar 9) (tCons (tVar 18) tNil)))))) tNil))) (gName 19))
  (tIfS (tTest (tOp rNe (tCall (SP 5 R_law_told) [] E0 (tCons (tVar 2) (tCons (tVar 13) (tCons (tVar 10) (tCons (tVar 9) (tCons (tVar 18) tNil)))))) (tVar 19))) (tRet (tC (.bl false))) tNext))))
  (tSeq (tFor (iList K (tLst (tCons (tTup (tCons (tVar 14) (tCons (tVar 10) tNil))) (tCons (tTup (tCons (tVar 13) (tCons (tVar 15) tNil))) tNil)))) (gName 20) (tSeq (tAsg (tOp (rIxL K) (tLst (tCons (tC (.str "bad")) (tCons (tC (.str "right")) tNil))) (tCB cInt (tCons (tCall (SP 5 R_law_right) [] E0 (tCons (tVar 2) (tCons (tOp (rIxT K) (tVar 20) (tC (.int 0))) (tCons (tOp (rIxT K) (tVar 20) (tC (.int 1))) (tCons (tVar 9) (tCons (tVar 12) tNil)))))) tNil))) (gName 19))
  (tIfS (tTest (tOp rNe (tCall (SP 5 R_law_told) [] E0 (tCons (tVar 2) (tCons (tOp (rIxT K) (tVar 20) (tC (.int 0))) (tCons (tOp (rIxT K) (tVar 20) (tC (.int 1))) (tCons (tVar 9) (tCons (tVar 12) tNil)))))) (tVar 19))) (tRet (tC (.bl false))) tNext)))
  (tSeq (tIfS (tTest (tOp oGt (tCB (cLen K) (tCons (tVar 16) tNil)) (tC (.int 0)))) (tSeq (tAsg (tTup (tCons (tOp (rIxT K) (tVar 12) (tC (.int 0))) (tCons (tOp (rIxT K) (tVar 12) (tC (.int 1))) (tCons (tSl (rSlA K) (tOp (rIxT K) (tVar 12) (tC (.int 2))) tNoPart (tPart (tUn (rU fun i => .int (-i)) (tC (.int 1))))) tNil)))) (gName 21))
  (tSeq (tAsg (tOp (rIxL K) (tLst (tCons (tC (.str "bad")) (tCons (tC (.str "right")) tNil))) (tCB cInt (tCons (tCall (SP 5 R_law_right) [] E0 (tCons (tVar 2) (tCons (tVar 13) (tCons (tVar 10) (tCons (tVar 16) (tCons (tVar 21) tNil)))))) tNil))) (gName 19))
  (tIfS (tTest (tOp rNe (tCall (SP 5 R_law_told) [] E0 (tCons (tVar 2) (tCons (tVar 13) (tCons (tVar 10) (tCons (tVar 16) (tCons (tVar 21) tNil)))))) (tVar 19))) (tRet (tC (.bl false))) tNext))) tNext)
  (tRet (tOp rEq (tCall (SP 5 R_law_told) [] E0 (tCons (tVar 2) (tCons (tVar 13) (tCons (tVar 10) (tCons (tLst tNil) (tCons (tVar 12) tNil)))))) (tC (.str "not allowed"))))))))))))))))))))))
theorem EnvD.nones {G : Hp} {σ : L2.St} {n : Nat} (h : σ.length = n) : EnvD G σ (List.replicate n none) := by
  refine ⟨by rw [h, List.length_replicate], fun i d q => ?_⟩
  have := List.mem_of_getElem? q
  simp at this
theorem sem_law {K : PySem.W.Frag} {CN CB : Addr} {D : Ends} {H : Hp} {a : Addr} {ns : List Int} (hs : SqL K H a (ns.map V.int)) (hl : ns.length ≤ 63) (k : ∀ H2, Same H H2 → D.rt (.bl true) H2) :
    t_law K CN CB D [some (.ref a), none, none, none, none, none, none, none, none, none, none, none, none, none, none, none, none, none, none, none, none, none] H := by
  refine r_seq ?_
  refine ⟨.ref a, rfl, ⟨a, ns, rfl, hs, hl, fun row p H2 ok sm hp h2 => ?_⟩⟩
  refine r_name ?_
  dsimp only
  -- the row is frozen
  have hf : Same (upd (fun _ => none) p (.lst (row.map V.int))) H2 := fun b o z => by
    by_cases hb : b = p
    · rw [hb, upd_same] at z
      rw [hb, h2]
      exact z
    · rw [upd_ne hb] at z
      cases z
  have env : EnvD (upd (fun _ => none) p (.lst (row.map V.int))) ([some (.ref a), none, none, none, none, none, none, none, none, none, none, none, none, none, none, none, none, none, none, none, none, none].set 1 (some (.ref p))) ((List.replicate 22 none).set 1 (some (.list (dI row)))) :=
    EnvD.set (EnvD.nones rfl) (.lst upd_same (Iss.of_ints row)) 1
  refine (show S W0 _ ((List.replicate 22 none).set 1 (some (.list (dI row)))) none { rt := fun d => d = .bool true } from ?_) H2 _ D _ H2 _ (Ax.refl hf) env trivial (fun _ _ _ _ _ _ _ _ _ z => z.elim) (fun v H' G' d ax i z => ?_) (fun _ _ _ _ _ _ _ _ _ _ z => z.elim) (fun _ _ _ _ _ z => z.elim)
  rotate_left
  · have z' : d = .bool true := z
    subst z'
    rw [i.bl_eq]
    exact k H' (sm.trans ax.h)
  show S W0 _ [none, some (.list (dI row)), none, none, none, none, none, none, none, none, none, none, none, none, none, none, none, none, none, none, none, none] none _
  have gs := goodSu row
  have hqs : (suOf row).q ∈ qs := qOf_mem row
  obtain ⟨k0, k1, k2, k3, k4, l⟩ := logs row
  have hq := gs.q
  have hq' := hq
  unfold Bd at hq'
  refine q_set (c_law_setup (a_cons (e_var rfl) a_nil)) rfl ?_
  generalize suOf row = s at *
  refine q_set (e_op (e_var rfl) e_int (o_ixT rfl)) rfl ?_
  obtain ⟨x, hx⟩ : ∃ x, x = 1 + atR row 2 % (s.q - 1) := ⟨_, rfl⟩
  have xr := one_mod hqs (atR row 2)
  rw [← hx] at xr
  refine q_set (d := .int x) (e_is (e_op e_int (e_op (c_at (a_cons (e_var rfl) (a_cons e_int a_nil))) (e_op (e_var rfl) e_int o_sub) (o_mod (by omega))) o_add) (by rw [hx])) rfl ?_
  refine q_set (c_law_person (a_cons (e_var rfl) (a_cons (e_var rfl) (a_cons e_int a_nil))) gs (mark_next l)) rfl ?_
  have gp := goodPrs hq row 3
  have hm : mark s (prs s row 3) ≠ 1 := by
    unfold prs
    split
    · rename_i h
      exact mark_next l h
    · rename_i h
      exact h
  generalize prs s row 3 = p at *
  have gl := goodL (row := row) (n := 6) gs l xr.1 xr.2 gp hm
  have gh := gl.k.h
  refine q_asg (c_session (n := 6) (a_cons (e_var rfl) (a_cons (e_var rfl) (a_cons (e_var rfl) (a_cons (e_var rfl) (a_cons e_int a_nil))))) gl) (g_tup (g_cons (g_cons (g_cons g_nil))) rfl) rfl ?_
  refine q_set (c_law_pairs (n := 14) (a_cons (e_var rfl) (a_cons e_int (a_cons (e_var rfl) a_nil)))) rfl ?_
  obtain ⟨kk, hk⟩ := own_at row 14 (own := (p.a, p.z)) ⟨gp.a, gp.z⟩
  have gq := goodPairs row 14 (p.a, p.z)
  generalize pairsL row 14 (p.a, p.z) 25 = ps at *
  have hne : ps ≠ [] := fun z => by rw [z] at hk; cases hk
  have hl25 := gq.l
  have g0 := Int.emod_nonneg (atR row 19) (show (3 : Int) ≠ 0 by decide)
  have g1 := Int.emod_lt_of_pos (atR row 19) (show (0 : Int) < 3 by decide)
  refine q_set (d := dCt ⟨gateOf row, atR row 20⟩) (e_tup (a_cons (e_op (d1 := .list (dS gates)) (e_lst (a_cons e_str (a_cons e_str (a_cons e_str a_nil))) (by decide)) (e_op (c_at (a_cons (e_var rfl) (a_cons e_int a_nil))) e_int (o_mod (by decide))) (o_ixL (at_listS g0 g1))) (a_cons (c_at (a_cons (e_var rfl) (a_cons e_int a_nil))) a_nil)) (by simp)) rfl ?_
  have m20 := atR_range ok 20
  have gcx : GoodX ⟨gateOf row, atR row 20⟩ := ⟨gate_ok _ (gateOf_mem row), by show 0 ≤ atR row 20 ∧ atR row 20 ≤ 999999; omega⟩
  have gmv : GoodX ⟨gateOf row, atR row 20 + 1⟩ := ⟨gate_ok _ (gateOf_mem row), by show 0 ≤ atR row 20 + 1 ∧ atR row 20 + 1 ≤ 999999; omega⟩
  generalize gateOf row = gt at *
  generalize atR row 20 = mo at *
  refine q_set (c_law_noise (own := (p.a, p.z)) (n := 30) (a_cons (e_var rfl) (a_cons (e_var rfl) (a_cons (e_sl (e_var rfl) (p_some e_int) p_none s_tup) (a_cons (e_var rfl) (a_cons e_int a_nil))))) hq hl25) rfl ?_
  obtain ⟨n0, hn, hn0⟩ := noise_own (q := s.q) (row := row) (n := 30) hk
  have hz := noise_ok (ps := ps) (own := (p.a, p.z)) (row := row) (n := 30) (k := ps.length) hq
  have hnl : ps.length = (noiseL s.q ps (p.a, p.z) row 30 ps.length).length := (noiseL_len _ _ _ _ _ _).symm
  generalize noiseL s.q ps (p.a, p.z) row 30 ps.length = nz at *
  have gm := goodM (cx := ⟨gt, mo⟩) gs l gh gcx gq hk hnl hz hn hn0
  have sh := honest_show l xr.1 xr.2 gm gh
  have ppl : (mkPp s p (tkT s x p row 6) (blOf s.q row 6) ⟨gt, mo⟩ ps nz kk n0).length = nz.length := mkPp_len
  have ppz := mkPp_ok (s := s) (p := p) (t := tkT s x p row 6) (b := blOf s.q row 6) (cx := ⟨gt, mo⟩) (ps := ps) (k := kk) (n0 := n0) hqs hz
  have smt : SmallT (tkT s x p row 6) (mkSp s p (blOf s.q row 6) ⟨gt, mo⟩ ps) := ⟨tk_small hqs gh, mkSp_small hq⟩
  refine q_set (c_make_showing (x := ⟨gt, mo⟩) (t := tkT s x p row 6) (a_cons (e_var rfl) (a_cons (e_var rfl) (a_cons (e_var rfl) (a_cons (e_var rfl) (a_cons (e_var rfl) (a_cons (e_cb (a_cons (e_var rfl) a_nil) c_listL) (a_cons (e_var rfl) a_nil))))))) gm) rfl ?_
  generalize mkPp s p (tkT s x p row 6) (blOf s.q row 6) ⟨gt, mo⟩ ps nz kk n0 = pp at *
  generalize mkSp s p (blOf s.q row 6) ⟨gt, mo⟩ ps = y at *
  have ppl' : ps.length = pp.length := by omega
  have hpne : pp ≠ [] := fun z => by
    have := List.length_pos_iff.mpr hne
    rw [z] at ppl'
    simp at ppl'
    exact hne ppl'
  refine q_set (c_key_of (a_cons (e_var rfl) (a_cons (e_var rfl) a_nil)) gs xr.1 xr.2) rfl ?_
  have ek : isEl s.q (pw s.q s.b0 x) = true := el_pw hq gs.e0
  generalize pw s.q s.b0 x = key at *
  have gw : ∀ {ky : Int} {c : Ct}, isEl s.q ky = true → GoodX c → GoodW s ky c ps (tkT s x p row 6) y pp := fun h1 h2 => ⟨gs, h1, h2, gq, smt, ppz⟩
  generalize tkT s x p row 6 = t at *
  obtain ⟨y8, hy8⟩ : ∃ d : PyData, d = .tuple [dPe p, dOf (offer s x p (wOf s.q row 6)), .int (reqC s p (offer s x p (wOf s.q row 6)) (blOf s.q row 6)), .int (rOf s x p row 6)] := ⟨_, rfl⟩
  show S W0 _ [none, some (.list (dI row)), some (dSu s), some (.int s.q), some (.int x), some (dPe p), some (.tuple (dI (tkOf s x p row 6))), some (dBl (blOf s.q row 6)), some (.tuple [dPe p, dOf (offer s x p (wOf s.q row 6)), .int (reqC s p (offer s x p (wOf s.q row 6)) (blOf s.q row 6)), .int (rOf s x p row 6)]), some (dPs ps), some (dCt ⟨gt, mo⟩), some (dPaper nz), some (dSh t y pp), some (.int key), none, none, none, none, none, none, none, none] none _
  refine q_pass (t_orF (t_no (e_is (c_law_right (x := ⟨gt, mo⟩) (t := t) (y := y) (pp := pp) (a_cons (e_var rfl) (a_cons (e_var rfl) (a_cons (e_var rfl) (a_cons (e_var rfl) (a_cons (e_var rfl) a_nil))))) hqs (gw ek gcx) ppl') (by rw [sh]))) (t_same (K := K) (c_law_told (x := ⟨gt, mo⟩) (t := t) (y := y) (pp := pp) (a_cons (e_var rfl) (a_cons (e_var rfl) (a_cons (e_var rfl) (a_cons (e_var rfl) (a_cons (e_var rfl) a_nil))))) (gw ek gcx) (fun _ => ppl')) e_str (by rw [told_due hne, sh]; rfl))) ?_
  have xo := one_mod hqs (atR row 21)
  obtain ⟨ky2, hky2⟩ : ∃ z, z = pw s.q s.b0 (1 + atR row 21 % (s.q - 1)) := ⟨_, rfl⟩
  have ek2 : isEl s.q ky2 = true := by rw [hky2]; exact el_pw hq gs.e0
  refine q_set (d := .int ky2) (e_is (c_key_of (a_cons (e_var rfl) (a_cons (e_op e_int (e_op (c_at (a_cons (e_var rfl) (a_cons e_int a_nil))) (e_op (e_var rfl) e_int o_sub) (o_mod (by omega))) o_add) a_nil)) gs xo.1 xo.2) (by rw [hky2])) rfl ?_
  refine q_set (d := dCt ⟨gt, mo + 1⟩) (e_tup (a_cons (e_op (e_var rfl) e_int (o_ixT rfl)) (a_cons (e_op (e_op (e_var rfl) e_int (o_ixT rfl)) e_int o_add) a_nil)) (by simp)) rfl ?_
  refine q_set (d := dPs ps.dropLast) (e_is (e_sl (e_var rfl) p_none (p_some (e_neg e_int)) s_lst) (by rw [cutD_last, ← List.map_dropLast])) rfl ?_
  -- three changed showings
  refine s_seq (s_for (w_rng1 (n := 3) (a_cons e_int a_nil) (by decide)) (fun i ρ ow => ow = none ∧ ∃ x17 x18 x19, ρ = [none, some (.list (dI row)), some (dSu s), some (.int s.q), some (.int x), some (dPe p), some (.tuple (dI (tkOf s x p row 6))), some (dBl (blOf s.q row 6)), some (.tuple [dPe p, dOf (offer s x p (wOf s.q row 6)), .int (reqC s p (offer s x p (wOf s.q row 6)) (blOf s.q row 6)), .int (rOf s x p row 6)]), some (dPs ps), some (dCt ⟨gt, mo⟩), some (dPaper nz), some (dSh t y pp), some (.int key), some (.int ky2), some (dCt ⟨gt, mo + 1⟩), some (dPs ps.dropLast), x17, x18, x19, none, none]) ⟨rfl, none, none, none, rfl⟩ ?_ ?_)
  · rintro i d ρ1 w1 hd ⟨rfl, x17, x18, x19, rfl⟩
    obtain ⟨hi, rfl⟩ := rngD_mem hd
    obtain ⟨ok1, ok2, ok3⟩ := chg_ok (m := atR row (22 + (0 + (i : Nat)))) hqs smt ppz
    refine ⟨_, _, g_name, rfl, ?_⟩
    refine q_set (c_law_changed (a_cons (e_var rfl) (a_cons (c_law_at (a_cons (e_var rfl) (a_cons (e_op e_int (e_var rfl) o_add) a_nil))) (a_cons (e_var rfl) a_nil))) hq hpne (by omega)) rfl ?_
    generalize chg s.q (atR row (22 + (0 + (i : Nat)))) t y pp = c at *
    have gw2 : GoodW s key ⟨gt, mo⟩ ps c.1 c.2.1 c.2.2 := ⟨gs, ek, gcx, gq, ok1, ok2⟩
    have lc : ps.length = c.2.2.length := by omega
    refine q_set (e_due (c_law_right (x := ⟨gt, mo⟩) (a_cons (e_var rfl) (a_cons (e_var rfl) (a_cons (e_var rfl) (a_cons (e_var rfl) (a_cons (e_var rfl) a_nil))))) hqs gw2 lc)) rfl ?_
    exact s_pass (t_same (K := K) (c_law_told (x := ⟨gt, mo⟩) (a_cons (e_var rfl) (a_cons (e_var rfl) (a_cons (e_var rfl) (a_cons (e_var rfl) (a_cons (e_var rfl) a_nil))))) gw2 (fun _ => lc)) (e_var rfl) (told_due hne)) ⟨rfl, _, _, _, rfl⟩
  rintro ρ' w' ⟨rfl, x17, x18, x19, rfl⟩
  -- another key, another context
  refine s_seq (s_for (w_list (ds := [.tuple [.int ky2, dCt ⟨gt, mo⟩], .tuple [.int key, dCt ⟨gt, mo + 1⟩]]) (e_lst (a_cons (e_tup (a_cons (e_var rfl) (a_cons (e_var rfl) a_nil)) (by simp)) (a_cons (e_tup (a_cons (e_var rfl) (a_cons (e_var rfl) a_nil)) (by simp)) a_nil)) (by simp))) (fun i ρ ow => ow = none ∧ ∃ x19 x20, ρ = [none, some (.list (dI row)), some (dSu s), some (.int s.q), some (.int x), some (dPe p), some (.tuple (dI (tkOf s x p row 6))), some (dBl (blOf s.q row 6)), some (.tuple [dPe p, dOf (offer s x p (wOf s.q row 6)), .int (reqC s p (offer s x p (wOf s.q row 6)) (blOf s.q row 6)), .int (rOf s x p row 6)]), some (dPs ps), some (dCt ⟨gt, mo⟩), some (dPaper nz), some (dSh t y pp), some (.int key), some (.int ky2), some (dCt ⟨gt, mo + 1⟩), some (dPs ps.dropLast), x17, x18, x19, x20, none]) ⟨rfl, x19, none, rfl⟩ ?_ ?_)
  · rintro i d ρ1 w1 hd ⟨rfl, x19, x20, rfl⟩
    obtain ⟨ky, c, rfl, e1, e2⟩ : ∃ (ky : Int) (c : Ct), d = .tuple [.int ky, dCt c] ∧ isEl s.q ky = true ∧ GoodX c := by
      match i, hd with
      | 0, hd => exact ⟨ky2, ⟨gt, mo⟩, (Option.some.inj hd).symm, ek2, gcx⟩
      | 1, hd => exact ⟨key, ⟨gt, mo + 1⟩, (Option.some.inj hd).symm, ek, gmv⟩
      | i + 2, hd => simp at hd
    refine ⟨_, _, g_name, rfl, ?_⟩
    refine q_set (e_due (c_law_right (x := c) (t := t) (y := y) (pp := pp) (a_cons (e_var rfl) (a_cons (e_op (e_var rfl) e_int (o_ixT rfl)) (a_cons (e_op (e_var rfl) e_int (o_ixT rfl)) (a_cons (e_var rfl) (a_cons (e_var rfl) a_nil))))) hqs (gw e1 e2) ppl')) rfl ?_
    exact s_pass (t_same (K := K) (c_law_told (x := c) (t := t) (y := y) (pp := pp) (a_cons (e_var rfl) (a_cons (e_op (e_var rfl) e_int (o_ixT rfl)) (a_cons (e_op (e_var rfl) e_int (o_ixT rfl)) (a_cons (e_var rfl) (a_cons (e_var rfl) a_nil))))) (gw e1 e2) (fun _ => ppl')) (e_var rfl) (told_due hne)) ⟨rfl, _, _, rfl⟩
  rintro ρ' w' ⟨rfl, x19, x20, rfl⟩
  -- the last row
  have fin : ∀ x19 x21 : Option PyData, S W0 (tRet (tOp rEq (tCall (SP 5 R_law_told) [] E0 (tCons (tVar 2) (tCons (tVar 13) (tCons (tVar 10) (tCons (tLst tNil) (tCons (tVar 12) tNil)))))) (tC (.str "not allowed")))) [none, some (.list (dI row)), some (dSu s), some (.int s.q), some (.int x), some (dPe p), some (.tuple (dI (tkOf s x p row 6))), some (dBl (blOf s.q row 6)), some (.tuple [dPe p, dOf (offer s x p (wOf s.q row 6)), .int (reqC s p (offer s x p (wOf s.q row 6)) (blOf s.q row 6)), .int (rOf s x p row 6)]), some (dPs ps), some (dCt ⟨gt, mo⟩), some (dPaper nz), some (dSh t y pp), some (.int key), some (.int ky2), some (dCt ⟨gt, mo + 1⟩), some (dPs ps.dropLast), x17, x18, x19, x20, x21] none { rt := fun d => d = .bool true } := fun x19 x21 =>
    s_ret (e_op (c_law_told (x := ⟨gt, mo⟩) (ps := []) (t := t) (y := y) (pp := pp) (a_cons (e_var rfl) (a_cons (e_var rfl) (a_cons (e_var rfl) (a_cons (e_lst a_nil (by simp)) (a_cons (e_var rfl) a_nil))))) ⟨gs, ek, gcx, good_nil, smt, ppz⟩ (fun z => absurd rfl z)) e_str o_eqS) (by
      show PyData.bool (decide (toldS s key ⟨gt, mo⟩ [] t y pp = "not allowed")) = .bool true
      rw [decide_eq_true (show toldS s key ⟨gt, mo⟩ [] t y pp = "not allowed" from rfl)])
  refine q_if (b := decide (0 < ((ps.dropLast.length : Nat) : Int))) (t_test (e_is (e_op (e_cb (a_cons (e_var rfl) a_nil) c_lenL) e_int o_gt) (by rw [List.length_map]))) (fun hb => ?_) (fun hb => s_next (fin _ _))
  have hb' := of_decide_eq_true hb
  have hne2 : ps.dropLast ≠ [] := fun z => by
    rw [z] at hb'
    simp at hb'
  have gw3 : GoodW s key ⟨gt, mo⟩ ps.dropLast t y pp.dropLast := ⟨gs, ek, gcx, gq.last, smt, fun u hu => ppz u (List.dropLast_subset pp hu)⟩
  have l3 : ps.dropLast.length = pp.dropLast.length := by rw [List.length_dropLast, List.length_dropLast, ppl']
  refine q_set (d := dSh t y pp.dropLast) (e_tup (a_cons (e_op (e_var rfl) e_int (o_ixT rfl)) (a_cons (e_op (e_var rfl) e_int (o_ixT rfl)) (a_cons (e_is (e_sl (e_op (e_var rfl) e_int (o_ixT rfl)) p_none (p_some (e_neg e_int)) s_tup) (by rw [cutD_last, ← List.map_dropLast])) a_nil))) (by simp)) rfl ?_
  refine q_set (e_due (c_law_right (x := ⟨gt, mo⟩) (t := t) (y := y) (pp := pp.dropLast) (a_cons (e_var rfl) (a_cons (e_var rfl) (a_cons (e_var rfl) (a_cons (e_var rfl) (a_cons (e_var rfl) a_nil))))) hqs gw3 l3)) rfl ?_
  exact s_pass (t_same (K := K) (c_law_told (x := ⟨gt, mo⟩) (t := t) (y := y) (pp := pp.dropLast) (a_cons (e_var rfl) (a_cons (e_var rfl) (a_cons (e_var rfl) (a_cons (e_var rfl) (a_cons (e_var rfl) a_nil))))) gw3 (fun _ => l3)) (e_var rfl) (told_due hne2)) (fin _ _)
theorem der_law {P : Program} {w : World} {K : PySem.W.Frag} {mg : Str → Option Value} {base : Heap} {CN CB : Addr} {f : Addr} (h : Wd K mg CN CB) (cdv : Value) (A : Around) (outer : List PySem.Env) (s : Shared) (H : Hp) (E : XK) (hr : Room 10 (A.deeper (envOfC "law" (defScope s_law) s.heap.objs.size f cdv))) :
    PSs ((cxOf CX0 P w K mg base n_law "law" (defScope s_law) f cdv A outer s H E).nox) (defBody s_law) (t_law K CN CB) :=
  (pss_cons (ps_set (i := 1) sc_law.nd rfl (by first | exact Or.inl rfl | exact Or.inr rfl) (pe_c (pr_law_row h) (hr.mono (by decide)) pass0 (pa_cons (pv 0) pa_nil)))
  (pss_cons (ps_set (i := 2) sc_law.nd rfl (by first | exact Or.inl rfl | exact Or.inr rfl) (pe_c (pr_law_setup h) (hr.mono (by decide)) pass0 (pa_cons (pv 1) pa_nil)))
  (pss_cons (ps_set (i := 3) sc_law.nd rfl (by first | exact Or.inl rfl | exact Or.inr rfl) (pe_ix ix_tup (pv 2) pe_int (fun _ _ => rfl)))
  (pss_cons (ps_set (i := 4) sc_law.nd rfl (by first | exact Or.inl rfl | exact Or.inr rfl) (pe_op op_add pe_int (pe_op op_mod (pe_callTy call_int1 (by rfl) h.f_int bt_int (pa_cons (pe_c (pr_law_at h) (hr.mono (by decide)) pass0 (pa_cons (pv 1) (pa_cons pe_int pa_nil))) pa_nil)) (pe_op op_sub (pv 3) pe_int))))
  (pss_cons (ps_set (i := 5) sc_law.nd rfl (by first | exact Or.inl rfl | exact Or.inr rfl) (pe_c (pr_law_person h) (hr.mono (by decide)) pass0 (pa_cons (pv 2) (pa_cons (pv 1) (pa_cons pe_int pa_nil)))))
  (pss_cons (ps_asg (pe_c (pr_law_session h) hr pass0 (pa_cons (pv 2) (pa_cons (pv 4) (pa_cons (pv 5) (pa_cons (pv 1) (pa_cons pe_int pa_nil)))))) (pg_tup rfl (pgs_cons (pg_name (i := 6) sc_law.nd rfl (by first | exact Or.inl rfl | exact Or.inr rfl)) (pgs_cons (pg_name (i := 7) sc_law.nd rfl (by first | exact Or.inl rfl | exact Or.inr rfl)) (pgs_cons (pg_name (i := 8) sc_law.nd rfl (by first | exact Or.inl rfl | exact Or.inr rfl)) pgs_nil)))))
  (pss_cons (ps_set (i := 9) sc_law.nd rfl (by first | exact Or.inl rfl | exact Or.inr rfl) (pe_c (pr_law_pairs h) (hr.mono (by decide)) pass0 (pa_cons (pv 1) (pa_cons pe_int (pa_cons (pv 5) pa_nil)))))
  (pss_cons (ps_set (i := 10) sc_law.nd rfl (by first | exact Or.inl rfl | exact Or.inr rfl) (pe_tup (pa_cons (pe_ix ix_list (pe_lst (pa_cons pe_str (pa_cons pe_str (pa_cons pe_str pa_nil)))) (pe_op op_mod (pe_callTy call_int1 (by rfl) h.f_int bt_int (pa_cons (pe_c (pr_law_at h) (hr.mono (by decide)) pass0 (pa_cons (pv 1) (pa_cons pe_int pa_nil))) pa_nil)) pe_int) (fun _ _ => rfl)) (pa_cons (pe_callTy call_int1 (by rfl) h.f_int bt_int (pa_cons (pe_c (pr_law_at h) (hr.mono (by decide)) pass0 (pa_cons (pv 1) (pa_cons pe_int pa_nil))) pa_nil)) pa_nil))))
  (pss_cons (ps_set (i := 11) sc_law.nd rfl (by first | exact Or.inl rfl | exact Or.inr rfl) (pe_c (pr_law_noise h) (hr.mono (by decide)) pass0 (pa_cons (pv 3) (pa_cons (pv 9) (pa_cons (pe_slice sl_tupA (pv 5) (po_some pe_int) po_none) (pa_cons (pv 1) (pa_cons pe_int pa_nil)))))))
  (pss_cons (ps_set (i := 12) sc_law.nd rfl (by first | exact Or.inl rfl | exact Or.inr rfl) (pe_c (pr_make_showing h) (hr.mono (by decide)) pass0 (pa_cons (pv 2) (pa_cons (pv 5) (pa_cons (pv 6) (pa_cons (pv 7) (pa_cons (pv 10) (pa_cons (pe_callTy call_list_of (by rfl) h.f_list bt_list (pa_cons (pv 9) pa_nil)) (pa_cons (pv 11) pa_nil)))))))))
  (pss_cons (ps_set (i := 13) sc_law.nd rfl (by first | exact Or.inl rfl | exact Or.inr rfl) (pe_c (pr_key_of h) (hr.mono (by decide)) pass0 (pa_cons (pv 2) (pa_cons (pv 4) pa_nil))))
  (pss_cons (ps_if (PW.pt (pw_or (pt_not (pt_val (pe_c (pr_law_right h) (hr.mono (by decide)) pass0 (pa_cons (pv 2) (pa_cons (pv 13) (pa_cons (pv 10) (pa_cons (pv 9) (pa_cons (pv 12) pa_nil)))))))) (pw_or1 (pt_cmpR op_ne (pe_c (pr_law_told h) hr pass0 (pa_cons (pv 2) (pa_cons (pv 13) (pa_cons (pv 10) (pa_cons (pv 9) (pa_cons (pv 12) pa_nil)))))) pe_str (nomark _))))) (pss_one (ps_ret pe_bl)) pss_nil)
  (pss_cons (ps_set (i := 14) sc_law.nd rfl (by first | exact Or.inl rfl | exact Or.inr rfl) (pe_c (pr_key_of h) (hr.mono (by decide)) pass0 (pa_cons (pv 2) (pa_cons (pe_op op_add pe_int (pe_op op_mod (pe_callTy call_int1 (by rfl) h.f_int bt_int (pa_cons (pe_c (pr_law_at h) (hr.mono (by decide)) pass0 (pa_cons (pv 1) (pa_cons pe_int pa_nil))) pa_nil)) (pe_op op_sub (pv 3) pe_int))) pa_nil))))
  (pss_cons (ps_set (i := 15) sc_law.nd rfl (by first | exact Or.inl rfl | exact Or.inr rfl) (pe_tup (pa_cons (pe_ix ix_tup (pv 10) pe_int (fun _ _ => rfl)) (pa_cons (pe_op op_add (pe_ix ix_tup (pv 10) pe_int (fun _ _ => rfl)) pe_int) pa_nil))))
  (pss_cons (ps_set (i := 16) sc_law.nd rfl (by first | exact Or.inl rfl | exact Or.inr rfl) (pe_slice sl_list (pv 9) po_none (po_some (pe_un un_neg pe_int))))
  (pss_cons (ps_for PassesOwn.never rfl (pi_range1 (by rfl) h.f_range (pa_cons pe_int pa_nil)) (pg_name (i := 17) sc_law.nd rfl (by first | exact Or.inl rfl | exact Or.inr rfl)) (pss_cons (ps_set (i := 18) sc_law.nd rfl (by first | exact Or.inl rfl | exact Or.inr rfl) (pe_c (pr_law_changed h) (hr.mono (by decide)) pass0 (pa_cons (pv 12) (pa_cons (pe_c (pr_law_at h) (hr.mono (by decide)) pass0 (pa_cons (pv 1) (pa_cons (pe_op op_add pe_int (pv 17)) pa_nil))) (pa_cons (pv 3) pa_nil)))))
  (pss_cons (ps_set (i := 19) sc_law.nd rfl (by first | exact Or.inl rfl | exact Or.inr rfl) (pe_ix ix_list (pe_lst (pa_cons pe_str (pa_cons pe_str pa_nil))) (pe_callTy call_int1 (by rfl) h.f_int bt_int (pa_cons (pe_c (pr_law_right h) (hr.mono (by decide)) pass0 (pa_cons (pv 2) (pa_cons (pv 13) (pa_cons (pv 10) (pa_cons (pv 9) (pa_cons (pv 18) pa_nil)))))) pa_nil)) (fun _ _ => rfl)))
  (pss_one (ps_if (pt_cmpR op_ne (pe_c (pr_law_told h) hr pass0 (pa_cons (pv 2) (pa_cons (pv 13) (pa_cons (pv 10) (pa_cons (pv 9) (pa_cons (pv 18) pa_nil)))))) (pv 19) (nomark _)) (pss_one (ps_ret pe_bl)) pss_nil)))))
  (pss_cons (ps_for PassesOwn.never rfl (pi_list (pe_lst (pa_cons (pe_tup (pa_cons (pv 14) (pa_cons (pv 10) pa_nil))) (pa_cons (pe_tup (pa_cons (pv 13) (pa_cons (pv 15) pa_nil))) pa_nil)))) (pg_name (i := 20) sc_law.nd rfl (by first | exact Or.inl rfl | exact Or.inr rfl)) (pss_cons (ps_set (i := 19) sc_law.nd rfl (by first | exact Or.inl rfl | exact Or.inr rfl) (pe_ix ix_list (pe_lst (pa_cons pe_str (pa_cons pe_str pa_nil))) (pe_callTy call_int1 (by rfl) h.f_int bt_int (pa_cons (pe_c (pr_law_right h) (hr.mono (by decide)) pass0 (pa_cons (pv 2) (pa_cons (pe_ix ix_tup (pv 20) pe_int (fun _ _ => rfl)) (pa_cons (pe_ix ix_tup (pv 20) pe_int (fun _ _ => rfl)) (pa_cons (pv 9) (pa_cons (pv 12) pa_nil)))))) pa_nil)) (fun _ _ => rfl)))
  (pss_one (ps_if (pt_cmpR op_ne (pe_c (pr_law_told h) hr pass0 (pa_cons (pv 2) (pa_cons (pe_ix ix_tup (pv 20) pe_int (fun _ _ => rfl)) (pa_cons (pe_ix ix_tup (pv 20) pe_int (fun _ _ => rfl)) (pa_cons (pv 9) (pa_cons (pv 12) pa_nil)))))) (pv 19) (nomark _)) (pss_one (ps_ret pe_bl)) pss_nil))))
  (pss_cons (ps_if (pt_cmpR op_gt (pe_callB call_len_seq (by rfl) h.f_len bt_len (pa_cons (pv 16) pa_nil)) pe_int (nomark _)) (pss_cons (ps_set (i := 21) sc_law.nd rfl (by first | exact Or.inl rfl | exact Or.inr rfl) (pe_tup (pa_cons (pe_ix ix_tup (pv 12) pe_int (fun _ _ => rfl)) (pa_cons (pe_ix ix_tup (pv 12) pe_int (fun _ _ => rfl)) (pa_cons (pe_slice sl_tupA (pe_ix ix_tup (pv 12) pe_int (fun _ _ => rfl)) po_none (po_some (pe_un un_neg pe_int))) pa_nil)))))
  (pss_cons (ps_set (i := 19) sc_law.nd rfl (by first | exact Or.inl rfl | exact Or.inr rfl) (pe_ix ix_list (pe_lst (pa_cons pe_str (pa_cons pe_str pa_nil))) (pe_callTy call_int1 (by rfl) h.f_int bt_int (pa_cons (pe_c (pr_law_right h) (hr.mono (by decide)) pass0 (pa_cons (pv 2) (pa_cons (pv 13) (pa_cons (pv 10) (pa_cons (pv 16) (pa_cons (pv 21) pa_nil)))))) pa_nil)) (fun _ _ => rfl)))
  (pss_one (ps_if (pt_cmpR op_ne (pe_c (pr_law_told h) hr pass0 (pa_cons (pv 2) (pa_cons (pv 13) (pa_cons (pv 10) (pa_cons (pv 16) (pa_cons (pv 21) pa_nil)))))) (pv 19) (nomark _)) (pss_one (ps_ret pe_bl)) pss_nil)))) pss_nil)
  (pss_one (ps_ret (pe_cmpR op_eq (pe_c (pr_law_told h) hr pass0 (pa_cons (pv 2) (pa_cons (pv 13) (pa_cons (pv 10) (pa_cons (pe_lst pa_nil) (pa_cons (pv 12) pa_nil)))))) pe_str (nomark _))))))))))))))))))))))
/-- the law's def -/
theorem ok_law {P : Program} {w : World} {K : PySem.W.Frag} {mg : Str → Option Value} {base : Heap} {CN CB : Addr} {f : Addr} {fd : FuncData} (h : Wd K mg CN CB) (F : FnP K "law" s_law f fd) : FnOk P w K mg base CX0 11 f fd ["_law_script"] (SPlaw K) :=
  F.ok sc_law (fun vs H Q E ⟨a, ns, e, _⟩ => by rw [e]; rfl) (fun cdv A outer s H vs Q E hr ⟨a, ns, e, hs, hl, q⟩ => by
    subst e
    exact ⟨t_law K CN CB, (der_law h cdv A outer s H E hr).nox, sem_law hs hl q⟩)
end Ck

set_option Elab.async false
set_option linter.all false
set_option maxRecDepth 100000
set_option maxHeartbeats 0
set_option autoImplicit false
/-! # The head: the top is run by the kernel; what it leaves -/
namespace Ck
open PySem PySem.Spec PyProof.Rows L2
def d_coin : He.DefD := ⟨("coin", none), "coin", "coin", defArgs s_coin, defBody s_coin, defScope s_coin, [], []⟩
def d_challenge : He.DefD := ⟨("challenge", none), "challenge", "challenge", defArgs s_challenge, defBody s_challenge, defScope s_challenge, [], []⟩
def d_joined_text : He.DefD := ⟨("joined_text", none), "joined_text", "joined_text", defArgs s_joined_text, defBody s_joined_text, defScope s_joined_text, [], []⟩
def d_challenge_of : He.DefD := ⟨("challenge_of", none), "challenge_of", "challenge_of", defArgs s_challenge_of, defBody s_challenge_of, defScope s_challenge_of, [], []⟩
def d_raised : He.DefD := ⟨("raised", none), "raised", "raised", defArgs s_raised, defBody s_raised, defScope s_raised, [], []⟩
def d_is_element : He.DefD := ⟨("is_element", none), "is_element", "is_element", defArgs s_is_element, defBody s_is_element, defScope s_is_element, [], []⟩
def d_check_element : He.DefD := ⟨("check_element", none), "check_element", "check_element", defArgs s_check_element, defBody s_check_element, defScope s_check_element, [], []⟩
def d_power : He.DefD := ⟨("power", none), "power", "power", defArgs s_power, defBody s_power, defScope s_power, [], []⟩
def d_product : He.DefD := ⟨("product", none), "product", "product", defArgs s_product, defBody s_product, defScope s_product, [], []⟩
def d_product_of_powers : He.DefD := ⟨("product_of_powers", none), "product_of_powers", "product_of_powers", defArgs s_product_of_powers, defBody s_product_of_powers, defScope s_product_of_powers, [], []⟩
def d_inverse : He.DefD := ⟨("inverse", none), "inverse", "inverse", defArgs s_inverse, defBody s_inverse, defScope s_inverse, [], []⟩
def d_quotient : He.DefD := ⟨("quotient", none), "quotient", "quotient", defArgs s_quotient, defBody s_quotient, defScope s_quotient, [], []⟩
def d_setup_of : He.DefD := ⟨("setup_of", none), "setup_of", "setup_of", defArgs s_setup_of, defBody s_setup_of, defScope s_setup_of, [], []⟩
def d_is_exponent : He.DefD := ⟨("is_exponent_claims", none), "is_exponent", "is_exponent", defArgs s_is_exponent, defBody s_is_exponent, defScope s_is_exponent, [], []⟩
def d_are_values : He.DefD := ⟨("are_values", none), "are_values", "are_values", defArgs s_are_values, defBody s_are_values, defScope s_are_values, [], []⟩
def d_check_values : He.DefD := ⟨("check_values", none), "check_values", "check_values", defArgs s_check_values, defBody s_check_values, defScope s_check_values, [], []⟩
def d_holds : He.DefD := ⟨("holds", none), "holds", "holds", defArgs s_holds, defBody s_holds, defScope s_holds, [], []⟩
def d_claim_numbers : He.DefD := ⟨("claim_numbers", none), "claim_numbers", "claim_numbers", defArgs s_claim_numbers, defBody s_claim_numbers, defScope s_claim_numbers, [], []⟩
def d_traces : He.DefD := ⟨("traces", none), "traces", "traces", defArgs s_traces, defBody s_traces, defScope s_traces, [], []⟩
def d_choice_numbers : He.DefD := ⟨("choice_numbers", none), "choice_numbers", "choice_numbers", defArgs s_choice_numbers, defBody s_choice_numbers, defScope s_choice_numbers, [], []⟩
def d_has_form : He.DefD := ⟨("has_form", none), "has_form", "has_form", defArgs s_has_form, defBody s_has_form, defScope s_has_form, [], []⟩
def d_call_of : He.DefD := ⟨("call_of", none), "call_of", "call_of", defArgs s_call_of, defBody s_call_of, defScope s_call_of, [], []⟩
def d_check_maker : He.DefD := ⟨("check_maker", none), "check_maker", "check_maker", defArgs s_check_maker, defBody s_check_maker, defScope s_check_maker, [], []⟩
def d_sum_of_others : He.DefD := ⟨("sum_of_others", none), "sum_of_others", "sum_of_others", defArgs s_sum_of_others, defBody s_sum_of_others, defScope s_sum_of_others, [], []⟩
def d_make_paper : He.DefD := ⟨("make_paper", none), "make_paper", "make_paper", defArgs s_make_paper, defBody s_make_paper, defScope s_make_paper, [], []⟩
def d_check_paper : He.DefD := ⟨("check_paper", none), "check_paper", "check_paper", defArgs s_check_paper, defBody s_check_paper, defScope s_check_paper, [], []⟩
def d_is_pair : He.DefD := ⟨("is_pair", none), "is_pair", "is_pair", defArgs s_is_pair, defBody s_is_pair, defScope s_is_pair, [], []⟩
def d_index_of : He.DefD := ⟨("index_of", none), "index_of", "index_of", defArgs s_index_of, defBody s_index_of, defScope s_index_of, [], []⟩
def d_check_set : He.DefD := ⟨("check_set", none), "check_set", "check_set", defArgs s_check_set, defBody s_check_set, defScope s_check_set, [], []⟩
def d_is_exponent2 : He.DefD := ⟨("is_exponent_passes", none), "is_exponent", "is_exponent", defArgs s_is_exponent2, defBody s_is_exponent2, defScope s_is_exponent2, [], []⟩
def d_check_person : He.DefD := ⟨("check_person", none), "check_person", "check_person", defArgs s_check_person, defBody s_check_person, defScope s_check_person, [], []⟩
def d_plain_mark : He.DefD := ⟨("plain_mark", none), "plain_mark", "plain_mark", defArgs s_plain_mark, defBody s_plain_mark, defScope s_plain_mark, [], []⟩
def d_mark_of : He.DefD := ⟨("mark_of", none), "mark_of", "mark_of", defArgs s_mark_of, defBody s_mark_of, defScope s_mark_of, [], []⟩
def d_check_secret : He.DefD := ⟨("check_secret", none), "check_secret", "check_secret", defArgs s_check_secret, defBody s_check_secret, defScope s_check_secret, [], []⟩
def d_check_exponents : He.DefD := ⟨("check_exponents", none), "check_exponents", "check_exponents", defArgs s_check_exponents, defBody s_check_exponents, defScope s_check_exponents, [], []⟩
def d_check_blinding : He.DefD := ⟨("check_blinding", none), "check_blinding", "check_blinding", defArgs s_check_blinding, defBody s_check_blinding, defScope s_check_blinding, [], []⟩
def d_key_of : He.DefD := ⟨("key_of", none), "key_of", "key_of", defArgs s_key_of, defBody s_key_of, defScope s_key_of, [], []⟩
def d_offer_of : He.DefD := ⟨("offer_of", none), "offer_of", "offer_of", defArgs s_offer_of, defBody s_offer_of, defScope s_offer_of, [], []⟩
def d_hidden : He.DefD := ⟨("hidden", none), "hidden", "hidden", defArgs s_hidden, defBody s_hidden, defScope s_hidden, [], []⟩
def d_challenge_for : He.DefD := ⟨("challenge_for", none), "challenge_for", "challenge_for", defArgs s_challenge_for, defBody s_challenge_for, defScope s_challenge_for, [], []⟩
def d_request_of : He.DefD := ⟨("request_of", none), "request_of", "request_of", defArgs s_request_of, defBody s_request_of, defScope s_request_of, [], []⟩
def d_grant_of : He.DefD := ⟨("grant_of", none), "grant_of", "grant_of", defArgs s_grant_of, defBody s_grant_of, defScope s_grant_of, [], []⟩
def d_is_granted : He.DefD := ⟨("is_granted", none), "is_granted", "is_granted", defArgs s_is_granted, defBody s_is_granted, defScope s_is_granted, [], []⟩
def d_ticket_of : He.DefD := ⟨("ticket_of", none), "ticket_of", "ticket_of", defArgs s_ticket_of, defBody s_ticket_of, defScope s_ticket_of, [], []⟩
def d_spend_of : He.DefD := ⟨("spend_of", none), "spend_of", "spend_of", defArgs s_spend_of, defBody s_spend_of, defScope s_spend_of, [], []⟩
def d_is_spend : He.DefD := ⟨("is_spend", none), "is_spend", "is_spend", defArgs s_is_spend, defBody s_is_spend, defScope s_is_spend, [], []⟩
def d_inner_challenge : He.DefD := ⟨("inner_challenge", none), "inner_challenge", "inner_challenge", defArgs s_inner_challenge, defBody s_inner_challenge, defScope s_inner_challenge, [], []⟩
def d_is_ticket : He.DefD := ⟨("is_ticket", none), "is_ticket", "is_ticket", defArgs s_is_ticket, defBody s_is_ticket, defScope s_is_ticket, [], []⟩
def d_is_gate_name : He.DefD := ⟨("is_gate_name", none), "is_gate_name", "is_gate_name", defArgs s_is_gate_name, defBody s_is_gate_name, defScope s_is_gate_name, [], []⟩
def d_check_context : He.DefD := ⟨("check_context", none), "check_context", "check_context", defArgs s_check_context, defBody s_check_context, defScope s_check_context, [], []⟩
def d_stage_numbers : He.DefD := ⟨("stage_numbers", none), "stage_numbers", "stage_numbers", defArgs s_stage_numbers, defBody s_stage_numbers, defScope s_stage_numbers, [], []⟩
def d_stage_challenge : He.DefD := ⟨("stage_challenge", none), "stage_challenge", "stage_challenge", defArgs s_stage_challenge, defBody s_stage_challenge, defScope s_stage_challenge, [], []⟩
def d_choice_of : He.DefD := ⟨("choice_of", none), "choice_of", "choice_of", defArgs s_choice_of, defBody s_choice_of, defScope s_choice_of, [], []⟩
def d_paper_text : He.DefD := ⟨("paper_text", none), "paper_text", "paper_text", defArgs s_paper_text, defBody s_paper_text, defScope s_paper_text, [], []⟩
def d_make_showing : He.DefD := ⟨("make_showing", none), "make_showing", "make_showing", defArgs s_make_showing, defBody s_make_showing, defScope s_make_showing, [], []⟩
def d_check_showing : He.DefD := ⟨("check_showing", none), "check_showing", "check_showing", defArgs s_check_showing, defBody s_check_showing, defScope s_check_showing, [], []⟩
def d_law_row : He.DefD := ⟨("_law_row", none), "_law_row", "_law_row", defArgs s_law_row, defBody s_law_row, defScope s_law_row, [], []⟩
def d_law_at : He.DefD := ⟨("_law_at", none), "_law_at", "_law_at", defArgs s_law_at, defBody s_law_at, defScope s_law_at, [], []⟩
def d_law_setup : He.DefD := ⟨("_law_setup", none), "_law_setup", "_law_setup", defArgs s_law_setup, defBody s_law_setup, defScope s_law_setup, [], []⟩
def d_law_person : He.DefD := ⟨("_law_person", none), "_law_person", "_law_person", defArgs s_law_person, defBody s_law_person, defScope s_law_person, [], []⟩
def d_law_session : He.DefD := ⟨("_law_session", none), "_law_session", "_law_session", defArgs s_law_session, defBody s_law_session, defScope s_law_session, [], []⟩
def d_law_pairs : He.DefD := ⟨("_law_pairs", none), "_law_pairs", "_law_pairs", defArgs s_law_pairs, defBody s_law_pairs, defScope s_law_pairs, [], []⟩
def d_law_noise : He.DefD := ⟨("_law_noise", none), "_law_noise", "_law_noise", defArgs s_law_noise, defBody s_law_noise, defScope s_law_noise, [], []⟩
def d_law_challenge : He.DefD := ⟨("_law_challenge", none), "_law_challenge", "_law_challenge", defArgs s_law_challenge, defBody s_law_challenge, defScope s_law_challenge, [], []⟩
def d_law_joined : He.DefD := ⟨("_law_joined", none), "_law_joined", "_law_joined", defArgs s_law_joined, defBody s_law_joined, defScope s_law_joined, [], []⟩
def d_law_powers : He.DefD := ⟨("_law_powers", none), "_law_powers", "_law_powers", defArgs s_law_powers, defBody s_law_powers, defScope s_law_powers, [], []⟩
def d_law_inside : He.DefD := ⟨("_law_inside", none), "_law_inside", "_law_inside", defArgs s_law_inside, defBody s_law_inside, defScope s_law_inside, [], []⟩
def d_law_paper : He.DefD := ⟨("_law_paper", none), "_law_paper", "_law_paper", defArgs s_law_paper, defBody s_law_paper, defScope s_law_paper, [], []⟩
def d_law_right : He.DefD := ⟨("_law_right", none), "_law_right", "_law_right", defArgs s_law_right, defBody s_law_right, defScope s_law_right, [], []⟩
def d_law_told : He.DefD := ⟨("_law_told", none), "_law_told", "_law_told", defArgs s_law_told, defBody s_law_told, defScope s_law_told, [], []⟩
def d_law_changed : He.DefD := ⟨("_law_changed", none), "_law_changed", "_law_changed", defArgs s_law_changed, defBody s_law_changed, defScope s_law_changed, [], []⟩
def d_law : He.DefD := ⟨("law", none), "law", "law", defArgs s_law, defBody s_law, defScope s_law, [], []⟩
def fn : List He.DefD := [d_coin, d_challenge, d_joined_text, d_challenge_of, d_raised, d_is_element, d_check_element, d_power, d_product, d_product_of_powers, d_inverse, d_quotient, d_setup_of, d_is_exponent, d_are_values, d_check_values, d_holds, d_claim_numbers, d_traces, d_choice_numbers, d_has_form, d_call_of, d_check_maker, d_sum_of_others, d_make_paper, d_check_paper, d_is_pair, d_index_of, d_check_set, d_is_exponent2, d_check_person, d_plain_mark, d_mark_of, d_check_secret, d_check_exponents, d_check_blinding, d_key_of, d_offer_of, d_hidden, d_challenge_for, d_request_of, d_grant_of, d_is_granted, d_ticket_of, d_spend_of, d_is_spend, d_inner_challenge, d_is_ticket, d_is_gate_name, d_check_context, d_stage_numbers, d_stage_challenge, d_choice_of, d_paper_text, d_make_showing, d_check_showing, d_law_row, d_law_at, d_law_setup, d_law_person, d_law_session, d_law_pairs, d_law_noise, d_law_challenge, d_law_joined, d_law_powers, d_law_inside, d_law_paper, d_law_right, d_law_told, d_law_changed, d_law]
def fa : List He.Fa := [.glo "coin", .glo "challenge", .glo "joined_text", .glo "challenge_of", .glo "raised", .glo "is_element", .glo "check_element", .glo "power", .glo "product", .glo "product_of_powers", .glo "inverse", .glo "quotient", .glo "setup_of", .glo "is_exponent_claims", .glo "are_values", .glo "check_values", .glo "holds", .glo "claim_numbers", .glo "traces", .glo "choice_numbers", .glo "has_form", .glo "call_of", .glo "check_maker", .glo "sum_of_others", .glo "make_paper", .glo "check_paper", .glo "is_pair", .glo "index_of", .glo "check_set", .glo "is_exponent_passes", .glo "check_person", .glo "plain_mark", .glo "mark_of", .glo "check_secret", .glo "check_exponents", .glo "check_blinding", .glo "key_of", .glo "offer_of", .glo "hidden", .glo "challenge_for", .glo "request_of", .glo "grant_of", .glo "is_granted", .glo "ticket_of", .glo "spend_of", .glo "is_spend", .glo "inner_challenge", .glo "is_ticket", .glo "is_gate_name", .glo "check_context", .glo "stage_numbers", .glo "stage_challenge", .glo "choice_of", .glo "paper_text", .glo "make_showing", .glo "check_showing", .glo "_law_row", .glo "_law_at", .glo "_law_setup", .glo "_law_person", .glo "_law_session", .glo "_law_pairs", .glo "_law_noise", .glo "_law_challenge", .glo "_law_joined", .glo "_law_powers", .glo "_law_inside", .glo "_law_paper", .glo "_law_right", .glo "_law_told", .glo "_law_changed", .glo "law", .glo "CloakError", .glo "NotAllowed", .glo "BadForm", .glo "BadPaper", .free "len", .free "str", .free "ord", .free "all", .free "tuple", .free "list", .free "zip", .free "range", .free "int", .free "abs", .free "sum", .free "enumerate", .free "isinstance", .int "MODULUS" 2147483647, .int "SIDES" 1000000, .int "BASES" 5, .int "AGES" 5, .int "ZONES" 5, .int "GREATEST" 4, .int "MAX_GATE" 6, .int "MAX_MOMENT" 999999, .str "SMALL" "abcdefghijklmnopqrstuvwxyz", .exc "NotAllowed", .exc "BadPaper", .exm "NotAllowed" "NotAllowed" true, .exm "NotAllowed" "BadPaper" false, .exm "BadPaper" "BadPaper" true]
def loose : List Str := (["CloakError", "NotAllowed", "BadForm", "BadPaper", "Missing", "MODULUS", "SIDES", "coin", "challenge", "joined_text", "challenge_of", "BASES", "raised", "is_element", "check_element", "power", "product", "product_of_powers", "inverse", "quotient", "setup_of", "is_exponent", "is_exponent_claims", "are_values", "check_values", "holds", "claim_numbers", "traces", "choice_numbers", "has_form"] : List Str) ++ (["call_of", "check_maker", "sum_of_others", "make_paper", "check_paper", "AGES", "ZONES", "is_pair", "index_of", "check_set", "GREATEST", "is_exponent_passes", "check_person", "plain_mark", "mark_of", "check_secret", "check_exponents", "check_blinding", "key_of", "offer_of", "hidden", "challenge_for", "request_of", "grant_of", "is_granted", "ticket_of", "spend_of", "is_spend", "inner_challenge", "is_ticket"] : List Str) ++ (["MAX_GATE", "MAX_MOMENT", "SMALL", "is_gate_name", "check_context", "stage_numbers", "stage_challenge", "choice_of", "paper_text", "make_showing", "check_showing", "_law_row", "_law_at", "_law_setup", "_law_person", "_law_session", "_law_pairs", "_law_noise", "_law_challenge", "_law_joined", "_law_powers", "_law_inside", "_law_paper", "_law_right", "_law_told", "_law_changed"] : List Str)
/-! one fact more: the caught error and isinstance -/
abbrev cN (K : PySem.W.Frag) : Addr := He.ga K "NotAllowed"
abbrev cB (K : PySem.W.Frag) : Addr := He.ga K "BadPaper"
abbrev cC (K : PySem.W.Frag) : Addr := He.ga K "CloakError"
abbrev cF (K : PySem.W.Frag) : Addr := He.ga K "BadForm"
def xb (K : PySem.W.Frag) : Bool :=
  He.eqO (PySem.W.findIn K (.ref (cB K)) "__getattribute__") (some (some (.builtin "BaseException.__getattribute__"))) && (He.eqO (PySem.W.findIn K (.ref (cB K)) "__getattr__") (some none) && (decide (PySem.W.subIn K (.ref (cB K)) (.type "BaseException") = some true) && (PySem.W.hasDictIn K (cB K) &&
  (He.eqO (PySem.W.findIn K (.ref (cB K)) "__class__") (some (some (.builtin "object.__class__"))) && (He.eqO (PySem.W.specialIn K (.builtin "object.__class__") "__get__") (some (some (.builtin "getset_descriptor.__get__"))) && (decide (PySem.W.takesIn K (.builtin "object.__class__") = some true) && (decide (PySem.W.mroIn K (cB K) (.type "object") = some true) &&
  (decide (PySem.W.kitOne K (.ref (cB K)) (.ref (cC K)) = some true) && decide (PySem.W.kitAny K (.ref (cB K)) [.ref (cF K), .ref (cN K)] = some false)))))))))
theorem xb_exc {K : PySem.W.Frag} (h : xb K = true) : ExcC K (cB K) := by
  obtain ⟨h1, h⟩ := He.ba h
  obtain ⟨h2, h⟩ := He.ba h
  obtain ⟨h3, h⟩ := He.ba h
  obtain ⟨h4, h⟩ := He.ba h
  obtain ⟨h5, h⟩ := He.ba h
  obtain ⟨h6, h⟩ := He.ba h
  obtain ⟨h7, h⟩ := He.ba h
  obtain ⟨h8, h⟩ := He.ba h
  exact ⟨He.eqO_ok h1, He.eqO_ok h2, of_decide_eq_true h3, h4, He.eqO_ok h5, He.eqO_ok h6, of_decide_eq_true h7, of_decide_eq_true h8⟩
theorem xb_kit {K : PySem.W.Frag} (h : xb K = true) : PySem.W.kitOne K (.ref (cB K)) (.ref (cC K)) = some true ∧ PySem.W.kitAny K (.ref (cB K)) [.ref (cF K), .ref (cN K)] = some false := by
  obtain ⟨h1, h⟩ := He.ba h
  obtain ⟨h2, h⟩ := He.ba h
  obtain ⟨h3, h⟩ := He.ba h
  obtain ⟨h4, h⟩ := He.ba h
  obtain ⟨h5, h⟩ := He.ba h
  obtain ⟨h6, h⟩ := He.ba h
  obtain ⟨h7, h⟩ := He.ba h
  obtain ⟨h8, h⟩ := He.ba h
  obtain ⟨h9, h10⟩ := He.ba h
  exact ⟨of_decide_eq_true h9, of_decide_eq_true h10⟩
abbrev AlX : Type := Bool × He.AlD
def obsX (K : PySem.W.Frag) : AlX := (xb K, He.obsD fa fn K)
def obsXG (g : Addr → Option Obj) : AlX := obsX (He.frG g (He.asD g 2))
def valX : AlX := (true, He.valD fn)
def SaysX (K : PySem.W.Frag) : Prop := obsX K = valX
def hk : PySem.W.Hook where
  α := AlX
  obs := fun s => obsXG s.heap.get?
  val := fun _ => valX
  says := fun _ h => ∃ K : PySem.W.Frag, K.In h ∧ SaysX K
  of := fun _ _ e => ⟨_, He.frG_in, e⟩
  keeps := fun _ _ _ ⟨K, hK, c⟩ k => ⟨K, PySem.W.Frag.In.keeps hK k, c⟩
theorem SaysX.b {K : PySem.W.Frag} (c : SaysX K) : xb K = true := congrArg (fun z : AlX => z.1) c
theorem SaysX.d {K : PySem.W.Frag} (c : SaysX K) : He.SaysD fa fn K := congrArg (fun z : AlX => z.2) c
abbrev R : PySem.W.OpenRow := PySem.W.OpenLaw.row PySem.Challenge.rw_cloak_k51_whole_showings_checked
def ob (s : PySem.W.SharedT) : AlX := obsXG (HandSHeadRun.getT s)
theorem ob_eq (s : PySem.W.SharedT) : ob s = hk.obs s.abs := by
  have e : HandSHeadRun.getT s = s.abs.heap.get? := funext (HandSHeadRun.getT_eq s)
  show obsXG (HandSHeadRun.getT s) = obsXG s.abs.heap.get?
  rw [e]
theorem run1 (w : World) : HandSHeadRun.RunEq R (PySem.W.view R.prog [99]) hk ob 4000 loose (w.withFollow "special-get-raises" false) := by
  intro os
  kernel_rfl
theorem run2 (w : World) : HandSHeadRun.RunEq R (PySem.W.view R.prog [99]) hk ob 4000 loose (w.withFollow "special-get-raises" true) := by
  intro os
  kernel_rfl
theorem run (w : World) : HandSHeadRun.RunEq R (PySem.W.view R.prog [99]) hk ob 4000 loose w := PySem.W.byRow2 "special-get-raises" run1 run2 w
theorem wd_of {K : PySem.W.Frag} {h : Heap} {mg : Str → Option Value} (X : K.In h) (G : h.Ns mainGlobals mg) (cx : SaysX K) : Wd K mg (cN K) (cB K) := by
  have c := cx.d
  have xc := xb_exc cx.b
  have xk := xb_kit cx.b
  obtain ⟨n1, n2, n3, n4⟩ := He.exc_ok (c.fact 98 (f := .exc "NotAllowed") rfl)
  obtain ⟨b1, b2, b3, b4⟩ := He.exc_ok (c.fact 99 (f := .exc "BadPaper") rfl)
  refine {
    d_coin := (c.def_ 0 (d := d_coin) rfl).elim fun fd F => ⟨_, fd, F, (He.glo_ok X G (c.fact 0 (f := .glo "coin") rfl))⟩
    d_challenge := (c.def_ 1 (d := d_challenge) rfl).elim fun fd F => ⟨_, fd, F, (He.glo_ok X G (c.fact 1 (f := .glo "challenge") rfl))⟩
    d_joined_text := (c.def_ 2 (d := d_joined_text) rfl).elim fun fd F => ⟨_, fd, F, (He.glo_ok X G (c.fact 2 (f := .glo "joined_text") rfl))⟩
    d_challenge_of := (c.def_ 3 (d := d_challenge_of) rfl).elim fun fd F => ⟨_, fd, F, (He.glo_ok X G (c.fact 3 (f := .glo "challenge_of") rfl))⟩
    d_raised := (c.def_ 4 (d := d_raised) rfl).elim fun fd F => ⟨_, fd, F, (He.glo_ok X G (c.fact 4 (f := .glo "raised") rfl))⟩
    d_is_element := (c.def_ 5 (d := d_is_element) rfl).elim fun fd F => ⟨_, fd, F, (He.glo_ok X G (c.fact 5 (f := .glo "is_element") rfl))⟩
    d_check_element := (c.def_ 6 (d := d_check_element) rfl).elim fun fd F => ⟨_, fd, F, (He.glo_ok X G (c.fact 6 (f := .glo "check_element") rfl))⟩
    d_power := (c.def_ 7 (d := d_power) rfl).elim fun fd F => ⟨_, fd, F, (He.glo_ok X G (c.fact 7 (f := .glo "power") rfl))⟩
    d_product := (c.def_ 8 (d := d_product) rfl).elim fun fd F => ⟨_, fd, F, (He.glo_ok X G (c.fact 8 (f := .glo "product") rfl))⟩
    d_product_of_powers := (c.def_ 9 (d := d_product_of_powers) rfl).elim fun fd F => ⟨_, fd, F, (He.glo_ok X G (c.fact 9 (f := .glo "product_of_powers") rfl))⟩
    d_inverse := (c.def_ 10 (d := d_inverse) rfl).elim fun fd F => ⟨_, fd, F, (He.glo_ok X G (c.fact 10 (f := .glo "inverse") rfl))⟩
    d_quotient := (c.def_ 11 (d := d_quotient) rfl).elim fun fd F => ⟨_, fd, F, (He.glo_ok X G (c.fact 11 (f := .glo "quotient") rfl))⟩
    d_setup_of := (c.def_ 12 (d := d_setup_of) rfl).elim fun fd F => ⟨_, fd, F, (He.glo_ok X G (c.fact 12 (f := .glo "setup_of") rfl))⟩
    d_is_exponent := (c.def_ 13 (d := d_is_exponent) rfl).elim fun fd F => ⟨_, fd, F, (He.glo_ok X G (c.fact 13 (f := .glo "is_exponent_claims") rfl))⟩
    d_are_values := (c.def_ 14 (d := d_are_values) rfl).elim fun fd F => ⟨_, fd, F, (He.glo_ok X G (c.fact 14 (f := .glo "are_values") rfl))⟩
    d_check_values := (c.def_ 15 (d := d_check_values) rfl).elim fun fd F => ⟨_, fd, F, (He.glo_ok X G (c.fact 15 (f := .glo "check_values") rfl))⟩
    d_holds := (c.def_ 16 (d := d_holds) rfl).elim fun fd F => ⟨_, fd, F, (He.glo_ok X G (c.fact 16 (f := .glo "holds") rfl))⟩
    d_claim_numbers := (c.def_ 17 (d := d_claim_numbers) rfl).elim fun fd F => ⟨_, fd, F, (He.glo_ok X G (c.fact 17 (f := .glo "claim_numbers") rfl))⟩
    d_traces := (c.def_ 18 (d := d_traces) rfl).elim fun fd F => ⟨_, fd, F, (He.glo_ok X G (c.fact 18 (f := .glo "traces") rfl))⟩
    d_choice_numbers := (c.def_ 19 (d := d_choice_numbers) rfl).elim fun fd F => ⟨_, fd, F, (He.glo_ok X G (c.fact 19 (f := .glo "choice_numbers") rfl))⟩
    d_has_form := (c.def_ 20 (d := d_has_form) rfl).elim fun fd F => ⟨_, fd, F, (He.glo_ok X G (c.fact 20 (f := .glo "has_form") rfl))⟩
    d_call_of := (c.def_ 21 (d := d_call_of) rfl).elim fun fd F => ⟨_, fd, F, (He.glo_ok X G (c.fact 21 (f := .glo "call_of") rfl))⟩
    d_check_maker := (c.def_ 22 (d := d_check_maker) rfl).elim fun fd F => ⟨_, fd, F, (He.glo_ok X G (c.fact 22 (f := .glo "check_maker") rfl))⟩
    d_sum_of_others := (c.def_ 23 (d := d_sum_of_others) rfl).elim fun fd F => ⟨_, fd, F, (He.glo_ok X G (c.fact 23 (f := .glo "sum_of_others") rfl))⟩
    d_make_paper := (c.def_ 24 (d := d_make_paper) rfl).elim fun fd F => ⟨_, fd, F, (He.glo_ok X G (c.fact 24 (f := .glo "make_paper") rfl))⟩
    d_check_paper := (c.def_ 25 (d := d_check_paper) rfl).elim fun fd F => ⟨_, fd, F, (He.glo_ok X G (c.fact 25 (f := .glo "check_paper") rfl))⟩
    d_is_pair := (c.def_ 26 (d := d_is_pair) rfl).elim fun fd F => ⟨_, fd, F, (He.glo_ok X G (c.fact 26 (f := .glo "is_pair") rfl))⟩
    d_index_of := (c.def_ 27 (d := d_index_of) rfl).elim fun fd F => ⟨_, fd, F, (He.glo_ok X G (c.fact 27 (f := .glo "index_of") rfl))⟩
    d_check_set := (c.def_ 28 (d := d_check_set) rfl).elim fun fd F => ⟨_, fd, F, (He.glo_ok X G (c.fact 28 (f := .glo "check_set") rfl))⟩
    d_is_exponent2 := (c.def_ 29 (d := d_is_exponent2) rfl).elim fun fd F => ⟨_, fd, F, (He.glo_ok X G (c.fact 29 (f := .glo "is_exponent_passes") rfl))⟩
    d_check_person := (c.def_ 30 (d := d_check_person) rfl).elim fun fd F => ⟨_, fd, F, (He.glo_ok X G (c.fact 30 (f := .glo "check_person") rfl))⟩
    d_plain_mark := (c.def_ 31 (d := d_plain_mark) rfl).elim fun fd F => ⟨_, fd, F, (He.glo_ok X G (c.fact 31 (f := .glo "plain_mark") rfl))⟩
    d_mark_of := (c.def_ 32 (d := d_mark_of) rfl).elim fun fd F => ⟨_, fd, F, (He.glo_ok X G (c.fact 32 (f := .glo "mark_of") rfl))⟩
    d_check_secret := (c.def_ 33 (d := d_check_secret) rfl).elim fun fd F => ⟨_, fd, F, (He.glo_ok X G (c.fact 33 (f := .glo "check_secret") rfl))⟩
    d_check_exponents := (c.def_ 34 (d := d_check_exponents) rfl).elim fun fd F => ⟨_, fd, F, (He.glo_ok X G (c.fact 34 (f := .glo "check_exponents") rfl))⟩
    d_check_blinding := (c.def_ 35 (d := d_check_blinding) rfl).elim fun fd F => ⟨_, fd, F, (He.glo_ok X G (c.fact 35 (f := .glo "check_blinding") rfl))⟩
    d_key_of := (c.def_ 36 (d := d_key_of) rfl).elim fun fd F => ⟨_, fd, F, (He.glo_ok X G (c.fact 36 (f := .glo "key_of") rfl))⟩
    d_offer_of := (c.def_ 37 (d := d_offer_of) rfl).elim fun fd F => ⟨_, fd, F, (He.glo_ok X G (c.fact 37 (f := .glo "offer_of") rfl))⟩
    d_hidden := (c.def_ 38 (d := d_hidden) rfl).elim fun fd F => ⟨_, fd, F, (He.glo_ok X G (c.fact 38 (f := .glo "hidden") rfl))⟩
    d_challenge_for := (c.def_ 39 (d := d_challenge_for) rfl).elim fun fd F => ⟨_, fd, F, (He.glo_ok X G (c.fact 39 (f := .glo "challenge_for") rfl))⟩
    d_request_of := (c.def_ 40 (d := d_request_of) rfl).elim fun fd F => ⟨_, fd, F, (He.glo_ok X G (c.fact 40 (f := .glo "request_of") rfl))⟩
    d_grant_of := (c.def_ 41 (d := d_grant_of) rfl).elim fun fd F => ⟨_, fd, F, (He.glo_ok X G (c.fact 41 (f := .glo "grant_of") rfl))⟩
    d_is_granted := (c.def_ 42 (d := d_is_granted) rfl).elim fun fd F => ⟨_, fd, F, (He.glo_ok X G (c.fact 42 (f := .glo "is_granted") rfl))⟩
    d_ticket_of := (c.def_ 43 (d := d_ticket_of) rfl).elim fun fd F => ⟨_, fd, F, (He.glo_ok X G (c.fact 43 (f := .glo "ticket_of") rfl))⟩
    d_spend_of := (c.def_ 44 (d := d_spend_of) rfl).elim fun fd F => ⟨_, fd, F, (He.glo_ok X G (c.fact 44 (f := .glo "spend_of") rfl))⟩
    d_is_spend := (c.def_ 45 (d := d_is_spend) rfl).elim fun fd F => ⟨_, fd, F, (He.glo_ok X G (c.fact 45 (f := .glo "is_spend") rfl))⟩
    d_inner_challenge := (c.def_ 46 (d := d_inner_challenge) rfl).elim fun fd F => ⟨_, fd, F, (He.glo_ok X G (c.fact 46 (f := .glo "inner_challenge") rfl))⟩
    d_is_ticket := (c.def_ 47 (d := d_is_ticket) rfl).elim fun fd F => ⟨_, fd, F, (He.glo_ok X G (c.fact 47 (f := .glo "is_ticket") rfl))⟩
    d_is_gate_name := (c.def_ 48 (d := d_is_gate_name) rfl).elim fun fd F => ⟨_, fd, F, (He.glo_ok X G (c.fact 48 (f := .glo "is_gate_name") rfl))⟩
    d_check_context := (c.def_ 49 (d := d_check_context) rfl).elim fun fd F => ⟨_, fd, F, (He.glo_ok X G (c.fact 49 (f := .glo "check_context") rfl))⟩
    d_stage_numbers := (c.def_ 50 (d := d_stage_numbers) rfl).elim fun fd F => ⟨_, fd, F, (He.glo_ok X G (c.fact 50 (f := .glo "stage_numbers") rfl))⟩
    d_stage_challenge := (c.def_ 51 (d := d_stage_challenge) rfl).elim fun fd F => ⟨_, fd, F, (He.glo_ok X G (c.fact 51 (f := .glo "stage_challenge") rfl))⟩
    d_choice_of := (c.def_ 52 (d := d_choice_of) rfl).elim fun fd F => ⟨_, fd, F, (He.glo_ok X G (c.fact 52 (f := .glo "choice_of") rfl))⟩
    d_paper_text := (c.def_ 53 (d := d_paper_text) rfl).elim fun fd F => ⟨_, fd, F, (He.glo_ok X G (c.fact 53 (f := .glo "paper_text") rfl))⟩
    d_make_showing := (c.def_ 54 (d := d_make_showing) rfl).elim fun fd F => ⟨_, fd, F, (He.glo_ok X G (c.fact 54 (f := .glo "make_showing") rfl))⟩
    d_check_showing := (c.def_ 55 (d := d_check_showing) rfl).elim fun fd F => ⟨_, fd, F, (He.glo_ok X G (c.fact 55 (f := .glo "check_showing") rfl))⟩
    d_law_row := (c.def_ 56 (d := d_law_row) rfl).elim fun fd F => ⟨_, fd, F, (He.glo_ok X G (c.fact 56 (f := .glo "_law_row") rfl))⟩
    d_law_at := (c.def_ 57 (d := d_law_at) rfl).elim fun fd F => ⟨_, fd, F, (He.glo_ok X G (c.fact 57 (f := .glo "_law_at") rfl))⟩
    d_law_setup := (c.def_ 58 (d := d_law_setup) rfl).elim fun fd F => ⟨_, fd, F, (He.glo_ok X G (c.fact 58 (f := .glo "_law_setup") rfl))⟩
    d_law_person := (c.def_ 59 (d := d_law_person) rfl).elim fun fd F => ⟨_, fd, F, (He.glo_ok X G (c.fact 59 (f := .glo "_law_person") rfl))⟩
    d_law_session := (c.def_ 60 (d := d_law_session) rfl).elim fun fd F => ⟨_, fd, F, (He.glo_ok X G (c.fact 60 (f := .glo "_law_session") rfl))⟩
    d_law_pairs := (c.def_ 61 (d := d_law_pairs) rfl).elim fun fd F => ⟨_, fd, F, (He.glo_ok X G (c.fact 61 (f := .glo "_law_pairs") rfl))⟩
    d_law_noise := (c.def_ 62 (d := d_law_noise) rfl).elim fun fd F => ⟨_, fd, F, (He.glo_ok X G (c.fact 62 (f := .glo "_law_noise") rfl))⟩
    d_law_challenge := (c.def_ 63 (d := d_law_challenge) rfl).elim fun fd F => ⟨_, fd, F, (He.glo_ok X G (c.fact 63 (f := .glo "_law_challenge") rfl))⟩
    d_law_joined := (c.def_ 64 (d := d_law_joined) rfl).elim fun fd F => ⟨_, fd, F, (He.glo_ok X G (c.fact 64 (f := .glo "_law_joined") rfl))⟩
    d_law_powers := (c.def_ 65 (d := d_law_powers) rfl).elim fun fd F => ⟨_, fd, F, (He.glo_ok X G (c.fact 65 (f := .glo "_law_powers") rfl))⟩
    d_law_inside := (c.def_ 66 (d := d_law_inside) rfl).elim fun fd F => ⟨_, fd, F, (He.glo_ok X G (c.fact 66 (f := .glo "_law_inside") rfl))⟩
    d_law_paper := (c.def_ 67 (d := d_law_paper) rfl).elim fun fd F => ⟨_, fd, F, (He.glo_ok X G (c.fact 67 (f := .glo "_law_paper") rfl))⟩
    d_law_right := (c.def_ 68 (d := d_law_right) rfl).elim fun fd F => ⟨_, fd, F, (He.glo_ok X G (c.fact 68 (f := .glo "_law_right") rfl))⟩
    d_law_told := (c.def_ 69 (d := d_law_told) rfl).elim fun fd F => ⟨_, fd, F, (He.glo_ok X G (c.fact 69 (f := .glo "_law_told") rfl))⟩
    d_law_changed := (c.def_ 70 (d := d_law_changed) rfl).elim fun fd F => ⟨_, fd, F, (He.glo_ok X G (c.fact 70 (f := .glo "_law_changed") rfl))⟩
    d_law := (c.def_ 71 (d := d_law) rfl).elim fun fd F => ⟨_, fd, F, (He.glo_ok X G (c.fact 71 (f := .glo "law") rfl))⟩
    f_len := He.free_ok X G (c.fact 76 (f := .free "len") rfl)
    f_str := He.free_ok X G (c.fact 77 (f := .free "str") rfl)
    f_ord := He.free_ok X G (c.fact 78 (f := .free "ord") rfl)
    f_all := He.free_ok X G (c.fact 79 (f := .free "all") rfl)
    f_tuple := He.free_ok X G (c.fact 80 (f := .free "tuple") rfl)
    f_list := He.free_ok X G (c.fact 81 (f := .free "list") rfl)
    f_zip := He.free_ok X G (c.fact 82 (f := .free "zip") rfl)
    f_range := He.free_ok X G (c.fact 83 (f := .free "range") rfl)
    f_int := He.free_ok X G (c.fact 84 (f := .free "int") rfl)
    f_abs := He.free_ok X G (c.fact 85 (f := .free "abs") rfl)
    f_sum := He.free_ok X G (c.fact 86 (f := .free "sum") rfl)
    f_enumerate := He.free_ok X G (c.fact 87 (f := .free "enumerate") rfl)
    f_isinstance := He.free_ok X G (c.fact 88 (f := .free "isinstance") rfl)
    c_MODULUS := He.int_ok X G (c.fact 89 (f := .int "MODULUS" 2147483647) rfl)
    c_SIDES := He.int_ok X G (c.fact 90 (f := .int "SIDES" 1000000) rfl)
    c_BASES := He.int_ok X G (c.fact 91 (f := .int "BASES" 5) rfl)
    c_AGES := He.int_ok X G (c.fact 92 (f := .int "AGES" 5) rfl)
    c_ZONES := He.int_ok X G (c.fact 93 (f := .int "ZONES" 5) rfl)
    c_GREATEST := He.int_ok X G (c.fact 94 (f := .int "GREATEST" 4) rfl)
    c_MAX_GATE := He.int_ok X G (c.fact 95 (f := .int "MAX_GATE" 6) rfl)
    c_MAX_MOMENT := He.int_ok X G (c.fact 96 (f := .int "MAX_MOMENT" 999999) rfl)
    c_SMALL := He.str_ok X G (c.fact 97 (f := .str "SMALL" "abcdefghijklmnopqrstuvwxyz") rfl)
    gN := (He.glo_ok X G (c.fact 73 (f := .glo "NotAllowed") rfl))
    xN := n1
    kN := n2
    bN := n3
    tN := n4
    gB := (He.glo_ok X G (c.fact 75 (f := .glo "BadPaper") rfl))
    xB := b1
    kB := b2
    bB := b3
    tB := b4
    mNN := He.exm_ok (c.fact 100 (f := .exm "NotAllowed" "NotAllowed" true) rfl)
    mNB := He.exm_ok (c.fact 101 (f := .exm "NotAllowed" "BadPaper" false) rfl)
    mBB := He.exm_ok (c.fact 102 (f := .exm "BadPaper" "BadPaper" true) rfl)
    isB := xc
    isC := ⟨_, (He.glo_ok X G (c.fact 72 (f := .glo "CloakError") rfl)), xk.1⟩
    isF := ⟨_, (He.glo_ok X G (c.fact 74 (f := .glo "BadForm") rfl)), xk.2⟩ }
end Ck

set_option Elab.async false
set_option linter.all false
set_option maxRecDepth 100000
set_option maxHeartbeats 0
set_option autoImplicit false
/-! # The end -/
namespace Ck
open PySem PySem.Spec PyProof.Rows L2
theorem law_facts {P : Program} {w : World} {K : PySem.W.Frag} {h : Heap} {mg : Str → Option Value} {f : Addr} (X : K.In h) (G : h.Ns mainGlobals mg) (hfa : mg ("law" : Str) = some (.ref f)) (c : SaysX K) :
    ∃ fd : FuncData, (∀ (s : Shared) (v : Value), BindsTo s fd ⟨[v], []⟩ [("_law_script", v)]) ∧ ∀ base : Heap, K.In base → base.Ns mainGlobals mg → FnOk P w K mg base CX0 11 f fd ["_law_script"] (SPlaw K) := by
  have H := wd_of X G c
  obtain ⟨f', fd, F, g⟩ := H.d_law
  have e := hfa.symm.trans g
  cases e
  have b := FunD.bindsA (ps := ["_law_script"]) F fun _ _ _ _ _ _ us hl => match us, hl with | [_], _ => rfl
  exact ⟨fd, fun s v => b s [v] rfl, fun base _ _ => ok_law H F⟩
end Ck
open PySem PySem.W PySem.Calls PyProof.Rows
theorem PySem.Challenge.cw_cloak_k51_whole_showings_checked_holds : PySem.Challenge.rw_cloak_k51_whole_showings_checked.Holds := by
  w_on; o_law
  refine HandSHeadRun.head_any (r := OpenLaw.row PySem.Challenge.rw_cloak_k51_whole_showings_checked) (q := view (OpenLaw.row PySem.Challenge.rw_cloak_k51_whole_showings_checked).prog [99]) (H := Ck.hk) (ob := Ck.ob) (M := 4000) (loose := Ck.loose) (d := HandSHeadRun.topDef (OpenLaw.row PySem.Challenge.rw_cloak_k51_whole_showings_checked).prog 99) (kwd := []) Ck.ob_eq
    (by kernel_rfl) (fun s => by kernel_rfl) Ck.run (by kernel_rfl) (by kernel_rfl) (by kernel_rfl) (by rfl) (by first | assumption | decide +kernel) (by decide +kernel) ⟨rfl, rfl, rfl, rfl, rfl, by decide +kernel⟩ ?hw ?hc
  case hw => w_witness2
  case hc =>
    refine L2.walk_ofE (l := PySem.Challenge.rw_cloak_k51_whole_showings_checked) (n := 63) (k := 11) (x := "_law_script") (CX := L2.CX0) rfl (by decide) (by kernel_rfl) ⟨rfl, by decide, by decide⟩ ?F (fun _ _ _ _ z => z)
    intro w mg fa h Y G hmg0
    obtain ⟨K, KX, c⟩ := Y
    have hmg : mg ("law" : PySem.Str) = some (.ref fa) := by
      have e : (HandSHeadRun.topDef (OpenLaw.row PySem.Challenge.rw_cloak_k51_whole_showings_checked).prog 99).name = ("law" : PySem.Str) := by kernel_rfl
      rw [← e]
      exact hmg0
    obtain ⟨fd, hb, hF⟩ := Ck.law_facts (P := (PySem.Challenge.rw_cloak_k51_whole_showings_checked).prog) (w := w) KX G hmg c
    exact ⟨K, fd, Ck.SPlaw K, KX, hb, fun H a ns hl _ hS => ⟨a, ns, rfl, hS, hl, fun _ _ => rfl⟩, hF⟩

