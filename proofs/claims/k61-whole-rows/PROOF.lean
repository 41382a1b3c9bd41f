import PyProof.Rows.All
import Wide.All
import OpenK.AllK
import Wide.FinOn
import HandS.ForMost
import HandS.Evl
import HandS.Walk
import HandS.Conv
import HandS.IsInst
import HandS.TupAny
import KE.SortData
import KE.KDictSum
import HandS.RevTup
import KE.KDictDisplayH
import KE.KDictPairs
import KE.KEqDict
import KE.KDictKeyed
import KE.KDictCopyH
import HandS.TupLen
import KE.GoesEnum
import KE.GoesZip
import KE.GoesMore
import HandS.Rev
import HandS.Deep
import PyProof.P3In
import HandS.DictComp
import HandS.SetTxt0
import HandS.TupSets
import KE.GoesSet
import KE.GoesComp
import HandS.Wide
import HandS.Text
import HandS.DictTup
import PySem.Challenge.RW_slideinto_k61_whole_rows_of_names
set_option Elab.async false
set_option linter.all false
set_option maxRecDepth 100000
set_option maxHeartbeats 4000000
/-! K1: what stands for a datum (RP), readings that only make things (Ev, EvT, EvA), calls by a promise of one form (Fn). -/
namespace Kx
open PySem L2
abbrev Ex := Evl.Ex

/-- what a value stands for, kept as the heap grows -/
structure RP where
  p : V → Hp → Prop
  mono : ∀ {H H' : Hp} {v : V}, Ex H H' → p v H → p v H'

def AllP : List RP → List V → Hp → Prop
  | [], [], _ => True
  | R :: Rs, v :: vs, H => R.p v H ∧ AllP Rs vs H
  | _, _, _ => False
theorem AllP.mono {H H' : Hp} (e : Ex H H') : ∀ {Rs : List RP} {vs : List V}, AllP Rs vs H → AllP Rs vs H'
  | [], [], _ => trivial
  | R :: Rs, v :: vs, h => ⟨R.mono e h.1, AllP.mono e h.2⟩
  | [], _ :: _, h => h.elim
  | _ :: _, [], h => h.elim
theorem AllP.len {H : Hp} : ∀ {Rs : List RP} {vs : List V}, AllP Rs vs H → vs.length = Rs.length
  | [], [], _ => rfl
  | R :: Rs, v :: vs, h => by rw [List.length_cons, List.length_cons, AllP.len h.2]
  | [], _ :: _, h => h.elim
  | _ :: _, [], h => h.elim
theorem AllP.get {H : Hp} : ∀ {Rs : List RP} {vs : List V} {i : Nat} {R : RP}, AllP Rs vs H → Rs[i]? = some R → ∃ v, vs[i]? = some v ∧ R.p v H
  | [], [], _, _, _, e => by simp at e
  | R :: Rs, v :: vs, 0, S, h, e => by simp at e; subst e; exact ⟨v, rfl, h.1⟩
  | R :: Rs, v :: vs, i + 1, S, h, e => by simpa using AllP.get h.2 (by simpa using e)
  | [], _ :: _, _, _, h, _ => h.elim
  | _ :: _, [], _, _, h, _ => h.elim
theorem AllP.get' {H : Hp} : ∀ {Rs : List RP} {vs : List V} {i : Nat} {v : V}, AllP Rs vs H → vs[i]? = some v → ∃ R, Rs[i]? = some R ∧ R.p v H
  | [], [], _, _, _, e => by simp at e
  | R :: Rs, v :: vs, 0, w, h, e => by simp at e; subst e; exact ⟨R, rfl, h.1⟩
  | R :: Rs, v :: vs, i + 1, w, h, e => by simpa using AllP.get' h.2 (by simpa using e)
  | [], _ :: _, _, _, h, _ => h.elim
  | _ :: _, [], _, _, h, _ => h.elim
theorem AllP.app {H : Hp} : ∀ {Rs Ss : List RP} {vs ws : List V}, AllP Rs vs H → AllP Ss ws H → AllP (Rs ++ Ss) (vs ++ ws) H
  | [], _, [], _, _, h => h
  | R :: Rs, _, v :: vs, _, h, g => ⟨h.1, AllP.app h.2 g⟩
  | [], _, _ :: _, _, h, _ => h.elim
  | _ :: _, _, [], _, h, _ => h.elim
theorem AllP.take {H : Hp} : ∀ {Rs : List RP} {vs : List V} (n : Nat), AllP Rs vs H → AllP (Rs.take n) (vs.take n) H
  | _, _, 0, _ => trivial
  | [], [], _ + 1, _ => trivial
  | R :: Rs, v :: vs, n + 1, h => ⟨h.1, AllP.take n h.2⟩
  | [], _ :: _, _ + 1, h => h.elim
  | _ :: _, [], _ + 1, h => h.elim
theorem AllP.drop {H : Hp} : ∀ {Rs : List RP} {vs : List V} (n : Nat), AllP Rs vs H → AllP (Rs.drop n) (vs.drop n) H
  | _, _, 0, h => h
  | [], [], _ + 1, _ => trivial
  | R :: Rs, v :: vs, n + 1, h => AllP.drop n h.2
  | [], _ :: _, _ + 1, h => h.elim
  | _ :: _, [], _ + 1, h => h.elim
theorem AllP.set {H : Hp} {R : RP} {v : V} (r : R.p v H) : ∀ {Rs : List RP} {vs : List V} (i : Nat), AllP Rs vs H → AllP (Rs.set i R) (vs.set i v) H
  | [], [], _, _ => trivial
  | S :: Rs, w :: vs, 0, h => ⟨r, h.2⟩
  | S :: Rs, w :: vs, i + 1, h => ⟨h.1, AllP.set r i h.2⟩
  | [], _ :: _, _, h => h.elim
  | _ :: _, [], _, h => h.elim
theorem AllP.rev {H : Hp} : ∀ {Rs : List RP} {vs : List V}, AllP Rs vs H → AllP Rs.reverse vs.reverse H
  | [], [], _ => trivial
  | R :: Rs, v :: vs, h => by
    rw [List.reverse_cons, List.reverse_cons]
    exact AllP.app (AllP.rev h.2) ⟨h.1, trivial⟩
  | [], _ :: _, h => h.elim
  | _ :: _, [], h => h.elim
/-- from a relation along a list of data -/
theorem AllP.of_map {α : Type} {f : α → RP} {H : Hp} : ∀ {ds : List α} {vs : List V}, vs.length = ds.length → (∀ (i : Nat) (d : α) (v : V), ds[i]? = some d → vs[i]? = some v → (f d).p v H) → AllP (ds.map f) vs H
  | [], [], _, _ => trivial
  | d :: ds, v :: vs, hl, h => ⟨h 0 d v rfl rfl, AllP.of_map (by simpa using hl) fun i d' v' a b => h (i + 1) d' v' (by simpa using a) (by simpa using b)⟩
  | [], _ :: _, hl, _ => by simp at hl
  | _ :: _, [], hl, _ => by simp at hl

/-- the value itself -/
abbrev rV (x : V) : RP := ⟨fun v _ => v = x, fun _ h => h⟩
abbrev rInt (i : Int) : RP := rV (.int i)
abbrev rBl (b : Bool) : RP := rV (.bl b)
abbrev rStr (z : Str) : RP := rV (.str z)
abbrev rNon : RP := rV .non
def rTup (Rs : List RP) : RP := ⟨fun v H => ∃ a xs, v = .ref a ∧ H a = some (.tup xs) ∧ AllP Rs xs H, fun e ⟨a, xs, h1, h2, h3⟩ => ⟨a, xs, h1, e _ _ h2, h3.mono e⟩⟩
def rLst (Rs : List RP) : RP := ⟨fun v H => ∃ a xs, v = .ref a ∧ H a = some (.lst xs) ∧ AllP Rs xs H, fun e ⟨a, xs, h1, h2, h3⟩ => ⟨a, xs, h1, e _ _ h2, h3.mono e⟩⟩
/-- a tuple that may be an object of the module -/
def rTupS (K : PySem.W.Frag) (Rs : List RP) : RP := ⟨fun v H => ∃ a xs, v = .ref a ∧ SqT K H a xs ∧ AllP Rs xs H, fun e ⟨a, xs, h1, h2, h3⟩ => ⟨a, xs, h1, Evl.ex_t e h2, h3.mono e⟩⟩
abbrev Cell := Int × Int
abbrev rCell (c : Cell) : RP := rTup [rInt c.1, rInt c.2]
abbrev rTupL {α : Type} (f : α → RP) (ds : List α) : RP := rTup (ds.map f)
abbrev rLstL {α : Type} (f : α → RP) (ds : List α) : RP := rLst (ds.map f)
theorem AllP.vals {H : Hp} : ∀ {xs vs : List V}, AllP (xs.map rV) vs H → vs = xs
  | [], [], _ => rfl
  | x :: xs, v :: vs, h => by rw [h.1, AllP.vals h.2]
  | [], _ :: _, h => h.elim
  | _ :: _, [], h => h.elim
theorem AllP.of_vals {H : Hp} : ∀ {xs : List V}, AllP (xs.map rV) xs H
  | [] => trivial
  | x :: xs => ⟨rfl, AllP.of_vals⟩
theorem cell_at {c : Cell} {v : V} {H : Hp} (h : (rCell c).p v H) : ∃ a, v = .ref a ∧ H a = some (.tup [.int c.1, .int c.2]) := by
  obtain ⟨a, xs, h1, h2, h3⟩ := h
  match xs, h3 with
  | [x, y], h3 =>
    obtain ⟨e1, e2, _⟩ := h3
    have e1 : x = .int c.1 := e1
    have e2 : y = .int c.2 := e2
    subst e1 e2
    exact ⟨a, h1, h2⟩
theorem cell_of {c : Cell} {a : Addr} {H : Hp} (h : H a = some (.tup [.int c.1, .int c.2])) : (rCell c).p (.ref a) H := ⟨a, _, rfl, h, rfl, rfl, trivial⟩

/-! ### evaluation that only makes new things -/
def Ev (te : TE) (σ : L2.St) (H : Hp) (R : RP) : Prop := ∀ H1, Ex H H1 → ∀ Q : VK, (∀ v H2, Ex H1 H2 → R.p v H2 → Q v H2) → te σ H1 Q
def EvT (tt : TT) (σ : L2.St) (H : Hp) (b : Bool) : Prop := ∀ H1, Ex H H1 → ∀ Q : Bool → Hp → Prop, (∀ H2, Ex H1 H2 → Q b H2) → tt σ H1 Q
def EvA (ta : TA) (σ : L2.St) (H : Hp) (Rs : List RP) : Prop := ∀ H1, Ex H H1 → ∀ Q : List V → Hp → Prop, (∀ vs H2, Ex H1 H2 → AllP Rs vs H2 → Q vs H2) → ta σ H1 Q
def EvO (to : TO) (σ : L2.St) (H : Hp) (o : Option Int) : Prop := ∀ H1, Ex H H1 → ∀ Q : Option Int → Hp → Prop, (∀ H2, Ex H1 H2 → Q o H2) → to σ H1 Q
/-- a two-place operation by what stands on both sides -/
def OpV (r : R2) (Rx Ry Rz : RP) : Prop := ∀ x y H1, Rx.p x H1 → Ry.p y H1 → ∀ Q : VK, (∀ z H2, Ex H1 H2 → Rz.p z H2 → Q z H2) → r x y H1 Q
def UnV (r : V → Hp → VK → Prop) (Rx Rz : RP) : Prop := ∀ x H1, Rx.p x H1 → ∀ Q : VK, (∀ z H2, Ex H1 H2 → Rz.p z H2 → Q z H2) → r x H1 Q
def CbV (r : List V → Hp → VK → Prop) (Rs : List RP) (Rz : RP) : Prop := ∀ vs H1, AllP Rs vs H1 → ∀ Q : VK, (∀ z H2, Ex H1 H2 → Rz.p z H2 → Q z H2) → r vs H1 Q

theorem exr (H : Hp) : Ex H H := Evl.Ex.refl H
section
variable {K : PySem.W.Frag} {σ : L2.St} {H H' F : Hp} {ta tb te tx : TE} {t u : TT} {R R' Rx Ry Rz S : RP} {r : R2} {tr : TA} {Rs : List RP}
theorem Ev.up (e : Ex H H') (h : Ev te σ H R) : Ev te σ H' R := fun H1 a Q q => h H1 (e.trans a) Q q
theorem EvT.up {b : Bool} (e : Ex H H') (h : EvT t σ H b) : EvT t σ H' b := fun H1 a Q q => h H1 (e.trans a) Q q
theorem EvA.up (e : Ex H H') (h : EvA tr σ H Rs) : EvA tr σ H' Rs := fun H1 a Q q => h H1 (e.trans a) Q q
theorem Ev.imp (h : Ev te σ H R) (k : ∀ v H', Ex H H' → R.p v H' → R'.p v H') : Ev te σ H R' := fun H1 e Q q => h H1 e Q fun v H2 e2 hv => q v H2 e2 (k v H2 (e.trans e2) hv)
theorem e_var {i : Nat} {v : V} (h : σ[i]? = some (some v)) (hv : R.p v H) : Ev (tVar i) σ H R := fun H1 e Q q => ⟨v, h, q v H1 (exr H1) (R.mono e hv)⟩
theorem e_c {v : V} : Ev (tC v) σ H (rV v) := fun H1 _ _ q => q v H1 (exr H1) rfl
theorem e_glob {v : V} (hv : R.p v H) : Ev (tC v) σ H R := fun H1 e _ q => q v H1 (exr H1) (R.mono e hv)
theorem e_op (ha : Ev ta σ H Rx) (hb : Ev tb σ H Ry) (hr : OpV r Rx Ry Rz) : Ev (tOp r ta tb) σ H Rz := fun H1 e Q q =>
  ha H1 e _ fun x H2 e2 hx => hb H2 (e.trans e2) _ fun y H3 e3 hy => hr x y H3 (Rx.mono e3 hx) hy Q fun z H4 e4 hz => q z H4 ((e2.trans e3).trans e4) hz
theorem e_un {r : V → Hp → VK → Prop} (ha : Ev ta σ H Rx) (hr : UnV r Rx Rz) : Ev (tUn r ta) σ H Rz := fun H1 e Q q =>
  ha H1 e _ fun x H2 e2 hx => hr x H2 hx Q fun z H4 e4 hz => q z H4 (e2.trans e4) hz
theorem a_nil : EvA tNil σ H [] := fun H1 _ _ q => q [] H1 (exr H1) trivial
theorem a_cons (h : Ev te σ H R) (hr : EvA tr σ H Rs) : EvA (tCons te tr) σ H (R :: Rs) := fun H1 e _ q =>
  h H1 e _ fun v H2 e2 hv => hr H2 (e.trans e2) _ fun vs H3 e3 hvs => q (v :: vs) H3 (e2.trans e3) ⟨R.mono e3 hv, hvs⟩
theorem e_tup (h : EvA tr σ H Rs) (hl : Nat.ble Rs.length 1000 = true := by rfl) : Ev (tTup tr) σ H (rTup Rs) := fun H1 e _ q =>
  h H1 e _ fun vs H2 e2 hv => ⟨by rw [hv.len]; exact Nat.le_trans (Nat.le_of_ble_eq_true hl) (by decide), fun p hp => q _ _ (e2.trans (Evl.Ex.new hp)) ⟨p, vs, rfl, upd_same, hv.mono (Evl.Ex.new hp)⟩⟩
theorem e_lst (h : EvA tr σ H Rs) (hl : Nat.ble Rs.length 1000 = true := by rfl) : Ev (tLst tr) σ H (rLst Rs) := fun H1 e _ q =>
  h H1 e _ fun vs H2 e2 hv => ⟨by rw [hv.len]; exact Nat.le_trans (Nat.le_of_ble_eq_true hl) (by decide), fun p hp => q _ _ (e2.trans (Evl.Ex.new hp)) ⟨p, vs, rfl, upd_same, hv.mono (Evl.Ex.new hp)⟩⟩
theorem e_cb {r : List V → Hp → VK → Prop} (h : EvA tr σ H Rs) (hr : CbV r Rs Rz) : Ev (tCB r tr) σ H Rz := fun H1 e Q q =>
  h H1 e _ fun vs H2 e2 hv => hr vs H2 hv Q fun z H4 e4 hz => q z H4 (e2.trans e4) hz
theorem e_if {b : Bool} (h : EvT t σ H b) (h1 : b = true → Ev ta σ H R) (h2 : b = false → Ev tb σ H R) : Ev (tIf t ta tb) σ H R := fun H1 e Q q => h H1 e _ fun H2 e2 => by
  cases b with
  | true =>
    show ta σ H2 Q
    exact h1 rfl H2 (e.trans e2) Q fun v H3 e3 hv => q v H3 (e2.trans e3) hv
  | false =>
    show tb σ H2 Q
    exact h2 rfl H2 (e.trans e2) Q fun v H3 e3 hv => q v H3 (e2.trans e3) hv
theorem e_ifT (h : EvT t σ H true) (h1 : Ev ta σ H R) : Ev (tIf t ta tb) σ H R := e_if h (fun _ => h1) fun z => nomatch z
theorem e_ifF (h : EvT t σ H false) (h1 : Ev tb σ H R) : Ev (tIf t ta tb) σ H R := e_if h (fun z => nomatch z) fun _ => h1
/-! tests -/
theorem t_B {b : Bool} (h : Ev te σ H (rBl b)) : EvT (tB te) σ H b := fun H1 e _ q => h H1 e _ fun v H2 e2 hv => ⟨b, hv, q H2 e2⟩
theorem t_test {b : Bool} (h : Ev te σ H (rBl b)) : EvT (tTest te) σ H b := fun H1 e _ q => h H1 e _ fun v H2 e2 hv => ⟨b, hv, q H2 e2⟩
theorem t_not {b : Bool} (h : EvT t σ H b) : EvT (tNot t) σ H (!b) := fun H1 e _ q => h H1 e _ fun H2 e2 => q H2 e2
theorem t_and {a b : Bool} (h1 : EvT t σ H a) (h2 : a = true → EvT u σ H b) : EvT (tAnd t u) σ H (a && b) := fun H1 e Q q => h1 H1 e _ fun H2 e2 => by
  cases a with
  | true =>
    show u σ H2 Q
    exact h2 rfl H2 (e.trans e2) Q fun H3 e3 => q H3 (e2.trans e3)
  | false =>
    show Q false H2
    exact q H2 e2
theorem t_or {a b : Bool} (h1 : EvT t σ H a) (h2 : a = false → EvT u σ H b) : EvT (tOr t u) σ H (a || b) := fun H1 e Q q => h1 H1 e _ fun H2 e2 => by
  cases a with
  | true =>
    show Q true H2
    exact q H2 e2
  | false =>
    show u σ H2 Q
    exact h2 rfl H2 (e.trans e2) Q fun H3 e3 => q H3 (e2.trans e3)
theorem t_is {a b : Bool} (h : EvT t σ H a) (e : a = b) : EvT t σ H b := e ▸ h
theorem e_is (h : Ev te σ H R) (e : R = R') : Ev te σ H R' := e ▸ h
theorem e_andV {a b : Bool} (h1 : Ev ta σ H (rBl a)) (h2 : a = true → Ev tb σ H (rBl b)) : Ev (tAndV ta tb) σ H (rBl (a && b)) := fun H1 e Q q => h1 H1 e _ fun v H2 e2 hv => ⟨a, hv, by
  cases a with
  | true =>
    show tb σ H2 Q
    exact h2 rfl H2 (e.trans e2) Q fun v H3 e3 hv => q v H3 (e2.trans e3) hv
  | false =>
    show Q (.bl false) H2
    exact q _ H2 e2 rfl⟩
theorem e_orV {a b : Bool} (h1 : Ev ta σ H (rBl a)) (h2 : a = false → Ev tb σ H (rBl b)) : Ev (tOrV ta tb) σ H (rBl (a || b)) := fun H1 e Q q => h1 H1 e _ fun v H2 e2 hv => ⟨a, hv, by
  cases a with
  | true =>
    show Q (.bl true) H2
    exact q _ H2 e2 rfl
  | false =>
    show tb σ H2 Q
    exact h2 rfl H2 (e.trans e2) Q fun v H3 e3 hv => q v H3 (e2.trans e3) hv⟩
theorem e_notV {a : Bool} (h1 : Ev ta σ H (rBl a)) : Ev (tNotV ta) σ H (rBl (!a)) := fun H1 e _ q => h1 H1 e _ fun v H2 e2 hv => ⟨a, hv, q _ H2 e2 rfl⟩
theorem o_none : EvO tNoPart σ H none := fun H1 _ _ q => q H1 (exr H1)
theorem o_some {i : Int} (h : Ev te σ H (rInt i)) : EvO (tPart te) σ H (some i) := fun H1 e _ q => h H1 e _ fun v H2 e2 hv => ⟨i, hv, q H2 e2⟩
def SlV (r : V → Option Int → Option Int → Hp → VK → Prop) (Rx : RP) (lo hi : Option Int) (Rz : RP) : Prop := ∀ x H1, Rx.p x H1 → ∀ Q : VK, (∀ z H2, Ex H1 H2 → Rz.p z H2 → Q z H2) → r x lo hi H1 Q
theorem e_sl {r : V → Option Int → Option Int → Hp → VK → Prop} {tl th : TO} {lo hi : Option Int} (h : Ev te σ H Rx) (h1 : EvO tl σ H lo) (h2 : EvO th σ H hi) (hr : SlV r Rx lo hi Rz) : Ev (tSl r te tl th) σ H Rz := fun H1 e Q q =>
  h H1 e _ fun x H2 e2 hx => h1 H2 (e.trans e2) _ fun H3 e3 => h2 H3 ((e.trans e2).trans e3) _ fun H4 e4 =>
    hr x H4 (Rx.mono (e3.trans e4) hx) Q fun z H5 e5 hz => q z H5 (((e2.trans e3).trans e4).trans e5) hz
/-- a < b < c -/
theorem e_chain {r' : R2} {b c : Bool} {tc : TE} {Rc : RP} (ha : Ev ta σ H Rx) (hb : Ev tb σ H Ry) (hr : ∀ x y H1, Rx.p x H1 → Ry.p y H1 → ∀ Q : VK, Q (.bl b) H1 → r x y H1 Q)
    (hc : Ev tc σ H Rc) (hr' : OpV r' Ry Rc (rBl c)) : Ev (tChain r r' ta tb tc) σ H (rBl (b && c)) := fun H1 e Q q =>
  ha H1 e _ fun x H2 e2 hx => hb H2 (e.trans e2) _ fun y H3 e3 hy => hr x y H3 (Rx.mono e3 hx) hy _ ⟨b, rfl, by
    cases b with
    | true =>
      show tc σ H3 _
      exact hc H3 ((e.trans e2).trans e3) _ fun z H4 e4 hz => hr' y z H4 (Ry.mono e4 hy) hz Q fun w H5 e5 hw => q w H5 (((e2.trans e3).trans e4).trans e5) hw
    | false =>
      show Q (.bl false) H3
      exact q _ H3 (e2.trans e3) rfl⟩

/-! ### promises of one form -/
def Fn {δ : Type} (Pre : δ → Prop) (As : δ → List RP) (Rz : δ → RP) : Sp := fun vs H Q _ => ∃ d, Pre d ∧ AllP (As d) vs H ∧ ∀ v H', Ex H H' → (Rz d).p v H' → Q v H'
theorem e_call {δ : Type} {Pre : δ → Prop} {As : δ → List RP} {Rz : δ → RP} {E : XK} (d : δ) (h : EvA tr σ H (As d)) (hp : Pre d) : Ev (tCall (Fn Pre As Rz) [] E tr) σ H (Rz d) := fun H1 e Q q =>
  h H1 e _ fun vs H2 e2 hv => ⟨d, hp, by rw [List.append_nil]; exact hv, fun v H3 e3 hz => q v H3 (e2.trans e3) hz⟩
theorem Fn.len {δ : Type} {Pre : δ → Prop} {As : δ → List RP} {Rz : δ → RP} {n : Nat} (h : ∀ d, (As d).length = n) : ∀ vs H Q E, Fn Pre As Rz vs H Q E → vs.length = n := fun vs H Q E ⟨d, _, hv, _⟩ => by rw [hv.len, h]

/-! ### statements -/
variable {D : Ends} {tu tw tz : TS} {g : TG}
theorem seq (h : tu { D with nx := tz D } σ H) : tSeq tu tz D σ H := h
theorem s_asg {i : Nat} (h : Ev te σ H R) (k : ∀ v H1, Ex H H1 → R.p v H1 → D.nx (σ.set i (some v)) H1) : tAsg te (gName i) D σ H := h H (exr H) _ fun v H1 e hv => k v H1 e hv
theorem s_ret (h : Ev te σ H R) (k : ∀ v H1, Ex H H1 → R.p v H1 → D.rt v H1) : tRet te D σ H := h H (exr H) _ k
theorem s_drop (h : Ev te σ H R) (k : ∀ H1, Ex H H1 → D.nx σ H1) : tDrop te D σ H := h H (exr H) _ fun _ H1 e _ => k H1 e
theorem s_if {b : Bool} (h : EvT t σ H b) (h1 : b = true → ∀ H1, Ex H H1 → tu D σ H1) (h2 : b = false → ∀ H1, Ex H H1 → tw D σ H1) : tIfS t tu tw D σ H := h H (exr H) _ fun H1 e => by
  cases b with
  | true =>
    show tu D σ H1
    exact h1 rfl H1 e
  | false =>
    show tw D σ H1
    exact h2 rfl H1 e
theorem s_ifT (h : EvT t σ H true) (h1 : ∀ H1, Ex H H1 → tu D σ H1) : tIfS t tu tw D σ H := s_if h (fun _ => h1) fun z => nomatch z
theorem s_ifF (h : EvT t σ H false) (h1 : ∀ H1, Ex H H1 → tw D σ H1) : tIfS t tu tw D σ H := s_if h (fun z => nomatch z) fun _ => h1
theorem s_next (h : D.nx σ H) : tNext D σ H := h
/-- two names at once -/
theorem s_par {i j : Nat} (h : EvA tr σ H [R, S]) (k : ∀ v w H1, Ex H H1 → R.p v H1 → S.p w H1 → D.nx ((σ.set i (some v)).set j (some w)) H1) : tPar i j tr D σ H := h H (exr H) _ fun vs H1 e hv => by
  match vs, hv with
  | [v, w], hv => exact ⟨v, w, rfl, k v w H1 e hv.1 hv.2.1⟩
/-- a, b = a pair -/
theorem s_unp2 {i j : Nat} (h : Ev te σ H (rTup [R, S])) (k : ∀ v w H1, Ex H H1 → R.p v H1 → S.p w H1 → D.nx ((σ.set i (some v)).set j (some w)) H1) :
    tAsg te (gTup K 2 (gCons (gName i) (gCons (gName j) gNil))) D σ H := h H (exr H) _ fun v H1 e hv => by
  obtain ⟨a, xs, rfl, ha, hx⟩ := hv
  match xs, hx with
  | [x, y], hx => exact ⟨a, _, rfl, SqT.of ha, rfl, x, _, rfl, y, _, rfl, rfl, k x y H1 e hx.1 hx.2.1⟩
end
end Kx
set_option Elab.async false
set_option linter.all false
set_option maxRecDepth 100000
set_option maxHeartbeats 4000000
/-! K2: sorted over what reads as data, of a list, a tuple, a dict with tuple keys. -/
namespace Kx
open PySem L2 PyProof.Rows
open PySem.Calls
open PySem.W (EachIs dataLe AllAlike Sortable)

theorem each_vals : ∀ {xs : List V} {us : List Value} {ds : List PyData}, Vals xs us → xs.length = ds.length → EachIs (fun (v : Value) (b : V × PyData) => RelV b.1 v) us (xs.zip ds)
  | _, _, [], .nil, _ => .nil
  | _, _, d :: ds, .cons r t, h => .cons r (each_vals t (by simpa using h))
  | _, _, [], .cons _ _, h => by simp at h
theorem each_reads {h : Heap} : ∀ {xs : List V} {us : List Value} {ds : List PyData}, xs.length = ds.length → (∀ (i : Nat) (u : Value) (d : PyData), us[i]? = some u → ds[i]? = some d → ∃ as, Reads h u d as) → us.length = xs.length →
    EachIs (fun (v : Value) (b : V × PyData) => ∃ as, Reads h v b.2 as) us (xs.zip ds)
  | [], [], [], _, _, _ => .nil
  | x :: xs, u :: us, d :: ds, hl, hr, hu => .cons (hr 0 u d rfl rfl) (each_reads (by simpa using hl) (fun i u' d' a b => hr (i + 1) u' d' (by simpa using a) (by simpa using b)) (by simpa using hu))
  | x :: xs, _, [], hl, _, _ => by simp at hl
  | [], _, d :: ds, hl, _, _ => by simp at hl
  | [], u :: us, [], _, _, hu => by simp at hu
  | x :: xs, [], d :: ds, _, _, hu => by simp at hu
theorem vals_each : ∀ {us : List Value} {bs : List (V × PyData)}, EachIs (fun (v : Value) (b : V × PyData) => RelV b.1 v) us bs → Vals (bs.map Prod.fst) us
  | _, _, .nil => .nil
  | _, _, .cons r t => .cons r (vals_each t)
theorem dpAll_len {K : PySem.W.Frag} {H : Hp} : ∀ {xs : List V} {ds : List PyData}, DpAll K H xs ds → xs.length = ds.length
  | [], [], _ => rfl
  | x :: xs, d :: ds, h => by
    cases h with
    | cons _ t => rw [List.length_cons, List.length_cons, dpAll_len t]
  | [], _ :: _, h => by cases h
  | _ :: _, [], h => by cases h
theorem dpAll_get {K : PySem.W.Frag} {H : Hp} : ∀ {xs : List V} {ds : List PyData} {i : Nat} {d : PyData} {x : V}, DpAll K H xs ds → ds[i]? = some d → xs[i]? = some x → Dp K H x d
  | [], [], _, _, _, _, e, _ => by simp at e
  | x :: xs, d :: ds, 0, _, _, h, e, e' => by
    simp at e e'
    subst e e'
    cases h with
    | cons a _ => exact a
  | x :: xs, d :: ds, i + 1, _, _, h, e, e' => by
    cases h with
    | cons _ t => exact dpAll_get t (by simpa using e) (by simpa using e')
  | [], _ :: _, _, _, _, h, _, _ => by cases h
  | _ :: _, [], _, _, _, h, _, _ => by cases h

/-- the sorted list of the values xs that read as ds -/
def srtV (xs : List V) (ds : List PyData) : List V := ((xs.zip ds).mergeSort (dataLe false Prod.snd)).map Prod.fst
/-- what sorting asks of the data -/
structure SOk (ds : List PyData) : Prop where
  alike : AllAlike ds
  sortable : Sortable ds
  len : ds.length ≤ 100000
  depth : ∀ d ∈ ds, d.depth ≤ 50
theorem zip_map_snd : ∀ {xs : List V} {ds : List PyData}, xs.length = ds.length → (xs.zip ds).map Prod.snd = ds
  | [], [], _ => rfl
  | x :: xs, d :: ds, h => by rw [List.zip_cons_cons, List.map_cons, zip_map_snd (by simpa using h)]
  | [], _ :: _, h => by simp at h
  | _ :: _, [], h => by simp at h

section
variable {X : Cx} {pins : List (Addr × Obj)} {σ : L2.St} {H : Hp} {s : Shared}
theorem srt_coreP {x : Addr} {Q : VK} (Pd : List V → List PyData → Prop) (I : Inv X pins σ H s) (hu : X.A.units + 64 < cLine)
    (col : ∀ (Q' : List Value → Shared → Prop), (∀ xs ds vs s', Pd xs ds → Vals xs vs → (∀ b o, s.heap.get? b = some o → s'.heap.get? b = some o) → s'.gens = s.gens → s'.os = s.os → Q' vs s') → wpAny (model X.prog X.w) X.A.in1 (PySem.collect (.ref x)) Q' X.xe s)
    (hdP : ∀ xs ds, Pd xs ds → DpAll X.K H xs ds ∧ SOk ds) (qP : ∀ xs ds, Pd xs ds → ∀ p, H p = none → Q (.ref p) (upd H p (.lst (srtV xs ds)))) :
    wpAny (model X.prog X.w) X.A (call (.builtin "sorted") [.ref x]) (EP X pins σ Q) X.xe s := by
  refine call_function_entry kind_sorted plain_sorted entry_sorted (args_sorted1 _) ?_
  unfold Builtin.«sorted»
  refine wpAny_bind (m := checkCount "sorted" 1 1 _) (wpAny_pure ?_)
  refine wpAny_bind (col _ fun xs ds vs s' hP rv hk hg ho' => ?_)
  obtain ⟨hd, ok⟩ := hdP xs ds hP
  have q := qP xs ds hP
  have hlen := dpAll_len hd
  have hvl := rv.length
  have hl : vs.length ≤ sizeLine := by
    rw [← hvl, hlen, sizeLine_eq]
    exact Nat.le_trans ok.len (by decide)
  refine wpAny_bind (wpAny_newList ?_ hl)
  generalize hD : s'.heap.objs.size = D
  have ho : (s'.heap.push { cls := .type "list", data := .seq vs.toArray 0 }).get? D = some (seqObj "list" vs.toArray 0) := by
    rw [← hD]
    exact Heap.get?_push_size _ rfl
  have I1 : Inv X pins σ H s' := I.call' (ch := []) ho' (Un.kept hk) (I.hok.kept hk) (by rw [hg]; exact I.bare) (fun _ z => nomatch z)
  have old : ∀ b o, s'.heap.get? b = some o → b ≠ D ∧ (s'.heap.push { cls := .type "list", data := .seq vs.toArray 0 }).get? b = some o := fun b o e =>
    ⟨by rw [← hD]; exact Nat.ne_of_lt (Heap.lt_size e), Heap.get?_push_of_some _ e⟩
  generalize hh2 : s'.heap.push { cls := .type "list", data := .seq vs.toArray 0 } = h2 at ho old
  have e1 := each_vals rv hlen
  have er : EachIs (fun (v : Value) (b : V × PyData) => ∃ as, Reads (PySem.W.sortingHeap h2 D vs) v b.2 as) vs (xs.zip ds) := by
    refine each_reads hlen (fun i u d a b => ?_) hvl.symm
    have hi : i < xs.length := by
      have := (List.getElem?_eq_some_iff.mp a).1
      omega
    obtain ⟨u', hu', ru⟩ := rv.get (i := i) (List.getElem?_eq_getElem hi)
    rw [a] at hu'
    cases hu'
    obtain ⟨as, r⟩ := Dp.reads I1 d _ u (dpAll_get hd b (List.getElem?_eq_getElem hi)) ru
    exact ⟨as, PyProof.Rows.Reads.keeps (fun b o e => PySem.W.sortingHeap_old (old b o e).1 (old b o e).2) r⟩
  have em : (xs.zip ds).map Prod.snd = ds := zip_map_snd hlen
  have hal : AllAlike ((xs.zip ds).map Prod.snd) := by rw [em]; exact ok.alike
  have hks : Sortable ((xs.zip ds).map Prod.snd) := by rw [em]; exact ok.sortable
  have hbd : ∀ d ∈ (xs.zip ds).map Prod.snd, X.A.in1.in1.units + d.depth < cLine := by
    rw [em]
    intro d hm
    have := ok.depth d hm
    show X.A.units + 1 + 1 + d.depth < cLine
    omega
  have out := PySem.W.sortVals_data (h' := PySem.W.sortingHeap h2 D vs) false e1 er hal
  have go : wpAny (model X.prog X.w) X.A.in1 (call (.builtin "list.sort") [.ref D]) (fun _ s' => ∃ r, (fun u s' => EP X pins σ Q u s') r s' ∧ r = .ref D) X.xe { s' with heap := h2 } := by
    refine wpAny_call_entry slot_list_sort ⟨_, ho, rfl⟩ entry_list_sort (PySem.W.list_sort_vals (κ := PySem.W.dataKind (PySem.W.sortingHeap h2 D vs) ((xs.zip ds).map Prod.snd)) ho
      (PySem.W.SortsAt.data (s := { s' with heap := PySem.W.sortingHeap h2 D vs }) (PySem.W.each_map (R := fun v d => ∃ as, Reads (PySem.W.sortingHeap h2 D vs) v d as) Prod.snd er) hal hks hbd) hl ⟨.none, rfl, ?_⟩) (args_list_sort _)
    obtain ⟨c, hc⟩ := sortedHeap_at (out := (PySem.W.sortVals (PySem.W.dataKind (PySem.W.sortingHeap h2 D vs) ((xs.zip ds).map Prod.snd)) false vs vs).toArray) ho
    have kp : ∀ b o, s'.heap.get? b = some o → (sortedHeap h2 D vs (PySem.W.sortVals (PySem.W.dataKind (PySem.W.sortingHeap h2 D vs) ((xs.zip ds).map Prod.snd)) false vs vs).toArray).get? b = some o := fun b o e => by
      obtain ⟨n1, n2⟩ := old b o e
      rw [sortedHeap_old n1 (Heap.lt_size n2)]
      exact n2
    have hDs : s'.heap.objs.size ≤ D := Nat.le_of_eq hD
    have rvo := vals_each out
    refine ⟨.ref D, ⟨.ref D, upd H D (.lst (srtV xs ds)), I1.laid kp hDs ?_, rfl, q D (I1.hok.fresh hDs)⟩, rfl⟩
    refine ⟨?_, _, c, rvo, hc⟩
    unfold srtV
    rw [List.length_map, List.length_mergeSort, List.length_zip, sizeLine_eq]
    have := ok.len
    omega
  refine wpAny_bind (wpAny_holding (wpAny_mono go (fun _ s9 z => ?_) fun _ _ e => e))
  obtain ⟨r, z, rfl⟩ := z
  exact wpAny_pure ⟨_, rfl, z⟩
theorem srt_core {x : Addr} {xs : List V} {ds : List PyData} {Q : VK} (I : Inv X pins σ H s) (hu : X.A.units + 64 < cLine)
    (col : ∀ (Q' : List Value → Shared → Prop), (∀ vs h' tk, Vals xs vs → (∀ b o, s.heap.get? b = some o → h'.get? b = some o) → Q' vs { s with heap := h', toks := tk }) → wpAny (model X.prog X.w) X.A.in1 (PySem.collect (.ref x)) Q' X.xe s)
    (hd : DpAll X.K H xs ds) (ok : SOk ds) (q : ∀ p, H p = none → Q (.ref p) (upd H p (.lst (srtV xs ds)))) :
    wpAny (model X.prog X.w) X.A (call (.builtin "sorted") [.ref x]) (EP X pins σ Q) X.xe s :=
  srt_coreP (fun a b => a = xs ∧ b = ds) I hu (fun Q' k => col Q' fun vs h' tk r hk => k xs ds vs { s with heap := h', toks := tk } ⟨rfl, rfl⟩ r hk rfl rfl) (fun a b e => by rw [e.1, e.2]; exact ⟨hd, ok⟩) fun a b e => by
    rw [e.1, e.2]
    exact q
end

/-! ### what reads as data -/
def Dat (R : RP) (d : PyData) : Prop := ∀ (K : PySem.W.Frag) (H : Hp) (v : V), R.p v H → Dp K H v d
def DatA (Rs : List RP) (ds : List PyData) : Prop := ∀ (K : PySem.W.Frag) (H : Hp) (vs : List V), AllP Rs vs H → DpAll K H vs ds
theorem dat_int {i : Int} : Dat (rInt i) (.int i) := fun _ _ _ h => by cases (show _ = _ from h); exact .int i
theorem dat_str {z : Str} : Dat (rStr z) (.str z) := fun _ _ _ h => by cases (show _ = _ from h); exact .str z
theorem dat_bl {b : Bool} : Dat (rBl b) (.bool b) := fun _ _ _ h => by cases (show _ = _ from h); exact .bl b
theorem dat_non : Dat rNon .none := fun _ _ _ h => by cases (show _ = _ from h); exact .non
theorem datA_nil : DatA [] [] := fun _ _ vs h => match vs, h with | [], _ => .nil
theorem datA_cons {R : RP} {Rs : List RP} {d : PyData} {ds : List PyData} (h : Dat R d) (t : DatA Rs ds) : DatA (R :: Rs) (d :: ds) := fun K H vs q => match vs, q with | v :: vs, q => .cons (h K H v q.1) (t K H vs q.2)
theorem dat_tup {Rs : List RP} {ds : List PyData} (h : DatA Rs ds) : Dat (rTup Rs) (.tuple ds) := fun K H v ⟨a, xs, e, ha, hx⟩ => e ▸ .tup (SqT.of ha) (h K H xs hx)
theorem dat_lst {Rs : List RP} {ds : List PyData} (h : DatA Rs ds) : Dat (rLst Rs) (.list ds) := fun K H v ⟨a, xs, e, ha, hx⟩ => e ▸ .lst (SqL.of ha) (h K H xs hx)
theorem datA_map {α : Type} {f : α → RP} {enc : α → PyData} (h : ∀ a, Dat (f a) (enc a)) : ∀ as : List α, DatA (as.map f) (as.map enc)
  | [] => datA_nil
  | a :: as => datA_cons (h a) (datA_map h as)
def encC (c : Cell) : PyData := .tuple [.int c.1, .int c.2]
theorem dat_cell (c : Cell) : Dat (rCell c) (encC c) := dat_tup (datA_cons dat_int (datA_cons dat_int datA_nil))

/-! ### sorted, by values -/
def rSrt (K : PySem.W.Frag) : List V → Hp → VK → Prop := fun vs H Q => ∃ (a : Addr) (xs : List V) (ds : List PyData), vs = [.ref a] ∧ (SqL K H a xs ∨ SqT K H a xs) ∧ DpAll K H xs ds ∧ SOk ds ∧ ∀ p, H p = none → Q (.ref p) (upd H p (.lst (srtV xs ds)))
def rSrtD (K : PySem.W.Frag) : List V → Hp → VK → Prop := fun vs H Q => ∃ (a : Addr) (kvs : List (List Key × V)) (ds : List PyData), vs = [.ref a] ∧ H a = some (.dT kvs) ∧ SOk ds ∧ (∀ bs, IsKeys H kvs bs → DpAll K H (bs.map V.ref) ds) ∧
  ∀ bs p, IsKeys H kvs bs → H p = none → Q (.ref p) (upd H p (.lst (srtV (bs.map V.ref) ds)))
section
variable {X : Cx}
theorem cr_srt (hu : X.A.units + 64 < cLine) : CallR X (.builtin "sorted") (rSrt X.K) := by
  intro pins s σ H xs us Q I r h
  obtain ⟨a, ys, ds, rfl, hq, hd, ok, q⟩ := h
  obtain ⟨u, rfl, ru⟩ := vals1 r
  cases ru
  have hlen := dpAll_len hd
  rcases hq with hq | hq
  · obtain ⟨its, rv, p, hz⟩ := I.list hq
    refine srt_core I hu (fun Q' k => ?_) hd ok q
    refine collect_list p.isList ?_ (by rw [← rv.length]; exact hz)
    refine k its _ s.toks rv fun b o e => ?_
    rw [Heap.get?_update_ne _ _ _ _ (Nat.ne_of_lt (Heap.lt_size e))]
    exact Heap.get?_push_of_some _ e
  · obtain ⟨its, rv, ⟨o, ho, hc, n, hd2⟩, hz⟩ := I.tuple hq
    refine srt_core I hu (fun Q' k => ?_) hd ok q
    refine wpAny_collect_seq a (.inr rfl) ho hc hd2 (fun h' hk => ?_) (by rw [List.size_toArray, ← rv.length]; exact hz)
    exact k its h' s.toks rv hk
theorem cr_srtD (hc : X.calm = true) (hu : X.A.units + 64 < cLine) : CallR X (.builtin "sorted") (rSrtD X.K) := by
  intro pins s σ H xs us Q I r h
  obtain ⟨d, kvs, ds, rfl, hd, ok, hk, q⟩ := h
  obtain ⟨u, rfl, ru⟩ := vals1 r
  cases ru
  obtain ⟨z, hs, ks, pr, o, es, ep, ho, hx, hdt, he, hn⟩ := (show ObjOk X.prog X.w H s.heap d (.dT kvs) from I.hok d _ hd)
  have l1 : es.size = ks.length := size_of_entries he
  have l2 : kvs.length = ks.length := Paired.length pr
  have ik := isKeys_of pr
  refine srt_core (xs := (ks.map fun x => x.2.1).map V.ref) I hu (fun Q' k => ?_) (hk _ ik) ok fun p hp => q _ p ik hp
  refine PySem.W.kdu_collect (kdl_raw hs hx hdt) (I.ok.hd hc) ho (by omega) fun h' tk acc hkp hacc => ?_
  have ea : acc.toList = ks.map fun x => Value.ref x.2.1 := by
    have hl : acc.toList.length = ks.length := by
      rw [Array.length_toList, hacc.1]
      exact l1
    refine List.ext_getElem? fun j => ?_
    rw [List.getElem?_map]
    cases hj : acc.toList[j]? with
    | none =>
      rw [List.getElem?_eq_none (by have := List.getElem?_eq_none_iff.mp hj; omega)]
      rfl
    | some v =>
      obtain ⟨en, hen, hv⟩ := hacc.2 j v (by rw [← Array.getElem?_toList]; exact hj)
      have qe := entry_at he j
      rw [hen] at qe
      cases hb : ks[j]? with
      | none =>
        rw [hb] at qe
        cases qe
      | some b =>
        rw [hb] at qe
        cases qe
        rw [hv]
        rfl
  refine k _ h' tk ?_ hkp
  rw [ea, show (ks.map fun x => Value.ref x.2.1) = (ks.map fun x => x.2.1).map Value.ref by rw [List.map_map]; rfl]
  exact vals_refs _
end

theorem sort_mem {α : Type} {le : α → α → Bool} {l : List α} {a : α} (h : a ∈ l.mergeSort le) : a ∈ l := (List.mergeSort_perm _ _).mem_iff.mp h
theorem allP_two {α : Type} {f : α → RP} {H : Hp} : ∀ {zs : List (V × α)}, (∀ z ∈ zs, (f z.2).p z.1 H) → AllP ((zs.map Prod.snd).map f) (zs.map Prod.fst) H
  | [], _ => trivial
  | z :: zs, h => ⟨h z List.mem_cons_self, allP_two fun y hy => h y (List.mem_cons_of_mem _ hy)⟩
theorem allP_zip {α : Type} {f : α → RP} {H : Hp} : ∀ {xs : List V} {as : List α}, AllP (as.map f) xs H → ∀ z ∈ xs.zip as, (f z.2).p z.1 H
  | [], [], _, z, hz => by simp at hz
  | x :: xs, a :: as, h, z, hz => by
    rcases List.mem_cons.mp hz with e | hz
    · subst e
      exact h.1
    · exact allP_zip h.2 z hz
  | [], _ :: _, h, _, _ => h.elim
  | _ :: _, [], h, _, _ => h.elim
theorem srtV_of {α : Type} {f : α → RP} {enc : α → PyData} {H : Hp} {xs : List V} {as : List α} (h : AllP (as.map f) xs H) : AllP ((as.mergeSort (dataLe false enc)).map f) (srtV xs (as.map enc)) H := by
  have hl : xs.length = as.length := by
    have := h.len
    rwa [List.length_map] at this
  have e0 : xs.zip (as.map enc) = (xs.zip as).map fun z => (z.1, enc z.2) := by
    rw [List.zip_map_right]
    rfl
  have e1 : srtV xs (as.map enc) = ((xs.zip as).mergeSort fun a b => dataLe false enc a.2 b.2).map Prod.fst := by
    unfold srtV
    rw [e0, ← PySem.W.sort_maps (r := fun a b => dataLe false enc a.2 b.2) (s := dataLe false Prod.snd) (fun z : V × α => (z.1, enc z.2)) fun _ _ _ _ => rfl, List.map_map]
    rfl
  have e2 : as.mergeSort (dataLe false enc) = ((xs.zip as).mergeSort fun a b => dataLe false enc a.2 b.2).map Prod.snd := by
    rw [PySem.W.sort_maps (s := dataLe false enc) Prod.snd fun _ _ _ _ => rfl, List.map_snd_zip (by omega)]
  rw [e1, e2]
  exact allP_two fun z hz => allP_zip h z (sort_mem hz)
section
variable {K : PySem.W.Frag} {α : Type} {f : α → RP} {enc : α → PyData} {as : List α}
theorem cv_srtL (hd : ∀ a, Dat (f a) (enc a)) (ok : SOk (as.map enc)) : CbV (rSrt K) [rLstL f as] (rLstL f (as.mergeSort (dataLe false enc))) := fun vs H1 hv Q q => by
  match vs, hv with
  | [v], hv =>
    obtain ⟨⟨a, xs, rfl, ha, hx⟩, _⟩ := hv
    exact ⟨a, xs, _, rfl, .inl (SqL.of ha), datA_map hd as K H1 xs hx, ok, fun p hp => q _ _ (Evl.Ex.new hp) ⟨p, _, rfl, upd_same, (srtV_of hx).mono (Evl.Ex.new hp)⟩⟩
theorem cv_srtT (hd : ∀ a, Dat (f a) (enc a)) (ok : SOk (as.map enc)) : CbV (rSrt K) [rTupL f as] (rLstL f (as.mergeSort (dataLe false enc))) := fun vs H1 hv Q q => by
  match vs, hv with
  | [v], hv =>
    obtain ⟨⟨a, xs, rfl, ha, hx⟩, _⟩ := hv
    exact ⟨a, xs, _, rfl, .inr (SqT.of ha), datA_map hd as K H1 xs hx, ok, fun p hp => q _ _ (Evl.Ex.new hp) ⟨p, _, rfl, upd_same, (srtV_of hx).mono (Evl.Ex.new hp)⟩⟩
end
/-- a dict whose keys are cells -/
abbrev ck (c : Cell) : List Key := [.inl c.1, .inl c.2]
def rDic (kvs : List (Cell × V)) : RP := ⟨fun v H => ∃ a, v = .ref a ∧ H a = some (.dT (kvs.map fun p => (ck p.1, p.2))), fun e ⟨a, h1, h2⟩ => ⟨a, h1, e _ _ h2⟩⟩
theorem keys_cells {H : Hp} : ∀ {kvs : List (Cell × V)} {bs : List Addr}, IsKeys H (kvs.map fun p => (ck p.1, p.2)) bs → AllP ((kvs.map (·.1)).map rCell) (bs.map V.ref) H
  | [], [], _ => trivial
  | p :: r, b :: bs, h => by
    cases h with
    | cons a t => exact ⟨cell_of a, keys_cells t⟩
  | [], _ :: _, h => by cases h
  | _ :: _, [], h => by cases h
theorem cv_srtD {K : PySem.W.Frag} {kvs : List (Cell × V)} (ok : SOk ((kvs.map (·.1)).map encC)) : CbV (rSrtD K) [rDic kvs] (rLstL rCell ((kvs.map (·.1)).mergeSort (dataLe false encC))) := fun vs H1 hv Q q => by
  match vs, hv with
  | [v], hv =>
    obtain ⟨⟨a, rfl, ha⟩, _⟩ := hv
    exact ⟨a, _, _, rfl, ha, ok, fun bs hb => datA_map dat_cell _ K H1 _ (keys_cells hb), fun bs p hb hp => q _ _ (Evl.Ex.new hp) ⟨p, _, rfl, upd_same, (srtV_of (keys_cells hb)).mono (Evl.Ex.new hp)⟩⟩
end Kx
set_option Elab.async false
set_option linter.all false
set_option maxRecDepth 100000
set_option maxHeartbeats 4000000
/-! K3: dicts with tuple keys: del, a display of one pair, dict(pairs), == {}, truth, their lists; x in a tuple of data; extend by a tuple; list(reversed(list)). -/
namespace Kx
open PySem L2 PyProof.Rows PySem.Calls

/-! ### del d[k] -/
theorem KT.drop {H : Hp} {kvs : List (List Key × V)} {xs : List (List Key × Addr × Value)} (r : KT H kvs xs) (k : List Key) : KT H (dropK kvs k) (withoutH xs k) := by
  induction r with
  | nil => exact .nil
  | @cons p q ps qs h t ih =>
    unfold dropK withoutH at *
    rw [List.filter_cons, List.filter_cons]
    by_cases e : p.1 = k
    · rw [if_neg (by simp [e]), if_neg (by simp [h.1.symm.trans e])]
      exact ih
    · have e' : ¬ q.1 = k := fun z => e (h.1.trans z)
      rw [if_pos (by simp [e]), if_pos (by simp [e'])]
      exact .cons h ih
theorem room0 {P : Program} {w : World} {A : Around} (hu : A.units + 1 < cLine) : (tupleKind (mixKind P w)).room A := by
  show A.units < cLine
  omega
section
variable {X : Cx} {pins : List (Addr × Obj)} {σ : L2.St} {H : Hp} {s : Shared} {a b : Addr} {kvs : List (List Key × V)} {k : List Key} {A : Around} {E : Value → Shared → Prop}
theorem dt_stay {o : HO} (e : H a = some (.dT kvs)) : ∀ c ys, H c = some (.tup ys) → upd H a o c = some (.tup ys) := fun c ys ec => by
  rw [upd_ne (ne_of ec e fun z => nomatch z)]
  exact ec
theorem dt_del {Q : Unit → Shared → Prop} (hu : A.units + 1 < cLine) (I : Inv X pins σ H s) (e : H a = some (.dT kvs)) (eb : H b = some (.tup (k.map kV))) (l : (valV kvs k).isSome = true)
    (h : ∀ s', Inv X pins σ (upd H a (.dT (dropK kvs k))) s' → Q () s') : wpAny (model X.prog X.w) A (delItem (.ref a) (.ref b)) Q E s := by
  obtain ⟨z, hd, xs, rel, dd⟩ := dt_of I.hok e
  have q := (rel.val k).isSome_eq
  rw [l, Option.isSome_map] at q
  obtain ⟨p, hp⟩ := Option.isSome_iff_exists.mp q.symm
  refine wpAny_delItem_heap (hsz := by rw [← Paired.length rel]; exact z) (tupleKind_room_in1 hu) (key_of I.hok eb) hd dd hp fun h' dd' hs => h _ ?_
  obtain ⟨ob, es, ep, hq, h2, h3, h4, _, h5⟩ := dd'
  exact d_write I (by rw [e]; trivial) hs ⟨ob, hq⟩ ⟨Nat.le_trans (dropK_le kvs k) z, hd, _, (KT.drop rel k).keeps (dt_stay e), ob, es, ep, hq, h2, h3, h4, h5⟩
/-- d[k] = v by a comprehension or a display -/
theorem dt_set {v : V} {r : Value} {Q : Unit → Shared → Prop} (hu : A.units + 1 < cLine) (I : Inv X pins σ H s) (e : H a = some (.dT kvs)) (eb : H b = some (.tup (k.map kV))) (rv : RelV v r) (hl : kvs.length < sizeLine)
    (h : ∀ s', Inv X pins σ (upd H a (.dT (putK kvs k v))) s' → Q () s') : wpAny (model X.prog X.w) A (dictSet a (.ref b) r) Q E s := by
  obtain ⟨z, hd, xs, rel, dd⟩ := dt_of I.hok e
  have hz : (putK kvs k v).length ≤ sizeLine := by
    have := length_putK kvs k v
    omega
  refine wpAny_dictSet_heap (hsz := by rw [← Paired.length rel]; exact z) (knd := tupleKind (mixKind X.prog X.w)) (room0 hu) (key_of I.hok eb) dd fun h' dd' hs => h _ ?_
  obtain ⟨ob, es, ep, hq, h2, h3, h4, _, h5⟩ := dd'
  exact d_write I (by rw [e]; trivial) hs ⟨ob, hq⟩ ⟨hz, hd, _, (rel.put k eb rv).keeps (dt_stay e), ob, es, ep, hq, h2, h3, h4, h5⟩
end
def sDDelT (td ty : TE) : TS := fun D σ H => td σ H fun x H1 => ty σ H1 fun y H2 => ∃ (a b : Addr) (kvs : List (List Key × V)) (k : List Key), x = .ref a ∧ y = .ref b ∧ H2 a = some (.dT kvs) ∧ H2 b = some (.tup (k.map kV)) ∧ (valV kvs k).isSome = true ∧ D.nx σ (upd H2 a (.dT (dropK kvs k)))
section
variable {X : Cx} {o i : Expr} {td ty : TE} {pos tpos : Pos}
theorem ps_ddelT (hu : X.A.units + 1 < cLine) (ho : PE X o td) (hi : PE X i ty) : PS X (.Delete [.Subscript o i tpos] pos) (sDDelT td ty) := by
  refine ⟨fun pins s σ H D I h => ?_⟩
  refine wpAny_Delete (wpAny_deleteEach_cons (wpAny_delete_Subscript (thn (ho.run pins s σ H _ I h) fun u s1 ⟨x, H1, I1, rx, q1⟩ => ?_)))
  refine thn (hi.run pins s1 σ H1 _ I1 q1) fun iv s2 ⟨y, H2, I2, ry, a, b, kvs, k, ex, ey, e, eb, l, q2⟩ => ?_
  subst ex ey
  cases rx
  cases ry
  exact dt_del hu I2 e eb l fun s3 I3 => wpAny_deleteEach_nil ⟨σ, _, I3, q2⟩

/-! ### {k: v}, k a tuple -/
def tDisp1 (tk tv : TE) : TE := fun σ H Q => ∀ p, H p = none → tk σ (upd H p (.dT [])) fun x H1 => tv σ H1 fun y H2 => ∃ (b : Addr) (k : List Key), x = .ref b ∧ H2 b = some (.tup (k.map kV)) ∧ H2 p = some (.dT []) ∧ Q (.ref p) (upd H2 p (.dT [(k, y)]))
theorem pe_disp1 {ke ve : Expr} {tk tv : TE} (hu : X.A.units + 1 < cLine) (hk : PE X ke tk) (hv : PE X ve tv) : PE X (.Dict [some ke] [ve] pos) (tDisp1 tk tv) := by
  refine ⟨fun pins s σ H Q I h => ?_⟩
  have I0 : Inv X pins σ (upd H s.heap.objs.size (.dT [])) { s with heap := s.heap.push { cls := .type "dict", data := .dict #[] } } :=
    I.laid (t' := s.toks) (fun _ _ q => Heap.get?_push_of_some _ q) (Nat.le_refl _) (dt_empty s.heap I.big)
  have PP : PPs X pos [some ke] [ve] [(tk, tv)] := pps_cons hk hv pps_nil
  have run := PP.run pins _ σ _ (fun ps H2 => match ps with
    | [(x, y)] => ∃ (b : Addr) (k : List Key), x = .ref b ∧ H2 b = some (.tup (k.map kV)) ∧ H2 s.heap.objs.size = some (.dT []) ∧ Q (.ref s.heap.objs.size) (upd H2 s.heap.objs.size (.dT [(k, y)]))
    | _ => False) I0 (h _ (I.hok.fresh (Nat.le_refl _)))
  have hn : (pairTrees [some ke] [ve] X.env pos).length = 1 := pairTrees_length [some ke] [ve] X.env pos rfl rfl
  rw [arm_eval_Dict, zip_pairTrees [some ke] [ve] X.env pos rfl rfl]
  generalize pairTrees [some ke] [ve] X.env pos = prs at run hn ⊢
  rw [dictDisplay_pairs prs (by intro z; rw [z] at hn; cases hn) (by omega)]
  refine wpAny_bind (wpAny_standAt (wpAny_bind ?_))
  refine wpAny_subDictH (knd := tupleKind (mixKind X.prog X.w)) (room0 hu) (by omega) (thn run fun vs s3 ⟨ps, H3, I3, rel, q3⟩ => ?_)
  rcases ps with _ | ⟨⟨x, y⟩, _ | ⟨p2, more⟩⟩
  · exact q3.elim
  · obtain ⟨b, k, ex, eb, ep, q⟩ := q3
    have ex : x = .ref b := ex
    subst ex
    rcases vs with _ | ⟨⟨u, r⟩, vs'⟩
    · exact nomatch rel
    · cases rel with
      | cons hr ht =>
        cases ht
        obtain ⟨rx, ry⟩ := hr
        obtain rfl : u = Value.ref b := rx
        have dq := dt_of I3.hok ep
        obtain ⟨z, hd, xs, rl, dd⟩ := dq
        have exs : xs = [] := by
          cases rl
          rfl
        subst exs
        refine ⟨[(k, b, r)], ⟨rfl, rfl, key_of I3.hok eb, trivial⟩, dd, fun h' tk dd' hs => ?_⟩
        obtain ⟨ob, es, epp, hq, h2, h3, h4, _, h5⟩ := dd'
        have e1 : storedAllH ([] : List (List Key × Addr × Value)) [(k, b, r)] = [(k, b, r)] := rfl
        rw [e1] at h4 h5
        have new : ObjOk X.prog X.w (upd H3 s.heap.objs.size (.dT [(k, y)])) h' s.heap.objs.size (.dT [(k, y)]) :=
          ⟨(by show 1 ≤ sizeLine; decide), hd, [(k, b, r)], .cons ⟨rfl, dt_stay ep _ _ eb, ry⟩ .nil, ob, es, epp, hq, h2, h3, h4, h5⟩
        exact wpAny_pure ⟨.ref s.heap.objs.size, upd H3 s.heap.objs.size (.dT [(k, y)]), d_write I3 (by rw [ep]; trivial) hs ⟨ob, hq⟩ new, rfl, q⟩
  · exact q3.elim
end
end Kx
set_option Elab.async false
set_option linter.all false
set_option maxRecDepth 100000
set_option maxHeartbeats 4000000
/-! K4: dict(pairs) with tuple keys. -/
namespace Kx
open PySem L2 PyProof.Rows PySem.Calls

def mergeT (kvs more : List (List Key × V)) : List (List Key × V) := more.foldl (fun acc kv => putK acc kv.1 kv.2) kvs
theorem length_mergeT : ∀ (more kvs : List (List Key × V)), (mergeT kvs more).length ≤ kvs.length + more.length
  | [], kvs => by show kvs.length ≤ kvs.length + 0; omega
  | p :: r, kvs => by
    have h1 := length_mergeT r (putK kvs p.1 p.2)
    have h2 := length_putK kvs p.1 p.2
    show (mergeT (putK kvs p.1 p.2) r).length ≤ _
    rw [List.length_cons]
    omega
theorem KT.merge {H : Hp} : ∀ {more : List (List Key × V)} {rs : List (List Key × Addr × Value)} {kvs : List (List Key × V)} {vs : List (List Key × Addr × Value)}, KT H more rs → KT H kvs vs → KT H (mergeT kvs more) (storedAllH vs rs) := by
  intro more rs kvs vs r
  induction r generalizing kvs vs with
  | nil => intro q; exact q
  | @cons p q ps qs h t ih =>
    intro r0
    obtain ⟨p1, p2⟩ := p
    obtain ⟨q1, q2, q3⟩ := q
    obtain ⟨h1, h2, h3⟩ := h
    have h1 : p1 = q1 := h1
    subst h1
    exact ih (r0.put p1 h2 h3)
/-- the pairs of a list: at p stands (key, value), the key a tuple at b -/
abbrev IsPrT (K : PySem.W.Frag) (H : Hp) (p : Addr) (kv : List Key × V) : Prop := ∃ b, SqT K H p [.ref b, kv.2] ∧ H b = some (.tup (kv.1.map kV))
def rDictT (K : PySem.W.Frag) : List V → Hp → VK → Prop := fun xs H Q => ∃ (a : Addr) (ps : List Addr) (kvs : List (List Key × V)), xs = [.ref a] ∧ SqL K H a (ps.map V.ref) ∧ Paired (IsPrT K H) ps kvs ∧ ∀ p, H p = none → Q (.ref p) (upd H p (.dT (mergeT [] kvs)))
section
variable {X : Cx}
theorem pairs_ofT {pins : List (Addr × Obj)} {σ : L2.St} {H : Hp} {s : Shared} (I : Inv X pins σ H s) : ∀ {ps : List Addr} {kvs : List (List Key × V)}, Paired (IsPrT X.K H) ps kvs →
    ∃ prs : List (List Key × Addr × Value), KT H kvs prs ∧ prs.length = ps.length ∧ ∀ (j : Nat) (q : List Key × Addr × Value), prs[j]? = some q → ∃ T, ps[j]? = some T ∧ s.heap.IsTuple T #[.ref q.2.1, q.2.2] ∧ (tupleKind (mixKind X.prog X.w)).is s.heap q.1 q.2.1
  | _, _, .nil => ⟨[], .nil, rfl, fun j q e => by simp at e⟩
  | _, _, .cons (a := p) (b := kv) h t => by
    obtain ⟨prs, r, hl, hp⟩ := pairs_ofT I t
    obtain ⟨b, h1, h2⟩ := h
    obtain ⟨its, rv, ht, _⟩ := I.tuple h1
    obtain ⟨u, y, ei, ru, ry⟩ := vals2 rv
    subst ei
    cases ru
    refine ⟨(kv.1, b, y) :: prs, .cons ⟨rfl, h2, ry⟩ r, by rw [List.length_cons, List.length_cons, hl], fun j q e => ?_⟩
    cases j with
    | zero =>
      have e' : (kv.1, b, y) = q := Option.some.inj e
      subst e'
      obtain ⟨o, ho, hc, n, hd⟩ := ht
      exact ⟨p, rfl, ⟨o, ho, hc, n, hd⟩, key_of I.hok h2⟩
    | succ j =>
      obtain ⟨T, e1, e2, e3⟩ := hp j q (by simpa using e)
      exact ⟨T, by simpa using e1, e2, e3⟩
theorem call_dictT (hcalm : X.calm = true) (hu : X.A.units + 8 < cLine) : CallR X (.type "dict") (rDictT X.K) := by
  intro pins s σ H xs us Q I r q
  obtain ⟨a, ps, kvs, ex, hq, hp, q⟩ := q
  subst ex
  obtain ⟨u, eu, rx⟩ := vals1 r
  subst eu
  cases rx
  obtain ⟨its, rv, pl, hz⟩ := I.list hq
  have ei := refs_at rv
  subst ei
  rw [List.length_map] at hz
  obtain ⟨prs, rel, hl, hpr⟩ := pairs_ofT I hp
  obtain ⟨o, n, ho, hc, hd, hdat⟩ := pl
  have P := PairArg.list (prog := X.prog) (w := X.w) a (ps.map Value.ref).toArray (fun j => ps[j]?.getD 0) (prs.map fun q => (Value.ref q.2.1, q.2.2))
  have hpl : (prs.map fun q => (Value.ref q.2.1, q.2.2)).length = prs.length := List.length_map _
  refine call_dict_pairsH (knd := tupleKind (mixKind X.prog X.w)) (ps := prs) P (I.ok.hd hcalm) (room0 (by show X.A.units + 1 + 1 + 1 < cLine; omega)) ?_ ?_ ?_ (by rw [hpl, hl]; exact hz) fun h' tk hd' k => ?_
  · refine ⟨⟨o, n, ho, hc, hd, hdat⟩, by simp [hl], fun j k v e => ?_⟩
    rw [List.getElem?_map] at e
    obtain ⟨q', e1, e2⟩ := Option.map_eq_some_iff.mp e
    cases e2
    obtain ⟨T, t1, t2, _⟩ := hpr j q' e1
    exact ⟨by simp [t1], .inl (by simpa [t1] using t2)⟩
  · refine ⟨hpl.symm, fun i key v e => ?_⟩
    have e : (prs.map fun q => (Value.ref q.2.1, q.2.2))[i]? = some (key, v) := e
    rw [List.getElem?_map] at e
    obtain ⟨q', e1, e2⟩ := Option.map_eq_some_iff.mp e
    cases e2
    exact ⟨q'.1, q'.2.1, e1, rfl⟩
  · intro h2 hk x hx
    obtain ⟨j, hj⟩ := List.getElem?_of_mem hx
    obtain ⟨T, _, _, t3⟩ := hpr j x hj
    exact tupleKind_stays.stays (fun b o vs n e _ => hk b o (Nat.ne_of_lt (Heap.lt_size e)) (fun z => nomatch z) e) t3
  · have hm : (s.heap.objs.size == sysModules) = false := beq_eq_false_iff_ne.mpr (Nat.ne_of_gt I.big)
    have hn : H s.heap.objs.size = none := I.hok.fresh (Nat.le_refl _)
    have hlen : (mergeT [] kvs).length ≤ sizeLine := by
      refine Nat.le_trans (length_mergeT kvs []) ?_
      rw [List.length_nil, Nat.zero_add, Paired.length rel, hl]
      exact hz
    obtain ⟨ob, es, ep, hq, h2, h3, h4, _, h5⟩ := hd'
    have new : ObjOk X.prog X.w (upd H s.heap.objs.size (.dT (mergeT [] kvs))) h' s.heap.objs.size (.dT (mergeT [] kvs)) :=
      ⟨hlen, hm, _, (KT.merge rel .nil).keeps (fun c ys ec => by rw [upd_ne (ne_of_none ec hn)]; exact ec), ob, es, ep, hq, h2, h3, h4, h5⟩
    exact ⟨.ref s.heap.objs.size, _, I.laid (t' := tk) (fun b o e => k b o (fun z => nomatch z) e) (Nat.le_refl _) new, rfl, q _ hn⟩
end
end Kx
set_option Elab.async false
set_option linter.all false
set_option maxRecDepth 100000
set_option maxHeartbeats 4000000
/-! K5: the views of a dict and their lists; len and truth of dicts with tuple keys. -/
namespace Kx
open PySem L2 PyProof.Rows PySem.Calls

/-- the view d.keys(), d.values() at p -/
def vwK (p d : Addr) : HO := .ext fun h => PySem.W.KdlKeysView h p d
def vwV (p d : Addr) : HO := .ext fun h => h.IsValuesView p d
def rVw (vw : Addr → Addr → HO) : V → List V → Hp → VK → Prop := fun x xs H Q => ∃ a, x = .ref a ∧ xs = [] ∧ ((∃ kvs, H a = some (.dK kvs)) ∨ ∃ kvs, H a = some (.dT kvs)) ∧ ∀ p, H p = none → Q (.ref p) (upd H p (vw p a))
section
variable {X : Cx}
theorem raw_of {pins : List (Addr × Obj)} {σ : L2.St} {H : Hp} {s : Shared} {a : Addr} (I : Inv X pins σ H s) (h : (∃ kvs, H a = some (.dK kvs)) ∨ ∃ kvs, H a = some (.dT kvs)) : (a == sysModules) = false ∧ ∃ es ep, s.heap.DictRaw a es ep := by
  rcases h with ⟨kvs, h⟩ | ⟨kvs, h⟩
  · obtain ⟨_, hd, vs, _, dd⟩ := dk_of I.hok h
    obtain ⟨es, ep, r, _⟩ := dd.raw
    exact ⟨hd, es, ep, r⟩
  · obtain ⟨_, hd, xs, _, dd⟩ := dt_of I.hok h
    obtain ⟨es, ep, r, _⟩ := dd.raw
    exact ⟨hd, es, ep, r⟩
theorem mt_keysV : MtR X "dict.keys" (rVw vwK) := by
  intro pins s σ H x xs v us Q I rx rxs h
  obtain ⟨a, rfl, rfl, ha, q⟩ := h
  cases rx
  cases rxs
  obtain ⟨hd, es, ep, r⟩ := raw_of I ha
  have hf : H s.heap.objs.size = none := I.hok.fresh (Nat.le_refl _)
  refine call_meetsIn PySem.F.slot_dict_keys r.typeIs PySem.F.entry_dict_keys (PySem.F.args_dict_keys_1 _) (meets_dict_keys_raw a hd) ⟨⟨es, ep, r⟩, ?_⟩
  refine ⟨.ref s.heap.objs.size, upd H s.heap.objs.size (vwK s.heap.objs.size a), I.laid (t' := s.toks) (fun b u e => Heap.get?_push_of_some _ e) (Nat.le_refl _) ?_, rfl, q _ hf⟩
  exact ⟨⟨_, Heap.get?_push_size _ rfl, rfl, rfl⟩, ⟨_, Heap.get?_push_size _ rfl⟩, fun h1 h2 x k => let ⟨o, ho, r⟩ := x; ⟨o, k o ho, r⟩⟩
theorem mt_valuesV : MtR X "dict.values" (rVw vwV) := by
  intro pins s σ H x xs v us Q I rx rxs h
  obtain ⟨a, rfl, rfl, ha, q⟩ := h
  cases rx
  cases rxs
  obtain ⟨hd, es, ep, r⟩ := raw_of I ha
  have hf : H s.heap.objs.size = none := I.hok.fresh (Nat.le_refl _)
  refine call_meetsIn PySem.F.slot_dict_values r.typeIs PySem.F.entry_dict_values (PySem.F.args_dict_values_1 _) (meets_dict_values_raw a hd) ⟨⟨es, ep, r⟩, ?_⟩
  refine ⟨.ref s.heap.objs.size, upd H s.heap.objs.size (vwV s.heap.objs.size a), I.laid (t' := s.toks) (fun b u e => Heap.get?_push_of_some _ e) (Nat.le_refl _) ?_, rfl, q _ hf⟩
  exact ⟨⟨_, Heap.get?_push_size _ rfl, rfl, rfl⟩, ⟨_, Heap.get?_push_size _ rfl⟩, fun h1 h2 x k => let ⟨o, ho, r⟩ := x; ⟨o, k o ho, r⟩⟩

/-- what a view gives, item by item: from a source the values xs -/
structure Src (X : Cx) (H : Hp) (s : Shared) (r : Addr) (xs : List V) : Prop where
  src : ∃ (T : String) (d : Addr) (P : Nat → Value → Prop) (OK : Heap → Prop), PySem.W.KdlSrc X.prog X.w T r d xs.length P OK ∧ OK s.heap ∧ ∀ i v x, P i v → xs[i]? = some x → RelV x v
  fit : xs.length ≤ sizeLine
theorem Src.vals {P : Nat → Value → Prop} {xs : List V} (h : ∀ i v x, P i v → xs[i]? = some x → RelV x v) {acc : Array Value} (it : ItemsOf P acc xs.length) : Vals xs acc.toList :=
  vals_of_at (by rw [← it.1]; simp) fun j x u h1 h2 => h j u x (it.2 j u (by rw [← Array.getElem?_toList]; exact h2)) h1
theorem src_list {pins : List (Addr × Obj)} {σ : L2.St} {H : Hp} {s : Shared} {r : Addr} {xs : List V} {Q : VK} (hc : X.calm = true) (I : Inv X pins σ H s) (S : Src X H s r xs) (q : ∀ p, H p = none → Q (.ref p) (upd H p (.lst xs))) :
    wpAny (model X.prog X.w) X.A (call (.type "list") [.ref r]) (EP X pins σ Q) X.xe s := by
  obtain ⟨⟨T, d, P, OK, K, ok, hP⟩, hz⟩ := S
  refine PySem.W.kdl_call K (I.ok.hd hc) ok hz fun h' tk acc' c' kp e it => ?_
  refine ⟨.ref s.heap.objs.size, upd H s.heap.objs.size (.lst xs), I.laid (t' := tk) kp (Nat.le_refl _) ?_, rfl, q _ (I.hok.fresh (Nat.le_refl _))⟩
  exact ⟨hz, acc'.toList, c', Src.vals hP it, by rw [Array.toArray_toList]; exact e⟩
theorem codeTup {prog : Program} {w : World} {A : Around} {E : Value → Shared → Prop} {s : Shared} {T : String} {r d : Addr} {n : Nat} {P : Nat → Value → Prop} {OK : Heap → Prop} {Q₁ : Value → Shared → Prop} (K : PySem.W.KdlSrc prog w T r d n P OK) (hh : A.handled = none) (ok : OK s.heap) (hn : n ≤ sizeLine)
    (hT : (Value.type T == Value.type "tuple") = false)
    (h : ∀ (h' : Heap) (tk : Nat) (acc : Array Value), (∀ b o, s.heap.get? b = some o → h'.get? b = some o) → ItemsOf P acc n → Q₁ (.ref h'.objs.size) { s with heap := h'.push { cls := .type "tuple", data := .seq acc }, toks := tk }) :
    codeAny (model prog w) A (.call (.builtin "tuple.__new__") ⟨[.type "tuple", .ref r], []⟩) (wants Q₁ E) s := by
  refine codeAny_of_tree ?_
  show wpAny _ A.in1 (do checkBuiltinCall "tuple.__new__" ⟨[.type "tuple", .ref r], []⟩; again (.builtin "tuple.__new__" ⟨[.type "tuple", .ref r], []⟩)) _ _ s
  refine wpAny_bind (wpAny_of_eq (PySem.F.newCall_tuple_1 _) (wpAny_pure ⟨plainId_quiet PySem.F.plain_tuple_new _, codeAny_builtin PySem.F.entry_tuple_new ?_⟩))
  rw [Around.under_plainId PySem.F.plain_tuple_new _]
  have hsub := sub_tuple_self
  have hinit := init_tuple_lookup
  have hmh := madeHere_tuple
  have hTI : s.TypeIs (.ref r) T := K.type s ok
  have hh1 : A.in1.handled = none := hh
  have hb : (Value.type T == Value.type "tuple") = false := hT
  have col : ∀ {R : List Value → Shared → Prop} {E : Value → Shared → Prop}, (∀ (h' : Heap) (tk : Nat) (acc : Array Value), (∀ b o, s.heap.get? b = some o → h'.get? b = some o) → ItemsOf P acc n → R acc.toList { s with heap := h', toks := tk }) → wpAny (model prog w) A.in1 (collect (.ref r)) R E s :=
    fun {R E} q => PySem.W.kdu_collect (A := A.in1) (E := E) K hh1 ok hn fun h' tk acc kp it => q h' tk acc kp it
  wp_walk using wpAny_typeOf hTI, col
  intro h' tk acc hk hacc
  show wpAny _ _ (Builtin.Tuple.tupleExact acc.toList.toArray >>= fun v => ret v) _ _ _
  unfold Builtin.Tuple.tupleExact
  refine wpAny_bind (wpAny_newObj_type ?_ (by show acc.toList.toArray.size ≤ sizeLine; simp only [Array.toArray_toList]; rw [hacc.1]; exact hn))
  refine wpAny_pure ?_
  have e : acc.toList.toArray = acc := by simp
  rw [e]
  exact h h' tk acc hk hacc
theorem src_tup {pins : List (Addr × Obj)} {σ : L2.St} {H : Hp} {s : Shared} {r : Addr} {xs : List V} {Q : VK} {T : String} {d : Addr} {P : Nat → Value → Prop} {OK : Heap → Prop} (hc : X.calm = true) (I : Inv X pins σ H s) (K : PySem.W.KdlSrc X.prog X.w T r d xs.length P OK) (ok : OK s.heap)
    (hP : ∀ i v x, P i v → xs[i]? = some x → RelV x v) (hz : xs.length ≤ sizeLine) (hT : (Value.type T == Value.type "tuple") = false) (q : ∀ p, H p = none → Q (.ref p) (upd H p (.tup xs))) :
    wpAny (model X.prog X.w) X.A (call (.type "tuple") [.ref r]) (EP X pins σ Q) X.xe s := by
  refine callType_codes (Q₁ := fun obj s₁ => s₁.TypeIs obj "tuple" ∧ EP X pins σ Q obj s₁) PySem.F.called_tuple (PySem.F.typeCall_tuple_1 _) PySem.F.entry_object_init
    (codeTup (A := X.A.in1) K (I.ok.hd hc) ok hz hT fun h' tk acc hk hacc => ⟨⟨_, Heap.get?_push_size _ rfl, rfl⟩, ?_⟩) fun obj s₁ h₁ => ?_
  · have I1 : Inv X pins σ H { s with heap := h', toks := tk } := I.kept hk
    refine ⟨.ref h'.objs.size, upd H h'.objs.size (.tup xs), I1.laid (t' := tk) (fun b o e => Heap.get?_push_of_some _ e) (Nat.le_refl _) ?_, rfl, q _ (I1.hok.fresh (Nat.le_refl _))⟩
    exact ⟨hz, acc.toList, Src.vals hP hacc, ⟨_, Heap.get?_push_size _ rfl, rfl, 0, by simp⟩⟩
  · exact ⟨h₁.1, PySem.F.args_object_init_2 obj _, object_init_meets PySem.F.called_tuple.init.lookup PySem.F.called_tuple.made (by decide) X.prog X.w X.A.in1 _ s₁ ⟨h₁.1, rfl, h₁.2⟩⟩

/-! the views as sources -/
theorem pd_get {α β : Type} {R : α → β → Prop} {xs : List α} {ys : List β} (r : Paired R xs ys) : ∀ {i : Nat} {x : α}, xs[i]? = some x → ∃ y, ys[i]? = some y ∧ R x y := by
  induction r with
  | nil => intro i x h; simp at h
  | @cons a b as bs h t ih =>
    intro i x hx
    cases i with
    | zero => simp at hx; subst hx; exact ⟨b, rfl, h⟩
    | succ i => simpa using ih (by simpa using hx)
theorem kK {prog : Program} {w : World} {r d : Addr} {es : Array DictEntry} {ep n : Nat} (e : n = es.size) : PySem.W.KdlSrc prog w "dict_keys" r d n (fun i v => ∃ hi : i < es.size, v = es[i].key) (fun h => PySem.W.KdlKeysView h r d ∧ h.DictRaw d es ep) := by
  subst e
  exact KdlSrc.rawKeys
theorem kV' {prog : Program} {w : World} {r d : Addr} {es : Array DictEntry} {ep n : Nat} (e : n = es.size) : PySem.W.KdlSrc prog w "dict_values" r d n (fun i v => ∃ hi : i < es.size, v = es[i].val) (fun h => h.IsValuesView r d ∧ h.DictRaw d es ep) := by
  subst e
  exact KdlSrc.rawValues
theorem vw_keysK {pins : List (Addr × Obj)} {σ : L2.St} {H : Hp} {s : Shared} {p a : Addr} {kvs : List (Key × V)} (I : Inv X pins σ H s) (hp : H p = some (vwK p a)) (ha : H a = some (.dK kvs)) : Src X H s p (kvs.map fun kv => kV kv.1) := by
  obtain ⟨z, hd, vs, rel, dd⟩ := dk_of I.hok ha
  obtain ⟨es, ep, r, h1, h2⟩ := dd.raw
  have view : PySem.W.KdlKeysView s.heap p a := (show ObjOk X.prog X.w H s.heap p (vwK p a) from I.hok p _ hp).1
  have hl : (kvs.map fun kv => kV kv.1).length = es.size := by rw [List.length_map, h1, Paired.length rel]
  refine ⟨⟨"dict_keys", a, _, _, kK (ep := ep) hl, ⟨view, r⟩, fun i v x hv hx => ?_⟩, by rw [List.length_map]; exact z⟩
  obtain ⟨hi, rfl⟩ := hv
  obtain ⟨kv, e1, e2⟩ : ∃ kv, kvs[i]? = some kv ∧ kV kv.1 = x := by
    rw [List.getElem?_map] at hx
    obtain ⟨kv, h, h'⟩ := Option.map_eq_some_iff.mp hx
    exact ⟨kv, h, h'⟩
  subst e2
  obtain ⟨⟨k, u⟩, hu, r1⟩ := pd_get rel e1
  obtain ⟨q1, q2⟩ := h2 i hi k u hu
  have : kv.1 = k := r1.1
  rw [this]
  exact keyIs_rel q1
theorem vw_valsK {pins : List (Addr × Obj)} {σ : L2.St} {H : Hp} {s : Shared} {p a : Addr} {kvs : List (Key × V)} (I : Inv X pins σ H s) (hp : H p = some (vwV p a)) (ha : H a = some (.dK kvs)) :
    ∃ (es : Array DictEntry) (ep : Nat), PySem.W.KdlSrc X.prog X.w "dict_values" p a (kvs.map (·.2)).length (fun i v => ∃ hi : i < es.size, v = es[i].val) (fun h => h.IsValuesView p a ∧ h.DictRaw a es ep) ∧ (s.heap.IsValuesView p a ∧ s.heap.DictRaw a es ep) ∧
      (∀ i v x, (∃ hi : i < es.size, v = es[i].val) → (kvs.map (·.2))[i]? = some x → RelV x v) ∧ (kvs.map (·.2)).length ≤ sizeLine := by
  obtain ⟨z, hd, vs, rel, dd⟩ := dk_of I.hok ha
  obtain ⟨es, ep, r, h1, h2⟩ := dd.raw
  have view : s.heap.IsValuesView p a := (show ObjOk X.prog X.w H s.heap p (vwV p a) from I.hok p _ hp).1
  have hl : (kvs.map (·.2)).length = es.size := by rw [List.length_map, h1, Paired.length rel]
  refine ⟨es, ep, kV' hl, ⟨view, r⟩, fun i v x hv hx => ?_, by rw [List.length_map]; exact z⟩
  obtain ⟨hi, rfl⟩ := hv
  obtain ⟨kv, e1, e2⟩ : ∃ kv, kvs[i]? = some kv ∧ kv.2 = x := by
    rw [List.getElem?_map] at hx
    obtain ⟨kv, h, h'⟩ := Option.map_eq_some_iff.mp hx
    exact ⟨kv, h, h'⟩
  subst e2
  obtain ⟨⟨k, u⟩, hu, r1⟩ := pd_get rel e1
  obtain ⟨q1, q2⟩ := h2 i hi k u hu
  rw [q2]
  exact r1.2
theorem vw_keysT {pins : List (Addr × Obj)} {σ : L2.St} {H : Hp} {s : Shared} {p a : Addr} {kvs : List (List Key × V)} (I : Inv X pins σ H s) (hp : H p = some (vwK p a)) (ha : H a = some (.dT kvs)) : ∃ bs, IsKeys H kvs bs ∧ Src X H s p (bs.map V.ref) := by
  obtain ⟨z, hd, xs, rel, dd⟩ := dt_of I.hok ha
  obtain ⟨es, ep, r, h1, h2⟩ := dd.raw
  have view : PySem.W.KdlKeysView s.heap p a := (show ObjOk X.prog X.w H s.heap p (vwK p a) from I.hok p _ hp).1
  have hl : ((xs.map fun x => x.2.1).map V.ref).length = es.size := by rw [List.length_map, List.length_map, h1]
  refine ⟨_, isKeys_of rel, ⟨⟨"dict_keys", a, _, _, kK (ep := ep) hl, ⟨view, r⟩, fun i v x hv hx => ?_⟩, by rw [List.length_map, List.length_map, ← Paired.length rel]; exact z⟩⟩
  obtain ⟨hi, rfl⟩ := hv
  obtain ⟨y, hy, k1, _, _⟩ := h2 i hi
  rw [List.getElem?_map, List.getElem?_map, hy] at hx
  cases hx
  rw [k1]
  rfl
def rLstView : List V → Hp → VK → Prop := fun vs H Q => ∃ p a, vs = [.ref p] ∧ ((∃ kvs, H p = some (vwK p a) ∧ H a = some (.dK kvs) ∧ ∀ q, H q = none → Q (.ref q) (upd H q (.lst (kvs.map fun kv => kV kv.1)))) ∨
  (∃ kvs, H p = some (vwV p a) ∧ H a = some (.dK kvs) ∧ ∀ q, H q = none → Q (.ref q) (upd H q (.lst (kvs.map (·.2))))) ∨
  ∃ kvs, H p = some (vwK p a) ∧ H a = some (.dT kvs) ∧ ∀ bs q, IsKeys H kvs bs → H q = none → Q (.ref q) (upd H q (.lst (bs.map V.ref))))
theorem call_listView (hc : X.calm = true) : CallR X (.type "list") rLstView := by
  intro pins s σ H xs us Q I r h
  obtain ⟨p, a, rfl, h⟩ := h
  obtain ⟨u, rfl, rx⟩ := vals1 r
  obtain rfl : u = Value.ref p := rx
  rcases h with ⟨kvs, hp, ha, q⟩ | ⟨kvs, hp, ha, q⟩ | ⟨kvs, hp, ha, q⟩
  · exact src_list hc I (vw_keysK I hp ha) q
  · obtain ⟨es, ep, K, ok, hP, hz⟩ := vw_valsK I hp ha
    exact src_list hc I ⟨⟨_, _, _, _, K, ok, hP⟩, hz⟩ q
  · obtain ⟨bs, hb, S⟩ := vw_keysT I hp ha
    exact src_list hc I S fun q' hq => q bs q' hb hq
def rTupView : List V → Hp → VK → Prop := fun vs H Q => ∃ p a kvs, vs = [.ref p] ∧ H p = some (vwV p a) ∧ H a = some (.dK kvs) ∧ ∀ q, H q = none → Q (.ref q) (upd H q (.tup (kvs.map (·.2))))
theorem call_tupView (hc : X.calm = true) : CallR X (.type "tuple") rTupView := by
  intro pins s σ H xs us Q I r h
  obtain ⟨p, a, kvs, rfl, hp, ha, q⟩ := h
  obtain ⟨u, rfl, rx⟩ := vals1 r
  obtain rfl : u = Value.ref p := rx
  obtain ⟨es, ep, K, ok, hP, hz⟩ := vw_valsK I hp ha
  exact src_tup hc I K ok hP hz (by decide) q

/-! ### truth of a dict with tuple keys -/
def tTruT (ta : TE) : TT := fun σ H Q => ta σ H fun x H1 => ∃ a kvs, x = .ref a ∧ H1 a = some (.dT kvs) ∧ Q (!kvs.isEmpty) H1
theorem truthy_dH {prog : Program} {w : World} {K : Type} [DecidableEq K] {knd : HeapKind prog w K} {A : Around} {E : Value → Shared → Prop} {s : Shared} {d : Addr} {xs : List (K × Addr × Value)} {Q : Bool → Shared → Prop} (hd : (d == sysModules) = false) (hm : s.heap.DictOfH knd d xs) (hfit : (xs.length : Int) < 2 ^ 63)
    (h : Q (!xs.isEmpty) { s with toks := s.toks + 1 + 1 }) : wpAny (model prog w) A (truthy (.ref d)) Q E s := by
  have hne : ((xs.length : Int) != 0) = !xs.isEmpty := by cases xs <;> simp <;> omega
  have key : wpAny (model prog w) A (runValue (.builtin "len" ⟨[.ref d], []⟩)) (fun r s' => r = .int xs.length (s.toks + 1) ∧ Q (!xs.isEmpty) s') E s := by
    refine wpAny_runValue (codeAny_builtin entry_len ?_)
    rw [Around.under_plainId plain_len _]
    refine wpAny_mono (wpAny_len_body_dictH (Q := fun r s' => r = .int xs.length (s.toks + 1) ∧ Q (!xs.isEmpty) s') hd hm hfit ⟨rfl, h⟩) (fun fin s' h' => ?_) fun _ _ e => e
    obtain ⟨r, rfl, hq⟩ := h'
    exact hq
  unfold truthy
  first
    | refine wpAny_bind (wpAny_callSpecial?_none (name := Str.ofString "__bool__") hm.typeIs noBool_dict ?_)
    | refine wpAny_bind (wpAny_pure (wpAny_bind (wpAny_callSpecial?_none (name := Str.ofString "__bool__") hm.typeIs noBool_dict ?_)))
  first
    | refine wpAny_bind (wpAny_specialOf (name := Str.ofString "__len__") hm.typeIs PySem.F.slot_dict_len.lookup ?_)
    | refine wpAny_bind (wpAny_pure (wpAny_bind (wpAny_specialOf (name := Str.ofString "__len__") hm.typeIs PySem.F.slot_dict_len.lookup ?_)))
  have fin : ∀ (r : Value) (s' : Shared), (r = .int xs.length (s.toks + 1) ∧ Q (!xs.isEmpty) s') → _ := fun r s' h' => h'
  first
    | exact wpAny_bind (wpAny_mono key (fun r s' h' => by obtain ⟨rfl, hq⟩ := h'; exact wpAny_pure (hne ▸ hq)) fun _ _ e => e)
    | exact wpAny_bind (wpAny_pure (wpAny_bind (wpAny_mono key (fun r s' h' => by obtain ⟨rfl, hq⟩ := h'; exact wpAny_pure (hne ▸ hq)) fun _ _ e => e)))
theorem pt_truT {a : Expr} {ta : TE} (ha : PE X a ta) (he : ∀ whole, isTrue a X.env whole = (do let v ← whole; standAt a.pos; holding [v] (truthy v)) := by intro _; rfl) : PT X a (tTruT ta) := by
  refine ⟨fun pins s σ H Q I h => ?_⟩
  refine isTrue_plain (thn (ha.run pins s σ H _ I h) fun v s1 ⟨x, H1, I1, r1, a', kvs, ex, hk, q⟩ => ?_) (he _)
  subst ex
  cases r1
  obtain ⟨z, hd, xs, rel, dd⟩ := dt_of I1.hok hk
  have hl : kvs.length = xs.length := Paired.length rel
  have hz := line63
  refine truthy_dH hd dd (by omega) ⟨H1, I1.tok _, ?_⟩
  have : (!xs.isEmpty) = !kvs.isEmpty := by cases rel <;> rfl
  rw [this]
  exact q
end
end Kx
set_option Elab.async false
set_option linter.all false
set_option maxRecDepth 100000
set_option maxHeartbeats 4000000
/-! K6: zip of a list or a tuple with a list or a tuple; walks over a list or a tuple. -/
namespace Kx
open PySem L2 PyProof.Rows PySem.Calls

/-- a list, a tuple (k: a tuple) -/
def SqB (K : PySem.W.Frag) (k : Bool) (H : Hp) (a : Addr) (xs : List V) : Prop := (k = true ∧ SqT K H a xs) ∨ (k = false ∧ SqL K H a xs)
def RawB (k : Bool) (h : Heap) (a : Addr) (its : Array Value) : Prop := (k = true ∧ h.IsTuple a its) ∨ (k = false ∧ h.IsList a its)
def RitB (k : Bool) (h : Heap) (i a : Addr) (n : Nat) : Prop := (k = true ∧ h.IsTupleIter i a n) ∨ (k = false ∧ h.IsListIter i a n)
theorem SqB.raw {X : Cx} {pins : List (Addr × Obj)} {σ : L2.St} {H : Hp} {s : Shared} {k : Bool} {a : Addr} {xs : List V} (I : Inv X pins σ H s) (h : SqB X.K k H a xs) : ∃ its, Vals xs its ∧ RawB k s.heap a its.toArray ∧ xs.length ≤ sizeLine := by
  rcases h with ⟨e, h⟩ | ⟨e, h⟩
  · obtain ⟨its, r, p, z⟩ := I.tuple h
    obtain ⟨o, ho, hc, n, hd⟩ := p
    exact ⟨its, r, .inl ⟨e, o, ho, hc, n, hd⟩, z⟩
  · obtain ⟨its, r, p, z⟩ := I.list h
    exact ⟨its, r, .inr ⟨e, p.isList⟩, z⟩
theorem SqB.inj {X : Cx} {pins : List (Addr × Obj)} {σ : L2.St} {H : Hp} {s : Shared} {k : Bool} {a : Addr} {xs ys : List V} (I : Inv X pins σ H s) (h : SqB X.K k H a xs) (g : SqB X.K k H a ys) : xs = ys := by
  rcases h with ⟨e, h⟩ | ⟨e, h⟩
  · rcases g with ⟨_, g⟩ | ⟨e', _⟩
    · exact I.tuple_inj h g
    · rw [e] at e'
      cases e'
  · rcases g with ⟨e', _⟩ | ⟨_, g⟩
    · rw [e] at e'
      cases e'
    · exact I.list_inj h g
theorem RawB.lt {k : Bool} {h : Heap} {a : Addr} {its : Array Value} (r : RawB k h a its) : a < h.objs.size := by
  rcases r with ⟨_, o, ho, _⟩ | ⟨_, o, ho, _⟩
  · exact Heap.lt_size ho
  · exact Heap.lt_size ho
theorem RitB.at {k : Bool} {h h' : Heap} {i a : Addr} {n : Nat} (r : RitB k h i a n) (e : ∀ o, h.get? i = some o → h'.get? i = some o) : RitB k h' i a n := by
  rcases r with ⟨q, r⟩ | ⟨q, r⟩
  · exact .inl ⟨q, r.at e⟩
  · exact .inr ⟨q, r.at e⟩
theorem RitB.obj {k : Bool} {h : Heap} {i a : Addr} {n : Nat} (r : RitB k h i a n) : ∃ o, h.get? i = some o ∧ ∀ v, o.data ≠ .cell v := by
  rcases r with ⟨_, o, ho, _, hd⟩ | ⟨_, o, ho, _, hd⟩
  · exact ⟨o, ho, fun v q => by rw [hd] at q; cases q⟩
  · exact ⟨o, ho, fun v q => by rw [hd] at q; cases q⟩
theorem drawsB {k : Bool} {prog : Program} {w : World} {A : Around} (hh : A.handled = none) (i a : Addr) (hne : a ≠ i) (its : Array Value) :
    Draws prog w A i [i, a] its.size (fun j v => its[j]? = some v) (fun j h => RitB k h i a j ∧ RawB k h a its) := by
  cases k with
  | true =>
    have D := Draws.tuple (prog := prog) (w := w) (A := A) hh i a hne its
    have e : (fun j h => RitB true h i a j ∧ RawB true h a its) = fun j h => h.IsTupleIter i a j ∧ h.IsTuple a its := by
      funext j h
      refine propext ⟨fun ⟨p, q⟩ => ⟨p.elim (fun x => x.2) (fun x => nomatch x.1), q.elim (fun x => x.2) fun x => nomatch x.1⟩, fun ⟨p, q⟩ => ⟨.inl ⟨rfl, p⟩, .inl ⟨rfl, q⟩⟩⟩
    rw [e]
    exact D
  | false =>
    have D := Draws.list (prog := prog) (w := w) (A := A) hh i a hne its
    have e : (fun j h => RitB false h i a j ∧ RawB false h a its) = fun j h => h.IsListIter i a j ∧ h.IsList a its := by
      funext j h
      refine propext ⟨fun ⟨p, q⟩ => ⟨p.elim (fun x => nomatch x.1) (fun x => x.2), q.elim (fun x => nomatch x.1) fun x => x.2⟩, fun ⟨p, q⟩ => ⟨.inr ⟨rfl, p⟩, .inr ⟨rfl, q⟩⟩⟩
    rw [e]
    exact D
/-- pairs of the items of both -/
def ItzB (K : PySem.W.Frag) (k1 k2 : Bool) (a b : Addr) : It :=
  ⟨fun i H => ∃ (xs ys : List V) (x y : V), SqB K k1 H a xs ∧ SqB K k2 H b ys ∧ xs[i]? = some x ∧ ys[i]? = some y,
    fun i H v H' => ∃ T x y, v = .ref T ∧ H T = none ∧ H' = upd H T (.tup [x, y]) ∧ (∀ xs, SqB K k1 H a xs → xs[i]? = some x) ∧ ∀ ys, SqB K k2 H b ys → ys[i]? = some y,
    fun i H => ∃ xs ys : List V, SqB K k1 H a xs ∧ SqB K k2 H b ys ∧ i = min xs.length ys.length⟩
abbrev tnZ (k1 k2 : Bool) (z TI TO i1 i2 a b : Addr) (i : Nat) (h : Heap) : Prop := IsZip h z TI TO .none ∧ IsTupOf2 h TI (.ref i1) (.ref i2) ∧ (∃ a1 a2, IsTupOf2 h TO a1 a2) ∧ RitB k1 h i1 a i ∧ RitB k2 h i2 b i
theorem five {z TI TO i1 i2 c : Addr} (h : c ∈ [z, TI, TO, i1, i2]) : c = z ∨ c = TI ∨ c = TO ∨ c = i1 ∨ c = i2 := by simpa using h
theorem tnZ.obj {k1 k2 : Bool} {z TI TO i1 i2 a b : Addr} {i : Nat} {h : Heap} (st : tnZ k1 k2 z TI TO i1 i2 a b i h) : ∀ c ∈ [z, TI, TO, i1, i2], ∃ o, h.get? c = some o ∧ ∀ v, o.data ≠ .cell v := fun c hc => by
  obtain ⟨hz, hI, ⟨x, y, hO⟩, r1, r2⟩ := st
  rcases five hc with q | q | q | q | q <;> subst q
  · exact ⟨_, hz, fun v q => nomatch q⟩
  · exact ⟨_, hI, fun v q => nomatch q⟩
  · exact ⟨_, hO, fun v q => nomatch q⟩
  · exact r1.obj
  · exact r2.obj
theorem tnZ.keep {k1 k2 : Bool} {z TI TO i1 i2 a b : Addr} {i : Nat} {h h' : Heap} (st : tnZ k1 k2 z TI TO i1 i2 a b i h) (k : ∀ c ∈ [z, TI, TO, i1, i2], ∀ o, h.get? c = some o → h'.get? c = some o) : tnZ k1 k2 z TI TO i1 i2 a b i h' := by
  obtain ⟨hz, hI, ⟨x, y, hO⟩, r1, r2⟩ := st
  exact ⟨k z (by simp) _ hz, k TI (by simp) _ hI, ⟨x, y, k TO (by simp) _ hO⟩, r1.at fun o q => k i1 (by simp) o q, r2.at fun o q => k i2 (by simp) o q⟩
theorem turn_zipB {P : Program} {w : World} {K : PySem.W.Frag} {elts : List Expr} {kk : Nat} {tpos : Pos} {k1 k2 : Bool} {a b z TI TO i1 i2 : Addr} (D : ZipSep2 z TI TO i1 i2 [i1, a] [i2, b]) (n1 : a ≠ i1) (n2 : b ≠ i2) :
    Turn P w K (.Tuple elts kk tpos) (ItzB K k1 k2 a b) [z, TI, TO, i1, i2] z (tnZ k1 k2 z TI TO i1 i2 a b) where
  mem := by simp
  obj := fun i h st => st.obj
  keep := fun i h h' st k => st.keep k
  item := by
    intro X hP hw hK hc i pins s σ H E I hf st hg
    subst hP hw hK
    obtain ⟨xs, ys, x, y, hqx, hqy, hx, hy⟩ := hg
    obtain ⟨its, rv, p, _⟩ := hqx.raw I
    obtain ⟨jts, rv2, p2, _⟩ := hqy.raw I
    obtain ⟨u, hu, ru⟩ := rv.get hx
    obtain ⟨u2, hu2, ru2⟩ := rv2.get hy
    have hh : X.A.handled = none := I.ok.hd hc
    have W := WalksT.zipD2 (prog := X.prog) (w := X.w) (A := X.A) D (drawsB (k := k1) (A := X.A.in1) hh i1 a n1 its.toArray) (drawsB (k := k2) (A := X.A.in1) hh i2 b n2 jts.toArray)
    have hlt : i < min its.toArray.size jts.toArray.size := by
      have e1 := (List.getElem?_eq_some_iff.mp hu).1
      have e2 := (List.getElem?_eq_some_iff.mp hu2).1
      simp only [List.size_toArray]
      omega
    refine W.item i s _ _ hlt ⟨st.1, st.2.1, st.2.2.1, ⟨st.2.2.2.1, p⟩, st.2.2.2.2, p2⟩ fun T vals h' tk hp hT ht mid hk => ?_
    have tz := mid.2.2.2.2.2
    refine ⟨_, rfl, W.go elts kk tpos i T { s with heap := h', toks := tk } _ _ mid fun h2 st2 hk2 => ?_⟩
    obtain ⟨v1, v2, q1, q2, rfl⟩ := hp
    have ht2 : h2.IsTuple T #[v1, v2] := ht.at fun o e => hk2 T o (W.apart i T h' mid) e
    have e1 : v1 = u := by
      have : its.toArray[i]? = some v1 := q1
      simp [hu] at this
      exact this.symm
    have e2 : v2 = u2 := by
      have : jts.toArray[i]? = some v2 := q2
      simp [hu2] at this
      exact this.symm
    subst e1 e2
    have new : ObjOk X.prog X.w (upd H T (.tup [x, y])) h2 T (.tup [x, y]) := by
      obtain ⟨o, ho, hc, n, hd⟩ := ht2
      exact ⟨by show 2 ≤ sizeLine; decide, [v1, v2], .cons ru (.cons ru2 .nil), ⟨o, ho, hc, n, hd⟩⟩
    have sub : ∀ c, c ∉ [z, TI, TO, i1, i2] → c ∉ [z, TO, i1, i2] := fun c h q => h (by
      have : c = z ∨ c = TO ∨ c = i1 ∨ c = i2 := by simpa using q
      rcases this with q | q | q | q <;> simp [q])
    have kk2 : ∀ c o, c ∉ [z, TI, TO, i1, i2] → s.heap.get? c = some o → h2.get? c = some o := fun c o h e => hk2 c o (sub c h) (hk c o (sub c h) e)
    have I1 : Inv X pins σ (upd H T (.tup [x, y])) { s with heap := h2, toks := tk } := I.turnedNew (t' := tk) (ch := [z, TI, TO, i1, i2]) kk2 hf hT new
    refine ⟨.ref T, _, I1, rfl, ⟨T, x, y, rfl, I.hok.fresh hT, rfl, fun l hl => by rw [hl.inj I hqx]; exact hx, fun l hl => by rw [hl.inj I hqy]; exact hy⟩, ⟨st2.1, st2.2.1, st2.2.2.1, st2.2.2.2.1.1, st2.2.2.2.2.1⟩, fun c hcm => ?_⟩
    obtain ⟨o, ho, _⟩ := st.obj c hcm
    rw [upd_ne (Nat.ne_of_lt (Nat.lt_of_lt_of_le (Heap.lt_size ho) hT))]
    exact (hf c hcm).1
  done := by
    intro X hP hw hK hc i pins s σ H E I hf st hg
    subst hP hw hK
    obtain ⟨xs, ys, hqx, hqy, hend⟩ := hg
    obtain ⟨its, rv, p, _⟩ := hqx.raw I
    obtain ⟨jts, rv2, p2, _⟩ := hqy.raw I
    have hh : X.A.handled = none := I.ok.hd hc
    have W := WalksT.zipD2 (prog := X.prog) (w := X.w) (A := X.A) D (drawsB (k := k1) (A := X.A.in1) hh i1 a n1 its.toArray) (drawsB (k := k2) (A := X.A.in1) hh i2 b n2 jts.toArray)
    have he : i = min its.toArray.size jts.toArray.size := by
      have l1 := rv.length
      have l2 := rv2.length
      simp only [List.size_toArray]
      omega
    rw [he] at st
    refine W.done s _ _ ⟨st.1, st.2.1, st.2.2.1, ⟨st.2.2.2.1, p⟩, st.2.2.2.2, p2⟩ fun h' tk hk => ⟨rfl, I.turnedL (t' := tk) (ch := [z, TI, TO, i1, i2]) (fun c o h e => hk c o (fun q => h (by
      have : c = z ∨ c = TO ∨ c = i1 ∨ c = i2 := by simpa using q
      rcases this with q | q | q | q <;> simp [q])) e) hf⟩
  self := fun A i s Q E st h => wpAny_pyIter_zip st.1 h
def iZipB (K : PySem.W.Frag) (ta : TA) : TI := fun σ H R => ta σ H fun vs H1 => ∃ a b xs ys k1 k2, vs = [.ref a, .ref b] ∧ SqB K k1 H1 a xs ∧ SqB K k2 H1 b ys ∧ R (ItzB K k1 k2 a b) H1
theorem beginsB {k : Bool} (a : Addr) (its : Array Value) : ∃ o, Begins (.ref a) o (fun h => RawB k h a its) ∧ ∀ h i, h.get? i = some o → RitB k h i a 0 := by
  cases k with
  | true =>
    have B := begins_tuple a its
    refine ⟨_, ⟨fun prog w A E s Q h q => B.iter prog w A E s Q (h.elim (fun x => x.2) fun x => nomatch x.1) q, fun h h' x hk => .inl ⟨rfl, B.keeps h h' (x.elim (fun x => x.2) fun x => nomatch x.1) hk⟩, B.free⟩, fun h i e => .inl ⟨rfl, _, e, rfl, rfl⟩⟩
  | false =>
    have B := begins_list a its
    refine ⟨_, ⟨fun prog w A E s Q h q => B.iter prog w A E s Q (h.elim (fun x => nomatch x.1) fun x => x.2) q, fun h h' x hk => .inr ⟨rfl, B.keeps h h' (x.elim (fun x => nomatch x.1) fun x => x.2) hk⟩, B.free⟩, fun h i e => .inr ⟨rfl, _, e, rfl, rfl⟩⟩
theorem pi_zipB {X : Cx} {e e2 : Expr} {ta : TA} {p pos tpos : Pos} {elts : List Expr} {kk : Nat} (hg : Gl X "zip") (hm : X.mg "zip" = none) (ha : PA X [e, e2] ta)
    (hs : starEach [e, e2] X.env = (false, eval e X.env) :: starEach [e2] X.env := by rfl) (hpl : (backTo pos (starEach [e2] X.env)).any (·.1) = false := by rfl) :
    PI X (.Tuple elts kk tpos) (.Call (.Name "zip" p) [e, e2] [] pos) (iZipB X.K ta) := by
  refine ⟨fun pins s σ H R I h => ?_⟩
  refine Call_ (ld_blt I hg hm PyProof.Rows.boot_zip (PyProof.Rows.callWith_type1 (thn (ha.run pos pins s σ H _ I h) fun us s1 ⟨vs, H1, I1, r1, q1⟩ => ?_) hs hpl))
  obtain ⟨a, b, xs, ys, k1, k2, rfl, hqx, hqy, q⟩ := q1
  obtain ⟨v, us', rfl, r, rr⟩ : ∃ v us', us = v :: us' ∧ RelV (.ref a) v ∧ Vals [.ref b] us' := by
    cases r1 with
    | cons r rr => exact ⟨_, _, rfl, r, rr⟩
  obtain ⟨v2, rfl, r2⟩ := vals1 rr
  obtain rfl : v = Value.ref a := r
  obtain rfl : v2 = Value.ref b := r2
  obtain ⟨its, rv, p1, _⟩ := hqx.raw I1
  obtain ⟨jts, rv2, p2, _⟩ := hqy.raw I1
  obtain ⟨o1, B1, b1⟩ := beginsB (k := k1) a its.toArray
  obtain ⟨o2, B2, b2⟩ := beginsB (k := k2) b jts.toArray
  generalize hN : s1.heap.objs.size = N
  have la : a < N := hN ▸ p1.lt
  have lb : b < N := hN ▸ p2.lt
  refine zip_begins2 B1 B2 p1 p2 fun h' hz hI hO g1 g2 hsz hk => ?_
  rw [hN] at hz hI hO g1 g2 ⊢
  refine wpAny_pyIter_zip hz ?_
  have I2 : Inv X pins σ H1 { s1 with heap := h' } := I1.kept (t' := s1.toks) hk
  have S := zip_sep2 (N := N) (fp1 := [a]) (fp2 := [b]) (fun c hc => by rw [List.mem_singleton.mp hc]; exact la) (fun c hc => by rw [List.mem_singleton.mp hc]; exact lb)
  refine ⟨N + 4, [N + 4, N + 2, N + 3, N, N + 1], tnZ k1 k2 (N + 4) (N + 2) (N + 3) N (N + 1) a b, ItzB X.K k1 k2 a b, H1, rfl, I2, turn_zipB S (Nat.ne_of_lt la) (Nat.ne_of_lt (Nat.lt_succ_of_lt lb)), ⟨hz, hI, ⟨_, _, hO⟩, b1 _ _ g1, b2 _ _ g2⟩, fun c hcm => ?_, q⟩
  have hle : s1.heap.objs.size ≤ c := by
    rw [hN]
    rcases five hcm with q | q | q | q | q <;> rw [q]
    · exact Nat.le_add_right _ _
    · exact Nat.le_add_right _ _
    · exact Nat.le_add_right _ _
    · exact Nat.le_refl _
    · exact Nat.le_add_right _ _
  exact I1.fpOk hle (I1.hok.fresh hle)
theorem walk_zipB {K : PySem.W.Frag} {k1 k2 : Bool} {a b : Addr} {xs ys : List V} : Walk (ItzB K k1 k2 a b) (min xs.length ys.length) (fun H => SqB K k1 H a xs ∧ SqB K k2 H b ys) (YPair (fun i => xs[i]?) (fun i => ys[i]?)) := by
  refine ⟨fun i _ hi q => ?_, fun _ q => ⟨xs, ys, q.1, q.2, rfl⟩, fun i H v H' _ q y => ?_⟩
  · have h1 : i < xs.length := by omega
    have h2 : i < ys.length := by omega
    exact ⟨xs, ys, xs[i], ys[i], q.1, q.2, by simp [h1], by simp [h2]⟩
  · obtain ⟨T, x, z, h1, h2, h3, h4, h5⟩ := y
    exact ⟨T, x, z, h1, h2, h3, h4 xs q.1, h5 ys q.2⟩

/-! ### walks over a list or a tuple -/
abbrev ItQ (K : PySem.W.Frag) (k : Bool) (a : Addr) : It := if k = true then Itt K a else Itl K a
def iSeq (K : PySem.W.Frag) (tl : TE) : TI := fun σ H R => tl σ H fun x H1 => ∃ a xs k, x = .ref a ∧ SqB K k H1 a xs ∧ R (ItQ K k a) H1
theorem pi_seq {X : Cx} {tg e : Expr} {tl : TE} (h : PE X e tl) : PI X tg e (iSeq X.K tl) := by
  refine ⟨fun pins s σ H R I q => thn (h.run pins s σ H _ I q) fun v s1 ⟨x, H1, I1, r, a, xs, k, ex, hq, z⟩ => ?_⟩
  subst ex
  cases r
  have old : Inv X pins σ H1 { s1 with heap := s1.heap.push { cls := .type "x", data := .fields #[] } } → True := fun _ => trivial
  have fp : ∀ c, c ∈ [s1.heap.objs.size] → FpOk X pins H1 c := fun c hc => by
    rw [List.mem_singleton.mp hc]
    exact I1.fpOk (Nat.le_refl _) (I1.hok.fresh (Nat.le_refl _))
  rcases hq with ⟨rfl, hq⟩ | ⟨rfl, hq⟩
  · obtain ⟨its, rv, p, _⟩ := I1.tuple hq
    exact wpAny_pyIter_tuple (show s1.heap.IsTuple a its.toArray from p) ⟨s1.heap.objs.size, [s1.heap.objs.size], _, Itt X.K a, H1, rfl, I1.kept (t' := s1.toks) fun b o w => Heap.get?_push_of_some _ w, turn_tuple a _, ⟨_, Heap.get?_push_size _ rfl, rfl, rfl⟩, fp, z⟩
  · obtain ⟨its, rv, p, _⟩ := I1.list hq
    exact wpAny_pyIter_list p.isList ⟨s1.heap.objs.size, [s1.heap.objs.size], _, Itl X.K a, H1, rfl, I1.kept (t' := s1.toks) fun b o w => Heap.get?_push_of_some _ w, turn_list a _, ⟨_, Heap.get?_push_size _ rfl, rfl, rfl⟩, fp, z⟩
theorem walk_seq {K : PySem.W.Frag} {k : Bool} {a : Addr} {xs : List V} : Walk (ItQ K k a) xs.length (fun H => SqB K k H a xs) (YAt xs) := by
  cases k with
  | true => exact walk_tup.mono (fun H h => h.elim (fun x => x.2) (fun x => nomatch x.1)) fun _ _ _ _ _ _ y => y
  | false => exact walk_list.mono (fun H h => h.elim (fun x => nomatch x.1) (fun x => x.2)) fun _ _ _ _ _ _ y => y
end Kx
set_option Elab.async false
set_option linter.all false
set_option maxRecDepth 100000
set_option maxHeartbeats 4000000
/-! K7: extend by a tuple; list(reversed(list)); in a tuple of data; a dict with tuple keys == {}. -/
namespace Kx
open PySem L2 PyProof.Rows PySem.Calls

section
open PySem.SeqAt
open PySem.AutoSeq1 (wpAny_loadPart')
open PySem.MeetsSeq PySem.MeetsSeq2 PySem.MeetsSeq3
theorem ext_list_tup (l : Addr) (xs : Array Value) (n : Nat) (b : Addr) (ys : Array Value) (n2 : Nat) (dd : Option Addr) (sl : Array (Option Value)) (hs0 : ¬(!xs.isEmpty && Builtin.List.listTooLong (xs.size + ys.size)) = true) (hs1 : xs.size ≤ sizeLine) (hs2 : xs.size + ys.size ≤ sizeLine + 1) :
    Meets (Builtin.«list.extend» ⟨[.ref l, .ref b], []⟩) (fun _ R s => s.heap.get? l = some { cls := .type "list", dict := none, data := .seq xs n, slots := #[] } ∧ s.heap.get? b = some { cls := .type "tuple", dict := dd, data := .seq ys n2, slots := sl } ∧
      R (.ok (.ret .none)) { s with heap := s.heap.update l (Obj.mapSeq (· ++ ys)) }) :=
  .of_wp fun prog w A R s h => by
    obtain ⟨hp, g, d, tk, os⟩ := s
    obtain ⟨hl, hb, h⟩ := h
    have f1 := AutoSeq1.idx_int
    have f2 := AutoSeq1.sub_tuple_tuple
    have f3 := AutoSeq1.sub_list_list
    have f4 := AutoSeq1.sub_tuple_list
    have f5 := AutoSeq1.sub_list_tuple
    have hz' : (xs ++ ys).size ≤ sizeLine + 1 := by rw [Array.size_append]; exact hs2
    wp_walk using (wpAny_updateSeq hl rfl (hz := hs1) (_hz' := hz')), wpAny_loadPart' hl, wpAny_loadPart' hb
    exact ⟨_, rfl, h⟩
end
def rExtT (K : PySem.W.Frag) : V → List V → Hp → VK → Prop := fun x vs H Q => ∃ l b xs zs, x = .ref l ∧ vs = [.ref b] ∧ H l = some (.lst xs) ∧ H b = some (.tup zs) ∧ xs.length + zs.length ≤ sizeLine ∧ Q .non (upd H l (.lst (xs ++ zs)))
section
variable {X : Cx}
theorem mt_extT : MtR X "list.extend" (rExtT X.K) := by
  intro pins s σ H x vs v us Q I rx rv h
  obtain ⟨l, b, xs, zs, rfl, rfl, hH, hB, hz, q⟩ := h
  cases rx
  obtain ⟨u, rfl, ru⟩ := vals1 rv
  obtain rfl : u = Value.ref b := ru
  obtain ⟨z, its, n, r, hl, e⟩ := I.lstM hH
  obtain ⟨jts, r2, p2, hz2⟩ := I.tuple (SqT.of hB)
  have l2 := r2.length
  obtain ⟨⟨cls, dd, data, sl⟩, ho2, hc2, n2, hd2⟩ := p2
  simp only at hc2 hd2
  subst hc2 hd2
  have hsz : its.toArray.size + jts.toArray.size ≤ sizeLine := by
    simp only [List.size_toArray]
    omega
  have hlong : ¬ (!its.toArray.isEmpty && Builtin.List.listTooLong (its.toArray.size + jts.toArray.size)) = true := by
    rw [notLongL hsz, Bool.and_false]
    exact Bool.false_ne_true
  refine call_meets PySem.F.slot_list_extend ⟨_, e, rfl⟩ PySem.F.entry_list_extend (PySem.F.args_list_extend_2 _ _) (ext_list_tup l its.toArray n b jts.toArray n2 dd sl hlong (by simp only [List.size_toArray]; omega) (by omega)) ⟨e, ho2, ?_⟩
  refine ⟨.non, _, I.lset (its' := its ++ jts) hH e (by simp) (r.append r2) ?_, rfl, q⟩
  rw [List.length_append]
  omega
def rInT (K : PySem.W.Frag) (neg : Bool) : R2 := fun x y H Q => ∃ d ds, Dp K H x d ∧ Dp K H y (.tuple ds) ∧ SeqAt.shaped d = true ∧ SeqAt.shaped (.tuple ds) = true ∧ Q (.bl (neg ^^ (ds.any fun z => PyData.eqv z d))) H
theorem op_inT (hu : X.A.units + 65 < cLine) : OpR X (compareOp .In) (rInT X.K false) := by
  intro pins s σ H x y v u Q I rx ry h
  obtain ⟨d, ds, hd, he, sd, se, q⟩ := h
  obtain ⟨as, r1⟩ := Dp.reads I d x v hd rx
  obtain ⟨bs, r2⟩ := Dp.reads I (.tuple ds) y u he ry
  exact SeqAt.in_tuple_reads r2 r1 (SeqAt.canLay_of_shaped se) (SeqAt.canLay_of_shaped sd) (room_in_shaped sd hu) ⟨.bl _, H, I, by rw [Bool.false_xor] at q; rfl, by rw [Bool.false_xor] at q; exact q⟩
theorem op_ninT (hu : X.A.units + 65 < cLine) : OpR X (compareOp .NotIn) (rInT X.K true) := by
  intro pins s σ H x y v u Q I rx ry h
  obtain ⟨d, ds, hd, he, sd, se, q⟩ := h
  obtain ⟨as, r1⟩ := Dp.reads I d x v hd rx
  obtain ⟨bs, r2⟩ := Dp.reads I (.tuple ds) y u he ry
  exact SeqAt.notIn_tuple_reads r2 r1 (SeqAt.canLay_of_shaped se) (SeqAt.canLay_of_shaped sd) (room_in_shaped sd hu) ⟨.bl _, H, I, by rw [Bool.true_xor] at q; rfl, by rw [Bool.true_xor] at q; exact q⟩

/-! ### d == {} of a dict that holds something -/
def rEqT0 : R2 := fun x y H Q => ∃ a b ks ls, x = .ref a ∧ y = .ref b ∧ H a = some (.dT ks) ∧ H b = some (.dT ls) ∧ ks.length ≠ ls.length ∧ Q (.bl false) H
theorem samePairs_no {prog : Program} {w : World} {A : Around} {E : Value → Shared → Prop} {s : Shared} {nm : String} {a b : Addr} {es fs : Array DictEntry} {ep fp : Nat} {Q : Bool → Shared → Prop} (ha : (a == sysModules) = false) (hb : (b == sysModules) = false)
    (da : s.heap.DictRaw a es ep) (db : s.heap.DictRaw b fs fp) (hne : es.size ≠ fs.size) (h : Q false s) : wpAny (model prog w) A (Builtin.Dict.samePairs nm a b) Q E s := by
  obtain ⟨oa, hoa, _, hda⟩ := da
  obtain ⟨ob, hob, _, hdb⟩ := db
  unfold Builtin.Dict.samePairs Builtin.Dict.showsAll
  rw [if_neg (show ¬ (a == sysModules) = true by rw [ha]; exact Bool.false_ne_true), if_neg (show ¬ (b == sysModules) = true by rw [hb]; exact Bool.false_ne_true)]
  refine wpAny_bind (wpAny_pure (wpAny_bind (wpAny_pure ?_)))
  refine wpAny_bind (wpAny_dictEntries hoa hda ?_)
  dsimp only
  refine wpAny_bind (wpAny_dictEntries hob hdb ?_)
  rw [if_pos (by simpa using hne)]
  exact wpAny_bind (wpAny_rule (wpAny_pure h))
theorem op_eqT0 (hu : X.A.units + 8 < cLine) : OpR X (compareOp .Eq) rEqT0 := by
  intro pins s σ H x y v u Q I rx ry h
  obtain ⟨a, b, ks, ls, rfl, rfl, ha, hb, hne, q⟩ := h
  cases rx
  cases ry
  obtain ⟨z1, d1, xs, rel1, dd1⟩ := dt_of I.hok ha
  obtain ⟨z2, d2, ys, rel2, dd2⟩ := dt_of I.hok hb
  obtain ⟨es, ep, r1, s1, _⟩ := dd1.raw
  obtain ⟨fs, fp, r2, s2, _⟩ := dd2.raw
  have l1 := Paired.length rel1
  have l2 := Paired.length rel2
  refine wpAny_richCompare_same_room (op := .Eq) r1.typeIs r2.typeIs PySem.F.slot_dict_eq (wpAny_call_entry PySem.F.slot_dict_eq r1.typeIs PySem.F.entry_dict_eq ?_ (PySem.F.args_dict_eq_2 _ _)) (show X.A.units < cLine by omega)
  show wpAny _ _ (Builtin.Dict.dictSlotArgs "__eq__" ⟨[.ref a, .ref b], []⟩ >>= _) _ _ s
  refine wpAny_bind ?_
  unfold Builtin.Dict.dictSlotArgs
  refine wpAny_bind (wpAny_notOrdered_dict r1.typeIs ?_)
  show wpAny _ _ (pure (Value.ref a, Value.ref b)) _ _ s
  refine wpAny_pure ?_
  refine wpAny_bind (wpAny_isInstance (T := "dict") r2.typeIs PySem.F.sub_dict_dict ?_)
  simp only [Bool.not_true, Bool.false_eq_true, if_false]
  refine wpAny_bind (wpAny_pure (wpAny_bind (wpAny_pure ?_)))
  refine wpAny_bind (samePairs_no d1 d2 r1 r2 (by omega) ?_)
  refine wpAny_pure ⟨_, rfl, ?_, ?_⟩
  · exact fun x => nomatch x
  · exact ⟨.bl false, H, I, rfl, q⟩

/-! ### list(reversed(a list)) -/
theorem init_rev {prog : Program} {w : World} {A : Around} {s : Shared} {R : Result → Shared → Prop} {S it l : Addr} {its : Array Value} {c : Nat} (hh : A.handled = none) (hit : s.heap.IsRevIter it l ((its.size : Int) - 1)) (hl : s.heap.IsList l its) (hne : l ≠ it) (hSi : S ≠ it) (hSl : S ≠ l) (hn : its.size ≤ sizeLine)
    (hS : s.heap.get? S = some { cls := .type "list", data := .seq #[] c })
    (hR : ∀ h' tk acc c', (∀ b o, b ≠ S → b ≠ it → s.heap.get? b = some o → h'.get? b = some o) → h'.get? S = some { cls := .type "list", dict := none, data := .seq acc c', slots := #[] } → ItemsOf (fun i v => its[its.size - 1 - i]? = some v) acc its.size → R (.ok (.ret .none)) { s with heap := h', toks := tk }) :
    wpAny (model prog w) A.in1 (Builtin.«list.__init__» ⟨[.ref S, .ref it], []⟩)
      (fun fin s' => match fin with | .done f => R (.ok f) s' | .again c' => c'.quiet = true ∧ codeAny (model prog w) A c' R s') (fun e s' => R (.error e) s') s := by
  have W := (Walks.listRev (prog := prog) (w := w) (A := A.in1) hh it l hne its).toS
  have hSf : S ∉ [it, l] := by simp only [List.mem_cons, List.not_mem_nil, or_false, not_or]; exact ⟨hSi, hSl⟩
  show wpAny _ _ (do let old ← Builtin.List.listItems (.ref S); Builtin.List.listUpdate (.ref S) (fun _ => #[]); letGo old.toList.reverse; Builtin.List.listExtendWith (.ref S) (.ref it) .none) _ _ s
  refine wpAny_bind ?_
  unfold Builtin.List.listItems
  refine wpAny_bind (wpAny_seqItems hS rfl (wpAny_pure ?_))
  show wpAny _ _ (updateSeq S (fun _ => #[]) >>= fun _ => letGo (#[] : Array Value).toList.reverse >>= fun _ => Builtin.List.listExtendWith (.ref S) (.ref it) .none) _ _ s
  refine wpAny_bind (wpAny_updateSeq hS rfl ?_)
  have hS2 := Heap.get?_update_self (Obj.mapSeq (fun _ => (#[] : Array Value))) hS rfl
  have oth : ∀ b o, b ≠ S → s.heap.get? b = some o → (s.heap.update S (Obj.mapSeq (fun _ => (#[] : Array Value)))).get? b = some o := fun b o hb e => (Heap.get?_update_other _ _ (Ne.symm hb)).trans e
  refine wpAny_bind (wpAny_letGo ?_)
  generalize hg : s.heap.update S (Obj.mapSeq (fun _ => (#[] : Array Value))) = h1 at hS2 oth ⊢
  have hit1 : h1.IsRevIter it l ((its.size : Int) - 1) := hit.at fun o e => oth it o (Ne.symm hSi) e
  have hl1 : h1.IsList l its := hl.at fun o e => oth l o (Ne.symm hSl) e
  have hT : ({ s with heap := h1 } : Shared).TypeIs (.ref it) "list_reverseiterator" := Heap.IsRevIter.typeIs (s := { s with heap := h1 }) hit1
  have same : Builtin.List.listSameRef (.ref S) (.ref it) = false := by simp [Builtin.List.listSameRef, hSi]
  unfold Builtin.List.listExtendWith
  refine wpAny_bind (wpAny_typeOf hT ?_)
  rw [if_neg (by rw [same]; decide)]
  refine wpAny_bind (wpAny_pyIter_revIter (s := { s with heap := h1 }) hit1 ?_)
  refine wpAny_bind (wpAny_holding ?_)
  unfold Builtin.List.listLengthHint
  refine wpAny_bind (wpAny_specialOf hT RT.nolen_lri ?_)
  show wpAny _ A.in1 (specialOf (Value.ref it) (Str.ofString "__length_hint__") >>= _) _ _ _
  refine wpAny_bind (wpAny_specialOf hT RT.hint_lri ?_)
  generalize hid : ("list_reverseiterator.__length_hint__" : String) = idn
  wp_delta
  rw [show splitId idn = some ("list_reverseiterator", "__length_hint__") from by subst hid; decide +kernel]
  subst hid
  refine wpAny_bind (wpAny_isInstance (b := true) hT (by rw [isSubtype_type]; kernel_rfl) ?_)
  refine wpAny_pure ?_
  rw [if_neg (by decide)]
  have e0 : ((its.size : Nat) : Int) - 1 - ((0 : Nat) : Int) = (its.size : Int) - 1 := by omega
  refine wpAny_pure ⟨plainId_quiet PySem.F.plain_extend_loop _, codeAny_extend_loopS W hn S hSf _ its.size 0 _ _ _ rfl (Nat.zero_le _) ⟨Nat.zero_le _, by rw [e0]; exact hit1, hl1⟩ hS2 (ItemsOf.nil _) fun s' acc' c' hm hS' hacc => ?_⟩
  rw [Moved.eq_with hm]
  refine hR s'.heap s'.toks acc' c' (fun b o n1 n2 e => hm.heap b o (fun hmem => ?_) (oth b o n1 e)) hS' hacc
  rcases List.mem_cons.mp hmem with e' | hmem
  · exact n1 e'
  · exact n2 (List.mem_singleton.mp hmem)
end
end Kx
set_option Elab.async false
set_option linter.all false
set_option maxRecDepth 100000
set_option maxHeartbeats 4000000
/-! K8: list(reversed(list)); {k: v for ..}, the keys tuples. -/
namespace Kx
open PySem L2 PySem.Spec PyProof.Rows PySem.Calls
def tListRev (K : PySem.W.Frag) (te : TE) : TE := fun σ H Q => te σ H fun v H1 => ∃ (a : Addr) (xs : List V), v = .ref a ∧ SqL K H1 a xs ∧ ∀ q, H1 q = none → Q (.ref q) (upd H1 q (.lst xs.reverse))
section
variable {X : Cx}
theorem boot_list' : bootBuiltins "list" = some (.type "list") := by decide +kernel
theorem pe_listRev {e : Expr} {te : TE} {p p2 pos pos2 : Pos} (hc : X.calm = true) (hg : Gl X "list") (hm : X.mg "list" = none) (hg2 : Gl X "reversed") (hm2 : X.mg "reversed" = none) (he : PE X e te)
    (hs : starEach [e] X.env = (false, eval e X.env) :: starEach [] X.env := by rfl)
    (hs2 : starEach [.Call (.Name "reversed" p2) [e] [] pos2] X.env = (false, eval (.Call (.Name "reversed" p2) [e] [] pos2) X.env) :: starEach [] X.env := by rfl) :
    PE X (.Call (.Name "list" p) [.Call (.Name "reversed" p2) [e] [] pos2] [] pos) (tListRev X.K te) := by
  refine ⟨fun pins s σ H Q I h => ?_⟩
  refine Call_ (ld_blt I hg hm boot_list' (PyProof.Rows.callWith_type1 (args_cons (Call_ (ld_blt I hg2 hm2 PyProof.Rows.boot_reversed (PyProof.Rows.callWith_type1 (args_cons (thn (he.run pins s σ H _ I h) fun u s1 ⟨v, H1, I1, r1, q1⟩ => args_nil ?_) hs) hs rfl))) hs2) hs2 rfl))
  obtain ⟨a, xs, rfl, hq, q⟩ := q1
  obtain rfl : u = Value.ref a := r1
  obtain ⟨its, rv, pl, hz⟩ := I1.list hq
  refine call_reversed_list pl.isList (args_nil ?_)
  generalize hN : s1.heap.objs.size = N
  have hl := pl.isList
  obtain ⟨ol, hol, _⟩ := id hl
  have hne : a ≠ N := hN ▸ Nat.ne_of_lt (Heap.lt_size hol)
  have hn : its.toArray.size ≤ sizeLine := by rw [List.size_toArray, ← rv.length]; exact hz
  have I2 : Inv X pins σ H1 { s1 with heap := s1.heap.push (revObj a ((its.toArray.size : Int) - 1)) } := I1.kept (t' := s1.toks) fun b o z => Heap.get?_push_of_some _ z
  obtain ⟨f0, f1, f2, f3, f4, f5⟩ := I1.fpOk (H' := H1) (b := N) (Nat.le_of_eq hN) (I1.hok.fresh (Nat.le_of_eq hN))
  have hit : (s1.heap.push (revObj a ((its.toArray.size : Int) - 1))).IsRevIter N a ((its.toArray.size : Int) - 1) := by
    rw [← hN]
    exact ⟨_, Heap.get?_push_size _ rfl, rfl, rfl⟩
  have hsz : (s1.heap.push (revObj a ((its.toArray.size : Int) - 1))).objs.size = N + 1 := by rw [Heap.size_push, hN]
  have hl2 : (s1.heap.push (revObj a ((its.toArray.size : Int) - 1))).IsList a its.toArray := hl.push _
  generalize hg3 : s1.heap.push (revObj a ((its.toArray.size : Int) - 1)) = g at I2 hit hsz hl2
  have hh := I1.ok.hd hc
  refine callType_codes (Q₁ := fun obj s₁ => obj = .ref g.objs.size ∧ s₁ = { s1 with heap := g.push { cls := .type "list", data := .seq #[] } }) PySem.F.called_list (PySem.F.typeCall_list_1 _) PySem.F.entry_list_init (code_list_new _ ⟨rfl, rfl⟩) fun obj s₁ h₁ => ?_
  obtain ⟨rfl, rfl⟩ := h₁
  have hS : (g.push { cls := .type "list", data := .seq #[] }).get? g.objs.size = some { cls := .type "list", data := .seq #[] } := Heap.get?_push_size _ rfl
  have aS : a < g.objs.size := by
    rw [hsz, ← hN]
    exact Nat.lt_succ_of_lt (Heap.lt_size hol)
  refine ⟨⟨_, hS, rfl⟩, PySem.F.args_list_init_2 _ _, init_rev (A := X.A.in1) (l := a) (its := its.toArray) hh (hit.at fun o z => Heap.get?_push_of_some _ z) (hl2.push _) hne (by rw [hsz]; exact Nat.succ_ne_self N) (Nat.ne_of_gt aS) hn hS fun h' tk acc c' hk hD it => ?_⟩
  refine ⟨rfl, .ref g.objs.size, upd H1 g.objs.size (.lst xs.reverse), ?_, rfl, q _ (I2.hok.fresh (Nat.le_refl _))⟩
  have ff : ∀ b ∈ [N], FpOk X pins H1 b := fun b hb => by
    rw [List.mem_singleton.mp hb]
    exact ⟨f0, f1, f2, f3, f4, f5⟩
  refine I2.turnedNew (t' := tk) (ch := [N]) (fun b o hb z => hk b o (Nat.ne_of_lt (Heap.lt_size z)) (fun w => hb (by simp [w])) (Heap.get?_push_of_some _ z)) ff (Nat.le_refl _) ?_
  exact ⟨by rw [List.length_reverse]; exact hz, acc.toList, c', RT.vals_rev rv it, by rw [Array.toArray_toList]; exact hD⟩
end
section
variable {X : Cx}
/-- {k: v for target in iter if ..}, keys ints or texts: D the new dict -/
def tDcT (wi : TI) (g : TG) (tt : TT) (tk tv : TE) (vs : List Nat) : TE := fun σ H Q => wi σ H fun J H1 => ∀ D, H1 D = none → ∃ W : Nat → Nat → Hp → Prop, (∃ m, W 0 m (upd H1 D (.dT []))) ∧ ∀ i m H, W i m H →
  (J.stop i H ∧ Q (.ref D) H) ∨ (J.go i H ∧ ∃ Nx : Hp → Prop, (∀ H', Nx H' → ∃ m', m' < m ∧ W (i + 1) m' H') ∧ ∀ x H', J.yld i H x H' → g x (wipe σ vs) H' fun σ2 H2 => wipe σ2 vs = wipe σ vs ∧ tt σ2 H2 fun b H3 =>
    if b = true then tk σ2 H3 fun y H4 => tv σ2 H4 fun z H5 => ∃ (b : Addr) (kvs : List (List Key × V)) (k : List Key), y = .ref b ∧ H5 b = some (.tup (k.map kV)) ∧ H5 D = some (.dT kvs) ∧ kvs.length < sizeLine ∧ Nx (upd H5 D (.dT (putK kvs k z))) else Nx H3)
theorem dcT_core {pins : List (Addr × Obj)} {s : Shared} {σ : L2.St} {H : Hp} {Q : VK} {kx vx tg iter : Expr} {ifs : List Expr} {scope : Scope} {own : List (Str × Nat)} {pos pos' : Pos} {wi : TI} {g : TG} {tt : TT} {tk tv : TE} {use : Option (Value → Sem Unit)} {Qf : Value → Shared → Prop}
    (hu : X.A.units + 1 < cLine) (hc : X.calm = true) (hN : X.N.Nodup) (I : Inv X pins σ H s) (hi : PI X tg iter wi) (ok : BlkOk X.N X.env.scope scope own)
    (hg : ∀ (s : Shared) (H : Hp) (C : Addr) (cl : List (Str × Addr)) (fp : List Addr), PG (X.blk s H scope (compEnvC scope cl C X.env) fp) tg g) (ht : ∀ (s : Shared) (H : Hp) (C : Addr) (cl : List (Str × Addr)) (fp : List Addr), PTs (X.blk s H scope (compEnvC scope cl C X.env) fp) ifs tt)
    (hk : ∀ (s : Shared) (H : Hp) (C : Addr) (cl : List (Str × Addr)) (fp : List Addr), PE (X.blk s H scope (compEnvC scope cl C X.env) fp) kx tk)
    (he : ∀ (s : Shared) (H : Hp) (C : Addr) (cl : List (Str × Addr)) (fp : List Addr), PE (X.blk s H scope (compEnvC scope cl C X.env) fp) vx tv) (hs : ∀ x, foldedSetIterable iter X.env x = pure x)
    (h : tDcT wi g tt tk tv (own.map (·.2)) σ H Q)
    (hEnd : ∀ D C s' m H', Inv X pins σ H' s' → Q (.ref D) H' → s'.heap.Ns C m → FpOk X pins H' C → compPost (model X.prog X.w) X.A X.xe use Qf (.ref D) C (.ok .next) s') :
    wpAny (model X.prog X.w) X.A (comprehension (.DictComp kx vx [⟨tg, iter, ifs, 0⟩] scope pos) scope X.env pos' newDict false (eval iter X.env) use) Qf X.xe s := by
  have hfr : ∀ y ∈ scope.names, y.2 = .free → ∃ c, X.env.cells.lookup y.1 = some c := fun y hy e => by
    rcases ok.free y hy e with k | k
    · exact I.ok.has _ (.inl k)
    · exact I.ok.has _ (.inr k)
  refine wpAny_comprehension_free (use := use) rfl hs (closure_ok hfr) ok.kind (fun y hy e => by rw [ok.uniq y hy, e])
    (thn (hi.run pins s σ H _ I h) fun xv sw1 hx => thn hx fun itv sw2 h2 => ?_)
  obtain ⟨it, fp, tn, J, Hw2, e, Iw2, T, st2, f2, q⟩ := h2
  subst e
  refine wpAny_newObj_type (newEnv_comp ?_)
  generalize hD : sw2.heap.objs.size = D
  have nD : Hw2 D = none := Iw2.hok.fresh (Nat.le_of_eq hD)
  obtain ⟨W, ⟨m0, w0⟩, turn⟩ := q D nD
  -- the new list
  generalize hs3 : ({ sw2 with heap := sw2.heap.push { cls := .type "dict", data := .dict #[] } } : Shared) = sw3
  have Iw3 : Inv X pins σ (upd Hw2 D (.dT [])) sw3 := by
    rw [← hs3]
    refine Iw2.laid (t' := sw2.toks) (fun b o e => Heap.get?_push_of_some _ e) (Nat.le_of_eq hD) ?_
    rw [← hD]
    exact dt_empty sw2.heap Iw2.big
  have h3 : sw3.heap = sw2.heap.push { cls := .type "dict", data := .dict #[] } := by rw [← hs3]
  have sz : ∀ b ∈ fp, b < sw2.heap.objs.size := fun b hb => by
    obtain ⟨o, e, _⟩ := T.obj _ _ st2 b hb
    exact Heap.lt_size e
  have f3 : ∀ b ∈ fp, FpOk X pins (upd Hw2 D (.dT [])) b ∧ b < sw3.heap.objs.size := fun b hb => by
    have hlt := sz b hb
    refine ⟨⟨?_, (f2 b hb).2⟩, by rw [h3, Heap.size_push]; exact Nat.lt_succ_of_lt hlt⟩
    rw [upd_ne (by rw [← hD]; exact Nat.ne_of_lt hlt)]
    exact (f2 b hb).1
  have st3 : tn 0 sw3.heap := T.keep _ _ _ st2 fun b _ o e => by rw [h3]; exact Heap.get?_push_of_some _ e
  have Iw4 := block_start Iw3 ok hN f3
  have pg := hg sw3 (upd Hw2 D (.dT [])) sw3.heap.objs.size (cellsFrom (sw3.heap.objs.size + 1) scope.names (cloFrom X.env.cells scope.names [])) fp
  have pt := ht sw3 (upd Hw2 D (.dT [])) sw3.heap.objs.size (cellsFrom (sw3.heap.objs.size + 1) scope.names (cloFrom X.env.cells scope.names [])) fp
  have pk := hk sw3 (upd Hw2 D (.dT [])) sw3.heap.objs.size (cellsFrom (sw3.heap.objs.size + 1) scope.names (cloFrom X.env.cells scope.names [])) fp
  have pe := he sw3 (upd Hw2 D (.dT [])) sw3.heap.objs.size (cellsFrom (sw3.heap.objs.size + 1) scope.names (cloFrom X.env.cells scope.names [])) fp
  show codeAny _ _ (.compStart (.DictComp kx vx [⟨tg, iter, ifs, 0⟩] scope pos) 0 (.ref it) (.ref D) (compEnvC scope (cellsFrom (sw3.heap.objs.size + 1) scope.names (cloFrom X.env.cells scope.names [])) sw3.heap.objs.size X.env)) (compPost (model X.prog X.w) X.A X.xe use Qf (.ref D) sw3.heap.objs.size) { sw3 with heap := pushCells (sw3.heap.push { cls := .type "dict", data := .dict #[] }) scope.names }
  have nfp : ∀ b ∈ fp, (upd Hw2 D (.dT [])) b = none := fun b hb => (f3 b hb).1.1
  generalize hce : compEnvC scope (cellsFrom (sw3.heap.objs.size + 1) scope.names (cloFrom X.env.cells scope.names [])) sw3.heap.objs.size X.env = ce at Iw4 pg pt pk pe ⊢
  have cL : ce.locals = sw3.heap.objs.size := by subst hce; rfl
  generalize hH3 : upd Hw2 D (.dT []) = Hw3 at Iw3 Iw4 pg pt pk pe w0 nfp f3
  generalize hs4 : ({ sw3 with heap := pushCells (sw3.heap.push { cls := .type "dict", data := .dict #[] }) scope.names } : Shared) = sw4 at Iw4 ⊢
  have st4 : tn 0 sw4.heap := T.keep _ _ _ st3 fun b _ o e => by rw [← hs4]; exact pushCells_keeps _ _ _ _ (Heap.get?_push_of_some _ e)
  have stands : ∀ {σ' : L2.St} {H' : Hp} {s' : Shared}, Inv (X.blk sw3 Hw3 scope ce fp) [] σ' H' s' → (∀ b ∈ fp, H' b = none) → ∀ b ∈ fp, FpOk (X.blk sw3 Hw3 scope ce fp) [] H' b := fun {σ' H' s'} I' hn b hb =>
    ⟨hn b hb, (I'.ok.exf b hb).1, I'.ok.exfs b hb, .inl hb, fun x c e => (I'.ok.exf b hb).2 x c e, fun p hp => absurd (show p ∈ ([] : List (Addr × Obj)) ++ [] from hp) (by simp)⟩
  have loop : codeAny (model X.prog X.w) X.A (.compLoop (.DictComp kx vx [⟨tg, iter, ifs, 0⟩] scope pos) 0 (.ref it) (.ref D) ce) (compPost (model X.prog X.w) X.A X.xe use Qf (.ref D) sw3.heap.objs.size) sw4 := by
    refine compLoop_anyD (fun n s' => ∃ i H', Inv (X.blk sw3 Hw3 scope ce fp) [] (wipe σ (own.map (·.2))) H' s' ∧ tn i s'.heap ∧ (∀ b ∈ fp, H' b = none) ∧ W i n H') ?_ m0 ⟨0, Hw3, Iw4, st4, nfp, w0⟩
    rintro n sw5 ⟨i, Hw5, Iw5, st5, n5, w5⟩
    rcases turn i n Hw5 w5 with ⟨stop, qq⟩ | ⟨go, Nx, hNx, step⟩
    · have td := T.done (X.blk sw3 Hw3 scope ce fp) rfl rfl rfl hc i [] sw5 _ Hw5 (fun _ _ => False) Iw5 (stands Iw5 n5) st5 stop
      refine thnF td fun r sw6 ⟨hr, Iw6⟩ => ?_
      subst hr
      -- back in the def's context
      have Iw7 : Inv X pins σ Hw5 sw6 := Iw3.call' (ch := fp) Iw6.os Iw6.base Iw6.hok Iw6.bare fun b hb => ⟨(f3 b hb).1.2.2.2.1, (f3 b hb).1.2.1, (f3 b hb).1.2.2.2.2.1, (f3 b hb).1.2.2.2.2.2⟩
      have nC : Hw5 sw3.heap.objs.size = none := by
        have z : Hw5 ce.locals = none := Iw6.free
        rw [cL] at z
        exact z
      obtain ⟨m, hn, _⟩ := Iw6.loc
      have hn : sw6.heap.Ns ce.locals m := hn
      rw [cL] at hn
      exact hEnd D sw3.heap.objs.size sw6 m Hw5 Iw7 qq hn (Iw3.fpOk (Nat.le_refl _) nC)
    · have ti := T.item (X.blk sw3 Hw3 scope ce fp) rfl rfl rfl hc i [] sw5 _ Hw5 (fun _ _ => False) Iw5 (stands Iw5 n5) st5 go
      refine thnF ti fun r sw6 ⟨u, hr, h6⟩ => ?_
      subst hr
      refine thnF h6 fun _ sw7 ⟨x, Hw7, Iw7, r7, y7, st7, n7⟩ => ?_
      have Iw7' := Iw7.pinned (stands Iw7 n7) (T.obj _ _ st7)
      refine thnF (pg.run _ sw7 _ Hw7 x u _ Iw7' r7 (step x Hw7 y7)) fun _ sw8 ⟨σ8, Hw8, Iw8, hw8, q8⟩ => ?_
      refine thnF (pt.run _ sw8 σ8 Hw8 _ Iw8 q8) fun b sw9 ⟨Hw9, Iw9, q9⟩ => ?_
      -- the turn's end
      have endTurn : ∀ {s' : Shared} {H' : Hp}, Inv (X.blk sw3 Hw3 scope ce fp) ([] ++ pinsAt fp sw7.heap) σ8 H' s' → Nx H' → ∃ m, m < n ∧ ∃ i H', Inv (X.blk sw3 Hw3 scope ce fp) [] (wipe σ (own.map (·.2))) H' s' ∧ tn i s'.heap ∧ (∀ b ∈ fp, H' b = none) ∧ W i m H' := fun {s' H'} I' nx => by
        obtain ⟨m', hm, w'⟩ := hNx H' nx
        have pin' : ∀ b ∈ fp, ∀ o, sw7.heap.get? b = some o → s'.heap.get? b = some o ∧ H' b = none := fun b hb o e =>
          let z := I'.pin (b, o) (List.mem_append_right _ (List.mem_append_right _ (mem_pinsAt hb e)))
          ⟨z.1, z.2.1⟩
        have hl : (wipe σ (own.map (·.2))).length = σ8.length := by rw [← hw8, wipe_length]
        refine ⟨m', hm, i + 1, H', (I'.unpinned (pins := [])).weak hl (fun j v e => ?_), T.keep _ _ _ st7 fun b hb o e => (pin' b hb o e).1, fun b hb => ?_, w'⟩
        · rw [← hw8] at e
          exact (wipe_some e).1
        · obtain ⟨o, e, _⟩ := T.obj _ _ st7 b hb
          exact (pin' b hb o e).2
      cases b with
      | false =>
        simp only [Bool.false_eq_true, if_false] at q9 ⊢
        exact endTurn Iw9 q9
      | true =>
        simp only [if_true] at q9 ⊢
        refine thnF (pk.run _ sw9 σ8 Hw9 _ Iw9 q9) fun z sw10 ⟨yk, Hw10, Iw10, r10, q10⟩ => ?_
        refine thnF (pe.run _ sw10 σ8 Hw10 _ Iw10 q10) fun z2 sw11 ⟨yv, Hw11, Iw11, r11, kb, kvs, k, ek, hk11, hD11, hz11, nx⟩ => ?_
        subst ek
        cases (show z = Value.ref kb from r10)
        exact dt_set (X := X.blk sw3 Hw3 scope ce fp) hu Iw11 hD11 hk11 r11 hz11 fun sw12 Iw12 => endTurn Iw12 nx
  exact codeAny_compStart_dict loop (T.self X.A 0 _ _ _ st4 loop)
/-- as a value -/
theorem pe_dcT {kx vx tg iter : Expr} {ifs : List Expr} {scope : Scope} {own : List (Str × Nat)} {pos : Pos} {wi : TI} {g : TG} {tt : TT} {tk tv : TE} (hu : X.A.units + 1 < cLine) (hc : X.calm = true) (hN : X.N.Nodup) (hi : PI X tg iter wi) (ok : BlkOk X.N X.env.scope scope own)
    (hg : ∀ (s : Shared) (H : Hp) (C : Addr) (cl : List (Str × Addr)) (fp : List Addr), PG (X.blk s H scope (compEnvC scope cl C X.env) fp) tg g) (ht : ∀ (s : Shared) (H : Hp) (C : Addr) (cl : List (Str × Addr)) (fp : List Addr), PTs (X.blk s H scope (compEnvC scope cl C X.env) fp) ifs tt)
    (hk : ∀ (s : Shared) (H : Hp) (C : Addr) (cl : List (Str × Addr)) (fp : List Addr), PE (X.blk s H scope (compEnvC scope cl C X.env) fp) kx tk)
    (he : ∀ (s : Shared) (H : Hp) (C : Addr) (cl : List (Str × Addr)) (fp : List Addr), PE (X.blk s H scope (compEnvC scope cl C X.env) fp) vx tv) (hs : ∀ x, foldedSetIterable iter X.env x = pure x := by intro _; rfl) :
    PE X (.DictComp kx vx [⟨tg, iter, ifs, 0⟩] scope pos) (tDcT wi g tt tk tv (own.map (·.2))) := by
  refine ⟨fun pins s σ H Q I h => ?_⟩
  rw [arm_eval_DictComp]
  refine dcT_core hu hc hN I hi ok hg ht hk he hs h fun D C s' m H' I' q hn f => ⟨m, hn, fun h'' sb => ?_⟩
  obtain ⟨f0, f1, f2, f3, f4, f5⟩ := f
  exact ⟨.ref D, H', I'.turned (t' := s'.toks) (fun b o hb e => (sb.2 b hb).trans e) f0 f1 f3 f4 f5, rfl, q⟩
end
end Kx
set_option Elab.async false
set_option linter.all false
set_option maxRecDepth 100000
set_option maxHeartbeats 4000000
/-! K9: {x for x in xs} of texts, of tuples of ints, all unlike. -/
namespace Kx
open PySem L2 PyProof.Rows PySem.Calls
open PySem.Froz

theorem goesB {k : Bool} {prog : Program} {w : World} {A : Around} {tg : Expr} (hh : A.handled = none) (i a : Addr) (hne : a ≠ i) (its : Array Value) :
    Goes prog w A tg i [i, a] [i] its.size (fun j v _ => its[j]? = some v) (fun j h => RitB k h i a j ∧ RawB k h a its) := by
  cases k with
  | true =>
    have D := Goes.tuple (prog := prog) (w := w) (A := A) (target := tg) hh i a hne its
    have e : (fun j h => RitB true h i a j ∧ RawB true h a its) = fun j h => h.IsTupleIter i a j ∧ h.IsTuple a its := by
      funext j h
      refine propext ⟨fun ⟨p, q⟩ => ⟨p.elim (fun x => x.2) (fun x => nomatch x.1), q.elim (fun x => x.2) (fun x => nomatch x.1)⟩, fun ⟨p, q⟩ => ⟨.inl ⟨rfl, p⟩, .inl ⟨rfl, q⟩⟩⟩
    rw [e]
    exact D
  | false =>
    have D := Goes.list (prog := prog) (w := w) (A := A) (target := tg) hh i a hne its
    have e : (fun j h => RitB false h i a j ∧ RawB false h a its) = fun j h => h.IsListIter i a j ∧ h.IsList a its := by
      funext j h
      refine propext ⟨fun ⟨p, q⟩ => ⟨p.elim (fun x => nomatch x.1) (fun x => x.2), q.elim (fun x => nomatch x.1) (fun x => x.2)⟩, fun ⟨p, q⟩ => ⟨.inr ⟨rfl, p⟩, .inr ⟨rfl, q⟩⟩⟩
    rw [e]
    exact D
theorem RawB.at {k : Bool} {h h' : Heap} {a : Addr} {its : Array Value} (r : RawB k h a its) (e : ∀ o, h.get? a = some o → h'.get? a = some o) : RawB k h' a its := by
  rcases r with ⟨q, r⟩ | ⟨q, r⟩
  · exact .inl ⟨q, r.at e⟩
  · exact .inr ⟨q, r.at e⟩
/-- the set that the block fills: J i h, after i items -/
theorem sc_same {prog : Program} {w : World} {A : Around} {E : Value → Shared → Prop} {env : Env} {s : Shared} {scope : Scope} {cl : List (Str × Addr)} {x : Str} {pa pe : Pos} {k : Bool} {a : Addr} {its : Array Value} {Q : Value → Shared → Prop}
    (hh : A.handled = none) (hkind : scope.kind = .function) (hx : scope.names.lookup x = some .local) (hdb : (x == ("__debug__" : Str)) = false) (raw : RawB k s.heap a its) (J : Addr → Nat → Heap → Prop)
    (J0 : ∀ D h, h.get? D = some { cls := .type "set", dict := none, data := .set #[] 0 (.fresh 0 0 (!(w.params.followText "set-order"))) } → J D 0 h)
    (Jk : ∀ D i h h', J D i h → (∀ o, h.get? D = some o → h'.get? D = some o) → J D i h') (Jl : ∀ D i h, J D i h → ∃ o, h.get? D = some o)
    (add : ∀ D i v (s' : Shared) (E' : Value → Shared → Prop) (Q' : Value → Shared → Prop), its[i]? = some v → J D i s'.heap → s.heap.get? D = none → (∀ b o, s.heap.get? b = some o → s'.heap.get? b = some o) →
      (∀ h' tk, J D (i + 1) h' → (∀ b o, b ≠ D → s'.heap.get? b = some o → h'.get? b = some o) → Q' .none { s' with heap := h', toks := tk }) → wpAny (model prog w) A (call (.builtin "set.add") [.ref D, v]) Q' E' s')
    (hQ : ∀ D h' tk, s.heap.objs.size ≤ D → J D its.size h' → (∀ b o, s.heap.get? b = some o → h'.get? b = some o) → Q (.ref D) { s with heap := h', toks := tk }) :
    wpAny (model prog w) A (pyIter (.ref a)) (ScGoes prog w A E env scope cl (.Name x pa) [] (.Name x pe) none Q) E s := by
  obtain ⟨o1, B1, b1⟩ := beginsB (k := k) a its
  have la := raw.lt
  refine B1.iter prog w A E s _ raw ?_
  generalize hN : s.heap.objs.size = N
  rw [hN] at la
  have kB : ∀ b o, s.heap.get? b = some o → (s.heap.push o1).get? b = some o := fun b o e => Heap.get?_push_of_some _ e
  have hz : (s.heap.push o1).objs.size = N + 1 := by rw [Heap.size_push, hN]
  have it0 : RitB k (s.heap.push o1) N a 0 := b1 _ _ (by rw [← hN]; exact Heap.get?_push_size _ B1.free)
  have raw1 : RawB k (s.heap.push o1) a its := B1.keeps _ _ raw kB
  have newN : s.heap.get? N = none := Heap.get?_none_of_le (Nat.le_of_eq hN)
  refine ⟨N, [N, a], [N], its.size, _, _, rfl, goesB hh N a (Nat.ne_of_lt la) its, ⟨it0, raw1⟩, fun D C s3 hB hD => ?_⟩
  obtain ⟨⟨h3, tk3, rfl⟩, old, nD, nC, hDC, hnm⟩ := hB
  rw [hz] at nD nC
  have iD : N ≠ D := Nat.ne_of_lt nD
  have iC : N ≠ C := Nat.ne_of_lt nC
  have oldb : ∀ b o, s.heap.get? b = some o → b ≠ C ∧ b ≠ D ∧ b ≠ N := fun b o e => by
    have q : b < N := hN ▸ Heap.lt_size e
    exact ⟨Nat.ne_of_lt (Nat.lt_trans q nC), Nat.ne_of_lt (Nat.lt_trans q nD), Nat.ne_of_lt q⟩
  have gD : s.heap.get? D = none := Heap.get?_none_of_le (by rw [hN]; exact Nat.le_of_lt nD)
  have kx : (compEnvC scope cl C env).kindOf x = some .local := lookup_relabel_local hx
  have hp : ((compEnvC scope cl C env).scope.kind == .class || ((compEnvC scope cl C env).scope.kind == .module && (compEnvC scope cl C env).locals != (compEnvC scope cl C env).globals)) = false := by
    show (scope.kind == .class || (scope.kind == .module && _)) = false
    rw [hkind]
    rfl
  refine ⟨fun i s1 => ∃ h' tk m, s1 = { s with heap := h', toks := tk } ∧ h'.Ns C m ∧ J D i h' ∧ ∀ b o, s.heap.get? b = some o → h'.get? b = some o, ⟨h3, tk3, _, rfl, hnm, J0 D h3 hD, fun b o e => old b o (kB b o e)⟩, ?_, ?_, ?_⟩
  · rintro i s1 h' tk ⟨h4, tk4, m, rfl, n4, j4, k4⟩ hk _
    exact ⟨h', tk, m, rfl, n4.at' fun o e => hk _ o (fun q => iC (List.mem_singleton.mp q).symm) e, Jk D i _ _ j4 fun o e => hk D o (fun q => iD (List.mem_singleton.mp q).symm) e, fun b o e => hk b o (fun q => (oldb b o e).2.2 (List.mem_singleton.mp q)) (k4 b o e)⟩
  · rintro i v s1 hi hv st ⟨h4, tk4, m, rfl, n4, j4, k4⟩
    refine wpAny_assign_Name (wpAny_storeName_local kx n4 (fun h5 n5 s5 => ?_) hp)
    refine wpAny_tests_nil ?_
    show wpAny _ _ _ _ _ _
    rw [eval_Name _ _ _ hdb]
    refine wpAny_bind (wpAny_standAt (wpAny_loadName_local hkind kx n5 (v := v) (if_pos rfl) ?_))
    have k5 : ∀ b o, s.heap.get? b = some o → h5.get? b = some o := fun b o e => s5.extBut b o (oldb b o e).1 (k4 b o e)
    have j5 : J D i h5 := Jk D i _ _ j4 fun o e => s5.extBut D o hDC e
    refine add D i v _ _ _ hv j5 gD k5 fun h6 tk6 j6 k6 => ?_
    have nDC : C ≠ D := fun e => hDC e.symm
    refine ⟨⟨h6, tk6, _, rfl, n5.at' fun o e => k6 C o nDC e, j6, fun b o e => k6 b o (oldb b o e).2.1 (k5 b o e)⟩, ?_⟩
    exact ⟨st.1.at fun o e => k6 N o iD (s5.extBut N o iC e), st.2.at fun o e => k6 a o (fun z => by
      have q : a < D := Nat.lt_trans la nD
      exact absurd z (Nat.ne_of_lt q)) (s5.extBut a o (Nat.ne_of_lt (Nat.lt_trans la nC)) e)⟩
  · rintro s1 ⟨h4, tk4, m, rfl, n4, j4, k4⟩
    refine ⟨m, n4, fun h' hs' => hQ D h' tk4 (by rw [hN]; exact Nat.le_of_lt nD) (Jk D _ _ _ j4 fun o e => hs'.extBut D o hDC e) fun b o e => hs'.extBut b o (oldb b o e).1 (k4 b o e)⟩

/-! ### a set of texts -/
def SetTx (P : Program) (w : World) (h : Heap) (a : Addr) (zs : List Str) : Prop := ∃ D : SD, h.get? a = some (sObj "set" D) ∧ TxOk P w D zs ∧ Ris D.2.2.place.toList ∧ (w.params.followText "set-order" = true ∨ D.2.2.led = true)
def SetTxO (P : Program) (w : World) (a : Addr) (zs : List Str) : HO := .ext fun h => SetTx P w h a zs
theorem SetTx.at {P : Program} {w : World} {h h' : Heap} {a : Addr} {zs : List Str} (r : SetTx P w h a zs) (e : ∀ o, h.get? a = some o → h'.get? a = some o) : SetTx P w h' a zs := by
  obtain ⟨D, d1, d2⟩ := r
  exact ⟨D, e _ d1, d2⟩
theorem tailTx_ris (ep : Nat) (es1 : Array (Int × Value)) (t2 : SetTable) (b : Bool) (r : Ris t2.place.toList) : Ris (tailTx ep es1 t2 b).2.2.place.toList := by
  unfold tailTx
  by_cases c : (!b && t2.tooFull) = true
  · rw [if_pos c]
    exact relayAll_ris _ _ _
  · rw [if_neg c]
    exact r
theorem tailTx_led (ep : Nat) (es1 : Array (Int × Value)) (t2 : SetTable) (b : Bool) : (tailTx ep es1 t2 b).2.2.led = t2.led := by
  unfold tailTx
  by_cases c : (!b && t2.tooFull) = true
  · rw [if_pos c]
    exact relayAll_led _ _ _
  · rw [if_neg c]
theorem offTx (t : SetTable) : (if t.plain = true then { t with plain := false } else t).place = t.place ∧ (if t.plain = true then { t with plain := false } else t).led = t.led := by
  by_cases c : t.plain = true
  · rw [if_pos c]
    exact ⟨rfl, rfl⟩
  · rw [if_neg c]
    exact ⟨rfl, rfl⟩
theorem addTx_ris (h : Int) (v : Value) (D : SD) (r : Ris D.2.2.place.toList) : Ris (addTx h v D).2.2.place.toList := by
  unfold addTx
  refine tailTx_ris _ _ _ _ ?_
  rw [(offTx _).1]
  exact layNew_ris _ _ _ _ r
theorem addTx_led (h : Int) (v : Value) (D : SD) : (addTx h v D).2.2.led = D.2.2.led := by
  unfold addTx
  rw [tailTx_led, (offTx _).2]
  exact layNew_led _ _ _ _
section
variable {P : Program} {w : World} {A : Around} {E : Value → Shared → Prop} {s : Shared}
theorem add_tx {a : Addr} {zs : List Str} {z : Str} {t : Tok} {Q : Value → Shared → Prop} (R : SetTx P w s.heap a zs) (hz : z ∉ zs) (hb : zs.length + 1 < scanBound)
    (h : ∀ h' tk, SetTx P w h' a (z :: zs) → (∀ b o, b ≠ a → s.heap.get? b = some o → h'.get? b = some o) → Q .none { s with heap := h', toks := tk }) : wpAny (model P w) A (call (.builtin "set.add") [.ref a, .str z t]) Q E s := by
  obtain ⟨D, ho, F, hr, hl⟩ := R
  have hT : s.TypeIs (.ref a) "set" := ⟨_, ho, rfl⟩
  refine wpAny_call_entry PySem.F.slot_set_add hT PySem.F.entry_set_add ?_ (PySem.F.args_set_add_2 _ _)
  unfold Builtin.«set.add» Builtin.Frozenset.oneOther
  simp only [List.isEmpty_nil, bind_assoc]
  unfold Builtin.Frozenset.addrOf setAdd
  refine wpAny_bind (wpAny_pure ?_)
  try dsimp only
  refine wpAny_bind (wpAny_pure ?_)
  try dsimp only
  refine wpAny_bind ?_
  refine wpAny_holding ?_
  refine wpAny_bind ((strKind P w).pyHash (is_str z t) ?_)
  refine add_x (s := { s with toks := s.toks + 1 }) ho F hz hb ?_
  show wpAny _ _ (ret Value.none) _ _ _
  refine wpAny_pure ⟨_, rfl, h _ _ ⟨addTx (hashStr w z) (.str z t) D, get_upd _ ho rfl, add_ok t F, addTx_ris _ _ _ hr, hl.imp id fun q => by rw [addTx_led]; exact q⟩ fun b o hb e => ?_⟩
  exact (Heap.get?_update_other _ _ (Ne.symm hb)).trans e
theorem add_tt {a x : Addr} {L : List (Addr × List Int)} {n : List Int} {Q : Value → Shared → Prop} (R : ∃ es ep t, SetTR P w s.heap a L es ep t) (hx : IsT P w s.heap n x) (hn : n ∉ L.map (·.2)) (hb : L.length + 1 < 64) (hu : A.units + 3 < cLine)
    (h : ∀ h' tk L', (∃ es ep t, SetTR P w h' a L' es ep t) → L'.Perm ((x, n) :: L) → (∀ b o, b ≠ a → s.heap.get? b = some o → h'.get? b = some o) → Q .none { s with heap := h', toks := tk }) : wpAny (model P w) A (call (.builtin "set.add") [.ref a, .ref x]) Q E s := by
  obtain ⟨es, ep, t, R⟩ := R
  obtain ⟨o, ho, hex, _⟩ := id R.ob
  have hT : s.TypeIs (.ref a) "set" := ⟨_, ho, hex.1⟩
  refine wpAny_call_entry PySem.F.slot_set_add hT PySem.F.entry_set_add ?_ (PySem.F.args_set_add_2 _ _)
  unfold Builtin.«set.add» Builtin.Frozenset.oneOther
  simp only [List.isEmpty_nil, bind_assoc]
  unfold Builtin.Frozenset.addrOf setAdd
  refine wpAny_bind (wpAny_pure ?_)
  try dsimp only
  refine wpAny_bind (wpAny_pure ?_)
  try dsimp only
  refine wpAny_bind ?_
  refine wpAny_holding ?_
  refine wpAny_bind (wpAny_pyHash_tuple (show A.in1.units < cLine by show A.units + 1 < cLine; omega) hx ?_)
  refine add_at (s := { s with toks := s.toks + (n.length + 1) }) R hx (show A.in1.units < cLine by show A.units + 1 < cLine; omega) hb fun b h' L' es' ep' t' sb R' _ c2 => ?_
  show wpAny _ _ (ret Value.none) _ _ _
  exact wpAny_pure ⟨_, rfl, h _ _ L' ⟨es', ep', t', R'⟩ (c2 hn) fun b o hb e => (sb.2 b hb).trans e⟩
end

/-! ### as expressions -/
def tScX (K : PySem.W.Frag) (P : Program) (w : World) (te : TE) : TE := fun σ H Q => te σ H fun v H1 => ∃ a xs k, v = .ref a ∧ SqB K k H1 a xs ∧
  ((∃ zs : List Str, xs = zs.map V.str ∧ zs.Nodup ∧ zs.length < 60 ∧ ∀ p, H1 p = none → Q (.ref p) (upd H1 p (SetTxO P w p zs.reverse))) ∨
   (∃ ks : List (Addr × List Int), xs = ks.map (fun q => V.ref q.1) ∧ (∀ q ∈ ks, SqT K H1 q.1 (q.2.map V.int)) ∧ (ks.map (·.2)).Nodup ∧ ks.length < 60 ∧ ∀ p L, L.Perm ks → H1 p = none → Q (.ref p) (upd H1 p (SetTO P w p L))))
theorem vals_strs : ∀ {zs : List Str} {its : List Value} {i : Nat} {v : Value}, Vals (zs.map V.str) its → its[i]? = some v → ∃ z t, zs[i]? = some z ∧ v = .str z t
  | [], [], _, _, _, h => by simp at h
  | z :: zs, u :: us, 0, v, r, h => by
    cases r with
    | cons a b =>
      obtain ⟨t, e⟩ := a
      simp at h
      subst h
      exact ⟨z, t, rfl, e⟩
  | z :: zs, u :: us, i + 1, v, r, h => by
    cases r with
    | cons a b =>
      obtain ⟨z', t, e1, e2⟩ := vals_strs (i := i) b (by simpa using h)
      exact ⟨z', t, by simpa using e1, e2⟩
  | [], _ :: _, _, _, r, _ => by cases r
  | _ :: _, [], _, _, _, h => by simp at h
theorem take_rev {α : Type} {l : List α} {i : Nat} {x : α} (h : l[i]? = some x) : (l.take (i + 1)).reverse = x :: (l.take i).reverse := by
  rw [List.take_add_one, h]
  simp
theorem nodup_take {α : Type} {l : List α} {i : Nat} {x : α} (n : l.Nodup) (h : l[i]? = some x) : x ∉ l.take i := fun hm => by
  obtain ⟨j, hj⟩ := List.getElem?_of_mem hm
  have lt : j < i := by
    have := (List.getElem?_eq_some_iff.mp hj).1
    rw [List.length_take] at this
    omega
  rw [List.getElem?_take_of_lt lt] at hj
  have e : j = i := (List.getElem?_inj (List.getElem?_eq_some_iff.mp hj).1 n).mp (by rw [hj, h])
  omega
section
variable {X : Cx}
theorem pe_scX {x : Str} {pa pe pos : Pos} {iter : Expr} {te : TE} {scope : Scope} {own : List (Str × Nat)} (hc : X.calm = true) (hu : X.A.units + 8 < cLine) (ok : BlkOk X.N X.env.scope scope own) (hcell : ∀ y ∈ scope.names, y.2 ≠ .cell) (hx : scope.names.lookup x = some .local) (he : PE X iter te)
    (hdb : (x == ("__debug__" : Str)) = false := by decide) (hs : ∀ y, foldedSetIterable iter X.env y = pure y := by intro _; rfl) : PE X (.SetComp (.Name x pe) [⟨.Name x pa, iter, [], 0⟩] scope pos) (tScX X.K X.prog X.w te) := by
  refine ⟨fun pins s σ H Q I h => ?_⟩
  have hfr : ∀ y ∈ scope.names, y.2 = .free → ∃ c, X.env.cells.lookup y.1 = some c := fun y hy e => (ok.free y hy e).elim (fun k => I.ok.has _ (.inl k)) fun k => I.ok.has _ (.inr k)
  refine SetComp_goes (closure_ok hfr) hcell ok.kind (fun y hy e => by rw [ok.uniq y hy, e]) (thn (he.run pins s σ H _ I h) fun u s1 ⟨v, H1, I1, r1, a, xs, k, ev, hq, z⟩ => ?_) hs
  subst ev
  obtain rfl : u = Value.ref a := r1
  obtain ⟨its, rv, raw, hz⟩ := hq.raw I1
  have hh := I1.ok.hd hc
  have hl := rv.length
  rcases z with ⟨zs, rfl, nd, hz2, q⟩ | ⟨ks, rfl, ht, nd, hz2, q⟩
  · rw [List.length_map] at hl
    refine sc_same hh ok.kind hx hdb raw (fun D i h => SetTx X.prog X.w h D (zs.take i).reverse) (fun D h e => ?_) (fun D i h h' j e => j.at e) (fun D i h j => let ⟨_, e, _⟩ := j; ⟨_, e⟩) (fun D i v s' E' Q' hv j _ _ k => ?_) fun D h' tk hD j k => ?_
    · refine ⟨(#[], 0, .fresh 0 0 (!(X.w.params.followText "set-order"))), e, TxOk.nil rfl, List.Pairwise.nil, ?_⟩
      show _ ∨ (!X.w.params.followText "set-order") = true
      cases X.w.params.followText "set-order"
      · exact .inr rfl
      · exact .inl rfl
    · obtain ⟨z, t, e1, rfl⟩ := vals_strs rv (show its[i]? = some v by simpa using hv)
      refine add_tx j (by rw [List.mem_reverse]; exact nodup_take nd e1) (by rw [List.length_reverse, List.length_take]; unfold scanBound; omega) fun h' tk r kk => k h' tk ?_ kk
      show SetTx X.prog X.w h' D (zs.take (i + 1)).reverse
      rw [take_rev e1]
      exact r
    · have e : zs.take its.toArray.size = zs := List.take_of_length_le (by simp only [List.size_toArray]; omega)
      have j : SetTx X.prog X.w h' D (zs.take its.toArray.size).reverse := j
      rw [e] at j
      refine ⟨.ref D, upd H1 D (SetTxO X.prog X.w D zs.reverse), I1.laid (t' := tk) k hD ?_, rfl, q D (I1.hok.fresh hD)⟩
      obtain ⟨DD, d1, d2⟩ := id j
      exact ⟨j, ⟨_, d1⟩, fun h1 h2 x e => SetTx.at x e⟩
  · rw [List.length_map] at hl
    have er : its = ks.map fun q => Value.ref q.1 := refs_of_vals rv
    refine sc_same hh ok.kind hx hdb raw (fun D i h => ∃ L, L.Perm (ks.take i) ∧ SetT0 X.prog X.w h D L) (fun D h e => ⟨[], .nil, (setTR_fresh e).t0⟩) (fun D i h h' j e => ?_) (fun D i h j => ?_) (fun D i v s' E' Q' hv j _ old k => ?_) fun D h' tk hD j k => ?_
    · obtain ⟨L, pm, R⟩ := j
      obtain ⟨es, ep, t, ⟨o, ho, r⟩, z⟩ := R.ex
      exact ⟨L, pm, ⟨es, ep, t, ⟨o, e o ho, r⟩, z⟩⟩
    · obtain ⟨L, pm, R⟩ := j
      obtain ⟨es, ep, t, ⟨o, ho, r⟩, z⟩ := R.ex
      exact ⟨o, ho⟩
    · obtain ⟨L, pm, R⟩ := j
      have hv' : its[i]? = some v := by simpa using hv
      rw [er, List.getElem?_map] at hv'
      obtain ⟨q', e1, e2⟩ := Option.map_eq_some_iff.mp hv'
      subst e2
      have tt : ∀ q ∈ ks, IsT X.prog X.w s'.heap q.2 q.1 := fun q hq => isT_keep (Inv.isT I1 (ht q hq)) old
      have sub : ∀ q ∈ L, q ∈ ks := fun q hq => List.mem_of_mem_take (pm.mem_iff.mp hq)
      refine add_tt (R.full fun q hq => tt q (sub q hq)) (tt q' (List.mem_of_getElem? e1)) (fun hm => ?_) (by rw [pm.length_eq, List.length_take]; omega) (by omega) fun h' tk L' R' pm' kk => k h' tk ⟨L', ?_, ?_⟩ kk
      · have hm2 : q'.2 ∈ (ks.map (·.2)).take i := by
          rw [← List.map_take]
          exact (pm.map (·.2)).mem_iff.mp hm
        exact nodup_take nd (by rw [List.getElem?_map, e1]; rfl) hm2
      · rw [List.take_add_one, e1]
        exact pm'.trans ((List.Perm.cons _ pm).trans (List.perm_append_singleton _ _).symm)
      · obtain ⟨es, ep, t, R'⟩ := R'
        exact R'.t0
    · obtain ⟨L, pm, R⟩ := j
      have e : ks.take its.toArray.size = ks := List.take_of_length_le (by simp only [List.size_toArray]; omega)
      rw [e] at pm
      exact ⟨.ref D, upd H1 D (SetTO X.prog X.w D L), I1.laid (t' := tk) k hD (setTO_new R), rfl, q D L pm (I1.hok.fresh hD)⟩

/-! ### sorted of it: as many as there are -/
theorem perm_map {α β : Type} {f : α → β} : ∀ {l r : List β}, l.Perm r → ∀ m : List α, r = m.map f → ∃ m' : List α, m'.Perm m ∧ l = m'.map f := by
  intro l r h
  induction h with
  | nil => intro m e; exact ⟨m, .refl _, e⟩
  | @cons x a b h ih =>
    intro m e
    cases m with
    | nil => cases e
    | cons y m =>
      rw [List.map_cons] at e
      injection e with e1 e2
      obtain ⟨m', p, q⟩ := ih m e2
      exact ⟨y :: m', p.cons y, by rw [List.map_cons, e1, q]⟩
  | swap x y a =>
    intro m e
    match m, e with
    | u :: v :: m, e =>
      rw [List.map_cons, List.map_cons] at e
      injection e with e1 e2
      injection e2 with e2 e3
      exact ⟨v :: u :: m, .swap u v m, by rw [List.map_cons, List.map_cons, e1, e2, e3]⟩
    | [], e => cases e
    | [u], e =>
      injection e with e1 e2
      cases e2
  | trans _ _ ih1 ih2 =>
    intro m e
    obtain ⟨m2, p2, q2⟩ := ih2 m e
    obtain ⟨m1, p1, q1⟩ := ih1 m2 q2
    exact ⟨m1, p1.trans p2, q1⟩
theorem srtV_len {xs : List V} {ds : List PyData} (h : xs.length = ds.length) : (srtV xs ds).length = xs.length := by
  unfold srtV
  rw [List.length_map, List.length_mergeSort, List.length_zip]
  omega
theorem sok_cells (cs : List Cell) (h : cs.length ≤ 100000) : SOk (cs.map encC) := ⟨PySem.W.AllAlike.of fun _ _ => rfl, PySem.W.Sortable.tuples fun c => ⟨_, _, rfl⟩, by rw [List.length_map]; exact h, fun d hd => by
  obtain ⟨c, _, rfl⟩ := List.mem_map.mp hd
  simp [encC, PyData.depth, PyData.depthAll]⟩
theorem sok_strs (zs : List Str) (h : zs.length ≤ 100000) : SOk (zs.map PyData.str) := ⟨PySem.W.AllAlike.of fun _ _ => rfl, PySem.W.Sortable.others fun _ => ⟨(fun e => nomatch e), (fun _ e => nomatch e)⟩, by rw [List.length_map]; exact h, fun d hd => by
  obtain ⟨z, _, rfl⟩ := List.mem_map.mp hd
  simp [PyData.depth]⟩
def rSortX (K : PySem.W.Frag) (P : Program) (w : World) : List V → Hp → VK → Prop := fun vs H Q => ∃ p n, vs = [.ref p] ∧ ((∃ zs, H p = some (SetTxO P w p zs) ∧ zs.length = n ∧ n < 60) ∨
  (∃ L : List (Addr × List Int), H p = some (SetTO P w p L) ∧ (∀ q ∈ L, SqT K H q.1 (q.2.map V.int) ∧ q.2.length = 2) ∧ L.length = n ∧ n < 60)) ∧ ∀ q ys, ys.length = n → H q = none → Q (.ref q) (upd H q (.lst ys))
theorem str_of {P : Program} {w : World} {es : List (Int × Value)} (h : ElemsOf (strKind P w) es) : ∀ v ∈ es.map (·.2), ∃ z t, v = Value.str z t := fun v hv => by
  obtain ⟨e, he, rfl⟩ := List.mem_map.mp hv
  obtain ⟨⟨z, hk, _⟩, _⟩ := h e he
  have hk : Value.isStrOf z e.2 = true := hk
  cases hq : e.2 with
  | str y t => exact ⟨y, t, rfl⟩
  | _ => rw [hq] at hk; simp [Value.isStrOf] at hk
theorem strs_all : ∀ {out : List Value}, (∀ v ∈ out, ∃ z t, v = Value.str z t) → ∃ ys : List Str, Vals (ys.map V.str) out ∧ ys.length = out.length
  | [], _ => ⟨[], .nil, rfl⟩
  | v :: r, h => by
    obtain ⟨z, t, e⟩ := h v List.mem_cons_self
    obtain ⟨ys, p, l⟩ := strs_all fun u hu => h u (List.mem_cons_of_mem _ hu)
    exact ⟨z :: ys, .cons ⟨t, e⟩ p, by rw [List.length_cons, List.length_cons, l]⟩
theorem dp_strs {K : PySem.W.Frag} {H : Hp} : ∀ zs : List Str, DpAll K H (zs.map V.str) (zs.map PyData.str)
  | [] => .nil
  | z :: zs => .cons (.str z) (dp_strs zs)
theorem dp_ints {K : PySem.W.Frag} {H : Hp} : ∀ ns : List Int, DpAll K H (ns.map V.int) (ns.map PyData.int)
  | [] => .nil
  | n :: ns => .cons (.int n) (dp_ints ns)
theorem dp_tups {K : PySem.W.Frag} {H : Hp} : ∀ M : List (Addr × List Int), (∀ q ∈ M, SqT K H q.1 (q.2.map V.int)) → DpAll K H (M.map fun q => V.ref q.1) (M.map fun q => PyData.tuple (q.2.map PyData.int))
  | [], _ => .nil
  | q :: M, h => .cons (.tup (h q List.mem_cons_self) (dp_ints q.2)) (dp_tups M fun u hu => h u (List.mem_cons_of_mem _ hu))
theorem two_of {ns : List Int} (h : ns.length = 2) : ∃ a b, ns = [a, b] := by
  match ns, h with
  | [a, b], _ => exact ⟨a, b, rfl⟩
theorem sok_tups (M : List (Addr × List Int)) (hl : M.length ≤ 100000) (h : ∀ q ∈ M, q.2.length = 2) : SOk (M.map fun q => PyData.tuple (q.2.map PyData.int)) := by
  have e : M.map (fun q => PyData.tuple (q.2.map PyData.int)) = (M.map fun q => (q.2.getD 0 0, q.2.getD 1 0)).map encC := by
    rw [List.map_map]
    refine List.map_congr_left fun q hq => ?_
    obtain ⟨a, b, e⟩ := two_of (h q hq)
    show PyData.tuple (q.2.map PyData.int) = encC (q.2.getD 0 0, q.2.getD 1 0)
    rw [e]
    rfl
  rw [e]
  exact sok_cells _ (by rw [List.length_map]; exact hl)
theorem cr_sortX (hc : X.calm = true) (hu : X.A.units + 64 < cLine) : CallR X (.builtin "sorted") (rSortX X.K X.prog X.w) := by
  intro pins s σ H xs us Q I r h
  obtain ⟨p, n, rfl, h, q⟩ := h
  obtain ⟨u, rfl, rx⟩ := vals1 r
  obtain rfl : u = Value.ref p := rx
  have hh : X.A.in1.handled = none := I.ok.hd hc
  rcases h with ⟨zs, hp, hn, hlt⟩ | ⟨L, hp, ht, hn, hlt⟩
  · obtain ⟨D, ho, F, hr, hl⟩ : SetTx X.prog X.w s.heap p zs := (show ObjOk X.prog X.w H s.heap p (SetTxO X.prog X.w p zs) from I.hok p _ hp).1
    have hsz : D.1.size = n := F.sz.trans hn
    refine srt_coreP (fun xs ds => ∃ ys : List Str, xs = ys.map V.str ∧ ds = ys.map PyData.str ∧ ys.length = n) I hu (fun Q' k => ?_) (fun xs ds ⟨ys, e1, e2, e3⟩ => by
      subst e1 e2
      exact ⟨dp_strs ys, sok_strs ys (by omega)⟩) fun xs ds ⟨ys, e1, e2, e3⟩ p' hp' => q p' _ (by
      subst e1 e2
      rw [srtV_len (by simp)]
      simpa using e3) hp'
    refine collect_set hh ⟨_, ho, rfl, rfl⟩ F.fit (by unfold scanBound; omega) hr hl fun s1 out k1 hz g1 o1 pm => ?_
    obtain ⟨ys, p1, p2⟩ := strs_all fun v hv => str_of F.el v (pm.mem_iff.mp hv)
    exact k _ _ out s1 ⟨ys, rfl, rfl, by rw [p2, pm.length_eq, List.length_map, Array.length_toList, hsz]⟩ p1 k1 g1 o1
  · have R0 : SetT0 X.prog X.w s.heap p L := (show ObjOk X.prog X.w H s.heap p (SetTO X.prog X.w p L) from I.hok p _ hp).1
    obtain ⟨es, ep, t, R⟩ := R0.full fun q hq => Inv.isT I (ht q hq).1
    refine srt_coreP (fun xs ds => ∃ M : List (Addr × List Int), M.Perm L ∧ xs = M.map (fun q => V.ref q.1) ∧ ds = M.map fun q => PyData.tuple (q.2.map PyData.int)) I hu (fun Q' k => ?_) (fun xs ds ⟨M, pm, e1, e2⟩ => ?_) fun xs ds ⟨M, pm, e1, e2⟩ p' hp' => q p' _ (by
      subst e1 e2
      rw [srtV_len (by simp), List.length_map, pm.length_eq]
      exact hn) hp'
    · obtain ⟨o, ho, hex, hd⟩ := R.ob
      have hsz := R.size
      refine collect_set hh ⟨o, ho, hex.1, hd⟩ R.fits (by unfold scanBound; omega) R.tab.ris R.led fun s1 out k1 hz g1 o1 pm => ?_
      have er : es.toList.map (·.2) = L.map fun q => Value.ref q.1 := by
        rw [R.rows]
        unfold rowsOf
        rw [List.map_map]
        rfl
      rw [er] at pm
      obtain ⟨M, pM, eM⟩ := perm_map pm L rfl
      subst eM
      exact k _ _ _ s1 ⟨M, pM, rfl, rfl⟩ (vals_of_refs M) k1 g1 o1
    · subst e1 e2
      have hM : ∀ q ∈ M, SqT X.K H q.1 (q.2.map V.int) ∧ q.2.length = 2 := fun q hq => ht q (pm.mem_iff.mp hq)
      have hl : M.length ≤ 100000 := by rw [pm.length_eq]; omega
      clear pm
      refine ⟨dp_tups M fun q hq => (hM q hq).1, sok_tups M hl fun q hq => (hM q hq).2⟩
end
end Kx
set_option Elab.async false
set_option linter.all false
set_option maxRecDepth 100000
set_option maxHeartbeats 4000000
/-! K10: slots by what stands in them (Sl), statements and loops over that, comprehensions. -/
namespace Kx
open PySem L2

theorem AllP.one {R : RP} {vs : List V} {H : Hp} (h : AllP [R] vs H) : ∃ v, vs = [v] ∧ R.p v H := by
  match vs, h with
  | [v], h => exact ⟨v, rfl, h.1⟩
theorem AllP.two {R S : RP} {vs : List V} {H : Hp} (h : AllP [R, S] vs H) : ∃ v w, vs = [v, w] ∧ R.p v H ∧ S.p w H := by
  match vs, h with
  | [v, w], h => exact ⟨v, w, rfl, h.1, h.2.1⟩
/-! ### what stands in the slots -/
abbrev Gm := List (Option RP)
def Sl (σ : L2.St) (H : Hp) (Γ : Gm) : Prop := σ.length = Γ.length ∧ ∀ (i : Nat) (R : RP), Γ[i]? = some (some R) → ∃ v, σ[i]? = some (some v) ∧ R.p v H
def wp (Γ : Gm) : List Nat → Gm
  | [] => Γ
  | v :: vs => (wp Γ vs).set v none
section
variable {σ : L2.St} {H H' : Hp} {Γ : Gm}
theorem Sl.up (s : Sl σ H Γ) (e : Ex H H') : Sl σ H' Γ := ⟨s.1, fun i R h => let ⟨v, a, b⟩ := s.2 i R h; ⟨v, a, R.mono e b⟩⟩
theorem Sl.set {j : Nat} {v : V} {R : RP} (s : Sl σ H Γ) (h : R.p v H) : Sl (σ.set j (some v)) H (Γ.set j (some R)) := by
  refine ⟨by rw [List.length_set, List.length_set]; exact s.1, fun i S hi => ?_⟩
  by_cases e : j = i
  · subst e
    have lt : j < Γ.length := by
      rcases Nat.lt_or_ge j Γ.length with z | z
      · exact z
      · rw [List.getElem?_eq_none (by rw [List.length_set]; exact z)] at hi
        cases hi
    rw [List.getElem?_set_self lt] at hi
    cases hi
    exact ⟨v, List.getElem?_set_self (by rw [s.1]; exact lt), h⟩
  · rw [List.getElem?_set_ne e] at hi
    obtain ⟨w, a, b⟩ := s.2 i S hi
    exact ⟨w, by rw [List.getElem?_set_ne e]; exact a, b⟩
theorem Sl.drop1 (s : Sl σ H Γ) (j : Nat) : Sl (σ.set j none) H (Γ.set j none) := by
  refine ⟨by rw [List.length_set, List.length_set]; exact s.1, fun i S hi => ?_⟩
  by_cases e : j = i
  · subst e
    rcases Nat.lt_or_ge j Γ.length with z | z
    · rw [List.getElem?_set_self z] at hi
      cases hi
    · rw [List.getElem?_eq_none (by rw [List.length_set]; exact z)] at hi
      cases hi
  · rw [List.getElem?_set_ne e] at hi
    obtain ⟨w, a, b⟩ := s.2 i S hi
    exact ⟨w, by rw [List.getElem?_set_ne e]; exact a, b⟩
theorem Sl.wipe (s : Sl σ H Γ) : ∀ vs, Sl (L2.wipe σ vs) H (wp Γ vs)
  | [] => s
  | v :: vs => (s.wipe vs).drop1 v
theorem Sl.start {N : List Str} {Rs : List RP} {vs : List V} (h : AllP Rs vs H) (hl : Rs.length ≤ N.length) : Sl (start N vs) H (Rs.map some ++ List.replicate (N.length - Rs.length) none) := by
  have l := h.len
  refine ⟨by unfold L2.start; rw [List.length_append, List.length_append, List.length_map, List.length_map, List.length_replicate, List.length_replicate, l], fun i R hi => ?_⟩
  rcases Nat.lt_or_ge i Rs.length with z | z
  · rw [List.getElem?_append_left (by rw [List.length_map]; exact z), List.getElem?_map] at hi
    obtain ⟨S, h1, h2⟩ := Option.map_eq_some_iff.mp hi
    cases h2
    obtain ⟨v, v1, v2⟩ := h.get h1
    refine ⟨v, ?_, v2⟩
    unfold L2.start
    rw [List.getElem?_append_left (by rw [List.length_map, l]; exact z), List.getElem?_map, v1]
    rfl
  · rw [List.getElem?_append_right (by rw [List.length_map]; exact z), List.getElem?_replicate] at hi
    split at hi <;> cases hi
/-- a slot's value -/
theorem e_s {i : Nat} {R : RP} (s : Sl σ H Γ) (h : Γ[i]? = some (some R) := by rfl) : Ev (tVar i) σ H R := by
  obtain ⟨v, a, b⟩ := s.2 i R h
  exact e_var a b
theorem Sl.weak {Γ' : Gm} (s : Sl σ H Γ) (hl : Γ'.length = Γ.length) (h : ∀ (i : Nat) (R : RP), Γ'[i]? = some (some R) → ∃ S, Γ[i]? = some (some S) ∧ ∀ v, S.p v H → R.p v H) : Sl σ H Γ' :=
  ⟨by rw [s.1, hl], fun i R hi => let ⟨S, a, b⟩ := h i R hi; let ⟨v, c, d⟩ := s.2 i S a; ⟨v, c, b v d⟩⟩
end
theorem wipe_same {σ : L2.St} {j : Nat} {x : Option V} : ∀ {vs : List Nat}, j ∈ vs → wipe (σ.set j x) vs = wipe σ vs
  | v :: vs, h => by
    unfold wipe
    by_cases e : j ∈ vs
    · rw [wipe_same e]
    · have : j = v := by simpa [e] using h
      subst this
      have : ∀ (vs : List Nat) (τ : L2.St), j ∉ vs → (wipe (τ.set j x) vs).set j none = (wipe τ vs).set j none := by
        intro vs
        induction vs with
        | nil =>
          intro τ _
          show (τ.set j x).set j none = τ.set j none
          rw [List.set_set]
        | cons u us ih =>
          intro τ hn
          unfold wipe
          have n1 : u ≠ j := fun z => hn (by rw [z]; exact List.mem_cons_self)
          rw [List.set_comm _ _ n1, ih τ (fun z => hn (List.mem_cons_of_mem _ z)), List.set_comm _ _ n1.symm]
      exact this vs σ e
  | [], h => by cases h
theorem wipe_wipe {σ : L2.St} : ∀ {vs : List Nat}, wipe (wipe σ vs) vs = wipe σ vs := by
  have key : ∀ (us vs : List Nat) (τ : L2.St), (∀ u ∈ us, u ∈ vs) → wipe (wipe τ us) vs = wipe τ vs := by
    intro us
    induction us with
    | nil => intro vs τ _; rfl
    | cons u us ih =>
      intro vs τ h
      show wipe ((wipe τ us).set u none) vs = wipe τ vs
      rw [wipe_same (h u List.mem_cons_self)]
      exact ih vs τ fun z hz => h z (List.mem_cons_of_mem _ hz)
  intro vs
  exact key vs vs σ fun _ h => h

/-! ### what stands still while a list or a dict of one's own changes -/
def Nt (u : HO) : Prop := (∃ xs, u = .lst xs) ∨ (∃ k, u = .dK k) ∨ ∃ k, u = .dT k
theorem Nt.no {u : HO} (h : Nt u) (xs : List V) : u ≠ .tup xs := fun e => by
  subst e
  rcases h with ⟨_, h⟩ | ⟨_, h⟩ | ⟨_, h⟩ <;> cases h
class Ms (H0 : Hp) (R : RP) : Prop where
  ms : ∀ (H : Hp) (p : Addr) (u o : HO) (v : V), H p = some u → Nt u → H0 p = none → R.p v H → R.p v (upd H p o)
class MsL (H0 : Hp) (Rs : List RP) : Prop where
  ms : ∀ R ∈ Rs, Ms H0 R
class MsG (H0 : Hp) (Γ : Gm) : Prop where
  ms : ∀ R, some R ∈ Γ → Ms H0 R
section
variable {H0 : Hp}
instance ms_v {x : V} : Ms H0 (rV x) := ⟨fun _ _ _ _ _ _ _ _ h => h⟩
theorem allP_ms {H : Hp} {p : Addr} {u o : HO} (hp : H p = some u) (nt : Nt u) (h0 : H0 p = none) : ∀ {Rs : List RP} {vs : List V}, (∀ R ∈ Rs, Ms H0 R) → AllP Rs vs H → AllP Rs vs (upd H p o)
  | [], [], _, _ => trivial
  | R :: Rs, v :: vs, h, a => ⟨(h R List.mem_cons_self).ms H p u o v hp nt h0 a.1, allP_ms hp nt h0 (fun S hS => h S (List.mem_cons_of_mem _ hS)) a.2⟩
  | [], _ :: _, _, a => a.elim
  | _ :: _, [], _, a => a.elim
instance ms_tup {Rs : List RP} [h : MsL H0 Rs] : Ms H0 (rTup Rs) := ⟨fun H p u o v hp nt h0 ⟨a, xs, e, ha, hx⟩ => ⟨a, xs, e, by
  rw [upd_ne (fun z => by
    subst z
    rw [hp] at ha
    cases ha
    exact nt.no xs rfl)]
  exact ha, allP_ms hp nt h0 h.ms hx⟩⟩
instance msl_nil : MsL H0 [] := ⟨fun _ h => by cases h⟩
instance msl_cons {R : RP} {Rs : List RP} [a : Ms H0 R] [b : MsL H0 Rs] : MsL H0 (R :: Rs) := ⟨fun S h => by
  rcases List.mem_cons.mp h with e | h
  · rw [e]
    exact a
  · exact b.ms S h⟩
instance msl_map {α : Type} {f : α → RP} {as : List α} [h : ∀ a, Ms H0 (f a)] : MsL H0 (as.map f) := ⟨fun S hS => by
  obtain ⟨a, _, rfl⟩ := List.mem_map.mp hS
  exact h a⟩
instance msg_nil : MsG H0 [] := ⟨fun _ h => by cases h⟩
instance msg_none {Γ : Gm} [b : MsG H0 Γ] : MsG H0 (none :: Γ) := ⟨fun S h => by
  rcases List.mem_cons.mp h with e | h
  · cases e
  · exact b.ms S h⟩
instance msg_some {R : RP} {Γ : Gm} [a : Ms H0 R] [b : MsG H0 Γ] : MsG H0 (some R :: Γ) := ⟨fun S h => by
  rcases List.mem_cons.mp h with e | h
  · cases e
    exact a
  · exact b.ms S h⟩
/-- as it was at the entry -/
def rAt (H0 : Hp) (R : RP) : RP := ⟨fun v H => R.p v H0 ∧ Ex H0 H, fun e h => ⟨h.1, h.2.trans e⟩⟩
theorem rAt.to {R : RP} {v : V} {H : Hp} (h : (rAt H0 R).p v H) : R.p v H := R.mono h.2 h.1
instance ms_at {R : RP} : Ms H0 (rAt H0 R) := ⟨fun H p u o v hp nt h0 h => ⟨h.1, Evl.Ex.mut h.2 h0⟩⟩
theorem Sl.mut {σ : L2.St} {H : Hp} {Γ : Gm} {p : Addr} {u o : HO} (s : Sl σ H Γ) (hp : H p = some u) (nt : Nt u) (h0 : H0 p = none) [g : MsG H0 Γ] : Sl σ (upd H p o) Γ :=
  ⟨s.1, fun i R hi => let ⟨v, a, b⟩ := s.2 i R hi; ⟨v, a, (g.ms R (List.mem_of_getElem? hi)).ms H p u o v hp nt h0 b⟩⟩
theorem nt_l {xs : List V} : Nt (.lst xs) := .inl ⟨_, rfl⟩
theorem nt_k {xs : List (Key × V)} : Nt (.dK xs) := .inr (.inl ⟨_, rfl⟩)
theorem nt_t {xs : List (List Key × V)} : Nt (.dT xs) := .inr (.inr ⟨_, rfl⟩)
end

/-! ### a list or a tuple -/
theorem SqB.up {K : PySem.W.Frag} {k : Bool} {H H' : Hp} {a : Addr} {xs : List V} (h : SqB K k H a xs) (e : Ex H H') : SqB K k H' a xs := by
  rcases h with ⟨q, h⟩ | ⟨q, h⟩
  · exact .inl ⟨q, Evl.ex_t e h⟩
  · exact .inr ⟨q, Evl.ex_l e h⟩
def rSq (K : PySem.W.Frag) (k : Bool) (Rs : List RP) : RP := ⟨fun v H => ∃ a xs, v = .ref a ∧ SqB K k H a xs ∧ AllP Rs xs H, fun e ⟨a, xs, h1, h2, h3⟩ => ⟨a, xs, h1, h2.up e, h3.mono e⟩⟩
theorem sq_tup {K : PySem.W.Frag} {Rs : List RP} {v : V} {H : Hp} (h : (rTup Rs).p v H) : (rSq K true Rs).p v H := let ⟨a, xs, e, ha, hx⟩ := h; ⟨a, xs, e, .inl ⟨rfl, SqT.of ha⟩, hx⟩
theorem sq_lst {K : PySem.W.Frag} {Rs : List RP} {v : V} {H : Hp} (h : (rLst Rs).p v H) : (rSq K false Rs).p v H := let ⟨a, xs, e, ha, hx⟩ := h; ⟨a, xs, e, .inr ⟨rfl, SqL.of ha⟩, hx⟩
section
variable {K : PySem.W.Frag} {σ : L2.St} {H : Hp} {te : TE} {Rs : List RP}
theorem e_sqT (h : Ev te σ H (rTup Rs)) : Ev te σ H (rSq K true Rs) := h.imp fun _ _ _ => sq_tup
theorem e_sqL (h : Ev te σ H (rLst Rs)) : Ev te σ H (rSq K false Rs) := h.imp fun _ _ _ => sq_lst
theorem e_at {H0 : Hp} {R : RP} (h : Ev te σ H (rAt H0 R)) : Ev te σ H R := h.imp fun _ _ _ => rAt.to
end

/-! ### statements -/
section
variable {K : PySem.W.Frag} {σ : L2.St} {H : Hp} {Γ : Gm} {te ta tb : TE} {R S : RP} {D : Ends} {tu tw tz : TS} {t : TT} {tr : TA}
theorem q_asg {j : Nat} (s : Sl σ H Γ) (h : Ev te σ H R) (k : ∀ σ' H', Ex H H' → Sl σ' H' (Γ.set j (some R)) → tz D σ' H') : tSeq (tAsg te (gName j)) tz D σ H :=
  s_asg (D := { D with nx := tz D }) h fun v H1 e hv => k _ H1 e ((s.up e).set hv)
/-- of which the address is wanted -/
theorem q_asgA {j : Nat} (s : Sl σ H Γ) (h : Ev te σ H R) (k : ∀ v σ' H', Ex H H' → R.p v H' → Sl σ' H' (Γ.set j (some (rV v))) → tz D σ' H') : tSeq (tAsg te (gName j)) tz D σ H :=
  s_asg (D := { D with nx := tz D }) h fun v H1 e hv => k v _ H1 e hv ((s.up e).set (R := rV v) rfl)
theorem q_par {i j : Nat} (s : Sl σ H Γ) (h : EvA tr σ H [R, S]) (k : ∀ σ' H', Ex H H' → Sl σ' H' ((Γ.set i (some R)).set j (some S)) → tz D σ' H') : tSeq (tPar i j tr) tz D σ H :=
  s_par (D := { D with nx := tz D }) h fun v w H1 e hv hw => k _ H1 e (((s.up e).set hv).set hw)
theorem q_parA {i j : Nat} (s : Sl σ H Γ) (h : EvA tr σ H [R, S]) (k : ∀ v w σ' H', Ex H H' → R.p v H' → S.p w H' → Sl σ' H' ((Γ.set i (some (rV v))).set j (some (rV w))) → tz D σ' H') : tSeq (tPar i j tr) tz D σ H :=
  s_par (D := { D with nx := tz D }) h fun v w H1 e hv hw => k v w _ H1 e hv hw (((s.up e).set (R := rV v) rfl).set (R := rV w) rfl)
theorem q_unp2 {i j : Nat} (s : Sl σ H Γ) (h : Ev te σ H (rTup [R, S])) (k : ∀ σ' H', Ex H H' → Sl σ' H' ((Γ.set i (some R)).set j (some S)) → tz D σ' H') : tSeq (tAsg te (gTup K 2 (gCons (gName i) (gCons (gName j) gNil)))) tz D σ H :=
  s_unp2 (D := { D with nx := tz D }) h fun v w H1 e hv hw => k _ H1 e (((s.up e).set hv).set hw)
theorem q_drop (h : Ev te σ H R) (k : ∀ H', Ex H H' → tz D σ H') : tSeq (tDrop te) tz D σ H := s_drop (D := { D with nx := tz D }) h k
theorem q_if {b : Bool} (h : EvT t σ H b) (h1 : b = true → ∀ H1, Ex H H1 → tu { D with nx := tz D } σ H1) (h2 : b = false → ∀ H1, Ex H H1 → tw { D with nx := tz D } σ H1) : tSeq (tIfS t tu tw) tz D σ H := s_if (D := { D with nx := tz D }) h h1 h2
/-- an if that is not taken, without else -/
theorem q_no (h : EvT t σ H false) (k : ∀ H1, Ex H H1 → tz D σ H1) : tSeq (tIfS t tu tNext) tz D σ H := q_if h (fun z => nomatch z) fun _ H1 e => k H1 e
theorem q_yes (h : EvT t σ H true) (k : ∀ H1, Ex H H1 → tu { D with nx := tz D } σ H1) : tSeq (tIfS t tu tw) tz D σ H := q_if h (fun _ => k) fun z => nomatch z
/-- l.append(e) -/
theorem s_app {l : Addr} {xs : List V} {Rl : RP} (hl : H l = some (.lst xs)) (ha : Ev ta σ H (rV (.ref l))) (h : Ev te σ H R) (hz : xs.length < 100000) (k : ∀ v H1, Ex H H1 → R.p v H1 → H1 l = some (.lst xs) → D.nx σ (upd H1 l (.lst (xs ++ [v])))) :
    tDrop (tBM K "list" rAppend ta (tCons te tNil)) D σ H := ha H (exr H) _ fun v H1 e1 hv => by
  have hv : v = .ref l := hv
  subst hv
  exact ⟨.inl ⟨rfl, xs, SqL.of (e1 l _ hl)⟩, h H1 e1 _ fun y H2 e2 hy => ⟨l, xs, y, rfl, rfl, (e1.trans e2) l _ hl, Evl.sz_lt hz, k y H2 (e1.trans e2) hy ((e1.trans e2) l _ hl)⟩⟩
theorem q_app {l : Addr} {xs : List V} (hl : H l = some (.lst xs)) (ha : Ev ta σ H (rV (.ref l))) (h : Ev te σ H R) (hz : xs.length < 100000) (k : ∀ v H1, Ex H H1 → R.p v H1 → H1 l = some (.lst xs) → tz D σ (upd H1 l (.lst (xs ++ [v])))) :
    tSeq (tDrop (tBM K "list" rAppend ta (tCons te tNil))) tz D σ H := s_app (Rl := R) (D := { D with nx := tz D }) hl ha h hz k
/-! ### loops -/
theorem s_while (W : Nat → L2.St → Hp → Prop) (m0 : Nat) (h0 : W m0 σ H)
    (hs : ∀ m σ' H', W m σ' H' → ∃ b, EvT t σ' H' b ∧ (b = true → ∀ H1, Ex H' H1 → ∃ N : L2.St → Hp → Prop, (∀ σ2 H2, N σ2 H2 → ∃ m', m' < m ∧ W m' σ2 H2) ∧ tu { D with nx := N, ct := N, bk := D.nx } σ' H1) ∧ (b = false → ∀ H1, Ex H' H1 → D.nx σ' H1)) : tWhile t tu D σ H := by
  refine ⟨W, ⟨m0, h0⟩, fun m σ' H' w => ?_⟩
  obtain ⟨b, ht, h1, h2⟩ := hs m σ' H' w
  refine ht H' (exr H') _ fun H1 e => ?_
  cases b with
  | true =>
    rw [if_pos rfl]
    exact h1 rfl H1 e
  | false =>
    rw [if_neg (by decide)]
    exact h2 rfl H1 e
theorem q_while (W : Nat → L2.St → Hp → Prop) (m0 : Nat) (h0 : W m0 σ H)
    (hs : ∀ m σ' H', W m σ' H' → ∃ b, EvT t σ' H' b ∧ (b = true → ∀ H1, Ex H' H1 → ∃ N : L2.St → Hp → Prop, (∀ σ2 H2, N σ2 H2 → ∃ m', m' < m ∧ W m' σ2 H2) ∧ tu { D with nx := N, ct := N, bk := tz D } σ' H1) ∧ (b = false → ∀ H1, Ex H' H1 → tz D σ' H1)) : tSeq (tWhile t tu) tz D σ H :=
  s_while (D := { D with nx := tz D }) W m0 h0 hs
/-- for .. in a list or a tuple; Pv a xs i: before turn i -/
theorem s_forQ {tl : TE} {g : TG} {k : Bool} {Rs : List RP} (h : Ev tl σ H (rSq K k Rs)) (Pv : Addr → List V → Nat → L2.St → Hp → Prop) (h0 : ∀ a xs H1, Ex H H1 → SqB K k H1 a xs → AllP Rs xs H1 → Pv a xs 0 σ H1)
    (hl : ∀ a xs i σ' H', Pv a xs i σ' H' → SqB K k H' a xs) (hs : ∀ a xs i x σ' H', i < Rs.length → xs[i]? = some x → Pv a xs i σ' H' → g x σ' H' fun σ2 H2 => tu { D with nx := Pv a xs (i + 1), ct := Pv a xs (i + 1), bk := D.nx } σ2 H2)
    (hd : ∀ a xs σ' H', Pv a xs Rs.length σ' H' → D.nx σ' H') : tFor (iSeq K tl) g tu D σ H := h H (exr H) _ fun v H1 e ⟨a, xs, ev, hq, hx⟩ => ⟨a, xs, k, ev, hq, by
    have l := hx.len
    exact for_it walk_seq (Pv a xs) (h0 a xs H1 e hq hx) (fun i σ' H' _ p => hl a xs i σ' H' p) (fun i x σ' H' H2 hi p y => by
      obtain ⟨e2, hy⟩ := y
      rw [e2]
      exact hs a xs i x σ' H' (by omega) hy p) fun σ' H' p => hd a xs σ' H' (by rw [← l]; exact p)⟩
theorem q_forQ {tl : TE} {g : TG} {k : Bool} {Rs : List RP} (h : Ev tl σ H (rSq K k Rs)) (Pv : Addr → List V → Nat → L2.St → Hp → Prop) (h0 : ∀ a xs H1, Ex H H1 → SqB K k H1 a xs → AllP Rs xs H1 → Pv a xs 0 σ H1)
    (hl : ∀ a xs i σ' H', Pv a xs i σ' H' → SqB K k H' a xs) (hs : ∀ a xs i x σ' H', i < Rs.length → xs[i]? = some x → Pv a xs i σ' H' → g x σ' H' fun σ2 H2 => tu { D with nx := Pv a xs (i + 1), ct := Pv a xs (i + 1), bk := tz D } σ2 H2)
    (hd : ∀ a xs σ' H', Pv a xs Rs.length σ' H' → tz D σ' H') : tSeq (tFor (iSeq K tl) g tu) tz D σ H := s_forQ (D := { D with nx := tz D }) h Pv h0 hl hs hd
theorem s_forR {g : TG} {n : Int} (h : EvA tr σ H [rInt n]) (hn : -100000 ≤ n ∧ n ≤ 100000) (Pv : Nat → L2.St → Hp → Prop) (h0 : ∀ H1, Ex H H1 → Pv 0 σ H1)
    (hs : ∀ (i : Nat) σ' H', i < n.toNat → Pv i σ' H' → g (.int (i : Int)) σ' H' fun σ2 H2 => tu { D with nx := Pv (i + 1), ct := Pv (i + 1), bk := D.nx } σ2 H2) (hd : ∀ σ' H', Pv n.toNat σ' H' → D.nx σ' H') : tFor (iRng1 tr) g tu D σ H := h H (exr H) _ fun vs H1 e hv => by
    obtain ⟨v, rfl, e1⟩ := hv.one
    have e1 : v = .int n := e1
    subst e1
    refine ⟨n, rfl, by omega, by omega, for_it (walk_range (lo := 0)) Pv (h0 H1 e) (fun _ _ _ _ _ => trivial) (fun i x σ' H' H2 hi p y => ?_) fun σ' H' p => hd σ' H' p⟩
    obtain ⟨e2, e3⟩ := y
    have e3 : x = .int (0 + (i : Nat)) := e3
    rw [e2, e3, Int.zero_add]
    exact hs i σ' H' hi p
theorem q_forR {g : TG} {n : Int} (h : EvA tr σ H [rInt n]) (hn : -100000 ≤ n ∧ n ≤ 100000) (Pv : Nat → L2.St → Hp → Prop) (h0 : ∀ H1, Ex H H1 → Pv 0 σ H1)
    (hs : ∀ (i : Nat) σ' H', i < n.toNat → Pv i σ' H' → g (.int (i : Int)) σ' H' fun σ2 H2 => tu { D with nx := Pv (i + 1), ct := Pv (i + 1), bk := tz D } σ2 H2) (hd : ∀ σ' H', Pv n.toNat σ' H' → tz D σ' H') : tSeq (tFor (iRng1 tr) g tu) tz D σ H :=
  s_forR (D := { D with nx := tz D }) h hn Pv h0 hs hd
theorem g_name {j : Nat} {x : V} {Q : L2.St → Hp → Prop} (s : Sl σ H Γ) (h : R.p x H) (k : ∀ σ', Sl σ' H (Γ.set j (some R)) → Q σ' H) : gName j x σ H Q := k _ (s.set h)
theorem g_two {i j : Nat} {x : V} {Q : L2.St → Hp → Prop} (s : Sl σ H Γ) (h : (rTup [R, S]).p x H) (k : ∀ σ', Sl σ' H ((Γ.set i (some R)).set j (some S)) → Q σ' H) : gTup K 2 (gCons (gName i) (gCons (gName j) gNil)) x σ H Q := by
  obtain ⟨a, xs, rfl, ha, hx⟩ := h
  obtain ⟨x, y, rfl, h1, h2⟩ := hx.two
  exact ⟨a, _, rfl, SqT.of ha, rfl, x, _, rfl, y, _, rfl, rfl, k _ ((s.set h1).set h2)⟩
end

/-! ### comprehensions: where their things come from -/
def EvI (wi : TI) (σ : L2.St) (H : Hp) (Rs : List RP) : Prop := ∀ H1, Ex H H1 → ∀ R : It → Hp → Prop, (∀ J H2 G Y, Ex H1 H2 → Walk J Rs.length G Y → (∀ H3, Ex H2 H3 → G H3) → (∀ i S H3 x H4, Rs[i]? = some S → Ex H2 H3 → Y i H3 x H4 → Ex H3 H4 ∧ S.p x H4) → R J H2) → wi σ H1 R
structure Tg (g : TG) (vs : List Nat) (R : RP) (Γ Γ' : Gm) : Prop where
  go : ∀ (x : V) (τ : L2.St) (H : Hp) (Q : L2.St → Hp → Prop), R.p x H → Sl τ H Γ → wipe τ vs = τ → (∀ σ2, wipe σ2 vs = τ → Sl σ2 H Γ' → Q σ2 H) → g x τ H Q
section
variable {K : PySem.W.Frag} {σ : L2.St} {H : Hp} {Γ : Gm} {te ta tb tk tv : TE} {R S : RP} {D : Ends} {tu tw tz : TS} {t : TT} {tr : TA}
theorem tg_name {j : Nat} {vs : List Nat} (hj : j ∈ vs := by decide) : Tg (gName j) vs R Γ (Γ.set j (some R)) := ⟨fun x τ H Q h s e k => k _ (by rw [wipe_same hj, e]) (s.set h)⟩
theorem tg_two {i j : Nat} {vs : List Nat} (hi : i ∈ vs := by decide) (hj : j ∈ vs := by decide) : Tg (gTup K 2 (gCons (gName i) (gCons (gName j) gNil))) vs (rTup [R, S]) Γ ((Γ.set i (some R)).set j (some S)) := ⟨fun x τ H Q h s e k => by
  obtain ⟨a, xs, rfl, ha, hx⟩ := h
  obtain ⟨x, y, rfl, h1, h2⟩ := hx.two
  exact ⟨a, _, rfl, SqT.of ha, rfl, x, _, rfl, y, _, rfl, rfl, k _ (by rw [wipe_same hj, wipe_same hi, e]) ((s.set h1).set h2)⟩⟩
theorem i_seq {k : Bool} {Rs : List RP} (h : Ev te σ H (rSq K k Rs)) : EvI (iSeq K te) σ H Rs := fun H1 e R q => h H1 e _ fun v H2 e2 ⟨a, xs, ev, hq, hx⟩ => ⟨a, xs, k, ev, hq, by
  have l := hx.len
  refine q (ItQ K k a) H2 (fun H => SqB K k H a xs) (YAt xs) e2 (by rw [← l]; exact walk_seq) (fun H3 e3 => hq.up e3) fun i S H3 x H4 hi e3 y => ?_
  obtain ⟨y1, y2⟩ := y
  subst y1
  obtain ⟨v', h1, h2⟩ := hx.get hi
  rw [y2] at h1
  cases h1
  exact ⟨exr _, S.mono e3 h2⟩⟩
theorem i_rng {n : Int} (h : EvA tr σ H [rInt n]) (hn : -100000 ≤ n ∧ n ≤ 100000) : EvI (iRng1 tr) σ H ((List.range n.toNat).map fun i => rInt (i : Nat)) := fun H1 e R q => h H1 e _ fun vs H2 e2 hv => by
    obtain ⟨v, rfl, e1⟩ := hv.one
    have e1 : v = .int n := e1
    subst e1
    refine ⟨n, rfl, by omega, by omega, q _ H2 (fun _ => True) (YFn fun i => .int (0 + (i : Nat))) e2 (by rw [List.length_map, List.length_range]; exact walk_range) (fun _ _ => trivial) fun i S H3 x H4 hi e3 y => ?_⟩
    obtain ⟨y1, y2⟩ := y
    subst y1 y2
    rw [List.getElem?_map] at hi
    obtain ⟨m, m1, m2⟩ := Option.map_eq_some_iff.mp hi
    have lt := (List.getElem?_eq_some_iff.mp m1).1
    rw [List.getElem?_range (by simpa using lt)] at m1
    cases m1
    subst m2
    refine ⟨exr _, ?_⟩
    show V.int (0 + (i : Nat)) = V.int (i : Nat)
    rw [Int.zero_add]
theorem i_zip {k1 k2 : Bool} {Rs Ss : List RP} (h : EvA tr σ H [rSq K k1 Rs, rSq K k2 Ss]) : EvI (iZipB K tr) σ H (List.zipWith (fun R S => rTup [R, S]) Rs Ss) := fun H1 e R q => h H1 e _ fun vs H2 e2 hv => by
    obtain ⟨v, w, rfl, ⟨a, xs, rfl, hq, hx⟩, b, ys, rfl, hq2, hy⟩ := hv.two
    have l1 := hx.len
    have l2 := hy.len
    refine ⟨a, b, xs, ys, k1, k2, rfl, hq, hq2, q _ H2 (fun H => SqB K k1 H a xs ∧ SqB K k2 H b ys) _ e2 (by rw [List.length_zipWith, ← l1, ← l2]; exact walk_zipB) (fun H3 e3 => ⟨hq.up e3, hq2.up e3⟩) fun i S H3 x H4 hi e3 y => ?_⟩
    obtain ⟨T, u, z, rfl, hT, rfl, h1, h2⟩ := y
    rw [List.getElem?_zipWith] at hi
    obtain ⟨R1, r1, p1⟩ := hx.get' h1
    obtain ⟨R2, r2, p2⟩ := hy.get' h2
    rw [r1, r2] at hi
    cases hi
    exact ⟨Evl.Ex.new hT, T, [u, z], rfl, upd_same, R1.mono (e3.trans (Evl.Ex.new hT)) p1, R2.mono (e3.trans (Evl.Ex.new hT)) p2, trivial⟩
theorem i_enum {Rs : List RP} (h : EvA tr σ H [rLst Rs]) : EvI (iEnum K tr) σ H (Rs.mapIdx fun i R => rTup [rInt (i : Nat), R]) := fun H1 e R q => h H1 e _ fun vs H2 e2 hv => by
    obtain ⟨v, rfl, a, xs, rfl, ha, hx⟩ := hv.one
    have l1 := hx.len
    refine ⟨a, xs, rfl, SqL.of ha, q _ H2 (fun H => SqL K H a xs) _ e2 (by rw [List.length_mapIdx, ← l1]; exact walk_enum) (fun H3 e3 => Evl.ex_l e3 (SqL.of ha)) fun i S H3 x H4 hi e3 y => ?_⟩
    obtain ⟨T, u, z, rfl, hT, rfl, h1, h2⟩ := y
    obtain ⟨R1, r1, p1⟩ := hx.get' h2
    rw [List.getElem?_mapIdx, r1] at hi
    cases hi
    cases h1
    exact ⟨Evl.Ex.new hT, T, [_, z], rfl, upd_same, rfl, R1.mono (e3.trans (Evl.Ex.new hT)) p1, trivial⟩

end
end Kx
set_option Elab.async false
set_option linter.all false
set_option maxRecDepth 100000
set_option maxHeartbeats 4000000
/-! K11: comprehensions. -/
namespace Kx
open PySem L2
section
variable {K : PySem.W.Frag} {σ : L2.St} {H : Hp} {Γ : Gm} {te ta tb tk tv : TE} {R S : RP} {D : Ends} {tu tw tz : TS} {t : TT} {tr : TA}
theorem take_s {α : Type} {ds : List α} {i : Nat} (h : i < ds.length) : ds.take (i + 1) = ds.take i ++ [ds[i]] := by
  rw [List.take_add_one, List.getElem?_eq_getElem h]
  rfl
theorem filter_le {α : Type} {ds : List α} {b : α → Bool} {i : Nat} : ((ds.take i).filter b).length ≤ i := by
  have h1 := List.length_filter_le b (ds.take i)
  have h2 : (ds.take i).length ≤ i := by
    rw [List.length_take]
    omega
  omega
/-- [e for .. in .. if ..] -/
theorem e_lc {α : Type} {wi : TI} {g : TG} {vs : List Nat} {ds : List α} {f out : α → RP} {Γd : α → Gm} {b : α → Bool} (s : Sl σ H Γ) (hi : EvI wi σ H (ds.map f)) (hg : ∀ d ∈ ds, Tg g vs (f d) (wp Γ vs) (Γd d)) (hz : ds.length ≤ 90000)
    (hb : ∀ d ∈ ds, ∀ σ' H', Ex H H' → Sl σ' H' (Γd d) → EvT t σ' H' (b d)) (he : ∀ d ∈ ds, b d = true → ∀ σ' H', Ex H H' → Sl σ' H' (Γd d) → Ev te σ' H' (out d)) (hm : ∀ H0 d, Ms H0 (out d) := by infer_instance) :
    Ev (tLc wi g t te vs) σ H (rLst ((ds.filter b).map out)) := by
  intro H1 e Q q
  refine hi H1 e _ fun J H2 G Y e2 w hG hY Dl hD => ?_
  rw [List.length_map] at w
  refine lc_it w (fun i H' => Ex H2 H' ∧ ∃ acc, H' Dl = some (.lst acc) ∧ AllP (((ds.take i).filter b).map out) acc H') ⟨Evl.Ex.new hD, [], upd_same, trivial⟩ (fun i H' _ p => hG H' p.1) (fun i x H3 H4 hlt p y => ?_) fun H' p => ?_
  · obtain ⟨p1, acc, p2, p3⟩ := p
    have hd : ds[i]? = some ds[i] := List.getElem?_eq_getElem hlt
    have hmem : ds[i] ∈ ds := List.getElem_mem hlt
    have hfd : (ds.map f)[i]? = some (f ds[i]) := by rw [List.getElem?_map, hd]; rfl
    obtain ⟨e4, hx⟩ := hY i (f ds[i]) H3 x H4 hfd p1 y
    have e04 : Ex H H4 := ((e.trans e2).trans p1).trans e4
    refine (hg _ hmem).go x _ H4 _ hx ((s.up e04).wipe vs) wipe_wipe fun σ2 hw s2 => ⟨hw, ?_⟩
    refine hb _ hmem σ2 H4 e04 s2 H4 (exr H4) _ fun H5 e5 => ?_
    have e05 := e04.trans e5
    have acc5 : H5 Dl = some (.lst acc) := e5 _ _ (e4 _ _ p2)
    have e25 : Ex H2 H5 := (p1.trans e4).trans e5
    have lz : acc.length < 100000 := by
      have fl := p3.len
      rw [List.length_map] at fl
      have := filter_le (ds := ds) (b := b) (i := i)
      omega
    cases hbd : b ds[i] with
    | true =>
      rw [if_pos rfl]
      refine he _ hmem hbd σ2 H5 e05 (s2.up e5) H5 (exr H5) _ fun v H6 e6 hv => ?_
      have acc6 := e6 _ _ acc5
      refine ⟨acc, acc6, Evl.sz_lt lz, Evl.Ex.mut (e25.trans e6) hD, acc ++ [v], upd_same, ?_⟩
      rw [take_s hlt, List.filter_append, List.filter_cons_of_pos hbd, List.filter_nil, List.map_append]
      refine AllP.app (allP_ms acc6 nt_l hD (fun R hR => ?_) (p3.mono ((e4.trans e5).trans e6))) ⟨(hm H2 _).ms H6 Dl _ _ v acc6 nt_l hD hv, trivial⟩
      obtain ⟨d, _, rfl⟩ := List.mem_map.mp hR
      exact hm H2 d
    | false =>
      rw [if_neg (by decide)]
      refine ⟨e25, acc, acc5, ?_⟩
      rw [take_s hlt, List.filter_append, List.filter_cons_of_neg (by rw [hbd]; decide), List.filter_nil, List.append_nil]
      exact p3.mono (e4.trans e5)
  · obtain ⟨p1, acc, p2, p3⟩ := p
    rw [List.take_length] at p3
    exact q _ H' (e2.trans p1) ⟨Dl, acc, rfl, p2, p3⟩
theorem t_yes : EvT tYes σ H true := fun H1 _ _ q => q H1 (exr H1)
/-- without a test -/
theorem e_lcA {α : Type} {wi : TI} {g : TG} {vs : List Nat} {ds : List α} {f out : α → RP} {Γd : α → Gm} (s : Sl σ H Γ) (hi : EvI wi σ H (ds.map f)) (hg : ∀ d ∈ ds, Tg g vs (f d) (wp Γ vs) (Γd d)) (hz : ds.length ≤ 90000)
    (he : ∀ d ∈ ds, ∀ σ' H', Ex H H' → Sl σ' H' (Γd d) → Ev te σ' H' (out d)) (hm : ∀ H0 d, Ms H0 (out d) := by infer_instance) : Ev (tLc wi g tYes te vs) σ H (rLst (ds.map out)) := by
  have h := e_lc (b := fun _ => true) s hi hg hz (fun _ _ _ _ _ _ => t_yes) (fun d hd _ => he d hd) hm
  have e : ds.filter (fun _ => true) = ds := by simp
  rwa [e] at h
end
end Kx
set_option Elab.async false
set_option linter.all false
set_option maxRecDepth 100000
set_option maxHeartbeats 4000000
/-! K12: dicts by cells and by names. -/
namespace Kx
open PySem L2

/-! ### tables in plain Lean -/
section
variable {κ : Type} [DecidableEq κ] {β : Type}
def look (kvs : List (κ × β)) (k : κ) : Option β := (kvs.find? fun p => decide (p.1 = k)).map (·.2)
def putC (kvs : List (κ × β)) (k : κ) (v : β) : List (κ × β) := if (kvs.any fun p => decide (p.1 = k)) = true then kvs.map (fun p => if p.1 = k then (p.1, v) else p) else kvs ++ [(k, v)]
def dropC (kvs : List (κ × β)) (k : κ) : List (κ × β) := kvs.filter fun p => decide (p.1 ≠ k)
theorem look_nil {k : κ} : look ([] : List (κ × β)) k = none := rfl
theorem look_cons {p : κ × β} {r : List (κ × β)} {k : κ} : look (p :: r) k = if p.1 = k then some p.2 else look r k := by
  unfold look
  rw [List.find?_cons]
  by_cases e : p.1 = k
  · simp [e]
  · simp [e]
theorem look_some_mem {kvs : List (κ × β)} {k : κ} {v : β} (h : look kvs k = some v) : (k, v) ∈ kvs := by
  induction kvs with
  | nil => cases h
  | cons p r ih =>
    rw [look_cons] at h
    by_cases e : p.1 = k
    · rw [if_pos e] at h
      cases h
      subst e
      exact List.mem_cons_self
    · rw [if_neg e] at h
      exact List.mem_cons_of_mem _ (ih h)
theorem look_isSome {kvs : List (κ × β)} {k : κ} : (look kvs k).isSome = true ↔ k ∈ kvs.map (·.1) := by
  induction kvs with
  | nil => exact ⟨(fun h => by cases h), (fun h => by cases h)⟩
  | cons p r ih =>
    rw [look_cons, List.map_cons, List.mem_cons]
    by_cases e : p.1 = k
    · rw [if_pos e]
      exact ⟨fun _ => .inl e.symm, fun _ => rfl⟩
    · rw [if_neg e, ih]
      exact ⟨.inr, fun h => h.elim (fun z => absurd z.symm e) id⟩
theorem putC_new {kvs : List (κ × β)} {k : κ} {v : β} (h : k ∉ kvs.map (·.1)) : putC kvs k v = kvs ++ [(k, v)] := by
  unfold putC
  rw [if_neg]
  intro z
  rw [List.any_eq_true] at z
  obtain ⟨p, hp, e⟩ := z
  exact h (List.mem_map.mpr ⟨p, hp, by simpa using e⟩)
end
/-- a table's keys told otherwise -/
theorem valV_map {κ μ : Type} [DecidableEq κ] [DecidableEq μ] {f : κ → μ} (hf : ∀ a b, f a = f b → a = b) (kvs : List (κ × V)) (k : κ) : valV (kvs.map fun p => (f p.1, p.2)) (f k) = look kvs k := by
  induction kvs with
  | nil => rfl
  | cons p r ih =>
    rw [List.map_cons, look_cons]
    by_cases e : p.1 = k
    · rw [if_pos e, valV_pos (p := (f p.1, p.2)) (by rw [e])]
    · rw [if_neg e, valV_neg (p := (f p.1, p.2)) (fun z => e (hf _ _ z)), ih]
theorem putK_map {κ μ : Type} [DecidableEq κ] [DecidableEq μ] {f : κ → μ} (hf : ∀ a b, f a = f b → a = b) (kvs : List (κ × V)) (k : κ) (v : V) : putK (kvs.map fun p => (f p.1, p.2)) (f k) v = (putC kvs k v).map fun p => (f p.1, p.2) := by
  have ea : ((kvs.map fun p => (f p.1, p.2)).any fun kv => decide (kv.1 = f k)) = kvs.any fun p => decide (p.1 = k) := by
    rw [List.any_map]
    congr 1
    funext p
    exact decide_eq_decide.mpr ⟨fun z => hf _ _ z, fun z => by
      show f p.1 = f k
      rw [z]⟩
  unfold putK putC
  rw [ea]
  split
  · rw [List.map_map, List.map_map]
    refine List.map_congr_left fun p _ => ?_
    show (if f p.1 = f k then (f p.1, v) else (f p.1, p.2)) = (fun p => (f p.1, p.2)) (if p.1 = k then (p.1, v) else p)
    by_cases e : p.1 = k
    · rw [if_pos e, if_pos (by rw [e])]
    · rw [if_neg e, if_neg (fun z => e (hf _ _ z))]
  · rw [List.map_append]
    rfl
theorem dropK_map {κ μ : Type} [DecidableEq κ] [DecidableEq μ] {f : κ → μ} (hf : ∀ a b, f a = f b → a = b) (kvs : List (κ × V)) (k : κ) : dropK (kvs.map fun p => (f p.1, p.2)) (f k) = (dropC kvs k).map fun p => (f p.1, p.2) := by
  unfold dropK dropC
  induction kvs with
  | nil => rfl
  | cons p r ih =>
    rw [List.map_cons, List.filter_cons, List.filter_cons]
    by_cases e : p.1 = k
    · rw [if_neg (by simp [e]), if_neg (by simp [e])]
      exact ih
    · rw [if_pos (by
        have : ¬ f p.1 = f k := fun z => e (hf _ _ z)
        simp [this]), if_pos (by simp [e]), List.map_cons, ih]
theorem ck_inj : ∀ a b : Cell, ck a = ck b → a = b := fun a b h => by
  injection h with h1 h2
  injection h2 with h2 _
  injection h1 with h1
  injection h2 with h2
  exact Prod.ext h1 h2
abbrev nk (z : Str) : Key := .inr z
theorem nk_inj : ∀ a b : Str, nk a = nk b → a = b := fun a b h => by injection h
/-- the tables as they lie -/
abbrev dC (kvs : List (Cell × V)) : HO := .dT (kvs.map fun p => (ck p.1, p.2))
abbrev dN (kvs : List (Str × V)) : HO := .dK (kvs.map fun p => (nk p.1, p.2))
def rDicN (kvs : List (Str × V)) : RP := ⟨fun v H => ∃ a, v = .ref a ∧ H a = some (dN kvs), fun e ⟨a, h1, h2⟩ => ⟨a, h1, e _ _ h2⟩⟩
/-! ### new lists, new dicts -/
def rNewL (H0 : Hp) (Rs : List RP) : RP := ⟨fun v H => ∃ a xs, v = .ref a ∧ H0 a = none ∧ H a = some (.lst xs) ∧ AllP Rs xs H, fun e ⟨a, xs, h1, h0, h2, h3⟩ => ⟨a, xs, h1, h0, e _ _ h2, h3.mono e⟩⟩
def rNewD (H0 : Hp) (kvs : List (Cell × V)) : RP := ⟨fun v H => ∃ a, v = .ref a ∧ H0 a = none ∧ H a = some (dC kvs), fun e ⟨a, h1, h0, h2⟩ => ⟨a, h1, h0, e _ _ h2⟩⟩
theorem ckV (c : Cell) : (ck c).map kV = [.int c.1, .int c.2] := rfl

/-- c stands in cs -/
def isin (cs : List Cell) (c : Cell) : Bool := cs.any fun x => decide (x.1 = c.1) && decide (x.2 = c.2)
theorem isin_iff {cs : List Cell} {c : Cell} : isin cs c = true ↔ c ∈ cs := by
  unfold isin
  rw [List.any_eq_true]
  constructor
  · rintro ⟨x, hx, e⟩
    rw [Bool.and_eq_true, decide_eq_true_eq, decide_eq_true_eq] at e
    have : x = c := Prod.ext e.1 e.2
    rw [← this]
    exact hx
  · intro h
    exact ⟨c, h, by simp⟩
theorem look_isin {kvs : List (Cell × V)} {c : Cell} : (look kvs c).isSome = isin (kvs.map (·.1)) c := by
  rw [Bool.eq_iff_iff, isin_iff, look_isSome]
section
variable {K : PySem.W.Frag} {σ : L2.St} {H : Hp} {Γ : Gm} {te ta tb tk tv td ty : TE} {R S : RP} {D : Ends} {tu tw tz : TS} {t : TT} {tr : TA}
/-! ### reading -/
theorem e_dget {kvs : List (Cell × V)} {c : Cell} {v : V} (hd : Ev td σ H (rDic kvs)) (hk : Ev ty σ H (rCell c)) (h : look kvs c = some v) : Ev (tDGet td ty) σ H (rV v) := fun H1 e Q q =>
  hd H1 e _ fun x H2 e2 ⟨a, ex, ha⟩ => hk H2 (e.trans e2) _ fun y H3 e3 hy => by
    obtain ⟨b, rfl, hb⟩ := cell_at hy
    subst ex
    exact ⟨a, v, rfl, by
      have := DGet.t (H := H3) (e3 _ _ ha) (k := ck c) hb
      rwa [valV_map ck_inj, h] at this, q v H3 (e2.trans e3) rfl⟩
theorem e_dgetN {kvs : List (Str × V)} {c : Str} {v : V} (hd : Ev td σ H (rDicN kvs)) (hk : Ev ty σ H (rStr c)) (h : look kvs c = some v) : Ev (tDGet td ty) σ H (rV v) := fun H1 e Q q =>
  hd H1 e _ fun x H2 e2 ⟨a, ex, ha⟩ => hk H2 (e.trans e2) _ fun y H3 e3 hy => by
    have hy : y = .str c := hy
    subst ex hy
    exact ⟨a, v, rfl, by
      have := DGet.k (H := H3) (e3 _ _ ha) (k := nk c)
      rwa [valV_map nk_inj, h] at this, q v H3 (e2.trans e3) rfl⟩
theorem e_din {kvs : List (Cell × V)} {c : Cell} (hk : Ev ty σ H (rCell c)) (hd : Ev td σ H (rDic kvs)) : Ev (tDIn ty td) σ H (rBl (isin (kvs.map (·.1)) c)) := fun H1 e Q q =>
  hk H1 e _ fun y H2 e2 hy => hd H2 (e.trans e2) _ fun x H3 e3 ⟨a, ex, ha⟩ => by
    obtain ⟨b, rfl, hb⟩ := cell_at hy
    subst ex
    exact ⟨a, look kvs c, rfl, by
      have := DGet.t (H := H3) ha (k := ck c) (e3 _ _ hb)
      rwa [valV_map ck_inj] at this, q _ H3 (e2.trans e3) (by
      rw [look_isin])⟩
theorem e_dnin {kvs : List (Cell × V)} {c : Cell} (hk : Ev ty σ H (rCell c)) (hd : Ev td σ H (rDic kvs)) : Ev (tDNotIn ty td) σ H (rBl (!isin (kvs.map (·.1)) c)) := fun H1 e Q q =>
  hk H1 e _ fun y H2 e2 hy => hd H2 (e.trans e2) _ fun x H3 e3 ⟨a, ex, ha⟩ => by
    obtain ⟨b, rfl, hb⟩ := cell_at hy
    subst ex
    exact ⟨a, look kvs c, rfl, by
      have := DGet.t (H := H3) ha (k := ck c) (e3 _ _ hb)
      rwa [valV_map ck_inj] at this, q _ H3 (e2.trans e3) (by
      rw [look_isin])⟩
theorem e_get1 {kvs : List (Cell × V)} {c : Cell} (hd : Ev td σ H (rDic kvs)) (hk : Ev ty σ H (rCell c)) : Ev (tDGet1 td ty) σ H (rV ((look kvs c).getD .non)) := fun H1 e Q q =>
  hd H1 e _ fun x H2 e2 ⟨a, ex, ha⟩ => ⟨a, ex, .inr ⟨_, .inl ha⟩, hk H2 (e.trans e2) _ fun y H3 e3 hy => by
    obtain ⟨b, rfl, hb⟩ := cell_at hy
    exact ⟨look kvs c, by
      have := DGet.t (H := H3) (e3 _ _ ha) (k := ck c) hb
      rwa [valV_map ck_inj] at this, q _ H3 (e2.trans e3) rfl⟩⟩
theorem e_get2 {kvs : List (Cell × V)} {c : Cell} {z : V} (hd : Ev td σ H (rDic kvs)) (hk : Ev ty σ H (rCell c)) (hx : Ev te σ H (rV z)) : Ev (tDGet2 td ty te) σ H (rV ((look kvs c).getD z)) := fun H1 e Q q =>
  hd H1 e _ fun x H2 e2 ⟨a, ex, ha⟩ => ⟨a, ex, .inr ⟨_, .inl ha⟩, hk H2 (e.trans e2) _ fun y H3 e3 hy => hx H3 ((e.trans e2).trans e3) _ fun w H4 e4 hw => by
    have hw : w = z := hw
    subst hw
    obtain ⟨b, rfl, hb⟩ := cell_at hy
    exact ⟨look kvs c, by
      have := DGet.t (H := H4) ((e3.trans e4) _ _ ha) (k := ck c) (e4 _ _ hb)
      rwa [valV_map ck_inj] at this, q _ H4 ((e2.trans e3).trans e4) rfl⟩⟩
/-! ### writing: d at p -/
theorem s_dput {p : Addr} {kvs : List (Cell × V)} {c : Cell} {v : V} (hp : H p = some (dC kvs)) (hv : Ev tv σ H (rV v)) (hd : Ev td σ H (rV (.ref p))) (hk : Ev ty σ H (rCell c)) (hz : kvs.length < 100000)
    (k : ∀ H1, Ex H H1 → H1 p = some (dC kvs) → D.nx σ (upd H1 p (dC (putC kvs c v)))) : sDPut td ty tv D σ H := hv H (exr H) _ fun w H1 e1 hw => by
  have hw : w = v := hw
  subst hw
  exact hd H1 e1 _ fun x H2 e2 hx => hk H2 (e1.trans e2) _ fun y H3 e3 hy => by
    have hx : x = .ref p := hx
    subst hx
    obtain ⟨b, rfl, hb⟩ := cell_at hy
    have e := (e1.trans e2).trans e3
    refine ⟨p, _, rfl, DPut.t (e _ _ hp) (k := ck c) hb (by rw [List.length_map]; exact Evl.sz_lt hz), ?_⟩
    rw [putK_map ck_inj]
    exact k H3 e (e _ _ hp)
theorem q_dput {p : Addr} {kvs : List (Cell × V)} {c : Cell} {v : V} (hp : H p = some (dC kvs)) (hv : Ev tv σ H (rV v)) (hd : Ev td σ H (rV (.ref p))) (hk : Ev ty σ H (rCell c)) (hz : kvs.length < 100000)
    (k : ∀ H1, Ex H H1 → H1 p = some (dC kvs) → tz D σ (upd H1 p (dC (putC kvs c v)))) : tSeq (sDPut td ty tv) tz D σ H := s_dput (D := { D with nx := tz D }) hp hv hd hk hz k
theorem s_dputN {p : Addr} {kvs : List (Str × V)} {c : Str} (hp : H p = some (dN kvs)) (hv : Ev tv σ H R) (hd : Ev td σ H (rV (.ref p))) (hk : Ev ty σ H (rStr c)) (hz : kvs.length < 100000)
    (k : ∀ v H1, Ex H H1 → R.p v H1 → H1 p = some (dN kvs) → D.nx σ (upd H1 p (dN (putC kvs c v)))) : sDPut td ty tv D σ H := hv H (exr H) _ fun w H1 e1 hw => by
  exact hd H1 e1 _ fun x H2 e2 hx => hk H2 (e1.trans e2) _ fun y H3 e3 hy => by
    have hx : x = .ref p := hx
    have hy : y = .str c := hy
    subst hx hy
    have e := (e1.trans e2).trans e3
    refine ⟨p, _, rfl, DPut.k (e _ _ hp) (k := nk c) (by rw [List.length_map]; exact Evl.sz_lt hz), ?_⟩
    rw [putK_map nk_inj]
    exact k w H3 e (R.mono (e2.trans e3) hw) (e _ _ hp)
theorem q_dputN {p : Addr} {kvs : List (Str × V)} {c : Str} (hp : H p = some (dN kvs)) (hv : Ev tv σ H R) (hd : Ev td σ H (rV (.ref p))) (hk : Ev ty σ H (rStr c)) (hz : kvs.length < 100000)
    (k : ∀ v H1, Ex H H1 → R.p v H1 → H1 p = some (dN kvs) → tz D σ (upd H1 p (dN (putC kvs c v)))) : tSeq (sDPut td ty tv) tz D σ H := s_dputN (D := { D with nx := tz D }) hp hv hd hk hz k
theorem s_ddel {p : Addr} {kvs : List (Cell × V)} {c : Cell} (hp : H p = some (dC kvs)) (hd : Ev td σ H (rV (.ref p))) (hk : Ev ty σ H (rCell c)) (hin : c ∈ kvs.map (·.1))
    (k : ∀ H1, Ex H H1 → H1 p = some (dC kvs) → D.nx σ (upd H1 p (dC (dropC kvs c)))) : sDDelT td ty D σ H := hd H (exr H) _ fun x H2 e2 hx => hk H2 e2 _ fun y H3 e3 hy => by
  have hx : x = .ref p := hx
  subst hx
  obtain ⟨b, rfl, hb⟩ := cell_at hy
  have e := e2.trans e3
  refine ⟨p, b, _, ck c, rfl, rfl, e _ _ hp, hb, ?_, ?_⟩
  · rw [valV_map ck_inj]
    exact look_isSome.mpr hin
  · rw [dropK_map ck_inj]
    exact k H3 e (e _ _ hp)
theorem q_ddel {p : Addr} {kvs : List (Cell × V)} {c : Cell} (hp : H p = some (dC kvs)) (hd : Ev td σ H (rV (.ref p))) (hk : Ev ty σ H (rCell c)) (hin : c ∈ kvs.map (·.1))
    (k : ∀ H1, Ex H H1 → H1 p = some (dC kvs) → tz D σ (upd H1 p (dC (dropC kvs c)))) : tSeq (sDDelT td ty) tz D σ H := s_ddel (D := { D with nx := tz D }) hp hd hk hin k
/-! ### making -/
theorem e_dnew : Ev tDNewT σ H (rDic []) := fun H1 e Q q p hp => q _ _ (Evl.Ex.new hp) ⟨p, rfl, upd_same⟩
theorem e_disp1 {c : Cell} {v : V} (hk : Ev tk σ H (rCell c)) (hv : Ev tv σ H (rV v)) : Ev (tDisp1 tk tv) σ H (rDic [(c, v)]) := fun H1 e Q q p hp =>
  hk _ (e.trans (Evl.Ex.new hp)) _ fun x H2 e2 hx => hv H2 ((e.trans (Evl.Ex.new hp)).trans e2) _ fun y H3 e3 hy => by
    have hy : y = v := hy
    subst hy
    obtain ⟨b, rfl, hb⟩ := cell_at hx
    have ep : H3 p = some (.dT []) := (e2.trans e3) _ _ upd_same
    exact ⟨b, ck c, rfl, e3 _ _ hb, ep, q _ _ (Evl.Ex.mut (((Evl.Ex.new hp).trans e2).trans e3) hp) ⟨p, rfl, upd_same⟩⟩
theorem nodup_new {α β : Type} {ds : List α} {b : α → Bool} {kc : α → β} {i : Nat} (nd : ((ds.filter b).map kc).Nodup) (h : i < ds.length) (hb : b ds[i] = true) : kc ds[i] ∉ ((ds.take i).filter b).map kc := fun hm => by
  have e : ((ds.take (i + 1)).filter b).map kc = ((ds.take i).filter b).map kc ++ [kc ds[i]] := by
    rw [take_s h, List.filter_append, List.filter_cons_of_pos hb, List.filter_nil, List.map_append]
    rfl
  have sub : (((ds.take (i + 1)).filter b).map kc).Sublist ((ds.filter b).map kc) := ((List.take_sublist _ _).filter b).map kc
  have nd2 := nd.sublist sub
  rw [e, List.nodup_append] at nd2
  exact nd2.2.2 _ hm _ (List.mem_singleton.mpr rfl) rfl
/-- {c: v for .. in .. if ..}, the cells unlike -/
theorem e_dcN {α : Type} {wi : TI} {g : TG} {vs : List Nat} {ds : List α} {f : α → RP} {kc : α → Cell} {vc : α → V} {Γd : α → Gm} {b : α → Bool} (s : Sl σ H Γ) (hi : EvI wi σ H (ds.map f)) (hg : ∀ d ∈ ds, Tg g vs (f d) (wp Γ vs) (Γd d)) (hz : ds.length ≤ 90000)
    (hb : ∀ d ∈ ds, ∀ σ' H', Ex H H' → Sl σ' H' (Γd d) → EvT t σ' H' (b d)) (hk : ∀ d ∈ ds, b d = true → ∀ σ' H', Ex H H' → Sl σ' H' (Γd d) → Ev tk σ' H' (rCell (kc d))) (hv : ∀ d ∈ ds, b d = true → ∀ σ' H', Ex H H' → Sl σ' H' (Γd d) → Ev tv σ' H' (rV (vc d)))
    (nd : ((ds.filter b).map kc).Nodup) : Ev (tDcT wi g t tk tv vs) σ H (rNewD H ((ds.filter b).map fun d => (kc d, vc d))) := by
  intro H1 e Q q
  refine hi H1 e _ fun J H2 G Y e2 w hG hY Dl hD => ?_
  rw [List.length_map] at w
  refine ⟨fun i m H' => m = ds.length - i ∧ i ≤ ds.length ∧ Ex H2 H' ∧ H' Dl = some (dC (((ds.take i).filter b).map fun d => (kc d, vc d))), ⟨ds.length, by simp, Nat.zero_le _, Evl.Ex.new hD, upd_same⟩, ?_⟩
  rintro i m H3 ⟨rfl, hle, p1, p2⟩
  by_cases hlt : i < ds.length
  · refine .inr ⟨w.goes i H3 hlt (hG H3 p1), fun H' => (i + 1) ≤ ds.length ∧ Ex H2 H' ∧ H' Dl = some (dC (((ds.take (i + 1)).filter b).map fun d => (kc d, vc d))), fun H' p => ⟨ds.length - (i + 1), by omega, rfl, p.1, p.2⟩, fun x H4 y => ?_⟩
    have y := w.yields i H3 x H4 hlt (hG H3 p1) y
    have hd : ds[i]? = some ds[i] := List.getElem?_eq_getElem hlt
    have hmem : ds[i] ∈ ds := List.getElem_mem hlt
    have hfd : (ds.map f)[i]? = some (f ds[i]) := by rw [List.getElem?_map, hd]; rfl
    obtain ⟨e4, hx⟩ := hY i (f ds[i]) H3 x H4 hfd p1 y
    have e04 : Ex H H4 := ((e.trans e2).trans p1).trans e4
    refine (hg _ hmem).go x _ H4 _ hx ((s.up e04).wipe vs) wipe_wipe fun σ2 hw s2 => ⟨hw, ?_⟩
    refine hb _ hmem σ2 H4 e04 s2 H4 (exr H4) _ fun H5 e5 => ?_
    have e05 := e04.trans e5
    have p5 := e5 _ _ (e4 _ _ p2)
    have e25 : Ex H2 H5 := (p1.trans e4).trans e5
    have lz := filter_le (ds := ds) (b := b) (i := i)
    cases hbd : b ds[i] with
    | true =>
      rw [if_pos rfl]
      refine hk _ hmem hbd σ2 H5 e05 (s2.up e5) H5 (exr H5) _ fun y H6 e6 hy => hv _ hmem hbd σ2 H6 (e05.trans e6) (s2.up (e5.trans e6)) H6 (exr H6) _ fun z H7 e7 hz2 => ?_
      have hz2 : z = vc ds[i] := hz2
      subst hz2
      obtain ⟨bb, rfl, hbb⟩ := cell_at hy
      refine ⟨bb, _, ck (kc ds[i]), rfl, e7 _ _ hbb, e7 _ _ (e6 _ _ p5), by rw [List.length_map, List.length_map]; exact Evl.sz_lt (by omega), hlt, Evl.Ex.mut ((e25.trans e6).trans e7) hD, ?_⟩
      rw [putK_map ck_inj, putC_new]
      · have eq : ((ds.take (i + 1)).filter b).map (fun d => (kc d, vc d)) = ((ds.take i).filter b).map (fun d => (kc d, vc d)) ++ [(kc ds[i], vc ds[i])] := by
          rw [take_s hlt, List.filter_append, List.filter_cons_of_pos hbd, List.filter_nil, List.map_append]
          rfl
        rw [eq]
        exact upd_same
      · rw [List.map_map]
        exact nodup_new nd hlt hbd
    | false =>
      rw [if_neg (by decide)]
      refine ⟨hlt, e25, ?_⟩
      rw [take_s hlt, List.filter_append, List.filter_cons_of_neg (by rw [hbd]; decide), List.filter_nil, List.append_nil]
      exact p5
  · have ei : i = ds.length := by omega
    subst ei
    refine .inl ⟨w.stops H3 (hG H3 p1), q _ H3 (e2.trans p1) ⟨Dl, rfl, Evl.fresh_back (e.trans e2) hD, ?_⟩⟩
    rw [List.take_length] at p2
    exact p2
theorem e_dc {α : Type} {wi : TI} {g : TG} {vs : List Nat} {ds : List α} {f : α → RP} {kc : α → Cell} {vc : α → V} {Γd : α → Gm} {b : α → Bool} (s : Sl σ H Γ) (hi : EvI wi σ H (ds.map f)) (hg : ∀ d ∈ ds, Tg g vs (f d) (wp Γ vs) (Γd d)) (hz : ds.length ≤ 90000)
    (hb : ∀ d ∈ ds, ∀ σ' H', Ex H H' → Sl σ' H' (Γd d) → EvT t σ' H' (b d)) (hk : ∀ d ∈ ds, b d = true → ∀ σ' H', Ex H H' → Sl σ' H' (Γd d) → Ev tk σ' H' (rCell (kc d))) (hv : ∀ d ∈ ds, b d = true → ∀ σ' H', Ex H H' → Sl σ' H' (Γd d) → Ev tv σ' H' (rV (vc d)))
    (nd : ((ds.filter b).map kc).Nodup) : Ev (tDcT wi g t tk tv vs) σ H (rDic ((ds.filter b).map fun d => (kc d, vc d))) := (e_dcN s hi hg hz hb hk hv nd).imp fun _ _ _ ⟨a, e, _, h⟩ => ⟨a, e, h⟩
theorem e_dcAN {α : Type} {wi : TI} {g : TG} {vs : List Nat} {ds : List α} {f : α → RP} {kc : α → Cell} {vc : α → V} {Γd : α → Gm} (s : Sl σ H Γ) (hi : EvI wi σ H (ds.map f)) (hg : ∀ d ∈ ds, Tg g vs (f d) (wp Γ vs) (Γd d)) (hz : ds.length ≤ 90000)
    (hk : ∀ d ∈ ds, ∀ σ' H', Ex H H' → Sl σ' H' (Γd d) → Ev tk σ' H' (rCell (kc d))) (hv : ∀ d ∈ ds, ∀ σ' H', Ex H H' → Sl σ' H' (Γd d) → Ev tv σ' H' (rV (vc d)))
    (nd : (ds.map kc).Nodup) : Ev (tDcT wi g tYes tk tv vs) σ H (rNewD H (ds.map fun d => (kc d, vc d))) := by
  have e : ds.filter (fun _ => true) = ds := by simp
  have h := e_dcN (b := fun _ => true) s hi hg hz (fun _ _ _ _ _ _ => t_yes) (fun d hd _ => hk d hd) (fun d hd _ => hv d hd) (by rw [e]; exact nd)
  rwa [e] at h
end
end Kx
set_option Elab.async false
set_option linter.all false
set_option maxRecDepth 100000
set_option maxHeartbeats 4000000
/-! K13: operations, calls of built-ins, by what stands there. -/
namespace Kx
open PySem L2
section
variable {K : PySem.W.Frag}
/-! ### operators -/
theorem ov_I0 {g : Int → Int → V} {i j : Int} : OpV (rI0 g) (rInt i) (rInt j) (rV (g i j)) := fun x y H hx hy Q q => by
  have hx : x = .int i := hx
  have hy : y = .int j := hy
  subst hx hy
  exact ⟨i, j, rfl, rfl, q _ H (exr H) rfl⟩
theorem ov_I {C : Int → Int → Prop} {g : Int → Int → V} {i j : Int} (hc : C i j) : OpV (rI C g) (rInt i) (rInt j) (rV (g i j)) := fun x y H hx hy Q q => by
  have hx : x = .int i := hx
  have hy : y = .int j := hy
  subst hx hy
  exact ⟨i, j, rfl, rfl, hc, q _ H (exr H) rfl⟩
theorem uv_neg {g : Int → V} {i : Int} : UnV (rU g) (rInt i) (rV (g i)) := fun x H hx Q q => by
  have hx : x = .int i := hx
  subst hx
  exact ⟨i, rfl, q _ H (exr H) rfl⟩
theorem ov_eqI {i j : Int} : OpV rEq (rInt i) (rInt j) (rBl (decide (i = j))) := fun x y H hx hy Q q => by
  have hx : x = .int i := hx
  have hy : y = .int j := hy
  subst hx hy
  refine ⟨rfl, q _ H (exr H) ?_⟩
  show V.bl (decide (V.int i = V.int j)) = V.bl (decide (i = j))
  congr 1
  exact decide_eq_decide.mpr ⟨fun h => by injection h, fun h => by rw [h]⟩
theorem ov_eqS {i j : Str} : OpV rEq (rStr i) (rStr j) (rBl (decide (i = j))) := fun x y H hx hy Q q => by
  have hx : x = .str i := hx
  have hy : y = .str j := hy
  subst hx hy
  refine ⟨rfl, q _ H (exr H) ?_⟩
  show V.bl (decide (V.str i = V.str j)) = V.bl (decide (i = j))
  congr 1
  exact decide_eq_decide.mpr ⟨fun h => by injection h, fun h => by rw [h]⟩
theorem ov_neI {i j : Int} : OpV rNe (rInt i) (rInt j) (rBl (!decide (i = j))) := fun x y H hx hy Q q => by
  have hx : x = .int i := hx
  have hy : y = .int j := hy
  subst hx hy
  refine ⟨rfl, q _ H (exr H) ?_⟩
  show V.bl (!decide (V.int i = V.int j)) = V.bl (!decide (i = j))
  have : decide (V.int i = V.int j) = decide (i = j) := decide_eq_decide.mpr ⟨fun h => by injection h, fun h => by rw [h]⟩
  rw [this]
/-- None == an int, a bool: never (get's answer) -/
theorem ov_eqV {x y : V} (h : scal x y = true) : OpV rEq (rV x) (rV y) (rBl (decide (x = y))) := fun a b H hx hy Q q => by
  have hx : a = x := hx
  have hy : b = y := hy
  subst hx hy
  exact ⟨h, q _ H (exr H) rfl⟩
theorem ov_neV {x y : V} (h : scal x y = true) : OpV rNe (rV x) (rV y) (rBl (!decide (x = y))) := fun a b H hx hy Q q => by
  have hx : a = x := hx
  have hy : b = y := hy
  subst hx hy
  exact ⟨h, q _ H (exr H) rfl⟩
def rLtS : R2 := fun x y H Q => ∃ i j, x = .str i ∧ y = .str j ∧ Q (.bl (decide (i.cps.toList < j.cps.toList))) H
theorem op_ltS {X : Cx} : OpR X (compareOp .Lt) rLtS := op_lt_str
theorem ov_ltS {i j : Str} : OpV rLtS (rStr i) (rStr j) (rBl (decide (i.cps.toList < j.cps.toList))) := fun x y H hx hy Q q => by
  have hx : x = .str i := hx
  have hy : y = .str j := hy
  subst hx hy
  exact ⟨i, j, rfl, rfl, q _ H (exr H) rfl⟩
def rIsN : R2 := fun x y H Q => y = .non ∧ Q (.bl (decide (x = .non))) H
theorem op_isNn {X : Cx} : OpR X (compareOp .Is) rIsN := op_isN
theorem ov_isN {x : V} : OpV rIsN (rV x) rNon (rBl (decide (x = .non))) := fun a b H hx hy Q q => by
  have hx : a = x := hx
  have hy : b = .non := hy
  subst hx hy
  exact ⟨rfl, q _ H (exr H) rfl⟩
theorem ov_isNo {R : RP} (h : ∀ v H, R.p v H → v ≠ .non) : OpV rIsN R rNon (rBl false) := fun a b H hx hy Q q => by
  have hy : b = .non := hy
  subst hy
  refine ⟨rfl, q _ H (exr H) ?_⟩
  rw [decide_eq_false (h _ _ hx)]
/-! ### items -/
theorem atI_all {Rs : List RP} {xs : List V} {H : Hp} {i : Int} {R : RP} (h : AllP Rs xs H) (hi : atI Rs i = some R) : ∃ v, atI xs i = some v ∧ R.p v H := by
  unfold atI at hi ⊢
  rw [h.len]
  cases hq : ixN Rs.length i with
  | none =>
    rw [hq] at hi
    cases hi
  | some j =>
    rw [hq] at hi
    exact h.get hi
theorem ov_ix {k : Bool} {Rs : List RP} {i : Int} {R : RP} (hi : atI Rs i = some R) : OpV (rIx K) (rSq K k Rs) (rInt i) R := fun x y H hx hy Q q => by
  have hy : y = .int i := hy
  subst hy
  obtain ⟨a, xs, rfl, hq, h⟩ := hx
  obtain ⟨v, hv, r⟩ := atI_all h hi
  rcases hq with ⟨_, hq⟩ | ⟨_, hq⟩
  · exact .inr (.inl ⟨a, xs, i, v, rfl, rfl, hq, hv, q v H (exr H) r⟩)
  · exact .inl ⟨a, xs, i, v, rfl, rfl, hq, hv, q v H (exr H) r⟩
theorem ov_ixT {Rs : List RP} {i : Int} {R : RP} (hi : atI Rs i = some R) : OpV (rIx K) (rTup Rs) (rInt i) R := fun x y H hx => ov_ix (k := true) hi x y H (sq_tup hx)
theorem ov_ixL {Rs : List RP} {i : Int} {R : RP} (hi : atI Rs i = some R) : OpV (rIx K) (rLst Rs) (rInt i) R := fun x y H hx => ov_ix (k := false) hi x y H (sq_lst hx)
theorem ov_ixS {z : Str} {i : Int} {c : Nat} (hz : z.length ≤ sizeLine) (hi : atI z.cps.toList i = some c) : OpV (rIx K) (rStr z) (rInt i) (rStr ⟨#[c]⟩) := fun x y H hx hy Q q => by
  have hx : x = .str z := hx
  have hy : y = .int i := hy
  subst hx hy
  exact .inr (.inr ⟨z, i, c, rfl, rfl, hz, hi, q _ H (exr H) rfl⟩)
/-! ### + of lists, tuples -/
theorem ov_cat {Rs Ss : List RP} (hl : Rs.length + Ss.length ≤ 100000) : OpV rCat (rLst Rs) (rLst Ss) (rLst (Rs ++ Ss)) := fun x y H ⟨a, xs, e1, h1, p1⟩ ⟨b, ys, e2, h2, p2⟩ Q q => by
  have l1 := p1.len
  have l2 := p2.len
  exact ⟨a, b, xs, ys, e1, e2, h1, h2, Evl.sz_of (by omega), fun p hp => q _ _ (Evl.Ex.new hp) ⟨p, _, rfl, upd_same, (p1.app p2).mono (Evl.Ex.new hp)⟩⟩
theorem ov_catA {Rs Ss : List RP} (hl : Rs.length + Ss.length ≤ 100000) : OpV (rCatA K) (rTup Rs) (rTup Ss) (rTup (Rs ++ Ss)) := fun x y H ⟨a, xs, e1, h1, p1⟩ ⟨b, ys, e2, h2, p2⟩ Q q => by
  have l1 := p1.len
  have l2 := p2.len
  refine ⟨a, b, xs, ys, e1, e2, SqT.of h1, SqT.of h2, Evl.sz_of (by omega), fun e => ?_, fun _ e => ?_, fun _ _ p hp => q _ _ (Evl.Ex.new hp) ⟨p, _, rfl, upd_same, (p1.app p2).mono (Evl.Ex.new hp)⟩⟩
  · subst e
    have : Rs = [] := List.length_eq_zero_iff.mp l1.symm
    subst this
    exact q _ H (exr H) ⟨b, ys, rfl, h2, p2⟩
  · subst e
    have : Ss = [] := List.length_eq_zero_iff.mp l2.symm
    subst this
    rw [List.append_nil] at *
    exact q _ H (exr H) ⟨a, xs, rfl, h1, p1⟩
/-! ### slices -/
def cutR {α : Type} (xs : List α) (lo hi : Option Int) : List α := (xs.drop (HT.sIx xs.length 0 lo)).take (HT.sIx xs.length xs.length hi - HT.sIx xs.length 0 lo)
theorem allP_cut {Rs : List RP} {xs : List V} {H : Hp} {lo hi : Option Int} (h : AllP Rs xs H) : AllP (cutR Rs lo hi) (cutV xs lo hi) H := by
  unfold cutR cutV
  rw [h.len]
  exact (h.drop _).take _
theorem cutR_map {α β : Type} {f : α → β} {xs : List α} {lo hi : Option Int} : cutR (xs.map f) lo hi = (cutR xs lo hi).map f := by
  unfold cutR
  rw [List.length_map, List.map_take, List.map_drop]
theorem sv_L {Rs : List RP} {lo hi : Option Int} : SlV (rSlL K) (rLst Rs) lo hi (rLst (cutR Rs lo hi)) := fun x H ⟨a, xs, e, h, p⟩ Q q => ⟨a, xs, e, SqL.of h, fun b hb => q _ _ (Evl.Ex.new hb) ⟨b, _, rfl, upd_same, (allP_cut p).mono (Evl.Ex.new hb)⟩⟩
theorem cut_whole {α : Type} {xs : List α} {lo hi : Option Int} (h : HT.sIx xs.length 0 lo = 0 ∧ HT.sIx xs.length xs.length hi = xs.length) : cutR xs lo hi = xs := by
  unfold cutR
  rw [h.1, h.2, List.drop_zero, Nat.sub_zero, List.take_length]
theorem sv_T {Rs : List RP} {lo hi : Option Int} : SlV (rSlA K) (rTup Rs) lo hi (rTup (cutR Rs lo hi)) := fun x H ⟨a, xs, e, h, p⟩ Q q => ⟨a, xs, e, SqT.of h, fun w => q _ H (exr H) (by
    have e : cutR Rs lo hi = Rs := cut_whole (by rw [← p.len]; exact w)
    rw [e]
    exact ⟨a, xs, rfl, h, p⟩), fun _ b hb => q _ _ (Evl.Ex.new hb) ⟨b, _, rfl, upd_same, (allP_cut p).mono (Evl.Ex.new hb)⟩⟩
theorem sv_S {z : Str} {lo hi : Option Int} (hz : z.length ≤ sizeLine) : SlV rSlS (rStr z) lo hi (rStr (cutS z lo hi)) := fun x H hx Q q => by
  have hx : x = .str z := hx
  subst hx
  exact ⟨z, rfl, hz, q _ H (exr H) rfl⟩
/-! ### calls -/
def rLn (K : PySem.W.Frag) : List V → Hp → VK → Prop := fun xs H Q => ∃ x n, xs = [x] ∧ LenV K x H n ∧ Q (.int n) H
theorem cr_ln {X : Cx} : CallR X (.builtin "len") (rLn X.K) := call_len
theorem cv_ln {k : Bool} {Rs : List RP} : CbV (rLn K) [rSq K k Rs] (rInt (Rs.length : Nat)) := fun vs H hv Q q => by
  obtain ⟨v, rfl, a, xs, rfl, hq, hx⟩ := hv.one
  refine ⟨_, xs.length, rfl, ?_, q _ H (exr H) (by rw [hx.len])⟩
  rcases hq with ⟨_, hq⟩ | ⟨_, hq⟩
  · exact .inr ⟨xs, hq, rfl⟩
  · exact .inl ⟨xs, hq, rfl⟩
theorem cv_lnT {Rs : List RP} : CbV (rLn K) [rTup Rs] (rInt (Rs.length : Nat)) := fun vs H hv => by
  obtain ⟨v, rfl, h1⟩ := hv.one
  exact cv_ln (k := true) [v] H ⟨sq_tup h1, trivial⟩
theorem cv_lnL {Rs : List RP} : CbV (rLn K) [rLst Rs] (rInt (Rs.length : Nat)) := fun vs H hv => by
  obtain ⟨v, rfl, h1⟩ := hv.one
  exact cv_ln (k := false) [v] H ⟨sq_lst h1, trivial⟩
theorem cv_lnS {z : Str} (hz : z.length ≤ sizeLine) : CbV (rLn K) [rStr z] (rInt (z.length : Nat)) := fun vs H hv Q q => by
  obtain ⟨v, rfl, e⟩ := hv.one
  have e : v = .str z := e
  subst e
  exact ⟨_, z.length, rfl, ⟨hz, rfl⟩, q _ H (exr H) rfl⟩
def rLof (K : PySem.W.Frag) : List V → Hp → VK → Prop := fun xs H Q => ∃ p ys, xs = [.ref p] ∧ (SqL K H p ys ∨ SqT K H p ys) ∧ ∀ l, H l = none → Q (.ref l) (upd H l (.lst ys))
theorem cr_lof {X : Cx} : CallR X (.type "list") (rLof X.K) := call_list_of
theorem cv_lof {k : Bool} {Rs : List RP} : CbV (rLof K) [rSq K k Rs] (rLst Rs) := fun vs H hv Q q => by
  obtain ⟨v, rfl, a, xs, rfl, hq, hx⟩ := hv.one
  exact ⟨a, xs, rfl, hq.elim (fun z => .inr z.2) (fun z => .inl z.2), fun p hp => q _ _ (Evl.Ex.new hp) ⟨p, xs, rfl, upd_same, hx.mono (Evl.Ex.new hp)⟩⟩
def rTof (K : PySem.W.Frag) : List V → Hp → VK → Prop := fun xs H Q => ∃ p ys, xs = [.ref p] ∧ ((SqL K H p ys ∧ ∀ l, H l = none → Q (.ref l) (upd H l (.tup ys))) ∨ (SqT K H p ys ∧ Q (.ref p) H))
theorem cr_tof {X : Cx} : CallR X (.type "tuple") (rTof X.K) := call_tuple_of
theorem cv_tof {Rs : List RP} : CbV (rTof K) [rLst Rs] (rTup Rs) := fun vs H hv Q q => by
  obtain ⟨v, rfl, a, xs, rfl, ha, hx⟩ := hv.one
  exact ⟨a, xs, rfl, .inl ⟨SqL.of ha, fun p hp => q _ _ (Evl.Ex.new hp) ⟨p, xs, rfl, upd_same, hx.mono (Evl.Ex.new hp)⟩⟩⟩
theorem cv_tofL {Rs : List RP} : CbV (rTof K) [rSq K false Rs] (rTup Rs) := fun vs H hv Q q => by
  obtain ⟨v, rfl, a, xs, rfl, hq, hx⟩ := hv.one
  rcases hq with ⟨z, _⟩ | ⟨_, hq⟩
  · cases z
  · exact ⟨a, xs, rfl, .inl ⟨hq, fun p hp => q _ _ (Evl.Ex.new hp) ⟨p, xs, rfl, upd_same, hx.mono (Evl.Ex.new hp)⟩⟩⟩
theorem cv_tofT {Rs : List RP} : CbV (rTof K) [rTup Rs] (rTup Rs) := fun vs H hv Q q => by
  obtain ⟨v, rfl, a, xs, rfl, ha, hx⟩ := hv.one
  exact ⟨a, xs, rfl, .inr ⟨SqT.of ha, q _ H (exr H) ⟨a, xs, rfl, ha, hx⟩⟩⟩
theorem cv_all {α : Type} {as : List α} {b : α → Bool} : CbV (rAll K) [rLst (as.map fun a => rBl (b a))] (rBl (as.all b)) := fun vs H hv Q q => by
  obtain ⟨v, rfl, a, xs, rfl, ha, hx⟩ := hv.one
  have e : xs = (as.map b).map V.bl := by
    have : AllP ((as.map fun a => V.bl (b a)).map rV) xs H := by
      rw [List.map_map]
      exact hx
    rw [AllP.vals this, List.map_map]
    rfl
  subst e
  refine ⟨a, as.map b, rfl, SqL.of ha, q _ H (exr H) ?_⟩
  rw [List.all_map]
  rfl
def rAbs : List V → Hp → VK → Prop := fun xs H Q => ∃ i, xs = [.int i] ∧ Q (.int (if i < 0 then -i else i)) H
theorem cr_abs {X : Cx} : CallR X (.builtin "abs") rAbs := call_abs
theorem cv_abs {i : Int} : CbV rAbs [rInt i] (rInt (if i < 0 then -i else i)) := fun vs H hv Q q => by
  obtain ⟨v, rfl, e⟩ := hv.one
  have e : v = .int i := e
  subst e
  exact ⟨i, rfl, q _ H (exr H) rfl⟩
def rIn1 : List V → Hp → VK → Prop := fun xs H Q => (∃ i, xs = [.int i] ∧ Q (.int i) H) ∨ ∃ k, xs = [.bl k] ∧ Q (.int (if k then 1 else 0)) H
theorem cr_int {X : Cx} : CallR X (.type "int") rIn1 := call_int1
theorem cv_int {i : Int} : CbV rIn1 [rInt i] (rInt i) := fun vs H hv Q q => by
  obtain ⟨v, rfl, e⟩ := hv.one
  have e : v = .int i := e
  subst e
  exact .inl ⟨i, rfl, q _ H (exr H) rfl⟩
def rInS : List V → Hp → VK → Prop := fun xs H Q => ∃ a n, xs = [.str a] ∧ PySem.intText? a = some n ∧ a.length ≤ 640 ∧ Q (.int n) H
theorem cr_intS {X : Cx} : CallR X (.type "int") rInS := call_int_str
theorem cv_intS {a : Str} {n : Int} (h : PySem.intText? a = some n) (hl : a.length ≤ 640) : CbV rInS [rStr a] (rInt n) := fun vs H hv Q q => by
  obtain ⟨v, rfl, e⟩ := hv.one
  have e : v = .str a := e
  subst e
  exact ⟨a, n, rfl, h, hl, q _ H (exr H) rfl⟩
def rStI : List V → Hp → VK → Prop := fun xs H Q => ∃ i, xs = [.int i] ∧ i.natAbs.log2 < 1920 ∧ Q (.str (toString i)) H
theorem cr_strI {X : Cx} : CallR X (.type "str") rStI := call_str_int
theorem cv_strI {i : Int} (h : i.natAbs.log2 < 1920) : CbV rStI [rInt i] (rStr (toString i)) := fun vs H hv Q q => by
  obtain ⟨v, rfl, e⟩ := hv.one
  have e : v = .int i := e
  subst e
  exact ⟨i, rfl, h, q _ H (exr H) rfl⟩
/-! ### isinstance -/
theorem isi_int {i : Int} : CbV (rIsi K) [rInt i, rV (.ty "int")] (rBl true) := fun vs H hv Q q => by
  obtain ⟨v, w, rfl, e1, e2⟩ := hv.two
  cases (show v = V.int i from e1)
  cases (show w = V.ty "int" from e2)
  exact ⟨_, _, .type "int", .type "int", true, rfl, .ty "int", .base (.int i), kit_ty (by decide +kernel), q _ H (exr H) rfl⟩
theorem isi_intB {i : Int} : CbV (rIsi K) [rInt i, rV (.ty "bool")] (rBl false) := fun vs H hv Q q => by
  obtain ⟨v, w, rfl, e1, e2⟩ := hv.two
  cases (show v = V.int i from e1)
  cases (show w = V.ty "bool" from e2)
  exact ⟨_, _, .type "int", .type "bool", false, rfl, .ty "bool", .base (.int i), kit_ty (by decide +kernel), q _ H (exr H) rfl⟩
theorem isi_str {z : Str} : CbV (rIsi K) [rStr z, rV (.ty "str")] (rBl true) := fun vs H hv Q q => by
  obtain ⟨v, w, rfl, e1, e2⟩ := hv.two
  cases (show v = V.str z from e1)
  cases (show w = V.ty "str" from e2)
  exact ⟨_, _, .type "str", .type "str", true, rfl, .ty "str", .base (.str z), kit_ty (by decide +kernel), q _ H (exr H) rfl⟩
theorem isi_tup {Rs : List RP} : CbV (rIsi K) [rTup Rs, rV (.ty "tuple")] (rBl true) := fun vs H hv Q q => by
  obtain ⟨v, w, rfl, ⟨a, xs, rfl, ha, _⟩, e2⟩ := hv.two
  cases (show w = V.ty "tuple" from e2)
  exact ⟨_, _, .type "tuple", .type "tuple", true, rfl, .ty "tuple", .base (.tup ha), kit_ty (by decide +kernel), q _ H (exr H) rfl⟩
end
end Kx
set_option Elab.async false
set_option linter.all false
set_option maxRecDepth 100000
set_option maxHeartbeats 4000000
/-! K14: == of data, < of cells, in; sorted, dict(pairs), views; a def's call. -/
namespace Kx
open PySem L2 PyProof.Rows
def eqC (a b : Cell) : Bool := decide (a.1 = b.1) && decide (a.2 = b.2)
theorem eqC_iff {a b : Cell} : eqC a b = true ↔ a = b := by
  unfold eqC
  rw [Bool.and_eq_true, decide_eq_true_eq, decide_eq_true_eq]
  exact ⟨fun h => Prod.ext h.1 h.2, fun h => by rw [h]; exact ⟨rfl, rfl⟩⟩
theorem eqv_cell (a b : Cell) : PyData.eqv (encC a) (encC b) = eqC a b := by
  unfold encC eqC
  simp only [PyData.eqv, PyData.eqvAll, Bool.and_true]
  rfl
theorem shp_cell (a : Cell) : SeqAt.shaped (encC a) = true := rfl
section
variable {K : PySem.W.Frag}
theorem ov_eqC {a b : Cell} : OpV (rEqD K) (rCell a) (rCell b) (rBl (eqC a b)) := fun x y H hx hy Q q => ⟨encC a, encC b, dat_cell a K H x hx, dat_cell b K H y hy, shp_cell a, shp_cell b, q _ H (exr H) (by rw [eqv_cell])⟩
theorem ov_neC {a b : Cell} : OpV (rNeD K) (rCell a) (rCell b) (rBl (!eqC a b)) := fun x y H hx hy Q q => ⟨encC a, encC b, dat_cell a K H x hx, dat_cell b K H y hy, shp_cell a, shp_cell b, q _ H (exr H) (by rw [eqv_cell])⟩
theorem ov_eqSame {R S : RP} {d : PyData} (h : Dat R d) (g : Dat S d) (hs : SeqAt.shaped d = true) : OpV (rEqD K) R S (rBl true) := fun x y H hx hy Q q => ⟨d, d, h K H x hx, g K H y hy, hs, hs, q _ H (exr H) (by
  rw [SeqAt.eqv_refl d (SeqAt.canLay_of_shaped hs)])⟩
theorem ov_neSame {R S : RP} {d : PyData} (h : Dat R d) (g : Dat S d) (hs : SeqAt.shaped d = true) : OpV (rNeD K) R S (rBl false) := fun x y H hx hy Q q => ⟨d, d, h K H x hx, g K H y hy, hs, hs, q _ H (exr H) (by
  rw [SeqAt.eqv_refl d (SeqAt.canLay_of_shaped hs)]
  rfl)⟩
theorem shp_cells (cs : List Cell) : SeqAt.shaped (.list (cs.map encC)) = true := by
  have h1 : PyData.canLayAll0 (cs.map encC) = true := by
    induction cs with
    | nil => rfl
    | cons c r ih =>
      rw [List.map_cons]
      simp only [PyData.canLayAll0, Bool.and_eq_true]
      exact ⟨rfl, ih⟩
  have h2 : PyData.depthAll (cs.map encC) ≤ 2 := by
    induction cs with
    | nil => exact Nat.zero_le _
    | cons c r ih =>
      rw [List.map_cons]
      simp only [PyData.canLayAll0, List.map_cons, Bool.and_eq_true] at h1
      have := ih h1.2
      simp only [PyData.depthAll]
      exact Nat.max_le.mpr ⟨by simp [encC, PyData.depth, PyData.depthAll], this⟩
  unfold SeqAt.shaped
  rw [Bool.and_eq_true, decide_eq_true_eq]
  refine ⟨h1, ?_⟩
  simp only [PyData.depth]
  omega
/-- cells != [] -/
theorem ov_neNil {cs : List Cell} : OpV (rNeD K) (rLstL rCell cs) (rLst []) (rBl (!cs.isEmpty)) := fun x y H hx hy Q q => ⟨.list (cs.map encC), .list [], dat_lst (datA_map dat_cell cs) K H x hx, dat_lst datA_nil K H y hy, shp_cells cs, rfl, q _ H (exr H) (by
  cases cs with
  | nil => rfl
  | cons c r => rfl)⟩
/-! ### c < d -/
def ltC (a b : Cell) : Bool := if a.1 = b.1 then decide (a.2 < b.2) else decide (a.1 < b.1)
theorem cell_sq {a : Cell} {v : V} {H : Hp} (h : (rCell a).p v H) : ∃ p, v = .ref p ∧ SqT K H p ([a.1, a.2].map V.int) := by
  obtain ⟨p, e, hp⟩ := cell_at h
  exact ⟨p, e, SqT.of hp⟩
theorem ov_ltC {a b : Cell} : OpV (rLtT K) (rCell a) (rCell b) (rBl (ltC a b)) := fun x y H hx hy Q q => by
  obtain ⟨p, rfl, hp⟩ := cell_sq (K := K) hx
  obtain ⟨r, rfl, hr⟩ := cell_sq (K := K) hy
  refine ⟨p, r, _, _, rfl, rfl, hp, hr, q _ H (exr H) ?_⟩
  show V.bl (if a.1 = b.1 then (if a.2 = b.2 then HT.lexLt [] [] else decide (a.2 < b.2)) else decide (a.1 < b.1)) = V.bl (if a.1 = b.1 then decide (a.2 < b.2) else decide (a.1 < b.1))
  by_cases e1 : a.1 = b.1
  · rw [if_pos e1, if_pos e1]
    by_cases e2 : a.2 = b.2
    · rw [if_pos e2, e2]
      show V.bl false = V.bl (decide (b.2 < b.2))
      rw [decide_eq_false (Int.lt_irrefl _)]
    · rw [if_neg e2]
  · rw [if_neg e1, if_neg e1]
/-! ### in -/
theorem any_cell (cs : List Cell) (c : Cell) : ((cs.map encC).any fun z => PyData.eqv z (encC c)) = isin cs c := by
  unfold isin
  rw [List.any_map]
  congr 1
  funext x
  exact eqv_cell x c
theorem shp_cellsT (cs : List Cell) : SeqAt.shaped (.tuple (cs.map encC)) = true := by
  have := shp_cells cs
  unfold SeqAt.shaped at this ⊢
  simpa [PyData.canLay0, PyData.depth] using this
theorem ov_inT {c : Cell} {cs : List Cell} : OpV (rInT K false) (rCell c) (rTupL rCell cs) (rBl (isin cs c)) := fun x y H hx hy Q q => ⟨encC c, cs.map encC, dat_cell c K H x hx, dat_tup (datA_map dat_cell cs) K H y hy, shp_cell c, shp_cellsT cs, q _ H (exr H) (by rw [any_cell, Bool.false_xor])⟩
theorem ov_ninT {c : Cell} {cs : List Cell} : OpV (rInT K true) (rCell c) (rTupL rCell cs) (rBl (!isin cs c)) := fun x y H hx hy Q q => ⟨encC c, cs.map encC, dat_cell c K H x hx, dat_tup (datA_map dat_cell cs) K H y hy, shp_cell c, shp_cellsT cs, q _ H (exr H) (by rw [any_cell, Bool.true_xor])⟩
def rSgn (neg : Bool) : R2 := fun x y H Q => ∃ (c : Nat) (z : Str), x = .str ⟨#[c]⟩ ∧ y = .str z ∧ Q (.bl (neg ^^ decide (c ∈ z.cps.toList))) H
theorem op_inSgn {X : Cx} : OpR X (compareOp .In) (rSgn false) := by
  intro pins s σ H x y v u Q I rx ry h
  obtain ⟨c, z, rfl, rfl, q⟩ := h
  exact op_in_sign pins s σ H _ _ v u Q I rx ry ⟨c, z, rfl, rfl, by rw [Bool.false_xor] at q; exact q⟩
theorem op_ninSgn {X : Cx} : OpR X (compareOp .NotIn) (rSgn true) := by
  intro pins s σ H x y v u Q I rx ry h
  obtain ⟨c, z, rfl, rfl, q⟩ := h
  exact op_notIn_sign pins s σ H _ _ v u Q I rx ry ⟨c, z, rfl, rfl, by rw [Bool.true_xor] at q; exact q⟩
theorem ov_sgn {neg : Bool} {c : Nat} {z : Str} : OpV (rSgn neg) (rStr ⟨#[c]⟩) (rStr z) (rBl (neg ^^ decide (c ∈ z.cps.toList))) := fun x y H hx hy Q q => by
  cases (show x = V.str ⟨#[c]⟩ from hx)
  cases (show y = V.str z from hy)
  exact ⟨c, z, rfl, rfl, q _ H (exr H) rfl⟩
/-- a text in a list or tuple of texts -/
theorem ov_inS {k : Bool} {z : Str} {zs : List Str} : OpV (rIn K false) (rStr z) (rSq K k (zs.map rStr)) (rBl (zs.any fun y => y == z)) := fun x y H hx hy Q q => by
  cases (show x = V.str z from hx)
  obtain ⟨a, xs, rfl, hq, hx⟩ := hy
  have e : xs = zs.map V.str := by
    have : AllP ((zs.map V.str).map rV) xs H := by
      rw [List.map_map]
      exact hx
    exact AllP.vals this
  subst e
  refine ⟨a, _, rfl, hq.elim (fun z => .inr z.2) (fun z => .inl z.2), rfl, by simp [List.all_map, Function.comp_def, flatV], q _ H (exr H) ?_⟩
  show V.bl (inV (V.str z) (zs.map V.str)) = _
  unfold inV
  rw [List.any_map]
  rfl
/-! ### sorted, dict(pairs), the views' lists -/
theorem cv_srtQ {α : Type} {f : α → RP} {enc : α → PyData} {as : List α} {k : Bool} (hd : ∀ a, Dat (f a) (enc a)) (ok : SOk (as.map enc)) : CbV (rSrt K) [rSq K k (as.map f)] (rLstL f (as.mergeSort (PySem.W.dataLe false enc))) := fun vs H1 hv Q q => by
  obtain ⟨v, rfl, a, xs, rfl, hq, hx⟩ := hv.one
  exact ⟨a, xs, _, rfl, hq.elim (fun z => .inr z.2) (fun z => .inl z.2), datA_map hd as K H1 xs hx, ok, fun p hp => q _ _ (Evl.Ex.new hp) ⟨p, _, rfl, upd_same, (srtV_of hx).mono (Evl.Ex.new hp)⟩⟩
end
def rLdT : List V → Hp → VK → Prop := fun xs H Q => ∃ d kvs, xs = [V.ref d] ∧ Rd H d (.dT kvs) ∧ ∀ p bs, H p = none → IsKeys H kvs bs → Q (.ref p) (upd H p (.lst (bs.map V.ref)))
theorem cr_ldT {X : Cx} (hc : X.calm = true) : CallR X (.type "list") rLdT := call_list_dT hc
theorem cv_ldT {kvs : List (Cell × V)} : CbV rLdT [rDic kvs] (rLstL rCell (kvs.map (·.1))) := fun vs H hv Q q => by
  obtain ⟨v, rfl, a, rfl, ha⟩ := hv.one
  exact ⟨a, _, rfl, .inl ha, fun p bs hp hb => q _ _ (Evl.Ex.new hp) ⟨p, _, rfl, upd_same, (keys_cells hb).mono (Evl.Ex.new hp)⟩⟩
/-! ### a def that stands behind the top -/
structure Cl (P : Program) (w : World) (K : PySem.W.Frag) (mg : Str → Option Value) (base : Heap) (k : Nat) (x : Str) (sp : Sp) : Prop where
  ex : ∃ f fd ps, FnOk P w K mg base CX0 k f fd ps sp ∧ mg x = some (.ref f) ∧ PySem.W.keepIn K (.ref f) = true ∧ Binds K fd ps []
theorem Cl.mono {P : Program} {w : World} {K : PySem.W.Frag} {mg : Str → Option Value} {base : Heap} {j k : Nat} {x : Str} {sp : Sp} (h : Cl P w K mg base j x sp) (e : j ≤ k) : Cl P w K mg base k x sp := by
  obtain ⟨f, fd, ps, a, b, c, d⟩ := h.ex
  exact ⟨f, fd, ps, a.mono e, b, c, d⟩
theorem pe_cl {X : Cx} {k : Nat} {x : Str} {sp : Sp} {e : Expr} {es : List Expr} {t : TA} {p pos : Pos} (G : Cl X.prog X.w X.K X.mg X.base k x sp) (hr : Room k X.A) (hg : Gl X x) (ha : PA X (e :: es) t) (hdb : (x == ("__debug__" : Str)) = false := by decide)
    (he : starEach (e :: es) X.env = (false, eval e X.env) :: starEach es X.env := by rfl) (hpl : (backTo pos (starEach es X.env)).any (·.1) = false := by rfl) : PE X (.Call (.Name x p) (e :: es) [] pos) (tCall sp [] E0 t) := by
  obtain ⟨f, fd, ps, F, hm, hk, hb⟩ := G.ex
  exact pe_call F hr hg hm hk hb .nil pass0 ha hdb he hpl
end Kx
set_option Elab.async false
set_option linter.all false
set_option maxRecDepth 100000
set_option maxHeartbeats 4000000
/-! D0: the text by places, its facts, a few more rules. -/
namespace Kx
open PySem L2 PyProof.Rows
def top (i : Nat) : Stmt := PySem.Challenge.pw_slideinto_k61_whole_rows_of_names.main.body.getD i (.Pass ⟨0, 0, 0, 0⟩)
theorem b_isinstance : bootBuiltins "isinstance" = some (.builtin "isinstance") := by decide +kernel
theorem b_len : bootBuiltins "len" = some (.builtin "len") := by decide +kernel
theorem b_all : bootBuiltins "all" = some (.builtin "all") := by decide +kernel
theorem b_abs : bootBuiltins "abs" = some (.builtin "abs") := by decide +kernel
theorem b_sorted : bootBuiltins "sorted" = some (.builtin "sorted") := by decide +kernel
theorem b_int : bootBuiltins "int" = some (.type "int") := by decide +kernel
theorem b_bool : bootBuiltins "bool" = some (.type "bool") := by decide +kernel
theorem b_str : bootBuiltins "str" = some (.type "str") := by decide +kernel
theorem b_list : bootBuiltins "list" = some (.type "list") := by decide +kernel
theorem b_tuple : bootBuiltins "tuple" = some (.type "tuple") := by decide +kernel
theorem b_dict : bootBuiltins "dict" = some (.type "dict") := by decide +kernel
abbrev zSMALL : Str := "abcdefghijklmnopqrstuvwxyz"
abbrev zSIGNS : Str := "abcdefghijklmnopqrstuvwxyz0123456789"
/-- what stands behind the top -/
structure Txt (K : PySem.W.Frag) (mg : Str → Option Value) (tS tG : Tok) (aT aW : Addr) : Prop where
  isinstance : mg "isinstance" = none
  len : mg "len" = none
  all : mg "all" = none
  abs : mg "abs" = none
  sorted : mg "sorted" = none
  zip : mg "zip" = none
  list : mg "list" = none
  tuple : mg "tuple" = none
  range : mg "range" = none
  enumerate : mg "enumerate" = none
  int : mg "int" = none
  bool : mg "bool" = none
  str : mg "str" = none
  reversed : mg "reversed" = none
  dict : mg "dict" = none
  SMALL : mg "SMALL" = some (.str zSMALL tS)
  SIGNS : mg "SIGNS" = some (.str zSIGNS tG)
  TURNS : mg "TURNS" = some (.ref aT)
  WORDS : mg "WORDS" = some (.ref aW)
  vT : ∀ H, (rSq K true [rSq K true [rInt (-1), rInt 0], rSq K true [rInt 0, rInt (-1)], rSq K true [rInt 0, rInt 1], rSq K true [rInt 1, rInt 0]]).p (.ref aT) H
  vW : ∀ H, (rSq K true [rStr "turn", rStr "hold"]).p (.ref aW) H
theorem u8 {k : Nat} {A : Around} (hr : Room k A) : A.units + 8 < cLine := by
  have := hr.un
  omega
theorem u65 {k : Nat} {A : Around} (hr : Room k A) : A.units + 65 < cLine := by
  have := hr.un
  omega
/-- a, b, c = x, y, z -/
def tPar3 (i j l : Nat) (ta : TA) : TS := fun D σ H => ta σ H fun vs H1 => ∃ u v w, vs = [u, v, w] ∧ D.nx (((σ.set i (some u)).set j (some v)).set l (some w)) H1
theorem ps_par3 {X : Cx} {i j l : Nat} {x y z : Str} {a b c : Expr} {ta : TA} {px py pz pt pos : Pos} {kt k2 pt2} (hc : X.calm = true) (hN : X.N.Nodup) (hi : X.N[i]? = some x) (hj : X.N[j]? = some y) (hk : X.N[l]? = some z) (hij : i ≠ j) (hil : i ≠ l) (hjl : j ≠ l)
    (hx : X.env.scope.names.lookup x = some .local) (hy : X.env.scope.names.lookup y = some .local) (hz : X.env.scope.names.lookup z = some .local) (ha : PA X [a, b, c] ta)
    (hw : swappedStores [.Tuple [.Name x px, .Name y py, .Name z pz] kt pt] (.Tuple [a, b, c] k2 pt2) X.env = pure (some [x, y, z]))
    (hs : swapsWithSole [.Tuple [.Name x px, .Name y py, .Name z pz] kt pt] (.Tuple [a, b, c] k2 pt2) pos.line X.env = pure false := by rfl) :
    PS X (.Assign [.Tuple [.Name x px, .Name y py, .Name z pz] kt pt] (.Tuple [a, b, c] k2 pt2) pos) (tPar3 i j l ta) := by
  refine ⟨fun pins s σ H D I h => ?_⟩
  rw [exec_Assign_arm]
  refine wpAny_bind (wpAny_standAt ?_)
  rw [hs]
  refine wpAny_bind (wpAny_pure ?_)
  rw [if_neg (by decide)]
  refine wpAny_bind (Tuple_ (thn (ha.run _ pins s σ H _ I h) fun us s1 ⟨vs, H1, I1, r1, q1⟩ => ?_))
  obtain ⟨u, v, w, e1, q1⟩ := q1
  subst e1
  obtain ⟨u1, u2, u3, rfl, ru, rv, rw'⟩ : ∃ u1 u2 u3, us = [u1, u2, u3] ∧ RelV u u1 ∧ RelV v u2 ∧ RelV w u3 := by
    cases r1 with
    | cons p q =>
      cases q with
      | cons p' q' =>
        cases q' with
        | cons p2 q2 =>
          cases q2
          exact ⟨_, _, _, rfl, p, p', p2⟩
  refine wpAny_newObj_type ?_ (by show 3 ≤ sizeLine; decide)
  have I2 : Inv X pins σ H1 { s1 with heap := s1.heap.push { cls := .type "tuple", data := .seq [u1, u2, u3].toArray } } := I1.kept (t' := s1.toks) fun b o e => Heap.get?_push_of_some _ e
  rw [hw]
  refine wpAny_bind (wpAny_pure ?_)
  show wpAny (model X.prog X.w) X.A (do rule "assign.swapped-stores"; let items ← unpackItems (.ref s1.heap.objs.size) 3 none; assignInOrder [fun v => bindName X.env z v, fun v => bindName X.env y v, fun v => bindName X.env x v] items.reverse; pure Flow.next) _ _ _
  refine wpAny_bind (wpAny_rule (wpAny_bind (unpackItems_tuple (items := #[u1, u2, u3]) (I.ok.hd hc) (IsTup.new s1.heap _) fun h' hx' => ?_)))
  have I3 := I2.kept (h' := h') (t' := s1.toks) fun b o e => hx' b o (Nat.ne_of_lt (Heap.lt_size e)) e
  show wpAny _ _ (assignInOrder [fun v => bindName X.env z v, fun v => bindName X.env y v, fun v => bindName X.env x v] [u3, u2, u1] >>= fun _ => pure Flow.next) _ _ _
  refine wpAny_bind (assignInOrder_cons (wpAny_bindName (store_ok I3 hN hk (.inl hz) rw' (fun s2 I4 => ?_) (.inr hz))))
  refine assignInOrder_cons (wpAny_bindName (store_ok I4 hN hj (.inl hy) rv (fun s3 I5 => ?_) (.inr hy)))
  refine assignInOrder_cons (wpAny_bindName (store_ok I5 hN hi (.inl hx) ru (fun s4 I6 => assignInOrder_nil (wpAny_pure ?_)) (.inr hx)))
  rw [List.set_comm _ _ hjl.symm, List.set_comm _ _ hil.symm, List.set_comm _ _ (Ne.symm hij)] at I6
  exact ⟨_, H1, I6, q1⟩
theorem i_str {σ : L2.St} {H : Hp} {te : TE} {z : Str} (h : Ev te σ H (rStr z)) : EvI (iStr te) σ H (z.cps.toList.map fun c => rStr ⟨#[c]⟩) := fun H1 e R q => h H1 e _ fun v H2 e2 hv => ⟨z, hv, by
  refine q _ H2 (fun _ => True) (fun i H v H' => H' = H ∧ ∃ c, z.cps[i]? = some c ∧ v = .str ⟨#[c]⟩) e2 (by rw [List.length_map, Array.length_toList]; exact walk_str) (fun _ _ => trivial) fun i S H3 x H4 hi e3 y => ?_
  obtain ⟨y1, c, y2, y3⟩ := y
  subst y1 y3
  rw [List.getElem?_map, Array.getElem?_toList, y2] at hi
  cases hi
  exact ⟨exr _, rfl⟩⟩
theorem s_retB {σ : L2.St} {H : Hp} {D : Ends} {te : TE} {b c : Bool} (h : Ev te σ H (rBl b)) (q : ∀ v H1, Ex H H1 → (rBl c).p v H1 → D.rt v H1) (e : b = c := by rfl) : tRet te D σ H := s_ret h (e ▸ q)
theorem st {N : List Str} {Rs : List RP} {vs : List V} {H : Hp} (h : AllP Rs vs H) (hl : Nat.ble Rs.length N.length = true := by rfl) : Sl (start N vs) H (Rs.map some ++ List.replicate (N.length - Rs.length) none) := Sl.start h (Nat.le_of_ble_eq_true hl)
section
variable {σ : L2.St} {H : Hp} {D : Ends} {t : TT} {tu tw tz : TS} {ta tb tc : TE} {Rx Ry Rc : RP} {r r' : R2}
theorem s_no {b : Bool} (h : EvT t σ H b) (k : ∀ H1, Ex H H1 → tw D σ H1) (e : b = false := by rfl) : tIfS t tu tw D σ H := by
  subst e
  exact s_ifF h k
theorem s_yes {b : Bool} (h : EvT t σ H b) (k : ∀ H1, Ex H H1 → tu D σ H1) (e : b = true := by rfl) : tIfS t tu tw D σ H := by
  subst e
  exact s_ifT h k
theorem qf {b : Bool} (h : EvT t σ H b) (k : ∀ H1, Ex H H1 → tz D σ H1) (e : b = false := by rfl) : tSeq (tIfS t tu tNext) tz D σ H := by
  subst e
  exact q_no h k
theorem qt {b : Bool} (h : EvT t σ H b) (k : ∀ H1, Ex H H1 → tu { D with nx := tz D } σ H1) (e : b = true := by rfl) : tSeq (tIfS t tu tw) tz D σ H := by
  subst e
  exact q_yes h k
/-- the other way of an if with else -/
theorem qfE {b : Bool} (h : EvT t σ H b) (k : ∀ H1, Ex H H1 → tw { D with nx := tz D } σ H1) (e : b = false := by rfl) : tSeq (tIfS t tu tw) tz D σ H := by
  subst e
  exact q_if h (fun z => nomatch z) fun _ => k
theorem e_chn {b c : Bool} (ha : Ev ta σ H Rx) (hb : Ev tb σ H Ry) (hr : OpV r Rx Ry (rBl b)) (hc : Ev tc σ H Rc) (hr' : OpV r' Ry Rc (rBl c)) : Ev (tChain r r' ta tb tc) σ H (rBl (b && c)) := fun H1 e Q q =>
  ha H1 e _ fun x H2 e2 hx => hb H2 (e.trans e2) _ fun y H3 e3 hy => hr x y H3 (Rx.mono e3 hx) hy _ fun z H4 e4 hz => ⟨b, hz, by
    cases b with
    | true =>
      show tc σ H4 _
      exact hc H4 (((e.trans e2).trans e3).trans e4) _ fun z H5 e5 hz => hr' y z H5 (Ry.mono (e4.trans e5) hy) hz Q fun w H6 e6 hw => q w H6 ((((e2.trans e3).trans e4).trans e5).trans e6) hw
    | false =>
      show Q (.bl false) H4
      exact q _ H4 ((e2.trans e3).trans e4) rfl⟩
end
/-! rules within a comprehension: the fragment as it is around -/
section
variable {X : Cx} {K : PySem.W.Frag}
theorem ixK (e : X.K = K := by rfl) : IxR X (rIx K) := e ▸ ix_seq
theorem neDK (hu : X.A.units + 64 < cLine) (e : X.K = K := by rfl) : OpR X (compareOp .NotEq) (rNeD K) := e ▸ op_neD hu
theorem eqDK (hu : X.A.units + 64 < cLine) (e : X.K = K := by rfl) : OpR X (compareOp .Eq) (rEqD K) := e ▸ op_eqD hu
theorem ltTK (hu : X.A.units < cLine) (e : X.K = K := by rfl) : OpR X (compareOp .Lt) (rLtT K) := e ▸ op_ltT hu
theorem isiK (e : X.K = K := by rfl) : CallR X (.builtin "isinstance") (rIsi K) := e ▸ call_isi
theorem inSeqK (e : X.K = K := by rfl) : OpR X (compareOp .In) (rIn K false) := e ▸ op_in_seq
end
end Kx
set_option Elab.async false
set_option linter.all false
set_option maxRecDepth 100000
/-! M1: mirrors in plain Lean of the bodies' part. -/
namespace Kx
open PySem L2
def besideC (c : Cell) : List Cell := [(c.1 - 1, c.2), (c.1, c.2 - 1), (c.1 + 1, c.2), (c.1, c.2 + 1)]
def rmC (l : List Cell) (c : Cell) : List Cell := l.filter fun x => !eqC x c
/-- sorted, as the model sorts -/
def srtC (cs : List Cell) : List Cell := cs.mergeSort (PySem.W.dataLe false encC)
/-- the neighbours that are left go from l to the end of t -/
def pushC : List Cell → List Cell → List Cell → List Cell × List Cell
  | l, t, [] => (l, t)
  | l, t, o :: os => if isin l o = true then pushC (rmC l o) (t ++ [o]) os else pushC l t os
def takeF : Nat → List Cell → List Cell → List Cell → List Cell × List Cell
  | 0, l, f, _ => (l, f)
  | n + 1, l, f, t => match t.getLast? with
    | none => (l, f)
    | some one => takeF n (pushC l t.dropLast (besideC one)).1 (f ++ [one]) (pushC l t.dropLast (besideC one)).2
def takenC (l : List Cell) (c : Cell) : List Cell × List Cell := takeF ((rmC l c).length + 1) (rmC l c) [] [c]
def partsF : List Cell → List Cell → List (List Cell)
  | [], _ => []
  | c :: cs, l => if isin l c = true then srtC (takenC l c).2 :: partsF cs (takenC l c).1 else partsF cs l
def hangsP (cs : List Cell) : Bool := (partsF (srtC cs) cs).length == 1
theorem rmC_len {l : List Cell} {c : Cell} : (rmC l c).length ≤ l.length := List.length_filter_le _ _
theorem rmC_lt {l : List Cell} {c : Cell} (h : isin l c = true) : (rmC l c).length + 1 ≤ l.length := by
  have hm := isin_iff.mp h
  unfold rmC
  have : ∀ l : List Cell, c ∈ l → (l.filter fun x => !eqC x c).length + 1 ≤ l.length := by
    intro l
    induction l with
    | nil => intro h; cases h
    | cons x r ih =>
      intro h
      by_cases e : eqC x c = true
      · rw [List.filter_cons_of_neg (by rw [e]; decide), List.length_cons]
        have := List.length_filter_le (fun x => !eqC x c) r
        omega
      · rcases List.mem_cons.mp h with z | z
        · exact absurd (eqC_iff.mpr z.symm) e
        · rw [List.filter_cons_of_pos (by simpa using e), List.length_cons, List.length_cons]
          have := ih z
          omega
  exact this l hm
theorem pushC_len : ∀ (os l t : List Cell), (pushC l t os).1.length + (pushC l t os).2.length ≤ l.length + t.length
  | [], l, t => Nat.le_refl _
  | o :: os, l, t => by
    unfold pushC
    by_cases h : isin l o = true
    · rw [if_pos h]
      have := pushC_len os (rmC l o) (t ++ [o])
      have h2 := rmC_lt h
      rw [List.length_append, List.length_singleton] at this
      omega
    · rw [if_neg h]
      exact pushC_len os l t
/-- all True -/
abbrev tr (l : List Cell) : List (Cell × V) := l.map fun c => (c, V.bl true)
theorem tr_keys (l : List Cell) : (tr l).map (·.1) = l := by
  rw [List.map_map]
  exact List.map_id' _
theorem tr_drop (l : List Cell) (c : Cell) : dropC (tr l) c = tr (rmC l c) := by
  unfold dropC rmC tr
  rw [List.filter_map]
  congr 1
  refine List.filter_congr fun x _ => ?_
  show decide (x ≠ c) = !eqC x c
  by_cases e : x = c
  · rw [eqC_iff.mpr e, decide_eq_false (fun z => z e)]
    rfl
  · rw [decide_eq_true e]
    cases hq : eqC x c with
    | false => rfl
    | true => exact absurd (eqC_iff.mp hq) e

/-! ### a heap without one of its objects -/
def hide (p : Addr) (H : Hp) : Hp := fun a => if a = p then none else H a
theorem hide_self {p : Addr} {H : Hp} : hide p H p = none := if_pos rfl
theorem hide_ne {p a : Addr} {H : Hp} (h : a ≠ p) : hide p H a = H a := if_neg h
theorem hide_le {p : Addr} {H : Hp} : Ex (hide p H) H := fun a o h => by
  unfold hide at h
  by_cases e : a = p
  · rw [if_pos e] at h
    cases h
  · rwa [if_neg e] at h
theorem ex_hide {p : Addr} {H0 H : Hp} (e : Ex H0 H) (h : H0 p = none) : Ex H0 (hide p H) := fun a o ha => by
  rw [hide_ne (fun z => by rw [z, h] at ha; cases ha)]
  exact e a o ha
theorem upd_upd' {H : Hp} {p : Addr} {a b : HO} : upd (upd H p a) p b = upd H p b := by
  funext x
  by_cases e : x = p
  · rw [e, upd_same, upd_same]
  · rw [upd_ne e, upd_ne e, upd_ne e]
theorem upd_self {H : Hp} {p : Addr} {o : HO} (h : H p = some o) : upd H p o = H := by
  funext x
  by_cases e : x = p
  · rw [e, upd_same, h]
  · rw [upd_ne e]
/-- what stands still when p changes to o' and more is made -/
theorem back {p : Addr} {H H' : Hp} {u : HO} (hp : H p = some u) (e : Ex (hide p H) H') : Ex H (upd H' p u) := fun a o ha => by
  by_cases z : a = p
  · rw [z] at ha ⊢
    rw [upd_same, ← hp, ha]
  · rw [upd_ne z]
    exact e a o (by rw [hide_ne z]; exact ha)
theorem Sl.hide {σ : L2.St} {H H' H0 : Hp} {Γ : Gm} {p : Addr} {u o : HO} (s : Sl σ H Γ) (hp : H p = some u) (nt : Nt u) (h0 : H0 p = none) (e : Ex (hide p H) H') (ho : H' p = some o) [g : MsG H0 Γ] : Sl σ H' Γ := by
  have h := (s.up (back hp e)).mut (H0 := H0) (o := o) upd_same nt h0
  rw [upd_upd', upd_self ho] at h
  exact h
theorem Ms.hide {H H' H0 : Hp} {R : RP} {p : Addr} {u o : HO} {v : V} [g : Ms H0 R] (hp : H p = some u) (nt : Nt u) (h0 : H0 p = none) (e : Ex (hide p H) H') (ho : H' p = some o) (h : R.p v H) : R.p v H' := by
  have h := g.ms _ p u o v upd_same nt h0 (R.mono (back hp e) h)
  rw [upd_upd', upd_self ho] at h
  exact h
theorem AllP.hide {H H' H0 : Hp} {Rs : List RP} {p : Addr} {u o : HO} {vs : List V} (g : ∀ R ∈ Rs, Ms H0 R) (hp : H p = some u) (nt : Nt u) (h0 : H0 p = none) (e : Ex (Kx.hide p H) H') (ho : H' p = some o) (h : AllP Rs vs H) : AllP Rs vs H' := by
  have h := allP_ms (o := o) upd_same nt h0 g (h.mono (back hp e))
  rw [upd_upd', upd_self ho] at h
  exact h
section
variable {H0 : Hp}
instance msg_set {Γ : Gm} {j : Nat} {R : RP} [a : MsG H0 Γ] [b : Ms H0 R] : MsG H0 (Γ.set j (some R)) := ⟨fun S h => by
  rcases List.mem_or_eq_of_mem_set h with z | z
  · exact a.ms S z
  · cases z
    exact b⟩
instance msg_setN {Γ : Gm} {j : Nat} [a : MsG H0 Γ] : MsG H0 (Γ.set j none) := ⟨fun S h => by
  rcases List.mem_or_eq_of_mem_set h with z | z
  · exact a.ms S z
  · cases z⟩
instance msg_app {Rs : List RP} {n : Nat} [a : MsL H0 Rs] : MsG H0 (Rs.map some ++ List.replicate n none) := ⟨fun S h => by
  rcases List.mem_append.mp h with z | z
  · obtain ⟨R, hR, e⟩ := List.mem_map.mp z
    cases e
    exact a.ms S hR
  · have := (List.mem_replicate.mp z).2
    cases this⟩
end
/-! ### new lists, new dicts -/
section
variable {K : PySem.W.Frag} {σ : L2.St} {H : Hp} {Γ : Gm} {te ta tb tk tv : TE} {R S : RP} {tr : TA}
theorem e_lstN {Rs : List RP} (h : EvA tr σ H Rs) (hl : Nat.ble Rs.length 1000 = true := by rfl) : Ev (tLst tr) σ H (rNewL H Rs) := fun H1 e _ q =>
  h H1 e _ fun vs H2 e2 hv => ⟨by rw [hv.len]; exact Nat.le_trans (Nat.le_of_ble_eq_true hl) (by decide), fun p hp => q _ _ (e2.trans (Evl.Ex.new hp)) ⟨p, vs, rfl, Evl.fresh_back (e.trans e2) hp, upd_same, hv.mono (Evl.Ex.new hp)⟩⟩
theorem e_dnewN : Ev tDNewT σ H (rNewD H []) := fun H1 e Q q p hp => q _ _ (Evl.Ex.new hp) ⟨p, rfl, Evl.fresh_back e hp, upd_same⟩
theorem e_disp1N {c : Cell} {v : V} (hk : Ev tk σ H (rCell c)) (hv : Ev tv σ H (rV v)) : Ev (tDisp1 tk tv) σ H (rNewD H [(c, v)]) := fun H1 e Q q p hp =>
  hk _ (e.trans (Evl.Ex.new hp)) _ fun x H2 e2 hx => hv H2 ((e.trans (Evl.Ex.new hp)).trans e2) _ fun y H3 e3 hy => by
    have hy : y = v := hy
    subst hy
    obtain ⟨b, rfl, hb⟩ := cell_at hx
    have ep : H3 p = some (.dT []) := (e2.trans e3) _ _ upd_same
    exact ⟨b, ck c, rfl, e3 _ _ hb, ep, q _ _ (Evl.Ex.mut (((Evl.Ex.new hp).trans e2).trans e3) hp) ⟨p, rfl, Evl.fresh_back e hp, upd_same⟩⟩
end
/-! ### a tuple that is walked -/
def Sf (K : PySem.W.Frag) (a : Addr) (xs : List V) (Rs : List RP) (H : Hp) : Prop := SqB K true H a xs ∧ AllP Rs xs H
theorem sqT_mut {K : PySem.W.Frag} {H : Hp} {a p : Addr} {xs : List V} {u o : HO} (h : SqB K true H a xs) (hp : H p = some u) (nt : Nt u) : SqB K true (upd H p o) a xs := by
  rcases h with ⟨_, h⟩ | ⟨z, _⟩
  · refine .inl ⟨rfl, ?_⟩
    rcases h with (h | ⟨ob, h⟩) | h
    · exact .inl (.inl (by
        rw [upd_ne (fun z => by
          rw [z, hp] at h
          cases h
          exact nt.no _ rfl)]
        exact h))
    · exact .inl (.inr ⟨ob, by
        rw [upd_ne (fun z => by
          rw [z, hp] at h
          cases h
          rcases nt with ⟨_, h⟩ | ⟨_, h⟩ | ⟨_, h⟩ <;> cases h)]
        exact h⟩)
    · exact .inr h
  · cases z
theorem Sf.up {K : PySem.W.Frag} {H H' : Hp} {a : Addr} {xs : List V} {Rs : List RP} (s : Sf K a xs Rs H) (e : Ex H H') : Sf K a xs Rs H' := ⟨s.1.up e, s.2.mono e⟩
theorem Sf.mut {K : PySem.W.Frag} {H H0 : Hp} {a p : Addr} {xs : List V} {Rs : List RP} {u o : HO} (s : Sf K a xs Rs H) (hp : H p = some u) (nt : Nt u) (h0 : H0 p = none) [g : MsL H0 Rs] : Sf K a xs Rs (upd H p o) := ⟨sqT_mut s.1 hp nt, allP_ms hp nt h0 g.ms s.2⟩
instance ms_sqT {K : PySem.W.Frag} {H0 : Hp} {Rs : List RP} [g : MsL H0 Rs] : Ms H0 (rSq K true Rs) := ⟨fun H p u o v hp nt h0 ⟨a, xs, e, hq, hx⟩ => ⟨a, xs, e, sqT_mut hq hp nt, allP_ms hp nt h0 g.ms hx⟩⟩
section
variable {σ : L2.St} {H : Hp} {Γ : Gm}
/-- a slot that holds one's own list, dict -/
theorem e_ol {i : Nat} {a : Addr} {xs : List V} {Rs : List RP} (s : Sl σ H Γ) (hl : H a = some (.lst xs)) (h : AllP Rs xs H) (hi : Γ[i]? = some (some (rV (.ref a))) := by rfl) : Ev (tVar i) σ H (rLst Rs) := fun H1 e Q q => by
  obtain ⟨v, v1, v2⟩ := s.2 i _ hi
  have v2 : v = .ref a := v2
  subst v2
  exact ⟨_, v1, q _ H1 (exr H1) ⟨a, xs, rfl, e _ _ hl, h.mono e⟩⟩
theorem e_od {i : Nat} {a : Addr} {kvs : List (Cell × V)} (s : Sl σ H Γ) (hl : H a = some (dC kvs)) (hi : Γ[i]? = some (some (rV (.ref a))) := by rfl) : Ev (tVar i) σ H (rDic kvs) := fun H1 e Q q => by
  obtain ⟨v, v1, v2⟩ := s.2 i _ hi
  have v2 : v = .ref a := v2
  subst v2
  exact ⟨_, v1, q _ H1 (exr H1) ⟨a, rfl, e _ _ hl⟩⟩
end
section
variable {K : PySem.W.Frag} {σ : L2.St} {H : Hp} {Γ : Gm} {tl : TE} {D : Ends} {tu tz : TS}
/-- for .. in a list that was made here -/
theorem s_forO {g : TG} {Rs : List RP} (h : Ev tl σ H (rLst Rs)) (Pv : Addr → List V → Nat → L2.St → Hp → Prop) (h0 : ∀ a xs H1, Ex H H1 → H1 a = some (.lst xs) → AllP Rs xs H1 → Pv a xs 0 σ H1)
    (hl : ∀ a xs i σ' H', Pv a xs i σ' H' → H' a = some (.lst xs)) (hs : ∀ a xs i x σ' H', i < Rs.length → xs[i]? = some x → Pv a xs i σ' H' → g x σ' H' fun σ2 H2 => tu { D with nx := Pv a xs (i + 1), ct := Pv a xs (i + 1), bk := D.nx } σ2 H2)
    (hd : ∀ a xs σ' H', Pv a xs Rs.length σ' H' → D.nx σ' H') : tFor (iSeq K tl) g tu D σ H := h H (exr H) _ fun v H1 e ⟨a, xs, ev, ha, hx⟩ => ⟨a, xs, false, ev, .inr ⟨rfl, SqL.of ha⟩, by
    have l := hx.len
    exact for_it (walk_seq (k := false)) (Pv a xs) (h0 a xs H1 e ha hx) (fun i σ' H' _ p => .inr ⟨rfl, SqL.of (hl a xs i σ' H' p)⟩) (fun i x σ' H' H2 hi p y => by
      obtain ⟨e2, hy⟩ := y
      rw [e2]
      exact hs a xs i x σ' H' (by omega) hy p) fun σ' H' p => hd a xs σ' H' (by rw [← l]; exact p)⟩
theorem q_forO {g : TG} {Rs : List RP} (h : Ev tl σ H (rLst Rs)) (Pv : Addr → List V → Nat → L2.St → Hp → Prop) (h0 : ∀ a xs H1, Ex H H1 → H1 a = some (.lst xs) → AllP Rs xs H1 → Pv a xs 0 σ H1)
    (hl : ∀ a xs i σ' H', Pv a xs i σ' H' → H' a = some (.lst xs)) (hs : ∀ a xs i x σ' H', i < Rs.length → xs[i]? = some x → Pv a xs i σ' H' → g x σ' H' fun σ2 H2 => tu { D with nx := Pv a xs (i + 1), ct := Pv a xs (i + 1), bk := tz D } σ2 H2)
    (hd : ∀ a xs σ' H', Pv a xs Rs.length σ' H' → tz D σ' H') : tSeq (tFor (iSeq K tl) g tu) tz D σ H := s_forO (D := { D with nx := tz D }) h Pv h0 hl hs hd
end
section
variable {K : PySem.W.Frag} {σ : L2.St} {H : Hp} {Γ : Gm} {ta te : TE} {D : Ends} {tu tz : TS} {t : TA} {Rs : List RP} {sp : Sp} {E : XK} {Q : VK}
/-- l.append(e), e may change things -/
theorem s_appX {l : Addr} {xs : List V} (hl : H l = some (.lst xs)) (ha : Ev ta σ H (rV (.ref l))) (hz : xs.length < 100000) (h : ∀ H1, Ex H H1 → ∀ Q : VK, (∀ v H2, H2 l = some (.lst xs) → D.nx σ (upd H2 l (.lst (xs ++ [v]))) → Q v H2) → te σ H1 Q) : tDrop (tBM K "list" rAppend ta (tCons te tNil)) D σ H := ha H (exr H) _ fun v H1 e1 hv => by
  have hv : v = .ref l := hv
  subst hv
  exact ⟨.inl ⟨rfl, xs, SqL.of (e1 l _ hl)⟩, h H1 e1 _ fun v H2 h1 h2 => ⟨l, xs, v, rfl, rfl, h1, Evl.sz_lt hz, h2⟩⟩
/-- a call by its promise as it stands -/
theorem c_call (h : EvA t σ H Rs) (k : ∀ vs H1, Ex H H1 → AllP Rs vs H1 → sp vs H1 Q E) : tCall sp [] E t σ H Q := h H (exr H) _ fun vs H1 e hv => by
  show sp (vs ++ []) H1 Q E
  rw [List.append_nil]
  exact k vs H1 e hv
end
end Kx
set_option Elab.async false
set_option linter.all false
set_option maxRecDepth 100000
set_option maxHeartbeats 4000000
/-! D1: is_whole, is_cell, check_cell, beside, is_name. -/
namespace Kx
open PySem L2 PyProof.Rows
section
variable {P : Program} {w : World} {K : PySem.W.Frag} {mg : Str → Option Value} {base : Heap} {tS tG : Tok} {aT aW : Addr} {f : Addr} {fd : FuncData}
abbrev pTrue {α : Type} : α → Prop := fun _ => True
abbrev spWhole : Sp := Fn pTrue (fun i : Int => [rInt i]) fun _ => rBl true
abbrev N_is_whole : List Str := ["value"]
theorem sc_is_whole : FnScope N_is_whole ["value"] (defScope (top 7)) := ⟨rfl, rfl, rfl, by decide +kernel, rfl, by decide +kernel, by decide +kernel⟩
theorem ok_is_whole (F : Fun K "is_whole" "is_whole" (top 7) f fd) (T : Txt K mg tS tG aT aW) : FnOk P w K mg base CX0 1 f fd ["value"] spWhole := by
  refine F.ok sc_is_whole (Fn.len fun _ => rfl) (fun cdv A outer s H vs Q E hr h => ⟨_, (pss_one (ps_ret (pe_and (pe_callB (isiK (K := K)) (by rfl) T.isinstance b_isinstance (pa_cons (pv 0) (pa_cons (pe_bltn (v := .ty "int") (by rfl) T.int b_int rfl) pa_nil))) (pe_one (pe_not (pe_callB (isiK (K := K)) (by rfl) T.isinstance b_isinstance (pa_cons (pv 0) (pa_cons (pe_bltn (v := .ty "bool") (by rfl) T.bool b_bool rfl) pa_nil)))))))), ?_⟩)
  obtain ⟨i, _, hv, q⟩ := h
  have S := st (N := N_is_whole) hv
  exact s_retB (e_andV (e_cb (a_cons (e_s S) (a_cons e_c a_nil)) isi_int) fun _ => e_notV (e_cb (a_cons (e_s S) (a_cons e_c a_nil)) isi_intB)) q
abbrev spCell : Sp := Fn pTrue (fun c : Cell => [rCell c]) fun _ => rBl true
abbrev N_is_cell : List Str := ["value"]
theorem sc_is_cell : FnScope N_is_cell ["value"] (defScope (top 10)) := ⟨rfl, rfl, rfl, by decide +kernel, rfl, by decide +kernel, by decide +kernel⟩
theorem ok_is_cell (F : Fun K "is_cell" "is_cell" (top 10) f fd) (T : Txt K mg tS tG aT aW) (Gis_whole : Cl P w K mg base 1 "is_whole" spWhole) : FnOk P w K mg base CX0 2 f fd ["value"] spCell := by
  refine F.ok sc_is_cell (Fn.len fun _ => rfl) (fun cdv A outer s H vs Q E hr h => ⟨_, (pss_one (ps_ret (pe_and (pe_callB (isiK (K := K)) (by rfl) T.isinstance b_isinstance (pa_cons (pv 0) (pa_cons (pe_bltn (v := .ty "tuple") (by rfl) T.tuple b_tuple rfl) pa_nil))) (pe_and (pe_cmpR op_eq (pe_callB cr_ln (by rfl) T.len b_len (pa_cons (pv 0) pa_nil)) pe_int (nomark _)) (pe_and (pe_cl Gis_whole (hr.mono (by decide)) (by rfl) (pa_cons (pe_ix (ixK (K := K)) (pv 0) pe_int (fun _ _ => rfl)) pa_nil)) (pe_one (pe_cl Gis_whole (hr.mono (by decide)) (by rfl) (pa_cons (pe_ix (ixK (K := K)) (pv 0) pe_int (fun _ _ => rfl)) pa_nil)))))))), ?_⟩)
  obtain ⟨c, _, hv, q⟩ := h
  have S := st (N := N_is_cell) hv
  exact s_retB (e_andV (e_cb (a_cons (e_s S) (a_cons e_c a_nil)) isi_tup) fun _ => e_andV (e_op (e_cb (a_cons (e_s S) a_nil) cv_lnT) e_c ov_eqI) fun _ => e_andV (e_call c.1 (a_cons (e_op (e_s S) e_c (ov_ixT rfl)) a_nil) trivial) fun _ => e_call c.2 (a_cons (e_op (e_s S) e_c (ov_ixT rfl)) a_nil) trivial) q
abbrev spChk : Sp := Fn pTrue (fun c : Cell => [rCell c]) fun _ => rNon
abbrev N_check_cell : List Str := ["value"]
theorem sc_check_cell : FnScope N_check_cell ["value"] (defScope (top 12)) := ⟨rfl, rfl, rfl, by decide +kernel, rfl, by decide +kernel, by decide +kernel⟩
theorem ok_check_cell (F : Fun K "check_cell" "check_cell" (top 12) f fd) (T : Txt K mg tS tG aT aW) (Gis_cell : Cl P w K mg base 2 "is_cell" spCell) : FnOk P w K mg base CX0 3 f fd ["value"] spChk := by
  refine F.ok sc_check_cell (Fn.len fun _ => rfl) (fun cdv A outer s H vs Q E hr h => ⟨_, (pss_one (ps_if (pt_not (pt_val (pe_cl Gis_cell (hr.mono (by decide)) (by rfl) (pa_cons (pv 0) pa_nil)))) (pss_one ps_never) pss_nil)), ?_⟩)
  obtain ⟨c, _, hv, q⟩ := h
  have S := st (N := N_check_cell) hv
  exact s_no (t_not (t_B (e_call c (a_cons (e_s S) a_nil) trivial))) fun H1 e => q _ H1 e rfl
abbrev N_check_cell2 : List Str := ["cell"]
theorem sc_check_cell2 : FnScope N_check_cell2 ["cell"] (defScope (top 23)) := ⟨rfl, rfl, rfl, by decide +kernel, rfl, by decide +kernel, by decide +kernel⟩
theorem ok_check_cell2 (F : Fun K "check_cell" "check_cell" (top 23) f fd) (T : Txt K mg tS tG aT aW) (Gis_cell : Cl P w K mg base 2 "is_cell" spCell) : FnOk P w K mg base CX0 3 f fd ["cell"] spChk := by
  refine F.ok sc_check_cell2 (Fn.len fun _ => rfl) (fun cdv A outer s H vs Q E hr h => ⟨_, (pss_one (ps_if (pt_not (pt_val (pe_cl Gis_cell (hr.mono (by decide)) (by rfl) (pa_cons (pv 0) pa_nil)))) (pss_one ps_never) pss_nil)), ?_⟩)
  obtain ⟨c, _, hv, q⟩ := h
  have S := st (N := N_check_cell2) hv
  exact s_no (t_not (t_B (e_call c (a_cons (e_s S) a_nil) trivial))) fun H1 e => q _ H1 e rfl
abbrev spBeside : Sp := Fn pTrue (fun c : Cell => [rCell c]) fun c => rTupL rCell (besideC c)
abbrev N_beside : List Str := ["cell", "column", "row"]
theorem sc_beside : FnScope N_beside ["cell"] (defScope (top 14)) := ⟨rfl, rfl, rfl, by decide +kernel, rfl, by decide +kernel, by decide +kernel⟩
theorem ok_beside (F : Fun K "beside" "beside" (top 14) f fd) (T : Txt K mg tS tG aT aW) (Gcheck_cell_bodies : Cl P w K mg base 3 "check_cell_bodies" spChk) : FnOk P w K mg base CX0 4 f fd ["cell"] spBeside := by
  refine F.ok sc_beside (Fn.len fun _ => rfl) (fun cdv A outer s H vs Q E hr h => ⟨_, (pss_cons (ps_expr (pe_cl Gcheck_cell_bodies (hr.mono (by decide)) (by rfl) (pa_cons (pv 0) pa_nil))) (pss_cons (ps_asg (pv 0) (pg_tup rfl (pgs_cons (pg_name (i := 1) sc_beside.nd rfl (Or.inl rfl)) (pgs_cons (pg_name (i := 2) sc_beside.nd rfl (Or.inl rfl)) pgs_nil)))) (pss_one (ps_ret (pe_tup (pa_cons (pe_tup (pa_cons (pe_op op_sub (pv 1) pe_int) (pa_cons (pv 2) pa_nil))) (pa_cons (pe_tup (pa_cons (pv 1) (pa_cons (pe_op op_sub (pv 2) pe_int) pa_nil))) (pa_cons (pe_tup (pa_cons (pe_op op_add (pv 1) pe_int) (pa_cons (pv 2) pa_nil))) (pa_cons (pe_tup (pa_cons (pv 1) (pa_cons (pe_op op_add (pv 2) pe_int) pa_nil))) pa_nil))))))))), ?_⟩)
  obtain ⟨c, _, hv, q⟩ := h
  have S := st (N := N_beside) hv
  refine q_drop (e_call c (a_cons (e_s S) a_nil) trivial) fun H1 e1 => ?_
  refine q_unp2 (S.up e1) (e_s (S.up e1)) fun σ2 H2 e2 S2 => ?_
  refine s_ret (R := rTupL rCell (besideC c)) (e_is (e_tup (a_cons (e_tup (a_cons (e_op (e_s S2) e_c ov_I0) (a_cons (e_s S2) a_nil))) (a_cons (e_tup (a_cons (e_s S2) (a_cons (e_op (e_s S2) e_c ov_I0) a_nil))) (a_cons (e_tup (a_cons (e_op (e_s S2) e_c ov_I0) (a_cons (e_s S2) a_nil))) (a_cons (e_tup (a_cons (e_s S2) (a_cons (e_op (e_s S2) e_c ov_I0) a_nil))) a_nil))))) rfl) fun v H3 e3 hv => q v H3 ((e1.trans e2).trans e3) hv
/-- a name: a small letter ahead, small letters and figures -/
def nameOk (z : Str) : Bool := decide (1 ≤ z.length ∧ z.length ≤ 12) && (match z.cps.toList with | c :: _ => decide (c ∈ zSMALL.cps.toList) | [] => false) && z.cps.toList.all fun c => decide (c ∈ zSIGNS.cps.toList)
abbrev spName : Sp := Fn (fun z : Str => nameOk z = true) (fun z : Str => [rStr z]) fun _ => rBl true
abbrev N_is_name : List Str := ["value", "sign"]
theorem sc_is_name : FnScope N_is_name ["value"] (defScope (top 9)) := ⟨rfl, rfl, rfl, by decide +kernel, rfl, by decide +kernel, by decide +kernel⟩
theorem ok_is_name (F : Fun K "is_name" "is_name" (top 9) f fd) (T : Txt K mg tS tG aT aW) : FnOk P w K mg base CX0 1 f fd ["value"] spName := by
  refine F.ok sc_is_name (Fn.len fun _ => rfl) (fun cdv A outer s H vs Q E hr h => ⟨_, (pss_cons (ps_if (PW.pt (pw_or (pt_not (pt_val (pe_callB (isiK (K := K)) (by rfl) T.isinstance b_isinstance (pa_cons (pv 0) (pa_cons (pe_bltn (v := .ty "str") (by rfl) T.str b_str rfl) pa_nil))))) (pw_or (pt_not (pt_chain op_le op_le pe_int (pe_callB cr_ln (by rfl) T.len b_len (pa_cons (pv 0) pa_nil)) pe_int)) (pw_or1 (pt_cmpR op_ninSgn (pe_ix (ixK (K := K)) (pv 0) pe_int (fun _ _ => rfl)) (pe_glob (v := .str zSMALL) rfl T.SMALL ⟨_, rfl⟩) rfl))))) (pss_one (ps_ret pe_bl)) pss_nil) (pss_one (ps_ret (pe_callB (cr_all (by rfl)) (by rfl) T.all b_all (pa_cons (pe_lc (own := [("sign", 1)]) (g := (gName 1)) (tt := tYes) (by rfl) sc_is_name.nd (pi_str (pv 0)) (blkOk_by (N := N_is_name) (sc := defScope (top 9)) (own := [("sign", 1)]) (by decide +kernel)) (fun _ _ _ _ _ => (pg_name (i := 1) sc_is_name.nd rfl (Or.inl rfl))) (fun _ _ _ _ _ => pts_nil) (fun _ _ _ _ _ => (pe_cmpR op_inSgn (pv 1) (pe_glob (v := .str zSIGNS) rfl T.SIGNS ⟨_, rfl⟩) rfl))) pa_nil))))), ?_⟩)
  obtain ⟨z, hn, hv, q⟩ := h
  have S := st (N := N_is_name) hv
  unfold nameOk at hn
  rw [Bool.and_eq_true, Bool.and_eq_true, decide_eq_true_eq] at hn
  obtain ⟨⟨⟨h1, h2⟩, h3⟩, h4⟩ := hn
  have hz : z.length ≤ sizeLine := Evl.sz_of (by omega)
  obtain ⟨c, r, hc, hin⟩ : ∃ c r, z.cps.toList = c :: r ∧ c ∈ zSMALL.cps.toList := by
    cases hq : z.cps.toList with
    | nil => rw [hq] at h3; cases h3
    | cons c r => rw [hq] at h3; exact ⟨c, r, rfl, of_decide_eq_true h3⟩
  have S0 : atI z.cps.toList 0 = some c := by
    rw [hc]
    simp [atI, ixN]
  refine qf (t_or (t_not (t_B (e_cb (a_cons (e_s S) (a_cons e_c a_nil)) isi_str))) fun _ => t_or (t_not (t_test (e_chn e_c (e_cb (a_cons (e_s S) a_nil) (cv_lnS hz)) ov_I0 e_c ov_I0))) fun _ => t_test (e_op (e_op (e_s S) e_c (ov_ixS hz S0)) e_c ov_sgn)) (fun H1 e1 => ?_) ?_
  · refine s_retB (b := true) (e_is (e_cb (a_cons (e_lcA (S.up e1) (i_str (e_s (S.up e1))) (fun d _ => tg_name) ?_ fun d _ σ' H' e' S' => e_op (e_s S') e_c ov_sgn) a_nil) cv_all) ?_) fun v H2 e2 h2 => q v H2 (e1.trans e2) h2
    · rw [Array.length_toList]
      have : z.cps.size = z.length := rfl
      omega
    · rw [show (z.cps.toList.all fun d => (false ^^ decide (d ∈ zSIGNS.cps.toList))) = true by simpa using h4]
  · have e1 : decide ((1 : Int) ≤ (z.length : Nat)) = true := decide_eq_true (by omega)
    have e2 : decide (((z.length : Nat) : Int) ≤ 12) = true := decide_eq_true (by omega)
    rw [e1, e2, decide_eq_true hin]
    rfl
end
end Kx
set_option Elab.async false
set_option linter.all false
set_option maxRecDepth 100000
set_option maxHeartbeats 4000000
/-! D2: taken_part, parts_of, hangs, is_body, check_body. -/
namespace Kx
open PySem L2 PyProof.Rows
section
variable {K : PySem.W.Frag} {σ : L2.St} {H : Hp} {Γ : Gm} {te ta tb : TE} {R S : RP} {D : Ends} {tu tw tz : TS} {t : TT}
theorem Sl.forget {i : Nat} (s : Sl σ H Γ) : Sl σ H (Γ.set i none) := s.weak (by rw [List.length_set]) fun j R h => by
  by_cases e : i = j
  · subst e
    rcases Nat.lt_or_ge i Γ.length with z | z
    · rw [List.getElem?_set_self z] at h
      cases h
    · rw [List.getElem?_eq_none (by rw [List.length_set]; exact z)] at h
      cases h
  · rw [List.getElem?_set_ne e] at h
    exact ⟨R, h, fun _ z => z⟩
abbrev tTru (K : PySem.W.Frag) (ta : TE) : TT := fun σ H Q => ta σ H fun x H' => ∃ k, TruV K x H' k ∧ Q k H'
theorem t_truL {l : Addr} {xs : List V} (hl : H l = some (.lst xs)) (ha : Ev ta σ H (rV (.ref l))) : EvT (tTru K ta) σ H (!xs.isEmpty) := fun H1 e Q q => ha H1 e _ fun v H2 e2 hv => by
  have hv : v = .ref l := hv
  subst hv
  exact ⟨_, .inl ⟨xs, SqL.of ((e.trans e2) _ _ hl), rfl⟩, q H2 e2⟩
theorem q_pop {l : Addr} {xs : List V} {y : V} {j : Nat} (hl : H l = some (.lst xs)) (ha : Ev ta σ H (rV (.ref l))) (hy : xs[xs.length - 1]? = some y) (k : ∀ H1, Ex H H1 → H1 l = some (.lst xs) → tz D (σ.set j (some y)) (upd H1 l (.lst xs.dropLast))) :
    tSeq (tAsg (tBM0 K "list" rPop ta) (gName j)) tz D σ H := ha H (exr H) _ fun v H1 e hv => by
  have hv : v = .ref l := hv
  subst hv
  exact ⟨.inl ⟨rfl, xs, SqL.of (e _ _ hl)⟩, l, xs, y, rfl, rfl, e _ _ hl, hy, k H1 e (e _ _ hl)⟩
end
section
variable {P : Program} {w : World} {K : PySem.W.Frag} {mg : Str → Option Value} {base : Heap} {tS tG : Tok} {aT aW : Addr} {f : Addr} {fd : FuncData}
/-- left loses a part, which is told sorted -/
def spTake : Sp := fun vs H Q _ => ∃ (p : Addr) (v : V) (l : List Cell) (c : Cell), vs = [.ref p, v] ∧ H p = some (dC (tr l)) ∧ (rCell c).p v H ∧ isin l c = true ∧ l.length ≤ 1000 ∧
  ∀ r H', Ex (hide p H) H' → H' p = some (dC (tr (takenC l c).1)) → (rTupL rCell (srtC (takenC l c).2)).p r H' → Q r H'
theorem last_of {xs : List V} {ts : List Cell} {H : Hp} {c : Cell} (h : AllP (ts.map rCell) xs H) (hl : ts.getLast? = some c) : ∃ y, xs[xs.length - 1]? = some y ∧ (rCell c).p y H := by
  have e := h.len
  rw [List.length_map] at e
  rw [List.getLast?_eq_getElem?] at hl
  rw [e]
  exact h.get (by rw [List.getElem?_map, hl]; rfl)
theorem dropLast_allP {xs : List V} {ts : List Cell} {H : Hp} (h : AllP (ts.map rCell) xs H) : AllP (ts.dropLast.map rCell) xs.dropLast H := by
  have e := h.len
  rw [List.length_map] at e
  rw [List.dropLast_eq_take, List.dropLast_eq_take, List.map_take, e]
  exact h.take _
/-- before a turn: what is left, found, to do -/
structure TkI (H0 : Hp) (p pf pt : Addr) (l fo to : List Cell) (H : Hp) : Prop where
  ex : Ex H0 H
  hp : H p = some (dC (tr l))
  f : ∃ fv, H pf = some (.lst fv) ∧ AllP (fo.map rCell) fv H
  t : ∃ tv, H pt = some (.lst tv) ∧ AllP (to.map rCell) tv H
structure TkN (H0 : Hp) (p pf pt : Addr) : Prop where
  p0 : H0 p = none
  f0 : H0 pf = none
  t0 : H0 pt = none
  n1 : p ≠ pf
  n2 : p ≠ pt
  n3 : pf ≠ pt
theorem ms_cells {H0 : Hp} {cs : List Cell} : ∀ R ∈ cs.map rCell, Ms H0 R := fun R hR => by
  obtain ⟨c, _, rfl⟩ := List.mem_map.mp hR
  infer_instance
theorem TkI.up {H0 H H' : Hp} {p pf pt : Addr} {l fo to : List Cell} (i : TkI H0 p pf pt l fo to H) (e : Ex H H') : TkI H0 p pf pt l fo to H' := by
  obtain ⟨a, b, ⟨fv, c1, c2⟩, tv, d1, d2⟩ := i
  exact ⟨a.trans e, e _ _ b, ⟨fv, e _ _ c1, c2.mono e⟩, tv, e _ _ d1, d2.mono e⟩
section
variable {H0 H : Hp} {p pf pt : Addr} {l fo to : List Cell}
theorem TkI.setP {l' : List Cell} (i : TkI H0 p pf pt l fo to H) (N : TkN H0 p pf pt) : TkI H0 p pf pt l' fo to (upd H p (dC (tr l'))) := by
  obtain ⟨a, b, ⟨fv, c1, c2⟩, tv, d1, d2⟩ := i
  exact ⟨Evl.Ex.mut a N.p0, upd_same, ⟨fv, by rw [upd_ne N.n1.symm]; exact c1, allP_ms b nt_t N.p0 ms_cells c2⟩, tv, by rw [upd_ne N.n2.symm]; exact d1, allP_ms b nt_t N.p0 ms_cells d2⟩
theorem TkI.setF {fo' : List Cell} {fv fv' : List V} (i : TkI H0 p pf pt l fo to H) (N : TkN H0 p pf pt) (hf : H pf = some (.lst fv)) (h : AllP (fo'.map rCell) fv' H) : TkI H0 p pf pt l fo' to (upd H pf (.lst fv')) := by
  obtain ⟨a, b, _, tv, d1, d2⟩ := i
  exact ⟨Evl.Ex.mut a N.f0, by rw [upd_ne N.n1]; exact b, ⟨fv', upd_same, allP_ms hf nt_l N.f0 ms_cells h⟩, tv, by rw [upd_ne N.n3.symm]; exact d1, allP_ms hf nt_l N.f0 ms_cells d2⟩
theorem TkI.setT {to' : List Cell} {tv tv' : List V} (i : TkI H0 p pf pt l fo to H) (N : TkN H0 p pf pt) (ht : H pt = some (.lst tv)) (h : AllP (to'.map rCell) tv' H) : TkI H0 p pf pt l fo to' (upd H pt (.lst tv')) := by
  obtain ⟨a, b, ⟨fv, c1, c2⟩, _⟩ := i
  exact ⟨Evl.Ex.mut a N.t0, by rw [upd_ne N.n2]; exact b, ⟨fv, by rw [upd_ne N.n3]; exact c1, allP_ms ht nt_l N.t0 ms_cells c2⟩, tv', upd_same, allP_ms ht nt_l N.t0 ms_cells h⟩
end
theorem takeF_step {n : Nat} {l f t : List Cell} {one : Cell} (h : t.getLast? = some one) : takeF (n + 1) l f t = takeF n (pushC l t.dropLast (besideC one)).1 (f ++ [one]) (pushC l t.dropLast (besideC one)).2 := by
  show (match t.getLast? with | none => (l, f) | some one => takeF n (pushC l t.dropLast (besideC one)).1 (f ++ [one]) (pushC l t.dropLast (besideC one)).2) = _
  rw [h]
theorem drop_step {α : Type} {l : List α} {i : Nat} (h : i < l.length) : l.drop i = l[i] :: l.drop (i + 1) := List.drop_eq_getElem_cons h
theorem el_cells {cs : List Cell} {xs : List V} {H : Hp} {i : Nat} {x : V} (h : AllP (cs.map rCell) xs H) (hi : i < cs.length) (hx : xs[i]? = some x) : (rCell cs[i]).p x H := by
  obtain ⟨R, r1, r2⟩ := h.get' hx
  rw [List.getElem?_map, List.getElem?_eq_getElem hi] at r1
  cases r1
  exact r2
abbrev N_taken_part : List Str := ["left", "cell", "found", "todo", "one", "other"]
theorem sc_taken_part : FnScope N_taken_part ["left", "cell"] (defScope (top 15)) := ⟨rfl, rfl, rfl, by decide +kernel, rfl, by decide +kernel, by decide +kernel⟩
theorem ok_taken_part (F : Fun K "taken_part" "taken_part" (top 15) f fd) (T : Txt K mg tS tG aT aW) (Gbeside : Cl P w K mg base 4 "beside" spBeside) : FnOk P w K mg base CX0 5 f fd ["left", "cell"] spTake := by
  refine F.ok sc_taken_part (fun vs H Q E h => ?_) (fun cdv A outer s H vs Q E hr h => ⟨_, (pss_cons (ps_ddelT (hu_of hr) (pv 0) (pv 1)) (pss_cons (ps_par (i := 2) (j := 3) (by rfl) sc_taken_part.nd rfl rfl (by decide) rfl rfl (pa_cons (pe_lst pa_nil) (pa_cons (pe_lst (pa_cons (pv 1) pa_nil)) pa_nil)) (by rfl)) (pss_cons (ps_while PassesOwn.never (pt_truth (pv 3) (by intro _; rfl)) (pss_cons (ps_set (i := 4) sc_taken_part.nd rfl (Or.inl rfl) (pe_bm0 PySem.F.plainAttrs_list PySem.F.slot_list_pop PySem.F.type_list_pop mt_pop (pv 3))) (pss_cons (ps_expr (pe_bm PySem.F.plainAttrs_list PySem.F.slot_list_append PySem.F.type_list_append mt_append (pv 2) (pa_cons (pv 4) pa_nil))) (pss_one (ps_for PassesOwn.never rfl (pi_seq (pe_cl Gbeside (hr.mono (by decide)) (by rfl) (pa_cons (pv 4) pa_nil))) (pg_name (i := 5) sc_taken_part.nd rfl (Or.inl rfl)) (pss_one (ps_if (pt_cmp (pc_din (hu_of hr) (pv 5) (pv 0))) (pss_cons (ps_ddelT (hu_of hr) (pv 0) (pv 5)) (pss_one (ps_expr (pe_bm PySem.F.plainAttrs_list PySem.F.slot_list_append PySem.F.type_list_append mt_append (pv 3) (pa_cons (pv 5) pa_nil))))) pss_nil))))))) (pss_one (ps_ret (pe_callTy cr_tof (by rfl) T.tuple b_tuple (pa_cons (pe_callB (cr_srt hr.units) (by rfl) T.sorted b_sorted (pa_cons (pv 2) pa_nil)) pa_nil))))))), ?_⟩)
  · obtain ⟨_, _, _, _, rfl, _⟩ := h
    rfl
  obtain ⟨p, v, l, c, rfl, hp, hc, hin, hlen, q⟩ := h
  have S := st (N := N_taken_part) (Rs := [rV (.ref p), rCell c]) (vs := [.ref p, v]) ⟨rfl, hc, trivial⟩
  refine q_ddel hp (e_s S) (e_s S) (by rw [tr_keys]; exact isin_iff.mp hin) fun H1 e1 h1 => ?_
  have n0 : hide p H p = none := hide_self
  have S1 := (S.up e1).mut (H0 := hide p H) (o := dC (dropC (tr l) c)) h1 nt_t n0
  rw [tr_drop] at S1 ⊢
  have E1 : Ex (hide p H) (upd H1 p (dC (tr (rmC l c)))) := Evl.Ex.mut (hide_le.trans e1) n0
  refine q_parA S1 (a_cons (e_lstN a_nil) (a_cons (e_lstN (a_cons (e_s S1) a_nil)) a_nil)) fun v1 v2 σ2 H2 e2 hf ht S2 => ?_
  obtain ⟨pf, fv, rfl, nf, hpf, af⟩ := hf
  obtain ⟨pt, tv, rfl, nt, hpt, at_⟩ := ht
  have hp2 : H2 p = some (dC (tr (rmC l c))) := e2 _ _ upd_same
  have N : TkN (hide p H) p pf pt := by
    refine ⟨n0, Evl.fresh_back E1 nf, Evl.fresh_back E1 nt, fun z => ?_, fun z => ?_, fun z => ?_⟩
    · rw [← z, hp2] at hpf
      cases hpf
    · rw [← z, hp2] at hpt
      cases hpt
    · rw [z, hpt] at hpf
      cases hpf
      have a := af.len
      rw [at_.len] at a
      cases a
  have I2 : TkI (hide p H) p pf pt (rmC l c) [] [c] H2 := ⟨E1.trans e2, hp2, ⟨fv, hpf, af⟩, tv, hpt, at_⟩
  refine q_while (fun m σ' H' => ∃ l' fo to, l'.length + to.length ≤ m ∧ takeF m l' fo to = takenC l c ∧ fo.length + m ≤ 2000 ∧ TkI (hide p H) p pf pt l' fo to H' ∧ Sl σ' H' [some (rV (.ref p)), some (rCell c), some (rV (.ref pf)), some (rV (.ref pt)), none, none])
    ((rmC l c).length + 1) ⟨rmC l c, [], [c], Nat.le_refl _, rfl, ?_, I2, S2⟩ ?_
  · have := rmC_len (l := l) (c := c)
    simp only [List.length_nil]
    omega
  · rintro m σ3 H3 ⟨l3, fo, to, hm, hF, hb, I3, S3⟩
    obtain ⟨tv3, ht3, at3⟩ := I3.t
    have el := at3.len
    rw [List.length_map] at el
    refine ⟨_, t_truL ht3 (e_s S3), fun hne H4 e4 => ?_, fun hemp H4 e4 => ?_⟩
    · obtain ⟨one, hone⟩ : ∃ one, to.getLast? = some one := by
        cases to with
        | nil =>
          cases tv3 with
          | nil => cases hne
          | cons _ _ => cases el
        | cons x r => exact ⟨_, List.getLast?_eq_some_getLast (List.cons_ne_nil x r)⟩
      have hto : to ≠ [] := fun z => by
        rw [z] at hone
        cases hone
      have hpos := List.length_pos_iff.mpr hto
      obtain ⟨n, rfl⟩ : ∃ n, m = n + 1 := ⟨m - 1, by omega⟩
      refine ⟨_, fun σ' H' h => ⟨n, by omega, h⟩, ?_⟩
      have I4 := I3.up e4
      have S4 := S3.up e4
      obtain ⟨y, hy, ry⟩ := last_of (at3.mono e4) hone
      refine q_pop (e4 _ _ ht3) (e_s S4) hy fun H5 e5 h5 => ?_
      have S5 := ((S4.up e5).mut (o := .lst tv3.dropLast) h5 nt_l N.t0).set (j := 4) (R := rCell one) ((ms_tup (H0 := hide p H)).ms _ _ _ _ _ h5 nt_l N.t0 ((rCell one).mono e5 ry))
      have I5 := (I4.up e5).setT (to' := to.dropLast) (tv' := tv3.dropLast) N h5 (dropLast_allP ((at3.mono e4).mono e5))
      obtain ⟨fv, hf, af⟩ := I5.f
      have fl := af.len
      rw [List.length_map] at fl
      refine q_app hf (e_s S5) (e_s S5) (by omega) fun v1 H6 e6 r6 h6 => ?_
      have S6 := (S5.up e6).mut (o := .lst (fv ++ [v1])) h6 nt_l N.f0
      have I6 := (I5.up e6).setF (fo' := fo ++ [one]) (fv' := fv ++ [v1]) N h6 (by
        rw [List.map_append]
        exact (af.mono e6).app ⟨r6, trivial⟩)
      have hstep := takeF_step (n := n) (l := l3) (f := fo) hone
      rw [hF] at hstep
      have hlen := pushC_len (besideC one) l3 to.dropLast
      rw [List.length_dropLast] at hlen
      refine s_forQ (e_sqT (e_call one (a_cons (e_s S6) a_nil) trivial)) (fun a xs i σ' H' => Sf K a xs ((besideC one).map rCell) H' ∧ ∃ l' t', pushC l' t' ((besideC one).drop i) = pushC l3 to.dropLast (besideC one) ∧ TkI (hide p H) p pf pt l' (fo ++ [one]) t' H' ∧
          t'.length ≤ 5000 + i ∧ Sl σ' H' [some (rV (.ref p)), some (rCell c), some (rV (.ref pf)), some (rV (.ref pt)), none, none])
        (fun a xs H7 e7 hq hx => ⟨⟨hq, hx⟩, l3, to.dropLast, rfl, I6.up e7, by rw [List.length_dropLast]; omega, ((S6.up e7).forget (i := 4)).forget (i := 5)⟩) (fun a xs i σ' H' h => h.1.1) ?_ ?_
      · rintro a xs i x σ7 H7 hi hx ⟨sf, l', t', hP, I7, hT, S7⟩
        have hi' : i < (besideC one).length := by simpa using hi
        rw [drop_step hi'] at hP
        have rx := el_cells sf.2 hi' hx
        generalize ho : (besideC one)[i] = o at hP rx
        refine g_name S7 rx fun σ8 S8 => ?_
        refine s_if (t_B (e_din (e_s S8) (e_od S8 I7.hp))) (fun hb H8 e8 => ?_) fun hb H8 e8 => ?_
        · rw [tr_keys] at hb
          have hP' : pushC (rmC l' o) (t' ++ [o]) ((besideC one).drop (i + 1)) = pushC l3 to.dropLast (besideC one) := by
            rw [← hP]
            show _ = if isin l' o = true then _ else _
            rw [if_pos hb]
          have I8 := I7.up e8
          refine q_ddel I8.hp (e_s (S8.up e8)) (e_s (S8.up e8)) (by rw [tr_keys]; exact isin_iff.mp hb) fun H9 e9 h9 => ?_
          rw [tr_drop]
          have I9 := (I8.up e9).setP (l' := rmC l' o) N
          have S9 := ((S8.up e8).up e9).mut (o := dC (tr (rmC l' o))) h9 nt_t N.p0
          have sf9 := ((sf.up e8).up e9).mut (o := dC (tr (rmC l' o))) h9 nt_t N.p0
          obtain ⟨tv9, ht9, at9⟩ := I9.t
          have tl := at9.len
          rw [List.length_map] at tl
          have hi4 : (besideC one).length = 4 := rfl
          refine s_app (Rl := rCell o) ht9 (e_s S9) (e_s S9) (by omega) fun v2 H10 e10 r10 h10 => ?_
          refine ⟨(sf9.up e10).mut h10 nt_l N.t0, rmC l' o, t' ++ [o], hP', (I9.up e10).setT N h10 ?_, ?_, ((S9.up e10).mut h10 nt_l N.t0).forget (i := 5)⟩
          · rw [List.map_append]
            exact (at9.mono e10).app ⟨r10, trivial⟩
          · rw [List.length_append, List.length_singleton]
            omega
        · rw [tr_keys] at hb
          have hP' : pushC l' t' ((besideC one).drop (i + 1)) = pushC l3 to.dropLast (besideC one) := by
            rw [← hP]
            show _ = if isin l' o = true then _ else _
            rw [if_neg (by rw [hb]; decide)]
          exact ⟨sf.up e8, l', t', hP', I7.up e8, by omega, (S8.up e8).forget (i := 5)⟩
      · rintro a xs σ7 H7 ⟨sf, l', t', hP, I7, hT, S7⟩
        have e0 : (besideC one).drop ((besideC one).map rCell).length = [] := by
          rw [List.length_map, List.drop_length]
        rw [e0] at hP
        have e1 : (l', t') = pushC l3 to.dropLast (besideC one) := hP
        have h1 : (pushC l3 to.dropLast (besideC one)).1 = l' := by rw [← e1]
        have h2 : (pushC l3 to.dropLast (besideC one)).2 = t' := by rw [← e1]
        rw [h1, h2] at hstep hlen
        refine ⟨l', fo ++ [one], t', by omega, hstep.symm, ?_, I7, S7⟩
        rw [List.length_append, List.length_singleton]
        omega
    · have htv : tv3 = [] := by
        cases tv3 with
        | nil => rfl
        | cons _ _ => cases hemp
      have hto : to = [] := by
        rw [htv] at el
        exact List.length_eq_zero_iff.mp el.symm
      have hR : (l3, fo) = takenC l c := by
        rw [← hF, hto]
        cases m <;> rfl
      obtain ⟨fv, hf, af⟩ := (I3.up e4).f
      refine s_ret (R := rTupL rCell (srtC fo)) (e_cb (a_cons (e_cb (a_cons (e_ol (S3.up e4) hf af) a_nil) (cv_srtL dat_cell (sok_cells fo (by omega)))) a_nil) cv_tof) fun r H5 e5 hr5 => ?_
      have I5 := (I3.up e4).up e5
      have h1 : (takenC l c).1 = l3 := by rw [← hR]
      have h2 : (takenC l c).2 = fo := by rw [← hR]
      exact q r H5 I5.ex (by rw [h1]; exact I5.hp) (by rw [h2]; exact hr5)
end
end Kx
set_option Elab.async false
set_option linter.all false
set_option maxRecDepth 100000
set_option maxHeartbeats 4000000
/-! D3: parts_of, hangs, is_body, check_body. -/
namespace Kx
open PySem L2 PyProof.Rows
section
variable {P : Program} {w : World} {K : PySem.W.Frag} {mg : Str → Option Value} {base : Heap} {tS tG : Tok} {aT aW : Addr} {f : Addr} {fd : FuncData}
/-- cells unlike, not too many -/
structure Cs (cs : List Cell) : Prop where
  nd : cs.Nodup
  len : cs.length ≤ 1000
abbrev spParts (K : PySem.W.Frag) (k : Bool) : Sp := Fn (fun cs : List Cell => Cs cs) (fun cs => [rSq K k (cs.map rCell)]) fun cs => rTupL (rTupL rCell) (partsF (srtC cs) cs)
theorem srtC_len (cs : List Cell) : (srtC cs).length = cs.length := List.length_mergeSort _
theorem ms_cl {H0 : Hp} {ps : List (List Cell)} : ∀ R ∈ ps.map (rTupL rCell), Ms H0 R := fun R hR => by
  obtain ⟨c, _, rfl⟩ := List.mem_map.mp hR
  infer_instance
theorem pushC_le : ∀ (os l t : List Cell), (pushC l t os).1.length ≤ l.length
  | [], l, t => Nat.le_refl _
  | o :: os, l, t => by
    unfold pushC
    by_cases h : isin l o = true
    · rw [if_pos h]
      exact Nat.le_trans (pushC_le os _ _) rmC_len
    · rw [if_neg h]
      exact pushC_le os l t
theorem takeF_le : ∀ (n : Nat) (l f t : List Cell), (takeF n l f t).1.length ≤ l.length
  | 0, l, f, t => Nat.le_refl _
  | n + 1, l, f, t => by
    cases h : t.getLast? with
    | none =>
      have : takeF (n + 1) l f t = (l, f) := by
        show (match t.getLast? with | none => (l, f) | some one => takeF n (pushC l t.dropLast (besideC one)).1 (f ++ [one]) (pushC l t.dropLast (besideC one)).2) = _
        rw [h]
      rw [this]
      exact Nat.le_refl _
    | some one =>
      rw [takeF_step h]
      exact Nat.le_trans (takeF_le n _ _ _) (pushC_le _ _ _)
abbrev N_parts_of : List Str := ["cells", "cell", "left", "found"]
theorem sc_parts_of : FnScope N_parts_of ["cells"] (defScope (top 16)) := ⟨rfl, rfl, rfl, by decide +kernel, rfl, by decide +kernel, by decide +kernel⟩
theorem ok_parts_of {k : Bool} (F : Fun K "parts_of" "parts_of" (top 16) f fd) (T : Txt K mg tS tG aT aW) (Gcheck_cell_bodies : Cl P w K mg base 3 "check_cell_bodies" spChk) (Gtaken_part : Cl P w K mg base 5 "taken_part" spTake) : FnOk P w K mg base CX0 6 f fd ["cells"] (spParts K k) := by
  refine F.ok sc_parts_of (Fn.len fun _ => rfl) (fun cdv A outer s H vs Q E hr h => ⟨_, (pss_cons (ps_for PassesOwn.never rfl (pi_seq (pv 0)) (pg_name (i := 1) sc_parts_of.nd rfl (Or.inl rfl)) (pss_one (ps_expr (pe_cl Gcheck_cell_bodies (hr.mono (by decide)) (by rfl) (pa_cons (pv 1) pa_nil))))) (pss_cons (ps_par (i := 2) (j := 3) (by rfl) sc_parts_of.nd rfl rfl (by decide) rfl rfl (pa_cons (pe_dcT (own := [("cell", 1)]) (g := (gName 1)) (tt := tYes) (hu_of hr) (by rfl) sc_parts_of.nd (pi_seq (pv 0)) (blkOk_by (N := N_parts_of) (sc := defScope (top 16)) (own := [("cell", 1)]) (by decide +kernel)) (fun _ _ _ _ _ => (pg_name (i := 1) sc_parts_of.nd rfl (Or.inl rfl))) (fun _ _ _ _ _ => pts_nil) (fun _ _ _ _ _ => (pv 1)) (fun _ _ _ _ _ => pe_bl)) (pa_cons (pe_lst pa_nil) pa_nil)) (by rfl)) (pss_cons (ps_for PassesOwn.never rfl (pi_seq (pe_callB (cr_srt hr.units) (by rfl) T.sorted b_sorted (pa_cons (pe_callTy (cr_ldT (by rfl)) (by rfl) T.list b_list (pa_cons (pv 2) pa_nil)) pa_nil))) (pg_name (i := 1) sc_parts_of.nd rfl (Or.inl rfl)) (pss_one (ps_if (pt_cmp (pc_din (hu_of hr) (pv 1) (pv 2))) (pss_one (ps_expr (pe_bm PySem.F.plainAttrs_list PySem.F.slot_list_append PySem.F.type_list_append mt_append (pv 3) (pa_cons (pe_cl Gtaken_part (hr.mono (by decide)) (by rfl) (pa_cons (pv 2) (pa_cons (pv 1) pa_nil))) pa_nil)))) pss_nil))) (pss_one (ps_ret (pe_callTy cr_tof (by rfl) T.tuple b_tuple (pa_cons (pv 3) pa_nil))))))), ?_⟩)
  obtain ⟨cs, hcs, hv, q⟩ := h
  have S := st (N := N_parts_of) (Rs := [rSq K k (cs.map rCell)]) hv
  refine q_forQ (e_s S) (fun a xs i σ' H' => Ex H H' ∧ SqB K k H' a xs ∧ AllP (cs.map rCell) xs H' ∧ Sl σ' H' [some (rSq K k (cs.map rCell)), none, none, none]) (fun a xs H1 e1 hq hx => ⟨e1, hq, hx, S.up e1⟩) (fun a xs i σ' H' h => h.2.1) ?_ ?_
  · rintro a xs i x σ1 H1 hi hx ⟨e1, hq, ha, S1⟩
    have hi' : i < cs.length := by simpa using hi
    refine g_name S1 (el_cells ha hi' hx) fun σ2 S2 => ?_
    exact s_drop (e_call cs[i] (a_cons (e_s S2) a_nil) trivial) fun H2 e2 => ⟨e1.trans e2, hq.up e2, ha.mono e2, (S2.up e2).forget (i := 1)⟩
  rintro a xs σ1 H1 ⟨E1, _, _, S1⟩
  refine q_parA S1 (a_cons (e_dcAN (ds := cs) (kc := id) (vc := fun _ => V.bl true) S1 (i_seq (e_s S1)) (fun d _ => tg_name) (by have := hcs.len; omega) (fun d _ σ' H' e' S' => e_s S') (fun d _ σ' H' e' S' => e_c) (by rw [List.map_id]; exact hcs.nd)) (a_cons (e_lstN a_nil) a_nil)) fun v1 v2 σ2 H2 e2 hl hf S2 => ?_
  obtain ⟨p, rfl, np, hp⟩ := hl
  obtain ⟨pf, fv, rfl, nf, hpf, af⟩ := hf
  have n0 : H p = none := Evl.fresh_back E1 np
  have f0 : H pf = none := Evl.fresh_back E1 nf
  have hp : H2 p = some (dC (tr cs)) := hp
  have npf : p ≠ pf := fun z => by
    rw [z, hpf] at hp
    cases hp
  have fl0 : fv = [] := by
    have := af.len
    exact List.length_eq_zero_iff.mp this
  subst fl0
  have S2 : Sl σ2 H2 [some (rSq K k (cs.map rCell)), none, some (rV (.ref p)), some (rV (.ref pf))] := S2
  -- the parameter is not needed any more
  have S2' : Sl σ2 H2 [none, none, some (rV (.ref p)), some (rV (.ref pf))] := S2.forget (i := 0)
  refine q_forO (Rs := (srtC cs).map rCell) (e_cb (a_cons (e_is (e_cb (a_cons (e_od S2' hp) a_nil) cv_ldT) (by rw [tr_keys])) a_nil) (cv_srtL dat_cell (sok_cells cs (by have := hcs.len; omega))))
    (fun a xs i σ' H' => H' a = some (.lst xs) ∧ AllP ((srtC cs).map rCell) xs H' ∧ Ex H H' ∧ (xs = [] ∨ a ≠ pf) ∧ ∃ l ps fv, ps ++ partsF ((srtC cs).drop i) l = partsF (srtC cs) cs ∧ l.length ≤ 1000 ∧ ps.length ≤ i ∧
      H' p = some (dC (tr l)) ∧ H' pf = some (.lst fv) ∧ AllP (ps.map (rTupL rCell)) fv H' ∧ Sl σ' H' [none, none, some (rV (.ref p)), some (rV (.ref pf))])
    (fun a xs H3 e3 hq hx => ⟨hq, hx, (E1.trans e2).trans e3, ?_, cs, [], [], rfl, hcs.len, Nat.le_refl _, e3 _ _ hp, e3 _ _ hpf, trivial, S2'.up e3⟩) (fun a xs i σ' H' h => h.1) ?_ ?_
  · by_cases z : a = pf
    · left
      rw [z, e3 _ _ hpf] at hq
      cases hq
      rfl
    · exact .inr z
  · rintro a xs i x σ3 H3 hi hxi ⟨hq, hx, E3, hne, l, ps, fv, hP, hl, hpl, hp3, hpf3, af3, S3⟩
    have hi' : i < (srtC cs).length := by simpa using hi
    rw [drop_step hi'] at hP
    have rx := el_cells hx hi' hxi
    have hane : a ≠ pf := hne.elim (fun z => by
      rw [z] at hxi
      cases hxi) id
    have hap : a ≠ p := fun z => by
      rw [z, hp3] at hq
      cases hq
    generalize ho : (srtC cs)[i] = o at hP rx
    refine g_name S3 rx fun σ4 S4 => ?_
    refine s_if (t_B (e_din (e_s S4) (e_od S4 hp3))) (fun hb H5 e5 => ?_) fun hb H5 e5 => ?_
    · rw [tr_keys] at hb
      have hP' : (ps ++ [srtC (takenC l o).2]) ++ partsF ((srtC cs).drop (i + 1)) (takenC l o).1 = partsF (srtC cs) cs := by
        rw [← hP, List.append_assoc]
        show _ = ps ++ (if isin l o = true then _ else _)
        rw [if_pos hb]
        rfl
      have S5 := S4.up e5
      have hpf5 := e5 _ _ hpf3
      have hp5 := e5 _ _ hp3
      have fl := af3.len
      rw [List.length_map] at fl
      -- found.append(taken_part(left, cell))
      refine s_appX hpf5 (e_s S5) (by
        have h1 := srtC_len cs
        have h2 := hcs.len
        omega) fun H6 e6 Q6 q6 => c_call (Rs := [rV (.ref p), rCell o]) (a_cons (e_s (S5.up e6)) (a_cons (e_s (S5.up e6)) a_nil)) fun vs8 H8 e68 hvs => ?_
      obtain ⟨u8, v8, rfl, hu8, hv8⟩ := hvs.two
      have hu8 : u8 = .ref p := hu8
      subst hu8
      have e58 : Ex H5 H8 := e6.trans e68
      have hp8 := e58 _ _ hp5
      refine ⟨p, v8, l, o, rfl, hp8, hv8, hb, hl, fun r H9 e9 hp9 hr9 => ?_⟩
      have k9 : ∀ b ob, b ≠ p → H8 b = some ob → H9 b = some ob := fun b ob hb e => e9 _ _ (by rw [hide_ne hb]; exact e)
      have hpf9 := k9 pf _ npf.symm (e58 _ _ hpf5)
      have E8 := (E3.trans e5).trans e58
      have E9 : Ex H H9 := (ex_hide E8 n0).trans e9
      refine q6 r H9 hpf9 ?_
      have S9 := (S5.up e58).hide hp8 nt_t n0 e9 hp9
      have af9 := AllP.hide (H0 := H) ms_cl hp8 nt_t n0 e9 hp9 ((af3.mono e5).mono e58)
      have hx9 := AllP.hide (H0 := H) ms_cells hp8 nt_t n0 e9 hp9 ((hx.mono e5).mono e58)
      have ha9 := k9 a _ hap (e58 _ _ (e5 _ _ hq))
      refine ⟨by rw [upd_ne hane]; exact ha9, allP_ms hpf9 nt_l f0 ms_cells hx9, Evl.Ex.mut E9 f0, .inr hane, (takenC l o).1, ps ++ [srtC (takenC l o).2], fv ++ [r], hP', ?_, ?_, by rw [upd_ne npf]; exact hp9, upd_same, ?_, ?_⟩
      · exact Nat.le_trans (takeF_le _ _ _ _) (Nat.le_trans rmC_len hl)
      · rw [List.length_append, List.length_singleton]
        omega
      · rw [List.map_append]
        exact (allP_ms hpf9 nt_l f0 ms_cl af9).app ⟨(ms_tup (H0 := H)).ms _ _ _ _ _ hpf9 nt_l f0 hr9, trivial⟩
      · exact (S9.mut hpf9 nt_l f0).forget (i := 1)
    · rw [tr_keys] at hb
      have hP' : ps ++ partsF ((srtC cs).drop (i + 1)) l = partsF (srtC cs) cs := by
        rw [← hP]
        show _ = ps ++ (if isin l o = true then _ else _)
        rw [if_neg (by rw [hb]; decide)]
      exact ⟨e5 _ _ hq, hx.mono e5, E3.trans e5, .inr hane, l, ps, fv, hP', hl, by omega, e5 _ _ hp3, e5 _ _ hpf3, af3.mono e5, (S4.up e5).forget (i := 1)⟩
  · rintro a xs σ3 H3 ⟨hq, hx, E3, _, l, ps, fv, hP, _, hpl, hp3, hpf3, af3, S3⟩
    have e0 : (srtC cs).drop ((srtC cs).map rCell).length = [] := by
      rw [List.length_map, List.drop_length]
    rw [e0] at hP
    have hP : ps = partsF (srtC cs) cs := by
      rw [← hP]
      show ps = ps ++ []
      rw [List.append_nil]
    refine s_ret (R := rTupL (rTupL rCell) (partsF (srtC cs) cs)) (e_cb (a_cons (e_is (e_ol S3 hpf3 af3) (by rw [hP])) a_nil) cv_tof) fun v H4 e4 hv => q v H4 (E3.trans e4) hv
abbrev spHangs (K : PySem.W.Frag) (k : Bool) : Sp := Fn (fun cs : List Cell => Cs cs) (fun cs => [rSq K k (cs.map rCell)]) fun cs => rBl (hangsP cs)
theorem partsF_len : ∀ (cs l : List Cell), (partsF cs l).length ≤ cs.length
  | [], l => Nat.le_refl _
  | c :: cs, l => by
    show (if isin l c = true then srtC (takenC l c).2 :: partsF cs (takenC l c).1 else partsF cs l).length ≤ _
    split
    · exact Nat.succ_le_succ (partsF_len cs _)
    · exact Nat.le_succ_of_le (partsF_len cs _)
abbrev N_hangs : List Str := ["cells"]
theorem sc_hangs : FnScope N_hangs ["cells"] (defScope (top 17)) := ⟨rfl, rfl, rfl, by decide +kernel, rfl, by decide +kernel, by decide +kernel⟩
theorem ok_hangs {k : Bool} (F : Fun K "hangs" "hangs" (top 17) f fd) (T : Txt K mg tS tG aT aW) (Gparts_of : Cl P w K mg base 6 "parts_of" (spParts K k)) : FnOk P w K mg base CX0 7 f fd ["cells"] (spHangs K k) := by
  refine F.ok sc_hangs (Fn.len fun _ => rfl) (fun cdv A outer s H vs Q E hr h => ⟨_, (pss_one (ps_ret (pe_cmpR op_eq (pe_callB cr_ln (by rfl) T.len b_len (pa_cons (pe_cl Gparts_of (hr.mono (by decide)) (by rfl) (pa_cons (pv 0) pa_nil)) pa_nil)) pe_int (nomark _)))), ?_⟩)
  obtain ⟨cs, hcs, hv, q⟩ := h
  have S := st (N := N_hangs) (Rs := [rSq K k (cs.map rCell)]) hv
  refine s_retB (e_op (e_cb (a_cons (e_call cs (a_cons (e_s S) a_nil) hcs) a_nil) cv_lnT) e_c ov_eqI) q ?_
  rw [List.length_map]
  unfold hangsP
  rw [Bool.eq_iff_iff, decide_eq_true_eq, beq_iff_eq]
  omega
def incP (cs : List Cell) : Bool := (cs.zip (cs.drop 1)).all fun p => ltC p.1 p.2
structure BodyP (cs : List Cell) : Prop where
  c : Cs cs
  inc : incP cs = true
  hang : hangsP cs = true
abbrev spBody : Sp := Fn (fun cs : List Cell => BodyP cs) (fun cs => [rTupL rCell cs]) fun cs => rBl true
abbrev rPr (p : Cell × Cell) : RP := rTup [rCell p.1, rCell p.2]
theorem zip_pr (as bs : List Cell) : List.zipWith (fun R S => rTup [R, S]) (as.map rCell) (bs.map rCell) = (as.zip bs).map rPr := by
  rw [List.zipWith_map, List.zip, List.map_zipWith]
theorem cut1 {α : Type} (xs : List α) : cutR xs (some 1) none = xs.drop 1 := by
  unfold cutR
  have e1 : HT.sIx xs.length 0 (some 1) = min 1 xs.length := HT.sIx_nat xs.length 0 1
  have e2 : HT.sIx xs.length xs.length none = xs.length := rfl
  rw [e1, e2]
  cases xs with
  | nil => rfl
  | cons x r =>
    have : min 1 (x :: r).length = 1 := by simp
    rw [this]
    simp
abbrev N_is_body : List Str := ["value", "cell", "one", "two"]
theorem sc_is_body : FnScope N_is_body ["value"] (defScope (top 18)) := ⟨rfl, rfl, rfl, by decide +kernel, rfl, by decide +kernel, by decide +kernel⟩
theorem ok_is_body (F : Fun K "is_body" "is_body" (top 18) f fd) (T : Txt K mg tS tG aT aW) (Gis_cell : Cl P w K mg base 2 "is_cell" spCell) (Ghangs : Cl P w K mg base 7 "hangs" (spHangs K true)) : FnOk P w K mg base CX0 8 f fd ["value"] spBody := by
  refine F.ok sc_is_body (Fn.len fun _ => rfl) (fun cdv A outer s H vs Q E hr h => ⟨_, (pss_cons (ps_if (PW.pt (pw_or (pt_not (pt_val (pe_callB (isiK (K := K)) (by rfl) T.isinstance b_isinstance (pa_cons (pv 0) (pa_cons (pe_bltn (v := .ty "tuple") (by rfl) T.tuple b_tuple rfl) pa_nil))))) (pw_or1 (pt_not (pt_val (pe_callB (cr_all (by rfl)) (by rfl) T.all b_all (pa_cons (pe_lc (own := [("cell", 1)]) (g := (gName 1)) (tt := tYes) (by rfl) sc_is_body.nd (pi_seq (pv 0)) (blkOk_by (N := N_is_body) (sc := defScope (top 18)) (own := [("cell", 1)]) (by decide +kernel)) (fun _ _ _ _ _ => (pg_name (i := 1) sc_is_body.nd rfl (Or.inl rfl))) (fun _ _ _ _ _ => pts_nil) (fun _ _ _ _ _ => (pe_cl Gis_cell (hr.mono (by decide)) (by rfl) (pa_cons (pv 1) pa_nil)))) pa_nil))))))) (pss_one (ps_ret pe_bl)) pss_nil) (pss_one (ps_ret (pe_and (pe_callB (cr_all (by rfl)) (by rfl) T.all b_all (pa_cons (pe_lc (own := [("one", 2), ("two", 3)]) (g := (gTup K 2 (gCons (gName 2) (gCons (gName 3) gNil)))) (tt := tYes) (by rfl) sc_is_body.nd (pi_zipB (by rfl) T.zip (pa_cons (pv 0) (pa_cons (pe_slice sl_tupA (pv 0) (po_some pe_int) po_none) pa_nil))) (blkOk_by (N := N_is_body) (sc := defScope (top 18)) (own := [("one", 2), ("two", 3)]) (by decide +kernel)) (fun _ _ _ _ _ => (pg_tup rfl (pgs_cons (pg_name (i := 2) sc_is_body.nd rfl (Or.inl rfl)) (pgs_cons (pg_name (i := 3) sc_is_body.nd rfl (Or.inl rfl)) pgs_nil)))) (fun _ _ _ _ _ => pts_nil) (fun _ _ _ _ _ => (pe_cmpR (ltTK (K := K) hr.units0) (pv 2) (pv 3) (nomark _)))) pa_nil)) (pe_one (pe_cl Ghangs (hr.mono (by decide)) (by rfl) (pa_cons (pv 0) pa_nil))))))), ?_⟩)
  obtain ⟨cs, hb, hv, q⟩ := h
  have S := st (N := N_is_body) (Rs := [rTupL rCell cs]) hv
  have hl := hb.c.len
  refine qf (t_or (t_not (t_B (e_cb (a_cons (e_s S) (a_cons e_c a_nil)) isi_tup))) fun _ => t_not (t_B (e_cb (a_cons (e_lcA (ds := cs) (out := fun _ => rBl true) S (i_seq (e_sqT (e_s S))) (fun d _ => tg_name) (by omega) fun d _ σ' H' e' S' => e_call d (a_cons (e_s S') a_nil) trivial) a_nil) (cv_all (b := fun _ => true))))) (fun H1 e1 => ?_) ?_
  · have S1 := S.up e1
    refine s_retB (b := incP cs && hangsP cs) (e_andV (e_is (e_cb (a_cons (e_lcA (ds := cs.zip (cs.drop 1)) (f := rPr) (out := fun p : Cell × Cell => rBl (ltC p.1 p.2)) S1 (zip_pr _ _ ▸ i_zip (a_cons (e_sqT (e_s S1)) (a_cons (e_sqT (e_is (e_sl (e_s S1) (o_some e_c) o_none sv_T) (by rw [cutR_map, cut1]))) a_nil))) (fun d _ => tg_two) ?_ fun d _ σ' H' e' S' => e_op (e_s S') (e_s S') ov_ltC) a_nil) (cv_all (b := fun p : Cell × Cell => ltC p.1 p.2))) rfl) fun _ => e_call cs (a_cons (e_sqT (e_s S1)) a_nil) hb.c) (fun v H2 e2 hv => q v H2 (e1.trans e2) hv) ?_
    · rw [List.length_zip]
      omega
    · rw [hb.inc, hb.hang]
      rfl
  · simp
abbrev spChkB : Sp := Fn (fun cs : List Cell => BodyP cs) (fun cs => [rTupL rCell cs]) fun cs => rNon
abbrev N_check_body : List Str := ["body"]
theorem sc_check_body : FnScope N_check_body ["body"] (defScope (top 20)) := ⟨rfl, rfl, rfl, by decide +kernel, rfl, by decide +kernel, by decide +kernel⟩
theorem ok_check_body (F : Fun K "check_body" "check_body" (top 20) f fd) (T : Txt K mg tS tG aT aW) (Gis_body : Cl P w K mg base 8 "is_body" spBody) : FnOk P w K mg base CX0 9 f fd ["body"] spChkB := by
  refine F.ok sc_check_body (Fn.len fun _ => rfl) (fun cdv A outer s H vs Q E hr h => ⟨_, (pss_one (ps_if (pt_not (pt_val (pe_cl Gis_body (hr.mono (by decide)) (by rfl) (pa_cons (pv 0) pa_nil)))) (pss_one ps_never) pss_nil)), ?_⟩)
  obtain ⟨cs, hb, hv, q⟩ := h
  have S := st (N := N_check_body) (Rs := [rTupL rCell cs]) hv
  exact s_no (t_not (t_B (e_call cs (a_cons (e_s S) a_nil) hb))) fun H1 e => q _ H1 e rfl
end
end Kx
set_option Elab.async false
set_option linter.all false
set_option maxRecDepth 100000
/-! M2: mirrors of the walks' part. -/
namespace Kx
open PySem L2
def TS : List Cell := [(-1, 0), (0, -1), (0, 1), (1, 0)]
def addC (a b : Cell) : Cell := (a.1 + b.1, a.2 + b.2)
def putL (f : List Cell) (c : Cell) : List Cell := if isin f c = true then f else f ++ [c]
def stepD (r : List Cell) (n c : Cell) (f : List Cell) (d : Cell) : List Cell := if isin r (addC c d) = true then f else putL f (if isin r (addC (addC c d) n) = true then addC c d else addC (addC c d) n)
def dirs (n : Cell) : List Cell := [(n.2, n.1), (-n.2, -n.1)]
def stepN (r : List Cell) (c : Cell) (f : List Cell) (n : Cell) : List Cell := if isin r (addC c n) = true then (dirs n).foldl (stepD r n c) f else f
def goF (r : List Cell) (c : Cell) : List Cell := TS.foldl (stepN r c) []
def goesC (r : List Cell) (c : Cell) : List Cell := srtC (goF r c)
def restC (b : List Cell) (s : Cell) : List Cell := b.filter fun c => !eqC c s
theorem putL_len {f : List Cell} {c : Cell} : (putL f c).length ≤ f.length + 1 := by
  unfold putL
  split
  · omega
  · rw [List.length_append, List.length_singleton]
    omega
theorem stepD_len {r : List Cell} {n c : Cell} {f : List Cell} {d : Cell} : (stepD r n c f d).length ≤ f.length + 1 := by
  unfold stepD
  split
  · omega
  · exact putL_len
theorem foldD_len {r : List Cell} {n c : Cell} : ∀ (ds f : List Cell), (ds.foldl (stepD r n c) f).length ≤ f.length + ds.length
  | [], f => Nat.le_refl _
  | d :: ds, f => by
    have h1 := foldD_len (r := r) (n := n) (c := c) ds (stepD r n c f d)
    have h2 := stepD_len (r := r) (n := n) (c := c) (f := f) (d := d)
    show (ds.foldl (stepD r n c) (stepD r n c f d)).length ≤ _
    rw [List.length_cons]
    omega
theorem stepN_len {r : List Cell} {c : Cell} {f : List Cell} {n : Cell} : (stepN r c f n).length ≤ f.length + 2 := by
  unfold stepN
  split
  · exact foldD_len (dirs n) f
  · omega
theorem tr_put (f : List Cell) (c : Cell) : putC (tr f) c (V.bl true) = tr (putL f c) := by
  unfold putL
  by_cases h : isin f c = true
  · rw [if_pos h]
    unfold putC
    rw [if_pos]
    · unfold tr
      rw [List.map_map]
      refine List.map_congr_left fun x _ => ?_
      show (if x = c then (x, V.bl true) else (x, V.bl true)) = (x, V.bl true)
      split <;> rfl
    · rw [List.any_eq_true]
      exact ⟨(c, V.bl true), List.mem_map.mpr ⟨c, isin_iff.mp h, rfl⟩, by simp⟩
  · rw [if_neg h, putC_new]
    · show (f.map fun c => (c, V.bl true)) ++ [(c, V.bl true)] = (f ++ [c]).map _
      rw [List.map_append]
      rfl
    · rw [tr_keys]
      exact fun z => h (isin_iff.mpr z)
/-- breadth first: the cells in their order with their distances -/
def addN (d : Int) : List (Cell × Int) → List Cell → List (Cell × Int)
  | q, [] => q
  | q, c :: cs => if isin (q.map (·.1)) c = true then addN d q cs else addN d (q ++ [(c, d + 1)]) cs
def bfsF (r : List Cell) : Nat → Nat → List (Cell × Int) → Option (List (Cell × Int))
  | 0, _, _ => none
  | n + 1, at_, q => match q[at_]? with
    | some x => bfsF r n (at_ + 1) (addN x.2 q (goesC r x.1))
    | none => some q
/-- the way back: from c to e by far -/
def backF (r : List Cell) (far : List (Cell × Int)) (e : Cell) : Nat → Cell → Option (List (Cell × Cell))
  | 0, _ => none
  | n + 1, c => if eqC c e = true then some [] else match look far c with
    | none => none
    | some d => match (goesC r c).filter fun o => decide (look far o = some (d - 1)) with
      | [] => none
      | a :: _ => (backF r far e n a).map ((c, a) :: ·)
/-- what walk tells -/
def walkC (b : List Cell) (s e : Cell) : Option (List (Cell × Cell)) := match bfsF (restC b s) 200 0 [(e, 0)] with
  | none => none
  | some far => backF (restC b s) far e 200 s
end Kx
set_option Elab.async false
set_option linter.all false
set_option maxRecDepth 100000
set_option maxHeartbeats 4000000
/-! D4: rest_of, goes_to. -/
namespace Kx
open PySem L2 PyProof.Rows
section
variable {P : Program} {w : World} {K : PySem.W.Frag} {mg : Str → Option Value} {base : Heap} {tS tG : Tok} {aT aW : Addr} {f : Addr} {fd : FuncData}
abbrev spRest : Sp := Fn (fun d : List Cell × Cell => Cs d.1) (fun d => [rTupL rCell d.1, rCell d.2]) fun d => rDic (tr (restC d.1 d.2))
abbrev N_rest_of : List Str := ["body", "start", "cell"]
theorem sc_rest_of : FnScope N_rest_of ["body", "start"] (defScope (top 25)) := ⟨rfl, rfl, rfl, by decide +kernel, rfl, by decide +kernel, by decide +kernel⟩
theorem ok_rest_of (F : Fun K "rest_of" "rest_of" (top 25) f fd) (T : Txt K mg tS tG aT aW) : FnOk P w K mg base CX0 1 f fd ["body", "start"] spRest := by
  refine F.ok sc_rest_of (Fn.len fun _ => rfl) (fun cdv A outer s H vs Q E hr h => ⟨_, (pss_one (ps_ret (pe_dcT (own := [("cell", 2)]) (g := (gName 2)) (hu_of hr) (by rfl) sc_rest_of.nd (pi_seq (pv 0)) (blkOk_by (N := N_rest_of) (sc := defScope (top 25)) (own := [("cell", 2)]) (by decide +kernel)) (fun _ _ _ _ _ => (pg_name (i := 2) sc_rest_of.nd rfl (Or.inl rfl))) (fun _ _ _ _ _ => (pts_one (pt_cmpR (neDK (K := K) hr.units) (pv 2) (pv 1) (nomark _)))) (fun _ _ _ _ _ => (pv 2)) (fun _ _ _ _ _ => pe_bl)))), ?_⟩)
  obtain ⟨⟨cs, c⟩, hcs, hv, q⟩ := h
  have S := st (N := N_rest_of) (Rs := [rTupL rCell cs, rCell c]) hv
  have hl : cs.length ≤ 1000 := hcs.len
  exact s_ret (e_dc (ds := cs) (b := fun x => !eqC x c) (kc := id) (vc := fun _ => V.bl true) S (i_seq (e_sqT (e_s S))) (fun d _ => tg_name) (by omega) (fun d _ σ' H' e' S' => t_test (e_op (e_s S') (e_s S') ov_neC)) (fun d _ _ σ' H' e' S' => e_s S') (fun d _ _ σ' H' e' S' => e_c) (by
    rw [List.map_id]
    exact hcs.nd.filter _)) q
/-- the answer a new list -/
def FnN {δ : Type} (Pre : δ → Prop) (As Rs : δ → List RP) : Sp := fun vs H Q _ => ∃ d, Pre d ∧ AllP (As d) vs H ∧ ∀ v H', Ex H H' → (rNewL H (Rs d)).p v H' → Q v H'
theorem FnN.len {δ : Type} {Pre : δ → Prop} {As Rs : δ → List RP} {n : Nat} (h : ∀ d, (As d).length = n) : ∀ vs H Q E, FnN Pre As Rs vs H Q E → vs.length = n := fun vs H Q E ⟨d, _, hv, _⟩ => by rw [hv.len, h]
theorem rNewL.back {H H0 : Hp} {Rs : List RP} {v : V} {H' : Hp} (e : Ex H0 H) (h : (rNewL H Rs).p v H') : (rNewL H0 Rs).p v H' := let ⟨a, xs, h1, h0, h2, h3⟩ := h; ⟨a, xs, h1, Evl.fresh_back e h0, h2, h3⟩
theorem rNewL.lst {H : Hp} {Rs : List RP} {v : V} {H' : Hp} (h : (rNewL H Rs).p v H') : (rLst Rs).p v H' := let ⟨a, xs, h1, _, h2, h3⟩ := h; ⟨a, xs, h1, h2, h3⟩
theorem e_callN {δ : Type} {Pre : δ → Prop} {As Rs : δ → List RP} {E : XK} {σ : L2.St} {H : Hp} {t : TA} (d : δ) (h : EvA t σ H (As d)) (hp : Pre d) : Ev (tCall (FnN Pre As Rs) [] E t) σ H (rNewL H (Rs d)) := fun H1 e Q q =>
  h H1 e _ fun vs H2 e2 hv => ⟨d, hp, by rw [List.append_nil]; exact hv, fun v H3 e3 hz => q v H3 (e2.trans e3) (rNewL.back (e.trans e2) hz)⟩
theorem e_new {σ : L2.St} {H : Hp} {te : TE} {Rs : List RP} (h : Ev te σ H (rNewL H Rs)) : Ev te σ H (rLst Rs) := h.imp fun _ _ _ => rNewL.lst
theorem e_srtDN {σ : L2.St} {H : Hp} {t : TA} {kvs : List (Cell × V)} (h : EvA t σ H [rDic kvs]) (ok : SOk ((kvs.map (·.1)).map encC)) : Ev (tCB (rSrtD K) t) σ H (rNewL H ((srtC (kvs.map (·.1))).map rCell)) := fun H1 e Q q => h H1 e _ fun vs H2 e2 hv => by
  obtain ⟨v, rfl, a, rfl, ha⟩ := hv.one
  exact ⟨a, _, _, rfl, ha, ok, fun bs hb => datA_map dat_cell _ K H2 _ (keys_cells hb), fun bs p hb hp => q _ _ (e2.trans (Evl.Ex.new hp)) ⟨p, _, rfl, Evl.fresh_back (e.trans e2) hp, upd_same, (srtV_of (keys_cells hb)).mono (Evl.Ex.new hp)⟩⟩
abbrev spGoes : Sp := FnN pTrue (fun d : List Cell × Cell => [rDic (tr d.1), rCell d.2]) fun d => (goesC d.1 d.2).map rCell
abbrev rTn (K : PySem.W.Frag) (c : Cell) : RP := rSq K true [rInt c.1, rInt c.2]
theorem Sl.atE {σ : L2.St} {H : Hp} {Γ : Gm} {i : Nat} {R : RP} (s : Sl σ H Γ) (h : Γ[i]? = some (some R)) : Sl σ H (Γ.set i (some (rAt H R))) := s.weak (by rw [List.length_set]) fun j S hj => by
  by_cases e : i = j
  · subst e
    have lt : i < Γ.length := by
      have := (List.getElem?_eq_some_iff.mp h).1
      exact this
    rw [List.getElem?_set_self lt] at hj
    cases hj
    exact ⟨R, h, fun v hv => ⟨hv, exr H⟩⟩
  · rw [List.getElem?_set_ne e] at hj
    exact ⟨S, hj, fun _ z => z⟩
abbrev N_goes_to : List Str := ["rest", "cell", "found", "n", "d", "ahead", "beyond"]
theorem sc_goes_to : FnScope N_goes_to ["rest", "cell"] (defScope (top 26)) := ⟨rfl, rfl, rfl, by decide +kernel, rfl, by decide +kernel, by decide +kernel⟩
theorem ok_goes_to (F : Fun K "goes_to" "goes_to" (top 26) f fd) (T : Txt K mg tS tG aT aW) : FnOk P w K mg base CX0 1 f fd ["rest", "cell"] spGoes := by
  refine F.ok sc_goes_to (FnN.len fun _ => rfl) (fun cdv A outer s H vs Q E hr h => ⟨_, (pss_cons (ps_set (i := 2) sc_goes_to.nd rfl (Or.inl rfl) pe_dnewT) (pss_cons (ps_for PassesOwn.never rfl (pi_seq (pe_glob (v := .ref aT) rfl T.TURNS rfl)) (pg_name (i := 3) sc_goes_to.nd rfl (Or.inl rfl)) (pss_cons (ps_if (pt_cmp (pc_dnotin (hu_of hr) (pe_tup (pa_cons (pe_op op_add (pe_ix (ixK (K := K)) (pv 1) pe_int (fun _ _ => rfl)) (pe_ix (ixK (K := K)) (pv 3) pe_int (fun _ _ => rfl))) (pa_cons (pe_op op_add (pe_ix (ixK (K := K)) (pv 1) pe_int (fun _ _ => rfl)) (pe_ix (ixK (K := K)) (pv 3) pe_int (fun _ _ => rfl))) pa_nil))) (pv 0))) (pss_one ps_continue) pss_nil) (pss_one (ps_for PassesOwn.never rfl (pi_seq (pe_tup (pa_cons (pe_tup (pa_cons (pe_ix (ixK (K := K)) (pv 3) pe_int (fun _ _ => rfl)) (pa_cons (pe_ix (ixK (K := K)) (pv 3) pe_int (fun _ _ => rfl)) pa_nil))) (pa_cons (pe_tup (pa_cons (pe_un un_neg (pe_ix (ixK (K := K)) (pv 3) pe_int (fun _ _ => rfl))) (pa_cons (pe_un un_neg (pe_ix (ixK (K := K)) (pv 3) pe_int (fun _ _ => rfl))) pa_nil))) pa_nil)))) (pg_name (i := 4) sc_goes_to.nd rfl (Or.inl rfl)) (pss_cons (ps_set (i := 5) sc_goes_to.nd rfl (Or.inl rfl) (pe_tup (pa_cons (pe_op op_add (pe_ix (ixK (K := K)) (pv 1) pe_int (fun _ _ => rfl)) (pe_ix (ixK (K := K)) (pv 4) pe_int (fun _ _ => rfl))) (pa_cons (pe_op op_add (pe_ix (ixK (K := K)) (pv 1) pe_int (fun _ _ => rfl)) (pe_ix (ixK (K := K)) (pv 4) pe_int (fun _ _ => rfl))) pa_nil)))) (pss_cons (ps_set (i := 6) sc_goes_to.nd rfl (Or.inl rfl) (pe_tup (pa_cons (pe_op op_add (pe_ix (ixK (K := K)) (pv 5) pe_int (fun _ _ => rfl)) (pe_ix (ixK (K := K)) (pv 3) pe_int (fun _ _ => rfl))) (pa_cons (pe_op op_add (pe_ix (ixK (K := K)) (pv 5) pe_int (fun _ _ => rfl)) (pe_ix (ixK (K := K)) (pv 3) pe_int (fun _ _ => rfl))) pa_nil)))) (pss_one (ps_if (pt_cmp (pc_dnotin (hu_of hr) (pv 5) (pv 0))) (pss_one (ps_dput (hu_of hr) (pv 2) (pe_ifExp (pt_cmp (pc_din (hu_of hr) (pv 6) (pv 0))) (pv 5) (pv 6)) pe_bl rfl)) pss_nil)))))))) (pss_one (ps_ret (pe_callB (cr_srtD (by rfl) hr.units) (by rfl) T.sorted b_sorted (pa_cons (pv 2) pa_nil)))))), ?_⟩)
  obtain ⟨⟨r, c⟩, _, hv, q⟩ := h
  have S0 := st (N := N_goes_to) (Rs := [rDic (tr r), rCell c]) hv
  have S : Sl _ H [some (rAt H (rDic (tr r))), some (rCell c), none, none, none, none, none] := S0.atE (i := 0) rfl
  refine q_asgA S e_dnewN fun v σ1 H1 e1 hn S1 => ?_
  obtain ⟨p, rfl, np, hp⟩ := hn
  refine q_forQ (Rs := TS.map (rTn K)) (e_glob (T.vT H1)) (fun a xs i σ' H' => Sf K a xs (TS.map (rTn K)) H' ∧ Ex H H' ∧ H' p = some (dC (tr ((TS.take i).foldl (stepN r c) []))) ∧ ((TS.take i).foldl (stepN r c) []).length ≤ 2 * i ∧ Sl σ' H' [some (rAt H (rDic (tr r))), some (rCell c), some (rV (.ref p)), none, none, none, none])
    (fun a xs H2 e2 hq hx => ⟨⟨hq, hx⟩, e1.trans e2, e2 _ _ hp, Nat.le_refl _, S1.up e2⟩) (fun a xs i σ' H' h => h.1.1) ?_ ?_
  · rintro a xs i x σ2 H2 hi hx ⟨sf, E2, hp2, hl2, S2⟩
    have hi' : i < TS.length := by simpa using hi
    have rx : (rTn K TS[i]).p x H2 := by
      obtain ⟨R, r1, r2⟩ := sf.2.get' hx
      rw [List.getElem?_map, List.getElem?_eq_getElem hi'] at r1
      cases r1
      exact r2
    have hstep : (TS.take (i + 1)).foldl (stepN r c) [] = stepN r c ((TS.take i).foldl (stepN r c) []) TS[i] := by
      rw [take_s hi', List.foldl_append]
      rfl
    have np2 : H p = none := Evl.fresh_back (exr H) np
    have hi4 : TS.length = 4 := rfl
    rw [hstep]
    generalize hf : (TS.take i).foldl (stepN r c) [] = fo at hp2 hl2 ⊢
    generalize hn : TS[i] = n at rx ⊢
    refine g_name S2 rx fun σ3 S3 => ?_
    refine q_if (t_B (e_dnin (c := addC c n) (e_is (e_tup (a_cons (e_op (e_op (e_s S3) e_c (ov_ixT rfl)) (e_op (e_s S3) e_c (ov_ix rfl)) ov_I0) (a_cons (e_op (e_op (e_s S3) e_c (ov_ixT rfl)) (e_op (e_s S3) e_c (ov_ix rfl)) ov_I0) a_nil))) rfl) (e_at (e_s S3)))) (fun hb H4 e4 => ?_) fun hb H4 e4 => ?_
    · rw [tr_keys] at hb
      have e1 : stepN r c fo n = fo := by
        unfold stepN
        rw [if_neg (by
          intro z
          rw [z] at hb
          cases hb)]
      rw [e1]
      exact ⟨sf.up e4, E2.trans e4, e4 _ _ hp2, by omega, (S3.up e4).forget (i := 3)⟩
    · rw [tr_keys] at hb
      have hb' : isin r (addC c n) = true := by simpa using hb
      have e1 : stepN r c fo n = (dirs n).foldl (stepD r n c) fo := by
        unfold stepN
        rw [if_pos hb']
      rw [e1]
      have S4 := S3.up e4
      refine s_forQ (Rs := (dirs n).map rCell) (e_sqT (e_tup (Rs := [rCell (n.2, n.1), rCell (-n.2, -n.1)]) (a_cons (e_tup (Rs := [rInt n.2, rInt n.1]) (a_cons (e_op (e_s S4) e_c (ov_ix (R := rInt n.2) rfl)) (a_cons (e_op (e_s S4) e_c (ov_ix (R := rInt n.1) rfl)) a_nil)))
        (a_cons (e_tup (Rs := [rInt (-n.2), rInt (-n.1)]) (a_cons (e_un (e_op (e_s S4) e_c (ov_ix (R := rInt n.2) rfl)) (uv_neg (i := n.2))) (a_cons (e_un (e_op (e_s S4) e_c (ov_ix (R := rInt n.1) rfl)) (uv_neg (i := n.1))) a_nil))) a_nil))))
        (fun b ys j σ' H' => Sf K b ys ((dirs n).map rCell) H' ∧ Sf K a xs (TS.map (rTn K)) H' ∧ Ex H H' ∧ H' p = some (dC (tr (((dirs n).take j).foldl (stepD r n c) fo))) ∧ (((dirs n).take j).foldl (stepD r n c) fo).length ≤ 2 * i + j ∧
          Sl σ' H' [some (rAt H (rDic (tr r))), some (rCell c), some (rV (.ref p)), some (rTn K n), none, none, none])
        (fun b ys H5 e5 hq hx => ⟨⟨hq, hx⟩, (sf.up e4).up e5, (E2.trans e4).trans e5, e5 _ _ (e4 _ _ hp2), hl2, S4.up e5⟩) (fun b ys j σ' H' h => h.1.1) ?_ ?_
      · rintro b ys j y σ5 H5 hj hy ⟨sg, sf5, E5, hp5, hl5, S5⟩
        have hj' : j < (dirs n).length := by simpa using hj
        have ry := el_cells sg.2 hj' hy
        have hstep2 : ((dirs n).take (j + 1)).foldl (stepD r n c) fo = stepD r n c (((dirs n).take j).foldl (stepD r n c) fo) (dirs n)[j] := by
          rw [take_s hj', List.foldl_append]
          rfl
        have hlen2 := stepD_len (r := r) (n := n) (c := c) (f := ((dirs n).take j).foldl (stepD r n c) fo) (d := (dirs n)[j])
        rw [hstep2]
        generalize ((dirs n).take j).foldl (stepD r n c) fo = fj at hp5 hl5 hlen2 ⊢
        generalize (dirs n)[j] = d at ry hlen2 ⊢
        refine g_name S5 ry fun σ6 S6 => ?_
        refine q_asg (R := rCell (addC c d)) S6 (e_is (e_tup (a_cons (e_op (e_op (e_s S6) e_c (ov_ixT rfl)) (e_op (e_s S6) e_c (ov_ixT rfl)) ov_I0) (a_cons (e_op (e_op (e_s S6) e_c (ov_ixT rfl)) (e_op (e_s S6) e_c (ov_ixT rfl)) ov_I0) a_nil))) rfl) fun σ7 H7 e7 S7 => ?_
        refine q_asg (R := rCell (addC (addC c d) n)) S7 (e_is (e_tup (a_cons (e_op (e_op (e_s S7) e_c (ov_ixT rfl)) (e_op (e_s S7) e_c (ov_ix rfl)) ov_I0) (a_cons (e_op (e_op (e_s S7) e_c (ov_ixT rfl)) (e_op (e_s S7) e_c (ov_ix rfl)) ov_I0) a_nil))) rfl) fun σ8 H8 e8 S8 => ?_
        have E8 := (E5.trans e7).trans e8
        have sg8 := (sg.up e7).up e8
        have sf8 := (sf5.up e7).up e8
        have hp8 := e8 _ _ (e7 _ _ hp5)
        refine s_if (t_B (e_dnin (e_s S8) (e_at (e_s S8)))) (fun hb2 H9 e9 => ?_) fun hb2 H9 e9 => ?_
        · rw [tr_keys] at hb2
          have hd : isin r (addC c d) = false := by simpa using hb2
          have e2 : stepD r n c fj d = putL fj (if isin r (addC (addC c d) n) = true then addC c d else addC (addC c d) n) := by
            unfold stepD
            rw [if_neg (by rw [hd]; decide)]
          rw [e2] at hlen2 ⊢
          have S9 := S8.up e9
          refine s_dput (kvs := tr fj) (c := if isin r (addC (addC c d) n) = true then addC c d else addC (addC c d) n) (v := .bl true) (e9 _ _ hp8) e_c (e_s S9) (e_if (b := isin r (addC (addC c d) n)) (t_is (t_B (e_din (e_s S9) (e_at (e_s S9)))) (by rw [tr_keys])) (fun hq => by
            rw [hq]
            exact e_s S9) fun hq => by
            rw [hq]
            exact e_s S9) (by
            have hd2 : (dirs n).length = 2 := rfl
            rw [List.length_map]
            omega) fun H10 e10 h10 => ?_
          rw [tr_put]
          refine ⟨((sg8.up e9).up e10).mut (H0 := H) h10 nt_t np2, ?_, Evl.Ex.mut ((E8.trans e9).trans e10) np2, upd_same, by omega, (((((S9.up e10).mut h10 nt_t np2).forget (i := 4)).forget (i := 5)).forget (i := 6))⟩
          have := ((sf8.up e9).up e10)
          exact ⟨sqT_mut this.1 h10 nt_t, allP_ms h10 nt_t np2 (fun R hR => by
            obtain ⟨c', _, rfl⟩ := List.mem_map.mp hR
            exact ms_sqT) this.2⟩
        · rw [tr_keys] at hb2
          have hd : isin r (addC c d) = true := by simpa using hb2
          have e2 : stepD r n c fj d = fj := by
            unfold stepD
            rw [if_pos hd]
          rw [e2]
          exact ⟨sg8.up e9, sf8.up e9, E8.trans e9, e9 _ _ hp8, by omega, ((((S8.up e9).forget (i := 4)).forget (i := 5)).forget (i := 6))⟩
      · rintro b ys σ5 H5 ⟨_, sf5, E5, hp5, hl5, S5⟩
        have e2 : (dirs n).take ((dirs n).map rCell).length = dirs n := by
          rw [List.length_map, List.take_length]
        rw [e2] at hp5 hl5
        have e3 : ((dirs n).map rCell).length = 2 := rfl
        exact ⟨sf5, E5, hp5, by omega, S5.forget (i := 3)⟩
  · rintro a xs σ3 H3 ⟨_, E3, hp3, _, S3⟩
    have hp3 : H3 p = some (dC (tr (goF r c))) := hp3
    refine s_ret (R := rNewL H3 ((goesC r c).map rCell)) (e_is (e_srtDN (a_cons (e_od S3 hp3) a_nil) ?_) (by rw [tr_keys]; rfl)) fun v H4 e4 hv4 => q v H4 (E3.trans e4) (rNewL.back E3 hv4)
    rw [tr_keys]
    refine sok_cells _ ?_
    have := ‹((TS.take (TS.map (rTn K)).length).foldl (stepN r c) []).length ≤ 2 * (TS.map (rTn K)).length›
    have e2 : (TS.map (rTn K)).length = 4 := rfl
    have e3 : TS.take (TS.map (rTn K)).length = TS := rfl
    rw [e3, e2] at this
    show (goF r c).length ≤ 100000
    unfold goF
    omega
end
end Kx
set_option Elab.async false
set_option linter.all false
set_option maxRecDepth 100000
/-! M3: lemmas on the breadth-first mirrors. -/
namespace Kx
open PySem L2
abbrev fI (q : List (Cell × Int)) : List (Cell × V) := q.map fun p => (p.1, V.int p.2)
theorem fI_keys (q : List (Cell × Int)) : (fI q).map (·.1) = q.map (·.1) := by
  rw [List.map_map]
  rfl
def add1 (d : Int) (q : List (Cell × Int)) (c : Cell) : List (Cell × Int) := if isin (q.map (·.1)) c = true then q else q ++ [(c, d + 1)]
theorem addN_snoc {d : Int} {c : Cell} : ∀ (L : List Cell) (q : List (Cell × Int)), addN d q (L ++ [c]) = add1 d (addN d q L) c
  | [], q => by
    show addN d q [c] = add1 d q c
    unfold addN add1
    by_cases h : isin (q.map (·.1)) c = true
    · rw [if_pos h, if_pos h]
      rfl
    · rw [if_neg h, if_neg h]
      rfl
  | x :: L, q => by
    show (if isin (q.map (·.1)) x = true then addN d q (L ++ [c]) else addN d (q ++ [(x, d + 1)]) (L ++ [c])) = add1 d (if isin (q.map (·.1)) x = true then addN d q L else addN d (q ++ [(x, d + 1)]) L) c
    by_cases h : isin (q.map (·.1)) x = true
    · rw [if_pos h, if_pos h]
      exact addN_snoc L q
    · rw [if_neg h, if_neg h]
      exact addN_snoc L _
theorem addN_pre {d : Int} : ∀ (L : List Cell) (q : List (Cell × Int)), q <+: addN d q L
  | [], q => List.prefix_rfl
  | x :: L, q => by
    show q <+: (if isin (q.map (·.1)) x = true then addN d q L else addN d (q ++ [(x, d + 1)]) L)
    split
    · exact addN_pre L q
    · exact (List.prefix_append q _).trans (addN_pre L _)
theorem addN_len {d : Int} : ∀ (L : List Cell) (q : List (Cell × Int)), (addN d q L).length ≤ q.length + L.length
  | [], q => Nat.le_refl _
  | x :: L, q => by
    show (if isin (q.map (·.1)) x = true then addN d q L else addN d (q ++ [(x, d + 1)]) L).length ≤ _
    rw [List.length_cons]
    split
    · have := addN_len (d := d) L q
      omega
    · have := addN_len (d := d) L (q ++ [(x, d + 1)])
      rw [List.length_append, List.length_singleton] at this
      omega
theorem addN_nd {d : Int} : ∀ (L : List Cell) (q : List (Cell × Int)), (q.map (·.1)).Nodup → ((addN d q L).map (·.1)).Nodup
  | [], q, h => h
  | x :: L, q, h => by
    show ((if isin (q.map (·.1)) x = true then addN d q L else addN d (q ++ [(x, d + 1)]) L).map (·.1)).Nodup
    by_cases hx : isin (q.map (·.1)) x = true
    · rw [if_pos hx]
      exact addN_nd L q h
    · rw [if_neg hx]
      refine addN_nd L _ ?_
      rw [List.map_append]
      refine List.nodup_append.mpr ⟨h, by simp, fun a ha b hb => ?_⟩
      have hb : b = x := by simpa using hb
      intro z
      rw [z, hb] at ha
      exact hx (isin_iff.mpr ha)
theorem look_nd {q : List (Cell × Int)} {x : Cell × Int} (hn : (q.map (·.1)).Nodup) (h : x ∈ q) : look (fI q) x.1 = some (.int x.2) := by
  induction q with
  | nil => cases h
  | cons y r ih =>
    show look ((y.1, V.int y.2) :: fI r) x.1 = _
    rw [look_cons]
    rw [List.map_cons, List.nodup_cons] at hn
    rcases List.mem_cons.mp h with e | h
    · rw [e, if_pos rfl]
    · rw [if_neg]
      · exact ih hn.2 h
      · intro z
        have z : y.1 = x.1 := z
        exact hn.1 (z ▸ List.mem_map_of_mem h)
theorem look_fI {q : List (Cell × Int)} {c : Cell} : look (fI q) c = (look q c).map V.int := by
  induction q with
  | nil => rfl
  | cons y r ih =>
    show look ((y.1, V.int y.2) :: fI r) c = _
    rw [look_cons, look_cons]
    by_cases e : y.1 = c
    · rw [if_pos e, if_pos e]
      rfl
    · rw [if_neg e, if_neg e]
      exact ih
theorem fI_put {q : List (Cell × Int)} {c : Cell} {d : Int} (h : isin (q.map (·.1)) c = false) : putC (fI q) c (.int (d + 1)) = fI (q ++ [(c, d + 1)]) := by
  rw [putC_new]
  · show (q.map _) ++ _ = (q ++ _).map _
    rw [List.map_append]
    rfl
  · rw [fI_keys]
    intro z
    rw [isin_iff.mpr z] at h
    cases h
theorem goF_len {r : List Cell} {c : Cell} : (goF r c).length ≤ 8 := by
  have h1 := stepN_len (r := r) (c := c) (f := []) (n := (-1, 0))
  have h2 := stepN_len (r := r) (c := c) (f := stepN r c [] (-1, 0)) (n := (0, -1))
  have h3 := stepN_len (r := r) (c := c) (f := stepN r c (stepN r c [] (-1, 0)) (0, -1)) (n := (0, 1))
  have h4 := stepN_len (r := r) (c := c) (f := stepN r c (stepN r c (stepN r c [] (-1, 0)) (0, -1)) (0, 1)) (n := (1, 0))
  rw [List.length_nil] at h1
  show (stepN r c (stepN r c (stepN r c (stepN r c [] (-1, 0)) (0, -1)) (0, 1)) (1, 0)).length ≤ 8
  omega
theorem goesC_len {r : List Cell} {c : Cell} : (goesC r c).length ≤ 8 := by
  unfold goesC srtC
  rw [List.length_mergeSort]
  exact goF_len
theorem bfsF_step {r : List Cell} {n at_ : Nat} {q : List (Cell × Int)} (h : at_ < q.length) : bfsF r (n + 1) at_ q = bfsF r n (at_ + 1) (addN q[at_].2 q (goesC r q[at_].1)) := by
  show (match q[at_]? with | some x => bfsF r n (at_ + 1) (addN x.2 q (goesC r x.1)) | none => some q) = _
  rw [List.getElem?_eq_getElem h]
theorem bfsF_end {r : List Cell} {n at_ : Nat} {q : List (Cell × Int)} (h : q.length ≤ at_) : bfsF r (n + 1) at_ q = some q := by
  show (match q[at_]? with | some x => bfsF r n (at_ + 1) (addN x.2 q (goesC r x.1)) | none => some q) = _
  rw [List.getElem?_eq_none h]
end Kx
set_option Elab.async false
set_option linter.all false
set_option maxRecDepth 100000
set_option maxHeartbeats 4000000
/-! D5: ways_back, ways_from. -/
namespace Kx
open PySem L2 PyProof.Rows
theorem atI_nat {α : Type} {xs : List α} {i : Nat} {x : α} (h : xs[i]? = some x) : atI xs (i : Int) = some x := by
  have lt : i < xs.length := (List.getElem?_eq_some_iff.mp h).1
  have e : ixN xs.length (i : Int) = some i := by
    unfold ixN
    rw [if_pos (by omega), if_pos (by omega)]
    rfl
  unfold atI
  rw [e]
  exact h
section
variable {K : PySem.W.Frag} {σ : L2.St} {H : Hp} {Γ : Gm} {tl te : TE} {D : Ends} {tu tz : L2.TS} {R S U : RP} {ts : TA}
/-- for .. in a list that a call made -/
theorem q_forN {g : TG} {Rs : List RP} (h : Ev tl σ H (rNewL H Rs)) (Pv : Addr → List V → Nat → L2.St → Hp → Prop) (h0 : ∀ a xs H1, Ex H H1 → H a = none → H1 a = some (.lst xs) → AllP Rs xs H1 → Pv a xs 0 σ H1)
    (hl : ∀ a xs i σ' H', Pv a xs i σ' H' → H' a = some (.lst xs)) (hs : ∀ a xs i x σ' H', i < Rs.length → xs[i]? = some x → Pv a xs i σ' H' → g x σ' H' fun σ2 H2 => tu { D with nx := Pv a xs (i + 1), ct := Pv a xs (i + 1), bk := tz D } σ2 H2)
    (hd : ∀ a xs σ' H', Pv a xs Rs.length σ' H' → tz D σ' H') : tSeq (tFor (iSeq K tl) g tu) tz D σ H := h H (exr H) _ fun v H1 e ⟨a, xs, ev, hn, ha, hx⟩ => ⟨a, xs, false, ev, .inr ⟨rfl, SqL.of ha⟩, by
    have l := hx.len
    exact for_it (walk_seq (k := false)) (Pv a xs) (h0 a xs H1 e hn ha hx) (fun i σ' H' _ p => .inr ⟨rfl, SqL.of (hl a xs i σ' H' p)⟩) (fun i x σ' H' H2 hi p y => by
      obtain ⟨e2, hy⟩ := y
      rw [e2]
      exact hs a xs i x σ' H' (by omega) hy p) fun σ' H' p => hd a xs σ' H' (by rw [← l]; exact p)⟩
theorem s_augI {i : Nat} {f : Int → Int → Int} {a b : Int} (s : Sl σ H Γ) (hi : Γ[i]? = some (some (rInt a))) (h : Ev te σ H (rInt b)) (k : ∀ σ' H', Ex H H' → Sl σ' H' (Γ.set i (some (rInt (f a b)))) → D.nx σ' H') : tAug i te (ipI f) D σ H := by
  obtain ⟨x, x1, x2⟩ := s.2 i _ hi
  have x2 : x = .int a := x2
  subst x2
  refine ⟨_, x1, h H (exr H) _ fun y H1 e hy => ?_⟩
  have hy : y = .int b := hy
  subst hy
  exact ⟨a, b, rfl, rfl, k _ H1 e ((s.up e).set rfl)⟩
theorem AllP.three {vs : List V} (h : AllP [R, S, U] vs H) : ∃ v w u, vs = [v, w, u] ∧ R.p v H ∧ S.p w H ∧ U.p u H := by
  match vs, h with
  | [v, w, u], h => exact ⟨v, w, u, rfl, h.1, h.2.1, h.2.2.1⟩
theorem q_par3A {i j l : Nat} (s : Sl σ H Γ) (h : EvA ts σ H [R, S, U]) (k : ∀ v w u σ' H', Ex H H' → R.p v H' → S.p w H' → U.p u H' → Sl σ' H' (((Γ.set i (some (rV v))).set j (some (rV w))).set l (some (rV u))) → tz D σ' H') : tSeq (tPar3 i j l ts) tz D σ H :=
  h H (exr H) _ fun vs H1 e hv => by
    obtain ⟨v, w, u, rfl, h1, h2, h3⟩ := hv.three
    exact ⟨v, w, u, rfl, k v w u _ H1 e h1 h2 h3 ((((s.up e).set (R := rV v) rfl).set (R := rV w) rfl).set (R := rV u) rfl)⟩
theorem e_odV {i : Nat} {a : Addr} {kvs : List (Cell × V)} (s : Sl σ H Γ) (hl : H a = some (dC kvs)) (hi : Γ[i]? = some (some (rV (.ref a))) := by rfl) : Ev (tVar i) σ H (rDic kvs) := e_od s hl hi
end
/-- the state of the breadth-first walk -/
structure Bf (H0 : Hp) (pr pf pt : Addr) (r : List Cell) (fq : List (Cell × V)) (tc : List Cell) (H : Hp) : Prop where
  ex : Ex H0 H
  r : H pr = some (dC (tr r))
  f : H pf = some (dC fq)
  t : ∃ tv, H pt = some (.lst tv) ∧ AllP (tc.map rCell) tv H
structure BfN (H0 : Hp) (pr pf pt : Addr) : Prop where
  f0 : H0 pf = none
  t0 : H0 pt = none
  n1 : pr ≠ pf
  n2 : pr ≠ pt
  n3 : pf ≠ pt
section
variable {H0 H H' : Hp} {pr pf pt : Addr} {r tc tc' : List Cell} {fq fq' : List (Cell × V)}
theorem Bf.up (b : Bf H0 pr pf pt r fq tc H) (e : Ex H H') : Bf H0 pr pf pt r fq tc H' := let ⟨tv, t1, t2⟩ := b.t; ⟨b.ex.trans e, e _ _ b.r, e _ _ b.f, tv, e _ _ t1, t2.mono e⟩
theorem Bf.setF (b : Bf H0 pr pf pt r fq tc H) (N : BfN H0 pr pf pt) : Bf H0 pr pf pt r fq' tc (upd H pf (dC fq')) := let ⟨tv, t1, t2⟩ := b.t
  ⟨Evl.Ex.mut b.ex N.f0, by rw [upd_ne N.n1]; exact b.r, upd_same, tv, by rw [upd_ne N.n3.symm]; exact t1, allP_ms b.f nt_t N.f0 ms_cells t2⟩
theorem Bf.setT {tv tv' : List V} (b : Bf H0 pr pf pt r fq tc H) (N : BfN H0 pr pf pt) (ht : H pt = some (.lst tv)) (h : AllP (tc'.map rCell) tv' H) : Bf H0 pr pf pt r fq tc' (upd H pt (.lst tv')) :=
  ⟨Evl.Ex.mut b.ex N.t0, by rw [upd_ne N.n2]; exact b.r, by rw [upd_ne N.n3]; exact b.f, tv', upd_same, allP_ms ht nt_l N.t0 ms_cells h⟩
end
section
variable {P : Program} {w : World} {K : PySem.W.Frag} {mg : Str → Option Value} {base : Heap} {tS tG : Tok} {aT aW : Addr} {f : Addr} {fd : FuncData}

abbrev spBack : Sp := Fn (fun d : List Cell × Cell × List (Cell × Int) => bfsF d.1 200 0 [(d.2.1, 0)] = some d.2.2) (fun d => [rDic (tr d.1), rCell d.2.1]) fun d => rDic (fI d.2.2)
abbrev N_ways_back : List Str := ["rest", "end", "far", "todo", "at", "cell"]
theorem sc_ways_back : FnScope N_ways_back ["rest", "end"] (defScope (top 29)) := ⟨rfl, rfl, rfl, by decide +kernel, rfl, by decide +kernel, by decide +kernel⟩
theorem ok_ways_back (F : Fun K "ways_back" "ways_back" (top 29) f fd) (T : Txt K mg tS tG aT aW) (Ggoes_to : Cl P w K mg base 1 "goes_to" spGoes) : FnOk P w K mg base CX0 10 f fd ["rest", "end"] spBack := by
  refine F.ok sc_ways_back (Fn.len fun _ => rfl) (fun cdv A outer s H vs Q E hr h => ⟨_, (pss_cons (ps_par3 (i := 2) (j := 3) (l := 4) (by rfl) sc_ways_back.nd rfl rfl rfl (by decide) (by decide) (by decide) rfl rfl rfl (pa_cons (pe_disp1 (hu_of hr) (pv 1) pe_int) (pa_cons (pe_lst (pa_cons (pv 1) pa_nil)) (pa_cons pe_int pa_nil))) (by rfl)) (pss_cons (ps_while PassesOwn.never (pt_cmpR op_lt (pv 4) (pe_callB cr_ln (by rfl) T.len b_len (pa_cons (pv 3) pa_nil)) (nomark _)) (pss_cons (ps_for PassesOwn.never rfl (pi_seq (pe_cl Ggoes_to (hr.mono (by decide)) (by rfl) (pa_cons (pv 0) (pa_cons (pe_ix (ixK (K := K)) (pv 3) (pv 4) (fun _ _ => rfl)) pa_nil)))) (pg_name (i := 5) sc_ways_back.nd rfl (Or.inl rfl)) (pss_one (ps_if (pt_cmp (pc_dnotin (hu_of hr) (pv 5) (pv 2))) (pss_cons (ps_dput (hu_of hr) (pv 2) (pv 5) (pe_op op_add (pe_dget (hu_of hr) (pv 2) (pe_ix (ixK (K := K)) (pv 3) (pv 4) (fun _ _ => rfl)) (fun _ _ => rfl)) pe_int) rfl) (pss_one (ps_expr (pe_bm PySem.F.plainAttrs_list PySem.F.slot_list_append PySem.F.type_list_append mt_append (pv 3) (pa_cons (pv 5) pa_nil))))) pss_nil))) (pss_one (ps_aug (i := 4) sc_ways_back.nd rfl (Or.inl rfl) pe_int ip_add)))) (pss_one (ps_ret (pv 2))))), ?_⟩)
  obtain ⟨⟨r, e, far⟩, hfar, hv, q⟩ := h
  obtain ⟨v1, v2, rfl, ⟨pr, rfl, hpr⟩, hc⟩ := (show AllP [rDic (tr r), rCell e] vs H from hv).two
  have hfar : bfsF r 200 0 [(e, 0)] = some far := hfar
  have S0 := st (N := N_ways_back) (Rs := [rV (.ref pr), rCell e]) (vs := [.ref pr, v2]) ⟨rfl, hc, trivial⟩
  refine q_par3A S0 (a_cons (e_disp1N (v := .int 0) (e_s S0) e_c) (a_cons (e_lstN (a_cons (e_s S0) a_nil)) (a_cons (R := rInt 0) e_c a_nil))) fun v w u σ1 H1 e1 hf ht hu S1 => ?_
  obtain ⟨pf, rfl, nf, hpf⟩ := hf
  obtain ⟨pt, tv, rfl, nt, hpt, at_⟩ := ht
  have hu : u = .int 0 := hu
  subst hu
  have N : BfN H pr pf pt := ⟨nf, nt, fun z => (by rw [z, nf] at hpr; cases hpr), fun z => (by rw [z, nt] at hpr; cases hpr), fun z => (by rw [z, hpt] at hpf; cases hpf)⟩
  have B : Bf H pr pf pt r (fI [(e, 0)]) ([(e, (0 : Int))].map (·.1)) H1 := ⟨e1, e1 _ _ hpr, hpf, tv, hpt, at_⟩
  have S : Sl σ1 H1 [some (rV (.ref pr)), none, some (rV (.ref pf)), some (rV (.ref pt)), some (rInt (0 : Nat)), none] := S1.forget (i := 1)
  refine q_while (fun m σ' H' => ∃ (at_ : Nat) (q : List (Cell × Int)), bfsF r m at_ q = some far ∧ q.length + 8 * m ≤ 1700 ∧ (q.map (·.1)).Nodup ∧ Bf H pr pf pt r (fI q) (q.map (·.1)) H' ∧ Sl σ' H' [some (rV (.ref pr)), none, some (rV (.ref pf)), some (rV (.ref pt)), some (rInt (at_ : Nat)), none]) 200 ⟨0, [(e, 0)], hfar, Nat.le_of_ble_eq_true rfl, List.nodup_cons.mpr ⟨by simp, List.nodup_nil⟩, B, S⟩ ?_
  rintro m σ3 H3 ⟨at_, qq, hF, hz, hnd, B3, S3⟩
  obtain ⟨n, rfl⟩ : ∃ n, m = n + 1 := by
    cases m with
    | zero => cases hF
    | succ n => exact ⟨n, rfl⟩
  obtain ⟨tv3, ht3, at3⟩ := B3.t
  refine ⟨_, t_test (e_op (e_s S3) (e_cb (a_cons (e_ol S3 ht3 at3) a_nil) cv_lnL) ov_I0), fun hlt H4 e4 => ?_, fun hge H4 e4 => ?_⟩
  · have hlt : at_ < qq.length := by
      have := of_decide_eq_true hlt
      rw [List.length_map, List.length_map] at this
      omega
    rw [bfsF_step hlt] at hF
    refine ⟨_, fun σ' H' h => ⟨n, Nat.lt_succ_self n, h⟩, ?_⟩
    have S4 := S3.up e4
    have B4 := B3.up e4
    have hx : ((qq.map (·.1)).map rCell)[at_]? = some (rCell qq[at_].1) := by
      rw [List.getElem?_map, List.getElem?_map, List.getElem?_eq_getElem hlt]
      rfl
    have hmem : qq[at_] ∈ qq := List.getElem_mem hlt
    have hL := goesC_len (r := r) (c := qq[at_].1)
    generalize hxe : qq[at_] = x at hF hx hmem hL ⊢
    refine q_forN (Rs := (goesC r x.1).map rCell) (e_callN (r, x.1) (a_cons (e_od S4 B4.r) (a_cons (e_op (e_ol S4 (e4 _ _ ht3) (at3.mono e4)) (e_s S4) (ov_ixL (atI_nat hx))) a_nil)) trivial)
      (fun a xs i σ' H' => (H' a = some (.lst xs) ∧ a ≠ pf ∧ a ≠ pt) ∧ AllP ((goesC r x.1).map rCell) xs H' ∧ Bf H pr pf pt r (fI (addN x.2 qq ((goesC r x.1).take i))) ((addN x.2 qq ((goesC r x.1).take i)).map (fun z : Cell × Int => z.1)) H' ∧ Sl σ' H' [some (rV (.ref pr)), none, some (rV (.ref pf)), some (rV (.ref pt)), some (rInt (at_ : Nat)), none])
      (fun a xs H5 e5 hn ha hx5 => ⟨⟨ha, fun z => ?_, fun z => ?_⟩, hx5, B4.up e5, S4.up e5⟩) (fun a xs i σ' H' h => h.1.1) ?_ ?_
    · rw [z, B4.f] at hn
      cases hn
    · rw [z, e4 _ _ ht3] at hn
      cases hn
    · rintro a xs i y σ5 H5 hi hy ⟨⟨ha, na, nb⟩, hx5, B5, S5⟩
      have hi' : i < (goesC r x.1).length := by simpa using hi
      have ry := el_cells hx5 hi' hy
      rw [take_s hi', addN_snoc]
      have hpre := addN_pre (d := x.2) ((goesC r x.1).take i) qq
      have hnd5 := addN_nd (d := x.2) ((goesC r x.1).take i) qq hnd
      have hl5 := addN_len (d := x.2) ((goesC r x.1).take i) qq
      rw [List.length_take] at hl5
      generalize addN x.2 qq ((goesC r x.1).take i) = qi at B5 hpre hnd5 hl5 ⊢
      generalize (goesC r x.1)[i] = c at ry ⊢
      refine g_name S5 ry fun σ6 S6 => ?_
      refine s_if (t_B (e_dnin (e_s S6) (e_od S6 B5.f))) (fun hb H6 e6 => ?_) fun hb H6 e6 => ?_
      · rw [fI_keys] at hb
        have hb : isin (qi.map (·.1)) c = false := by simpa using hb
        have ea : add1 x.2 qi c = qi ++ [(c, x.2 + 1)] := by
          unfold add1
          rw [if_neg (by rw [hb]; decide)]
        rw [ea]
        have S7 := S6.up e6
        have B7 := B5.up e6
        obtain ⟨tv7, ht7, at7⟩ := B7.t
        have hx7 : ((qi.map (·.1)).map rCell)[at_]? = some (rCell x.1) := by
          have h1 := List.prefix_iff_getElem?.mp hpre at_ hlt
          rw [List.getElem?_map, List.getElem?_map, h1, hxe]
          rfl
        refine q_dput (kvs := fI qi) (c := c) (v := .int (x.2 + 1)) B7.f (e_op (e_dget (e_od S7 B7.f) (e_op (e_ol S7 ht7 at7) (e_s S7) (ov_ixL (atI_nat hx7))) (look_nd hnd5 (hpre.subset hmem))) e_c ov_I0) (e_s S7) (e_s S7) (by
          rw [List.length_map]
          omega) fun H8 e8 h8 => ?_
        rw [fI_put hb]
        have B8 := (B7.up e8).setF (fq' := fI (qi ++ [(c, x.2 + 1)])) N
        have S8 := (S7.up e8).mut (H0 := H) (o := dC (fI (qi ++ [(c, x.2 + 1)]))) h8 nt_t N.f0
        obtain ⟨tv8, ht8, at8⟩ := B8.t
        have l8 := at8.len
        rw [List.length_map, List.length_map] at l8
        have ha8 : (upd H8 pf (dC (fI (qi ++ [(c, x.2 + 1)])))) a = some (.lst xs) := by
          rw [upd_ne na]
          exact e8 _ _ (e6 _ _ ha)
        have hx8 := allP_ms (o := dC (fI (qi ++ [(c, x.2 + 1)]))) h8 nt_t N.f0 ms_cells ((hx5.mono e6).mono e8)
        refine s_app (Rl := rCell c) ht8 (e_s S8) (e_s S8) (by omega) fun v9 H9 e9 r9 h9 => ?_
        refine ⟨⟨by rw [upd_ne nb]; exact e9 _ _ ha8, na, nb⟩, allP_ms h9 nt_l N.t0 ms_cells (hx8.mono e9), (B8.up e9).setT N h9 ?_, ((S8.up e9).mut h9 nt_l N.t0).forget (i := 5)⟩
        rw [List.map_append, List.map_append]
        exact (at8.mono e9).app ⟨r9, trivial⟩
      · rw [fI_keys] at hb
        have hb : isin (qi.map (·.1)) c = true := by simpa using hb
        have ea : add1 x.2 qi c = qi := by
          unfold add1
          rw [if_pos hb]
        rw [ea]
        exact ⟨⟨e6 _ _ ha, na, nb⟩, hx5.mono e6, B5.up e6, (S6.up e6).forget (i := 5)⟩
    · rintro a xs σ5 H5 ⟨_, _, B5, S5⟩
      have ek : (goesC r x.1).take ((goesC r x.1).map rCell).length = goesC r x.1 := by rw [List.length_map, List.take_length]
      rw [ek] at B5
      refine s_augI S5 rfl e_c fun σ6 H6 e6 S6 => ⟨at_ + 1, _, hF, ?_, addN_nd _ _ hnd, B5.up e6, S6⟩
      have := addN_len (d := x.2) (goesC r x.1) qq
      omega
  · have hge : qq.length ≤ at_ := by
      have := of_decide_eq_false hge
      rw [List.length_map, List.length_map] at this
      omega
    rw [bfsF_end hge] at hF
    cases hF
    have B4 := B3.up e4
    exact s_ret (e_od (S3.up e4) B4.f) fun v H5 e5 hv => q v H5 (B4.up e5).ex hv

structure FromP (b : List Cell) (s : Cell) : Prop where
  c : Cs b
  i : isin b s = true
  ne : restC b s ≠ []
  cs : Cs (srtC (restC b s))
  h : hangsP (srtC (restC b s)) = true
abbrev spFrom : Sp := Fn (fun d : List Cell × Cell × List (Cell × Int) => FromP d.1 d.2.1 ∧ bfsF (restC d.1 d.2.1) 200 0 [(d.2.1, 0)] = some d.2.2) (fun d => [rTupL rCell d.1, rCell d.2.1]) fun d => rDic (fI d.2.2)
theorem t_truTd {t : TE} {σ : L2.St} {H : Hp} {kvs : List (Cell × V)} (h : Ev t σ H (rDic kvs)) (hne : kvs ≠ []) : EvT (tTruT t) σ H true := fun H1 e Q q => h H1 e _ fun v H2 e2 hv => by
  obtain ⟨a, rfl, ha⟩ := hv
  refine ⟨a, _, rfl, ha, ?_⟩
  cases kvs with
  | nil => exact absurd rfl hne
  | cons _ _ => exact q H2 e2
abbrev N_ways_from : List Str := ["body", "start", "rest", "far", "todo", "at", "cell"]
theorem sc_ways_from : FnScope N_ways_from ["body", "start"] (defScope (top 27)) := ⟨rfl, rfl, rfl, by decide +kernel, rfl, by decide +kernel, by decide +kernel⟩
theorem ok_ways_from (F : Fun K "ways_from" "ways_from" (top 27) f fd) (T : Txt K mg tS tG aT aW) (Grest_of : Cl P w K mg base 1 "rest_of" spRest) (Ggoes_to : Cl P w K mg base 1 "goes_to" spGoes) (Ghangs : Cl P w K mg base 7 "hangs" (spHangs K true)) : FnOk P w K mg base CX0 10 f fd ["body", "start"] spFrom := by
  refine F.ok sc_ways_from (Fn.len fun _ => rfl) (fun cdv A outer s H vs Q E hr h => ⟨_, (pss_cons (ps_if (pt_cmpR (op_ninT (u65 hr)) (pv 1) (pv 0) (by rfl)) (pss_one (ps_ret pe_dnewT)) pss_nil) (pss_cons (ps_par (i := 2) (j := 3) (by rfl) sc_ways_from.nd rfl rfl (by decide) rfl rfl (pa_cons (pe_cl Grest_of (hr.mono (by decide)) (by rfl) (pa_cons (pv 0) (pa_cons (pv 1) pa_nil))) (pa_cons (pe_disp1 (hu_of hr) (pv 1) pe_int) pa_nil)) (by rfl)) (pss_cons (ps_if (PW.pt (pw_or (pt_not (pt_truT (pv 2))) (pw_or1 (pt_not (pt_val (pe_cl Ghangs (hr.mono (by decide)) (by rfl) (pa_cons (pe_callTy cr_tof (by rfl) T.tuple b_tuple (pa_cons (pe_callB (cr_srtD (by rfl) hr.units) (by rfl) T.sorted b_sorted (pa_cons (pv 2) pa_nil)) pa_nil)) pa_nil))))))) (pss_one (ps_ret (pv 3))) pss_nil) (pss_cons (ps_par (i := 4) (j := 5) (by rfl) sc_ways_from.nd rfl rfl (by decide) rfl rfl (pa_cons (pe_lst (pa_cons (pv 1) pa_nil)) (pa_cons pe_int pa_nil)) (by rfl)) (pss_cons (ps_while PassesOwn.never (pt_cmpR op_lt (pv 5) (pe_callB cr_ln (by rfl) T.len b_len (pa_cons (pv 4) pa_nil)) (nomark _)) (pss_cons (ps_for PassesOwn.never rfl (pi_seq (pe_cl Ggoes_to (hr.mono (by decide)) (by rfl) (pa_cons (pv 2) (pa_cons (pe_ix (ixK (K := K)) (pv 4) (pv 5) (fun _ _ => rfl)) pa_nil)))) (pg_name (i := 6) sc_ways_from.nd rfl (Or.inl rfl)) (pss_one (ps_if (pt_cmp (pc_dnotin (hu_of hr) (pv 6) (pv 3))) (pss_cons (ps_dput (hu_of hr) (pv 3) (pv 6) (pe_op op_add (pe_dget (hu_of hr) (pv 3) (pe_ix (ixK (K := K)) (pv 4) (pv 5) (fun _ _ => rfl)) (fun _ _ => rfl)) pe_int) rfl) (pss_one (ps_expr (pe_bm PySem.F.plainAttrs_list PySem.F.slot_list_append PySem.F.type_list_append mt_append (pv 4) (pa_cons (pv 6) pa_nil))))) pss_nil))) (pss_one (ps_aug (i := 5) sc_ways_from.nd rfl (Or.inl rfl) pe_int ip_add)))) (pss_one (ps_ret (pv 3)))))))), ?_⟩)
  obtain ⟨⟨b, e, far⟩, ⟨hp, hfar⟩, hv, q⟩ := h
  have hp : FromP b e := hp
  have S0 := st (N := N_ways_from) (Rs := [rTupL rCell b, rCell e]) hv
  refine qf (t_test (e_op (e_s S0) (e_s S0) ov_ninT)) (fun H1 e1 => ?_) (by rw [hp.i]; rfl)
  refine q_parA (S0.up e1) (a_cons (e_call (b, e) (a_cons (e_s (S0.up e1)) (a_cons (e_s (S0.up e1)) a_nil)) hp.c) (a_cons (e_disp1N (v := .int 0) (e_s (S0.up e1)) e_c) a_nil)) fun v w σ2 H2 e2 hr2 hf S2 => ?_
  obtain ⟨pr, rfl, hpr⟩ := hr2
  obtain ⟨pf, rfl, nf, hpf⟩ := hf
  have n1 : pr ≠ pf := fun z => by
    rw [z, hpf] at hpr
    injection hpr with hpr
    injection hpr with hpr
    generalize restC b e = l at hpr
    cases l with
    | nil => cases hpr
    | cons x l =>
      injection hpr with h1 _
      injection h1 with _ h2
      cases h2
  have hok : SOk (((tr (restC b e)).map (·.1)).map encC) := by
    rw [tr_keys]
    refine sok_cells _ ?_
    have := hp.c.len
    have h2 := List.length_filter_le (fun c => !eqC c e) b
    unfold restC
    omega
  refine qf (t_or (t_not (t_truTd (e_od S2 hpr) (by simpa using hp.ne))) fun _ => t_not (t_B (e_call (srtC (restC b e)) (a_cons (e_sqT (e_cb (Rz := rTupL rCell (srtC (restC b e))) (a_cons (e_is (e_new (e_srtDN (a_cons (e_od S2 hpr) a_nil) hok)) (by rw [tr_keys])) a_nil) cv_tof)) a_nil) hp.cs))) (fun H3 e3 => ?_) ?_
  · have S3 := S2.up e3
    refine q_parA S3 (a_cons (e_lstN (a_cons (e_s S3) a_nil)) (a_cons (R := rInt 0) e_c a_nil)) fun v u σ4 H4 e4 ht hu S4 => ?_
    obtain ⟨pt, tv, rfl, nt, hpt, at_⟩ := ht
    have hu : u = .int 0 := hu
    subst hu
    have N : BfN H pr pf pt := ⟨Evl.fresh_back e1 nf, Evl.fresh_back ((e1.trans e2).trans e3) nt, n1, fun z => (by rw [z] at hpr; rw [e3 _ _ hpr] at nt; cases nt), fun z => (by rw [z] at hpf; rw [e3 _ _ hpf] at nt; cases nt)⟩
    have B : Bf H pr pf pt (restC b e) (fI [(e, 0)]) ([(e, (0 : Int))].map (·.1)) H4 := ⟨((e1.trans e2).trans e3).trans e4, e4 _ _ (e3 _ _ hpr), e4 _ _ (e3 _ _ hpf), tv, hpt, at_⟩
    have S : Sl σ4 H4 [none, none, some (rV (.ref pr)), some (rV (.ref pf)), some (rV (.ref pt)), some (rInt (0 : Nat)), none] := (S4.forget (i := 0)).forget (i := 1)
    have hfar : bfsF (restC b e) 200 0 [(e, 0)] = some far := hfar
    generalize hr0 : restC b e = r at *
    clear hp
    refine q_while (fun m σ' H' => ∃ (at_ : Nat) (q : List (Cell × Int)), bfsF r m at_ q = some far ∧ q.length + 8 * m ≤ 1700 ∧ (q.map (·.1)).Nodup ∧ Bf H pr pf pt r (fI q) (q.map (·.1)) H' ∧ Sl σ' H' [none, none, some (rV (.ref pr)), some (rV (.ref pf)), some (rV (.ref pt)), some (rInt (at_ : Nat)), none]) 200 ⟨0, [(e, 0)], hfar, Nat.le_of_ble_eq_true rfl, List.nodup_cons.mpr ⟨by simp, List.nodup_nil⟩, B, S⟩ ?_
    rintro m σ3 H3 ⟨at_, qq, hF, hz, hnd, B3, S3⟩
    obtain ⟨n, rfl⟩ : ∃ n, m = n + 1 := by
      cases m with
      | zero => cases hF
      | succ n => exact ⟨n, rfl⟩
    obtain ⟨tv3, ht3, at3⟩ := B3.t
    refine ⟨_, t_test (e_op (e_s S3) (e_cb (a_cons (e_ol S3 ht3 at3) a_nil) cv_lnL) ov_I0), fun hlt H4 e4 => ?_, fun hge H4 e4 => ?_⟩
    · have hlt : at_ < qq.length := by
        have := of_decide_eq_true hlt
        rw [List.length_map, List.length_map] at this
        omega
      rw [bfsF_step hlt] at hF
      refine ⟨_, fun σ' H' h => ⟨n, Nat.lt_succ_self n, h⟩, ?_⟩
      have S4 := S3.up e4
      have B4 := B3.up e4
      have hx : ((qq.map (·.1)).map rCell)[at_]? = some (rCell qq[at_].1) := by
        rw [List.getElem?_map, List.getElem?_map, List.getElem?_eq_getElem hlt]
        rfl
      have hmem : qq[at_] ∈ qq := List.getElem_mem hlt
      have hL := goesC_len (r := r) (c := qq[at_].1)
      generalize hxe : qq[at_] = x at hF hx hmem hL ⊢
      refine q_forN (Rs := (goesC r x.1).map rCell) (e_callN (r, x.1) (a_cons (e_od S4 B4.r) (a_cons (e_op (e_ol S4 (e4 _ _ ht3) (at3.mono e4)) (e_s S4) (ov_ixL (atI_nat hx))) a_nil)) trivial)
        (fun a xs i σ' H' => (H' a = some (.lst xs) ∧ a ≠ pf ∧ a ≠ pt) ∧ AllP ((goesC r x.1).map rCell) xs H' ∧ Bf H pr pf pt r (fI (addN x.2 qq ((goesC r x.1).take i))) ((addN x.2 qq ((goesC r x.1).take i)).map (fun z : Cell × Int => z.1)) H' ∧ Sl σ' H' [none, none, some (rV (.ref pr)), some (rV (.ref pf)), some (rV (.ref pt)), some (rInt (at_ : Nat)), none])
        (fun a xs H5 e5 hn ha hx5 => ⟨⟨ha, fun z => ?_, fun z => ?_⟩, hx5, B4.up e5, S4.up e5⟩) (fun a xs i σ' H' h => h.1.1) ?_ ?_
      · rw [z, B4.f] at hn
        cases hn
      · rw [z, e4 _ _ ht3] at hn
        cases hn
      · rintro a xs i y σ5 H5 hi hy ⟨⟨ha, na, nb⟩, hx5, B5, S5⟩
        have hi' : i < (goesC r x.1).length := by simpa using hi
        have ry := el_cells hx5 hi' hy
        rw [take_s hi', addN_snoc]
        have hpre := addN_pre (d := x.2) ((goesC r x.1).take i) qq
        have hnd5 := addN_nd (d := x.2) ((goesC r x.1).take i) qq hnd
        have hl5 := addN_len (d := x.2) ((goesC r x.1).take i) qq
        rw [List.length_take] at hl5
        generalize addN x.2 qq ((goesC r x.1).take i) = qi at B5 hpre hnd5 hl5 ⊢
        generalize (goesC r x.1)[i] = c at ry ⊢
        refine g_name S5 ry fun σ6 S6 => ?_
        refine s_if (t_B (e_dnin (e_s S6) (e_od S6 B5.f))) (fun hb H6 e6 => ?_) fun hb H6 e6 => ?_
        · rw [fI_keys] at hb
          have hb : isin (qi.map (·.1)) c = false := by simpa using hb
          have ea : add1 x.2 qi c = qi ++ [(c, x.2 + 1)] := by
            unfold add1
            rw [if_neg (by rw [hb]; decide)]
          rw [ea]
          have S7 := S6.up e6
          have B7 := B5.up e6
          obtain ⟨tv7, ht7, at7⟩ := B7.t
          have hx7 : ((qi.map (·.1)).map rCell)[at_]? = some (rCell x.1) := by
            have h1 := List.prefix_iff_getElem?.mp hpre at_ hlt
            rw [List.getElem?_map, List.getElem?_map, h1, hxe]
            rfl
          refine q_dput (kvs := fI qi) (c := c) (v := .int (x.2 + 1)) B7.f (e_op (e_dget (e_od S7 B7.f) (e_op (e_ol S7 ht7 at7) (e_s S7) (ov_ixL (atI_nat hx7))) (look_nd hnd5 (hpre.subset hmem))) e_c ov_I0) (e_s S7) (e_s S7) (by
            rw [List.length_map]
            omega) fun H8 e8 h8 => ?_
          rw [fI_put hb]
          have B8 := (B7.up e8).setF (fq' := fI (qi ++ [(c, x.2 + 1)])) N
          have S8 := (S7.up e8).mut (H0 := H) (o := dC (fI (qi ++ [(c, x.2 + 1)]))) h8 nt_t N.f0
          obtain ⟨tv8, ht8, at8⟩ := B8.t
          have l8 := at8.len
          rw [List.length_map, List.length_map] at l8
          have ha8 : (upd H8 pf (dC (fI (qi ++ [(c, x.2 + 1)])))) a = some (.lst xs) := by
            rw [upd_ne na]
            exact e8 _ _ (e6 _ _ ha)
          have hx8 := allP_ms (o := dC (fI (qi ++ [(c, x.2 + 1)]))) h8 nt_t N.f0 ms_cells ((hx5.mono e6).mono e8)
          refine s_app (Rl := rCell c) ht8 (e_s S8) (e_s S8) (by omega) fun v9 H9 e9 r9 h9 => ?_
          refine ⟨⟨by rw [upd_ne nb]; exact e9 _ _ ha8, na, nb⟩, allP_ms h9 nt_l N.t0 ms_cells (hx8.mono e9), (B8.up e9).setT N h9 ?_, ((S8.up e9).mut h9 nt_l N.t0).forget (i := 6)⟩
          rw [List.map_append, List.map_append]
          exact (at8.mono e9).app ⟨r9, trivial⟩
        · rw [fI_keys] at hb
          have hb : isin (qi.map (·.1)) c = true := by simpa using hb
          have ea : add1 x.2 qi c = qi := by
            unfold add1
            rw [if_pos hb]
          rw [ea]
          exact ⟨⟨e6 _ _ ha, na, nb⟩, hx5.mono e6, B5.up e6, (S6.up e6).forget (i := 6)⟩
      · rintro a xs σ5 H5 ⟨_, _, B5, S5⟩
        have ek : (goesC r x.1).take ((goesC r x.1).map rCell).length = goesC r x.1 := by rw [List.length_map, List.take_length]
        rw [ek] at B5
        refine s_augI S5 rfl e_c fun σ6 H6 e6 S6 => ⟨at_ + 1, _, hF, ?_, addN_nd _ _ hnd, B5.up e6, S6⟩
        have := addN_len (d := x.2) (goesC r x.1) qq
        omega
    · have hge : qq.length ≤ at_ := by
        have := of_decide_eq_false hge
        rw [List.length_map, List.length_map] at this
        omega
      rw [bfsF_end hge] at hF
      cases hF
      have B4 := B3.up e4
      exact s_ret (e_od (S3.up e4) B4.f) fun v H5 e5 hv => q v H5 (B4.up e5).ex hv
  · have hh : hangsP (srtC (restC b e)) = true := hp.h
    show (!true || !hangsP (srtC (restC b e))) = false
    rw [hh]
    rfl
end
end Kx
set_option Elab.async false
set_option linter.all false
set_option maxRecDepth 100000
set_option maxHeartbeats 4000000
/-! D6: walk. -/
namespace Kx
open PySem L2 PyProof.Rows
section
variable {K : PySem.W.Frag} {σ : L2.St} {H : Hp} {Γ : Gm} {te : TE} {D : Ends} {tz : L2.TS} {R S : RP}
theorem q_unp2A {i j : Nat} (s : Sl σ H Γ) (h : Ev te σ H (rTup [R, S])) (k : ∀ v w σ' H', Ex H H' → R.p v H' → S.p w H' → Sl σ' H' ((Γ.set i (some (rV v))).set j (some (rV w))) → tz D σ' H') : tSeq (tAsg te (gTup K 2 (gCons (gName i) (gCons (gName j) gNil)))) tz D σ H :=
  s_unp2 (D := { D with nx := tz D }) h fun v w H1 e hv hw => k v w _ H1 e hv hw (((s.up e).set (R := rV v) rfl).set (R := rV w) rfl)
theorem Sl.re {i : Nat} {R S : RP} (s : Sl σ H Γ) (h : Γ[i]? = some (some S)) (k : ∀ v, S.p v H → R.p v H) : Sl σ H (Γ.set i (some R)) := s.weak (by rw [List.length_set]) fun j U hj => by
  by_cases e : i = j
  · subst e
    have lt : i < Γ.length := (List.getElem?_eq_some_iff.mp h).1
    rw [List.getElem?_set_self lt] at hj
    cases hj
    exact ⟨S, h, k⟩
  · rw [List.getElem?_set_ne e] at hj
    exact ⟨U, hj, fun _ z => z⟩
end
section
variable {P : Program} {w : World} {K : PySem.W.Frag} {mg : Str → Option Value} {base : Heap} {tS tG : Tok} {aT aW : Addr} {f : Addr} {fd : FuncData}
structure WalkP (b : List Cell) (s e : Cell) (plan : List (Cell × Cell)) : Prop where
  bb : BodyP b
  sf : FromP b s
  rr : ∃ far0, bfsF (restC b s) 200 0 [(s, 0)] = some far0 ∧ isin (far0.map (·.1)) e = true
  ww : walkC b s e = some plan
theorem WalkP.far {b : List Cell} {s e : Cell} {plan : List (Cell × Cell)} (h : WalkP b s e plan) : ∃ far, bfsF (restC b s) 200 0 [(e, 0)] = some far ∧ backF (restC b s) far e 200 s = some plan := by
  have hw := h.ww
  unfold walkC at hw
  cases hb : bfsF (restC b s) 200 0 [(e, 0)] with
  | none =>
    rw [hb] at hw
    cases hw
  | some far =>
    rw [hb] at hw
    exact ⟨far, rfl, hw⟩
theorem backF_yes {r : List Cell} {far : List (Cell × Int)} {e c : Cell} {m : Nat} {rp : List (Cell × Cell)} (h : backF r far e m c = some rp) (he : eqC c e = true) : rp = [] := by
  cases m with
  | zero => cases h
  | succ n =>
    unfold backF at h
    rw [if_pos he] at h
    cases h
    rfl
theorem backF_no {r : List Cell} {far : List (Cell × Int)} {e c : Cell} {m : Nat} {rp : List (Cell × Cell)} (h : backF r far e m c = some rp) (he : eqC c e = false) : ∃ n d a rest rp', m = n + 1 ∧ look far c = some d ∧ ((goesC r c).filter fun o => decide (look far o = some (d - 1))) = a :: rest ∧ backF r far e n a = some rp' ∧ rp = (c, a) :: rp' := by
  cases m with
  | zero => cases h
  | succ n =>
    unfold backF at h
    rw [if_neg (by rw [he]; decide)] at h
    cases hl : look far c with
    | none =>
      rw [hl] at h
      cases h
    | some d =>
      rw [hl] at h
      have h : (match (goesC r c).filter fun o => decide (look far o = some (d - 1)) with | [] => none | a :: _ => (backF r far e n a).map ((c, a) :: ·)) = some rp := h
      cases hf : (goesC r c).filter fun o => decide (look far o = some (d - 1)) with
      | nil =>
        rw [hf] at h
        cases h
      | cons a rest =>
        rw [hf] at h
        obtain ⟨rp', h1, h2⟩ := Option.map_eq_some_iff.mp h
        exact ⟨n, d, a, rest, rp', rfl, rfl, hf, h1, h2.symm⟩
theorem get_dec {far : List (Cell × Int)} {o : Cell} {d : Int} : decide ((look (fI far) o).getD .non = .int (d - 1)) = decide (look far o = some (d - 1)) := by
  rw [look_fI]
  cases look far o with
  | none =>
    have h1 : ¬ ((Option.map V.int (none : Option Int)).getD V.non = V.int (d - 1)) := fun z => by cases z
    have h2 : ¬ ((none : Option Int) = some (d - 1)) := fun z => by cases z
    rw [decide_eq_false h1, decide_eq_false h2]
  | some x =>
    by_cases h : x = d - 1
    · have h1 : (Option.map V.int (some x)).getD V.non = V.int (d - 1) := by rw [h]; rfl
      rw [decide_eq_true h1, decide_eq_true (by rw [h])]
    · have h1 : ¬ ((Option.map V.int (some x)).getD V.non = V.int (d - 1)) := fun z => by
        have z : V.int x = V.int (d - 1) := z
        injection z with z
        exact h z
      rw [decide_eq_false h1, decide_eq_false (fun z => by injection z with z; exact h z)]
theorem get_scal {far : List (Cell × Int)} {o : Cell} {d : Int} : scal ((look (fI far) o).getD .non) (.int d) = true := by
  rw [look_fI]
  cases look far o <;> rfl
abbrev spWalk : Sp := Fn (fun d : List Cell × Cell × Cell × List (Cell × Cell) => WalkP d.1 d.2.1 d.2.2.1 d.2.2.2) (fun d => [rTupL rCell d.1, rCell d.2.1, rCell d.2.2.1]) fun d => rTupL rPr d.2.2.2
abbrev N_walk : List Str := ["body", "start", "end", "rest", "far", "cell", "plan", "ahead", "other"]
theorem sc_walk : FnScope N_walk ["body", "start", "end"] (defScope (top 28)) := ⟨rfl, rfl, rfl, by decide +kernel, rfl, by decide +kernel, by decide +kernel⟩
theorem ok_walk (F : Fun K "walk" "walk" (top 28) f fd) (T : Txt K mg tS tG aT aW) (Gcheck_body : Cl P w K mg base 9 "check_body" spChkB) (Gcheck_cell_walks : Cl P w K mg base 3 "check_cell_walks" spChk) (Gways_from : Cl P w K mg base 10 "ways_from" spFrom) (Grest_of : Cl P w K mg base 1 "rest_of" spRest) (Gways_back : Cl P w K mg base 10 "ways_back" spBack) (Ggoes_to : Cl P w K mg base 1 "goes_to" spGoes) : FnOk P w K mg base CX0 11 f fd ["body", "start", "end"] spWalk := by
  refine F.ok sc_walk (Fn.len fun _ => rfl) (fun cdv A outer s H vs Q E hr h => ⟨_, (pss_cons (ps_expr (pe_cl Gcheck_body (hr.mono (by decide)) (by rfl) (pa_cons (pv 0) pa_nil))) (pss_cons (ps_expr (pe_cl Gcheck_cell_walks (hr.mono (by decide)) (by rfl) (pa_cons (pv 1) pa_nil))) (pss_cons (ps_expr (pe_cl Gcheck_cell_walks (hr.mono (by decide)) (by rfl) (pa_cons (pv 2) pa_nil))) (pss_cons (ps_if (pt_cmp (pc_dnotin (hu_of hr) (pv 2) (pe_cl Gways_from (hr.mono (by decide)) (by rfl) (pa_cons (pv 0) (pa_cons (pv 1) pa_nil))))) (pss_one (ps_ret pe_non)) pss_nil) (pss_cons (ps_set (i := 3) sc_walk.nd rfl (Or.inl rfl) (pe_cl Grest_of (hr.mono (by decide)) (by rfl) (pa_cons (pv 0) (pa_cons (pv 1) pa_nil)))) (pss_cons (ps_set (i := 4) sc_walk.nd rfl (Or.inr rfl) (pe_cl Gways_back (hr.mono (by decide)) (by rfl) (pa_cons (pv 3) (pa_cons (pv 2) pa_nil)))) (pss_cons (ps_asg (pe_tup (pa_cons (pv 1) (pa_cons (pe_lst pa_nil) pa_nil))) (pg_tup rfl (pgs_cons (pg_name (i := 5) sc_walk.nd rfl (Or.inr rfl)) (pgs_cons (pg_name (i := 6) sc_walk.nd rfl (Or.inl rfl)) pgs_nil)))) (pss_cons (ps_while PassesOwn.never (pt_cmpR (neDK (K := K) hr.units) (pv 5) (pv 2) (nomark _)) (pss_cons (ps_set (i := 7) sc_walk.nd rfl (Or.inl rfl) (pe_ix (ixK (K := K)) (pe_lc (own := [("other", 8)]) (g := (gName 8)) (by rfl) sc_walk.nd (pi_seq (pe_cl Ggoes_to (hr.mono (by decide)) (by rfl) (pa_cons (pv 3) (pa_cons (pv 5) pa_nil)))) (blkOk_by (N := N_walk) (sc := defScope (top 28)) (own := [("other", 8)]) (by decide +kernel)) (fun _ _ _ _ _ => (pg_name (i := 8) sc_walk.nd rfl (Or.inl rfl))) (fun _ _ _ _ _ => (pts_one (pt_cmpR op_eq (pe_dget1 (hu_of hr) (pv 4) (pv 8) ⟨rfl, rfl, rfl, rfl⟩) (pe_op op_sub (pe_dget (hu_of hr) (pv 4) (pv 5) (fun _ _ => rfl)) pe_int) (nomark _)))) (fun _ _ _ _ _ => (pv 8))) pe_int (fun _ _ => rfl))) (pss_cons (ps_expr (pe_bm PySem.F.plainAttrs_list PySem.F.slot_list_append PySem.F.type_list_append mt_append (pv 6) (pa_cons (pe_tup (pa_cons (pv 5) (pa_cons (pv 7) pa_nil))) pa_nil))) (pss_one (ps_set (i := 5) sc_walk.nd rfl (Or.inr rfl) (pv 7)))))) (pss_one (ps_ret (pe_callTy cr_tof (by rfl) T.tuple b_tuple (pa_cons (pv 6) pa_nil)))))))))))), ?_⟩)
  obtain ⟨⟨b, s0, e, plan⟩, hp, hv, q⟩ := h
  have hp : WalkP b s0 e plan := hp
  obtain ⟨far0, hfar0, hin⟩ := hp.rr
  obtain ⟨far, hfar, hback⟩ := hp.far
  have S0 := st (N := N_walk) (Rs := [rTupL rCell b, rCell s0, rCell e]) hv
  refine q_drop (e_call b (a_cons (e_s S0) a_nil) hp.bb) fun H1 e1 => ?_
  have S1 := S0.up e1
  refine q_drop (e_call s0 (a_cons (e_s S1) a_nil) trivial) fun H2 e2 => ?_
  have S2 := S1.up e2
  refine q_drop (e_call e (a_cons (e_s S2) a_nil) trivial) fun H3 e3 => ?_
  have S3 := S2.up e3
  refine qf (t_B (e_dnin (e_s S3) (e_call (b, s0, far0) (a_cons (e_s S3) (a_cons (e_s S3) a_nil)) ⟨hp.sf, hfar0⟩))) (fun H4 e4 => ?_) (by rw [fI_keys, hin]; rfl)
  have S4 := S3.up e4
  refine q_asg S4 (e_call (b, s0) (a_cons (e_s S4) (a_cons (e_s S4) a_nil)) hp.sf.c) fun σ5 H5 e5 S5 => ?_
  refine q_asg S5 (e_call (restC b s0, e, far) (a_cons (e_s S5) (a_cons (e_s S5) a_nil)) hfar) fun σ6 H6 e6 S6 => ?_
  generalize hr0 : restC b s0 = r at hback S6 S5
  have S6' := (S6.atE (i := 3) rfl).atE (i := 4) rfl
  refine q_unp2A S6' (e_tup (Rs := [rCell s0, rNewL H6 []]) (a_cons (e_s S6) (a_cons (e_lstN a_nil) a_nil))) fun v u σ7 H7 e7 hv7 hu7 S7 => ?_
  obtain ⟨pl, pv, rfl, npl, hpl, apl⟩ := hu7
  have S8 : Sl σ7 H7 [none, none, some (rCell e), some (rAt H6 (rDic (tr r))), some (rAt H6 (rDic (fI far))), some (rCell s0), some (rV (.ref pl)), none, none] := ((S7.re (i := 5) (R := rCell s0) rfl fun v' z => z ▸ hv7).forget (i := 0)).forget (i := 1)
  have E7 : Ex H H7 := (((((e1.trans e2).trans e3).trans e4).trans e5).trans e6).trans e7
  refine q_while (fun m σ' H' => ∃ (c : Cell) (acc rp : List (Cell × Cell)), backF r far e m c = some rp ∧ acc ++ rp = plan ∧ acc.length + m ≤ 200 ∧ Ex H6 H' ∧ (∃ pv, H' pl = some (.lst pv) ∧ AllP (acc.map rPr) pv H') ∧
    Sl σ' H' [none, none, some (rCell e), some (rAt H6 (rDic (tr r))), some (rAt H6 (rDic (fI far))), some (rCell c), some (rV (.ref pl)), none, none]) 200 ⟨s0, [], plan, hback, rfl, Nat.le_refl _, e7, ⟨pv, hpl, apl⟩, S8⟩ ?_
  rintro m σ9 H9 ⟨c, acc, rp, hB, hpl9, hm, E9, ⟨pv9, hp9, ap9⟩, S9⟩
  refine ⟨_, t_test (e_op (e_s S9) (e_s S9) ov_neC), fun hne H10 e10 => ?_, fun heq H10 e10 => ?_⟩
  · have hne : eqC c e = false := by simpa using hne
    obtain ⟨n, d, a, rest, rp', rfl, hlk, hfil, hB', rfl⟩ := backF_no hB hne
    have hlk' : look (fI far) c = some (.int d) := by rw [look_fI, hlk]; rfl
    refine ⟨_, fun σ' H' h => ⟨n, Nat.lt_succ_self n, h⟩, ?_⟩
    have S10 := S9.up e10
    refine q_asg (R := rCell a) S10 (e_op (Rx := rLst (((goesC r c).filter fun o => decide (look far o = some (d - 1))).map rCell)) (e_lc (ds := goesC r c) (f := rCell) (out := rCell) (b := fun o => decide (look far o = some (d - 1))) S10
      (i_seq (e_sqL (e_new (e_callN (r, c) (a_cons (e_at (e_s S10)) (a_cons (e_s S10) a_nil)) trivial)))) (fun d _ => tg_name) (Nat.le_trans goesC_len (Nat.le_of_ble_eq_true rfl)) (fun o _ σ' H' e' S' =>
        t_is (t_test (e_op (e_get1 (e_at (e_s S')) (e_s S')) (e_op (e_dget (e_at (e_s S')) (e_s S') hlk') e_c ov_I0) (ov_eqV get_scal))) get_dec) fun o _ _ σ' H' e' S' => e_s S') e_c (ov_ixL (by rw [hfil]; exact atI_nat (i := 0) rfl))) fun σ11 H11 e11 S11 => ?_
    have hp11 := e11 _ _ (e10 _ _ hp9)
    have ap11 := (ap9.mono e10).mono e11
    have l11 := ap11.len
    rw [List.length_map] at l11
    refine q_app (R := rPr (c, a)) hp11 (e_s S11) (e_tup (a_cons (e_s S11) (a_cons (e_s S11) a_nil))) (by omega) fun v12 H12 e12 r12 h12 => ?_
    have S12 := (S11.up e12).mut (H0 := H6) (o := .lst (pv9 ++ [v12])) h12 nt_l npl
    have ap12 := allP_ms (o := .lst (pv9 ++ [v12])) h12 nt_l npl (Rs := (acc ++ [(c, a)]).map rPr) (fun R hR => by
      obtain ⟨p, _, rfl⟩ := List.mem_map.mp hR
      infer_instance) (by
      rw [List.map_append]
      exact (ap11.mono e12).app (show AllP [rPr (c, a)] [v12] H12 from ⟨r12, trivial⟩))
    refine s_asg (R := rCell a) (e_s S12) fun v13 H13 e13 r13 => ?_
    refine ⟨a, acc ++ [(c, a)], rp', hB', ?_, ?_, (Evl.Ex.mut (((E9.trans e10).trans e11).trans e12) npl).trans e13, ⟨_, e13 _ _ upd_same, ap12.mono e13⟩, ((S12.up e13).set r13).forget (i := 7)⟩
    · rw [← hpl9, List.append_assoc]
      rfl
    · rw [List.length_append, List.length_singleton]
      omega
  · have heq : eqC c e = true := by simpa using heq
    have hrp := backF_yes hB heq
    rw [hrp, List.append_nil] at hpl9
    rw [hpl9] at ap9
    exact s_ret (e_cb (a_cons (e_ol (S9.up e10) (e10 _ _ hp9) (ap9.mono e10)) a_nil) cv_tof) fun v H11 e11 hv => q v H11 (((((((e1.trans e2).trans e3).trans e4).trans e5).trans e6).trans E9).trans (e10.trans e11)) hv
end
end Kx
set_option Elab.async false
set_option linter.all false
set_option maxRecDepth 100000
set_option maxHeartbeats 4000000
/-! D7: the joining. -/
namespace Kx
open PySem L2 PyProof.Rows
section
variable {K : PySem.W.Frag} {σ : L2.St} {H : Hp} {Γ : Gm} {te tl ta : TE} {D : Ends} {tu tz : L2.TS} {R S : RP} {Rs : List RP}
/-- for .. in a list at a known place -/
theorem q_forA {g : TG} {a : Addr} {xs : List V} (h : Ev tl σ H (rV (.ref a))) (ha : H a = some (.lst xs)) (hx : AllP Rs xs H) (Pv : Nat → L2.St → Hp → Prop) (h0 : ∀ H1, Ex H H1 → Pv 0 σ H1)
    (hl : ∀ i σ' H', Pv i σ' H' → H' a = some (.lst xs)) (hs : ∀ i x σ' H', i < Rs.length → xs[i]? = some x → Pv i σ' H' → g x σ' H' fun σ2 H2 => tu { D with nx := Pv (i + 1), ct := Pv (i + 1), bk := tz D } σ2 H2)
    (hd : ∀ σ' H', Pv Rs.length σ' H' → tz D σ' H') : tSeq (tFor (iSeq K tl) g tu) tz D σ H := h H (exr H) _ fun v H1 e hv => by
  have hv : v = .ref a := hv
  subst hv
  refine ⟨a, xs, false, rfl, .inr ⟨rfl, SqL.of (e _ _ ha)⟩, ?_⟩
  have l := hx.len
  exact for_it (walk_seq (k := false)) Pv (h0 H1 e) (fun i σ' H' _ p => .inr ⟨rfl, SqL.of (hl i σ' H' p)⟩) (fun i x σ' H' H2 hi p y => by
    obtain ⟨e2, hy⟩ := y
    rw [e2]
    exact hs i x σ' H' (by omega) hy p) fun σ' H' p => hd σ' H' (by rw [← l]; exact p)
theorem q_ext {l : Addr} {xs : List V} (hl : H l = some (.lst xs)) (ha : Ev ta σ H (rV (.ref l))) (h : Ev te σ H (rTup Rs)) (hz : xs.length + Rs.length < 100000) (k : ∀ zs H1, Ex H H1 → AllP Rs zs H1 → H1 l = some (.lst xs) → tz D σ (upd H1 l (.lst (xs ++ zs)))) :
    tSeq (tDrop (tBM K "list" (rExtT K) ta (tCons te tNil))) tz D σ H := ha H (exr H) _ fun v H1 e1 hv => by
  have hv : v = .ref l := hv
  subst hv
  refine ⟨.inl ⟨rfl, xs, SqL.of (e1 l _ hl)⟩, h H1 e1 _ fun y H2 e2 hy => ?_⟩
  obtain ⟨b, zs, rfl, hb, hz2⟩ := hy
  have hzl := hz2.len
  exact ⟨l, b, xs, zs, rfl, rfl, (e1.trans e2) l _ hl, hb, Nat.le_of_lt (Evl.sz_lt (by omega)), k zs H2 (e1.trans e2) hz2 ((e1.trans e2) l _ hl)⟩
end
section
variable {P : Program} {w : World} {K : PySem.W.Frag} {mg : Str → Option Value} {base : Heap} {tS tG : Tok} {aT aW : Addr} {f : Addr} {fd : FuncData}
abbrev N_check_first : List Str := ["first"]
theorem sc_check_first : FnScope N_check_first ["first"] (defScope (top 31)) := ⟨rfl, rfl, rfl, by decide +kernel, rfl, by decide +kernel, by decide +kernel⟩
theorem ok_check_first (F : Fun K "check_first" "check_first" (top 31) f fd) (T : Txt K mg tS tG aT aW) (Gis_cell : Cl P w K mg base 2 "is_cell" spCell) : FnOk P w K mg base CX0 3 f fd ["first"] spChk := by
  refine F.ok sc_check_first (Fn.len fun _ => rfl) (fun cdv A outer s H vs Q E hr h => ⟨_, (pss_one (ps_if (pt_not (pt_val (pe_cl Gis_cell (hr.mono (by decide)) (by rfl) (pa_cons (pv 0) pa_nil)))) (pss_one ps_never) pss_nil)), ?_⟩)
  obtain ⟨c, _, hv, q⟩ := h
  have S := st (N := N_check_first) hv
  exact s_no (t_not (t_B (e_call c (a_cons (e_s S) a_nil) trivial))) fun H1 e => q _ H1 e rfl
abbrev spMany : Sp := Fn (fun d : Int × Int => d.2 ≤ d.1) (fun d => [rInt d.1, rInt d.2]) fun _ => rNon
abbrev N_check_many : List Str := ["n", "least"]
theorem sc_check_many : FnScope N_check_many ["n", "least"] (defScope (top 32)) := ⟨rfl, rfl, rfl, by decide +kernel, rfl, by decide +kernel, by decide +kernel⟩
theorem ok_check_many (F : Fun K "check_many" "check_many" (top 32) f fd) (T : Txt K mg tS tG aT aW) (Gis_whole : Cl P w K mg base 1 "is_whole" spWhole) : FnOk P w K mg base CX0 2 f fd ["n", "least"] spMany := by
  refine F.ok sc_check_many (Fn.len fun _ => rfl) (fun cdv A outer s H vs Q E hr h => ⟨_, (pss_one (ps_if (PW.pt (pw_or (pt_not (pt_val (pe_cl Gis_whole (hr.mono (by decide)) (by rfl) (pa_cons (pv 0) pa_nil)))) (pw_or1 (pt_cmpR op_lt (pv 0) (pv 1) (nomark _))))) (pss_one ps_never) pss_nil)), ?_⟩)
  obtain ⟨d, hd, hv, q⟩ := h
  have S := st (N := N_check_many) hv
  refine s_no (t_or (t_not (t_B (e_call d.1 (a_cons (e_s S) a_nil) trivial))) fun _ => t_test (e_op (e_s S) (e_s S) ov_I0)) (fun H1 e => q _ H1 e rfl) ?_
  show (!true || decide (d.1 < d.2)) = false
  rw [decide_eq_false (by omega)]
  rfl
abbrev spBy : Sp := Fn pTrue (fun i : Int => [rInt i]) fun _ => rNon
abbrev N_check_by : List Str := ["by"]
theorem sc_check_by : FnScope N_check_by ["by"] (defScope (top 33)) := ⟨rfl, rfl, rfl, by decide +kernel, rfl, by decide +kernel, by decide +kernel⟩
theorem ok_check_by (F : Fun K "check_by" "check_by" (top 33) f fd) (T : Txt K mg tS tG aT aW) (Gis_whole : Cl P w K mg base 1 "is_whole" spWhole) : FnOk P w K mg base CX0 2 f fd ["by"] spBy := by
  refine F.ok sc_check_by (Fn.len fun _ => rfl) (fun cdv A outer s H vs Q E hr h => ⟨_, (pss_one (ps_if (pt_not (pt_val (pe_cl Gis_whole (hr.mono (by decide)) (by rfl) (pa_cons (pv 0) pa_nil)))) (pss_one ps_never) pss_nil)), ?_⟩)
  obtain ⟨c, _, hv, q⟩ := h
  have S := st (N := N_check_by) hv
  exact s_no (t_not (t_B (e_call c (a_cons (e_s S) a_nil) trivial))) fun H1 e => q _ H1 e rfl
def rowC (c : Cell) (n : Nat) : List Cell := (List.range n).map fun (k : Nat) => (c.1 + (k : Int), c.2)
abbrev spRow : Sp := Fn (fun d : Cell × Nat => 1 ≤ d.2 ∧ d.2 ≤ 1000) (fun d => [rCell d.1, rInt (d.2 : Nat)]) fun d => rTupL rCell (rowC d.1 d.2)
abbrev N_row_at : List Str := ["first", "n", "k"]
theorem sc_row_at : FnScope N_row_at ["first", "n"] (defScope (top 34)) := ⟨rfl, rfl, rfl, by decide +kernel, rfl, by decide +kernel, by decide +kernel⟩
theorem ok_row_at (F : Fun K "row_at" "row_at" (top 34) f fd) (T : Txt K mg tS tG aT aW) (Gcheck_first : Cl P w K mg base 3 "check_first" spChk) (Gcheck_many : Cl P w K mg base 2 "check_many" spMany) : FnOk P w K mg base CX0 4 f fd ["first", "n"] spRow := by
  refine F.ok sc_row_at (Fn.len fun _ => rfl) (fun cdv A outer s H vs Q E hr h => ⟨_, (pss_cons (ps_expr (pe_cl Gcheck_first (hr.mono (by decide)) (by rfl) (pa_cons (pv 0) pa_nil))) (pss_cons (ps_expr (pe_cl Gcheck_many (hr.mono (by decide)) (by rfl) (pa_cons (pv 1) (pa_cons pe_int pa_nil)))) (pss_one (ps_ret (pe_callTy cr_tof (by rfl) T.tuple b_tuple (pa_cons (pe_lc (own := [("k", 2)]) (g := (gName 2)) (tt := tYes) (by rfl) sc_row_at.nd (pi_range1 (by rfl) T.range (pa_cons (pv 1) pa_nil)) (blkOk_by (N := N_row_at) (sc := defScope (top 34)) (own := [("k", 2)]) (by decide +kernel)) (fun _ _ _ _ _ => (pg_name (i := 2) sc_row_at.nd rfl (Or.inl rfl))) (fun _ _ _ _ _ => pts_nil) (fun _ _ _ _ _ => (pe_tup (pa_cons (pe_op op_add (pe_ix (ixK (K := K)) (pv 0) pe_int (fun _ _ => rfl)) (pv 2)) (pa_cons (pe_ix (ixK (K := K)) (pv 0) pe_int (fun _ _ => rfl)) pa_nil))))) pa_nil)))))), ?_⟩)
  obtain ⟨⟨c, n⟩, ⟨h1, h2⟩, hv, q⟩ := h
  have h1 : 1 ≤ n := h1
  have h2 : n ≤ 1000 := h2
  have S0 := st (N := N_row_at) (Rs := [rCell c, rInt (n : Nat)]) hv
  refine q_drop (e_call c (a_cons (e_s S0) a_nil) trivial) fun H1 e1 => ?_
  have S1 := S0.up e1
  refine q_drop (e_call ((n : Int), (1 : Int)) (a_cons (e_s S1) (a_cons e_c a_nil)) (by show (1 : Int) ≤ n; omega)) fun H2 e2 => ?_
  have S2 := S1.up e2
  refine s_ret (R := rTupL rCell (rowC c n)) (e_cb (a_cons (Rs := []) (R := rLstL rCell (rowC c n)) (e_is (e_lcA (ds := List.range n) (f := fun k : Nat => rInt (k : Nat)) (out := fun k : Nat => rCell (c.1 + (k : Int), c.2)) S2 (i_rng (n := (n : Nat)) (a_cons (e_s S2) a_nil) (by omega)) (fun d _ => tg_name) (by rw [List.length_range]; omega)
    fun k _ σ' H' e' S' => e_tup (a_cons (e_op (e_op (e_s S') e_c (ov_ixT rfl)) (e_s S') ov_I0) (a_cons (e_op (e_s S') e_c (ov_ixT rfl)) a_nil))) ?_) a_nil) cv_tof) fun v H3 e3 hv => q v H3 ((e1.trans e2).trans e3) hv
  unfold rowC rLstL
  rw [List.map_map]
  rfl
def movedC (b : List Cell) (s e : Cell) : List Cell := srtC ((b.filter fun c => !eqC c s) ++ [e])
def WalkedP : List Cell → List (Cell × Cell) → List (Cell × Cell) → Prop
  | _, [], plan => plan = []
  | b, (s, e) :: ws, plan => ∃ p1 p2, WalkP b s e p1 ∧ WalkedP (movedC b s e) ws p2 ∧ plan = p1 ++ p2
abbrev spWalked : Sp := Fn (fun d : List Cell × List (Cell × Cell) × List (Cell × Cell) => WalkedP d.1 d.2.1 d.2.2 ∧ d.2.2.length ≤ 1000) (fun d => [rTupL rCell d.1, rLstL rPr d.2.1]) fun d => rTupL rPr d.2.2
theorem ms_prs {H0 : Hp} {cs : List (Cell × Cell)} : ∀ R ∈ cs.map rPr, Ms H0 R := fun R hR => by
  obtain ⟨c, _, rfl⟩ := List.mem_map.mp hR
  infer_instance
abbrev N_walked : List Str := ["body", "walks", "plan", "squares", "start", "end", "cell"]
theorem sc_walked : FnScope N_walked ["body", "walks"] (defScope (top 35)) := ⟨rfl, rfl, rfl, by decide +kernel, rfl, by decide +kernel, by decide +kernel⟩
theorem ok_walked (F : Fun K "walked" "walked" (top 35) f fd) (T : Txt K mg tS tG aT aW) (Gwalk : Cl P w K mg base 11 "walk" spWalk) : FnOk P w K mg base CX0 12 f fd ["body", "walks"] spWalked := by
  refine F.ok sc_walked (Fn.len fun _ => rfl) (fun cdv A outer s H vs Q E hr h => ⟨_, (pss_cons (ps_par (i := 2) (j := 3) (by rfl) sc_walked.nd rfl rfl (by decide) rfl rfl (pa_cons (pe_lst pa_nil) (pa_cons (pv 0) pa_nil)) (by rfl)) (pss_cons (ps_for PassesOwn.never rfl (pi_seq (pv 1)) (pg_tup rfl (pgs_cons (pg_name (i := 4) sc_walked.nd rfl (Or.inr rfl)) (pgs_cons (pg_name (i := 5) sc_walked.nd rfl (Or.inl rfl)) pgs_nil))) (pss_cons (ps_expr (pe_bm PySem.F.plainAttrs_list PySem.F.slot_list_extend PySem.F.type_list_extend mt_extT (pv 2) (pa_cons (pe_cl Gwalk (hr.mono (by decide)) (by rfl) (pa_cons (pv 3) (pa_cons (pv 4) (pa_cons (pv 5) pa_nil)))) pa_nil))) (pss_one (ps_set (i := 3) sc_walked.nd rfl (Or.inl rfl) (pe_callTy cr_tof (by rfl) T.tuple b_tuple (pa_cons (pe_callB (cr_srt hr.units) (by rfl) T.sorted b_sorted (pa_cons (pe_op op_cat (pe_lc (own := [("cell", 6)]) (g := (gName 6)) (by rfl) sc_walked.nd (pi_seq (pv 3)) (blkOk_by (N := N_walked) (sc := defScope (top 35)) (own := [("cell", 6)]) (by decide +kernel)) (fun _ _ _ _ _ => (pg_name (i := 6) sc_walked.nd rfl (Or.inl rfl))) (fun _ _ _ _ _ => (pts_one (pt_cmpR (neDK (K := K) hr.units) (pv 6) (pv 4) (nomark _)))) (fun _ _ _ _ _ => (pv 6))) (pe_lst (pa_cons (pv 5) pa_nil))) pa_nil)) pa_nil)))))) (pss_one (ps_ret (pe_callTy cr_tof (by rfl) T.tuple b_tuple (pa_cons (pv 2) pa_nil)))))), ?_⟩)
  obtain ⟨⟨b, ws, plan⟩, ⟨hp, hlen⟩, hv, q⟩ := h
  have hp : WalkedP b ws plan := hp
  have hlen : plan.length ≤ 1000 := hlen
  obtain ⟨v1, v2, rfl, hb, ⟨aw, wv, rfl, haw, hwv⟩⟩ := (show AllP [rTupL rCell b, rLstL rPr ws] vs H from hv).two
  have S0 := st (N := N_walked) (Rs := [rTupL rCell b, rV (.ref aw)]) (vs := [v1, .ref aw]) ⟨hb, rfl, trivial⟩
  refine q_parA S0 (a_cons (e_lstN a_nil) (a_cons (e_s S0) a_nil)) fun v u σ1 H1 e1 hpl hsq S1 => ?_
  obtain ⟨pl, pv, rfl, npl, hpl, apl⟩ := hpl
  have S1 : Sl σ1 H1 [none, some (rV (.ref aw)), some (rV (.ref pl)), some (rTupL rCell b), none, none, none] := (S1.re (i := 3) (R := rTupL rCell b) rfl fun v' z => z ▸ hsq).forget (i := 0)
  have ne : aw ≠ pl := fun z => by
    rw [z, npl] at haw
    cases haw
  refine q_forA (Rs := ws.map rPr) (e_s S1) (e1 _ _ haw) (hwv.mono e1) (fun i σ' H' => ∃ (cur : List Cell) (acc rp : List (Cell × Cell)), WalkedP cur (ws.drop i) rp ∧ acc ++ rp = plan ∧ Ex H H' ∧ H' aw = some (.lst wv) ∧ AllP (ws.map rPr) wv H' ∧ (∃ pv, H' pl = some (.lst pv) ∧ AllP (acc.map rPr) pv H') ∧
      Sl σ' H' [none, some (rV (.ref aw)), some (rV (.ref pl)), some (rTupL rCell cur), none, none, none]) (fun H2 e2 => ⟨b, [], plan, hp, rfl, e1.trans e2, e2 _ _ (e1 _ _ haw), (hwv.mono e1).mono e2, ⟨pv, e2 _ _ hpl, apl.mono e2⟩, S1.up e2⟩) (fun i σ' H' h => by
    obtain ⟨_, _, _, _, _, _, h, _⟩ := h
    exact h) ?_ ?_
  · rintro i x σ2 H2 hi hx ⟨cur, acc, rp, hW, hacc, E2, haw2, hwv2, ⟨pv2, hp2, ap2⟩, S2⟩
    have hi' : i < ws.length := by simpa using hi
    have rx : (rPr ws[i]).p x H2 := by
      obtain ⟨R, r1, r2⟩ := hwv2.get' hx
      rw [List.getElem?_map, List.getElem?_eq_getElem hi'] at r1
      cases r1
      exact r2
    rw [drop_step hi'] at hW
    generalize ws[i] = w0 at hW rx
    obtain ⟨s0, e0⟩ := w0
    obtain ⟨p1, p2, hw1, hw2, rfl⟩ := hW
    refine g_two S2 rx fun σ3 S3 => ?_
    have l2 := ap2.len
    rw [List.length_map] at l2
    have ll : acc.length + (p1.length + p2.length) = plan.length := by rw [← hacc, List.length_append, List.length_append]
    refine q_ext (Rs := p1.map rPr) hp2 (e_s S3) (e_call (cur, s0, e0, p1) (a_cons (e_s S3) (a_cons (e_s S3) (a_cons (e_s S3) a_nil))) hw1) (by rw [List.length_map]; omega) fun zs H4 e4 az h4 => ?_
    have S4 := (S3.up e4).mut (H0 := H) (o := .lst (pv2 ++ zs)) h4 nt_l npl
    have ap4 : AllP ((acc ++ p1).map rPr) (pv2 ++ zs) (upd H4 pl (.lst (pv2 ++ zs))) := by
      refine allP_ms h4 nt_l npl ms_prs ?_
      rw [List.map_append]
      exact (ap2.mono e4).app az
    have hcl : cur.length ≤ 1000 := hw1.bb.c.len
    have hfl := List.length_filter_le (fun c => !eqC c s0) cur
    refine s_asg (R := rTupL rCell (movedC cur s0 e0)) (e_cb (a_cons (e_cb (Rz := rLstL rCell (movedC cur s0 e0)) (a_cons (R := rLstL rCell ((cur.filter fun c => !eqC c s0) ++ [e0])) (Rs := []) (e_is (e_op (Rx := rLst ((cur.filter fun c => !eqC c s0).map rCell)) (e_lc (ds := cur) (f := rCell) (out := rCell) (b := fun c => !eqC c s0) S4 (i_seq (e_sqT (e_s S4))) (fun d _ => tg_name) (by omega)
      (fun o _ σ' H' e' S' => t_test (e_op (e_s S') (e_s S') ov_neC)) fun o _ _ σ' H' e' S' => e_s S') (e_lst (Rs := [rCell e0]) (a_cons (e_s S4) a_nil)) (ov_cat (by rw [List.length_map]; exact Nat.le_trans (Nat.add_le_add_right hfl 1) (by omega)))) (by unfold rLstL; rw [List.map_append]; rfl)) a_nil) (cv_srtL dat_cell (sok_cells _ (by rw [List.length_append, List.length_singleton]; omega)))) a_nil) cv_tof) fun v5 H5 e5 r5 => ?_
    refine ⟨movedC cur s0 e0, acc ++ p1, p2, hw2, by rw [List.append_assoc]; exact hacc, (Evl.Ex.mut (E2.trans e4) npl).trans e5, e5 _ _ (by rw [upd_ne ne]; exact e4 _ _ haw2), (allP_ms h4 nt_l npl ms_prs (hwv2.mono e4)).mono e5, ⟨_, e5 _ _ upd_same, ap4.mono e5⟩, (((S4.up e5).set (j := 3) r5).forget (i := 4)).forget (i := 5)⟩
  · rintro σ2 H2 ⟨cur, acc, rp, hW, hacc, E2, haw2, hwv2, ⟨pv2, hp2, ap2⟩, S2⟩
    rw [List.length_map, List.drop_length] at hW
    have hW : rp = [] := hW
    rw [hW, List.append_nil] at hacc
    rw [hacc] at ap2
    exact s_ret (e_cb (a_cons (e_ol S2 hp2 ap2) a_nil) cv_tof) fun v H3 e3 hv => q v H3 (E2.trans e3) hv
def crawlW (c : Cell) (n : Nat) : List (Cell × Cell) := [((c.1 + ((0 : Nat) : Int), c.2), (c.1 + (n : Int) + ((0 : Nat) : Int), c.2))]
abbrev spCrawl : Sp := Fn (fun d : Cell × Nat × List (Cell × Cell) => 2 ≤ d.2.1 ∧ d.2.1 ≤ 1000 ∧ WalkedP (rowC d.1 d.2.1) (crawlW d.1 d.2.1) d.2.2 ∧ d.2.2.length ≤ 1000) (fun d => [rCell d.1, rInt (d.2.1 : Nat), rInt 1]) fun d => rTupL rPr d.2.2
abbrev N_crawl : List Str := ["first", "n", "by", "column", "row", "walks", "k"]
theorem sc_crawl : FnScope N_crawl ["first", "n", "by"] (defScope (top 36)) := ⟨rfl, rfl, rfl, by decide +kernel, rfl, by decide +kernel, by decide +kernel⟩
theorem ok_crawl (F : Fun K "crawl" "crawl" (top 36) f fd) (T : Txt K mg tS tG aT aW) (Gcheck_first : Cl P w K mg base 3 "check_first" spChk) (Gcheck_many : Cl P w K mg base 2 "check_many" spMany) (Gcheck_by : Cl P w K mg base 2 "check_by" spBy) (Gwalked : Cl P w K mg base 12 "walked" spWalked) (Grow_at : Cl P w K mg base 4 "row_at" spRow) : FnOk P w K mg base CX0 13 f fd ["first", "n", "by"] spCrawl := by
  refine F.ok sc_crawl (Fn.len fun _ => rfl) (fun cdv A outer s H vs Q E hr h => ⟨_, (pss_cons (ps_expr (pe_cl Gcheck_first (hr.mono (by decide)) (by rfl) (pa_cons (pv 0) pa_nil))) (pss_cons (ps_expr (pe_cl Gcheck_many (hr.mono (by decide)) (by rfl) (pa_cons (pv 1) (pa_cons pe_int pa_nil)))) (pss_cons (ps_expr (pe_cl Gcheck_by (hr.mono (by decide)) (by rfl) (pa_cons (pv 2) pa_nil))) (pss_cons (ps_asg (pv 0) (pg_tup rfl (pgs_cons (pg_name (i := 3) sc_crawl.nd rfl (Or.inr rfl)) (pgs_cons (pg_name (i := 4) sc_crawl.nd rfl (Or.inr rfl)) pgs_nil)))) (pss_cons (ps_if (pt_cmpR op_gt (pv 2) pe_int (nomark _)) (pss_one (ps_setLc (i := 5) (own := [("k", 6)]) (g := (gName 6)) (tt := tYes) (by rfl) sc_crawl.nd rfl rfl (sw_true rfl rfl rfl (by decide +kernel)) (pi_range1 (by rfl) T.range (pa_cons (pv 2) pa_nil)) (blkOk_by (N := N_crawl) (sc := defScope (top 36)) (own := [("k", 6)]) (by decide +kernel)) (fun _ _ _ _ _ => (pg_name (i := 6) sc_crawl.nd rfl (Or.inl rfl))) (fun _ _ _ _ _ => pts_nil) (fun _ _ _ _ _ => (pe_tup (pa_cons (pe_tup (pa_cons (pe_op op_add (pv 3) (pv 6)) (pa_cons (pv 4) pa_nil))) (pa_cons (pe_tup (pa_cons (pe_op op_add (pe_op op_add (pv 3) (pv 1)) (pv 6)) (pa_cons (pv 4) pa_nil))) pa_nil)))))) (pss_one (ps_setLc (i := 5) (own := [("k", 6)]) (g := (gName 6)) (tt := tYes) (by rfl) sc_crawl.nd rfl rfl (sw_true rfl rfl rfl (by decide +kernel)) (pi_range1 (by rfl) T.range (pa_cons (pe_un un_neg (pv 2)) pa_nil)) (blkOk_by (N := N_crawl) (sc := defScope (top 36)) (own := [("k", 6)]) (by decide +kernel)) (fun _ _ _ _ _ => (pg_name (i := 6) sc_crawl.nd rfl (Or.inl rfl))) (fun _ _ _ _ _ => pts_nil) (fun _ _ _ _ _ => (pe_tup (pa_cons (pe_tup (pa_cons (pe_op op_sub (pe_op op_sub (pe_op op_add (pv 3) (pv 1)) pe_int) (pv 6)) (pa_cons (pv 4) pa_nil))) (pa_cons (pe_tup (pa_cons (pe_op op_sub (pe_op op_sub (pv 3) pe_int) (pv 6)) (pa_cons (pv 4) pa_nil))) pa_nil))))))) (pss_one (ps_ret (pe_cl Gwalked (hr.mono (by decide)) (by rfl) (pa_cons (pe_cl Grow_at (hr.mono (by decide)) (by rfl) (pa_cons (pv 0) (pa_cons (pv 1) pa_nil))) (pa_cons (pv 5) pa_nil)))))))))), ?_⟩)
  obtain ⟨⟨c, n, plan⟩, ⟨h1, h2, hp, hlen⟩, hv, q⟩ := h
  have h1 : 2 ≤ n := h1
  have h2 : n ≤ 1000 := h2
  have S0 := st (N := N_crawl) (Rs := [rCell c, rInt (n : Nat), rInt 1]) hv
  refine q_drop (e_call c (a_cons (e_s S0) a_nil) trivial) fun H1 e1 => ?_
  have S1 := S0.up e1
  refine q_drop (e_call ((n : Int), (2 : Int)) (a_cons (e_s S1) (a_cons e_c a_nil)) (by show (2 : Int) ≤ n; omega)) fun H2 e2 => ?_
  have S2 := S1.up e2
  refine q_drop (e_call (1 : Int) (a_cons (e_s S2) a_nil) trivial) fun H3 e3 => ?_
  have S3 := S2.up e3
  refine q_unp2 S3 (e_s S3) fun σ4 H4 e4 S4 => ?_
  refine qt (t_test (e_op (e_s S4) e_c ov_I0)) fun H5 e5 => ?_
  have S5 := S4.up e5
  refine s_asg (R := rLstL rPr (crawlW c n)) (e_is (e_lcA (ds := List.range 1) (f := fun k : Nat => rInt (k : Nat)) (out := fun k : Nat => rPr ((c.1 + (k : Int), c.2), (c.1 + (n : Int) + (k : Int), c.2))) S5 (i_rng (n := 1) (a_cons (e_s S5) a_nil) (by decide)) (fun d _ => tg_name) (by decide)
    fun k _ σ' H' e' S' => e_tup (Rs := [rCell (c.1 + (k : Int), c.2), rCell (c.1 + (n : Int) + (k : Int), c.2)]) (a_cons (e_tup (a_cons (e_op (e_s S') (e_s S') ov_I0) (a_cons (e_s S') a_nil))) (a_cons (e_tup (a_cons (e_op (e_op (e_s S') (e_s S') ov_I0) (e_s S') ov_I0) (a_cons (e_s S') a_nil))) a_nil))) rfl) fun v6 H6 e6 r6 => ?_
  have S6 := (S5.up e6).set (j := 5) r6
  dsimp only
  exact s_ret (e_call (rowC c n, crawlW c n, plan) (a_cons (e_call (c, n) (a_cons (e_s S6) (a_cons (e_s S6) a_nil)) ⟨by show 1 ≤ n; omega, h2⟩) (a_cons (e_s S6) a_nil)) ⟨hp, hlen⟩) fun v H7 e7 hv => q v H7 ((((((e1.trans e2).trans e3).trans e4).trans e5).trans e6).trans e7) hv
abbrev spTurned : Sp := Fn (fun d : Cell × Nat × List (Cell × Cell) => 3 ≤ d.2.1 ∧ d.2.1 ≤ 1000 ∧ WalkedP (rowC d.1 d.2.1) (crawlW d.1 d.2.1) d.2.2 ∧ d.2.2.length ≤ 1000) (fun d => [rCell d.1, rInt (d.2.1 : Nat)]) fun d => rTupL rPr d.2.2
abbrev N_turned_row : List Str := ["first", "n"]
theorem sc_turned_row : FnScope N_turned_row ["first", "n"] (defScope (top 43)) := ⟨rfl, rfl, rfl, by decide +kernel, rfl, by decide +kernel, by decide +kernel⟩
theorem ok_turned_row (F : Fun K "turned_row" "turned_row" (top 43) f fd) (T : Txt K mg tS tG aT aW) (Gcheck_first : Cl P w K mg base 3 "check_first" spChk) (Gcheck_many : Cl P w K mg base 2 "check_many" spMany) (Gcrawl : Cl P w K mg base 13 "crawl" spCrawl) : FnOk P w K mg base CX0 14 f fd ["first", "n"] spTurned := by
  refine F.ok sc_turned_row (Fn.len fun _ => rfl) (fun cdv A outer s H vs Q E hr h => ⟨_, (pss_cons (ps_expr (pe_cl Gcheck_first (hr.mono (by decide)) (by rfl) (pa_cons (pv 0) pa_nil))) (pss_cons (ps_expr (pe_cl Gcheck_many (hr.mono (by decide)) (by rfl) (pa_cons (pv 1) (pa_cons pe_int pa_nil)))) (pss_one (ps_ret (pe_cl Gcrawl (hr.mono (by decide)) (by rfl) (pa_cons (pv 0) (pa_cons (pv 1) (pa_cons pe_int pa_nil)))))))), ?_⟩)
  obtain ⟨⟨c, n, plan⟩, ⟨h1, h2, hp, hlen⟩, hv, q⟩ := h
  have h1 : 3 ≤ n := h1
  have S0 := st (N := N_turned_row) (Rs := [rCell c, rInt (n : Nat)]) hv
  refine q_drop (e_call c (a_cons (e_s S0) a_nil) trivial) fun H1 e1 => ?_
  have S1 := S0.up e1
  refine q_drop (e_call ((n : Int), (3 : Int)) (a_cons (e_s S1) (a_cons e_c a_nil)) (by show (3 : Int) ≤ n; omega)) fun H2 e2 => ?_
  have S2 := S1.up e2
  exact s_ret (e_call (c, n, plan) (a_cons (e_s S2) (a_cons (e_s S2) (a_cons e_c a_nil))) ⟨by show 2 ≤ n; omega, h2, hp, hlen⟩) fun v H3 e3 hv => q v H3 ((e1.trans e2).trans e3) hv
def heldW (c : Cell) (n : Nat) : List (Cell × Cell) := [(c, (c.1 + (n : Int) - 1, c.2 + 1)), ((c.1 + 1, c.2), (c.1 + (n : Int), c.2)), ((c.1 + (n : Int) - 1, c.2 + 1), (c.1 + 1, c.2))]
abbrev spHeld : Sp := Fn (fun d : Cell × Nat × List (Cell × Cell) => 3 ≤ d.2.1 ∧ d.2.1 ≤ 1000 ∧ WalkedP (rowC d.1 d.2.1) (heldW d.1 d.2.1) d.2.2 ∧ d.2.2.length ≤ 1000) (fun d => [rCell d.1, rInt (d.2.1 : Nat)]) fun d => rTupL rPr d.2.2
abbrev N_held_row : List Str := ["first", "n", "column", "row", "above", "walks"]
theorem sc_held_row : FnScope N_held_row ["first", "n"] (defScope (top 44)) := ⟨rfl, rfl, rfl, by decide +kernel, rfl, by decide +kernel, by decide +kernel⟩
theorem ok_held_row (F : Fun K "held_row" "held_row" (top 44) f fd) (T : Txt K mg tS tG aT aW) (Gcheck_first : Cl P w K mg base 3 "check_first" spChk) (Gcheck_many : Cl P w K mg base 2 "check_many" spMany) (Gwalked : Cl P w K mg base 12 "walked" spWalked) (Grow_at : Cl P w K mg base 4 "row_at" spRow) : FnOk P w K mg base CX0 13 f fd ["first", "n"] spHeld := by
  refine F.ok sc_held_row (Fn.len fun _ => rfl) (fun cdv A outer s H vs Q E hr h => ⟨_, (pss_cons (ps_expr (pe_cl Gcheck_first (hr.mono (by decide)) (by rfl) (pa_cons (pv 0) pa_nil))) (pss_cons (ps_expr (pe_cl Gcheck_many (hr.mono (by decide)) (by rfl) (pa_cons (pv 1) (pa_cons pe_int pa_nil)))) (pss_cons (ps_asg (pv 0) (pg_tup rfl (pgs_cons (pg_name (i := 2) sc_held_row.nd rfl (Or.inl rfl)) (pgs_cons (pg_name (i := 3) sc_held_row.nd rfl (Or.inl rfl)) pgs_nil)))) (pss_cons (ps_set (i := 4) sc_held_row.nd rfl (Or.inl rfl) (pe_tup (pa_cons (pe_op op_sub (pe_op op_add (pv 2) (pv 1)) pe_int) (pa_cons (pe_op op_add (pv 3) pe_int) pa_nil)))) (pss_cons (ps_set (i := 5) sc_held_row.nd rfl (Or.inl rfl) (pe_lst (pa_cons (pe_tup (pa_cons (pv 0) (pa_cons (pv 4) pa_nil))) (pa_cons (pe_tup (pa_cons (pe_tup (pa_cons (pe_op op_add (pv 2) pe_int) (pa_cons (pv 3) pa_nil))) (pa_cons (pe_tup (pa_cons (pe_op op_add (pv 2) (pv 1)) (pa_cons (pv 3) pa_nil))) pa_nil))) (pa_cons (pe_tup (pa_cons (pv 4) (pa_cons (pe_tup (pa_cons (pe_op op_add (pv 2) pe_int) (pa_cons (pv 3) pa_nil))) pa_nil))) pa_nil))))) (pss_one (ps_ret (pe_cl Gwalked (hr.mono (by decide)) (by rfl) (pa_cons (pe_cl Grow_at (hr.mono (by decide)) (by rfl) (pa_cons (pv 0) (pa_cons (pv 1) pa_nil))) (pa_cons (pv 5) pa_nil)))))))))), ?_⟩)
  obtain ⟨⟨c, n, plan⟩, ⟨h1, h2, hp, hlen⟩, hv, q⟩ := h
  have h1 : 3 ≤ n := h1
  have S0 := st (N := N_held_row) (Rs := [rCell c, rInt (n : Nat)]) hv
  refine q_drop (e_call c (a_cons (e_s S0) a_nil) trivial) fun H1 e1 => ?_
  have S1 := S0.up e1
  refine q_drop (e_call ((n : Int), (3 : Int)) (a_cons (e_s S1) (a_cons e_c a_nil)) (by show (3 : Int) ≤ n; omega)) fun H2 e2 => ?_
  have S2 := S1.up e2
  refine q_unp2 S2 (e_s S2) fun σ3 H3 e3 S3 => ?_
  refine q_asg (R := rCell (c.1 + (n : Int) - 1, c.2 + 1)) S3 (e_tup (a_cons (e_op (e_op (e_s S3) (e_s S3) ov_I0) e_c ov_I0) (a_cons (e_op (e_s S3) e_c ov_I0) a_nil))) fun σ4 H4 e4 S4 => ?_
  refine q_asg (R := rLstL rPr (heldW c n)) S4 (e_lst (Rs := (heldW c n).map rPr) (a_cons (e_tup (Rs := [rCell c, rCell (c.1 + (n : Int) - 1, c.2 + 1)]) (a_cons (e_s S4) (a_cons (e_s S4) a_nil))) (a_cons (e_tup (Rs := [rCell (c.1 + 1, c.2), rCell (c.1 + (n : Int), c.2)]) (a_cons (e_tup (Rs := [rInt (c.1 + 1), rInt c.2]) (a_cons (e_op (e_s S4) e_c ov_I0) (a_cons (e_s S4) a_nil))) (a_cons (e_tup (Rs := [rInt (c.1 + (n : Int)), rInt c.2]) (a_cons (e_op (e_s S4) (e_s S4) ov_I0) (a_cons (e_s S4) a_nil))) a_nil)))
    (a_cons (e_tup (Rs := [rCell (c.1 + (n : Int) - 1, c.2 + 1), rCell (c.1 + 1, c.2)]) (a_cons (e_s S4) (a_cons (e_tup (Rs := [rInt (c.1 + 1), rInt c.2]) (a_cons (e_op (e_s S4) e_c ov_I0) (a_cons (e_s S4) a_nil))) a_nil))) a_nil)))) fun σ5 H5 e5 S5 => ?_
  exact s_ret (e_call (rowC c n, heldW c n, plan) (a_cons (e_call (c, n) (a_cons (e_s S5) (a_cons (e_s S5) a_nil)) ⟨by show 1 ≤ n; omega, h2⟩) (a_cons (e_s S5) a_nil)) ⟨hp, hlen⟩) fun v H7 e7 hv => q v H7 (((((e1.trans e2).trans e3).trans e4).trans e5).trans e7) hv
end
end Kx
set_option Elab.async false
set_option linter.all false
set_option maxRecDepth 100000
set_option maxHeartbeats 4000000
/-! K15: rules for the names. -/
namespace Kx
open PySem L2 PyProof.Rows
section
variable {K : PySem.W.Frag} {σ : L2.St} {H : Hp} {Γ : Gm} {te tk tv : TE} {t : TT}
/-- a dict comprehension with texts as keys -/
theorem e_dcS {α : Type} {wi : TI} {g : TG} {vs : List Nat} {ds : List α} {f : α → RP} {kc : α → Str} {vc : α → V} {Γd : α → Gm} (s : Sl σ H Γ) (hi : EvI wi σ H (ds.map f)) (hg : ∀ d ∈ ds, Tg g vs (f d) (wp Γ vs) (Γd d)) (hz : ds.length ≤ 90000)
    (hk : ∀ d ∈ ds, ∀ σ' H', Ex H H' → Sl σ' H' (Γd d) → Ev tk σ' H' (rStr (kc d))) (hv : ∀ d ∈ ds, ∀ σ' H', Ex H H' → Sl σ' H' (Γd d) → Ev tv σ' H' (rV (vc d)))
    (nd : (ds.map kc).Nodup) : Ev (tDc wi g tYes tk tv vs) σ H (rDicN (ds.map fun d => (kc d, vc d))) := by
  intro H1 e Q q
  refine hi H1 e _ fun J H2 G Y e2 w hG hY Dl hD => ?_
  rw [List.length_map] at w
  refine ⟨fun i m H' => m = ds.length - i ∧ i ≤ ds.length ∧ Ex H2 H' ∧ H' Dl = some (dN ((ds.take i).map fun d => (kc d, vc d))), ⟨ds.length, by simp, Nat.zero_le _, Evl.Ex.new hD, upd_same⟩, ?_⟩
  rintro i m H3 ⟨rfl, hle, p1, p2⟩
  by_cases hlt : i < ds.length
  · refine .inr ⟨w.goes i H3 hlt (hG H3 p1), fun H' => (i + 1) ≤ ds.length ∧ Ex H2 H' ∧ H' Dl = some (dN ((ds.take (i + 1)).map fun d => (kc d, vc d))), fun H' p => ⟨ds.length - (i + 1), by omega, rfl, p.1, p.2⟩, fun x H4 y => ?_⟩
    have y := w.yields i H3 x H4 hlt (hG H3 p1) y
    have hd : ds[i]? = some ds[i] := List.getElem?_eq_getElem hlt
    have hmem : ds[i] ∈ ds := List.getElem_mem hlt
    have hfd : (ds.map f)[i]? = some (f ds[i]) := by rw [List.getElem?_map, hd]; rfl
    obtain ⟨e4, hx⟩ := hY i (f ds[i]) H3 x H4 hfd p1 y
    have e04 : Ex H H4 := ((e.trans e2).trans p1).trans e4
    refine (hg _ hmem).go x _ H4 _ hx ((s.up e04).wipe vs) wipe_wipe fun σ2 hw s2 => ⟨hw, ?_⟩
    refine t_yes H4 (exr H4) _ fun H5 e5 => ?_
    have e05 := e04.trans e5
    have p5 := e5 _ _ (e4 _ _ p2)
    have e25 : Ex H2 H5 := (p1.trans e4).trans e5
    rw [if_pos rfl]
    refine hk _ hmem σ2 H5 e05 (s2.up e5) H5 (exr H5) _ fun y H6 e6 hy => hv _ hmem σ2 H6 (e05.trans e6) (s2.up (e5.trans e6)) H6 (exr H6) _ fun z H7 e7 hz2 => ?_
    have hz2 : z = vc ds[i] := hz2
    subst hz2
    have hy : y = .str (kc ds[i]) := hy
    subst hy
    refine ⟨_, nk (kc ds[i]), rfl, e7 _ _ (e6 _ _ p5), by rw [List.length_map, List.length_map, List.length_take]; exact Evl.sz_lt (by omega), hlt, Evl.Ex.mut ((e25.trans e6).trans e7) hD, ?_⟩
    rw [putK_map nk_inj, putC_new]
    · have eq : (ds.take (i + 1)).map (fun d => (kc d, vc d)) = (ds.take i).map (fun d => (kc d, vc d)) ++ [(kc ds[i], vc ds[i])] := by
        rw [take_s hlt, List.map_append]
        rfl
      rw [eq]
      exact upd_same
    · rw [List.map_map]
      intro hm
      obtain ⟨j, hj⟩ := List.getElem?_of_mem hm
      have lt : j < i := by
        have := (List.getElem?_eq_some_iff.mp hj).1
        rw [List.length_map, List.length_take] at this
        omega
      rw [List.getElem?_map, List.getElem?_take_of_lt lt, ← List.getElem?_map] at hj
      have hj : (ds.map kc)[j]? = some (kc ds[i]) := hj
      have e : j = i := (List.getElem?_inj (List.getElem?_eq_some_iff.mp hj).1 nd).mp (by rw [hj, List.getElem?_map, hd]; rfl)
      omega
  · have ei : i = ds.length := by omega
    subst ei
    refine .inl ⟨w.stops H3 (hG H3 p1), q _ H3 (e2.trans p1) ⟨Dl, rfl, ?_⟩⟩
    rw [List.take_length] at p2
    exact p2
end
/-! ### len(sorted({x for x in ..})) -/
def rSetX (K : PySem.W.Frag) (P : Program) (w : World) (n : Nat) : RP := ⟨fun v H => ∃ p, v = .ref p ∧ ((∃ zs, H p = some (SetTxO P w p zs) ∧ zs.length = n ∧ n < 60) ∨ (∃ L : List (Addr × List Int), H p = some (SetTO P w p L) ∧ (∀ q ∈ L, SqT K H q.1 (q.2.map V.int) ∧ q.2.length = 2) ∧ L.length = n ∧ n < 60)), fun e ⟨p, h1, h2⟩ => ⟨p, h1, by
  rcases h2 with ⟨zs, a, b⟩ | ⟨L, a, b, c⟩
  · exact .inl ⟨zs, e _ _ a, b⟩
  · exact .inr ⟨L, e _ _ a, fun q hq => ⟨Evl.ex_t e (b q hq).1, (b q hq).2⟩, c⟩⟩⟩
def rLenL (n : Nat) : RP := ⟨fun v H => ∃ a xs, v = .ref a ∧ H a = some (.lst xs) ∧ xs.length = n, fun e ⟨a, xs, h1, h2, h3⟩ => ⟨a, xs, h1, e _ _ h2, h3⟩⟩
theorem strs_vals {H : Hp} : ∀ {zs : List Str} {xs : List V}, AllP (zs.map rStr) xs H → xs = zs.map V.str
  | [], [], _ => rfl
  | z :: zs, x :: xs, h => by
    have h1 : x = .str z := h.1
    rw [h1, strs_vals h.2]
    rfl
  | [], _ :: _, h => h.elim
  | _ :: _, [], h => h.elim
theorem cells_vals {K : PySem.W.Frag} {H : Hp} : ∀ {cs : List Cell} {xs : List V}, AllP (cs.map rCell) xs H → ∃ ks : List (Addr × List Int), xs = ks.map (fun q => V.ref q.1) ∧ (∀ q ∈ ks, SqT K H q.1 (q.2.map V.int) ∧ q.2.length = 2) ∧ ks.map (·.2) = cs.map fun c => [c.1, c.2]
  | [], [], _ => ⟨[], rfl, (fun _ h => nomatch h), rfl⟩
  | c :: cs, x :: xs, h => by
    obtain ⟨ks, h1, h2, h3⟩ := cells_vals (K := K) h.2
    obtain ⟨p, rfl, hp⟩ := cell_sq (K := K) h.1
    exact ⟨(p, [c.1, c.2]) :: ks, by rw [h1]; rfl, fun q hq => by
      rcases List.mem_cons.mp hq with e | e
      · rw [e]
        exact ⟨hp, rfl⟩
      · exact h2 q e, by rw [List.map_cons, List.map_cons, h3]⟩
  | [], _ :: _, h => h.elim
  | _ :: _, [], h => h.elim
section
variable {P : Program} {w : World} {K : PySem.W.Frag} {σ : L2.St} {H : Hp} {te : TE}
theorem e_scS {k : Bool} {zs : List Str} (h : Ev te σ H (rSq K k (zs.map rStr))) (nd : zs.Nodup) (hl : zs.length < 60) : Ev (tScX K P w te) σ H (rSetX K P w zs.length) := fun H1 e Q q => h H1 e _ fun v H2 e2 ⟨a, xs, ev, hq, hx⟩ =>
  ⟨a, xs, k, ev, hq, .inl ⟨zs, strs_vals hx, nd, hl, fun p hp => q _ _ (e2.trans (Evl.Ex.new hp)) ⟨p, rfl, .inl ⟨_, upd_same, by rw [List.length_reverse], hl⟩⟩⟩⟩
theorem e_scC {k : Bool} {cs : List Cell} (h : Ev te σ H (rSq K k (cs.map rCell))) (nd : cs.Nodup) (hl : cs.length < 60) : Ev (tScX K P w te) σ H (rSetX K P w cs.length) := fun H1 e Q q => h H1 e _ fun v H2 e2 ⟨a, xs, ev, hq, hx⟩ => by
  obtain ⟨ks, h1, h2, h3⟩ := cells_vals (K := K) hx
  have hlen : ks.length = cs.length := by
    have := congrArg List.length h3
    rwa [List.length_map, List.length_map] at this
  refine ⟨a, xs, k, ev, hq, .inr ⟨ks, h1, fun q hq => (h2 q hq).1, ?_, by omega, fun p L pm hp => q _ _ (e2.trans (Evl.Ex.new hp)) ⟨p, rfl, .inr ⟨L, upd_same, fun q hq => ?_, by rw [pm.length_eq, hlen], hl⟩⟩⟩⟩
  · rw [h3]
    exact List.Pairwise.map _ (fun a b hab z => hab (by
      injection z with z1 z2
      injection z2 with z2 _
      exact Prod.ext z1 z2)) nd
  · have := h2 q (pm.mem_iff.mp hq)
    exact ⟨Evl.ex_t (Evl.Ex.new hp) this.1, this.2⟩
theorem cv_sortX {n : Nat} : CbV (rSortX K P w) [rSetX K P w n] (rLenL n) := fun vs H hv Q q => by
  obtain ⟨v, rfl, p, rfl, h⟩ := hv.one
  exact ⟨p, n, rfl, h, fun a ys hy ha => q _ _ (Evl.Ex.new ha) ⟨a, ys, rfl, upd_same, hy⟩⟩
theorem cv_lnN {n : Nat} : CbV (rLn K) [rLenL n] (rInt (n : Nat)) := fun vs H hv Q q => by
  obtain ⟨v, rfl, a, xs, rfl, ha, hl⟩ := hv.one
  subst hl
  exact ⟨_, xs.length, rfl, .inl ⟨xs, SqL.of ha, rfl⟩, q _ H (exr H) rfl⟩
end
/-- a list or a tuple, which of them by k -/
abbrev rSk : Bool → List RP → RP
  | true, Rs => rTup Rs
  | false, Rs => rLst Rs
theorem e_sk {K : PySem.W.Frag} {σ : L2.St} {H : Hp} {te : TE} {Rs : List RP} : ∀ {k : Bool}, Ev te σ H (rSk k Rs) → Ev te σ H (rSq K k Rs)
  | true, h => e_sqT h
  | false, h => e_sqL h
theorem cv_tofK {K : PySem.W.Frag} {Rs : List RP} : ∀ {k : Bool}, CbV (rTof K) [rSk k Rs] (rTup Rs)
  | true => cv_tofT
  | false => cv_tof
end Kx
set_option Elab.async false
set_option linter.all false
set_option maxRecDepth 100000
set_option maxHeartbeats 4000000
/-! D8: names. -/
namespace Kx
open PySem L2 PyProof.Rows
section
variable {P : Program} {w : World} {K : PySem.W.Frag} {mg : Str → Option Value} {base : Heap} {tS tG : Tok} {aT aW : Addr} {f : Addr} {fd : FuncData}
abbrev rNC (p : Str × Cell) : RP := rTup [rStr p.1, rCell p.2]
abbrev spNC : Sp := Fn (fun p : Str × Cell => nameOk p.1 = true) (fun p => [rNC p]) fun _ => rBl true
abbrev N_is_named_cell : List Str := ["value"]
theorem sc_is_named_cell : FnScope N_is_named_cell ["value"] (defScope (top 39)) := ⟨rfl, rfl, rfl, by decide +kernel, rfl, by decide +kernel, by decide +kernel⟩
theorem ok_is_named_cell (F : Fun K "is_named_cell" "is_named_cell" (top 39) f fd) (T : Txt K mg tS tG aT aW) (Gis_name : Cl P w K mg base 1 "is_name" spName) (Gis_cell : Cl P w K mg base 2 "is_cell" spCell) : FnOk P w K mg base CX0 3 f fd ["value"] spNC := by
  refine F.ok sc_is_named_cell (Fn.len fun _ => rfl) (fun cdv A outer s H vs Q E hr h => ⟨_, (pss_one (ps_ret (pe_and (pe_callB (isiK (K := K)) (by rfl) T.isinstance b_isinstance (pa_cons (pv 0) (pa_cons (pe_bltn (v := .ty "tuple") (by rfl) T.tuple b_tuple rfl) pa_nil))) (pe_and (pe_cmpR op_eq (pe_callB cr_ln (by rfl) T.len b_len (pa_cons (pv 0) pa_nil)) pe_int (nomark _)) (pe_and (pe_cl Gis_name (hr.mono (by decide)) (by rfl) (pa_cons (pe_ix (ixK (K := K)) (pv 0) pe_int (fun _ _ => rfl)) pa_nil)) (pe_one (pe_cl Gis_cell (hr.mono (by decide)) (by rfl) (pa_cons (pe_ix (ixK (K := K)) (pv 0) pe_int (fun _ _ => rfl)) pa_nil)))))))), ?_⟩)
  obtain ⟨p, hp, hv, q⟩ := h
  have S := st (N := N_is_named_cell) (Rs := [rNC p]) hv
  exact s_retB (e_andV (e_cb (a_cons (e_s S) (a_cons e_c a_nil)) isi_tup) fun _ => e_andV (e_op (e_cb (a_cons (e_s S) a_nil) cv_lnT) e_c ov_eqI) fun _ => e_andV (e_call p.1 (a_cons (e_op (e_s S) e_c (ov_ixT rfl)) a_nil) hp) fun _ => e_call p.2 (a_cons (e_op (e_s S) e_c (ov_ixT rfl)) a_nil) trivial) q
def ltS (a b : Str) : Bool := decide (a.cps.toList < b.cps.toList)
structure PlP (ps : List (Str × Cell)) : Prop where
  nm : ∀ p ∈ ps, nameOk p.1 = true
  inc : ((ps.zip (ps.drop 1)).all fun p => ltS p.1.1 p.2.1) = true
  cs : Cs (ps.map (·.2))
  nd : (ps.map (·.2)).Nodup
  len : ps.length < 60
  h : hangsP (ps.map (·.2)) = true
abbrev spPl : Sp := Fn (fun ps : List (Str × Cell) => PlP ps) (fun ps => [rTupL rNC ps]) fun _ => rBl true
abbrev rNN (p : (Str × Cell) × (Str × Cell)) : RP := rTup [rNC p.1, rNC p.2]
theorem zip_nn (as bs : List (Str × Cell)) : List.zipWith (fun R S => rTup [R, S]) (as.map rNC) (bs.map rNC) = (as.zip bs).map rNN := by
  rw [List.zipWith_map, List.zip, List.map_zipWith]
theorem all_of {α : Type} {as : List α} {b : α → Bool} (h : ∀ a ∈ as, b a = true) : as.all b = true := List.all_eq_true.mpr h
abbrev N_is_placing : List Str := ["value", "cells", "pair", "one", "two", "name", "cell"]
theorem sc_is_placing : FnScope N_is_placing ["value"] (defScope (top 40)) := ⟨rfl, rfl, rfl, by decide +kernel, rfl, by decide +kernel, by decide +kernel⟩
theorem ok_is_placing (F : Fun K "is_placing" "is_placing" (top 40) f fd) (T : Txt K mg tS tG aT aW) (Gis_named_cell : Cl P w K mg base 3 "is_named_cell" spNC) (Ghangs : Cl P w K mg base 7 "hangs" (spHangs K false)) : FnOk P w K mg base CX0 8 f fd ["value"] spPl := by
  refine F.ok sc_is_placing (Fn.len fun _ => rfl) (fun cdv A outer s H vs Q E hr h => ⟨_, (pss_cons (ps_if (PW.pt (pw_or (pt_not (pt_val (pe_callB (isiK (K := K)) (by rfl) T.isinstance b_isinstance (pa_cons (pv 0) (pa_cons (pe_bltn (v := .ty "tuple") (by rfl) T.tuple b_tuple rfl) pa_nil))))) (pw_or1 (pt_not (pt_val (pe_callB (cr_all (by rfl)) (by rfl) T.all b_all (pa_cons (pe_lc (own := [("pair", 2)]) (g := (gName 2)) (tt := tYes) (by rfl) sc_is_placing.nd (pi_seq (pv 0)) (blkOk_by (N := N_is_placing) (sc := defScope (top 40)) (own := [("pair", 2)]) (by decide +kernel)) (fun _ _ _ _ _ => (pg_name (i := 2) sc_is_placing.nd rfl (Or.inl rfl))) (fun _ _ _ _ _ => pts_nil) (fun _ _ _ _ _ => (pe_cl Gis_named_cell (hr.mono (by decide)) (by rfl) (pa_cons (pv 2) pa_nil)))) pa_nil))))))) (pss_one (ps_ret pe_bl)) pss_nil) (pss_cons (ps_if (pt_not (pt_val (pe_callB (cr_all (by rfl)) (by rfl) T.all b_all (pa_cons (pe_lc (own := [("one", 3), ("two", 4)]) (g := (gTup K 2 (gCons (gName 3) (gCons (gName 4) gNil)))) (tt := tYes) (by rfl) sc_is_placing.nd (pi_zipB (by rfl) T.zip (pa_cons (pv 0) (pa_cons (pe_slice sl_tupA (pv 0) (po_some pe_int) po_none) pa_nil))) (blkOk_by (N := N_is_placing) (sc := defScope (top 40)) (own := [("one", 3), ("two", 4)]) (by decide +kernel)) (fun _ _ _ _ _ => (pg_tup rfl (pgs_cons (pg_name (i := 3) sc_is_placing.nd rfl (Or.inl rfl)) (pgs_cons (pg_name (i := 4) sc_is_placing.nd rfl (Or.inl rfl)) pgs_nil)))) (fun _ _ _ _ _ => pts_nil) (fun _ _ _ _ _ => (pe_cmpR op_ltS (pe_ix (ixK (K := K)) (pv 3) pe_int (fun _ _ => rfl)) (pe_ix (ixK (K := K)) (pv 4) pe_int (fun _ _ => rfl)) (nomark _)))) pa_nil)))) (pss_one (ps_ret pe_bl)) pss_nil) (pss_cons (ps_setLc (i := 1) (own := [("name", 5), ("cell", 6)]) (g := (gTup K 2 (gCons (gName 5) (gCons (gName 6) gNil)))) (tt := tYes) (by rfl) sc_is_placing.nd rfl rfl (sw_true rfl rfl rfl (by decide +kernel)) (pi_seq (pv 0)) (blkOk_by (N := N_is_placing) (sc := defScope (top 40)) (own := [("name", 5), ("cell", 6)]) (by decide +kernel)) (fun _ _ _ _ _ => (pg_tup rfl (pgs_cons (pg_name (i := 5) sc_is_placing.nd rfl (Or.inl rfl)) (pgs_cons (pg_name (i := 6) sc_is_placing.nd rfl (Or.inl rfl)) pgs_nil)))) (fun _ _ _ _ _ => pts_nil) (fun _ _ _ _ _ => (pv 6))) (pss_one (ps_ret (pe_and (pe_cmpR op_eq (pe_callB cr_ln (by rfl) T.len b_len (pa_cons (pe_callB (cr_sortX (by rfl) hr.units) (by rfl) T.sorted b_sorted (pa_cons (pe_scX (own := [("cell", 6)]) (by rfl) (u8 hr) (blkOk_by (N := N_is_placing) (sc := defScope (top 40)) (by decide +kernel)) (by decide +kernel) rfl (pv 1)) pa_nil)) pa_nil)) (pe_callB cr_ln (by rfl) T.len b_len (pa_cons (pv 1) pa_nil)) (nomark _)) (pe_one (pe_cl Ghangs (hr.mono (by decide)) (by rfl) (pa_cons (pv 1) pa_nil))))))))), ?_⟩)
  obtain ⟨ps, hp, hv, q⟩ := h
  have hp : PlP ps := hp
  have S := st (N := N_is_placing) (Rs := [rTupL rNC ps]) hv
  have hl := hp.len
  refine qf (t_or (t_not (t_B (e_cb (a_cons (e_s S) (a_cons e_c a_nil)) isi_tup))) fun _ => t_not (t_B (e_cb (a_cons (e_lcA (ds := ps) (out := fun _ => rBl true) S (i_seq (e_sqT (e_s S))) (fun d _ => tg_name) (by omega) fun d hd σ' H' e' S' => e_call d (a_cons (e_s S') a_nil) (hp.nm d hd)) a_nil) (cv_all (b := fun _ => true))))) (fun H1 e1 => ?_) (by rw [all_of (fun _ _ => rfl)]; rfl)
  have S1 := S.up e1
  refine qf (t_not (t_B (e_cb (a_cons (e_lcA (ds := ps.zip (ps.drop 1)) (f := rNN) (out := fun p : (Str × Cell) × (Str × Cell) => rBl (ltS p.1.1 p.2.1)) S1 (zip_nn _ _ ▸ i_zip (a_cons (e_sqT (e_s S1)) (a_cons (e_sqT (e_is (e_sl (e_s S1) (o_some e_c) o_none sv_T) (by rw [cutR_map, cut1]))) a_nil))) (fun d _ => tg_two) (by rw [List.length_zip]; omega) fun d _ σ' H' e' S' => e_op (e_op (e_s S') e_c (ov_ixT rfl)) (e_op (e_s S') e_c (ov_ixT rfl)) ov_ltS) a_nil) (cv_all (b := fun p : (Str × Cell) × (Str × Cell) => ltS p.1.1 p.2.1))))) (fun H2 e2 => ?_) (by rw [hp.inc]; rfl)
  have S2 := S1.up e2
  refine q_asg (R := rLstL rCell (ps.map (·.2))) S2 (e_is (e_lcA (ds := ps) (f := rNC) (out := fun p : Str × Cell => rCell p.2) S2 (i_seq (e_sqT (e_s S2))) (fun d _ => tg_two) (by omega) fun d hd σ' H' e' S' => e_s S') (by unfold rLstL; rw [List.map_map]; rfl)) fun σ3 H3 e3 S3 => ?_
  refine s_retB (e_andV (e_op (e_cb (a_cons (e_cb (a_cons (e_scC (e_sqL (e_s S3)) hp.nd (by rw [List.length_map]; exact hl)) a_nil) cv_sortX) a_nil) cv_lnN) (e_cb (a_cons (e_s S3) a_nil) cv_lnL) ov_eqI) fun _ => e_call (δ := List Cell) (ps.map fun p => p.2) (a_cons (e_sqL (e_s S3)) a_nil) hp.cs) (fun v H4 e4 hv => q v H4 (((e1.trans e2).trans e3).trans e4) hv) ?_
  rw [hp.h, decide_eq_true (by rw [List.length_map, List.length_map, List.length_map])]
  rfl
abbrev spChkPl : Sp := Fn (fun ps : List (Str × Cell) => PlP ps) (fun ps => [rTupL rNC ps]) fun _ => rNon
abbrev N_check_placing : List Str := ["places"]
theorem sc_check_placing : FnScope N_check_placing ["places"] (defScope (top 41)) := ⟨rfl, rfl, rfl, by decide +kernel, rfl, by decide +kernel, by decide +kernel⟩
theorem ok_check_placing (F : Fun K "check_placing" "check_placing" (top 41) f fd) (T : Txt K mg tS tG aT aW) (Gis_placing : Cl P w K mg base 8 "is_placing" spPl) : FnOk P w K mg base CX0 9 f fd ["places"] spChkPl := by
  refine F.ok sc_check_placing (Fn.len fun _ => rfl) (fun cdv A outer s H vs Q E hr h => ⟨_, (pss_one (ps_if (pt_not (pt_val (pe_cl Gis_placing (hr.mono (by decide)) (by rfl) (pa_cons (pv 0) pa_nil)))) (pss_one ps_never) pss_nil)), ?_⟩)
  obtain ⟨ps, hp, hv, q⟩ := h
  have S := st (N := N_check_placing) (Rs := [rTupL rNC ps]) hv
  exact s_no (t_not (t_B (e_call ps (a_cons (e_s S) a_nil) hp))) fun H1 e => q _ H1 e rfl
abbrev spLs (k : Bool) : Sp := Fn pTrue (fun zs : List Str => [rSk k (zs.map rStr)]) fun _ => rBl true
abbrev N_is_list : List Str := ["value"]
theorem sc_is_list : FnScope N_is_list ["value"] (defScope (top 8)) := ⟨rfl, rfl, rfl, by decide +kernel, rfl, by decide +kernel, by decide +kernel⟩
theorem ok_is_list {k : Bool} (F : Fun K "is_list" "is_list" (top 8) f fd) (T : Txt K mg tS tG aT aW) : FnOk P w K mg base CX0 1 f fd ["value"] (spLs k) := by
  refine F.ok sc_is_list (Fn.len fun _ => rfl) (fun cdv A outer s H vs Q E hr h => ⟨_, (pss_one (ps_ret (pe_callB call_isiT (by rfl) T.isinstance b_isinstance (pa_cons (pv 0) (pa_cons (pe_tup (pa_cons (pe_bltn (v := .ty "list") (by rfl) T.list b_list rfl) (pa_cons (pe_bltn (v := .ty "tuple") (by rfl) T.tuple b_tuple rfl) pa_nil))) pa_nil))))), ?_⟩)
  obtain ⟨zs, _, hv, q⟩ := h
  have S := st (N := N_is_list) (Rs := [rSk k (zs.map rStr)]) hv
  refine s_retB (e_cb (Rz := rBl true) (a_cons (e_s S) (a_cons (e_tup (Rs := [rV (.ty "list"), rV (.ty "tuple")]) (a_cons e_c (a_cons e_c a_nil))) a_nil)) fun vs H1 hv Q q => ?_) q
  obtain ⟨v, u, rfl, h1, tp, cs, rfl, ht, hc⟩ := hv.two
  obtain ⟨c1, c2, rfl, g1, g2⟩ := hc.two
  have g1 : c1 = .ty "list" := g1
  have g2 : c2 = .ty "tuple" := g2
  subst g1 g2
  have hc2 : Paired ClsV [.ty "list", .ty "tuple"] [.type "list", .type "tuple"] := .cons (.ty _) (.cons (.ty _) .nil)
  cases k with
  | true =>
    obtain ⟨a, xs, rfl, ha, _⟩ := h1
    exact ⟨_, tp, _, .type "tuple", _, true, rfl, ht, hc2, .base (.tup ha), kitAny_cons (kit_ty (r := false) (by decide +kernel)) (fun _ => kitAny_cons (kit_ty (r := true) (by decide +kernel)) (fun z => nomatch z) fun _ => rfl) (fun z => nomatch z), q _ H1 (exr H1) rfl⟩
  | false =>
    obtain ⟨a, xs, rfl, ha, _⟩ := h1
    exact ⟨_, tp, _, .type "list", _, true, rfl, ht, hc2, .base (.lst ha), kitAny_cons (kit_ty (r := true) (by decide +kernel)) (fun z => nomatch z) fun _ => rfl, q _ H1 (exr H1) rfl⟩
abbrev spNames (k : Bool) : Sp := Fn (fun zs : List Str => (∀ z ∈ zs, nameOk z = true) ∧ zs.Nodup ∧ 3 ≤ zs.length ∧ zs.length < 60) (fun zs : List Str => [rSk k (zs.map rStr)]) fun _ => rBl true
abbrev N_are_names : List Str := ["value", "name"]
theorem sc_are_names : FnScope N_are_names ["value"] (defScope (top 45)) := ⟨rfl, rfl, rfl, by decide +kernel, rfl, by decide +kernel, by decide +kernel⟩
theorem ok_are_names {k : Bool} (F : Fun K "are_names" "are_names" (top 45) f fd) (T : Txt K mg tS tG aT aW) (Gis_list : Cl P w K mg base 1 "is_list" (spLs k)) (Gis_name : Cl P w K mg base 1 "is_name" spName) : FnOk P w K mg base CX0 2 f fd ["value"] (spNames k) := by
  refine F.ok sc_are_names (Fn.len fun _ => rfl) (fun cdv A outer s H vs Q E hr h => ⟨_, (pss_cons (ps_if (PW.pt (pw_or (pt_not (pt_val (pe_cl Gis_list (hr.mono (by decide)) (by rfl) (pa_cons (pv 0) pa_nil)))) (pw_or (pt_cmpR op_lt (pe_callB cr_ln (by rfl) T.len b_len (pa_cons (pv 0) pa_nil)) pe_int (nomark _)) (pw_or1 (pt_not (pt_val (pe_callB (cr_all (by rfl)) (by rfl) T.all b_all (pa_cons (pe_lc (own := [("name", 1)]) (g := (gName 1)) (tt := tYes) (by rfl) sc_are_names.nd (pi_seq (pv 0)) (blkOk_by (N := N_are_names) (sc := defScope (top 45)) (own := [("name", 1)]) (by decide +kernel)) (fun _ _ _ _ _ => (pg_name (i := 1) sc_are_names.nd rfl (Or.inl rfl))) (fun _ _ _ _ _ => pts_nil) (fun _ _ _ _ _ => (pe_cl Gis_name (hr.mono (by decide)) (by rfl) (pa_cons (pv 1) pa_nil)))) pa_nil)))))))) (pss_one (ps_ret pe_bl)) pss_nil) (pss_one (ps_ret (pe_cmpR op_eq (pe_callB cr_ln (by rfl) T.len b_len (pa_cons (pe_callB (cr_sortX (by rfl) hr.units) (by rfl) T.sorted b_sorted (pa_cons (pe_scX (own := [("name", 1)]) (by rfl) (u8 hr) (blkOk_by (N := N_are_names) (sc := defScope (top 45)) (by decide +kernel)) (by decide +kernel) rfl (pv 0)) pa_nil)) pa_nil)) (pe_callB cr_ln (by rfl) T.len b_len (pa_cons (pv 0) pa_nil)) (nomark _))))), ?_⟩)
  obtain ⟨zs, ⟨hn, nd, h3, h60⟩, hv, q⟩ := h
  have S := st (N := N_are_names) (Rs := [rSk k (zs.map rStr)]) hv
  refine qf (t_or (t_not (t_B (e_call zs (a_cons (e_s S) a_nil) trivial))) fun _ => t_or (t_test (e_op (e_cb (a_cons (e_sk (e_s S)) a_nil) cv_ln) e_c ov_I0)) fun _ => t_not (t_B (e_cb (a_cons (e_lcA (ds := zs) (out := fun _ => rBl true) S (i_seq (e_sk (e_s S))) (fun d _ => tg_name) (by omega) fun d hd σ' H' e' S' => e_call d (a_cons (e_s S') a_nil) (hn d hd)) a_nil) (cv_all (b := fun _ => true))))) (fun H1 e1 => ?_) ?_
  · have S1 := S.up e1
    exact s_retB (e_op (e_cb (a_cons (e_cb (a_cons (e_scS (e_sk (e_s S1)) nd h60) a_nil) cv_sortX) a_nil) cv_lnN) (e_cb (a_cons (e_sk (e_s S1)) a_nil) cv_ln) ov_eqI) (fun v H4 e4 hv => q v H4 (e1.trans e4) hv) (decide_eq_true (by rw [List.length_map]))
  · rw [all_of (fun _ _ => rfl), List.length_map, decide_eq_false (by omega)]
    rfl
abbrev spChkN (k : Bool) : Sp := Fn (fun zs : List Str => (∀ z ∈ zs, nameOk z = true) ∧ zs.Nodup ∧ 3 ≤ zs.length ∧ zs.length < 60) (fun zs : List Str => [rSk k (zs.map rStr)]) fun _ => rNon
abbrev N_check_order : List Str := ["order"]
theorem sc_check_order : FnScope N_check_order ["order"] (defScope (top 46)) := ⟨rfl, rfl, rfl, by decide +kernel, rfl, by decide +kernel, by decide +kernel⟩
theorem ok_check_order {k : Bool} (F : Fun K "check_order" "check_order" (top 46) f fd) (T : Txt K mg tS tG aT aW) (Gare_names : Cl P w K mg base 2 "are_names" (spNames k)) : FnOk P w K mg base CX0 3 f fd ["order"] (spChkN k) := by
  refine F.ok sc_check_order (Fn.len fun _ => rfl) (fun cdv A outer s H vs Q E hr h => ⟨_, (pss_one (ps_if (pt_not (pt_val (pe_cl Gare_names (hr.mono (by decide)) (by rfl) (pa_cons (pv 0) pa_nil)))) (pss_one ps_never) pss_nil)), ?_⟩)
  obtain ⟨zs, hp, hv, q⟩ := h
  have S := st (N := N_check_order) (Rs := [rSk k (zs.map rStr)]) hv
  exact s_no (t_not (t_B (e_call zs (a_cons (e_s S) a_nil) hp))) fun H1 e => q _ H1 e rfl
end
end Kx
set_option Elab.async false
set_option linter.all false
set_option maxRecDepth 100000
/-! M4: steps and sorting, in plain Lean. -/
namespace Kx
open PySem L2
theorem cut01 {α : Type} (xs : List α) : cutR xs none (some 1) = xs.take 1 := by
  unfold cutR
  have e1 : HT.sIx xs.length xs.length (some 1) = min 1 xs.length := HT.sIx_nat xs.length xs.length 1
  have e2 : HT.sIx xs.length 0 none = 0 := rfl
  rw [e1, e2]
  cases xs with
  | nil => rfl
  | cons x r =>
    have : min 1 (x :: r).length = 1 := by simp
    rw [this]
    rfl
theorem cut2 {α : Type} (xs : List α) : cutR xs (some 2) none = xs.drop 2 := by
  unfold cutR
  have e1 : HT.sIx xs.length 0 (some 2) = min 2 xs.length := HT.sIx_nat xs.length 0 2
  have e2 : HT.sIx xs.length xs.length none = xs.length := rfl
  rw [e1, e2]
  match xs with
  | [] => rfl
  | [x] => rfl
  | x :: y :: r =>
    have : min 2 (x :: y :: r).length = 2 := by simp
    rw [this]
    simp
theorem cut12 {α : Type} (xs : List α) : cutR xs (some 1) (some 2) = (xs.drop 1).take 1 := by
  unfold cutR
  have e1 : HT.sIx xs.length 0 (some 1) = min 1 xs.length := HT.sIx_nat xs.length 0 1
  have e2 : HT.sIx xs.length xs.length (some 2) = min 2 xs.length := HT.sIx_nat xs.length xs.length 2
  rw [e1, e2]
  match xs with
  | [] => rfl
  | [x] => rfl
  | x :: y :: r =>
    have h1 : min 2 (x :: y :: r).length = 2 := by simp
    have h2 : min 1 (x :: y :: r).length = 1 := by simp
    rw [h1, h2]
def stepF (o : List Str) (z : Str) : List Str := if z = "turn" then o.drop 1 ++ o.take 1 else (o.take 1 ++ o.drop 2) ++ (o.drop 1).take 1
theorem stepF_len {o : List Str} {z : Str} : (stepF o z).length = o.length := by
  unfold stepF
  split
  · rw [List.length_append, List.length_drop, List.length_take]
    omega
  · rw [List.length_append, List.length_append, List.length_drop, List.length_take, List.length_take, List.length_drop]
    omega
theorem stepF_mem {o : List Str} {z y : Str} (h : y ∈ stepF o z) : y ∈ o := by
  unfold stepF at h
  split at h
  · rcases List.mem_append.mp h with h | h
    · exact List.mem_of_mem_drop h
    · exact List.mem_of_mem_take h
  · rcases List.mem_append.mp h with h | h
    · rcases List.mem_append.mp h with h | h
      · exact List.mem_of_mem_take h
      · exact List.mem_of_mem_drop h
    · exact List.mem_of_mem_drop (List.mem_of_mem_take h)
def lt2 (w : List Str) (a b : Str) : Bool := decide (((w.idxOf a : Nat) : Int) < ((w.idxOf b : Nat) : Int))
def stepZ (w : List Str) (n i : Nat) (now : List Str) : Str := if (decide ((i : Int) = (n : Int) - 1) || lt2 w (now.getD 0 "") (now.getD 1 "")) = true then "turn" else "hold"
def oneS (w : List Str) (n : Nat) (s : List Str × List Str) (i : Nat) : List Str × List Str := (stepF s.1 (stepZ w n i s.1), s.2 ++ [stepZ w n i s.1])
def passS (w : List Str) (n : Nat) (s : List Str × List Str) : List Str × List Str := (List.range n).foldl (oneS w n) s
def sortF (w o : List Str) : List Str × List Str := (List.range (o.length - 1)).foldl (fun s _ => passS w o.length s) (o, [])
theorem look_ix {z : Str} : ∀ {w : List Str} {k : Nat}, z ∈ w → look ((w.zipIdx k).map fun d => (d.1, V.int (d.2 : Nat))) z = some (.int ((k + w.idxOf z : Nat) : Int))
  | x :: w, k, h => by
    rw [List.zipIdx_cons, List.map_cons, look_cons]
    by_cases e : x = z
    · rw [if_pos e, e, List.idxOf_cons_self]
      rfl
    · rw [if_neg e]
      have hz : z ∈ w := by
        rcases List.mem_cons.mp h with h | h
        · exact absurd h.symm e
        · exact h
      have hi : (x :: w).idxOf z = w.idxOf z + 1 := by
        rw [List.idxOf_cons]
        have : (x == z) = false := beq_eq_false_iff_ne.mpr e
        rw [this]
        rfl
      rw [look_ix hz, hi]
      congr 3
      omega
theorem zipIdx_fst {α : Type} : ∀ {w : List α} {k : Nat}, (w.zipIdx k).map (·.1) = w
  | [], _ => rfl
  | x :: w, k => by
    rw [List.zipIdx_cons, List.map_cons, zipIdx_fst]
theorem enum_map {β : Type} {g : Nat → β → RP} {α : Type} {f : α → β} (w : List α) : (w.map f).mapIdx (fun i R => g i R) = w.zipIdx.map fun d => g d.2 (f d.1) := by
  apply List.ext_getElem?
  intro i
  rw [List.getElem?_mapIdx, List.getElem?_map, List.getElem?_map, List.getElem?_zipIdx]
  cases w[i]? with
  | none => rfl
  | some x => simp
end Kx
set_option Elab.async false
set_option linter.all false
set_option maxRecDepth 100000
set_option maxHeartbeats 4000000
/-! D9: order_of, stepped, sorting, order_behind. -/
namespace Kx
open PySem L2 PyProof.Rows
section
variable {P : Program} {w : World} {K : PySem.W.Frag} {mg : Str → Option Value} {base : Heap} {tS tG : Tok} {aT aW : Addr} {f : Addr} {fd : FuncData}
abbrev rCN (q : Cell × Str) : RP := rTup [rCell q.1, rStr q.2]
def encCN (q : Cell × Str) : PyData := .tuple [encC q.1, .str q.2]
theorem dat_cn (q : Cell × Str) : Dat (rCN q) (encCN q) := dat_tup (datA_cons (dat_cell q.1) (datA_cons dat_str datA_nil))
theorem sok_cn (cs : List (Cell × Str)) (h : cs.length ≤ 100000) : SOk (cs.map encCN) := ⟨PySem.W.AllAlike.of fun _ _ => rfl, PySem.W.Sortable.tuples fun c => ⟨_, _, rfl⟩, by rw [List.length_map]; exact h, fun d hd => by
  obtain ⟨c, _, rfl⟩ := List.mem_map.mp hd
  simp [encCN, encC, PyData.depth, PyData.depthAll]⟩
def srtCN (qs : List (Cell × Str)) : List (Cell × Str) := qs.mergeSort (PySem.W.dataLe false encCN)
def ordR (p0 : Str × Cell) (ps : List (Str × Cell)) : RP := if ((p0 :: ps).all fun p => decide (p.2.2 = p0.2.2)) = true then rTupL rStr ((srtCN ((p0 :: ps).map fun p => (p.2, p.1))).map (·.2)) else rNon
abbrev spOrd : Sp := Fn (fun d : (Str × Cell) × List (Str × Cell) => PlP (d.1 :: d.2)) (fun d => [rTupL rNC (d.1 :: d.2)]) fun d => ordR d.1 d.2
abbrev N_order_of : List Str := ["places", "name", "cell"]
theorem sc_order_of : FnScope N_order_of ["places"] (defScope (top 42)) := ⟨rfl, rfl, rfl, by decide +kernel, rfl, by decide +kernel, by decide +kernel⟩
theorem ok_order_of (F : Fun K "order_of" "order_of" (top 42) f fd) (T : Txt K mg tS tG aT aW) (Gcheck_placing : Cl P w K mg base 9 "check_placing" spChkPl) : FnOk P w K mg base CX0 10 f fd ["places"] spOrd := by
  refine F.ok sc_order_of (Fn.len fun _ => rfl) (fun cdv A outer s H vs Q E hr h => ⟨_, (pss_cons (ps_expr (pe_cl Gcheck_placing (hr.mono (by decide)) (by rfl) (pa_cons (pv 0) pa_nil))) (pss_cons (ps_if (pt_not (pt_val (pe_callB (cr_all (by rfl)) (by rfl) T.all b_all (pa_cons (pe_lc (own := [("name", 1), ("cell", 2)]) (g := (gTup K 2 (gCons (gName 1) (gCons (gName 2) gNil)))) (tt := tYes) (by rfl) sc_order_of.nd (pi_seq (pv 0)) (blkOk_by (N := N_order_of) (sc := defScope (top 42)) (own := [("name", 1), ("cell", 2)]) (by decide +kernel)) (fun _ _ _ _ _ => (pg_tup rfl (pgs_cons (pg_name (i := 1) sc_order_of.nd rfl (Or.inl rfl)) (pgs_cons (pg_name (i := 2) sc_order_of.nd rfl (Or.inl rfl)) pgs_nil)))) (fun _ _ _ _ _ => pts_nil) (fun _ _ _ _ _ => (pe_cmpR op_eq (pe_ix (ixK (K := K)) (pv 2) pe_int (fun _ _ => rfl)) (pe_ix (ixK (K := K)) (pe_ix (ixK (K := K)) (pe_ix (ixK (K := K)) (pv 0) pe_int (fun _ _ => rfl)) pe_int (fun _ _ => rfl)) pe_int (fun _ _ => rfl)) (nomark _)))) pa_nil)))) (pss_one (ps_ret pe_non)) pss_nil) (pss_one (ps_ret (pe_callTy cr_tof (by rfl) T.tuple b_tuple (pa_cons (pe_lc (own := [("cell", 2), ("name", 1)]) (g := (gTup K 2 (gCons (gName 2) (gCons (gName 1) gNil)))) (tt := tYes) (by rfl) sc_order_of.nd (pi_seq (pe_callB (cr_srt hr.units) (by rfl) T.sorted b_sorted (pa_cons (pe_lc (own := [("name", 1), ("cell", 2)]) (g := (gTup K 2 (gCons (gName 1) (gCons (gName 2) gNil)))) (tt := tYes) (by rfl) sc_order_of.nd (pi_seq (pv 0)) (blkOk_by (N := N_order_of) (sc := defScope (top 42)) (own := [("name", 1), ("cell", 2)]) (by decide +kernel)) (fun _ _ _ _ _ => (pg_tup rfl (pgs_cons (pg_name (i := 1) sc_order_of.nd rfl (Or.inl rfl)) (pgs_cons (pg_name (i := 2) sc_order_of.nd rfl (Or.inl rfl)) pgs_nil)))) (fun _ _ _ _ _ => pts_nil) (fun _ _ _ _ _ => (pe_tup (pa_cons (pv 2) (pa_cons (pv 1) pa_nil))))) pa_nil))) (blkOk_by (N := N_order_of) (sc := defScope (top 42)) (own := [("cell", 2), ("name", 1)]) (by decide +kernel)) (fun _ _ _ _ _ => (pg_tup rfl (pgs_cons (pg_name (i := 2) sc_order_of.nd rfl (Or.inl rfl)) (pgs_cons (pg_name (i := 1) sc_order_of.nd rfl (Or.inl rfl)) pgs_nil)))) (fun _ _ _ _ _ => pts_nil) (fun _ _ _ _ _ => (pv 1))) pa_nil)))))), ?_⟩)
  obtain ⟨⟨p0, ps⟩, hp, hv, q⟩ := h
  have hp : PlP (p0 :: ps) := hp
  have hl := hp.len
  have S0 := st (N := N_order_of) (Rs := [rTupL rNC (p0 :: ps)]) hv
  refine q_drop (e_call (p0 :: ps) (a_cons (e_s S0) a_nil) hp) fun H1 e1 => ?_
  have S1 := S0.up e1
  have q : ∀ (v : V) (H' : Hp), Ex H H' → (ordR p0 ps).p v H' → Q v H' := q
  unfold ordR at q
  refine q_if (t_not (t_B (e_cb (a_cons (e_lcA (ds := p0 :: ps) (f := rNC) (out := fun p : Str × Cell => rBl (decide (p.2.2 = p0.2.2))) S1 (i_seq (e_sqT (e_s S1))) (fun d _ => tg_two) (by omega) fun d _ σ' H' e' S' =>
    e_op (e_op (e_s S') e_c (ov_ixT rfl)) (e_op (Rx := rCell p0.2) (e_op (Rx := rNC p0) (e_op (Rx := rTupL rNC (p0 :: ps)) (e_s S') e_c (ov_ixT (atI_nat (i := 0) rfl))) e_c (ov_ixT rfl)) e_c (ov_ixT rfl)) ov_eqI) a_nil) (cv_all (b := fun p : Str × Cell => decide (p.2.2 = p0.2.2)))))) (fun hb H2 e2 => ?_) fun hb H2 e2 => ?_
  · have hb : ((p0 :: ps).all fun p => decide (p.2.2 = p0.2.2)) = false := by simpa using hb
    rw [if_neg (by rw [hb]; decide)] at q
    exact s_ret (R := rNon) e_c fun v H3 e3 hv => q v H3 ((e1.trans e2).trans e3) hv
  · have hb : ((p0 :: ps).all fun p => decide (p.2.2 = p0.2.2)) = true := by simpa using hb
    rw [if_pos hb] at q
    have S2 := S1.up e2
    exact s_ret (R := rTupL rStr ((srtCN ((p0 :: ps).map fun p => (p.2, p.1))).map (·.2))) (e_cb (a_cons (Rs := []) (R := rLstL rStr ((srtCN ((p0 :: ps).map fun p => (p.2, p.1))).map (·.2))) (e_is (e_lcA (ds := srtCN ((p0 :: ps).map fun p => (p.2, p.1))) (f := rCN) (out := fun q : Cell × Str => rStr q.2) S2 (i_seq (e_sqL (e_cb (a_cons (Rs := []) (R := rLstL rCN ((p0 :: ps).map fun p => (p.2, p.1))) (e_is (e_lcA (ds := p0 :: ps) (f := rNC) (out := fun p : Str × Cell => rCN (p.2, p.1)) S2 (i_seq (e_sqT (e_s S2))) (fun d _ => tg_two) (by omega) fun d _ σ' H' e' S' => e_tup (a_cons (e_s S') (a_cons (e_s S') a_nil))) (by unfold rLstL; rw [List.map_map]; rfl)) a_nil) (cv_srtL dat_cn (sok_cn _ (by rw [List.length_map]; omega)))))) (fun d _ => tg_two) (by
      unfold srtCN
      rw [List.length_mergeSort, List.length_map]
      omega) fun d _ σ' H' e' S' => e_s S') (by unfold rLstL; rw [List.map_map]; rfl)) a_nil) cv_tof) fun v H3 e3 hv => q v H3 ((e1.trans e2).trans e3) hv
abbrev spStep : Sp := Fn (fun d : List Str × Str => d.1.length ≤ 1000) (fun d => [rTupL rStr d.1, rStr d.2]) fun d => rTupL rStr (stepF d.1 d.2)
abbrev N_stepped : List Str := ["order", "step"]
theorem sc_stepped : FnScope N_stepped ["order", "step"] (defScope (top 47)) := ⟨rfl, rfl, rfl, by decide +kernel, rfl, by decide +kernel, by decide +kernel⟩
theorem ok_stepped (F : Fun K "stepped" "stepped" (top 47) f fd) (T : Txt K mg tS tG aT aW) : FnOk P w K mg base CX0 1 f fd ["order", "step"] spStep := by
  refine F.ok sc_stepped (Fn.len fun _ => rfl) (fun cdv A outer s H vs Q E hr h => ⟨_, (pss_cons (ps_if (pt_cmpR op_eq (pv 1) pe_str (nomark _)) (pss_one (ps_ret (pe_op op_catA (pe_slice sl_tupA (pv 0) (po_some pe_int) po_none) (pe_slice sl_tupA (pv 0) po_none (po_some pe_int))))) pss_nil) (pss_one (ps_ret (pe_op op_catA (pe_op op_catA (pe_slice sl_tupA (pv 0) po_none (po_some pe_int)) (pe_slice sl_tupA (pv 0) (po_some pe_int) po_none)) (pe_slice sl_tupA (pv 0) (po_some pe_int) (po_some pe_int)))))), ?_⟩)
  obtain ⟨⟨o, z⟩, hl, hv, q⟩ := h
  have hl : o.length ≤ 1000 := hl
  have S := st (N := N_stepped) (Rs := [rTupL rStr o, rStr z]) hv
  have l1 := List.length_drop (i := 1) (l := o)
  have l2 := List.length_take (i := 1) (l := o)
  have l3 := List.length_drop (i := 2) (l := o)
  have l4 := List.length_take (i := 1) (l := o.drop 1)
  have q : ∀ (v : V) (H' : Hp), Ex H H' → (rTupL rStr (stepF o z)).p v H' → Q v H' := q
  unfold stepF at q
  refine q_if (t_test (e_op (e_s S) e_c ov_eqS)) (fun hb H1 e1 => ?_) fun hb H1 e1 => ?_
  · rw [if_pos (of_decide_eq_true hb)] at q
    have S1 := S.up e1
    exact s_ret (e_is (e_op (Rx := rTupL rStr (o.drop 1)) (Ry := rTupL rStr (o.take 1)) (e_is (e_sl (e_s S1) (o_some e_c) o_none sv_T) (by rw [cutR_map, cut1])) (e_is (e_sl (e_s S1) o_none (o_some e_c) sv_T) (by rw [cutR_map, cut01])) (ov_catA (by rw [List.length_map, List.length_map]; omega))) (by rw [← List.map_append])) fun v H2 e2 hv => q v H2 (e1.trans e2) hv
  · rw [if_neg (of_decide_eq_false hb)] at q
    have S1 := S.up e1
    exact s_ret (e_is (e_op (Rx := rTupL rStr (o.take 1 ++ o.drop 2)) (Ry := rTupL rStr ((o.drop 1).take 1)) (e_is (e_op (Rx := rTupL rStr (o.take 1)) (Ry := rTupL rStr (o.drop 2)) (e_is (e_sl (e_s S1) o_none (o_some e_c) sv_T) (by rw [cutR_map, cut01])) (e_is (e_sl (e_s S1) (o_some e_c) o_none sv_T) (by rw [cutR_map, cut2])) (ov_catA (by rw [List.length_map, List.length_map]; omega))) (by rw [← List.map_append])) (e_is (e_sl (e_s S1) (o_some e_c) (o_some e_c) sv_T) (by rw [cutR_map, cut12])) (ov_catA (by rw [List.length_map, List.length_map, List.length_append]; omega))) (by rw [← List.map_append])) fun v H2 e2 hv => q v H2 (e1.trans e2) hv
structure NmP (zs : List Str) : Prop where
  ok : ∀ z ∈ zs, nameOk z = true
  so : ∀ z ∈ zs, PyData.canLay0 (.str z) = true
  nd : zs.Nodup
  l3 : 3 ≤ zs.length
  l60 : zs.length < 60
theorem NmP.p {zs : List Str} (h : NmP zs) : (∀ z ∈ zs, nameOk z = true) ∧ zs.Nodup ∧ 3 ≤ zs.length ∧ zs.length < 60 := ⟨h.ok, h.nd, h.l3, h.l60⟩
abbrev spBehind (k1 k2 : Bool) : Sp := Fn (fun d : List Str × List Str => NmP d.1 ∧ (∀ z ∈ d.2, z = "turn" ∨ z = "hold") ∧ d.2.length ≤ 5000) (fun d => [rSk k1 (d.1.map rStr), rSk k2 (d.2.map rStr)]) fun d => rTupL rStr (d.2.foldl stepF d.1)
theorem foldl_step_len : ∀ (zs o : List Str), (zs.foldl stepF o).length = o.length
  | [], o => rfl
  | z :: zs, o => (foldl_step_len zs (stepF o z)).trans stepF_len
theorem ms_strs {H0 : Hp} {cs : List Str} : ∀ R ∈ cs.map rStr, Ms H0 R := fun R hR => by
  obtain ⟨c, _, rfl⟩ := List.mem_map.mp hR
  infer_instance
abbrev N_order_behind : List Str := ["order", "steps", "now", "step"]
theorem sc_order_behind : FnScope N_order_behind ["order", "steps"] (defScope (top 49)) := ⟨rfl, rfl, rfl, by decide +kernel, rfl, by decide +kernel, by decide +kernel⟩
theorem ok_order_behind {k1 k2 : Bool} (F : Fun K "order_behind" "order_behind" (top 49) f fd) (T : Txt K mg tS tG aT aW) (Gcheck_order : Cl P w K mg base 3 "check_order" (spChkN k1)) (Gis_list : Cl P w K mg base 1 "is_list" (spLs k2)) (Gstepped : Cl P w K mg base 1 "stepped" spStep) : FnOk P w K mg base CX0 4 f fd ["order", "steps"] (spBehind k1 k2) := by
  refine F.ok sc_order_behind (Fn.len fun _ => rfl) (fun cdv A outer s H vs Q E hr h => ⟨_, (pss_cons (ps_expr (pe_cl Gcheck_order (hr.mono (by decide)) (by rfl) (pa_cons (pv 0) pa_nil))) (pss_cons (ps_if (PW.pt (pw_or (pt_not (pt_val (pe_cl Gis_list (hr.mono (by decide)) (by rfl) (pa_cons (pv 1) pa_nil)))) (pw_or1 (pt_not (pt_val (pe_callB (cr_all (by rfl)) (by rfl) T.all b_all (pa_cons (pe_lc (own := [("step", 3)]) (g := (gName 3)) (tt := tYes) (by rfl) sc_order_behind.nd (pi_seq (pv 1)) (blkOk_by (N := N_order_behind) (sc := defScope (top 49)) (own := [("step", 3)]) (by decide +kernel)) (fun _ _ _ _ _ => (pg_name (i := 3) sc_order_behind.nd rfl (Or.inl rfl))) (fun _ _ _ _ _ => pts_nil) (fun _ _ _ _ _ => (pe_and (pe_callB (isiK (K := K)) (by rfl) T.isinstance b_isinstance (pa_cons (pv 3) (pa_cons (pe_bltn (v := .ty "str") (by rfl) T.str b_str rfl) pa_nil))) (pe_one (pe_cmpR (inSeqK (K := K)) (pv 3) (pe_glob (v := .ref aW) rfl T.WORDS rfl) (by rfl)))))) pa_nil))))))) (pss_one ps_never) pss_nil) (pss_cons (ps_set (i := 2) sc_order_behind.nd rfl (Or.inl rfl) (pe_callTy cr_tof (by rfl) T.tuple b_tuple (pa_cons (pv 0) pa_nil))) (pss_cons (ps_for PassesOwn.never rfl (pi_seq (pv 1)) (pg_name (i := 3) sc_order_behind.nd rfl (Or.inl rfl)) (pss_one (ps_set (i := 2) sc_order_behind.nd rfl (Or.inl rfl) (pe_cl Gstepped (hr.mono (by decide)) (by rfl) (pa_cons (pv 2) (pa_cons (pv 3) pa_nil)))))) (pss_one (ps_ret (pv 2))))))), ?_⟩)
  obtain ⟨⟨o, zs⟩, ⟨hn, hz, hzl⟩, hv, q⟩ := h
  have hn : NmP o := hn
  have hz : ∀ z ∈ zs, z = "turn" ∨ z = "hold" := hz
  have hzl : zs.length ≤ 5000 := hzl
  have S0 := st (N := N_order_behind) (Rs := [rSk k1 (o.map rStr), rSk k2 (zs.map rStr)]) hv
  refine q_drop (e_call o (a_cons (e_s S0) a_nil) hn.p) fun H1 e1 => ?_
  have S1 := S0.up e1
  refine qf (t_or (t_not (t_B (e_call zs (a_cons (e_s S1) a_nil) trivial))) fun _ => t_not (t_B (e_cb (a_cons (e_lcA (ds := zs) (out := fun _ => rBl true) S1 (i_seq (e_sk (e_s S1))) (fun d _ => tg_name) (by omega) fun d hd σ' H' e' S' => e_is (e_andV (e_cb (a_cons (e_s S') (a_cons e_c a_nil)) isi_str) fun _ => e_op (e_s S') (e_glob (T.vW H')) (ov_inS (zs := ["turn", "hold"]))) (by
    rcases hz d hd with e | e <;> rw [e] <;> rfl)) a_nil) (cv_all (b := fun _ => true))))) (fun H2 e2 => ?_) (by rw [all_of (fun _ _ => rfl)]; rfl)
  have S2 := S1.up e2
  refine q_asg (R := rTupL rStr o) S2 (e_cb (a_cons (e_s S2) a_nil) cv_tofK) fun σ3 H3 e3 S3 => ?_
  refine q_forQ (k := k2) (Rs := zs.map rStr) (e_sk (e_s S3)) (fun a xs i σ' H' => (SqB K k2 H' a xs ∧ AllP (zs.map rStr) xs H') ∧ Ex H H' ∧ Sl σ' H' [none, none, some (rTupL rStr ((zs.take i).foldl stepF o)), none])
    (fun a xs H4 e4 hq hx => ⟨⟨hq, hx⟩, ((e1.trans e2).trans e3).trans e4, (((S3.up e4).forget (i := 0)).forget (i := 1))⟩) (fun a xs i σ' H' h => h.1.1) ?_ ?_
  · rintro a xs i x σ4 H4 hi hx ⟨⟨hq, hx4⟩, E4, S4⟩
    have hi' : i < zs.length := by simpa using hi
    have rx : (rStr zs[i]).p x H4 := by
      obtain ⟨R, r1, r2⟩ := hx4.get' hx
      rw [List.getElem?_map, List.getElem?_eq_getElem hi'] at r1
      cases r1
      exact r2
    rw [take_s hi', List.foldl_append]
    refine g_name S4 rx fun σ5 S5 => ?_
    exact s_asg (R := rTupL rStr (stepF ((zs.take i).foldl stepF o) zs[i])) (e_call ((zs.take i).foldl stepF o, zs[i]) (a_cons (e_s S5) (a_cons (e_s S5) a_nil)) (by
      show ((zs.take i).foldl stepF o).length ≤ 1000
      rw [foldl_step_len]
      have := hn.l60
      omega)) fun v H6 e6 r6 => ⟨⟨hq.up e6, hx4.mono e6⟩, E4.trans e6, ((S5.up e6).set (j := 2) r6).forget (i := 3)⟩
  · rintro a xs σ4 H4 ⟨_, E4, S4⟩
    have ez : zs.take (zs.map rStr).length = zs := by rw [List.length_map, List.take_length]
    rw [ez] at S4
    exact s_ret (e_s S4) fun v H5 e5 hv => q v H5 (E4.trans e5) hv
end
end Kx
set_option Elab.async false
set_option linter.all false
set_option maxRecDepth 100000
/-! M5: sorted texts. -/
namespace Kx
open PySem L2
def srtS (zs : List Str) : List Str := zs.mergeSort (PySem.W.dataLe false PyData.str)
theorem leS (a b : Str) : PySem.W.dataLe false PyData.str a b = decide (a.cps.toList ≤ b.cps.toList) := by
  have h := PySem.W.dataLe_str (β := Str) id
  exact congrFun (congrFun h a) b
theorem leS_trans (a b c : Str) (h1 : PySem.W.dataLe false PyData.str a b = true) (h2 : PySem.W.dataLe false PyData.str b c = true) : PySem.W.dataLe false PyData.str a c = true := by
  rw [leS, decide_eq_true_eq] at *
  exact Std.le_trans h1 h2
theorem leS_total (a b : Str) : (PySem.W.dataLe false PyData.str a b || PySem.W.dataLe false PyData.str b a) = true := by
  rw [leS, leS]
  rcases Std.le_total (a := a.cps.toList) (b := b.cps.toList) with h | h
  · rw [decide_eq_true h]
    rfl
  · rw [decide_eq_true h, Bool.or_true]
theorem Str.ext' {a b : Str} (h : a.cps.toList = b.cps.toList) : a = b := by
  obtain ⟨x⟩ := a
  obtain ⟨y⟩ := b
  have h : x.toList = y.toList := h
  rw [Array.toList_inj.mp h]
theorem leS_anti (a b : Str) (h1 : PySem.W.dataLe false PyData.str a b = true) (h2 : PySem.W.dataLe false PyData.str b a = true) : a = b := by
  rw [leS, decide_eq_true_eq] at *
  exact Str.ext' (Std.le_antisymm h1 h2)
theorem srtS_sorted (zs : List Str) : (srtS zs).Pairwise fun a b => PySem.W.dataLe false PyData.str a b = true := List.pairwise_mergeSort leS_trans leS_total zs
theorem srtS_perm (zs : List Str) : (srtS zs).Perm zs := List.mergeSort_perm zs _
theorem srtS_eq {as bs : List Str} (h : as.Perm bs) : srtS as = srtS bs := by
  refine List.Perm.eq_of_pairwise (fun a b _ _ h1 h2 => leS_anti a b h1 h2) (srtS_sorted as) (srtS_sorted bs) ?_
  exact (srtS_perm as).trans (h.trans (srtS_perm bs).symm)
end Kx
set_option Elab.async false
set_option linter.all false
set_option maxRecDepth 100000
set_option maxHeartbeats 4000000
/-! K16: name = {.. for ..}. -/
namespace Kx
open PySem L2 PyProof.Rows
variable {X : Cx}
theorem ps_setDc {i : Nat} {y : Str} {py : Pos} {kx vx tg iter : Expr} {ifs : List Expr} {scope : Scope} {own : List (Str × Nat)} {pos spos : Pos} {wi : TI} {g : TG} {tt : TT} {tk tv : TE} (hc : X.calm = true) (hN : X.N.Nodup) (hy : X.N[i]? = some y) (hyl : X.env.scope.names.lookup y = some .local)
    (hsw : swapsWith (.DictComp kx vx [⟨tg, iter, ifs, 0⟩] scope pos) (some (.Name y py)) spos.line X.env = pure true) (hi : PI X tg iter wi) (ok : BlkOk X.N X.env.scope scope own)
    (hg : ∀ (s : Shared) (H : Hp) (C : Addr) (cl : List (Str × Addr)) (fp : List Addr), PG (X.blk s H scope (compEnvC scope cl C X.env) fp) tg g) (ht : ∀ (s : Shared) (H : Hp) (C : Addr) (cl : List (Str × Addr)) (fp : List Addr), PTs (X.blk s H scope (compEnvC scope cl C X.env) fp) ifs tt)
    (hk : ∀ (s : Shared) (H : Hp) (C : Addr) (cl : List (Str × Addr)) (fp : List Addr), PE (X.blk s H scope (compEnvC scope cl C X.env) fp) kx tk)
    (he : ∀ (s : Shared) (H : Hp) (C : Addr) (cl : List (Str × Addr)) (fp : List Addr), PE (X.blk s H scope (compEnvC scope cl C X.env) fp) vx tv) (hs : ∀ x, foldedSetIterable iter X.env x = pure x := by intro _; rfl) :
    PS X (.Assign [.Name y py] (.DictComp kx vx [⟨tg, iter, ifs, 0⟩] scope pos) spos) (tAsg (tDc wi g tt tk tv (own.map (·.2))) (gName i)) := by
  refine ⟨fun pins s σ H D I h => ?_⟩
  rw [exec_Assign_Name_used _ _ _ _ hsw]
  refine wpAny_bind (wpAny_standAt (wpAny_bind ?_))
  show wpAny _ X.A (do let _ ← comprehension (.DictComp kx vx [⟨tg, iter, ifs, 0⟩] scope pos) scope X.env _ newDict false (eval iter X.env) (some (assign (.Name y py) X.env))) _ _ s
  have h : tDc wi g tt tk tv (own.map (·.2)) σ H (fun x H1 => gName i x σ H1 D.nx) := h
  refine wpAny_bind (thn (dc_core (Qf := fun _ s' => SP X pins D .next s') hc hN I hi ok hg ht hk he hs h fun L C s' m H' I' q hn f => ?_) fun _ s' hq => wpAny_pure (wpAny_pure hq))
  show wpAny _ _ (assign (.Name y py) X.env (.ref L)) _ _ _
  refine wpAny_assign_Name (store_ok2 (v := V.ref L) I' hN hy (.inl hyl) rfl (fun s2 I2 ⟨a, sb, ha⟩ => ?_) (.inr hyl))
  obtain ⟨f0, f1, f2, f3, f4, f5⟩ := f
  have haC : C ≠ a := by
    rcases ha with z | z
    · rw [z]; exact f1
    · exact fun e => f4 y a z e.symm
  refine ⟨m, hn.sameBut sb haC, fun h3 sb3 => ?_⟩
  exact ⟨_, H', I2.turned (t' := s2.toks) (fun b o hb e => (sb3.2 b hb).trans e) f0 f1 f3 f4 f5, q⟩
theorem sw_trueD {kx vx : Expr} {gs : List Comprehension} {scope : Scope} {pos py : Pos} {y : Str} {l : Nat} {env : Env} (hk : env.scope.kind = .function) (hy : env.scope.names.lookup y = some .local) (hl : (py.line == pos.line) = true)
    (ha : (scope.names.any fun (n, k) => n == y && (k == .local || k == .cell)) = false) : swapsWith (.DictComp kx vx gs scope pos) (some (.Name y py)) l env = pure true := by
  have ky : env.kindOf y = some .local := hy
  have hb : env.blockKind = .function := by unfold Env.blockKind; rw [hk]; rfl
  unfold swapsWith
  simp only [hb, ky, ha, Expr.pos, hl]
  rfl
end Kx
set_option Elab.async false
set_option linter.all false
set_option maxRecDepth 100000
set_option maxHeartbeats 4000000
/-! D10: sorting. -/
namespace Kx
open PySem L2 PyProof.Rows
theorem shp_strs (zs : List Str) (h : ∀ z ∈ zs, PyData.canLay0 (.str z) = true) : SeqAt.shaped (.list (zs.map PyData.str)) = true := by
  have h1 : PyData.canLayAll0 (zs.map PyData.str) = true := by
    induction zs with
    | nil => rfl
    | cons c r ih =>
      rw [List.map_cons]
      simp only [PyData.canLayAll0, Bool.and_eq_true]
      exact ⟨h c List.mem_cons_self, ih fun z hz => h z (List.mem_cons_of_mem _ hz)⟩
  have h2 : PyData.depthAll (zs.map PyData.str) ≤ 1 := by
    clear h1 h
    induction zs with
    | nil => exact Nat.zero_le _
    | cons c r ih =>
      rw [List.map_cons]
      simp only [PyData.depthAll]
      exact Nat.max_le.mpr ⟨by simp [PyData.depth], ih⟩
  unfold SeqAt.shaped
  rw [Bool.and_eq_true, decide_eq_true_eq]
  refine ⟨h1, ?_⟩
  simp only [PyData.depth]
  omega
theorem oneS_1 (w : List Str) (n : Nat) (s : List Str × List Str) (i : Nat) : (oneS w n s i).1 = stepF s.1 (stepZ w n i s.1) := rfl
/-- what holds along the way -/
structure SrI (w : List Str) (n c : Nat) (s : List Str × List Str) : Prop where
  l : s.1.length = n
  m : ∀ y ∈ s.1, y ∈ w
  c : s.2.length = c
theorem SrI.one {w : List Str} {n c i : Nat} {s : List Str × List Str} (h : SrI w n c s) : SrI w n (c + 1) (oneS w n s i) := ⟨stepF_len.trans h.l, fun y hy => h.m y (stepF_mem hy), by show (s.2 ++ [_]).length = _; rw [List.length_append, h.c]; rfl⟩
theorem SrI.some {w : List Str} {n c : Nat} {s : List Str × List Str} (h : SrI w n c s) : ∀ i, SrI w n (c + i) ((List.range i).foldl (oneS w n) s)
  | 0 => h
  | i + 1 => by
    rw [List.range_succ, List.foldl_append]
    exact (h.some i).one
theorem SrI.passes {w : List Str} {n : Nat} {s : List Str × List Str} (h : SrI w n 0 s) : ∀ t, SrI w n (t * n) ((List.range t).foldl (fun s _ => passS w n s) s)
  | 0 => by
    rw [Nat.zero_mul]
    exact h
  | t + 1 => by
    rw [List.range_succ, List.foldl_append, Nat.succ_mul]
    exact (h.passes t).some n
theorem atI_last {α : Type} (xs : List α) (x : α) : atI (xs ++ [x]) (-1) = some x := by
  have e : ixN (xs ++ [x]).length (-1) = some xs.length := by
    unfold ixN
    rw [if_neg (by omega), List.length_append, List.length_singleton]
    rw [if_pos (by omega)]
    congr 1
    omega
  unfold atI
  rw [e]
  show (xs ++ [x])[xs.length]? = some x
  rw [List.getElem?_append_right (Nat.le_refl _), Nat.sub_self]
  rfl
section
variable {P : Program} {w : World} {K : PySem.W.Frag} {mg : Str → Option Value} {base : Heap} {tS tG : Tok} {aT aW : Addr} {f : Addr} {fd : FuncData}
abbrev spSorting (k : Bool) : Sp := Fn (fun d : List Str × List Str => NmP d.1 ∧ NmP d.2 ∧ d.1.Perm d.2) (fun d => [rSk k (d.1.map rStr), rLstL rStr d.2]) fun d => rTupL rStr (sortF d.2 d.1).2
theorem cv_srtK {zs : List Str} (h : zs.length ≤ 100000) : ∀ {k : Bool}, CbV (rSrt K) [rSk k (zs.map rStr)] (rLstL rStr (srtS zs))
  | true => fun vs H hv => cv_srtQ (k := true) (fun z => dat_str) (sok_strs zs h) vs H (by
    obtain ⟨v, rfl, h1⟩ := hv.one
    exact ⟨sq_tup h1, trivial⟩)
  | false => cv_srtL (fun z => dat_str) (sok_strs zs h)
abbrev N_sorting : List Str := ["order", "wished", "place", "now", "steps", "turn", "at", "is_last", "name"]
theorem sc_sorting : FnScope N_sorting ["order", "wished"] (defScope (top 48)) := ⟨rfl, rfl, rfl, by decide +kernel, rfl, by decide +kernel, by decide +kernel⟩
theorem ok_sorting {k : Bool} (F : Fun K "sorting" "sorting" (top 48) f fd) (T : Txt K mg tS tG aT aW) (Gcheck_order : Cl P w K mg base 3 "check_order" (spChkN k)) (Gare_names : Cl P w K mg base 2 "are_names" (spNames false)) (Gstepped : Cl P w K mg base 1 "stepped" spStep) : FnOk P w K mg base CX0 4 f fd ["order", "wished"] (spSorting k) := by
  refine F.ok sc_sorting (Fn.len fun _ => rfl) (fun cdv A outer s H vs Q E hr h => ⟨_, (pss_cons (ps_expr (pe_cl Gcheck_order (hr.mono (by decide)) (by rfl) (pa_cons (pv 0) pa_nil))) (pss_cons (ps_if (PW.pt (pw_or (pt_not (pt_val (pe_cl Gare_names (hr.mono (by decide)) (by rfl) (pa_cons (pv 1) pa_nil)))) (pw_or1 (pt_cmpR (neDK (K := K) hr.units) (pe_callB (cr_srt hr.units) (by rfl) T.sorted b_sorted (pa_cons (pv 1) pa_nil)) (pe_callB (cr_srt hr.units) (by rfl) T.sorted b_sorted (pa_cons (pv 0) pa_nil)) (nomark _))))) (pss_one ps_never) pss_nil) (pss_cons (ps_setDc (i := 2) (own := [("at", 6), ("name", 8)]) (g := (gTup K 2 (gCons (gName 6) (gCons (gName 8) gNil)))) (tt := tYes) (by rfl) sc_sorting.nd rfl rfl (sw_trueD rfl rfl rfl (by decide +kernel)) (pi_enum (by rfl) T.enumerate (pa_cons (pv 1) pa_nil)) (blkOk_by (N := N_sorting) (sc := defScope (top 48)) (own := [("at", 6), ("name", 8)]) (by decide +kernel)) (fun _ _ _ _ _ => (pg_tup rfl (pgs_cons (pg_name (i := 6) sc_sorting.nd rfl (Or.inl rfl)) (pgs_cons (pg_name (i := 8) sc_sorting.nd rfl (Or.inl rfl)) pgs_nil)))) (fun _ _ _ _ _ => pts_nil) (fun _ _ _ _ _ => (pv 8)) (fun _ _ _ _ _ => (pv 6))) (pss_cons (ps_par (i := 3) (j := 4) (by rfl) sc_sorting.nd rfl rfl (by decide) rfl rfl (pa_cons (pe_callTy cr_tof (by rfl) T.tuple b_tuple (pa_cons (pv 0) pa_nil)) (pa_cons (pe_lst pa_nil) pa_nil)) (by rfl)) (pss_cons (ps_for PassesOwn.never rfl (pi_range1 (by rfl) T.range (pa_cons (pe_op op_sub (pe_callB cr_ln (by rfl) T.len b_len (pa_cons (pv 3) pa_nil)) pe_int) pa_nil)) (pg_name (i := 5) sc_sorting.nd rfl (Or.inl rfl)) (pss_one (ps_for PassesOwn.never rfl (pi_range1 (by rfl) T.range (pa_cons (pe_callB cr_ln (by rfl) T.len b_len (pa_cons (pv 3) pa_nil)) pa_nil)) (pg_name (i := 6) sc_sorting.nd rfl (Or.inl rfl)) (pss_cons (ps_set (i := 7) sc_sorting.nd rfl (Or.inl rfl) (pe_cmpR op_eq (pv 6) (pe_op op_sub (pe_callB cr_ln (by rfl) T.len b_len (pa_cons (pv 3) pa_nil)) pe_int) (nomark _))) (pss_cons (ps_expr (pe_bm PySem.F.plainAttrs_list PySem.F.slot_list_append PySem.F.type_list_append mt_append (pv 4) (pa_cons (pe_ifExp (PW.pt (pw_or (pt_val (pv 7)) (pw_or1 (pt_cmpR op_lt (pe_dget (hu_of hr) (pv 2) (pe_ix (ixK (K := K)) (pv 3) pe_int (fun _ _ => rfl)) (fun _ _ => rfl)) (pe_dget (hu_of hr) (pv 2) (pe_ix (ixK (K := K)) (pv 3) pe_int (fun _ _ => rfl)) (fun _ _ => rfl)) (nomark _))))) pe_str pe_str) pa_nil))) (pss_one (ps_set (i := 3) sc_sorting.nd rfl (Or.inl rfl) (pe_cl Gstepped (hr.mono (by decide)) (by rfl) (pa_cons (pv 3) (pa_cons (pe_ix (ixK (K := K)) (pv 4) (pe_un un_neg pe_int) (fun _ _ => rfl)) pa_nil)))))))))) (pss_one (ps_ret (pe_callTy cr_tof (by rfl) T.tuple b_tuple (pa_cons (pv 4) pa_nil))))))))), ?_⟩)
  obtain ⟨⟨o, wi⟩, ⟨hn, hw, pm⟩, hv, q⟩ := h
  have hn : NmP o := hn
  have hw : NmP wi := hw
  have pm : o.Perm wi := pm
  have h3 := hn.l3
  have h60 := hn.l60
  have w60 := hw.l60
  have S0 := st (N := N_sorting) (Rs := [rSk k (o.map rStr), rLstL rStr wi]) hv
  refine q_drop (e_call o (a_cons (e_s S0) a_nil) hn.p) fun H1 e1 => ?_
  have S1 := S0.up e1
  refine qf (t_or (t_not (t_B (e_call wi (a_cons (e_s S1) a_nil) hw.p))) fun _ => t_test (e_op (Rx := rLstL rStr (srtS wi)) (Ry := rLstL rStr (srtS o)) (e_cb (a_cons (e_s S1) a_nil) (cv_srtK (k := false) (by omega))) (e_cb (a_cons (e_s S1) a_nil) (cv_srtK (by omega))) (ov_neSame (dat_lst (datA_map (fun z => dat_str) _)) (by rw [srtS_eq pm]; exact dat_lst (datA_map (fun z => dat_str) _)) (shp_strs _ fun z hz => hw.so z ((srtS_perm wi).mem_iff.mp hz))))) (fun H2 e2 => ?_)
  have S2 := S1.up e2
  refine q_asg (R := rDicN (wi.zipIdx.map fun d => (d.1, V.int (d.2 : Nat)))) S2 (e_dcS (ds := wi.zipIdx) (f := fun d : Str × Nat => rTup [rInt (d.2 : Nat), rStr d.1]) (kc := fun d => d.1) (vc := fun d => .int (d.2 : Nat)) S2 (enum_map (g := fun i R => rTup [rInt (i : Nat), R]) (f := rStr) wi ▸ i_enum (a_cons (e_s S2) a_nil)) (fun d _ => tg_two) (by rw [List.length_zipIdx]; omega) (fun d _ σ' H' e' S' => e_s S') (fun d _ σ' H' e' S' => e_s S') (by rw [zipIdx_fst]; exact hw.nd)) fun σ3 H3 e3 S3 => ?_
  have S3' := S3.atE (i := 2) rfl
  refine q_parA S3' (a_cons (e_cb (a_cons (e_s S3) a_nil) cv_tofK) (a_cons (e_lstN a_nil) a_nil)) fun v u σ4 H4 e4 hv4 hu4 S4 => ?_
  obtain ⟨pl, pv, rfl, npl, hpl, apl⟩ := hu4
  have S4 : Sl σ4 H4 [none, none, some (rAt H3 (rDicN (wi.zipIdx.map fun d => (d.1, V.int (d.2 : Nat))))), some (rTupL rStr o), some (rV (.ref pl)), none, none, none, none] := ((S4.re (i := 3) (R := rTupL rStr o) rfl fun v' z => z ▸ hv4).forget (i := 0)).forget (i := 1)
  have I0 : SrI wi o.length 0 (o, []) := ⟨rfl, fun y hy => pm.mem_iff.mp hy, rfl⟩
  have ht : ((o.length : Nat) : Int) - 1 = ((o.length - 1 : Nat) : Int) := by omega
  refine q_forR (n := (o.length : Nat) - 1) (a_cons (e_is (e_op (e_cb (a_cons (e_s S4) a_nil) cv_lnT) e_c ov_I0) (by rw [List.length_map])) a_nil) (by omega) (fun t σ' H' => Ex H3 H' ∧ (∃ pv, H' pl = some (.lst pv) ∧ AllP ((((List.range t).foldl (fun s _ => passS wi o.length s) (o, [])).2).map rStr) pv H') ∧
      Sl σ' H' [none, none, some (rAt H3 (rDicN (wi.zipIdx.map fun d => (d.1, V.int (d.2 : Nat))))), some (rTupL rStr ((List.range t).foldl (fun s _ => passS wi o.length s) (o, [])).1), some (rV (.ref pl)), none, none, none, none])
    (fun H5 e5 => ⟨e4.trans e5, ⟨pv, e5 _ _ hpl, apl.mono e5⟩, S4.up e5⟩) ?_ ?_
  · rintro t σ5 H5 ht5 ⟨E5, hp5, S5⟩
    have It := I0.passes t
    rw [List.range_succ, List.foldl_append]
    generalize (List.range t).foldl (fun s _ => passS wi o.length s) (o, []) = s0 at It hp5 S5 ⊢
    have ht6 : t < o.length - 1 := by
      rw [ht] at ht5
      exact ht5
    have hto : t * o.length ≤ 3600 := Nat.le_trans (Nat.mul_le_mul (show t ≤ 60 by omega) (show o.length ≤ 60 by omega)) (Nat.le_refl _)
    refine g_name (R := rInt (t : Nat)) S5 rfl fun σ6 S6 => ?_
    refine s_forR (n := (o.length : Nat)) (a_cons (e_is (e_cb (a_cons (e_s S6) a_nil) cv_lnT) (by rw [List.length_map, It.l])) a_nil) (by omega) (fun i σ' H' => Ex H3 H' ∧ (∃ pv, H' pl = some (.lst pv) ∧ AllP ((((List.range i).foldl (oneS wi o.length) s0).2).map rStr) pv H') ∧
      Sl σ' H' [none, none, some (rAt H3 (rDicN (wi.zipIdx.map fun d => (d.1, V.int (d.2 : Nat))))), some (rTupL rStr ((List.range i).foldl (oneS wi o.length) s0).1), some (rV (.ref pl)), none, none, none, none])
      (fun H7 e7 => ⟨E5.trans e7, (let ⟨pv, a, b⟩ := hp5; ⟨pv, e7 _ _ a, b.mono e7⟩), (S6.up e7).forget (i := 5)⟩) ?_ ?_
    · rintro i σ7 H7 hi7 ⟨E7, ⟨pv7, hp7, ap7⟩, S7⟩
      have Ii := It.some i
      rw [List.range_succ, List.foldl_append]
      generalize (List.range i).foldl (oneS wi o.length) s0 = s1 at Ii ap7 S7 ⊢
      obtain ⟨now, steps⟩ := s1
      have hnl : now.length = o.length := Ii.l
      obtain ⟨a, b, rest, rfl⟩ : ∃ a b rest, now = a :: b :: rest := by
        match now, hnl with
        | a :: b :: rest, _ => exact ⟨a, b, rest, rfl⟩
        | [a], h => simp at h; omega
        | [], h => simp at h; omega
      have ha := look_ix (k := 0) (Ii.m a (by simp))
      have hb := look_ix (k := 0) (Ii.m b (by simp))
      rw [Nat.zero_add] at ha hb
      refine g_name (R := rInt (i : Nat)) S7 rfl fun σ8 S8 => ?_
      refine q_asg (R := rBl (decide ((i : Int) = (o.length : Int) - 1))) S8 (e_is (e_op (e_s S8) (e_op (e_cb (a_cons (e_s S8) a_nil) cv_lnT) e_c ov_I0) ov_eqI) (by rw [List.length_map, hnl])) fun σ9 H9 e9 S9 => ?_
      refine q_app (R := rStr (stepZ wi o.length i (a :: b :: rest))) (e9 _ _ hp7) (e_s S9) (e_if (b := decide ((i : Int) = (o.length : Int) - 1) || lt2 wi a b) (t_or (t_B (e_s S9)) fun _ => t_test (e_op (e_dgetN (e_at (e_s S9)) (e_op (e_s S9) e_c (ov_ixT (atI_nat (i := 0) rfl))) ha) (e_dgetN (e_at (e_s S9)) (e_op (e_s S9) e_c (ov_ixT (atI_nat (i := 1) rfl))) hb) ov_I0)) (fun hq => e_is e_c (by
          unfold stepZ
          rw [if_pos (show (decide ((i : Int) = (o.length : Int) - 1) || lt2 wi ((a :: b :: rest).getD 0 "") ((a :: b :: rest).getD 1 "")) = true from hq)])) fun hq => e_is e_c (by
          unfold stepZ
          rw [if_neg (show ¬ (decide ((i : Int) = (o.length : Int) - 1) || lt2 wi ((a :: b :: rest).getD 0 "") ((a :: b :: rest).getD 1 "")) = true from by
            intro z
            have z : (decide ((i : Int) = (o.length : Int) - 1) || lt2 wi a b) = true := z
            rw [hq] at z
            cases z)])) (by
          have := ap7.len
          rw [List.length_map, Ii.c] at this
          omega) fun v10 H10 e10 r10 h10 => ?_
      have ap10 : AllP ((steps ++ [stepZ wi o.length i (a :: b :: rest)]).map rStr) (pv7 ++ [v10]) (upd H10 pl (.lst (pv7 ++ [v10]))) := by
        refine allP_ms h10 nt_l npl ms_strs ?_
        rw [List.map_append]
        exact ((ap7.mono e9).mono e10).app (show AllP [rStr _] [v10] H10 from ⟨r10, trivial⟩)
      have S10 := (S9.up e10).mut (H0 := H3) (o := .lst (pv7 ++ [v10])) h10 nt_l npl
      refine s_asg (R := rTupL rStr (stepF (a :: b :: rest) (stepZ wi o.length i (a :: b :: rest)))) (e_call (a :: b :: rest, stepZ wi o.length i (a :: b :: rest)) (a_cons (e_s S10) (a_cons (e_op (e_ol S10 upd_same ap10) (e_un e_c uv_neg) (ov_ixL (by rw [List.map_append]; exact atI_last _ _))) a_nil)) (by
        show (a :: b :: rest).length ≤ 1000
        omega)) fun v11 H11 e11 r11 => ?_
      exact ⟨(Evl.Ex.mut ((E7.trans e9).trans e10) npl).trans e11, ⟨_, e11 _ _ upd_same, ap10.mono e11⟩, (((S10.up e11).set (j := 3) r11).forget (i := 6)).forget (i := 7)⟩
    · rintro σ7 H7 ⟨E7, hp7, S7⟩
      exact ⟨E7, hp7, S7⟩
  · rintro σ5 H5 ⟨E5, ⟨pv5, hp5, ap5⟩, S5⟩
    rw [ht] at ap5
    exact s_ret (e_cb (a_cons (e_ol S5 hp5 ap5) a_nil) cv_tof) fun v H6 e6 hv6 => q v H6 ((((e1.trans e2).trans e3).trans E5).trans e6) hv6
end
end Kx
set_option Elab.async false
set_option linter.all false
set_option maxRecDepth 100000
set_option maxHeartbeats 4000000
/-! D11: the pen. -/
namespace Kx
open PySem L2 PyProof.Rows
abbrev penK (l : Addr) (a d c f : Int) : List (Str × V) := [("cells", .ref l), ("at", .int a), ("digits", .int d), ("count", .int c), ("fold", .int f)]
section
variable {l : Addr} {a d c f x : Int}
theorem pen_at : putC (penK l a d c f) "at" (.int x) = penK l x d c f := by rfl
theorem pen_dg : putC (penK l a d c f) "digits" (.int x) = penK l a x c f := by rfl
theorem pen_ct : putC (penK l a d c f) "count" (.int x) = penK l a d x f := by rfl
theorem pen_fo : putC (penK l a d c f) "fold" (.int x) = penK l a d c x := by rfl
theorem pen_lc : look (penK l a d c f) "cells" = some (.ref l) := by rfl
theorem pen_la : look (penK l a d c f) "at" = some (.int a) := by rfl
theorem pen_ld : look (penK l a d c f) "digits" = some (.int d) := by rfl
theorem pen_lk : look (penK l a d c f) "count" = some (.int c) := by rfl
theorem pen_lf : look (penK l a d c f) "fold" = some (.int f) := by rfl
end
/-- the pen's numbers -/
structure PenN (ns : List Int) (b : Nat) (a d c f : Int) : Prop where
  a0 : 0 ≤ a
  d0 : 0 ≤ d
  c0 : 0 ≤ c
  cb : c ≤ b
  f0 : 0 ≤ f
  fb : f < 4000000000
structure Pn where
  p : Addr
  l : Addr
  ns : List Int
def PenI (g : Pn) (b : Nat) (H : Hp) : Prop := ∃ a d c f, H g.p = some (dN (penK g.l a d c f)) ∧ H g.l = some (.lst (g.ns.map V.int)) ∧ g.ns.length ≤ 1000 ∧ PenN g.ns b a d c f
section
variable {σ : L2.St} {H : Hp} {Γ : Gm}
theorem e_odN {i : Nat} {a : Addr} {kvs : List (Str × V)} (s : Sl σ H Γ) (hl : H a = some (dN kvs)) (hi : Γ[i]? = some (some (rV (.ref a))) := by rfl) : Ev (tVar i) σ H (rDicN kvs) := fun H1 e Q q => by
  obtain ⟨v, v1, v2⟩ := s.2 i _ hi
  have v2 : v = .ref a := v2
  subst v2
  exact ⟨_, v1, q _ H1 (exr H1) ⟨a, rfl, e _ _ hl⟩⟩
theorem e_rl {te : TE} {l : Addr} {ns : List Int} (h : Ev te σ H (rV (.ref l))) (hl : H l = some (.lst (ns.map V.int))) : Ev te σ H (rLstL rInt ns) := fun H1 e Q q => h H1 e _ fun v H2 e2 hv => by
  have hv : v = .ref l := hv
  subst hv
  refine q _ H2 e2 ⟨l, _, rfl, (e.trans e2) _ _ hl, ?_⟩
  clear hl q
  induction ns with
  | nil => trivial
  | cons n r ih => exact ⟨rfl, ih⟩
end
abbrev tDraw2 : L2.TS :=
  tSeq (tIfS (tTest (tOp (rI0 fun i j => V.bl (decide (j < i))) (tDGet (tVar 0) (tC (V.str (Str.ofString "digits")))) (tC (V.int 0))))
      (tSeq (tAsg (tOp (rI (fun x j => 0 < j) fun i j => V.int (i % j)) (tCB rIn1 (tCons (tDGet (tVar 0) (tC (V.str (Str.ofString "digits")))) tNil)) (tVar 1)) (gName 3))
        (tSeq (sDPut (tVar 0) (tC (V.str (Str.ofString "digits"))) (tOp (rI CDivW fun i j => V.int (i / j)) (tDGet (tVar 0) (tC (V.str (Str.ofString "digits")))) (tVar 1))) (tRet (tVar 3)))) tNext)
    (tSeq (tAsg (tOp (rI0 fun i j => V.int (i + j)) (tOp (rI0 fun i j => V.int (i + j)) (tDGet (tVar 0) (tC (V.str (Str.ofString "fold")))) (tOp (rI CMulW fun i j => V.int (i * j)) (tDGet (tVar 0) (tC (V.str (Str.ofString "count")))) (tC (V.int 7907)))) (tC (V.int 37))) (gName 4))
      (tRet (tOp (rI (fun x j => 0 < j) fun i j => V.int (i % j)) (tOp (rI CDivW fun i j => V.int (i / j)) (tCB rIn1 (tCons (tOp (rI (fun x j => 0 < j) fun i j => V.int (i % j)) (tOp (rI CPow fun i j => V.int (i ^ j.toNat)) (tVar 4) (tC (V.int 17))) (tC (V.int 2305843009213693951))) tNil)) (tC (V.int 128))) (tVar 1))))
theorem cdw {i j : Int} (h : 0 < j) (h2 : j ≤ 1000000) : CDivW i j := wide_div (b := 20) h (by omega) (by decide) (by decide)
theorem draw_rest {σ : L2.St} {H H0 : Hp} {p l : Addr} {m : Int} {b : Nat} {ns : List Int} {a d c fo : Int} {Q : VK} (hm0 : 0 < m) (hm1 : m ≤ 1000000) (hb : b ≤ 1000000) (E : Ex H0 H) (n0 : H0 p = none) (hp : H p = some (dN (penK l a d c fo))) (hl : H l = some (.lst (ns.map V.int))) (hns : ns.length ≤ 1000) (N : PenN ns (b + 1) a d c fo)
    (S : Sl σ H [some (rV (.ref p)), some (rInt m), none, none, none]) (q : ∀ r H', Ex H0 H' → PenI ⟨p, l, ns⟩ (b + 1) H' → 0 ≤ r → r < m → Q (.int r) H') : tDraw2 { nx := fun _ H' => Q V.non H', rt := Q } σ H := by
  have ne : l ≠ p := fun z => by
    rw [z, hp] at hl
    cases hl
  have hcb := N.cb
  have hc0 := N.c0
  have hf0 := N.f0
  have hfb := N.fb
  refine q_if (t_test (e_op (e_dgetN (e_odN S hp) e_c pen_ld) e_c ov_I0)) (fun hd H1 e1 => ?_) fun hd H1 e1 => ?_
  · have S1 := S.up e1
    have hp1 := e1 _ _ hp
    refine q_asg (R := rInt (d % m)) S1 (e_op (e_cb (a_cons (e_dgetN (e_odN S1 hp1) e_c pen_ld) a_nil) cv_int) (e_s S1) (ov_I hm0)) fun σ2 H2 e2 S2 => ?_
    have hp2 := e2 _ _ hp1
    refine q_dputN (R := rInt (d / m)) hp2 (e_op (e_dgetN (e_odN S2 hp2) e_c pen_ld) (e_s S2) (ov_I (cdw hm0 hm1))) (e_s S2) e_c (by show 5 < 100000; decide) fun v3 H3 e3 r3 h3 => ?_
    have r3 : v3 = .int (d / m) := r3
    subst r3
    rw [pen_dg]
    have S3 := (S2.up e3).mut (H0 := H0) (o := dN (penK l a (d / m) c fo)) h3 nt_k n0
    refine s_ret (e_s S3) fun v H4 e4 hv => ?_
    have hv : v = .int (d % m) := hv
    subst hv
    exact q _ H4 ((Evl.Ex.mut (((E.trans e1).trans e2).trans e3) n0).trans e4) ⟨a, d / m, c, fo, e4 _ _ upd_same, e4 _ _ (by rw [upd_ne ne]; exact e3 _ _ (e2 _ _ (e1 _ _ hl))), hns, N.a0, Int.ediv_nonneg N.d0 (by omega), N.c0, N.cb, N.f0, N.fb⟩ (Int.emod_nonneg _ (by omega)) (Int.emod_lt_of_pos _ hm0)
  · have S1 := S.up e1
    have hp1 := e1 _ _ hp
    refine q_asg (R := rInt (fo + c * 7907 + 37)) S1 (e_op (e_op (e_dgetN (e_odN S1 hp1) e_c pen_lf) (e_op (e_dgetN (e_odN S1 hp1) e_c pen_lk) e_c (ov_I (wide_mul (a := 20) (b := 13) (by omega) (by decide) (by decide) (by decide) (by decide)))) ov_I0) e_c ov_I0) fun σ2 H2 e2 S2 => ?_
    refine s_ret (R := rInt ((fo + c * 7907 + 37) ^ (17 : Int).toNat % 2305843009213693951 / 128 % m)) (e_op (e_op (e_cb (a_cons (e_op (e_op (e_s S2) e_c (ov_I ⟨by decide, by decide, by omega⟩)) e_c (ov_I (by decide))) a_nil) cv_int) e_c (ov_I (cdw (by decide) (by decide)))) (e_s S2) (ov_I hm0)) fun v H4 e4 hv => ?_
    have hv : v = .int ((fo + c * 7907 + 37) ^ (17 : Int).toNat % 2305843009213693951 / 128 % m) := hv
    subst hv
    exact q _ H4 (((E.trans e1).trans e2).trans e4) ⟨a, d, c, fo, e4 _ _ (e2 _ _ hp1), e4 _ _ (e2 _ _ (e1 _ _ hl)), hns, N⟩ (Int.emod_nonneg _ (by omega)) (Int.emod_lt_of_pos _ hm0)
section
variable {P : Program} {w : World} {K : PySem.W.Frag} {mg : Str → Option Value} {base : Heap} {tS tG : Tok} {aT aW : Addr} {f : Addr} {fd : FuncData}
def spDraw : Sp := fun vs H Q _ => ∃ (g : Pn) (m : Int) (b : Nat), vs = [.ref g.p, .int m] ∧ PenI g b H ∧ b ≤ 1000000 ∧ 0 < m ∧ m ≤ 1000000 ∧ ∀ r H', Ex (hide g.p H) H' → PenI g (b + 1) H' → 0 ≤ r → r < m → Q (.int r) H'
abbrev N_law_draw : List Str := ["_law_pen_here", "_law_many", "_law_cell", "_law_digit", "_law_blend"]
theorem sc_law_draw : FnScope N_law_draw ["_law_pen_here", "_law_many"] (defScope (top 52)) := ⟨rfl, rfl, rfl, by decide +kernel, rfl, by decide +kernel, by decide +kernel⟩
theorem ok_law_draw (F : Fun K "_law_draw" "_law_draw" (top 52) f fd) (T : Txt K mg tS tG aT aW) : FnOk P w K mg base CX0 1 f fd ["_law_pen_here", "_law_many"] spDraw := by
  refine F.ok sc_law_draw (fun vs H Q E h => ?_) (fun cdv A outer s H vs Q E hr h => ⟨_, (pss_cons (ps_dput (hu_of hr) (pv 0) pe_str (pe_op op_add (pe_dget (hu_of hr) (pv 0) pe_str (fun _ _ => rfl)) pe_int) rfl) (pss_cons (ps_if (PW.pt (pw_and (pt_cmpR op_eq (pe_dget (hu_of hr) (pv 0) pe_str (fun _ _ => rfl)) pe_int (nomark _)) (pw_and1 (pt_cmpR op_lt (pe_dget (hu_of hr) (pv 0) pe_str (fun _ _ => rfl)) (pe_callB cr_ln (by rfl) T.len b_len (pa_cons (pe_dget (hu_of hr) (pv 0) pe_str (fun _ _ => rfl)) pa_nil)) (nomark _))))) (pss_cons (ps_set (i := 2) sc_law_draw.nd rfl (Or.inl rfl) (pe_ix (ixK (K := K)) (pe_dget (hu_of hr) (pv 0) pe_str (fun _ _ => rfl)) (pe_dget (hu_of hr) (pv 0) pe_str (fun _ _ => rfl)) (fun _ _ => rfl))) (pss_cons (ps_dput (hu_of hr) (pv 0) pe_str (pe_op op_add (pe_dget (hu_of hr) (pv 0) pe_str (fun _ _ => rfl)) pe_int) rfl) (pss_one (ps_if (pt_cmpR op_ge (pv 2) (pe_op op_pow pe_int pe_int) (nomark _)) (pss_one (ps_dput (hu_of hr) (pv 0) pe_str (pe_op op_sub (pv 2) (pe_op op_pow pe_int pe_int)) rfl)) (pss_one (ps_dput (hu_of hr) (pv 0) pe_str (pe_op op_mod (pe_callTy cr_int (by rfl) T.int b_int (pa_cons (pe_op op_add (pe_op op_mulW (pe_dget (hu_of hr) (pv 0) pe_str (fun _ _ => rfl)) pe_int) (pv 2)) pa_nil)) pe_int) rfl)))))) pss_nil) (pss_cons (ps_if (pt_cmpR op_gt (pe_dget (hu_of hr) (pv 0) pe_str (fun _ _ => rfl)) pe_int (nomark _)) (pss_cons (ps_set (i := 3) sc_law_draw.nd rfl (Or.inl rfl) (pe_op op_mod (pe_callTy cr_int (by rfl) T.int b_int (pa_cons (pe_dget (hu_of hr) (pv 0) pe_str (fun _ _ => rfl)) pa_nil)) (pv 1))) (pss_cons (ps_dput (hu_of hr) (pv 0) pe_str (pe_op op_fdivW (pe_dget (hu_of hr) (pv 0) pe_str (fun _ _ => rfl)) (pv 1)) rfl) (pss_one (ps_ret (pv 3))))) pss_nil) (pss_cons (ps_set (i := 4) sc_law_draw.nd rfl (Or.inl rfl) (pe_op op_add (pe_op op_add (pe_dget (hu_of hr) (pv 0) pe_str (fun _ _ => rfl)) (pe_op op_mulW (pe_dget (hu_of hr) (pv 0) pe_str (fun _ _ => rfl)) pe_int)) pe_int)) (pss_one (ps_ret (pe_op op_mod (pe_op op_fdivW (pe_callTy cr_int (by rfl) T.int b_int (pa_cons (pe_op op_mod (pe_op op_pow (pv 4) pe_int) pe_int) pa_nil)) pe_int) (pv 1)))))))), ?_⟩)
  · obtain ⟨_, _, _, rfl, _⟩ := h
    rfl
  obtain ⟨⟨p, l, ns⟩, m, b, rfl, ⟨a, d, c, fo, hp, hl, hns, N⟩, hb, hm0, hm1, q⟩ := h
  have hp : H p = some (dN (penK l a d c fo)) := hp
  have hl : H l = some (.lst (ns.map V.int)) := hl
  have hns : ns.length ≤ 1000 := hns
  have N : PenN ns b a d c fo := N
  have n0 : hide p H p = none := hide_self
  have S0 := st (N := N_law_draw) (Rs := [rV (.ref p), rInt m]) (vs := [.ref p, .int m]) (H := H) ⟨rfl, rfl, trivial⟩
  refine q_dputN (R := rInt (c + 1)) hp (e_op (e_dgetN (e_odN S0 hp) e_c pen_lk) e_c ov_I0) (e_s S0) e_c (by show 5 < 100000; decide) fun v1 H1 e1 r1 h1 => ?_
  have r1 : v1 = .int (c + 1) := r1
  subst r1
  rw [pen_ct]
  have ne : l ≠ p := fun z => by
    rw [z, hp] at hl
    cases hl
  have S1 := (S0.up e1).mut (H0 := hide p H) (o := dN (penK l a d (c + 1) fo)) h1 nt_k n0
  have E1 : Ex (hide p H) (upd H1 p (dN (penK l a d (c + 1) fo))) := Evl.Ex.mut (hide_le.trans e1) n0
  have hl1 : (upd H1 p (dN (penK l a d (c + 1) fo))) l = some (.lst (ns.map V.int)) := by
    rw [upd_ne ne]
    exact e1 _ _ hl
  have hp1 : (upd H1 p (dN (penK l a d (c + 1) fo))) p = some (dN (penK l a d (c + 1) fo)) := upd_same
  generalize upd H1 p (dN (penK l a d (c + 1) fo)) = HH at S1 E1 hl1 hp1 ⊢
  have hcb := N.cb
  have hc0 := N.c0
  have N1 : PenN ns (b + 1) a d (c + 1) fo := ⟨N.a0, N.d0, by omega, by omega, N.f0, N.fb⟩
  refine q_if (t_and (t_test (e_op (e_dgetN (e_odN S1 hp1) e_c pen_ld) e_c ov_eqI)) fun _ => t_test (e_op (e_dgetN (e_odN S1 hp1) e_c pen_la) (e_cb (a_cons (e_rl (e_dgetN (e_odN S1 hp1) e_c pen_lc) hl1) a_nil) cv_lnL) ov_I0)) (fun hb2 H2 e2 => ?_) fun hb2 H2 e2 => ?_
  · have hb2 : a < (ns.length : Int) := by
      rw [Bool.and_eq_true, decide_eq_true_eq, decide_eq_true_eq, List.length_map] at hb2
      exact hb2.2
    obtain ⟨an, rfl⟩ := Int.eq_ofNat_of_zero_le N.a0
    have han : an < ns.length := by omega
    have S2 := S1.up e2
    have hp2 := e2 _ _ hp1
    have hl2 := e2 _ _ hl1
    refine q_asg (R := rInt ns[an]) S2 (e_op (e_rl (e_dgetN (e_odN S2 hp2) e_c pen_lc) hl2) (e_dgetN (e_odN S2 hp2) e_c pen_la) (ov_ixL (atI_nat (by rw [List.getElem?_map, List.getElem?_eq_getElem han]; rfl)))) fun σ3 H3 e3 S3 => ?_
    have hp3 := e3 _ _ hp2
    have hl3 := e3 _ _ hl2
    generalize ns[an] = cell at S3
    refine q_dputN (R := rInt ((an : Int) + 1)) hp3 (e_op (e_dgetN (e_odN S3 hp3) e_c pen_la) e_c ov_I0) (e_s S3) e_c (by show 5 < 100000; decide) fun v4 H4 e4 r4 h4 => ?_
    have r4 : v4 = .int ((an : Int) + 1) := r4
    subst r4
    rw [pen_at]
    have S4 := (S3.up e4).mut (H0 := hide p H) (o := dN (penK l ((an : Int) + 1) d (c + 1) fo)) h4 nt_k n0
    have E4 : Ex (hide p H) (upd H4 p (dN (penK l ((an : Int) + 1) d (c + 1) fo))) := Evl.Ex.mut (((E1.trans e2).trans e3).trans e4) n0
    have hl4 : (upd H4 p (dN (penK l ((an : Int) + 1) d (c + 1) fo))) l = some (.lst (ns.map V.int)) := by
      rw [upd_ne ne]
      exact e4 _ _ hl3
    have hp4 : (upd H4 p (dN (penK l ((an : Int) + 1) d (c + 1) fo))) p = some (dN (penK l ((an : Int) + 1) d (c + 1) fo)) := upd_same
    generalize upd H4 p (dN (penK l ((an : Int) + 1) d (c + 1) fo)) = HG at S4 E4 hl4 hp4 ⊢
    have hcp : CPow 10 18 := ⟨by decide, by decide, by decide⟩
    refine s_if (t_test (e_op (e_s S4) (e_op e_c e_c (ov_I hcp)) ov_I0)) (fun hge H5 e5 => ?_) fun hge H5 e5 => ?_
    · have hge : (10 : Int) ^ (18 : Int).toNat ≤ cell := of_decide_eq_true hge
      have hp5 := e5 _ _ hp4
      have S5 := S4.up e5
      refine s_dputN (R := rInt (cell - 10 ^ (18 : Int).toNat)) hp5 (e_op (e_s S5) (e_op e_c e_c (ov_I hcp)) ov_I0) (e_s S5) e_c (by show 5 < 100000; decide) fun v6 H6 e6 r6 h6 => ?_
      have r6 : v6 = .int (cell - 10 ^ (18 : Int).toNat) := r6
      subst r6
      rw [pen_dg]
      have S6 := (S5.up e6).mut (H0 := hide p H) (o := dN (penK l ((an : Int) + 1) (cell - 10 ^ (18 : Int).toNat) (c + 1) fo)) h6 nt_k n0
      exact draw_rest hm0 hm1 hb (Evl.Ex.mut ((E4.trans e5).trans e6) n0) n0 upd_same (by rw [upd_ne ne]; exact e6 _ _ (e5 _ _ hl4)) hns ⟨by omega, by omega, by omega, by omega, N.f0, N.fb⟩ (S6.forget (i := 2)) q
    · have hp5 := e5 _ _ hp4
      have S5 := S4.up e5
      have hf0 := N.f0
      have hfb := N.fb
      refine s_dputN (R := rInt ((fo * 69069 + cell) % 2147483587)) hp5 (e_op (e_cb (a_cons (e_op (e_op (e_dgetN (e_odN S5 hp5) e_c pen_lf) e_c (ov_I (wide_mul (a := 32) (b := 17) (by omega) (by decide) (by decide) (by decide) (by decide)))) (e_s S5) ov_I0) a_nil) cv_int) e_c (ov_I (by decide))) (e_s S5) e_c (by show 5 < 100000; decide) fun v6 H6 e6 r6 h6 => ?_
      have r6 : v6 = .int ((fo * 69069 + cell) % 2147483587) := r6
      subst r6
      rw [pen_fo]
      have S6 := (S5.up e6).mut (H0 := hide p H) (o := dN (penK l ((an : Int) + 1) d (c + 1) ((fo * 69069 + cell) % 2147483587))) h6 nt_k n0
      have g1 := Int.emod_nonneg (fo * 69069 + cell) (show (2147483587 : Int) ≠ 0 by decide)
      have g2 := Int.emod_lt_of_pos (fo * 69069 + cell) (show (0 : Int) < 2147483587 by decide)
      exact draw_rest hm0 hm1 hb (Evl.Ex.mut ((E4.trans e5).trans e6) n0) n0 upd_same (by rw [upd_ne ne]; exact e6 _ _ (e5 _ _ hl4)) hns ⟨by omega, N.d0, by omega, by omega, g1, by omega⟩ (S6.forget (i := 2)) q
  · exact draw_rest hm0 hm1 hb (E1.trans e2) n0 (e2 _ _ hp1) (e2 _ _ hl1) hns N1 (S1.up e2) q
end
end Kx
set_option Elab.async false
set_option linter.all false
set_option maxRecDepth 100000
set_option maxHeartbeats 4000000
/-! K17: what stands still while the pen moves. -/
namespace Kx
open PySem L2 PyProof.Rows
def Nd (u : HO) : Prop := (∃ k, u = .dK k) ∨ ∃ k, u = .dT k
theorem Nd.k {k : List (Key × V)} : Nd (.dK k) := .inl ⟨_, rfl⟩
theorem Nd.t {k : List (List Key × V)} : Nd (.dT k) := .inr ⟨_, rfl⟩
class Mk (H0 : Hp) (R : RP) : Prop where
  ms : ∀ (H : Hp) (p : Addr) (u o : HO) (v : V), H p = some u → Nd u → H0 p = none → R.p v H → R.p v (upd H p o)
class MkL (H0 : Hp) (Rs : List RP) : Prop where
  ms : ∀ R ∈ Rs, Mk H0 R
class MkG (H0 : Hp) (Γ : Gm) : Prop where
  ms : ∀ R, some R ∈ Γ → Mk H0 R
section
variable {H0 : Hp}
instance mk_v {x : V} : Mk H0 (rV x) := ⟨fun _ _ _ _ _ _ _ _ h => h⟩
theorem allP_mk {H : Hp} {p : Addr} {u o : HO} (hp : H p = some u) (nd : Nd u) (h0 : H0 p = none) : ∀ {Rs : List RP} {vs : List V}, (∀ R ∈ Rs, Mk H0 R) → AllP Rs vs H → AllP Rs vs (upd H p o)
  | [], [], _, _ => trivial
  | R :: Rs, v :: vs, h, a => ⟨(h R List.mem_cons_self).ms H p u o v hp nd h0 a.1, allP_mk hp nd h0 (fun S hS => h S (List.mem_cons_of_mem _ hS)) a.2⟩
  | [], _ :: _, _, a => a.elim
  | _ :: _, [], _, a => a.elim
instance mk_tup {Rs : List RP} [h : MkL H0 Rs] : Mk H0 (rTup Rs) := ⟨fun H p u o v hp nd h0 ⟨a, xs, e, ha, hx⟩ => ⟨a, xs, e, by
  rw [upd_ne (fun z => by
    subst z
    rw [hp] at ha
    cases ha
    rcases nd with ⟨_, z⟩ | ⟨_, z⟩ <;> cases z)]
  exact ha, allP_mk hp nd h0 h.ms hx⟩⟩
instance mk_lst {Rs : List RP} [h : MkL H0 Rs] : Mk H0 (rLst Rs) := ⟨fun H p u o v hp nd h0 ⟨a, xs, e, ha, hx⟩ => ⟨a, xs, e, by
  rw [upd_ne (fun z => by
    subst z
    rw [hp] at ha
    cases ha
    rcases nd with ⟨_, z⟩ | ⟨_, z⟩ <;> cases z)]
  exact ha, allP_mk hp nd h0 h.ms hx⟩⟩
instance mkl_nil : MkL H0 [] := ⟨fun _ h => by cases h⟩
instance mkl_cons {R : RP} {Rs : List RP} [a : Mk H0 R] [b : MkL H0 Rs] : MkL H0 (R :: Rs) := ⟨fun S h => by
  rcases List.mem_cons.mp h with e | h
  · rw [e]
    exact a
  · exact b.ms S h⟩
instance mkl_map {α : Type} {f : α → RP} {as : List α} [h : ∀ a, Mk H0 (f a)] : MkL H0 (as.map f) := ⟨fun S hS => by
  obtain ⟨a, _, rfl⟩ := List.mem_map.mp hS
  exact h a⟩
instance mkg_nil : MkG H0 [] := ⟨fun _ h => by cases h⟩
instance mkg_none {Γ : Gm} [b : MkG H0 Γ] : MkG H0 (none :: Γ) := ⟨fun S h => by
  rcases List.mem_cons.mp h with e | h
  · cases e
  · exact b.ms S h⟩
instance mkg_some {R : RP} {Γ : Gm} [a : Mk H0 R] [b : MkG H0 Γ] : MkG H0 (some R :: Γ) := ⟨fun S h => by
  rcases List.mem_cons.mp h with e | h
  · cases e
    exact a
  · exact b.ms S h⟩
instance mk_at {R : RP} : Mk H0 (rAt H0 R) := ⟨fun H p u o v hp nd h0 h => ⟨h.1, Evl.Ex.mut h.2 h0⟩⟩
end
section
variable {σ : L2.St} {H H' H0 : Hp} {Γ : Gm} {p : Addr} {k : List (Key × V)} {o : HO} {R : RP} {Rs : List RP} {v : V} {vs : List V}
theorem Mk.go [g : Mk H0 R] (hp : H p = some (.dK k)) (h0 : H0 p = none) (e : Ex (Kx.hide p H) H') (ho : H' p = some o) (h : R.p v H) : R.p v H' := by
  have e1 : Ex (upd H p o) H' := fun b x hb => by
    by_cases z : b = p
    · rw [z, upd_same] at hb
      cases hb
      rw [z]
      exact ho
    · rw [upd_ne z] at hb
      exact e b x (by rw [hide_ne z]; exact hb)
  exact R.mono e1 (g.ms H p _ o v hp .k h0 h)
theorem allP_go (g : ∀ R ∈ Rs, Mk H0 R) (hp : H p = some (.dK k)) (h0 : H0 p = none) (e : Ex (Kx.hide p H) H') (ho : H' p = some o) (h : AllP Rs vs H) : AllP Rs vs H' := by
  induction Rs generalizing vs with
  | nil =>
    cases vs with
    | nil => trivial
    | cons _ _ => exact h.elim
  | cons R Rs ih =>
    cases vs with
    | nil => exact h.elim
    | cons v vs => exact ⟨(g R List.mem_cons_self).go hp h0 e ho h.1, ih (fun S hS => g S (List.mem_cons_of_mem _ hS)) h.2⟩
theorem Sl.go (s : Sl σ H Γ) (hp : H p = some (.dK k)) (h0 : H0 p = none) (e : Ex (Kx.hide p H) H') (ho : H' p = some o) [g : MkG H0 Γ] : Sl σ H' Γ :=
  ⟨s.1, fun i R hi => let ⟨v, a, b⟩ := s.2 i R hi; ⟨v, a, (g.ms R (List.mem_of_getElem? hi)).go hp h0 e ho b⟩⟩
theorem Sl.mutD {u : HO} (s : Sl σ H Γ) (hp : H p = some u) (nd : Nd u) (h0 : H0 p = none) [g : MkG H0 Γ] : Sl σ (upd H p o) Γ :=
  ⟨s.1, fun i R hi => let ⟨v, a, b⟩ := s.2 i R hi; ⟨v, a, (g.ms R (List.mem_of_getElem? hi)).ms H p u o v hp nd h0 b⟩⟩
/-- other objects stay -/
theorem hide_at {b : Addr} {x : HO} (e : Ex (Kx.hide p H) H') (hb : H b = some x) (ne : b ≠ p) : H' b = some x := e _ _ (by rw [hide_ne ne]; exact hb)
end
section
variable {H0 : Hp}
instance mkg_set {Γ : Gm} {j : Nat} {R : RP} [a : MkG H0 Γ] [b : Mk H0 R] : MkG H0 (Γ.set j (some R)) := ⟨fun S h => by
  rcases List.mem_or_eq_of_mem_set h with z | z
  · exact a.ms S z
  · cases z
    exact b⟩
instance mkg_setN {Γ : Gm} {j : Nat} [a : MkG H0 Γ] : MkG H0 (Γ.set j none) := ⟨fun S h => by
  rcases List.mem_or_eq_of_mem_set h with z | z
  · exact a.ms S z
  · cases z⟩
instance mkg_app {Rs : List RP} {n : Nat} [a : MkL H0 Rs] : MkG H0 (Rs.map some ++ List.replicate n none) := ⟨fun S h => by
  rcases List.mem_append.mp h with z | z
  · obtain ⟨R, hR, e⟩ := List.mem_map.mp z
    cases e
    exact a.ms S hR
  · have := List.eq_of_mem_replicate z
    cases this⟩
end
/-- an expression that moves the pen -/
def EvP (te : TE) (σ : L2.St) (H : Hp) (g : Pn) (b : Nat) (R : V → Hp → Prop) : Prop := ∀ Q : VK, (∀ v H', Ex (hide g.p H) H' → PenI g b H' → R v H' → Q v H') → te σ H Q
section
variable {g : Pn} {b b' : Nat} {H H' : Hp}
theorem PenI.dk (h : PenI g b H) : ∃ k, H g.p = some (.dK k) := let ⟨_, _, _, _, h, _⟩ := h; ⟨_, h⟩
theorem PenI.up (h : PenI g b H) (e : Ex H H') : PenI g b H' := let ⟨a, d, c, f, h1, h2, h3⟩ := h; ⟨a, d, c, f, e _ _ h1, e _ _ h2, h3⟩
theorem PenI.le (h : PenI g b H) (e : b ≤ b') : PenI g b' H := let ⟨a, d, c, f, h1, h2, h3, N⟩ := h; ⟨a, d, c, f, h1, h2, h3, N.a0, N.d0, N.c0, Int.le_trans N.cb (by omega), N.f0, N.fb⟩
/-- another list of one's own changes -/
theorem PenI.mut {q : Addr} {o : HO} (h : PenI g b H) (n1 : g.p ≠ q) (n2 : g.l ≠ q) : PenI g b (upd H q o) :=
  let ⟨a, d, c, f, h1, h2, h3⟩ := h; ⟨a, d, c, f, by rw [upd_ne n1]; exact h1, by rw [upd_ne n2]; exact h2, h3⟩
theorem PenI.ne (h : PenI g b H) {q : Addr} (hq : H q = none) : g.p ≠ q ∧ g.l ≠ q := let ⟨_, _, _, _, h1, h2, _⟩ := h; ⟨fun z => (by rw [z, hq] at h1; cases h1), fun z => (by rw [z, hq] at h2; cases h2)⟩
theorem hide_up {p : Addr} {H H1 H' : Hp} (e : Ex H H1) (e2 : Ex (hide p H1) H') : Ex (hide p H) H' := fun a o h => by
  by_cases z : a = p
  · rw [z, hide_self] at h
    cases h
  · rw [hide_ne z] at h
    exact e2 a o (by rw [hide_ne z]; exact e _ _ h)
theorem hide_tr {p : Addr} {H H1 H' : Hp} (e : Ex (hide p H) H1) (e2 : Ex (hide p H1) H') : Ex (hide p H) H' := fun a o h => by
  by_cases z : a = p
  · rw [z, hide_self] at h
    cases h
  · exact e2 a o (by rw [hide_ne z]; exact e _ _ h)
theorem p_draw {σ : L2.St} {H : Hp} {m : Int} {t : TA} {E : XK} (h : EvA t σ H [rV (.ref g.p), rInt m]) (hp : PenI g b H) (hb : b ≤ 1000000) (m0 : 0 < m) (m1 : m ≤ 1000000) : EvP (tCall spDraw [] E t) σ H g (b + 1) (fun v _ => ∃ r, v = .int r ∧ 0 ≤ r ∧ r < m) := fun Q q =>
  c_call h fun vs H1 e hv => by
    obtain ⟨v, u, rfl, h1, h2⟩ := hv.two
    have h1 : v = .ref g.p := h1
    have h2 : u = .int m := h2
    subst h1 h2
    exact ⟨g, m, b, rfl, hp.up e, hb, m0, m1, fun r H' e' hp' r0 r1 => q _ H' (hide_up e e') hp' ⟨r, rfl, r0, r1⟩⟩
end
end Kx
set_option Elab.async false
set_option linter.all false
set_option maxRecDepth 100000
set_option maxHeartbeats 4000000
/-! D12: pick, shuffled. -/
namespace Kx
open PySem L2 PyProof.Rows
section
variable {K : PySem.W.Frag} {σ : L2.St} {H : Hp} {ta tb : TE} {Rs Ss : List RP}
theorem e_catN (ha : Ev ta σ H (rLst Rs)) (hb : Ev tb σ H (rLst Ss)) (hl : Rs.length + Ss.length ≤ 100000) : Ev (tOp rCat ta tb) σ H (rNewL H (Rs ++ Ss)) := fun H1 e Q q =>
  ha H1 e _ fun x H2 e2 ⟨a, xs, e3, h1, p1⟩ => hb H2 (e.trans e2) _ fun y H3 e4 ⟨b, ys, e5, h2, p2⟩ => by
    have l1 := p1.len
    have l2 := p2.len
    exact ⟨a, b, xs, ys, e3, e5, e4 _ _ h1, h2, Evl.sz_of (by omega), fun p hp => q _ _ ((e2.trans e4).trans (Evl.Ex.new hp)) ⟨p, _, rfl, Evl.fresh_back ((e.trans e2).trans e4) hp, upd_same, ((p1.mono e4).app p2).mono (Evl.Ex.new hp)⟩⟩
theorem e_lofN {k : Bool} {t : TA} (h : EvA t σ H [rSq K k Rs]) : Ev (tCB (rLof K) t) σ H (rNewL H Rs) := fun H1 e Q q => h H1 e _ fun vs H2 e2 hv => by
  obtain ⟨v, rfl, a, xs, rfl, hq, hx⟩ := hv.one
  refine ⟨a, xs, rfl, ?_, fun l hl => q _ _ (e2.trans (Evl.Ex.new hl)) ⟨l, xs, rfl, Evl.fresh_back (e.trans e2) hl, upd_same, hx.mono (Evl.Ex.new hl)⟩⟩
  rcases hq with ⟨_, hq⟩ | ⟨_, hq⟩
  · exact .inr hq
  · exact .inl hq
theorem q_asgP {g : Pn} {b : Nat} {R : V → Hp → Prop} {te : TE} {D : Ends} {tz : L2.TS} {j : Nat} (h : EvP te σ H g b R) (k : ∀ v H', Ex (hide g.p H) H' → PenI g b H' → R v H' → tz D (σ.set j (some v)) H') : tSeq (tAsg te (gName j)) tz D σ H := h _ fun v H' e hp hr => k v H' e hp hr
theorem s_retU {te : TE} {D : Ends} (h : te σ H D.rt) : tRet te D σ H := h
theorem op_u {r : R2} {Q : VK} (h : ta σ H fun x H1 => tb σ H1 fun y H2 => r x y H2 Q) : tOp r ta tb σ H Q := h
theorem hide_none {p q : Addr} {H : Hp} (h : H q = none) : hide p H q = none := by
  unfold hide
  split
  · rfl
  · exact h
end
section
variable {P : Program} {w : World} {K : PySem.W.Frag} {mg : Str → Option Value} {base : Heap} {tS tG : Tok} {aT aW : Addr} {f : Addr} {fd : FuncData}
def spPick : Sp := fun vs H Q _ => ∃ (g : Pn) (v : V) (b : Nat) (Rs : List RP), vs = [.ref g.p, v] ∧ PenI g b H ∧ b ≤ 1000000 ∧ 0 < Rs.length ∧ Rs.length ≤ 1000 ∧ (rLst Rs).p v H ∧ (∀ R ∈ Rs, Mk (hide g.p H) R) ∧
  ∀ r H', Ex (hide g.p H) H' → PenI g (b + 1) H' → (∃ R ∈ Rs, R.p r H') → Q r H'
abbrev N_law_pick : List Str := ["_law_pen_here", "_law_some"]
theorem sc_law_pick : FnScope N_law_pick ["_law_pen_here", "_law_some"] (defScope (top 53)) := ⟨rfl, rfl, rfl, by decide +kernel, rfl, by decide +kernel, by decide +kernel⟩
theorem ok_law_pick (F : Fun K "_law_pick" "_law_pick" (top 53) f fd) (T : Txt K mg tS tG aT aW) (G_law_draw : Cl P w K mg base 1 "_law_draw" spDraw) : FnOk P w K mg base CX0 2 f fd ["_law_pen_here", "_law_some"] spPick := by
  refine F.ok sc_law_pick (fun vs H Q E h => ?_) (fun cdv A outer s H vs Q E hr h => ⟨_, (pss_one (ps_ret (pe_ix (ixK (K := K)) (pv 1) (pe_cl G_law_draw (hr.mono (by decide)) (by rfl) (pa_cons (pv 0) (pa_cons (pe_callB cr_ln (by rfl) T.len b_len (pa_cons (pv 1) pa_nil)) pa_nil))) (fun _ _ => rfl)))), ?_⟩)
  · obtain ⟨_, _, _, _, rfl, _⟩ := h
    rfl
  obtain ⟨g, v, b, Rs, rfl, hp, hb, l0, l1, hv, hmk, q⟩ := h
  have S0 := st (N := N_law_pick) (Rs := [rV (.ref g.p), rLst Rs]) (vs := [.ref g.p, v]) (H := H) ⟨rfl, hv, trivial⟩
  refine s_retU (op_u ?_)
  refine (e_s S0 : Ev (tVar 1) _ H (rLst Rs)) H (exr H) _ fun x H1 e1 hx => ?_
  have S1 := S0.up e1
  refine p_draw (m := (Rs.length : Nat)) (a_cons (e_s S1) (a_cons (e_cb (a_cons (e_s S1) a_nil) cv_lnL) a_nil)) (hp.up e1) hb (by omega) (by omega) _ fun r H2 e2 hp2 ⟨i, hr2, i0, i1⟩ => ?_
  subst hr2
  obtain ⟨k, hk⟩ := (hp.up e1).dk
  obtain ⟨k2, hk2⟩ := hp2.dk
  haveI : MkL (hide g.p H) Rs := ⟨hmk⟩
  have hx2 := Mk.go (R := rLst Rs) (H0 := hide g.p H) hk hide_self e2 hk2 hx
  obtain ⟨n, rfl⟩ := Int.eq_ofNat_of_zero_le i0
  have hn : n < Rs.length := by omega
  exact ov_ixL (atI_nat (List.getElem?_eq_getElem hn)) x _ H2 hx2 rfl _ fun z H3 e3 hz => q z H3 ((hide_up e1 e2).trans e3) (hp2.up e3) ⟨_, List.getElem_mem hn, hz⟩
/-- left without the k-th -/
theorem cutk {α : Type} {xs : List α} {k : Nat} : cutR xs none (some (k : Int)) = xs.take k := by
  unfold cutR
  have e1 : HT.sIx xs.length xs.length (some (k : Int)) = min k xs.length := HT.sIx_nat xs.length xs.length k
  have e2 : HT.sIx xs.length 0 none = 0 := rfl
  rw [e1, e2, Nat.sub_zero, List.drop_zero]
  rcases Nat.le_total k xs.length with h | h
  · rw [Nat.min_eq_left h]
  · rw [Nat.min_eq_right h, List.take_of_length_le (Nat.le_refl _), List.take_of_length_le h]
theorem cutk1 {α : Type} {xs : List α} {k : Nat} : cutR xs (some (k : Int)) none = xs.drop k := by
  unfold cutR
  have e1 : HT.sIx xs.length 0 (some (k : Int)) = min k xs.length := HT.sIx_nat xs.length 0 k
  have e2 : HT.sIx xs.length xs.length none = xs.length := rfl
  rw [e1, e2]
  rcases Nat.le_total k xs.length with h | h
  · rw [Nat.min_eq_left h, List.take_of_length_le (by rw [List.length_drop]; omega)]
  · rw [Nat.min_eq_right h, List.drop_of_length_le (Nat.le_refl _), List.drop_of_length_le h]
    exact List.take_nil
def spShuf : Sp := fun vs H Q _ => ∃ (g : Pn) (v : V) (b : Nat) (zs : List Str), vs = [.ref g.p, v] ∧ PenI g b H ∧ b ≤ 900000 ∧ 0 < zs.length ∧ zs.length ≤ 60 ∧ (rLstL rStr zs).p v H ∧
  ∀ r H' ys, Ex (hide g.p H) H' → PenI g (b + zs.length) H' → List.Perm ys zs → (rLstL rStr ys).p r H' → Q r H'
abbrev N_law_shuffled : List Str := ["_law_pen_here", "_law_some", "_law_left", "_law_found", "_law_lap", "_law_k"]
theorem sc_law_shuffled : FnScope N_law_shuffled ["_law_pen_here", "_law_some"] (defScope (top 55)) := ⟨rfl, rfl, rfl, by decide +kernel, rfl, by decide +kernel, by decide +kernel⟩
theorem ok_law_shuffled (F : Fun K "_law_shuffled" "_law_shuffled" (top 55) f fd) (T : Txt K mg tS tG aT aW) (G_law_draw : Cl P w K mg base 1 "_law_draw" spDraw) : FnOk P w K mg base CX0 2 f fd ["_law_pen_here", "_law_some"] spShuf := by
  refine F.ok sc_law_shuffled (fun vs H Q E h => ?_) (fun cdv A outer s H vs Q E hr h => ⟨_, (pss_cons (ps_par (i := 2) (j := 3) (by rfl) sc_law_shuffled.nd rfl rfl (by decide) rfl rfl (pa_cons (pe_callTy cr_lof (by rfl) T.list b_list (pa_cons (pv 1) pa_nil)) (pa_cons (pe_lst pa_nil) pa_nil)) (by rfl)) (pss_cons (ps_for PassesOwn.never rfl (pi_range1 (by rfl) T.range (pa_cons (pe_callB cr_ln (by rfl) T.len b_len (pa_cons (pv 1) pa_nil)) pa_nil)) (pg_name (i := 4) sc_law_shuffled.nd rfl (Or.inl rfl)) (pss_cons (ps_set (i := 5) sc_law_shuffled.nd rfl (Or.inl rfl) (pe_cl G_law_draw (hr.mono (by decide)) (by rfl) (pa_cons (pv 0) (pa_cons (pe_callB cr_ln (by rfl) T.len b_len (pa_cons (pv 2) pa_nil)) pa_nil)))) (pss_cons (ps_expr (pe_bm PySem.F.plainAttrs_list PySem.F.slot_list_append PySem.F.type_list_append mt_append (pv 3) (pa_cons (pe_ix (ixK (K := K)) (pv 2) (pv 5) (fun _ _ => rfl)) pa_nil))) (pss_one (ps_set (i := 2) sc_law_shuffled.nd rfl (Or.inl rfl) (pe_op op_cat (pe_slice sl_list (pv 2) po_none (po_some (pv 5))) (pe_slice sl_list (pv 2) (po_some (pe_op op_add (pv 5) pe_int)) po_none))))))) (pss_one (ps_ret (pv 3))))), ?_⟩)
  · obtain ⟨_, _, _, _, rfl, _⟩ := h
    rfl
  obtain ⟨g, v, b, zs, rfl, hp, hb, hz0, hz, hv, q⟩ := h
  have S0 := st (N := N_law_shuffled) (Rs := [rV (.ref g.p), rLstL rStr zs]) (vs := [.ref g.p, v]) (H := H) ⟨rfl, hv, trivial⟩
  have n0 : hide g.p H g.p = none := hide_self
  refine q_parA S0 (a_cons (e_lofN (a_cons (e_sqL (e_s S0)) a_nil)) (a_cons (e_lstN a_nil) a_nil)) fun v1 v2 σ1 H1 e1 hl hf S1 => ?_
  obtain ⟨al0, lv0, rfl, nl0, hl0, al0'⟩ := hl
  obtain ⟨pf, fv0, rfl, npf, hf0, af0⟩ := hf
  have le0 := al0'.len
  have ne0 : al0 ≠ pf := fun z => by
    rw [z, hf0] at hl0
    cases hl0
    rw [af0.len] at le0
    rw [List.length_map] at le0
    simp at le0
    omega
  have hnf : hide g.p H pf = none := hide_none npf
  have pne := hp.ne npf
  refine q_forR (n := (zs.length : Nat)) (a_cons (e_is (e_cb (a_cons (e_s S1) a_nil) cv_lnL) (by rw [List.length_map])) a_nil) (by omega) (fun i σ' H' => ∃ al lv lf fv fo, H' al = some (.lst lv) ∧ AllP ((lf : List Str).map rStr) lv H' ∧ H' pf = some (.lst fv) ∧ AllP ((fo : List Str).map rStr) fv H' ∧ al ≠ pf ∧ (fo ++ lf).Perm zs ∧ fo.length = i ∧ PenI g (b + i) H' ∧ Ex (hide g.p H) H' ∧
      Sl σ' H' [some (rV (.ref g.p)), none, some (rV (.ref al)), some (rV (.ref pf)), none, none])
    (fun H2 e2 => ⟨al0, lv0, zs, fv0, [], e2 _ _ hl0, al0'.mono e2, e2 _ _ hf0, af0.mono e2, ne0, .refl _, rfl, (hp.up e1).up e2, (hide_le.trans e1).trans e2, (S1.up e2).forget (i := 1)⟩) ?_ ?_
  · rintro i σ2 H2 hi ⟨al, lv, lf, fv, fo, hal, pal, hpf, paf, ne, pm, hfo, hpen, E2, S2⟩
    have hi : i < zs.length := by simpa using hi
    have hlen : fo.length + lf.length = zs.length := by rw [← pm.length_eq, List.length_append]
    refine g_name (R := rInt (i : Nat)) S2 rfl fun σ3 S3 => ?_
    refine q_asgP (p_draw (a_cons (e_s S3) (a_cons (e_is (e_cb (a_cons (e_ol S3 hal pal) a_nil) cv_lnL) (by rw [List.length_map])) a_nil)) hpen (by omega) (m := (lf.length : Nat)) (by omega) (by omega)) fun v4 H4 e4 hp4 ⟨k, hv4, k0, k1⟩ => ?_
    subst hv4
    obtain ⟨kn, rfl⟩ := Int.eq_ofNat_of_zero_le k0
    have hk : kn < lf.length := by omega
    obtain ⟨d1, hd1⟩ := hpen.dk
    obtain ⟨d2, hd2⟩ := hp4.dk
    have nal : al ≠ g.p := fun z => by
      rw [z, hd1] at hal
      cases hal
    have hal4 := hide_at e4 hal nal
    have hpf4 := hide_at e4 hpf (Ne.symm pne.1)
    have pal4 := allP_go (H0 := hide g.p H) (fun R hR => by
      obtain ⟨_, _, rfl⟩ := List.mem_map.mp hR
      infer_instance) hd1 hide_self e4 hd2 pal
    have paf4 := allP_go (H0 := hide g.p H) (fun R hR => by
      obtain ⟨_, _, rfl⟩ := List.mem_map.mp hR
      infer_instance) hd1 hide_self e4 hd2 paf
    have S4 := (S3.go (H0 := hide g.p H) hd1 hide_self e4 hd2).set (j := 5) (R := rInt (kn : Nat)) (v := .int kn) rfl
    have lfo := paf4.len
    rw [List.length_map] at lfo
    refine q_app (R := rStr lf[kn]) hpf4 (e_s S4) (e_op (e_ol S4 hal4 pal4) (e_s S4) (ov_ixL (atI_nat (by rw [List.getElem?_map, List.getElem?_eq_getElem hk]; rfl)))) (by omega) fun v5 H5 e5 r5 h5 => ?_
    have S5 := (S4.up e5).mut (H0 := hide g.p H) (o := .lst (fv ++ [v5])) h5 nt_l hnf
    have paf5 : AllP ((fo ++ [lf[kn]]).map rStr) (fv ++ [v5]) (upd H5 pf (.lst (fv ++ [v5]))) := by
      refine allP_ms h5 nt_l hnf ms_strs ?_
      rw [List.map_append]
      exact (paf4.mono e5).app (show AllP [rStr _] [v5] H5 from ⟨r5, trivial⟩)
    have pal5 : AllP (lf.map rStr) lv (upd H5 pf (.lst (fv ++ [v5]))) := allP_ms h5 nt_l hnf ms_strs (pal4.mono e5)
    have hal5 : (upd H5 pf (.lst (fv ++ [v5]))) al = some (.lst lv) := by
      rw [upd_ne ne]
      exact e5 _ _ hal4
    have hpen5 := (hp4.up e5).mut (o := .lst (fv ++ [v5])) pne.1 pne.2
    have E5 : Ex (hide g.p H) (upd H5 pf (.lst (fv ++ [v5]))) := Evl.Ex.mut ((hide_tr E2 e4).trans e5) hnf
    have hpf5 : (upd H5 pf (.lst (fv ++ [v5]))) pf = some (.lst (fv ++ [v5])) := upd_same
    generalize upd H5 pf (.lst (fv ++ [v5])) = HH at S5 paf5 pal5 hal5 hpen5 E5 hpf5 ⊢
    refine s_asg (R := rNewL HH ((lf.take kn ++ lf.drop (kn + 1)).map rStr)) (e_is (e_catN (Rs := (lf.take kn).map rStr) (Ss := (lf.drop (kn + 1)).map rStr) (e_is (e_sl (e_ol S5 hal5 pal5) o_none (o_some (e_s S5)) sv_L) (by rw [cutR_map, cutk])) (e_is (e_sl (e_ol S5 hal5 pal5) (o_some (e_op (e_s S5) e_c ov_I0)) o_none sv_L) (by
      rw [cutR_map]
      exact congrArg (fun z : List Str => rLst (z.map rStr)) (cutk1 (k := kn + 1)))) (by
      rw [List.length_map, List.length_map, List.length_take, List.length_drop]
      omega)) (by rw [← List.map_append])) fun v6 H6 e6 r6 => ?_
    obtain ⟨al6, lv6, rfl, n6, h6, p6⟩ := r6
    refine ⟨al6, lv6, _, fv ++ [v5], fo ++ [lf[kn]], h6, p6, e6 _ _ hpf5, paf5.mono e6, fun z => ?_, ?_, by rw [List.length_append, hfo]; rfl, hpen5.up e6, E5.trans e6, (((S5.up e6).set (j := 2) (R := rV (.ref al6)) (v := .ref al6) rfl).forget (i := 4)).forget (i := 5)⟩
    · rw [z, hpf5] at n6
      cases n6
    · refine List.Perm.trans ?_ pm
      rw [List.append_assoc]
      refine List.Perm.append_left _ ?_
      have h : lf = lf.take kn ++ lf[kn] :: lf.drop (kn + 1) := by
        rw [← List.drop_eq_getElem_cons hk, List.take_append_drop]
      conv => rhs; rw [h]
      show (lf[kn] :: (lf.take kn ++ lf.drop (kn + 1))).Perm _
      exact List.perm_middle.symm
  · rintro σ2 H2 ⟨al, lv, lf, fv, fo, hal, pal, hpf, paf, ne, pm, hfo, hpen, E2, S2⟩
    have hfo : fo.length = zs.length := hfo
    have hlen : fo.length + lf.length = zs.length := by rw [← pm.length_eq, List.length_append]
    have hlf : lf = [] := List.length_eq_zero_iff.mp (by omega)
    rw [hlf, List.append_nil] at pm
    exact s_ret (e_ol S2 hpf paf) fun v H3 e3 hv => q v H3 fo (E2.trans e3) (hpen.up e3) pm hv
end
end Kx
set_option Elab.async false
set_option linter.all false
set_option maxRecDepth 100000
set_option maxHeartbeats 4000000
/-! D13: small ones of the law. -/
namespace Kx
open PySem L2 PyProof.Rows
section
variable {P : Program} {w : World} {K : PySem.W.Frag} {mg : Str → Option Value} {base : Heap} {tS tG : Tok} {aT aW : Addr} {f : Addr} {fd : FuncData}
abbrev spWBeside : Sp := Fn pTrue (fun c : Cell => [rCell c]) fun c => rLstL rCell (besideC c)
abbrev N_law_w_beside : List Str := ["_law_cell"]
theorem sc_law_w_beside : FnScope N_law_w_beside ["_law_cell"] (defScope (top 56)) := ⟨rfl, rfl, rfl, by decide +kernel, rfl, by decide +kernel, by decide +kernel⟩
theorem ok_law_w_beside (F : Fun K "_law_w_beside" "_law_w_beside" (top 56) f fd) (T : Txt K mg tS tG aT aW) : FnOk P w K mg base CX0 1 f fd ["_law_cell"] spWBeside := by
  refine F.ok sc_law_w_beside (Fn.len fun _ => rfl) (fun cdv A outer s H vs Q E hr h => ⟨_, (pss_one (ps_ret (pe_lst (pa_cons (pe_tup (pa_cons (pe_op op_sub (pe_ix (ixK (K := K)) (pv 0) pe_int (fun _ _ => rfl)) pe_int) (pa_cons (pe_ix (ixK (K := K)) (pv 0) pe_int (fun _ _ => rfl)) pa_nil))) (pa_cons (pe_tup (pa_cons (pe_ix (ixK (K := K)) (pv 0) pe_int (fun _ _ => rfl)) (pa_cons (pe_op op_sub (pe_ix (ixK (K := K)) (pv 0) pe_int (fun _ _ => rfl)) pe_int) pa_nil))) (pa_cons (pe_tup (pa_cons (pe_op op_add (pe_ix (ixK (K := K)) (pv 0) pe_int (fun _ _ => rfl)) pe_int) (pa_cons (pe_ix (ixK (K := K)) (pv 0) pe_int (fun _ _ => rfl)) pa_nil))) (pa_cons (pe_tup (pa_cons (pe_ix (ixK (K := K)) (pv 0) pe_int (fun _ _ => rfl)) (pa_cons (pe_op op_add (pe_ix (ixK (K := K)) (pv 0) pe_int (fun _ _ => rfl)) pe_int) pa_nil))) pa_nil))))))), ?_⟩)
  obtain ⟨c, _, hv, q⟩ := h
  have S := st (N := N_law_w_beside) (Rs := [rCell c]) hv
  exact s_ret (e_lst (Rs := (besideC c).map rCell) (a_cons (e_tup (Rs := [rInt (c.1 - 1), rInt c.2]) (a_cons (e_op (e_op (e_s S) e_c (ov_ixT rfl)) e_c ov_I0) (a_cons (e_op (e_s S) e_c (ov_ixT rfl)) a_nil))) (a_cons (e_tup (Rs := [rInt c.1, rInt (c.2 - 1)]) (a_cons (e_op (e_s S) e_c (ov_ixT rfl)) (a_cons (e_op (e_op (e_s S) e_c (ov_ixT rfl)) e_c ov_I0) a_nil)))
    (a_cons (e_tup (Rs := [rInt (c.1 + 1), rInt c.2]) (a_cons (e_op (e_op (e_s S) e_c (ov_ixT rfl)) e_c ov_I0) (a_cons (e_op (e_s S) e_c (ov_ixT rfl)) a_nil))) (a_cons (e_tup (Rs := [rInt c.1, rInt (c.2 + 1)]) (a_cons (e_op (e_s S) e_c (ov_ixT rfl)) (a_cons (e_op (e_op (e_s S) e_c (ov_ixT rfl)) e_c ov_I0) a_nil))) a_nil))))) q
abbrev spBoth : Sp := Fn pTrue (fun d : List Cell × Cell × Cell × Cell => [rDic (tr d.1), rCell d.2.1, rCell d.2.2.1, rCell d.2.2.2]) fun d => rBl (isin d.1 (addC d.2.1 d.2.2.2) && isin d.1 (addC d.2.2.1 d.2.2.2))
abbrev N_law_t4both : List Str := ["_law_rest", "_law_one", "_law_two", "_law_n"]
theorem sc_law_t4both : FnScope N_law_t4both ["_law_rest", "_law_one", "_law_two", "_law_n"] (defScope (top 61)) := ⟨rfl, rfl, rfl, by decide +kernel, rfl, by decide +kernel, by decide +kernel⟩
theorem ok_law_t4both (F : Fun K "_law_t4both" "_law_t4both" (top 61) f fd) (T : Txt K mg tS tG aT aW) : FnOk P w K mg base CX0 1 f fd ["_law_rest", "_law_one", "_law_two", "_law_n"] spBoth := by
  refine F.ok sc_law_t4both (Fn.len fun _ => rfl) (fun cdv A outer s H vs Q E hr h => ⟨_, (pss_one (ps_ret (pe_and (pe_cmp (pc_din (hu_of hr) (pe_tup (pa_cons (pe_op op_add (pe_ix (ixK (K := K)) (pv 1) pe_int (fun _ _ => rfl)) (pe_ix (ixK (K := K)) (pv 3) pe_int (fun _ _ => rfl))) (pa_cons (pe_op op_add (pe_ix (ixK (K := K)) (pv 1) pe_int (fun _ _ => rfl)) (pe_ix (ixK (K := K)) (pv 3) pe_int (fun _ _ => rfl))) pa_nil))) (pv 0))) (pe_one (pe_cmp (pc_din (hu_of hr) (pe_tup (pa_cons (pe_op op_add (pe_ix (ixK (K := K)) (pv 2) pe_int (fun _ _ => rfl)) (pe_ix (ixK (K := K)) (pv 3) pe_int (fun _ _ => rfl))) (pa_cons (pe_op op_add (pe_ix (ixK (K := K)) (pv 2) pe_int (fun _ _ => rfl)) (pe_ix (ixK (K := K)) (pv 3) pe_int (fun _ _ => rfl))) pa_nil))) (pv 0))))))), ?_⟩)
  obtain ⟨⟨r, x, y, n⟩, _, hv, q⟩ := h
  have S := st (N := N_law_t4both) (Rs := [rDic (tr r), rCell x, rCell y, rCell n]) hv
  have k : ∀ (i : Nat) (z : Cell) (h : (List.map some [rDic (tr r), rCell x, rCell y, rCell n] ++ List.replicate (N_law_t4both.length - [rDic (tr r), rCell x, rCell y, rCell n].length) none)[i]? = some (some (rCell z))), Ev (tDIn (tTup (tCons (tOp (rI0 fun i j => V.int (i + j)) (tOp (rIx K) (tVar i) (tC (V.int 0))) (tOp (rIx K) (tVar 3) (tC (V.int 0)))) (tCons (tOp (rI0 fun i j => V.int (i + j)) (tOp (rIx K) (tVar i) (tC (V.int 1))) (tOp (rIx K) (tVar 3) (tC (V.int 1)))) tNil))) (tVar 0)) (start N_law_t4both vs) H (rBl (isin r (addC z n))) := fun i z h =>
    e_is (e_din (c := addC z n) (e_tup (Rs := [rInt (z.1 + n.1), rInt (z.2 + n.2)]) (a_cons (e_op (e_op (e_s S h) e_c (ov_ixT rfl)) (e_op (e_s S) e_c (ov_ixT rfl)) ov_I0) (a_cons (e_op (e_op (e_s S h) e_c (ov_ixT rfl)) (e_op (e_s S) e_c (ov_ixT rfl)) ov_I0) a_nil))) (e_s S)) (by rw [tr_keys])
  exact s_ret (e_andV (k 1 x rfl) fun _ => k 2 y rfl) q
abbrev spMoved : Sp := Fn (fun d : List Cell × Cell × Cell => d.1.length ≤ 1000) (fun d => [rTupL rCell d.1, rCell d.2.1, rCell d.2.2]) fun d => rTupL rCell (movedC d.1 d.2.1 d.2.2)
abbrev N_law_w_moved : List Str := ["_law_cells", "_law_start", "_law_end", "_law_cell"]
theorem sc_law_w_moved : FnScope N_law_w_moved ["_law_cells", "_law_start", "_law_end"] (defScope (top 59)) := ⟨rfl, rfl, rfl, by decide +kernel, rfl, by decide +kernel, by decide +kernel⟩
theorem ok_law_w_moved (F : Fun K "_law_w_moved" "_law_w_moved" (top 59) f fd) (T : Txt K mg tS tG aT aW) : FnOk P w K mg base CX0 1 f fd ["_law_cells", "_law_start", "_law_end"] spMoved := by
  refine F.ok sc_law_w_moved (Fn.len fun _ => rfl) (fun cdv A outer s H vs Q E hr h => ⟨_, (pss_one (ps_ret (pe_callTy cr_tof (by rfl) T.tuple b_tuple (pa_cons (pe_callB (cr_srt hr.units) (by rfl) T.sorted b_sorted (pa_cons (pe_op op_cat (pe_lc (own := [("_law_cell", 3)]) (g := (gName 3)) (by rfl) sc_law_w_moved.nd (pi_seq (pv 0)) (blkOk_by (N := N_law_w_moved) (sc := defScope (top 59)) (own := [("_law_cell", 3)]) (by decide +kernel)) (fun _ _ _ _ _ => (pg_name (i := 3) sc_law_w_moved.nd rfl (Or.inl rfl))) (fun _ _ _ _ _ => (pts_one (pt_cmpR (neDK (K := K) hr.units) (pv 3) (pv 1) (nomark _)))) (fun _ _ _ _ _ => (pv 3))) (pe_lst (pa_cons (pv 2) pa_nil))) pa_nil)) pa_nil)))), ?_⟩)
  obtain ⟨⟨b, s0, e0⟩, hl, hv, q⟩ := h
  have hl : b.length ≤ 1000 := hl
  have S := st (N := N_law_w_moved) (Rs := [rTupL rCell b, rCell s0, rCell e0]) hv
  have hfl := List.length_filter_le (fun c => !eqC c s0) b
  exact s_ret (R := rTupL rCell (movedC b s0 e0)) (e_cb (a_cons (e_cb (Rz := rLstL rCell (movedC b s0 e0)) (a_cons (R := rLstL rCell ((b.filter fun c => !eqC c s0) ++ [e0])) (Rs := []) (e_is (e_op (Rx := rLst ((b.filter fun c => !eqC c s0).map rCell)) (e_lc (ds := b) (f := rCell) (out := rCell) (b := fun c => !eqC c s0) S (i_seq (e_sqT (e_s S))) (fun d _ => tg_name) (by omega)
      (fun o _ σ' H' e' S' => t_test (e_op (e_s S') (e_s S') ov_neC)) fun o _ _ σ' H' e' S' => e_s S') (e_lst (Rs := [rCell e0]) (a_cons (e_s S) a_nil)) (ov_cat (by rw [List.length_map]; exact Nat.le_trans (Nat.add_le_add_right hfl 1) (by omega)))) (by unfold rLstL; rw [List.map_append]; rfl)) a_nil) (cv_srtL dat_cell (sok_cells _ (by rw [List.length_append, List.length_singleton]; omega)))) a_nil) cv_tof) q
abbrev spRow4 : Sp := Fn (fun d : Cell × Nat => d.2 ≤ 1000) (fun d => [rCell d.1, rInt (d.2 : Nat)]) fun d => rTupL rCell (rowC d.1 d.2)
abbrev N_law_t4row : List Str := ["_law_first", "_law_n", "_law_k"]
theorem sc_law_t4row : FnScope N_law_t4row ["_law_first", "_law_n"] (defScope (top 64)) := ⟨rfl, rfl, rfl, by decide +kernel, rfl, by decide +kernel, by decide +kernel⟩
theorem ok_law_t4row (F : Fun K "_law_t4row" "_law_t4row" (top 64) f fd) (T : Txt K mg tS tG aT aW) : FnOk P w K mg base CX0 1 f fd ["_law_first", "_law_n"] spRow4 := by
  refine F.ok sc_law_t4row (Fn.len fun _ => rfl) (fun cdv A outer s H vs Q E hr h => ⟨_, (pss_one (ps_ret (pe_callTy cr_tof (by rfl) T.tuple b_tuple (pa_cons (pe_lc (own := [("_law_k", 2)]) (g := (gName 2)) (tt := tYes) (by rfl) sc_law_t4row.nd (pi_range1 (by rfl) T.range (pa_cons (pv 1) pa_nil)) (blkOk_by (N := N_law_t4row) (sc := defScope (top 64)) (own := [("_law_k", 2)]) (by decide +kernel)) (fun _ _ _ _ _ => (pg_name (i := 2) sc_law_t4row.nd rfl (Or.inl rfl))) (fun _ _ _ _ _ => pts_nil) (fun _ _ _ _ _ => (pe_tup (pa_cons (pe_op op_add (pe_ix (ixK (K := K)) (pv 0) pe_int (fun _ _ => rfl)) (pv 2)) (pa_cons (pe_ix (ixK (K := K)) (pv 0) pe_int (fun _ _ => rfl)) pa_nil))))) pa_nil)))), ?_⟩)
  obtain ⟨⟨c, n⟩, h2, hv, q⟩ := h
  have h2 : n ≤ 1000 := h2
  have S2 := st (N := N_law_t4row) (Rs := [rCell c, rInt (n : Nat)]) hv
  refine s_ret (R := rTupL rCell (rowC c n)) (e_cb (a_cons (Rs := []) (R := rLstL rCell (rowC c n)) (e_is (e_lcA (ds := List.range n) (f := fun k : Nat => rInt (k : Nat)) (out := fun k : Nat => rCell (c.1 + (k : Int), c.2)) S2 (i_rng (n := (n : Nat)) (a_cons (e_s S2) a_nil) (by omega)) (fun d _ => tg_name) (by rw [List.length_range]; omega)
    fun k _ σ' H' e' S' => e_tup (a_cons (e_op (e_op (e_s S') e_c (ov_ixT rfl)) (e_s S') ov_I0) (a_cons (e_op (e_s S') e_c (ov_ixT rfl)) a_nil))) ?_) a_nil) cv_tof) q
  unfold rowC rLstL
  rw [List.map_map]
  rfl
abbrev spHeld4 : Sp := Fn pTrue (fun d : Cell × Nat => [rCell d.1, rInt (d.2 : Nat)]) fun d => rLstL rPr (heldW d.1 d.2)
abbrev N_law_t4held : List Str := ["_law_first", "_law_n", "_law_column", "_law_row", "_law_above"]
theorem sc_law_t4held : FnScope N_law_t4held ["_law_first", "_law_n"] (defScope (top 69)) := ⟨rfl, rfl, rfl, by decide +kernel, rfl, by decide +kernel, by decide +kernel⟩
theorem ok_law_t4held (F : Fun K "_law_t4held" "_law_t4held" (top 69) f fd) (T : Txt K mg tS tG aT aW) : FnOk P w K mg base CX0 1 f fd ["_law_first", "_law_n"] spHeld4 := by
  refine F.ok sc_law_t4held (Fn.len fun _ => rfl) (fun cdv A outer s H vs Q E hr h => ⟨_, (pss_cons (ps_asg (pv 0) (pg_tup rfl (pgs_cons (pg_name (i := 2) sc_law_t4held.nd rfl (Or.inl rfl)) (pgs_cons (pg_name (i := 3) sc_law_t4held.nd rfl (Or.inl rfl)) pgs_nil)))) (pss_cons (ps_set (i := 4) sc_law_t4held.nd rfl (Or.inl rfl) (pe_tup (pa_cons (pe_op op_sub (pe_op op_add (pv 2) (pv 1)) pe_int) (pa_cons (pe_op op_add (pv 3) pe_int) pa_nil)))) (pss_one (ps_ret (pe_lst (pa_cons (pe_tup (pa_cons (pv 0) (pa_cons (pv 4) pa_nil))) (pa_cons (pe_tup (pa_cons (pe_tup (pa_cons (pe_op op_add (pv 2) pe_int) (pa_cons (pv 3) pa_nil))) (pa_cons (pe_tup (pa_cons (pe_op op_add (pv 2) (pv 1)) (pa_cons (pv 3) pa_nil))) pa_nil))) (pa_cons (pe_tup (pa_cons (pv 4) (pa_cons (pe_tup (pa_cons (pe_op op_add (pv 2) pe_int) (pa_cons (pv 3) pa_nil))) pa_nil))) pa_nil)))))))), ?_⟩)
  obtain ⟨⟨c, n⟩, _, hv, q⟩ := h
  have S0 := st (N := N_law_t4held) (Rs := [rCell c, rInt (n : Nat)]) hv
  refine q_unp2 S0 (e_s S0) fun σ3 H3 e3 S3 => ?_
  refine q_asg (R := rCell (c.1 + (n : Int) - 1, c.2 + 1)) S3 (e_tup (a_cons (e_op (e_op (e_s S3) (e_s S3) ov_I0) e_c ov_I0) (a_cons (e_op (e_s S3) e_c ov_I0) a_nil))) fun σ4 H4 e4 S4 => ?_
  exact s_ret (R := rLstL rPr (heldW c n)) (e_lst (Rs := (heldW c n).map rPr) (a_cons (e_tup (Rs := [rCell c, rCell (c.1 + (n : Int) - 1, c.2 + 1)]) (a_cons (e_s S4) (a_cons (e_s S4) a_nil))) (a_cons (e_tup (Rs := [rCell (c.1 + 1, c.2), rCell (c.1 + (n : Int), c.2)]) (a_cons (e_tup (Rs := [rInt (c.1 + 1), rInt c.2]) (a_cons (e_op (e_s S4) e_c ov_I0) (a_cons (e_s S4) a_nil))) (a_cons (e_tup (Rs := [rInt (c.1 + (n : Int)), rInt c.2]) (a_cons (e_op (e_s S4) (e_s S4) ov_I0) (a_cons (e_s S4) a_nil))) a_nil)))
    (a_cons (e_tup (Rs := [rCell (c.1 + (n : Int) - 1, c.2 + 1), rCell (c.1 + 1, c.2)]) (a_cons (e_s S4) (a_cons (e_tup (Rs := [rInt (c.1 + 1), rInt c.2]) (a_cons (e_op (e_s S4) e_c ov_I0) (a_cons (e_s S4) a_nil))) a_nil))) a_nil)))) fun v H7 e7 hv => q v H7 ((e3.trans e4).trans e7) hv
abbrev spStep4 : Sp := FnN (fun d : List Str × Str => 2 ≤ d.1.length ∧ d.1.length ≤ 1000) (fun d => [rLstL rStr d.1, rStr d.2]) fun d => (stepF d.1 d.2).map rStr
abbrev N_law_t4stepped : List Str := ["_law_order", "_law_step"]
theorem sc_law_t4stepped : FnScope N_law_t4stepped ["_law_order", "_law_step"] (defScope (top 70)) := ⟨rfl, rfl, rfl, by decide +kernel, rfl, by decide +kernel, by decide +kernel⟩
theorem ok_law_t4stepped (F : Fun K "_law_t4stepped" "_law_t4stepped" (top 70) f fd) (T : Txt K mg tS tG aT aW) : FnOk P w K mg base CX0 1 f fd ["_law_order", "_law_step"] spStep4 := by
  refine F.ok sc_law_t4stepped (FnN.len fun _ => rfl) (fun cdv A outer s H vs Q E hr h => ⟨_, (pss_cons (ps_if (pt_cmpR op_eq (pv 1) pe_str (nomark _)) (pss_one (ps_ret (pe_op op_cat (pe_callTy cr_lof (by rfl) T.list b_list (pa_cons (pe_slice sl_list (pv 0) (po_some pe_int) po_none) pa_nil)) (pe_lst (pa_cons (pe_ix (ixK (K := K)) (pv 0) pe_int (fun _ _ => rfl)) pa_nil))))) pss_nil) (pss_one (ps_ret (pe_op op_cat (pe_op op_cat (pe_lst (pa_cons (pe_ix (ixK (K := K)) (pv 0) pe_int (fun _ _ => rfl)) pa_nil)) (pe_callTy cr_lof (by rfl) T.list b_list (pa_cons (pe_slice sl_list (pv 0) (po_some pe_int) po_none) pa_nil))) (pe_lst (pa_cons (pe_ix (ixK (K := K)) (pv 0) pe_int (fun _ _ => rfl)) pa_nil)))))), ?_⟩)
  obtain ⟨⟨o, z⟩, ⟨hl2, hl⟩, hv, q⟩ := h
  have hl2 : 2 ≤ o.length := hl2
  have hl : o.length ≤ 1000 := hl
  obtain ⟨x, y, r, rfl⟩ : ∃ x y r, o = x :: y :: r := by
    match o, hl2 with
    | x :: y :: r, _ => exact ⟨x, y, r, rfl⟩
    | [x], h => simp at h
  have S := st (N := N_law_t4stepped) (Rs := [rLstL rStr (x :: y :: r), rStr z]) hv
  rw [List.length_cons, List.length_cons] at hl
  have q : ∀ (v : V) (H' : Hp), Ex H H' → (rNewL H ((stepF (x :: y :: r) z).map rStr)).p v H' → Q v H' := q
  unfold stepF at q
  refine q_if (t_test (e_op (e_s S) e_c ov_eqS)) (fun hb H1 e1 => ?_) fun hb H1 e1 => ?_
  · rw [if_pos (of_decide_eq_true hb)] at q
    have S1 := S.up e1
    exact s_ret (e_is (e_catN (Rs := (y :: r).map rStr) (Ss := [x].map rStr) (e_cb (a_cons (e_sqL (e_is (e_sl (e_s S1) (o_some e_c) o_none sv_L) (by rw [cutR_map, cut1]; rfl))) a_nil) cv_lof) (e_lst (Rs := [rStr x]) (a_cons (e_op (e_s S1) e_c (ov_ixL (atI_nat (i := 0) rfl))) a_nil)) (by rw [List.length_map, List.length_map, List.length_cons]; show r.length + 1 + 1 ≤ 100000; omega)) (by rw [← List.map_append]; rfl)) fun v H2 e2 hv => q v H2 (e1.trans e2) (rNewL.back e1 hv)
  · rw [if_neg (of_decide_eq_false hb)] at q
    have S1 := S.up e1
    exact s_ret (e_is (e_catN (Rs := ([x] ++ r).map rStr) (Ss := [y].map rStr) (e_is (e_op (Rx := rLstL rStr [x]) (Ry := rLstL rStr r) (e_lst (Rs := [rStr x]) (a_cons (e_op (e_s S1) e_c (ov_ixL (atI_nat (i := 0) rfl))) a_nil)) (e_cb (a_cons (e_sqL (e_is (e_sl (e_s S1) (o_some e_c) o_none sv_L) (by rw [cutR_map, cut2]; rfl))) a_nil) cv_lof) (ov_cat (by rw [List.length_map, List.length_map]; show 1 + r.length ≤ 100000; omega))) (by rw [← List.map_append])) (e_lst (Rs := [rStr y]) (a_cons (e_op (e_s S1) e_c (ov_ixL (atI_nat (i := 1) rfl))) a_nil)) (by rw [List.length_map, List.length_map]; show ([x] ++ r).length + 1 ≤ 100000; rw [List.length_append]; show 1 + r.length + 1 ≤ 100000; omega)) (by rw [← List.map_append]; rfl)) fun v H2 e2 hv => q v H2 (e1.trans e2) (rNewL.back e1 hv)
end
end Kx
set_option Elab.async false
set_option linter.all false
set_option maxRecDepth 100000
set_option maxHeartbeats 4000000
/-! K18: dict(pairs), keys, values, len of a dict. -/
namespace Kx
open PySem L2 PyProof.Rows
abbrev rCT (c : Cell) : RP := rTup [rCell c, rBl true]
theorem mergeT_new : ∀ {cs : List Cell} {kvs : List (Cell × V)}, (kvs.map (·.1) ++ cs).Nodup → mergeT (kvs.map fun p => (ck p.1, p.2)) (cs.map fun c => (ck c, V.bl true)) = (kvs ++ tr cs).map fun p => (ck p.1, p.2)
  | [], kvs, _ => by
    show kvs.map _ = (kvs ++ []).map _
    rw [List.append_nil]
  | c :: cs, kvs, h => by
    have hc : c ∉ kvs.map (·.1) := fun z => by
      have := (List.nodup_append.mp h).2.2 c z c List.mem_cons_self
      exact this rfl
    show mergeT (putK (kvs.map fun p => (ck p.1, p.2)) (ck c) (.bl true)) (cs.map fun c => (ck c, V.bl true)) = _
    rw [putK_map ck_inj, putC_new hc, mergeT_new (kvs := kvs ++ [(c, V.bl true)]) (by
      rw [List.map_append, List.append_assoc]
      exact h), List.append_assoc]
    rfl
theorem prs_of {K : PySem.W.Frag} {H : Hp} : ∀ {cs : List Cell} {xs : List V}, AllP (cs.map rCT) xs H → ∃ ps : List Addr, xs = ps.map V.ref ∧ Paired (IsPrT K H) ps (cs.map fun c => (ck c, V.bl true))
  | [], [], _ => ⟨[], rfl, .nil⟩
  | c :: cs, x :: xs, h => by
    obtain ⟨ps, h1, h2⟩ := prs_of (K := K) h.2
    obtain ⟨a, ys, rfl, ha, hy⟩ := h.1
    obtain ⟨u, v, rfl, hu, hv⟩ := hy.two
    obtain ⟨b, rfl, hb⟩ := cell_at hu
    have hv : v = .bl true := hv
    subst hv
    exact ⟨a :: ps, by rw [h1]; rfl, .cons ⟨b, SqT.of ha, hb⟩ h2⟩
  | [], _ :: _, h => h.elim
  | _ :: _, [], h => h.elim
section
variable {K : PySem.W.Frag} {σ : L2.St} {H : Hp} {t : TA} {td : TE} {kvs ls : List (Cell × V)}
theorem e_dctT {cs : List Cell} (h : EvA t σ H [rLstL rCT cs]) (nd : cs.Nodup) : Ev (tCB (rDictT K) t) σ H (rNewD H (tr cs)) := fun H1 e Q q => h H1 e _ fun vs H2 e2 hv => by
  obtain ⟨v, rfl, a, xs, rfl, ha, hx⟩ := hv.one
  obtain ⟨ps, rfl, hp⟩ := prs_of (K := K) hx
  refine ⟨a, ps, _, rfl, SqL.of ha, hp, fun p hp => ?_⟩
  have hm := mergeT_new (cs := cs) (kvs := []) nd
  have hm : mergeT [] (cs.map fun c => (ck c, V.bl true)) = (tr cs).map fun p => (ck p.1, p.2) := hm
  rw [hm]
  exact q _ _ (e2.trans (Evl.Ex.new hp)) ⟨p, rfl, Evl.fresh_back (e.trans e2) hp, upd_same⟩
theorem e_newD (h : Ev td σ H (rNewD H kvs)) : Ev td σ H (rDic kvs) := h.imp fun _ _ _ ⟨a, e, _, h⟩ => ⟨a, e, h⟩
theorem cv_lenT : CbV rLenT [rDic kvs] (rInt (kvs.length : Nat)) := fun vs H hv Q q => by
  obtain ⟨v, rfl, a, rfl, ha⟩ := hv.one
  exact ⟨a, _, rfl, ha, q _ H (exr H) (by rw [List.length_map])⟩
theorem ov_eqT0 (h : kvs.length ≠ ls.length) : OpV rEqT0 (rDic kvs) (rDic ls) (rBl false) := fun x y H ⟨a, e1, h1⟩ ⟨b, e2, h2⟩ Q q => ⟨a, b, _, _, e1, e2, h1, h2, by rw [List.length_map, List.length_map]; exact h, q _ H (exr H) rfl⟩
/-- the keys, as a view -/
def rVwC (kvs : List (Cell × V)) : RP := ⟨fun v H => ∃ p a, v = .ref p ∧ H p = some (vwK p a) ∧ H a = some (dC kvs), fun e ⟨p, a, h1, h2, h3⟩ => ⟨p, a, h1, e _ _ h2, e _ _ h3⟩⟩
theorem e_keysC (h : Ev td σ H (rDic kvs)) : Ev (tBM0 K "dict" (rVw vwK) td) σ H (rVwC kvs) := fun H1 e Q q => h H1 e _ fun v H2 e2 ⟨a, ev, ha⟩ => by
  subst ev
  exact ⟨.inr (.inr (.inl ⟨rfl, .inr ⟨_, ha⟩⟩)), a, rfl, rfl, .inr ⟨_, ha⟩, fun p hp => q _ _ (e2.trans (Evl.Ex.new hp)) ⟨p, a, rfl, upd_same, (Evl.Ex.new hp) _ _ ha⟩⟩
theorem cv_keysC : CbV rLstView [rVwC kvs] (rLstL rCell (kvs.map (·.1))) := fun vs H hv Q q => by
  obtain ⟨v, rfl, p, a, rfl, hp, ha⟩ := hv.one
  exact ⟨p, a, rfl, .inr (.inr ⟨_, hp, ha, fun bs z hb hz => q _ _ (Evl.Ex.new hz) ⟨z, _, rfl, upd_same, (keys_cells hb).mono (Evl.Ex.new hz)⟩⟩)⟩
end
end Kx
set_option Elab.async false
set_option linter.all false
set_option maxRecDepth 100000
set_option maxHeartbeats 4000000
/-! D14: the law's own hanging. -/
namespace Kx
open PySem L2 PyProof.Rows
def hangW (l : List Cell) : Nat → List Cell → List Cell → Option (List Cell)
  | 0, _, _ => none
  | n + 1, seen, w => match w.getLast? with
    | none => some seen
    | some c => if isin seen c = true then hangW l n seen w.dropLast else hangW l n (seen ++ [c]) (w.dropLast ++ (besideC c).filter fun o => isin l o && !isin (seen ++ [c]) o)
theorem hangW_nil {l seen : List Cell} {m : Nat} {r : List Cell} (h : hangW l m seen [] = some r) : r = seen := by
  cases m with
  | zero => cases h
  | succ n =>
    have h : some seen = some r := h
    exact (Option.some.inj h).symm
theorem hangW_snoc {l seen w : List Cell} {m : Nat} {c : Cell} {r : List Cell} (h : hangW l m seen (w ++ [c]) = some r) : ∃ n, m = n + 1 ∧ (if isin seen c = true then hangW l n seen w else hangW l n (seen ++ [c]) (w ++ (besideC c).filter fun o => isin l o && !isin (seen ++ [c]) o)) = some r := by
  cases m with
  | zero => cases h
  | succ n =>
    refine ⟨n, rfl, ?_⟩
    unfold hangW at h
    rw [List.getLast?_concat] at h
    rw [List.dropLast_concat] at h
    exact h
theorem cutm1 {α : Type} {xs : List α} {x : α} : cutR (xs ++ [x]) none (some (-1)) = xs := by
  unfold cutR
  have e1 : HT.sIx (xs ++ [x]).length (xs ++ [x]).length (some (-1)) = xs.length := by
    unfold HT.sIx
    simp
    omega
  have e2 : HT.sIx (xs ++ [x]).length 0 none = 0 := rfl
  rw [e1, e2, Nat.sub_zero, List.drop_zero, List.take_left']
  rfl
section
variable {P : Program} {w : World} {K : PySem.W.Frag} {mg : Str → Option Value} {base : Heap} {tS tG : Tok} {aT aW : Addr} {f : Addr} {fd : FuncData}
structure HwP (cs seen : List Cell) : Prop where
  nd : cs.Nodup
  len : cs.length ≤ 100
  ne : cs ≠ []
  h : ∃ first rest, srtC cs = first :: rest ∧ hangW cs 1000 [] [first] = some seen
abbrev spWHangs : Sp := Fn (fun d : List Cell × List Cell => HwP d.1 d.2) (fun d => [rLstL rCell d.1]) fun d => rBl (decide (((d.2.length : Nat) : Int) = ((d.1.length : Nat) : Int)))
abbrev N_law_w_hangs : List Str := ["_law_cells", "_law_left", "_law_seen", "_law_waiting", "_law_cell", "_law_other"]
theorem sc_law_w_hangs : FnScope N_law_w_hangs ["_law_cells"] (defScope (top 57)) := ⟨rfl, rfl, rfl, by decide +kernel, rfl, by decide +kernel, by decide +kernel⟩
theorem ok_law_w_hangs (F : Fun K "_law_w_hangs" "_law_w_hangs" (top 57) f fd) (T : Txt K mg tS tG aT aW) (G_law_w_beside : Cl P w K mg base 1 "_law_w_beside" spWBeside) : FnOk P w K mg base CX0 2 f fd ["_law_cells"] spWHangs := by
  refine F.ok sc_law_w_hangs (Fn.len fun _ => rfl) (fun cdv A outer s H vs Q E hr h => ⟨_, (pss_cons (ps_set (i := 1) sc_law_w_hangs.nd rfl (Or.inr rfl) (pe_callTy (call_dictT (by rfl) (u8 hr)) (by rfl) T.dict b_dict (pa_cons (pe_lc (own := [("_law_cell", 4)]) (g := (gName 4)) (tt := tYes) (by rfl) sc_law_w_hangs.nd (pi_seq (pv 0)) (blkOk_by (N := N_law_w_hangs) (sc := defScope (top 57)) (own := [("_law_cell", 4)]) (by decide +kernel)) (fun _ _ _ _ _ => (pg_name (i := 4) sc_law_w_hangs.nd rfl (Or.inl rfl))) (fun _ _ _ _ _ => pts_nil) (fun _ _ _ _ _ => (pe_tup (pa_cons (pv 4) (pa_cons pe_bl pa_nil))))) pa_nil))) (pss_cons (ps_if (pt_cmpR (op_eqT0 (u8 hr)) (pv 1) pe_dnewT (nomark _)) (pss_one (ps_ret pe_bl)) pss_nil) (pss_cons (ps_set (i := 2) sc_law_w_hangs.nd rfl (Or.inr rfl) pe_dnewT) (pss_cons (ps_set (i := 3) sc_law_w_hangs.nd rfl (Or.inl rfl) (pe_lst (pa_cons (pe_ix (ixK (K := K)) (pe_callB (cr_srt hr.units) (by rfl) T.sorted b_sorted (pa_cons (pe_callTy (call_listView (by rfl)) (by rfl) T.list b_list (pa_cons (pe_bm0 PySem.F.plainAttrs_dict PySem.F.slot_dict_keys PySem.F.type_dict_keys mt_keysV (pv 1)) pa_nil)) pa_nil)) pe_int (fun _ _ => rfl)) pa_nil))) (pss_cons (ps_while PassesOwn.never (pt_cmpR (neDK (K := K) hr.units) (pv 3) (pe_lst pa_nil) (nomark _)) (pss_cons (ps_set (i := 4) sc_law_w_hangs.nd rfl (Or.inl rfl) (pe_ix (ixK (K := K)) (pv 3) (pe_un un_neg pe_int) (fun _ _ => rfl))) (pss_cons (ps_set (i := 3) sc_law_w_hangs.nd rfl (Or.inl rfl) (pe_slice sl_list (pv 3) po_none (po_some (pe_un un_neg pe_int)))) (pss_cons (ps_if (pt_cmp (pc_din (hu_of hr) (pv 4) (pv 2))) (pss_one ps_continue) pss_nil) (pss_cons (ps_dput (hu_of hr) (pv 2) (pv 4) pe_bl rfl) (pss_one (ps_set (i := 3) sc_law_w_hangs.nd rfl (Or.inl rfl) (pe_op op_cat (pv 3) (pe_lc (own := [("_law_other", 5)]) (g := (gName 5)) (by rfl) sc_law_w_hangs.nd (pi_seq (pe_cl G_law_w_beside (hr.mono (by decide)) (by rfl) (pa_cons (pv 4) pa_nil))) (blkOk_by (N := N_law_w_hangs) (sc := defScope (top 57)) (own := [("_law_other", 5)]) (by decide +kernel)) (fun _ _ _ _ _ => (pg_name (i := 5) sc_law_w_hangs.nd rfl (Or.inl rfl))) (fun _ _ _ _ _ => (pts_one (PW.pt (pw_and (pt_cmp (pc_din (hu_of hr) (pv 5) (pv 1))) (pw_and1 (pt_cmp (pc_dnotin (hu_of hr) (pv 5) (pv 2)))))))) (fun _ _ _ _ _ => (pv 5))))))))))) (pss_one (ps_ret (pe_cmpR op_eq (pe_callB call_len_dT (by rfl) T.len b_len (pa_cons (pv 2) pa_nil)) (pe_callB call_len_dT (by rfl) T.len b_len (pa_cons (pv 1) pa_nil)) (nomark _))))))))), ?_⟩)
  obtain ⟨⟨cs, seen⟩, hp, hv, q⟩ := h
  have hp : HwP cs seen := hp
  have hl := hp.len
  obtain ⟨first, rest, hs, hw⟩ := hp.h
  have S0 := st (N := N_law_w_hangs) (Rs := [rLstL rCell cs]) hv
  refine q_asg (R := rDic (tr cs)) S0 (e_newD (e_dctT (a_cons (e_lcA (ds := cs) (f := rCell) (out := rCT) S0 (i_seq (e_sqL (e_s S0))) (fun d _ => tg_name) (by omega) fun d _ σ' H' e' S' => e_tup (Rs := [rCell d, rBl true]) (a_cons (e_s S') (a_cons e_c a_nil))) a_nil) hp.nd)) fun σ1 H1 e1 S1 => ?_
  refine qf (t_test (e_op (e_s S1) e_dnew (ov_eqT0 (by
    rw [List.length_map]
    exact fun z => hp.ne (List.length_eq_zero_iff.mp z))))) fun H2 e2 => ?_
  have S2 := (S1.up e2).atE (i := 1) rfl
  refine q_asgA S2 e_dnewN fun v3 σ3 H3 e3 hd S3 => ?_
  obtain ⟨ps, rfl, nps, hps⟩ := hd
  refine q_asg (R := rLstL rCell [first]) S3 (e_lst (Rs := [rCell first]) (a_cons (e_op (Rx := rLstL rCell (srtC cs)) (e_cb (a_cons (R := rLstL rCell cs) (Rs := []) (e_is (e_cb (a_cons (e_keysC (e_at (e_s S3))) a_nil) cv_keysC) (by rw [tr_keys])) a_nil) (cv_srtL dat_cell (sok_cells cs (by omega)))) e_c (ov_ixL (by rw [hs]; exact atI_nat (i := 0) rfl))) a_nil)) fun σ4 H4 e4 S4 => ?_
  have E4 : Ex H2 H4 := e3.trans e4
  refine q_while (fun m σ' H' => ∃ sn wt, hangW cs m sn wt = some seen ∧ sn.length + m ≤ 1000 ∧ wt.length + 4 * m ≤ 4001 ∧ Ex H2 H' ∧ H' ps = some (dC (tr sn)) ∧ Sl σ' H' [none, some (rAt H2 (rDic (tr cs))), some (rV (.ref ps)), some (rLstL rCell wt), none, none])
    1000 ⟨[], [first], hw, Nat.le_of_ble_eq_true rfl, Nat.le_of_ble_eq_true rfl, E4, e4 _ _ hps, (S4.forget (i := 0)).forget (i := 4)⟩ ?_
  rintro m σ5 H5 ⟨sn, wt, hW, hm1, hm2, E5, hps5, S5⟩
  refine ⟨_, t_test (e_op (e_s S5) (e_lst a_nil) ov_neNil), fun hne H6 e6 => ?_, fun hem H6 e6 => ?_⟩
  · obtain ⟨w', c, rfl⟩ : ∃ w' c, wt = w' ++ [c] := by
      rcases List.eq_nil_or_concat wt with z | ⟨w', c, z⟩
      · rw [z] at hne
        cases hne
      · exact ⟨w', c, by rw [z, List.concat_eq_append]⟩
    obtain ⟨n, hmn, hW2⟩ := hangW_snoc hW
    clear hW
    subst hmn
    have hW := hW2
    rw [List.length_append, List.length_singleton] at hm2
    refine ⟨_, fun σ' H' h => ⟨n, Nat.lt_succ_self n, h⟩, ?_⟩
    have S6 := S5.up e6
    have hps6 := e6 _ _ hps5
    refine q_asg (R := rCell c) S6 (e_op (e_s S6) (e_un e_c uv_neg) (ov_ixL (by rw [List.map_append]; exact atI_last _ _))) fun σ7 H7 e7 S7 => ?_
    refine q_asg (R := rLstL rCell w') S7 (e_is (e_sl (e_s S7) o_none (o_some (e_un e_c uv_neg)) sv_L) (by
      rw [List.map_append]
      exact congrArg rLst cutm1)) fun σ8 H8 e8 S8 => ?_
    have hps8 := e8 _ _ (e7 _ _ hps6)
    have E8 := ((E5.trans e6).trans e7).trans e8
    refine q_if (t_B (e_din (e_s S8) (e_od S8 hps8))) (fun hb H9 e9 => ?_) fun hb H9 e9 => ?_
    · rw [tr_keys] at hb
      rw [if_pos hb] at hW
      exact ⟨sn, w', hW, by omega, by omega, E8.trans e9, e9 _ _ hps8, (S8.up e9).forget (i := 4)⟩
    · rw [tr_keys] at hb
      rw [if_neg (by rw [hb]; decide)] at hW
      have S9 := S8.up e9
      refine q_dput (kvs := tr sn) (c := c) (v := .bl true) (e9 _ _ hps8) e_c (e_s S9) (e_s S9) (by rw [List.length_map]; omega) fun H10 e10 h10 => ?_
      have hput : putC (tr sn) c (V.bl true) = tr (sn ++ [c]) := by
        rw [tr_put]
        unfold putL
        rw [if_neg (by rw [hb]; decide)]
      rw [hput]
      have S10 := (S9.up e10).mutD (H0 := H2) (o := dC (tr (sn ++ [c]))) h10 .t nps
      have E10 : Ex H2 (upd H10 ps (dC (tr (sn ++ [c])))) := Evl.Ex.mut ((E8.trans e9).trans e10) nps
      have hps10 : (upd H10 ps (dC (tr (sn ++ [c])))) ps = some (dC (tr (sn ++ [c]))) := upd_same
      generalize upd H10 ps (dC (tr (sn ++ [c]))) = HH at S10 E10 hps10 ⊢
      have hfl := List.length_filter_le (fun o => isin cs o && !isin (sn ++ [c]) o) (besideC c)
      have h4 : (besideC c).length = 4 := rfl
      refine s_asg (R := rLstL rCell (w' ++ (besideC c).filter fun o => isin cs o && !isin (sn ++ [c]) o)) (e_is (e_op (Rx := rLstL rCell w') (Ry := rLst (((besideC c).filter fun o => isin cs o && !isin (sn ++ [c]) o).map rCell)) (e_s S10) (e_lc (ds := besideC c) (f := rCell) (out := rCell) (b := fun o => isin cs o && !isin (sn ++ [c]) o) S10 (i_seq (e_sqL (e_call c (a_cons (e_s S10) a_nil) trivial))) (fun d _ => tg_name) (by omega)
        (fun o _ σ' H' e' S' => t_is (t_and (t_B (e_din (e_s S') (e_at (e_s S')))) fun _ => t_B (e_dnin (e_s S') (e_od S' (e' _ _ hps10)))) (by rw [tr_keys, tr_keys])) fun o _ _ σ' H' e' S' => e_s S') (ov_cat (by
          rw [List.length_map, List.length_map]
          omega))) (by unfold rLstL; rw [List.map_append])) fun v11 H11 e11 r11 => ?_
      refine ⟨sn ++ [c], _, hW, by rw [List.length_append, List.length_singleton]; omega, ?_, E10.trans e11, e11 _ _ hps10, ((S10.up e11).set (j := 3) r11).forget (i := 4)⟩
      rw [List.length_append]
      omega
  · have hwt : wt = [] := by
      cases wt with
      | nil => rfl
      | cons _ _ => cases hem
    rw [hwt] at hW
    have hsn := hangW_nil hW
    subst hsn
    have S6 := S5.up e6
    exact s_retB (e_op (e_cb (a_cons (e_od S6 (e6 _ _ hps5)) a_nil) cv_lenT) (e_cb (a_cons (e_at (e_s S6)) a_nil) cv_lenT) ov_eqI) (fun v H7 e7 hv => q v H7 ((((e1.trans e2).trans E5).trans e6).trans e7) hv) (by rw [List.length_map, List.length_map])
end
end Kx
set_option Elab.async false
set_option linter.all false
set_option maxRecDepth 100000
set_option maxHeartbeats 4000000
/-! D15: the law's own steps of a square. -/
namespace Kx
open PySem L2 PyProof.Rows
def D8 : List Cell := [(-1, -1), (-1, 0), (-1, 1), (0, -1), (0, 1), (1, -1), (1, 0), (1, 1)]
def keep4 (r : List Cell) (c d : Cell) : Bool := !isin r (addC c d) && (if (decide (d.1 = 0) || decide (d.2 = 0)) = true then !((dirs d).filter fun n => isin r (addC c n) && isin r (addC (addC c d) n)).isEmpty else !decide (V.bl (isin r (c.1 + d.1, c.2)) = V.bl (isin r (c.1, c.2 + d.2))))
def goes4 (r : List Cell) (c : Cell) : List Cell := (D8.filter (keep4 r c)).map (addC c)
section
variable {P : Program} {w : World} {K : PySem.W.Frag} {mg : Str → Option Value} {base : Heap} {tS tG : Tok} {aT aW : Addr} {f : Addr} {fd : FuncData}
abbrev spGoes4 : Sp := FnN pTrue (fun d : List Cell × Cell => [rDic (tr d.1), rCell d.2]) fun d => (goes4 d.1 d.2).map rCell
abbrev N_law_t4goes : List Str := ["_law_rest", "_law_cell", "_law_found", "_law_across", "_law_up", "_law_end", "_law_sides", "_law_n"]
theorem sc_law_t4goes : FnScope N_law_t4goes ["_law_rest", "_law_cell"] (defScope (top 60)) := ⟨rfl, rfl, rfl, by decide +kernel, rfl, by decide +kernel, by decide +kernel⟩
theorem ok_law_t4goes (F : Fun K "_law_t4goes" "_law_t4goes" (top 60) f fd) (T : Txt K mg tS tG aT aW) (G_law_t4both : Cl P w K mg base 1 "_law_t4both" spBoth) : FnOk P w K mg base CX0 2 f fd ["_law_rest", "_law_cell"] spGoes4 := by
  refine F.ok sc_law_t4goes (FnN.len fun _ => rfl) (fun cdv A outer s H vs Q E hr h => ⟨_, (pss_cons (ps_set (i := 2) sc_law_t4goes.nd rfl (Or.inl rfl) (pe_lst pa_nil)) (pss_cons (ps_for PassesOwn.never rfl (pi_seq (pe_lst (pa_cons (pe_tup (pa_cons (pe_un un_neg pe_int) (pa_cons (pe_un un_neg pe_int) pa_nil))) (pa_cons (pe_tup (pa_cons (pe_un un_neg pe_int) (pa_cons pe_int pa_nil))) (pa_cons (pe_tup (pa_cons (pe_un un_neg pe_int) (pa_cons pe_int pa_nil))) (pa_cons (pe_tup (pa_cons pe_int (pa_cons (pe_un un_neg pe_int) pa_nil))) (pa_cons (pe_tup (pa_cons pe_int (pa_cons pe_int pa_nil))) (pa_cons (pe_tup (pa_cons pe_int (pa_cons (pe_un un_neg pe_int) pa_nil))) (pa_cons (pe_tup (pa_cons pe_int (pa_cons pe_int pa_nil))) (pa_cons (pe_tup (pa_cons pe_int (pa_cons pe_int pa_nil))) pa_nil)))))))))) (pg_tup rfl (pgs_cons (pg_name (i := 3) sc_law_t4goes.nd rfl (Or.inl rfl)) (pgs_cons (pg_name (i := 4) sc_law_t4goes.nd rfl (Or.inl rfl)) pgs_nil))) (pss_cons (ps_set (i := 5) sc_law_t4goes.nd rfl (Or.inr rfl) (pe_tup (pa_cons (pe_op op_add (pe_ix (ixK (K := K)) (pv 1) pe_int (fun _ _ => rfl)) (pv 3)) (pa_cons (pe_op op_add (pe_ix (ixK (K := K)) (pv 1) pe_int (fun _ _ => rfl)) (pv 4)) pa_nil)))) (pss_cons (ps_if (pt_cmp (pc_din (hu_of hr) (pv 5) (pv 0))) (pss_one ps_continue) pss_nil) (pss_one (ps_if (PW.pt (pw_or (pt_cmpR op_eq (pv 3) pe_int (nomark _)) (pw_or1 (pt_cmpR op_eq (pv 4) pe_int (nomark _))))) (pss_cons (ps_set (i := 6) sc_law_t4goes.nd rfl (Or.inl rfl) (pe_lst (pa_cons (pe_tup (pa_cons (pv 4) (pa_cons (pv 3) pa_nil))) (pa_cons (pe_tup (pa_cons (pe_un un_neg (pv 4)) (pa_cons (pe_un un_neg (pv 3)) pa_nil))) pa_nil)))) (pss_one (ps_if (pt_cmpR (neDK (K := K) hr.units) (pe_lc (own := [("_law_n", 7)]) (g := (gName 7)) (by rfl) sc_law_t4goes.nd (pi_seq (pv 6)) (blkOk_by (N := N_law_t4goes) (sc := defScope (top 60)) (own := [("_law_n", 7)]) (by decide +kernel)) (fun _ _ _ _ _ => (pg_name (i := 7) sc_law_t4goes.nd rfl (Or.inl rfl))) (fun _ _ _ _ _ => (pts_one (pt_val (pe_cl G_law_t4both (hr.mono (by decide)) (by rfl) (pa_cons (pv 0) (pa_cons (pv 1) (pa_cons (pv 5) (pa_cons (pv 7) pa_nil)))))))) (fun _ _ _ _ _ => (pv 7))) (pe_lst pa_nil) (nomark _)) (pss_one (ps_expr (pe_bm PySem.F.plainAttrs_list PySem.F.slot_list_append PySem.F.type_list_append mt_append (pv 2) (pa_cons (pv 5) pa_nil)))) pss_nil))) (pss_one (ps_if (pt_cmpR op_ne (pe_cmp (pc_din (hu_of hr) (pe_tup (pa_cons (pe_op op_add (pe_ix (ixK (K := K)) (pv 1) pe_int (fun _ _ => rfl)) (pv 3)) (pa_cons (pe_ix (ixK (K := K)) (pv 1) pe_int (fun _ _ => rfl)) pa_nil))) (pv 0))) (pe_cmp (pc_din (hu_of hr) (pe_tup (pa_cons (pe_ix (ixK (K := K)) (pv 1) pe_int (fun _ _ => rfl)) (pa_cons (pe_op op_add (pe_ix (ixK (K := K)) (pv 1) pe_int (fun _ _ => rfl)) (pv 4)) pa_nil))) (pv 0))) (nomark _)) (pss_one (ps_expr (pe_bm PySem.F.plainAttrs_list PySem.F.slot_list_append PySem.F.type_list_append mt_append (pv 2) (pa_cons (pv 5) pa_nil)))) pss_nil))))))) (pss_one (ps_ret (pv 2))))), ?_⟩)
  obtain ⟨⟨r, c⟩, _, hv, q⟩ := h
  have S0 := st (N := N_law_t4goes) (Rs := [rDic (tr r), rCell c]) hv
  have S0' : Sl _ H [some (rAt H (rDic (tr r))), some (rCell c), none, none, none, none, none, none] := S0.atE (i := 0) rfl
  refine q_asgA S0' (e_lstN a_nil) fun v1 σ1 H1 e1 hf S1 => ?_
  obtain ⟨pf, fv0, rfl, npf, hf0, af0⟩ := hf
  refine q_forN (Rs := D8.map rCell) (e_lstN (Rs := D8.map rCell) (a_cons (e_tup (Rs := [rInt (-1), rInt (-1)]) (a_cons (e_un e_c (uv_neg (i := 1))) (a_cons (e_un e_c (uv_neg (i := 1))) a_nil))) (a_cons (e_tup (Rs := [rInt (-1), rInt 0]) (a_cons (e_un e_c (uv_neg (i := 1))) (a_cons e_c a_nil))) (a_cons (e_tup (Rs := [rInt (-1), rInt 1]) (a_cons (e_un e_c (uv_neg (i := 1))) (a_cons e_c a_nil)))
    (a_cons (e_tup (Rs := [rInt 0, rInt (-1)]) (a_cons e_c (a_cons (e_un e_c (uv_neg (i := 1))) a_nil))) (a_cons (e_tup (Rs := [rInt 0, rInt 1]) (a_cons e_c (a_cons e_c a_nil))) (a_cons (e_tup (Rs := [rInt 1, rInt (-1)]) (a_cons e_c (a_cons (e_un e_c (uv_neg (i := 1))) a_nil))) (a_cons (e_tup (Rs := [rInt 1, rInt 0]) (a_cons e_c (a_cons e_c a_nil))) (a_cons (e_tup (Rs := [rInt 1, rInt 1]) (a_cons e_c (a_cons e_c a_nil))) a_nil)))))))))
    (fun a xs i σ' H' => (H' a = some (.lst xs) ∧ a ≠ pf) ∧ AllP (D8.map rCell) xs H' ∧ Ex H H' ∧ (∃ fv, H' pf = some (.lst fv) ∧ AllP ((((D8.take i).filter (keep4 r c)).map (addC c)).map rCell) fv H') ∧ Sl σ' H' [some (rAt H (rDic (tr r))), some (rCell c), some (rV (.ref pf)), none, none, none, none, none])
    (fun a xs H2 e2 hn ha hx => ⟨⟨ha, fun z => by rw [z, hf0] at hn; cases hn⟩, hx, e1.trans e2, ⟨fv0, e2 _ _ hf0, af0.mono e2⟩, S1.up e2⟩) (fun a xs i σ' H' h => h.1.1) ?_ ?_
  · rintro a xs i x σ2 H2 hi hx ⟨⟨ha, na⟩, hx2, E2, ⟨fv, hpf, paf⟩, S2⟩
    have hi' : i < D8.length := by simpa using hi
    have rx := el_cells hx2 hi' hx
    rw [take_s hi', List.filter_append, List.map_append]
    have hfl : (((D8.take i).filter (keep4 r c)).map (addC c)).length ≤ 8 := by
      rw [List.length_map]
      have h1 := List.length_filter_le (keep4 r c) (D8.take i)
      have h2 : (D8.take i).length ≤ i := by
        rw [List.length_take]
        omega
      have h3 : D8.length = 8 := rfl
      omega
    generalize ((D8.take i).filter (keep4 r c)).map (addC c) = fo at paf hfl ⊢
    generalize D8[i] = d at rx ⊢
    have lfo := paf.len
    rw [List.length_map] at lfo
    refine g_two S2 rx fun σ3 S3 => ?_
    refine q_asg (R := rCell (addC c d)) S3 (e_tup (Rs := [rInt (c.1 + d.1), rInt (c.2 + d.2)]) (a_cons (e_op (e_op (e_s S3) e_c (ov_ixT rfl)) (e_s S3) ov_I0) (a_cons (e_op (e_op (e_s S3) e_c (ov_ixT rfl)) (e_s S3) ov_I0) a_nil))) fun σ4 H4 e4 S4 => ?_
    have no : ∀ σ' H', keep4 r c d = false → Ex H4 H' → Sl σ' H' [some (rAt H (rDic (tr r))), some (rCell c), some (rV (.ref pf)), none, none, none, none, none] →
        ((H' a = some (.lst xs) ∧ a ≠ pf) ∧ AllP (D8.map rCell) xs H' ∧ Ex H H' ∧ (∃ fv, H' pf = some (.lst fv) ∧ AllP ((fo ++ ([d].filter (keep4 r c)).map (addC c)).map rCell) fv H') ∧ Sl σ' H' [some (rAt H (rDic (tr r))), some (rCell c), some (rV (.ref pf)), none, none, none, none, none]) := fun σ' H' hk e' S' => by
      rw [List.filter_cons_of_neg (by rw [hk]; decide), List.filter_nil, List.map_nil, List.append_nil]
      exact ⟨⟨e' _ _ (e4 _ _ ha), na⟩, (hx2.mono e4).mono e', (E2.trans e4).trans e', ⟨fv, e' _ _ (e4 _ _ hpf), (paf.mono e4).mono e'⟩, S'⟩
    have yes : ∀ σ' H' v, keep4 r c d = true → Ex H4 H' → (rCell (addC c d)).p v H' → Sl σ' H' [some (rAt H (rDic (tr r))), some (rCell c), some (rV (.ref pf)), none, none, none, none, none] →
        (((upd H' pf (.lst (fv ++ [v]))) a = some (.lst xs) ∧ a ≠ pf) ∧ AllP (D8.map rCell) xs (upd H' pf (.lst (fv ++ [v]))) ∧ Ex H (upd H' pf (.lst (fv ++ [v]))) ∧ (∃ fv', (upd H' pf (.lst (fv ++ [v]))) pf = some (.lst fv') ∧ AllP ((fo ++ ([d].filter (keep4 r c)).map (addC c)).map rCell) fv' (upd H' pf (.lst (fv ++ [v])))) ∧ Sl σ' (upd H' pf (.lst (fv ++ [v]))) [some (rAt H (rDic (tr r))), some (rCell c), some (rV (.ref pf)), none, none, none, none, none]) := fun σ' H' v hk e' hv S' => by
      have hpf' := e' _ _ (e4 _ _ hpf)
      refine ⟨⟨by rw [upd_ne na]; exact e' _ _ (e4 _ _ ha), na⟩, allP_ms hpf' nt_l npf ms_cells ((hx2.mono e4).mono e'), Evl.Ex.mut ((E2.trans e4).trans e') npf, ⟨_, upd_same, ?_⟩, S'.mut (H0 := H) hpf' nt_l npf⟩
      refine allP_ms hpf' nt_l npf ms_cells ?_
      rw [List.filter_cons_of_pos hk, List.filter_nil, List.map_append]
      exact ((paf.mono e4).mono e').app (show AllP [rCell (addC c d)] [v] H' from ⟨hv, trivial⟩)
    refine q_if (t_B (e_din (e_s S4) (e_at (e_s S4)))) (fun hb H5 e5 => ?_) fun hb H5 e5 => ?_
    · rw [tr_keys] at hb
      exact no _ H5 (by unfold keep4; rw [hb]; rfl) e5 ((((S4.up e5).forget (i := 3)).forget (i := 4)).forget (i := 5))
    · rw [tr_keys] at hb
      have S5 := S4.up e5
      refine s_if (t_or (t_test (e_op (e_s S5) e_c ov_eqI)) fun _ => t_test (e_op (e_s S5) e_c ov_eqI)) (fun ho H6 e6 => ?_) fun ho H6 e6 => ?_
      · have hkk : keep4 r c d = !((dirs d).filter fun n => isin r (addC c n) && isin r (addC (addC c d) n)).isEmpty := by
          unfold keep4
          rw [hb, if_pos ho]
          rfl
        have S6 := S5.up e6
        refine q_asg (R := rLstL rCell (dirs d)) S6 (e_lst (Rs := (dirs d).map rCell) (a_cons (e_tup (Rs := [rInt d.2, rInt d.1]) (a_cons (e_s S6) (a_cons (e_s S6) a_nil))) (a_cons (e_tup (Rs := [rInt (-d.2), rInt (-d.1)]) (a_cons (e_un (e_s S6) uv_neg) (a_cons (e_un (e_s S6) uv_neg) a_nil))) a_nil))) fun σ7 H7 e7 S7 => ?_
        refine s_if (t_test (e_op (Rx := rLstL rCell ((dirs d).filter fun n => isin r (addC c n) && isin r (addC (addC c d) n))) (e_lc (ds := dirs d) (f := rCell) (out := rCell) (b := fun n => isin r (addC c n) && isin r (addC (addC c d) n)) S7 (i_seq (e_sqL (e_s S7))) (fun d _ => tg_name) (Nat.le_of_ble_eq_true rfl)
          (fun o _ σ' H' e' S' => t_B (e_call (r, c, addC c d, o) (a_cons (e_at (e_s S')) (a_cons (e_s S') (a_cons (e_s S') (a_cons (e_s S') a_nil)))) trivial)) fun o _ _ σ' H' e' S' => e_s S') (e_lst a_nil) ov_neNil)) (fun hq H8 e8 => ?_) fun hq H8 e8 => ?_
        · have S8 := S7.up e8
          refine s_app (Rl := rCell c) (e8 _ _ (e7 _ _ (e6 _ _ (e5 _ _ (e4 _ _ hpf))))) (e_s S8) (e_s S8) (by omega) fun v9 H9 e9 r9 h9 => ?_
          exact yes _ H9 v9 (hkk.trans hq) ((((e5.trans e6).trans e7).trans e8).trans e9) r9 (((((S8.up e9).forget (i := 3)).forget (i := 4)).forget (i := 5)).forget (i := 6))
        · exact no _ H8 (hkk.trans hq) (((e5.trans e6).trans e7).trans e8) (((((S7.up e8).forget (i := 3)).forget (i := 4)).forget (i := 5)).forget (i := 6))
      · have hkk : keep4 r c d = !decide (V.bl (isin r (c.1 + d.1, c.2)) = V.bl (isin r (c.1, c.2 + d.2))) := by
          unfold keep4
          rw [hb, if_neg (by rw [ho]; decide)]
          rfl
        have S6 := S5.up e6
        refine s_if (t_test (e_op (e_is (e_din (c := (c.1 + d.1, c.2)) (e_tup (Rs := [rInt (c.1 + d.1), rInt c.2]) (a_cons (e_op (e_op (e_s S6) e_c (ov_ixT rfl)) (e_s S6) ov_I0) (a_cons (e_op (e_s S6) e_c (ov_ixT rfl)) a_nil))) (e_at (e_s S6))) (by rw [tr_keys])) (e_is (e_din (c := (c.1, c.2 + d.2)) (e_tup (Rs := [rInt c.1, rInt (c.2 + d.2)]) (a_cons (e_op (e_s S6) e_c (ov_ixT rfl)) (a_cons (e_op (e_op (e_s S6) e_c (ov_ixT rfl)) (e_s S6) ov_I0) a_nil))) (e_at (e_s S6))) (by rw [tr_keys])) (ov_neV (x := .bl (isin r (c.1 + d.1, c.2))) (y := .bl (isin r (c.1, c.2 + d.2))) rfl))) (fun hq H8 e8 => ?_) fun hq H8 e8 => ?_
        · have S8 := S6.up e8
          refine s_app (Rl := rCell c) (e8 _ _ (e6 _ _ (e5 _ _ (e4 _ _ hpf)))) (e_s S8) (e_s S8) (by omega) fun v9 H9 e9 r9 h9 => ?_
          exact yes _ H9 v9 (hkk.trans hq) (((e5.trans e6).trans e8).trans e9) r9 ((((S8.up e9).forget (i := 3)).forget (i := 4)).forget (i := 5))
        · exact no _ H8 (hkk.trans hq) ((e5.trans e6).trans e8) ((((S6.up e8).forget (i := 3)).forget (i := 4)).forget (i := 5))
  · rintro a xs σ2 H2 ⟨_, _, E2, ⟨fv, hpf, paf⟩, S2⟩
    have e3 : D8.take (D8.map rCell).length = D8 := rfl
    rw [e3] at paf
    exact s_ret (R := rNewL H ((goes4 r c).map rCell)) (fun H3 e3 Q3 q3 => (e_s S2 : Ev (tVar 2) σ2 H2 (rV (.ref pf))) H3 e3 Q3 fun v H4 e4 hv => q3 v H4 e4 (by
      have hv : v = .ref pf := hv
      subst hv
      exact ⟨pf, fv, rfl, npf, (e3.trans e4) _ _ hpf, paf.mono (e3.trans e4)⟩)) fun v H5 e5 hv => q v H5 (E2.trans e5) hv
end
end Kx
set_option Elab.async false
set_option linter.all false
set_option maxRecDepth 100000
set_option maxHeartbeats 4000000
/-! D16: the law's own leave to move. -/
namespace Kx
open PySem L2 PyProof.Rows
def absI (i : Int) : Int := if i < 0 then -i else i
/-- the pairs beside a straight move -/
def prsW (s e : Cell) : List (Cell × Cell) := [((s.1 + (e.2 - s.2), s.2 + (e.1 - s.1)), (e.1 + (e.2 - s.2), e.2 + (e.1 - s.1))), ((s.1 - (e.2 - s.2), s.2 - (e.1 - s.1)), (e.1 - (e.2 - s.2), e.2 - (e.1 - s.1)))]
def goodW (cs : List Cell) (s e : Cell) : Bool :=
  if absI (e.1 - s.1) + absI (e.2 - s.2) = 1 then !(((prsW s e).filter fun p => isin cs p.1 && isin cs p.2).map (·.1)).isEmpty
  else if absI (e.1 - s.1) = 1 ∧ absI (e.2 - s.2) = 1 then !decide (V.bl (isin cs (s.1 + (e.1 - s.1), s.2)) = V.bl (isin cs (s.1, s.2 + (e.2 - s.2)))) else false
structure MayP (cs : List Cell) (s e : Cell) : Prop where
  nd : cs.Nodup
  len : cs.length ≤ 100
  i : isin cs s = true
  o : isin cs e = false
  g : goodW cs s e = true
  h : ∃ seen, HwP (cs.filter fun c => !eqC c s) seen ∧ seen.length = (cs.filter fun c => !eqC c s).length
section
variable {P : Program} {w : World} {K : PySem.W.Frag} {mg : Str → Option Value} {base : Heap} {tS tG : Tok} {aT aW : Addr} {f : Addr} {fd : FuncData}
abbrev tMayEnd (K : PySem.W.Frag) : L2.TS := tRet (tAndV (tVar 7) (tCall spWHangs [] E0 (tCons (tLc (iSeq K (tVar 0)) (gName 10) (tTest (tOp (rNeD K) (tVar 10) (tVar 1))) (tVar 10) [10]) tNil)))
theorem may_end {σ : L2.St} {H H' : Hp} {cs seen : List Cell} {a : Cell} {Q : VK} (hw : HwP (cs.filter fun c => !eqC c a) seen) (hsl : seen.length = (cs.filter fun c => !eqC c a).length) (hl : cs.length ≤ 100) (E : Ex H H')
    (S : Sl σ H' [some (rTupL rCell cs), some (rCell a), none, none, none, none, none, some (rBl true), none, none, none]) (q : ∀ v H', Ex H H' → (rBl true).p v H' → Q v H') : tMayEnd K { nx := fun _ H' => Q V.non H', rt := Q } σ H' :=
  s_retB (e_andV (e_s S) fun _ => e_call (cs.filter fun c => !eqC c a, seen) (a_cons (e_lc (ds := cs) (f := rCell) (out := rCell) (b := fun c => !eqC c a) S (i_seq (e_sqT (e_s S))) (fun d _ => tg_name) (by omega) (fun o _ σ' H' e' S' => t_test (e_op (e_s S') (e_s S') ov_neC)) fun o _ _ σ' H' e' S' => e_s S') a_nil) hw) (fun v H1 e1 hv => q v H1 (E.trans e1) hv) (by
    show (true && decide (((seen.length : Nat) : Int) = _)) = true
    rw [hsl, decide_eq_true rfl]
    rfl)
abbrev spMay : Sp := Fn (fun d : List Cell × Cell × Cell => MayP d.1 d.2.1 d.2.2) (fun d => [rTupL rCell d.1, rCell d.2.1, rCell d.2.2]) fun _ => rBl true
abbrev N_law_w_may : List Str := ["_law_cells", "_law_start", "_law_end", "_law_inside", "_law_across", "_law_up", "_law_pairs", "_law_good", "_law_one", "_law_two", "_law_cell"]
theorem sc_law_w_may : FnScope N_law_w_may ["_law_cells", "_law_start", "_law_end"] (defScope (top 58)) := ⟨rfl, rfl, rfl, by decide +kernel, rfl, by decide +kernel, by decide +kernel⟩
theorem ok_law_w_may (F : Fun K "_law_w_may" "_law_w_may" (top 58) f fd) (T : Txt K mg tS tG aT aW) (G_law_w_hangs : Cl P w K mg base 2 "_law_w_hangs" spWHangs) : FnOk P w K mg base CX0 3 f fd ["_law_cells", "_law_start", "_law_end"] spMay := by
  refine F.ok sc_law_w_may (Fn.len fun _ => rfl) (fun cdv A outer s H vs Q E hr h => ⟨_, (pss_cons (ps_set (i := 3) sc_law_w_may.nd rfl (Or.inr rfl) (pe_callTy (call_dictT (by rfl) (u8 hr)) (by rfl) T.dict b_dict (pa_cons (pe_lc (own := [("_law_cell", 10)]) (g := (gName 10)) (tt := tYes) (by rfl) sc_law_w_may.nd (pi_seq (pv 0)) (blkOk_by (N := N_law_w_may) (sc := defScope (top 58)) (own := [("_law_cell", 10)]) (by decide +kernel)) (fun _ _ _ _ _ => (pg_name (i := 10) sc_law_w_may.nd rfl (Or.inl rfl))) (fun _ _ _ _ _ => pts_nil) (fun _ _ _ _ _ => (pe_tup (pa_cons (pv 10) (pa_cons pe_bl pa_nil))))) pa_nil))) (pss_cons (ps_if (PW.pt (pw_or (pt_cmp (pc_dnotin (hu_of hr) (pv 1) (pv 3))) (pw_or1 (pt_cmp (pc_din (hu_of hr) (pv 2) (pv 3)))))) (pss_one (ps_ret pe_bl)) pss_nil) (pss_cons (ps_par (i := 4) (j := 5) (by rfl) sc_law_w_may.nd rfl rfl (by decide) rfl rfl (pa_cons (pe_op op_sub (pe_ix (ixK (K := K)) (pv 2) pe_int (fun _ _ => rfl)) (pe_ix (ixK (K := K)) (pv 1) pe_int (fun _ _ => rfl))) (pa_cons (pe_op op_sub (pe_ix (ixK (K := K)) (pv 2) pe_int (fun _ _ => rfl)) (pe_ix (ixK (K := K)) (pv 1) pe_int (fun _ _ => rfl))) pa_nil)) (by rfl)) (pss_cons (ps_if (pt_cmpR op_eq (pe_op op_add (pe_callB cr_abs (by rfl) T.abs b_abs (pa_cons (pv 4) pa_nil)) (pe_callB cr_abs (by rfl) T.abs b_abs (pa_cons (pv 5) pa_nil))) pe_int (nomark _)) (pss_cons (ps_set (i := 6) sc_law_w_may.nd rfl (Or.inl rfl) (pe_lst (pa_cons (pe_tup (pa_cons (pe_tup (pa_cons (pe_op op_add (pe_ix (ixK (K := K)) (pv 1) pe_int (fun _ _ => rfl)) (pv 5)) (pa_cons (pe_op op_add (pe_ix (ixK (K := K)) (pv 1) pe_int (fun _ _ => rfl)) (pv 4)) pa_nil))) (pa_cons (pe_tup (pa_cons (pe_op op_add (pe_ix (ixK (K := K)) (pv 2) pe_int (fun _ _ => rfl)) (pv 5)) (pa_cons (pe_op op_add (pe_ix (ixK (K := K)) (pv 2) pe_int (fun _ _ => rfl)) (pv 4)) pa_nil))) pa_nil))) pa_nil))) (pss_cons (ps_expr (pe_bm PySem.F.plainAttrs_list PySem.F.slot_list_append PySem.F.type_list_append mt_append (pv 6) (pa_cons (pe_tup (pa_cons (pe_tup (pa_cons (pe_op op_sub (pe_ix (ixK (K := K)) (pv 1) pe_int (fun _ _ => rfl)) (pv 5)) (pa_cons (pe_op op_sub (pe_ix (ixK (K := K)) (pv 1) pe_int (fun _ _ => rfl)) (pv 4)) pa_nil))) (pa_cons (pe_tup (pa_cons (pe_op op_sub (pe_ix (ixK (K := K)) (pv 2) pe_int (fun _ _ => rfl)) (pv 5)) (pa_cons (pe_op op_sub (pe_ix (ixK (K := K)) (pv 2) pe_int (fun _ _ => rfl)) (pv 4)) pa_nil))) pa_nil))) pa_nil))) (pss_one (ps_set (i := 7) sc_law_w_may.nd rfl (Or.inl rfl) (pe_cmpR (neDK (K := K) hr.units) (pe_lc (own := [("_law_one", 8), ("_law_two", 9)]) (g := (gTup K 2 (gCons (gName 8) (gCons (gName 9) gNil)))) (by rfl) sc_law_w_may.nd (pi_seq (pv 6)) (blkOk_by (N := N_law_w_may) (sc := defScope (top 58)) (own := [("_law_one", 8), ("_law_two", 9)]) (by decide +kernel)) (fun _ _ _ _ _ => (pg_tup rfl (pgs_cons (pg_name (i := 8) sc_law_w_may.nd rfl (Or.inl rfl)) (pgs_cons (pg_name (i := 9) sc_law_w_may.nd rfl (Or.inl rfl)) pgs_nil)))) (fun _ _ _ _ _ => (pts_one (PW.pt (pw_and (pt_cmp (pc_din (hu_of hr) (pv 8) (pv 3))) (pw_and1 (pt_cmp (pc_din (hu_of hr) (pv 9) (pv 3)))))))) (fun _ _ _ _ _ => (pv 8))) (pe_lst pa_nil) (nomark _)))))) (pss_one (ps_if (PW.pt (pw_and (pt_cmpR op_eq (pe_callB cr_abs (by rfl) T.abs b_abs (pa_cons (pv 4) pa_nil)) pe_int (nomark _)) (pw_and1 (pt_cmpR op_eq (pe_callB cr_abs (by rfl) T.abs b_abs (pa_cons (pv 5) pa_nil)) pe_int (nomark _))))) (pss_cons (ps_par (i := 8) (j := 9) (by rfl) sc_law_w_may.nd rfl rfl (by decide) rfl rfl (pa_cons (pe_tup (pa_cons (pe_op op_add (pe_ix (ixK (K := K)) (pv 1) pe_int (fun _ _ => rfl)) (pv 4)) (pa_cons (pe_ix (ixK (K := K)) (pv 1) pe_int (fun _ _ => rfl)) pa_nil))) (pa_cons (pe_tup (pa_cons (pe_ix (ixK (K := K)) (pv 1) pe_int (fun _ _ => rfl)) (pa_cons (pe_op op_add (pe_ix (ixK (K := K)) (pv 1) pe_int (fun _ _ => rfl)) (pv 5)) pa_nil))) pa_nil)) (by rfl)) (pss_one (ps_set (i := 7) sc_law_w_may.nd rfl (Or.inl rfl) (pe_cmpR op_ne (pe_cmp (pc_din (hu_of hr) (pv 8) (pv 3))) (pe_cmp (pc_din (hu_of hr) (pv 9) (pv 3))) (nomark _))))) (pss_one (ps_set (i := 7) sc_law_w_may.nd rfl (Or.inl rfl) pe_bl))))) (pss_one (ps_ret (pe_and (pv 7) (pe_one (pe_cl G_law_w_hangs (hr.mono (by decide)) (by rfl) (pa_cons (pe_lc (own := [("_law_cell", 10)]) (g := (gName 10)) (by rfl) sc_law_w_may.nd (pi_seq (pv 0)) (blkOk_by (N := N_law_w_may) (sc := defScope (top 58)) (own := [("_law_cell", 10)]) (by decide +kernel)) (fun _ _ _ _ _ => (pg_name (i := 10) sc_law_w_may.nd rfl (Or.inl rfl))) (fun _ _ _ _ _ => (pts_one (pt_cmpR (neDK (K := K) hr.units) (pv 10) (pv 1) (nomark _)))) (fun _ _ _ _ _ => (pv 10))) pa_nil)))))))))), ?_⟩)
  obtain ⟨⟨cs, a, b⟩, hp, hv, q⟩ := h
  have hp : MayP cs a b := hp
  have hl := hp.len
  obtain ⟨seen, hw, hsl⟩ := hp.h
  have S0 := st (N := N_law_w_may) (Rs := [rTupL rCell cs, rCell a, rCell b]) hv
  refine q_asg (R := rDic (tr cs)) S0 (e_newD (e_dctT (a_cons (e_lcA (ds := cs) (f := rCell) (out := rCT) S0 (i_seq (e_sqT (e_s S0))) (fun d _ => tg_name) (by omega) fun d _ σ' H' e' S' => e_tup (Rs := [rCell d, rBl true]) (a_cons (e_s S') (a_cons e_c a_nil))) a_nil) hp.nd)) fun σ1 H1 e1 S1 => ?_
  refine qf (t_or (t_B (e_dnin (e_s S1) (e_s S1))) fun _ => t_B (e_din (e_s S1) (e_s S1))) (fun H2 e2 => ?_) (by rw [tr_keys, hp.i, hp.o]; rfl)
  have S2 := S1.up e2
  refine q_par (R := rInt (b.1 - a.1)) (S := rInt (b.2 - a.2)) S2 (a_cons (e_op (e_op (e_s S2) e_c (ov_ixT rfl)) (e_op (e_s S2) e_c (ov_ixT rfl)) ov_I0) (a_cons (e_op (e_op (e_s S2) e_c (ov_ixT rfl)) (e_op (e_s S2) e_c (ov_ixT rfl)) ov_I0) a_nil)) fun σ3 H3 e3 S3 => ?_
  have E3 := (e1.trans e2).trans e3
  have S3 : Sl σ3 H3 [some (rTupL rCell cs), some (rCell a), some (rCell b), some (rAt H3 (rDic (tr cs))), some (rInt (b.1 - a.1)), some (rInt (b.2 - a.2)), none, none, none, none, none] := S3.atE (i := 3) rfl
  have hg := hp.g
  unfold goodW at hg
  refine q_if (t_test (e_op (e_op (e_cb (a_cons (e_s S3) a_nil) cv_abs) (e_cb (a_cons (e_s S3) a_nil) cv_abs) ov_I0) e_c ov_eqI)) (fun h1 H4 e4 => ?_) fun h1 H4 e4 => ?_
  · have h1 : absI (b.1 - a.1) + absI (b.2 - a.2) = 1 := of_decide_eq_true h1
    rw [if_pos h1] at hg
    have S4 := S3.up e4
    refine q_asgA S4 (e_lstN (Rs := [rPr ((a.1 + (b.2 - a.2), a.2 + (b.1 - a.1)), (b.1 + (b.2 - a.2), b.2 + (b.1 - a.1)))]) (a_cons (e_tup (Rs := [rCell (a.1 + (b.2 - a.2), a.2 + (b.1 - a.1)), rCell (b.1 + (b.2 - a.2), b.2 + (b.1 - a.1))]) (a_cons (e_tup (Rs := [rInt (a.1 + (b.2 - a.2)), rInt (a.2 + (b.1 - a.1))]) (a_cons (e_op (e_op (e_s S4) e_c (ov_ixT rfl)) (e_s S4) ov_I0) (a_cons (e_op (e_op (e_s S4) e_c (ov_ixT rfl)) (e_s S4) ov_I0) a_nil)))
      (a_cons (e_tup (Rs := [rInt (b.1 + (b.2 - a.2)), rInt (b.2 + (b.1 - a.1))]) (a_cons (e_op (e_op (e_s S4) e_c (ov_ixT rfl)) (e_s S4) ov_I0) (a_cons (e_op (e_op (e_s S4) e_c (ov_ixT rfl)) (e_s S4) ov_I0) a_nil))) a_nil))) a_nil)) fun v5 σ5 H5 e5 hl5 S5 => ?_
    obtain ⟨pl, pv, rfl, npl, hpl, apl⟩ := hl5
    have lpv := apl.len
    have npl3 : H3 pl = none := Evl.fresh_back e4 npl
    refine q_app (R := rPr ((a.1 - (b.2 - a.2), a.2 - (b.1 - a.1)), (b.1 - (b.2 - a.2), b.2 - (b.1 - a.1)))) hpl (e_s S5) (e_tup (Rs := [rCell (a.1 - (b.2 - a.2), a.2 - (b.1 - a.1)), rCell (b.1 - (b.2 - a.2), b.2 - (b.1 - a.1))]) (a_cons (e_tup (Rs := [rInt (a.1 - (b.2 - a.2)), rInt (a.2 - (b.1 - a.1))]) (a_cons (e_op (e_op (e_s S5) e_c (ov_ixT rfl)) (e_s S5) ov_I0) (a_cons (e_op (e_op (e_s S5) e_c (ov_ixT rfl)) (e_s S5) ov_I0) a_nil)))
      (a_cons (e_tup (Rs := [rInt (b.1 - (b.2 - a.2)), rInt (b.2 - (b.1 - a.1))]) (a_cons (e_op (e_op (e_s S5) e_c (ov_ixT rfl)) (e_s S5) ov_I0) (a_cons (e_op (e_op (e_s S5) e_c (ov_ixT rfl)) (e_s S5) ov_I0) a_nil))) a_nil))) (by rw [lpv]; exact Nat.lt_of_lt_of_le (by decide : 1 < 100000) (Nat.le_refl _)) fun v6 H6 e6 r6 h6 => ?_
    have S6 := (S5.up e6).mut (H0 := H3) (o := .lst (pv ++ [v6])) h6 nt_l npl3
    have ap6 : AllP ((prsW a b).map rPr) (pv ++ [v6]) (upd H6 pl (.lst (pv ++ [v6]))) := allP_ms h6 nt_l npl3 ms_prs ((apl.mono e6).app (show AllP [rPr _] [v6] H6 from ⟨r6, trivial⟩))
    refine s_asg (R := rBl true) (e_is (e_op (Rx := rLstL rCell (((prsW a b).filter fun p => isin cs p.1 && isin cs p.2).map (·.1))) (e_is (e_lc (ds := prsW a b) (f := rPr) (out := fun p : Cell × Cell => rCell p.1) (b := fun p => isin cs p.1 && isin cs p.2) S6 (i_seq (e_sqL (e_ol S6 upd_same ap6))) (fun d _ => tg_two) (Nat.le_of_ble_eq_true rfl)
      (fun o _ σ' H' e' S' => t_is (t_and (t_B (e_din (e_s S') (e_at (e_s S')))) fun _ => t_B (e_din (e_s S') (e_at (e_s S')))) (by rw [tr_keys])) fun o _ _ σ' H' e' S' => e_s S') (by unfold rLstL; rw [List.map_map]; rfl)) (e_lst a_nil) ov_neNil) (by rw [hg])) fun v7 H7 e7 r7 => ?_
    exact may_end hw hsl hl ((Evl.Ex.mut (((E3.trans e4).trans e5).trans e6) (Evl.fresh_back E3 npl3)).trans e7) (((((((S6.up e7).set (j := 7) r7).forget (i := 2)).forget (i := 3)).forget (i := 4)).forget (i := 5)).forget (i := 6)) q
  · have h1 : ¬ absI (b.1 - a.1) + absI (b.2 - a.2) = 1 := of_decide_eq_false h1
    rw [if_neg h1] at hg
    have S4 := S3.up e4
    refine q_if (t_and (t_test (e_op (e_cb (a_cons (e_s S4) a_nil) cv_abs) e_c ov_eqI)) fun _ => t_test (e_op (e_cb (a_cons (e_s S4) a_nil) cv_abs) e_c ov_eqI)) (fun h2 H5 e5 => ?_) fun h2 H5 e5 => ?_
    · have h2 : absI (b.1 - a.1) = 1 ∧ absI (b.2 - a.2) = 1 := by
        rw [Bool.and_eq_true, decide_eq_true_eq, decide_eq_true_eq] at h2
        exact h2
      rw [if_pos h2] at hg
      have S5 := S4.up e5
      refine q_par (R := rCell (a.1 + (b.1 - a.1), a.2)) (S := rCell (a.1, a.2 + (b.2 - a.2))) S5 (a_cons (e_tup (Rs := [rInt (a.1 + (b.1 - a.1)), rInt a.2]) (a_cons (e_op (e_op (e_s S5) e_c (ov_ixT rfl)) (e_s S5) ov_I0) (a_cons (e_op (e_s S5) e_c (ov_ixT rfl)) a_nil))) (a_cons (e_tup (Rs := [rInt a.1, rInt (a.2 + (b.2 - a.2))]) (a_cons (e_op (e_s S5) e_c (ov_ixT rfl)) (a_cons (e_op (e_op (e_s S5) e_c (ov_ixT rfl)) (e_s S5) ov_I0) a_nil))) a_nil)) fun σ6 H6 e6 S6 => ?_
      refine s_asg (R := rBl true) (e_is (e_op (e_is (e_din (e_s S6) (e_at (e_s S6))) (by rw [tr_keys])) (e_is (e_din (e_s S6) (e_at (e_s S6))) (by rw [tr_keys])) (ov_neV (x := .bl (isin cs (a.1 + (b.1 - a.1), a.2))) (y := .bl (isin cs (a.1, a.2 + (b.2 - a.2)))) rfl)) (by rw [hg])) fun v7 H7 e7 r7 => ?_
      exact may_end hw hsl hl ((((E3.trans e4).trans e5).trans e6).trans e7) (((((((((S6.up e7).set (j := 7) r7).forget (i := 2)).forget (i := 3)).forget (i := 4)).forget (i := 5)).forget (i := 6)).forget (i := 8)).forget (i := 9)) q
    · have h2 : ¬ (absI (b.1 - a.1) = 1 ∧ absI (b.2 - a.2) = 1) := fun z => by
        have : (decide (absI (b.1 - a.1) = 1) && decide (absI (b.2 - a.2) = 1)) = true := by
          rw [decide_eq_true z.1, decide_eq_true z.2]
          rfl
        have h2 : (decide (absI (b.1 - a.1) = 1) && decide (absI (b.2 - a.2) = 1)) = false := h2
        rw [this] at h2
        cases h2
      rw [if_neg h2] at hg
      cases hg
end
end Kx
set_option Elab.async false
set_option linter.all false
set_option maxRecDepth 100000
/-! M6: the law's own walk, in plain Lean. -/
namespace Kx
open PySem L2
/-- breadth first from the end till the start is met -/
def bfs4 (r : List Cell) (s : Cell) : Nat → Nat → List (Cell × Int) → List (Cell × Int)
  | 0, _, q => q
  | n + 1, lap, q => if (decide (lap = q.length) || isin (q.map (·.1)) s) = true then q else match q[lap]? with
    | some x => bfs4 r s n (lap + 1) (addN x.2 q (goes4 r x.1))
    | none => q
def back4 (r : List Cell) (far : List (Cell × Int)) : Nat → Cell → Option (List (Cell × Cell))
  | 0, _ => some []
  | n + 1, c => match look far c with
    | none => none
    | some d => match (goes4 r c).filter fun o => decide ((look far o).getD (-1) = d - 1) with
      | [] => none
      | a :: _ => (back4 r far n a).map ((c, a) :: ·)
theorem goes4_len {r : List Cell} {c : Cell} : (goes4 r c).length ≤ 8 := by
  unfold goes4
  rw [List.length_map]
  exact List.length_filter_le _ D8
structure Walk4P (cs : List Cell) (s e : Cell) (plan : List (Cell × Cell)) : Prop where
  nd : cs.Nodup
  len : cs.length ≤ 100
  ne : eqC s e = false
  rne : restC cs s ≠ []
  h : ∃ seen, HwP (restC cs s) seen ∧ seen.length = (restC cs s).length
  eo : isin (restC cs s) e = false
  w : ∃ (far : List (Cell × Int)) (d : Nat), bfs4 (restC cs s) s (8 * cs.length + 8) 0 [(e, 0)] = far ∧ look far s = some (d : Int) ∧ d ≤ 900 ∧ back4 (restC cs s) far d s = some plan
end Kx
set_option Elab.async false
set_option linter.all false
set_option maxRecDepth 100000
set_option maxHeartbeats 4000000
/-! D17: the law's own walk. -/
namespace Kx
open PySem L2 PyProof.Rows
section
variable {σ : L2.St} {H : Hp} {ts : TA} {D : Ends} {tu tz : L2.TS}
/-- for .. in range(n) with a break: what is behind it, once -/
theorem q_forRB {g : TG} {n : Int} (Fin : L2.St → Hp → Prop) (fin : ∀ σ' H', Fin σ' H' → tz D σ' H') (h : EvA ts σ H [rInt n]) (hn : -100000 ≤ n ∧ n ≤ 100000) (Pv : Nat → L2.St → Hp → Prop) (h0 : ∀ H1, Ex H H1 → Pv 0 σ H1)
    (hs : (∀ σ' H', Fin σ' H' → tz D σ' H') → ∀ (i : Nat) σ' H', i < n.toNat → Pv i σ' H' → g (.int (i : Int)) σ' H' fun σ2 H2 => tu { D with nx := Pv (i + 1), ct := Pv (i + 1), bk := tz D } σ2 H2) (hd : ∀ σ' H', Pv n.toNat σ' H' → Fin σ' H') : tSeq (tFor (iRng1 ts) g tu) tz D σ H :=
  q_forR h hn Pv h0 (hs fin) fun σ' H' p => fin σ' H' (hd σ' H' p)
variable {K : PySem.W.Frag} {tl : TE}
theorem s_forN {g : TG} {Rs : List RP} (h : Ev tl σ H (rNewL H Rs)) (Pv : Addr → List V → Nat → L2.St → Hp → Prop) (h0 : ∀ a xs H1, Ex H H1 → H a = none → H1 a = some (.lst xs) → AllP Rs xs H1 → Pv a xs 0 σ H1)
    (hl : ∀ a xs i σ' H', Pv a xs i σ' H' → H' a = some (.lst xs)) (hs : ∀ a xs i x σ' H', i < Rs.length → xs[i]? = some x → Pv a xs i σ' H' → g x σ' H' fun σ2 H2 => tu { D with nx := Pv a xs (i + 1), ct := Pv a xs (i + 1), bk := D.nx } σ2 H2)
    (hd : ∀ a xs σ' H', Pv a xs Rs.length σ' H' → D.nx σ' H') : tFor (iSeq K tl) g tu D σ H := h H (exr H) _ fun v H1 e ⟨a, xs, ev, hn, ha, hx⟩ => ⟨a, xs, false, ev, .inr ⟨rfl, SqL.of ha⟩, by
    have l := hx.len
    exact for_it (walk_seq (k := false)) (Pv a xs) (h0 a xs H1 e hn ha hx) (fun i σ' H' _ p => .inr ⟨rfl, SqL.of (hl a xs i σ' H' p)⟩) (fun i x σ' H' H2 hi p y => by
      obtain ⟨e2, hy⟩ := y
      rw [e2]
      exact hs a xs i x σ' H' (by omega) hy p) fun σ' H' p => hd a xs σ' H' (by rw [← l]; exact p)⟩
end
theorem back4_step {r : List Cell} {far : List (Cell × Int)} {c : Cell} {n : Nat} {rp : List (Cell × Cell)} (h : back4 r far (n + 1) c = some rp) : ∃ d a rest rp', look far c = some d ∧ ((goes4 r c).filter fun o => decide ((look far o).getD (-1) = d - 1)) = a :: rest ∧ back4 r far n a = some rp' ∧ rp = (c, a) :: rp' := by
  unfold back4 at h
  cases hl : look far c with
  | none =>
    rw [hl] at h
    cases h
  | some d =>
    rw [hl] at h
    have h : (match (goes4 r c).filter fun o => decide ((look far o).getD (-1) = d - 1) with | [] => none | a :: _ => (back4 r far n a).map ((c, a) :: ·)) = some rp := h
    cases hf : (goes4 r c).filter fun o => decide ((look far o).getD (-1) = d - 1) with
    | nil =>
      rw [hf] at h
      cases h
    | cons a rest =>
      rw [hf] at h
      obtain ⟨rp', h1, h2⟩ := Option.map_eq_some_iff.mp h
      exact ⟨d, a, rest, rp', rfl, hf, h1, h2.symm⟩
theorem get2_int (far : List (Cell × Int)) (o : Cell) : rV ((look (fI far) o).getD (.int (-1))) = rInt ((look far o).getD (-1)) := by
  rw [look_fI]
  cases look far o <;> rfl
section
variable {P : Program} {w : World} {K : PySem.W.Frag} {mg : Str → Option Value} {base : Heap} {tS tG : Tok} {aT aW : Addr} {f : Addr} {fd : FuncData}
abbrev spWalk4 : Sp := Fn (fun d : List Cell × Cell × Cell × List (Cell × Cell) => Walk4P d.1 d.2.1 d.2.2.1 d.2.2.2) (fun d => [rTupL rCell d.1, rCell d.2.1, rCell d.2.2.1]) fun d => rTupL rPr d.2.2.2
abbrev N_law_t4walk : List Str := ["_law_cells", "_law_start", "_law_end", "_law_rest", "_law_far", "_law_waiting", "_law_lap", "_law_cell", "_law_found", "_law_ahead", "_law_other"]
theorem sc_law_t4walk : FnScope N_law_t4walk ["_law_cells", "_law_start", "_law_end"] (defScope (top 62)) := ⟨rfl, rfl, rfl, by decide +kernel, rfl, by decide +kernel, by decide +kernel⟩
theorem ok_law_t4walk (F : Fun K "_law_t4walk" "_law_t4walk" (top 62) f fd) (T : Txt K mg tS tG aT aW) (G_law_w_hangs : Cl P w K mg base 2 "_law_w_hangs" spWHangs) (G_law_t4goes : Cl P w K mg base 2 "_law_t4goes" spGoes4) : FnOk P w K mg base CX0 3 f fd ["_law_cells", "_law_start", "_law_end"] spWalk4 := by
  refine F.ok sc_law_t4walk (Fn.len fun _ => rfl) (fun cdv A outer s H vs Q E hr h => ⟨_, (pss_cons (ps_set (i := 3) sc_law_t4walk.nd rfl (Or.inl rfl) (pe_callTy (call_dictT (by rfl) (u8 hr)) (by rfl) T.dict b_dict (pa_cons (pe_lc (own := [("_law_cell", 7)]) (g := (gName 7)) (by rfl) sc_law_t4walk.nd (pi_seq (pv 0)) (blkOk_by (N := N_law_t4walk) (sc := defScope (top 62)) (own := [("_law_cell", 7)]) (by decide +kernel)) (fun _ _ _ _ _ => (pg_name (i := 7) sc_law_t4walk.nd rfl (Or.inl rfl))) (fun _ _ _ _ _ => (pts_one (pt_cmpR (neDK (K := K) hr.units) (pv 7) (pv 1) (nomark _)))) (fun _ _ _ _ _ => (pe_tup (pa_cons (pv 7) (pa_cons pe_bl pa_nil))))) pa_nil))) (pss_cons (ps_if (pt_cmpR (eqDK (K := K) hr.units) (pv 1) (pv 2) (nomark _)) (pss_one (ps_ret (pe_tup pa_nil))) pss_nil) (pss_cons (ps_if (PW.pt (pw_or (pt_cmpR (op_eqT0 (u8 hr)) (pv 3) pe_dnewT (nomark _)) (pw_or1 (pt_not (pt_val (pe_cl G_law_w_hangs (hr.mono (by decide)) (by rfl) (pa_cons (pe_callTy (call_listView (by rfl)) (by rfl) T.list b_list (pa_cons (pe_bm0 PySem.F.plainAttrs_dict PySem.F.slot_dict_keys PySem.F.type_dict_keys mt_keysV (pv 3)) pa_nil)) pa_nil))))))) (pss_one (ps_ret pe_non)) pss_nil) (pss_cons (ps_asg (pe_tup (pa_cons (pe_disp1 (hu_of hr) (pv 2) pe_int) (pa_cons (pe_lst (pa_cons (pv 2) pa_nil)) pa_nil))) (pg_tup rfl (pgs_cons (pg_name (i := 4) sc_law_t4walk.nd rfl (Or.inr rfl)) (pgs_cons (pg_name (i := 5) sc_law_t4walk.nd rfl (Or.inl rfl)) pgs_nil)))) (pss_cons (ps_for PassesOwn.never rfl (pi_range1 (by rfl) T.range (pa_cons (pe_op op_add (pe_op op_mulW pe_int (pe_callB cr_ln (by rfl) T.len b_len (pa_cons (pv 0) pa_nil))) pe_int) pa_nil)) (pg_name (i := 6) sc_law_t4walk.nd rfl (Or.inl rfl)) (pss_cons (ps_if (PW.pt (pw_or (pt_cmpR op_eq (pv 6) (pe_callB cr_ln (by rfl) T.len b_len (pa_cons (pv 5) pa_nil)) (nomark _)) (pw_or1 (pt_cmp (pc_din (hu_of hr) (pv 1) (pv 4)))))) (pss_one ps_break) pss_nil) (pss_one (ps_for PassesOwn.never rfl (pi_seq (pe_cl G_law_t4goes (hr.mono (by decide)) (by rfl) (pa_cons (pv 3) (pa_cons (pe_ix (ixK (K := K)) (pv 5) (pv 6) (fun _ _ => rfl)) pa_nil)))) (pg_name (i := 7) sc_law_t4walk.nd rfl (Or.inr rfl)) (pss_one (ps_if (pt_cmp (pc_dnotin (hu_of hr) (pv 7) (pv 4))) (pss_cons (ps_dput (hu_of hr) (pv 4) (pv 7) (pe_op op_add (pe_dget (hu_of hr) (pv 4) (pe_ix (ixK (K := K)) (pv 5) (pv 6) (fun _ _ => rfl)) (fun _ _ => rfl)) pe_int) rfl) (pss_one (ps_expr (pe_bm PySem.F.plainAttrs_list PySem.F.slot_list_append PySem.F.type_list_append mt_append (pv 5) (pa_cons (pv 7) pa_nil))))) pss_nil)))))) (pss_cons (ps_if (PW.pt (pw_or (pt_cmp (pc_dnotin (hu_of hr) (pv 1) (pv 4))) (pw_or1 (pt_cmp (pc_din (hu_of hr) (pv 2) (pv 3)))))) (pss_one (ps_ret pe_non)) pss_nil) (pss_cons (ps_asg (pe_tup (pa_cons (pv 1) (pa_cons (pe_lst pa_nil) pa_nil))) (pg_tup rfl (pgs_cons (pg_name (i := 7) sc_law_t4walk.nd rfl (Or.inr rfl)) (pgs_cons (pg_name (i := 8) sc_law_t4walk.nd rfl (Or.inl rfl)) pgs_nil)))) (pss_cons (ps_for PassesOwn.never rfl (pi_range1 (by rfl) T.range (pa_cons (pe_dget (hu_of hr) (pv 4) (pv 1) (fun _ _ => rfl)) pa_nil)) (pg_name (i := 6) sc_law_t4walk.nd rfl (Or.inl rfl)) (pss_cons (ps_set (i := 9) sc_law_t4walk.nd rfl (Or.inl rfl) (pe_ix (ixK (K := K)) (pe_lc (own := [("_law_other", 10)]) (g := (gName 10)) (by rfl) sc_law_t4walk.nd (pi_seq (pe_cl G_law_t4goes (hr.mono (by decide)) (by rfl) (pa_cons (pv 3) (pa_cons (pv 7) pa_nil)))) (blkOk_by (N := N_law_t4walk) (sc := defScope (top 62)) (own := [("_law_other", 10)]) (by decide +kernel)) (fun _ _ _ _ _ => (pg_name (i := 10) sc_law_t4walk.nd rfl (Or.inl rfl))) (fun _ _ _ _ _ => (pts_one (pt_cmpR op_eq (pe_dget2 (hu_of hr) (pv 4) (pv 10) (pe_un un_neg pe_int) ⟨rfl, rfl, rfl, rfl⟩) (pe_op op_sub (pe_dget (hu_of hr) (pv 4) (pv 7) (fun _ _ => rfl)) pe_int) (nomark _)))) (fun _ _ _ _ _ => (pv 10))) pe_int (fun _ _ => rfl))) (pss_cons (ps_expr (pe_bm PySem.F.plainAttrs_list PySem.F.slot_list_append PySem.F.type_list_append mt_append (pv 8) (pa_cons (pe_tup (pa_cons (pv 7) (pa_cons (pv 9) pa_nil))) pa_nil))) (pss_one (ps_set (i := 7) sc_law_t4walk.nd rfl (Or.inr rfl) (pv 9)))))) (pss_one (ps_ret (pe_callTy cr_tof (by rfl) T.tuple b_tuple (pa_cons (pv 8) pa_nil)))))))))))), ?_⟩)
  obtain ⟨⟨cs, s0, e, plan⟩, hp, hv, q⟩ := h
  have hp : Walk4P cs s0 e plan := hp
  have hl := hp.len
  obtain ⟨seen, hw, hsl⟩ := hp.h
  have S0 := st (N := N_law_t4walk) (Rs := [rTupL rCell cs, rCell s0, rCell e]) hv
  refine q_asgA S0 (e_dctT (cs := restC cs s0) (a_cons (e_lc (ds := cs) (f := rCell) (out := rCT) (b := fun c => !eqC c s0) S0 (i_seq (e_sqT (e_s S0))) (fun d _ => tg_name) (by omega) (fun o _ σ' H' e' S' => t_test (e_op (e_s S') (e_s S') ov_neC)) fun d _ _ σ' H' e' S' => e_tup (Rs := [rCell d, rBl true]) (a_cons (e_s S') (a_cons e_c a_nil))) a_nil) (hp.nd.filter _)) fun v1 σ1 H1 e1 hd1 S1 => ?_
  obtain ⟨pr, rfl, npr, hpr⟩ := hd1
  refine qf (t_test (e_op (e_s S1) (e_s S1) ov_eqC)) (fun H2 e2 => ?_) hp.ne
  have S2 := S1.up e2
  have hpr2 := e2 _ _ hpr
  refine qf (t_or (t_test (e_op (e_od S2 hpr2) e_dnew (ov_eqT0 (by
    rw [List.length_map]
    exact fun z => hp.rne (List.length_eq_zero_iff.mp z))))) fun _ => t_not (t_B (e_call (restC cs s0, seen) (a_cons (e_is (e_cb (a_cons (e_keysC (e_od S2 hpr2)) a_nil) cv_keysC) (by rw [tr_keys])) a_nil) hw))) (fun H3 e3 => ?_) (by
    show (false || !decide (((seen.length : Nat) : Int) = _)) = false
    rw [hsl, decide_eq_true rfl]
    rfl)
  have S3 := S2.up e3
  have hpr3 := e3 _ _ hpr2
  refine q_unp2A S3 (e_tup (Rs := [rNewD H3 [(e, .int 0)], rNewL H3 [rCell e]]) (a_cons (e_disp1N (v := .int 0) (e_s S3) e_c) (a_cons (e_lstN (a_cons (e_s S3) a_nil)) a_nil))) fun v u σ4 H4 e4 hf ht S4 => ?_
  obtain ⟨pf, rfl, nf, hpf⟩ := hf
  obtain ⟨pt, tv, rfl, nt, hpt, at_⟩ := ht
  generalize hr0 : restC cs s0 = r at *
  obtain ⟨far, dd, hfar, hlk, hdd, hback⟩ := hp.w
  rw [hr0] at hfar hback
  have heo := hp.eo
  rw [hr0] at heo
  have npf : H pf = none := Evl.fresh_back ((e1.trans e2).trans e3) nf
  have npt : H pt = none := Evl.fresh_back ((e1.trans e2).trans e3) nt
  have N : BfN H pr pf pt := ⟨npf, npt, fun z => (by rw [z, nf] at hpr3; cases hpr3), fun z => (by rw [z, nt] at hpr3; cases hpr3), fun z => (by rw [z, hpt] at hpf; cases hpf)⟩
  have B : Bf H pr pf pt r (fI [(e, 0)]) ([(e, (0 : Int))].map (·.1)) H4 := ⟨((e1.trans e2).trans e3).trans e4, e4 _ _ hpr3, hpf, tv, hpt, at_⟩
  have hnn : ((8 * cs.length + 8 : Nat) : Int) = 8 * (cs.length : Int) + 8 := by omega
  refine q_forRB (n := (8 * cs.length + 8 : Nat)) (fun σ' H' => (far.map (·.1)).Nodup ∧ Bf H pr pf pt r (fI far) (far.map (·.1)) H' ∧ Sl σ' H' [none, some (rCell s0), some (rCell e), some (rV (.ref pr)), some (rV (.ref pf)), some (rV (.ref pt)), none, none, none, none, none]) ?fin
    (a_cons (e_is (e_op (e_op e_c (e_cb (a_cons (e_s S4) a_nil) cv_lnT) (ov_I (wide_mul (a := 4) (b := 20) (by decide) (by rw [List.length_map]; omega) (by decide) (by decide) (by decide)))) e_c ov_I0) (by rw [List.length_map, hnn])) a_nil) (by omega)
    (fun i σ' H' => ∃ qq : List (Cell × Int), bfs4 r s0 (8 * cs.length + 8 - i) i qq = far ∧ i ≤ qq.length ∧ qq.length ≤ 1 + 8 * i ∧ (qq.map (·.1)).Nodup ∧ Bf H pr pf pt r (fI qq) (qq.map (·.1)) H' ∧ Sl σ' H' [none, some (rCell s0), some (rCell e), some (rV (.ref pr)), some (rV (.ref pf)), some (rV (.ref pt)), none, none, none, none, none])
    (fun H5 e5 => ⟨[(e, 0)], hfar, Nat.zero_le _, Nat.le_refl _, List.nodup_cons.mpr ⟨by simp, List.nodup_nil⟩, B.up e5, (S4.up e5).forget (i := 0)⟩) (fun fin => ?hs) ?hd
  case hd =>
    rintro σ5 H5 ⟨qq, hq, hi1, hi2, hnd, B5, S5⟩
    have e0 : 8 * cs.length + 8 - ((8 * cs.length + 8 : Nat) : Int).toNat = 0 := by omega
    rw [e0] at hq
    have hq : qq = far := hq
    subst hq
    exact ⟨hnd, B5, S5⟩
  case hs =>
    rintro i σ5 H5 hi ⟨qq, hF, hi1, hi2, hnd, B5, S5⟩
    have hi : i < 8 * cs.length + 8 := by
      have := hi
      omega
    obtain ⟨n, hn⟩ : ∃ n, 8 * cs.length + 8 - i = n + 1 := ⟨8 * cs.length + 8 - i - 1, by omega⟩
    rw [hn] at hF
    have en : 8 * cs.length + 8 - (i + 1) = n := by omega
    refine g_name (R := rInt (i : Nat)) S5 rfl fun σ6 S6 => ?_
    obtain ⟨tv6, ht6, at6⟩ := B5.t
    have hcond : (decide ((i : Int) = (((qq.map (·.1)).map rCell).length : Nat)) || isin ((fI qq).map (·.1)) s0) = (decide (i = qq.length) || isin (qq.map (·.1)) s0) := by
      rw [fI_keys, List.length_map, List.length_map]
      congr 1
      by_cases z : i = qq.length
      · rw [decide_eq_true z, decide_eq_true (by omega)]
      · rw [decide_eq_false z, decide_eq_false (by omega)]
    refine q_if (t_is (t_or (t_test (e_op (e_s S6) (e_cb (a_cons (e_ol S6 ht6 at6) a_nil) cv_lnL) ov_eqI)) fun _ => t_B (e_din (e_s S6) (e_od S6 B5.f))) hcond) (fun hb H7 e7 => ?_) fun hb H7 e7 => ?_
    · have hq : qq = far := by
        unfold bfs4 at hF
        rw [if_pos hb] at hF
        exact hF
      subst hq
      exact fin _ H7 ⟨hnd, B5.up e7, (S6.up e7).forget (i := 6)⟩
    · have hne : ¬ i = qq.length ∧ isin (qq.map (·.1)) s0 = false := by
        rw [Bool.or_eq_false_iff, decide_eq_false_iff_not] at hb
        exact hb
      have hlt : i < qq.length := by omega
      have hF2 : bfs4 r s0 n (i + 1) (addN qq[i].2 qq (goes4 r qq[i].1)) = far := by
        unfold bfs4 at hF
        rw [if_neg (by rw [hb]; decide), List.getElem?_eq_getElem hlt] at hF
        exact hF
      have S7 := S6.up e7
      have B7 := B5.up e7
      refine s_next ?_
      dsimp only
      have hx : ((qq.map (·.1)).map rCell)[i]? = some (rCell qq[i].1) := by
        rw [List.getElem?_map, List.getElem?_map, List.getElem?_eq_getElem hlt]
        rfl
      have hmem : qq[i] ∈ qq := List.getElem_mem hlt
      have hL := goes4_len (r := r) (c := qq[i].1)
      generalize hxx : qq[i] = x at hF2 hx hmem hL ⊢
      refine s_forN (Rs := (goes4 r x.1).map rCell) (e_callN (r, x.1) (a_cons (e_od S7 B7.r) (a_cons (e_op (e_ol S7 (e7 _ _ ht6) (at6.mono e7)) (e_s S7) (ov_ixL (atI_nat hx))) a_nil)) trivial)
        (fun a xs j σ' H' => (H' a = some (.lst xs) ∧ a ≠ pf ∧ a ≠ pt) ∧ AllP ((goes4 r x.1).map rCell) xs H' ∧ Bf H pr pf pt r (fI (addN x.2 qq ((goes4 r x.1).take j))) ((addN x.2 qq ((goes4 r x.1).take j)).map (fun z : Cell × Int => z.1)) H' ∧ Sl σ' H' [none, some (rCell s0), some (rCell e), some (rV (.ref pr)), some (rV (.ref pf)), some (rV (.ref pt)), some (rInt (i : Nat)), none, none, none, none])
        (fun a xs H5 e5 hn ha hx5 => ⟨⟨ha, fun z => ?_, fun z => ?_⟩, hx5, B7.up e5, S7.up e5⟩) (fun a xs j σ' H' h => h.1.1) ?_ ?_
      · rw [z, B7.f] at hn
        cases hn
      · rw [z, e7 _ _ ht6] at hn
        cases hn
      · rintro a xs j y σ5 H5 hj hy ⟨⟨ha, na, nb⟩, hx5, B5, S5⟩
        have hj' : j < (goes4 r x.1).length := by simpa using hj
        have ry := el_cells hx5 hj' hy
        rw [take_s hj', addN_snoc]
        have hpre := addN_pre (d := x.2) ((goes4 r x.1).take j) qq
        have hndk := addN_nd (d := x.2) ((goes4 r x.1).take j) qq hnd
        have hl5 := addN_len (d := x.2) ((goes4 r x.1).take j) qq
        rw [List.length_take] at hl5
        generalize addN x.2 qq ((goes4 r x.1).take j) = qi at B5 hpre hndk hl5 ⊢
        generalize (goes4 r x.1)[j] = c at ry ⊢
        refine g_name S5 ry fun σ6 S6 => ?_
        refine s_if (t_B (e_dnin (e_s S6) (e_od S6 B5.f))) (fun hb H6 e6 => ?_) fun hb H6 e6 => ?_
        · rw [fI_keys] at hb
          have hb : isin (qi.map (·.1)) c = false := by simpa using hb
          have ea : add1 x.2 qi c = qi ++ [(c, x.2 + 1)] := by
            unfold add1
            rw [if_neg (by rw [hb]; decide)]
          rw [ea]
          have S7 := S6.up e6
          have B7 := B5.up e6
          obtain ⟨tv7, ht7, at7⟩ := B7.t
          have hx7 : ((qi.map (·.1)).map rCell)[i]? = some (rCell x.1) := by
            have h1 := List.prefix_iff_getElem?.mp hpre i hlt
            rw [List.getElem?_map, List.getElem?_map, h1, hxx]
            rfl
          refine q_dput (kvs := fI qi) (c := c) (v := .int (x.2 + 1)) B7.f (e_op (e_dget (e_od S7 B7.f) (e_op (e_ol S7 ht7 at7) (e_s S7) (ov_ixL (atI_nat hx7))) (look_nd hndk (hpre.subset hmem))) e_c ov_I0) (e_s S7) (e_s S7) (by
            rw [List.length_map]
            omega) fun H8 e8 h8 => ?_
          rw [fI_put hb]
          have B8 := (B7.up e8).setF (fq' := fI (qi ++ [(c, x.2 + 1)])) N
          have S8 := (S7.up e8).mut (H0 := H) (o := dC (fI (qi ++ [(c, x.2 + 1)]))) h8 nt_t N.f0
          obtain ⟨tv8, ht8, at8⟩ := B8.t
          have l8 := at8.len
          rw [List.length_map, List.length_map] at l8
          have ha8 : (upd H8 pf (dC (fI (qi ++ [(c, x.2 + 1)])))) a = some (.lst xs) := by
            rw [upd_ne na]
            exact e8 _ _ (e6 _ _ ha)
          have hx8 := allP_ms (o := dC (fI (qi ++ [(c, x.2 + 1)]))) h8 nt_t N.f0 ms_cells ((hx5.mono e6).mono e8)
          refine s_app (Rl := rCell c) ht8 (e_s S8) (e_s S8) (by omega) fun v9 H9 e9 r9 h9 => ?_
          refine ⟨⟨by rw [upd_ne nb]; exact e9 _ _ ha8, na, nb⟩, allP_ms h9 nt_l N.t0 ms_cells (hx8.mono e9), (B8.up e9).setT N h9 ?_, ((S8.up e9).mut h9 nt_l N.t0).forget (i := 7)⟩
          rw [List.map_append, List.map_append]
          exact (at8.mono e9).app ⟨r9, trivial⟩
        · rw [fI_keys] at hb
          have hb : isin (qi.map (·.1)) c = true := by simpa using hb
          have ea : add1 x.2 qi c = qi := by
            unfold add1
            rw [if_pos hb]
          rw [ea]
          exact ⟨⟨e6 _ _ ha, na, nb⟩, hx5.mono e6, B5.up e6, (S6.up e6).forget (i := 7)⟩
      · rintro a xs σ8 H8 ⟨_, _, B8, S8⟩
        have ek : (goes4 r x.1).take ((goes4 r x.1).map rCell).length = goes4 r x.1 := by rw [List.length_map, List.take_length]
        rw [ek] at B8
        have hpl := (addN_pre (d := x.2) (goes4 r x.1) qq).length_le
        refine ⟨_, by rw [en]; exact hF2, ?_, ?_, addN_nd _ _ hnd, B8, S8.forget (i := 6)⟩
        · omega
        · have := addN_len (d := x.2) (goes4 r x.1) qq
          omega
  case fin =>
    rintro σ5 H5 ⟨hnd, B5, S5⟩
    have hsin : isin (far.map (·.1)) s0 = true := isin_iff.mpr (look_isSome.mp (by rw [hlk]; rfl))
    refine qf (t_or (t_B (e_dnin (e_s S5) (e_od S5 B5.f))) fun _ => t_B (e_din (e_s S5) (e_od S5 B5.r))) (fun H6 e6 => ?_) (by rw [fI_keys, tr_keys, hsin, heo]; rfl)
    have S6 := S5.up e6
    have B6 := B5.up e6
    have S6' := (S6.re (i := 3) (R := rAt H6 (rDic (tr r))) rfl fun v z => (z ▸ ⟨⟨pr, rfl, B6.r⟩, exr _⟩)).re (i := 4) (R := rAt H6 (rDic (fI far))) rfl fun v z => (z ▸ ⟨⟨pf, rfl, B6.f⟩, exr _⟩)
    refine q_unp2A S6' (e_tup (Rs := [rCell s0, rNewL H6 []]) (a_cons (e_s S6) (a_cons (e_lstN a_nil) a_nil))) fun v7 u7 σ7 H7 e7 hv7 hu7 S7 => ?_
    obtain ⟨pl, pv, rfl, npl, hpl, apl⟩ := hu7
    have S8 : Sl σ7 H7 [none, some (rCell s0), some (rCell e), some (rAt H6 (rDic (tr r))), some (rAt H6 (rDic (fI far))), none, none, some (rCell s0), some (rV (.ref pl)), none, none] := (S7.re (i := 7) (R := rCell s0) rfl fun v' z => z ▸ hv7).forget (i := 5)
    have hlk' : look (fI far) s0 = some (.int (dd : Nat)) := by rw [look_fI, hlk]; rfl
    refine q_forR (n := (dd : Nat)) (a_cons (e_dget (e_at (e_s S8)) (e_s S8) hlk') a_nil) (by omega) (fun j σ' H' => ∃ (c : Cell) (acc rp : List (Cell × Cell)), back4 r far (dd - j) c = some rp ∧ acc ++ rp = plan ∧ acc.length = j ∧ Ex H6 H' ∧ (∃ pv, H' pl = some (.lst pv) ∧ AllP (acc.map rPr) pv H') ∧
      Sl σ' H' [none, some (rCell s0), some (rCell e), some (rAt H6 (rDic (tr r))), some (rAt H6 (rDic (fI far))), none, none, some (rCell c), some (rV (.ref pl)), none, none]) (fun H8 e8 => ⟨s0, [], plan, hback, rfl, rfl, e7.trans e8, ⟨pv, e8 _ _ hpl, apl.mono e8⟩, S8.up e8⟩) ?_ ?_
    · rintro j σ9 H9 hj ⟨c, acc, rp, hB, hpl9, hacc, E9, ⟨pv9, hp9, ap9⟩, S9⟩
      have hj : j < dd := by
        have := hj
        omega
      obtain ⟨n, hn⟩ : ∃ n, dd - j = n + 1 := ⟨dd - j - 1, by omega⟩
      rw [hn] at hB
      obtain ⟨d, a, rest, rp', hlc, hfil, hB', rfl⟩ := back4_step hB
      have hlc' : look (fI far) c = some (.int d) := by rw [look_fI, hlc]; rfl
      refine g_name (R := rInt (j : Nat)) S9 rfl fun σ10 S10 => ?_
      refine q_asg (R := rCell a) S10 (e_op (Rx := rLst (((goes4 r c).filter fun o => decide ((look far o).getD (-1) = d - 1)).map rCell)) (e_lc (ds := goes4 r c) (f := rCell) (out := rCell) (b := fun o => decide ((look far o).getD (-1) = d - 1)) S10
        (i_seq (e_sqL (e_new (e_callN (r, c) (a_cons (e_at (e_s S10)) (a_cons (e_s S10) a_nil)) trivial)))) (fun d _ => tg_name) (Nat.le_trans goes4_len (Nat.le_of_ble_eq_true rfl)) (fun o _ σ' H' e' S' =>
          t_test (e_op (e_is (e_get2 (z := .int (-1)) (e_at (e_s S')) (e_s S') (e_un e_c (uv_neg (i := 1)))) (get2_int far o)) (e_op (e_dget (e_at (e_s S')) (e_s S') hlc') e_c ov_I0) ov_eqI)) fun o _ _ σ' H' e' S' => e_s S') e_c (ov_ixL (by rw [hfil]; exact atI_nat (i := 0) rfl))) fun σ11 H11 e11 S11 => ?_
      have hp11 := e11 _ _ hp9
      have ap11 := ap9.mono e11
      have l11 := ap11.len
      rw [List.length_map] at l11
      refine q_app (R := rPr (c, a)) hp11 (e_s S11) (e_tup (a_cons (e_s S11) (a_cons (e_s S11) a_nil))) (by omega) fun v12 H12 e12 r12 h12 => ?_
      have S12 := (S11.up e12).mut (H0 := H6) (o := .lst (pv9 ++ [v12])) h12 nt_l npl
      have ap12 := allP_ms (o := .lst (pv9 ++ [v12])) h12 nt_l npl (Rs := (acc ++ [(c, a)]).map rPr) ms_prs (by
        rw [List.map_append]
        exact (ap11.mono e12).app (show AllP [rPr (c, a)] [v12] H12 from ⟨r12, trivial⟩))
      refine s_asg (R := rCell a) (e_s S12) fun v13 H13 e13 r13 => ?_
      refine ⟨a, acc ++ [(c, a)], rp', by rw [show dd - (j + 1) = n by omega]; exact hB', ?_, ?_, (Evl.Ex.mut ((E9.trans e11).trans e12) npl).trans e13, ⟨_, e13 _ _ upd_same, ap12.mono e13⟩, (((S12.up e13).set r13).forget (i := 6)).forget (i := 9)⟩
      · rw [← hpl9, List.append_assoc]
        rfl
      · rw [List.length_append, List.length_singleton, hacc]
    · rintro σ9 H9 ⟨c, acc, rp, hB, hpl9, hacc, E9, ⟨pv9, hp9, ap9⟩, S9⟩
      have e0 : dd - ((dd : Nat) : Int).toNat = 0 := by omega
      rw [e0] at hB
      cases hB
      rw [List.append_nil] at hpl9
      rw [hpl9] at ap9
      exact s_ret (e_cb (a_cons (e_ol S9 hp9 ap9) a_nil) cv_tof) fun v H11 e11 hv => q v H11 ((B6.ex.trans E9).trans e11) hv
end
end Kx
set_option Elab.async false
set_option linter.all false
set_option maxRecDepth 100000
set_option maxHeartbeats 4000000
/-! D18: t4walks, t4along. -/
namespace Kx
open PySem L2 PyProof.Rows
def Walks4P : List Cell → List (Cell × Cell) → List (Cell × Cell) → Prop
  | _, [], plan => plan = []
  | b, (s, e) :: ws, plan => ∃ p1 p2, Walk4P b s e p1 ∧ Walks4P (movedC b s e) ws p2 ∧ plan = p1 ++ p2
section
variable {P : Program} {w : World} {K : PySem.W.Frag} {mg : Str → Option Value} {base : Heap} {tS tG : Tok} {aT aW : Addr} {f : Addr} {fd : FuncData}
abbrev spWalks4 : Sp := Fn (fun d : List Cell × List (Cell × Cell) × List (Cell × Cell) => Walks4P d.1 d.2.1 d.2.2 ∧ d.2.2.length ≤ 1000) (fun d => [rTupL rCell d.1, rLstL rPr d.2.1]) fun d => rTupL rPr d.2.2
abbrev N_law_t4walks : List Str := ["_law_cells", "_law_pairs", "_law_found", "_law_start", "_law_end"]
theorem sc_law_t4walks : FnScope N_law_t4walks ["_law_cells", "_law_pairs"] (defScope (top 63)) := ⟨rfl, rfl, rfl, by decide +kernel, rfl, by decide +kernel, by decide +kernel⟩
theorem ok_law_t4walks (F : Fun K "_law_t4walks" "_law_t4walks" (top 63) f fd) (T : Txt K mg tS tG aT aW) (G_law_t4walk : Cl P w K mg base 3 "_law_t4walk" spWalk4) (G_law_w_moved : Cl P w K mg base 1 "_law_w_moved" spMoved) : FnOk P w K mg base CX0 4 f fd ["_law_cells", "_law_pairs"] spWalks4 := by
  refine F.ok sc_law_t4walks (Fn.len fun _ => rfl) (fun cdv A outer s H vs Q E hr h => ⟨_, (pss_cons (ps_set (i := 2) sc_law_t4walks.nd rfl (Or.inl rfl) (pe_tup pa_nil)) (pss_cons (ps_for PassesOwn.never rfl (pi_seq (pv 1)) (pg_tup rfl (pgs_cons (pg_name (i := 3) sc_law_t4walks.nd rfl (Or.inl rfl)) (pgs_cons (pg_name (i := 4) sc_law_t4walks.nd rfl (Or.inl rfl)) pgs_nil))) (pss_cons (ps_set (i := 2) sc_law_t4walks.nd rfl (Or.inl rfl) (pe_op op_catA (pv 2) (pe_cl G_law_t4walk (hr.mono (by decide)) (by rfl) (pa_cons (pv 0) (pa_cons (pv 3) (pa_cons (pv 4) pa_nil)))))) (pss_one (ps_set (i := 0) sc_law_t4walks.nd rfl (Or.inl rfl) (pe_cl G_law_w_moved (hr.mono (by decide)) (by rfl) (pa_cons (pv 0) (pa_cons (pv 3) (pa_cons (pv 4) pa_nil)))))))) (pss_one (ps_ret (pv 2))))), ?_⟩)
  obtain ⟨⟨b, ws, plan⟩, ⟨hp, hlen⟩, hv, q⟩ := h
  have hp : Walks4P b ws plan := hp
  have hlen : plan.length ≤ 1000 := hlen
  have S0 := st (N := N_law_t4walks) (Rs := [rTupL rCell b, rLstL rPr ws]) hv
  refine q_asg (R := rTupL rPr []) S0 (e_tup (Rs := []) a_nil) fun σ1 H1 e1 S1 => ?_
  refine q_forQ (k := false) (Rs := ws.map rPr) (e_sqL (e_s S1)) (fun a xs i σ' H' => (SqB K false H' a xs ∧ AllP (ws.map rPr) xs H') ∧ ∃ (cur : List Cell) (acc rp : List (Cell × Cell)), Walks4P cur (ws.drop i) rp ∧ acc ++ rp = plan ∧ Ex H H' ∧ Sl σ' H' [some (rTupL rCell cur), none, some (rTupL rPr acc), none, none])
    (fun a xs H2 e2 hq hx => ⟨⟨hq, hx⟩, b, [], plan, hp, rfl, e1.trans e2, (S1.up e2).forget (i := 1)⟩) (fun a xs i σ' H' h => h.1.1) ?_ ?_
  · rintro a xs i x σ2 H2 hi hx ⟨⟨hq, hx2⟩, cur, acc, rp, hW, hacc, E2, S2⟩
    have hi' : i < ws.length := by simpa using hi
    have rx : (rPr ws[i]).p x H2 := by
      obtain ⟨R, r1, r2⟩ := hx2.get' hx
      rw [List.getElem?_map, List.getElem?_eq_getElem hi'] at r1
      cases r1
      exact r2
    rw [drop_step hi'] at hW
    generalize ws[i] = w0 at hW rx
    obtain ⟨s0, e0⟩ := w0
    obtain ⟨p1, p2, hw1, hw2, rfl⟩ := hW
    have ll : acc.length + (p1.length + p2.length) = plan.length := by rw [← hacc, List.length_append, List.length_append]
    refine g_two S2 rx fun σ3 S3 => ?_
    refine q_asg (R := rTupL rPr (acc ++ p1)) S3 (e_is (e_op (e_s S3) (e_call (cur, s0, e0, p1) (a_cons (e_s S3) (a_cons (e_s S3) (a_cons (e_s S3) a_nil))) hw1) (ov_catA (by
      rw [List.length_map, List.length_map]
      show acc.length + p1.length ≤ 100000
      omega))) (by rw [← List.map_append])) fun σ4 H4 e4 S4 => ?_
    refine s_asg (R := rTupL rCell (movedC cur s0 e0)) (e_call (cur, s0, e0) (a_cons (e_s S4) (a_cons (e_s S4) (a_cons (e_s S4) a_nil))) (by
      have := hw1.len
      show cur.length ≤ 1000
      omega)) fun v5 H5 e5 r5 => ?_
    exact ⟨⟨(hq.up e4).up e5, (hx2.mono e4).mono e5⟩, movedC cur s0 e0, acc ++ p1, p2, hw2, by rw [List.append_assoc]; exact hacc, (E2.trans e4).trans e5, (((S4.up e5).set (j := 0) r5).forget (i := 3)).forget (i := 4)⟩
  · rintro a xs σ2 H2 ⟨_, cur, acc, rp, hW, hacc, E2, S2⟩
    rw [List.length_map, List.drop_length] at hW
    have hW : rp = [] := hW
    rw [hW, List.append_nil] at hacc
    rw [hacc] at S2
    exact s_ret (e_s S2) fun v H3 e3 hv => q v H3 (E2.trans e3) hv
abbrev spAlong : Sp := Fn (fun d : Cell × Nat => 2 ≤ d.2 ∧ d.2 ≤ 1000) (fun d => [rTupL rCell (rowC d.1 d.2), rInt 1]) fun d => rLstL rPr (crawlW d.1 d.2)
theorem row_get {c : Cell} {n i : Nat} (h : i < n) : ((rowC c n).map rCell)[i]? = some (rCell (c.1 + (i : Int), c.2)) := by
  unfold rowC
  rw [List.map_map, List.getElem?_map, List.getElem?_range h]
  rfl
theorem e_int {σ : L2.St} {H : Hp} {te : TE} {i j : Int} (h : Ev te σ H (rInt i)) (e : i = j) : Ev te σ H (rInt j) := e ▸ h
theorem cmw {i j : Int} (h : i.natAbs < 2 ^ 40) (g : j.natAbs < 2 ^ 40) : CMulW i j := wide_mul (a := 40) (b := 40) h g (by decide) (by decide) (by decide)
abbrev N_law_t4along : List Str := ["_law_cells", "_law_by", "_law_one", "_law_step", "_law_n", "_law_found", "_law_k", "_law_low", "_law_high", "_law_start"]
theorem sc_law_t4along : FnScope N_law_t4along ["_law_cells", "_law_by"] (defScope (top 65)) := ⟨rfl, rfl, rfl, by decide +kernel, rfl, by decide +kernel, by decide +kernel⟩
theorem ok_law_t4along (F : Fun K "_law_t4along" "_law_t4along" (top 65) f fd) (T : Txt K mg tS tG aT aW) : FnOk P w K mg base CX0 1 f fd ["_law_cells", "_law_by"] spAlong := by
  refine F.ok sc_law_t4along (Fn.len fun _ => rfl) (fun cdv A outer s H vs Q E hr h => ⟨_, (pss_cons (ps_par (i := 2) (j := 3) (by rfl) sc_law_t4along.nd rfl rfl (by decide) rfl rfl (pa_cons (pe_ix (ixK (K := K)) (pv 0) pe_int (fun _ _ => rfl)) (pa_cons (pe_tup (pa_cons (pe_op op_sub (pe_ix (ixK (K := K)) (pe_ix (ixK (K := K)) (pv 0) pe_int (fun _ _ => rfl)) pe_int (fun _ _ => rfl)) (pe_ix (ixK (K := K)) (pe_ix (ixK (K := K)) (pv 0) pe_int (fun _ _ => rfl)) pe_int (fun _ _ => rfl))) (pa_cons (pe_op op_sub (pe_ix (ixK (K := K)) (pe_ix (ixK (K := K)) (pv 0) pe_int (fun _ _ => rfl)) pe_int (fun _ _ => rfl)) (pe_ix (ixK (K := K)) (pe_ix (ixK (K := K)) (pv 0) pe_int (fun _ _ => rfl)) pe_int (fun _ _ => rfl))) pa_nil))) pa_nil)) (by rfl)) (pss_cons (ps_par (i := 4) (j := 5) (by rfl) sc_law_t4along.nd rfl rfl (by decide) rfl rfl (pa_cons (pe_callB cr_ln (by rfl) T.len b_len (pa_cons (pv 0) pa_nil)) (pa_cons (pe_lst pa_nil) pa_nil)) (by rfl)) (pss_cons (ps_for PassesOwn.never rfl (pi_range1 (by rfl) T.range (pa_cons (pe_callB cr_abs (by rfl) T.abs b_abs (pa_cons (pv 1) pa_nil)) pa_nil)) (pg_name (i := 6) sc_law_t4along.nd rfl (Or.inl rfl)) (pss_cons (ps_asg (pe_ifExp (pt_cmpR op_gt (pv 1) pe_int (nomark _)) (pe_tup (pa_cons (pv 6) (pa_cons (pe_op op_add (pv 4) (pv 6)) pa_nil))) (pe_tup (pa_cons (pe_op op_sub (pe_op op_sub (pv 4) pe_int) (pv 6)) (pa_cons (pe_op op_sub (pe_un un_neg pe_int) (pv 6)) pa_nil)))) (pg_tup rfl (pgs_cons (pg_name (i := 7) sc_law_t4along.nd rfl (Or.inl rfl)) (pgs_cons (pg_name (i := 8) sc_law_t4along.nd rfl (Or.inl rfl)) pgs_nil)))) (pss_cons (ps_set (i := 9) sc_law_t4along.nd rfl (Or.inl rfl) (pe_tup (pa_cons (pe_op op_add (pe_ix (ixK (K := K)) (pv 2) pe_int (fun _ _ => rfl)) (pe_op op_mulW (pv 7) (pe_ix (ixK (K := K)) (pv 3) pe_int (fun _ _ => rfl)))) (pa_cons (pe_op op_add (pe_ix (ixK (K := K)) (pv 2) pe_int (fun _ _ => rfl)) (pe_op op_mulW (pv 7) (pe_ix (ixK (K := K)) (pv 3) pe_int (fun _ _ => rfl)))) pa_nil)))) (pss_one (ps_expr (pe_bm PySem.F.plainAttrs_list PySem.F.slot_list_append PySem.F.type_list_append mt_append (pv 5) (pa_cons (pe_tup (pa_cons (pv 9) (pa_cons (pe_tup (pa_cons (pe_op op_add (pe_ix (ixK (K := K)) (pv 2) pe_int (fun _ _ => rfl)) (pe_op op_mulW (pv 8) (pe_ix (ixK (K := K)) (pv 3) pe_int (fun _ _ => rfl)))) (pa_cons (pe_op op_add (pe_ix (ixK (K := K)) (pv 2) pe_int (fun _ _ => rfl)) (pe_op op_mulW (pv 8) (pe_ix (ixK (K := K)) (pv 3) pe_int (fun _ _ => rfl)))) pa_nil))) pa_nil))) pa_nil))))))) (pss_one (ps_ret (pv 5)))))), ?_⟩)
  obtain ⟨⟨c, n⟩, ⟨h2, hn⟩, hv, q⟩ := h
  have h2 : 2 ≤ n := h2
  have hn : n ≤ 1000 := hn
  have hlen : (rowC c n).length = n := by
    unfold rowC
    rw [List.length_map, List.length_range]
  have S0 := st (N := N_law_t4along) (Rs := [rTupL rCell (rowC c n), rInt 1]) hv
  have i0 := row_get (c := c) (n := n) (i := 0) (by omega)
  have i1 := row_get (c := c) (n := n) (i := 1) (by omega)
  refine q_par (R := rCell c) (S := rCell (1, 0)) S0 (a_cons (e_is (e_op (e_s S0) e_c (ov_ixT (atI_nat (i := 0) i0))) (by simp)) (a_cons (e_tup (Rs := [rInt 1, rInt 0]) (a_cons (e_int (e_op (e_op (e_op (e_s S0) e_c (ov_ixT (atI_nat (i := 1) i1))) e_c (ov_ixT rfl)) (e_op (e_op (e_s S0) e_c (ov_ixT (atI_nat (i := 0) i0))) e_c (ov_ixT rfl)) ov_I0) (by omega))
    (a_cons (e_int (e_op (e_op (e_op (e_s S0) e_c (ov_ixT (atI_nat (i := 1) i1))) e_c (ov_ixT rfl)) (e_op (e_op (e_s S0) e_c (ov_ixT (atI_nat (i := 0) i0))) e_c (ov_ixT rfl)) ov_I0) (by omega)) a_nil))) a_nil)) fun σ1 H1 e1 S1 => ?_
  refine q_parA S1 (a_cons (e_int (e_cb (a_cons (e_s S1) a_nil) cv_lnT) (by rw [List.length_map, hlen])) (a_cons (e_lstN a_nil) a_nil)) fun v u σ2 H2 e2 hn2 hf S2 => ?_
  have hn2 : v = .int (n : Nat) := hn2
  subst hn2
  obtain ⟨pl, pv, rfl, npl, hpl, apl⟩ := hf
  refine q_forR (n := 1) (a_cons (e_int (e_cb (a_cons (e_s S2) a_nil) cv_abs) (by decide)) a_nil) (by decide) (fun i σ' H' => Ex H H' ∧ (∃ pv, H' pl = some (.lst pv) ∧ AllP (((crawlW c n).take i).map rPr) pv H') ∧
      Sl σ' H' [none, some (rInt 1), some (rCell c), some (rCell (1, 0)), some (rInt (n : Nat)), some (rV (.ref pl)), none, none, none, none])
    (fun H3 e3 => ⟨(e1.trans e2).trans e3, ⟨pv, e3 _ _ hpl, apl.mono e3⟩, (S2.up e3).forget (i := 0)⟩) ?_ ?_
  · rintro i σ3 H3 hi ⟨E3, ⟨pv3, hp3, ap3⟩, S3⟩
    have hi : i < 1 := hi
    obtain rfl : i = 0 := by omega
    refine g_name (R := rInt ((0 : Nat) : Int)) S3 rfl fun σ4 S4 => ?_
    refine q_unp2 (R := rInt ((0 : Nat) : Int)) (S := rInt ((n : Int) + ((0 : Nat) : Int))) S4 (e_ifT (t_is (t_test (e_op (e_s S4) e_c ov_I0)) (by decide)) (e_tup (Rs := [rInt ((0 : Nat) : Int), rInt ((n : Int) + ((0 : Nat) : Int))]) (a_cons (e_s S4) (a_cons (e_op (e_s S4) (e_s S4) ov_I0) a_nil)))) fun σ5 H5 e5 S5 => ?_
    refine q_asg (R := rCell (c.1 + ((0 : Nat) : Int), c.2)) S5 (e_tup (Rs := [rInt (c.1 + ((0 : Nat) : Int)), rInt c.2]) (a_cons (e_int (e_op (e_op (e_s S5) e_c (ov_ixT rfl)) (e_op (e_s S5) (e_op (e_s S5) e_c (ov_ixT rfl)) (ov_I (cmw (by decide) (by decide)))) ov_I0) (by omega)) (a_cons (e_int (e_op (e_op (e_s S5) e_c (ov_ixT rfl)) (e_op (e_s S5) (e_op (e_s S5) e_c (ov_ixT rfl)) (ov_I (cmw (by decide) (by decide)))) ov_I0) (by omega)) a_nil))) fun σ6 H6 e6 S6 => ?_
    have hp6 := e6 _ _ (e5 _ _ hp3)
    have ap6 := (ap3.mono e5).mono e6
    have l6 := ap6.len
    refine s_app (Rl := rPr ((c.1 + ((0 : Nat) : Int), c.2), (c.1 + (n : Int) + ((0 : Nat) : Int), c.2))) hp6 (e_s S6) (e_tup (Rs := [rCell (c.1 + ((0 : Nat) : Int), c.2), rCell (c.1 + (n : Int) + ((0 : Nat) : Int), c.2)]) (a_cons (e_s S6) (a_cons (e_tup (Rs := [rInt (c.1 + (n : Int) + ((0 : Nat) : Int)), rInt c.2])
      (a_cons (e_int (e_op (e_op (e_s S6) e_c (ov_ixT rfl)) (e_op (e_s S6) (e_op (e_s S6) e_c (ov_ixT rfl)) (ov_I (cmw (by omega) (by decide)))) ov_I0) (by omega)) (a_cons (e_int (e_op (e_op (e_s S6) e_c (ov_ixT rfl)) (e_op (e_s S6) (e_op (e_s S6) e_c (ov_ixT rfl)) (ov_I (cmw (by omega) (by decide)))) ov_I0) (by omega)) a_nil))) a_nil))) (by
        have l6 : pv3.length = 0 := l6
        omega) fun v7 H7 e7 r7 h7 => ?_
    refine ⟨Evl.Ex.mut (((E3.trans e5).trans e6).trans e7) (Evl.fresh_back e1 npl), ⟨_, upd_same, ?_⟩, ((((S6.up e7).mut (H0 := H1) (o := .lst (pv3 ++ [v7])) h7 nt_l npl).forget (i := 6)).forget (i := 7)).forget (i := 8) |>.forget (i := 9)⟩
    exact allP_ms h7 nt_l npl (Rs := (crawlW c n).map rPr) ms_prs ((ap6.mono e7).app (show AllP [rPr _] [v7] H7 from ⟨r7, trivial⟩))
  · rintro σ3 H3 ⟨E3, ⟨pv3, hp3, ap3⟩, S3⟩
    exact s_ret (R := rLstL rPr (crawlW c n)) (e_ol S3 hp3 ap3) fun v H4 e4 hv => q v H4 (E3.trans e4) hv
end
end Kx
set_option Elab.async false
set_option linter.all false
set_option maxRecDepth 100000
set_option maxHeartbeats 4000000
/-! K19: dicts of cells by names; list.index; picks. -/
namespace Kx
open PySem L2 PyProof.Rows
/-- cells by names -/
def rDNC (ns : List Str) (cs : List Cell) : RP := ⟨fun v H => ∃ a vs, v = .ref a ∧ H a = some (dN (ns.zip vs)) ∧ AllP (cs.map rCell) vs H, fun e ⟨a, vs, h1, h2, h3⟩ => ⟨a, vs, h1, e _ _ h2, h3.mono e⟩⟩
def rNewDN (H0 : Hp) (ns : List Str) (cs : List Cell) : RP := ⟨fun v H => ∃ a vs, v = .ref a ∧ H0 a = none ∧ H a = some (dN (ns.zip vs)) ∧ AllP (cs.map rCell) vs H, fun e ⟨a, vs, h1, h0, h2, h3⟩ => ⟨a, vs, h1, h0, e _ _ h2, h3.mono e⟩⟩
def rVwN (ns : List Str) : RP := ⟨fun v H => ∃ p a vs, v = .ref p ∧ H p = some (vwK p a) ∧ H a = some (dN (ns.zip vs)) ∧ ns.length ≤ vs.length, fun e ⟨p, a, vs, h1, h2, h3, h4⟩ => ⟨p, a, vs, h1, e _ _ h2, e _ _ h3, h4⟩⟩
def rVwNV (cs : List Cell) : RP := ⟨fun v H => ∃ (p a : Addr) (kvs : List (Key × V)), v = .ref p ∧ H p = some (vwV p a) ∧ H a = some (.dK kvs) ∧ AllP (cs.map rCell) (kvs.map Prod.snd) H, fun e ⟨p, a, kvs, h1, h2, h3, h4⟩ => ⟨p, a, kvs, h1, e _ _ h2, e _ _ h3, h4.mono e⟩⟩
abbrev rDictP (K : PySem.W.Frag) : List V → Hp → VK → Prop := fun xs H Q => ∃ (a : Addr) (ps : List Addr) (kvs : List (Key × V)), xs = [.ref a] ∧ SqL K H a (ps.map V.ref) ∧ Paired (fun p kv => SqT K H p [kV kv.1, kv.2]) ps kvs ∧
  ∀ p, H p = none → Q (.ref p) (upd H p (.dK (mergeK [] kvs)))
theorem mergeK_new : ∀ {ps : List (Str × V)} {kvs : List (Str × V)}, (kvs.map (·.1) ++ ps.map (·.1)).Nodup → mergeK (kvs.map fun p => (nk p.1, p.2)) (ps.map fun p => (nk p.1, p.2)) = (kvs ++ ps).map fun p => (nk p.1, p.2)
  | [], kvs, _ => by
    show kvs.map _ = (kvs ++ []).map _
    rw [List.append_nil]
  | p :: ps, kvs, h => by
    rw [List.map_cons] at h
    have hc : p.1 ∉ kvs.map (·.1) := fun z => by
      have := (List.nodup_append.mp h).2.2 p.1 z p.1 List.mem_cons_self
      exact this rfl
    show mergeK (putK (kvs.map fun p => (nk p.1, p.2)) (nk p.1) p.2) (ps.map fun p => (nk p.1, p.2)) = _
    rw [putK_map nk_inj, putC_new hc, mergeK_new (kvs := kvs ++ [(p.1, p.2)]) (by
      rw [List.map_append, List.append_assoc]
      exact h), List.append_assoc]
    rfl
theorem prsN_of {K : PySem.W.Frag} {H : Hp} : ∀ {ps : List (Str × Cell)} {xs : List V}, AllP (ps.map rNC) xs H → ∃ (as : List Addr) (vs : List V), xs = as.map V.ref ∧ AllP (ps.map fun p => rCell p.2) vs H ∧ Paired (fun (p : Addr) (kv : Key × V) => SqT K H p [kV kv.1, kv.2]) as (((ps.map (·.1)).zip vs).map fun p => (nk p.1, p.2))
  | [], [], _ => ⟨[], [], rfl, trivial, .nil⟩
  | c :: cs, x :: xs, h => by
    obtain ⟨as, vs, h1, h2, h3⟩ := prsN_of (K := K) h.2
    obtain ⟨a, ys, rfl, ha, hy⟩ := h.1
    obtain ⟨u, v, rfl, hu, hv⟩ := hy.two
    have hu : u = .str c.1 := hu
    subst hu
    exact ⟨a :: as, v :: vs, by rw [h1]; rfl, ⟨hv, h2⟩, .cons (SqT.of ha) h3⟩
  | [], _ :: _, h => h.elim
  | _ :: _, [], h => h.elim
theorem look_pair {H : Hp} {z : Str} {c : Cell} : ∀ {ns : List Str} {cs : List Cell} {vs : List V}, AllP (cs.map rCell) vs H → look (ns.zip cs) z = some c → ∃ v, look (ns.zip vs) z = some v ∧ (rCell c).p v H
  | [], _, _, _, h => by cases h
  | _ :: _, [], [], _, h => by cases h
  | n :: ns, d :: cs, v :: vs, h, g => by
    rw [List.zip_cons_cons, look_cons] at g
    rw [List.zip_cons_cons, look_cons]
    by_cases e : n = z
    · rw [if_pos e] at g ⊢
      cases g
      exact ⟨v, rfl, h.1⟩
    · rw [if_neg e] at g ⊢
      exact look_pair h.2 g
  | _ :: _, [], _ :: _, h, _ => h.elim
  | _ :: _, _ :: _, [], h, _ => h.elim
section
variable {K : PySem.W.Frag} {σ : L2.St} {H : Hp} {Γ : Gm} {t : TA} {td ty to : TE} {ns : List Str} {cs : List Cell}
theorem e_newDN {H0 : Hp} (h : Ev td σ H (rNewDN H0 ns cs)) : Ev td σ H (rDNC ns cs) := h.imp fun _ _ _ ⟨a, vs, e, _, h1, h2⟩ => ⟨a, vs, e, h1, h2⟩
theorem e_odNC {i : Nat} {a : Addr} {vs : List V} (s : Sl σ H Γ) (hl : H a = some (dN (ns.zip vs))) (h : AllP (cs.map rCell) vs H) (hi : Γ[i]? = some (some (rV (.ref a))) := by rfl) : Ev (tVar i) σ H (rDNC ns cs) := fun H1 e Q q => by
  obtain ⟨v, v1, v2⟩ := s.2 i _ hi
  have v2 : v = .ref a := v2
  subst v2
  exact ⟨_, v1, q _ H1 (exr H1) ⟨a, vs, rfl, e _ _ hl, h.mono e⟩⟩
theorem e_dctP {ps : List (Str × Cell)} (h : EvA t σ H [rLstL rNC ps]) (nd : (ps.map (·.1)).Nodup) : Ev (tCB (rDictP K) t) σ H (rNewDN H (ps.map (·.1)) (ps.map (·.2))) := fun H1 e Q q => h H1 e _ fun vs H2 e2 hv => by
  obtain ⟨v, rfl, a, xs, rfl, ha, hx⟩ := hv.one
  obtain ⟨as, us, rfl, hu, hp⟩ := prsN_of (K := K) hx
  refine ⟨a, as, _, rfl, SqL.of ha, hp, fun p hp => ?_⟩
  have lu := hu.len
  rw [List.length_map] at lu
  have hm := mergeK_new (ps := (ps.map (·.1)).zip us) (kvs := []) (by
    rw [List.map_nil, List.nil_append, List.map_fst_zip (by rw [List.length_map, lu]; exact Nat.le_refl _)]
    exact nd)
  have hm : mergeK [] (((ps.map (·.1)).zip us).map fun p => (nk p.1, p.2)) = ((ps.map (·.1)).zip us).map fun p => (nk p.1, p.2) := hm
  rw [hm]
  refine q _ _ (e2.trans (Evl.Ex.new hp)) ⟨p, us, rfl, Evl.fresh_back (e.trans e2) hp, upd_same, ?_⟩
  rw [List.map_map]
  exact hu.mono (Evl.Ex.new hp)
theorem e_keysN (h : Ev td σ H (rDNC ns cs)) (hl : ns.length = cs.length) : Ev (tBM0 K "dict" (rVw vwK) td) σ H (rVwN ns) := fun H1 e Q q => h H1 e _ fun v H2 e2 ⟨a, vs, ev, ha, hx⟩ => by
  subst ev
  have lv := hx.len
  rw [List.length_map] at lv
  exact ⟨.inr (.inr (.inl ⟨rfl, .inl ⟨_, ha⟩⟩)), a, rfl, rfl, .inl ⟨_, ha⟩, fun p hp => q _ _ (e2.trans (Evl.Ex.new hp)) ⟨p, a, vs, rfl, upd_same, (Evl.Ex.new hp) _ _ ha, by omega⟩⟩
theorem e_valsN (h : Ev td σ H (rDNC ns cs)) (hl : ns.length = cs.length) : Ev (tBM0 K "dict" (rVw vwV) td) σ H (rVwNV cs) := fun H1 e Q q => h H1 e _ fun v H2 e2 ⟨a, vs, ev, ha, hx⟩ => by
  subst ev
  have lv := hx.len
  rw [List.length_map] at lv
  refine ⟨.inr (.inr (.inl ⟨rfl, .inl ⟨_, ha⟩⟩)), a, rfl, rfl, .inl ⟨_, ha⟩, fun p hp => q _ _ (e2.trans (Evl.Ex.new hp)) ⟨p, a, _, rfl, upd_same, (Evl.Ex.new hp) _ _ ha, ?_⟩⟩
  rw [List.map_map]
  have hz : (ns.zip vs).map ((fun q : Key × V => q.2) ∘ fun p : Str × V => (nk p.1, p.2)) = vs := by
    show (ns.zip vs).map Prod.snd = vs
    exact List.map_snd_zip (by omega)
  rw [hz]
  exact hx.mono (Evl.Ex.new hp)
theorem cv_keysN : CbV rLstView [rVwN ns] (rLstL rStr ns) := fun vs H hv Q q => by
  obtain ⟨v, rfl, p, a, us, rfl, hp, ha, hl⟩ := hv.one
  refine ⟨p, a, rfl, .inl ⟨_, hp, ha, fun z hz => q _ _ (Evl.Ex.new hz) ⟨z, _, rfl, upd_same, ?_⟩⟩⟩
  rw [List.map_map]
  have e : (ns.zip us).map ((fun kv : Key × V => kV kv.1) ∘ fun p : Str × V => (nk p.1, p.2)) = ns.map V.str := by
    show (ns.zip us).map (V.str ∘ Prod.fst) = _
    rw [← List.map_map, List.map_fst_zip hl]
  rw [e]
  have := AllP.of_vals (H := upd H z (.lst (ns.map V.str))) (xs := ns.map V.str)
  rwa [List.map_map] at this
theorem cv_valsL : CbV rLstView [rVwNV cs] (rLstL rCell cs) := fun vs H hv Q q => by
  obtain ⟨v, rfl, p, a, kvs, rfl, hp, ha, hx⟩ := hv.one
  exact ⟨p, a, rfl, .inr (.inl ⟨_, hp, ha, fun z hz => q _ _ (Evl.Ex.new hz) ⟨z, _, rfl, upd_same, hx.mono (Evl.Ex.new hz)⟩⟩)⟩
theorem cv_valsT : CbV rTupView [rVwNV cs] (rTupL rCell cs) := fun vs H hv Q q => by
  obtain ⟨v, rfl, p, a, kvs, rfl, hp, ha, hx⟩ := hv.one
  exact ⟨p, a, kvs, rfl, hp, ha, fun z hz => q _ _ (Evl.Ex.new hz) ⟨z, _, rfl, upd_same, hx.mono (Evl.Ex.new hz)⟩⟩
theorem e_dgetNC {z : Str} {c : Cell} (hd : Ev td σ H (rDNC ns cs)) (hk : Ev ty σ H (rStr z)) (h : look (ns.zip cs) z = some c) : Ev (tDGet td ty) σ H (rCell c) := fun H1 e Q q =>
  hd H1 e _ fun x H2 e2 ⟨a, vs, ex, ha, hx⟩ => hk H2 (e.trans e2) _ fun y H3 e3 hy => by
    have hy : y = .str z := hy
    subst ex hy
    obtain ⟨v, h1, h2⟩ := look_pair hx h
    exact ⟨a, v, rfl, by
      have := DGet.k (H := H3) (e3 _ _ ha) (k := nk z)
      rwa [valV_map nk_inj, h1] at this, q v H3 (e2.trans e3) ((rCell c).mono e3 h2)⟩
/-- list.index -/
theorem e_index {ws : List Str} {z : Str} (hl : Ev to σ H (rLstL rStr ws)) (hz : EvA t σ H [rStr z]) (hm : z ∈ ws) : Ev (tBM K "list" (rIndex K) to t) σ H (rInt (ws.idxOf z : Nat)) := fun H1 e Q q =>
  hl H1 e _ fun x H2 e2 ⟨a, xs, ex, ha, hx⟩ => by
    subst ex
    refine ⟨.inl ⟨rfl, xs, SqL.of ha⟩, hz H2 (e.trans e2) _ fun vs H3 e3 hv => ?_⟩
    obtain ⟨v, rfl, hv1⟩ := AllP.one hv
    have hv1 : v = .str z := hv1
    subst hv1
    have hxs := strs_vals hx
    subst hxs
    have hlt := List.idxOf_lt_length_of_mem hm
    refine ⟨a, ws.map V.str, .str z, ws.idxOf z, .str z, rfl, rfl, SqL.of (e3 _ _ ha), rfl, by simp [List.all_map, Function.comp_def, flatV], ?_, by show (z == z) = true; exact beq_self_eq_true z, fun m z' hm' hz' => ?_, q _ H3 (e2.trans e3) rfl⟩
    · rw [List.getElem?_map, List.getElem?_eq_getElem hlt, List.getElem_idxOf]
      rfl
    · rw [List.getElem?_map] at hz'
      obtain ⟨y, h1, h2⟩ := Option.map_eq_some_iff.mp hz'
      subst h2
      have hml : m < ws.length := Nat.lt_trans hm' hlt
      rw [List.getElem?_eq_getElem hml] at h1
      cases h1
      have := List.not_of_lt_findIdx (p := fun y => y == z) (xs := ws) (i := m) hm'
      show (ws[m] == z) = false
      simpa using this
end
/-! ### what moves the pen -/
section
variable {g : Pn} {b : Nat} {σ : L2.St} {H : Hp} {t : TA} {E : XK}
theorem p_shuf {zs : List Str} (h : EvA t σ H [rV (.ref g.p), rLstL rStr zs]) (hp : PenI g b H) (hb : b ≤ 900000) (h0 : 0 < zs.length) (h1 : zs.length ≤ 60) : EvP (tCall spShuf [] E t) σ H g (b + zs.length) (fun v H' => ∃ ys, List.Perm ys zs ∧ (rLstL rStr ys).p v H') := fun Q q =>
  c_call h fun vs H1 e hv => by
    obtain ⟨v, u, rfl, h1', h2⟩ := hv.two
    have h1' : v = .ref g.p := h1'
    subst h1'
    exact ⟨g, u, b, zs, rfl, hp.up e, hb, h0, h1, h2, fun r H' ys e' hp' pm hr => q _ H' (hide_up e e') hp' ⟨ys, pm, hr⟩⟩
theorem p_pick {Rs : List RP} (h : EvA t σ H [rV (.ref g.p), rLst Rs]) (hp : PenI g b H) (hb : b ≤ 1000000) (h0 : 0 < Rs.length) (h1 : Rs.length ≤ 1000) (hm : ∀ H0 : Hp, MkL H0 Rs) : EvP (tCall spPick [] E t) σ H g (b + 1) (fun v H' => ∃ R ∈ Rs, R.p v H') := fun Q q =>
  c_call h fun vs H1 e hv => by
    obtain ⟨v, u, rfl, h1', h2⟩ := hv.two
    have h1' : v = .ref g.p := h1'
    subst h1'
    exact ⟨g, u, b, Rs, rfl, hp.up e, hb, h0, h1, h2, (hm _).ms, fun r H' e' hp' hr => q _ H' (hide_up e e') hp' hr⟩
end
end Kx
set_option Elab.async false
set_option linter.all false
set_option maxRecDepth 100000
set_option maxHeartbeats 4000000
/-! D19: t4names, t4told. -/
namespace Kx
open PySem L2 PyProof.Rows
def NS8 : List Str := ["a", "b", "aa", "z9", "q", "ab0", "zz", "b2c3d4e5f6g7"]
theorem u_sl {r : V → Option Int → Option Int → Hp → VK → Prop} {te : TE} {tl th : TO} {σ : L2.St} {H : Hp} {Q : VK} (h : te σ H fun x H1 => tl σ H1 fun lo H2 => th σ H2 fun hi H3 => r x lo hi H3 Q) : tSl r te tl th σ H Q := h
def cellOf (ns : List Str) (cs : List Cell) (z : Str) : Cell := (look (ns.zip cs) z).getD (0, 0)
theorem look_zip {β : Type} : ∀ {ns : List Str} {cs : List β} {j : Nat} (nd : ns.Nodup) (h1 : j < ns.length) (h2 : j < cs.length), look (ns.zip cs) ns[j] = some cs[j]
  | n :: ns, c :: cs, 0, _, _, _ => by
    rw [List.zip_cons_cons, look_cons]
    exact if_pos rfl
  | n :: ns, c :: cs, j + 1, nd, h1, h2 => by
    rw [List.zip_cons_cons, look_cons]
    have h1' : j < ns.length := by simpa using h1
    have hm : ns[j] ∈ ns := List.getElem_mem h1'
    rw [List.getElem_cons_succ, List.getElem_cons_succ, if_neg]
    · exact look_zip (List.nodup_cons.mp nd).2 h1' (by simpa using h2)
    · intro z
      have z : n = ns[j] := z
      exact (List.nodup_cons.mp nd).1 (by rw [z]; exact hm)
  | [], _, _, _, h, _ => by simp at h
  | _ :: _, [], _, _, _, h => by simp at h
theorem look_of {ns : List Str} {cs : List Cell} {z : Str} (nd : ns.Nodup) (hl : ns.length = cs.length) (h : z ∈ ns) : look (ns.zip cs) z = some (cellOf ns cs z) := by
  obtain ⟨j, hj, rfl⟩ := List.getElem_of_mem h
  have e := look_zip (cs := cs) nd hj (by omega)
  unfold cellOf
  rw [e]
  rfl
theorem cells_of {ns : List Str} {cs : List Cell} (nd : ns.Nodup) (hl : ns.length = cs.length) : ns.map (cellOf ns cs) = cs := by
  apply List.ext_getElem
  · rw [List.length_map, hl]
  · intro i h1 h2
    rw [List.getElem_map]
    unfold cellOf
    rw [look_zip nd (by simpa using h1) h2]
    rfl
def toldC (ns : List Str) (cs : List Cell) : List (Str × Cell) := (srtS ns).map fun z => (z, cellOf ns cs z)
section
variable {P : Program} {w : World} {K : PySem.W.Frag} {mg : Str → Option Value} {base : Heap} {tS tG : Tok} {aT aW : Addr} {f : Addr} {fd : FuncData}
def spNames4 : Sp := fun vs H Q _ => ∃ (g : Pn) (b m : Nat), vs = [.ref g.p, .int (m : Nat)] ∧ PenI g b H ∧ b ≤ 900000 ∧ ∀ r H' ys, Ex (hide g.p H) H' → PenI g (b + 8) H' → List.Perm ys NS8 → (rLstL rStr (ys.take m)).p r H' → Q r H'
abbrev N_law_t4names : List Str := ["_law_pen_here", "_law_many"]
theorem sc_law_t4names : FnScope N_law_t4names ["_law_pen_here", "_law_many"] (defScope (top 66)) := ⟨rfl, rfl, rfl, by decide +kernel, rfl, by decide +kernel, by decide +kernel⟩
theorem ok_law_t4names (F : Fun K "_law_t4names" "_law_t4names" (top 66) f fd) (T : Txt K mg tS tG aT aW) (G_law_shuffled : Cl P w K mg base 2 "_law_shuffled" spShuf) : FnOk P w K mg base CX0 3 f fd ["_law_pen_here", "_law_many"] spNames4 := by
  refine F.ok sc_law_t4names (fun vs H Q E h => ?_) (fun cdv A outer s H vs Q E hr h => ⟨_, (pss_one (ps_ret (pe_slice sl_list (pe_cl G_law_shuffled (hr.mono (by decide)) (by rfl) (pa_cons (pv 0) (pa_cons (pe_lst (pa_cons pe_str (pa_cons pe_str (pa_cons pe_str (pa_cons pe_str (pa_cons pe_str (pa_cons pe_str (pa_cons pe_str (pa_cons pe_str pa_nil))))))))) pa_nil))) po_none (po_some (pv 1))))), ?_⟩)
  · obtain ⟨_, _, _, rfl, _⟩ := h
    rfl
  obtain ⟨g, b, m, rfl, hp, hb, q⟩ := h
  have S0 := st (N := N_law_t4names) (Rs := [rV (.ref g.p), rInt (m : Nat)]) (vs := [.ref g.p, .int (m : Nat)]) (H := H) ⟨rfl, rfl, trivial⟩
  refine s_retU (u_sl ?_)
  refine p_shuf (zs := NS8) (a_cons (e_s S0) (a_cons (e_lst (Rs := NS8.map rStr) (a_cons e_c (a_cons e_c (a_cons e_c (a_cons e_c (a_cons e_c (a_cons e_c (a_cons e_c (a_cons e_c a_nil))))))))) a_nil)) hp hb (by decide) (by decide) _ fun v H2 e2 hp2 hys => ?_
  obtain ⟨ys, pm, hv⟩ := hys
  obtain ⟨k1, hk1⟩ := hp.dk
  obtain ⟨k2, hk2⟩ := hp2.dk
  have S2 := S0.go (H0 := hide g.p H) hk1 hide_self e2 hk2
  refine o_none H2 (exr H2) _ fun H3 e3 => o_some (e_s S2) H3 e3 _ fun H4 e4 => ?_
  refine sv_L v H4 ((rLstL rStr ys).mono (e3.trans e4) hv) _ fun z H5 e5 hz => ?_
  have e35 := (e3.trans e4).trans e5
  refine q z H5 ys (e2.trans e35) (hp2.up e35) pm ?_
  rw [cutR_map] at hz
  rw [show cutR ys none (some ((m : Nat) : Int)) = ys.take m from cutk] at hz
  exact hz
abbrev spTold : Sp := Fn (fun d : List Str × List Cell => d.1.Nodup ∧ d.1.length = d.2.length ∧ d.1.length ≤ 60) (fun d => [rDNC d.1 d.2]) fun d => rTupL rNC (toldC d.1 d.2)
abbrev N_law_t4told : List Str := ["_law_at", "_law_name"]
theorem sc_law_t4told : FnScope N_law_t4told ["_law_at"] (defScope (top 67)) := ⟨rfl, rfl, rfl, by decide +kernel, rfl, by decide +kernel, by decide +kernel⟩
theorem ok_law_t4told (F : Fun K "_law_t4told" "_law_t4told" (top 67) f fd) (T : Txt K mg tS tG aT aW) : FnOk P w K mg base CX0 1 f fd ["_law_at"] spTold := by
  refine F.ok sc_law_t4told (Fn.len fun _ => rfl) (fun cdv A outer s H vs Q E hr h => ⟨_, (pss_one (ps_ret (pe_callTy cr_tof (by rfl) T.tuple b_tuple (pa_cons (pe_lc (own := [("_law_name", 1)]) (g := (gName 1)) (tt := tYes) (by rfl) sc_law_t4told.nd (pi_seq (pe_callB (cr_srt hr.units) (by rfl) T.sorted b_sorted (pa_cons (pe_callTy (call_listView (by rfl)) (by rfl) T.list b_list (pa_cons (pe_bm0 PySem.F.plainAttrs_dict PySem.F.slot_dict_keys PySem.F.type_dict_keys mt_keysV (pv 0)) pa_nil)) pa_nil))) (blkOk_by (N := N_law_t4told) (sc := defScope (top 67)) (own := [("_law_name", 1)]) (by decide +kernel)) (fun _ _ _ _ _ => (pg_name (i := 1) sc_law_t4told.nd rfl (Or.inl rfl))) (fun _ _ _ _ _ => pts_nil) (fun _ _ _ _ _ => (pe_tup (pa_cons (pv 1) (pa_cons (pe_dget (hu_of hr) (pv 0) (pv 1) (fun _ _ => rfl)) pa_nil))))) pa_nil)))), ?_⟩)
  obtain ⟨⟨ns, cs⟩, ⟨nd, hl, h60⟩, hv, q⟩ := h
  have nd : ns.Nodup := nd
  have hl : ns.length = cs.length := hl
  have h60 : ns.length ≤ 60 := h60
  have S0 := st (N := N_law_t4told) (Rs := [rDNC ns cs]) hv
  have hsl : (srtS ns).length = ns.length := (srtS_perm ns).length_eq
  exact s_ret (R := rTupL rNC (toldC ns cs)) (e_cb (a_cons (Rs := []) (R := rLstL rNC (toldC ns cs)) (e_is (e_lcA (ds := srtS ns) (f := rStr) (out := fun z => rNC (z, cellOf ns cs z)) S0 (i_seq (e_sqL (e_cb (a_cons (e_cb (a_cons (e_keysN (e_s S0) hl) a_nil) cv_keysN) a_nil) (cv_srtL (fun z => dat_str) (sok_strs ns (by omega)))))) (fun d _ => tg_name) (by omega)
    fun z hz σ' H' e' S' => e_tup (Rs := [rStr z, rCell (cellOf ns cs z)]) (a_cons (e_s S') (a_cons (e_dgetNC (e_s S') (e_s S') (look_of nd hl ((srtS_perm ns).mem_iff.mp hz))) a_nil))) (by unfold rLstL toldC; rw [List.map_map]; rfl)) a_nil) cv_tof) q
end
end Kx
set_option Elab.async false
set_option linter.all false
set_option maxRecDepth 100000
set_option maxHeartbeats 4000000
/-! D20: t4followed. -/
namespace Kx
open PySem L2 PyProof.Rows
def mvC (cs : List Cell) (s e : Cell) : List Cell := cs.map fun c => if eqC c s = true then e else c
def FolP : List Cell → List (Cell × Cell) → Prop
  | _, [] => True
  | cs, (s, e) :: r => MayP cs s e ∧ FolP (mvC cs s e) r
def folC : List Cell → List (Cell × Cell) → List Cell
  | cs, [] => cs
  | cs, (s, e) :: r => folC (mvC cs s e) r
theorem mvC_len {cs : List Cell} {s e : Cell} : (mvC cs s e).length = cs.length := List.length_map _
theorem mvC_set {cs : List Cell} {s e : Cell} {j : Nat} (nd : cs.Nodup) (hj : j < cs.length) (h : cs[j] = s) : mvC cs s e = cs.set j e := by
  unfold mvC
  apply List.ext_getElem
  · rw [List.length_map, List.length_set]
  · intro i h1 h2
    rw [List.getElem_map]
    by_cases z : i = j
    · subst z
      rw [List.getElem_set_self, if_pos (eqC_iff.mpr h)]
    · rw [List.getElem_set_ne (fun y => z y.symm), if_neg]
      intro y
      have y := eqC_iff.mp y
      exact z ((List.getElem_inj nd).mp (y.trans h.symm))
theorem putC_zip {β : Type} : ∀ {ns : List Str} {vs : List β} {j : Nat} {v : β} (nd : ns.Nodup) (h1 : j < ns.length) (h2 : j < vs.length), putC (ns.zip vs) ns[j] v = ns.zip (vs.set j v) := by
  intro ns vs j v nd h1 h2
  have hin : ((ns.zip vs).any fun p => decide (p.1 = ns[j])) = true := by
    rw [List.any_eq_true]
    refine ⟨(ns[j], vs[j]), ?_, by simp⟩
    have hz : j < (ns.zip vs).length := by rw [List.length_zip]; omega
    have : (ns.zip vs)[j] = (ns[j], vs[j]) := List.getElem_zip
    rw [← this]
    exact List.getElem_mem hz
  unfold putC
  rw [if_pos hin]
  apply List.ext_getElem
  · rw [List.length_map, List.length_zip, List.length_zip, List.length_set]
  · intro i g1 g2
    rw [List.getElem_map, List.getElem_zip, List.getElem_zip]
    rw [List.length_map, List.length_zip] at g1
    by_cases z : i = j
    · subst z
      rw [if_pos rfl, List.getElem_set_self]
    · rw [if_neg (fun y => z ((List.getElem_inj nd).mp y)), List.getElem_set_ne (fun y => z y.symm)]
section
variable {P : Program} {w : World} {K : PySem.W.Frag} {mg : Str → Option Value} {base : Heap} {tS tG : Tok} {aT aW : Addr} {f : Addr} {fd : FuncData}
abbrev spFol : Sp := Fn (fun d : List Str × List Cell × List (Cell × Cell) => d.1.Nodup ∧ d.1.length = d.2.1.length ∧ d.1.length ≤ 60 ∧ FolP d.2.1 d.2.2) (fun d => [rDNC d.1 d.2.1, rTupL rPr d.2.2]) fun d => rDNC d.1 (folC d.2.1 d.2.2)
abbrev N_law_t4followed : List Str := ["_law_at", "_law_plan", "_law_here", "_law_start", "_law_end", "_law_name"]
theorem sc_law_t4followed : FnScope N_law_t4followed ["_law_at", "_law_plan"] (defScope (top 68)) := ⟨rfl, rfl, rfl, by decide +kernel, rfl, by decide +kernel, by decide +kernel⟩
theorem ok_law_t4followed (F : Fun K "_law_t4followed" "_law_t4followed" (top 68) f fd) (T : Txt K mg tS tG aT aW) (G_law_w_may : Cl P w K mg base 3 "_law_w_may" spMay) : FnOk P w K mg base CX0 4 f fd ["_law_at", "_law_plan"] spFol := by
  refine F.ok sc_law_t4followed (Fn.len fun _ => rfl) (fun cdv A outer s H vs Q E hr h => ⟨_, (pss_cons (ps_set (i := 2) sc_law_t4followed.nd rfl (Or.inl rfl) (pe_callTy (call_dictP (by rfl)) (by rfl) T.dict b_dict (pa_cons (pe_lc (own := [("_law_name", 5)]) (g := (gName 5)) (tt := tYes) (by rfl) sc_law_t4followed.nd (pi_seq (pe_callTy (call_listView (by rfl)) (by rfl) T.list b_list (pa_cons (pe_bm0 PySem.F.plainAttrs_dict PySem.F.slot_dict_keys PySem.F.type_dict_keys mt_keysV (pv 0)) pa_nil))) (blkOk_by (N := N_law_t4followed) (sc := defScope (top 68)) (own := [("_law_name", 5)]) (by decide +kernel)) (fun _ _ _ _ _ => (pg_name (i := 5) sc_law_t4followed.nd rfl (Or.inl rfl))) (fun _ _ _ _ _ => pts_nil) (fun _ _ _ _ _ => (pe_tup (pa_cons (pv 5) (pa_cons (pe_dget (hu_of hr) (pv 0) (pv 5) (fun _ _ => rfl)) pa_nil))))) pa_nil))) (pss_cons (ps_for PassesOwn.never rfl (pi_seq (pv 1)) (pg_tup rfl (pgs_cons (pg_name (i := 3) sc_law_t4followed.nd rfl (Or.inl rfl)) (pgs_cons (pg_name (i := 4) sc_law_t4followed.nd rfl (Or.inl rfl)) pgs_nil))) (pss_cons (ps_if (pt_not (pt_val (pe_cl G_law_w_may (hr.mono (by decide)) (by rfl) (pa_cons (pe_callTy (call_tupView (by rfl)) (by rfl) T.tuple b_tuple (pa_cons (pe_bm0 PySem.F.plainAttrs_dict PySem.F.slot_dict_values PySem.F.type_dict_values mt_valuesV (pv 2)) pa_nil)) (pa_cons (pv 3) (pa_cons (pv 4) pa_nil)))))) (pss_one (ps_ret pe_non)) pss_nil) (pss_one (ps_for PassesOwn.never rfl (pi_seq (pe_callTy (call_listView (by rfl)) (by rfl) T.list b_list (pa_cons (pe_bm0 PySem.F.plainAttrs_dict PySem.F.slot_dict_keys PySem.F.type_dict_keys mt_keysV (pv 2)) pa_nil))) (pg_name (i := 5) sc_law_t4followed.nd rfl (Or.inl rfl)) (pss_one (ps_if (pt_cmpR (eqDK (K := K) hr.units) (pe_dget (hu_of hr) (pv 2) (pv 5) (fun _ _ => rfl)) (pv 3) (nomark _)) (pss_cons (ps_dput (hu_of hr) (pv 2) (pv 5) (pv 4) rfl) (pss_one ps_break)) pss_nil)))))) (pss_one (ps_ret (pv 2))))), ?_⟩)
  obtain ⟨⟨ns, cs, plan⟩, ⟨nd, hl, h60, hF⟩, hv, q⟩ := h
  have nd : ns.Nodup := nd
  have hl : ns.length = cs.length := hl
  have h60 : ns.length ≤ 60 := h60
  have hF : FolP cs plan := hF
  have S0 := st (N := N_law_t4followed) (Rs := [rDNC ns cs, rTupL rPr plan]) hv
  have hp1 : (ns.map fun z => (z, cellOf ns cs z)).map (·.1) = ns := by
    rw [List.map_map]
    exact List.map_id' _
  have hp2 : (ns.map fun z => (z, cellOf ns cs z)).map (·.2) = cs := by
    rw [List.map_map]
    exact cells_of nd hl
  refine q_asgA (R := rNewDN H ns cs) S0 (e_is (e_dctP (ps := ns.map fun z => (z, cellOf ns cs z)) (a_cons (Rs := []) (e_is (e_lcA (ds := ns) (f := rStr) (out := fun z => rNC (z, cellOf ns cs z)) S0 (i_seq (e_sqL (e_cb (a_cons (e_keysN (e_s S0) hl) a_nil) cv_keysN))) (fun d _ => tg_name) (by omega)
    fun z hz σ' H' e' S' => e_tup (Rs := [rStr z, rCell (cellOf ns cs z)]) (a_cons (e_s S') (a_cons (e_dgetNC (e_s S') (e_s S') (look_of nd hl hz)) a_nil))) (by unfold rLstL; rw [List.map_map]; rfl)) a_nil) (by rw [hp1]; exact nd)) (by rw [hp1, hp2])) fun v1 σ1 H1 e1 hd S1 => ?_
  obtain ⟨ph, vs0, rfl, nph, hph, ap0⟩ := hd
  refine q_forQ (k := true) (Rs := plan.map rPr) (e_sqT (e_s S1)) (fun a xs i σ' H' => (SqB K true H' a xs ∧ AllP (plan.map rPr) xs H') ∧ ∃ (cur : List Cell) (vs : List V), FolP cur (plan.drop i) ∧ folC cur (plan.drop i) = folC cs plan ∧ ns.length = cur.length ∧ Ex H H' ∧ H' ph = some (dN (ns.zip vs)) ∧ AllP (cur.map rCell) vs H' ∧ Sl σ' H' [none, none, some (rV (.ref ph)), none, none, none])
    (fun a xs H2 e2 hq hx => ⟨⟨hq, hx⟩, cs, vs0, hF, rfl, hl, e1.trans e2, e2 _ _ hph, ap0.mono e2, ((S1.up e2).forget (i := 0)).forget (i := 1)⟩) (fun a xs i σ' H' h => h.1.1) ?_ ?_
  · rintro a xs i x σ2 H2 hi hx ⟨⟨hq, hx2⟩, cur, vs, hFc, hfo, hcl, E2, hph2, ap2, S2⟩
    have hi' : i < plan.length := by simpa using hi
    have rx : (rPr plan[i]).p x H2 := by
      obtain ⟨R, r1, r2⟩ := hx2.get' hx
      rw [List.getElem?_map, List.getElem?_eq_getElem hi'] at r1
      cases r1
      exact r2
    rw [drop_step hi'] at hFc hfo
    generalize plan[i] = w0 at hFc hfo rx
    obtain ⟨s0, e0⟩ := w0
    obtain ⟨hmay, hFc⟩ := hFc
    have hfo : folC (mvC cur s0 e0) (plan.drop (i + 1)) = folC cs plan := hfo
    refine g_two S2 rx fun σ3 S3 => ?_
    refine qf (t_not (t_B (e_call (cur, s0, e0) (a_cons (e_cb (a_cons (e_valsN (e_odNC S3 hph2 ap2) hcl) a_nil) cv_valsT) (a_cons (e_s S3) (a_cons (e_s S3) a_nil))) hmay))) fun H4 e4 => ?_
    have S4 := S3.up e4
    have hph4 := e4 _ _ hph2
    have ap4 := ap2.mono e4
    have hq4 := hq.up e4
    have hx4 := hx2.mono e4
    have lv := ap4.len
    rw [List.length_map] at lv
    refine s_forO (Rs := ns.map rStr) (e_cb (a_cons (e_keysN (e_odNC S4 hph4 ap4) hcl) a_nil) cv_keysN) (fun a2 ys j σ' H' => H' a2 = some (.lst ys) ∧ AllP (ns.map rStr) ys H' ∧ (∀ (m : Nat) (hm : m < cur.length), m < j → eqC cur[m] s0 = false) ∧ Ex H4 H' ∧ Sl σ' H' [none, none, some (rV (.ref ph)), some (rCell s0), some (rCell e0), none])
      (fun a2 ys H5 e5 ha hy => ⟨ha, hy, (fun m hm h => absurd h (Nat.not_lt_zero m)), e5, S4.up e5⟩) (fun a2 ys j σ' H' h => h.1) ?_ ?_
    · rintro a2 ys j y σ5 H5 hj hy ⟨ha2, hy5, hno, E5, S5⟩
      have hj' : j < ns.length := by simpa using hj
      have ry : (rStr ns[j]).p y H5 := by
        obtain ⟨R, r1, r2⟩ := hy5.get' hy
        rw [List.getElem?_map, List.getElem?_eq_getElem hj'] at r1
        cases r1
        exact r2
      have hjc : j < cur.length := by omega
      refine g_name S5 ry fun σ6 S6 => ?_
      have hph5 := E5 _ _ hph4
      have ap5 := ap4.mono E5
      refine s_if (t_test (e_op (e_dgetNC (e_odNC S6 hph5 ap5) (e_s S6) (look_zip nd hj' hjc)) (e_s S6) ov_eqC)) (fun hb H7 e7 => ?_) fun hb H7 e7 => ?_
      · have hcj : cur[j] = s0 := eqC_iff.mp hb
        have S7 := S6.up e7
        refine q_dputN (R := rCell e0) (e7 _ _ hph5) (e_s S7) (e_s S7) (e_s S7) (by rw [List.length_zip]; omega) fun v8 H8 e8 r8 h8 => ?_
        have E8 : Ex H H8 := (((E2.trans e4).trans E5).trans e7).trans e8
        have n8 : H ph = none := nph
        have E48 : Ex H4 H8 := (E5.trans e7).trans e8
        rw [putC_zip nd hj' (by omega)]
        have hset : mvC cur s0 e0 = cur.set j e0 := mvC_set hmay.nd hjc hcj
        show (SqB K true (upd H8 ph (dN (ns.zip (vs.set j v8)))) a xs ∧ AllP (plan.map rPr) xs (upd H8 ph (dN (ns.zip (vs.set j v8))))) ∧ _
        refine ⟨⟨sqT_mut (hq4.up E48) h8 nt_k, allP_ms h8 nt_k n8 ms_prs (hx4.mono E48)⟩, mvC cur s0 e0, vs.set j v8, hFc, hfo, by rw [mvC_len]; exact hcl, Evl.Ex.mut E8 n8, upd_same, ?_, ?_⟩
        · refine allP_ms h8 nt_k n8 ms_cells ?_
          rw [hset, List.map_set]
          exact AllP.set r8 j (ap4.mono E48)
        · exact ((((S7.up e8).mut (H0 := H) (o := dN (ns.zip (vs.set j v8))) h8 nt_k n8).forget (i := 3)).forget (i := 4)).forget (i := 5)
      · refine ⟨e7 _ _ ha2, hy5.mono e7, fun m hm h => ?_, E5.trans e7, (S6.up e7).forget (i := 5)⟩
        rcases Nat.lt_succ_iff_lt_or_eq.mp h with z | z
        · exact hno m hm z
        · subst z
          exact hb
    · rintro a2 ys σ5 H5 ⟨_, _, hno, _, _⟩
      exfalso
      obtain ⟨j, hj, hcj⟩ := List.getElem_of_mem (isin_iff.mp hmay.i)
      have := hno j hj (by rw [List.length_map]; omega)
      rw [eqC_iff.mpr hcj] at this
      cases this
  · rintro a xs σ2 H2 ⟨_, cur, vs, hFc, hfo, hcl, E2, hph2, ap2, S2⟩
    rw [List.length_map, List.drop_length] at hfo
    have hfo : cur = folC cs plan := hfo
    rw [hfo] at ap2
    exact s_ret (e_odNC S2 hph2 ap2) fun v H3 e3 hv => q v H3 (E2.trans e3) hv
end
end Kx
set_option Elab.async false
set_option linter.all false
set_option maxRecDepth 100000
set_option maxHeartbeats 4000000
/-! D21: t4passes. -/
namespace Kx
open PySem L2 PyProof.Rows
theorem stepZ_in {w : List Str} {n i : Nat} {a b : Str} {r : List Str} (h : i + 1 < n) : stepZ w n i (a :: b :: r) = if lt2 w a b = true then ("turn" : Str) else ("hold" : Str) := by
  have e : decide ((i : Int) = (n : Int) - 1) = false := decide_eq_false (by omega)
  unfold stepZ
  rw [e, Bool.false_or]
  rfl
theorem stepZ_end {w : List Str} {n : Nat} {now : List Str} (h : 0 < n) : stepZ w n (n - 1) now = "turn" := by
  have e : decide (((n - 1 : Nat) : Int) = (n : Int) - 1) = true := decide_eq_true (by omega)
  unfold stepZ
  rw [e, Bool.true_or, if_pos rfl]
theorem oneS_end {w : List Str} {n : Nat} {s : List Str × List Str} (h : 0 < n) : oneS w n s (n - 1) = (stepF s.1 "turn", s.2 ++ [("turn" : Str)]) := by
  unfold oneS
  rw [stepZ_end h]
section
variable {P : Program} {w : World} {K : PySem.W.Frag} {mg : Str → Option Value} {base : Heap} {tS tG : Tok} {aT aW : Addr} {f : Addr} {fd : FuncData}
/-- the two lists as they stand -/
structure Tp (pl : Addr) (s : List Str × List Str) (an : Addr) (H : Hp) : Prop where
  n : ∃ nv, H an = some (.lst nv) ∧ AllP (s.1.map rStr) nv H
  p : ∃ pv, H pl = some (.lst pv) ∧ AllP (s.2.map rStr) pv H
  ne : an ≠ pl
theorem Tp.up {pl an : Addr} {s : List Str × List Str} {H H' : Hp} (h : Tp pl s an H) (e : Ex H H') : Tp pl s an H' := ⟨let ⟨nv, a, b⟩ := h.n; ⟨nv, e _ _ a, b.mono e⟩, let ⟨pv, a, b⟩ := h.p; ⟨pv, e _ _ a, b.mono e⟩, h.ne⟩
abbrev spPasses : Sp := Fn (fun d : List Str × List Str => NmP d.1 ∧ NmP d.2 ∧ d.1.Perm d.2) (fun d => [rLstL rStr d.1, rLstL rStr d.2]) fun d => rTup [rLstL rStr (sortF d.2 d.1).2, rLstL rStr (sortF d.2 d.1).1]
abbrev N_law_t4passes : List Str := ["_law_order", "_law_wished", "_law_now", "_law_steps", "_law_turn", "_law_at", "_law_first"]
theorem sc_law_t4passes : FnScope N_law_t4passes ["_law_order", "_law_wished"] (defScope (top 71)) := ⟨rfl, rfl, rfl, by decide +kernel, rfl, by decide +kernel, by decide +kernel⟩
theorem ok_law_t4passes (F : Fun K "_law_t4passes" "_law_t4passes" (top 71) f fd) (T : Txt K mg tS tG aT aW) (G_law_t4stepped : Cl P w K mg base 1 "_law_t4stepped" spStep4) : FnOk P w K mg base CX0 2 f fd ["_law_order", "_law_wished"] spPasses := by
  refine F.ok sc_law_t4passes (Fn.len fun _ => rfl) (fun cdv A outer s H vs Q E hr h => ⟨_, (pss_cons (ps_par (i := 2) (j := 3) (by rfl) sc_law_t4passes.nd rfl rfl (by decide) rfl rfl (pa_cons (pe_callTy cr_lof (by rfl) T.list b_list (pa_cons (pv 0) pa_nil)) (pa_cons (pe_lst pa_nil) pa_nil)) (by rfl)) (pss_cons (ps_for PassesOwn.never rfl (pi_range1 (by rfl) T.range (pa_cons (pe_op op_sub (pe_callB cr_ln (by rfl) T.len b_len (pa_cons (pv 2) pa_nil)) pe_int) pa_nil)) (pg_name (i := 4) sc_law_t4passes.nd rfl (Or.inl rfl)) (pss_cons (ps_for PassesOwn.never rfl (pi_range1 (by rfl) T.range (pa_cons (pe_op op_sub (pe_callB cr_ln (by rfl) T.len b_len (pa_cons (pv 2) pa_nil)) pe_int) pa_nil)) (pg_name (i := 5) sc_law_t4passes.nd rfl (Or.inl rfl)) (pss_cons (ps_set (i := 6) sc_law_t4passes.nd rfl (Or.inl rfl) (pe_bm PySem.F.plainAttrs_list PySem.F.slot_list_index PySem.F.type_list_index mt_index (pe_callTy cr_lof (by rfl) T.list b_list (pa_cons (pv 1) pa_nil)) (pa_cons (pe_ix (ixK (K := K)) (pv 2) pe_int (fun _ _ => rfl)) pa_nil))) (pss_cons (ps_expr (pe_bm PySem.F.plainAttrs_list PySem.F.slot_list_append PySem.F.type_list_append mt_append (pv 3) (pa_cons (pe_ifExp (pt_cmpR op_lt (pv 6) (pe_bm PySem.F.plainAttrs_list PySem.F.slot_list_index PySem.F.type_list_index mt_index (pe_callTy cr_lof (by rfl) T.list b_list (pa_cons (pv 1) pa_nil)) (pa_cons (pe_ix (ixK (K := K)) (pv 2) pe_int (fun _ _ => rfl)) pa_nil)) (nomark _)) pe_str pe_str) pa_nil))) (pss_one (ps_set (i := 2) sc_law_t4passes.nd rfl (Or.inl rfl) (pe_cl G_law_t4stepped (hr.mono (by decide)) (by rfl) (pa_cons (pv 2) (pa_cons (pe_ix (ixK (K := K)) (pv 3) (pe_un un_neg pe_int) (fun _ _ => rfl)) pa_nil)))))))) (pss_cons (ps_expr (pe_bm PySem.F.plainAttrs_list PySem.F.slot_list_append PySem.F.type_list_append mt_append (pv 3) (pa_cons pe_str pa_nil))) (pss_one (ps_set (i := 2) sc_law_t4passes.nd rfl (Or.inl rfl) (pe_cl G_law_t4stepped (hr.mono (by decide)) (by rfl) (pa_cons (pv 2) (pa_cons pe_str pa_nil)))))))) (pss_one (ps_ret (pe_tup (pa_cons (pv 3) (pa_cons (pv 2) pa_nil))))))), ?_⟩)
  obtain ⟨⟨o, wi⟩, ⟨hn, hw, pm⟩, hv, q⟩ := h
  have hn : NmP o := hn
  have hw : NmP wi := hw
  have pm : o.Perm wi := pm
  have h3 := hn.l3
  have h60 := hn.l60
  have w60 := hw.l60
  have S0 := st (N := N_law_t4passes) (Rs := [rLstL rStr o, rLstL rStr wi]) hv
  have S0' : Sl _ H [some (rLstL rStr o), some (rAt H (rLstL rStr wi)), none, none, none, none, none] := S0.atE (i := 1) rfl
  refine q_parA S0' (a_cons (e_lofN (a_cons (e_sqL (e_s S0)) a_nil)) (a_cons (e_lstN a_nil) a_nil)) fun v1 v2 σ1 H1 e1 hl hf S1 => ?_
  obtain ⟨an0, nv0, rfl, nn0, hn0, an0'⟩ := hl
  obtain ⟨pl, pv0, rfl, npl, hpl0, apl0⟩ := hf
  have ne0 : an0 ≠ pl := fun z => by
    have l1 := an0'.len
    rw [z, hpl0] at hn0
    cases hn0
    rw [apl0.len, List.length_map] at l1
    simp at l1
    omega
  have I0 : SrI wi o.length 0 (o, []) := ⟨rfl, fun y hy => pm.mem_iff.mp hy, rfl⟩
  have T0 : Tp pl (o, []) an0 H1 := ⟨⟨nv0, hn0, an0'⟩, ⟨pv0, hpl0, apl0⟩, ne0⟩
  have ht : ((o.length : Nat) : Int) - 1 = ((o.length - 1 : Nat) : Int) := by omega
  refine q_forR (n := ((o.length - 1 : Nat) : Int)) (a_cons (e_int (e_op (e_cb (a_cons (e_ol S1 hn0 an0') a_nil) cv_lnL) e_c ov_I0) (by rw [List.length_map, ← ht])) a_nil) (by omega) (fun t σ' H' => Ex H H' ∧ ∃ an, Tp pl ((List.range t).foldl (fun s _ => passS wi o.length s) (o, [])) an H' ∧
      Sl σ' H' [none, some (rAt H (rLstL rStr wi)), some (rV (.ref an)), some (rV (.ref pl)), none, none, none])
    (fun H5 e5 => ⟨e1.trans e5, an0, T0.up e5, (S1.up e5).forget (i := 0)⟩) ?_ ?_
  · rintro t σ5 H5 ht5 ⟨E5, an5, T5, S5⟩
    have It := I0.passes t
    rw [List.range_succ, List.foldl_append]
    generalize (List.range t).foldl (fun s _ => passS wi o.length s) (o, []) = s0 at It T5 ⊢
    have ht6 : t < o.length - 1 := by simpa using ht5
    have hto : t * o.length ≤ 3600 := Nat.le_trans (Nat.mul_le_mul (show t ≤ 60 by omega) (show o.length ≤ 60 by omega)) (Nat.le_refl _)
    refine g_name (R := rInt (t : Nat)) S5 rfl fun σ6 S6 => ?_
    obtain ⟨nv5, hn5, an5'⟩ := T5.n
    have hl5 : s0.1.length = o.length := It.l
    refine q_forR (n := ((o.length - 1 : Nat) : Int)) (a_cons (e_int (e_op (e_cb (a_cons (e_ol S6 hn5 an5') a_nil) cv_lnL) e_c ov_I0) (by rw [List.length_map, hl5, ← ht])) a_nil) (by omega) (fun i σ' H' => Ex H H' ∧ ∃ an, Tp pl ((List.range i).foldl (oneS wi o.length) s0) an H' ∧
      Sl σ' H' [none, some (rAt H (rLstL rStr wi)), some (rV (.ref an)), some (rV (.ref pl)), none, none, none])
      (fun H7 e7 => ⟨E5.trans e7, an5, T5.up e7, (S6.up e7).forget (i := 4)⟩) ?_ ?_
    · rintro i σ7 H7 hi7 ⟨E7, an7, T7, S7⟩
      have hi7 : i < o.length - 1 := by simpa using hi7
      have Ii := It.some i
      rw [List.range_succ, List.foldl_append]
      generalize (List.range i).foldl (oneS wi o.length) s0 = s1 at Ii T7 ⊢
      obtain ⟨now, steps⟩ := s1
      have hnl : now.length = o.length := Ii.l
      obtain ⟨a, b, rest, rfl⟩ : ∃ a b rest, now = a :: b :: rest := by
        match now, hnl with
        | a :: b :: rest, _ => exact ⟨a, b, rest, rfl⟩
        | [a], h => simp at h; omega
        | [], h => simp at h; omega
      have hma : a ∈ wi := Ii.m a (by simp)
      have hmb : b ∈ wi := Ii.m b (by simp)
      obtain ⟨nv7, hn7, an7'⟩ := T7.n
      obtain ⟨pv7, hp7, ap7⟩ := T7.p
      refine g_name (R := rInt (i : Nat)) S7 rfl fun σ8 S8 => ?_
      refine q_asg (R := rInt (wi.idxOf a : Nat)) S8 (e_index (e_cb (a_cons (e_sqL (e_at (e_s S8))) a_nil) cv_lof) (a_cons (e_op (Rx := rLst ((a :: b :: rest).map rStr)) (e_ol S8 hn7 an7') e_c (ov_ixL (atI_nat (i := 0) rfl))) a_nil) hma) fun σ9 H9 e9 S9 => ?_
      have hz : stepZ wi o.length i (a :: b :: rest) = if lt2 wi a b = true then ("turn" : Str) else ("hold" : Str) := stepZ_in (by omega)
      refine q_app (R := rStr (stepZ wi o.length i (a :: b :: rest))) (e9 _ _ hp7) (e_s S9) (e_if (b := lt2 wi a b) (t_test (e_op (e_s S9) (e_index (e_cb (a_cons (e_sqL (e_at (e_s S9))) a_nil) cv_lof) (a_cons (e_op (Rx := rLst ((a :: b :: rest).map rStr)) (e_ol S9 (e9 _ _ hn7) (an7'.mono e9)) e_c (ov_ixL (atI_nat (i := 1) rfl))) a_nil) hmb) ov_I0)) (fun hq => e_is e_c (by rw [hz, if_pos hq])) fun hq => e_is e_c (by rw [hz, if_neg (by rw [hq]; decide)])) (by
          have := ap7.len
          rw [List.length_map, Ii.c] at this
          omega) fun v10 H10 e10 r10 h10 => ?_
      have E10 : Ex H7 H10 := e9.trans e10
      have ap10 : AllP ((steps ++ [stepZ wi o.length i (a :: b :: rest)]).map rStr) (pv7 ++ [v10]) (upd H10 pl (.lst (pv7 ++ [v10]))) := by
        refine allP_ms h10 nt_l npl ms_strs ?_
        rw [List.map_append]
        exact (ap7.mono E10).app (show AllP [rStr _] [v10] H10 from ⟨r10, trivial⟩)
      have hn10 : (upd H10 pl (.lst (pv7 ++ [v10]))) an7 = some (.lst nv7) := by
        rw [upd_ne T7.ne]
        exact E10 _ _ hn7
      have an10 : AllP ((a :: b :: rest).map rStr) nv7 (upd H10 pl (.lst (pv7 ++ [v10]))) := allP_ms h10 nt_l npl ms_strs (an7'.mono E10)
      have S10 := (S9.up e10).mut (H0 := H) (o := .lst (pv7 ++ [v10])) h10 nt_l npl
      have EE : Ex H (upd H10 pl (.lst (pv7 ++ [v10]))) := Evl.Ex.mut (E7.trans E10) npl
      have hp10 : (upd H10 pl (.lst (pv7 ++ [v10]))) pl = some (.lst (pv7 ++ [v10])) := upd_same
      generalize upd H10 pl (.lst (pv7 ++ [v10])) = HG at ap10 hn10 an10 S10 EE hp10 ⊢
      refine s_asg (R := rNewL HG ((stepF (a :: b :: rest) (stepZ wi o.length i (a :: b :: rest))).map rStr)) (e_callN (a :: b :: rest, stepZ wi o.length i (a :: b :: rest)) (a_cons (e_ol S10 hn10 an10) (a_cons (e_op (e_ol S10 hp10 ap10) (e_un e_c uv_neg) (ov_ixL (by rw [List.map_append]; exact atI_last _ _))) a_nil)) ⟨by
        show 2 ≤ (a :: b :: rest).length
        omega, by
        show (a :: b :: rest).length ≤ 1000
        omega⟩) fun v11 H11 e11 r11 => ?_
      obtain ⟨an11, nv11, rfl, nn11, hn11, ap11⟩ := r11
      refine ⟨EE.trans e11, an11, ⟨⟨nv11, hn11, ap11⟩, ⟨_, e11 _ _ hp10, ap10.mono e11⟩, fun z => ?_⟩, (((S10.up e11).set (j := 2) (R := rV (.ref an11)) (v := .ref an11) rfl).forget (i := 5)).forget (i := 6)⟩
      rw [z, hp10] at nn11
      cases nn11
    · rintro σ7 H7 ⟨E7, an7, T7, S7⟩
      have T7 : Tp pl ((List.range (o.length - 1)).foldl (oneS wi o.length) s0) an7 H7 := T7
      have Ii := It.some (o.length - 1)
      have hpass : passS wi o.length s0 = (stepF ((List.range (o.length - 1)).foldl (oneS wi o.length) s0).1 "turn", ((List.range (o.length - 1)).foldl (oneS wi o.length) s0).2 ++ [("turn" : Str)]) := by
        have e1 : passS wi o.length s0 = oneS wi o.length ((List.range (o.length - 1)).foldl (oneS wi o.length) s0) (o.length - 1) := by
          unfold passS
          have e2 : List.range o.length = List.range (o.length - 1) ++ [o.length - 1] := by
            conv => lhs; rw [show o.length = (o.length - 1) + 1 by omega]
            exact List.range_succ
          rw [e2, List.foldl_append]
          rfl
        rw [e1]
        exact oneS_end (by omega)
      show tSeq _ _ _ σ7 H7
      generalize (List.range (o.length - 1)).foldl (oneS wi o.length) s0 = s1 at T7 Ii hpass
      obtain ⟨now, steps⟩ := s1
      have hnl : now.length = o.length := Ii.l
      obtain ⟨nv7, hn7, an7'⟩ := T7.n
      obtain ⟨pv7, hp7, ap7⟩ := T7.p
      refine q_app (R := rStr "turn") hp7 (e_s S7) e_c (by
          have := ap7.len
          rw [List.length_map, Ii.c] at this
          omega) fun v10 H10 e10 r10 h10 => ?_
      have ap10 : AllP ((steps ++ [("turn" : Str)]).map rStr) (pv7 ++ [v10]) (upd H10 pl (.lst (pv7 ++ [v10]))) := by
        refine allP_ms h10 nt_l npl ms_strs ?_
        rw [List.map_append]
        exact (ap7.mono e10).app (show AllP [rStr _] [v10] H10 from ⟨r10, trivial⟩)
      have hn10 : (upd H10 pl (.lst (pv7 ++ [v10]))) an7 = some (.lst nv7) := by
        rw [upd_ne T7.ne]
        exact e10 _ _ hn7
      have an10 : AllP (now.map rStr) nv7 (upd H10 pl (.lst (pv7 ++ [v10]))) := allP_ms h10 nt_l npl ms_strs (an7'.mono e10)
      have S10 := (S7.up e10).mut (H0 := H) (o := .lst (pv7 ++ [v10])) h10 nt_l npl
      have EE : Ex H (upd H10 pl (.lst (pv7 ++ [v10]))) := Evl.Ex.mut (E7.trans e10) npl
      have hp10 : (upd H10 pl (.lst (pv7 ++ [v10]))) pl = some (.lst (pv7 ++ [v10])) := upd_same
      generalize upd H10 pl (.lst (pv7 ++ [v10])) = HG at ap10 hn10 an10 S10 EE hp10 ⊢
      refine s_asg (R := rNewL HG ((stepF now "turn").map rStr)) (e_callN (now, ("turn" : Str)) (a_cons (e_ol S10 hn10 an10) (a_cons e_c a_nil)) ⟨by
        show 2 ≤ now.length
        omega, by
        show now.length ≤ 1000
        omega⟩) fun v11 H11 e11 r11 => ?_
      obtain ⟨an11, nv11, rfl, nn11, hn11, ap11⟩ := r11
      refine ⟨EE.trans e11, an11, ?_, ((S10.up e11).set (j := 2) (R := rV (.ref an11)) (v := .ref an11) rfl).forget (i := 4)⟩
      show Tp pl (passS wi o.length s0) an11 H11
      rw [hpass]
      refine ⟨⟨nv11, hn11, ap11⟩, ⟨_, e11 _ _ hp10, ap10.mono e11⟩, fun z => ?_⟩
      rw [z, hp10] at nn11
      cases nn11
  · rintro σ5 H5 ⟨E5, an5, T5, S5⟩
    have T5 : Tp pl (sortF wi o) an5 H5 := T5
    obtain ⟨nv5, hn5, an5'⟩ := T5.n
    obtain ⟨pv5, hp5, ap5⟩ := T5.p
    exact s_ret (e_tup (Rs := [rLstL rStr (sortF wi o).2, rLstL rStr (sortF wi o).1]) (a_cons (e_ol S5 hp5 ap5) (a_cons (e_ol S5 hn5 an5') a_nil))) fun v H6 e6 hv6 => q v H6 (E5.trans e6) hv6
end
end Kx
set_option Elab.async false
set_option linter.all false
set_option maxRecDepth 100000
set_option maxHeartbeats 4000000
/-! D22: the pen itself, big numbers. -/
namespace Kx
open PySem L2 PyProof.Rows
section
variable {σ : L2.St} {H : Hp} {D : Ends} {ta tb te : TE} {tu tz : L2.TS} {pn : Pn} {b : Nat}
theorem s_asgP {j : Nat} {R : V → Hp → Prop} (h : EvP te σ H pn b R) (k : ∀ v H', Ex (hide pn.p H) H' → PenI pn b H' → R v H' → D.nx (σ.set j (some v)) H') : tAsg te (gName j) D σ H := h _ fun v H' e hp hr => k v H' e hp hr
theorem p_add {i lo hi : Int} (ha : Ev ta σ H (rInt i)) (hb : ∀ H1, Ex H H1 → EvP tb σ H1 pn b (fun v _ => ∃ r, v = .int r ∧ lo ≤ r ∧ r < hi)) : EvP (tOp (rI0 fun i j => V.int (i + j)) ta tb) σ H pn b (fun v _ => ∃ r, v = .int (i + r) ∧ lo ≤ r ∧ r < hi) := fun Q q => ha H (exr H) _ fun x H1 e1 hx => hb H1 e1 _ fun y H2 e2 hp ⟨r, hy, h0, h1⟩ => by
  have hx : x = .int i := hx
  subst hx hy
  exact ⟨i, r, rfl, rfl, q _ H2 (hide_up e1 e2) hp ⟨r, rfl, h0, h1⟩⟩
theorem q_forRP {g : TG} {N : Nat} (h : EvP te σ H pn b (fun v _ => ∃ n : Nat, v = .int (n : Nat) ∧ n ≤ N)) (hN : N ≤ 100000) (Pv : Nat → Nat → L2.St → Hp → Prop)
    (h0 : ∀ n H1, n ≤ N → Ex (hide pn.p H) H1 → PenI pn b H1 → Pv n 0 σ H1)
    (hs : ∀ n (i : Nat) σ' H', n ≤ N → i < n → Pv n i σ' H' → g (.int (i : Int)) σ' H' fun σ2 H2 => tu { D with nx := Pv n (i + 1), ct := Pv n (i + 1), bk := tz D } σ2 H2)
    (hd : ∀ n σ' H', n ≤ N → Pv n n σ' H' → tz D σ' H') : tSeq (tFor (iRng1 (tCons te tNil)) g tu) tz D σ H := h _ fun v H1 e hp ⟨n, ev, hn⟩ => by
  subst ev
  refine ⟨(n : Nat), rfl, by omega, by omega, for_it (walk_range (lo := 0)) (Pv n) (h0 n H1 hn e hp) (fun _ _ _ _ _ => trivial) (fun i x σ' H' H2 hi p y => ?_) fun σ' H' p => hd n σ' H' hn p⟩
  obtain ⟨e2, e3⟩ := y
  have e3 : x = .int (0 + (i : Nat)) := e3
  rw [e2, e3, Int.zero_add]
  exact hs n i σ' H' hn hi p
end
theorem cutS_all {z : Str} (h : z.length ≤ 9) : cutS z (some (-9)) none = z := by
  unfold cutS
  have e1 : HT.sIx z.length 0 (some (-9)) = 0 := by
    unfold HT.sIx
    simp
    omega
  have e2 : HT.sIx z.length z.length none = z.length := rfl
  rw [e1, e2, List.drop_zero, Nat.sub_zero]
  have e3 : z.cps.toList.length = z.length := by
    rw [Array.length_toList]
    rfl
  rw [← e3, List.take_length]
section
variable {P : Program} {w : World} {K : PySem.W.Frag} {mg : Str → Option Value} {base : Heap} {tS tG : Tok} {aT aW : Addr} {f : Addr} {fd : FuncData}
def spPen (K : PySem.W.Frag) : Sp := fun vs H Q _ => ∃ (ns : List Int), ns.length ≤ 1000 ∧ AllP [rSq K false (ns.map rInt)] vs H ∧ ∀ (g : Pn) H', Ex H H' → H g.p = none → PenI g 0 H' → Q (.ref g.p) H'
abbrev N_law_pen : List Str := ["_law_script", "_law_fold", "_law_cell"]
theorem sc_law_pen : FnScope N_law_pen ["_law_script"] (defScope (top 51)) := ⟨rfl, rfl, rfl, by decide +kernel, rfl, by decide +kernel, by decide +kernel⟩
theorem ok_law_pen (F : Fun K "_law_pen" "_law_pen" (top 51) f fd) (T : Txt K mg tS tG aT aW) : FnOk P w K mg base CX0 1 f fd ["_law_script"] (spPen K) := by
  refine F.ok sc_law_pen (fun vs H Q E h => ?_) (fun cdv A outer s H vs Q E hr h => ⟨_, (pss_cons (ps_set (i := 1) sc_law_pen.nd rfl (Or.inl rfl) pe_int) (pss_cons (ps_for PassesOwn.never rfl (pi_seq (pv 0)) (pg_name (i := 2) sc_law_pen.nd rfl (Or.inl rfl)) (pss_one (ps_set (i := 1) sc_law_pen.nd rfl (Or.inl rfl) (pe_op op_mod (pe_callTy cr_int (by rfl) T.int b_int (pa_cons (pe_op op_add (pe_op op_mulW (pv 1) pe_int) (pv 2)) pa_nil)) pe_int)))) (pss_one (ps_ret (pe_disp (pps_cons pe_str (pe_callTy cr_lof (by rfl) T.list b_list (pa_cons (pv 0) pa_nil)) (pps_cons pe_str pe_int (pps_cons pe_str pe_int (pps_cons pe_str pe_int (pps_cons pe_str (pv 1) pps_nil))))) (by rfl) (by rfl) (fun z => by cases z) (by decide)))))), ?_⟩)
  · obtain ⟨_, _, hv, _⟩ := h
    exact hv.len
  obtain ⟨ns, hl, hv, q⟩ := h
  have S0 := st (N := N_law_pen) (Rs := [rSq K false (ns.map rInt)]) hv
  refine q_asg (R := rInt 0) S0 e_c fun σ1 H1 e1 S1 => ?_
  refine q_forQ (k := false) (Rs := ns.map rInt) (e_s S1) (fun a xs i σ' H' => (SqB K false H' a xs ∧ AllP (ns.map rInt) xs H') ∧ ∃ c : Int, 0 ≤ c ∧ c < 1000000007 ∧ Ex H H' ∧ Sl σ' H' [some (rSq K false (ns.map rInt)), some (rInt c), none])
    (fun a xs H2 e2 hq hx => ⟨⟨hq, hx⟩, 0, by decide, by decide, e1.trans e2, S1.up e2⟩) (fun a xs i σ' H' h => h.1.1) ?_ ?_
  · rintro a xs i x σ2 H2 hi hx ⟨⟨hq, hx2⟩, c, c0, c1, E2, S2⟩
    have hi' : i < ns.length := by simpa using hi
    have rx : (rInt ns[i]).p x H2 := by
      obtain ⟨R, r1, r2⟩ := hx2.get' hx
      rw [List.getElem?_map, List.getElem?_eq_getElem hi'] at r1
      cases r1
      exact r2
    generalize ns[i] = y at rx
    refine g_name S2 rx fun σ3 S3 => ?_
    have g1 := Int.emod_nonneg (c * 41 + y) (show (1000000007 : Int) ≠ 0 by decide)
    have g2 := Int.emod_lt_of_pos (c * 41 + y) (show (0 : Int) < 1000000007 by decide)
    refine s_asg (R := rInt ((c * 41 + y) % 1000000007)) (e_op (e_cb (a_cons (e_op (e_op (e_s S3) e_c (ov_I (cmw (by omega) (by decide)))) (e_s S3) ov_I0) a_nil) cv_int) e_c (ov_I (by decide))) fun v4 H4 e4 r4 => ?_
    exact ⟨⟨hq.up e4, hx2.mono e4⟩, _, g1, g2, E2.trans e4, ((S3.up e4).set (j := 1) r4).forget (i := 2)⟩
  · rintro a xs σ2 H2 ⟨_, c, c0, c1, E2, S2⟩
    refine s_retU ?_
    intro p hp
    have S3 := S2.up (Evl.Ex.new (o := .dK []) hp)
    have hp3 : (upd H2 p (.dK [])) p = some (.dK []) := upd_same
    have E3 : Ex H (upd H2 p (.dK [])) := E2.trans (Evl.Ex.new hp)
    generalize upd H2 p (.dK []) = HH at S3 hp3 E3 ⊢
    refine (e_lofN (a_cons (e_s S3) a_nil) : Ev (tCB (rLof K) (tCons (tVar 0) tNil)) σ2 HH (rNewL HH (ns.map rInt))) HH (exr HH) _ fun v4 H4 e4 hv4 => ?_
    obtain ⟨l, lv, rfl, nl, hl4, al4⟩ := hv4
    refine (e_s (S3.up e4) : Ev (tVar 1) σ2 H4 (rInt c)) H4 (exr H4) _ fun v5 H5 e5 hv5 => ?_
    have hv5 : v5 = .int c := hv5
    subst hv5
    have hlv : lv = ns.map V.int := by
      have : AllP ((ns.map V.int).map rV) lv H4 := by
        rw [List.map_map]
        exact al4
      exact AllP.vals this
    subst hlv
    have np : l ≠ p := fun z => by
      rw [z, hp3] at nl
      cases nl
    have hpn : H p = none := Evl.fresh_back E2 hp
    refine ⟨(e4.trans e5) _ _ hp3, [(nk "cells", .ref l), (nk "at", .int 0), (nk "digits", .int 0), (nk "count", .int 0), (nk "fold", .int c)], rfl, Nat.le_of_ble_eq_true rfl, ?_⟩
    refine q ⟨p, l, ns⟩ _ (Evl.Ex.mut ((E3.trans e4).trans e5) hpn) hpn ⟨0, 0, 0, c, upd_same, ?_, hl, ⟨by decide, by decide, by decide, by decide, c0, by omega⟩⟩
    rw [upd_ne np]
    exact e5 _ _ hl4
def spBig : Sp := fun vs H Q _ => ∃ (g : Pn) (b : Nat), vs = [.ref g.p, .int 9] ∧ PenI g b H ∧ b ≤ 900000 ∧ ∀ (r : Int) H', Ex (hide g.p H) H' → PenI g (b + 4) H' → 0 ≤ r → r < 1000000000 → Q (.int r) H'
abbrev N_law_big : List Str := ["_law_pen_here", "_law_figures", "_law_total", "_law_k"]
theorem sc_law_big : FnScope N_law_big ["_law_pen_here", "_law_figures"] (defScope (top 54)) := ⟨rfl, rfl, rfl, by decide +kernel, rfl, by decide +kernel, by decide +kernel⟩
theorem ok_law_big (F : Fun K "_law_big" "_law_big" (top 54) f fd) (T : Txt K mg tS tG aT aW) (G_law_draw : Cl P w K mg base 1 "_law_draw" spDraw) (G_law_pick : Cl P w K mg base 2 "_law_pick" spPick) : FnOk P w K mg base CX0 3 f fd ["_law_pen_here", "_law_figures"] spBig := by
  refine F.ok sc_law_big (fun vs H Q E h => ?_) (fun cdv A outer s H vs Q E hr h => ⟨_, (pss_cons (ps_set (i := 2) sc_law_big.nd rfl (Or.inl rfl) pe_int) (pss_cons (ps_for PassesOwn.never rfl (pi_range1 (by rfl) T.range (pa_cons (pe_cl G_law_pick (hr.mono (by decide)) (by rfl) (pa_cons (pv 0) (pa_cons (pe_lst (pa_cons pe_int (pa_cons pe_int (pa_cons pe_int (pa_cons pe_int (pa_cons pe_int (pa_cons (pe_op op_fdivW (pe_op op_add (pv 1) pe_int) pe_int) pa_nil))))))) pa_nil))) pa_nil)) (pg_name (i := 3) sc_law_big.nd rfl (Or.inl rfl)) (pss_one (ps_set (i := 2) sc_law_big.nd rfl (Or.inl rfl) (pe_op op_add (pe_op op_mulW (pv 2) pe_int) (pe_cl G_law_draw (hr.mono (by decide)) (by rfl) (pa_cons (pv 0) (pa_cons pe_int pa_nil))))))) (pss_one (ps_ret (pe_callTy cr_intS (by rfl) T.int b_int (pa_cons (pe_slice sl_str (pe_callTy cr_strI (by rfl) T.str b_str (pa_cons (pv 2) pa_nil)) (po_some (pe_un un_neg (pv 1))) po_none) pa_nil)))))), ?_⟩)
  · obtain ⟨_, _, rfl, _⟩ := h
    rfl
  obtain ⟨g, b, rfl, hp, hb, q⟩ := h
  have S0 := st (N := N_law_big) (Rs := [rV (.ref g.p), rInt 9]) (vs := [.ref g.p, .int 9]) (H := H) ⟨rfl, rfl, trivial⟩
  refine q_asg (R := rInt 0) S0 e_c fun σ1 H1 e1 S1 => ?_
  have hp1 := hp.up e1
  refine q_forRP (pn := g) (b := b + 1) (N := 3) (fun Q q => p_pick (Rs := ([1, 1, 1, 2, 3, 3] : List Int).map rInt) (a_cons (e_s S1) (a_cons (e_lst (Rs := ([1, 1, 1, 2, 3, 3] : List Int).map rInt) (a_cons e_c (a_cons e_c (a_cons e_c (a_cons e_c (a_cons e_c (a_cons (e_int (e_op (e_op (e_s S1) e_c ov_I0) e_c (ov_I (cdw (by decide) (by decide)))) (by decide)) a_nil))))))) a_nil)) hp1 (by omega) (by decide) (by decide) (fun _ => inferInstance) Q fun v H' e' hp' hr' => q v H' e' hp' (by
      obtain ⟨R, hR, hv⟩ := hr'
      obtain ⟨i, hi, rfl⟩ := List.mem_map.mp hR
      have hv : v = .int i := hv
      have hi : i = 1 ∨ i = 2 ∨ i = 3 := by simpa using hi
      rcases hi with rfl | rfl | rfl
      · exact ⟨1, hv, by decide⟩
      · exact ⟨2, hv, by decide⟩
      · exact ⟨3, hv, by decide⟩)) (by decide)
    (fun n i σ' H' => ∃ m : Nat, m < 1000 ^ i ∧ Ex (hide g.p H) H' ∧ PenI g (b + 1 + i) H' ∧ Sl σ' H' [some (rV (.ref g.p)), some (rInt 9), some (rInt (m : Nat)), none]) ?_ ?_ ?_
  · intro n H2 hn e2 hp2
    obtain ⟨k1, hk1⟩ := hp1.dk
    obtain ⟨k2, hk2⟩ := hp2.dk
    exact ⟨0, by decide, hide_up e1 e2, hp2, S1.go (H0 := hide g.p H1) hk1 hide_self e2 hk2⟩
  · rintro n i σ2 H2 hn hi ⟨m, hm, E2, hp2, S2⟩
    have hm9 : m < 1000000 := Nat.lt_of_lt_of_le hm (Nat.le_trans (Nat.pow_le_pow_right (by decide) (show i ≤ 2 by omega)) (by decide))
    refine g_name (R := rInt (i : Nat)) S2 rfl fun σ3 S3 => ?_
    refine s_asgP (p_add (i := (m : Int) * 1000) (e_op (e_s S3) e_c (ov_I (cmw (by omega) (by decide)))) fun H4 e4 => p_draw (m := 1000) (a_cons (e_s (S3.up e4)) (a_cons e_c a_nil)) (hp2.up e4) (by omega) (by decide) (by decide)) fun v5 H5 e5 hp5 ⟨r, hv5, r0, r1⟩ => ?_
    obtain ⟨k1, hk1⟩ := hp2.dk
    obtain ⟨k2, hk2⟩ := hp5.dk
    obtain ⟨rn, rfl⟩ := Int.eq_ofNat_of_zero_le r0
    refine ⟨m * 1000 + rn, ?_, hide_tr E2 e5, hp5, ((S3.go (H0 := hide g.p H2) hk1 hide_self e5 hk2).set (j := 2) (R := rInt ((m * 1000 + rn : Nat) : Int)) (v := v5) (by
      rw [hv5]
      show V.int _ = V.int _
      congr 1)).forget (i := 3)⟩
    rw [Nat.pow_succ]
    omega
  · rintro n σ2 H2 hn ⟨m, hm, E2, hp2, S2⟩
    have hm9 : m < 10 ^ 9 := Nat.lt_of_lt_of_le hm (Nat.le_trans (Nat.pow_le_pow_right (by decide) hn) (by decide))
    have hlen : (Str.ofString (toString ((m : Nat) : Int))).length ≤ 9 := by
      rw [TL.len_tl, TL.tl_num]
      exact TL.numL_len (by decide) hm9
    have hnl := TL.numL_len (n := m) (k := 9) (by decide) hm9
    refine s_ret (R := rInt (m : Nat)) (e_cb (a_cons (e_is (e_sl (e_cb (a_cons (e_s S2) a_nil) (cv_strI (i := (m : Nat)) (Nat.lt_of_lt_of_le (PySem.Flt.log2_lt_of (show 0 < 30 by decide) (show ((m : Nat) : Int).natAbs < 2 ^ 30 by omega)) (by decide)))) (o_some (e_un (e_s S2) uv_neg)) o_none (sv_S (Nat.le_trans hlen (by decide)))) (congrArg rStr (cutS_all hlen))) a_nil) (cv_intS (TL.int_num (n := m) (by omega)) (by omega))) fun v3 H3 e3 hv3 => ?_
    have hv3 : v3 = .int (m : Nat) := hv3
    subst hv3
    exact q m H3 (E2.trans e3) ((hp2.le (by omega)).up e3) (by omega) (by omega)
end
end Kx
set_option Elab.async false
set_option linter.all false
set_option maxRecDepth 100000
set_option maxHeartbeats 4000000
/-! D23: step_right. -/
namespace Kx
open PySem L2 PyProof.Rows
def encPr (p : Cell × Cell) : PyData := .tuple [encC p.1, encC p.2]
theorem dat_pr (p : Cell × Cell) : Dat (rPr p) (encPr p) := dat_tup (datA_cons (dat_cell p.1) (datA_cons (dat_cell p.2) datA_nil))
theorem shp_prsT (cs : List (Cell × Cell)) : SeqAt.shaped (.tuple (cs.map encPr)) = true := by
  have h1 : PyData.canLayAll0 (cs.map encPr) = true := by
    induction cs with
    | nil => rfl
    | cons c r ih =>
      rw [List.map_cons]
      simp only [PyData.canLayAll0, Bool.and_eq_true]
      exact ⟨rfl, ih⟩
  have h2 : PyData.depthAll (cs.map encPr) ≤ 3 := by
    clear h1
    induction cs with
    | nil => exact Nat.zero_le _
    | cons c r ih =>
      rw [List.map_cons]
      simp only [PyData.depthAll]
      exact Nat.max_le.mpr ⟨by simp [encPr, encC, PyData.depth, PyData.depthAll], ih⟩
  unfold SeqAt.shaped
  rw [Bool.and_eq_true, decide_eq_true_eq]
  refine ⟨h1, ?_⟩
  simp only [PyData.depth]
  omega
theorem shp_strsT (zs : List Str) (h : ∀ z ∈ zs, PyData.canLay0 (.str z) = true) : SeqAt.shaped (.tuple (zs.map PyData.str)) = true := by
  have := shp_strs zs h
  unfold SeqAt.shaped at this ⊢
  simpa [PyData.canLay0, PyData.depth] using this
theorem zip_nc (as : List Str) (bs : List Cell) : List.zipWith (fun R S => rTup [R, S]) (as.map rStr) (bs.map rCell) = (as.zip bs).map rNC := by
  rw [List.zipWith_map, List.zip, List.map_zipWith]
def stepW (z : Str) (c : Cell) (n : Nat) : List (Cell × Cell) := if z = "turn" then crawlW c n else heldW c n
structure StepP (c : Cell) (ns : List Str) (z : Str) : Prop where
  nm : NmP ns
  p : ∃ plan p0 ps, WalkedP (rowC c ns.length) (stepW z c ns.length) plan ∧ Walks4P (rowC c ns.length) (stepW z c ns.length) plan ∧ plan.length ≤ 1000 ∧ FolP (rowC c ns.length) plan ∧ toldC ns (folC (rowC c ns.length) plan) = p0 :: ps ∧ PlP (p0 :: ps) ∧
    ordR p0 ps = rTupL rStr (stepF ns z) ∧ srtC (folC (rowC c ns.length) plan) = rowC (c.1 + 1, c.2) ns.length
theorem rowC_len {c : Cell} {n : Nat} : (rowC c n).length = n := by
  unfold rowC
  rw [List.length_map, List.length_range]
theorem folC_len : ∀ {plan : List (Cell × Cell)} {cs : List Cell}, (folC cs plan).length = cs.length
  | [], _ => rfl
  | (s, e) :: r, cs => (folC_len (plan := r) (cs := mvC cs s e)).trans mvC_len
section
variable {P : Program} {w : World} {K : PySem.W.Frag} {mg : Str → Option Value} {base : Heap} {tS tG : Tok} {aT aW : Addr} {f : Addr} {fd : FuncData}
abbrev spStepR : Sp := Fn (fun d : Cell × List Str × Str => StepP d.1 d.2.1 d.2.2) (fun d => [rCell d.1, rLstL rStr d.2.1, rStr d.2.2]) fun _ => rBl true
abbrev N_law_step_right : List Str := ["_law_first", "_law_names", "_law_step", "_law_n", "_law_row", "_law_told", "_law_walks", "_law_at", "_law_name", "_law_cell"]
theorem sc_law_step_right : FnScope N_law_step_right ["_law_first", "_law_names", "_law_step"] (defScope (top 72)) := ⟨rfl, rfl, rfl, by decide +kernel, rfl, by decide +kernel, by decide +kernel⟩
theorem ok_law_step_right (F : Fun K "_law_step_right" "_law_step_right" (top 72) f fd) (T : Txt K mg tS tG aT aW) (G_law_t4row : Cl P w K mg base 1 "_law_t4row" spRow4) (Gturned_row : Cl P w K mg base 14 "turned_row" spTurned) (Gheld_row : Cl P w K mg base 13 "held_row" spHeld) (G_law_t4along : Cl P w K mg base 1 "_law_t4along" spAlong) (G_law_t4held : Cl P w K mg base 1 "_law_t4held" spHeld4) (G_law_t4walks : Cl P w K mg base 4 "_law_t4walks" spWalks4)
    (G_law_t4followed : Cl P w K mg base 4 "_law_t4followed" spFol) (Gorder_of : Cl P w K mg base 10 "order_of" spOrd) (G_law_t4told : Cl P w K mg base 1 "_law_t4told" spTold) (G_law_t4stepped : Cl P w K mg base 1 "_law_t4stepped" spStep4) : FnOk P w K mg base CX0 15 f fd ["_law_first", "_law_names", "_law_step"] spStepR := by
  refine F.ok sc_law_step_right (Fn.len fun _ => rfl) (fun cdv A outer s H vs Q E hr h => ⟨_, (pss_cons (ps_set (i := 3) sc_law_step_right.nd rfl (Or.inl rfl) (pe_callB cr_ln (by rfl) T.len b_len (pa_cons (pv 1) pa_nil))) (pss_cons (ps_set (i := 4) sc_law_step_right.nd rfl (Or.inl rfl) (pe_cl G_law_t4row (hr.mono (by decide)) (by rfl) (pa_cons (pv 0) (pa_cons (pv 3) pa_nil)))) (pss_cons (ps_set (i := 5) sc_law_step_right.nd rfl (Or.inl rfl) (pe_ifExp (pt_cmpR op_eq (pv 2) pe_str (nomark _)) (pe_cl Gturned_row (hr.mono (by decide)) (by rfl) (pa_cons (pv 0) (pa_cons (pv 3) pa_nil))) (pe_cl Gheld_row (hr.mono (by decide)) (by rfl) (pa_cons (pv 0) (pa_cons (pv 3) pa_nil))))) (pss_cons (ps_set (i := 6) sc_law_step_right.nd rfl (Or.inl rfl) (pe_ifExp (pt_cmpR op_eq (pv 2) pe_str (nomark _)) (pe_cl G_law_t4along (hr.mono (by decide)) (by rfl) (pa_cons (pv 4) (pa_cons pe_int pa_nil))) (pe_cl G_law_t4held (hr.mono (by decide)) (by rfl) (pa_cons (pv 0) (pa_cons (pv 3) pa_nil))))) (pss_cons (ps_if (pt_cmpR (neDK (K := K) hr.units) (pv 5) (pe_cl G_law_t4walks (hr.mono (by decide)) (by rfl) (pa_cons (pv 4) (pa_cons (pv 6) pa_nil))) (nomark _)) (pss_one (ps_ret pe_bl)) pss_nil) (pss_cons (ps_set (i := 7) sc_law_step_right.nd rfl (Or.inl rfl) (pe_cl G_law_t4followed (hr.mono (by decide)) (by rfl) (pa_cons (pe_callTy (call_dictP (by rfl)) (by rfl) T.dict b_dict (pa_cons (pe_lc (own := [("_law_name", 8), ("_law_cell", 9)]) (g := (gTup K 2 (gCons (gName 8) (gCons (gName 9) gNil)))) (tt := tYes) (by rfl) sc_law_step_right.nd (pi_zipB (by rfl) T.zip (pa_cons (pv 1) (pa_cons (pv 4) pa_nil))) (blkOk_by (N := N_law_step_right) (sc := defScope (top 72)) (own := [("_law_name", 8), ("_law_cell", 9)]) (by decide +kernel)) (fun _ _ _ _ _ => (pg_tup rfl (pgs_cons (pg_name (i := 8) sc_law_step_right.nd rfl (Or.inl rfl)) (pgs_cons (pg_name (i := 9) sc_law_step_right.nd rfl (Or.inl rfl)) pgs_nil)))) (fun _ _ _ _ _ => pts_nil) (fun _ _ _ _ _ => (pe_tup (pa_cons (pv 8) (pa_cons (pv 9) pa_nil))))) pa_nil)) (pa_cons (pv 5) pa_nil)))) (pss_cons (ps_if (PW.pt (pw_or (pt_cmpR op_isNn (pv 7) pe_non (nomark _)) (pw_or1 (pt_cmpR (neDK (K := K) hr.units) (pe_cl Gorder_of (hr.mono (by decide)) (by rfl) (pa_cons (pe_cl G_law_t4told (hr.mono (by decide)) (by rfl) (pa_cons (pv 7) pa_nil)) pa_nil)) (pe_callTy cr_tof (by rfl) T.tuple b_tuple (pa_cons (pe_cl G_law_t4stepped (hr.mono (by decide)) (by rfl) (pa_cons (pv 1) (pa_cons (pv 2) pa_nil))) pa_nil)) (nomark _))))) (pss_one (ps_ret pe_bl)) pss_nil) (pss_one (ps_ret (pe_cmpR (eqDK (K := K) hr.units) (pe_callB (cr_srt hr.units) (by rfl) T.sorted b_sorted (pa_cons (pe_callTy (call_listView (by rfl)) (by rfl) T.list b_list (pa_cons (pe_bm0 PySem.F.plainAttrs_dict PySem.F.slot_dict_values PySem.F.type_dict_values mt_valuesV (pv 7)) pa_nil)) pa_nil)) (pe_callTy cr_lof (by rfl) T.list b_list (pa_cons (pe_cl G_law_t4row (hr.mono (by decide)) (by rfl) (pa_cons (pe_tup (pa_cons (pe_op op_add (pe_ix (ixK (K := K)) (pv 0) pe_int (fun _ _ => rfl)) pe_int) (pa_cons (pe_ix (ixK (K := K)) (pv 0) pe_int (fun _ _ => rfl)) pa_nil))) (pa_cons (pv 3) pa_nil))) pa_nil)) (nomark _))))))))))), ?_⟩)
  obtain ⟨⟨c, ns, z⟩, hp, hv, q⟩ := h
  have hp : StepP c ns z := hp
  have hn := hp.nm
  obtain ⟨plan, p0, ps, hW, hW4, hpl, hF, htold, hP, hord, hsrt⟩ := hp.p
  have h3 := hn.l3
  have h60 := hn.l60
  have S0 := st (N := N_law_step_right) (Rs := [rCell c, rLstL rStr ns, rStr z]) hv
  refine q_asg (R := rInt (ns.length : Nat)) S0 (e_int (e_cb (a_cons (e_s S0) a_nil) cv_lnL) (by rw [List.length_map])) fun σ1 H1 e1 S1 => ?_
  refine q_asg (R := rTupL rCell (rowC c ns.length)) S1 (e_call (c, ns.length) (a_cons (e_s S1) (a_cons (e_s S1) a_nil)) (by show ns.length ≤ 1000; omega)) fun σ2 H2 e2 S2 => ?_
  refine q_asg (R := rTupL rPr plan) S2 (e_if (b := decide (z = "turn")) (t_test (e_op (e_s S2) e_c ov_eqS)) (fun hb => e_call (c, ns.length, plan) (a_cons (e_s S2) (a_cons (e_s S2) a_nil)) ⟨h3, by show ns.length ≤ 1000; omega, by
    unfold stepW at hW
    rw [if_pos (of_decide_eq_true hb)] at hW
    exact hW, hpl⟩) fun hb => e_call (c, ns.length, plan) (a_cons (e_s S2) (a_cons (e_s S2) a_nil)) ⟨h3, by show ns.length ≤ 1000; omega, by
    unfold stepW at hW
    rw [if_neg (of_decide_eq_false hb)] at hW
    exact hW, hpl⟩) fun σ3 H3 e3 S3 => ?_
  refine q_asg (R := rLstL rPr (stepW z c ns.length)) S3 (e_if (b := decide (z = "turn")) (t_test (e_op (e_s S3) e_c ov_eqS)) (fun hb => e_is (e_call (c, ns.length) (a_cons (e_s S3) (a_cons e_c a_nil)) ⟨by show 2 ≤ ns.length; omega, by show ns.length ≤ 1000; omega⟩) (by
    unfold stepW
    rw [if_pos (of_decide_eq_true hb)]) ) fun hb => e_is (e_call (c, ns.length) (a_cons (e_s S3) (a_cons (e_s S3) a_nil)) trivial) (by
    unfold stepW
    rw [if_neg (of_decide_eq_false hb)])) fun σ4 H4 e4 S4 => ?_
  refine qf (t_test (e_op (Rx := rTupL rPr plan) (Ry := rTupL rPr plan) (e_s S4) (e_call (rowC c ns.length, stepW z c ns.length, plan) (a_cons (e_s S4) (a_cons (e_s S4) a_nil)) ⟨hW4, hpl⟩) (ov_neSame (dat_tup (datA_map dat_pr plan)) (dat_tup (datA_map dat_pr plan)) (shp_prsT plan)))) fun H5 e5 => ?_
  have S5 := S4.up e5
  have hz1 : (ns.zip (rowC c ns.length)).map (·.1) = ns := List.map_fst_zip (by rw [rowC_len]; exact Nat.le_refl _)
  have hz2 : (ns.zip (rowC c ns.length)).map (·.2) = rowC c ns.length := List.map_snd_zip (by rw [rowC_len]; exact Nat.le_refl _)
  refine q_asg (R := rDNC ns (folC (rowC c ns.length) plan)) S5 (e_call (ns, rowC c ns.length, plan) (a_cons (R := rDNC ns (rowC c ns.length)) (e_newDN (e_is (e_dctP (ps := ns.zip (rowC c ns.length)) (a_cons (Rs := []) (e_lcA (ds := ns.zip (rowC c ns.length)) (f := rNC) (out := rNC) S5 (zip_nc _ _ ▸ i_zip (a_cons (e_sqL (e_s S5)) (a_cons (e_sqT (e_s S5)) a_nil))) (fun d _ => tg_two) (by
    rw [List.length_zip]
    omega) fun d _ σ' H' e' S' => e_tup (Rs := [rStr d.1, rCell d.2]) (a_cons (e_s S') (a_cons (e_s S') a_nil))) a_nil) (by rw [hz1]; exact hn.nd)) (by rw [hz1, hz2]))) (a_cons (e_s S5) a_nil)) ⟨hn.nd, by show ns.length = (rowC c ns.length).length; rw [rowC_len], by show ns.length ≤ 60; omega, hF⟩) fun σ6 H6 e6 S6 => ?_
  have hfl : ns.length = (folC (rowC c ns.length) plan).length := by rw [folC_len, rowC_len]
  refine qf (t_or (t_test (e_op (e_s S6) e_c (ov_isNo fun v H h z => by
    obtain ⟨a, us, h1, _⟩ := h
    rw [z] at h1
    cases h1))) fun _ => t_test (e_op (Rx := rTupL rStr (stepF ns z)) (Ry := rTupL rStr (stepF ns z)) (e_is (e_call (p0, ps) (a_cons (e_is (e_call (ns, folC (rowC c ns.length) plan) (a_cons (e_s S6) a_nil) ⟨hn.nd, hfl, by show ns.length ≤ 60; omega⟩) (by rw [htold])) a_nil) hP) hord) (e_cb (a_cons (e_new (e_callN (ns, z) (a_cons (e_s S6) (a_cons (e_s S6) a_nil)) ⟨by show 2 ≤ ns.length; omega, by show ns.length ≤ 1000; omega⟩)) a_nil) cv_tof)
    (ov_neSame (dat_tup (datA_map (fun z => dat_str) _)) (dat_tup (datA_map (fun z => dat_str) _)) (shp_strsT _ fun y hy => hn.so y (stepF_mem hy))))) fun H7 e7 => ?_
  have S7 := S6.up e7
  refine s_retB (e_op (Rx := rLstL rCell (rowC (c.1 + 1, c.2) ns.length)) (Ry := rLstL rCell (rowC (c.1 + 1, c.2) ns.length)) (e_is (e_cb (a_cons (e_cb (a_cons (e_valsN (e_s S7) hfl) a_nil) cv_valsL) a_nil) (cv_srtL dat_cell (sok_cells _ (by omega)))) (congrArg (rLstL rCell) hsrt)) (e_cb (a_cons (e_sqT (e_call ((c.1 + 1, c.2), ns.length) (a_cons (e_tup (Rs := [rInt (c.1 + 1), rInt c.2]) (a_cons (e_op (e_op (e_s S7) e_c (ov_ixT rfl)) e_c ov_I0) (a_cons (e_op (e_s S7) e_c (ov_ixT rfl)) a_nil))) (a_cons (e_s S7) a_nil)) (by show ns.length ≤ 1000; omega))) a_nil) cv_lof)
    (ov_eqSame (dat_lst (datA_map dat_cell _)) (dat_lst (datA_map dat_cell _)) (shp_cells _))) fun v H8 e8 hv => q v H8 (((((((e1.trans e2).trans e3).trans e4).trans e5).trans e6).trans e7).trans e8) hv
end
end Kx
set_option Elab.async false
set_option linter.all false
set_option maxRecDepth 100000
set_option maxHeartbeats 4000000
/-! D24: the law. -/
namespace Kx
open PySem L2 PyProof.Rows
def encNC (q : Str × Cell) : PyData := .tuple [.str q.1, encC q.2]
theorem dat_nc (q : Str × Cell) : Dat (rNC q) (encNC q) := dat_tup (datA_cons dat_str (datA_cons (dat_cell q.2) datA_nil))
theorem sok_nc (cs : List (Str × Cell)) (h : cs.length ≤ 100000) : SOk (cs.map encNC) := ⟨PySem.W.AllAlike.of fun _ _ => rfl, PySem.W.Sortable.tuples fun c => ⟨_, _, rfl⟩, by rw [List.length_map]; exact h, fun d hd => by
  obtain ⟨c, _, rfl⟩ := List.mem_map.mp hd
  simp [encNC, encC, PyData.depth, PyData.depthAll]⟩
def srtNC (qs : List (Str × Cell)) : List (Str × Cell) := qs.mergeSort (PySem.W.dataLe false encNC)
/-- the row, its last cell put elsewhere -/
def bentC (c : Cell) (ns : List Str) : List (Str × Cell) := (ns.zip (rowC c ns.length)).set (ns.length - 1) (ns.getD (ns.length - 1) "", (c.1 + (ns.length : Int) - 2, c.2 + 1))
/-- what the law rests on -/
structure LawH : Prop where
  nm : ∀ (ys : List Str) (n : Nat), List.Perm ys NS8 → 3 ≤ n → n ≤ 8 → NmP (ys.take n)
  srt : ∀ (ns ws : List Str), NmP ns → List.Perm ns ws → (sortF ws ns).1 = ws ∧ (sortF ws ns).2.length = ns.length * (ns.length - 1) ∧ (∀ z ∈ (sortF ws ns).2, z = "turn" ∨ z = "hold") ∧ (sortF ws ns).2.foldl stepF ns = ws
  step : ∀ (c : Cell) (ns : List Str) (z : Str), NmP ns → ns.length ≤ 8 → (z = "turn" ∨ z = "hold") → StepP c ns z
  bent : ∀ (c : Cell) (ns : List Str), NmP ns → ns.length ≤ 8 → ∃ p0 ps, srtNC (bentC c ns) = p0 :: ps ∧ PlP (p0 :: ps) ∧ ordR p0 ps = rNon
theorem NmP.perm {ns ws : List Str} (h : NmP ns) (p : List.Perm ws ns) : NmP ws := ⟨fun z hz => h.ok z (p.mem_iff.mp hz), fun z hz => h.so z (p.mem_iff.mp hz), p.nodup_iff.mpr h.nd, by rw [p.length_eq]; exact h.l3, by rw [p.length_eq]; exact h.l60⟩
theorem foldl_step_mem : ∀ (zs ns : List Str), ∀ y ∈ zs.foldl stepF ns, y ∈ ns
  | [], _, _, h => h
  | z :: zs, ns, y, h => stepF_mem (foldl_step_mem zs (stepF ns z) y h)
theorem ms_ncs {H0 : Hp} {cs : List (Str × Cell)} : ∀ R ∈ cs.map rNC, Ms H0 R := fun R hR => by
  obtain ⟨c, _, rfl⟩ := List.mem_map.mp hR
  infer_instance
section
variable {σ : L2.St} {H : Hp} {D : Ends} {ta tb te t1 t2 t3 t4 : TE} {tu tz : L2.TS} {pn : Pn} {b : Nat} {t : TA} {E : XK} {Q : VK} {K : PySem.W.Frag} {Γ : Gm} {Rs : List RP}
theorem exP {p : Addr} {H0 Hx Hy : Hp} (E : Ex H0 Hx) (hg : H0 p = none) (e : Ex (hide p Hx) Hy) : Ex H0 Hy := (ex_hide E hg).trans e
theorem q_asgU {j : Nat} (h : te σ H fun v H1 => tz D (σ.set j (some v)) H1) : tSeq (tAsg te (gName j)) tz D σ H := h
theorem u_call2 {sp : Sp} (h : ta σ H fun x H1 => tb σ H1 fun y H2 => sp [x, y] H2 Q E) : tCall sp [] E (tCons ta (tCons tb tNil)) σ H Q := h
theorem u_lst4 (h : t1 σ H fun x1 H1 => t2 σ H1 fun x2 H2 => t3 σ H2 fun x3 H3 => t4 σ H3 fun x4 H4 => [x1, x2, x3, x4].length ≤ sizeLine ∧ ∀ p, H4 p = none → Q (.ref p) (upd H4 p (.lst [x1, x2, x3, x4]))) : tLst (tCons t1 (tCons t2 (tCons t3 (tCons t4 tNil)))) σ H Q := h
theorem u_tup2 (h : t1 σ H fun x1 H1 => t2 σ H1 fun x2 H2 => [x1, x2].length ≤ sizeLine ∧ ∀ p, H2 p = none → Q (.ref p) (upd H2 p (.tup [x1, x2]))) : tTup (tCons t1 (tCons t2 tNil)) σ H Q := h
theorem u_set {to ti : TE} (h : te σ H fun x H1 => to σ H1 fun o H2 => ti σ H2 fun i H3 => rSetL o i x H3 fun H4 => tz D σ H4) : tSeq (tAsg te (gSub to ti rSetL)) tz D σ H := h
theorem e_lrev (h : Ev te σ H (rLst Rs)) : Ev (tListRev K te) σ H (rLst Rs.reverse) := fun H1 e Q q => h H1 e _ fun v H2 e2 ⟨a, xs, ev, ha, hx⟩ =>
  ⟨a, xs, ev, SqL.of ha, fun p hp => q _ _ (e2.trans (Evl.Ex.new hp)) ⟨p, _, rfl, upd_same, (AllP.rev hx).mono (Evl.Ex.new hp)⟩⟩
theorem e_lcAN {α : Type} {wi : TI} {g : TG} {vs : List Nat} {ds : List α} {f out : α → RP} {Γd : α → Gm} (s : Sl σ H Γ) (hi : EvI wi σ H (ds.map f)) (hg : ∀ d ∈ ds, Tg g vs (f d) (wp Γ vs) (Γd d)) (hz : ds.length ≤ 90000)
    (he : ∀ d ∈ ds, ∀ σ' H', Ex H H' → Sl σ' H' (Γd d) → Ev te σ' H' (out d)) (hm : ∀ H0 d, Ms H0 (out d) := by infer_instance) : Ev (tLc wi g tYes te vs) σ H (rNewL H (ds.map out)) := by
  intro H1 e Q q
  refine hi H1 e _ fun J H2 G Y e2 w hG hY Dl hD => ?_
  rw [List.length_map] at w
  refine lc_it w (fun i H' => Ex H2 H' ∧ ∃ acc, H' Dl = some (.lst acc) ∧ AllP ((ds.take i).map out) acc H') ⟨Evl.Ex.new hD, [], upd_same, trivial⟩ (fun i H' _ p => hG H' p.1) (fun i x H3 H4 hlt p y => ?_) fun H' p => ?_
  · obtain ⟨p1, acc, p2, p3⟩ := p
    have hd : ds[i]? = some ds[i] := List.getElem?_eq_getElem hlt
    have hmem : ds[i] ∈ ds := List.getElem_mem hlt
    have hfd : (ds.map f)[i]? = some (f ds[i]) := by rw [List.getElem?_map, hd]; rfl
    obtain ⟨e4, hx⟩ := hY i (f ds[i]) H3 x H4 hfd p1 y
    have e04 : Ex H H4 := ((e.trans e2).trans p1).trans e4
    refine (hg _ hmem).go x _ H4 _ hx ((s.up e04).wipe vs) wipe_wipe fun σ2 hw s2 => ⟨hw, ?_⟩
    refine t_yes H4 (exr H4) _ fun H5 e5 => ?_
    have e05 := e04.trans e5
    have acc5 : H5 Dl = some (.lst acc) := e5 _ _ (e4 _ _ p2)
    have e25 : Ex H2 H5 := (p1.trans e4).trans e5
    have lz : acc.length < 100000 := by
      have fl := p3.len
      rw [List.length_map, List.length_take] at fl
      omega
    rw [if_pos rfl]
    refine he _ hmem σ2 H5 e05 (s2.up e5) H5 (exr H5) _ fun v H6 e6 hv => ?_
    have acc6 := e6 _ _ acc5
    refine ⟨acc, acc6, Evl.sz_lt lz, Evl.Ex.mut (e25.trans e6) hD, acc ++ [v], upd_same, ?_⟩
    rw [take_s hlt, List.map_append]
    refine AllP.app (allP_ms acc6 nt_l hD (fun R hR => ?_) (p3.mono ((e4.trans e5).trans e6))) ⟨(hm H2 _).ms H6 Dl _ _ v acc6 nt_l hD hv, trivial⟩
    obtain ⟨d, _, rfl⟩ := List.mem_map.mp hR
    exact hm H2 d
  · obtain ⟨p1, acc, p2, p3⟩ := p
    rw [List.take_length] at p3
    exact q _ H' (e2.trans p1) ⟨Dl, acc, rfl, Evl.fresh_back (e.trans e2) hD, p2, p3⟩
theorem p_names {m : Nat} (h : EvA t σ H [rV (.ref pn.p), rInt (m : Nat)]) (hp : PenI pn b H) (hb : b ≤ 900000) : EvP (tCall spNames4 [] E t) σ H pn (b + 8) (fun v H' => ∃ ys, List.Perm ys NS8 ∧ (rLstL rStr (ys.take m)).p v H') := fun Q q =>
  c_call h fun vs H1 e hv => by
    obtain ⟨v, u, rfl, h1, h2⟩ := hv.two
    have h1 : v = .ref pn.p := h1
    have h2 : u = .int (m : Nat) := h2
    subst h1 h2
    exact ⟨pn, b, m, rfl, hp.up e, hb, fun r H' ys e' hp' pm hr => q _ H' (hide_up e e') hp' ⟨ys, pm, hr⟩⟩
theorem p_big (h : EvA t σ H [rV (.ref pn.p), rInt 9]) (hp : PenI pn b H) (hb : b ≤ 900000) : EvP (tCall spBig [] E t) σ H pn (b + 4) (fun v _ => ∃ r : Int, v = .int r ∧ 0 ≤ r ∧ r < 1000000000) := fun Q q =>
  c_call h fun vs H1 e hv => by
    obtain ⟨v, u, rfl, h1, h2⟩ := hv.two
    have h1 : v = .ref pn.p := h1
    have h2 : u = .int 9 := h2
    subst h1 h2
    exact ⟨pn, b, rfl, hp.up e, hb, fun r H' e' hp' h0 h9 => q _ H' (hide_up e e') hp' ⟨r, rfl, h0, h9⟩⟩
/-- a column or a row -/
theorem p_coord (s : Sl σ H Γ) (hi : Γ[1]? = some (some (rV (.ref pn.p)))) [MkG (hide pn.p H) Γ] (hp : PenI pn b H) (hb : b ≤ 800000) :
    EvP (tOp (rI CMulW fun i j => V.int (i * j)) (tCall spBig [] E0 (tCons (tVar 1) (tCons (tC (.int 9)) tNil))) (tCall spPick [] E0 (tCons (tVar 1) (tCons (tLst (tCons (tC (.int 1)) (tCons (tUn (rU fun i => V.int (-i)) (tC (.int 1))) tNil))) tNil)))) σ H pn (b + 5) (fun v _ => ∃ x : Int, v = .int x) := fun Q q =>
  op_u (p_big (a_cons (e_s s hi) (a_cons e_c a_nil)) hp (by omega) _ fun v H1 e1 hp1 ⟨r, hv, r0, r9⟩ => by
    subst hv
    obtain ⟨k1, hk1⟩ := hp.dk
    obtain ⟨k2, hk2⟩ := hp1.dk
    have s1 := s.go (H0 := hide pn.p H) hk1 hide_self e1 hk2
    refine p_pick (Rs := ([1, -1] : List Int).map rInt) (a_cons (e_s s1 hi) (a_cons (e_lst (Rs := ([1, -1] : List Int).map rInt) (a_cons e_c (a_cons (e_un e_c (uv_neg (i := 1))) a_nil))) a_nil)) hp1 (by omega) (by decide) (by decide) (fun _ => inferInstance) _ fun v2 H2 e2 hp2 hr2 => ?_
    obtain ⟨R, hR, hv2⟩ := hr2
    obtain ⟨i, hi2, rfl⟩ := List.mem_map.mp hR
    have hv2 : v2 = .int i := hv2
    subst hv2
    have hi2 : i = 1 ∨ i = -1 := by simpa using hi2
    exact ⟨r, i, rfl, rfl, cmw (by omega) (by rcases hi2 with rfl | rfl <;> decide), q _ H2 (hide_tr e1 e2) hp2 ⟨r * i, rfl⟩⟩)
/-- [.. for .. in range(..)], texts, the pen moves -/
theorem p_lc {N j : Nat} (hN : N ≤ 1000) (hb : EvP tb σ H pn b (fun v _ => ∃ n : Nat, v = .int (n : Nat) ∧ n ≤ N)) (Pz : Str → Prop) (s : Sl σ H Γ) [MkG (hide pn.p H) Γ] (h0 : PenI pn b H)
    (he : ∀ (i : Nat) σ' H', i < N → PenI pn (b + i) H' → Sl σ' H' ((wp Γ [j]).set j (some (rInt (i : Nat)))) → EvP te σ' H' pn (b + i + 1) (fun v _ => ∃ z, v = .str z ∧ Pz z)) :
    EvP (tLc (iRng1 (tCons tb tNil)) (gName j) tYes te [j]) σ H pn (b + N) (fun v H' => ∃ zs : List Str, zs.length ≤ N ∧ (∀ z ∈ zs, Pz z) ∧ (rLstL rStr zs).p v H') := fun Q q => hb _ fun v H1 e hp ⟨n, ev, hn⟩ => by
  subst ev
  refine ⟨(n : Nat), rfl, by omega, by omega, fun Dl hD => ?_⟩
  have nD := hp.ne hD
  obtain ⟨k0, hk0⟩ := h0.dk
  refine lc_it (walk_range (lo := 0) (n := n)) (fun i H' => Ex (hide pn.p H) H' ∧ PenI pn (b + i) H' ∧ H' Dl ≠ none ∧ ∃ zs : List Str, zs.length = i ∧ (∀ z ∈ zs, Pz z) ∧ H' Dl = some (.lst (zs.map V.str))) ⟨Evl.Ex.mut e (Evl.fresh_back e hD), hp.mut nD.1 nD.2, by rw [upd_same]; exact nofun, [], rfl, nofun, upd_same⟩ (fun _ _ _ _ => trivial) (fun i x H3 H4 hlt p y => ?_) fun H' p => ?_
  · obtain ⟨p1, p2, p3, zs, p4, p5, p6⟩ := p
    obtain ⟨y1, y2⟩ := y
    have y2 : x = .int (0 + (i : Nat)) := y2
    rw [Int.zero_add] at y2
    subst y1 y2
    obtain ⟨k3, hk3⟩ := p2.dk
    have s3 := ((s.go (H0 := hide pn.p H) hk0 hide_self p1 hk3).wipe [j]).set (j := j) (R := rInt (i : Nat)) (v := .int (i : Nat)) rfl
    refine ⟨wipe_same (List.mem_singleton.mpr rfl) |>.trans wipe_wipe, ?_⟩
    refine t_yes H4 (exr H4) _ fun H5 e5 => ?_
    rw [if_pos rfl]
    refine he i _ H5 (Nat.lt_of_lt_of_le hlt hn) (p2.up e5) (s3.up e5) _ fun v6 H6 e6 hp6 ⟨z, hv6, hz⟩ => ?_
    subst hv6
    have nd : Dl ≠ pn.p := Ne.symm nD.1
    have p66 : H6 Dl = some (.lst (zs.map V.str)) := hide_at e6 (e5 _ _ p6) nd
    have hHD : hide pn.p H Dl = none := by
      have := Evl.fresh_back e hD
      exact this
    refine ⟨zs.map V.str, p66, by rw [List.length_map]; exact Evl.sz_lt (by omega), Evl.Ex.mut (hide_tr (p1.trans e5) e6) hHD, hp6.mut nD.1 nD.2, by rw [upd_same]; exact nofun, zs ++ [z], by rw [List.length_append, p4]; rfl, fun y hy => ?_, by rw [upd_same, List.map_append]; rfl⟩
    rcases List.mem_append.mp hy with hy | hy
    · exact p5 y hy
    · rw [List.mem_singleton.mp hy]
      exact hz
  · obtain ⟨p1, p2, p3, zs, p4, p5, p6⟩ := p
    refine q _ H' p1 (p2.le (by omega)) ⟨zs, by omega, p5, Dl, _, rfl, p6, ?_⟩
    have := AllP.of_vals (H := H') (xs := zs.map V.str)
    rwa [List.map_map] at this
end
section
variable {P : Program} {w : World} {K : PySem.W.Frag} {mg : Str → Option Value} {base : Heap} {tS tG : Tok} {aT aW : Addr} {f : Addr} {fd : FuncData}
def spLaw (K : PySem.W.Frag) : Sp := fun vs H Q _ => ∃ (sc : List Int), sc.length ≤ 1000 ∧ AllP [rSq K false (sc.map rInt)] vs H ∧ ∀ H', Ex H H' → Q (.bl true) H'
abbrev N_law : List Str := ["_law_script", "_law_pen_here", "_law_n", "_law_order", "_law_wished", "_law_steps", "_law_end", "_law_some", "_law_now", "_law_step", "_law_first", "_law_bent", "_law_lap", "_law_name", "_law_cell"]
theorem sc_law : FnScope N_law ["_law_script"] (defScope (top 73)) := ⟨rfl, rfl, rfl, by decide +kernel, rfl, by decide +kernel, by decide +kernel⟩
theorem ok_law (L : LawH) (F : Fun K "law" "law" (top 73) f fd) (T : Txt K mg tS tG aT aW) (G_law_pen : Cl P w K mg base 1 "_law_pen" (spPen K)) (G_law_draw : Cl P w K mg base 1 "_law_draw" spDraw) (G_law_t4names : Cl P w K mg base 3 "_law_t4names" spNames4) (G_law_pick : Cl P w K mg base 2 "_law_pick" spPick) (G_law_shuffled : Cl P w K mg base 2 "_law_shuffled" spShuf)
    (G_law_t4passes : Cl P w K mg base 2 "_law_t4passes" spPasses) (GsortingT : Cl P w K mg base 4 "sorting" (spSorting true)) (GsortingL : Cl P w K mg base 4 "sorting" (spSorting false)) (G_law_t4stepped : Cl P w K mg base 1 "_law_t4stepped" spStep4) (Gorder_behindL : Cl P w K mg base 4 "order_behind" (spBehind false false)) (Gorder_behindT : Cl P w K mg base 4 "order_behind" (spBehind true true))
    (G_law_big : Cl P w K mg base 3 "_law_big" spBig) (G_law_step_right : Cl P w K mg base 15 "_law_step_right" spStepR) (G_law_t4row : Cl P w K mg base 1 "_law_t4row" spRow4) (Gorder_of : Cl P w K mg base 10 "order_of" spOrd) : FnOk P w K mg base CX0 16 f fd ["_law_script"] (spLaw K) := by
  refine F.ok sc_law (fun vs H Q E h => ?_) (fun cdv A outer s H vs Q E hr h => ⟨_, (pss_cons (ps_set (i := 1) sc_law.nd rfl (Or.inr rfl) (pe_cl G_law_pen (hr.mono (by decide)) (by rfl) (pa_cons (pv 0) pa_nil))) (pss_cons (ps_set (i := 2) sc_law.nd rfl (Or.inl rfl) (pe_op op_add pe_int (pe_cl G_law_draw (hr.mono (by decide)) (by rfl) (pa_cons (pv 1) (pa_cons pe_int pa_nil))))) (pss_cons (ps_set (i := 3) sc_law.nd rfl (Or.inl rfl) (pe_cl G_law_t4names (hr.mono (by decide)) (by rfl) (pa_cons (pv 1) (pa_cons (pv 2) pa_nil)))) (pss_cons (ps_set (i := 4) sc_law.nd rfl (Or.inl rfl) (pe_cl G_law_pick (hr.mono (by decide)) (by rfl) (pa_cons (pv 1) (pa_cons (pe_lst (pa_cons (pe_cl G_law_shuffled (hr.mono (by decide)) (by rfl) (pa_cons (pv 1) (pa_cons (pv 3) pa_nil))) (pa_cons (pe_cl G_law_shuffled (hr.mono (by decide)) (by rfl) (pa_cons (pv 1) (pa_cons (pv 3) pa_nil))) (pa_cons (pe_callTy cr_lof (by rfl) T.list b_list (pa_cons (pv 3) pa_nil)) (pa_cons (pe_listRev (by rfl) (by rfl) T.list (by rfl) T.reversed (pv 3)) pa_nil))))) pa_nil)))) (pss_cons (ps_asg (pe_cl G_law_t4passes (hr.mono (by decide)) (by rfl) (pa_cons (pv 3) (pa_cons (pv 4) pa_nil))) (pg_tup rfl (pgs_cons (pg_name (i := 5) sc_law.nd rfl (Or.inl rfl)) (pgs_cons (pg_name (i := 6) sc_law.nd rfl (Or.inl rfl)) pgs_nil)))) (pss_cons (ps_if (PW.pt (pw_or (pt_cmpR (neDK (K := K) hr.units) (pv 6) (pv 4) (nomark _)) (pw_or (pt_cmpR (neDK (K := K) hr.units) (pe_cl GsortingT (hr.mono (by decide)) (by rfl) (pa_cons (pe_callTy cr_tof (by rfl) T.tuple b_tuple (pa_cons (pv 3) pa_nil)) (pa_cons (pe_callTy cr_lof (by rfl) T.list b_list (pa_cons (pv 4) pa_nil)) pa_nil))) (pe_callTy cr_tof (by rfl) T.tuple b_tuple (pa_cons (pv 5) pa_nil)) (nomark _)) (pw_or1 (pt_cmpR op_ne (pe_callB cr_ln (by rfl) T.len b_len (pa_cons (pv 5) pa_nil)) (pe_op op_mulW (pv 2) (pe_op op_sub (pv 2) pe_int)) (nomark _)))))) (pss_one (ps_ret pe_bl)) pss_nil) (pss_cons (ps_setLc (i := 7) (own := [("_law_lap", 12)]) (g := (gName 12)) (tt := tYes) (by rfl) sc_law.nd rfl rfl (sw_true rfl rfl rfl (by decide +kernel)) (pi_range1 (by rfl) T.range (pa_cons (pe_cl G_law_draw (hr.mono (by decide)) (by rfl) (pa_cons (pv 1) (pa_cons pe_int pa_nil))) pa_nil)) (blkOk_by (N := N_law) (sc := defScope (top 73)) (own := [("_law_lap", 12)]) (by decide +kernel)) (fun _ _ _ _ _ => (pg_name (i := 12) sc_law.nd rfl (Or.inl rfl))) (fun _ _ _ _ _ => pts_nil) (fun _ _ _ _ _ => (pe_cl G_law_pick (hr.mono (by decide)) (by rfl) (pa_cons (pv 1) (pa_cons (pe_lst (pa_cons pe_str (pa_cons pe_str pa_nil))) pa_nil))))) (pss_cons (ps_set (i := 8) sc_law.nd rfl (Or.inl rfl) (pe_callTy cr_lof (by rfl) T.list b_list (pa_cons (pv 3) pa_nil))) (pss_cons (ps_for PassesOwn.never rfl (pi_seq (pv 7)) (pg_name (i := 9) sc_law.nd rfl (Or.inl rfl)) (pss_one (ps_set (i := 8) sc_law.nd rfl (Or.inl rfl) (pe_cl G_law_t4stepped (hr.mono (by decide)) (by rfl) (pa_cons (pv 8) (pa_cons (pv 9) pa_nil)))))) (pss_cons (ps_if (PW.pt (pw_or (pt_cmpR (neDK (K := K) hr.units) (pe_cl Gorder_behindL (hr.mono (by decide)) (by rfl) (pa_cons (pv 3) (pa_cons (pv 7) pa_nil))) (pe_callTy cr_tof (by rfl) T.tuple b_tuple (pa_cons (pv 8) pa_nil)) (nomark _)) (pw_or1 (pt_cmpR (neDK (K := K) hr.units) (pe_cl Gorder_behindT (hr.mono (by decide)) (by rfl) (pa_cons (pe_callTy cr_tof (by rfl) T.tuple b_tuple (pa_cons (pv 3) pa_nil)) (pa_cons (pe_cl GsortingL (hr.mono (by decide)) (by rfl) (pa_cons (pv 3) (pa_cons (pv 4) pa_nil))) pa_nil))) (pe_callTy cr_tof (by rfl) T.tuple b_tuple (pa_cons (pv 4) pa_nil)) (nomark _))))) (pss_one (ps_ret pe_bl)) pss_nil) (pss_cons (ps_set (i := 10) sc_law.nd rfl (Or.inl rfl) (pe_tup (pa_cons (pe_op op_mulW (pe_cl G_law_big (hr.mono (by decide)) (by rfl) (pa_cons (pv 1) (pa_cons pe_int pa_nil))) (pe_cl G_law_pick (hr.mono (by decide)) (by rfl) (pa_cons (pv 1) (pa_cons (pe_lst (pa_cons pe_int (pa_cons (pe_un un_neg pe_int) pa_nil))) pa_nil)))) (pa_cons (pe_op op_mulW (pe_cl G_law_big (hr.mono (by decide)) (by rfl) (pa_cons (pv 1) (pa_cons pe_int pa_nil))) (pe_cl G_law_pick (hr.mono (by decide)) (by rfl) (pa_cons (pv 1) (pa_cons (pe_lst (pa_cons pe_int (pa_cons (pe_un un_neg pe_int) pa_nil))) pa_nil)))) pa_nil)))) (pss_cons (ps_if (PW.pt (pw_or (pt_not (pt_val (pe_cl G_law_step_right (hr.mono (by decide)) (by rfl) (pa_cons (pv 10) (pa_cons (pv 3) (pa_cons pe_str pa_nil)))))) (pw_or1 (pt_not (pt_val (pe_cl G_law_step_right (hr.mono (by decide)) (by rfl) (pa_cons (pv 10) (pa_cons (pv 3) (pa_cons pe_str pa_nil))))))))) (pss_one (ps_ret pe_bl)) pss_nil) (pss_cons (ps_setLc (i := 11) (own := [("_law_name", 13), ("_law_cell", 14)]) (g := (gTup K 2 (gCons (gName 13) (gCons (gName 14) gNil)))) (tt := tYes) (by rfl) sc_law.nd rfl rfl (sw_true rfl rfl rfl (by decide +kernel)) (pi_zipB (by rfl) T.zip (pa_cons (pv 3) (pa_cons (pe_cl G_law_t4row (hr.mono (by decide)) (by rfl) (pa_cons (pv 10) (pa_cons (pv 2) pa_nil))) pa_nil))) (blkOk_by (N := N_law) (sc := defScope (top 73)) (own := [("_law_name", 13), ("_law_cell", 14)]) (by decide +kernel)) (fun _ _ _ _ _ => (pg_tup rfl (pgs_cons (pg_name (i := 13) sc_law.nd rfl (Or.inl rfl)) (pgs_cons (pg_name (i := 14) sc_law.nd rfl (Or.inl rfl)) pgs_nil)))) (fun _ _ _ _ _ => pts_nil) (fun _ _ _ _ _ => (pe_tup (pa_cons (pv 13) (pa_cons (pv 14) pa_nil))))) (pss_cons (ps_asg (pe_tup (pa_cons (pe_ix (ixK (K := K)) (pe_ix (ixK (K := K)) (pv 11) (pe_op op_sub (pv 2) pe_int) (fun _ _ => rfl)) pe_int (fun _ _ => rfl)) (pa_cons (pe_tup (pa_cons (pe_op op_sub (pe_op op_add (pe_ix (ixK (K := K)) (pv 10) pe_int (fun _ _ => rfl)) (pv 2)) pe_int) (pa_cons (pe_op op_add (pe_ix (ixK (K := K)) (pv 10) pe_int (fun _ _ => rfl)) pe_int) pa_nil))) pa_nil))) (pg_sub (pv 11) (pe_op op_sub (pv 2) pe_int) set_list)) (pss_one (ps_ret (pe_cmpR op_isNn (pe_cl Gorder_of (hr.mono (by decide)) (by rfl) (pa_cons (pe_callTy cr_tof (by rfl) T.tuple b_tuple (pa_cons (pe_callB (cr_srt hr.units) (by rfl) T.sorted b_sorted (pa_cons (pv 11) pa_nil)) pa_nil)) pa_nil)) pe_non (nomark _)))))))))))))))))), ?_⟩)
  · obtain ⟨_, _, hv, _⟩ := h
    exact hv.len
  obtain ⟨sc, hl, hv, q⟩ := h
  have S0 := st (N := N_law) (Rs := [rSq K false (sc.map rInt)]) hv
  -- the pen
  refine q_asgU (c_call (a_cons (e_s S0) a_nil) fun vs1 H1 e1 hv1 => ⟨sc, hl, hv1, fun g H2 e2 hg0 hp2 => ?_⟩)
  obtain ⟨vs, rfl, hsc⟩ := hv1.one
  have E2 : Ex H H2 := e1.trans e2
  have hg : H g.p = none := Evl.fresh_back e1 hg0
  have S2 : Sl _ H2 [none, some (rV (.ref g.p)), none, none, none, none, none, none, none, none, none, none, none, none, none] := ((S0.up E2).set (j := 1) (R := rV (.ref g.p)) (v := .ref g.p) rfl).forget (i := 0)
  -- n
  refine q_asgP (p_add (i := 3) e_c fun H3 e3 => p_draw (a_cons (e_s (S2.up e3)) (a_cons e_c a_nil)) (hp2.up e3) (by decide) (m := 6) (by decide) (by decide)) fun v3 H3 e3 hp3 ⟨r, hv3, r0, r6⟩ => ?_
  obtain ⟨rn, rfl⟩ := Int.eq_ofNat_of_zero_le r0
  obtain ⟨n, hn⟩ : ∃ n : Nat, n = 3 + rn := ⟨_, rfl⟩
  have n3 : 3 ≤ n := by omega
  have n8 : n ≤ 8 := by omega
  have hv3 : v3 = .int (n : Nat) := by
    rw [hv3]
    congr 1
    omega
  subst hv3
  have E3 : Ex H H3 := (ex_hide E2 hg).trans e3
  obtain ⟨k2, hk2⟩ := hp2.dk
  obtain ⟨k3, hk3⟩ := hp3.dk
  have S3 : Sl _ H3 [none, some (rV (.ref g.p)), some (rInt (n : Nat)), none, none, none, none, none, none, none, none, none, none, none, none] := (S2.go (H0 := hide g.p H2) hk2 hide_self e3 hk3).set (j := 2) (R := rInt (n : Nat)) rfl
  -- order
  refine q_asgP (p_names (m := n) (a_cons (e_s S3) (a_cons (e_s S3) a_nil)) hp3 (by decide)) fun v4 H4 e4 hp4 ⟨ys, pm, hv4⟩ => ?_
  have hnm : NmP (ys.take n) := L.nm ys n pm n3 n8
  have hlen : (ys.take n).length = n := by
    rw [List.length_take, pm.length_eq]
    exact Nat.min_eq_left n8
  generalize ys.take n = ns at hv4 hnm hlen
  have E4 : Ex H H4 := (ex_hide E3 hg).trans e4
  obtain ⟨k4, hk4⟩ := hp4.dk
  have S4 : Sl _ H4 [none, some (rV (.ref g.p)), some (rInt (n : Nat)), some (rLstL rStr ns), none, none, none, none, none, none, none, none, none, none, none] := (S3.go (H0 := hide g.p H3) hk3 hide_self e4 hk4).set (j := 3) (R := rLstL rStr ns) hv4
  -- wished
  refine q_asgU (u_call2 ((e_s S4 : Ev (tVar 1) _ H4 (rV (.ref g.p))) H4 (exr H4) _ fun v5 H5 e5 hv5 => u_lst4 ?_))
  have hv5 : v5 = .ref g.p := hv5
  subst hv5
  have S5 := S4.up e5
  refine p_shuf (zs := ns) (a_cons (e_s S5) (a_cons (e_s S5) a_nil)) (hp4.up e5) (by decide) (by omega) (by omega) _ fun w1 H6 e6 hp6 ⟨y1, pm1, hw1⟩ => ?_
  obtain ⟨k6, hk6⟩ := hp6.dk
  have S6 := S5.go (H0 := hide g.p H5) (e5 _ _ hk4) hide_self e6 hk6
  refine p_shuf (zs := ns) (a_cons (e_s S6) (a_cons (e_s S6) a_nil)) hp6 (by omega) (by omega) (by omega) _ fun w2 H7 e7 hp7 ⟨y2, pm2, hw2⟩ => ?_
  obtain ⟨k7, hk7⟩ := hp7.dk
  have S7 := S6.go (H0 := hide g.p H6) hk6 hide_self e7 hk7
  have hw17 : (rLstL rStr y1).p w1 H7 := Mk.go (R := rLstL rStr y1) (H0 := hide g.p H6) hk6 hide_self e7 hk7 hw1
  refine (e_cb (a_cons (e_sqL (e_s S7)) a_nil) cv_lof : Ev (tCB (rLof K) (tCons (tVar 3) tNil)) _ H7 (rLstL rStr ns)) H7 (exr H7) _ fun w3 H8 e8 hw3 => ?_
  refine (e_lrev (e_s (S7.up e8)) : Ev (tListRev K (tVar 3)) _ H8 (rLst (ns.map rStr).reverse)) H8 (exr H8) _ fun w4 H9 e9 hw4 => ?_
  refine ⟨Evl.sz_of (by show 4 ≤ 100000; decide), fun p hp9 => ?_⟩
  have E9 := e8.trans e9
  have eN := Evl.Ex.new (o := .lst [w1, w2, w3, w4]) hp9
  have hl4 : (rLst [rLstL rStr y1, rLstL rStr y2, rLstL rStr ns, rLst (ns.map rStr).reverse]).p (.ref p) (upd H9 p (.lst [w1, w2, w3, w4])) := ⟨p, _, rfl, upd_same, (rLstL rStr y1).mono (E9.trans eN) hw17, (rLstL rStr y2).mono (E9.trans eN) hw2, (rLstL rStr ns).mono (e9.trans eN) hw3, (rLst (ns.map rStr).reverse).mono eN hw4, trivial⟩
  have hp10 := hp7.up (E9.trans eN)
  have S10 := S7.up (E9.trans eN)
  have E7 : Ex H H7 := exP (exP (E4.trans e5) hg e6) hg e7
  have E10 : Ex H (upd H9 p (.lst [w1, w2, w3, w4])) := E7.trans (E9.trans eN)
  have hmk : MkL (hide g.p (upd H9 p (.lst [w1, w2, w3, w4]))) [rLstL rStr y1, rLstL rStr y2, rLstL rStr ns, rLst (ns.map rStr).reverse] := by
    rw [← List.map_reverse]
    infer_instance
  generalize upd H9 p (.lst [w1, w2, w3, w4]) = H10 at hl4 hp10 S10 E10 hmk ⊢
  refine ⟨g, .ref p, _, [rLstL rStr y1, rLstL rStr y2, rLstL rStr ns, rLst (ns.map rStr).reverse], rfl, hp10, by omega, Nat.succ_pos _, Nat.le_of_ble_eq_true rfl, hl4, hmk.ms, fun v11 H11 e11 hp11 hr11 => ?_⟩
  obtain ⟨ws, pmw, hv11⟩ : ∃ ws, List.Perm ws ns ∧ (rLstL rStr ws).p v11 H11 := by
    obtain ⟨R, hR, hv⟩ := hr11
    rw [← List.map_reverse] at hR
    rcases List.mem_cons.mp hR with rfl | hR
    · exact ⟨y1, pm1, hv⟩
    rcases List.mem_cons.mp hR with rfl | hR
    · exact ⟨y2, pm2, hv⟩
    rcases List.mem_cons.mp hR with rfl | hR
    · exact ⟨ns, .refl _, hv⟩
    · rw [List.mem_singleton.mp hR] at hv
      exact ⟨ns.reverse, List.reverse_perm ns, hv⟩
  have hnw : NmP ws := hnm.perm pmw
  have hwl : ws.length = n := by rw [pmw.length_eq, hlen]
  obtain ⟨k10, hk10⟩ := hp10.dk
  obtain ⟨k11, hk11⟩ := hp11.dk
  have E11 : Ex H H11 := exP E10 hg e11
  have S11 : Sl _ H11 [none, some (rV (.ref g.p)), some (rInt (n : Nat)), some (rLstL rStr ns), some (rLstL rStr ws), none, none, none, none, none, none, none, none, none, none] := (S10.go (H0 := hide g.p H10) hk10 hide_self e11 hk11).set (j := 4) (R := rLstL rStr ws) hv11
  obtain ⟨hs1, hs2, hs3, hs4⟩ := L.srt ns ws hnm pmw.symm
  clear hl4 hmk S10 S7 S6 S5 S4 hw17 hw1 hw2 hw3 hw4
  -- steps, end
  refine q_unp2 (R := rLstL rStr (sortF ws ns).2) (S := rLstL rStr ws) S11 (e_is (e_call (ns, ws) (a_cons (e_s S11) (a_cons (e_s S11) a_nil)) ⟨hnm, hnw, pmw.symm⟩) (by
    show rTup [rLstL rStr (sortF ws ns).2, rLstL rStr (sortF ws ns).1] = _
    rw [hs1])) fun σ12 H12 e12 S12 => ?_
  generalize hst : (sortF ws ns).2 = st at hs2 hs3 hs4 S12
  have dL : ∀ zs : List Str, Dat (rLstL rStr zs) (.list (zs.map PyData.str)) := fun zs => dat_lst (datA_map (fun z => dat_str) zs)
  have dT : ∀ zs : List Str, Dat (rTupL rStr zs) (.tuple (zs.map PyData.str)) := fun zs => dat_tup (datA_map (fun z => dat_str) zs)
  have sst : ∀ z ∈ st, PyData.canLay0 (.str z) = true := fun z hz => by
    rcases hs3 z hz with rfl | rfl
    · decide +kernel
    · decide +kernel
  refine qf (t_or (t_test (e_op (e_s S12) (e_s S12) (ov_neSame (dL ws) (dL ws) (shp_strs ws hnw.so)))) fun _ => t_or (t_test (e_op (Rx := rTupL rStr st) (Ry := rTupL rStr st) (e_is (e_call (ns, ws) (a_cons (e_cb (a_cons (e_s S12) a_nil) cv_tof) (a_cons (e_cb (a_cons (e_sqL (e_s S12)) a_nil) cv_lof) a_nil)) ⟨hnm, hnw, pmw.symm⟩) (by show rTupL rStr (sortF ws ns).2 = _; rw [hst])) (e_cb (a_cons (e_s S12) a_nil) cv_tof) (ov_neSame (dT st) (dT st) (shp_strsT st sst)))) fun _ =>
    t_test (e_op (e_int (e_cb (a_cons (e_s S12) a_nil) cv_lnL) (show (((st.map rStr).length : Nat) : Int) = (n : Int) * ((n : Int) - 1) by
      rw [List.length_map, hs2, hlen, Int.natCast_mul]
      congr 1
      omega)) (e_op (e_s S12) (e_op (e_s S12) e_c ov_I0) (ov_I (cmw (by omega) (by omega)))) ov_neI)) (fun H13 e13 => ?_) (by
      rw [decide_eq_true rfl]
      rfl)
  have S13 := S12.up e13
  have hp13 := hp11.up (e12.trans e13)
  have E13 : Ex H H13 := E11.trans (e12.trans e13)
  -- some
  refine q_asgP (p_lc (N := 11) (by decide) (Pz := fun z => z = "turn" ∨ z = "hold") (pn := g) (fun Q q => p_draw (m := 12) (a_cons (e_s S13) (a_cons e_c a_nil)) hp13 (by omega) (by decide) (by decide) Q fun v H' e hp ⟨r, hr, r0, r1⟩ => q v H' e hp ⟨r.toNat, by rw [hr]; congr 1; omega, by omega⟩) S13 (hp13.le (Nat.le_succ _)) fun i σ' H' hi hp' S' => fun Q q =>
    p_pick (Rs := ([("turn" : Str), ("hold" : Str)]).map rStr) (a_cons (e_s S') (a_cons (e_lst (Rs := ([("turn" : Str), ("hold" : Str)]).map rStr) (a_cons e_c (a_cons e_c a_nil))) a_nil)) hp' (by omega) (by decide) (by decide) (fun _ => inferInstance) Q fun v H2 e2 hp2 hr2 => q v H2 e2 hp2 (by
      obtain ⟨R, hR, hv⟩ := hr2
      obtain ⟨z, hz, rfl⟩ := List.mem_map.mp hR
      exact ⟨z, hv, by simpa using hz⟩)) fun v14 H14 e14 hp14 ⟨zs, hzl, hzs, hv14⟩ => ?_
  obtain ⟨k13, hk13⟩ := hp13.dk
  obtain ⟨k14, hk14⟩ := hp14.dk
  have E14 : Ex H H14 := exP E13 hg e14
  have S14 : Sl _ H14 [none, some (rV (.ref g.p)), some (rInt (n : Nat)), some (rLstL rStr ns), some (rLstL rStr ws), none, none, some (rLstL rStr zs), none, none, none, none, none, none, none] := (((S13.go (H0 := hide g.p H13) hk13 hide_self e14 hk14).set (j := 7) (R := rLstL rStr zs) hv14).forget (i := 5)).forget (i := 6)
  -- now
  refine q_asg (R := rLstL rStr ns) S14 (e_cb (a_cons (e_sqL (e_s S14)) a_nil) cv_lof) fun σ15 H15 e15 S15 => ?_
  refine q_forQ (k := false) (Rs := zs.map rStr) (e_sqL (e_s S15)) (fun a xs i σ' H' => (SqB K false H' a xs ∧ AllP (zs.map rStr) xs H') ∧ Ex H14 H' ∧ Sl σ' H' [none, some (rV (.ref g.p)), some (rInt (n : Nat)), some (rLstL rStr ns), some (rLstL rStr ws), none, none, some (rLstL rStr zs), some (rLstL rStr ((zs.take i).foldl stepF ns)), none, none, none, none, none, none])
    (fun a xs H16 e16 hq hx => ⟨⟨hq, hx⟩, e15.trans e16, S15.up e16⟩) (fun a xs i σ' H' h => h.1.1) ?_ ?_
  · rintro a xs i x σ4 H4 hi hx ⟨⟨hq, hx4⟩, E4, S4⟩
    have hi' : i < zs.length := by simpa using hi
    have rx : (rStr zs[i]).p x H4 := by
      obtain ⟨R, r1, r2⟩ := hx4.get' hx
      rw [List.getElem?_map, List.getElem?_eq_getElem hi'] at r1
      cases r1
      exact r2
    rw [take_s hi', List.foldl_append]
    have hfl : ((zs.take i).foldl stepF ns).length = n := by rw [foldl_step_len, hlen]
    refine g_name S4 rx fun σ5 S5 => ?_
    exact s_asg (R := rLstL rStr (stepF ((zs.take i).foldl stepF ns) zs[i])) (e_new (e_callN ((zs.take i).foldl stepF ns, zs[i]) (a_cons (e_s S5) (a_cons (e_s S5) a_nil)) ⟨by
      show 2 ≤ ((zs.take i).foldl stepF ns).length
      omega, by
      show ((zs.take i).foldl stepF ns).length ≤ 1000
      omega⟩)) fun v H6 e6 r6 => ⟨⟨hq.up e6, hx4.mono e6⟩, E4.trans e6, ((S5.up e6).set (j := 8) r6).forget (i := 9)⟩
  rintro a xs σ16 H16 ⟨_, E16, S16⟩
  have ez : zs.take (zs.map rStr).length = zs := by rw [List.length_map, List.take_length]
  rw [ez] at S16
  have hmem : ∀ y ∈ zs.foldl stepF ns, y ∈ ns := foldl_step_mem zs ns
  refine qf (t_or (t_test (e_op (Rx := rTupL rStr (zs.foldl stepF ns)) (Ry := rTupL rStr (zs.foldl stepF ns)) (e_call (ns, zs) (a_cons (e_s S16) (a_cons (e_s S16) a_nil)) ⟨hnm, hzs, by show zs.length ≤ 5000; omega⟩) (e_cb (a_cons (e_s S16) a_nil) cv_tof) (ov_neSame (dT _) (dT _) (shp_strsT _ fun y hy => hnm.so y (hmem y hy))))) fun _ =>
    t_test (e_op (Rx := rTupL rStr ws) (Ry := rTupL rStr ws) (e_is (e_call (ns, st) (a_cons (e_cb (a_cons (e_s S16) a_nil) cv_tof) (a_cons (e_is (e_call (ns, ws) (a_cons (e_s S16) (a_cons (e_s S16) a_nil)) ⟨hnm, hnw, pmw.symm⟩) (by show rTupL rStr (sortF ws ns).2 = _; rw [hst])) a_nil)) ⟨hnm, hs3, by
      show st.length ≤ 5000
      rw [hs2, hlen]
      exact Nat.le_trans (Nat.mul_le_mul n8 (show n - 1 ≤ 8 by omega)) (by decide)⟩) (by show rTupL rStr (st.foldl stepF ns) = _; rw [hs4])) (e_cb (a_cons (e_s S16) a_nil) cv_tof) (ov_neSame (dT ws) (dT ws) (shp_strsT ws hnw.so)))) fun H17 e17 => ?_
  have S17 : Sl _ H17 [none, some (rV (.ref g.p)), some (rInt (n : Nat)), some (rLstL rStr ns), none, none, none, none, none, none, none, none, none, none, none] := (((S16.up e17).forget (i := 4)).forget (i := 7)).forget (i := 8)
  have E17 : Ex H H17 := E14.trans (E16.trans e17)
  have hp17 := hp14.up (E16.trans e17)
  -- first
  refine q_asgU (u_tup2 (p_coord S17 rfl hp17 (by omega) _ fun x1 H18 e18 hp18 ⟨cx, hx1⟩ => ?_))
  subst hx1
  obtain ⟨k17, hk17⟩ := hp17.dk
  obtain ⟨k18, hk18⟩ := hp18.dk
  have S18 := S17.go (H0 := hide g.p H17) hk17 hide_self e18 hk18
  refine p_coord S18 rfl hp18 (by omega) _ fun x2 H19 e19 hp19 ⟨cy, hx2⟩ => ?_
  subst hx2
  obtain ⟨k19, hk19⟩ := hp19.dk
  have S19 := S18.go (H0 := hide g.p H18) hk18 hide_self e19 hk19
  have E19 : Ex H H19 := exP (exP E17 hg e18) hg e19
  refine ⟨Evl.sz_of (by show 2 ≤ 100000; decide), fun p20 hp20 => ?_⟩
  have eN2 := Evl.Ex.new (o := .tup [.int cx, .int cy]) hp20
  obtain ⟨c, hc⟩ : ∃ c : Cell, c = (cx, cy) := ⟨_, rfl⟩
  have S20 : Sl _ (upd H19 p20 (.tup [.int cx, .int cy])) [none, some (rV (.ref g.p)), some (rInt (n : Nat)), some (rLstL rStr ns), none, none, none, none, none, none, some (rCell c), none, none, none, none] := (S19.up eN2).set (j := 10) (R := rCell c) (v := .ref p20) (by
    rw [hc]
    exact cell_of upd_same)
  have E20 : Ex H (upd H19 p20 (.tup [.int cx, .int cy])) := E19.trans eN2
  generalize upd H19 p20 (.tup [.int cx, .int cy]) = H20 at S20 E20 ⊢
  -- steps as walks
  refine qf (t_or (t_not (t_B (e_call (c, ns, ("turn" : Str)) (a_cons (e_s S20) (a_cons (e_s S20) (a_cons e_c a_nil))) (L.step c ns "turn" hnm (by omega) (.inl rfl))))) fun _ => t_not (t_B (e_call (c, ns, ("hold" : Str)) (a_cons (e_s S20) (a_cons (e_s S20) (a_cons e_c a_nil))) (L.step c ns "hold" hnm (by omega) (.inr rfl))))) fun H21 e21 => ?_
  have S21 := S20.up e21
  -- bent
  have hzl2 : (ns.zip (rowC c n)).length = n := by
    rw [List.length_zip, rowC_len]
    omega
  refine q_asgA (R := rNewL H21 ((ns.zip (rowC c n)).map rNC)) S21 (e_lcAN (ds := ns.zip (rowC c n)) (f := rNC) (out := rNC) S21 (zip_nc _ _ ▸ i_zip (a_cons (e_sqL (e_s S21)) (a_cons (e_sqT (e_call (c, n) (a_cons (e_s S21) (a_cons (e_s S21) a_nil)) (by show n ≤ 1000; omega))) a_nil))) (fun d _ => tg_two) (by omega) fun d _ σ' H' e' S' => e_tup (Rs := [rStr d.1, rCell d.2]) (a_cons (e_s S') (a_cons (e_s S') a_nil))) fun v22 σ22 H22 e22 hv22 S22 => ?_
  obtain ⟨pb, xs, rfl, npb, hpb, apb⟩ := hv22
  have lxs := apb.len
  rw [List.length_map] at lxs
  have hns1 : n - 1 < ns.length := by omega
  have hix : ((n : Int) - 1) = ((n - 1 : Nat) : Int) := by omega
  have hbi : ((ns.zip (rowC c n)).map rNC)[n - 1]? = some (rNC (ns[n - 1], (c.1 + ((n - 1 : Nat) : Int), c.2))) := by
    rw [List.getElem?_map, List.getElem?_eq_getElem (by omega), List.getElem_zip]
    unfold rowC
    rw [List.getElem_map, List.getElem_range]
    rfl
  refine u_set ((e_tup (Rs := [rStr ns[n - 1], rCell (c.1 + (n : Int) - 2, c.2 + 1)]) (a_cons (e_op (Rx := rNC (ns[n - 1], (c.1 + ((n - 1 : Nat) : Int), c.2))) (e_op (e_ol S22 hpb apb) (e_int (e_op (e_s S22) e_c ov_I0) hix) (ov_ixL (atI_nat hbi))) e_c (ov_ixT rfl)) (a_cons (e_tup (Rs := [rInt (c.1 + (n : Int) - 2), rInt (c.2 + 1)]) (a_cons (e_op (e_op (e_op (e_s S22) e_c (ov_ixT rfl)) (e_s S22) ov_I0) e_c ov_I0) (a_cons (e_op (e_op (e_s S22) e_c (ov_ixT rfl)) e_c ov_I0) a_nil))) a_nil))) H22 (exr H22) _ fun x23 H23 e23 hx23 => ?_)
  have S23 := S22.up e23
  refine (e_s S23 : Ev (tVar 11) _ H23 (rV (.ref pb))) H23 (exr H23) _ fun o24 H24 e24 ho24 => ?_
  have ho24 : o24 = .ref pb := ho24
  subst ho24
  have S24 := S23.up e24
  refine (e_int (e_op (e_s S24) e_c ov_I0) hix : Ev _ _ H24 (rInt ((n - 1 : Nat) : Int))) H24 (exr H24) _ fun i25 H25 e25 hi25 => ?_
  have hi25 : i25 = .int ((n - 1 : Nat) : Int) := hi25
  subst hi25
  have hpb25 := e25 _ _ (e24 _ _ (e23 _ _ hpb))
  refine ⟨pb, xs, ((n - 1 : Nat) : Int), n - 1, rfl, rfl, hpb25, by
    unfold ixN
    rw [if_pos (by omega), if_pos (by omega)]
    rfl, ?_⟩
  have he : bentC c ns = (ns.zip (rowC c n)).set (n - 1) (ns[n - 1], (c.1 + (n : Int) - 2, c.2 + 1)) := by
    unfold bentC
    rw [hlen, List.getD_eq_getElem?_getD, List.getElem?_eq_getElem hns1]
    rfl
  have apn : AllP ((bentC c ns).map rNC) (xs.set (n - 1) x23) (upd H25 pb (.lst (xs.set (n - 1) x23))) := by
    refine allP_ms (H0 := fun _ => none) hpb25 nt_l rfl ms_ncs ?_
    rw [he, List.map_set]
    exact AllP.set (RP.mono _ (e24.trans e25) hx23) _ (apb.mono ((e23.trans e24).trans e25))
  have S25a : Sl σ22 H25 [none, none, none, none, none, none, none, none, none, none, none, some (rV (.ref pb)), none, none, none] := ((((S24.up e25).forget (i := 1)).forget (i := 2)).forget (i := 3)).forget (i := 10)
  have S25 := S25a.mut (H0 := fun _ => none) (o := .lst (xs.set (n - 1) x23)) hpb25 nt_l rfl
  have E25 : Ex H (upd H25 pb (.lst (xs.set (n - 1) x23))) := Evl.Ex.mut (((((E20.trans e21).trans e22).trans e23).trans e24).trans e25) (Evl.fresh_back (E20.trans e21) npb)
  have hp25 : (upd H25 pb (.lst (xs.set (n - 1) x23))) pb = some (.lst (xs.set (n - 1) x23)) := upd_same
  generalize upd H25 pb (.lst (xs.set (n - 1) x23)) = H26 at S25 E25 hp25 apn ⊢
  obtain ⟨p0, ps, hsort, hP, hord⟩ := L.bent c ns hnm (by omega)
  refine s_retB (b := decide (V.non = V.non)) (c := true) (e_op (Rx := rNon) (e_is (e_call (p0, ps) (a_cons (e_cb (a_cons (Rs := []) (R := rLstL rNC (p0 :: ps)) (e_is (e_cb (a_cons (R := rLstL rNC (bentC c ns)) (Rs := []) (e_ol S25 hp25 apn) a_nil) (cv_srtL dat_nc (sok_nc _ (by
    rw [he, List.length_set]
    omega)))) (congrArg (rLstL rNC) hsort)) a_nil) cv_tof) a_nil) hP) hord) e_c ov_isN) (fun v H27 e27 hv27 => ?_) (decide_eq_true rfl)
  have hv27 : v = .bl true := hv27
  subst hv27
  exact q H27 (E25.trans e27)
end
end Kx
set_option Elab.async false
set_option linter.all false
set_option maxRecDepth 100000
set_option maxHeartbeats 4000000
/-! E1: all promises joined. -/
namespace Kx
open PySem L2 PyProof.Rows
def DefAt (K : PySem.W.Frag) (x q : Str) (i : Nat) : Prop := ∃ f fd, PySem.W.nsIn K mainGlobals x = some (some (.ref f)) ∧ Fun K q q (top i) f fd
theorem def_mk {K : PySem.W.Frag} {x q : Str} {i : Nat} {f : Addr} {oc : Value} {od an : Option Addr} {osl : Array (Option Value)} {kV doc pm cdv ct : Value} (a : PySem.W.nsIn K mainGlobals x = some (some (.ref f)))
    (l : K.lookup f = some ⟨oc, od, .func (PySem.W.fnOf q q (defArgs (top i)) (defBody (top i)) (defScope (top i)) .none kV doc pm an cdv ct), osl⟩) (c : PySem.W.codeIn K cdv q = true) (k : PySem.W.keepIn K (.ref f) = true) : DefAt K x q i := ⟨f, _, a, fun_mk l c k⟩
theorem cl_mk {P : Program} {w : World} {K : PySem.W.Frag} {mg : Str → Option Value} {base h : Heap} {x q : Str} {i k : Nat} {ps : List Str} {sp : Sp} (X : K.In h) (G : h.Ns mainGlobals mg) (d : DefAt K x q i) (hb : ∀ f fd, Fun K q q (top i) f fd → Binds K fd ps [])
    (ok : ∀ f fd, Fun K q q (top i) f fd → FnOk P w K mg base CX0 k f fd ps sp) : Cl P w K mg base k x sp := by
  obtain ⟨f, fd, a, F⟩ := d
  exact ⟨f, fd, ps, ok f fd F, PySem.W.mg_of X G a, F.kp, hb f fd F⟩
/-- the module's own texts and tuples -/
structure TxtK (K : PySem.W.Frag) : Prop where
  isinstance : PySem.W.nsIn K mainGlobals "isinstance" = some none
  len : PySem.W.nsIn K mainGlobals "len" = some none
  all : PySem.W.nsIn K mainGlobals "all" = some none
  abs : PySem.W.nsIn K mainGlobals "abs" = some none
  sorted : PySem.W.nsIn K mainGlobals "sorted" = some none
  zip : PySem.W.nsIn K mainGlobals "zip" = some none
  list : PySem.W.nsIn K mainGlobals "list" = some none
  tuple : PySem.W.nsIn K mainGlobals "tuple" = some none
  range : PySem.W.nsIn K mainGlobals "range" = some none
  enumerate : PySem.W.nsIn K mainGlobals "enumerate" = some none
  int : PySem.W.nsIn K mainGlobals "int" = some none
  bool : PySem.W.nsIn K mainGlobals "bool" = some none
  str : PySem.W.nsIn K mainGlobals "str" = some none
  reversed : PySem.W.nsIn K mainGlobals "reversed" = some none
  dict : PySem.W.nsIn K mainGlobals "dict" = some none
  SMALL : ∃ t, PySem.W.nsIn K mainGlobals "SMALL" = some (some (.str zSMALL t))
  SIGNS : ∃ t, PySem.W.nsIn K mainGlobals "SIGNS" = some (some (.str zSIGNS t))
  TURNS : ∃ a, PySem.W.nsIn K mainGlobals "TURNS" = some (some (.ref a)) ∧ ∀ H, (rSq K true [rSq K true [rInt (-1), rInt 0], rSq K true [rInt 0, rInt (-1)], rSq K true [rInt 0, rInt 1], rSq K true [rInt 1, rInt 0]]).p (.ref a) H
  WORDS : ∃ a, PySem.W.nsIn K mainGlobals "WORDS" = some (some (.ref a)) ∧ ∀ H, (rSq K true [rStr "turn", rStr "hold"]).p (.ref a) H
theorem small_mk {K : PySem.W.Frag} {x : Str} {z : Str} {t : Tok} (a : PySem.W.nsIn K mainGlobals x = some (some (.str z t))) : ∃ t, PySem.W.nsIn K mainGlobals x = some (some (.str z t)) := ⟨t, a⟩
theorem two_sq {K : PySem.W.Frag} {a : Addr} {H : Hp} {x y : Int} {t u : Tok} {d : Option Addr} {n : Nat} {sl : Array (Option Value)} (l : K.lookup a = some ⟨.type "tuple", d, .seq #[.int x t, .int y u] n, sl⟩) : (rSq K true [rInt x, rInt y]).p (.ref a) H :=
  ⟨a, [.int x, .int y], rfl, .inl ⟨rfl, .inr ⟨_, _, _, l, rfl, rfl, by show 2 ≤ sizeLine; decide, .cons ⟨_, rfl⟩ (.cons ⟨_, rfl⟩ .nil)⟩⟩, rfl, rfl, trivial⟩
theorem turns_mk {K : PySem.W.Frag} {a t1 t2 t3 t4 : Addr} {d d1 d2 d3 d4 : Option Addr} {n n1 n2 n3 n4 : Nat} {sl s1 s2 s3 s4 : Array (Option Value)} {p1 q1 p2 q2 p3 q3 p4 q4 : Tok} (h : PySem.W.nsIn K mainGlobals "TURNS" = some (some (.ref a)))
    (l : K.lookup a = some ⟨.type "tuple", d, .seq #[.ref t1, .ref t2, .ref t3, .ref t4] n, sl⟩) (l1 : K.lookup t1 = some ⟨.type "tuple", d1, .seq #[.int (-1) p1, .int 0 q1] n1, s1⟩) (l2 : K.lookup t2 = some ⟨.type "tuple", d2, .seq #[.int 0 p2, .int (-1) q2] n2, s2⟩)
    (l3 : K.lookup t3 = some ⟨.type "tuple", d3, .seq #[.int 0 p3, .int 1 q3] n3, s3⟩) (l4 : K.lookup t4 = some ⟨.type "tuple", d4, .seq #[.int 1 p4, .int 0 q4] n4, s4⟩) :
    ∃ a, PySem.W.nsIn K mainGlobals "TURNS" = some (some (.ref a)) ∧ ∀ H, (rSq K true [rSq K true [rInt (-1), rInt 0], rSq K true [rInt 0, rInt (-1)], rSq K true [rInt 0, rInt 1], rSq K true [rInt 1, rInt 0]]).p (.ref a) H :=
  ⟨a, h, fun H => ⟨a, [.ref t1, .ref t2, .ref t3, .ref t4], rfl, .inl ⟨rfl, .inr ⟨_, _, _, l, rfl, rfl, by show 4 ≤ sizeLine; decide, .cons rfl (.cons rfl (.cons rfl (.cons rfl .nil)))⟩⟩, two_sq l1, two_sq l2, two_sq l3, two_sq l4, trivial⟩⟩
theorem words_mk {K : PySem.W.Frag} {a : Addr} {d : Option Addr} {n : Nat} {sl : Array (Option Value)} {p q : Tok} (h : PySem.W.nsIn K mainGlobals "WORDS" = some (some (.ref a))) (l : K.lookup a = some ⟨.type "tuple", d, .seq #[.str "turn" p, .str "hold" q] n, sl⟩) :
    ∃ a, PySem.W.nsIn K mainGlobals "WORDS" = some (some (.ref a)) ∧ ∀ H, (rSq K true [rStr "turn", rStr "hold"]).p (.ref a) H :=
  ⟨a, h, fun H => ⟨a, [.str "turn", .str "hold"], rfl, .inl ⟨rfl, .inr ⟨_, _, _, l, rfl, rfl, by show 2 ≤ sizeLine; decide, .cons ⟨_, rfl⟩ (.cons ⟨_, rfl⟩ .nil)⟩⟩, rfl, rfl, trivial⟩⟩
theorem all_mk (LH : LawH) {l : PySem.W.OpenLaw} {w : World} {K : PySem.W.Frag} {h : Heap} {mg : Str → Option Value} {fa : Addr} (X0 : K.In h) (G0 : h.Ns mainGlobals mg) (hfa : mg "law" = some (.ref fa)) (t : TxtK K)
    (dis_whole : DefAt K "is_whole" "is_whole" 7)
    (dis_list : DefAt K "is_list" "is_list" 8)
    (dis_name : DefAt K "is_name" "is_name" 9)
    (dis_cell : DefAt K "is_cell" "is_cell" 10)
    (dcheck_cell_bodies : DefAt K "check_cell_bodies" "check_cell" 12)
    (dcheck_cell_walks : DefAt K "check_cell_walks" "check_cell" 23)
    (dbeside : DefAt K "beside" "beside" 14)
    (dtaken_part : DefAt K "taken_part" "taken_part" 15)
    (dparts_of : DefAt K "parts_of" "parts_of" 16)
    (dhangs : DefAt K "hangs" "hangs" 17)
    (dis_body : DefAt K "is_body" "is_body" 18)
    (dcheck_body : DefAt K "check_body" "check_body" 20)
    (drest_of : DefAt K "rest_of" "rest_of" 25)
    (dgoes_to : DefAt K "goes_to" "goes_to" 26)
    (dways_from : DefAt K "ways_from" "ways_from" 27)
    (dways_back : DefAt K "ways_back" "ways_back" 29)
    (dwalk : DefAt K "walk" "walk" 28)
    (dcheck_first : DefAt K "check_first" "check_first" 31)
    (dcheck_many : DefAt K "check_many" "check_many" 32)
    (dcheck_by : DefAt K "check_by" "check_by" 33)
    (drow_at : DefAt K "row_at" "row_at" 34)
    (dwalked : DefAt K "walked" "walked" 35)
    (dcrawl : DefAt K "crawl" "crawl" 36)
    (dis_named_cell : DefAt K "is_named_cell" "is_named_cell" 39)
    (dis_placing : DefAt K "is_placing" "is_placing" 40)
    (dcheck_placing : DefAt K "check_placing" "check_placing" 41)
    (dorder_of : DefAt K "order_of" "order_of" 42)
    (dturned_row : DefAt K "turned_row" "turned_row" 43)
    (dheld_row : DefAt K "held_row" "held_row" 44)
    (dare_names : DefAt K "are_names" "are_names" 45)
    (dcheck_order : DefAt K "check_order" "check_order" 46)
    (dstepped : DefAt K "stepped" "stepped" 47)
    (dsorting : DefAt K "sorting" "sorting" 48)
    (dorder_behind : DefAt K "order_behind" "order_behind" 49)
    (dlaw_pen : DefAt K "_law_pen" "_law_pen" 51)
    (dlaw_draw : DefAt K "_law_draw" "_law_draw" 52)
    (dlaw_pick : DefAt K "_law_pick" "_law_pick" 53)
    (dlaw_big : DefAt K "_law_big" "_law_big" 54)
    (dlaw_shuffled : DefAt K "_law_shuffled" "_law_shuffled" 55)
    (dlaw_w_beside : DefAt K "_law_w_beside" "_law_w_beside" 56)
    (dlaw_w_hangs : DefAt K "_law_w_hangs" "_law_w_hangs" 57)
    (dlaw_w_may : DefAt K "_law_w_may" "_law_w_may" 58)
    (dlaw_w_moved : DefAt K "_law_w_moved" "_law_w_moved" 59)
    (dlaw_t4both : DefAt K "_law_t4both" "_law_t4both" 61)
    (dlaw_t4goes : DefAt K "_law_t4goes" "_law_t4goes" 60)
    (dlaw_t4walk : DefAt K "_law_t4walk" "_law_t4walk" 62)
    (dlaw_t4walks : DefAt K "_law_t4walks" "_law_t4walks" 63)
    (dlaw_t4row : DefAt K "_law_t4row" "_law_t4row" 64)
    (dlaw_t4along : DefAt K "_law_t4along" "_law_t4along" 65)
    (dlaw_t4names : DefAt K "_law_t4names" "_law_t4names" 66)
    (dlaw_t4told : DefAt K "_law_t4told" "_law_t4told" 67)
    (dlaw_t4followed : DefAt K "_law_t4followed" "_law_t4followed" 68)
    (dlaw_t4held : DefAt K "_law_t4held" "_law_t4held" 69)
    (dlaw_t4stepped : DefAt K "_law_t4stepped" "_law_t4stepped" 70)
    (dlaw_t4passes : DefAt K "_law_t4passes" "_law_t4passes" 71)
    (dlaw_step_right : DefAt K "_law_step_right" "_law_step_right" 72)
    (dlaw : DefAt K "law" "law" 73)
    : ∃ fd : FuncData, (∀ (s : Shared) (v : Value), BindsTo s fd ⟨[v], []⟩ [("_law_script", v)]) ∧ ∀ base : Heap, K.In base → base.Ns mainGlobals mg → FnOk l.prog w K mg base CX0 16 fa fd ["_law_script"] (spLaw K) := by
  obtain ⟨fl, fdl, al, Fl⟩ := dlaw
  have e := hfa.symm.trans (PySem.W.mg_of X0 G0 al)
  cases e
  obtain ⟨oc, od, kV, doc, pm, an, cdv, ct, osl, efd, lk, hcd⟩ := Fl.ex
  refine ⟨fdl, fun s v => by rw [efd]; exact .of_eq rfl, fun base X G => ?_⟩
  obtain ⟨tS, hS⟩ := t.SMALL
  obtain ⟨tG, hG⟩ := t.SIGNS
  obtain ⟨aT, hT, vT⟩ := t.TURNS
  obtain ⟨aW, hW, vW⟩ := t.WORDS
  have T : Txt K mg tS tG aT aW := { isinstance := PySem.W.mg_none_of X G t.isinstance, len := PySem.W.mg_none_of X G t.len, all := PySem.W.mg_none_of X G t.all, abs := PySem.W.mg_none_of X G t.abs, sorted := PySem.W.mg_none_of X G t.sorted, zip := PySem.W.mg_none_of X G t.zip, list := PySem.W.mg_none_of X G t.list, tuple := PySem.W.mg_none_of X G t.tuple, range := PySem.W.mg_none_of X G t.range, enumerate := PySem.W.mg_none_of X G t.enumerate, int := PySem.W.mg_none_of X G t.int, bool := PySem.W.mg_none_of X G t.bool, str := PySem.W.mg_none_of X G t.str, reversed := PySem.W.mg_none_of X G t.reversed, dict := PySem.W.mg_none_of X G t.dict, SMALL := PySem.W.mg_of X G hS, SIGNS := PySem.W.mg_of X G hG, TURNS := PySem.W.mg_of X G hT, WORDS := PySem.W.mg_of X G hW, vT := vT, vW := vW }
  have Gis_whole : Cl l.prog w K mg base 1 "is_whole" spWhole := cl_mk X G dis_whole (fun f fd F => F.binds (ps := ["value"]) fun _ _ _ _ _ _ us hl => match us, hl with | [_], _ => rfl) (fun f fd F => ok_is_whole  F T )
  have Gis_listt : Cl l.prog w K mg base 1 "is_list" (spLs true) := cl_mk X G dis_list (fun f fd F => F.binds (ps := ["value"]) fun _ _ _ _ _ _ us hl => match us, hl with | [_], _ => rfl) (fun f fd F => ok_is_list (k := true) F T )
  have Gis_listf : Cl l.prog w K mg base 1 "is_list" (spLs false) := cl_mk X G dis_list (fun f fd F => F.binds (ps := ["value"]) fun _ _ _ _ _ _ us hl => match us, hl with | [_], _ => rfl) (fun f fd F => ok_is_list (k := false) F T )
  have Gis_name : Cl l.prog w K mg base 1 "is_name" spName := cl_mk X G dis_name (fun f fd F => F.binds (ps := ["value"]) fun _ _ _ _ _ _ us hl => match us, hl with | [_], _ => rfl) (fun f fd F => ok_is_name  F T )
  have Gis_cell : Cl l.prog w K mg base 2 "is_cell" spCell := cl_mk X G dis_cell (fun f fd F => F.binds (ps := ["value"]) fun _ _ _ _ _ _ us hl => match us, hl with | [_], _ => rfl) (fun f fd F => ok_is_cell  F T Gis_whole)
  have Gcheck_cell_bodies : Cl l.prog w K mg base 3 "check_cell_bodies" spChk := cl_mk X G dcheck_cell_bodies (fun f fd F => F.binds (ps := ["value"]) fun _ _ _ _ _ _ us hl => match us, hl with | [_], _ => rfl) (fun f fd F => ok_check_cell  F T Gis_cell)
  have Gcheck_cell_walks : Cl l.prog w K mg base 3 "check_cell_walks" spChk := cl_mk X G dcheck_cell_walks (fun f fd F => F.binds (ps := ["cell"]) fun _ _ _ _ _ _ us hl => match us, hl with | [_], _ => rfl) (fun f fd F => ok_check_cell2  F T Gis_cell)
  have Gbeside : Cl l.prog w K mg base 4 "beside" spBeside := cl_mk X G dbeside (fun f fd F => F.binds (ps := ["cell"]) fun _ _ _ _ _ _ us hl => match us, hl with | [_], _ => rfl) (fun f fd F => ok_beside  F T Gcheck_cell_bodies)
  have Gtaken_part : Cl l.prog w K mg base 5 "taken_part" spTake := cl_mk X G dtaken_part (fun f fd F => F.binds (ps := ["left", "cell"]) fun _ _ _ _ _ _ us hl => match us, hl with | [_, _], _ => rfl) (fun f fd F => ok_taken_part  F T Gbeside)
  have Gparts_oft : Cl l.prog w K mg base 6 "parts_of" (spParts K true) := cl_mk X G dparts_of (fun f fd F => F.binds (ps := ["cells"]) fun _ _ _ _ _ _ us hl => match us, hl with | [_], _ => rfl) (fun f fd F => ok_parts_of (k := true) F T Gcheck_cell_bodies Gtaken_part)
  have Gparts_off : Cl l.prog w K mg base 6 "parts_of" (spParts K false) := cl_mk X G dparts_of (fun f fd F => F.binds (ps := ["cells"]) fun _ _ _ _ _ _ us hl => match us, hl with | [_], _ => rfl) (fun f fd F => ok_parts_of (k := false) F T Gcheck_cell_bodies Gtaken_part)
  have Ghangst : Cl l.prog w K mg base 7 "hangs" (spHangs K true) := cl_mk X G dhangs (fun f fd F => F.binds (ps := ["cells"]) fun _ _ _ _ _ _ us hl => match us, hl with | [_], _ => rfl) (fun f fd F => ok_hangs (k := true) F T Gparts_oft)
  have Ghangsf : Cl l.prog w K mg base 7 "hangs" (spHangs K false) := cl_mk X G dhangs (fun f fd F => F.binds (ps := ["cells"]) fun _ _ _ _ _ _ us hl => match us, hl with | [_], _ => rfl) (fun f fd F => ok_hangs (k := false) F T Gparts_off)
  have Gis_body : Cl l.prog w K mg base 8 "is_body" spBody := cl_mk X G dis_body (fun f fd F => F.binds (ps := ["value"]) fun _ _ _ _ _ _ us hl => match us, hl with | [_], _ => rfl) (fun f fd F => ok_is_body  F T Gis_cell Ghangst)
  have Gcheck_body : Cl l.prog w K mg base 9 "check_body" spChkB := cl_mk X G dcheck_body (fun f fd F => F.binds (ps := ["body"]) fun _ _ _ _ _ _ us hl => match us, hl with | [_], _ => rfl) (fun f fd F => ok_check_body  F T Gis_body)
  have Grest_of : Cl l.prog w K mg base 1 "rest_of" spRest := cl_mk X G drest_of (fun f fd F => F.binds (ps := ["body", "start"]) fun _ _ _ _ _ _ us hl => match us, hl with | [_, _], _ => rfl) (fun f fd F => ok_rest_of  F T )
  have Ggoes_to : Cl l.prog w K mg base 1 "goes_to" spGoes := cl_mk X G dgoes_to (fun f fd F => F.binds (ps := ["rest", "cell"]) fun _ _ _ _ _ _ us hl => match us, hl with | [_, _], _ => rfl) (fun f fd F => ok_goes_to  F T )
  have Gways_from : Cl l.prog w K mg base 10 "ways_from" spFrom := cl_mk X G dways_from (fun f fd F => F.binds (ps := ["body", "start"]) fun _ _ _ _ _ _ us hl => match us, hl with | [_, _], _ => rfl) (fun f fd F => ok_ways_from  F T Grest_of Ggoes_to Ghangst)
  have Gways_back : Cl l.prog w K mg base 10 "ways_back" spBack := cl_mk X G dways_back (fun f fd F => F.binds (ps := ["rest", "end"]) fun _ _ _ _ _ _ us hl => match us, hl with | [_, _], _ => rfl) (fun f fd F => ok_ways_back  F T Ggoes_to)
  have Gwalk : Cl l.prog w K mg base 11 "walk" spWalk := cl_mk X G dwalk (fun f fd F => F.binds (ps := ["body", "start", "end"]) fun _ _ _ _ _ _ us hl => match us, hl with | [_, _, _], _ => rfl) (fun f fd F => ok_walk  F T Gcheck_body Gcheck_cell_walks Gways_from Grest_of Gways_back Ggoes_to)
  have Gcheck_first : Cl l.prog w K mg base 3 "check_first" spChk := cl_mk X G dcheck_first (fun f fd F => F.binds (ps := ["first"]) fun _ _ _ _ _ _ us hl => match us, hl with | [_], _ => rfl) (fun f fd F => ok_check_first  F T Gis_cell)
  have Gcheck_many : Cl l.prog w K mg base 2 "check_many" spMany := cl_mk X G dcheck_many (fun f fd F => F.binds (ps := ["n", "least"]) fun _ _ _ _ _ _ us hl => match us, hl with | [_, _], _ => rfl) (fun f fd F => ok_check_many  F T Gis_whole)
  have Gcheck_by : Cl l.prog w K mg base 2 "check_by" spBy := cl_mk X G dcheck_by (fun f fd F => F.binds (ps := ["by"]) fun _ _ _ _ _ _ us hl => match us, hl with | [_], _ => rfl) (fun f fd F => ok_check_by  F T Gis_whole)
  have Grow_at : Cl l.prog w K mg base 4 "row_at" spRow := cl_mk X G drow_at (fun f fd F => F.binds (ps := ["first", "n"]) fun _ _ _ _ _ _ us hl => match us, hl with | [_, _], _ => rfl) (fun f fd F => ok_row_at  F T Gcheck_first Gcheck_many)
  have Gwalked : Cl l.prog w K mg base 12 "walked" spWalked := cl_mk X G dwalked (fun f fd F => F.binds (ps := ["body", "walks"]) fun _ _ _ _ _ _ us hl => match us, hl with | [_, _], _ => rfl) (fun f fd F => ok_walked  F T Gwalk)
  have Gcrawl : Cl l.prog w K mg base 13 "crawl" spCrawl := cl_mk X G dcrawl (fun f fd F => F.binds (ps := ["first", "n", "by"]) fun _ _ _ _ _ _ us hl => match us, hl with | [_, _, _], _ => rfl) (fun f fd F => ok_crawl  F T Gcheck_first Gcheck_many Gcheck_by Gwalked Grow_at)
  have Gis_named_cell : Cl l.prog w K mg base 3 "is_named_cell" spNC := cl_mk X G dis_named_cell (fun f fd F => F.binds (ps := ["value"]) fun _ _ _ _ _ _ us hl => match us, hl with | [_], _ => rfl) (fun f fd F => ok_is_named_cell  F T Gis_name Gis_cell)
  have Gis_placing : Cl l.prog w K mg base 8 "is_placing" spPl := cl_mk X G dis_placing (fun f fd F => F.binds (ps := ["value"]) fun _ _ _ _ _ _ us hl => match us, hl with | [_], _ => rfl) (fun f fd F => ok_is_placing  F T Gis_named_cell Ghangsf)
  have Gcheck_placing : Cl l.prog w K mg base 9 "check_placing" spChkPl := cl_mk X G dcheck_placing (fun f fd F => F.binds (ps := ["places"]) fun _ _ _ _ _ _ us hl => match us, hl with | [_], _ => rfl) (fun f fd F => ok_check_placing  F T Gis_placing)
  have Gorder_of : Cl l.prog w K mg base 10 "order_of" spOrd := cl_mk X G dorder_of (fun f fd F => F.binds (ps := ["places"]) fun _ _ _ _ _ _ us hl => match us, hl with | [_], _ => rfl) (fun f fd F => ok_order_of  F T Gcheck_placing)
  have Gturned_row : Cl l.prog w K mg base 14 "turned_row" spTurned := cl_mk X G dturned_row (fun f fd F => F.binds (ps := ["first", "n"]) fun _ _ _ _ _ _ us hl => match us, hl with | [_, _], _ => rfl) (fun f fd F => ok_turned_row  F T Gcheck_first Gcheck_many Gcrawl)
  have Gheld_row : Cl l.prog w K mg base 13 "held_row" spHeld := cl_mk X G dheld_row (fun f fd F => F.binds (ps := ["first", "n"]) fun _ _ _ _ _ _ us hl => match us, hl with | [_, _], _ => rfl) (fun f fd F => ok_held_row  F T Gcheck_first Gcheck_many Gwalked Grow_at)
  have Gare_namest : Cl l.prog w K mg base 2 "are_names" (spNames true) := cl_mk X G dare_names (fun f fd F => F.binds (ps := ["value"]) fun _ _ _ _ _ _ us hl => match us, hl with | [_], _ => rfl) (fun f fd F => ok_are_names (k := true) F T Gis_listt Gis_name)
  have Gare_namesf : Cl l.prog w K mg base 2 "are_names" (spNames false) := cl_mk X G dare_names (fun f fd F => F.binds (ps := ["value"]) fun _ _ _ _ _ _ us hl => match us, hl with | [_], _ => rfl) (fun f fd F => ok_are_names (k := false) F T Gis_listf Gis_name)
  have Gcheck_ordert : Cl l.prog w K mg base 3 "check_order" (spChkN true) := cl_mk X G dcheck_order (fun f fd F => F.binds (ps := ["order"]) fun _ _ _ _ _ _ us hl => match us, hl with | [_], _ => rfl) (fun f fd F => ok_check_order (k := true) F T Gare_namest)
  have Gcheck_orderf : Cl l.prog w K mg base 3 "check_order" (spChkN false) := cl_mk X G dcheck_order (fun f fd F => F.binds (ps := ["order"]) fun _ _ _ _ _ _ us hl => match us, hl with | [_], _ => rfl) (fun f fd F => ok_check_order (k := false) F T Gare_namesf)
  have Gstepped : Cl l.prog w K mg base 1 "stepped" spStep := cl_mk X G dstepped (fun f fd F => F.binds (ps := ["order", "step"]) fun _ _ _ _ _ _ us hl => match us, hl with | [_, _], _ => rfl) (fun f fd F => ok_stepped  F T )
  have Gsortingt : Cl l.prog w K mg base 4 "sorting" (spSorting true) := cl_mk X G dsorting (fun f fd F => F.binds (ps := ["order", "wished"]) fun _ _ _ _ _ _ us hl => match us, hl with | [_, _], _ => rfl) (fun f fd F => ok_sorting (k := true) F T Gcheck_ordert Gare_namesf Gstepped)
  have Gsortingf : Cl l.prog w K mg base 4 "sorting" (spSorting false) := cl_mk X G dsorting (fun f fd F => F.binds (ps := ["order", "wished"]) fun _ _ _ _ _ _ us hl => match us, hl with | [_, _], _ => rfl) (fun f fd F => ok_sorting (k := false) F T Gcheck_orderf Gare_namesf Gstepped)
  have Gorder_behindt : Cl l.prog w K mg base 4 "order_behind" (spBehind true true) := cl_mk X G dorder_behind (fun f fd F => F.binds (ps := ["order", "steps"]) fun _ _ _ _ _ _ us hl => match us, hl with | [_, _], _ => rfl) (fun f fd F => ok_order_behind (k1 := true) (k2 := true) F T Gcheck_ordert Gis_listt Gstepped)
  have Gorder_behindf : Cl l.prog w K mg base 4 "order_behind" (spBehind false false) := cl_mk X G dorder_behind (fun f fd F => F.binds (ps := ["order", "steps"]) fun _ _ _ _ _ _ us hl => match us, hl with | [_, _], _ => rfl) (fun f fd F => ok_order_behind (k1 := false) (k2 := false) F T Gcheck_orderf Gis_listf Gstepped)
  have G_law_pen : Cl l.prog w K mg base 1 "_law_pen" (spPen K) := cl_mk X G dlaw_pen (fun f fd F => F.binds (ps := ["_law_script"]) fun _ _ _ _ _ _ us hl => match us, hl with | [_], _ => rfl) (fun f fd F => ok_law_pen  F T )
  have G_law_draw : Cl l.prog w K mg base 1 "_law_draw" spDraw := cl_mk X G dlaw_draw (fun f fd F => F.binds (ps := ["_law_pen_here", "_law_many"]) fun _ _ _ _ _ _ us hl => match us, hl with | [_, _], _ => rfl) (fun f fd F => ok_law_draw  F T )
  have G_law_pick : Cl l.prog w K mg base 2 "_law_pick" spPick := cl_mk X G dlaw_pick (fun f fd F => F.binds (ps := ["_law_pen_here", "_law_some"]) fun _ _ _ _ _ _ us hl => match us, hl with | [_, _], _ => rfl) (fun f fd F => ok_law_pick  F T G_law_draw)
  have G_law_big : Cl l.prog w K mg base 3 "_law_big" spBig := cl_mk X G dlaw_big (fun f fd F => F.binds (ps := ["_law_pen_here", "_law_figures"]) fun _ _ _ _ _ _ us hl => match us, hl with | [_, _], _ => rfl) (fun f fd F => ok_law_big  F T G_law_draw G_law_pick)
  have G_law_shuffled : Cl l.prog w K mg base 2 "_law_shuffled" spShuf := cl_mk X G dlaw_shuffled (fun f fd F => F.binds (ps := ["_law_pen_here", "_law_some"]) fun _ _ _ _ _ _ us hl => match us, hl with | [_, _], _ => rfl) (fun f fd F => ok_law_shuffled  F T G_law_draw)
  have G_law_w_beside : Cl l.prog w K mg base 1 "_law_w_beside" spWBeside := cl_mk X G dlaw_w_beside (fun f fd F => F.binds (ps := ["_law_cell"]) fun _ _ _ _ _ _ us hl => match us, hl with | [_], _ => rfl) (fun f fd F => ok_law_w_beside  F T )
  have G_law_w_hangs : Cl l.prog w K mg base 2 "_law_w_hangs" spWHangs := cl_mk X G dlaw_w_hangs (fun f fd F => F.binds (ps := ["_law_cells"]) fun _ _ _ _ _ _ us hl => match us, hl with | [_], _ => rfl) (fun f fd F => ok_law_w_hangs  F T G_law_w_beside)
  have G_law_w_may : Cl l.prog w K mg base 3 "_law_w_may" spMay := cl_mk X G dlaw_w_may (fun f fd F => F.binds (ps := ["_law_cells", "_law_start", "_law_end"]) fun _ _ _ _ _ _ us hl => match us, hl with | [_, _, _], _ => rfl) (fun f fd F => ok_law_w_may  F T G_law_w_hangs)
  have G_law_w_moved : Cl l.prog w K mg base 1 "_law_w_moved" spMoved := cl_mk X G dlaw_w_moved (fun f fd F => F.binds (ps := ["_law_cells", "_law_start", "_law_end"]) fun _ _ _ _ _ _ us hl => match us, hl with | [_, _, _], _ => rfl) (fun f fd F => ok_law_w_moved  F T )
  have G_law_t4both : Cl l.prog w K mg base 1 "_law_t4both" spBoth := cl_mk X G dlaw_t4both (fun f fd F => F.binds (ps := ["_law_rest", "_law_one", "_law_two", "_law_n"]) fun _ _ _ _ _ _ us hl => match us, hl with | [_, _, _, _], _ => rfl) (fun f fd F => ok_law_t4both  F T )
  have G_law_t4goes : Cl l.prog w K mg base 2 "_law_t4goes" spGoes4 := cl_mk X G dlaw_t4goes (fun f fd F => F.binds (ps := ["_law_rest", "_law_cell"]) fun _ _ _ _ _ _ us hl => match us, hl with | [_, _], _ => rfl) (fun f fd F => ok_law_t4goes  F T G_law_t4both)
  have G_law_t4walk : Cl l.prog w K mg base 3 "_law_t4walk" spWalk4 := cl_mk X G dlaw_t4walk (fun f fd F => F.binds (ps := ["_law_cells", "_law_start", "_law_end"]) fun _ _ _ _ _ _ us hl => match us, hl with | [_, _, _], _ => rfl) (fun f fd F => ok_law_t4walk  F T G_law_w_hangs G_law_t4goes)
  have G_law_t4walks : Cl l.prog w K mg base 4 "_law_t4walks" spWalks4 := cl_mk X G dlaw_t4walks (fun f fd F => F.binds (ps := ["_law_cells", "_law_pairs"]) fun _ _ _ _ _ _ us hl => match us, hl with | [_, _], _ => rfl) (fun f fd F => ok_law_t4walks  F T G_law_t4walk G_law_w_moved)
  have G_law_t4row : Cl l.prog w K mg base 1 "_law_t4row" spRow4 := cl_mk X G dlaw_t4row (fun f fd F => F.binds (ps := ["_law_first", "_law_n"]) fun _ _ _ _ _ _ us hl => match us, hl with | [_, _], _ => rfl) (fun f fd F => ok_law_t4row  F T )
  have G_law_t4along : Cl l.prog w K mg base 1 "_law_t4along" spAlong := cl_mk X G dlaw_t4along (fun f fd F => F.binds (ps := ["_law_cells", "_law_by"]) fun _ _ _ _ _ _ us hl => match us, hl with | [_, _], _ => rfl) (fun f fd F => ok_law_t4along  F T )
  have G_law_t4names : Cl l.prog w K mg base 3 "_law_t4names" spNames4 := cl_mk X G dlaw_t4names (fun f fd F => F.binds (ps := ["_law_pen_here", "_law_many"]) fun _ _ _ _ _ _ us hl => match us, hl with | [_, _], _ => rfl) (fun f fd F => ok_law_t4names  F T G_law_shuffled)
  have G_law_t4told : Cl l.prog w K mg base 1 "_law_t4told" spTold := cl_mk X G dlaw_t4told (fun f fd F => F.binds (ps := ["_law_at"]) fun _ _ _ _ _ _ us hl => match us, hl with | [_], _ => rfl) (fun f fd F => ok_law_t4told  F T )
  have G_law_t4followed : Cl l.prog w K mg base 4 "_law_t4followed" spFol := cl_mk X G dlaw_t4followed (fun f fd F => F.binds (ps := ["_law_at", "_law_plan"]) fun _ _ _ _ _ _ us hl => match us, hl with | [_, _], _ => rfl) (fun f fd F => ok_law_t4followed  F T G_law_w_may)
  have G_law_t4held : Cl l.prog w K mg base 1 "_law_t4held" spHeld4 := cl_mk X G dlaw_t4held (fun f fd F => F.binds (ps := ["_law_first", "_law_n"]) fun _ _ _ _ _ _ us hl => match us, hl with | [_, _], _ => rfl) (fun f fd F => ok_law_t4held  F T )
  have G_law_t4stepped : Cl l.prog w K mg base 1 "_law_t4stepped" spStep4 := cl_mk X G dlaw_t4stepped (fun f fd F => F.binds (ps := ["_law_order", "_law_step"]) fun _ _ _ _ _ _ us hl => match us, hl with | [_, _], _ => rfl) (fun f fd F => ok_law_t4stepped  F T )
  have G_law_t4passes : Cl l.prog w K mg base 2 "_law_t4passes" spPasses := cl_mk X G dlaw_t4passes (fun f fd F => F.binds (ps := ["_law_order", "_law_wished"]) fun _ _ _ _ _ _ us hl => match us, hl with | [_, _], _ => rfl) (fun f fd F => ok_law_t4passes  F T G_law_t4stepped)
  have G_law_step_right : Cl l.prog w K mg base 15 "_law_step_right" spStepR := cl_mk X G dlaw_step_right (fun f fd F => F.binds (ps := ["_law_first", "_law_names", "_law_step"]) fun _ _ _ _ _ _ us hl => match us, hl with | [_, _, _], _ => rfl) (fun f fd F => ok_law_step_right  F T G_law_t4row Gturned_row Gheld_row G_law_t4along G_law_t4held G_law_t4walks G_law_t4followed Gorder_of G_law_t4told G_law_t4stepped)
  exact ok_law LH Fl T G_law_pen G_law_draw G_law_t4names G_law_pick G_law_shuffled G_law_t4passes Gsortingt Gsortingf G_law_t4stepped Gorder_behindf Gorder_behindt G_law_big G_law_step_right G_law_t4row Gorder_of
theorem allInt {H : Hp} : ∀ {ns : List Int}, AllP (ns.map rInt) (ns.map V.int) H
  | [] => trivial
  | _ :: _ => ⟨rfl, allInt⟩
theorem law_in {K : PySem.W.Frag} {H : Hp} {a : Addr} {ns : List Int} (hl : ns.length ≤ 63) (hS : SqL K H a (ns.map V.int)) : spLaw K [.ref a] H (fun v _ => v = .bl true) (fun _ _ _ => False) := ⟨ns, by omega, ⟨⟨a, _, rfl, .inr ⟨rfl, hS⟩, allInt⟩, trivial⟩, fun _ _ => rfl⟩
end Kx
set_option Elab.async false
set_option linter.all false
set_option maxRecDepth 100000
set_option maxHeartbeats 1000000
/-! P1: the passes sort. -/
namespace Kx
open PySem L2
def bub (κ : Str → Nat) : Str → List Str → List Str × Str
  | m, [] => ([], m)
  | m, b :: r => if κ m < κ b then (m :: (bub κ b r).1, (bub κ b r).2) else (b :: (bub κ m r).1, (bub κ m r).2)
def bp (κ : Str → Nat) : List Str → List Str
  | [] => []
  | m :: r => (bub κ m r).1 ++ [(bub κ m r).2]
section
variable {κ : Str → Nat}
theorem bub_t {m b : Str} {r : List Str} (h : κ m < κ b) : bub κ m (b :: r) = (m :: (bub κ b r).1, (bub κ b r).2) := by
  show (if κ m < κ b then _ else _) = _
  rw [if_pos h]
theorem bub_f {m b : Str} {r : List Str} (h : ¬ κ m < κ b) : bub κ m (b :: r) = (b :: (bub κ m r).1, (bub κ m r).2) := by
  show (if κ m < κ b then _ else _) = _
  rw [if_neg h]
theorem bub_app : ∀ (r B : List Str) (m : Str), bub κ m (r ++ B) = ((bub κ m r).1 ++ (bub κ (bub κ m r).2 B).1, (bub κ (bub κ m r).2 B).2)
  | [], B, m => rfl
  | b :: r, B, m => by
    rw [List.cons_append]
    by_cases h : κ m < κ b
    · rw [bub_t h, bub_t h, bub_app r B b]
      rfl
    · rw [bub_f h, bub_f h, bub_app r B m]
      rfl
theorem bub_sorted : ∀ (B : List Str) (f : Str), (f :: B).Pairwise (fun a b => κ a < κ b) → (bub κ f B).1 ++ [(bub κ f B).2] = f :: B
  | [], f, _ => rfl
  | b :: B, f, h => by
    rw [List.pairwise_cons] at h
    rw [bub_t (h.1 b List.mem_cons_self), List.cons_append, bub_sorted B b h.2]
theorem bub_perm : ∀ (r : List Str) (m : Str), ((bub κ m r).1 ++ [(bub κ m r).2]).Perm (m :: r)
  | [], m => .refl _
  | b :: r, m => by
    by_cases h : κ m < κ b
    · rw [bub_t h, List.cons_append]
      exact (bub_perm r b).cons m
    · rw [bub_f h, List.cons_append]
      exact ((bub_perm r m).cons b).trans (.swap m b r)
theorem bub_max : ∀ (r : List Str) (m : Str), ∀ a ∈ m :: r, κ a ≤ κ (bub κ m r).2
  | [], m, a, h => by
    rw [List.mem_singleton.mp h]
    exact Nat.le_refl _
  | b :: r, m, a, h => by
    by_cases hk : κ m < κ b
    · rw [bub_t hk]
      have ih := bub_max r b
      rcases List.mem_cons.mp h with e | h
      · rw [e]
        exact Nat.le_trans (Nat.le_of_lt hk) (ih b List.mem_cons_self)
      · exact ih a h
    · rw [bub_f hk]
      have ih := bub_max r m
      rcases List.mem_cons.mp h with e | h
      · rw [e]
        exact ih m List.mem_cons_self
      · rcases List.mem_cons.mp h with e | h
        · rw [e]
          exact Nat.le_trans (Nat.le_of_not_lt hk) (ih m List.mem_cons_self)
        · exact ih a (List.mem_cons_of_mem _ h)
theorem bp_perm (l : List Str) : (bp κ l).Perm l := by
  cases l with
  | nil => exact .refl _
  | cons m r => exact bub_perm r m
theorem bp_step {w A B : List Str} (inj : ∀ a ∈ w, ∀ b ∈ w, κ a = κ b → a = b) (hA : A ≠ []) (nd : A.Nodup) (mem : ∀ a ∈ A, a ∈ w) (lt : ∀ a ∈ A, ∀ b ∈ B, κ a < κ b) (pB : B.Pairwise (fun a b => κ a < κ b)) :
    ∃ A' f, bp κ (A ++ B) = A' ++ (f :: B) ∧ (A' ++ [f]).Perm A ∧ ∀ a ∈ A', κ a < κ f := by
  cases A with
  | nil => exact absurd rfl hA
  | cons m r =>
    have hp := bub_perm (κ := κ) r m
    have hm := bub_max (κ := κ) r m
    have hf : (bub κ m r).2 ∈ m :: r := hp.mem_iff.mp (List.mem_append_right _ (List.mem_singleton.mpr rfl))
    refine ⟨(bub κ m r).1, (bub κ m r).2, ?_, hp, fun a ha => ?_⟩
    · show (bub κ m (r ++ B)).1 ++ [(bub κ m (r ++ B)).2] = _
      rw [bub_app, List.append_assoc, bub_sorted]
      exact List.pairwise_cons.mpr ⟨fun b hb => lt _ hf b hb, pB⟩
    · have ham : a ∈ m :: r := hp.mem_iff.mp (List.mem_append_left _ ha)
      have hne : a ≠ (bub κ m r).2 := fun z => by
        have := (hp.nodup_iff.mpr nd)
        exact (List.nodup_append.mp this).2.2 a ha _ (List.mem_singleton.mpr rfl) z
      have h1 := hm a ham
      have h2 : κ a ≠ κ (bub κ m r).2 := fun z => hne (inj a (mem a ham) _ (mem _ hf) z)
      omega
def bps (κ : Str → Nat) : Nat → List Str → List Str
  | 0, l => l
  | k + 1, l => bp κ (bps κ k l)
theorem bps_inv {w : List Str} (inj : ∀ a ∈ w, ∀ b ∈ w, κ a = κ b → a = b) {l : List Str} (nd : l.Nodup) (mem : ∀ a ∈ l, a ∈ w) : ∀ k, k + 1 ≤ l.length → ∃ A B, bps κ k l = A ++ B ∧ B.length = k ∧ (A ++ B).Perm l ∧ (∀ a ∈ A, ∀ b ∈ B, κ a < κ b) ∧ B.Pairwise (fun a b => κ a < κ b)
  | 0, _ => ⟨l, [], (List.append_nil l).symm, rfl, (by rw [List.append_nil]), (fun _ _ _ h => (by cases h)), .nil⟩
  | k + 1, hk => by
    obtain ⟨A, B, e, lB, pm, lt, pB⟩ := bps_inv inj nd mem k (by omega)
    have hl := pm.length_eq
    rw [List.length_append, lB] at hl
    have hA : A ≠ [] := fun z => by
      rw [z] at hl
      simp at hl
      omega
    have ndAB := pm.nodup_iff.mpr nd
    obtain ⟨A', f, e', pm', mx⟩ := bp_step inj hA (List.nodup_append.mp ndAB).1 (fun a ha => mem a (pm.mem_iff.mp (List.mem_append_left _ ha))) lt pB
    have hf : f ∈ A := pm'.mem_iff.mp (List.mem_append_right _ (List.mem_singleton.mpr rfl))
    refine ⟨A', f :: B, by show bp κ (bps κ k l) = _; rw [e, e'], by rw [List.length_cons, lB], ?_, fun a ha b hb => ?_, List.pairwise_cons.mpr ⟨fun b hb => lt f hf b hb, pB⟩⟩
    · have : A' ++ (f :: B) = (A' ++ [f]) ++ B := by rw [List.append_assoc]; rfl
      rw [this]
      exact (pm'.append_right B).trans pm
    · rcases List.mem_cons.mp hb with z | hb
      · rw [z]
        exact mx a ha
      · exact lt a (pm'.mem_iff.mp (List.mem_append_left _ ha)) b hb
end
theorem lt2_iff {w : List Str} {a b : Str} : lt2 w a b = true ↔ w.idxOf a < w.idxOf b := by
  unfold lt2
  rw [decide_eq_true_eq]
  omega
theorem stepF_turn {f : Str} {o : List Str} : stepF (f :: o) "turn" = o ++ [f] := by
  unfold stepF
  rw [if_pos rfl]
  rfl
theorem stepF_hold {a b : Str} {o : List Str} : stepF (a :: b :: o) "hold" = a :: (o ++ [b]) := by
  unfold stepF
  rw [if_neg (by decide)]
  rfl
theorem run_bub {w : List Str} {n : Nat} : ∀ (r x st : List Str) (m : Str) (i : Nat), i + r.length + 1 = n → ((List.range' i r.length).foldl (oneS w n) (m :: (r ++ x), st)).1 = (bub (fun z => w.idxOf z) m r).2 :: (x ++ (bub (fun z => w.idxOf z) m r).1)
  | [], x, st, m, i, h => by
    show m :: x = m :: (x ++ [])
    rw [List.append_nil]
  | b :: r, x, st, m, i, h => by
    rw [List.length_cons] at h
    rw [List.length_cons, List.range'_succ, List.foldl_cons]
    have hz : stepZ w n i (m :: b :: (r ++ x)) = if lt2 w m b = true then ("turn" : Str) else ("hold" : Str) := stepZ_in (by omega)
    have e : oneS w n (m :: (b :: r ++ x), st) i = (stepF (m :: b :: (r ++ x)) (stepZ w n i (m :: b :: (r ++ x))), st ++ [stepZ w n i (m :: b :: (r ++ x))]) := rfl
    rw [e, hz]
    by_cases hl : lt2 w m b = true
    · rw [if_pos hl, stepF_turn]
      have e2 : (b :: (r ++ x)) ++ [m] = b :: (r ++ (x ++ [m])) := by rw [List.cons_append, List.append_assoc]
      rw [e2, run_bub r (x ++ [m]) _ b (i + 1) (by omega), bub_t (κ := fun z => w.idxOf z) (lt2_iff.mp hl), List.append_assoc]
      rfl
    · rw [if_neg hl, stepF_hold]
      have e2 : m :: ((r ++ x) ++ [b]) = m :: (r ++ (x ++ [b])) := by rw [List.append_assoc]
      rw [e2, run_bub r (x ++ [b]) _ m (i + 1) (by omega), bub_f (κ := fun z => w.idxOf z) (fun z => hl (lt2_iff.mpr z)), List.append_assoc]
      rfl
theorem passS_1 {w : List Str} {n : Nat} {s : List Str × List Str} (h0 : 0 < n) (hn : s.1.length = n) : (passS w n s).1 = bp (fun z => w.idxOf z) s.1 := by
  obtain ⟨l, st⟩ := s
  cases l with
  | nil =>
    have hn : 0 = n := hn
    omega
  | cons m r =>
    have hn : r.length + 1 = n := hn
    have e2 : List.range n = List.range' 0 r.length ++ [n - 1] := by
      rw [← hn, List.range_succ, List.range_eq_range']
      rfl
    have hr := run_bub (w := w) (n := n) r [] st m 0 (by omega)
    rw [List.append_nil] at hr
    unfold passS
    rw [e2, List.foldl_append]
    show (oneS w n _ (n - 1)).1 = _
    rw [oneS_end h0]
    show stepF _ "turn" = _
    rw [hr, stepF_turn]
    rfl
theorem sortF_1 {w o : List Str} (h0 : 0 < o.length) (hm : ∀ y ∈ o, y ∈ w) : ∀ t, ((List.range t).foldl (fun s _ => passS w o.length s) (o, [])).1 = bps (fun z => w.idxOf z) t o
  | 0 => rfl
  | t + 1 => by
    have I : SrI w o.length 0 (o, []) := ⟨rfl, hm, rfl⟩
    rw [List.range_succ, List.foldl_append]
    show (passS w o.length _).1 = bp _ _
    rw [passS_1 h0 (I.passes t).l, sortF_1 h0 hm t]
/-- steps so far, and what they make -/
def StI (o : List Str) (s : List Str × List Str) : Prop := (∀ z ∈ s.2, z = "turn" ∨ z = "hold") ∧ s.2.foldl stepF o = s.1
theorem StI.one {w o : List Str} {n i : Nat} {s : List Str × List Str} (h : StI o s) : StI o (oneS w n s i) := by
  constructor
  · intro z hz
    rcases List.mem_append.mp hz with hz | hz
    · exact h.1 z hz
    · rw [List.mem_singleton.mp hz]
      unfold stepZ
      split
      · exact .inl rfl
      · exact .inr rfl
  · show (s.2 ++ [stepZ w n i s.1]).foldl stepF o = stepF s.1 (stepZ w n i s.1)
    rw [List.foldl_append, h.2]
    rfl
theorem StI.many {w o : List Str} {n : Nat} : ∀ (is : List Nat) (s : List Str × List Str), StI o s → StI o (is.foldl (oneS w n) s)
  | [], _, h => h
  | i :: is, s, h => StI.many is _ h.one
theorem StI.passes {w o : List Str} {n : Nat} : ∀ (is : List Nat) (s : List Str × List Str), StI o s → StI o (is.foldl (fun s _ => passS w n s) s)
  | [], _, h => h
  | i :: is, s, h => StI.passes is _ (StI.many _ _ h)
theorem idx_inj {w : List Str} : ∀ a ∈ w, ∀ b ∈ w, w.idxOf a = w.idxOf b → a = b := fun a ha b hb h => by
  have h1 := List.getElem_idxOf (List.idxOf_lt_length_of_mem ha)
  have h2 := List.getElem_idxOf (List.idxOf_lt_length_of_mem hb)
  rw [← h1, ← h2]
  congr 1
theorem idx_sorted {w : List Str} (nd : w.Nodup) : w.Pairwise (fun a b => w.idxOf a < w.idxOf b) := by
  rw [List.pairwise_iff_getElem]
  intro i j hi hj hij
  rw [nd.idxOf_getElem i hi, nd.idxOf_getElem j hj]
  exact hij
theorem srt_ok (ns ws : List Str) (hn : NmP ns) (pm : List.Perm ns ws) : (sortF ws ns).1 = ws ∧ (sortF ws ns).2.length = ns.length * (ns.length - 1) ∧ (∀ z ∈ (sortF ws ns).2, z = "turn" ∨ z = "hold") ∧ (sortF ws ns).2.foldl stepF ns = ws := by
  have h3 := hn.l3
  have hm : ∀ y ∈ ns, y ∈ ws := fun y hy => pm.mem_iff.mp hy
  have ndw : ws.Nodup := pm.nodup_iff.mp hn.nd
  have e1 : (sortF ws ns).1 = ws := by
    have e := sortF_1 (w := ws) (o := ns) (by omega) hm (ns.length - 1)
    obtain ⟨A, B, e2, lB, pm2, lt, pB⟩ := bps_inv (κ := fun z => ws.idxOf z) idx_inj hn.nd hm (ns.length - 1) (by omega)
    have hl := pm2.length_eq
    rw [List.length_append, lB] at hl
    obtain ⟨a, rfl⟩ : ∃ a, A = [a] := List.length_eq_one_iff.mp (by omega)
    have e3 : (sortF ws ns).1 = [a] ++ B := e.trans e2
    rw [e3]
    refine List.Perm.eq_of_pairwise (le := fun a b => ws.idxOf a < ws.idxOf b) (fun a b _ _ h1 h2 => by omega) ?_ (idx_sorted ndw) (pm2.trans pm)
    exact List.pairwise_cons.mpr ⟨fun b hb => lt a (List.mem_singleton.mpr rfl) b hb, pB⟩
  have I : SrI ws ns.length 0 (ns, []) := ⟨rfl, hm, rfl⟩
  have S : StI ns (sortF ws ns) := StI.passes _ _ ⟨fun z hz => (by cases hz), rfl⟩
  refine ⟨e1, ?_, S.1, S.2.trans e1⟩
  have := (I.passes (ns.length - 1)).c
  rw [Nat.mul_comm]
  exact this
/-! ### the names -/
theorem ns8_ok : ∀ z ∈ NS8, nameOk z = true := by decide +kernel
theorem ns8_so : ∀ z ∈ NS8, PyData.canLay0 (.str z) = true := by decide +kernel
theorem ns8_nd : NS8.Nodup := by decide +kernel
theorem nm_ok (ys : List Str) (n : Nat) (pm : List.Perm ys NS8) (h3 : 3 ≤ n) (h8 : n ≤ 8) : NmP (ys.take n) := by
  have hl : ys.length = 8 := pm.length_eq
  have hs : ∀ z ∈ ys.take n, z ∈ NS8 := fun z hz => pm.mem_iff.mp (List.mem_of_mem_take hz)
  exact ⟨fun z hz => ns8_ok z (hs z hz), fun z hz => ns8_so z (hs z hz), (pm.nodup_iff.mpr ns8_nd).sublist (List.take_sublist _ _), by rw [List.length_take]; omega, by rw [List.length_take]; omega⟩
end Kx
set_option Elab.async false
set_option linter.all false
set_option maxRecDepth 100000
set_option maxHeartbeats 1000000
/-! P2: sorted cells; all mirrors move with the plane. -/
namespace Kx
open PySem L2
def leC (a b : Cell) : Bool := decide (a.1 < b.1 ∨ (a.1 = b.1 ∧ a.2 ≤ b.2))
theorem dle : PySem.W.dataLe false encC = leC := PySem.W.dataLe_ii (β := Cell) (fun c => c.1) (fun c => c.2)
theorem leC_trans (a b c : Cell) (h1 : leC a b = true) (h2 : leC b c = true) : leC a c = true := by
  unfold leC at *
  rw [decide_eq_true_eq] at *
  omega
theorem leC_total (a b : Cell) : (leC a b || leC b a) = true := by
  unfold leC
  rw [Bool.or_eq_true, decide_eq_true_eq, decide_eq_true_eq]
  omega
theorem leC_anti (a b : Cell) (h1 : leC a b = true) (h2 : leC b a = true) : a = b := by
  unfold leC at *
  rw [decide_eq_true_eq] at *
  exact Prod.ext (by omega) (by omega)
theorem srtC_sorted (cs : List Cell) : (srtC cs).Pairwise fun a b => leC a b = true := by
  unfold srtC
  rw [dle]
  exact List.pairwise_mergeSort leC_trans leC_total cs
theorem srtC_perm (cs : List Cell) : (srtC cs).Perm cs := List.mergeSort_perm cs _
theorem srtC_is {cs ds : List Cell} (p : ds.Perm cs) (s : ds.Pairwise fun a b => leC a b = true) : srtC cs = ds :=
  List.Perm.eq_of_pairwise (fun a b _ _ h1 h2 => leC_anti a b h1 h2) (srtC_sorted cs) s ((srtC_perm cs).trans p.symm)
def insI (c : Cell) : List Cell → List Cell
  | [] => [c]
  | x :: r => if leC c x = true then c :: x :: r else x :: insI c r
def srtI : List Cell → List Cell
  | [] => []
  | c :: r => insI c (srtI r)
theorem insI_perm (c : Cell) : ∀ l, (insI c l).Perm (c :: l)
  | [] => .refl _
  | x :: r => by
    show (if leC c x = true then c :: x :: r else x :: insI c r).Perm _
    split
    · exact .refl _
    · exact ((insI_perm c r).cons x).trans (.swap c x r)
theorem insI_sorted (c : Cell) : ∀ l, l.Pairwise (fun a b => leC a b = true) → (insI c l).Pairwise (fun a b => leC a b = true)
  | [], _ => List.pairwise_cons.mpr ⟨fun _ h => (by cases h), .nil⟩
  | x :: r, h => by
    have hh := List.pairwise_cons.mp h
    show (if leC c x = true then c :: x :: r else x :: insI c r).Pairwise _
    split
    · next hc =>
      refine List.pairwise_cons.mpr ⟨fun b hb => ?_, h⟩
      rcases List.mem_cons.mp hb with e | hb
      · rw [e]
        exact hc
      · exact leC_trans c x b hc (hh.1 b hb)
    · next hc =>
      refine List.pairwise_cons.mpr ⟨fun b hb => ?_, insI_sorted c r hh.2⟩
      rcases List.mem_cons.mp ((insI_perm c r).mem_iff.mp hb) with e | hb
      · rw [e]
        have := leC_total c x
        rw [Bool.or_eq_true] at this
        exact this.resolve_left hc
      · exact hh.1 b hb
theorem srtI_perm : ∀ l, (srtI l).Perm l
  | [] => .refl _
  | c :: r => (insI_perm c _).trans ((srtI_perm r).cons c)
theorem srtI_sorted : ∀ l, (srtI l).Pairwise fun a b => leC a b = true
  | [] => .nil
  | c :: r => insI_sorted c _ (srtI_sorted r)
theorem srtC_I (l : List Cell) : srtC l = srtI l := srtC_is (srtI_perm l) (srtI_sorted l)

/-! ### moved -/
def sh (t c : Cell) : Cell := (c.1 + t.1, c.2 + t.2)
def Sh (t : Cell) (l : List Cell) : List Cell := l.map (sh t)
def ShP (t : Cell) (l : List (Cell × Cell)) : List (Cell × Cell) := l.map fun p => (sh t p.1, sh t p.2)
def ShQ (t : Cell) (l : List (Cell × Int)) : List (Cell × Int) := l.map fun p => (sh t p.1, p.2)
section
variable {t : Cell}
theorem sh_inj {a b : Cell} (h : sh t a = sh t b) : a = b := by
  unfold sh at h
  injection h with h1 h2
  exact Prod.ext (by omega) (by omega)
theorem eqC_sh {a b : Cell} : eqC (sh t a) (sh t b) = eqC a b := by
  rw [Bool.eq_iff_iff, eqC_iff, eqC_iff]
  exact ⟨sh_inj, fun h => by rw [h]⟩
theorem Sh_cons {c : Cell} {l : List Cell} : Sh t (c :: l) = sh t c :: Sh t l := rfl
theorem Sh_app {l m : List Cell} : Sh t (l ++ m) = Sh t l ++ Sh t m := List.map_append
theorem Sh_snoc {l : List Cell} {c : Cell} : Sh t l ++ [sh t c] = Sh t (l ++ [c]) := by
  rw [Sh_app]
  rfl
theorem Sh_len {l : List Cell} : (Sh t l).length = l.length := List.length_map _
theorem mem_sh {c : Cell} {l : List Cell} : sh t c ∈ Sh t l ↔ c ∈ l := by
  unfold Sh
  rw [List.mem_map]
  exact ⟨fun ⟨x, hx, e⟩ => sh_inj e ▸ hx, fun h => ⟨c, h, rfl⟩⟩
theorem isin_sh {c : Cell} {l : List Cell} : isin (Sh t l) (sh t c) = isin l c := by
  rw [Bool.eq_iff_iff, isin_iff, isin_iff, mem_sh]
theorem nd_sh {l : List Cell} (h : l.Nodup) : (Sh t l).Nodup := List.Pairwise.map _ (fun _ _ n e => n (sh_inj e)) h
theorem leC_sh {a b : Cell} : leC (sh t a) (sh t b) = leC a b := by
  unfold leC sh
  exact decide_eq_decide.mpr (by omega)
theorem ltC_sh {a b : Cell} : ltC (sh t a) (sh t b) = ltC a b := by
  unfold ltC sh
  by_cases h : a.1 = b.1
  · rw [if_pos h, if_pos (show a.1 + t.1 = b.1 + t.1 by omega)]
    exact decide_eq_decide.mpr (by omega)
  · rw [if_neg h, if_neg (show ¬ a.1 + t.1 = b.1 + t.1 by omega)]
    exact decide_eq_decide.mpr (by omega)
theorem srtC_sh {l : List Cell} : srtC (Sh t l) = Sh t (srtC l) := by
  unfold srtC Sh
  rw [dle]
  exact (List.map_mergeSort (r := leC) (s := leC) (f := sh t) fun a _ b _ => leC_sh.symm).symm
theorem fil_sh {p p' : Cell → Bool} (h : ∀ c, p' (sh t c) = p c) {l : List Cell} : (Sh t l).filter p' = Sh t (l.filter p) := by
  unfold Sh
  rw [List.filter_map]
  congr 1
  exact List.filter_congr fun c _ => h c
theorem rmC_sh {l : List Cell} {c : Cell} : rmC (Sh t l) (sh t c) = Sh t (rmC l c) := fil_sh fun x => by rw [eqC_sh]
theorem restC_sh {l : List Cell} {c : Cell} : restC (Sh t l) (sh t c) = Sh t (restC l c) := fil_sh fun x => by rw [eqC_sh]
theorem pair_eq {a b c d : Int} (h1 : a = c) (h2 : b = d) : ((a, b) : Cell) = (c, d) := by rw [h1, h2]
theorem beside_sh {c : Cell} : besideC (sh t c) = Sh t (besideC c) := by
  have h : ∀ {a b c' d : Cell} {a' b' c'' d' : Cell}, a = a' → b = b' → c' = c'' → d = d' → [a, b, c', d] = [a', b', c'', d'] := by
    rintro _ _ _ _ _ _ _ _ rfl rfl rfl rfl
    rfl
  exact h (pair_eq (by show c.1 + t.1 - 1 = c.1 - 1 + t.1; omega) rfl) (pair_eq rfl (by show c.2 + t.2 - 1 = c.2 - 1 + t.2; omega)) (pair_eq (by show c.1 + t.1 + 1 = c.1 + 1 + t.1; omega) rfl) (pair_eq rfl (by show c.2 + t.2 + 1 = c.2 + 1 + t.2; omega))
theorem addC_sh {c d : Cell} : addC (sh t c) d = sh t (addC c d) := pair_eq (by show c.1 + t.1 + d.1 = c.1 + d.1 + t.1; omega) (by show c.2 + t.2 + d.2 = c.2 + d.2 + t.2; omega)
theorem pushC_sh : ∀ (os l u : List Cell), pushC (Sh t l) (Sh t u) (Sh t os) = (Sh t (pushC l u os).1, Sh t (pushC l u os).2)
  | [], l, u => rfl
  | o :: os, l, u => by
    rw [Sh_cons]
    unfold pushC
    rw [isin_sh]
    split
    · rw [rmC_sh, Sh_snoc]
      exact pushC_sh os _ _
    · exact pushC_sh os _ _
theorem last_sh {l : List Cell} : (Sh t l).getLast? = l.getLast?.map (sh t) := List.getLast?_map
theorem dropLast_sh {l : List Cell} : (Sh t l).dropLast = Sh t l.dropLast := List.map_dropLast.symm
theorem takeF_sh : ∀ (n : Nat) (l f u : List Cell), takeF n (Sh t l) (Sh t f) (Sh t u) = (Sh t (takeF n l f u).1, Sh t (takeF n l f u).2)
  | 0, l, f, u => rfl
  | n + 1, l, f, u => by
    unfold takeF
    rw [last_sh]
    cases u.getLast? with
    | none => rfl
    | some one =>
      show takeF n (pushC (Sh t l) (Sh t u).dropLast (besideC (sh t one))).1 (Sh t f ++ [sh t one]) (pushC (Sh t l) (Sh t u).dropLast (besideC (sh t one))).2 = _
      rw [dropLast_sh, beside_sh, pushC_sh, Sh_snoc]
      exact takeF_sh n _ _ _
theorem takenC_sh {l : List Cell} {c : Cell} : takenC (Sh t l) (sh t c) = (Sh t (takenC l c).1, Sh t (takenC l c).2) := by
  unfold takenC
  rw [rmC_sh, Sh_len]
  exact takeF_sh _ _ [] [c]
theorem partsF_sh : ∀ (cs l : List Cell), partsF (Sh t cs) (Sh t l) = (partsF cs l).map (Sh t)
  | [], l => rfl
  | c :: cs, l => by
    rw [Sh_cons]
    unfold partsF
    rw [isin_sh]
    split
    · rw [takenC_sh, srtC_sh, List.map_cons]
      congr 1
      exact partsF_sh cs _
    · exact partsF_sh cs _
theorem hangsP_sh {cs : List Cell} : hangsP (Sh t cs) = hangsP cs := by
  unfold hangsP
  rw [srtC_sh, partsF_sh, List.length_map]
theorem incP_sh {cs : List Cell} : incP (Sh t cs) = incP cs := by
  unfold incP Sh
  rw [← List.map_drop, List.zip_map, List.all_map]
  congr 1
  funext p
  exact ltC_sh
end
end Kx
set_option Elab.async false
set_option linter.all false
set_option maxRecDepth 100000
set_option maxHeartbeats 1000000
/-! P3: the walks move with the plane. -/
namespace Kx
open PySem L2
section
variable {t : Cell}
theorem putL_sh {f : List Cell} {c : Cell} : putL (Sh t f) (sh t c) = Sh t (putL f c) := by
  unfold putL
  rw [isin_sh]
  split
  · rfl
  · exact Sh_snoc
theorem stepD_sh {r f : List Cell} {n c d : Cell} : stepD (Sh t r) n (sh t c) (Sh t f) d = Sh t (stepD r n c f d) := by
  unfold stepD
  rw [addC_sh, isin_sh, addC_sh, isin_sh]
  by_cases h1 : isin r (addC c d) = true
  · rw [if_pos h1, if_pos h1]
  · rw [if_neg h1, if_neg h1]
    by_cases h2 : isin r (addC (addC c d) n) = true
    · rw [if_pos h2, if_pos h2]
      exact putL_sh
    · rw [if_neg h2, if_neg h2]
      exact putL_sh
theorem foldD_sh {r : List Cell} {n c : Cell} : ∀ (ds f : List Cell), ds.foldl (stepD (Sh t r) n (sh t c)) (Sh t f) = Sh t (ds.foldl (stepD r n c) f)
  | [], f => rfl
  | d :: ds, f => by
    rw [List.foldl_cons, List.foldl_cons, stepD_sh]
    exact foldD_sh ds _
theorem stepN_sh {r f : List Cell} {n c : Cell} : stepN (Sh t r) (sh t c) (Sh t f) n = Sh t (stepN r c f n) := by
  unfold stepN
  rw [addC_sh, isin_sh]
  split
  · exact foldD_sh _ _
  · rfl
theorem foldN_sh {r : List Cell} {c : Cell} : ∀ (ns f : List Cell), ns.foldl (stepN (Sh t r) (sh t c)) (Sh t f) = Sh t (ns.foldl (stepN r c) f)
  | [], f => rfl
  | n :: ns, f => by
    rw [List.foldl_cons, List.foldl_cons, stepN_sh]
    exact foldN_sh ns _
theorem goesC_sh {r : List Cell} {c : Cell} : goesC (Sh t r) (sh t c) = Sh t (goesC r c) := by
  unfold goesC goF
  rw [← srtC_sh]
  congr 1
  exact foldN_sh TS []
theorem keys_sh {q : List (Cell × Int)} : (ShQ t q).map (·.1) = Sh t (q.map (·.1)) := by
  unfold ShQ Sh
  rw [List.map_map, List.map_map]
  rfl
theorem snocQ {q : List (Cell × Int)} {c : Cell} {d : Int} : ShQ t q ++ [(sh t c, d)] = ShQ t (q ++ [(c, d)]) := by
  unfold ShQ
  rw [List.map_append]
  rfl
theorem addN_sh {d : Int} : ∀ (cs : List Cell) (q : List (Cell × Int)), addN d (ShQ t q) (Sh t cs) = ShQ t (addN d q cs)
  | [], q => rfl
  | c :: cs, q => by
    rw [Sh_cons]
    unfold addN
    rw [keys_sh, isin_sh]
    split
    · exact addN_sh cs q
    · rw [snocQ]
      exact addN_sh cs _
theorem getQ {q : List (Cell × Int)} {i : Nat} : (ShQ t q)[i]? = q[i]?.map fun p => (sh t p.1, p.2) := List.getElem?_map
theorem bfsF_sh {r : List Cell} : ∀ (n i : Nat) (q : List (Cell × Int)), bfsF (Sh t r) n i (ShQ t q) = (bfsF r n i q).map (ShQ t)
  | 0, _, _ => rfl
  | n + 1, i, q => by
    unfold bfsF
    rw [getQ]
    cases q[i]? with
    | none => rfl
    | some x =>
      show bfsF (Sh t r) n (i + 1) (addN x.2 (ShQ t q) (goesC (Sh t r) (sh t x.1))) = _
      rw [goesC_sh, addN_sh]
      exact bfsF_sh n (i + 1) _
theorem look_sh {c : Cell} : ∀ {far : List (Cell × Int)}, look (ShQ t far) (sh t c) = look far c
  | [] => rfl
  | p :: far => by
    show look ((sh t p.1, p.2) :: ShQ t far) (sh t c) = _
    rw [look_cons, look_cons, look_sh]
    by_cases h : p.1 = c
    · rw [if_pos h, if_pos (show sh t p.1 = sh t c by rw [h])]
    · rw [if_neg h, if_neg (show ¬ sh t p.1 = sh t c from fun z => h (sh_inj z))]
theorem backF_sh {r : List Cell} {far : List (Cell × Int)} {e : Cell} : ∀ (n : Nat) (c : Cell), backF (Sh t r) (ShQ t far) (sh t e) n (sh t c) = (backF r far e n c).map (ShP t)
  | 0, _ => rfl
  | n + 1, c => by
    unfold backF
    rw [eqC_sh, look_sh, goesC_sh]
    split
    · rfl
    · cases look far c with
      | none => rfl
      | some d =>
        show (match (Sh t (goesC r c)).filter (fun o => decide (look (ShQ t far) o = some (d - 1))) with | [] => none | a :: _ => (backF (Sh t r) (ShQ t far) (sh t e) n a).map ((sh t c, a) :: ·)) = Option.map (ShP t) (match (goesC r c).filter (fun o => decide (look far o = some (d - 1))) with | [] => none | a :: _ => (backF r far e n a).map ((c, a) :: ·))
        rw [fil_sh (p := fun o => decide (look far o = some (d - 1))) (fun o => by rw [look_sh])]
        cases (goesC r c).filter (fun o => decide (look far o = some (d - 1))) with
        | nil => rfl
        | cons a rest =>
          show (backF (Sh t r) (ShQ t far) (sh t e) n (sh t a)).map ((sh t c, sh t a) :: ·) = Option.map (ShP t) ((backF r far e n a).map ((c, a) :: ·))
          rw [backF_sh n a]
          cases backF r far e n a <;> rfl
theorem walkC_sh {b : List Cell} {s e : Cell} : walkC (Sh t b) (sh t s) (sh t e) = (walkC b s e).map (ShP t) := by
  unfold walkC
  rw [restC_sh, show [(sh t e, (0 : Int))] = ShQ t [(e, 0)] from rfl, bfsF_sh]
  cases bfsF (restC b s) 200 0 [(e, 0)] with
  | none => rfl
  | some far => exact backF_sh 200 s
theorem movedC_sh {b : List Cell} {s e : Cell} : movedC (Sh t b) (sh t s) (sh t e) = Sh t (movedC b s e) := by
  unfold movedC
  rw [fil_sh (p := fun c => !eqC c s) (fun c => by rw [eqC_sh]), Sh_snoc, srtC_sh]
theorem Cs.sh {b : List Cell} (h : Cs b) : Cs (Sh t b) := ⟨nd_sh h.nd, by rw [Sh_len]; exact h.len⟩
theorem BodyP.sh {b : List Cell} (h : BodyP b) : BodyP (Sh t b) := ⟨h.c.sh, by rw [incP_sh]; exact h.inc, by rw [hangsP_sh]; exact h.hang⟩
theorem Sh_ne {l : List Cell} (h : l ≠ []) : Sh t l ≠ [] := fun z => h (List.map_eq_nil_iff.mp z)
theorem FromP.sh {b : List Cell} {s : Cell} (h : FromP b s) : FromP (Sh t b) (Kx.sh t s) := ⟨h.c.sh, by rw [isin_sh]; exact h.i, by rw [restC_sh]; exact Sh_ne h.ne, by rw [restC_sh, srtC_sh]; exact h.cs.sh, by rw [restC_sh, srtC_sh, hangsP_sh]; exact h.h⟩
theorem WalkP.sh {b : List Cell} {s e : Cell} {p : List (Cell × Cell)} (h : WalkP b s e p) : WalkP (Sh t b) (Kx.sh t s) (Kx.sh t e) (ShP t p) := ⟨h.bb.sh, h.sf.sh, by
  obtain ⟨far, h1, h2⟩ := h.rr
  refine ⟨ShQ t far, ?_, by rw [keys_sh, isin_sh]; exact h2⟩
  rw [restC_sh, show [(Kx.sh t s, (0 : Int))] = ShQ t [(s, 0)] from rfl, bfsF_sh, h1]
  rfl, by rw [walkC_sh, h.ww]; rfl⟩
theorem ShP_app {l m : List (Cell × Cell)} : ShP t (l ++ m) = ShP t l ++ ShP t m := List.map_append
theorem WalkedP.sh : ∀ {ws : List (Cell × Cell)} {b : List Cell} {p : List (Cell × Cell)}, WalkedP b ws p → WalkedP (Sh t b) (ShP t ws) (ShP t p)
  | [], b, p, h => by
    have h : p = [] := h
    rw [h]
    rfl
  | (s, e) :: ws, b, p, ⟨p1, p2, h1, h2, h3⟩ => by
    refine ⟨ShP t p1, ShP t p2, h1.sh, ?_, by rw [h3, ShP_app]⟩
    have := WalkedP.sh h2
    rw [← movedC_sh] at this
    exact this
/-! the law's own -/
theorem hangW_sh {l : List Cell} : ∀ (m : Nat) (seen w : List Cell), hangW (Sh t l) m (Sh t seen) (Sh t w) = (hangW l m seen w).map (Sh t)
  | 0, _, _ => rfl
  | m + 1, seen, w => by
    unfold hangW
    rw [last_sh]
    cases w.getLast? with
    | none => rfl
    | some c =>
      show (if isin (Sh t seen) (sh t c) = true then hangW (Sh t l) m (Sh t seen) (Sh t w).dropLast else hangW (Sh t l) m (Sh t seen ++ [sh t c]) ((Sh t w).dropLast ++ (besideC (sh t c)).filter fun o => isin (Sh t l) o && !isin (Sh t seen ++ [sh t c]) o)) = Option.map (Sh t) (if isin seen c = true then hangW l m seen w.dropLast else hangW l m (seen ++ [c]) (w.dropLast ++ (besideC c).filter fun o => isin l o && !isin (seen ++ [c]) o))
      rw [isin_sh, dropLast_sh, beside_sh, Sh_snoc, fil_sh (p := fun o => isin l o && !isin (seen ++ [c]) o) (fun o => by rw [isin_sh, isin_sh]), ← Sh_app]
      split
      · exact hangW_sh m _ _
      · exact hangW_sh m _ _
theorem HwP.sh {cs seen : List Cell} (h : HwP cs seen) : HwP (Sh t cs) (Sh t seen) := ⟨nd_sh h.nd, by rw [Sh_len]; exact h.len, Sh_ne h.ne, by
  obtain ⟨first, rest, h1, h2⟩ := h.h
  refine ⟨Kx.sh t first, Sh t rest, by rw [srtC_sh, h1]; rfl, ?_⟩
  have := hangW_sh (t := t) (l := cs) 1000 [] [first]
  rw [h2] at this
  exact this⟩
theorem isin_at {r : List Cell} {x y : Cell} (h : x = sh t y) : isin (Sh t r) x = isin r y := by
  rw [h]
  exact isin_sh
theorem keep4_sh {r : List Cell} {c d : Cell} : keep4 (Sh t r) (sh t c) d = keep4 r c d := by
  unfold keep4
  rw [addC_sh, isin_sh]
  have e1 : isin (Sh t r) ((sh t c).1 + d.1, (sh t c).2) = isin r (c.1 + d.1, c.2) := isin_at (pair_eq (by show c.1 + t.1 + d.1 = c.1 + d.1 + t.1; omega) rfl)
  have e2 : isin (Sh t r) ((sh t c).1, (sh t c).2 + d.2) = isin r (c.1, c.2 + d.2) := isin_at (pair_eq rfl (by show c.2 + t.2 + d.2 = c.2 + d.2 + t.2; omega))
  rw [e1, e2]
  have e3 : ((dirs d).filter fun n => isin (Sh t r) (addC (sh t c) n) && isin (Sh t r) (addC (sh t (addC c d)) n)) = (dirs d).filter fun n => isin r (addC c n) && isin r (addC (addC c d) n) := by
    refine List.filter_congr fun n _ => ?_
    rw [addC_sh, addC_sh, isin_sh, isin_sh]
  rw [e3]
theorem goes4_sh {r : List Cell} {c : Cell} : goes4 (Sh t r) (sh t c) = Sh t (goes4 r c) := by
  unfold goes4 Sh
  rw [List.map_map]
  have e : D8.filter (keep4 (r.map (sh t)) (sh t c)) = D8.filter (keep4 r c) := List.filter_congr fun d _ => keep4_sh
  rw [e]
  exact List.map_congr_left fun d _ => addC_sh
theorem bfs4_sh {r : List Cell} {s : Cell} : ∀ (n i : Nat) (q : List (Cell × Int)), bfs4 (Sh t r) (sh t s) n i (ShQ t q) = ShQ t (bfs4 r s n i q)
  | 0, _, _ => rfl
  | n + 1, i, q => by
    unfold bfs4
    rw [keys_sh, isin_sh, show (ShQ t q).length = q.length from List.length_map _, getQ]
    split
    · rfl
    · cases q[i]? with
      | none => rfl
      | some x =>
        show bfs4 (Sh t r) (sh t s) n (i + 1) (addN x.2 (ShQ t q) (goes4 (Sh t r) (sh t x.1))) = _
        rw [goes4_sh, addN_sh]
        exact bfs4_sh n (i + 1) _
theorem back4_sh {r : List Cell} {far : List (Cell × Int)} : ∀ (n : Nat) (c : Cell), back4 (Sh t r) (ShQ t far) n (sh t c) = (back4 r far n c).map (ShP t)
  | 0, _ => rfl
  | n + 1, c => by
    unfold back4
    rw [look_sh, goes4_sh]
    cases look far c with
    | none => rfl
    | some d =>
      show (match (Sh t (goes4 r c)).filter (fun o => decide ((look (ShQ t far) o).getD (-1) = d - 1)) with | [] => none | a :: _ => (back4 (Sh t r) (ShQ t far) n a).map ((sh t c, a) :: ·)) = Option.map (ShP t) (match (goes4 r c).filter (fun o => decide ((look far o).getD (-1) = d - 1)) with | [] => none | a :: _ => (back4 r far n a).map ((c, a) :: ·))
      rw [fil_sh (p := fun o => decide ((look far o).getD (-1) = d - 1)) (fun o => by rw [look_sh])]
      cases (goes4 r c).filter (fun o => decide ((look far o).getD (-1) = d - 1)) with
      | nil => rfl
      | cons a rest =>
        show (back4 (Sh t r) (ShQ t far) n (sh t a)).map ((sh t c, sh t a) :: ·) = Option.map (ShP t) ((back4 r far n a).map ((c, a) :: ·))
        rw [back4_sh n a]
        cases back4 r far n a <;> rfl
theorem Walk4P.sh {cs : List Cell} {s e : Cell} {p : List (Cell × Cell)} (h : Walk4P cs s e p) : Walk4P (Sh t cs) (Kx.sh t s) (Kx.sh t e) (ShP t p) := ⟨nd_sh h.nd, by rw [Sh_len]; exact h.len, by rw [eqC_sh]; exact h.ne, by rw [restC_sh]; exact Sh_ne h.rne, by
  obtain ⟨seen, h1, h2⟩ := h.h
  exact ⟨Sh t seen, by rw [restC_sh]; exact h1.sh, by rw [restC_sh, Sh_len, Sh_len]; exact h2⟩, by rw [restC_sh, isin_sh]; exact h.eo, by
  obtain ⟨far, d, h1, h2, h3, h4⟩ := h.w
  refine ⟨ShQ t far, d, ?_, by rw [look_sh]; exact h2, h3, by rw [restC_sh, back4_sh, h4]; rfl⟩
  rw [restC_sh, Sh_len, show [(Kx.sh t e, (0 : Int))] = ShQ t [(e, 0)] from rfl, bfs4_sh, h1]⟩
theorem Walks4P.sh : ∀ {ws : List (Cell × Cell)} {b : List Cell} {p : List (Cell × Cell)}, Walks4P b ws p → Walks4P (Sh t b) (ShP t ws) (ShP t p)
  | [], b, p, h => by
    have h : p = [] := h
    rw [h]
    rfl
  | (s, e) :: ws, b, p, ⟨p1, p2, h1, h2, h3⟩ => by
    refine ⟨ShP t p1, ShP t p2, h1.sh, ?_, by rw [h3, ShP_app]⟩
    have := Walks4P.sh h2
    rw [← movedC_sh] at this
    exact this
theorem prsW_sh {s e : Cell} : prsW (sh t s) (sh t e) = ShP t (prsW s e) := by
  have h : ∀ {a b c d a' b' c' d' : Cell}, a = a' → b = b' → c = c' → d = d' → [(a, b), (c, d)] = [(a', b'), (c', d')] := by
    rintro _ _ _ _ _ _ _ _ rfl rfl rfl rfl
    rfl
  refine h (pair_eq ?_ ?_) (pair_eq ?_ ?_) (pair_eq ?_ ?_) (pair_eq ?_ ?_)
  · show s.1 + t.1 + (e.2 + t.2 - (s.2 + t.2)) = s.1 + (e.2 - s.2) + t.1
    omega
  · show s.2 + t.2 + (e.1 + t.1 - (s.1 + t.1)) = s.2 + (e.1 - s.1) + t.2
    omega
  · show e.1 + t.1 + (e.2 + t.2 - (s.2 + t.2)) = e.1 + (e.2 - s.2) + t.1
    omega
  · show e.2 + t.2 + (e.1 + t.1 - (s.1 + t.1)) = e.2 + (e.1 - s.1) + t.2
    omega
  · show s.1 + t.1 - (e.2 + t.2 - (s.2 + t.2)) = s.1 - (e.2 - s.2) + t.1
    omega
  · show s.2 + t.2 - (e.1 + t.1 - (s.1 + t.1)) = s.2 - (e.1 - s.1) + t.2
    omega
  · show e.1 + t.1 - (e.2 + t.2 - (s.2 + t.2)) = e.1 - (e.2 - s.2) + t.1
    omega
  · show e.2 + t.2 - (e.1 + t.1 - (s.1 + t.1)) = e.2 - (e.1 - s.1) + t.2
    omega
theorem goodW_sh {cs : List Cell} {s e : Cell} : goodW (Sh t cs) (sh t s) (sh t e) = goodW cs s e := by
  have d1 : (sh t e).1 - (sh t s).1 = e.1 - s.1 := by
    show e.1 + t.1 - (s.1 + t.1) = e.1 - s.1
    omega
  have d2 : (sh t e).2 - (sh t s).2 = e.2 - s.2 := by
    show e.2 + t.2 - (s.2 + t.2) = e.2 - s.2
    omega
  have e1 : isin (Sh t cs) ((sh t s).1 + (e.1 - s.1), (sh t s).2) = isin cs (s.1 + (e.1 - s.1), s.2) := isin_at (pair_eq (by show s.1 + t.1 + (e.1 - s.1) = s.1 + (e.1 - s.1) + t.1; omega) rfl)
  have e2 : isin (Sh t cs) ((sh t s).1, (sh t s).2 + (e.2 - s.2)) = isin cs (s.1, s.2 + (e.2 - s.2)) := isin_at (pair_eq rfl (by show s.2 + t.2 + (e.2 - s.2) = s.2 + (e.2 - s.2) + t.2; omega))
  have e3 : ((prsW (sh t s) (sh t e)).filter fun p => isin (Sh t cs) p.1 && isin (Sh t cs) p.2) = ShP t ((prsW s e).filter fun p => isin cs p.1 && isin cs p.2) := by
    rw [prsW_sh]
    unfold ShP
    rw [List.filter_map]
    congr 1
    refine List.filter_congr fun p _ => ?_
    show (isin (Sh t cs) (sh t p.1) && isin (Sh t cs) (sh t p.2)) = _
    rw [isin_sh, isin_sh]
  unfold goodW
  rw [d1, d2, e1, e2, e3]
  have e4 : ∀ l : List (Cell × Cell), ((ShP t l).map (·.1)).isEmpty = (l.map (·.1)).isEmpty := fun l => by cases l <;> rfl
  rw [e4]
theorem MayP.sh {cs : List Cell} {s e : Cell} (h : MayP cs s e) : MayP (Sh t cs) (Kx.sh t s) (Kx.sh t e) := ⟨nd_sh h.nd, by rw [Sh_len]; exact h.len, by rw [isin_sh]; exact h.i, by rw [isin_sh]; exact h.o, by rw [goodW_sh]; exact h.g, by
  obtain ⟨seen, h1, h2⟩ := h.h
  have e : ((Sh t cs).filter fun c => !eqC c (Kx.sh t s)) = Sh t (cs.filter fun c => !eqC c s) := fil_sh fun c => by rw [eqC_sh]
  rw [e]
  exact ⟨Sh t seen, h1.sh, by rw [Sh_len, Sh_len]; exact h2⟩⟩
theorem mvC_sh {cs : List Cell} {s e : Cell} : mvC (Sh t cs) (sh t s) (sh t e) = Sh t (mvC cs s e) := by
  unfold mvC Sh
  rw [List.map_map, List.map_map]
  refine List.map_congr_left fun c _ => ?_
  show (if eqC (sh t c) (sh t s) = true then sh t e else sh t c) = sh t (if eqC c s = true then e else c)
  rw [eqC_sh]
  split <;> rfl
theorem FolP_sh : ∀ {p : List (Cell × Cell)} {cs : List Cell}, FolP cs p → FolP (Sh t cs) (ShP t p)
  | [], _, _ => trivial
  | (s, e) :: p, cs, ⟨h1, h2⟩ => by
    refine ⟨h1.sh, ?_⟩
    have := FolP_sh h2
    rw [← mvC_sh] at this
    exact this
theorem folC_sh : ∀ {p : List (Cell × Cell)} {cs : List Cell}, folC (Sh t cs) (ShP t p) = Sh t (folC cs p)
  | [], _ => rfl
  | (s, e) :: p, cs => by
    show folC (mvC (Sh t cs) (sh t s) (sh t e)) (ShP t p) = _
    rw [mvC_sh]
    exact folC_sh
end
theorem row_sh (c : Cell) (n : Nat) : rowC c n = Sh c (rowC (0, 0) n) := by
  unfold rowC Sh
  rw [List.map_map]
  refine List.map_congr_left fun k _ => pair_eq ?_ ?_
  · show c.1 + (k : Int) = 0 + (k : Int) + c.1
    omega
  · show c.2 = 0 + c.2
    omega
theorem stepW_sh (z : Str) (c : Cell) (n : Nat) : stepW z c n = ShP c (stepW z (0, 0) n) := by
  have h1 : crawlW c n = ShP c (crawlW (0, 0) n) := by
    have h : ∀ {a b a' b' : Cell}, a = a' → b = b' → [(a, b)] = [(a', b')] := by
      rintro _ _ _ _ rfl rfl
      rfl
    refine h (pair_eq ?_ ?_) (pair_eq ?_ ?_)
    · show c.1 + ((0 : Nat) : Int) = 0 + ((0 : Nat) : Int) + c.1
      omega
    · show c.2 = 0 + c.2
      omega
    · show c.1 + (n : Int) + ((0 : Nat) : Int) = 0 + (n : Int) + ((0 : Nat) : Int) + c.1
      omega
    · show c.2 = 0 + c.2
      omega
  have h2 : heldW c n = ShP c (heldW (0, 0) n) := by
    have h : ∀ {a b a' b' a2 b2 a2' b2' a3 b3 a3' b3' : Cell}, a = a' → b = b' → a2 = a2' → b2 = b2' → a3 = a3' → b3 = b3' → [(a, b), (a2, b2), (a3, b3)] = [(a', b'), (a2', b2'), (a3', b3')] := by
      rintro _ _ _ _ _ _ _ _ _ _ _ _ rfl rfl rfl rfl rfl rfl
      rfl
    have hc : c = sh c (0, 0) := pair_eq (by show c.1 = 0 + c.1; omega) (by show c.2 = 0 + c.2; omega)
    refine h hc (pair_eq ?_ ?_) (pair_eq ?_ ?_) (pair_eq ?_ ?_) (pair_eq ?_ ?_) (pair_eq ?_ ?_)
    · show c.1 + (n : Int) - 1 = 0 + (n : Int) - 1 + c.1
      omega
    · show c.2 + 1 = 0 + 1 + c.2
      omega
    · show c.1 + 1 = 0 + 1 + c.1
      omega
    · show c.2 = 0 + c.2
      omega
    · show c.1 + (n : Int) = 0 + (n : Int) + c.1
      omega
    · show c.2 = 0 + c.2
      omega
    · show c.1 + (n : Int) - 1 = 0 + (n : Int) - 1 + c.1
      omega
    · show c.2 + 1 = 0 + 1 + c.2
      omega
    · show c.1 + 1 = 0 + 1 + c.1
      omega
    · show c.2 = 0 + c.2
      omega
  unfold stepW
  split
  · exact h1
  · exact h2
end Kx
set_option Elab.async false
set_option linter.all false
set_option maxRecDepth 100000
set_option maxHeartbeats 4000000
/-! P4: the rows of three to eight squares at (0, 0), reckoned. -/
namespace Kx
open PySem L2
def nodI : List Cell → Bool
  | [] => true
  | c :: r => !isin r c && nodI r
theorem nodI_nd : ∀ {l : List Cell}, nodI l = true → l.Nodup
  | [], _ => .nil
  | c :: r, h => by
    have h : (!isin r c && nodI r) = true := h
    rw [Bool.and_eq_true] at h
    refine List.nodup_cons.mpr ⟨fun z => ?_, nodI_nd h.2⟩
    rw [isin_iff.mpr z] at h
    cases h.1
def partsN : List Cell → List Cell → Nat
  | [], _ => 0
  | c :: cs, l => if isin l c = true then partsN cs (takenC l c).1 + 1 else partsN cs l
theorem partsN_is : ∀ (cs l : List Cell), (partsF cs l).length = partsN cs l
  | [], _ => rfl
  | c :: cs, l => by
    unfold partsF partsN
    split
    · rw [List.length_cons, partsN_is cs]
    · exact partsN_is cs l
def hangsI (cs : List Cell) : Bool := partsN (srtI cs) cs == 1
theorem hangsI_is (cs : List Cell) : hangsP cs = hangsI cs := by
  unfold hangsP hangsI
  rw [srtC_I, partsN_is]
def goesI (r : List Cell) (c : Cell) : List Cell := srtI (goF r c)
theorem goesI_is (r : List Cell) (c : Cell) : goesC r c = goesI r c := srtC_I _
def bfsI (r : List Cell) : Nat → Nat → List (Cell × Int) → Option (List (Cell × Int))
  | 0, _, _ => none
  | n + 1, i, q => match q[i]? with
    | some x => bfsI r n (i + 1) (addN x.2 q (goesI r x.1))
    | none => some q
theorem bfsI_is (r : List Cell) : ∀ (n i : Nat) (q : List (Cell × Int)), bfsF r n i q = bfsI r n i q
  | 0, _, _ => rfl
  | n + 1, i, q => by
    unfold bfsF bfsI
    cases q[i]? with
    | none => rfl
    | some x =>
      show bfsF r n (i + 1) (addN x.2 q (goesC r x.1)) = bfsI r n (i + 1) (addN x.2 q (goesI r x.1))
      rw [goesI_is, bfsI_is r n]
def backI (r : List Cell) (far : List (Cell × Int)) (e : Cell) : Nat → Cell → Option (List (Cell × Cell))
  | 0, _ => none
  | n + 1, c => if eqC c e = true then some [] else match look far c with
    | none => none
    | some d => match (goesI r c).filter fun o => decide (look far o = some (d - 1)) with
      | [] => none
      | a :: _ => (backI r far e n a).map ((c, a) :: ·)
theorem backI_is (r : List Cell) (far : List (Cell × Int)) (e : Cell) : ∀ (n : Nat) (c : Cell), backF r far e n c = backI r far e n c
  | 0, _ => rfl
  | n + 1, c => by
    unfold backF backI
    rw [goesI_is]
    split
    · rfl
    · cases look far c with
      | none => rfl
      | some d =>
        show (match (goesI r c).filter (fun o => decide (look far o = some (d - 1))) with | [] => none | a :: _ => (backF r far e n a).map ((c, a) :: ·)) = match (goesI r c).filter (fun o => decide (look far o = some (d - 1))) with | [] => none | a :: _ => (backI r far e n a).map ((c, a) :: ·)
        cases (goesI r c).filter (fun o => decide (look far o = some (d - 1))) with
        | nil => rfl
        | cons a rest =>
          show (backF r far e n a).map ((c, a) :: ·) = (backI r far e n a).map ((c, a) :: ·)
          rw [backI_is r far e n a]
def walkI (b : List Cell) (s e : Cell) : Option (List (Cell × Cell)) := match bfsI (restC b s) 200 0 [(e, 0)] with
  | none => none
  | some far => backI (restC b s) far e 200 s
theorem walkI_is (b : List Cell) (s e : Cell) : walkC b s e = walkI b s e := by
  unfold walkC walkI
  rw [bfsI_is]
  cases bfsI (restC b s) 200 0 [(e, 0)] with
  | none => rfl
  | some far => exact backI_is _ _ _ _ _
def movedI (b : List Cell) (s e : Cell) : List Cell := srtI ((b.filter fun c => !eqC c s) ++ [e])
def fromI (b : List Cell) (s e : Cell) : Bool := match bfsI (restC b s) 200 0 [(s, 0)] with
  | none => false
  | some far => isin (far.map (·.1)) e
def okI (b : List Cell) (s e : Cell) : Bool := nodI b && (decide (b.length ≤ 1000) && (incP b && (hangsI b && (isin b s && (!(restC b s).isEmpty && (nodI (srtI (restC b s)) && (decide ((srtI (restC b s)).length ≤ 1000) && (hangsI (srtI (restC b s)) && fromI b s e))))))))
theorem okI_is {b : List Cell} {s e : Cell} {p : List (Cell × Cell)} (h : okI b s e = true) (hw : walkI b s e = some p) : WalkP b s e p := by
  unfold okI at h
  simp only [Bool.and_eq_true, decide_eq_true_eq] at h
  obtain ⟨h1, h2, h3, h4, h5, h6, h7, h8, h9, h10⟩ := h
  have c : Cs b := ⟨nodI_nd h1, h2⟩
  refine ⟨⟨c, h3, by rw [hangsI_is]; exact h4⟩, ⟨c, h5, (fun z => (by rw [z] at h6; cases h6)), by rw [srtC_I]; exact ⟨nodI_nd h7, h8⟩, by rw [srtC_I, hangsI_is]; exact h9⟩, ?_, by rw [walkI_is]; exact hw⟩
  unfold fromI at h10
  rw [bfsI_is]
  cases hb : bfsI (restC b s) 200 0 [(s, 0)] with
  | none =>
    rw [hb] at h10
    cases h10
  | some far =>
    rw [hb] at h10
    exact ⟨far, rfl, h10⟩
def walkedI : List Cell → List (Cell × Cell) → Option (List (Cell × Cell))
  | _, [] => some []
  | b, (s, e) :: ws => match walkI b s e with
    | none => none
    | some p1 => if okI b s e = true then (walkedI (movedI b s e) ws).map (p1 ++ ·) else none
theorem walkedI_is : ∀ {ws : List (Cell × Cell)} {b : List Cell} {p : List (Cell × Cell)}, walkedI b ws = some p → WalkedP b ws p
  | [], b, p, h => by
    cases h
    rfl
  | (s, e) :: ws, b, p, h => by
    unfold walkedI at h
    cases hw : walkI b s e with
    | none =>
      rw [hw] at h
      cases h
    | some p1 =>
      rw [hw] at h
      have h : (if okI b s e = true then (walkedI (movedI b s e) ws).map (p1 ++ ·) else none) = some p := h
      by_cases ho : okI b s e = true
      · rw [if_pos ho] at h
        obtain ⟨p2, h2, h3⟩ := Option.map_eq_some_iff.mp h
        refine ⟨p1, p2, okI_is ho hw, ?_, h3.symm⟩
        have : movedC b s e = movedI b s e := srtC_I _
        rw [this]
        exact walkedI_is h2
      · rw [if_neg ho] at h
        cases h
def hwI (cs : List Cell) : Option (List Cell) := if (nodI cs && (decide (cs.length ≤ 100) && !cs.isEmpty)) = true then (match srtI cs with | [] => none | first :: _ => hangW cs 1000 [] [first]) else none
theorem hwI_is {cs seen : List Cell} (h : hwI cs = some seen) : HwP cs seen := by
  unfold hwI at h
  by_cases hc : (nodI cs && (decide (cs.length ≤ 100) && !cs.isEmpty)) = true
  · rw [if_pos hc] at h
    simp only [Bool.and_eq_true, decide_eq_true_eq] at hc
    refine ⟨nodI_nd hc.1, hc.2.1, (fun z => (by rw [z] at hc; cases hc.2.2)), ?_⟩
    rw [srtC_I]
    cases hs : srtI cs with
    | nil =>
      rw [hs] at h
      cases h
    | cons first rest =>
      rw [hs] at h
      exact ⟨first, rest, rfl, h⟩
  · rw [if_neg hc] at h
    cases h
def wholeI (cs : List Cell) : Bool := match hwI cs with
  | none => false
  | some seen => seen.length == cs.length
theorem wholeI_is {cs : List Cell} (h : wholeI cs = true) : ∃ seen, HwP cs seen ∧ seen.length = cs.length := by
  unfold wholeI at h
  cases hs : hwI cs with
  | none =>
    rw [hs] at h
    cases h
  | some seen =>
    rw [hs] at h
    exact ⟨seen, hwI_is hs, beq_iff_eq.mp h⟩
def far4 (cs : List Cell) (s e : Cell) : List (Cell × Int) := bfs4 (restC cs s) s (8 * cs.length + 8) 0 [(e, 0)]
def walk4I (cs : List Cell) (s e : Cell) : Option (List (Cell × Cell)) :=
  if (nodI cs && (decide (cs.length ≤ 100) && (!eqC s e && (!(restC cs s).isEmpty && (wholeI (restC cs s) && (!isin (restC cs s) e && (decide (look (far4 cs s e) s = some ((((look (far4 cs s e) s).getD 0).toNat : Nat) : Int)) && decide (((look (far4 cs s e) s).getD 0).toNat ≤ 900)))))))) = true then
    back4 (restC cs s) (far4 cs s e) ((look (far4 cs s e) s).getD 0).toNat s else none
theorem walk4I_is {cs : List Cell} {s e : Cell} {p : List (Cell × Cell)} (h : walk4I cs s e = some p) : Walk4P cs s e p := by
  unfold walk4I at h
  split at h
  · next hc =>
    simp only [Bool.and_eq_true, decide_eq_true_eq, Bool.not_eq_true'] at hc
    obtain ⟨h1, h2, h3, h4, h5, h6, h7, h8⟩ := hc
    exact ⟨nodI_nd h1, h2, h3, (fun z => (by rw [z] at h4; cases h4)), wholeI_is h5, h6, far4 cs s e, _, rfl, h7, h8, h⟩
  · cases h
def walks4I : List Cell → List (Cell × Cell) → Option (List (Cell × Cell))
  | _, [] => some []
  | b, (s, e) :: ws => match walk4I b s e with
    | none => none
    | some p1 => (walks4I (movedI b s e) ws).map (p1 ++ ·)
theorem walks4I_is : ∀ {ws : List (Cell × Cell)} {b : List Cell} {p : List (Cell × Cell)}, walks4I b ws = some p → Walks4P b ws p
  | [], b, p, h => by
    cases h
    rfl
  | (s, e) :: ws, b, p, h => by
    unfold walks4I at h
    cases hw : walk4I b s e with
    | none =>
      rw [hw] at h
      cases h
    | some p1 =>
      rw [hw] at h
      obtain ⟨p2, h2, h3⟩ := Option.map_eq_some_iff.mp h
      refine ⟨p1, p2, walk4I_is hw, ?_, h3.symm⟩
      have : movedC b s e = movedI b s e := srtC_I _
      rw [this]
      exact walks4I_is h2
def mayI (cs : List Cell) (s e : Cell) : Bool := nodI cs && (decide (cs.length ≤ 100) && (isin cs s && (!isin cs e && (goodW cs s e && wholeI (cs.filter fun c => !eqC c s)))))
theorem mayI_is {cs : List Cell} {s e : Cell} (h : mayI cs s e = true) : MayP cs s e := by
  unfold mayI at h
  simp only [Bool.and_eq_true, decide_eq_true_eq, Bool.not_eq_true'] at h
  obtain ⟨h1, h2, h3, h4, h5, h6⟩ := h
  exact ⟨nodI_nd h1, h2, h3, h4, h5, wholeI_is h6⟩
def folI : List Cell → List (Cell × Cell) → Bool
  | _, [] => true
  | cs, (s, e) :: r => mayI cs s e && folI (mvC cs s e) r
theorem folI_is : ∀ {p : List (Cell × Cell)} {cs : List Cell}, folI cs p = true → FolP cs p
  | [], _, _ => trivial
  | (s, e) :: r, cs, h => by
    have h : (mayI cs s e && folI (mvC cs s e) r) = true := h
    rw [Bool.and_eq_true] at h
    exact ⟨mayI_is h.1, folI_is h.2⟩
/-- a step over any things -/
def stepG {α : Type} (o : List α) (z : Str) : List α := if z = "turn" then o.drop 1 ++ o.take 1 else (o.take 1 ++ o.drop 2) ++ (o.drop 1).take 1
def planI (z : Str) (n : Nat) : List (Cell × Cell) := (walkedI (rowC (0, 0) n) (stepW z (0, 0) n)).getD []
def chkI (z : Str) (n : Nat) : Bool := decide (walkedI (rowC (0, 0) n) (stepW z (0, 0) n) = some (planI z n)) && (decide (walks4I (rowC (0, 0) n) (stepW z (0, 0) n) = some (planI z n)) && (decide ((planI z n).length ≤ 1000) && (folI (rowC (0, 0) n) (planI z n) && decide (stepG (folC (rowC (0, 0) n) (planI z n)) z = rowC (1, 0) n))))
theorem chk_t3 : chkI "turn" 3 = true := by decide +kernel
theorem chk_h3 : chkI "hold" 3 = true := by decide +kernel
theorem chk_t4 : chkI "turn" 4 = true := by decide +kernel
theorem chk_h4 : chkI "hold" 4 = true := by decide +kernel
theorem chk_t5 : chkI "turn" 5 = true := by decide +kernel
theorem chk_h5 : chkI "hold" 5 = true := by decide +kernel
theorem chk_t6 : chkI "turn" 6 = true := by decide +kernel
theorem chk_h6 : chkI "hold" 6 = true := by decide +kernel
theorem chk_t7 : chkI "turn" 7 = true := by decide +kernel
theorem chk_h7 : chkI "hold" 7 = true := by decide +kernel
theorem chk_t8 : chkI "turn" 8 = true := by decide +kernel
theorem chk_h8 : chkI "hold" 8 = true := by decide +kernel
theorem chk_all (z : Str) (n : Nat) (hz : z = "turn" ∨ z = "hold") (h3 : 3 ≤ n) (h8 : n ≤ 8) : chkI z n = true := by
  have hn : n = 3 ∨ n = 4 ∨ n = 5 ∨ n = 6 ∨ n = 7 ∨ n = 8 := by omega
  rcases hz with rfl | rfl
  · rcases hn with rfl | rfl | rfl | rfl | rfl | rfl
    · exact chk_t3
    · exact chk_t4
    · exact chk_t5
    · exact chk_t6
    · exact chk_t7
    · exact chk_t8
  · rcases hn with rfl | rfl | rfl | rfl | rfl | rfl
    · exact chk_h3
    · exact chk_h4
    · exact chk_h5
    · exact chk_h6
    · exact chk_h7
    · exact chk_h8
/-- what is reckoned, anywhere -/
theorem step_any (z : Str) (n : Nat) (c : Cell) (hz : z = "turn" ∨ z = "hold") (h3 : 3 ≤ n) (h8 : n ≤ 8) : ∃ plan fc, WalkedP (rowC c n) (stepW z c n) plan ∧ Walks4P (rowC c n) (stepW z c n) plan ∧ plan.length ≤ 1000 ∧ FolP (rowC c n) plan ∧ folC (rowC c n) plan = fc ∧ stepG fc z = rowC (c.1 + 1, c.2) n ∧ fc.length = n := by
  have h := chk_all z n hz h3 h8
  unfold chkI at h
  simp only [Bool.and_eq_true, decide_eq_true_eq] at h
  obtain ⟨h1, h2, h4, h5, h6⟩ := h
  refine ⟨ShP c (planI z n), Sh c (folC (rowC (0, 0) n) (planI z n)), ?_, ?_, ?_, ?_, ?_, ?_, ?_⟩
  · rw [row_sh c, stepW_sh z c]
    exact (walkedI_is h1).sh
  · rw [row_sh c, stepW_sh z c]
    exact (walks4I_is h2).sh
  · exact Nat.le_trans (Nat.le_of_eq (List.length_map _)) h4
  · rw [row_sh c]
    exact FolP_sh (folI_is h5)
  · rw [row_sh c]
    exact folC_sh
  · have e : ∀ l : List Cell, stepG (Sh c l) z = Sh c (stepG l z) := fun l => by
      unfold stepG Sh
      split
      · rw [List.map_append, List.map_drop, List.map_take]
      · rw [List.map_append, List.map_append, List.map_drop, List.map_take, List.map_take, List.map_drop]
    rw [e, h6]
    unfold rowC Sh
    rw [List.map_map]
    refine List.map_congr_left fun k _ => pair_eq ?_ ?_
    · show 1 + (k : Int) + c.1 = c.1 + 1 + (k : Int)
      omega
    · show 0 + c.2 = c.2
      omega
  · rw [Sh_len, folC_len, rowC_len]
/-- the bent row hangs together -/
def bentI (n : Nat) : List Cell := (rowC (0, 0) n).set (n - 1) ((n : Int) - 2, 1)
theorem bent_h3 : hangsI (bentI 3) = true ∧ nodI (bentI 3) = true ∧ hangsI (rowC (0, 0) 3) = true := by decide +kernel
theorem bent_h4 : hangsI (bentI 4) = true ∧ nodI (bentI 4) = true ∧ hangsI (rowC (0, 0) 4) = true := by decide +kernel
theorem bent_h5 : hangsI (bentI 5) = true ∧ nodI (bentI 5) = true ∧ hangsI (rowC (0, 0) 5) = true := by decide +kernel
theorem bent_h6 : hangsI (bentI 6) = true ∧ nodI (bentI 6) = true ∧ hangsI (rowC (0, 0) 6) = true := by decide +kernel
theorem bent_h7 : hangsI (bentI 7) = true ∧ nodI (bentI 7) = true ∧ hangsI (rowC (0, 0) 7) = true := by decide +kernel
theorem bent_h8 : hangsI (bentI 8) = true ∧ nodI (bentI 8) = true ∧ hangsI (rowC (0, 0) 8) = true := by decide +kernel
theorem bent_all (n : Nat) (h3 : 3 ≤ n) (h8 : n ≤ 8) : hangsI (bentI n) = true ∧ nodI (bentI n) = true ∧ hangsI (rowC (0, 0) n) = true := by
  have hn : n = 3 ∨ n = 4 ∨ n = 5 ∨ n = 6 ∨ n = 7 ∨ n = 8 := by omega
  rcases hn with rfl | rfl | rfl | rfl | rfl | rfl
  · exact bent_h3
  · exact bent_h4
  · exact bent_h5
  · exact bent_h6
  · exact bent_h7
  · exact bent_h8
end Kx
set_option Elab.async false
set_option linter.all false
set_option maxRecDepth 100000
set_option maxHeartbeats 1000000
/-! P5: placings, their orders. -/
namespace Kx
open PySem L2
theorem isin_perm {l l' : List Cell} {c : Cell} (p : l.Perm l') : isin l c = isin l' c := by rw [Bool.eq_iff_iff, isin_iff, isin_iff, p.mem_iff]
theorem rmC_perm {l l' : List Cell} {c : Cell} (p : l.Perm l') : (rmC l c).Perm (rmC l' c) := p.filter _
theorem pushC_perm : ∀ (os l l' u : List Cell), l.Perm l' → (pushC l u os).1.Perm (pushC l' u os).1 ∧ (pushC l u os).2 = (pushC l' u os).2
  | [], l, l', u, p => ⟨p, rfl⟩
  | o :: os, l, l', u, p => by
    unfold pushC
    rw [isin_perm (c := o) p]
    split
    · exact pushC_perm os _ _ _ (rmC_perm p)
    · exact pushC_perm os _ _ _ p
theorem takeF_perm : ∀ (n : Nat) (l l' f u : List Cell), l.Perm l' → (takeF n l f u).1.Perm (takeF n l' f u).1
  | 0, l, l', f, u, p => p
  | n + 1, l, l', f, u, p => by
    unfold takeF
    cases u.getLast? with
    | none => exact p
    | some one =>
      obtain ⟨h1, h2⟩ := pushC_perm (besideC one) l l' u.dropLast p
      show (takeF n (pushC l u.dropLast (besideC one)).1 (f ++ [one]) (pushC l u.dropLast (besideC one)).2).1.Perm (takeF n (pushC l' u.dropLast (besideC one)).1 (f ++ [one]) (pushC l' u.dropLast (besideC one)).2).1
      rw [h2]
      exact takeF_perm n _ _ _ _ h1
theorem takenC_perm {l l' : List Cell} {c : Cell} (p : l.Perm l') : (takenC l c).1.Perm (takenC l' c).1 := by
  unfold takenC
  rw [(rmC_perm (c := c) p).length_eq]
  exact takeF_perm _ _ _ _ _ (rmC_perm p)
theorem partsN_perm : ∀ (cs l l' : List Cell), l.Perm l' → partsN cs l = partsN cs l'
  | [], _, _, _ => rfl
  | c :: cs, l, l', p => by
    unfold partsN
    rw [isin_perm (c := c) p]
    split
    · rw [partsN_perm cs _ _ (takenC_perm p)]
    · exact partsN_perm cs _ _ p
theorem hangsP_perm {cs ds : List Cell} (p : cs.Perm ds) : hangsP cs = hangsP ds := by
  have e : srtC cs = srtC ds := srtC_is ((srtC_perm ds).trans p.symm) (srtC_sorted ds)
  unfold hangsP
  rw [e, partsN_is, partsN_is, partsN_perm _ _ _ p]
theorem adj_all {α : Type} {f : α → α → Bool} : ∀ {l : List α}, l.Pairwise (fun a b => f a b = true) → ((l.zip (l.drop 1)).all fun p => f p.1 p.2) = true
  | [], _ => rfl
  | [_], _ => rfl
  | x :: y :: r, h => by
    have hh := List.pairwise_cons.mp h
    have ih := adj_all hh.2
    show (f x y && (((y :: r).zip r).all fun p => f p.1 p.2)) = true
    rw [hh.1 y List.mem_cons_self, Bool.true_and]
    exact ih
theorem map_inj_on {α β : Type} {f : α → β} : ∀ {l : List α}, (l.map f).Nodup → ∀ a ∈ l, ∀ b ∈ l, f a = f b → a = b
  | [], _, _, h, _, _, _ => by cases h
  | x :: l, nd, a, ha, b, hb, e => by
    rw [List.map_cons, List.nodup_cons] at nd
    rcases List.mem_cons.mp ha with ea | ha
    · rcases List.mem_cons.mp hb with eb | hb
      · rw [ea, eb]
      · rw [ea] at e
        exact absurd (e ▸ List.mem_map_of_mem hb) nd.1
    · rcases List.mem_cons.mp hb with eb | hb
      · rw [eb] at e
        exact absurd (e ▸ List.mem_map_of_mem ha) nd.1
      · exact map_inj_on nd.2 a ha b hb e
theorem srtS_strict {ns : List Str} (nd : ns.Nodup) : (srtS ns).Pairwise fun a b => ltS a b = true := by
  have h1 := srtS_sorted ns
  have h2 : (srtS ns).Nodup := (srtS_perm ns).nodup_iff.mpr nd
  refine (List.Pairwise.and h1 h2).imp fun {a b} h => ?_
  obtain ⟨h1, h2⟩ := h
  unfold ltS
  rw [decide_eq_true_eq]
  by_cases h : a.cps.toList < b.cps.toList
  · exact h
  · exfalso
    rw [leS, decide_eq_true_eq] at h1
    exact h2 (Str.ext' (Std.le_antisymm h1 (List.not_lt.mp h)))
theorem plP_of {ps : List (Str × Cell)} {ns : List Str} {cs : List Cell} (hn : NmP ns) (hs : ps.map (·.1) = srtS ns) (hc : (ps.map (·.2)).Perm cs) (nd : cs.Nodup) (hh : hangsP cs = true) : PlP ps := by
  have hl : ps.length = ns.length := by
    have := congrArg List.length hs
    rw [List.length_map, (srtS_perm ns).length_eq] at this
    exact this
  have h60 := hn.l60
  have ndc := hc.nodup_iff.mpr nd
  refine ⟨fun p hp => hn.ok _ ((srtS_perm ns).mem_iff.mp (hs ▸ List.mem_map_of_mem hp)), ?_, ⟨ndc, by rw [List.length_map]; omega⟩, ndc, by omega, by rw [hangsP_perm hc]; exact hh⟩
  refine adj_all (f := fun a b : Str × Cell => ltS a.1 b.1) ?_
  have h := srtS_strict hn.nd
  rw [← hs, List.pairwise_map] at h
  exact h
theorem zip_self {α β : Type} {f : α → β} : ∀ {l : List α}, l.zip (l.map f) = l.map fun z => (z, f z)
  | [] => rfl
  | x :: l => by rw [List.map_cons, List.map_cons, List.zip_cons_cons, zip_self]
theorem told_zip {ns : List Str} {cs : List Cell} (nd : ns.Nodup) (hl : ns.length = cs.length) : (toldC ns cs).Perm (ns.zip cs) := by
  have e : ns.zip cs = ns.map fun z => (z, cellOf ns cs z) := by
    conv => lhs; rw [← cells_of nd hl]
    exact zip_self
  rw [e]
  exact (srtS_perm ns).map _
/-! ### sorted by cells -/
theorem eqv_str {a b : Str} : PyData.eqv (.str a) (.str b) = (a == b) := rfl
theorem cn_le {qs : List (Cell × Str)} (nd : (qs.map (·.1)).Nodup) : ∀ a ∈ qs, ∀ b ∈ qs, PySem.W.dataLe false encCN a b = leC a.1 b.1 := fun a ha b hb => by
  have h0 : PySem.W.dataLe false encCN a b = !PySem.W.dataLt (encCN b) (encCN a) := rfl
  have h1 : PySem.W.dataLt (encCN b) (encCN a) = if PyData.eqv (encC b.1) (encC a.1) = true then (if PyData.eqv (.str b.2) (.str a.2) = true then false else PySem.W.dataLt (.str b.2) (.str a.2)) else PySem.W.dataLt (encC b.1) (encC a.1) := PySem.W.dataLt_pair rfl rfl
  rw [h0, h1, eqv_cell]
  by_cases h : b.1 = a.1
  · have e : b = a := map_inj_on nd b hb a ha h
    rw [e, if_pos (eqC_iff.mpr rfl), if_pos (by rw [eqv_str]; exact beq_self_eq_true _)]
    unfold leC
    exact (decide_eq_true (by omega)).symm
  · rw [if_neg (fun z => h (eqC_iff.mp z))]
    have : (!PySem.W.dataLt (encC b.1) (encC a.1)) = PySem.W.dataLe false encC a.1 b.1 := rfl
    rw [this, dle]
theorem srtCN_is {qs T : List (Cell × Str)} (p : T.Perm qs) (s : (T.map (·.1)).Pairwise fun a b => leC a b = true) (nd : (qs.map (·.1)).Nodup) : srtCN qs = T := by
  have e : (srtCN qs).map (·.1) = (qs.map (·.1)).mergeSort leC := List.map_mergeSort (r := PySem.W.dataLe false encCN) (s := leC) (f := fun q : Cell × Str => q.1) (cn_le nd)
  have s1 : ((srtCN qs).map (·.1)).Pairwise fun a b => leC a b = true := by
    rw [e]
    exact List.pairwise_mergeSort leC_trans leC_total _
  rw [List.pairwise_map] at s1 s
  have p1 : (srtCN qs).Perm qs := List.mergeSort_perm qs _
  exact List.Perm.eq_of_pairwise (fun a b ha hb h1 h2 => map_inj_on nd a (p1.mem_iff.mp ha) b (p.mem_iff.mp hb) (leC_anti _ _ h1 h2)) s1 s (p1.trans p.symm)
/-! ### sorted by names -/
theorem nc_le {qs : List (Str × Cell)} (nd : (qs.map (·.1)).Nodup) : ∀ a ∈ qs, ∀ b ∈ qs, PySem.W.dataLe false encNC a b = PySem.W.dataLe false PyData.str a.1 b.1 := fun a ha b hb => by
  have h0 : PySem.W.dataLe false encNC a b = !PySem.W.dataLt (encNC b) (encNC a) := rfl
  have h1 : PySem.W.dataLt (encNC b) (encNC a) = if PyData.eqv (.str b.1) (.str a.1) = true then (if PyData.eqv (encC b.2) (encC a.2) = true then false else PySem.W.dataLt (encC b.2) (encC a.2)) else PySem.W.dataLt (.str b.1) (.str a.1) := PySem.W.dataLt_pair rfl rfl
  rw [h0, h1, eqv_str]
  by_cases h : b.1 = a.1
  · have e : b = a := map_inj_on nd b hb a ha h
    rw [e, if_pos (beq_self_eq_true _), if_pos (by rw [eqv_cell]; exact eqC_iff.mpr rfl), leS]
    exact (decide_eq_true (Std.le_refl _)).symm
  · rw [if_neg (fun z => h (beq_iff_eq.mp z))]
    rfl
theorem srtNC_fst {qs : List (Str × Cell)} (nd : (qs.map (·.1)).Nodup) : (srtNC qs).map (·.1) = srtS (qs.map (·.1)) := List.map_mergeSort (r := PySem.W.dataLe false encNC) (s := PySem.W.dataLe false PyData.str) (f := fun q : Str × Cell => q.1) (nc_le nd)
/-! ### rows -/
theorem row_sorted (c : Cell) (n : Nat) : (rowC c n).Pairwise fun a b => leC a b = true := by
  unfold rowC
  rw [List.pairwise_map]
  refine List.pairwise_lt_range.imp fun {i j} h => ?_
  unfold leC
  exact decide_eq_true (.inl (by
    show c.1 + (i : Int) < c.1 + (j : Int)
    omega))
theorem row_nd (c : Cell) (n : Nat) : (rowC c n).Nodup := by
  unfold rowC
  refine List.Pairwise.map _ (fun i j h z => h ?_) List.nodup_range
  injection z with z _
  omega
theorem row_snd {c x : Cell} {n : Nat} (h : x ∈ rowC c n) : x.2 = c.2 := by
  obtain ⟨k, _, rfl⟩ := List.mem_map.mp h
  rfl
theorem stepG_perm {α : Type} {o : List α} {z : Str} (h : 3 ≤ o.length) : (stepG o z).Perm o := by
  match o, h with
  | a :: b :: r, _ =>
    unfold stepG
    split
    · exact List.perm_append_comm (l₁ := b :: r) (l₂ := [a])
    · exact (List.perm_append_comm (l₁ := r) (l₂ := [b])).cons a
  | [_], h => simp at h
theorem stepG_zip {α β : Type} {o : List α} {u : List β} {z : Str} (h : 3 ≤ o.length) (hl : o.length = u.length) : (stepG o z).zip (stepG u z) = stepG (o.zip u) z := by
  match o, u, h, hl with
  | a :: b :: r, x :: y :: q, _, hl =>
    have hl : r.length = q.length := by simpa using hl
    unfold stepG
    split
    · show (b :: (r ++ [a])).zip (y :: (q ++ [x])) = (b, y) :: (r.zip q ++ [(a, x)])
      rw [List.zip_cons_cons, List.zip_append hl]
      rfl
    · show (a :: (r ++ [b])).zip (x :: (q ++ [y])) = (a, x) :: (r.zip q ++ [(b, y)])
      rw [List.zip_cons_cons, List.zip_append hl]
      rfl
  | a :: b :: r, [x], _, hl => simp at hl
  | a :: b :: r, [], _, hl => simp at hl
  | [_], _, h, _ => simp at h
theorem zip_swap' {α β : Type} : ∀ {l : List α} {m : List β}, (l.zip m).map (fun p : α × β => (p.2, p.1)) = m.zip l
  | [], _ => by rw [List.zip_nil_right]; rfl
  | _ :: _, [] => rfl
  | x :: l, y :: m => by rw [List.zip_cons_cons, List.zip_cons_cons, List.map_cons, zip_swap']
theorem step_ok (c : Cell) (ns : List Str) (z : Str) (hn : NmP ns) (h8 : ns.length ≤ 8) (hz : z = "turn" ∨ z = "hold") : StepP c ns z := by
  have h3 := hn.l3
  obtain ⟨plan, fc, hW, hW4, hpl, hF, hfc, hst, hfl⟩ := step_any z ns.length c hz h3 h8
  have pm : (rowC (c.1 + 1, c.2) ns.length).Perm fc := by
    rw [← hst]
    exact stepG_perm (by omega)
  have ndf : fc.Nodup := pm.nodup_iff.mp (row_nd _ _)
  have hh : hangsP fc = true := by
    rw [← hangsP_perm pm, row_sh, hangsP_sh, hangsI_is]
    exact (bent_all ns.length h3 h8).2.2
  have htz := told_zip hn.nd hfl.symm
  have hlen : (toldC ns fc).length = ns.length := by
    rw [htz.length_eq, List.length_zip]
    omega
  obtain ⟨p0, ps, he⟩ : ∃ p0 ps, toldC ns fc = p0 :: ps := by
    cases h : toldC ns fc with
    | nil =>
      rw [h] at hlen
      simp at hlen
      omega
    | cons p0 ps => exact ⟨p0, ps, rfl⟩
  have hs : (toldC ns fc).map (·.1) = srtS ns := by
    unfold toldC
    rw [List.map_map]
    exact List.map_id' _
  have hc : ((toldC ns fc).map (·.2)).Perm fc := by
    have := htz.map (fun p : Str × Cell => p.2)
    rwa [show (ns.zip fc).map (fun p : Str × Cell => p.2) = fc from List.map_snd_zip (by omega)] at this
  have hP : PlP (toldC ns fc) := plP_of hn hs hc ndf hh
  refine ⟨hn, plan, p0, ps, hW, hW4, hpl, hF, by rw [hfc]; exact he, he ▸ hP, ?_, by rw [hfc]; exact srtC_is pm (row_sorted _ _)⟩
  have hrow : ∀ p ∈ toldC ns fc, p.2.2 = c.2 := fun p hp => row_snd (c := (c.1 + 1, c.2)) (pm.mem_iff.mpr (hc.mem_iff.mp (List.mem_map_of_mem hp)))
  have hall : ((p0 :: ps).all fun p => decide (p.2.2 = p0.2.2)) = true := by
    rw [← he]
    refine List.all_eq_true.mpr fun p hp => decide_eq_true ?_
    rw [hrow p hp, hrow p0 (by rw [he]; exact List.mem_cons_self)]
  unfold ordR
  rw [if_pos hall, ← he]
  have hsw : ((toldC ns fc).map fun p => (p.2, p.1)).Perm (fc.zip ns) := by
    have := htz.map (fun p : Str × Cell => (p.2, p.1))
    rwa [show (ns.zip fc).map (fun p : Str × Cell => (p.2, p.1)) = fc.zip ns from zip_swap'] at this
  have hT : ((rowC (c.1 + 1, c.2) ns.length).zip (stepF ns z)).Perm (fc.zip ns) := by
    have e : stepF ns z = stepG ns z := rfl
    rw [← hst, e, stepG_zip (by omega) hfl]
    exact stepG_perm (by rw [List.length_zip]; omega)
  have hl1 : (rowC (c.1 + 1, c.2) ns.length).length = (stepF ns z).length := by rw [rowC_len, stepF_len]
  have hf1 : ((rowC (c.1 + 1, c.2) ns.length).zip (stepF ns z)).map (fun q : Cell × Str => q.1) = rowC (c.1 + 1, c.2) ns.length := List.map_fst_zip (by omega)
  have hf2 : ((rowC (c.1 + 1, c.2) ns.length).zip (stepF ns z)).map (fun q : Cell × Str => q.2) = stepF ns z := List.map_snd_zip (by omega)
  rw [srtCN_is (hT.trans hsw.symm) (by rw [hf1]; exact row_sorted _ _) (by
    rw [List.map_map]
    exact hc.nodup_iff.mpr ndf), hf2]
theorem bent_ok (c : Cell) (ns : List Str) (hn : NmP ns) (h8 : ns.length ≤ 8) : ∃ p0 ps, srtNC (bentC c ns) = p0 :: ps ∧ PlP (p0 :: ps) ∧ ordR p0 ps = rNon := by
  have h3 := hn.l3
  obtain ⟨b1, b2, _⟩ := bent_all ns.length h3 h8
  have hf1 : (bentC c ns).map (·.1) = ns := by
    unfold bentC
    rw [List.map_set, show (ns.zip (rowC c ns.length)).map (fun p : Str × Cell => p.1) = ns from List.map_fst_zip (by rw [rowC_len]; exact Nat.le_refl _)]
    rw [List.getD_eq_getElem?_getD, List.getElem?_eq_getElem (by omega)]
    exact List.set_getElem_self _
  have hf2 : (bentC c ns).map (·.2) = Sh c (bentI ns.length) := by
    unfold bentC bentI Sh
    rw [List.map_set, List.map_set, show (ns.zip (rowC c ns.length)).map (fun p : Str × Cell => p.2) = rowC c ns.length from List.map_snd_zip (by rw [rowC_len]; exact Nat.le_refl _), row_sh]
    congr 1
    exact pair_eq (by show c.1 + (ns.length : Int) - 2 = (ns.length : Int) - 2 + c.1; omega) (by show c.2 + 1 = 1 + c.2; omega)
  have p1 : (srtNC (bentC c ns)).Perm (bentC c ns) := List.mergeSort_perm _ _
  have hs : (srtNC (bentC c ns)).map (·.1) = srtS ns := by
    rw [srtNC_fst (by rw [hf1]; exact hn.nd), hf1]
  have hc : ((srtNC (bentC c ns)).map (·.2)).Perm (Sh c (bentI ns.length)) := by
    have := p1.map (fun p : Str × Cell => p.2)
    rwa [show (bentC c ns).map (fun p : Str × Cell => p.2) = _ from hf2] at this
  have hP : PlP (srtNC (bentC c ns)) := plP_of hn hs hc (nd_sh (nodI_nd b2)) (by rw [hangsP_sh, hangsI_is]; exact b1)
  have hlen : (srtNC (bentC c ns)).length = ns.length := by
    have := congrArg List.length hs
    rw [List.length_map, (srtS_perm ns).length_eq] at this
    exact this
  obtain ⟨p0, ps, he⟩ : ∃ p0 ps, srtNC (bentC c ns) = p0 :: ps := by
    cases h : srtNC (bentC c ns) with
    | nil =>
      rw [h] at hlen
      simp at hlen
      omega
    | cons p0 ps => exact ⟨p0, ps, rfl⟩
  refine ⟨p0, ps, he, he ▸ hP, ?_⟩
  unfold ordR
  rw [if_neg]
  intro hall
  have hbl : (bentI ns.length).length = ns.length := by
    unfold bentI
    rw [List.length_set, rowC_len]
  have all2 : ∀ x ∈ Sh c (bentI ns.length), x.2 = p0.2.2 := fun x hx => by
    obtain ⟨p, hp, rfl⟩ := List.mem_map.mp (hc.mem_iff.mpr hx)
    rw [he] at hp
    exact of_decide_eq_true (List.all_eq_true.mp hall p hp)
  have m1 : sh c ((0 : Int) + ((0 : Nat) : Int), 0) ∈ Sh c (bentI ns.length) := mem_sh.mpr (by
    have e : (bentI ns.length)[0]'(by omega) = ((0 : Int) + ((0 : Nat) : Int), 0) := by
      unfold bentI rowC
      rw [List.getElem_set_ne (by omega), List.getElem_map, List.getElem_range]
    rw [← e]
    exact List.getElem_mem _)
  have m2 : sh c ((ns.length : Int) - 2, 1) ∈ Sh c (bentI ns.length) := mem_sh.mpr (by
    have e : (bentI ns.length)[ns.length - 1]'(by omega) = ((ns.length : Int) - 2, 1) := by
      unfold bentI
      rw [List.getElem_set_self]
    rw [← e]
    exact List.getElem_mem _)
  have h1 := all2 _ m1
  have h2 := all2 _ m2
  have h1 : 0 + c.2 = p0.2.2 := h1
  have h2 : 1 + c.2 = p0.2.2 := h2
  omega
end Kx
set_option Elab.async false
set_option linter.all false
/-! P9: what the law rests on. -/
namespace Kx
theorem lawH : LawH := ⟨nm_ok, srt_ok, step_ok, bent_ok⟩
end Kx
set_option Elab.async false
set_option linter.all false
set_option maxRecDepth 100000
open PySem PySem.W PyProof.Rows
set_option maxHeartbeats 0 in
theorem PySem.Challenge.cw_slideinto_k61_whole_rows_of_names_holds : PySem.Challenge.rw_slideinto_k61_whole_rows_of_names.Holds := by
  w_on; o_law; k_head; (case hw => w_witness2)
  k_fill
  refine L2.walk_of (l := PySem.Challenge.rw_slideinto_k61_whole_rows_of_names) (n := 63) (k := 16) (x := "_law_script") (CX := fun _ => L2.CX0) (sp := fun w => Kx.spLaw _) rfl (by decide) rfl ⟨rfl, by decide, by decide⟩ (fun w h Y => PySem.W.kIn_of Y) ?F (fun _ _ a ns hl _ hS => Kx.law_in hl hS) (fun _ _ _ _ _ h => h)
  case F =>
    intro w mg fa h KX G hmg
    refine' Kx.all_mk Kx.lawH KX G hmg ?tx ?dis_whole ?dis_list ?dis_name ?dis_cell ?dcheck_cell_bodies ?dcheck_cell_walks ?dbeside ?dtaken_part ?dparts_of ?dhangs ?dis_body ?dcheck_body ?drest_of ?dgoes_to ?dways_from ?dways_back ?dwalk ?dcheck_first ?dcheck_many ?dcheck_by ?drow_at ?dwalked ?dcrawl ?dis_named_cell ?dis_placing ?dcheck_placing ?dorder_of ?dturned_row ?dheld_row ?dare_names ?dcheck_order ?dstepped ?dsorting ?dorder_behind ?dlaw_pen ?dlaw_draw ?dlaw_pick ?dlaw_big ?dlaw_shuffled ?dlaw_w_beside ?dlaw_w_hangs ?dlaw_w_may ?dlaw_w_moved ?dlaw_t4both ?dlaw_t4goes ?dlaw_t4walk ?dlaw_t4walks ?dlaw_t4row ?dlaw_t4along ?dlaw_t4names ?dlaw_t4told ?dlaw_t4followed ?dlaw_t4held ?dlaw_t4stepped ?dlaw_t4passes ?dlaw_step_right ?dlaw
    (case tx => refine' { isinstance := ?zisinstance, len := ?zlen, all := ?zall, abs := ?zabs, sorted := ?zsorted, zip := ?zzip, list := ?zlist, tuple := ?ztuple, range := ?zrange, enumerate := ?zenumerate, int := ?zint, bool := ?zbool, str := ?zstr, reversed := ?zreversed, dict := ?zdict, SMALL := Kx.small_mk ?zSMALL, SIGNS := Kx.small_mk ?zSIGNS, TURNS := Kx.turns_mk ?u0 ?u1 ?u2 ?u3 ?u4 ?u5, WORDS := Kx.words_mk ?v0 ?v1 }; (case zisinstance => k_is); (case zlen => k_is); (case zall => k_is); (case zabs => k_is); (case zsorted => k_is); (case zzip => k_is); (case zlist => k_is); (case ztuple => k_is); (case zrange => k_is); (case zenumerate => k_is); (case zint => k_is); (case zbool => k_is); (case zstr => k_is); (case zreversed => k_is); (case zdict => k_is); (case zSMALL => k_is); (case zSIGNS => k_is); (case u0 => k_is); (case u1 => k_is); (case u2 => k_is); (case u3 => k_is); (case u4 => k_is); (case u5 => k_is); (case v0 => k_is); (case v1 => k_is))
    (case dis_whole => refine' Kx.def_mk ?a ?l ?c ?k; (case a => k_is); (case l => k_is); (case c => k_is); (case k => k_is))
    (case dis_list => refine' Kx.def_mk ?a ?l ?c ?k; (case a => k_is); (case l => k_is); (case c => k_is); (case k => k_is))
    (case dis_name => refine' Kx.def_mk ?a ?l ?c ?k; (case a => k_is); (case l => k_is); (case c => k_is); (case k => k_is))
    (case dis_cell => refine' Kx.def_mk ?a ?l ?c ?k; (case a => k_is); (case l => k_is); (case c => k_is); (case k => k_is))
    (case dcheck_cell_bodies => refine' Kx.def_mk ?a ?l ?c ?k; (case a => k_is); (case l => k_is); (case c => k_is); (case k => k_is))
    (case dcheck_cell_walks => refine' Kx.def_mk ?a ?l ?c ?k; (case a => k_is); (case l => k_is); (case c => k_is); (case k => k_is))
    (case dbeside => refine' Kx.def_mk ?a ?l ?c ?k; (case a => k_is); (case l => k_is); (case c => k_is); (case k => k_is))
    (case dtaken_part => refine' Kx.def_mk ?a ?l ?c ?k; (case a => k_is); (case l => k_is); (case c => k_is); (case k => k_is))
    (case dparts_of => refine' Kx.def_mk ?a ?l ?c ?k; (case a => k_is); (case l => k_is); (case c => k_is); (case k => k_is))
    (case dhangs => refine' Kx.def_mk ?a ?l ?c ?k; (case a => k_is); (case l => k_is); (case c => k_is); (case k => k_is))
    (case dis_body => refine' Kx.def_mk ?a ?l ?c ?k; (case a => k_is); (case l => k_is); (case c => k_is); (case k => k_is))
    (case dcheck_body => refine' Kx.def_mk ?a ?l ?c ?k; (case a => k_is); (case l => k_is); (case c => k_is); (case k => k_is))
    (case drest_of => refine' Kx.def_mk ?a ?l ?c ?k; (case a => k_is); (case l => k_is); (case c => k_is); (case k => k_is))
    (case dgoes_to => refine' Kx.def_mk ?a ?l ?c ?k; (case a => k_is); (case l => k_is); (case c => k_is); (case k => k_is))
    (case dways_from => refine' Kx.def_mk ?a ?l ?c ?k; (case a => k_is); (case l => k_is); (case c => k_is); (case k => k_is))
    (case dways_back => refine' Kx.def_mk ?a ?l ?c ?k; (case a => k_is); (case l => k_is); (case c => k_is); (case k => k_is))
    (case dwalk => refine' Kx.def_mk ?a ?l ?c ?k; (case a => k_is); (case l => k_is); (case c => k_is); (case k => k_is))
    (case dcheck_first => refine' Kx.def_mk ?a ?l ?c ?k; (case a => k_is); (case l => k_is); (case c => k_is); (case k => k_is))
    (case dcheck_many => refine' Kx.def_mk ?a ?l ?c ?k; (case a => k_is); (case l => k_is); (case c => k_is); (case k => k_is))
    (case dcheck_by => refine' Kx.def_mk ?a ?l ?c ?k; (case a => k_is); (case l => k_is); (case c => k_is); (case k => k_is))
    (case drow_at => refine' Kx.def_mk ?a ?l ?c ?k; (case a => k_is); (case l => k_is); (case c => k_is); (case k => k_is))
    (case dwalked => refine' Kx.def_mk ?a ?l ?c ?k; (case a => k_is); (case l => k_is); (case c => k_is); (case k => k_is))
    (case dcrawl => refine' Kx.def_mk ?a ?l ?c ?k; (case a => k_is); (case l => k_is); (case c => k_is); (case k => k_is))
    (case dis_named_cell => refine' Kx.def_mk ?a ?l ?c ?k; (case a => k_is); (case l => k_is); (case c => k_is); (case k => k_is))
    (case dis_placing => refine' Kx.def_mk ?a ?l ?c ?k; (case a => k_is); (case l => k_is); (case c => k_is); (case k => k_is))
    (case dcheck_placing => refine' Kx.def_mk ?a ?l ?c ?k; (case a => k_is); (case l => k_is); (case c => k_is); (case k => k_is))
    (case dorder_of => refine' Kx.def_mk ?a ?l ?c ?k; (case a => k_is); (case l => k_is); (case c => k_is); (case k => k_is))
    (case dturned_row => refine' Kx.def_mk ?a ?l ?c ?k; (case a => k_is); (case l => k_is); (case c => k_is); (case k => k_is))
    (case dheld_row => refine' Kx.def_mk ?a ?l ?c ?k; (case a => k_is); (case l => k_is); (case c => k_is); (case k => k_is))
    (case dare_names => refine' Kx.def_mk ?a ?l ?c ?k; (case a => k_is); (case l => k_is); (case c => k_is); (case k => k_is))
    (case dcheck_order => refine' Kx.def_mk ?a ?l ?c ?k; (case a => k_is); (case l => k_is); (case c => k_is); (case k => k_is))
    (case dstepped => refine' Kx.def_mk ?a ?l ?c ?k; (case a => k_is); (case l => k_is); (case c => k_is); (case k => k_is))
    (case dsorting => refine' Kx.def_mk ?a ?l ?c ?k; (case a => k_is); (case l => k_is); (case c => k_is); (case k => k_is))
    (case dorder_behind => refine' Kx.def_mk ?a ?l ?c ?k; (case a => k_is); (case l => k_is); (case c => k_is); (case k => k_is))
    (case dlaw_pen => refine' Kx.def_mk ?a ?l ?c ?k; (case a => k_is); (case l => k_is); (case c => k_is); (case k => k_is))
    (case dlaw_draw => refine' Kx.def_mk ?a ?l ?c ?k; (case a => k_is); (case l => k_is); (case c => k_is); (case k => k_is))
    (case dlaw_pick => refine' Kx.def_mk ?a ?l ?c ?k; (case a => k_is); (case l => k_is); (case c => k_is); (case k => k_is))
    (case dlaw_big => refine' Kx.def_mk ?a ?l ?c ?k; (case a => k_is); (case l => k_is); (case c => k_is); (case k => k_is))
    (case dlaw_shuffled => refine' Kx.def_mk ?a ?l ?c ?k; (case a => k_is); (case l => k_is); (case c => k_is); (case k => k_is))
    (case dlaw_w_beside => refine' Kx.def_mk ?a ?l ?c ?k; (case a => k_is); (case l => k_is); (case c => k_is); (case k => k_is))
    (case dlaw_w_hangs => refine' Kx.def_mk ?a ?l ?c ?k; (case a => k_is); (case l => k_is); (case c => k_is); (case k => k_is))
    (case dlaw_w_may => refine' Kx.def_mk ?a ?l ?c ?k; (case a => k_is); (case l => k_is); (case c => k_is); (case k => k_is))
    (case dlaw_w_moved => refine' Kx.def_mk ?a ?l ?c ?k; (case a => k_is); (case l => k_is); (case c => k_is); (case k => k_is))
    (case dlaw_t4both => refine' Kx.def_mk ?a ?l ?c ?k; (case a => k_is); (case l => k_is); (case c => k_is); (case k => k_is))
    (case dlaw_t4goes => refine' Kx.def_mk ?a ?l ?c ?k; (case a => k_is); (case l => k_is); (case c => k_is); (case k => k_is))
    (case dlaw_t4walk => refine' Kx.def_mk ?a ?l ?c ?k; (case a => k_is); (case l => k_is); (case c => k_is); (case k => k_is))
    (case dlaw_t4walks => refine' Kx.def_mk ?a ?l ?c ?k; (case a => k_is); (case l => k_is); (case c => k_is); (case k => k_is))
    (case dlaw_t4row => refine' Kx.def_mk ?a ?l ?c ?k; (case a => k_is); (case l => k_is); (case c => k_is); (case k => k_is))
    (case dlaw_t4along => refine' Kx.def_mk ?a ?l ?c ?k; (case a => k_is); (case l => k_is); (case c => k_is); (case k => k_is))
    (case dlaw_t4names => refine' Kx.def_mk ?a ?l ?c ?k; (case a => k_is); (case l => k_is); (case c => k_is); (case k => k_is))
    (case dlaw_t4told => refine' Kx.def_mk ?a ?l ?c ?k; (case a => k_is); (case l => k_is); (case c => k_is); (case k => k_is))
    (case dlaw_t4followed => refine' Kx.def_mk ?a ?l ?c ?k; (case a => k_is); (case l => k_is); (case c => k_is); (case k => k_is))
    (case dlaw_t4held => refine' Kx.def_mk ?a ?l ?c ?k; (case a => k_is); (case l => k_is); (case c => k_is); (case k => k_is))
    (case dlaw_t4stepped => refine' Kx.def_mk ?a ?l ?c ?k; (case a => k_is); (case l => k_is); (case c => k_is); (case k => k_is))
    (case dlaw_t4passes => refine' Kx.def_mk ?a ?l ?c ?k; (case a => k_is); (case l => k_is); (case c => k_is); (case k => k_is))
    (case dlaw_step_right => refine' Kx.def_mk ?a ?l ?c ?k; (case a => k_is); (case l => k_is); (case c => k_is); (case k => k_is))
    (case dlaw => refine' Kx.def_mk ?a ?l ?c ?k; (case a => k_is); (case l => k_is); (case c => k_is); (case k => k_is))
