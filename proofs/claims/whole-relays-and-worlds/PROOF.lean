import PyProof.Rows.All
import Wide.All
import OpenK.AllK
import Wide.FinOn
import HandS.ForMost
import HandS.ForExc
import HandS.Flow
import HandS.Style
import HandS.Wide
import HandS.More
import HandS.Zip
import HandS.DictComp
import HandS.IsInst
import HandS.TupAny
import HandS.Deep
import HandS.ExcInit
import HandS.Strs
import HandS.EndBits
import KE.GoesMore
import KE.GoesEnum
import HandS.Walk
import PySem.Challenge.RW_ledclocks_k14_whole_relays_and_worlds
set_option Elab.async false
set_option linter.all false
set_option maxRecDepth 100000
set_option maxHeartbeats 4000000
namespace Lk
open PySem PySem.Spec PyProof.Rows L2

/-! ### heaps: Same (all that stood stands), Tx (the tuples stand) -/
def Tx (H H' : Hp) : Prop := ∀ a xs, Rd H a (.tup xs) → Rd H' a (.tup xs)
theorem Tx.refl (H : Hp) : Tx H H := fun _ _ h => h
theorem Tx.trans {H H1 H2 : Hp} (a : Tx H H1) (b : Tx H1 H2) : Tx H H2 := fun x xs h => b x xs (a x xs h)
theorem same_tx {H H' : Hp} (e : Same H H') : Tx H H' := fun a xs h => by
  rcases h with h | ⟨o, h⟩
  · exact .inl (e a _ h)
  · exact .inr ⟨o, e a _ h⟩
theorem same_new {H : Hp} {p : Addr} {o : HO} (h : H p = none) : Same H (upd H p o) := fun a u e => by
  rw [upd_ne (ne_of_none e h)]
  exact e
/-- what H does not hold may be written over -/
theorem same_mut {H H' : Hp} {p : Addr} {o : HO} (e : Same H H') (h : H p = none) : Same H (upd H' p o) := fun a u ha => by
  rw [upd_ne (ne_of_none ha h)]
  exact e a u ha
theorem tx_upd {H : Hp} {p : Addr} {o u : HO} (h : H p = some u) (hu : ∀ xs, u ≠ .tup xs) (hf : ∀ ob xs, u ≠ .frz ob (.tup xs)) : Tx H (upd H p o) := fun a xs r => by
  rcases r with r | ⟨ob, r⟩
  · exact .inl (by rw [upd_ne (ne_of r h (Ne.symm (hu xs)))]; exact r)
  · exact .inr ⟨ob, by rw [upd_ne (ne_of r h (Ne.symm (hf ob xs)))]; exact r⟩
theorem tx_lst {H : Hp} {p : Addr} {o : HO} {ys : List V} (h : H p = some (.lst ys)) : Tx H (upd H p o) := tx_upd h (fun _ z => by cases z) (fun _ _ z => by cases z)
theorem tx_dk {H : Hp} {p : Addr} {o : HO} {ys : List (Key × V)} (h : H p = some (.dK ys)) : Tx H (upd H p o) := tx_upd h (fun _ z => by cases z) (fun _ _ z => by cases z)
theorem tx_new {H : Hp} {p : Addr} {o : HO} (h : H p = none) : Tx H (upd H p o) := same_tx (same_new h)
theorem sqT_tx {K : PySem.W.Frag} {H H' : Hp} {a : Addr} {xs : List V} (e : Tx H H') (h : SqT K H a xs) : SqT K H' a xs := by
  rcases h with h | h
  · exact .inl (e _ _ h)
  · exact .inr h
theorem sqL_same {K : PySem.W.Frag} {H H' : Hp} {a : Addr} {xs : List V} (e : Same H H') (h : SqL K H a xs) : SqL K H' a xs := e.seq h

/-! ### tuple data -/
mutual
inductive Tp (K : PySem.W.Frag) (H : Hp) : V → PyData → Prop
  | non : Tp K H .non .none
  | bl (b : Bool) : Tp K H (.bl b) (.bool b)
  | int (i : Int) : Tp K H (.int i) (.int i)
  | str (x : Str) : Tp K H (.str x) (.str x)
  | tup {a : Addr} {xs : List V} {ds : List PyData} : SqT K H a xs → TpAll K H xs ds → Tp K H (.ref a) (.tuple ds)
inductive TpAll (K : PySem.W.Frag) (H : Hp) : List V → List PyData → Prop
  | nil : TpAll K H [] []
  | cons {v : V} {vs : List V} {d : PyData} {ds : List PyData} : Tp K H v d → TpAll K H vs ds → TpAll K H (v :: vs) (d :: ds)
end
section
variable {K : PySem.W.Frag} {H H' : Hp}
mutual
theorem Tp.tx (e : Tx H H') : ∀ (d : PyData) (v : V), Tp K H v d → Tp K H' v d
  | .none, _, h => by cases h; exact .non
  | .bool b, _, h => by cases h; exact .bl b
  | .int i, _, h => by cases h; exact .int i
  | .str x, _, h => by cases h; exact .str x
  | .list ds, _, h => by cases h
  | .tuple ds, _, h => by
    cases h with
    | tup hs ha => exact .tup (sqT_tx e hs) (TpAll.tx e ds _ ha)
  | .dict _, _, h => by cases h
theorem TpAll.tx (e : Tx H H') : ∀ (ds : List PyData) (vs : List V), TpAll K H vs ds → TpAll K H' vs ds
  | [], _, h => by cases h; exact .nil
  | d :: ds, _, h => by
    cases h with
    | cons h1 h2 => exact .cons (Tp.tx e d _ h1) (TpAll.tx e ds _ h2)
end
mutual
theorem Tp.dp : ∀ (d : PyData) (v : V), Tp K H v d → Dp K H v d
  | .none, _, h => by cases h; exact .non
  | .bool b, _, h => by cases h; exact .bl b
  | .int i, _, h => by cases h; exact .int i
  | .str x, _, h => by cases h; exact .str x
  | .list ds, _, h => by cases h
  | .tuple ds, _, h => by
    cases h with
    | tup hs ha => exact .tup hs (TpAll.dp ds _ ha)
  | .dict _, _, h => by cases h
theorem TpAll.dp : ∀ (ds : List PyData) (vs : List V), TpAll K H vs ds → DpAll K H vs ds
  | [], _, h => by cases h; exact .nil
  | d :: ds, _, h => by
    cases h with
    | cons h1 h2 => exact .cons (Tp.dp d _ h1) (TpAll.dp ds _ h2)
end
theorem Tp.up {v : V} {d : PyData} (h : Tp K H v d) (e : Tx H H') : Tp K H' v d := Tp.tx e d v h
theorem Tp.sm {v : V} {d : PyData} (h : Tp K H v d) (e : Same H H') : Tp K H' v d := Tp.tx (same_tx e) d v h
theorem TpAll.up {vs : List V} {ds : List PyData} (h : TpAll K H vs ds) (e : Tx H H') : TpAll K H' vs ds := TpAll.tx e ds vs h
theorem TpAll.sm {vs : List V} {ds : List PyData} (h : TpAll K H vs ds) (e : Same H H') : TpAll K H' vs ds := TpAll.tx (same_tx e) ds vs h
theorem Tp.tup_inv {v : V} {ds : List PyData} (h : Tp K H v (.tuple ds)) : ∃ a xs, v = .ref a ∧ SqT K H a xs ∧ TpAll K H xs ds := by
  cases h with
  | tup h1 h2 => exact ⟨_, _, rfl, h1, h2⟩
theorem Tp.int_inv {v : V} {i : Int} (h : Tp K H v (.int i)) : v = .int i := by cases h; rfl
theorem Tp.str_inv {v : V} {i : Str} (h : Tp K H v (.str i)) : v = .str i := by cases h; rfl
theorem Tp.bool_inv {v : V} {i : Bool} (h : Tp K H v (.bool i)) : v = .bl i := by cases h; rfl
theorem Tp.none_inv {v : V} (h : Tp K H v .none) : v = .non := by cases h; rfl
theorem TpAll.len : ∀ {vs : List V} {ds : List PyData}, TpAll K H vs ds → vs.length = ds.length
  | _, [], h => by cases h; rfl
  | _, d :: ds, h => by
    cases h with
    | cons h1 h2 => rw [List.length_cons, List.length_cons, TpAll.len h2]
theorem TpAll.get : ∀ {vs : List V} {ds : List PyData}, TpAll K H vs ds → ∀ {i : Nat} {d : PyData}, ds[i]? = some d → ∃ v, vs[i]? = some v ∧ Tp K H v d
  | _, [], h, i, d, e => by simp at e
  | _, d :: ds, h, 0, d', e => by
    cases h with
    | cons h1 h2 =>
      have e' : d = d' := Option.some.inj e
      subst e'
      exact ⟨_, rfl, h1⟩
  | _, d :: ds, h, i + 1, d', e => by
    cases h with
    | cons h1 h2 => exact TpAll.get h2 (i := i) e
theorem TpAll.get' : ∀ {vs : List V} {ds : List PyData}, TpAll K H vs ds → ∀ {i : Nat} {v : V}, vs[i]? = some v → ∃ d, ds[i]? = some d ∧ Tp K H v d
  | _, [], h, i, d, e => by cases h; simp at e
  | _, d :: ds, h, 0, d', e => by
    cases h with
    | cons h1 h2 =>
      have e' := Option.some.inj e
      subst e'
      exact ⟨_, rfl, h1⟩
  | _, d :: ds, h, i + 1, d', e => by
    cases h with
    | cons h1 h2 => exact TpAll.get' h2 (i := i) e
theorem TpAll.app : ∀ {vs : List V} {ds : List PyData} {us : List V} {es : List PyData}, TpAll K H vs ds → TpAll K H us es → TpAll K H (vs ++ us) (ds ++ es)
  | _, [], _, _, h, k => by cases h; exact k
  | _, d :: ds, _, _, h, k => by
    cases h with
    | cons h1 h2 => exact .cons h1 (TpAll.app h2 k)
theorem TpAll.one {v : V} {d : PyData} (h : Tp K H v d) : TpAll K H [v] [d] := .cons h .nil
theorem TpAll.drop : ∀ (n : Nat) {vs : List V} {ds : List PyData}, TpAll K H vs ds → TpAll K H (vs.drop n) (ds.drop n)
  | 0, _, _, h => h
  | n + 1, _, [], h => by cases h; exact .nil
  | n + 1, _, d :: ds, h => by
    cases h with
    | cons h1 h2 => exact TpAll.drop n h2
theorem TpAll.take : ∀ (n : Nat) {vs : List V} {ds : List PyData}, TpAll K H vs ds → TpAll K H (vs.take n) (ds.take n)
  | 0, _, _, h => .nil
  | n + 1, _, [], h => by cases h; exact .nil
  | n + 1, _, d :: ds, h => by
    cases h with
    | cons h1 h2 => exact .cons h1 (TpAll.take n h2)
theorem TpAll.rev : ∀ {vs : List V} {ds : List PyData}, TpAll K H vs ds → TpAll K H vs.reverse ds.reverse
  | _, [], h => by cases h; exact .nil
  | _, d :: ds, h => by
    cases h with
    | cons h1 h2 =>
      rw [List.reverse_cons, List.reverse_cons]
      exact TpAll.app (TpAll.rev h2) (.one h1)
theorem TpAll.ints : ∀ (l : List Int), TpAll K H (l.map V.int) (l.map PyData.int)
  | [] => .nil
  | x :: l => .cons (.int x) (TpAll.ints l)
theorem TpAll.ints_inv : ∀ {vs : List V} {l : List Int}, TpAll K H vs (l.map PyData.int) → vs = l.map V.int
  | _, [], h => by cases h; rfl
  | _, x :: l, h => by
    cases h with
    | cons h1 h2 => rw [h1.int_inv, TpAll.ints_inv h2]; rfl
theorem TpAll.bools_inv : ∀ {vs : List V} {l : List Bool}, TpAll K H vs (l.map PyData.bool) → vs = l.map V.bl
  | _, [], h => by cases h; rfl
  | _, x :: l, h => by
    cases h with
    | cons h1 h2 => rw [h1.bool_inv, TpAll.bools_inv h2]; rfl
end

/-! ### what a reading comes to: data, values, lists -/
def Ev (K : PySem.W.Frag) (te : TE) (σ : L2.St) (H : Hp) (d : PyData) : Prop := ∀ H1, Same H H1 → ∀ Q : VK, (∀ v H2, Same H1 H2 → Tp K H2 v d → Q v H2) → te σ H1 Q
/-- a value known as it is -/
def EvV (te : TE) (σ : L2.St) (H : Hp) (v : V) : Prop := ∀ H1, Same H H1 → ∀ Q : VK, (∀ H2, Same H1 H2 → Q v H2) → te σ H1 Q
/-- a new list of data -/
def EvL (K : PySem.W.Frag) (te : TE) (σ : L2.St) (H : Hp) (ds : List PyData) : Prop := ∀ H1, Same H H1 → ∀ Q : VK, (∀ p xs H2, H1 p = none → Same H1 H2 → H2 p = some (.lst xs) → TpAll K H2 xs ds → Q (.ref p) H2) → te σ H1 Q
def EvT (tt : TT) (σ : L2.St) (H : Hp) (b : Bool) : Prop := ∀ H1, Same H H1 → ∀ Q : Bool → Hp → Prop, (∀ H2, Same H1 H2 → Q b H2) → tt σ H1 Q
def EvA (K : PySem.W.Frag) (ta : TA) (σ : L2.St) (H : Hp) (ds : List PyData) : Prop := ∀ H1, Same H H1 → ∀ Q : List V → Hp → Prop, (∀ vs H2, Same H1 H2 → TpAll K H2 vs ds → Q vs H2) → ta σ H1 Q
def EvO (to : TO) (σ : L2.St) (H : Hp) (o : Option Int) : Prop := ∀ H1, Same H H1 → ∀ Q : Option Int → Hp → Prop, (∀ H2, Same H1 H2 → Q o H2) → to σ H1 Q

section
variable {K : PySem.W.Frag} {σ : L2.St} {H H' : Hp} {ta tb tc te tx : TE} {t u : TT} {d x y z : PyData} {v : V} {r : R2}
theorem Ev.mono (h : Ev K te σ H d) (e : Same H H') : Ev K te σ H' d := fun H1 a Q q => h H1 (e.trans a) Q q
theorem EvT.mono {b : Bool} (h : EvT t σ H b) (e : Same H H') : EvT t σ H' b := fun H1 a Q q => h H1 (e.trans a) Q q
theorem EvA.mono {ta : TA} {ds : List PyData} (h : EvA K ta σ H ds) (e : Same H H') : EvA K ta σ H' ds := fun H1 a Q q => h H1 (e.trans a) Q q
theorem EvL.mono {ds : List PyData} (h : EvL K te σ H ds) (e : Same H H') : EvL K te σ H' ds := fun H1 a Q q => h H1 (e.trans a) Q q
theorem ev_is {d' : PyData} (h : Ev K te σ H d) (e : d = d') : Ev K te σ H d' := e ▸ h
theorem et_is {b b' : Bool} (h : EvT t σ H b) (e : b = b') : EvT t σ H b' := e ▸ h
theorem ev_c {v : V} (h : ∀ H1, Tp K H1 v d) : Ev K (tC v) σ H d := fun H1 _ _ q => q v H1 (Same.refl H1) (h H1)
theorem ev_int {i : Int} : Ev K (tC (.int i)) σ H (.int i) := ev_c fun _ => .int i
theorem ev_bl {i : Bool} : Ev K (tC (.bl i)) σ H (.bool i) := ev_c fun _ => .bl i
theorem ev_str {i : Str} : Ev K (tC (.str i)) σ H (.str i) := ev_c fun _ => .str i
theorem ev_non : Ev K (tC .non) σ H .none := ev_c fun _ => .non
theorem evv_c {v : V} : EvV (tC v) σ H v := fun H1 _ _ q => q H1 (Same.refl H1)
theorem ev_op (ha : Ev K ta σ H x) (hb : Ev K tb σ H y) (hr : ∀ u v H1, Same H H1 → Tp K H1 u x → Tp K H1 v y → ∀ Q : VK, (∀ z H2, Same H1 H2 → Tp K H2 z d → Q z H2) → r u v H1 Q) : Ev K (tOp r ta tb) σ H d := fun H1 e Q q =>
  ha H1 e _ fun u H2 e2 hu => hb H2 (e.trans e2) _ fun v H3 e3 hv => hr u v H3 ((e.trans e2).trans e3) (hu.sm e3) hv Q fun z H4 e4 hz => q z H4 ((e2.trans e3).trans e4) hz
theorem ev_i0 {f : Int → Int → Int} {i j : Int} (ha : Ev K ta σ H (.int i)) (hb : Ev K tb σ H (.int j)) : Ev K (tOp (rI0 fun i j => .int (f i j)) ta tb) σ H (.int (f i j)) :=
  ev_op ha hb fun u v H1 _ hu hv Q q => ⟨i, j, hu.int_inv, hv.int_inv, q _ H1 (Same.refl H1) (.int _)⟩
theorem ev_i {C : Int → Int → Prop} {f : Int → Int → Int} {i j : Int} (ha : Ev K ta σ H (.int i)) (hb : Ev K tb σ H (.int j)) (hc : C i j) : Ev K (tOp (rI C fun i j => .int (f i j)) ta tb) σ H (.int (f i j)) :=
  ev_op ha hb fun u v H1 _ hu hv Q q => ⟨i, j, hu.int_inv, hv.int_inv, hc, q _ H1 (Same.refl H1) (.int _)⟩
theorem ev_b0 {f : Int → Int → Bool} {i j : Int} (ha : Ev K ta σ H (.int i)) (hb : Ev K tb σ H (.int j)) : Ev K (tOp (rI0 fun i j => .bl (f i j)) ta tb) σ H (.bool (f i j)) :=
  ev_op ha hb fun u v H1 _ hu hv Q q => ⟨i, j, hu.int_inv, hv.int_inv, q _ H1 (Same.refl H1) (.bl _)⟩
theorem ev_eq (ha : Ev K ta σ H x) (hb : Ev K tb σ H y) (sx : SeqAt.shaped x = true) (sy : SeqAt.shaped y = true) : Ev K (tOp (rEqD K) ta tb) σ H (.bool (PyData.eqv x y)) :=
  ev_op ha hb fun u v H1 _ hu hv Q q => ⟨x, y, Tp.dp _ _ hu, Tp.dp _ _ hv, sx, sy, q _ H1 (Same.refl H1) (.bl _)⟩
theorem ev_ne (ha : Ev K ta σ H x) (hb : Ev K tb σ H y) (sx : SeqAt.shaped x = true) (sy : SeqAt.shaped y = true) : Ev K (tOp (rNeD K) ta tb) σ H (.bool (!PyData.eqv x y)) :=
  ev_op ha hb fun u v H1 _ hu hv Q q => ⟨x, y, Tp.dp _ _ hu, Tp.dp _ _ hv, sx, sy, q _ H1 (Same.refl H1) (.bl _)⟩
def isN : PyData → Bool
  | .none => true
  | _ => false
def rIsN : R2 := fun u v H Q => v = .non ∧ Q (.bl (decide (u = .non))) H
theorem op_isN' {X : Cx} : OpR X (compareOp .Is) rIsN := op_isN
theorem ev_isN (ha : Ev K ta σ H x) : Ev K (tOp rIsN ta (tC .non)) σ H (.bool (isN x)) := by
  refine ev_op ha ev_non fun u v H1 _ hu hv Q q => ⟨hv.none_inv, ?_⟩
  have e : decide (u = V.non) = isN x := by
    cases hu <;> rfl
  rw [e]
  exact q _ H1 (Same.refl H1) (.bl _)
theorem ev_ixT {ds : List PyData} {i : Int} (ha : Ev K ta σ H (.tuple ds)) (hb : Ev K tb σ H (.int i)) (hi : atI ds i = some d) : Ev K (tOp (rIxT K) ta tb) σ H d := by
  refine ev_op ha hb fun u v H1 _ hu hv Q q => ?_
  obtain ⟨a, xs, rfl, h1, h2⟩ := hu.tup_inv
  have hi' : (ixN ds.length i).bind (fun j => ds[j]?) = some d := hi
  cases e : ixN ds.length i with
  | none =>
    rw [e] at hi'
    cases hi'
  | some j =>
    rw [e] at hi'
    obtain ⟨w, hw, tw⟩ := h2.get (i := j) (d := d) hi'
    refine ⟨a, xs, i, w, rfl, hv.int_inv, h1, ?_, q w H1 (Same.refl H1) tw⟩
    show (ixN xs.length i).bind (fun j => xs[j]?) = some w
    rw [h2.len, e]
    exact hw
/-- the i-th, i written -/
theorem ev_ix {ds : List PyData} (i : Nat) (ha : Ev K ta σ H (.tuple ds)) (hi : ds[i]? = some d) : Ev K (tOp (rIxT K) ta (tC (.int (i : Int)))) σ H d := ev_ixT ha ev_int (atI_nat hi)
theorem ea_nil : EvA K tNil σ H [] := fun H1 _ _ q => q [] H1 (Same.refl H1) .nil
theorem ea_cons {tr : TA} {ds : List PyData} (h : Ev K ta σ H d) (hr : EvA K tr σ H ds) : EvA K (tCons ta tr) σ H (d :: ds) := fun H1 e Q q =>
  h H1 e _ fun v H2 e2 hv => hr H2 (e.trans e2) _ fun vs H3 e3 hvs => q (v :: vs) H3 (e2.trans e3) (.cons (hv.sm e3) hvs)
theorem sz_of {m : Nat} (hm : m ≤ 100000) : m ≤ sizeLine := Nat.le_trans hm (by decide)
theorem sz_lt {m : Nat} (hm : m < 100000) : m < sizeLine := Nat.lt_of_lt_of_le hm (by decide)
theorem ev_tup {ta : TA} {ds : List PyData} (h : EvA K ta σ H ds) (hl : ds.length ≤ 100000 := by exact Nat.le_of_ble_eq_true rfl) : Ev K (tTup ta) σ H (.tuple ds) := fun H1 e Q q =>
  h H1 e _ fun vs H2 e2 hvs => ⟨by rw [hvs.len]; exact sz_of hl, fun p hp => q (.ref p) _ (e2.trans (same_new hp)) (.tup (.inl (.inl upd_same)) (hvs.up (tx_new hp)))⟩
theorem el_lst {ta : TA} {ds : List PyData} (h : EvA K ta σ H ds) (hl : ds.length ≤ 100000 := by exact Nat.le_of_ble_eq_true rfl) : EvL K (tLst ta) σ H ds := fun H1 e Q q =>
  h H1 e _ fun vs H2 e2 hvs => ⟨by rw [hvs.len]; exact sz_of hl, fun p hp => q p vs _ (e2.free hp) (e2.trans (same_new hp)) upd_same (hvs.up (tx_new hp))⟩
theorem et_test {b : Bool} (h : Ev K te σ H (.bool b)) : EvT (tTest te) σ H b := fun H1 e _ q => h H1 e _ fun v H2 e2 hv => ⟨b, hv.bool_inv, q H2 e2⟩
theorem et_B {b : Bool} (h : Ev K te σ H (.bool b)) : EvT (tB te) σ H b := fun H1 e _ q => h H1 e _ fun v H2 e2 hv => ⟨b, hv.bool_inv, q H2 e2⟩
theorem et_and {a b : Bool} (hA : EvT t σ H a) (hB : a = true → EvT u σ H b) : EvT (tAnd t u) σ H (a && b) := fun H1 e Q q => hA H1 e _ fun H2 d2 => by
  cases a with
  | true =>
    show u σ H2 Q
    exact hB rfl H2 (e.trans d2) Q fun H3 d3 => q H3 (d2.trans d3)
  | false =>
    show Q false H2
    exact q H2 d2
theorem et_or {a b : Bool} (hA : EvT t σ H a) (hB : a = false → EvT u σ H b) : EvT (tOr t u) σ H (a || b) := fun H1 e Q q => hA H1 e _ fun H2 d2 => by
  cases a with
  | true =>
    show Q true H2
    exact q H2 d2
  | false =>
    show u σ H2 Q
    exact hB rfl H2 (e.trans d2) Q fun H3 d3 => q H3 (d2.trans d3)
theorem et_not {a : Bool} (hA : EvT t σ H a) : EvT (tNot t) σ H (!a) := fun H1 e _ q => hA H1 e _ fun H2 d2 => q H2 d2
theorem ev_andV {a b : Bool} (h1 : Ev K ta σ H (.bool a)) (h2 : a = true → Ev K tb σ H (.bool b)) : Ev K (tAndV ta tb) σ H (.bool (a && b)) := fun H1 e Q q => h1 H1 e _ fun v H2 e2 hv => ⟨a, hv.bool_inv, by
  cases a with
  | true =>
    show tb σ H2 Q
    exact h2 rfl H2 (e.trans e2) Q fun v H3 e3 hv => q v H3 (e2.trans e3) hv
  | false =>
    show Q (.bl false) H2
    exact q _ H2 e2 (.bl _)⟩
theorem ev_orV {a b : Bool} (h1 : Ev K ta σ H (.bool a)) (h2 : a = false → Ev K tb σ H (.bool b)) : Ev K (tOrV ta tb) σ H (.bool (a || b)) := fun H1 e Q q => h1 H1 e _ fun v H2 e2 hv => ⟨a, hv.bool_inv, by
  cases a with
  | true =>
    show Q (.bl true) H2
    exact q _ H2 e2 (.bl _)
  | false =>
    show tb σ H2 Q
    exact h2 rfl H2 (e.trans e2) Q fun v H3 e3 hv => q v H3 (e2.trans e3) hv⟩
theorem ev_notV {a : Bool} (h1 : Ev K ta σ H (.bool a)) : Ev K (tNotV ta) σ H (.bool (!a)) := fun H1 e _ q => h1 H1 e _ fun v H2 e2 hv => ⟨a, hv.bool_inv, q _ H2 e2 (.bl _)⟩
theorem ev_if {b : Bool} (h : EvT t σ H b) (h1 : b = true → Ev K ta σ H d) (h2 : b = false → Ev K tb σ H d) : Ev K (tIf t ta tb) σ H d := fun H1 e Q q => h H1 e _ fun H2 e2 => by
  cases b with
  | true =>
    show ta σ H2 Q
    exact h1 rfl H2 (e.trans e2) Q fun v H3 e3 hv => q v H3 (e2.trans e3) hv
  | false =>
    show tb σ H2 Q
    exact h2 rfl H2 (e.trans e2) Q fun v H3 e3 hv => q v H3 (e2.trans e3) hv
theorem el_if {b : Bool} {ds : List PyData} (h : EvT t σ H b) (h1 : b = true → EvL K ta σ H ds) (h2 : b = false → EvL K tb σ H ds) : EvL K (tIf t ta tb) σ H ds := fun H1 e Q q => h H1 e _ fun H2 e2 => by
  cases b with
  | true =>
    show ta σ H2 Q
    exact h1 rfl H2 (e.trans e2) Q fun p xs H3 hp e3 hx hv => q p xs H3 (e2.free hp) (e2.trans e3) hx hv
  | false =>
    show tb σ H2 Q
    exact h2 rfl H2 (e.trans e2) Q fun p xs H3 hp e3 hx hv => q p xs H3 (e2.free hp) (e2.trans e3) hx hv
theorem ev_chain {r r' : R2} {a b : Bool} (ha : Ev K ta σ H x) (hb : Ev K tb σ H y) (hc : a = true → Ev K tc σ H z)
    (h1 : ∀ u v H1, Same H H1 → Tp K H1 u x → Tp K H1 v y → ∀ Q : VK, (∀ z H2, Same H1 H2 → Tp K H2 z (.bool a) → Q z H2) → r u v H1 Q)
    (h2 : a = true → ∀ u v H1, Same H H1 → Tp K H1 u y → Tp K H1 v z → ∀ Q : VK, (∀ z H2, Same H1 H2 → Tp K H2 z (.bool b) → Q z H2) → r' u v H1 Q) : Ev K (tChain r r' ta tb tc) σ H (.bool (a && b)) := fun H1 e Q q =>
  ha H1 e _ fun u H2 e2 hu => hb H2 (e.trans e2) _ fun v H3 e3 hv => h1 u v H3 ((e.trans e2).trans e3) (hu.sm e3) hv _ fun w H4 e4 hw => ⟨a, hw.bool_inv, by
    cases a with
    | true =>
      show tc σ H4 fun w' H5 => r' v w' H5 Q
      exact hc rfl H4 (((e.trans e2).trans e3).trans e4) _ fun w' H5 e5 hw' => h2 rfl v w' H5 ((((e.trans e2).trans e3).trans e4).trans e5) ((hv.sm e4).sm e5) hw' Q fun z H6 e6 hz => q z H6 ((((e2.trans e3).trans e4).trans e5).trans e6) hz
    | false =>
      show Q (.bl false) H4
      exact q _ H4 ((e2.trans e3).trans e4) (.bl _)⟩
theorem rb0 {f : Int → Int → Bool} {i j : Int} {b : Bool} (hb : f i j = b) : ∀ u v H1, Same H H1 → Tp K H1 u (.int i) → Tp K H1 v (.int j) → ∀ Q : VK, (∀ z H2, Same H1 H2 → Tp K H2 z (.bool b) → Q z H2) → (rI0 fun i j => .bl (f i j)) u v H1 Q :=
  fun u v H1 _ hu hv Q q => ⟨i, j, hu.int_inv, hv.int_inv, q _ H1 (Same.refl H1) (by show Tp K H1 (V.bl (f i j)) _; rw [hb]; exact .bl _)⟩
/-- calls of a built-in -/
theorem ev_cb {r : List V → Hp → VK → Prop} {ta : TA} {ds : List PyData} (ha : EvA K ta σ H ds) (hr : ∀ vs H1, Same H H1 → TpAll K H1 vs ds → ∀ Q : VK, (∀ z H2, Same H1 H2 → Tp K H2 z d → Q z H2) → r vs H1 Q) : Ev K (tCB r ta) σ H d := fun H1 e Q q =>
  ha H1 e _ fun vs H2 e2 hvs => hr vs H2 (e.trans e2) hvs Q fun z H3 e3 hz => q z H3 (e2.trans e3) hz
theorem TpAll.one_inv {vs : List V} {d : PyData} (h : TpAll K H vs [d]) : ∃ v, vs = [v] ∧ Tp K H v d := by
  cases h with
  | cons h1 h2 => cases h2; exact ⟨_, rfl, h1⟩
theorem TpAll.two_inv {vs : List V} {d e : PyData} (h : TpAll K H vs [d, e]) : ∃ v w, vs = [v, w] ∧ Tp K H v d ∧ Tp K H w e := by
  cases h with
  | cons h1 h2 =>
    obtain ⟨w, rfl, h3⟩ := h2.one_inv
    exact ⟨_, _, rfl, h1, h3⟩
def rAbs : List V → Hp → VK → Prop := fun xs H Q => ∃ i, xs = [.int i] ∧ Q (.int (if i < 0 then -i else i)) H
theorem ev_abs {i : Int} {ta : TA} (ha : EvA K ta σ H [.int i]) : Ev K (tCB rAbs ta) σ H (.int (if i < 0 then -i else i)) := ev_cb ha fun vs H1 _ hv0 Q q => by
  obtain ⟨v, rfl, hv⟩ := hv0.one_inv
  rw [hv.int_inv]
  exact ⟨i, rfl, q _ H1 (Same.refl H1) (.int _)⟩
def rMin2 : List V → Hp → VK → Prop := fun xs H Q => ∃ i j, xs = [.int i, .int j] ∧ Q (.int (if j < i then j else i)) H
def rMax2 : List V → Hp → VK → Prop := fun us H Q => ∃ i j, us = [.int i, .int j] ∧ Q (.int (if j > i then j else i)) H
theorem ev_min2 {i j : Int} {ta : TA} (ha : EvA K ta σ H [.int i, .int j]) : Ev K (tCB rMin2 ta) σ H (.int (if j < i then j else i)) := ev_cb ha fun vs H1 _ hv0 Q q => by
  obtain ⟨v, w, rfl, hv, hw⟩ := hv0.two_inv
  rw [hv.int_inv, hw.int_inv]
  exact ⟨i, j, rfl, q _ H1 (Same.refl H1) (.int _)⟩
theorem ev_max2 {i j : Int} {ta : TA} (ha : EvA K ta σ H [.int i, .int j]) : Ev K (tCB rMax2 ta) σ H (.int (if j > i then j else i)) := ev_cb ha fun vs H1 _ hv0 Q q => by
  obtain ⟨v, w, rfl, hv, hw⟩ := hv0.two_inv
  rw [hv.int_inv, hw.int_inv]
  exact ⟨i, j, rfl, q _ H1 (Same.refl H1) (.int _)⟩
def rLenS (K : PySem.W.Frag) : List V → Hp → VK → Prop := fun us H Q => ∃ a zs, us = [.ref a] ∧ (SqL K H a zs ∨ SqT K H a zs) ∧ Q (.int zs.length) H
theorem ev_lenT {ds : List PyData} {ta : TA} (ha : EvA K ta σ H [.tuple ds]) : Ev K (tCB (rLenS K) ta) σ H (.int (ds.length : Int)) := ev_cb ha fun vs H1 _ hv0 Q q => by
  obtain ⟨v, rfl, hv⟩ := hv0.one_inv
  obtain ⟨a, xs, rfl, h1, h2⟩ := hv.tup_inv
  exact ⟨a, xs, rfl, .inr h1, q _ H1 (Same.refl H1) (by rw [h2.len]; exact .int _)⟩
theorem ev_lenL {l : Addr} {xs : List V} (ha : EvV te σ H (.ref l)) (hl : SqL K H l xs) : Ev K (tCB (rLenS K) (tCons te tNil)) σ H (.int (xs.length : Int)) := fun H1 e Q q =>
  ha H1 e _ fun H2 e2 => ⟨l, xs, rfl, .inl (sqL_same (e.trans e2) hl), q _ H2 e2 (.int _)⟩
def rInt1 : List V → Hp → VK → Prop := fun xs H Q => (∃ i, xs = [.int i] ∧ Q (.int i) H) ∨ ∃ k, xs = [.bl k] ∧ Q (.int (if k then 1 else 0)) H
theorem ev_intb {b : Bool} {ta : TA} (ha : EvA K ta σ H [.bool b]) : Ev K (tCB rInt1 ta) σ H (.int (if b then 1 else 0)) := ev_cb ha fun vs H1 _ hv0 Q q => by
  obtain ⟨v, rfl, hv⟩ := hv0.one_inv
  rw [hv.bool_inv]
  exact .inr ⟨b, rfl, q _ H1 (Same.refl H1) (.int _)⟩
def rTupOf (K : PySem.W.Frag) : List V → Hp → VK → Prop := fun xs H Q => ∃ p ys, xs = [.ref p] ∧ ((SqL K H p ys ∧ ∀ l, H l = none → Q (.ref l) (upd H l (.tup ys))) ∨ (SqT K H p ys ∧ Q (.ref p) H))
theorem ev_tupL {l : Addr} {xs : List V} {ds : List PyData} (ha : EvV te σ H (.ref l)) (hl : SqL K H l xs) (hx : TpAll K H xs ds) : Ev K (tCB (rTupOf K) (tCons te tNil)) σ H (.tuple ds) := fun H1 e Q q =>
  ha H1 e _ fun H2 e2 => ⟨l, xs, rfl, .inl ⟨sqL_same (e.trans e2) hl, fun p hp => q (.ref p) _ (e2.trans (same_new hp)) (.tup (.inl (.inl upd_same)) ((hx.sm (e.trans e2)).up (tx_new hp)))⟩⟩
theorem ev_tupN {ds : List PyData} (ha : EvL K te σ H ds) : Ev K (tCB (rTupOf K) (tCons te tNil)) σ H (.tuple ds) := fun H1 e Q q =>
  ha H1 e _ fun l xs H2 hn e2 hl hx => ⟨l, xs, rfl, .inl ⟨.inl (.inl hl), fun p hp => q (.ref p) _ (e2.trans (same_new hp)) (.tup (.inl (.inl upd_same)) (hx.up (tx_new hp)))⟩⟩
/-- an item of a list -/
theorem ev_ixL {l : Addr} {xs : List V} {i : Int} {w : V} (ha : EvV ta σ H (.ref l)) (hb : Ev K tb σ H (.int i)) (hl : SqL K H l xs) (hi : atI xs i = some w) (hw : Tp K H w d) : Ev K (tOp (rIxL K) ta tb) σ H d := fun H1 e Q q =>
  ha H1 e _ fun H2 e2 => hb H2 (e.trans e2) _ fun v H3 e3 hv => ⟨l, xs, i, w, rfl, hv.int_inv, sqL_same ((e.trans e2).trans e3) hl, hi, q w H3 (e2.trans e3) (hw.sm ((e.trans e2).trans e3))⟩
/-- a slice of a tuple -/
theorem eo_none : EvO tNoPart σ H none := fun H1 _ _ q => q H1 (Same.refl H1)
theorem eo_some {i : Int} (h : Ev K te σ H (.int i)) : EvO (tPart te) σ H (some i) := fun H1 e _ q => h H1 e _ fun v H2 e2 hv => ⟨i, hv.int_inv, q H2 e2⟩
def cutD (ds : List PyData) (lo hi : Option Int) : List PyData := (ds.drop (HT.sIx ds.length 0 lo)).take (HT.sIx ds.length ds.length hi - HT.sIx ds.length 0 lo)
theorem ev_slT {ds : List PyData} {tl th : TO} {lo hi : Option Int} (ha : Ev K ta σ H (.tuple ds)) (h1 : EvO tl σ H lo) (h2 : EvO th σ H hi) : Ev K (L2.tSl (rSlA K) ta tl th) σ H (.tuple (cutD ds lo hi)) := fun H1 e Q q =>
  ha H1 e _ fun v H2 e2 hv => h1 H2 (e.trans e2) _ fun H3 e3 => h2 H3 ((e.trans e2).trans e3) _ fun H4 e4 => by
    obtain ⟨a, xs, rfl, hs, hx⟩ := (hv.sm (e3.trans e4)).tup_inv
    have hl := hx.len
    refine ⟨a, xs, rfl, hs, fun hw => ?_, fun hw p hp => ?_⟩
    · refine q _ H4 ((e2.trans e3).trans e4) (.tup hs ?_)
      rw [hl] at hw
      unfold cutD
      rw [hw.1, hw.2, Nat.sub_zero, List.drop_zero, List.take_length]
      exact hx
    · refine q _ _ (((e2.trans e3).trans e4).trans (same_new hp)) (.tup (.inl (.inl upd_same)) ?_)
      unfold cutD cutV
      rw [hl]
      exact ((hx.drop _).take _).up (tx_new hp)
/-- in a tuple of data -/
def rInT (K : PySem.W.Frag) : R2 := fun x y H Q => ∃ d ds, Dp K H x d ∧ Dp K H y (.tuple ds) ∧ SeqAt.shaped d = true ∧ SeqAt.shaped (.tuple ds) = true ∧ Q (.bl (ds.any fun z => PyData.eqv z d)) H
def rNotInT (K : PySem.W.Frag) : R2 := fun x y H Q => ∃ d ds, Dp K H x d ∧ Dp K H y (.tuple ds) ∧ SeqAt.shaped d = true ∧ SeqAt.shaped (.tuple ds) = true ∧ Q (.bl (!ds.any fun z => PyData.eqv z d)) H
theorem ev_inT {ds : List PyData} (ha : Ev K ta σ H x) (hb : Ev K tb σ H (.tuple ds)) (sx : SeqAt.shaped x = true) (sy : SeqAt.shaped (.tuple ds) = true) : Ev K (tOp (rInT K) ta tb) σ H (.bool (ds.any fun z => PyData.eqv z x)) :=
  ev_op ha hb fun u v H1 _ hu hv Q q => ⟨x, ds, Tp.dp _ _ hu, Tp.dp _ _ hv, sx, sy, q _ H1 (Same.refl H1) (.bl _)⟩
theorem ev_ninT {ds : List PyData} (ha : Ev K ta σ H x) (hb : Ev K tb σ H (.tuple ds)) (sx : SeqAt.shaped x = true) (sy : SeqAt.shaped (.tuple ds) = true) : Ev K (tOp (rNotInT K) ta tb) σ H (.bool (!ds.any fun z => PyData.eqv z x)) :=
  ev_op ha hb fun u v H1 _ hu hv Q q => ⟨x, ds, Tp.dp _ _ hu, Tp.dp _ _ hv, sx, sy, q _ H1 (Same.refl H1) (.bl _)⟩
end
section
variable {X : Cx}
theorem op_inT (hu : X.A.units + 65 < cLine) : OpR X (compareOp .In) (rInT X.K) := by
  intro pns s σ H x y v u Q I rx ry h
  obtain ⟨d, ds, hdx, hdy, shx, shy, q⟩ := h
  obtain ⟨as, r₁⟩ := Dp.reads I d x v hdx rx
  obtain ⟨bs, r₂⟩ := Dp.reads I (.tuple ds) y u hdy ry
  exact SeqAt.in_tuple_reads r₂ r₁ (SeqAt.canLay_of_shaped shy) (SeqAt.canLay_of_shaped shx) (room_in_shaped shx hu) ⟨.bl _, H, I, rfl, q⟩
theorem op_ninT (hu : X.A.units + 65 < cLine) : OpR X (compareOp .NotIn) (rNotInT X.K) := by
  intro pns s σ H x y v u Q I rx ry h
  obtain ⟨d, ds, hdx, hdy, shx, shy, q⟩ := h
  obtain ⟨as, r₁⟩ := Dp.reads I d x v hdx rx
  obtain ⟨bs, r₂⟩ := Dp.reads I (.tuple ds) y u hdy ry
  exact SeqAt.notIn_tuple_reads r₂ r₁ (SeqAt.canLay_of_shaped shy) (SeqAt.canLay_of_shaped shx) (room_in_shaped shx hu) ⟨.bl _, H, I, rfl, q⟩
end
end Lk

namespace Lk
open PySem PySem.Spec PyProof.Rows L2

/-! ### slots -/
inductive Sl where
  | any
  | dat (d : PyData)
  | val (v : V)
def SlOk (K : PySem.W.Frag) (H : Hp) : Sl → Option V → Prop
  | .any, _ => True
  | .dat d, o => ∃ v, o = some v ∧ Tp K H v d
  | .val v, o => o = some v
/-- the slots hold what ρ tells -/
def Sto (K : PySem.W.Frag) (H : Hp) (σ : L2.St) (ρ : List Sl) : Prop := ∀ (i : Nat) (s : Sl), ρ[i]? = some s → ∃ o, σ[i]? = some o ∧ SlOk K H s o
section
variable {K : PySem.W.Frag} {H H' H0 : Hp} {σ : L2.St} {ρ : List Sl}
theorem Sto.tx (h : Sto K H σ ρ) (e : Tx H H') : Sto K H' σ ρ := fun i s hs => by
  obtain ⟨o, ho, k⟩ := h i s hs
  refine ⟨o, ho, ?_⟩
  cases s with
  | any => trivial
  | dat d =>
    obtain ⟨v, e1, e2⟩ := k
    exact ⟨v, e1, e2.up e⟩
  | val v => exact k
theorem Sto.sm (h : Sto K H σ ρ) (e : Same H H') : Sto K H' σ ρ := h.tx (same_tx e)
theorem Sto.set {s : Sl} {v : V} (h : Sto K H σ ρ) (i : Nat) (k : SlOk K H s (some v)) : Sto K H (σ.set i (some v)) (ρ.set i s) := fun j s' hj => by
  by_cases e : i = j
  · subst e
    by_cases hi : i < ρ.length
    · rw [List.getElem?_set_self hi] at hj
      have e' : s = s' := Option.some.inj hj
      subst e'
      obtain ⟨o, ho, _⟩ := h i _ (List.getElem?_eq_getElem hi)
      have hl : i < σ.length := (List.getElem?_eq_some_iff.mp ho).1
      exact ⟨some v, List.getElem?_set_self hl, k⟩
    · rw [List.getElem?_eq_none (by rw [List.length_set]; omega)] at hj
      cases hj
  · rw [List.getElem?_set_ne e] at hj
    obtain ⟨o, ho, q⟩ := h j s' hj
    exact ⟨o, by rw [List.getElem?_set_ne e]; exact ho, q⟩
theorem Sto.put {v : V} {d : PyData} (h : Sto K H σ ρ) (i : Nat) (k : Tp K H v d) : Sto K H (σ.set i (some v)) (ρ.set i (.dat d)) := h.set i ⟨v, rfl, k⟩
theorem Sto.putV {v : V} (h : Sto K H σ ρ) (i : Nat) : Sto K H (σ.set i (some v)) (ρ.set i (.val v)) := h.set i rfl
theorem Sto.putA {v : V} (h : Sto K H σ ρ) (i : Nat) : Sto K H (σ.set i (some v)) (ρ.set i .any) := h.set i trivial
theorem Sto.nil : Sto K H [] [] := fun i s h => by simp at h
theorem Sto.cons {o : Option V} {s : Sl} (h : SlOk K H s o) (r : Sto K H σ ρ) : Sto K H (o :: σ) (s :: ρ) := fun i s' hs => by
  cases i with
  | zero =>
    have e : s = s' := Option.some.inj hs
    subst e
    exact ⟨o, rfl, h⟩
  | succ i => exact r i s' hs
theorem Sto.dat {v : V} {d : PyData} (h : Tp K H v d) (r : Sto K H σ ρ) : Sto K H (some v :: σ) (.dat d :: ρ) := .cons ⟨v, rfl, h⟩ r
theorem Sto.val {v : V} (r : Sto K H σ ρ) : Sto K H (some v :: σ) (.val v :: ρ) := .cons rfl r
theorem Sto.any {o : Option V} (r : Sto K H σ ρ) : Sto K H (o :: σ) (.any :: ρ) := .cons trivial r
theorem Sto.anys : ∀ {n : Nat} {o : Option V}, Sto K H (List.replicate n o) (List.replicate n .any)
  | 0, _ => .nil
  | n + 1, o => .any (Sto.anys (n := n))
theorem Sto.app : ∀ {vs : List V} {ds : List PyData} {σ : L2.St} {ρ : List Sl}, TpAll K H vs ds → Sto K H σ ρ → Sto K H (vs.map some ++ σ) (ds.map Sl.dat ++ ρ)
  | _, [], _, _, h, r => by cases h; exact r
  | _, d :: ds, _, _, h, r => by
    cases h with
    | cons h1 h2 => exact .dat h1 (Sto.app h2 r)
theorem Sto.weak {ρ' : List Sl} (h : Sto K H σ ρ) (k : ∀ (i : Nat) (s : Sl), ρ'[i]? = some s → ρ[i]? = some s ∨ (s = .any ∧ i < ρ.length)) : Sto K H σ ρ' := fun i s hs => by
  rcases k i s hs with q | ⟨rfl, q⟩
  · exact h i s q
  · obtain ⟨o, ho, _⟩ := h i _ (List.getElem?_eq_getElem q)
    exact ⟨o, ho, trivial⟩
/-- a slot forgotten -/
theorem Sto.drop (h : Sto K H σ ρ) (j : Nat) : Sto K H σ (ρ.set j .any) := h.weak fun i s hs => by
  by_cases e : j = i
  · subst e
    by_cases hi : j < ρ.length
    · rw [List.getElem?_set_self hi] at hs
      exact .inr ⟨(Option.some.inj hs).symm, hi⟩
    · rw [List.getElem?_eq_none (by rw [List.length_set]; omega)] at hs
      cases hs
  · rw [List.getElem?_set_ne e] at hs
    exact .inl hs
def wipeR (ρ : List Sl) : List Nat → List Sl
  | [] => ρ
  | v :: vs => (wipeR ρ vs).set v .any
theorem Sto.setN {o : Option V} (h : Sto K H σ ρ) (i : Nat) : Sto K H (σ.set i o) (ρ.set i .any) := fun j s' hj => by
  by_cases e : i = j
  · subst e
    by_cases hi : i < ρ.length
    · rw [List.getElem?_set_self hi] at hj
      have e' := Option.some.inj hj
      subst e'
      obtain ⟨o', ho, _⟩ := h i _ (List.getElem?_eq_getElem hi)
      have hl : i < σ.length := (List.getElem?_eq_some_iff.mp ho).1
      exact ⟨o, List.getElem?_set_self hl, trivial⟩
    · rw [List.getElem?_eq_none (by rw [List.length_set]; omega)] at hj
      cases hj
  · rw [List.getElem?_set_ne e] at hj
    obtain ⟨o, ho, q⟩ := h j s' hj
    exact ⟨o, by rw [List.getElem?_set_ne e]; exact ho, q⟩
theorem Sto.wipe (h : Sto K H σ ρ) : ∀ vs : List Nat, Sto K H (L2.wipe σ vs) (wipeR ρ vs)
  | [] => h
  | v :: vs => (Sto.wipe h vs).setN v
theorem wipe_set {σ : L2.St} {i : Nat} {x : Option V} : ∀ {vs : List Nat}, i ∈ vs → L2.wipe ((L2.wipe σ vs).set i x) vs = L2.wipe σ vs := by
  have key : ∀ (vs : List Nat) (τ : L2.St) (j : Nat), (L2.wipe τ vs)[j]? = if j ∈ vs then (if j < τ.length then some none else none) else τ[j]? := by
    intro vs
    induction vs with
    | nil => intro τ j; simp [L2.wipe]
    | cons v vs ih =>
      intro τ j
      have hl := wipe_length τ vs
      unfold L2.wipe
      by_cases e : v = j
      · subst e
        by_cases hv : v < τ.length
        · rw [List.getElem?_set_self (by rw [hl]; exact hv)]
          simp [hv]
        · rw [List.getElem?_eq_none (by rw [List.length_set, hl]; omega)]
          simp [hv]
      · rw [List.getElem?_set_ne e, ih]
        have e' : ¬ j = v := fun z => e z.symm
        simp [e']
  intro vs hi
  apply List.ext_getElem?
  intro j
  rw [key, key]
  by_cases hj : j ∈ vs
  · simp [hj, wipe_length]
  · have e : i ≠ j := fun z => hj (z ▸ hi)
    simp only [hj, if_false]
    rw [List.getElem?_set_ne e, key]
    simp [hj]

theorem ev_var {i : Nat} {d : PyData} (hS : Sto K H σ ρ) (h : ρ[i]? = some (.dat d)) : Ev K (tVar i) σ H d := fun H1 e Q q => by
  obtain ⟨o, ho, v, rfl, hv⟩ := hS i _ h
  exact ⟨v, ho, q v H1 (Same.refl H1) (hv.sm e)⟩
theorem evv_var {i : Nat} {v : V} (hS : Sto K H σ ρ) (h : ρ[i]? = some (.val v)) : EvV (tVar i) σ H v := fun H1 e Q q => by
  obtain ⟨o, ho, k⟩ := hS i _ h
  exact ⟨v, by rw [ho]; exact congrArg some k, q H1 (Same.refl H1)⟩

/-! ### promises of defs that answer by data alone -/
def spP (K : PySem.W.Frag) (rel : List PyData → PyData → Prop) : Sp := fun vs H Q _ => ∃ ds d, TpAll K H vs ds ∧ rel ds d ∧ ∀ v H', Same H H' → Tp K H' v d → Q v H'
theorem ev_call {rel : List PyData → PyData → Prop} {ta : TA} {ds : List PyData} {d : PyData} {E : XK} (ha : EvA K ta σ H ds) (hr : rel ds d) : Ev K (tCall (spP K rel) [] E ta) σ H d := fun H1 e Q q =>
  ha H1 e _ fun vs H2 e2 hvs => ⟨ds, d, by rw [List.append_nil]; exact hvs, hr, fun v H' e3 hv => q v H' (e2.trans e3) hv⟩

/-! ### statements; e0 : what stood at the def's entry stands -/
variable {D : Ends} {te : TE} {t u : TS} {tt : TT}
theorem s_set {i : Nat} {d : PyData} (e0 : Same H0 H) (hS : Sto K H σ ρ) (h : Ev K te σ H d) (k : ∀ σ' H1, Same H0 H1 → Same H H1 → Sto K H1 σ' (ρ.set i (.dat d)) → D.nx σ' H1) : tAsg te (gName i) D σ H :=
  h H (Same.refl H) _ fun v H1 e hv => k _ H1 (e0.trans e) e ((hS.sm e).put i hv)
theorem s_setL {i : Nat} {ds : List PyData} (e0 : Same H0 H) (hS : Sto K H σ ρ) (h : EvL K te σ H ds) (k : ∀ p xs σ' H1, H p = none → Same H0 H1 → Same H H1 → Sto K H1 σ' (ρ.set i (.val (.ref p))) → H1 p = some (.lst xs) → TpAll K H1 xs ds → D.nx σ' H1) : tAsg te (gName i) D σ H :=
  h H (Same.refl H) _ fun p xs H1 hp e hx hv => k p xs _ H1 hp (e0.trans e) e ((hS.sm e).putV i) hx hv
theorem s_ret {d : PyData} (e0 : Same H0 H) (h : Ev K te σ H d) (k : ∀ v H1, Same H0 H1 → Tp K H1 v d → D.rt v H1) : tRet te D σ H :=
  h H (Same.refl H) _ fun v H1 e hv => k v H1 (e0.trans e) hv
theorem s_if {b : Bool} (h : EvT tt σ H b) (h1 : b = true → ∀ H1, Same H H1 → t D σ H1) (h2 : b = false → ∀ H1, Same H H1 → u D σ H1) : tIfS tt t u D σ H :=
  h H (Same.refl H) _ fun H1 e => by
    cases b with
    | true => exact h1 rfl H1 e
    | false => exact h2 rfl H1 e
theorem s_unp2 {i j : Nat} {d1 d2 : PyData} (e0 : Same H0 H) (hS : Sto K H σ ρ) (h : Ev K te σ H (.tuple [d1, d2]))
    (k : ∀ σ' H1, Same H0 H1 → Same H H1 → Sto K H1 σ' ((ρ.set i (.dat d1)).set j (.dat d2)) → D.nx σ' H1) : tAsg te (gTup K 2 (gCons (gName i) (gCons (gName j) gNil))) D σ H :=
  h H (Same.refl H) _ fun v H1 e hv => by
    obtain ⟨a, xs, rfl, hs, hx⟩ := hv.tup_inv
    obtain ⟨v1, v2, rfl, h1, h2⟩ := hx.two_inv
    exact ⟨a, _, rfl, hs, rfl, v1, _, rfl, v2, _, rfl, rfl, k _ H1 (e0.trans e) e (((hS.sm e).put i h1).put j h2)⟩
theorem TpAll.three_inv {vs : List V} {d e f : PyData} (h : TpAll K H vs [d, e, f]) : ∃ u v w, vs = [u, v, w] ∧ Tp K H u d ∧ Tp K H v e ∧ Tp K H w f := by
  cases h with
  | cons h1 h2 =>
    obtain ⟨v, w, rfl, h3, h4⟩ := h2.two_inv
    exact ⟨_, _, _, rfl, h1, h3, h4⟩
theorem s_unp3 {i j l : Nat} {d1 d2 d3 : PyData} (e0 : Same H0 H) (hS : Sto K H σ ρ) (h : Ev K te σ H (.tuple [d1, d2, d3]))
    (k : ∀ σ' H1, Same H0 H1 → Same H H1 → Sto K H1 σ' (((ρ.set i (.dat d1)).set j (.dat d2)).set l (.dat d3)) → D.nx σ' H1) : tAsg te (gTup K 3 (gCons (gName i) (gCons (gName j) (gCons (gName l) gNil)))) D σ H :=
  h H (Same.refl H) _ fun v H1 e hv => by
    obtain ⟨a, xs, rfl, hs, hx⟩ := hv.tup_inv
    obtain ⟨v1, v2, v3, rfl, h1, h2, h3⟩ := hx.three_inv
    exact ⟨a, _, rfl, hs, rfl, v1, _, rfl, v2, _, rfl, v3, _, rfl, rfl, k _ H1 (e0.trans e) e ((((hS.sm e).put i h1).put j h2).put l h3)⟩
theorem s_par {i j : Nat} {d1 d2 : PyData} {ta : TA} (e0 : Same H0 H) (hS : Sto K H σ ρ) (h : EvA K ta σ H [d1, d2])
    (k : ∀ σ' H1, Same H0 H1 → Same H H1 → Sto K H1 σ' ((ρ.set i (.dat d1)).set j (.dat d2)) → D.nx σ' H1) : tPar i j ta D σ H :=
  h H (Same.refl H) _ fun vs H1 e hv => by
    obtain ⟨v1, v2, rfl, h1, h2⟩ := hv.two_inv
    exact ⟨v1, v2, rfl, k _ H1 (e0.trans e) e (((hS.sm e).put i h1).put j h2)⟩
/-- xs.append(e), xs tracked at l -/
theorem s_app {l : Addr} {xs : List V} {d : PyData} {ta : TE} (hl : H l = some (.lst xs)) (ha : EvV ta σ H (.ref l)) (h : Ev K te σ H d) (hz : xs.length < 100000)
    (k : ∀ v H1, Same H H1 → Tp K H1 v d → D.nx σ (upd H1 l (.lst (xs ++ [v])))) : tDrop (tBM K "list" rAppend ta (tCons te tNil)) D σ H :=
  ha H (Same.refl H) _ fun H1 e1 => ⟨.inl ⟨rfl, xs, .inl (.inl (e1 _ _ hl))⟩, h H1 e1 _ fun v H2 e2 hv => ⟨l, xs, v, rfl, rfl, e2 _ _ (e1 _ _ hl), sz_lt hz, k v H2 (e1.trans e2) hv⟩⟩
end

/-! ### defs -/
structure Has (K : PySem.W.Frag) (mg : Str → Option Value) (x : Str) (st : Stmt) (ps : List Str) : Prop where
  h : ∃ f fd, mg x = some (.ref f) ∧ Fun K x x st f fd ∧ Binds K fd ps []
structure Def (P : Program) (w : World) (K : PySem.W.Frag) (mg : Str → Option Value) (base : Heap) (CX : CXT) (x : Str) (k : Nat) (ps : List Str) (sp : Sp) : Prop where
  h : ∃ f fd, mg x = some (.ref f) ∧ PySem.W.keepIn K (.ref f) = true ∧ Binds K fd ps [] ∧ FnOk P w K mg base CX k f fd ps sp
section
variable {P : Program} {w : World} {K : PySem.W.Frag} {mg : Str → Option Value} {base : Heap}
theorem Def.mono {CX : CXT} {x : Str} {j k : Nat} {ps : List Str} {sp : Sp} (d : Def P w K mg base CX x j ps sp) (h : j ≤ k) : Def P w K mg base CX x k ps sp := by
  obtain ⟨f, fd, h1, h2, h3, h4⟩ := d.h
  exact ⟨f, fd, h1, h2, h3, h4.mono h⟩
theorem pe_fn {X : Cx} {CX : CXT} {x : Str} {k : Nat} {ps : List Str} {sp : Sp} {E : XK} {e : Expr} {es : List Expr} {t : TA} {p pos : Pos} (d : Def X.prog X.w X.K X.mg X.base CX x k ps sp) (hr : Room k X.A) (hx : Passes CX X E) (ha : PA X (e :: es) t) (hg : Gl X x := by rfl) (hdb : (x == ("__debug__" : Str)) = false := by decide) (he : starEach (e :: es) X.env = (false, eval e X.env) :: starEach es X.env := by rfl) (hpl : (backTo pos (starEach es X.env)).any (·.1) = false := by rfl) :
    PE X (.Call (.Name x p) (e :: es) [] pos) (tCall sp [] E t) := by
  obtain ⟨f, fd, h1, h2, h3, h4⟩ := d.h
  exact pe_call h4 hr hg h1 h2 h3 .nil hx ha hdb he hpl
/-- a def of any promise, that raises nothing -/
theorem def_of {x : Str} {st : Stmt} {ps N : List Str} {k : Nat} {sp : Sp} (F : Has K mg x st ps) (S : FnScope N ps (defScope st)) (len : ∀ vs H Q E, sp vs H Q E → vs.length = ps.length)
    (hbody : ∀ (f : Addr) (cdv : Value) (A : Around) (outer : List Env) (s : Shared) (H0 : Hp) (E0 : XK), Room k (A.deeper (envOfC x (defScope st) s.heap.objs.size f cdv)) →
      ∃ t, PSs (cxOf CX0 P w K mg base N x (defScope st) f cdv A outer s H0 E0).nox (defBody st) t ∧ ∀ (H : Hp) (vs : List V) (Q : VK) (E : XK), sp vs H Q E → t { nx := fun _ H' => Q .non H', rt := Q } (start N vs) H) :
    Def P w K mg base CX0 x (k + 1) ps sp := by
  obtain ⟨f, fd, h1, h2, h3⟩ := F.h
  refine ⟨f, fd, h1, h2.kp, h3, h2.ok S len fun cdv A outer s H vs Q E hr h => ?_⟩
  obtain ⟨t, a, b⟩ := hbody f cdv A outer s H E hr
  exact ⟨t, a, b H vs Q E h⟩
/-- a def that answers by data -/
theorem def_pure {x : Str} {st : Stmt} {ps N : List Str} {k : Nat} {rel : List PyData → PyData → Prop} (F : Has K mg x st ps) (S : FnScope N ps (defScope st)) (len : ∀ ds d, rel ds d → ds.length = ps.length)
    (hbody : ∀ (f : Addr) (cdv : Value) (A : Around) (outer : List Env) (s : Shared) (H0 : Hp) (E0 : XK), Room k (A.deeper (envOfC x (defScope st) s.heap.objs.size f cdv)) →
      ∃ t, PSs (cxOf CX0 P w K mg base N x (defScope st) f cdv A outer s H0 E0).nox (defBody st) t ∧ ∀ (H : Hp) (σ : L2.St) (ds : List PyData) (d : PyData) (D : Ends), rel ds d → Sto K H σ (ds.map Sl.dat ++ List.replicate (N.length - ps.length) .any) →
        (∀ v H', Same H H' → Tp K H' v d → D.rt v H') → t D σ H) :
    Def P w K mg base CX0 x (k + 1) ps (spP K rel) := by
  refine def_of F S (fun vs H Q E h => ?_) fun f cdv A outer s H0 E0 hr => ?_
  · obtain ⟨ds, d, h1, h2, _⟩ := h
    rw [h1.len, len _ _ h2]
  · obtain ⟨t, a, b⟩ := hbody f cdv A outer s H0 E0 hr
    refine ⟨t, a, fun H vs Q E h => ?_⟩
    obtain ⟨ds, d, h1, h2, q⟩ := h
    refine b H (start N vs) ds d { nx := fun _ H' => Q .non H', rt := Q } h2 ?_ q
    unfold L2.start
    rw [h1.len, len _ _ h2]
    exact Sto.app h1 Sto.anys
end
end Lk

namespace PySem
open Sem (wp)
/-! enumerate(tuple): made -/
theorem meets_enumerate_newTup (l : Addr) (items : Array Value) :
    Meets (Builtin.«enumerate.__new__» ⟨[.type "enumerate", .ref l], []⟩) (fun _ R s => s.heap.IsTuple l items ∧
      R (.ok (.ret (.ref (s.heap.push { cls := .type "tuple_iterator", data := .fields #[.ref l, .int 0 0] }).objs.size)))
        { s with heap := (s.heap.push { cls := .type "tuple_iterator", data := .fields #[.ref l, .int 0 0] }).push { cls := .type "enumerate", data := .fields #[.none, .bool false, .ref s.heap.objs.size, rawInt 0, .none, .none] } }) :=
  .of_wp fun prg wd Ar Rs sh hh => by
    obtain ⟨hp, g, d, tk, os⟩ := sh; obtain ⟨hL, h⟩ := hh
    have hsub := sub_enumerate
    have hL' : Heap.IsTuple (Shared.heap ⟨hp, g, d, tk, os⟩) l items := hL
    wp_walk using wpAny_pyIter_tuple hL'
    refine wpAny_stack_any fun _ => wpAny_pure ?_
    split
    · rename_i cl _ _ _ _ _
      cases (cl == Value.type "enumerate")
      · wp_walk using wpAny_pyIter_tuple hL'
        exact ⟨_, rfl, h⟩
      · wp_walk using wpAny_pyIter_tuple hL'
        exact ⟨_, rfl, h⟩
    · wp_walk using wpAny_pyIter_tuple hL'
      exact ⟨_, rfl, h⟩
section
variable {prog : Program} {w : World} {A : Around} {E : Value → Shared → Prop} {s : Shared}
theorem call_enumerate_tup {l : Addr} {items : Array Value} {Q : Value → Shared → Prop} (hL : s.heap.IsTuple l items)
    (h : ∀ h', IsEnum h' (s.heap.objs.size + 1) s.heap.objs.size 0 .none → h'.IsTupleIter s.heap.objs.size l 0 → h'.objs.size = s.heap.objs.size + 2 → (∀ b o, s.heap.get? b = some o → h'.get? b = some o) → Q (.ref (s.heap.objs.size + 1)) { s with heap := h' }) : wpAny (model prog w) A (call (.type "enumerate") [.ref l]) Q E s := by
  refine callType_new F.called_enumerate (by decide) (F.typeCall_enumerate_1 _) (F.newCall_enumerate_1 _) (fun obj => F.args_object_init_2 obj _) F.entry_enumerate_new (meets_enumerate_newTup l items) ⟨hL, ?_⟩
  have hz : (s.heap.push { cls := .type "tuple_iterator", data := .fields #[.ref l, .int 0 0] }).objs.size = s.heap.objs.size + 1 := Heap.size_push ..
  show _ ∧ _
  rw [hz]
  have he : IsEnum ((s.heap.push { cls := .type "tuple_iterator", data := .fields #[.ref l, .int 0 0] }).push { cls := .type "enumerate", data := .fields #[.none, .bool false, .ref s.heap.objs.size, rawInt 0, .none, .none] }) (s.heap.objs.size + 1) s.heap.objs.size 0 .none := by
    have := Heap.get?_push_size (s.heap.push { cls := .type "tuple_iterator", data := .fields #[.ref l, .int 0 0] }) (o := { cls := .type "enumerate", data := .fields #[.none, .bool false, .ref s.heap.objs.size, rawInt 0, .none, .none] }) rfl
    rw [hz] at this; exact this
  refine ⟨⟨_, he, rfl⟩, h _ he ⟨_, Heap.get?_push_of_some _ (Heap.get?_push_size _ rfl), rfl, rfl⟩ (by rw [Heap.size_push, hz]) fun a ob e => Heap.get?_push_of_some _ (Heap.get?_push_of_some _ e)⟩
end
end PySem
namespace Lk
open PySem PySem.Spec PyProof.Rows L2
/-! ### enumerate(tuple): walked -/
def Itu (K : PySem.W.Frag) (a : Addr) : It :=
  ⟨fun i H => ∃ (xs : List V) (x : V), SqT K H a xs ∧ xs[i]? = some x, fun i H v H' => ∃ T x, v = .ref T ∧ H T = none ∧ H' = upd H T (.tup [.int (i : Nat), x]) ∧ ∀ xs, SqT K H a xs → xs[i]? = some x, fun i H => ∃ xs : List V, SqT K H a xs ∧ xs.length ≤ i⟩
theorem turn_enumT {P : Program} {w : World} {K : PySem.W.Frag} {elts : List Expr} {kk : Nat} {tpos : Pos} (a e it : Addr) :
    Turn P w K (.Tuple elts kk tpos) (Itu K a) [e, it] e (fun i h => (∃ od, IsEnum h e it ((i : Nat) : Int) od) ∧ h.IsTupleIter it a i ∧ e ≠ it ∧ a ≠ it ∧ a ≠ e) where
  mem := by simp
  obj := fun i h sta b hb => by
    obtain ⟨⟨od, hen⟩, ⟨o, ho, hc, hd⟩, _⟩ := sta
    have eb : b = e ∨ b = it := by simpa using hb
    rcases eb with z | z
    · rw [z]; exact ⟨_, hen, fun v q => nomatch q⟩
    · rw [z]; exact ⟨o, ho, fun v k => by rw [hd] at k; cases k⟩
  keep := fun i h h' sta k => let ⟨⟨od, hen⟩, hi, hnei⟩ := sta; ⟨⟨od, k e (by simp) _ hen⟩, hi.at fun o q => k it (by simp) o q, hnei⟩
  item := by
    intro X hP hw hK hc i pns s σ H E I hfp sta hgo
    subst hP hw hK
    obtain ⟨⟨od, hen⟩, hitr, hnei, hai, hae⟩ := sta
    obtain ⟨xs, x, hseq, hxi⟩ := hgo
    obtain ⟨cells, rcs, p, hz⟩ := I.tuple hseq
    obtain ⟨u, hu, rui⟩ := rcs.get hxi
    have heS : e < s.heap.objs.size := Heap.lt_size hen
    have hiS : it < s.heap.objs.size := by obtain ⟨_, q, _⟩ := hitr; exact Heap.lt_size q
    have hp : s.heap.IsTuple a cells.toArray := p
    have hltn : i < cells.toArray.size := by
      rw [List.size_toArray]
      exact (List.getElem?_eq_some_iff.mp hu).1
    refine wpAny_pyNext_enum_itemD (Draws.tuple (show X.A.in1.handled = none from I.ok.hd hc) it a hai cells.toArray) hen ⟨hitr, hp⟩ hltn hnei (by simp [hnei, Ne.symm hae]) fun u' h' tk hPx ho st' hT hsz hk => ?_
    have eu : u' = u := by
      have e1 : cells.toArray[i]? = some u' := hPx
      have e2 : cells.toArray[i]? = some u := by simpa using hu
      exact Option.some.inj (e1.symm.trans e2)
    subst eu
    obtain ⟨hit', hp'⟩ := st'
    refine ⟨_, rfl, wpAny_letOwnedTupleGo_enum (s := { s with heap := h', toks := tk + 1 }) ho fun h'' he' sb => ?_⟩
    have hT2 : h''.get? s.heap.objs.size = some { cls := .type "tuple", data := .seq #[.int i tk, u'] } := (sb.2 _ (Nat.ne_of_gt heS)).trans hT
    have nwo : ObjOk X.prog X.w (upd H s.heap.objs.size (.tup [.int (i : Nat), x])) h'' s.heap.objs.size (.tup [.int (i : Nat), x]) :=
      ⟨by show 2 ≤ sizeLine; decide, [.int i tk, u'], .cons ⟨_, rfl⟩ (.cons rui .nil), ⟨_, hT2, rfl, _, rfl⟩⟩
    have J₁ : Inv X pns σ (upd H s.heap.objs.size (.tup [.int (i : Nat), x])) { s with heap := h'', toks := tk + 1 } :=
      I.turnedNew (ch := [e, it]) (fun b ob hb q => (sb.2 b (fun z => hb (by simp [z]))).trans (hk b ob (fun z => hb (by simp [z])) (fun z => hb (by simp [z])) q)) hfp (Nat.le_refl _) nwo
    refine ⟨.ref s.heap.objs.size, _, J₁, rfl, ⟨_, x, rfl, I.hok.fresh (Nat.le_refl _), rfl, fun ys hy => by rw [I.tuple_inj hy hseq]; exact hxi⟩, ⟨⟨u', ?_⟩, hit'.at fun o q => (sb.2 it (Ne.symm hnei)).trans q, hnei, hai, hae⟩, fun b hb => ?_⟩
    · have ei : ((i + 1 : Nat) : Int) = (i : Int) + 1 := by omega
      rw [ei]; exact he'
    · have hbs : b < s.heap.objs.size := by
        have eb : b = e ∨ b = it := by simpa using hb
        rcases eb with z | z
        · rw [z]; exact heS
        · rw [z]; exact hiS
      rw [upd_ne (Nat.ne_of_lt hbs)]
      exact (hfp b hb).1
  done := by
    intro X hP hw hK hc i pns s σ H E I hfp sta hgo
    subst hP hw hK
    obtain ⟨⟨od, hen⟩, hitr, hnei, hai, hae⟩ := sta
    obtain ⟨xs, hseq, hxi⟩ := hgo
    obtain ⟨cells, rcs, p, hz⟩ := I.tuple hseq
    obtain ⟨f0, f1, f2, f3, f4, f5⟩ := hfp it (by simp)
    have hl := rcs.length
    have hp : s.heap.IsTuple a cells.toArray := p
    have D : Draws X.prog X.w X.A.in1 it [it, a] i (fun _ _ => False) (fun j h => j = i ∧ h.IsTupleIter it a i ∧ h.IsTuple a cells.toArray) :=
      { live := fun _ _ sta => let ⟨_, ⟨o, ho, _⟩, _⟩ := sta; ⟨o, ho⟩
        frame := fun _ _ _ sta hk => ⟨sta.1, sta.2.1.at fun o e => hk it (by simp) o e, sta.2.2.at fun o e => hk a (by simp) o e⟩
        item := fun j s Q E hj sta hQ => absurd hj (by rw [sta.1]; exact Nat.lt_irrefl _)
        done := fun s Q E sta hE => wpAny_nextOf_tuple_end (show X.A.in1.handled = none from I.ok.hd hc) sta.2.1 sta.2.2 (by simp; omega) hE }
    exact wpAny_pyNext_enum_endD D hen ⟨rfl, hitr, hp⟩ fun h' eb => ⟨rfl, I.turned (t' := s.toks) (fun b o hb q => eb b o hb q) f0 f1 f3 f4 f5⟩
  self := fun A i s Q E sta h => let ⟨⟨_, hen⟩, _⟩ := sta; wpAny_pyIter_enum hen h
def iEnumT (K : PySem.W.Frag) (ta : TA) : TI := fun σ H R => ta σ H fun vs H1 => ∃ a xs, vs = [.ref a] ∧ SqT K H1 a xs ∧ R (Itu K a) H1
theorem pi_enumT {X : Cx} {e : Expr} {ta : TA} {p pos tpos : Pos} {elts : List Expr} {kk : Nat} (hg : Gl X "enumerate") (hm : X.mg "enumerate" = none) (ha : PA X [e] ta) (hs : starEach [e] X.env = [(false, eval e X.env)] := by rfl) :
    PI X (.Tuple elts kk tpos) (.Call (.Name "enumerate" p) [e] [] pos) (iEnumT X.K ta) := by
  refine ⟨fun pns s σ H R I h => ?_⟩
  refine Call_ (ld_blt I hg hm boot_enumerate (PyProof.Rows.callWith_type1 (thn (ha.run pos pns s σ H _ I h) fun us s₁ ⟨vs, H₁, J₁, r₁, q₁⟩ => ?_) hs rfl))
  obtain ⟨a, xs, ex, hseq, q⟩ := q₁
  subst ex
  cases r₁ with
  | cons r rr =>
    cases rr
    cases r
    obtain ⟨cells, rcs, p', hz⟩ := J₁.tuple hseq
    have hp : s₁.heap.IsTuple a cells.toArray := p'
    have haS : a < s₁.heap.objs.size := by obtain ⟨o, ho, _⟩ := hp; exact Heap.lt_size ho
    refine call_enumerate_tup hp fun h' hen hitr hsz hk => wpAny_pyIter_enum hen ?_
    have J₂ : Inv X pns σ H₁ { s₁ with heap := h' } := J₁.kept (t' := s₁.toks) hk
    refine ⟨s₁.heap.objs.size + 1, [s₁.heap.objs.size + 1, s₁.heap.objs.size], _, _, H₁, rfl, J₂, turn_enumT a (s₁.heap.objs.size + 1) s₁.heap.objs.size, ⟨⟨.none, hen⟩, hitr, Nat.succ_ne_self _, Nat.ne_of_lt haS, Nat.ne_of_lt (Nat.lt_succ_of_lt haS)⟩, fun b hb => ?_, q⟩
    have eb : b = s₁.heap.objs.size + 1 ∨ b = s₁.heap.objs.size := by simpa using hb
    have hleS : s₁.heap.objs.size ≤ b := by
      rcases eb with y | y
      · rw [y]; exact Nat.le_add_right _ _
      · rw [y]; exact Nat.le_refl _
    exact J₁.fpOk hleS (J₁.hok.fresh hleS)
/-! ### t.index(x), t a tuple of ints -/
def rTIdx (K : PySem.W.Frag) : V → List V → Hp → VK → Prop := fun x xs H Q => ∃ p, ∃ ys : List Int, ∃ z j, x = .ref p ∧ xs = [.int z] ∧ SqT K H p (ys.map V.int) ∧ ys[j]? = some z ∧ (∀ m, m < j → ys[m]? ≠ some z) ∧ Q (.int (j : Nat)) H
theorem flat_intsT (ys : List Int) : (ys.map V.int).all flatV = true := by
  rw [List.all_map]
  exact List.all_eq_true.mpr (fun _ _ => rfl)
theorem mt_tup_indexI {X : Cx} : MtR X "tuple.index" (rTIdx X.K) := by
  intro pns s σ H x xs v us Q I rx rs h
  obtain ⟨p, ys, z, j, rfl, rfl, hseq, hy, hno, q⟩ := h
  cases rx
  obtain ⟨uu, rfl, tk, rfl⟩ := vals1 rs
  obtain ⟨cells, r, pl, hz⟩ := I.tuple hseq
  obtain ⟨⟨cl, od, dt, sl⟩, ho, hc, n, hd⟩ := pl
  simp only at hc hd
  subst hc
  subst hd
  have hl : cells.toArray.size = ys.length := by rw [List.size_toArray, ← r.length, List.length_map]
  have hj : j < cells.toArray.size := by rw [hl]; exact (List.getElem?_eq_some_iff.mp hy).1
  have atc : ∀ (m : Nat) (hmc : m < cells.toArray.size), ∃ yv t₁, ys[m]? = some yv ∧ cells.toArray[m] = Value.int yv t₁ := fun m hmc => by
    have hml : m < ys.length := by rw [← hl]; exact hmc
    obtain ⟨w, hw, t₁, hw'⟩ := r.get (i := m) (x := .int ys[m]) (by simp [hml])
    refine ⟨ys[m], t₁, List.getElem?_eq_getElem hml, ?_⟩
    have eqz := (List.getElem?_eq_some_iff.mp hw).2
    rw [← hw', ← eqz]
    simp
  refine call_meets PySem.F.slot_tuple_index ⟨_, ho, rfl⟩ PySem.F.entry_tuple_index (PySem.F.args_tuple_index_2 _ _) (TI.tuple_indexAt p cells.toArray n od sl (.int z tk) (eqU (.int z)) j hj ?_ ?_)
    ⟨ho, fun w hw => mem_eqAt (x := .int z) ⟨tk, rfl⟩ rfl r (flat_intsT ys) w (by simpa using hw), ⟨.int (j : Nat), H, I.tok _, ⟨_, rfl⟩, q⟩⟩
  · obtain ⟨yv, t₁, g1, g2⟩ := atc j hj
    rw [hy] at g1
    cases g1
    rw [g2]
    show (z == z) = true
    exact beq_self_eq_true z
  · intro m hmc hmj
    obtain ⟨yv, t₁, g1, g2⟩ := atc m hmc
    rw [g2]
    show (yv == z) = false
    exact beq_eq_false_iff_ne.mpr fun eqz => hno m hmj (eqz ▸ g1)
end Lk

namespace Lk
open PySem PySem.Spec PyProof.Rows L2
/-! ### the text by its places -/
def topS (i : Nat) : Stmt := PySem.Challenge.pw_ledclocks_k14_whole_relays_and_worlds.main.body.getD i (.Pass ⟨0, 0, 0, 0⟩)
/-! ### B.__init__(self), B an own class over ValueError without an __init__ of its own -/
structure BaseTxt (K : PySem.W.Frag) (B : Addr) : Prop where
  sp : PySem.W.specialIn K (.ref B) "__getattribute__" = some (some (.builtin "type.__getattribute__"))
  ty : PySem.W.typeIn K (.ref B) = some (.type "type")
  rd : PySem.W.readsIn K B (.type "type") = true
  fi : PySem.W.findCls K (.ref B) (.type "type") "__init__" = some (.val (.builtin "ValueError.__init__"))
theorem pe_clsInit {X : Cx} {x : Str} {B : Addr} {e : Expr} {es : List Expr} {ta : TA} {p1 p2 pos : Pos} {pl : Sem Bool} (hg : Gl X x) (hm : X.mg x = some (.ref B)) (T : BaseTxt X.K B) (ha : PA X (e :: es) ta)
    (hdb : (x == ("__debug__" : Str)) = false := by decide)
    (hc : eval (.Call (.Attribute (.Name x p1) "__init__" p2) (e :: es) [] pos) X.env = (do
      let ov ← eval (.Name x p1) X.env
      standAt p2.atName
      let (fn, fst) ← holding [ov] (getMethod ov "__init__" pl)
      callWith pos fn fst (backTo pos (starEach (e :: es) X.env)) (backToKw pos (keywordEach [] X.env))) := by rfl) (he : starEach (e :: es) X.env = (false, eval e X.env) :: starEach es X.env := by rfl) (hpl : (backTo pos (starEach es X.env)).any (·.1) = false := by rfl) :
    PE X (.Call (.Attribute (.Name x p1) "__init__" p2) (e :: es) [] pos) (tVeI X.K ta) := by
  refine ⟨fun pns s σ H Q I h => ?_⟩
  refine PySem.W.methodCall_KW (ld_glob I hg hm ?_ hdb) hc
  obtain ⟨m, fr⟩ := I.fr
  refine PySem.W.method_of_cls fr I.ok.mod.kin T.sp (PySem.W.cls_val fr I.ok.mod.kin T.ty T.rd T.fi (by decide +kernel) ?_)
  show wpAny (model X.prog X.w) _ (callWith pos (Value.builtin "ValueError.__init__") [] (backTo pos (starEach (e :: es) X.env)) []) _ _ _
  refine PyProof.Rows.callWith_method1 (thn (ha.run pos pns _ σ H _ (I.tok _) h) fun us s₁ ⟨vs, H₁, J₁, r₁, a, C, ws, ev, hl, T, ea, q⟩ => ?_) he hpl
  subst ev
  cases r₁ with
  | @cons _ v0 _ ur rz rws =>
    obtain rfl : v0 = Value.ref a := rz
    have hln : ur.length ≤ sizeLine := by
      rw [← Paired.length rws, sizeLine_eq]
      omega
    exact oinit_ok T J₁ ea hln fun s' J => ⟨.non, H₁, J, rfl, q⟩
/-! ### NoPaper -/
abbrev sNPi : Stmt := inClass (topS 19) 0
/-- what the top has left of NoPaper (at C) and of ClockError (at B) -/
structure NpTxt (K : PySem.W.Frag) (mg : Str → Option Value) (C : Addr) : Prop where
  gC : mg "NoPaper" = some (.ref C)
  ox : OexC K C
  nW : PySem.W.findIn K (.ref C) "word" = some none
  nA : PySem.W.findIn K (.ref C) "at" = some none
  te : PySem.W.exmOne K (.ref C) (.ref C) = some true
  ini : ∃ B fI fd, mg "ClockError" = some (.ref B) ∧ BaseTxt K B ∧ PySem.W.findIn K (.ref C) "__init__" = some (some (.ref fI)) ∧ PySem.W.typeIn K (.ref fI) = some (.type "function") ∧
    Fun K "__init__" "NoPaper.__init__" sNPi fI fd ∧ Binds K fd ["self", "word", "at"] []
section
variable {P : Program} {w : World} {K : PySem.W.Frag} {mg : Str → Option Value} {base : Heap}
def spNPi (K : PySem.W.Frag) (C : Addr) : Sp := fun vs H Q _ => ∃ a y z, vs = [.ref a, y, z] ∧ H a = some (exo a C none) ∧
  ∀ d, H d = none → d ≠ a → Q .non (upd (upd (upd H d (exd d [("word", y)])) a (exo a C (some d))) d (exd d [("at", z), ("word", y)]))
theorem scNPi : FnScope ["self", "word", "at"] ["self", "word", "at"] (defScope sNPi) := ⟨rfl, rfl, rfl, by decide +kernel, rfl, by decide +kernel, by decide +kernel⟩
theorem ok_npi {C B fI : Addr} {fd : FuncData} (F : Fun K "__init__" "NoPaper.__init__" sNPi fI fd) (T : NpTxt K mg C) (gB : mg "ClockError" = some (.ref B)) (TB : BaseTxt K B) : FnOk P w K mg base CX0 1 fI fd ["self", "word", "at"] (spNPi K C) := by
  refine F.ok scNPi (fun vs H Q E h => ?_) (fun cdv A outer s H vs Q E hr h => ?_)
  · obtain ⟨a, y, z, rfl, _⟩ := h
    rfl
  · obtain ⟨a, y, z, rfl, ha, k⟩ := h
    refine ⟨_, pss_cons (ps_expr (pe_clsInit rfl gB TB (pa_cons (pv 0) pa_nil))) (pss_cons (ps_ost (pv 0) (pv 1)) (pss_one (ps_ost (pv 0) (pv 2)))), ?_⟩
    refine ⟨.ref a, rfl, a, C, [], rfl, Nat.zero_le _, T.ox, ha, ?_⟩
    refine ⟨y, rfl, .ref a, rfl, a, C, rfl, T.ox, T.nW, .inl ⟨ha, fun d hd hda => ?_⟩⟩
    refine ⟨z, rfl, .ref a, rfl, a, C, rfl, T.ox, T.nA, .inr ⟨d, [("word", y)], upd_same, ?_, by show 1 ≤ 900; decide, ?_⟩⟩
    · rw [upd_ne hda, upd_same]
    · exact k d hd hda
/-- need(truth, word, at) -/
abbrev sNeed : Stmt := topS 32
def spNeed (K : PySem.W.Frag) (C : Addr) : Sp := fun vs H Q E => ∃ t y z, vs = [.bl t, y, z] ∧ (t = true → Q .non H) ∧ (t = false → ∀ d H', Same H H' → E (.ref C) d H')
theorem scNeed : FnScope ["truth", "word", "at"] ["truth", "word", "at"] (defScope sNeed) := ⟨rfl, rfl, rfl, by decide +kernel, rfl, by decide +kernel, by decide +kernel⟩
theorem ok_need {C : Addr} (F : Has K mg "need" sNeed ["truth", "word", "at"]) (T : NpTxt K mg C) : Def P w K mg base (L2.CX P w) "need" 3 ["truth", "word", "at"] (spNeed K C) := by
  obtain ⟨f, fd, h1, h2, h3⟩ := F.h
  refine ⟨f, fd, h1, h2.kp, h3, h2.okX scNeed (fun vs H Q E h => ?_) (fun cdv A outer s H vs Q E hr h => ?_)⟩
  · obtain ⟨t, y, z, rfl, _⟩ := h
    rfl
  · obtain ⟨t, y, z, rfl, k1, k2⟩ := h
    obtain ⟨B, fI, fdI, gB, TB, iC, tI, FI, bI⟩ := T.ini
    have GI : FnOk P w K mg base CX0 1 fI fdI ["self", "word", "at"] (spNPi K C) := ok_npi FI T gB TB
    refine ⟨_, pss_one (ps_if (pt_not (pt_val (pv 0))) (pss_one (ps_raise rfl (takes_of rfl rfl rfl rfl) (pmk_oex T.ox iC tI GI hr bI .nil (fun _ _ _ _ _ _ _ z => z.elim) rfl T.gC (pa_cons (pv 1) (pa_cons (pv 2) pa_nil))))) pss_nil), ?_⟩
    refine ⟨_, rfl, t, rfl, ?_⟩
    cases t with
    | true => exact iteF (k1 rfl)
    | false =>
      refine iteT ?_
      refine ⟨y, rfl, z, rfl, by show 2 ≤ 1000; decide, fun a ha => ⟨a, y, z, rfl, upd_same, fun d hd hda => ⟨rfl, d, _, ?_, upd_same, ?_, k2 rfl _ _ ?_⟩⟩⟩
      · rw [upd_ne (Ne.symm hda), upd_same]
      · rw [upd_ne hda] at hd
        exact hd
      · intro b o hb
        have n1 : b ≠ a := ne_of_none hb ha
        have n2 : b ≠ d := fun z => by
          rw [upd_ne hda] at hd
          rw [z, hd] at hb
          cases hb
        rw [upd_ne n2, del_ne n1, upd_ne n2, upd_ne n1, upd_ne n2, upd_ne n1]
        exact hb
end
end Lk

namespace Lk
open PySem PySem.Spec PyProof.Rows L2
/-! ### tuple(list) as an object known to have no dict; its methods -/
def TupZ (H : Hp) (p : Addr) (xs : List V) : Prop := ∃ o : Obj, H p = some (.frz o (.tup xs)) ∧ o.dict = none
theorem TupZ.sm {H H' : Hp} {p : Addr} {xs : List V} (h : TupZ H p xs) (e : Same H H') : TupZ H' p xs := let ⟨o, h1, h2⟩ := h; ⟨o, e _ _ h1, h2⟩
theorem TupZ.sq {K : PySem.W.Frag} {H : Hp} {p : Addr} {xs : List V} (h : TupZ H p xs) : SqT K H p xs := let ⟨o, h1, _⟩ := h; .inl (.inr ⟨o, h1⟩)
def rTupZ (K : PySem.W.Frag) : List V → Hp → VK → Prop := fun xs H Q => ∃ p ys, xs = [.ref p] ∧ SqL K H p ys ∧ ∀ l o, H l = none → o.dict = none → Q (.ref l) (upd H l (.frz o (.tup ys)))
theorem cr_tupleZ {X : Cx} : CallR X (.type "tuple") (rTupZ X.K) := by
  intro pns s σ H xs us Q I r h
  obtain ⟨p, ys, rfl, hseq, q⟩ := h
  obtain ⟨u, rfl, rx⟩ := vals1 r
  cases rx
  obtain ⟨cells, r', pl, hz⟩ := I.list hseq
  have hln := r'.length
  refine call_tuple_list pl.isList (fun h' kpt => ?_) (by simp only [List.size_toArray] <;> omega)
  have J₁ : Inv X pns σ H { s with heap := h' } := I.kept (t' := s.toks) kpt
  have hT : (h'.push { cls := .type "tuple", data := .seq cells.toArray }).get? h'.objs.size = some { cls := .type "tuple", data := .seq cells.toArray } := Heap.get?_push_size _ rfl
  have J₂ : Inv X pns σ (upd H h'.objs.size (.frz { cls := .type "tuple", data := .seq cells.toArray } (.tup ys))) { s with heap := h'.push { cls := .type "tuple", data := .seq cells.toArray } } :=
    J₁.laid (t' := s.toks) (fun b o e => Heap.get?_push_of_some _ e) (Nat.le_refl _) (show ObjOk X.prog X.w _ _ _ (.frz _ (.tup ys)) from ⟨hT, hz, cells, r', IsTup.new _ _⟩)
  exact ⟨.ref h'.objs.size, _, J₂, rfl, q _ _ (J₁.hok.fresh (Nat.le_refl _)) rfl⟩
/-- o.m(e, ..), o a tuple so known -/
def tBMZ (r : V → List V → Hp → VK → Prop) (to : TE) (t : TA) : TE := fun σ H Q => to σ H fun x H1 => (∃ p xs, x = .ref p ∧ TupZ H1 p xs) ∧ t σ H1 fun xs H2 => r x xs H2 Q
theorem pe_bmZ {X : Cx} {o e : Expr} {es : List Expr} {name : Str} {id : String} {apos cpos : Pos} {to : TE} {t : TA} {r : V → List V → Hp → VK → Prop} (pa : PlainAttrs "tuple") (slot : Slot "tuple" name id) (hty : typeOf (.builtin id) = pure (.type "method_descriptor")) (hm : MtR X id r) (ho : PE X o to) (ha : PA X (e :: es) t)
    (hbase : attributeBase o name X.env (eval o X.env) = eval o X.env := by rfl) (hfew : ((backTo cpos (starEach (e :: es) X.env)).all (fun x => !x.1) && (backToKw cpos (keywordEach [] X.env)).all (fun x => x.1.isSome) && decide ((e :: es).length + ([] : List Keyword).length + (if ([] : List Keyword).isEmpty then 0 else 1) < 30)) = true := by rfl) (hline : (apos.endLine == cpos.line) = true := by rfl) (hs : starEach (e :: es) X.env = (false, eval e X.env) :: starEach es X.env := by rfl) (hplain : (backTo cpos (starEach es X.env)).any (·.1) = false := by rfl) :
    PE X (.Call (.Attribute o name apos) (e :: es) [] cpos) (tBMZ r to t) := by
  refine ⟨fun pns s σ H Q I h => ?_⟩
  refine wpAny_Call_method_late hbase hfew hline rfl (thn (ho.run pns s σ H _ I h) fun v s₁ ⟨x, H₁, J₁, r₁, ty, q₁⟩ => ?_)
  obtain ⟨p, xs, rfl, ob, hz, hd⟩ := ty
  cases r₁
  obtain ⟨hob, hz2, cells, rcs, ob', hob', hc, _⟩ := J₁.hok p _ hz
  rw [hob] at hob'
  have e1 := Option.some.inj hob'
  subst e1
  refine ⟨"tuple", id, pa, slot, hty, ⟨ob, hob, hc⟩, fun a e => ?_, ?_⟩
  · cases e
    exact ⟨ob, hob, hd⟩
  · have hA := ha.run cpos pns s₁ σ H₁ _ J₁ q₁
    rw [hs] at hA ⊢
    have hany : (false || (backTo cpos (starEach es X.env)).any (·.1)) = false := by rw [hplain] <;> rfl
    refine Calls.callWith_builtin hany (Calls.evalArgs_plain ?_)
    exact thn hA fun us s₂ ⟨vs, H₂, J₂, r₂, q₂⟩ => hm pns s₂ σ H₂ (.ref p) vs (.ref p) us Q J₂ rfl r₂ q₂
/-! ### walks -/
section
variable {K : PySem.W.Frag} {a b : Addr} {xs ys : List V}
theorem walk_zipT {n : Nat} (hn : n = min xs.length ys.length) : Walk (RZ.ItzT K a b) n (fun H => SqT K H a xs ∧ SqT K H b ys) (YPair (fun i => xs[i]?) (fun i => ys[i]?)) := by
  subst hn
  refine ⟨fun i _ il sq => ?_, fun _ sq => ⟨xs, ys, sq.1, sq.2, by omega⟩, fun i H v H' _ sq yv => ?_⟩
  · have l1 : i < xs.length := by omega
    have l2 : i < ys.length := by omega
    exact ⟨xs, ys, xs[i], ys[i], sq.1, sq.2, List.getElem?_eq_getElem l1, List.getElem?_eq_getElem l2⟩
  · obtain ⟨T, u, yv, l1, l2, l3, l4, l5⟩ := yv
    exact ⟨T, u, yv, l1, l2, l3, l4 xs sq.1, l5 ys sq.2⟩
theorem walk_enumT : Walk (Itu K a) xs.length (fun H => SqT K H a xs) (YPair (fun i => some (.int (i : Nat))) (fun i => xs[i]?)) := by
  refine ⟨fun i _ il sq => ⟨xs, xs[i], sq, by simp [il]⟩, fun _ sq => ⟨xs, sq, Nat.le_refl _⟩, fun i H v H' _ sq yv => ?_⟩
  obtain ⟨T, u, l1, l2, l3, l4⟩ := yv
  exact ⟨T, .int (i : Nat), u, l1, l2, l3, rfl, l4 xs sq⟩
end
/-- a dict comprehension over a walk -/
theorem dc_it {J : It} {n : Nat} {G : Hp → Prop} {Y : Nat → Hp → V → Hp → Prop} (w : Walk J n G Y) {g : TG} {tt : TT} {tk tv : TE} {vs : List Nat} {σ : L2.St} {H1 : Hp} {D : Addr} {Qd : Hp → Prop} (Pv : Nat → Hp → Prop) (h0 : Pv 0 (upd H1 D (.dK []))) (hG : ∀ i H, i ≤ n → Pv i H → G H)
    (hs : ∀ i x H H', i < n → Pv i H → Y i H x H' → g x (wipe σ vs) H' fun τ H2 => wipe τ vs = wipe σ vs ∧ tt τ H2 fun b H3 =>
      if b = true then tk τ H3 fun ky H4 => tv τ H4 fun vz H5 => ∃ tab k, ky = kV k ∧ H5 D = some (.dK tab) ∧ tab.length < sizeLine ∧ Pv (i + 1) (upd H5 D (.dK (putK tab k vz))) else Pv (i + 1) H3) (hd : ∀ H, Pv n H → Qd H) :
    ∃ Wd : Nat → Nat → Hp → Prop, (∃ m, Wd 0 m (upd H1 D (.dK []))) ∧ ∀ i m H, Wd i m H →
      (J.stop i H ∧ Qd H) ∨ (J.go i H ∧ ∃ Nn : Hp → Prop, (∀ H', Nn H' → ∃ m', m' < m ∧ Wd (i + 1) m' H') ∧ ∀ x H', J.yld i H x H' → g x (wipe σ vs) H' fun τ H2 => wipe τ vs = wipe σ vs ∧ tt τ H2 fun b H3 =>
        if b = true then tk τ H3 fun ky H4 => tv τ H4 fun vz H5 => ∃ tab k, ky = kV k ∧ H5 D = some (.dK tab) ∧ tab.length < sizeLine ∧ Nn (upd H5 D (.dK (putK tab k vz))) else Nn H3) := by
  refine ⟨fun i left H => left = n - i ∧ i ≤ n ∧ Pv i H, ⟨n, by simp, Nat.zero_le _, h0⟩, ?_⟩
  rintro i m H ⟨rfl, le, pv⟩
  have gi := hG i H le pv
  by_cases lt : i < n
  · refine .inr ⟨w.goes i H lt gi, Pv (i + 1), fun H' p' => ⟨n - (i + 1), by omega, rfl, lt, p'⟩, fun x H' ky => hs i x H H' lt pv (w.yields i H x H' lt gi ky)⟩
  · have e : i = n := by omega
    subst e
    exact .inl ⟨w.stops H gi, hd H pv⟩
/-! ### promises: a new list of data; data of which something is told -/
def spL (K : PySem.W.Frag) (rel : List PyData → List PyData → Prop) : Sp := fun vs H Q _ => ∃ ds es, TpAll K H vs ds ∧ rel ds es ∧ ∀ p xs H', H p = none → Same H H' → H' p = some (.lst xs) → TpAll K H' xs es → Q (.ref p) H'
def spN (K : PySem.W.Frag) (pre : List PyData → Prop) (post : List PyData → PyData → Prop) : Sp := fun vs H Q _ => ∃ ds, TpAll K H vs ds ∧ pre ds ∧ ∀ d v H', post ds d → Same H H' → Tp K H' v d → Q v H'
def EvN (K : PySem.W.Frag) (te : TE) (σ : L2.St) (H : Hp) (P : PyData → Prop) : Prop := ∀ H1, Same H H1 → ∀ Q : VK, (∀ d v H2, P d → Same H1 H2 → Tp K H2 v d → Q v H2) → te σ H1 Q
section
variable {K : PySem.W.Frag} {H H0 : Hp} {σ : L2.St} {ρ : List Sl} {te : TE} {ta : TA} {D : Ends} {E : XK}
theorem el_call {rel : List PyData → List PyData → Prop} {ds es : List PyData} (ha : EvA K ta σ H ds) (hr : rel ds es) : EvL K (tCall (spL K rel) [] E ta) σ H es := fun H1 e Q q =>
  ha H1 e _ fun vs H2 e2 hvs => ⟨ds, es, by rw [List.append_nil]; exact hvs, hr, fun p xs H' hp e3 hx hxs => q p xs H' (e2.free hp) (e2.trans e3) hx hxs⟩
theorem evn_call {pre : List PyData → Prop} {post : List PyData → PyData → Prop} {ds : List PyData} (ha : EvA K ta σ H ds) (hr : pre ds) : EvN K (tCall (spN K pre post) [] E ta) σ H (post ds) := fun H1 e Q q =>
  ha H1 e _ fun vs H2 e2 hvs => ⟨ds, by rw [List.append_nil]; exact hvs, hr, fun d v H' hp e3 hv => q d v H' hp (e2.trans e3) hv⟩
theorem s_setN {i : Nat} {P : PyData → Prop} (e0 : Same H0 H) (hS : Sto K H σ ρ) (h : EvN K te σ H P) (k : ∀ d σ' H1, P d → Same H0 H1 → Same H H1 → Sto K H1 σ' (ρ.set i (.dat d)) → D.nx σ' H1) : tAsg te (gName i) D σ H :=
  h H (Same.refl H) _ fun d v H1 p e hv => k d _ H1 p (e0.trans e) e ((hS.sm e).put i hv)
end
/-! ### the rules with the written part named -/
section
variable {X : Cx} {K : PySem.W.Frag}
theorem ix_tupk (hK : X.K = K := by rfl) : IxR X (rIxT K) := hK ▸ ix_tup
theorem ix_listk (hK : X.K = K := by rfl) : IxR X (rIxL K) := hK ▸ ix_list
theorem op_eqk (hu : X.A.units + 64 < cLine) (hK : X.K = K := by rfl) : OpR X (compareOp .Eq) (rEqD K) := hK ▸ op_eqD hu
theorem op_nek (hu : X.A.units + 64 < cLine) (hK : X.K = K := by rfl) : OpR X (compareOp .NotEq) (rNeD K) := hK ▸ op_neD hu
theorem op_ink (hu : X.A.units + 65 < cLine) (hK : X.K = K := by rfl) : OpR X (compareOp .In) (rInT K) := hK ▸ op_inT hu
theorem op_nink (hu : X.A.units + 65 < cLine) (hK : X.K = K := by rfl) : OpR X (compareOp .NotIn) (rNotInT K) := hK ▸ op_ninT hu
theorem op_catAk (hK : X.K = K := by rfl) : OpR X (binaryOp .Add) (rCatA K) := hK ▸ op_catA
theorem sl_tupk (hK : X.K = K := by rfl) : SlR X (rSlA K) := hK ▸ sl_tupA
theorem sl_listk (hK : X.K = K := by rfl) : SlR X (rSlL K) := hK ▸ sl_list
theorem call_lenk (hK : X.K = K := by rfl) : CallR X (.builtin "len") (rLenS K) := hK ▸ call_len_seq
theorem call_isik (hK : X.K = K := by rfl) : CallR X (.builtin "isinstance") (rIsi K) := hK ▸ call_isi
theorem cr_allk (hc : X.calm = true) (hK : X.K = K := by rfl) : CallR X (.builtin "all") (rAll K) := hK ▸ cr_all hc
theorem call_tuplek (hK : X.K = K := by rfl) : CallR X (.type "tuple") (rTupOf K) := hK ▸ call_tuple_of
theorem cr_tupleZk (hK : X.K = K := by rfl) : CallR X (.type "tuple") (rTupZ K) := hK ▸ cr_tupleZ
theorem mt_tidxk (hK : X.K = K := by rfl) : MtR X "tuple.index" (rTIdx K) := hK ▸ mt_tup_indexI
theorem pi_listk {tg l : Expr} {tl : TE} (hl : PE X l tl) (hK : X.K = K := by rfl) : PI X tg l (iList K tl) := hK ▸ pi_list hl
theorem pi_tupk {tg l : Expr} {tl : TE} (hl : PE X l tl) (hK : X.K = K := by rfl) : PI X tg l (iTup K tl) := hK ▸ pi_tup hl
theorem pi_enumk {e : Expr} {ta : TA} {p pos tpos : Pos} {elts : List Expr} {kk : Nat} (hg : Gl X "enumerate") (hm : X.mg "enumerate" = none) (ha : PA X [e] ta) (hs : starEach [e] X.env = [(false, eval e X.env)] := by rfl) (hK : X.K = K := by rfl) :
    PI X (.Tuple elts kk tpos) (.Call (.Name "enumerate" p) [e] [] pos) (iEnumT K ta) := hK ▸ pi_enumT hg hm ha hs
theorem pg_tupk {es : List Expr} {k : Nat} {t : TGs} {n : Nat} {pos : Pos} (hc : X.calm = true) (h : PGs X es t)
    (hn : (assignEach es X.env).length = n := by rfl) (hst : (assignEach es X.env).findIdx? (·.1) = none := by rfl) (hK : X.K = K := by rfl) : PG X (.Tuple es k pos) (gTup K n t) := hK ▸ pg_tup hc h hn hst
theorem pe_revk {e : Expr} {te : TE} {k : Nat} {p1 p2 p3 pos : Pos} (he : PE X e te) (hK : X.K = K := by rfl) : PE X (.Subscript e (.Slice none none (some (.UnaryOp .USub (.Constant (.int 1) k p1) p2)) p3) pos) (tRevL K te) := hK ▸ pe_revL he
theorem pe_bmk {T : String} {id : String} {name : Str} {o e : Expr} {es : List Expr} {apos cpos : Pos} {to : TE} {t : TA} {r : V → List V → Hp → VK → Prop} (pa : PlainAttrs T) (slot : Slot T name id) (hty : typeOf (.builtin id) = pure (.type "method_descriptor")) (hm : MtR X id r) (ho : PE X o to) (ha : PA X (e :: es) t)
    (hbase : attributeBase o name X.env (eval o X.env) = eval o X.env := by rfl) (hfew : ((backTo cpos (starEach (e :: es) X.env)).all (fun x => !x.1) && (backToKw cpos (keywordEach [] X.env)).all (fun x => x.1.isSome) && decide ((e :: es).length + ([] : List Keyword).length + (if ([] : List Keyword).isEmpty then 0 else 1) < 30)) = true := by rfl) (hline : (apos.endLine == cpos.line) = true := by rfl) (hs : starEach (e :: es) X.env = (false, eval e X.env) :: starEach es X.env := by rfl) (hplain : (backTo cpos (starEach es X.env)).any (·.1) = false := by rfl) (hK : X.K = K := by rfl) :
    PE X (.Call (.Attribute o name apos) (e :: es) [] cpos) (tBM K T r to t) := hK ▸ pe_bm pa slot hty hm ho ha hbase hfew hline hs hplain
theorem pe_bm0k {T : String} {id : String} {name : Str} {o : Expr} {apos cpos : Pos} {to : TE} {r : V → List V → Hp → VK → Prop} (pa : PlainAttrs T) (slot : Slot T name id) (hty : typeOf (.builtin id) = pure (.type "method_descriptor")) (hm : MtR X id r) (ho : PE X o to)
    (hbase : attributeBase o name X.env (eval o X.env) = eval o X.env := by rfl) (hline : (apos.endLine == cpos.line) = true := by rfl) (hK : X.K = K := by rfl) : PE X (.Call (.Attribute o name apos) [] [] cpos) (tBM0 K T r to) := hK ▸ pe_bm0 pa slot hty hm ho hbase hline
theorem pi_zipk {e e2 : Expr} {ta : TA} {p pos tpos : Pos} {elts : List Expr} {kk : Nat} (hg : Gl X "zip") (hm : X.mg "zip" = none) (ha : PA X [e, e2] ta)
    (hs : starEach [e, e2] X.env = (false, eval e X.env) :: starEach [e2] X.env := by rfl) (hpl : (backTo pos (starEach [e2] X.env)).any (·.1) = false := by rfl) (hK : X.K = K := by rfl) :
    PI X (.Tuple elts kk tpos) (.Call (.Name "zip" p) [e, e2] [] pos) (RZ.iZipA K ta) := hK ▸ RZ.pi_zipA hg hm ha hs hpl
end
end Lk

namespace Lk
open PySem PySem.Spec PyProof.Rows L2
theorem _root_.L2.Room.u65 {k : Nat} {A : Around} (r : Room k A) : A.units + 65 < cLine := by have := r.un; omega
abbrev sIsNumber : Stmt := topS 1
theorem scIsNumber : FnScope ["thing"] ["thing"] (defScope sIsNumber) := ⟨rfl, rfl, rfl, by decide +kernel, rfl, by decide +kernel, by decide +kernel⟩
abbrev sCommonDivisor : Stmt := topS 3
theorem scCommonDivisor : FnScope ["one", "other"] ["one", "other"] (defScope sCommonDivisor) := ⟨rfl, rfl, rfl, by decide +kernel, rfl, by decide +kernel, by decide +kernel⟩
abbrev sRatio : Stmt := topS 4
theorem scRatio : FnScope ["a", "b", "divisor"] ["a", "b"] (defScope sRatio) := ⟨rfl, rfl, rfl, by decide +kernel, rfl, by decide +kernel, by decide +kernel⟩
abbrev sAdded : Stmt := topS 5
theorem scAdded : FnScope ["one", "other"] ["one", "other"] (defScope sAdded) := ⟨rfl, rfl, rfl, by decide +kernel, rfl, by decide +kernel, by decide +kernel⟩
abbrev sLess : Stmt := topS 6
theorem scLess : FnScope ["one", "other"] ["one", "other"] (defScope sLess) := ⟨rfl, rfl, rfl, by decide +kernel, rfl, by decide +kernel, by decide +kernel⟩
abbrev sParted : Stmt := topS 7
theorem scParted : FnScope ["one", "other"] ["one", "other"] (defScope sParted) := ⟨rfl, rfl, rfl, by decide +kernel, rfl, by decide +kernel, by decide +kernel⟩
abbrev sIsBelow : Stmt := topS 8
theorem scIsBelow : FnScope ["one", "other"] ["one", "other"] (defScope sIsBelow) := ⟨rfl, rfl, rfl, by decide +kernel, rfl, by decide +kernel, by decide +kernel⟩
abbrev sRatesOf : Stmt := topS 11
theorem scRatesOf : FnScope ["field", "name", "slow", "fast"] ["field"] (defScope sRatesOf) := ⟨rfl, rfl, rfl, by decide +kernel, rfl, by decide +kernel, by decide +kernel⟩
abbrev sLastAhead : Stmt := topS 13
theorem scLastAhead : FnScope ["events", "number", "elder"] ["events", "number"] (defScope sLastAhead) := ⟨rfl, rfl, rfl, by decide +kernel, rfl, by decide +kernel, by decide +kernel⟩
abbrev sLinkHeard : Stmt := topS 14
theorem scLinkHeard : FnScope ["history", "number", "field", "events", "deed"] ["history", "number"] (defScope sLinkHeard) := ⟨rfl, rfl, rfl, by decide +kernel, rfl, by decide +kernel, by decide +kernel⟩
abbrev sWhileBetween : Stmt := topS 15
theorem scWhileBetween : FnScope ["history", "x", "y", "field", "events", "slow", "fast", "stamps"] ["history", "x", "y"] (defScope sWhileBetween) := ⟨rfl, rfl, rfl, by decide +kernel, rfl, by decide +kernel, by decide +kernel⟩
abbrev sEventsBehind : Stmt := topS 22
theorem scEventsBehind : FnScope ["history", "number", "events", "deed", "elder", "found"] ["history", "number"] (defScope sEventsBehind) := ⟨rfl, rfl, rfl, by decide +kernel, rfl, by decide +kernel, by decide +kernel⟩
abbrev sHasHeard : Stmt := topS 23
theorem scHasHeard : FnScope ["history", "number", "found", "left", "one"] ["history", "number"] (defScope sHasHeard) := ⟨rfl, rfl, rfl, by decide +kernel, rfl, by decide +kernel, by decide +kernel⟩
abbrev sPartHeard : Stmt := topS 24
theorem scPartHeard : FnScope ["history", "number", "field", "events", "numbers", "places", "found", "one", "house", "stamp", "deed", "k"] ["history", "number"] (defScope sPartHeard) := ⟨rfl, rfl, rfl, by decide +kernel, rfl, by decide +kernel, by decide +kernel⟩
abbrev sDoesHear : Stmt := topS 26
theorem scDoesHear : FnScope ["history", "x", "y"] ["history", "x", "y"] (defScope sDoesHear) := ⟨rfl, rfl, rfl, by decide +kernel, rfl, by decide +kernel, by decide +kernel⟩
abbrev sDoesGo : Stmt := topS 27
theorem scDoesGo : FnScope ["history", "x", "y"] ["history", "x", "y"] (defScope sDoesGo) := ⟨rfl, rfl, rfl, by decide +kernel, rfl, by decide +kernel, by decide +kernel⟩
abbrev sBoundsBetween : Stmt := topS 28
theorem scBoundsBetween : FnScope ["history", "x", "y"] ["history", "x", "y"] (defScope sBoundsBetween) := ⟨rfl, rfl, rfl, by decide +kernel, rfl, by decide +kernel, by decide +kernel⟩
abbrev sRelayBounds : Stmt := topS 29
theorem scRelayBounds : FnScope ["history", "relay", "least", "most", "x", "y", "low", "high"] ["history", "relay"] (defScope sRelayBounds) := ⟨rfl, rfl, rfl, by decide +kernel, rfl, by decide +kernel, by decide +kernel⟩
abbrev sRelayFrom : Stmt := topS 30
theorem scRelayFrom : FnScope ["history", "x", "y", "found", "nearer", "one"] ["history", "x", "y"] (defScope sRelayFrom) := ⟨rfl, rfl, rfl, by decide +kernel, rfl, by decide +kernel, by decide +kernel⟩
abbrev sLetsRelay : Stmt := topS 34
theorem scLetsRelay : FnScope ["history", "thing", "k", "one"] ["history", "thing"] (defScope sLetsRelay) := ⟨rfl, rfl, rfl, by decide +kernel, rfl, by decide +kernel, by decide +kernel⟩
abbrev sWfeed : Stmt := topS 36
theorem scWfeed : FnScope ["_law_script"] ["_law_script"] (defScope sWfeed) := ⟨rfl, rfl, rfl, by decide +kernel, rfl, by decide +kernel, by decide +kernel⟩
abbrev sWdraw : Stmt := topS 37
theorem scWdraw : FnScope ["_law_feed_here", "_law_many", "_law_found", "_law_cell", "_law_mixed"] ["_law_feed_here", "_law_many"] (defScope sWdraw) := ⟨rfl, rfl, rfl, by decide +kernel, rfl, by decide +kernel, by decide +kernel⟩
abbrev sWdivisor : Stmt := topS 38
theorem scWdivisor : FnScope ["_law_one", "_law_other"] ["_law_one", "_law_other"] (defScope sWdivisor) := ⟨rfl, rfl, rfl, by decide +kernel, rfl, by decide +kernel, by decide +kernel⟩
abbrev sWmade : Stmt := topS 39
theorem scWmade : FnScope ["_law_a", "_law_b", "_law_divisor_here"] ["_law_a", "_law_b"] (defScope sWmade) := ⟨rfl, rfl, rfl, by decide +kernel, rfl, by decide +kernel, by decide +kernel⟩
abbrev sWsum : Stmt := topS 40
theorem scWsum : FnScope ["_law_one", "_law_other", "_law_sign"] ["_law_one", "_law_other", "_law_sign"] (defScope sWsum) := ⟨rfl, rfl, rfl, by decide +kernel, rfl, by decide +kernel, by decide +kernel⟩
abbrev sWfield : Stmt := topS 41
theorem scWfield : FnScope ["_law_feed_here", "_law_pool", "_law_size", "_law_found", "_law_links", "_law_gaits", "_law_source", "_law_name", "_law_k", "_law_one", "_law_other", "_law_least", "_law_most"] ["_law_feed_here"] (defScope sWfield) := ⟨rfl, rfl, rfl, by decide +kernel, rfl, by decide +kernel, by decide +kernel⟩
abbrev sWfits : Stmt := topS 42
theorem scWfits : FnScope ["_law_link", "_law_sent", "_law_now", "_law_wide"] ["_law_link", "_law_sent", "_law_now"] (defScope sWfits) := ⟨rfl, rfl, rfl, by decide +kernel, rfl, by decide +kernel, by decide +kernel⟩
abbrev sWdeeds : Stmt := topS 43
theorem scWdeeds : FnScope ["_law_field_here", "_law_events", "_law_world", "_law_house", "_law_now", "_law_links", "_law_found", "_law_k", "_law_l"] ["_law_field_here", "_law_events", "_law_world", "_law_house", "_law_now"] (defScope sWdeeds) := ⟨rfl, rfl, rfl, by decide +kernel, rfl, by decide +kernel, by decide +kernel⟩
abbrev sWscene : Stmt := topS 44
theorem scWscene : FnScope ["_law_feed_here", "_law_most", "_law_field_here", "_law_events", "_law_world", "_law_clocks", "_law_now", "_law_k", "_law_house", "_law_slow", "_law_fast", "_law_stamp", "_law_ahead", "_law_wide", "_law_rate", "_law_deeds_here"] ["_law_feed_here", "_law_most"] (defScope sWscene) := ⟨rfl, rfl, rfl, by decide +kernel, rfl, by decide +kernel, by decide +kernel⟩
abbrev sWlet : Stmt := topS 45
theorem scWlet : FnScope ["_law_history", "_law_thing", "_law_found"] ["_law_history", "_law_thing"] (defScope sWlet) := ⟨rfl, rfl, rfl, by decide +kernel, rfl, by decide +kernel, by decide +kernel⟩
abbrev sWboundsRight : Stmt := topS 46
theorem scWboundsRight : FnScope ["_law_history", "_law_world", "_law_relay", "_law_least", "_law_most", "_law_wide"] ["_law_history", "_law_world", "_law_relay"] (defScope sWboundsRight) := ⟨rfl, rfl, rfl, by decide +kernel, rfl, by decide +kernel, by decide +kernel⟩
abbrev sWadded : Stmt := topS 47
theorem scWadded : FnScope ["_law_one", "_law_other"] ["_law_one", "_law_other"] (defScope sWadded) := ⟨rfl, rfl, rfl, by decide +kernel, rfl, by decide +kernel, by decide +kernel⟩
abbrev sWpairRight : Stmt := topS 48
theorem scWpairRight : FnScope ["_law_history", "_law_world", "_law_x", "_law_y", "_law_relay", "_law_k", "_law_parts", "_law_heard", "_law_own", "_law_one"] ["_law_history", "_law_world", "_law_x", "_law_y"] (defScope sWpairRight) := ⟨rfl, rfl, rfl, by decide +kernel, rfl, by decide +kernel, by decide +kernel⟩
abbrev sLaw : Stmt := topS 49
theorem scLaw : FnScope ["_law_script", "_law_feed_here", "_law_history", "_law_world", "_law_many", "_law_turn", "_law_x", "_law_y", "_law_later"] ["_law_script"] (defScope sLaw) := ⟨rfl, rfl, rfl, by decide +kernel, rfl, by decide +kernel, by decide +kernel⟩
/-- what the top has left -/
structure Txt (K : PySem.W.Frag) (mg : Str → Option Value) (C aN : Addr) : Prop where
  d_is_number : Has K mg "is_number" sIsNumber ["thing"]
  d_common_divisor : Has K mg "common_divisor" sCommonDivisor ["one", "other"]
  d_ratio : Has K mg "ratio" sRatio ["a", "b"]
  d_added : Has K mg "added" sAdded ["one", "other"]
  d_less : Has K mg "less" sLess ["one", "other"]
  d_parted : Has K mg "parted" sParted ["one", "other"]
  d_is_below : Has K mg "is_below" sIsBelow ["one", "other"]
  d_rates_of : Has K mg "rates_of" sRatesOf ["field"]
  d_last_ahead : Has K mg "last_ahead" sLastAhead ["events", "number"]
  d_link_heard : Has K mg "link_heard" sLinkHeard ["history", "number"]
  d_while_between : Has K mg "while_between" sWhileBetween ["history", "x", "y"]
  d_events_behind : Has K mg "events_behind" sEventsBehind ["history", "number"]
  d_has_heard : Has K mg "has_heard" sHasHeard ["history", "number"]
  d_part_heard : Has K mg "part_heard" sPartHeard ["history", "number"]
  d_does_hear : Has K mg "does_hear" sDoesHear ["history", "x", "y"]
  d_does_go : Has K mg "does_go" sDoesGo ["history", "x", "y"]
  d_bounds_between : Has K mg "bounds_between" sBoundsBetween ["history", "x", "y"]
  d_relay_bounds : Has K mg "relay_bounds" sRelayBounds ["history", "relay"]
  d_relay_from : Has K mg "relay_from" sRelayFrom ["history", "x", "y"]
  d_need : Has K mg "need" sNeed ["truth", "word", "at"]
  d_lets_relay : Has K mg "lets_relay" sLetsRelay ["history", "thing"]
  d__law_feed : Has K mg "_law_feed" sWfeed ["_law_script"]
  d__law_draw : Has K mg "_law_draw" sWdraw ["_law_feed_here", "_law_many"]
  d__law_divisor : Has K mg "_law_divisor" sWdivisor ["_law_one", "_law_other"]
  d__law_made : Has K mg "_law_made" sWmade ["_law_a", "_law_b"]
  d__law_sum : Has K mg "_law_sum" sWsum ["_law_one", "_law_other", "_law_sign"]
  d__law_field : Has K mg "_law_field" sWfield ["_law_feed_here"]
  d__law_fits : Has K mg "_law_fits" sWfits ["_law_link", "_law_sent", "_law_now"]
  d__law_deeds : Has K mg "_law_deeds" sWdeeds ["_law_field_here", "_law_events", "_law_world", "_law_house", "_law_now"]
  d__law_scene : Has K mg "_law_scene" sWscene ["_law_feed_here", "_law_most"]
  d__law_let : Has K mg "_law_let" sWlet ["_law_history", "_law_thing"]
  d__law_bounds_right : Has K mg "_law_bounds_right" sWboundsRight ["_law_history", "_law_world", "_law_relay"]
  d__law_added : Has K mg "_law_added" sWadded ["_law_one", "_law_other"]
  d__law_pair_right : Has K mg "_law_pair_right" sWpairRight ["_law_history", "_law_world", "_law_x", "_law_y"]
  d_law : Has K mg "law" sLaw ["_law_script"]
  z_abs : mg "abs" = none
  z_all : mg "all" = none
  z_bool : mg "bool" = none
  z_enumerate : mg "enumerate" = none
  z_int : mg "int" = none
  z_isinstance : mg "isinstance" = none
  z_len : mg "len" = none
  z_max : mg "max" = none
  z_min : mg "min" = none
  z_range : mg "range" = none
  z_sorted : mg "sorted" = none
  z_tuple : mg "tuple" = none
  z_zip : mg "zip" = none
  gN : mg "NOUGHT" = some (.ref aN)
  nN : ∀ H, SqT K H aN [.int 0, .int 1]
  np : NpTxt K mg C
end Lk

namespace Mx
open PySem
/-! ### fractions that are whole 240ths -/
def gd (z : Int) : Int := (Nat.gcd z.natAbs 240 : Nat)
def nu (z : Int) : Int := z / gd z
def de (z : Int) : Int := 240 / gd z
theorem gd_pos (z : Int) : 0 < gd z := by
  have h : 0 < Nat.gcd z.natAbs 240 := Nat.gcd_pos_of_pos_right _ (by decide)
  show (0 : Int) < ((Nat.gcd z.natAbs 240 : Nat) : Int)
  omega
theorem gd_dvd (z : Int) : gd z ∣ z := by
  have h : Nat.gcd z.natAbs 240 ∣ z.natAbs := Nat.gcd_dvd_left _ _
  exact Int.ofNat_dvd_left.mpr h
theorem gd_dvd240 (z : Int) : gd z ∣ 240 := by
  have h : Nat.gcd z.natAbs 240 ∣ 240 := Nat.gcd_dvd_right _ _
  exact Int.natCast_dvd_natCast.mpr h
theorem nu_eq (z : Int) : nu z * gd z = z := Int.ediv_mul_cancel (gd_dvd z)
theorem de_eq (z : Int) : de z * gd z = 240 := Int.ediv_mul_cancel (gd_dvd240 z)
theorem de_pos (z : Int) : 0 < de z := by
  have h := de_eq z
  have g := gd_pos z
  by_cases c : 0 < de z
  · exact c
  · exfalso
    have c' : de z ≤ 0 := by omega
    have := Int.mul_nonpos_of_nonpos_of_nonneg c' (Int.le_of_lt g)
    omega
theorem de_le (z : Int) : de z ≤ 240 := by
  have h := de_eq z
  have g := gd_pos z
  have p := de_pos z
  have : de z * 1 ≤ de z * gd z := Int.mul_le_mul_of_nonneg_left (by omega) (Int.le_of_lt p)
  omega
theorem nu_le (z : Int) : (nu z).natAbs ≤ z.natAbs := by
  have h := nu_eq z
  have g := gd_pos z
  have e : z.natAbs = (nu z).natAbs * (gd z).natAbs := by rw [← Int.natAbs_mul, h]
  rw [e]
  have : 1 ≤ (gd z).natAbs := by omega
  exact Nat.le_mul_of_pos_right _ this
/-- nu z over de z is z over 240 -/
theorem nu_de (z : Int) : nu z * 240 = z * de z := by
  have h1 := nu_eq z
  have h2 := de_eq z
  calc nu z * 240 = nu z * (de z * gd z) := by rw [h2]
    _ = (nu z * gd z) * de z := by rw [Int.mul_comm (de z), Int.mul_assoc]
    _ = z * de z := by rw [h1]
/-- the one way to write it -/
theorem ratio_eq {a b z : Int} (hb : 0 < b) (h : a * 240 = z * b) : a / ((Nat.gcd a.natAbs b.natAbs : Nat) : Int) = nu z ∧ b / ((Nat.gcd a.natAbs b.natAbs : Nat) : Int) = de z ∧ 0 < ((Nat.gcd a.natAbs b.natAbs : Nat) : Int) ∧ ((Nat.gcd a.natAbs b.natAbs : Nat) : Int) ≤ b := by
  have hbn : b.natAbs = b := Int.natAbs_of_nonneg (Int.le_of_lt hb)
  have hbp : 0 < b.natAbs := by omega
  have g0 : 0 < Nat.gcd a.natAbs b.natAbs := Nat.gcd_pos_of_pos_right _ hbp
  have gle : Nat.gcd a.natAbs b.natAbs ≤ b.natAbs := Nat.le_of_dvd hbp (Nat.gcd_dvd_right _ _)
  -- 240 * gcd a b = b * gcd z 240
  have e1 : Nat.gcd (a.natAbs * 240) (b.natAbs * 240) = Nat.gcd a.natAbs b.natAbs * 240 := Nat.gcd_mul_right _ _ _
  have e2 : Nat.gcd (z.natAbs * b.natAbs) (240 * b.natAbs) = Nat.gcd z.natAbs 240 * b.natAbs := Nat.gcd_mul_right _ _ _
  have e3 : a.natAbs * 240 = z.natAbs * b.natAbs := by
    have := congrArg Int.natAbs h
    rw [Int.natAbs_mul, Int.natAbs_mul] at this
    exact this
  have e4 : Nat.gcd a.natAbs b.natAbs * 240 = Nat.gcd z.natAbs 240 * b.natAbs := by
    rw [← e1, e3, Nat.mul_comm b.natAbs 240, e2]
  have e5 : ((Nat.gcd a.natAbs b.natAbs : Nat) : Int) * 240 = gd z * b := by
    have h5 : ((Nat.gcd a.natAbs b.natAbs * 240 : Nat) : Int) = ((Nat.gcd z.natAbs 240 * b.natAbs : Nat) : Int) := by rw [e4]
    rw [Int.natCast_mul, Int.natCast_mul, hbn] at h5
    exact h5
  have hg : (0 : Int) < ((Nat.gcd a.natAbs b.natAbs : Nat) : Int) := by omega
  have hgb : ((Nat.gcd a.natAbs b.natAbs : Nat) : Int) ≤ b := by omega
  have gz := gd_pos z
  have hdb : ((Nat.gcd a.natAbs b.natAbs : Nat) : Int) ∣ b := by
    have := Int.natCast_dvd_natCast.mpr (Nat.gcd_dvd_right a.natAbs b.natAbs)
    rw [hbn] at this
    exact this
  have hda : ((Nat.gcd a.natAbs b.natAbs : Nat) : Int) ∣ a := Int.ofNat_dvd_left.mpr (Nat.gcd_dvd_left _ _)
  generalize hG : ((Nat.gcd a.natAbs b.natAbs : Nat) : Int) = G at *
  have eb : b = de z * G := by
    have h6 : gd z * b = gd z * (de z * G) := by
      have h7 := de_eq z
      rw [← e5, ← h7, Int.mul_comm (gd z) (de z * G), Int.mul_comm (de z) G, Int.mul_assoc]
    exact Int.eq_of_mul_eq_mul_left (Int.ne_of_gt gz) h6
  have ea : a = nu z * G := by
    have h8 : a * 240 = (nu z * G) * 240 := by
      rw [h]
      conv => lhs; rw [eb]
      have h9 := nu_de z
      rw [← Int.mul_assoc, ← h9, Int.mul_assoc, Int.mul_comm 240 G, ← Int.mul_assoc]
    exact Int.eq_of_mul_eq_mul_right (by decide) h8
  refine ⟨?_, ?_, hg, hgb⟩
  · conv => lhs; rw [ea]
    exact Int.mul_ediv_cancel _ (Int.ne_of_gt hg)
  · conv => lhs; rw [eb]
    exact Int.mul_ediv_cancel _ (Int.ne_of_gt hg)
/-! the products that the defs reckon -/
theorem add_cross (x y s : Int) : (nu x * de y + s * nu y * de x) * 240 = (x + s * y) * (de x * de y) := by
  have hx := nu_de x
  have hy := nu_de y
  have e1 : nu x * de y * 240 = x * (de x * de y) := by
    rw [Int.mul_right_comm, hx, Int.mul_assoc]
  have e2 : s * nu y * de x * 240 = s * y * (de x * de y) := by
    rw [Int.mul_right_comm, Int.mul_assoc s, hy, ← Int.mul_assoc s, Int.mul_assoc (s * y), Int.mul_comm (de y)]
  rw [Int.add_mul, e1, e2, ← Int.add_mul]
theorem sub_cross (x y : Int) : (nu x * de y - nu y * de x) * 240 = (x - y) * (de x * de y) := by
  have h := add_cross x y (-1)
  have e : nu x * de y + -1 * nu y * de x = nu x * de y - nu y * de x := by
    rw [Int.neg_one_mul, Int.neg_mul]; omega
  have e2 : x + -1 * y = x - y := by omega
  rw [e, e2] at h
  exact h
theorem add_cross1 (x y : Int) : (nu x * de y + nu y * de x) * 240 = (x + y) * (de x * de y) := by
  have h := add_cross x y 1
  rw [Int.one_mul, Int.one_mul] at h
  exact h
theorem part_cross {x r z : Int} (h : z * r = 240 * x) : (nu x * de r) * 240 = z * (de x * nu r) := by
  have hx := nu_de x
  have hr := nu_de r
  have e1 : nu x * de r * 240 = x * de x * de r := by rw [Int.mul_right_comm, hx]
  have e2 : z * (de x * nu r) * 240 = (nu x * de r) * 240 * 240 := by
    rw [e1]
    have : z * (de x * nu r) * 240 = z * de x * (nu r * 240) := by
      rw [← Int.mul_assoc, Int.mul_assoc]
    rw [this, hr]
    have : z * de x * (r * de r) = (z * r) * (de x * de r) := by
      rw [Int.mul_assoc, Int.mul_assoc, Int.mul_left_comm (de x)]
    rw [this, h]
    rw [Int.mul_assoc 240, Int.mul_comm 240, Int.mul_assoc x]
    simp only [Int.mul_assoc]
  exact (Int.eq_of_mul_eq_mul_right (by decide) e2).symm
theorem mul_cross (x r : Int) {z : Int} (h : 240 * z = x * r) : (nu x * nu r) * 240 = z * (de x * de r) := by
  have hx := nu_de x
  have hr := nu_de r
  have e : (nu x * nu r) * 240 * 240 = z * (de x * de r) * 240 := by
    have a1 : (nu x * nu r) * 240 * 240 = (nu x * 240) * (nu r * 240) := by
      rw [Int.mul_assoc, Int.mul_assoc, Int.mul_assoc, Int.mul_left_comm (nu r)]
    rw [a1, hx, hr]
    have a2 : x * de x * (r * de r) = (x * r) * (de x * de r) := by
      rw [Int.mul_assoc, Int.mul_assoc, Int.mul_left_comm (de x)]
    rw [a2, ← h, Int.mul_assoc 240, Int.mul_comm 240]
  exact Int.eq_of_mul_eq_mul_right (by decide) e
theorem below_iff (x y : Int) : nu x * de y < nu y * de x ↔ x < y := by
  have hx := nu_de x
  have hy := nu_de y
  have px := de_pos x
  have py := de_pos y
  have pp : 0 < de x * de y := Int.mul_pos px py
  have e1 : nu x * de y * 240 = x * (de x * de y) := by rw [Int.mul_right_comm, hx, Int.mul_assoc]
  have e2 : nu y * de x * 240 = y * (de x * de y) := by rw [Int.mul_right_comm, hy, Int.mul_assoc, Int.mul_comm (de y)]
  constructor
  · intro h
    have : x * (de x * de y) < y * (de x * de y) := by rw [← e1, ← e2]; omega
    exact Int.lt_of_mul_lt_mul_right this (Int.le_of_lt pp)
  · intro h
    have : x * (de x * de y) < y * (de x * de y) := Int.mul_lt_mul_of_pos_right h pp
    rw [← e1, ← e2] at this
    omega
theorem le_iff (x y : Int) : nu x * de y ≤ nu y * de x ↔ x ≤ y := by
  have h := below_iff y x
  constructor
  · intro c
    by_cases d : x ≤ y
    · exact d
    · have := h.mpr (by omega)
      omega
  · intro c
    by_cases d : nu x * de y ≤ nu y * de x
    · exact d
    · have := h.mp (by omega)
      omega
theorem nu_pos {r : Int} (h : 0 < r) : 0 < nu r := by
  have e := nu_eq r
  have g := gd_pos r
  by_cases c : 0 < nu r
  · exact c
  · exfalso
    have := Int.mul_nonpos_of_nonpos_of_nonneg (show nu r ≤ 0 by omega) (Int.le_of_lt g)
    omega
theorem nu_inj {x y : Int} (h1 : nu x = nu y) (h2 : de x = de y) : x = y := by
  have hx := nu_de x
  have hy := nu_de y
  rw [h1, h2] at hx
  have : x * de y = y * de y := by omega
  exact Int.eq_of_mul_eq_mul_right (Int.ne_of_gt (de_pos y)) this
/-! ### data: what the law's things are, and how they stand in Python -/
def fr (z : Int) : PyData := .tuple [.int (nu z), .int (de z)]
def frO : Option Int → PyData
  | none => .none
  | some z => fr z
structure Hs where
  name : Str
  slow : Int
  fast : Int
structure Lnk where
  frm : Str
  dst : Str
  least : Int
  most : Option Int
structure Fd where
  houses : List Hs
  links : List Lnk
  source : Str
inductive Deed where
  | mark
  | send (l : Nat)
  | hear (k : Nat)
  deriving DecidableEq
structure Evt where
  house : Str
  stamp : Int
  deed : Deed
def dH (h : Hs) : PyData := .tuple [.str h.name, fr h.slow, fr h.fast]
def dL (l : Lnk) : PyData := .tuple [.str l.frm, .str l.dst, fr l.least, frO l.most]
def dF (f : Fd) : PyData := .tuple [.tuple (f.houses.map dH), .tuple (f.links.map dL), .str f.source]
def dD : Deed → PyData
  | .mark => .tuple [.str "mark"]
  | .send l => .tuple [.str "send", .int (l : Int)]
  | .hear k => .tuple [.str "hear", .int (k : Int)]
def dE (e : Evt) : PyData := .tuple [.str e.house, fr e.stamp, dD e.deed]
def dHist (f : Fd) (es : List Evt) : PyData := .tuple [dF f, .tuple (es.map dE)]
def dW (w : List Int) : PyData := .tuple (w.map fr)
def dN (n : Nat) : PyData := .int (n : Int)
def dR (r : List Nat) : PyData := .tuple (r.map dN)
def dB (b : Int × Option Int) : PyData := .tuple [fr b.1, frO b.2]
end Mx

namespace Mx
open PySem
/-! ### data that may be compared: of small depth -/
def Sh (n : Nat) (d : PyData) : Prop := d.canLay0 = true ∧ d.depth ≤ n
def ShA (n : Nat) (ds : List PyData) : Prop := PyData.canLayAll0 ds = true ∧ PyData.depthAll ds ≤ n
theorem ShA.nil {n : Nat} : ShA n [] := ⟨by simp [PyData.canLayAll0], by simp [PyData.depthAll]⟩
theorem ShA.cons {n : Nat} {d : PyData} {ds : List PyData} (h : Sh n d) (k : ShA n ds) : ShA n (d :: ds) := by
  obtain ⟨h1, h2⟩ := h
  obtain ⟨k1, k2⟩ := k
  refine ⟨by simp [PyData.canLayAll0, h1, k1], ?_⟩
  simp only [PyData.depthAll]
  omega
theorem ShA.map {α : Type} {n : Nat} {f : α → PyData} (h : ∀ a, Sh n (f a)) : ∀ l : List α, ShA n (l.map f)
  | [] => .nil
  | a :: l => .cons (h a) (ShA.map h l)
theorem ShA.mapM {α : Type} {n : Nat} {f : α → PyData} : ∀ l : List α, (∀ a ∈ l, Sh n (f a)) → ShA n (l.map f)
  | [], _ => .nil
  | a :: l, h => .cons (h a List.mem_cons_self) (ShA.mapM l fun b hb => h b (List.mem_cons_of_mem _ hb))
theorem Sh.tup {n : Nat} {ds : List PyData} (h : ShA n ds) : Sh (n + 1) (.tuple ds) := by
  obtain ⟨h1, h2⟩ := h
  refine ⟨by simp [PyData.canLay0, h1], ?_⟩
  simp only [PyData.depth]
  omega
theorem Sh.lst {n : Nat} {ds : List PyData} (h : ShA n ds) : Sh (n + 1) (.list ds) := by
  obtain ⟨h1, h2⟩ := h
  refine ⟨by simp [PyData.canLay0, h1], ?_⟩
  simp only [PyData.depth]
  omega
theorem Sh.int {n : Nat} {i : Int} : Sh n (.int i) := ⟨by simp [PyData.canLay0], by simp [PyData.depth]⟩
theorem Sh.bool {n : Nat} {i : Bool} : Sh n (.bool i) := ⟨by simp [PyData.canLay0], by simp [PyData.depth]⟩
theorem Sh.none {n : Nat} : Sh n .none := ⟨by simp [PyData.canLay0], by simp [PyData.depth]⟩
theorem Sh.str {n : Nat} {x : Str} (h : (PyData.str x).canLay0 = true) : Sh n (.str x) := ⟨h, by simp [PyData.depth]⟩
theorem Sh.mono {m n : Nat} {d : PyData} (h : Sh m d) (k : m ≤ n) : Sh n d := ⟨h.1, Nat.le_trans h.2 k⟩
theorem Sh.ok {n : Nat} {d : PyData} (h : Sh n d) (k : n ≤ 64 := by decide) : SeqAt.shaped d = true := by
  show (d.canLay0 && decide (d.depth ≤ 64)) = true
  rw [Bool.and_eq_true]
  exact ⟨h.1, decide_eq_true (Nat.le_trans h.2 k)⟩
theorem sh_fr {n : Nat} (z : Int) : Sh (n + 1) (fr z) := .tup (.cons .int (.cons .int .nil))
theorem sh_frO {n : Nat} : ∀ o : Option Int, Sh (n + 1) (frO o)
  | .none => .none
  | .some z => sh_fr z
theorem sh_dB (b : Int × Option Int) : Sh 2 (dB b) := .tup (.cons (sh_fr _) (.cons (sh_frO _) .nil))
theorem sh_dD : ∀ d : Deed, Sh 1 (dD d)
  | .mark => .tup (.cons (.str (by decide +kernel)) .nil)
  | .send _ => .tup (.cons (.str (by decide +kernel)) (.cons .int .nil))
  | .hear _ => .tup (.cons (.str (by decide +kernel)) (.cons .int .nil))
theorem sh_dR (r : List Nat) : Sh 1 (dR r) := .tup (.map (fun _ => .int) r)
/-! ### == of data without truths is equality -/
mutual
def Pl : PyData → Bool
  | .none | .int _ | .str _ => true
  | .bool _ | .dict _ => false
  | .list xs | .tuple xs => PlA xs
def PlA : List PyData → Bool
  | [] => true
  | x :: xs => Pl x && PlA xs
end
mutual
theorem eqv_iff : ∀ (a b : PyData), Pl a = true → Pl b = true → (PyData.eqv a b = true ↔ a = b)
  | .none, b, _, hb => by cases b <;> simp [PyData.eqv, Pl] at *
  | .bool _, _, h, _ => by simp [Pl] at h
  | .dict _, _, h, _ => by simp [Pl] at h
  | .int i, b, _, hb => by cases b <;> simp [PyData.eqv, Pl] at *
  | .str i, b, _, hb => by cases b <;> simp [PyData.eqv, Pl] at *
  | .list xs, b, ha, hb => by
    cases b with
    | list ys =>
      have h := eqvA_iff xs ys (by simpa [Pl] using ha) (by simpa [Pl] using hb)
      simp only [PyData.eqv]
      rw [h]
      exact ⟨fun e => by rw [e], fun e => by cases e; rfl⟩
    | _ => simp [PyData.eqv]
  | .tuple xs, b, ha, hb => by
    cases b with
    | tuple ys =>
      have h := eqvA_iff xs ys (by simpa [Pl] using ha) (by simpa [Pl] using hb)
      simp only [PyData.eqv]
      rw [h]
      exact ⟨fun e => by rw [e], fun e => by cases e; rfl⟩
    | _ => simp [PyData.eqv]
theorem eqvA_iff : ∀ (as bs : List PyData), PlA as = true → PlA bs = true → (PyData.eqvAll as bs = true ↔ as = bs)
  | [], [], _, _ => by simp [PyData.eqvAll]
  | [], _ :: _, _, _ => by simp [PyData.eqvAll]
  | _ :: _, [], _, _ => by simp [PyData.eqvAll]
  | a :: as, b :: bs, ha, hb => by
    have ha' : Pl a = true ∧ PlA as = true := by simpa [PlA] using ha
    have hb' : Pl b = true ∧ PlA bs = true := by simpa [PlA] using hb
    have h1 := eqv_iff a b ha'.1 hb'.1
    have h2 := eqvA_iff as bs ha'.2 hb'.2
    simp only [PyData.eqvAll, Bool.and_eq_true, h1, h2, List.cons.injEq]
end
theorem PlA.map {α : Type} {f : α → PyData} (h : ∀ a, Pl (f a) = true) : ∀ l : List α, PlA (l.map f) = true
  | [] => by simp [PlA]
  | a :: l => by simp [PlA, h a, PlA.map h l]
theorem pl_fr (z : Int) : Pl (fr z) = true := by simp [fr, Pl, PlA]
theorem pl_frO : ∀ o, Pl (frO o) = true
  | .none => by simp [frO, Pl]
  | .some z => pl_fr z
theorem pl_dB (b : Int × Option Int) : Pl (dB b) = true := by simp [dB, Pl, PlA, pl_fr, pl_frO]
theorem pl_dD : ∀ d, Pl (dD d) = true
  | .mark => by simp [dD, Pl, PlA]
  | .send _ => by simp [dD, Pl, PlA]
  | .hear _ => by simp [dD, Pl, PlA]
theorem eqv_int (i j : Int) : PyData.eqv (.int i) (.int j) = decide (i = j) := by
  simp only [PyData.eqv]
  exact Bool.beq_eq_decide_eq _ _
theorem eqv_str (i j : Str) : PyData.eqv (.str i) (.str j) = decide (i = j) := by
  simp only [PyData.eqv]
  by_cases h : i = j
  · subst h; simp
  · rw [decide_eq_false h]; simpa using h
theorem eqv_bool (i j : Bool) : PyData.eqv (.bool i) (.bool j) = (i == j) := by simp only [PyData.eqv]
theorem fr_inj {x y : Int} (h : fr x = fr y) : x = y := by
  unfold fr at h
  injection h with h
  injection h with h1 h2
  injection h2 with h2 _
  injection h1 with h1
  injection h2 with h2
  exact nu_inj h1 h2
theorem frO_inj : ∀ {x y : Option Int}, frO x = frO y → x = y
  | .none, .none, _ => rfl
  | .none, .some _, h => by simp [frO, fr] at h
  | .some _, .none, h => by simp [frO, fr] at h
  | .some x, .some y, h => by rw [fr_inj h]
theorem dB_inj {a b : Int × Option Int} (h : dB a = dB b) : a = b := by
  unfold dB at h
  injection h with h
  injection h with h1 h2
  injection h2 with h2 _
  exact Prod.ext (fr_inj h1) (frO_inj h2)
theorem eqv_of_eq {a b : PyData} (h : a = b) (p : Pl a = true) : PyData.eqv a b = true := (eqv_iff a b p (h ▸ p)).mpr h
theorem eqv_ne {a b : PyData} (h : a ≠ b) (p : Pl a = true) (q : Pl b = true) : PyData.eqv a b = false := by
  cases e : PyData.eqv a b with
  | false => rfl
  | true => exact absurd ((eqv_iff a b p q).mp e) h
end Mx

namespace Mx
open PySem
/-! ### histories -/
def RateOk (r : Int) : Prop := r = 120 ∨ r = 180 ∨ r = 240 ∨ r = 300 ∨ r = 360 ∨ r = 480
structure FdOk (f : Fd) : Prop where
  nd : (f.houses.map (·.name)).Nodup
  h6 : f.houses.length ≤ 6
  slow : ∀ h ∈ f.houses, RateOk h.slow ∧ h.slow ≤ 240
  fast : ∀ h ∈ f.houses, RateOk h.fast ∧ 240 ≤ h.fast
  nm : ∀ h ∈ f.houses, (PyData.str h.name).canLay0 = true
structure HOk (f : Fd) (es : List Evt) : Prop where
  fd : FdOk f
  n : es.length ≤ 20
  hs : ∀ e ∈ es, ∃ h ∈ f.houses, h.name = e.house
  st : ∀ e ∈ es, ∃ t, e.stamp = 30 * t
  sd : ∀ e ∈ es, ∀ l, e.deed = .send l → l < f.links.length
  hr : ∀ (i : Nat) e, es[i]? = some e → ∀ k, e.deed = .hear k → k < i ∧ ∃ e' l, es[k]? = some e' ∧ e'.deed = .send l
/-- the name at a place -/
def hz (es : List Evt) (i : Nat) : Option Str := (es[i]?).map (·.house)
def dz (es : List Evt) (i : Nat) : Option Deed := (es[i]?).map (·.deed)
def lastFrom (es : List Evt) (h : Option Str) : Nat → Option Nat
  | 0 => none
  | n + 1 => if hz es n = h then some n else lastFrom es h n
def lastAhead (es : List Evt) (y : Nat) : Option Nat := lastFrom es (hz es y) y
def heard1 (es : List Evt) (y : Nat) : List Nat :=
  match dz es y with
  | some (.hear k) => [k]
  | _ => []
def behind (es : List Evt) (y : Nat) : List Nat := (lastAhead es y).toList ++ heard1 es y
theorem lastFrom_lt {es : List Evt} {h : Option Str} : ∀ {n x : Nat}, lastFrom es h n = some x → x < n ∧ hz es x = h
  | 0, _, e => by simp [lastFrom] at e
  | n + 1, x, e => by
    unfold lastFrom at e
    by_cases c : hz es n = h
    · rw [if_pos c] at e
      cases e
      exact ⟨Nat.lt_succ_self _, c⟩
    · rw [if_neg c] at e
      have := lastFrom_lt e
      exact ⟨by omega, this.2⟩
/-- the links over which events hear -/
def linkOf (f : Fd) (es : List Evt) (y : Nat) : Option Lnk :=
  match dz es y with
  | some (.hear k) => match dz es k with
    | some (.send l) => f.links[l]?
    | _ => none
  | _ => none
/-- the house of an event -/
def hsOf (f : Fd) (es : List Evt) (x : Nat) : Option Hs := f.houses.find? fun h => decide (some h.name = hz es x)
def stp (es : List Evt) (x : Nat) : Int := ((es[x]?).map (·.stamp)).getD 0
/-- while_between: low by fast, high by slow -/
def whl (f : Fd) (es : List Evt) (x y : Nat) : Int × Int :=
  match hsOf f es x with
  | some h => (240 * (stp es y - stp es x) / h.fast, 240 * (stp es y - stp es x) / h.slow)
  | none => (0, 0)
def bnd (f : Fd) (es : List Evt) (x y : Nat) : Int × Option Int :=
  if dz es y = some (.hear x) then (match linkOf f es y with | some l => (l.least, l.most) | none => (0, none))
  else ((whl f es x y).1, some (whl f es x y).2)
section
variable {f : Fd} {es : List Evt}
theorem at_lt {x : Nat} (h : x < es.length) : es[x]? = some es[x] := List.getElem?_eq_getElem h
theorem hz_of {x : Nat} {e : Evt} (h : es[x]? = some e) : hz es x = some e.house := by unfold hz; rw [h]; rfl
theorem dz_of {x : Nat} {e : Evt} (h : es[x]? = some e) : dz es x = some e.deed := by unfold dz; rw [h]; rfl
theorem stp_of {x : Nat} {e : Evt} (h : es[x]? = some e) : stp es x = e.stamp := by unfold stp; rw [h]; rfl
theorem RateOk.pos {r : Int} (h : RateOk r) : 0 < r ∧ r < 1000000 := by unfold RateOk at h; omega
/-- the division is exact -/
theorem RateOk.div {r t : Int} (h : RateOk r) : (240 * (30 * t) / r) * r = 240 * (30 * t) := by
  rcases h with h | h | h | h | h | h <;> subst h <;> omega
theorem find_mem {α : Type} {l : List α} {p : α → Bool} {x : α} (h : l.find? p = some x) : x ∈ l ∧ p x = true := ⟨List.mem_of_find?_eq_some h, List.find?_some h⟩
theorem HOk.house (h : HOk f es) {x : Nat} {e : Evt} (he : es[x]? = some e) : ∃ s, hsOf f es x = some s ∧ s ∈ f.houses ∧ s.name = e.house := by
  obtain ⟨s, hs, hn⟩ := h.hs e (List.mem_of_getElem? he)
  have hne : hsOf f es x ≠ none := by
    intro z
    unfold hsOf at z
    have := List.find?_eq_none.mp z s hs
    apply this
    rw [hz_of he, hn]
    simp
  cases e2 : hsOf f es x with
  | none => exact absurd e2 hne
  | some s2 =>
    obtain ⟨m, p⟩ := find_mem e2
    refine ⟨s2, rfl, m, ?_⟩
    have := of_decide_eq_true p
    rw [hz_of he] at this
    exact Option.some.inj this
theorem HOk.whl_eq (h : HOk f es) {x y : Nat} {s : Hs} (hs : hsOf f es x = some s) (hx : x < es.length) (hy : y < es.length) (hm : s ∈ f.houses) :
    (whl f es x y).1 * s.fast = 240 * (stp es y - stp es x) ∧ (whl f es x y).2 * s.slow = 240 * (stp es y - stp es x) := by
  have e1 := stp_of (at_lt hx)
  have e2 := stp_of (at_lt hy)
  obtain ⟨t1, h1⟩ := h.st _ (List.mem_of_getElem? (at_lt hx))
  obtain ⟨t2, h2⟩ := h.st _ (List.mem_of_getElem? (at_lt hy))
  have e3 : stp es y - stp es x = 30 * (t2 - t1) := by rw [e1, e2, h1, h2]; omega
  unfold whl
  rw [hs]
  show 240 * (stp es y - stp es x) / s.fast * s.fast = _ ∧ 240 * (stp es y - stp es x) / s.slow * s.slow = _
  rw [e3]
  exact ⟨(h.fd.fast s hm).1.div, (h.fd.slow s hm).1.div⟩
theorem heard1_of {x k : Nat} (h : dz es x = some (.hear k)) : heard1 es x = [k] := by unfold heard1; rw [h]
theorem heard1_not {x : Nat} (h : ∀ k, dz es x ≠ some (.hear k)) : heard1 es x = [] := by
  unfold heard1
  split
  · rename_i k e
    exact absurd e (h k)
  · rfl
theorem HOk.linkOf (h : HOk f es) {y k : Nat} (hd : dz es y = some (.hear k)) : k < y ∧ ∃ e' l lk, es[k]? = some e' ∧ e'.deed = .send l ∧ f.links[l]? = some lk ∧ Mx.linkOf f es y = some lk := by
  have hy : ∃ e, es[y]? = some e ∧ e.deed = .hear k := by
    unfold dz at hd
    cases e : es[y]? with
    | none => rw [e] at hd; cases hd
    | some v => rw [e] at hd; exact ⟨v, rfl, Option.some.inj hd⟩
  obtain ⟨e, he, hek⟩ := hy
  obtain ⟨h1, e', l, h2, h3⟩ := h.hr y e he k hek
  have h4 := h.sd e' (List.mem_of_getElem? h2) l h3
  refine ⟨h1, e', l, f.links[l], h2, h3, List.getElem?_eq_getElem h4, ?_⟩
  unfold Mx.linkOf
  rw [hd]
  dsimp only
  rw [dz_of h2, h3]
  dsimp only
  exact List.getElem?_eq_getElem h4
theorem HOk.behind_lt (h : HOk f es) {y z : Nat} (hz : z ∈ behind es y) : z < y := by
  unfold behind at hz
  rcases List.mem_append.mp hz with hz | hz
  · have e : lastAhead es y = some z := by
      cases e : lastAhead es y with
      | none => rw [e] at hz; simp at hz
      | some v => rw [e] at hz; simp at hz; rw [hz]
    exact (lastFrom_lt e).1
  · by_cases c : ∃ k, dz es y = some (.hear k)
    · obtain ⟨k, hk⟩ := c
      rw [heard1_of hk] at hz
      simp at hz
      have := (h.linkOf hk).1
      omega
    · rw [heard1_not fun k e => c ⟨k, e⟩] at hz
      simp at hz
end
end Mx

namespace Mx
open PySem
/-! ### what is heard -/
inductive Rch (es : List Evt) (x : Nat) : Nat → Prop
  | refl : Rch es x x
  | step {y z : Nat} : z ∈ behind es y → Rch es x z → Rch es x y
section
variable {f : Fd} {es : List Evt}
theorem Rch.trans {x y z : Nat} (h : Rch es x y) (k : Rch es y z) : Rch es x z := by
  induction k with
  | refl => exact h
  | step hz _ ih => exact .step hz ih
theorem Rch.le (ok : HOk f es) {x y : Nat} (h : Rch es x y) : x ≤ y := by
  induction h with
  | refl => exact Nat.le_refl _
  | step hz _ ih =>
    have := ok.behind_lt hz
    omega
theorem Rch.inv {x y : Nat} (h : Rch es x y) (n : x ≠ y) : ∃ z ∈ behind es y, Rch es x z := by
  cases h with
  | refl => exact absurd rfl n
  | step hz k => exact ⟨_, hz, k⟩
open Classical in
noncomputable def heard (es : List Evt) (y : Nat) : List Nat := (List.range (y + 1)).filter fun x => decide (Rch es x y)
open Classical in
theorem mem_heard (ok : HOk f es) {x y : Nat} : x ∈ heard es y ↔ Rch es x y := by
  unfold heard
  rw [List.mem_filter, List.mem_range]
  constructor
  · intro h
    exact of_decide_eq_true h.2
  · intro h
    have := h.le ok
    exact ⟨by omega, decide_eq_true h⟩
theorem heard_sorted (es : List Evt) (y : Nat) : (heard es y).Pairwise (· < ·) := List.pairwise_lt_range.filter _
theorem heard_nodup (es : List Evt) (y : Nat) : (heard es y).Nodup := (heard_sorted es y).imp fun h => Nat.ne_of_lt h
theorem heard_len (es : List Evt) (y : Nat) : (heard es y).length ≤ y + 1 := by
  have h := List.length_filter_le (fun x => @decide (Rch es x y) (Classical.propDecidable _)) (List.range (y + 1))
  rw [List.length_range] at h
  exact h
/-- a list without doubles of numbers below n is no longer than n -/
theorem nodup_len {l : List Nat} {n : Nat} (h : l.Nodup) (k : ∀ a ∈ l, a < n) : l.length ≤ n := by
  have := h.length_le_of_subset (l₂ := List.range n) fun a ha => List.mem_range.mpr (k a ha)
  rw [List.length_range] at this
  exact this
/-! ### relays -/
def prs : List Nat → List (Nat × Nat)
  | a :: b :: r => (a, b) :: prs (b :: r)
  | _ => []
theorem prs_zip : ∀ r : List Nat, r.zip (r.drop 1) = prs r
  | [] => rfl
  | [_] => rfl
  | a :: b :: r => by
    have h := prs_zip (b :: r)
    show (a, b) :: (b :: r).zip ((b :: r).drop 1) = (a, b) :: prs (b :: r)
    rw [h]
theorem prs_len : ∀ r : List Nat, (prs r).length = r.length - 1
  | [] => rfl
  | [_] => rfl
  | a :: b :: r => by
    have h := prs_len (b :: r)
    show (prs (b :: r)).length + 1 = (b :: r).length + 1 - 1
    rw [h]
    show (r.length + 1 - 1) + 1 = r.length + 1 + 1 - 1
    omega
theorem prs_get : ∀ {r : List Nat} {i x y : Nat}, r[i]? = some x → r[i + 1]? = some y → (prs r)[i]? = some (x, y)
  | [], _, _, _, h, _ => by simp at h
  | [_], 0, _, _, _, h => by simp at h
  | [_], _ + 1, _, _, h, _ => by simp at h
  | a :: b :: r, 0, x, y, h, h2 => by
    have e1 : a = x := Option.some.inj h
    have e2 : b = y := Option.some.inj h2
    rw [e1, e2]
    rfl
  | a :: b :: r, i + 1, x, y, h, h2 => prs_get (r := b :: r) (i := i) h h2
theorem prs_take : ∀ (k : Nat) (r : List Nat), prs (r.take (k + 1)) = (prs r).take k
  | 0, [] => rfl
  | 0, [_] => rfl
  | 0, a :: b :: r => rfl
  | k + 1, [] => rfl
  | k + 1, [_] => rfl
  | k + 1, a :: b :: r => by
    have h := prs_take k (b :: r)
    show (a, b) :: prs ((b :: r).take (k + 1)) = (a, b) :: (prs (b :: r)).take k
    rw [h]
theorem prs_drop : ∀ (k : Nat) (r : List Nat), prs (r.drop k) = (prs r).drop k
  | 0, _ => rfl
  | k + 1, [] => rfl
  | k + 1, [_] => by
    show prs ([].drop k) = [].drop (k + 1)
    rw [List.drop_nil]; rfl
  | k + 1, a :: b :: r => prs_drop k (b :: r)
theorem prs_map (g : Nat → Nat) : ∀ r : List Nat, prs (r.map g) = (prs r).map fun p => (g p.1, g p.2)
  | [] => rfl
  | [_] => rfl
  | a :: b :: r => by
    have h := prs_map g (b :: r)
    show (g a, g b) :: prs ((b :: r).map g) = (g a, g b) :: (prs (b :: r)).map _
    rw [h]
theorem prs_mem : ∀ {r : List Nat} {p : Nat × Nat}, p ∈ prs r → p.1 ∈ r ∧ p.2 ∈ r
  | [], p, h => by simp [prs] at h
  | [_], p, h => by simp [prs] at h
  | a :: b :: r, p, h => by
    rcases List.mem_cons.mp h with rfl | h
    · exact ⟨List.mem_cons_self, List.mem_cons_of_mem _ List.mem_cons_self⟩
    · have := prs_mem (r := b :: r) h
      exact ⟨List.mem_cons_of_mem _ this.1, List.mem_cons_of_mem _ this.2⟩
def addO : Option Int → Option Int → Option Int
  | some a, some b => some (a + b)
  | _, _ => none
def addB (a b : Int × Option Int) : Int × Option Int := (a.1 + b.1, addO a.2 b.2)
def zB : Int × Option Int := (0, some 0)
theorem addO_assoc : ∀ a b c : Option Int, addO (addO a b) c = addO a (addO b c)
  | some a, some b, some c => by show some (a + b + c) = some (a + (b + c)); rw [Int.add_assoc]
  | none, some _, some _ => rfl
  | none, none, _ => by cases ‹Option Int› <;> rfl
  | none, some _, none => rfl
  | some _, none, some _ => rfl
  | some _, none, none => rfl
  | some _, some _, none => rfl
theorem addB_assoc (a b c : Int × Option Int) : addB (addB a b) c = addB a (addB b c) := by
  unfold addB
  rw [addO_assoc, Int.add_assoc]
theorem addO_zero : ∀ a : Option Int, addO (some 0) a = a
  | some a => by show some (0 + a) = some a; rw [Int.zero_add]
  | none => rfl
theorem addO_zero' : ∀ a : Option Int, addO a (some 0) = a
  | some a => by show some (a + 0) = some a; rw [Int.add_zero]
  | none => rfl
theorem addB_z (a : Int × Option Int) : addB zB a = a := by
  obtain ⟨x, y⟩ := a
  show (0 + x, addO (some 0) y) = (x, y)
  rw [addO_zero, Int.zero_add]
theorem addB_z' (a : Int × Option Int) : addB a zB = a := by
  obtain ⟨x, y⟩ := a
  show (x + 0, addO y (some 0)) = (x, y)
  rw [addO_zero', Int.add_zero]
def fsum (l : List (Int × Option Int)) : Int × Option Int := l.foldl addB zB
theorem foldl_addB (a : Int × Option Int) : ∀ l : List (Int × Option Int), l.foldl addB a = addB a (fsum l)
  | [] => by show a = addB a zB; rw [addB_z']
  | x :: l => by
    show l.foldl addB (addB a x) = addB a (l.foldl addB (addB zB x))
    rw [foldl_addB (addB a x) l, foldl_addB (addB zB x) l, addB_z, addB_assoc]
theorem fsum_app (a b : List (Int × Option Int)) : fsum (a ++ b) = addB (fsum a) (fsum b) := by
  unfold fsum
  rw [List.foldl_append]
  exact foldl_addB _ b
theorem fsum_cons (x : Int × Option Int) (l : List (Int × Option Int)) : fsum (x :: l) = addB x (fsum l) := by
  show l.foldl addB (addB zB x) = _
  rw [addB_z, foldl_addB]
/-- the bounds of a relay -/
def bsum (f : Fd) (es : List Evt) (r : List Nat) : Int × Option Int := fsum ((prs r).map fun p => bnd f es p.1 p.2)
theorem bsum_parts (r : List Nat) (k : Nat) : addB (bsum f es (r.take (k + 1))) (bsum f es (r.drop k)) = bsum f es r := by
  unfold bsum
  rw [prs_take, prs_drop, ← fsum_app, ← List.map_append, List.take_append_drop]
/-- each next one goes from the one ahead -/
def goB (es : List Evt) (x y : Nat) : Bool := decide (dz es y = some (.hear x)) || (decide (x < y) && decide (hz es x = hz es y))
def Goes (es : List Evt) (r : List Nat) : Prop := ∀ p ∈ prs r, goB es p.1 p.2 = true
theorem goB_of {x y : Nat} : goB es x y = true ↔ (dz es y = some (.hear x) ∨ (x < y ∧ hz es x = hz es y)) := by
  unfold goB
  rw [Bool.or_eq_true, Bool.and_eq_true, decide_eq_true_iff, decide_eq_true_iff, decide_eq_true_iff]
/-! ### worlds -/
def wz (w : List Int) (x : Nat) : Int := w.getD x 0
structure FitsW (f : Fd) (es : List Evt) (w : List Int) : Prop where
  len : w.length = es.length
  same : ∀ x y h, x < y → y < es.length → hz es x = hz es y → hsOf f es x = some h → h.slow * (wz w y - wz w x) ≤ 240 * (stp es y - stp es x) ∧ 240 * (stp es y - stp es x) ≤ h.fast * (wz w y - wz w x)
  link : ∀ y k lk, y < es.length → dz es y = some (.hear k) → linkOf f es y = some lk → lk.least ≤ wz w y - wz w k ∧ ∀ m, lk.most = some m → wz w y - wz w k ≤ m
theorem bnd_world (ok : HOk f es) {w : List Int} (fw : FitsW f es w) {x y : Nat} (hx : x < es.length) (hy : y < es.length) (h : goB es x y = true) :
    (bnd f es x y).1 ≤ wz w y - wz w x ∧ ∀ m, (bnd f es x y).2 = some m → wz w y - wz w x ≤ m := by
  by_cases hd : dz es y = some (.hear x)
  · obtain ⟨_, _, _, lk, _, _, _, h4⟩ := ok.linkOf hd
    have e : bnd f es x y = (lk.least, lk.most) := by
      unfold bnd
      rw [if_pos hd, h4]
    rw [e]
    exact fw.link y x lk hy hd h4
  · have e : bnd f es x y = ((whl f es x y).1, some (whl f es x y).2) := by
      unfold bnd
      rw [if_neg hd]
    rw [e]
    obtain ⟨hl, hh⟩ : x < y ∧ hz es x = hz es y := by
      rcases goB_of.mp h with h | h
      · exact absurd h hd
      · exact h
    obtain ⟨s, es1, hm, hn⟩ := ok.house (at_lt hx)
    obtain ⟨w1, w2⟩ := ok.whl_eq es1 hx hy hm
    obtain ⟨s1, s2⟩ := fw.same x y s hl hy hh es1
    have pf := (ok.fd.fast s hm).1.pos.1
    have ps := (ok.fd.slow s hm).1.pos.1
    refine ⟨?_, fun m hm' => ?_⟩
    · rw [← w1, Int.mul_comm s.fast] at s2
      exact Int.le_of_mul_le_mul_right s2 pf
    · cases hm'
      rw [← w2, Int.mul_comm s.slow] at s1
      exact Int.le_of_mul_le_mul_right s1 ps
theorem bsum_world (ok : HOk f es) {w : List Int} (fw : FitsW f es w) : ∀ (a : Nat) (r : List Nat) (z : Nat), (a :: r).getLast? = some z → (∀ x ∈ a :: r, x < es.length) → Goes es (a :: r) →
    (bsum f es (a :: r)).1 ≤ wz w z - wz w a ∧ ∀ m, (bsum f es (a :: r)).2 = some m → wz w z - wz w a ≤ m
  | a, [], z, hz, _, _ => by
    have e : a = z := Option.some.inj hz
    subst e
    show (0 : Int) ≤ wz w a - wz w a ∧ ∀ m, (some (0 : Int)) = some m → wz w a - wz w a ≤ m
    refine ⟨by omega, fun m hm => ?_⟩
    cases hm
    omega
  | a, b :: r, z, hz, hin, hg => by
    have h2 : (b :: r).getLast? = some z := by
      rw [List.getLast?_cons_cons] at hz
      exact hz
    have ih := bsum_world ok fw b r z h2 (fun x hx => hin x (List.mem_cons_of_mem _ hx)) (fun p hp => hg p (List.mem_cons_of_mem _ hp))
    have h1 := bnd_world ok fw (hin a List.mem_cons_self) (hin b (List.mem_cons_of_mem _ List.mem_cons_self)) (hg (a, b) List.mem_cons_self)
    have e : bsum f es (a :: b :: r) = addB (bnd f es a b) (bsum f es (b :: r)) := by
      unfold bsum
      show fsum (bnd f es a b :: (prs (b :: r)).map _) = _
      rw [fsum_cons]
    rw [e]
    refine ⟨?_, fun m hm => ?_⟩
    · show (bnd f es a b).1 + (bsum f es (b :: r)).1 ≤ _
      omega
    · have hm' : addO (bnd f es a b).2 (bsum f es (b :: r)).2 = some m := hm
      cases e1 : (bnd f es a b).2 with
      | none => rw [e1] at hm'; cases hm'
      | some u =>
        cases e2 : (bsum f es (b :: r)).2 with
        | none => rw [e1, e2] at hm'; cases hm'
        | some v =>
          rw [e1, e2] at hm'
          have e3 : u + v = m := Option.some.inj hm'
          have := h1.2 u e1
          have := ih.2 v e2
          omega
end
end Mx

namespace Lk
open PySem PySem.Spec PyProof.Rows L2 Mx
section
variable {K : PySem.W.Frag} {σ : L2.St} {H H' H0 : Hp} {ta tb tc te tx : TE} {t u : TT} {d x y z : PyData} {v : V} {r : R2}
theorem atM {α : Type} {β : Type} {l : List α} {f : α → β} {i : Nat} {a : α} (h : l[i]? = some a) : atI (l.map f) ((i : Nat) : Int) = some (f a) := atI_nat (by rw [List.getElem?_map, h]; rfl)
/-- l[i], l the data of a list, i a place -/
theorem ev_at {α : Type} {l : List α} {f : α → PyData} {i : Nat} {a : α} (ha : Ev K ta σ H (.tuple (l.map f))) (hb : Ev K tb σ H (.int (i : Int))) (h : l[i]? = some a) : Ev K (tOp (rIxT K) ta tb) σ H (f a) := ev_ixT ha hb (atM h)
theorem ev_un0 {f : Int → Int} {i : Int} (ha : Ev K ta σ H (.int i)) : Ev K (tUn (rU fun i => .int (f i)) ta) σ H (.int (f i)) := fun H1 e Q q =>
  ha H1 e _ fun v H2 e2 hv => ⟨i, hv.int_inv, q _ H2 e2 (.int _)⟩
theorem ev_isi {T : String} {b : Bool} (ha : Ev K ta σ H x) (hT : ∀ v H1, Tp K H1 v x → ∃ t, TyX K H1 v t ∧ PySem.W.kitOne K t (.type T) = some b) : Ev K (tCB (rIsi K) (tCons ta (tCons (tC (.ty T)) tNil))) σ H (.bool b) := fun H1 e Q q =>
  ha H1 e _ fun v H2 e2 hv => by
    obtain ⟨t, h1, h2⟩ := hT v H2 hv
    exact ⟨v, .ty T, t, .type T, b, rfl, .ty T, h1, h2, q _ H2 e2 (.bl _)⟩
theorem isi_int {v : V} {i : Int} {H : Hp} {T : String} {b : Bool} (hk : kitB "int" T = some b) (h : Tp K H v (.int i)) : ∃ t, TyX K H v t ∧ PySem.W.kitOne K t (.type T) = some b := by
  rw [h.int_inv]
  exact ⟨_, .base (.int i), kit_ty hk⟩
theorem isi_tup {v : V} {ds : List PyData} {H : Hp} {T : String} {b : Bool} (hk : kitB "tuple" T = some b) (h : Tp K H v (.tuple ds)) : ∃ t, TyX K H v t ∧ PySem.W.kitOne K t (.type T) = some b := by
  obtain ⟨a, xs, rfl, hs, _⟩ := h.tup_inv
  refine ⟨.type "tuple", ?_, kit_ty hk⟩
  rcases hs with (hs | ⟨o, hs⟩) | ⟨o, its, n, hl, hc, _⟩
  · exact .base (.tup hs)
  · exact .fTuple hs
  · exact .kTuple hl hc
/-- list + list -/
theorem el_cat {l : Addr} {xs : List V} {ds es : List PyData} (ha : EvV ta σ H (.ref l)) (hl : H l = some (.lst xs)) (hx : TpAll K H xs ds) (hb : EvL K tb σ H es) (hz : ds.length + es.length ≤ 100000) : EvL K (tOp rCat ta tb) σ H (ds ++ es) := fun H1 e Q q =>
  ha H1 e _ fun H2 e2 => hb H2 (e.trans e2) _ fun p ys H3 hp e3 hy hys => by
    refine ⟨l, p, xs, ys, rfl, rfl, e3 _ _ (e2 _ _ (e _ _ hl)), hy, by rw [hx.len, hys.len]; exact sz_of hz, fun b hb => ?_⟩
    have hn : H3 b = none := hb
    refine q b (xs ++ ys) _ (e2.free (e3.free hn)) ((e2.trans e3).trans (same_new hn)) upd_same ?_
    exact ((hx.sm ((e.trans e2).trans e3)).app hys).up (tx_new hn)
/-- what is left of slots and lists behind a comprehension's own names -/
theorem wipe_key : ∀ (vs : List Nat) (τ : L2.St) (j : Nat), (L2.wipe τ vs)[j]? = if j ∈ vs then (if j < τ.length then some none else none) else τ[j]? := by
  intro vs
  induction vs with
  | nil => intro τ j; simp [L2.wipe]
  | cons v vs ih =>
    intro τ j
    have hl := wipe_length τ vs
    unfold L2.wipe
    by_cases e : v = j
    · subst e
      by_cases hv : v < τ.length
      · rw [List.getElem?_set_self (by rw [hl]; exact hv)]
        simp [hv]
      · rw [List.getElem?_eq_none (by rw [List.length_set, hl]; omega)]
        simp [hv]
    · rw [List.getElem?_set_ne e, ih]
      have e' : ¬ j = v := fun z => e z.symm
      simp [e']
theorem wipe_setG {τ : L2.St} {i : Nat} {x : Option V} {vs : List Nat} (hi : i ∈ vs) : L2.wipe (τ.set i x) vs = L2.wipe τ vs := by
  apply List.ext_getElem?
  intro j
  rw [wipe_key, wipe_key, List.length_set]
  by_cases hj : j ∈ vs
  · simp [hj]
  · have e : i ≠ j := fun z => hj (z ▸ hi)
    simp only [hj, if_false]
    rw [List.getElem?_set_ne e]
theorem yes_if {A B : Hp → Prop} (h : A H) : tYes σ H (fun b H3 => if b = true then A H3 else B H3) := by
  show if true = true then A H else B H
  rw [if_pos rfl]
  exact h
theorem if_yes {b : Bool} {A B : Prop} (hb : b = true) (h : A) : if b = true then A else B := by rw [if_pos hb]; exact h
theorem if_no {b : Bool} {A B : Prop} (hb : b = false) (h : B) : if b = true then A else B := by rw [if_neg (by rw [hb]; decide)]; exact h
theorem putK_le {κ : Type} [DecidableEq κ] (kvs : List (κ × V)) (k : κ) (z : V) : (putK kvs k z).length ≤ kvs.length + 1 := by
  unfold putK
  split
  · rw [List.length_map]; omega
  · rw [List.length_append]; exact Nat.le_refl _
theorem wipe_idem {τ : L2.St} {vs : List Nat} : L2.wipe (L2.wipe τ vs) vs = L2.wipe τ vs := by
  apply List.ext_getElem?
  intro j
  rw [wipe_key, wipe_key, wipe_length]
  by_cases hj : j ∈ vs <;> simp [hj]
end
section
variable {K : PySem.W.Frag} {σ : L2.St} {H : Hp} {te td ty : TE} {d : PyData}
theorem evv_str {x : Str} (h : Ev K te σ H (.str x)) : EvV te σ H (.str x) := fun H1 e Q q => h H1 e _ fun v H2 e2 hv => by rw [hv.str_inv]; exact q H2 e2
theorem evv_int {x : Int} (h : Ev K te σ H (.int x)) : EvV te σ H (.int x) := fun H1 e Q q => h H1 e _ fun v H2 e2 hv => by rw [hv.int_inv]; exact q H2 e2
/-- a dict that has d under k -/
def EvD (K : PySem.W.Frag) (te : TE) (σ : L2.St) (H : Hp) (k : L2.Key) (d : PyData) : Prop := ∀ H1, Same H H1 → ∀ Q : VK, (∀ p kvs H2 u, Same H1 H2 → H2 p = some (.dK kvs) → valV kvs k = some u → Tp K H2 u d → Q (.ref p) H2) → te σ H1 Q
theorem ev_dget {k : L2.Key} (hd : EvD K td σ H k d) (hk : EvV ty σ H (kV k)) : Ev K (tDGet td ty) σ H d := fun H1 e Q q =>
  hd H1 e _ fun p kvs H2 u e2 hp hu tu => hk H2 (e.trans e2) _ fun H3 e3 => ⟨p, u, rfl, by have := DGet.k (H := H3) (k := k) (e3 _ _ hp); rw [hu] at this; exact this, q u H3 (e2.trans e3) (tu.sm e3)⟩
theorem evd_var {i : Nat} {ρ : List Sl} {p : Addr} {kvs : List (L2.Key × V)} {k : L2.Key} {u : V} (hS : Sto K H σ ρ) (h : ρ[i]? = some (.val (.ref p))) (hp : H p = some (.dK kvs)) (hu : valV kvs k = some u) (tu : Tp K H u d) : EvD K (tVar i) σ H k d := fun H1 e Q q =>
  evv_var hS h H1 e _ fun H2 e2 => q p kvs H2 u e2 (e2 _ _ (e _ _ hp)) hu (tu.sm (e.trans e2))
end
/-! ### loops -/
section
variable {K : PySem.W.Frag} {σ : L2.St} {H H' H0 : Hp} {te tl : TE} {ta : TA} {g : TG} {tb : TS} {D : Ends} {tt : TT}
theorem s_forR1 {n : Int} (h : EvA K ta σ H [.int n]) (hn : n < 2 ^ 62) (hn0 : -(2 ^ 62) ≤ n) (Pv : Nat → L2.St → Hp → Prop) (h0 : ∀ H1, Same H H1 → Pv 0 σ H1)
    (hs : ∀ i σ' H', i < n.toNat → Pv i σ' H' → g (.int ((i : Nat) : Int)) σ' H' fun σ2 H2 => tb { D with nx := Pv (i + 1), ct := Pv (i + 1), bk := D.nx } σ2 H2) (hd : ∀ σ' H', Pv n.toNat σ' H' → D.nx σ' H') : tFor (iRng1 ta) g tb D σ H :=
  h H (Same.refl H) _ fun vs H1 e hv0 => by
    obtain ⟨v, rfl, hv⟩ := hv0.one_inv
    rw [hv.int_inv]
    refine ⟨n, rfl, hn0, hn, for_range (lo := 0) (n := n.toNat) Pv (h0 H1 e) (fun i σ' H' hi p => ?_) hd⟩
    have := hs i σ' H' hi p
    rw [Int.zero_add]
    exact this
theorem s_forR2 {lo n : Int} (h : EvA K ta σ H [.int lo, .int n]) (hb : -(2 ^ 62) ≤ lo ∧ lo < 2 ^ 62 ∧ -(2 ^ 62) ≤ n ∧ n < 2 ^ 62) (Pv : Nat → L2.St → Hp → Prop) (h0 : ∀ H1, Same H H1 → Pv 0 σ H1)
    (hs : ∀ i σ' H', i < (n - lo).toNat → Pv i σ' H' → g (.int (lo + (i : Nat))) σ' H' fun σ2 H2 => tb { D with nx := Pv (i + 1), ct := Pv (i + 1), bk := D.nx } σ2 H2) (hd : ∀ σ' H', Pv (n - lo).toNat σ' H' → D.nx σ' H') : tFor (iRng2 ta) g tb D σ H :=
  h H (Same.refl H) _ fun vs H1 e hv0 => by
    obtain ⟨v, w, rfl, hv, hw⟩ := hv0.two_inv
    rw [hv.int_inv, hw.int_inv]
    exact ⟨lo, n, rfl, hb, for_range (lo := lo) (n := (n - lo).toNat) Pv (h0 H1 e) hs hd⟩
theorem s_forR3 {lo hi c : Int} {n : Nat} (h : EvA K ta σ H [.int lo, .int hi, .int c]) (hg : RgC lo hi c n) (Pv : Nat → L2.St → Hp → Prop) (h0 : ∀ H1, Same H H1 → Pv 0 σ H1)
    (hs : ∀ i σ' H', i < n → Pv i σ' H' → g (.int (lo + (i : Nat) * c)) σ' H' fun σ2 H2 => tb { D with nx := Pv (i + 1), ct := Pv (i + 1), bk := D.nx } σ2 H2) (hd : ∀ σ' H', Pv n σ' H' → D.nx σ' H') : tFor (iRng3 ta) g tb D σ H :=
  h H (Same.refl H) _ fun vs H1 e hv0 => by
    obtain ⟨u, v, w, rfl, hu, hv, hw⟩ := hv0.three_inv
    rw [hu.int_inv, hv.int_inv, hw.int_inv]
    exact ⟨lo, hi, c, n, rfl, hg, for_rangeC (lo := lo) (c := c) (n := n) Pv (h0 H1 e) hs hd⟩
/-- for .. in a tuple of data; the item is data -/
theorem s_forT {ds : List PyData} (h : Ev K tl σ H (.tuple ds)) (Pv : Hp → Nat → L2.St → Hp → Prop) (hx : ∀ H1 i σ' H', Pv H1 i σ' H' → Tx H1 H') (h0 : ∀ H1, Same H H1 → Pv H1 0 σ H1)
    (hs : ∀ H1, Same H H1 → ∀ i x d σ' H', ds[i]? = some d → Tp K H' x d → Pv H1 i σ' H' → g x σ' H' fun σ2 H2 => tb { D with nx := Pv H1 (i + 1), ct := Pv H1 (i + 1), bk := D.nx } σ2 H2) (hd : ∀ H1, Same H H1 → ∀ σ' H', Pv H1 ds.length σ' H' → D.nx σ' H') : tFor (iTup K tl) g tb D σ H :=
  h H (Same.refl H) _ fun v H1 e hv => by
    obtain ⟨a, xs, rfl, hq, hxs⟩ := hv.tup_inv
    have hl := hxs.len
    refine ⟨a, rfl, ⟨xs, hq⟩, for_tup (K := K) (a := a) (xs := xs) (Pv H1) (h0 H1 e) (fun i σ' H' _ p => sqT_tx (hx _ _ _ _ p) hq) (fun i x σ' H' hi p => ?_) (fun σ' H' p => ?_)⟩
    · obtain ⟨d, h1, h2⟩ := hxs.get' hi
      exact hs H1 e i x d σ' H' h1 (h2.up (hx _ _ _ _ p)) p
    · rw [hl] at p
      exact hd H1 e σ' H' p
/-- for k, x in enumerate(a tuple of data) -/
theorem s_forE {ds : List PyData} (h : Ev K tl σ H (.tuple ds)) (Pv : Hp → Nat → L2.St → Hp → Prop) (hx : ∀ H1 i σ' H', Pv H1 i σ' H' → Tx H1 H') (h0 : ∀ H1, Same H H1 → Pv H1 0 σ H1)
    (hs : ∀ H1, Same H H1 → ∀ i x d σ' H' H'', ds[i]? = some d → Pv H1 i σ' H' → Same H' H'' → Tp K H'' x (.tuple [.int ((i : Nat) : Int), d]) → g x σ' H'' fun σ2 H2 => tb { D with nx := Pv H1 (i + 1), ct := Pv H1 (i + 1), bk := D.nx } σ2 H2)
    (hd : ∀ H1, Same H H1 → ∀ σ' H', Pv H1 ds.length σ' H' → D.nx σ' H') : tFor (iEnumT K (tCons tl tNil)) g tb D σ H :=
  h H (Same.refl H) _ fun v H1 e hv => by
    obtain ⟨a, xs, rfl, hq, hxs⟩ := hv.tup_inv
    have hl := hxs.len
    refine ⟨a, xs, rfl, hq, for_it (walk_enumT (K := K) (a := a) (xs := xs)) (Pv H1) (h0 H1 e) (fun i σ' H' _ p => sqT_tx (hx _ _ _ _ p) hq) (fun i x σ' H' H'' hi p y => ?_) (fun σ' H' p => ?_)⟩
    · obtain ⟨T, y1, y2, rfl, hT, rfl, e1, e2⟩ := y
      obtain ⟨d, h1, h2⟩ := hxs.get' e2
      have e1' : V.int ((i : Nat) : Int) = y1 := Option.some.inj e1
      subst e1'
      refine hs H1 e i _ d σ' H' _ h1 p (same_new hT) (.tup (.inl (.inl upd_same)) (.cons (.int _) (.cons ?_ .nil)))
      exact (h2.up (hx _ _ _ _ p)).up (tx_new hT)
    · rw [hl] at p
      exact hd H1 e σ' H' p
/-- for x, y in zip(two tuples of data) -/
theorem s_forZ {ds es : List PyData} (h : EvA K ta σ H [.tuple ds, .tuple es]) (Pv : Hp → Nat → L2.St → Hp → Prop) (hx : ∀ H1 i σ' H', Pv H1 i σ' H' → Tx H1 H') (h0 : ∀ H1, Same H H1 → Pv H1 0 σ H1)
    (hs : ∀ H1, Same H H1 → ∀ i x d d' σ' H' H'', ds[i]? = some d → es[i]? = some d' → Pv H1 i σ' H' → Same H' H'' → Tp K H'' x (.tuple [d, d']) → g x σ' H'' fun σ2 H2 => tb { D with nx := Pv H1 (i + 1), ct := Pv H1 (i + 1), bk := D.nx } σ2 H2)
    (hd : ∀ H1, Same H H1 → ∀ σ' H', Pv H1 (min ds.length es.length) σ' H' → D.nx σ' H') : tFor (RZ.iZipA K ta) g tb D σ H :=
  h H (Same.refl H) _ fun vs H1 e hv0 => by
    obtain ⟨v, w, rfl, hv, hw⟩ := hv0.two_inv
    obtain ⟨a, xs, rfl, hq, hxs⟩ := hv.tup_inv
    obtain ⟨b, ys, rfl, hq', hys⟩ := hw.tup_inv
    have hl := hxs.len
    have hl' := hys.len
    refine ⟨a, b, xs, ys, rfl, .inr ⟨hq, hq', for_it (walk_zipT (K := K) (a := a) (b := b) (xs := xs) (ys := ys) rfl) (Pv H1) (h0 H1 e) (fun i σ' H' _ p => ⟨sqT_tx (hx _ _ _ _ p) hq, sqT_tx (hx _ _ _ _ p) hq'⟩) (fun i x σ' H' H'' hi p y => ?_) (fun σ' H' p => ?_)⟩⟩
    · obtain ⟨T, y1, y2, rfl, hT, rfl, e1, e2⟩ := y
      obtain ⟨d, h1, h2⟩ := hxs.get' e1
      obtain ⟨d', h1', h2'⟩ := hys.get' e2
      refine hs H1 e i _ d d' σ' H' _ h1 h1' p (same_new hT) (.tup (.inl (.inl upd_same)) (.cons ?_ (.cons ?_ .nil)))
      · exact (h2.up (hx _ _ _ _ p)).up (tx_new hT)
      · exact (h2'.up (hx _ _ _ _ p)).up (tx_new hT)
    · rw [hl, hl'] at p
      exact hd H1 e σ' H' p
/-- the targets of such loops: a pair to two names -/
theorem g_pair {i j : Nat} {d1 d2 : PyData} {ρ : List Sl} {x : V} {Q : L2.St → Hp → Prop} (hS : Sto K H σ ρ) (hx : Tp K H x (.tuple [d1, d2])) (k : ∀ σ', Sto K H σ' ((ρ.set i (.dat d1)).set j (.dat d2)) → Q σ' H) :
    gTup K 2 (gCons (gName i) (gCons (gName j) gNil)) x σ H Q := by
  obtain ⟨a, xs, rfl, hs, hx⟩ := hx.tup_inv
  obtain ⟨v1, v2, rfl, h1, h2⟩ := hx.two_inv
  exact ⟨a, _, rfl, hs, rfl, v1, _, rfl, v2, _, rfl, rfl, k _ ((hS.put i h1).put j h2)⟩
theorem g_name {i : Nat} {d : PyData} {ρ : List Sl} {x : V} {Q : L2.St → Hp → Prop} (hS : Sto K H σ ρ) (hx : Tp K H x d) (k : ∀ σ', Sto K H σ' (ρ.set i (.dat d)) → Q σ' H) : gName i x σ H Q := k _ (hS.put i hx)
theorem s_while (W : Nat → L2.St → Hp → Prop) (n0 : Nat) (h0 : W n0 σ H)
    (hs : ∀ m σ' H', W m σ' H' → ∃ b, EvT tt σ' H' b ∧ (b = true → ∀ H1, Same H' H1 → tb { D with nx := fun σ2 H2 => ∃ m', m' < m ∧ W m' σ2 H2, ct := fun σ2 H2 => ∃ m', m' < m ∧ W m' σ2 H2, bk := D.nx } σ' H1) ∧ (b = false → ∀ H1, Same H' H1 → D.nx σ' H1)) : tWhile tt tb D σ H :=
  ⟨W, ⟨n0, h0⟩, fun m σ' H' hm => by
    obtain ⟨b, ht, hy, hn⟩ := hs m σ' H' hm
    refine ht H' (Same.refl H') _ fun H1 e => ?_
    cases b with
    | true => exact iteT ⟨_, fun σ2 H2 p => p, hy rfl H1 e⟩
    | false => exact iteF (hn rfl H1 e)⟩
end
/-! ### texts that are compared -/
theorem eqs (a b : Str) (h : decide (a = b) = false) : PyData.eqv (.str a) (.str b) = false := by rw [eqv_str]; exact h
theorem eq_mh : PyData.eqv (.str "mark") (.str "hear") = false := eqs _ _ (by decide +kernel)
theorem eq_sh : PyData.eqv (.str "send") (.str "hear") = false := eqs _ _ (by decide +kernel)
theorem eq_hh : PyData.eqv (.str "hear") (.str "hear") = true := by rw [eqv_str]; decide +kernel
theorem eq_ms : PyData.eqv (.str "mark") (.str "send") = false := eqs _ _ (by decide +kernel)
theorem eq_hs : PyData.eqv (.str "hear") (.str "send") = false := eqs _ _ (by decide +kernel)
theorem eq_ss : PyData.eqv (.str "send") (.str "send") = true := by rw [eqv_str]; decide +kernel
theorem sh_hear : SeqAt.shaped (.str "hear") = true := Sh.ok (n := 0) (.str (by decide +kernel))
theorem sh_send : SeqAt.shaped (.str "send") = true := Sh.ok (n := 0) (.str (by decide +kernel))
theorem sh_mark : SeqAt.shaped (.str "mark") = true := Sh.ok (n := 0) (.str (by decide +kernel))
theorem dD_inj : ∀ {a b : Deed}, dD a = dD b → a = b
  | .mark, .mark, _ => rfl
  | .mark, .send _, h => by simp [dD] at h
  | .mark, .hear _, h => by simp [dD] at h
  | .send _, .mark, h => by simp [dD] at h
  | .hear _, .mark, h => by simp [dD] at h
  | .send a, .send b, h => by
    unfold dD at h
    injection h with h
    injection h with _ h
    injection h with h _
    injection h with h
    rw [Int.ofNat.inj h]
  | .hear a, .hear b, h => by
    unfold dD at h
    injection h with h
    injection h with _ h
    injection h with h _
    injection h with h
    rw [Int.ofNat.inj h]
  | .send _, .hear _, h => by
    unfold dD at h
    injection h with h
    injection h with h _
    injection h with h
    exact absurd h (by decide +kernel)
  | .hear _, .send _, h => by
    unfold dD at h
    injection h with h
    injection h with h _
    injection h with h
    exact absurd h (by decide +kernel)
theorem eqv_dD (a b : Deed) : PyData.eqv (dD a) (dD b) = decide (a = b) := by
  by_cases h : a = b
  · subst h
    rw [decide_eq_true rfl]
    exact eqv_of_eq rfl (pl_dD _)
  · rw [decide_eq_false h]
    exact eqv_ne (fun e => h (dD_inj e)) (pl_dD _) (pl_dD _)
section
variable {K : PySem.W.Frag} {σ : L2.St} {H : Hp} {te ti : TE} {es : List Evt} {i : Nat} {e : Evt}
theorem ev_evt (ha : Ev K te σ H (.tuple (es.map dE))) (hb : Ev K ti σ H (dN i)) (h : es[i]? = some e) : Ev K (tOp (rIxT K) te ti) σ H (dE e) := ev_at ha hb h
theorem ev_house (ha : Ev K te σ H (.tuple (es.map dE))) (hb : Ev K ti σ H (dN i)) (h : es[i]? = some e) : Ev K (tOp (rIxT K) (tOp (rIxT K) te ti) (tC (.int 0))) σ H (.str e.house) := ev_ix 0 (ev_evt ha hb h) rfl
theorem ev_stamp (ha : Ev K te σ H (.tuple (es.map dE))) (hb : Ev K ti σ H (dN i)) (h : es[i]? = some e) : Ev K (tOp (rIxT K) (tOp (rIxT K) te ti) (tC (.int 1))) σ H (fr e.stamp) := ev_ix 1 (ev_evt ha hb h) rfl
theorem ev_deed (ha : Ev K te σ H (.tuple (es.map dE))) (hb : Ev K ti σ H (dN i)) (h : es[i]? = some e) : Ev K (tOp (rIxT K) (tOp (rIxT K) te ti) (tC (.int 2))) σ H (dD e.deed) := ev_ix 2 (ev_evt ha hb h) rfl
end
def isH : Deed → Bool
  | .hear _ => true
  | _ => false
def isS : Deed → Bool
  | .send _ => true
  | _ => false
theorem isH_of : ∀ {d : Deed}, isH d = true → ∃ k, d = .hear k
  | .hear k, _ => ⟨k, rfl⟩
  | .mark, h => by simp [isH] at h
  | .send _, h => by simp [isH] at h
theorem isH_not : ∀ {d : Deed}, isH d = false → ∀ k, d ≠ .hear k
  | .hear k, h => by simp [isH] at h
  | .mark, _ => fun k z => by cases z
  | .send _, _ => fun k z => by cases z
theorem isS_of : ∀ {d : Deed}, isS d = true → ∃ k, d = .send k
  | .send k, _ => ⟨k, rfl⟩
  | .mark, h => by simp [isS] at h
  | .hear _, h => by simp [isS] at h
section
variable {K : PySem.W.Frag} {σ : L2.St} {H : Hp} {te : TE}
theorem ev_isH : ∀ {d : Deed}, Ev K te σ H (dD d) → Ev K (tOp (rEqD K) (tOp (rIxT K) te (tC (.int 0))) (tC (.str "hear"))) σ H (.bool (isH d))
  | .mark, h => ev_is (ev_eq (x := .str "mark") (ev_ix 0 h rfl) ev_str sh_mark sh_hear) (by rw [eq_mh]; rfl)
  | .send l, h => ev_is (ev_eq (x := .str "send") (ev_ix 0 h rfl) ev_str sh_send sh_hear) (by rw [eq_sh]; rfl)
  | .hear k, h => ev_is (ev_eq (x := .str "hear") (ev_ix 0 h rfl) ev_str sh_hear sh_hear) (by rw [eq_hh]; rfl)
theorem ev_isS : ∀ {d : Deed}, Ev K te σ H (dD d) → Ev K (tOp (rEqD K) (tOp (rIxT K) te (tC (.int 0))) (tC (.str "send"))) σ H (.bool (isS d))
  | .mark, h => ev_is (ev_eq (x := .str "mark") (ev_ix 0 h rfl) ev_str sh_mark sh_send) (by rw [eq_ms]; rfl)
  | .send l, h => ev_is (ev_eq (x := .str "send") (ev_ix 0 h rfl) ev_str sh_send sh_send) (by rw [eq_ss]; rfl)
  | .hear k, h => ev_is (ev_eq (x := .str "hear") (ev_ix 0 h rfl) ev_str sh_hear sh_send) (by rw [eq_hs]; rfl)
end
/-! ### is_number -/
section
variable {P : Program} {w : World} {K : PySem.W.Frag} {mg : Str → Option Value} {base : Heap} {C aN : Addr}
def relIsNum : List PyData → PyData → Prop := fun ds d => ∃ i : Int, ds = [.int i] ∧ d = .bool true
end
end Lk

/-! made by genq.py: the s_ lemmas where more statements stand behind -/
namespace Lk
open PySem PySem.Spec PyProof.Rows L2 Mx
section
variable {K : PySem.W.Frag} {σ : L2.St} {H H' H0 : Hp} {ρ : List Sl} {te tl : TE} {ta : TA} {g : TG} {tb t u : TS} {D : Ends} {tt : TT}
theorem q_set {tz : TS} {i : Nat} {d : PyData} (e0 : Same H0 H) (hS : Sto K H σ ρ) (h : Ev K te σ H d) (k : ∀ σ' H1, Same H0 H1 → Same H H1 → Sto K H1 σ' (ρ.set i (.dat d)) → tz D σ' H1) : tSeq (tAsg te (gName i)) tz D σ H := s_set (D := { D with nx := tz D }) e0 hS h k
theorem q_setL {tz : TS} {i : Nat} {ds : List PyData} (e0 : Same H0 H) (hS : Sto K H σ ρ) (h : EvL K te σ H ds) (k : ∀ p xs σ' H1, H p = none → Same H0 H1 → Same H H1 → Sto K H1 σ' (ρ.set i (.val (.ref p))) → H1 p = some (.lst xs) → TpAll K H1 xs ds → tz D σ' H1) : tSeq (tAsg te (gName i)) tz D σ H := s_setL (D := { D with nx := tz D }) e0 hS h k
theorem q_if {tz : TS} {b : Bool} (h : EvT tt σ H b) (h1 : b = true → ∀ H1, Same H H1 → t { D with nx := tz D } σ H1) (h2 : b = false → ∀ H1, Same H H1 → u { D with nx := tz D } σ H1) : tSeq (tIfS tt t u) tz D σ H := s_if (D := { D with nx := tz D }) h h1 h2
theorem q_unp2 {tz : TS} {i j : Nat} {d1 d2 : PyData} (e0 : Same H0 H) (hS : Sto K H σ ρ) (h : Ev K te σ H (.tuple [d1, d2])) (k : ∀ σ' H1, Same H0 H1 → Same H H1 → Sto K H1 σ' ((ρ.set i (.dat d1)).set j (.dat d2)) → tz D σ' H1) : tSeq (tAsg te (gTup K 2 (gCons (gName i) (gCons (gName j) gNil)))) tz D σ H := s_unp2 (D := { D with nx := tz D }) e0 hS h k
theorem q_unp3 {tz : TS} {i j l : Nat} {d1 d2 d3 : PyData} (e0 : Same H0 H) (hS : Sto K H σ ρ) (h : Ev K te σ H (.tuple [d1, d2, d3])) (k : ∀ σ' H1, Same H0 H1 → Same H H1 → Sto K H1 σ' (((ρ.set i (.dat d1)).set j (.dat d2)).set l (.dat d3)) → tz D σ' H1) : tSeq (tAsg te (gTup K 3 (gCons (gName i) (gCons (gName j) (gCons (gName l) gNil))))) tz D σ H := s_unp3 (D := { D with nx := tz D }) e0 hS h k
theorem q_par {tz : TS} {i j : Nat} {d1 d2 : PyData} {ta : TA} (e0 : Same H0 H) (hS : Sto K H σ ρ) (h : EvA K ta σ H [d1, d2]) (k : ∀ σ' H1, Same H0 H1 → Same H H1 → Sto K H1 σ' ((ρ.set i (.dat d1)).set j (.dat d2)) → tz D σ' H1) : tSeq (tPar i j ta) tz D σ H := s_par (D := { D with nx := tz D }) e0 hS h k
theorem q_app {tz : TS} {l : Addr} {xs : List V} {d : PyData} {ta : TE} (hl : H l = some (.lst xs)) (ha : EvV ta σ H (.ref l)) (h : Ev K te σ H d) (hz : xs.length < 100000) (k : ∀ v H1, Same H H1 → Tp K H1 v d → tz D σ (upd H1 l (.lst (xs ++ [v])))) : tSeq (tDrop (tBM K "list" rAppend ta (tCons te tNil))) tz D σ H := s_app (D := { D with nx := tz D }) hl ha h hz k
theorem q_setN {tz : TS} {i : Nat} {P : PyData → Prop} (e0 : Same H0 H) (hS : Sto K H σ ρ) (h : EvN K te σ H P) (k : ∀ d σ' H1, P d → Same H0 H1 → Same H H1 → Sto K H1 σ' (ρ.set i (.dat d)) → tz D σ' H1) : tSeq (tAsg te (gName i)) tz D σ H := s_setN (D := { D with nx := tz D }) e0 hS h k
theorem q_forR1 {tz : TS} {n : Int} (h : EvA K ta σ H [.int n]) (hn : n < 2 ^ 62) (hn0 : -(2 ^ 62) ≤ n) (Pv : Nat → L2.St → Hp → Prop) (h0 : ∀ H1, Same H H1 → Pv 0 σ H1) (hs : ∀ i σ' H', i < n.toNat → Pv i σ' H' → g (.int ((i : Nat) : Int)) σ' H' fun σ2 H2 => tb { D with nx := Pv (i + 1), ct := Pv (i + 1), bk := tz D } σ2 H2) (hd : ∀ σ' H', Pv n.toNat σ' H' → tz D σ' H') : tSeq (tFor (iRng1 ta) g tb) tz D σ H := s_forR1 (D := { D with nx := tz D }) h hn hn0 Pv h0 hs hd
theorem q_forR2 {tz : TS} {lo n : Int} (h : EvA K ta σ H [.int lo, .int n]) (hb : -(2 ^ 62) ≤ lo ∧ lo < 2 ^ 62 ∧ -(2 ^ 62) ≤ n ∧ n < 2 ^ 62) (Pv : Nat → L2.St → Hp → Prop) (h0 : ∀ H1, Same H H1 → Pv 0 σ H1) (hs : ∀ i σ' H', i < (n - lo).toNat → Pv i σ' H' → g (.int (lo + (i : Nat))) σ' H' fun σ2 H2 => tb { D with nx := Pv (i + 1), ct := Pv (i + 1), bk := tz D } σ2 H2) (hd : ∀ σ' H', Pv (n - lo).toNat σ' H' → tz D σ' H') : tSeq (tFor (iRng2 ta) g tb) tz D σ H := s_forR2 (D := { D with nx := tz D }) h hb Pv h0 hs hd
theorem q_forR3 {tz : TS} {lo hi c : Int} {n : Nat} (h : EvA K ta σ H [.int lo, .int hi, .int c]) (hg : RgC lo hi c n) (Pv : Nat → L2.St → Hp → Prop) (h0 : ∀ H1, Same H H1 → Pv 0 σ H1) (hs : ∀ i σ' H', i < n → Pv i σ' H' → g (.int (lo + (i : Nat) * c)) σ' H' fun σ2 H2 => tb { D with nx := Pv (i + 1), ct := Pv (i + 1), bk := tz D } σ2 H2) (hd : ∀ σ' H', Pv n σ' H' → tz D σ' H') : tSeq (tFor (iRng3 ta) g tb) tz D σ H := s_forR3 (D := { D with nx := tz D }) h hg Pv h0 hs hd
theorem q_forT {tz : TS} {ds : List PyData} (h : Ev K tl σ H (.tuple ds)) (Pv : Hp → Nat → L2.St → Hp → Prop) (hx : ∀ H1 i σ' H', Pv H1 i σ' H' → Tx H1 H') (h0 : ∀ H1, Same H H1 → Pv H1 0 σ H1) (hs : ∀ H1, Same H H1 → ∀ i x d σ' H', ds[i]? = some d → Tp K H' x d → Pv H1 i σ' H' → g x σ' H' fun σ2 H2 => tb { D with nx := Pv H1 (i + 1), ct := Pv H1 (i + 1), bk := tz D } σ2 H2) (hd : ∀ H1, Same H H1 → ∀ σ' H', Pv H1 ds.length σ' H' → tz D σ' H') : tSeq (tFor (iTup K tl) g tb) tz D σ H := s_forT (D := { D with nx := tz D }) h Pv hx h0 hs hd
theorem q_forE {tz : TS} {ds : List PyData} (h : Ev K tl σ H (.tuple ds)) (Pv : Hp → Nat → L2.St → Hp → Prop) (hx : ∀ H1 i σ' H', Pv H1 i σ' H' → Tx H1 H') (h0 : ∀ H1, Same H H1 → Pv H1 0 σ H1) (hs : ∀ H1, Same H H1 → ∀ i x d σ' H' H'', ds[i]? = some d → Pv H1 i σ' H' → Same H' H'' → Tp K H'' x (.tuple [.int ((i : Nat) : Int), d]) → g x σ' H'' fun σ2 H2 => tb { D with nx := Pv H1 (i + 1), ct := Pv H1 (i + 1), bk := tz D } σ2 H2) (hd : ∀ H1, Same H H1 → ∀ σ' H', Pv H1 ds.length σ' H' → tz D σ' H') : tSeq (tFor (iEnumT K (tCons tl tNil)) g tb) tz D σ H := s_forE (D := { D with nx := tz D }) h Pv hx h0 hs hd
theorem q_forZ {tz : TS} {ds es : List PyData} (h : EvA K ta σ H [.tuple ds, .tuple es]) (Pv : Hp → Nat → L2.St → Hp → Prop) (hx : ∀ H1 i σ' H', Pv H1 i σ' H' → Tx H1 H') (h0 : ∀ H1, Same H H1 → Pv H1 0 σ H1) (hs : ∀ H1, Same H H1 → ∀ i x d d' σ' H' H'', ds[i]? = some d → es[i]? = some d' → Pv H1 i σ' H' → Same H' H'' → Tp K H'' x (.tuple [d, d']) → g x σ' H'' fun σ2 H2 => tb { D with nx := Pv H1 (i + 1), ct := Pv H1 (i + 1), bk := tz D } σ2 H2) (hd : ∀ H1, Same H H1 → ∀ σ' H', Pv H1 (min ds.length es.length) σ' H' → tz D σ' H') : tSeq (tFor (RZ.iZipA K ta) g tb) tz D σ H := s_forZ (D := { D with nx := tz D }) h Pv hx h0 hs hd
theorem q_while {tz : TS} (W : Nat → L2.St → Hp → Prop) (n0 : Nat) (h0 : W n0 σ H) (hs : ∀ m σ' H', W m σ' H' → ∃ b, EvT tt σ' H' b ∧ (b = true → ∀ H1, Same H' H1 → tb { D with nx := fun σ2 H2 => ∃ m', m' < m ∧ W m' σ2 H2, ct := fun σ2 H2 => ∃ m', m' < m ∧ W m' σ2 H2, bk := tz D } σ' H1) ∧ (b = false → ∀ H1, Same H' H1 → tz D σ' H1)) : tSeq (tWhile tt tb) tz D σ H := s_while (D := { D with nx := tz D }) W n0 h0 hs
end
end Lk

namespace Lk
open PySem PySem.Spec PyProof.Rows L2 Mx
def vN (n : Nat) : V := .int (n : Int)
section
variable {K : PySem.W.Frag} {σ : L2.St} {H H' H0 : Hp} {ρ : List Sl} {ta tb te td ty tv : TE} {t u tz : TS} {D : Ends} {d : PyData}
theorem tpN (H : Hp) : ∀ l : List Nat, TpAll K H (l.map vN) (l.map dN)
  | [] => .nil
  | x :: l => .cons (.int _) (tpN H l)
theorem tpN_inv : ∀ {vs : List V} {l : List Nat}, TpAll K H vs (l.map dN) → vs = l.map vN
  | _, [], h => by cases h; rfl
  | _, x :: l, h => by
    cases h with
    | cons h1 h2 => rw [h1.int_inv, tpN_inv h2]; rfl
/-- xs != [], xs == [], xs a list of data -/
theorem ev_neNil {l : Addr} {xs : List V} {ds : List PyData} (ha : EvV ta σ H (.ref l)) (hl : SqL K H l xs) (hx : TpAll K H xs ds) (sh : SeqAt.shaped (.list ds) = true) : Ev K (tOp (rNeD K) ta (tLst tNil)) σ H (.bool (!ds.isEmpty)) := fun H1 e Q q =>
  ha H1 e _ fun H2 e2 => ⟨Nat.zero_le _, fun p hp => by
    have e3 : Same H (upd H2 p (.lst [])) := (e.trans e2).trans (same_new hp)
    refine ⟨.list ds, .list [], .lst (sqL_same e3 hl) (TpAll.dp _ _ (hx.sm e3)), .lst (.inl (.inl upd_same)) .nil, sh, by decide +kernel, ?_⟩
    have ez : PyData.eqv (.list ds) (.list []) = ds.isEmpty := by
      cases ds <;> simp [PyData.eqv, PyData.eqvAll]
    rw [ez]
    exact q _ _ (e2.trans (same_new hp)) (.bl _)⟩
theorem ev_eqNil {l : Addr} {xs : List V} {ds : List PyData} (ha : EvV ta σ H (.ref l)) (hl : SqL K H l xs) (hx : TpAll K H xs ds) (sh : SeqAt.shaped (.list ds) = true) : Ev K (tOp (rEqD K) ta (tLst tNil)) σ H (.bool ds.isEmpty) := fun H1 e Q q =>
  ha H1 e _ fun H2 e2 => ⟨Nat.zero_le _, fun p hp => by
    have e3 : Same H (upd H2 p (.lst [])) := (e.trans e2).trans (same_new hp)
    refine ⟨.list ds, .list [], .lst (sqL_same e3 hl) (TpAll.dp _ _ (hx.sm e3)), .lst (.inl (.inl upd_same)) .nil, sh, by decide +kernel, ?_⟩
    have ez : PyData.eqv (.list ds) (.list []) = ds.isEmpty := by
      cases ds <;> simp [PyData.eqv, PyData.eqvAll]
    rw [ez]
    exact q _ _ (e2.trans (same_new hp)) (.bl _)⟩
/-- a list against a new list, both of data -/
theorem ev_neL {ds es : List PyData} (ha : EvL K ta σ H ds) (hb : EvL K tb σ H es) (s1 : SeqAt.shaped (.list ds) = true) (s2 : SeqAt.shaped (.list es) = true) : Ev K (tOp (rNeD K) ta tb) σ H (.bool (!PyData.eqv (.list ds) (.list es))) := fun H1 e Q q =>
  ha H1 e _ fun p xs H2 _ e2 hp hx => hb H2 (e.trans e2) _ fun r ys H3 _ e3 hr hy =>
    ⟨.list ds, .list es, .lst (.inl (.inl (e3 _ _ hp))) (TpAll.dp _ _ (hx.sm e3)), .lst (.inl (.inl hr)) (TpAll.dp _ _ hy), s1, s2, q _ _ (e2.trans e3) (.bl _)⟩
/-! ### statements that change lists and dicts -/
theorem q_newD {i : Nat} (hS : Sto K H σ ρ) (k : ∀ p σ', H p = none → Sto K (upd H p (.dK [])) σ' (ρ.set i (.val (.ref p))) → tz D σ' (upd H p (.dK []))) : tSeq (tAsg tDNewK (gName i)) tz D σ H := fun p hp => k p _ hp ((hS.tx (tx_new hp)).putV i)
theorem q_pop {i : Nat} {l : Addr} {xs : List V} {w : V} {s : Sl} (hl : H l = some (.lst xs)) (ha : EvV ta σ H (.ref l)) (hw : xs[xs.length - 1]? = some w) (hS : Sto K H σ ρ) (hs : ∀ H', SlOk K H' s (some w))
    (k : ∀ σ' H1, Same H H1 → Sto K (upd H1 l (.lst xs.dropLast)) σ' (ρ.set i s) → tz D σ' (upd H1 l (.lst xs.dropLast))) : tSeq (tAsg (tBM0 K "list" rPop ta) (gName i)) tz D σ H :=
  ha H (Same.refl H) _ fun H1 e1 => ⟨.inl ⟨rfl, xs, .inl (.inl (e1 _ _ hl))⟩, l, xs, w, rfl, rfl, e1 _ _ hl, hw, k _ H1 e1 (((hS.sm e1).tx (tx_lst (e1 _ _ hl))).set i (hs _))⟩
theorem et_dnotin {k : L2.Key} {a : Addr} {kvs : List (L2.Key × V)} (hk : EvV ty σ H (kV k)) (hd : EvV td σ H (.ref a)) (ha : H a = some (.dK kvs)) : EvT (tB (tDNotIn ty td)) σ H (!(valV kvs k).isSome) := fun H1 e Q q =>
  hk H1 e _ fun H2 e2 => hd H2 (e.trans e2) _ fun H3 e3 => ⟨a, _, rfl, DGet.k (((e.trans e2).trans e3) _ _ ha), _, rfl, q H3 (e2.trans e3)⟩
theorem q_dput {k : L2.Key} {a : Addr} {kvs : List (L2.Key × V)} (hv : Ev K tv σ H d) (hd : EvV td σ H (.ref a)) (hk : EvV ty σ H (kV k)) (ha : H a = some (.dK kvs)) (hz : kvs.length < 100000)
    (c : ∀ v H1, Same H H1 → Tp K H1 v d → tz D σ (upd H1 a (.dK (putK kvs k v)))) : tSeq (sDPut td ty tv) tz D σ H :=
  hv H (Same.refl H) _ fun v H1 e1 tv' => hd H1 e1 _ fun H2 e2 => hk H2 (e1.trans e2) _ fun H3 e3 => ⟨a, _, rfl, DPut.k (((e1.trans e2).trans e3) _ _ ha) (sz_lt hz), c v H3 ((e1.trans e2).trans e3) (tv'.sm (e2.trans e3))⟩
theorem s_dput {k : L2.Key} {a : Addr} {kvs : List (L2.Key × V)} (hv : Ev K tv σ H d) (hd : EvV td σ H (.ref a)) (hk : EvV ty σ H (kV k)) (ha : H a = some (.dK kvs)) (hz : kvs.length < 100000)
    (c : ∀ v H1, Same H H1 → Tp K H1 v d → D.nx σ (upd H1 a (.dK (putK kvs k v)))) : sDPut td ty tv D σ H :=
  hv H (Same.refl H) _ fun v H1 e1 tv' => hd H1 e1 _ fun H2 e2 => hk H2 (e1.trans e2) _ fun H3 e3 => ⟨a, _, rfl, DPut.k (((e1.trans e2).trans e3) _ _ ha) (sz_lt hz), c v H3 ((e1.trans e2).trans e3) (tv'.sm (e2.trans e3))⟩
theorem s_ext {l : Addr} {xs : List V} {es : List PyData} (hl : H l = some (.lst xs)) (ha : EvV ta σ H (.ref l)) (h : EvL K te σ H es) (hz : xs.length + es.length ≤ 100000)
    (k : ∀ ys H1, Same H H1 → TpAll K H1 ys es → D.nx σ (upd H1 l (.lst (xs ++ ys)))) : tDrop (tBM K "list" rExtend ta (tCons te tNil)) D σ H :=
  ha H (Same.refl H) _ fun H1 e1 => ⟨.inl ⟨rfl, xs, .inl (.inl (e1 _ _ hl))⟩, h H1 e1 _ fun p ys H2 _ e2 hp hy => ⟨l, p, xs, ys, rfl, rfl, e2 _ _ (e1 _ _ hl), hp, by rw [hy.len]; exact sz_of hz, k ys H2 (e1.trans e2) hy⟩⟩
end
theorem q_asg2 {K : PySem.W.Frag} {σ : L2.St} {H : Hp} {ρ : List Sl} {tz : TS} {D : Ends} {i j : Nat} {v : V} {d : PyData} (hS : Sto K H σ ρ) (hv : Tp K H v d) (k : ∀ σ', Sto K H σ' ((ρ.set i (.dat d)).set j (.dat d)) → tz D σ' H) : tSeq (tAsg2 (tC v) (gName i) (gName j)) tz D σ H := k _ ((hS.put i hv).put j hv)
/-! ### comprehensions of data -/
section
variable {K : PySem.W.Frag} {σ : L2.St} {H : Hp} {ρ : List Sl} {te tl : TE} {ta : TA} {tt : TT} {wi : TI}
/-- what a comprehension walks: the data of l, one by one, nothing else turned -/
def WkD {α : Type} (K : PySem.W.Frag) (wi : TI) (σ : L2.St) (H : Hp) (l : List α) (g : α → PyData) : Prop := ∀ H0, Same H H0 → ∀ R : It → Hp → Prop,
  (∀ J H1 (G : Hp → Prop) (Y : Nat → Hp → V → Hp → Prop), Same H0 H1 → Walk J l.length G Y → (∀ H2, Same H1 H2 → G H2) → (∀ i H2 x H3, Same H1 H2 → Y i H2 x H3 → H3 = H2 ∧ ∃ a, l[i]? = some a ∧ Tp K H2 x (g a)) → R J H1) → wi σ H0 R
theorem el_lc {α : Type} {l : List α} {g g' : α → PyData} {p : α → Bool} {j : Nat} (hw : WkD K wi σ H l g) (hS : Sto K H σ ρ) (hz : l.length ≤ 50000)
    (ht : ∀ a ∈ l, ∀ σ2 H2, Same H H2 → Sto K H2 σ2 ((ρ.set j .any).set j (.dat (g a))) → EvT tt σ2 H2 (p a))
    (he : ∀ a ∈ l, p a = true → ∀ σ2 H2, Same H H2 → Sto K H2 σ2 ((ρ.set j .any).set j (.dat (g a))) → Ev K te σ2 H2 (g' a)) : EvL K (tLc wi (gName j) tt te [j]) σ H ((l.filter p).map g') := fun H0 e0 Q q =>
  hw H0 e0 _ fun J H1 G Y e1 w hG hY => fun Dl hD => by
    have hS1 : Sto K H1 (L2.wipe σ [j]) (ρ.set j .any) := ((hS.sm e0).sm e1).wipe [j]
    refine lc_it w (fun i H' => Same H1 H' ∧ ∃ acc, H' Dl = some (.lst acc) ∧ TpAll K H' acc (((l.take i).filter p).map g')) ⟨same_new hD, [], upd_same, .nil⟩ (fun i H' _ q' => hG H' q'.1) (fun i x H' H'' hi q' y => ?_) (fun H' q' => ?_)
    · obtain ⟨f1, acc, hacc, tacc⟩ := q'
      obtain ⟨rfl, a, ha, tx⟩ := hY i H' x H'' f1 y
      have hm := List.mem_of_getElem? ha
      refine ⟨by rw [wipe_setG (by simp), wipe_idem], ?_⟩
      have hS2 : Sto K H'' ((L2.wipe σ [j]).set j (some x)) ((ρ.set j .any).set j (.dat (g a))) := (hS1.sm f1).put j tx
      have eH : Same H H'' := (e0.trans e1).trans f1
      have et : l.take (i + 1) = l.take i ++ [a] := by rw [List.take_add_one, ha]; rfl
      refine ht a hm _ H'' eH hS2 H'' (Same.refl H'') _ fun H3 e3 => ?_
      by_cases hp : p a = true
      · rw [hp]
        refine iteT (he a hm hp _ H3 (eH.trans e3) (hS2.sm e3) H3 (Same.refl H3) _ fun v H4 e4 tv => ?_)
        have h4 := e4 _ _ (e3 _ _ hacc)
        refine ⟨acc, h4, ?_, same_mut ((f1.trans e3).trans e4) hD, acc ++ [v], upd_same, ?_⟩
        · rw [tacc.len, List.length_map]
          have := List.length_filter_le p (l.take i)
          have := List.length_take_le i l
          exact sz_lt (by omega)
        · rw [et, List.filter_append, List.map_append, List.filter_cons, if_pos hp]
          exact (((tacc.sm e3).sm e4).app (.one tv)).up (tx_lst h4)
      · have hp' : p a = false := by simpa using hp
        rw [hp']
        refine iteF ⟨f1.trans e3, acc, e3 _ _ hacc, ?_⟩
        rw [et, List.filter_append, List.map_append, List.filter_cons, if_neg hp]
        simp only [List.filter_nil, List.map_nil, List.append_nil]
        exact tacc.sm e3
    · obtain ⟨f1, acc, hacc, tacc⟩ := q'
      rw [List.take_length] at tacc
      exact q Dl acc H' (e1.free hD) (e1.trans f1) hacc tacc
theorem wk_newL {α : Type} {l : List α} {g : α → PyData} (h : EvL K tl σ H (l.map g)) : WkD K (iList K tl) σ H l g := fun H0 e0 R q =>
  h H0 e0 _ fun a xs H1 _ e1 ha hx => ⟨a, rfl, ⟨xs, .inl (.inl ha)⟩, by
    have hl := hx.len
    rw [List.length_map] at hl
    have w := walk_list (K := K) (a := a) (xs := xs)
    rw [hl] at w
    refine q _ H1 _ _ e1 w (fun H2 f => .inl (.inl (f _ _ ha))) fun i H2 x H3 f y => ⟨y.1, ?_⟩
    obtain ⟨d, hd, td⟩ := hx.get' y.2
    rw [List.getElem?_map] at hd
    obtain ⟨b, hb, rfl⟩ := Option.map_eq_some_iff.mp hd
    exact ⟨b, hb, td.sm f⟩⟩
theorem wk_tup {α : Type} {l : List α} {g : α → PyData} (h : Ev K tl σ H (.tuple (l.map g))) : WkD K (iTup K tl) σ H l g := fun H0 e0 R q =>
  h H0 e0 _ fun v H1 e1 hv => by
    obtain ⟨a, xs, rfl, hs, hx⟩ := hv.tup_inv
    have hl := hx.len
    rw [List.length_map] at hl
    refine ⟨a, rfl, ⟨xs, hs⟩, ?_⟩
    have w := walk_tup (K := K) (a := a) (xs := xs)
    rw [hl] at w
    refine q _ H1 _ _ e1 w (fun H2 f => sqT_tx (same_tx f) hs) fun i H2 x H3 f y => ⟨y.1, ?_⟩
    obtain ⟨d, hd, td⟩ := hx.get' y.2
    rw [List.getElem?_map] at hd
    obtain ⟨b, hb, rfl⟩ := Option.map_eq_some_iff.mp hd
    exact ⟨b, hb, td.sm f⟩
theorem wk_rng1 {n : Nat} (h : EvA K ta σ H [.int (n : Int)]) (hn : n < 2 ^ 60) : WkD K (iRng1 ta) σ H (List.range n) dN := fun H0 e0 R q =>
  h H0 e0 _ fun vs H1 e1 hv0 => by
    obtain ⟨v, rfl, hv⟩ := hv0.one_inv
    rw [hv.int_inv]
    refine ⟨(n : Int), rfl, by omega, by omega, ?_⟩
    have w := walk_range (lo := 0) (n := (n : Int).toNat)
    have en : (n : Int).toNat = (List.range n).length := by rw [List.length_range]; omega
    rw [en] at w ⊢
    have w' : Walk (Itr 0 (List.range n).length) (List.range n).length (fun _ => True) (fun i H x H' => i < n ∧ H' = H ∧ x = .int (0 + (i : Nat))) :=
      ⟨w.goes, w.stops, fun i H x H' hi g y => ⟨by rw [List.length_range] at hi; exact hi, w.yields i H x H' hi g y⟩⟩
    refine q _ H1 _ _ e1 w' (fun _ _ => trivial) fun i H2 x H3 f y => ⟨y.2.1, i, List.getElem?_range y.1, ?_⟩
    rw [y.2.2, Int.zero_add]
    exact .int _
theorem wk_rng2 {lo n : Nat} (h : EvA K ta σ H [.int (lo : Int), .int (n : Int)]) (hn : n < 2 ^ 60) (hl : lo < 2 ^ 60) : WkD K (iRng2 ta) σ H (List.range' lo (n - lo)) dN := fun H0 e0 R q =>
  h H0 e0 _ fun vs H1 e1 hv0 => by
    obtain ⟨v, u, rfl, hv, hu⟩ := hv0.two_inv
    rw [hv.int_inv, hu.int_inv]
    refine ⟨(lo : Int), (n : Int), rfl, ⟨by omega, by omega, by omega, by omega⟩, ?_⟩
    have w := walk_range (lo := (lo : Int)) (n := ((n : Int) - (lo : Int)).toNat)
    have en : ((n : Int) - (lo : Int)).toNat = (List.range' lo (n - lo)).length := by rw [List.length_range']; omega
    rw [en] at w ⊢
    have w' : Walk (Itr (lo : Int) (List.range' lo (n - lo)).length) (List.range' lo (n - lo)).length (fun _ => True) (fun i H x H' => i < n - lo ∧ H' = H ∧ x = .int ((lo : Int) + (i : Nat))) :=
      ⟨w.goes, w.stops, fun i H x H' hi g y => ⟨by rw [List.length_range'] at hi; exact hi, w.yields i H x H' hi g y⟩⟩
    refine q _ H1 _ _ e1 w' (fun _ _ => trivial) fun i H2 x H3 f y => ⟨y.2.1, lo + i, ?_, ?_⟩
    · rw [List.getElem?_range' y.1, Nat.one_mul]
    · rw [y.2.2, show (lo : Int) + (i : Nat) = ((lo + i : Nat) : Int) by omega]
      exact .int _
/-- xs[::-1] -/
theorem el_rev {l : Addr} {xs : List V} {ds : List PyData} (ha : EvV te σ H (.ref l)) (hl : SqL K H l xs) (hx : TpAll K H xs ds) : EvL K (tRevL K te) σ H ds.reverse := fun H1 e Q q =>
  ha H1 e _ fun H2 e2 => ⟨l, xs, rfl, sqL_same (e.trans e2) hl, fun p hp => q p _ _ (e2.free hp) (e2.trans (same_new hp)) upd_same (((hx.sm (e.trans e2)).rev).up (tx_new hp))⟩
theorem any_dR {r : List Nat} {x : Nat} : ((r.map dN).any fun z => PyData.eqv z (dN x)) = decide (x ∈ r) := by
  rw [List.any_map]
  by_cases c : x ∈ r
  · rw [decide_eq_true c, List.any_eq_true]
    exact ⟨x, c, by show PyData.eqv (.int (x : Int)) (.int (x : Int)) = true; rw [eqv_int]; exact decide_eq_true rfl⟩
  · rw [decide_eq_false c, List.any_eq_false]
    intro z hz e
    have e' : PyData.eqv (.int (z : Int)) (.int (x : Int)) = true := e
    rw [eqv_int] at e'
    have : z = x := by have := of_decide_eq_true e'; omega
    exact c (this ▸ hz)
theorem cutD_drop (ds : List PyData) (k : Nat) : cutD ds (some (k : Int)) none = ds.drop k := by
  unfold cutD
  rw [HT.sIx_nat, HT.sIx_none]
  by_cases h : k ≤ ds.length
  · rw [Nat.min_eq_left h, List.take_of_length_le (by rw [List.length_drop]; omega)]
  · rw [Nat.min_eq_right (by omega), List.drop_length, List.take_nil, List.drop_of_length_le (by omega)]
theorem cutD_take (ds : List PyData) (k : Nat) : cutD ds none (some (k : Int)) = ds.take k := by
  unfold cutD
  rw [HT.sIx_nat, HT.sIx_none, List.drop_zero, Nat.sub_zero]
  by_cases h : k ≤ ds.length
  · rw [Nat.min_eq_left h]
  · rw [Nat.min_eq_right (by omega), List.take_length, List.take_of_length_le (by omega)]
theorem isN_frO : ∀ o : Option Int, isN (frO o) = o.isNone
  | none => rfl
  | some _ => rfl
end
end Lk

namespace Lk
open PySem PySem.Spec PyProof.Rows L2 Mx
section
variable {P : Program} {w : World} {K : PySem.W.Frag} {mg : Str → Option Value} {base : Heap} {C aN : Addr}
/-! ### common_divisor -/
def relGcd : List PyData → PyData → Prop := fun ds d => ∃ a b : Nat, ds = [.int (a : Int), .int (b : Int)] ∧ d = .int ((Nat.gcd a b : Nat) : Int)
theorem okCommonDivisor (T : Txt K mg C aN) : Def P w K mg base CX0 "common_divisor" 1 ["one", "other"] (spP K relGcd) := by
  refine def_pure T.d_common_divisor scCommonDivisor (fun ds d h => by obtain ⟨a, b, rfl, _⟩ := h; rfl) fun f cdv A outer s H0 E0 hr => ⟨_,
    (pss_cons (ps_while PassesOwn.never (pt_cmpR (op_neD hr.units) (pv 1) pe_int (nomark _)) (pss_one (ps_par (i := 0) (j := 1) rfl scCommonDivisor.nd rfl rfl (by decide) rfl rfl (pa_cons (pv 1) (pa_cons (pe_op op_modN (pv 0) (pv 1)) pa_nil)) (by rfl))))
      (pss_one (ps_ret (pv 0)))), fun H σ ds d D hrel hS hk => ?_⟩
  obtain ⟨a, b, rfl, rfl⟩ := hrel
  refine ⟨fun m σ' H' => ∃ a' b' : Nat, m = b' ∧ Nat.gcd a' b' = Nat.gcd a b ∧ Same H H' ∧ Sto K H' σ' [.dat (.int (a' : Int)), .dat (.int (b' : Int))], ⟨b, a, b, rfl, rfl, Same.refl H, hS⟩, ?_⟩
  rintro b' σ' H' ⟨a', _, rfl, hg, e, hS'⟩
  refine et_test (ev_ne (ev_var hS' rfl) ev_int (Sh.ok (n := 0) .int) (Sh.ok (n := 0) .int)) H' (Same.refl H') _ fun H2 e2 => ?_
  rw [eqv_int]
  by_cases hb : b' = 0
  · subst hb
    refine iteF ?_
    refine s_ret (e.trans e2) (ev_var (hS'.sm e2) rfl) fun v H3 e3 hv => hk v H3 e3 ?_
    rw [← hg, Nat.gcd_zero_right]
    exact hv
  · have c : (!decide (((b' : Nat) : Int) = 0)) = true := by
      rw [decide_eq_false (by omega)]; rfl
    rw [c]
    refine iteT ⟨fun σ3 H3 => ∃ a2 b2 : Nat, b2 < b' ∧ Nat.gcd a2 b2 = Nat.gcd a b ∧ Same H H3 ∧ Sto K H3 σ3 [.dat (.int (a2 : Int)), .dat (.int (b2 : Int))], ?_, ?_⟩
    · rintro σ3 H3 ⟨a2, b2, hl, h2, h3, h4⟩
      exact ⟨b2, hl, a2, b2, rfl, h2, h3, h4⟩
    · have hS2 := hS'.sm e2
      refine s_par (e.trans e2) hS2 (ea_cons (ev_var hS2 rfl) (ea_cons (ev_i (ev_var hS2 rfl) (ev_var hS2 rfl) (by omega)) ea_nil)) fun σ3 H3 e3 e4 hS3 => ?_
      refine ⟨b', a' % b', Nat.mod_lt _ (by omega), ?_, e3, ?_⟩
      · rw [← hg, Nat.gcd_comm a' b', Nat.gcd_rec b' a', Nat.gcd_comm]
      · have em : Int.fmod (a' : Int) (b' : Int) = ((a' % b' : Nat) : Int) := by
          rw [Int.fmod_eq_emod_of_nonneg _ (by omega)]
          exact (Int.natCast_emod _ _).symm
        rw [em] at hS3
        exact hS3
/-! ### ratio -/
def relRatio : List PyData → PyData → Prop := fun ds d => ∃ a b z : Int, ds = [.int a, .int b] ∧ 0 < b ∧ b < 2 ^ 30 ∧ a * 240 = z * b ∧ d = fr z
theorem okRatio (T : Txt K mg C aN) : Def P w K mg base CX0 "ratio" 2 ["a", "b"] (spP K relRatio) := by
  refine def_pure T.d_ratio scRatio (fun ds d h => by obtain ⟨a, b, z, rfl, _⟩ := h; rfl) fun f cdv A outer s H0 E0 hr => ⟨_,
    (pss_cons (ps_set (i := 2) scRatio.nd rfl (Or.inl rfl) (pe_fn ((okCommonDivisor T).mono (by decide)) hr pass0 (pa_cons (pe_callB call_abs (by rfl) T.z_abs (by decide +kernel) (pa_cons (pv 0) pa_nil)) (pa_cons (pe_callB call_abs (by rfl) T.z_abs (by decide +kernel) (pa_cons (pv 1) pa_nil)) pa_nil))))
      (pss_cons (ps_if (pt_cmpR op_lt (pv 1) pe_int (nomark _)) (pss_one (ps_set (i := 2) scRatio.nd rfl (Or.inl rfl) (pe_op op_sub pe_int (pv 2)))) pss_nil)
      (pss_one (ps_ret (pe_tup (pa_cons (pe_op op_fdivN (pv 0) (pv 2)) (pa_cons (pe_op op_fdivN (pv 1) (pv 2)) pa_nil))))))), fun H σ ds d D hrel hS hk => ?_⟩
  obtain ⟨a, b, z, rfl, hb, hb2, hz, rfl⟩ := hrel
  obtain ⟨e1, e2, e3, e4⟩ := ratio_eq hb hz
  have ab : ∀ x : Int, (if x < 0 then -x else x) = ((x.natAbs : Nat) : Int) := fun x => by split <;> omega
  refine s_set (Same.refl H) hS (ev_call (ea_cons (ev_abs (ea_cons (ev_var hS rfl) ea_nil)) (ea_cons (ev_abs (ea_cons (ev_var hS rfl) ea_nil)) ea_nil)) ⟨a.natAbs, b.natAbs, by rw [ab, ab], rfl⟩) fun σ1 H1 f1 _ hS1 => ?_
  refine s_if (et_test (ev_b0 (ev_var hS1 rfl) ev_int)) (fun c => ?_) fun _ H2 f2 => ?_
  · exact absurd (of_decide_eq_true c) (by omega)
  · have hS2 := hS1.sm f2
    have hn : ((Nat.gcd a.natAbs b.natAbs : Nat) : Int) ≠ 0 ∧ ((Nat.gcd a.natAbs b.natAbs : Nat) : Int).natAbs < 1073741824 := ⟨by omega, by omega⟩
    refine s_ret (f1.trans f2) (ev_tup (ea_cons (ev_i (ev_var hS2 rfl) (ev_var hS2 rfl) hn) (ea_cons (ev_i (ev_var hS2 rfl) (ev_var hS2 rfl) hn) ea_nil)) ) fun v H3 f3 hv => hk v H3 f3 ?_
    rw [Int.fdiv_eq_ediv_of_nonneg _ (Int.le_of_lt e3), Int.fdiv_eq_ediv_of_nonneg _ (Int.le_of_lt e3), e1, e2] at hv
    exact hv
/-! ### added, less, parted, is_below -/
theorem natAbs_nu {x : Int} {n : Nat} (h : x.natAbs < n) : (nu x).natAbs < n := Nat.lt_of_le_of_lt (nu_le x) h
theorem cmulR {i j : Int} (h : j.natAbs < 2 ^ 64) : CMul i j := .inr ⟨by omega, by omega⟩
theorem cmulL {i j : Int} (h : i.natAbs < 2 ^ 64) : CMul i j := .inl ⟨by omega, by omega⟩
theorem de_sm (z : Int) : (de z).natAbs < 2 ^ 64 := by have := de_le z; have := de_pos z; omega
theorem de_mul (x y : Int) : 0 < de x * de y ∧ de x * de y < 2 ^ 30 := by
  have h1 := de_le x; have h2 := de_pos x; have h3 := de_le y; have h4 := de_pos y
  refine ⟨Int.mul_pos h2 h4, ?_⟩
  have : de x * de y ≤ 240 * 240 := Int.mul_le_mul h1 h3 (Int.le_of_lt h4) (by decide)
  omega
/-- x[0], x[1] of a fraction -/
theorem ev_nu {σ : L2.St} {H : Hp} {te : TE} {z : Int} (h : Ev K te σ H (fr z)) : Ev K (tOp (rIxT K) te (tC (.int 0))) σ H (.int (nu z)) := ev_ix 0 h rfl
theorem ev_de {σ : L2.St} {H : Hp} {te : TE} {z : Int} (h : Ev K te σ H (fr z)) : Ev K (tOp (rIxT K) te (tC (.int 1))) σ H (.int (de z)) := ev_ix 1 h rfl
def relAdded : List PyData → PyData → Prop := fun ds d => ∃ x y : Int, ds = [fr x, fr y] ∧ d = fr (x + y)
theorem okAdded (T : Txt K mg C aN) : Def P w K mg base CX0 "added" 3 ["one", "other"] (spP K relAdded) := by
  refine def_pure T.d_added scAdded (fun ds d h => by obtain ⟨x, y, rfl, _⟩ := h; rfl) fun f cdv A outer s H0 E0 hr => ⟨_,
    (pss_one (ps_ret (pe_fn ((okRatio T).mono (by decide)) hr pass0 (pa_cons (pe_op op_add (pe_op op_mul (pe_ix ix_tup (pv 0) pe_int (fun _ _ => rfl)) (pe_ix ix_tup (pv 1) pe_int (fun _ _ => rfl))) (pe_op op_mul (pe_ix ix_tup (pv 1) pe_int (fun _ _ => rfl)) (pe_ix ix_tup (pv 0) pe_int (fun _ _ => rfl)))) (pa_cons (pe_op op_mul (pe_ix ix_tup (pv 0) pe_int (fun _ _ => rfl)) (pe_ix ix_tup (pv 1) pe_int (fun _ _ => rfl))) pa_nil))))), fun H σ ds d D hrel hS hk => ?_⟩
  obtain ⟨x, y, rfl, rfl⟩ := hrel
  have e1 := ev_var (i := 0) hS rfl
  have e2 := ev_var (i := 1) hS rfl
  have h := de_mul x y
  exact s_ret (Same.refl H) (ev_call (ea_cons (ev_i0 (ev_i (ev_nu e1) (ev_de e2) (cmulR (de_sm y))) (ev_i (ev_nu e2) (ev_de e1) (cmulR (de_sm x)))) (ea_cons (ev_i (ev_de e1) (ev_de e2) (cmulR (de_sm y))) ea_nil))
    ⟨_, _, _, rfl, h.1, h.2, add_cross1 x y, rfl⟩) fun v H1 f1 hv => hk v H1 f1 hv
def relLess : List PyData → PyData → Prop := fun ds d => ∃ x y : Int, ds = [fr x, fr y] ∧ d = fr (x - y)
theorem okLess (T : Txt K mg C aN) : Def P w K mg base CX0 "less" 3 ["one", "other"] (spP K relLess) := by
  refine def_pure T.d_less scLess (fun ds d h => by obtain ⟨x, y, rfl, _⟩ := h; rfl) fun f cdv A outer s H0 E0 hr => ⟨_,
    (pss_one (ps_ret (pe_fn ((okRatio T).mono (by decide)) hr pass0 (pa_cons (pe_op op_sub (pe_op op_mul (pe_ix ix_tup (pv 0) pe_int (fun _ _ => rfl)) (pe_ix ix_tup (pv 1) pe_int (fun _ _ => rfl))) (pe_op op_mul (pe_ix ix_tup (pv 1) pe_int (fun _ _ => rfl)) (pe_ix ix_tup (pv 0) pe_int (fun _ _ => rfl)))) (pa_cons (pe_op op_mul (pe_ix ix_tup (pv 0) pe_int (fun _ _ => rfl)) (pe_ix ix_tup (pv 1) pe_int (fun _ _ => rfl))) pa_nil))))), fun H σ ds d D hrel hS hk => ?_⟩
  obtain ⟨x, y, rfl, rfl⟩ := hrel
  have e1 := ev_var (i := 0) hS rfl
  have e2 := ev_var (i := 1) hS rfl
  have h := de_mul x y
  exact s_ret (Same.refl H) (ev_call (ea_cons (ev_i0 (ev_i (ev_nu e1) (ev_de e2) (cmulR (de_sm y))) (ev_i (ev_nu e2) (ev_de e1) (cmulR (de_sm x)))) (ea_cons (ev_i (ev_de e1) (ev_de e2) (cmulR (de_sm y))) ea_nil))
    ⟨_, _, _, rfl, h.1, h.2, sub_cross x y, rfl⟩) fun v H1 f1 hv => hk v H1 f1 hv
/-- x parted by r, where z * r = 240 * x -/
def relParted : List PyData → PyData → Prop := fun ds d => ∃ x r z : Int, ds = [fr x, fr r] ∧ 0 < r ∧ r < 1000000 ∧ z * r = 240 * x ∧ d = fr z
theorem okParted (T : Txt K mg C aN) : Def P w K mg base CX0 "parted" 3 ["one", "other"] (spP K relParted) := by
  refine def_pure T.d_parted scParted (fun ds d h => by obtain ⟨x, r, z, rfl, _⟩ := h; rfl) fun f cdv A outer s H0 E0 hr => ⟨_,
    (pss_one (ps_ret (pe_fn ((okRatio T).mono (by decide)) hr pass0 (pa_cons (pe_op op_mul (pe_ix ix_tup (pv 0) pe_int (fun _ _ => rfl)) (pe_ix ix_tup (pv 1) pe_int (fun _ _ => rfl))) (pa_cons (pe_op op_mul (pe_ix ix_tup (pv 0) pe_int (fun _ _ => rfl)) (pe_ix ix_tup (pv 1) pe_int (fun _ _ => rfl))) pa_nil))))), fun H σ ds d D hrel hS hk => ?_⟩
  obtain ⟨x, r, z, rfl, hr0, hr1, hz, rfl⟩ := hrel
  have e1 := ev_var (i := 0) hS rfl
  have e2 := ev_var (i := 1) hS rfl
  have n1 := nu_pos hr0
  have n2 := nu_le r
  have h1 := de_le x
  have h2 := de_pos x
  have n3 : nu r < 1000000 := by omega
  have b1 : 0 < de x * nu r := Int.mul_pos h2 n1
  have b2 : de x * nu r < 2 ^ 30 := by
    have : de x * nu r ≤ 240 * 1000000 := Int.mul_le_mul h1 (Int.le_of_lt n3) (Int.le_of_lt n1) (by decide)
    omega
  exact s_ret (Same.refl H) (ev_call (ea_cons (ev_i (ev_nu e1) (ev_de e2) (cmulR (de_sm r))) (ea_cons (ev_i (ev_de e1) (ev_nu e2) (cmulL (de_sm x))) ea_nil))
    ⟨_, _, _, rfl, b1, b2, part_cross hz, rfl⟩) fun v H1 f1 hv => hk v H1 f1 hv
def relBelow : List PyData → PyData → Prop := fun ds d => ∃ x y : Int, ds = [fr x, fr y] ∧ d = .bool (decide (x < y))
theorem okIsBelow (T : Txt K mg C aN) : Def P w K mg base CX0 "is_below" 1 ["one", "other"] (spP K relBelow) := by
  refine def_pure T.d_is_below scIsBelow (fun ds d h => by obtain ⟨x, y, rfl, _⟩ := h; rfl) fun f cdv A outer s H0 E0 hr => ⟨_,
    (pss_one (ps_ret (pe_cmpR op_lt (pe_op op_mul (pe_ix ix_tup (pv 0) pe_int (fun _ _ => rfl)) (pe_ix ix_tup (pv 1) pe_int (fun _ _ => rfl))) (pe_op op_mul (pe_ix ix_tup (pv 1) pe_int (fun _ _ => rfl)) (pe_ix ix_tup (pv 0) pe_int (fun _ _ => rfl))) (nomark _)))), fun H σ ds d D hrel hS hk => ?_⟩
  obtain ⟨x, y, rfl, rfl⟩ := hrel
  have e1 := ev_var (i := 0) hS rfl
  have e2 := ev_var (i := 1) hS rfl
  refine s_ret (Same.refl H) (ev_b0 (ev_i (ev_nu e1) (ev_de e2) (cmulR (de_sm y))) (ev_i (ev_nu e2) (ev_de e1) (cmulR (de_sm x)))) fun v H1 f1 hv => hk v H1 f1 ?_
  rw [decide_eq_decide.mpr (below_iff x y)] at hv
  exact hv
end
end Lk

namespace Lk
open PySem PySem.Spec PyProof.Rows L2 Mx
section
variable {P : Program} {w : World} {K : PySem.W.Frag} {mg : Str → Option Value} {base : Heap} {C aN : Addr}
/-! ### is_number -/
theorem okIsNumber (T : Txt K mg C aN) : Def P w K mg base CX0 "is_number" 1 ["thing"] (spP K relIsNum) := by
  refine def_pure T.d_is_number scIsNumber (fun ds d h => by obtain ⟨x, rfl, _⟩ := h; rfl) fun f cdv A outer s H0 E0 hr => ⟨_,
    (pss_one (ps_ret (pe_and (pe_callB (call_isik (K := K)) (by rfl) T.z_isinstance (by decide +kernel) (pa_cons (pv 0) (pa_cons (pe_bltn (v := .ty "int") (by rfl) T.z_int (by decide +kernel) rfl) pa_nil))) (pe_one (pe_not (pe_callB (call_isik (K := K)) (by rfl) T.z_isinstance (by decide +kernel) (pa_cons (pv 0) (pa_cons (pe_bltn (v := .ty "bool") (by rfl) T.z_bool (by decide +kernel) rfl) pa_nil)))))))), fun H σ ds d D hrel hS hk => ?_⟩
  obtain ⟨x, rfl, rfl⟩ := hrel
  have e1 := ev_var (i := 0) hS rfl
  exact s_ret (Same.refl H) (ev_andV (ev_isi e1 fun v H1 h => isi_int (b := true) (by decide +kernel) h) fun _ => ev_notV (ev_isi e1 fun v H1 h => isi_int (b := false) (by decide +kernel) h)) fun v H1 f1 hv => hk v H1 f1 hv
/-! ### rates_of -/
def spRates (K : PySem.W.Frag) : Sp := fun vs H Q _ => ∃ v f, vs = [v] ∧ Tp K H v (dF f) ∧ FdOk f ∧ ∀ p kvs H', H p = none → Same H H' → H' p = some (.dK kvs) →
  (∀ h ∈ f.houses, ∃ u, valV kvs (Sum.inr h.name : L2.Key) = some u ∧ Tp K H' u (.tuple [fr h.slow, fr h.fast])) → Q (.ref p) H'
theorem okRatesOf (T : Txt K mg C aN) : Def P w K mg base CX0 "rates_of" 1 ["field"] (spRates K) := by
  refine def_of T.d_rates_of scRatesOf (fun vs H Q E h => by obtain ⟨v, f, rfl, _⟩ := h; rfl) fun f cdv A outer s H0 E0 hr => ⟨_,
    (pss_one (ps_ret (pe_dc (own := [("name", 1), ("slow", 2), ("fast", 3)]) (g := gTup K 3 (gCons (gName 1) (gCons (gName 2) (gCons (gName 3) (gNil))))) rfl scRatesOf.nd (pi_tupk (K := K) (pe_ix (ix_tupk (K := K)) (pv 0) pe_int (fun _ _ => rfl))) (blkOk_by (own := [("name", 1), ("slow", 2), ("fast", 3)]) (N := ["field", "name", "slow", "fast"]) (sc := defScope sRatesOf) (by decide +kernel)) (fun _ _ _ _ _ => (pg_tupk (K := K) (n := 3) rfl (pgs_cons (pg_name (i := 1) scRatesOf.nd rfl (Or.inl rfl)) (pgs_cons (pg_name (i := 2) scRatesOf.nd rfl (Or.inl rfl)) (pgs_cons (pg_name (i := 3) scRatesOf.nd rfl (Or.inl rfl)) pgs_nil))))) (fun _ _ _ _ _ => pts_nil) (fun _ _ _ _ _ => (pv 1)) (fun _ _ _ _ _ => (pe_tup (pa_cons (pv 2) (pa_cons (pv 3) pa_nil))))))), fun H vs Q E h => ?_⟩
  obtain ⟨v, fd, rfl, hv, ok, q⟩ := h
  have hS : Sto K H (L2.start ["field", "name", "slow", "fast"] [v]) [.dat (dF fd), .any, .any, .any] := .dat hv Sto.anys
  refine ev_ix (K := K) 0 (ev_var hS rfl) rfl H (Same.refl H) _ fun a H1 e1 ha => ?_
  obtain ⟨a, xs, rfl, hs, hx⟩ := ha.tup_inv
  have hl := hx.len
  rw [List.length_map] at hl
  refine ⟨a, rfl, ⟨xs, hs⟩, fun D hD => ?_⟩
  have hD0 : H D = none := e1.free hD
  refine dc_tup (K := K) (a := a) (xs := xs) (fun i H' => ∃ kvs, H' D = some (.dK kvs) ∧ kvs.length ≤ i ∧ Same H1 H' ∧ ∀ (j : Nat) h, j < i → fd.houses[j]? = some h → ∃ u, valV kvs (Sum.inr h.name : L2.Key) = some u ∧ Tp K H' u (.tuple [fr h.slow, fr h.fast]))
    ⟨[], upd_same, Nat.le_refl _, same_new hD, fun j h hj => absurd hj (Nat.not_lt_zero _)⟩ (fun i H' _ p => ?_) (fun i x H' hi p => ?_) (fun H' p => ?_)
  · obtain ⟨kvs, _, _, e, _⟩ := p
    exact sqT_tx (same_tx e) hs
  · obtain ⟨kvs, hk, hlen, e, hall⟩ := p
    obtain ⟨d, hd, td⟩ := hx.get' hi
    rw [List.getElem?_map] at hd
    obtain ⟨h, hh, rfl⟩ := Option.map_eq_some_iff.mp hd
    have hi6 : i < 6 := by
      have := (List.getElem?_eq_some_iff.mp hh).1
      have := ok.h6
      omega
    obtain ⟨b, ys, rfl, hb, hy⟩ := (td.sm e).tup_inv
    obtain ⟨v1, v2, v3, rfl, t1, t2, t3⟩ := hy.three_inv
    have e1 := t1.str_inv
    subst e1
    refine ⟨b, _, rfl, hb, rfl, _, _, rfl, _, _, rfl, _, _, rfl, rfl, ?_, ?_⟩
    · rw [wipe_setG (by decide), wipe_setG (by decide), wipe_setG (by decide), wipe_idem]
    · have hS2 : Sto K H' (((((L2.wipe (L2.start ["field", "name", "slow", "fast"] [v]) (List.map (fun x => x.2) [("name", 1), ("slow", 2), ("fast", 3)])).set 1 (some (V.str h.name))).set 2 (some v2)).set 3 (some v3)))
          [.dat (dF fd), .val (.str h.name), .dat (fr h.slow), .dat (fr h.fast)] :=
        (((((hS.sm e1).sm e).wipe [1, 2, 3]).putV 1).put 2 t2).put 3 t3
      refine yes_if ?_
      refine evv_var hS2 rfl H' (Same.refl H') _ fun H2 e2 => ?_
      have hS3 := hS2.sm e2
      refine (ev_tup (ea_cons (ev_var hS3 rfl) (ea_cons (ev_var hS3 rfl) ea_nil))) H2 (Same.refl H2) _ fun z H3 e3 hz => ?_
      have e23 := e2.trans e3
      have hk3 : H3 D = some (.dK kvs) := e23 _ _ hk
      refine ⟨kvs, Sum.inr h.name, rfl, hk3, Nat.lt_of_le_of_lt hlen (Nat.lt_trans hi6 (by decide)), putK kvs (Sum.inr h.name) z, upd_same, ?_, ?_, fun j h' hj hh' => ?_⟩
      · exact Nat.le_trans (putK_le _ _ _) (by omega)
      · exact fun c o hc => by
          rw [upd_ne (ne_of_none hc hD)]
          exact e23 _ _ (e _ _ hc)
      · by_cases hji : j = i
        · subst hji
          rw [hh] at hh'
          cases hh'
          exact ⟨z, by rw [valV_put, if_pos rfl], hz.up (tx_dk hk3)⟩
        · obtain ⟨u, hu, tu⟩ := hall j h' (by omega) hh'
          refine ⟨u, ?_, (tu.sm e23).up (tx_dk hk3)⟩
          rw [valV_put, if_neg, hu]
          intro z
          have ez : h'.name = h.name := Sum.inr.inj z
          have g1 : (fd.houses.map (·.name))[j]? = some h'.name := by rw [List.getElem?_map, hh']; rfl
          have g2 : (fd.houses.map (·.name))[i]? = some h'.name := by rw [List.getElem?_map, hh, ez]; rfl
          exact hji (nd_ix ok.nd g1 g2)
  · obtain ⟨kvs, hk, _, e, hall⟩ := p
    refine q D kvs H' hD0 (e1.trans e) hk fun h hh => ?_
    obtain ⟨j, hj, he⟩ := List.getElem_of_mem hh
    exact hall j h (by omega) (by rw [List.getElem?_eq_getElem hj, he])
/-! ### last_ahead -/
def optN : Option Nat → PyData
  | none => .none
  | some x => dN x
def relLast : List PyData → PyData → Prop := fun ds d => ∃ (es : List Evt) (y : Nat), ds = [.tuple (es.map dE), dN y] ∧ y < es.length ∧ es.length ≤ 20 ∧ (∀ e ∈ es, (PyData.str e.house).canLay0 = true) ∧ d = optN (lastAhead es y)
theorem lastFrom_succ {es : List Evt} {h : Option Str} {n : Nat} (c : ¬ hz es n = h) : lastFrom es h (n + 1) = lastFrom es h n := by
  show (if hz es n = h then some n else lastFrom es h n) = _
  rw [if_neg c]
theorem lastFrom_hit {es : List Evt} {h : Option Str} {n : Nat} (c : hz es n = h) : lastFrom es h (n + 1) = some n := by
  show (if hz es n = h then some n else lastFrom es h n) = _
  rw [if_pos c]
theorem okLastAhead (T : Txt K mg C aN) : Def P w K mg base CX0 "last_ahead" 1 ["events", "number"] (spP K relLast) := by
  refine def_pure T.d_last_ahead scLastAhead (fun ds d h => by obtain ⟨es, y, rfl, _⟩ := h; rfl) fun f cdv A outer s H0 E0 hr => ⟨_,
    (pss_cons (ps_for PassesOwn.never rfl (pi_range3 (by rfl) T.z_range (pa_cons (pe_op op_sub (pv 1) pe_int) (pa_cons (pe_un un_neg pe_int) (pa_cons (pe_un un_neg pe_int) pa_nil)))) (pg_name (i := 2) scLastAhead.nd rfl (Or.inl rfl)) (pss_one (ps_if (pt_cmpR (op_eqk (K := K) hr.units) (pe_ix (ix_tupk (K := K)) (pe_ix (ix_tupk (K := K)) (pv 0) (pv 2) (fun _ _ => rfl)) pe_int (fun _ _ => rfl)) (pe_ix (ix_tupk (K := K)) (pe_ix (ix_tupk (K := K)) (pv 0) (pv 1) (fun _ _ => rfl)) pe_int (fun _ _ => rfl)) (nomark _)) (pss_one (ps_ret (pv 2))) pss_nil)))
      (pss_one (ps_ret pe_non))), fun H σ ds d D hrel hS hk => ?_⟩
  obtain ⟨es, y, rfl, hy, h20, hn, rfl⟩ := hrel
  have en : ((y : Int) - 1 - (-1)).toNat = y := by omega
  refine q_forR3 (n := y) (ea_cons (ev_i0 (ev_var hS rfl) ev_int) (ea_cons (ev_un0 ev_int) (ea_cons (ev_un0 ev_int) ea_nil))) (by have := RgC.neg (i := (y : Int) - 1) (j := -1) (by omega) (by omega) (by decide) (by decide); rw [en] at this; exact this)
    (fun i σ' H' => Same H H' ∧ Sto K H' σ' [.dat (.tuple (es.map dE)), .dat (dN y), .any] ∧ lastAhead es y = lastFrom es (hz es y) (y - i))
    (fun H1 f1 => ⟨f1, hS.sm f1, rfl⟩) (fun i σ' H' hi p => ?_) (fun σ' H' p => ?_)
  · obtain ⟨g1, hS1, hl⟩ := p
    have ei : (y : Int) - 1 + (i : Nat) * (-1) = ((y - i - 1 : Nat) : Int) := by omega
    have hx : y - i - 1 < es.length := by omega
    rw [ei]
    refine g_name hS1 (Tp.int _) fun σ2 hS2 => ?_
    have a1 := at_lt hx
    have a2 := at_lt hy
    have n1 := hn _ (List.mem_of_getElem? a1)
    have n2 := hn _ (List.mem_of_getElem? a2)
    refine s_if (et_test (ev_eq (ev_house (ev_var hS2 rfl) (ev_var hS2 rfl) a1) (ev_house (ev_var hS2 rfl) (ev_var hS2 rfl) a2) (Sh.ok (n := 0) (.str n1)) (Sh.ok (n := 0) (.str n2)))) (fun c H2 g2 => ?_) (fun c H2 g2 => ?_)
    all_goals
      rw [eqv_str] at c
      have hS3 := hS2.sm g2
      have es1 : y - i = (y - i - 1) + 1 := by omega
    · have c' : hz es (y - i - 1) = hz es y := by rw [hz_of a1, hz_of a2, of_decide_eq_true c]
      refine s_ret (g1.trans g2) (ev_var hS3 rfl) fun v H3 g3 hv => hk v H3 g3 ?_
      rw [hl, es1, lastFrom_hit c']
      exact hv
    · have c' : ¬ hz es (y - i - 1) = hz es y := by
        rw [hz_of a1, hz_of a2]
        exact fun z => of_decide_eq_false c (Option.some.inj z)
      refine ⟨g1.trans g2, hS3.drop 2, ?_⟩
      rw [hl, es1, lastFrom_succ c']
      congr 1
  · obtain ⟨g1, hS1, hl⟩ := p
    refine s_ret (K := K) g1 ev_non fun v H3 g3 hv => hk v H3 g3 ?_
    rw [hl, Nat.sub_self]
    exact hv
/-! ### link_heard -/
def dLo : Option Lnk → PyData
  | none => .none
  | some l => dL l
def relLink : List PyData → PyData → Prop := fun ds d => ∃ f es y, ds = [dHist f es, dN y] ∧ HOk f es ∧ y < es.length ∧ d = dLo (linkOf f es y)
theorem okLinkHeard (T : Txt K mg C aN) : Def P w K mg base CX0 "link_heard" 1 ["history", "number"] (spP K relLink) := by
  refine def_pure T.d_link_heard scLinkHeard (fun ds d h => by obtain ⟨f, es, y, rfl, _⟩ := h; rfl) fun f cdv A outer s H0 E0 hr => ⟨_,
    (pss_cons (ps_asg (pv 0) (pg_tupk (K := K) (n := 2) rfl (pgs_cons (pg_name (i := 2) scLinkHeard.nd rfl (Or.inl rfl)) (pgs_cons (pg_name (i := 3) scLinkHeard.nd rfl (Or.inl rfl)) pgs_nil))))
      (pss_cons (ps_set (i := 4) scLinkHeard.nd rfl (Or.inl rfl) (pe_ix (ix_tupk (K := K)) (pe_ix (ix_tupk (K := K)) (pv 3) (pv 1) (fun _ _ => rfl)) pe_int (fun _ _ => rfl)))
      (pss_one (ps_ret (pe_ifExp (pt_cmpR (op_eqk (K := K) hr.units) (pe_ix (ix_tupk (K := K)) (pv 4) pe_int (fun _ _ => rfl)) pe_str (nomark _)) (pe_ix (ix_tupk (K := K)) (pe_ix (ix_tupk (K := K)) (pv 2) pe_int (fun _ _ => rfl)) (pe_ix (ix_tupk (K := K)) (pe_ix (ix_tupk (K := K)) (pe_ix (ix_tupk (K := K)) (pv 3) (pe_ix (ix_tupk (K := K)) (pv 4) pe_int (fun _ _ => rfl)) (fun _ _ => rfl)) pe_int (fun _ _ => rfl)) pe_int (fun _ _ => rfl)) (fun _ _ => rfl)) pe_non))))), fun H σ ds d D hrel hS hk => ?_⟩
  obtain ⟨fd, es, y, rfl, ok, hy, rfl⟩ := hrel
  refine q_unp2 (Same.refl H) hS (ev_var hS rfl) fun σ1 H1 f1 _ hS1 => ?_
  have a1 := at_lt hy
  generalize he : es[y] = e at a1
  refine q_set f1 hS1 (ev_deed (ev_var hS1 rfl) (ev_var hS1 rfl) a1) fun σ2 H2 f2 _ hS2 => ?_
  have dzy := dz_of a1
  have hS3 : Sto K H2 σ2 [.dat (dHist fd es), .dat (dN y), .dat (dF fd), .dat (.tuple (es.map dE)), .dat (dD e.deed)] := hS2
  refine s_ret f2 (ev_if (et_test (ev_isH (ev_var hS3 rfl))) (fun c => ?_) (fun c => ?_)) fun v H3 f3 hv => hk v H3 f3 hv
  · obtain ⟨k, hd⟩ := isH_of c
    rw [hd] at hS3 dzy
    obtain ⟨hk', e', l, lk, h1, h2, h3, h4⟩ := ok.linkOf dzy
    rw [h4]
    have t1 : Ev K _ σ2 H2 (dD e'.deed) := ev_deed (ev_var (i := 3) hS3 rfl) (ev_ix (d := dN k) 1 (ev_var (i := 4) hS3 rfl) rfl) h1
    rw [h2] at t1
    exact ev_at (f := dL) (ev_ix 1 (ev_var hS3 rfl) rfl) (ev_ix (d := dN l) 1 t1 rfl) h3
  · have e0 : linkOf fd es y = none := by
      unfold linkOf
      rw [dzy]
      cases hd : e.deed with
      | mark => rfl
      | send l => rfl
      | hear k => exact absurd hd (isH_not c k)
    rw [e0]
    exact ev_non
/-! ### while_between -/
def relWhile : List PyData → PyData → Prop := fun ds d => ∃ f es x y, ds = [dHist f es, dN x, dN y] ∧ HOk f es ∧ x < es.length ∧ y < es.length ∧ d = .tuple [fr (whl f es x y).1, fr (whl f es x y).2]
theorem okWhileBetween (T : Txt K mg C aN) : Def P w K mg base CX0 "while_between" 4 ["history", "x", "y"] (spP K relWhile) := by
  refine def_pure T.d_while_between scWhileBetween (fun ds d h => by obtain ⟨f, es, x, y, rfl, _⟩ := h; rfl) fun f cdv A outer s H0 E0 hr => ⟨_,
    (pss_cons (ps_asg (pv 0) (pg_tupk (K := K) (n := 2) rfl (pgs_cons (pg_name (i := 3) scWhileBetween.nd rfl (Or.inl rfl)) (pgs_cons (pg_name (i := 4) scWhileBetween.nd rfl (Or.inl rfl)) pgs_nil))))
      (pss_cons (ps_asg (pe_dget (hu_of hr) (pe_fn ((okRatesOf T).mono (by decide)) hr pass0 (pa_cons (pv 3) pa_nil)) (pe_ix (ix_tupk (K := K)) (pe_ix (ix_tupk (K := K)) (pv 4) (pv 1) (fun _ _ => rfl)) pe_int (fun _ _ => rfl)) (fun _ _ => rfl)) (pg_tupk (K := K) (n := 2) rfl (pgs_cons (pg_name (i := 5) scWhileBetween.nd rfl (Or.inl rfl)) (pgs_cons (pg_name (i := 6) scWhileBetween.nd rfl (Or.inl rfl)) pgs_nil))))
      (pss_cons (ps_set (i := 7) scWhileBetween.nd rfl (Or.inl rfl) (pe_fn ((okLess T).mono (by decide)) hr pass0 (pa_cons (pe_ix (ix_tupk (K := K)) (pe_ix (ix_tupk (K := K)) (pv 4) (pv 2) (fun _ _ => rfl)) pe_int (fun _ _ => rfl)) (pa_cons (pe_ix (ix_tupk (K := K)) (pe_ix (ix_tupk (K := K)) (pv 4) (pv 1) (fun _ _ => rfl)) pe_int (fun _ _ => rfl)) pa_nil))))
      (pss_one (ps_ret (pe_tup (pa_cons (pe_fn ((okParted T).mono (by decide)) hr pass0 (pa_cons (pv 7) (pa_cons (pv 6) pa_nil))) (pa_cons (pe_fn ((okParted T).mono (by decide)) hr pass0 (pa_cons (pv 7) (pa_cons (pv 5) pa_nil))) pa_nil)))))))), fun H σ ds d D hrel hS hk => ?_⟩
  obtain ⟨fd, es, x, y, rfl, ok, hx, hy, rfl⟩ := hrel
  refine q_unp2 (Same.refl H) hS (ev_var hS rfl) fun σ1 H1 f1 _ hS1 => ?_
  have ax := at_lt hx
  have ay := at_lt hy
  obtain ⟨h, eh, hm, hn⟩ := ok.house ax
  have hw := ok.whl_eq eh hx hy hm
  rw [stp_of ax, stp_of ay] at hw
  -- slow, fast = rates_of(field)[events[x][0]]
  have hr1 : EvD K (tCall (spRates K) [] L2.E0 (tCons (tVar 3) tNil)) σ1 H1 (Sum.inr h.name) (.tuple [fr h.slow, fr h.fast]) := fun H2 f2 Q q =>
    ea_cons (ev_var (i := 3) (d := dF fd) hS1 rfl) ea_nil H2 f2 _ fun vs H3 f3 hvs => by
      obtain ⟨v, rfl, hv⟩ := hvs.one_inv
      refine ⟨v, fd, rfl, hv, ok.fd, fun p kvs H4 hp f4 hk4 hall => ?_⟩
      obtain ⟨u, hu, tu⟩ := hall h hm
      exact q p kvs H4 u (f3.trans f4) hk4 hu tu
  have hk1 := ev_house (ti := tVar 1) (ev_var (i := 4) hS1 rfl) (ev_var (i := 1) hS1 rfl) ax
  rw [← hn] at hk1
  refine q_unp2 f1 hS1 (ev_dget hr1 (evv_str hk1)) fun σ2 H2 f2 _ hS2 => ?_
  refine q_set f2 hS2 (ev_call (ea_cons (ev_stamp (ev_var hS2 rfl) (ev_var hS2 rfl) ay) (ea_cons (ev_stamp (ev_var hS2 rfl) (ev_var hS2 rfl) ax) ea_nil)) ⟨_, _, rfl, rfl⟩) fun σ3 H3 f3 _ hS3 => ?_
  refine s_ret f3 (ev_tup (ea_cons (ev_call (ea_cons (ev_var hS3 rfl) (ea_cons (ev_var hS3 rfl) ea_nil)) ⟨_, h.fast, _, rfl, (ok.fd.fast h hm).1.pos.1, (ok.fd.fast h hm).1.pos.2, hw.1, rfl⟩)
      (ea_cons (ev_call (ea_cons (ev_var hS3 rfl) (ea_cons (ev_var hS3 rfl) ea_nil)) ⟨_, h.slow, _, rfl, (ok.fd.slow h hm).1.pos.1, (ok.fd.slow h hm).1.pos.2, hw.2, rfl⟩) ea_nil))) fun v H4 f4 hv => hk v H4 f4 hv
end
end Lk

namespace Lk
open PySem PySem.Spec PyProof.Rows L2 Mx
section
variable {P : Program} {w : World} {K : PySem.W.Frag} {mg : Str → Option Value} {base : Heap} {C aN : Addr}
theorem ev_hist1 {σ : L2.St} {H : Hp} {te : TE} {f : Fd} {es : List Evt} (h : Ev K te σ H (dHist f es)) : Ev K (tOp (rIxT K) te (tC (.int 1))) σ H (.tuple (es.map dE)) := ev_ix 1 h rfl
theorem hn_of {f : Fd} {es : List Evt} (ok : HOk f es) : ∀ e ∈ es, (PyData.str e.house).canLay0 = true := fun e he => by
  obtain ⟨h, hm, hn⟩ := ok.hs e he
  have := ok.fd.nm h hm
  rw [hn] at this
  exact this
/-! ### events_behind -/
def relBehind : List PyData → List PyData → Prop := fun ds es' => ∃ f es y, ds = [dHist f es, dN y] ∧ HOk f es ∧ y < es.length ∧ es' = (behind es y).map dN
theorem isN_optN : ∀ o : Option Nat, isN (optN o) = o.isNone
  | none => rfl
  | some _ => rfl
theorem okEventsBehind (T : Txt K mg C aN) : Def P w K mg base CX0 "events_behind" 2 ["history", "number"] (spL K relBehind) := by
  refine def_of T.d_events_behind scEventsBehind (fun vs H Q E h => by obtain ⟨ds, es', h1, ⟨f, es, y, rfl, _⟩, _⟩ := h; rw [h1.len]; rfl) fun f cdv A outer s H0 E0 hr => ⟨_,
    (pss_cons (ps_set (i := 2) scEventsBehind.nd rfl (Or.inl rfl) (pe_ix (ix_tupk (K := K)) (pv 0) pe_int (fun _ _ => rfl)))
      (pss_cons (ps_set (i := 3) scEventsBehind.nd rfl (Or.inl rfl) (pe_ix (ix_tupk (K := K)) (pe_ix (ix_tupk (K := K)) (pv 2) (pv 1) (fun _ _ => rfl)) pe_int (fun _ _ => rfl)))
      (pss_cons (ps_set (i := 4) scEventsBehind.nd rfl (Or.inl rfl) (pe_fn ((okLastAhead T).mono (by decide)) hr pass0 (pa_cons (pv 2) (pa_cons (pv 1) pa_nil))))
      (pss_cons (ps_set (i := 5) scEventsBehind.nd rfl (Or.inl rfl) (pe_ifExp (pt_cmpR op_isN' (pv 4) pe_non (nomark _)) (pe_lst pa_nil) (pe_lst (pa_cons (pv 4) pa_nil))))
      (pss_one (ps_ret (pe_op op_cat (pv 5) (pe_ifExp (pt_cmpR (op_eqk (K := K) hr.units) (pe_ix (ix_tupk (K := K)) (pv 3) pe_int (fun _ _ => rfl)) pe_str (nomark _)) (pe_lst (pa_cons (pe_ix (ix_tupk (K := K)) (pv 3) pe_int (fun _ _ => rfl)) pa_nil)) (pe_lst pa_nil))))))))), fun H vs Q E h => ?_⟩
  obtain ⟨ds, es', hvs, ⟨fd, es, y, rfl, ok, hy, rfl⟩, q⟩ := h
  have hS : Sto K H (L2.start ["history", "number", "events", "deed", "elder", "found"] vs) [.dat (dHist fd es), .dat (dN y), .any, .any, .any, .any] := by
    have := Sto.app hvs (Sto.anys (K := K) (H := H) (n := 4) (o := none))
    unfold L2.start
    rw [hvs.len]
    exact this
  have ay := at_lt hy
  generalize he : es[y] = e at ay
  have dzy := dz_of ay
  refine q_set (Same.refl H) hS (ev_hist1 (ev_var hS rfl)) fun σ1 H1 f1 _ hS1 => ?_
  refine q_set f1 hS1 (ev_deed (ev_var hS1 rfl) (ev_var hS1 rfl) ay) fun σ2 H2 f2 _ hS2 => ?_
  refine q_set f2 hS2 (ev_call (ea_cons (ev_var hS2 rfl) (ea_cons (ev_var hS2 rfl) ea_nil)) ⟨es, y, rfl, hy, ok.n, hn_of ok, rfl⟩) fun σ3 H3 f3 _ hS3 => ?_
  have hb : EvT (tTest (tOp rIsN (tVar 4) (tC .non))) σ3 H3 ((lastAhead es y).isNone) := et_is (et_test (ev_isN (ev_var hS3 rfl))) (isN_optN _)
  refine q_setL f3 hS3 (ds := (lastAhead es y).toList.map dN) (el_if hb (fun c => ?_) (fun c => ?_)) fun p xs σ4 H4 hp f4 _ hS4 hx hxs => ?_
  · cases e1 : lastAhead es y with
    | none => exact el_lst ea_nil
    | some v => rw [e1] at c; cases c
  · cases e1 : lastAhead es y with
    | none => rw [e1] at c; cases c
    | some v =>
      rw [e1] at hS3
      exact el_lst (ea_cons (ev_var hS3 rfl) ea_nil)
  · have hl1 : ((lastAhead es y).toList.map dN).length ≤ 1 := by cases lastAhead es y <;> simp
    have hl2 : ((heard1 es y).map dN).length ≤ 1 := by
      unfold heard1
      split <;> simp
    refine el_cat (K := K) (es := (heard1 es y).map dN) (evv_var hS4 rfl) hx hxs (el_if (et_test (ev_isH (ev_var (i := 3) hS4 rfl))) (fun c => ?_) (fun c => ?_)) (by omega) H4 (Same.refl H4) _ fun r ys H5 hr f5 hy hys => ?_
    · obtain ⟨k, hd⟩ := isH_of c
      rw [hd] at dzy hS4
      rw [heard1_of dzy]
      exact el_lst (ea_cons (ev_ix (d := dN k) 1 (ev_var hS4 rfl) rfl) ea_nil)
    · rw [heard1_not fun k z => isH_not c k (Option.some.inj (dzy.symm.trans z))]
      exact el_lst ea_nil
    · refine q r ys H5 (f4.free hr) (f4.trans f5) hy ?_
      unfold behind
      rw [List.map_append]
      exact hys
/-! ### does_hear, does_go, bounds_between -/
def relDoesHear : List PyData → PyData → Prop := fun ds d => ∃ f es x y, ds = [dHist f es, dN x, dN y] ∧ y < es.length ∧ d = .bool (decide (dz es y = some (.hear x)))
theorem okDoesHear (T : Txt K mg C aN) : Def P w K mg base CX0 "does_hear" 1 ["history", "x", "y"] (spP K relDoesHear) := by
  refine def_pure T.d_does_hear scDoesHear (fun ds d h => by obtain ⟨f, es, x, y, rfl, _⟩ := h; rfl) fun f cdv A outer s H0 E0 hr => ⟨_,
    (pss_one (ps_ret (pe_cmpR (op_eqk (K := K) hr.units) (pe_ix (ix_tupk (K := K)) (pe_ix (ix_tupk (K := K)) (pe_ix (ix_tupk (K := K)) (pv 0) pe_int (fun _ _ => rfl)) (pv 2) (fun _ _ => rfl)) pe_int (fun _ _ => rfl)) (pe_tup (pa_cons pe_str (pa_cons (pv 1) pa_nil))) (nomark _)))), fun H σ ds d D hrel hS hk => ?_⟩
  obtain ⟨fd, es, x, y, rfl, hy, rfl⟩ := hrel
  have ay := at_lt hy
  refine s_ret (Same.refl H) (ev_eq (y := dD (.hear x)) (ev_deed (ev_hist1 (ev_var hS rfl)) (ev_var hS rfl) ay) (ev_tup (ea_cons ev_str (ea_cons (ev_var hS rfl) ea_nil))) (Sh.ok (sh_dD _)) (Sh.ok (sh_dD _))) fun v H1 f1 hv => hk v H1 f1 ?_
  rw [eqv_dD] at hv
  have e : decide (dz es y = some (Deed.hear x)) = decide (es[y].deed = Deed.hear x) := by
    rw [dz_of ay]
    exact decide_eq_decide.mpr ⟨fun z => Option.some.inj z, fun z => by rw [z]⟩
  rw [e]
  exact hv
def relDoesGo : List PyData → PyData → Prop := fun ds d => ∃ f es x y, ds = [dHist f es, dN x, dN y] ∧ HOk f es ∧ x < es.length ∧ y < es.length ∧ d = .bool (goB es x y)
theorem okDoesGo (T : Txt K mg C aN) : Def P w K mg base CX0 "does_go" 2 ["history", "x", "y"] (spP K relDoesGo) := by
  refine def_pure T.d_does_go scDoesGo (fun ds d h => by obtain ⟨f, es, x, y, rfl, _⟩ := h; rfl) fun f cdv A outer s H0 E0 hr => ⟨_,
    (pss_one (ps_ret (pe_or (pe_fn ((okDoesHear T).mono (by decide)) hr pass0 (pa_cons (pv 0) (pa_cons (pv 1) (pa_cons (pv 2) pa_nil)))) (pe_one (pe_and (pe_cmpR op_lt (pv 1) (pv 2) (nomark _)) (pe_one (pe_cmpR (op_eqk (K := K) hr.units) (pe_ix (ix_tupk (K := K)) (pe_ix (ix_tupk (K := K)) (pe_ix (ix_tupk (K := K)) (pv 0) pe_int (fun _ _ => rfl)) (pv 1) (fun _ _ => rfl)) pe_int (fun _ _ => rfl)) (pe_ix (ix_tupk (K := K)) (pe_ix (ix_tupk (K := K)) (pe_ix (ix_tupk (K := K)) (pv 0) pe_int (fun _ _ => rfl)) (pv 2) (fun _ _ => rfl)) pe_int (fun _ _ => rfl)) (nomark _)))))))), fun H σ ds d D hrel hS hk => ?_⟩
  obtain ⟨fd, es, x, y, rfl, ok, hx, hy, rfl⟩ := hrel
  have ax := at_lt hx
  have ay := at_lt hy
  have n1 := hn_of ok _ (List.mem_of_getElem? ax)
  have n2 := hn_of ok _ (List.mem_of_getElem? ay)
  have e1 : PyData.eqv (.str es[x].house) (.str es[y].house) = decide (hz es x = hz es y) := by
    rw [eqv_str, hz_of ax, hz_of ay]
    exact decide_eq_decide.mpr ⟨fun z => by rw [z], fun z => Option.some.inj z⟩
  have e2 : decide ((x : Int) < (y : Int)) = decide (x < y) := decide_eq_decide.mpr ⟨fun z => by omega, fun z => by omega⟩
  refine s_ret (Same.refl H) (ev_orV (ev_call (ea_cons (ev_var hS rfl) (ea_cons (ev_var hS rfl) (ea_cons (ev_var hS rfl) ea_nil))) ⟨fd, es, x, y, rfl, hy, rfl⟩)
    fun _ => ev_andV (ev_b0 (ev_var (d := .int (x : Int)) hS rfl) (ev_var (d := .int (y : Int)) hS rfl)) fun _ => ev_eq (ev_house (ev_hist1 (ev_var hS rfl)) (ev_var hS rfl) ax) (ev_house (ev_hist1 (ev_var hS rfl)) (ev_var hS rfl) ay) (Sh.ok (n := 0) (.str n1)) (Sh.ok (n := 0) (.str n2)))
    fun v H1 f1 hv => hk v H1 f1 ?_
  rw [e1, e2] at hv
  exact hv
def relBounds1 : List PyData → PyData → Prop := fun ds d => ∃ f es x y, ds = [dHist f es, dN x, dN y] ∧ HOk f es ∧ x < es.length ∧ y < es.length ∧ d = dB (bnd f es x y)
theorem okBoundsBetween (T : Txt K mg C aN) : Def P w K mg base CX0 "bounds_between" 5 ["history", "x", "y"] (spP K relBounds1) := by
  refine def_pure T.d_bounds_between scBoundsBetween (fun ds d h => by obtain ⟨f, es, x, y, rfl, _⟩ := h; rfl) fun f cdv A outer s H0 E0 hr => ⟨_,
    (pss_one (ps_ret (pe_ifExp (pt_val (pe_fn ((okDoesHear T).mono (by decide)) hr pass0 (pa_cons (pv 0) (pa_cons (pv 1) (pa_cons (pv 2) pa_nil))))) (pe_slice (sl_tupk (K := K)) (pe_fn ((okLinkHeard T).mono (by decide)) hr pass0 (pa_cons (pv 0) (pa_cons (pv 2) pa_nil))) (po_some pe_int) po_none) (pe_fn ((okWhileBetween T).mono (by decide)) hr pass0 (pa_cons (pv 0) (pa_cons (pv 1) (pa_cons (pv 2) pa_nil))))))), fun H σ ds d D hrel hS hk => ?_⟩
  obtain ⟨fd, es, x, y, rfl, ok, hx, hy, rfl⟩ := hrel
  refine s_ret (Same.refl H) (ev_if (et_B (ev_call (ea_cons (ev_var hS rfl) (ea_cons (ev_var hS rfl) (ea_cons (ev_var hS rfl) ea_nil))) ⟨fd, es, x, y, rfl, hy, rfl⟩)) (fun c => ?_) (fun c => ?_)) fun v H1 f1 hv => hk v H1 f1 hv
  · have hd := of_decide_eq_true c
    obtain ⟨_, _, _, lk, _, _, _, h4⟩ := ok.linkOf hd
    have e : bnd fd es x y = (lk.least, lk.most) := by
      unfold bnd
      rw [if_pos hd, h4]
    rw [e]
    exact ev_slT (ev_call (d := dL lk) (ea_cons (ev_var hS rfl) (ea_cons (ev_var hS rfl) ea_nil)) ⟨fd, es, y, rfl, ok, hy, by rw [h4]; rfl⟩) (eo_some (K := K) ev_int) eo_none
  · have hd := of_decide_eq_false c
    have e : bnd fd es x y = ((whl fd es x y).1, some (whl fd es x y).2) := by
      unfold bnd
      rw [if_neg hd]
    rw [e]
    exact ev_call (ea_cons (ev_var hS rfl) (ea_cons (ev_var hS rfl) (ea_cons (ev_var hS rfl) ea_nil))) ⟨fd, es, x, y, rfl, ok, hx, hy, rfl⟩
end
end Lk

namespace Lk
open PySem PySem.Spec PyProof.Rows L2 Mx
section
variable {P : Program} {w : World} {K : PySem.W.Frag} {mg : Str → Option Value} {base : Heap} {C aN : Addr}
/-! ### has_heard -/
def kN (n : Nat) : L2.Key := Sum.inl (n : Int)
theorem kN_inj {a b : Nat} (h : kN a = kN b) : a = b := by
  have := Sum.inl.inj h
  omega
theorem valV_mem {kvs : List (L2.Key × V)} {F : List Nat} {n : Nat} (h : kvs.map (·.1) = F.map kN) : (valV kvs (kN n)).isSome = decide (n ∈ F) := by
  rw [← valV_any]
  by_cases c : n ∈ F
  · rw [decide_eq_true c, List.any_eq_true]
    have : kN n ∈ kvs.map (·.1) := by rw [h]; exact List.mem_map_of_mem c
    obtain ⟨p, hp, e⟩ := List.mem_map.mp this
    exact ⟨p, hp, decide_eq_true e⟩
  · rw [decide_eq_false c, List.any_eq_false]
    intro p hp e
    have e' := of_decide_eq_true e
    have : kN n ∈ F.map kN := by rw [← h, ← e']; exact List.mem_map_of_mem hp
    obtain ⟨m, hm, e2⟩ := List.mem_map.mp this
    rw [kN_inj e2] at hm
    exact c hm
def spHeard (K : PySem.W.Frag) : Sp := fun vs H Q _ => ∃ f es y, TpAll K H vs [dHist f es, dN y] ∧ HOk f es ∧ y < es.length ∧ ∀ p H', Same H H' → TupZ H' p ((heard es y).map vN) → Q (.ref p) H'
theorem ev_heard {σ : L2.St} {H : Hp} {ta : TA} {E : XK} {f : Fd} {es : List Evt} {y : Nat} (ha : EvA K ta σ H [dHist f es, dN y]) (ok : HOk f es) (hy : y < es.length) : Ev K (tCall (spHeard K) [] E ta) σ H (dR (heard es y)) := fun H1 e Q q =>
  ha H1 e _ fun vs H2 e2 hvs => ⟨f, es, y, by rw [List.append_nil]; exact hvs, ok, hy, fun p H' e3 hz => q _ H' (e2.trans e3) (.tup hz.sq (tpN H' _))⟩
theorem okHasHeard (T : Txt K mg C aN) : Def P w K mg base CX0 "has_heard" 3 ["history", "number"] (spHeard K) := by
  refine def_of T.d_has_heard scHasHeard (fun vs H Q E h => by obtain ⟨f, es, y, h1, _⟩ := h; rw [h1.len]; rfl) fun f cdv A outer s H0 E0 hr => ⟨_,
    (pss_cons (ps_if (PW.pt (pw_or (pt_cmpR op_lt (pv 1) pe_int (nomark _)) (pw_or1 (pt_cmpR op_ge (pv 1) (pe_callB (call_lenk (K := K)) (by rfl) T.z_len (by decide +kernel) (pa_cons (pe_ix (ix_tupk (K := K)) (pv 0) pe_int (fun _ _ => rfl)) pa_nil)) (nomark _))))) (pss_one ps_never) pss_nil)
      (pss_cons (ps_set (i := 2) scHasHeard.nd rfl (Or.inl rfl) pe_dnewK)
      (pss_cons (ps_set (i := 3) scHasHeard.nd rfl (Or.inl rfl) (pe_lst (pa_cons (pv 1) pa_nil)))
      (pss_cons (ps_while PassesOwn.never (pt_cmpR (op_nek (K := K) hr.units) (pv 3) (pe_lst pa_nil) (nomark _)) (pss_cons (ps_set (i := 4) scHasHeard.nd rfl (Or.inl rfl) (pe_bm0k (K := K) PySem.F.plainAttrs_list PySem.F.slot_list_pop PySem.F.type_list_pop mt_pop (pv 3)))
      (pss_one (ps_if (pt_cmp (pc_dnotin (hu_of hr) (pv 4) (pv 2)) (by rfl)) (pss_cons (ps_dput (hu_of hr) (pv 2) (pv 4) pe_bl rfl)
      (pss_one (ps_expr (pe_bmk (K := K) PySem.F.plainAttrs_list PySem.F.slot_list_extend PySem.F.type_list_extend mt_extend (pv 3) (pa_cons (pe_fn ((okEventsBehind T).mono (by decide)) hr pass0 (pa_cons (pv 0) (pa_cons (pv 4) pa_nil))) pa_nil))))) pss_nil))))
      (pss_one (ps_ret (pe_callTy (cr_tupleZk (K := K)) (by rfl) T.z_tuple (by decide +kernel) (pa_cons (pe_callB (call_sortedDI rfl) (by rfl) T.z_sorted (by decide +kernel) (pa_cons (pv 2) pa_nil)) pa_nil)))))))), fun H vs Q E h => ?_⟩
  obtain ⟨fd, es, y, hvs, ok, hy, q⟩ := h
  have hS : Sto K H (L2.start ["history", "number", "found", "left", "one"] vs) [.dat (dHist fd es), .dat (dN y), .any, .any, .any] := by
    have := Sto.app hvs (Sto.anys (K := K) (H := H) (n := 3) (o := none))
    unfold L2.start
    rw [hvs.len]
    exact this
  have hn := ok.n
  refine q_if (et_or (et_test (ev_b0 (ev_var (d := .int (y : Int)) hS rfl) ev_int)) fun _ => et_test (ev_b0 (ev_var (d := .int (y : Int)) hS rfl) (ev_lenT (ea_cons (ev_hist1 (ev_var hS rfl)) ea_nil)))) (fun c => ?_) fun _ H1 f1 => ?_
  · exfalso
    rw [Bool.or_eq_true, decide_eq_true_iff, decide_eq_true_iff, List.length_map] at c
    omega
  refine q_newD (hS.sm f1) fun pd σ2 hpd hS2 => ?_
  have e2 : Same H (upd H1 pd (.dK [])) := f1.trans (same_new hpd)
  have hpd0 : H pd = none := f1.free hpd
  refine q_setL e2 hS2 (el_lst (ea_cons (ev_var (d := dN y) hS2 rfl) ea_nil)) fun pl xs σ3 H3 hpl e3 e23 hS3 hl3 hxs => ?_
  have hpl0 : H pl = none := e2.free hpl
  have hd3 : H3 pd = some (.dK []) := e23 _ _ upd_same
  have npl : pl ≠ pd := fun z => by rw [z, upd_same] at hpl; cases hpl
  have exs : xs = [y].map vN := tpN_inv (l := [y]) hxs
  subst exs
  refine q_while (fun m σ' H' => ∃ (F L : List Nat) (kvs : List (L2.Key × V)), m = 3 * (21 - F.length) + L.length ∧ Same H H' ∧ Sto K H' σ' [.dat (dHist fd es), .dat (dN y), .val (.ref pd), .val (.ref pl), .any] ∧
      H' pd = some (.dK kvs) ∧ H' pl = some (.lst (L.map vN)) ∧ kvs.map (·.1) = F.map kN ∧ F.Nodup ∧ (∀ u ∈ F, Rch es u y) ∧ (∀ u ∈ L, Rch es u y) ∧ (y ∈ F ∨ y ∈ L) ∧ (∀ u ∈ F, ∀ z ∈ behind es u, z ∈ F ∨ z ∈ L) ∧ L.length ≤ 2 * F.length + 1)
    (3 * (21 - 0) + 1) ⟨[], [y], [], rfl, e3, hS3, hd3, hl3, rfl, List.nodup_nil, (fun u hu => by cases hu), (fun u hu => by rw [List.mem_singleton.mp hu]; exact .refl), .inr List.mem_cons_self, (fun u hu => by cases hu), Nat.le_refl 1⟩ ?_
  rintro m σ' H' ⟨F, L, kvs, hm, e, hS', hpd', hpl', hk, hF, rF, rL, hyF, hcl, hLF⟩
  have hF20 : F.length ≤ 20 := nodup_len hF fun u hu => by
    have := (rF u hu).le ok
    omega
  refine ⟨!L.isEmpty, ?_, fun c H2 f2 => ?_, fun c H2 f2 => ?_⟩
  · refine et_test (ev_is (ev_neNil (evv_var hS' rfl) (.inl (.inl hpl')) (tpN H' L) (Sh.ok (n := 1) (.lst (.map (fun _ => .int) L)))) ?_)
    cases L <;> rfl
  · -- a turn
    obtain ⟨L', x, rfl⟩ : ∃ L' x, L = L' ++ [x] := by
      cases L with
      | nil => cases c
      | cons a r => exact ⟨(a :: r).dropLast, (a :: r).getLast (List.cons_ne_nil _ _), (List.dropLast_concat_getLast _).symm⟩
    have hS2' := hS'.sm f2
    have hlen : (L' ++ [x]).length = L'.length + 1 := by rw [List.length_append, List.length_singleton]
    have hget : ((L' ++ [x]).map vN)[((L' ++ [x]).map vN).length - 1]? = some (vN x) := by
      rw [List.length_map, hlen, Nat.add_sub_cancel, List.getElem?_map, List.getElem?_append_right (Nat.le_refl _), Nat.sub_self]
      rfl
    have hx : Rch es x y := rL x (List.mem_append_right _ List.mem_cons_self)
    have hxy := hx.le ok
    refine q_pop (s := .dat (dN x)) (f2 _ _ hpl') (evv_var hS2' rfl) hget hS2' (fun H' => ⟨vN x, rfl, .int _⟩) fun σ4 H4 f4 hS4 => ?_
    have edl : ((L' ++ [x]).map vN).dropLast = L'.map vN := by rw [List.map_append]; exact List.dropLast_concat
    rw [edl] at hS4 ⊢
    have e4 : Same H (upd H4 pl (.lst (L'.map vN))) := same_mut ((e.trans f2).trans f4) hpl0
    have hd4 : (upd H4 pl (.lst (L'.map vN))) pd = some (.dK kvs) := by rw [upd_ne npl.symm]; exact f4 _ _ (f2 _ _ hpd')
    have hl4 : (upd H4 pl (.lst (L'.map vN))) pl = some (.lst (L'.map vN)) := upd_same
    generalize upd H4 pl (.lst (L'.map vN)) = H5 at hS4 e4 hd4 hl4 ⊢
    have hx20 : x < es.length := by omega
    refine s_if (et_is (et_dnotin (k := kN x) (evv_int (ev_var (d := .int (x : Int)) hS4 rfl)) (evv_var hS4 rfl) hd4) (by rw [valV_mem hk])) (fun c2 H6 f6 => ?_) (fun c2 H6 f6 => ?_)
    · have hxF : ¬ x ∈ F := fun z => by rw [decide_eq_true z] at c2; cases c2
      have hS6 := hS4.sm f6
      refine q_dput (K := K) (k := kN x) ev_bl (evv_var hS6 rfl) (evv_int (ev_var (d := .int (x : Int)) hS6 rfl)) (f6 _ _ hd4) (by have := congrArg List.length hk; rw [List.length_map, List.length_map] at this; omega) fun v H7 f7 _ => ?_
      have hd7 := f7 _ _ (f6 _ _ hd4)
      have hl7 := f7 _ _ (f6 _ _ hl4)
      have hS7 := (hS6.sm f7).tx (tx_dk (o := .dK (putK kvs (kN x) v)) hd7)
      have e7 : Same H (upd H7 pd (.dK (putK kvs (kN x) v))) := same_mut ((e4.trans f6).trans f7) hpd0
      have hl8 : (upd H7 pd (.dK (putK kvs (kN x) v))) pl = some (.lst (L'.map vN)) := by rw [upd_ne npl]; exact hl7
      have hd8 : (upd H7 pd (.dK (putK kvs (kN x) v))) pd = some (.dK (putK kvs (kN x) v)) := upd_same
      generalize upd H7 pd (.dK (putK kvs (kN x) v)) = H8 at hS7 e7 hl8 hd8 ⊢
      have hb2 : (behind es x).length ≤ 2 := by
        unfold behind
        rw [List.length_append]
        have h1 : (lastAhead es x).toList.length ≤ 1 := by cases lastAhead es x <;> simp
        have h2 : (heard1 es x).length ≤ 1 := by unfold heard1; split <;> simp
        omega
      rw [hlen] at hLF hm
      refine s_ext hl8 (evv_var hS7 rfl) (el_call (ea_cons (ev_var hS7 rfl) (ea_cons (ev_var hS7 rfl) ea_nil)) ⟨fd, es, x, rfl, ok, hx20, rfl⟩) (by rw [List.length_map, List.length_map]; omega) fun ys H9 f9 hys => ?_
      have eys := tpN_inv hys
      subst eys
      have hl9 := f9 _ _ hl8
      have npk : valV kvs (kN x) = none := by
        have := valV_mem (n := x) hk
        rw [decide_eq_false hxF] at this
        exact Option.isNone_iff_eq_none.mp (by cases h : valV kvs (kN x) with | none => rfl | some _ => rw [h] at this; cases this)
      refine ⟨3 * (21 - (F ++ [x]).length) + (L' ++ behind es x).length, ?_, F ++ [x], L' ++ behind es x, putK kvs (kN x) v, rfl, same_mut (e7.trans f9) hpl0, (hS7.sm f9).drop 4 |>.tx (tx_lst hl9), ?_, ?_, ?_, ?_, ?_, ?_, ?_, ?_, ?_⟩
      · rw [hm, List.length_append, List.length_append, List.length_singleton]
        omega
      · rw [upd_ne npl.symm]
        exact f9 _ _ hd8
      · rw [List.map_append]
        exact upd_same
      · rw [putK_new _ npk, List.map_append, List.map_append, hk]
        rfl
      · rw [List.nodup_append]
        exact ⟨hF, List.nodup_cons.mpr ⟨List.not_mem_nil, List.nodup_nil⟩, fun a ha b hb z => by rw [List.mem_singleton.mp hb] at z; rw [z] at ha; exact hxF ha⟩
      · intro u hu
        rcases List.mem_append.mp hu with hu | hu
        · exact rF u hu
        · rw [List.mem_singleton.mp hu]; exact hx
      · intro u hu
        rcases List.mem_append.mp hu with hu | hu
        · exact rL u (List.mem_append_left _ hu)
        · exact (Rch.step hu .refl).trans hx
      · rcases hyF with z | z
        · exact .inl (List.mem_append_left _ z)
        · rcases List.mem_append.mp z with z | z
          · exact .inr (List.mem_append_left _ z)
          · exact .inl (List.mem_append_right _ z)
      · intro u hu z hz
        rcases List.mem_append.mp hu with hu | hu
        · rcases hcl u hu z hz with k | k
          · exact .inl (List.mem_append_left _ k)
          · rcases List.mem_append.mp k with k | k
            · exact .inr (List.mem_append_left _ k)
            · exact .inl (List.mem_append_right _ k)
        · rw [List.mem_singleton.mp hu] at hz
          exact .inr (List.mem_append_right _ hz)
      · rw [List.length_append, List.length_append, List.length_singleton]
        omega
    · have hxF : x ∈ F := by
        by_cases z : x ∈ F
        · exact z
        · rw [decide_eq_false z] at c2; cases c2
      have rm : ∀ {u : Nat}, u ∈ F ∨ u ∈ L' ++ [x] → u ∈ F ∨ u ∈ L' := fun {u} k => by
        rcases k with k | k
        · exact .inl k
        · rcases List.mem_append.mp k with k | k
          · exact .inr k
          · rw [List.mem_singleton.mp k]; exact .inl hxF
      refine ⟨3 * (21 - F.length) + L'.length, ?_, F, L', kvs, rfl, e4.trans f6, (hS4.sm f6).drop 4, f6 _ _ hd4, f6 _ _ hl4, hk, hF, rF, fun u hu => rL u (List.mem_append_left _ hu), rm hyF, fun u hu z hz => rm (hcl u hu z hz), ?_⟩
      · rw [hm, hlen]
        omega
      · rw [hlen] at hLF
        omega
  · -- the end
    have hLnil : L = [] := by cases L with | nil => rfl | cons a r => cases c
    subst hLnil
    have hFy : ∀ u, u ∈ F ↔ Rch es u y := by
      have yF : y ∈ F := by rcases hyF with z | z; exact z; cases z
      have cl : ∀ u z, Rch es u z → z ∈ F → u ∈ F := by
        intro u z h
        induction h with
        | refl => exact id
        | step hz _ ih =>
          intro k
          rcases hcl _ k _ hz with k | k
          · exact ih k
          · cases k
      exact fun u => ⟨rF u, fun h => cl u y h yF⟩
    have perm : (heard es y).Perm F := (List.perm_ext_iff_of_nodup (heard_nodup es y) hF).mpr fun u => by rw [mem_heard ok, hFy]
    have hS2' := hS'.sm f2
    have hks : kvs.map (·.1) = (F.map fun n : Nat => (n : Int)).map Sum.inl := by rw [hk, List.map_map]; rfl
    refine evv_var hS2' rfl H2 (Same.refl H2) _ fun H3 f3 => ⟨pd, kvs, F.map fun n : Nat => (n : Int), rfl, .inl (f3 _ _ (f2 _ _ hpd')), hks, by rw [List.length_map]; omega, fun ys p hp hs hpn => ?_⟩
    have eys : ys = (heard es y).map fun n : Nat => (n : Int) := by
      refine List.Perm.eq_of_pairwise (le := (· ≤ ·)) (fun a b _ _ h1 h2 => Int.le_antisymm h1 h2) hs ?_ (hp.trans (perm.symm.map _))
      exact List.pairwise_map.mpr ((heard_sorted es y).imp fun h => by omega)
    subst eys
    refine ⟨p, _, rfl, .inl (.inl upd_same), fun l o hl ho => ?_⟩
    refine q l _ ((((e.trans f2).trans f3).trans (same_new hpn)).trans (same_new hl)) ⟨o, ?_, ho⟩
    rw [upd_same, List.map_map]
    rfl
end
end Lk

namespace Lk
open PySem PySem.Spec PyProof.Rows L2 Mx
section
variable {P : Program} {w : World} {K : PySem.W.Frag} {mg : Str → Option Value} {base : Heap} {C aN : Addr}
/-! ### relay_bounds -/
theorem fr_zero : fr 0 = .tuple [.int 0, .int 1] := by
  unfold fr
  rw [show nu 0 = 0 by decide +kernel, show de 0 = 1 by decide +kernel]
theorem tp_zero (T : Txt K mg C aN) (H : Hp) : Tp K H (.ref aN) (fr 0) := by
  rw [fr_zero]
  exact .tup (T.nN H) (.cons (.int 0) (.cons (.int 1) .nil))
def relBounds : List PyData → PyData → Prop := fun ds d => ∃ f es r, ds = [dHist f es, dR r] ∧ HOk f es ∧ (∀ x ∈ r, x < es.length) ∧ d = dB (bsum f es r)
theorem okRelayBounds (T : Txt K mg C aN) : Def P w K mg base CX0 "relay_bounds" 6 ["history", "relay"] (spP K relBounds) := by
  refine def_pure T.d_relay_bounds scRelayBounds (fun ds d h => by obtain ⟨f, es, r, rfl, _⟩ := h; rfl) fun f cdv A outer s H0 E0 hr => ⟨_,
    (pss_cons (ps_asg2 (pe_glob (v := .ref aN) rfl T.gN rfl) (pg_name (i := 2) scRelayBounds.nd rfl (Or.inl rfl)) (pg_name (i := 3) scRelayBounds.nd rfl (Or.inl rfl)))
      (pss_cons (ps_for PassesOwn.never rfl (pi_zipk (K := K) (by rfl) T.z_zip (pa_cons (pv 1) (pa_cons (pe_slice (sl_tupk (K := K)) (pv 1) (po_some pe_int) po_none) pa_nil))) (pg_tupk (K := K) (n := 2) rfl (pgs_cons (pg_name (i := 4) scRelayBounds.nd rfl (Or.inl rfl)) (pgs_cons (pg_name (i := 5) scRelayBounds.nd rfl (Or.inl rfl)) pgs_nil))) (pss_cons (ps_asg (pe_fn ((okBoundsBetween T).mono (by decide)) hr pass0 (pa_cons (pv 0) (pa_cons (pv 4) (pa_cons (pv 5) pa_nil)))) (pg_tupk (K := K) (n := 2) rfl (pgs_cons (pg_name (i := 6) scRelayBounds.nd rfl (Or.inl rfl)) (pgs_cons (pg_name (i := 7) scRelayBounds.nd rfl (Or.inl rfl)) pgs_nil))))
      (pss_cons (ps_set (i := 2) scRelayBounds.nd rfl (Or.inl rfl) (pe_fn ((okAdded T).mono (by decide)) hr pass0 (pa_cons (pv 2) (pa_cons (pv 6) pa_nil))))
      (pss_one (ps_set (i := 3) scRelayBounds.nd rfl (Or.inl rfl) (pe_ifExp (PW.pt (pw_or (pt_cmpR op_isN' (pv 3) pe_non (nomark _)) (pw_or1 (pt_cmpR op_isN' (pv 7) pe_non (nomark _))))) pe_non (pe_fn ((okAdded T).mono (by decide)) hr pass0 (pa_cons (pv 3) (pa_cons (pv 7) pa_nil)))))))))
      (pss_one (ps_ret (pe_tup (pa_cons (pv 2) (pa_cons (pv 3) pa_nil))))))), fun H σ ds d D hrel hS hk => ?_⟩
  obtain ⟨fd, es, r, rfl, ok, hin, rfl⟩ := hrel
  refine q_asg2 hS (tp_zero T H) fun σ1 hS1 => ?_
  have e2 := ev_slT (ev_var (d := .tuple (r.map dN)) (i := 1) hS1 rfl) (eo_some (K := K) (ev_int (i := 1))) eo_none
  rw [show cutD (r.map dN) (some 1) none = (r.map dN).drop 1 from cutD_drop _ 1] at e2
  refine q_forZ (ea_cons (ev_var (d := .tuple (r.map dN)) hS1 rfl) (ea_cons e2 ea_nil))
    (fun H1 i σ' H' => Tx H1 H' ∧ Same H H' ∧ Sto K H' σ' [.dat (dHist fd es), .dat (dR r), .dat (fr (fsum (((prs r).take i).map fun p => bnd fd es p.1 p.2)).1), .dat (frO (fsum (((prs r).take i).map fun p => bnd fd es p.1 p.2)).2), .any, .any, .any, .any])
    (fun _ _ _ _ p => p.1) (fun H1 f1 => ⟨Tx.refl _, f1, hS1.sm f1⟩) (fun H1 f1 i z d d' σ' H' H'' hd hd' p g1 hz => ?_) (fun H1 f1 σ' H' p => ?_)
  · obtain ⟨t1, g0, hS2⟩ := p
    rw [List.getElem?_map] at hd
    obtain ⟨x, hx, rfl⟩ := Option.map_eq_some_iff.mp hd
    rw [List.getElem?_drop, List.getElem?_map] at hd'
    obtain ⟨y, hy, rfl⟩ := Option.map_eq_some_iff.mp hd'
    rw [Nat.add_comm] at hy
    have hp := prs_get hx hy
    have hx' := hin x (List.mem_of_getElem? hx)
    have hy' := hin y (List.mem_of_getElem? hy)
    have et : (prs r).take (i + 1) = (prs r).take i ++ [(x, y)] := by rw [List.take_add_one, hp]; rfl
    have es1 : fsum (((prs r).take (i + 1)).map fun p => bnd fd es p.1 p.2) = addB (fsum (((prs r).take i).map fun p => bnd fd es p.1 p.2)) (bnd fd es x y) := by
      rw [et, List.map_append, fsum_app]
      show addB _ (addB zB (bnd fd es x y)) = _
      rw [addB_z]
    generalize fsum (((prs r).take i).map fun p => bnd fd es p.1 p.2) = acc at hS2 es1
    refine g_pair (hS2.sm g1) hz fun σ2 hS3 => ?_
    refine q_unp2 (d1 := fr (bnd fd es x y).1) (d2 := frO (bnd fd es x y).2) (Same.refl H'') hS3 (ev_call (d := dB (bnd fd es x y)) (ea_cons (ev_var hS3 rfl) (ea_cons (ev_var hS3 rfl) (ea_cons (ev_var hS3 rfl) ea_nil))) ⟨fd, es, x, y, rfl, ok, hx', hy', rfl⟩) fun σ4 H4 g4 _ hS4 => ?_
    refine q_set g4 hS4 (ev_call (ea_cons (ev_var hS4 rfl) (ea_cons (ev_var hS4 rfl) ea_nil)) ⟨_, _, rfl, rfl⟩) fun σ5 H5 g5 _ hS5 => ?_
    have hte := et_or (et_test (ev_isN (K := K) (ev_var (i := 3) (d := frO acc.2) hS5 rfl))) fun _ => et_test (ev_isN (K := K) (ev_var (i := 7) (d := frO (bnd fd es x y).2) hS5 rfl))
    rw [isN_frO, isN_frO] at hte
    refine s_set g5 hS5 (d := frO (addO acc.2 (bnd fd es x y).2)) (ev_if hte (fun c => ?_) (fun c => ?_)) fun σ6 H6 g6 _ hS6 => ?_
    · have : addO acc.2 (bnd fd es x y).2 = none := by
        cases h1 : acc.2 with
        | none => rfl
        | some a =>
          cases h2 : (bnd fd es x y).2 with
          | none => rfl
          | some b => rw [h1, h2] at c; cases c
      rw [this]
      exact ev_non
    · cases h1 : acc.2 with
      | none => rw [h1] at c; cases c
      | some a =>
        cases h2 : (bnd fd es x y).2 with
        | none => rw [h1, h2] at c; cases c
        | some b =>
          rw [h1, h2] at hS5
          exact ev_call (ea_cons (ev_var (d := fr a) hS5 rfl) (ea_cons (ev_var (d := fr b) hS5 rfl) ea_nil)) ⟨a, b, rfl, rfl⟩
    · refine ⟨(t1.trans (same_tx g1)).trans (same_tx g6), (g0.trans g1).trans g6, ?_⟩
      rw [es1]
      exact (((hS6.drop 4).drop 5).drop 6).drop 7
  · obtain ⟨t1, g0, hS2⟩ := p
    have en : (prs r).take (min (r.map dN).length ((r.map dN).drop 1).length) = prs r := List.take_of_length_le (by
      rw [prs_len, List.length_drop, List.length_map]
      omega)
    rw [en] at hS2
    exact s_ret g0 (ev_tup (ea_cons (ev_var hS2 rfl) (ea_cons (ev_var hS2 rfl) ea_nil))) fun v H3 g3 hv => hk v H3 g3 hv
/-! ### relay_from -/
theorem behind_go {f : Fd} {es : List Evt} (ok : HOk f es) {y z : Nat} (h : z ∈ behind es y) : goB es z y = true := by
  rw [goB_of]
  unfold behind at h
  rcases List.mem_append.mp h with h | h
  · have e : lastAhead es y = some z := by
      cases e : lastAhead es y with
      | none => rw [e] at h; simp at h
      | some v => rw [e] at h; simp at h; rw [h]
    have := lastFrom_lt e
    exact .inr this
  · by_cases c : ∃ k, dz es y = some (.hear k)
    · obtain ⟨k, hk⟩ := c
      rw [heard1_of hk] at h
      rw [List.mem_singleton.mp h]
      exact .inl hk
    · rw [heard1_not fun k e => c ⟨k, e⟩] at h
      cases h
/-- what relay_from may hand back -/
def FromP (es : List Evt) (x y : Nat) (d : PyData) : Prop := (¬ Rch es x y ∧ d = .none) ∨
  (Rch es x y ∧ ∃ r, d = dR (x :: r) ∧ (x :: r).getLast? = some y ∧ Goes es (x :: r) ∧ ∀ u ∈ x :: r, Rch es u y)
def spFrom (K : PySem.W.Frag) : Sp := fun vs H Q _ => ∃ f es x y, TpAll K H vs [dHist f es, dN x, dN y] ∧ HOk f es ∧ x < es.length ∧ y < es.length ∧ ∀ d v H', FromP es x y d → Same H H' → Tp K H' v d → Q v H'
theorem evn_from {σ : L2.St} {H : Hp} {ta : TA} {E : XK} {f : Fd} {es : List Evt} {x y : Nat} (ha : EvA K ta σ H [dHist f es, dN x, dN y]) (ok : HOk f es) (hx : x < es.length) (hy : y < es.length) : EvN K (tCall (spFrom K) [] E ta) σ H (FromP es x y) := fun H1 e Q q =>
  ha H1 e _ fun vs H2 e2 hvs => ⟨f, es, x, y, by rw [List.append_nil]; exact hvs, ok, hx, hy, fun d v H' p e3 hv => q d v H' p (e2.trans e3) hv⟩
theorem map_rev (z : Nat) (r : List Nat) : (z :: r).reverse.map vN = r.reverse.map vN ++ [vN z] := by rw [List.reverse_cons, List.map_append]; rfl
open Classical in
theorem okRelayFrom (T : Txt K mg C aN) : Def P w K mg base CX0 "relay_from" 4 ["history", "x", "y"] (spFrom K) := by
  refine def_of T.d_relay_from scRelayFrom (fun vs H Q E h => by obtain ⟨f, es, x, y, h1, _⟩ := h; rw [h1.len]; rfl) fun f cdv A outer s H0 E0 hr => ⟨_,
    (pss_cons (ps_set (i := 3) scRelayFrom.nd rfl (Or.inl rfl) (pe_lst (pa_cons (pv 2) pa_nil)))
      (pss_cons (ps_while PassesOwn.never (pt_cmpR (op_nek (K := K) hr.units) (pe_ix (ix_listk (K := K)) (pv 3) (pe_un un_neg pe_int) (fun _ _ => rfl)) (pv 1) (nomark _)) (pss_cons (ps_setLc (i := 4) (own := [("one", 5)]) (g := gName 5) rfl scRelayFrom.nd rfl rfl (sw_true rfl rfl rfl (by decide +kernel)) (pi_listk (K := K) (pe_fn ((okEventsBehind T).mono (by decide)) hr pass0 (pa_cons (pv 0) (pa_cons (pe_ix (ix_listk (K := K)) (pv 3) (pe_un un_neg pe_int) (fun _ _ => rfl)) pa_nil)))) (blkOk_by (own := [("one", 5)]) (N := ["history", "x", "y", "found", "nearer", "one"]) (sc := defScope sRelayFrom) (by decide +kernel)) (fun _ _ _ _ _ => (pg_name (i := 5) scRelayFrom.nd rfl (Or.inl rfl))) (fun _ _ _ _ _ => pts_one (pt_cmpR (op_ink (K := K) hr.u65) (pv 1) (pe_fn ((okHasHeard T).mono (by decide)) hr pass0 (pa_cons (pv 0) (pa_cons (pv 5) pa_nil))) (by rfl))) (fun _ _ _ _ _ => (pv 5)))
      (pss_cons (ps_if (pt_cmpR (op_eqk (K := K) hr.units) (pv 4) (pe_lst pa_nil) (nomark _)) (pss_one (ps_ret pe_non)) pss_nil)
      (pss_one (ps_expr (pe_bmk (K := K) PySem.F.plainAttrs_list PySem.F.slot_list_append PySem.F.type_list_append mt_append (pv 3) (pa_cons (pe_ix (ix_listk (K := K)) (pv 4) pe_int (fun _ _ => rfl)) pa_nil)))))))
      (pss_one (ps_ret (pe_callTy (call_tuplek (K := K)) (by rfl) T.z_tuple (by decide +kernel) (pa_cons (pe_revk (K := K) (pv 3)) pa_nil)))))), fun H vs Q E h => ?_⟩
  obtain ⟨fd, es, x, y, hvs, ok, hx, hy, q⟩ := h
  have hS : Sto K H (L2.start ["history", "x", "y", "found", "nearer", "one"] vs) [.dat (dHist fd es), .dat (dN x), .dat (dN y), .any, .any, .any] := by
    have := Sto.app hvs (Sto.anys (K := K) (H := H) (n := 3) (o := none))
    unfold L2.start
    rw [hvs.len]
    exact this
  have h20 := ok.n
  refine q_setL (Same.refl H) hS (el_lst (ea_cons (ev_var (d := dN y) hS rfl) ea_nil)) fun pl xs σ1 H1 hpl e1 _ hS1 hl1 hxs => ?_
  have exs : xs = [y].map vN := tpN_inv (l := [y]) hxs
  subst exs
  refine q_while (fun m σ' H' => ∃ (z : Nat) (r : List Nat), m = z ∧ Same H H' ∧ Sto K H' σ' [.dat (dHist fd es), .dat (dN x), .dat (dN y), .val (.ref pl), .any, .any] ∧ H' pl = some (.lst ((z :: r).reverse.map vN)) ∧
      (z :: r).getLast? = some y ∧ Goes es (z :: r) ∧ (∀ u ∈ z :: r, Rch es u y) ∧ (Rch es x z ↔ Rch es x y) ∧ r.length + z ≤ y)
    y ⟨y, [], rfl, e1, hS1, hl1, rfl, (fun p hp => by cases hp), (fun u hu => by rw [List.mem_singleton.mp hu]; exact .refl), Iff.rfl, by simp⟩ ?_
  rintro z σ' H' ⟨_, r, rfl, e, hS', hl', hlast, hgo, hall, hiff, hsz⟩
  rw [map_rev] at hl'
  have hzy := (hall z List.mem_cons_self).le ok
  have hzl : z < es.length := by omega
  have evz : ∀ {H2}, Same H' H2 → Ev K (tOp (rIxL K) (tVar 3) (tUn (rU fun i => .int (-i)) (tC (.int 1)))) σ' H2 (dN z) := fun {H2} g =>
    ev_ixL (evv_var (hS'.sm g) rfl) (ev_un0 ev_int) (.inl (.inl (g _ _ hl'))) (atI_last _ _) (.int _)
  refine ⟨!decide (z = x), ?_, fun c H2 f2 => ?_, fun c H2 f2 => ?_⟩
  · refine et_test (ev_is (ev_ne (evz (Same.refl _)) (ev_var (d := dN x) hS' rfl) (Sh.ok (n := 0) .int) (Sh.ok (n := 0) .int)) ?_)
    have : PyData.eqv (dN z) (dN x) = decide (z = x) := by
      show PyData.eqv (.int (z : Int)) (.int (x : Int)) = _
      rw [eqv_int]
      exact decide_eq_decide.mpr ⟨fun q => by omega, fun q => by omega⟩
    rw [this]
  · have hne : z ≠ x := fun q => by rw [decide_eq_true q] at c; cases c
    have hS2 := hS'.sm f2
    have hb2 : (behind es z).length ≤ 2 := by
      unfold behind
      rw [List.length_append]
      have h1 : (lastAhead es z).toList.length ≤ 1 := by cases lastAhead es z <;> simp
      have h2 : (heard1 es z).length ≤ 1 := by unfold heard1; split <;> simp
      omega
    refine q_setL (ds := ((behind es z).filter fun a => decide (Rch es x a)).map dN) (e.trans f2) hS2 (el_lc (j := 5) (wk_newL (el_call (ea_cons (ev_var hS2 rfl) (ea_cons (evz f2) ea_nil)) ⟨fd, es, z, rfl, ok, hzl, rfl⟩)) hS2 (by omega)
      (fun a ha σ2 H3 f3 hS3 => et_is (et_test (ev_inT (ds := (heard es a).map dN) (ev_var (d := dN x) hS3 rfl) (ev_heard (ea_cons (ev_var hS3 rfl) (ea_cons (ev_var hS3 rfl) ea_nil)) ok (by have := ok.behind_lt ha; omega)) (Sh.ok (n := 0) .int) (Sh.ok (sh_dR _))))
        (by rw [any_dR]; exact decide_eq_decide.mpr (mem_heard ok)))
      (fun a ha hp σ2 H3 f3 hS3 => ev_var (d := dN a) hS3 rfl)) fun pn ys σ3 H3 hpn e3 f3 hS3 hn3 hys => ?_
    refine q_if (et_test (ev_eqNil (evv_var hS3 rfl) (.inl (.inl hn3)) hys (Sh.ok (n := 1) (.lst (.map (fun _ => .int) _))))) (fun c2 H4 f4 => ?_) (fun c2 H4 f4 => ?_)
    · have hnil : (behind es z).filter (fun a => decide (Rch es x a)) = [] := by
        cases h : (behind es z).filter (fun a => decide (Rch es x a)) with
        | nil => rfl
        | cons a l => rw [h] at c2; cases c2
      have hno : ¬ Rch es x z := fun k => by
        obtain ⟨u, hu, ku⟩ := k.inv (Ne.symm hne)
        have : u ∈ (behind es z).filter (fun a => decide (Rch es x a)) := List.mem_filter.mpr ⟨hu, decide_eq_true ku⟩
        rw [hnil] at this
        cases this
      exact s_ret (K := K) (e3.trans f4) ev_non fun v H5 e5 hv => q _ v H5 (.inl ⟨fun k => hno (hiff.mpr k), rfl⟩) e5 hv
    · cases h : (behind es z).filter (fun a => decide (Rch es x a)) with
      | nil => rw [h] at c2; cases c2
      | cons a l =>
        have ha : a ∈ (behind es z).filter (fun a => decide (Rch es x a)) := by rw [h]; exact List.mem_cons_self
        obtain ⟨ha1, ha2⟩ := List.mem_filter.mp ha
        have ha2 := of_decide_eq_true ha2
        have haz := ok.behind_lt ha1
        rw [h] at hys
        obtain ⟨w0, hw0, tw0⟩ := hys.get (i := 0) (d := dN a) rfl
        have hS4 := hS3.sm f4
        have hl4 : H4 pl = some (.lst (r.reverse.map vN ++ [vN z])) := f4 _ _ (f3 _ _ (f2 _ _ hl'))
        refine s_app hl4 (evv_var hS4 rfl) (ev_ixL (d := dN a) (evv_var hS4 rfl) ev_int (.inl (.inl (f4 _ _ hn3))) (atI_nat (j := 0) hw0) (tw0.sm f4)) (by rw [List.length_append, List.length_map, List.length_reverse, List.length_singleton]; omega) fun v H5 f5 hv => ?_
        have ev : v = vN a := hv.int_inv
        subst ev
        have hl5 := f5 _ _ hl4
        have hpl0 : H pl = none := hpl
        refine ⟨a, haz, a, z :: r, rfl, same_mut ((e3.trans f4).trans f5) hpl0, (hS4.sm f5).drop 4 |>.tx (tx_lst hl5), ?_, ?_, ?_, ?_, ?_, ?_⟩
        · rw [map_rev, map_rev]
          exact upd_same
        · rw [List.getLast?_cons_cons]; exact hlast
        · intro p hp
          rcases List.mem_cons.mp hp with rfl | hp
          · exact behind_go ok ha1
          · exact hgo p hp
        · intro u hu
          rcases List.mem_cons.mp hu with rfl | hu
          · exact (Rch.step ha1 .refl).trans (hall z List.mem_cons_self)
          · exact hall u hu
        · exact ⟨fun k => hiff.mp (k.trans (.step ha1 .refl)), fun _ => ha2⟩
        · rw [List.length_cons]
          omega
  · have hzx : z = x := by
      by_cases k : z = x
      · exact k
      · rw [decide_eq_false k] at c; cases c
    subst hzx
    have hS2 := hS'.sm f2
    have e5 : ((r.reverse ++ [z]).map dN).reverse = (z :: r).map dN := by rw [← List.map_reverse, List.reverse_append, List.reverse_reverse]; rfl
    have h6 : TpAll K H2 (r.reverse.map vN ++ [vN z]) ((r.reverse ++ [z]).map dN) := by
      have := tpN (K := K) H2 (r.reverse ++ [z])
      rw [List.map_append] at this
      exact this
    have h7 := el_rev (evv_var (i := 3) hS2 rfl) (.inl (.inl (f2 _ _ hl'))) h6
    rw [e5] at h7
    exact s_ret (e.trans f2) (ev_tupN h7) fun v H5 g5 hv => q _ v H5 (.inr ⟨hiff.mp .refl, r, rfl, hlast, hgo, hall⟩) g5 hv
end
end Lk

namespace Lk
open PySem PySem.Spec PyProof.Rows L2 Mx
section
variable {P : Program} {w : World} {K : PySem.W.Frag} {mg : Str → Option Value} {base : Heap} {C aN : Addr}
theorem okNeed (T : Txt K mg C aN) : Def P w K mg base (L2.CX P w) "need" 3 ["truth", "word", "at"] (spNeed K C) := ok_need T.d_need T.np
theorem s_need {σ : L2.St} {H : Hp} {ta : TA} {D : Ends} {E : XK} {b : Bool} {d1 d2 : PyData} (ha : EvA K ta σ H [.bool b, d1, d2]) (h1 : b = true → ∀ H1, Same H H1 → D.nx σ H1) (h2 : b = false → ∀ d H1, Same H H1 → E (.ref C) d H1) : tDrop (tCall (spNeed K C) [] E ta) D σ H :=
  ha H (Same.refl H) _ fun vs H1 e hvs => by
    obtain ⟨u, v, w, rfl, hu, _, _⟩ := hvs.three_inv
    rw [hu.bool_inv]
    exact ⟨b, v, w, rfl, fun c => h1 c H1 e, fun c d H' e' => h2 c d H' (e.trans e')⟩
theorem q_need {σ : L2.St} {H : Hp} {ta : TA} {D : Ends} {tz : TS} {E : XK} {b : Bool} {d1 d2 : PyData} (ha : EvA K ta σ H [.bool b, d1, d2]) (h1 : b = true → ∀ H1, Same H H1 → tz D σ H1) (h2 : b = false → ∀ d H1, Same H H1 → E (.ref C) d H1) : tSeq (tDrop (tCall (spNeed K C) [] E ta)) tz D σ H :=
  s_need (D := { D with nx := tz D }) ha h1 h2
theorem ev_all {σ : L2.St} {H : Hp} {te : TE} {bs : List Bool} (ha : EvL K te σ H (bs.map .bool)) : Ev K (tCB (rAll K) (tCons te tNil)) σ H (.bool (bs.all id)) := fun H1 e Q q =>
  ha H1 e _ fun p xs H2 _ e2 hl hx => ⟨p, bs, rfl, .inl (.inl (by rw [← TpAll.bools_inv hx]; exact hl)), q _ H2 e2 (.bl _)⟩
def spLets (K : PySem.W.Frag) (C : Addr) : Sp := fun vs H Q E => ∃ f es r, TpAll K H vs [dHist f es, dR r] ∧ HOk f es ∧ r ≠ [] ∧ r.length ≤ 1000 ∧ (∀ x ∈ r, x < es.length) ∧
  (Goes es r → ∀ v H', Same H H' → Tp K H' v (dB (bsum f es r)) → Q v H') ∧ (¬ Goes es r → ∀ d H', Same H H' → E (.ref C) d H')
theorem okLetsRelay (T : Txt K mg C aN) : Def P w K mg base (L2.CX P w) "lets_relay" 7 ["history", "thing"] (spLets K C) := by
  obtain ⟨f, fd, h1, h2, h3⟩ := T.d_lets_relay.h
  refine ⟨f, fd, h1, h2.kp, h3, h2.okX scLetsRelay (fun vs H Q E h => by obtain ⟨f, es, r, h1, _⟩ := h; rw [h1.len]; rfl) fun cdv A outer s H0 vs Q E hr h => ⟨_,
    (pss_cons (ps_expr (pe_fn ((okNeed T).mono (by decide)) hr (passes_call (takes_of rfl rfl rfl rfl) (fun _ _ _ _ h => h)) (pa_cons (pe_and (pe_callB (call_isik (K := K)) (by rfl) T.z_isinstance (by decide +kernel) (pa_cons (pv 1) (pa_cons (pe_bltn (v := .ty "tuple") (by rfl) T.z_tuple (by decide +kernel) rfl) pa_nil))) (pe_and (pe_cmpR (op_nek (K := K) hr.units) (pv 1) (pe_tup pa_nil) (nomark _)) (pe_one (pe_callB (cr_allk (K := K) rfl) (by rfl) T.z_all (by decide +kernel) (pa_cons (pe_lc (own := [("one", 3)]) (g := gName 3) rfl scLetsRelay.nd (pi_tupk (K := K) (pv 1)) (blkOk_by (own := [("one", 3)]) (N := ["history", "thing", "k", "one"]) (sc := defScope sLetsRelay) (by decide +kernel)) (fun _ _ _ _ _ => (pg_name (i := 3) scLetsRelay.nd rfl (Or.inl rfl))) (fun _ _ _ _ _ => pts_nil) (fun _ _ _ _ _ => (pe_fn ((okIsNumber T).mono (by decide)) hr pass0 (pa_cons (pv 3) pa_nil)))) pa_nil))))) (pa_cons pe_str (pa_cons (pe_un un_neg pe_int) pa_nil)))))
      (pss_cons (ps_for (passes_of rfl) rfl (pi_enumk (K := K) (by rfl) T.z_enumerate (pa_cons (pv 1) pa_nil)) (pg_tupk (K := K) (n := 2) rfl (pgs_cons (pg_name (i := 2) scLetsRelay.nd rfl (Or.inl rfl)) (pgs_cons (pg_name (i := 3) scLetsRelay.nd rfl (Or.inl rfl)) pgs_nil))) (pss_one (ps_expr (pe_fn ((okNeed T).mono (by decide)) hr (passes_call (takes_of rfl rfl rfl rfl) (fun _ _ _ _ h => h)) (pa_cons (pe_chain op_le op_lt pe_int (pv 3) (pe_callB (call_lenk (K := K)) (by rfl) T.z_len (by decide +kernel) (pa_cons (pe_ix (ix_tupk (K := K)) (pv 0) pe_int (fun _ _ => rfl)) pa_nil))) (pa_cons pe_str (pa_cons (pv 2) pa_nil)))))))
      (pss_cons (ps_for (passes_of rfl) rfl (pi_range2 (by rfl) T.z_range (pa_cons pe_int (pa_cons (pe_callB (call_lenk (K := K)) (by rfl) T.z_len (by decide +kernel) (pa_cons (pv 1) pa_nil)) pa_nil))) (pg_name (i := 2) scLetsRelay.nd rfl (Or.inl rfl)) (pss_one (ps_expr (pe_fn ((okNeed T).mono (by decide)) hr (passes_call (takes_of rfl rfl rfl rfl) (fun _ _ _ _ h => h)) (pa_cons (pe_fn ((okDoesGo T).mono (by decide)) hr pass0 (pa_cons (pv 0) (pa_cons (pe_ix (ix_tupk (K := K)) (pv 1) (pe_op op_sub (pv 2) pe_int) (fun _ _ => rfl)) (pa_cons (pe_ix (ix_tupk (K := K)) (pv 1) (pv 2) (fun _ _ => rfl)) pa_nil)))) (pa_cons pe_str (pa_cons (pv 2) pa_nil)))))))
      (pss_one (ps_ret (pe_fn ((okRelayBounds T).mono (by decide)) hr pass0 (pa_cons (pv 0) (pa_cons (pv 1) pa_nil)))))))), ?_⟩⟩
  obtain ⟨fd, es, r, hvs, ok, hne, hlen, hin, kq, ke⟩ := h
  have hS : Sto K H0 (L2.start ["history", "thing", "k", "one"] vs) [.dat (dHist fd es), .dat (dR r), .any, .any] := by
    have := Sto.app hvs (Sto.anys (K := K) (H := H0) (n := 2) (o := none))
    unfold L2.start
    rw [hvs.len]
    exact this
  have hn := ok.n
  refine q_need (b := true) (ea_cons (ev_is (ev_andV (b := true) (ev_isi (ev_var (d := dR r) hS rfl) (fun v H1 h => isi_tup rfl h)) fun _ => ev_is (ev_andV (b := true) (ev_is (ev_ne (ev_var (d := dR r) hS rfl) (ev_tup ea_nil) (Sh.ok (sh_dR r)) (Sh.ok (n := 1) (.tup .nil))) (d' := .bool true) ?_) fun _ =>
      ev_is (ev_all (bs := r.map fun _ => true) ?_) (d' := .bool true) ?_) (d' := .bool true) rfl) (d' := .bool true) rfl) (ea_cons ev_str (ea_cons (ev_un0 ev_int) ea_nil))) (fun _ H1 f1 => ?_) (fun c => by cases c)
  · cases r with
    | nil => exact absurd rfl hne
    | cons a r => rfl
  · rw [show (r.map fun _ => true).map PyData.bool = (r.filter fun _ => true).map (fun _ => PyData.bool true) by rw [List.filter_eq_self.mpr fun _ _ => rfl, List.map_map]; rfl]
    exact el_lc (K := K) (j := 3) (l := r) (g := dN) (g' := fun _ => .bool true) (p := fun _ => true) (wk_tup (ev_var (i := 1) (d := .tuple (r.map dN)) hS rfl)) hS (by omega)
      (fun a ha σ2 H2 f2 hS2 => (fun H1 e Q q => q H1 (Same.refl H1) : EvT tYes σ2 H2 true)) (fun a ha _ σ2 H2 f2 hS2 => ev_call (ea_cons (ev_var (d := dN a) (i := 3) hS2 rfl) ea_nil) ⟨(a : Int), rfl, rfl⟩)
  · congr 1
    rw [List.all_map]
    exact List.all_eq_true.mpr fun _ _ => rfl
  have hS1 := hS.sm f1
  refine q_forE (ev_var (d := .tuple (r.map dN)) hS1 rfl) (fun H1 i σ' H' => Tx H1 H' ∧ Same H0 H' ∧ Sto K H' σ' [.dat (dHist fd es), .dat (dR r), .any, .any]) (fun _ _ _ _ p => p.1)
    (fun H2 f2 => ⟨Tx.refl _, f1.trans f2, hS1.sm f2⟩) (fun H2 f2 i z d σ' H' H'' hd p g1 hz => ?_) (fun H2 f2 σ' H' p => ?_)
  · obtain ⟨t1, g0, hS2⟩ := p
    rw [List.getElem?_map] at hd
    obtain ⟨x, hx, rfl⟩ := Option.map_eq_some_iff.mp hd
    have hxl := hin x (List.mem_of_getElem? hx)
    refine g_pair (hS2.sm g1) hz fun σ2 hS3 => ?_
    refine s_need (b := true) (ea_cons (ev_is (ev_chain (a := true) (b := true) (ev_int (i := 0)) (ev_var (d := .int (x : Int)) hS3 rfl) (fun _ => ev_lenT (ea_cons (ev_hist1 (ev_var hS3 rfl)) ea_nil)) (rb0 (decide_eq_true (by omega))) fun _ => rb0 (decide_eq_true (by rw [List.length_map]; omega))) rfl) (ea_cons ev_str (ea_cons (ev_var hS3 rfl) ea_nil)))
      (fun _ H4 f4 => ⟨(t1.trans (same_tx g1)).trans (same_tx f4), (g0.trans g1).trans f4, ((hS3.sm f4).drop 2).drop 3⟩) (fun c => by cases c)
  obtain ⟨t1, g0, hS2⟩ := p
  refine q_forR2 (ea_cons (ev_int (i := 1)) (ea_cons (ev_lenT (ea_cons (ev_var (d := .tuple (r.map dN)) hS2 rfl) ea_nil)) ea_nil)) (by rw [List.length_map]; omega)
    (fun i σ' H' => Same H0 H' ∧ Sto K H' σ' [.dat (dHist fd es), .dat (dR r), .any, .any] ∧ ∀ p ∈ (prs r).take i, goB es p.1 p.2 = true) (fun H3 f3 => ⟨g0.trans f3, hS2.sm f3, fun p hp => by rw [List.take_zero] at hp; cases hp⟩) (fun i σ' H' hi p => ?_) (fun σ' H' p => ?_)
  · obtain ⟨g1, hS3, hg⟩ := p
    rw [List.length_map] at hi
    have hi1 : i + 1 < r.length := by omega
    have a0 : r[i]? = some r[i] := List.getElem?_eq_getElem (by omega)
    have a1 : r[i + 1]? = some r[i + 1] := List.getElem?_eq_getElem hi1
    have hp := prs_get a0 a1
    have hx := hin _ (List.mem_of_getElem? a0)
    have hy := hin _ (List.mem_of_getElem? a1)
    generalize r[i] = x at a0 hp hx
    generalize r[i + 1] = y at a1 hp hy
    refine g_name (d := .int (1 + (i : Int))) hS3 (.int _) fun σ2 hS4 => ?_
    refine s_need (b := goB es x y) (ea_cons (ev_call (d := .bool (goB es x y)) (ea_cons (ev_var hS4 rfl) (ea_cons (ev_at (f := dN) (l := r) (i := i) (ev_var (d := .tuple (r.map dN)) hS4 rfl) (ev_is (ev_i0 (ev_var (d := .int (1 + (i : Int))) hS4 rfl) ev_int) (by congr 1; omega)) a0)
      (ea_cons (ev_at (f := dN) (l := r) (i := i + 1) (ev_var (d := .tuple (r.map dN)) hS4 rfl) (ev_is (ev_var (d := .int (1 + (i : Int))) hS4 rfl) (by congr 1; omega)) a1) ea_nil))) ⟨fd, es, x, y, rfl, ok, hx, hy, rfl⟩) (ea_cons ev_str (ea_cons (ev_var hS4 rfl) ea_nil)))
      (fun c H5 f5 => ⟨g1.trans f5, (hS4.sm f5).drop 2, fun p hp' => ?_⟩) (fun c d H5 f5 => ke (fun hgo => ?_) d H5 (g1.trans f5))
    · rw [List.take_add_one, hp] at hp'
      rcases List.mem_append.mp hp' with h | h
      · exact hg p h
      · rw [List.mem_singleton.mp h]
        exact c
    · rw [hgo _ (List.mem_of_getElem? hp)] at c
      cases c
  · obtain ⟨g1, hS3, hg⟩ := p
    have hgo : Goes es r := fun p hp => hg p (by
      rw [List.take_of_length_le (by rw [prs_len, List.length_map]; omega)]
      exact hp)
    exact s_ret g1 (ev_call (ea_cons (ev_var hS3 rfl) (ea_cons (ev_var hS3 rfl) ea_nil)) ⟨fd, es, r, rfl, ok, hin, rfl⟩) fun v H5 g5 hv => kq hgo v H5 g5 hv
end
end Lk

namespace Mx
open PySem
/-! ### the part that is heard -/
def renD (l : List Nat) : Deed → Deed
  | .hear k => .hear (l.idxOf k)
  | .mark => .mark
  | .send k => .send k
def renE (l : List Nat) (e : Evt) : Evt := ⟨e.house, e.stamp, renD l e.deed⟩
def evAt (es : List Evt) (x : Nat) : Evt := (es[x]?).getD ⟨Str.empty, 0, .mark⟩
noncomputable def partE (es : List Evt) (y : Nat) : List Evt := (heard es y).map fun x => renE (heard es y) (evAt es x)
theorem idx_get {l : List Nat} {x : Nat} (h : x ∈ l) : l[l.idxOf x]? = some x := by
  rw [List.getElem?_eq_getElem (List.idxOf_lt_length_of_mem h), List.getElem_idxOf]
theorem idx_inj {l : List Nat} {x z : Nat} (h : x ∈ l) (k : z ∈ l) (e : l.idxOf x = l.idxOf z) : x = z := by
  have := idx_get h
  rw [e, idx_get k] at this
  exact (Option.some.inj this).symm
theorem idx_lt {l : List Nat} (s : l.Pairwise (· < ·)) {x z : Nat} (h : x ∈ l) (k : z ∈ l) (e : x < z) : l.idxOf x < l.idxOf z := by
  have a := List.idxOf_lt_length_of_mem h
  have b := List.idxOf_lt_length_of_mem k
  by_cases c : l.idxOf x < l.idxOf z
  · exact c
  · exfalso
    by_cases d : l.idxOf x = l.idxOf z
    · have := idx_inj h k d
      omega
    · have := List.pairwise_iff_getElem.mp s _ _ b a (by omega)
      rw [List.getElem_idxOf, List.getElem_idxOf] at this
      omega
theorem idx_at {l : List Nat} (nd : l.Nodup) {i x : Nat} (h : l[i]? = some x) : l.idxOf x = i := by
  obtain ⟨hi, e⟩ := List.getElem?_eq_some_iff.mp h
  rw [← e]
  exact List.Nodup.idxOf_getElem nd i hi
section
variable {f : Fd} {es : List Evt}
theorem evAt_of {x : Nat} {e : Evt} (h : es[x]? = some e) : evAt es x = e := by unfold evAt; rw [h]; rfl
theorem partE_at {y x : Nat} {i : Nat} (h : (heard es y)[i]? = some x) : (partE es y)[i]? = some (renE (heard es y) (evAt es x)) := by
  unfold partE
  rw [List.getElem?_map, h]
  rfl
theorem partE_get {y x : Nat} (h : x ∈ heard es y) : (partE es y)[(heard es y).idxOf x]? = some (renE (heard es y) (evAt es x)) := partE_at (idx_get h)
theorem partE_len (es : List Evt) (y : Nat) : (partE es y).length = (heard es y).length := by unfold partE; rw [List.length_map]
theorem heard_lt (ok : HOk f es) {x y : Nat} (hy : y < es.length) (h : x ∈ heard es y) : x < es.length := by
  have := ((mem_heard ok).mp h).le ok
  omega
theorem hear_in (ok : HOk f es) {x y k : Nat} (h : x ∈ heard es y) (hd : dz es x = some (.hear k)) : k ∈ heard es y := by
  refine (mem_heard ok).mpr (Rch.trans (.step ?_ .refl) ((mem_heard ok).mp h))
  unfold behind
  rw [heard1_of hd]
  exact List.mem_append_right _ List.mem_cons_self
theorem renD_hear {l : List Nat} {d : Deed} {k : Nat} (h : renD l d = .hear k) : ∃ j, d = .hear j ∧ l.idxOf j = k := by
  cases d with
  | mark => cases h
  | send a => cases h
  | hear j => exact ⟨j, rfl, Deed.hear.inj h⟩
theorem renD_send {l : List Nat} {d : Deed} {k : Nat} (h : renD l d = .send k) : d = .send k := by
  cases d with
  | mark => cases h
  | send a => exact h
  | hear j => cases h
theorem part_ok (ok : HOk f es) {y : Nat} (hy : y < es.length) : HOk f (partE es y) := by
  have ev : ∀ e ∈ partE es y, ∃ x e0, es[x]? = some e0 ∧ x ∈ heard es y ∧ e = renE (heard es y) e0 := fun e he => by
    unfold partE at he
    obtain ⟨x, hx, rfl⟩ := List.mem_map.mp he
    have a := at_lt (heard_lt ok hy hx)
    exact ⟨x, es[x]'(heard_lt ok hy hx), a, hx, by rw [evAt_of a]⟩
  refine ⟨ok.fd, ?_, fun e he => ?_, fun e he => ?_, fun e he l hl => ?_, fun i e he k hk => ?_⟩
  · rw [partE_len]
    have := heard_len es y
    have := ok.n
    omega
  · obtain ⟨x, e0, h1, _, rfl⟩ := ev e he
    exact ok.hs e0 (List.mem_of_getElem? h1)
  · obtain ⟨x, e0, h1, _, rfl⟩ := ev e he
    exact ok.st e0 (List.mem_of_getElem? h1)
  · obtain ⟨x, e0, h1, _, rfl⟩ := ev e he
    exact ok.sd e0 (List.mem_of_getElem? h1) l (renD_send hl)
  · have hi : i < (heard es y).length := by
      rw [← partE_len]
      exact (List.getElem?_eq_some_iff.mp he).1
    have hx : (heard es y)[i]? = some (heard es y)[i] := List.getElem?_eq_getElem hi
    generalize (heard es y)[i] = x at hx
    have hm := List.mem_of_getElem? hx
    have a := at_lt (heard_lt ok hy hm)
    rw [partE_at hx, evAt_of a] at he
    have he := (Option.some.inj he).symm
    subst he
    obtain ⟨j, hj, rfl⟩ := renD_hear hk
    obtain ⟨h1, e', l, h2, h3⟩ := ok.hr x _ a j hj
    have jm := hear_in ok hm (by rw [dz_of a, hj])
    refine ⟨?_, renE (heard es y) e', l, ?_, ?_⟩
    · rw [← idx_at (heard_nodup es y) hx]
      exact idx_lt (heard_sorted es y) jm hm h1
    · rw [partE_get jm, evAt_of h2]
    · show renD _ e'.deed = _
      rw [h3]
      rfl
theorem dz_part (ok : HOk f es) {x y : Nat} (hy : y < es.length) (h : x ∈ heard es y) : dz (partE es y) ((heard es y).idxOf x) = (dz es x).map (renD (heard es y)) := by
  have a := at_lt (heard_lt ok hy h)
  rw [dz_of (partE_get h), dz_of a, evAt_of a]
  rfl
theorem hz_part (ok : HOk f es) {x y : Nat} (hy : y < es.length) (h : x ∈ heard es y) : hz (partE es y) ((heard es y).idxOf x) = hz es x := by
  have a := at_lt (heard_lt ok hy h)
  rw [hz_of (partE_get h), hz_of a, evAt_of a]
  rfl
theorem stp_part (ok : HOk f es) {x y : Nat} (hy : y < es.length) (h : x ∈ heard es y) : stp (partE es y) ((heard es y).idxOf x) = stp es x := by
  have a := at_lt (heard_lt ok hy h)
  rw [stp_of (partE_get h), stp_of a, evAt_of a]
  rfl
theorem hear_part (ok : HOk f es) {x z y : Nat} (hy : y < es.length) (h : x ∈ heard es y) (k : z ∈ heard es y) : dz (partE es y) ((heard es y).idxOf z) = some (.hear ((heard es y).idxOf x)) ↔ dz es z = some (.hear x) := by
  rw [dz_part ok hy k]
  constructor
  · intro e
    obtain ⟨d, hd, e2⟩ := Option.map_eq_some_iff.mp e
    obtain ⟨j, rfl, e3⟩ := renD_hear e2
    rw [hd, idx_inj (hear_in ok k hd) h e3]
  · intro e
    rw [e]
    rfl
theorem bnd_part (ok : HOk f es) {x z y : Nat} (hy : y < es.length) (h : x ∈ heard es y) (k : z ∈ heard es y) : bnd f (partE es y) ((heard es y).idxOf x) ((heard es y).idxOf z) = bnd f es x z := by
  unfold bnd
  by_cases c : dz es z = some (.hear x)
  · rw [if_pos c, if_pos ((hear_part ok hy h k).mpr c)]
    obtain ⟨_, e', l, lk, h2, h3, _, h4⟩ := ok.linkOf c
    have e : linkOf f (partE es y) ((heard es y).idxOf z) = linkOf f es z := by
      unfold linkOf
      rw [(hear_part ok hy h k).mpr c, c]
      dsimp only
      rw [dz_part ok hy h, dz_of h2, h3]
      rfl
    rw [e]
  · rw [if_neg c, if_neg fun q => c ((hear_part ok hy h k).mp q)]
    have e : whl f (partE es y) ((heard es y).idxOf x) ((heard es y).idxOf z) = whl f es x z := by
      unfold whl hsOf
      rw [hz_part ok hy h, stp_part ok hy h, stp_part ok hy k]
    rw [e]
theorem bsum_part (ok : HOk f es) {y : Nat} (hy : y < es.length) (r : List Nat) (h : ∀ u ∈ r, u ∈ heard es y) : bsum f (partE es y) (r.map (heard es y).idxOf) = bsum f es r := by
  unfold bsum
  rw [prs_map, List.map_map]
  congr 1
  refine List.map_congr_left fun p hp => ?_
  obtain ⟨h1, h2⟩ := prs_mem hp
  exact bnd_part ok hy (h _ h1) (h _ h2)
/-! ### relays are short -/
theorem goB_lt (ok : HOk f es) {x y : Nat} (h : goB es x y = true) : x < y := by
  rcases goB_of.mp h with h | h
  · exact (ok.linkOf h).1
  · exact h.1
theorem goes_len (ok : HOk f es) {n : Nat} : ∀ (a : Nat) (r : List Nat), Goes es (a :: r) → (∀ x ∈ a :: r, x < n) → r.length + a < n
  | a, [], _, h => by have := h a List.mem_cons_self; simpa using this
  | a, b :: r, hg, h => by
    have h1 := goB_lt ok (hg (a, b) List.mem_cons_self)
    have := goes_len ok b r (fun p hp => hg p (List.mem_cons_of_mem _ hp)) fun x hx => h x (List.mem_cons_of_mem _ hx)
    simp only at h1
    rw [List.length_cons]
    omega
theorem not_self (ok : HOk f es) (x : Nat) : ¬ Goes es [x, x] := fun h => by
  have := goB_lt ok (h (x, x) List.mem_cons_self)
  simp only at this
  omega
end
end Mx

namespace Lk
open PySem PySem.Spec PyProof.Rows L2 Mx
section
variable {P : Program} {w : World} {K : PySem.W.Frag} {mg : Str → Option Value} {base : Heap} {C aN : Addr}
theorem pe_fnS {X : Cx} {CX : CXT} {x : Str} {k : Nat} {ps : List Str} {sp : Sp} {E : L2.St → XK} {e : Expr} {es : List Expr} {t : TA} {p pos : Pos} (d : Def X.prog X.w X.K X.mg X.base CX x k ps sp) (hr : Room k X.A) (hx : ∀ σ, PassesAt CX X σ (E σ)) (ha : PA X (e :: es) t) (hg : Gl X x := by rfl) (hdb : (x == ("__debug__" : Str)) = false := by decide) (he : starEach (e :: es) X.env = (false, eval e X.env) :: starEach es X.env := by rfl) (hpl : (backTo pos (starEach es X.env)).any (·.1) = false := by rfl) : PE X (.Call (.Name x p) (e :: es) [] pos) (tCallS sp E t) := by
  obtain ⟨f, fd, h1, h2, h3, h4⟩ := d.h
  exact pe_callS h4 hr hg h1 h2 h3 hx ha hdb he hpl
/-! ### _law_let -/
theorem q_try1 {sp : Sp} {Ef : Ends → L2.St → XK} {ta : TA} {tz : TS} {D : Ends} {σ : L2.St} {H : Hp} {i : Nat} {ds : List PyData} (ha : EvA K ta σ H ds)
    (h : ∀ vs H1, Same H H1 → TpAll K H1 vs ds → sp vs H1 (fun v H2 => ([v] : List V).length ≤ sizeLine ∧ ∀ b, H2 b = none → tz D (σ.set i (some (.ref b))) (upd H2 b (.lst [v]))) (Ef { D with nx := tz D } σ)) :
    tSeq (fun D σ H => tAsg (tLst (tCons (tCallS sp (Ef D) ta) tNil)) (gName i) D σ H) tz D σ H := ha H (Same.refl H) (fun vs H1 => sp vs H1 (fun v H2 => ([v] : List V).length ≤ sizeLine ∧ ∀ b, H2 b = none → tz D (σ.set i (some (.ref b))) (upd H2 b (.lst [v]))) (Ef { D with nx := tz D } σ)) h
def letD (f : Fd) (es : List Evt) (r : List Nat) (ds : List PyData) : Prop := (Goes es r ∧ ds = [dB (bsum f es r)]) ∨ (¬ Goes es r ∧ ds = [])
def relLet : List PyData → List PyData → Prop := fun ds d => ∃ f es r, ds = [dHist f es, dR r] ∧ HOk f es ∧ r ≠ [] ∧ r.length ≤ 1000 ∧ (∀ x ∈ r, x < es.length) ∧ letD f es r d
theorem okWlet (T : Txt K mg C aN) : Def P w K mg base CX0 "_law_let" 8 ["_law_history", "_law_thing"] (spL K relLet) := by
  refine def_of T.d__law_let scWlet (fun vs H Q E h => by obtain ⟨ds, es, h1, ⟨_, _, _, rfl, _⟩, _⟩ := h; rw [h1.len]; rfl) fun f cdv A outer s H0 E0 hr => ⟨_,
    (pss_cons (ps_set (i := 2) scWlet.nd rfl (Or.inl rfl) (pe_lst pa_nil))
      (pss_cons (ps_try_only (tb := fun W => tAsg (tLst (tCons (tCallS (spLets K C) (WE W) (tCons (tVar 0) (tCons (tVar 1) tNil))) tNil)) (gName 2)) (ts := fun _ _ _ => tAsg (tLst tNil) (gName 2)) (Wout := fun _ _ _ _ => False) rfl rfl ⟨rfl, by decide, .inl T.np.gC⟩ takes0 (fun W pn xe tk po => (pss_one (ps_set (i := 2) scWlet.nd rfl (Or.inl rfl) (pe_lst (pa_cons (pe_fnS (okLetsRelay T) hr (fun σ => passAt tk σ) (pa_cons (pv 0) (pa_cons (pv 1) pa_nil))) pa_nil))))) (fun _ _ _ _ _ _ _ => (pss_one (ps_set (i := 2) scWlet.nd rfl (Or.inl rfl) (pe_lst pa_nil)))))
      (pss_one (ps_ret (pv 2))))), fun H vs Q E h => ?_⟩
  obtain ⟨_, ds, hvs, ⟨fd, es, r, rfl, ok, hne, hlen, hin, hlet⟩, q⟩ := h
  have hS : Sto K H (L2.start ["_law_history", "_law_thing", "_law_found"] vs) [.dat (dHist fd es), .dat (dR r), .any] := by
    have := Sto.app hvs (Sto.anys (K := K) (H := H) (n := 1) (o := none))
    unfold L2.start
    rw [hvs.len]
    exact this
  have hgoal : ∀ (b : Addr) (bs : List V) (σ' : L2.St) (H' : Hp), H b = none → Same H H' → Sto K H' σ' [.dat (dHist fd es), .dat (dR r), .val (.ref b)] → H' b = some (.lst bs) → TpAll K H' bs ds → tRet (tVar 2) { nx := fun _ H' => Q .non H', rt := Q } σ' H' := fun b bs σ' H' hb e hS' hl hb' =>
    evv_var hS' rfl H' (Same.refl H') _ fun H2 e2 => q b bs H2 hb (e.trans e2) (e2 _ _ hl) (hb'.sm e2)
  refine q_setL (Same.refl H) hS (el_lst ea_nil) fun p xs σ1 H1 hp e1 _ hS1 hl1 hxs => ?_
  have ea : EvA K (tCons (tVar 0) (tCons (tVar 1) tNil)) σ1 H1 [dHist fd es, dR r] := ea_cons (ev_var hS1 rfl) (ea_cons (ev_var hS1 rfl) ea_nil)
  refine q_try1 ea fun vs2 H2 e2 hvs2 => ⟨fd, es, r, hvs2, ok, hne, hlen, hin, fun hgo v H3 e3 hv => ?_, fun hgo d H3 e3 => ?_⟩
  · refine ⟨sz_of (Nat.le_of_ble_eq_true rfl), fun b hb => ?_⟩
    rcases hlet with ⟨_, rfl⟩ | ⟨h, _⟩
    · exact hgoal b [v] _ _ ((e1.trans (e2.trans e3)).free hb) ((e1.trans (e2.trans e3)).trans (same_new hb)) (((hS1.sm (e2.trans e3)).tx (tx_new hb)).putV 2) upd_same (.one (hv.up (tx_new hb)))
    · exact absurd hgo h
  · refine ⟨true, T.np.te, fun _ a ha => ⟨Nat.zero_le _, fun b hb => ?_⟩, fun z => by cases z⟩
    rcases hlet with ⟨h, _⟩ | ⟨_, rfl⟩
    · exact absurd h hgo
    · exact hgoal b [] _ _ ((e1.trans (e2.trans e3)).free hb) ((e1.trans (e2.trans e3)).trans (same_new hb)) (((hS1.sm (e2.trans e3)).tx (tx_new hb)).putV 2) upd_same .nil
/-! ### _law_added -/
def relWadded : List PyData → PyData → Prop := fun ds d => ∃ a b, ds = [dB a, dB b] ∧ d = dB (addB a b)
theorem eqv_frO_none (o : Option Int) : PyData.eqv (frO o) .none = o.isNone := by
  cases o with
  | none => exact eqv_of_eq (a := .none) rfl rfl
  | some a => exact eqv_ne (by simp [frO, fr]) (pl_frO _) rfl
theorem okWadded (T : Txt K mg C aN) : Def P w K mg base CX0 "_law_added" 4 ["_law_one", "_law_other"] (spP K relWadded) := by
  refine def_pure T.d__law_added scWadded (fun ds d h => by obtain ⟨a, b, rfl, _⟩ := h; rfl) fun f cdv A outer s H0 E0 hr => ⟨_,
    (pss_cons (ps_if (pt_cmpR (op_ink (K := K) hr.u65) pe_non (pe_tup (pa_cons (pe_ix (ix_tupk (K := K)) (pv 0) pe_int (fun _ _ => rfl)) (pa_cons (pe_ix (ix_tupk (K := K)) (pv 1) pe_int (fun _ _ => rfl)) pa_nil))) (by rfl)) (pss_one (ps_ret (pe_tup (pa_cons (pe_fn ((okAdded T).mono (by decide)) hr pass0 (pa_cons (pe_ix (ix_tupk (K := K)) (pv 0) pe_int (fun _ _ => rfl)) (pa_cons (pe_ix (ix_tupk (K := K)) (pv 1) pe_int (fun _ _ => rfl)) pa_nil))) (pa_cons pe_non pa_nil))))) pss_nil)
      (pss_one (ps_ret (pe_tup (pa_cons (pe_fn ((okAdded T).mono (by decide)) hr pass0 (pa_cons (pe_ix (ix_tupk (K := K)) (pv 0) pe_int (fun _ _ => rfl)) (pa_cons (pe_ix (ix_tupk (K := K)) (pv 1) pe_int (fun _ _ => rfl)) pa_nil))) (pa_cons (pe_fn ((okAdded T).mono (by decide)) hr pass0 (pa_cons (pe_ix (ix_tupk (K := K)) (pv 0) pe_int (fun _ _ => rfl)) (pa_cons (pe_ix (ix_tupk (K := K)) (pv 1) pe_int (fun _ _ => rfl)) pa_nil))) pa_nil)))))), fun H σ ds d D hrel hS hk => ?_⟩
  obtain ⟨a, b, rfl, rfl⟩ := hrel
  have l0 : ∀ {H1}, Same H H1 → Ev K (tOp (rIxT K) (tVar 0) (tC (.int 0))) σ H1 (fr a.1) := fun {H1} g => ev_ix 0 (ev_var (hS.sm g) rfl) rfl
  have m0 : ∀ {H1}, Same H H1 → Ev K (tOp (rIxT K) (tVar 0) (tC (.int 1))) σ H1 (frO a.2) := fun {H1} g => ev_ix 1 (ev_var (hS.sm g) rfl) rfl
  have l1 : ∀ {H1}, Same H H1 → Ev K (tOp (rIxT K) (tVar 1) (tC (.int 0))) σ H1 (fr b.1) := fun {H1} g => ev_ix 0 (ev_var (hS.sm g) rfl) rfl
  have m1 : ∀ {H1}, Same H H1 → Ev K (tOp (rIxT K) (tVar 1) (tC (.int 1))) σ H1 (frO b.2) := fun {H1} g => ev_ix 1 (ev_var (hS.sm g) rfl) rfl
  refine q_if (b := a.2.isNone || b.2.isNone) (et_is (et_test (ev_inT (ds := [frO a.2, frO b.2]) (ev_non (K := K)) (ev_tup (ea_cons (m0 (Same.refl H)) (ea_cons (m1 (Same.refl H)) ea_nil))) (Sh.ok (n := 0) .none) (Sh.ok (n := 2) (.tup (.cons (sh_frO _) (.cons (sh_frO _) .nil)))))) ?_) (fun c H1 f1 => ?_) (fun c H1 f1 => ?_)
  · show ((PyData.eqv (frO a.2) .none) || ((PyData.eqv (frO b.2) .none) || false)) = _
    rw [eqv_frO_none, eqv_frO_none, Bool.or_false]
  · refine s_ret f1 (ev_tup (ea_cons (ev_call (d := fr (a.1 + b.1)) (ea_cons (l0 f1) (ea_cons (l1 f1) ea_nil)) ⟨_, _, rfl, rfl⟩) (ea_cons (ev_non (K := K)) ea_nil))) fun v H2 f2 hv => hk v H2 f2 ?_
    have : addO a.2 b.2 = none := by
      cases h1 : a.2 with
      | none => rfl
      | some x =>
        cases h2 : b.2 with
        | none => rfl
        | some y => rw [h1, h2] at c; cases c
    show Tp K H2 v (.tuple [fr (a.1 + b.1), frO (addO a.2 b.2)])
    rw [this]
    exact hv
  · cases h1 : a.2 with
    | none => rw [h1] at c; cases c
    | some x =>
      cases h2 : b.2 with
      | none => rw [h1, h2] at c; cases c
      | some y =>
        refine s_ret f1 (ev_tup (ea_cons (ev_call (d := fr (a.1 + b.1)) (ea_cons (l0 f1) (ea_cons (l1 f1) ea_nil)) ⟨_, _, rfl, rfl⟩) (ea_cons (ev_call (d := fr (x + y)) (ea_cons (ev_is (m0 f1) (by rw [h1]; rfl)) (ea_cons (ev_is (m1 f1) (by rw [h2]; rfl)) ea_nil)) ⟨_, _, rfl, rfl⟩) ea_nil))) fun v H2 f2 hv => hk v H2 f2 ?_
        show Tp K H2 v (.tuple [fr (a.1 + b.1), frO (addO a.2 b.2)])
        rw [h1, h2]
        exact hv
/-! ### _law_bounds_right -/
def relWright : List PyData → PyData → Prop := fun ds d => ∃ f es ww a r z, ds = [dHist f es, dW ww, dR (a :: r)] ∧ HOk f es ∧ FitsW f es ww ∧ r.length < 1000 ∧ (∀ x ∈ a :: r, x < es.length) ∧ Goes es (a :: r) ∧ (a :: r).getLast? = some z ∧ d = .bool true
theorem okWboundsRight (T : Txt K mg C aN) : Def P w K mg base CX0 "_law_bounds_right" 9 ["_law_history", "_law_world", "_law_relay"] (spP K relWright) := by
  refine def_pure T.d__law_bounds_right scWboundsRight (fun ds d h => by obtain ⟨f, es, ww, a, r, z, rfl, _⟩ := h; rfl) fun f cdv A outer s H0 E0 hr => ⟨_,
    (pss_cons (ps_asg (pe_fn ((okRelayBounds T).mono (by decide)) hr pass0 (pa_cons (pv 0) (pa_cons (pv 2) pa_nil))) (pg_tupk (K := K) (n := 2) rfl (pgs_cons (pg_name (i := 3) scWboundsRight.nd rfl (Or.inl rfl)) (pgs_cons (pg_name (i := 4) scWboundsRight.nd rfl (Or.inl rfl)) pgs_nil))))
      (pss_cons (ps_if (pt_cmpR (op_nek (K := K) hr.units) (pe_fn ((okWlet T).mono (by decide)) hr pass0 (pa_cons (pv 0) (pa_cons (pv 2) pa_nil))) (pe_lst (pa_cons (pe_tup (pa_cons (pv 3) (pa_cons (pv 4) pa_nil))) pa_nil)) (nomark _)) (pss_one (ps_ret pe_bl)) pss_nil)
      (pss_cons (ps_set (i := 5) scWboundsRight.nd rfl (Or.inl rfl) (pe_fn ((okLess T).mono (by decide)) hr pass0 (pa_cons (pe_ix (ix_tupk (K := K)) (pv 1) (pe_ix (ix_tupk (K := K)) (pv 2) (pe_un un_neg pe_int) (fun _ _ => rfl)) (fun _ _ => rfl)) (pa_cons (pe_ix (ix_tupk (K := K)) (pv 1) (pe_ix (ix_tupk (K := K)) (pv 2) pe_int (fun _ _ => rfl)) (fun _ _ => rfl)) pa_nil))))
      (pss_one (ps_ret (pe_and (pe_not (pe_fn ((okIsBelow T).mono (by decide)) hr pass0 (pa_cons (pv 5) (pa_cons (pv 3) pa_nil)))) (pe_one (pe_or (pe_cmpR op_isN' (pv 4) pe_non (nomark _)) (pe_one (pe_not (pe_fn ((okIsBelow T).mono (by decide)) hr pass0 (pa_cons (pv 4) (pa_cons (pv 5) pa_nil))))))))))))), fun H σ ds d D hrel hS hk => ?_⟩
  obtain ⟨fd, es, ww, a, r, z, rfl, ok, fw, hlen, hin, hgo, hlast, rfl⟩ := hrel
  have hB := bsum_world ok fw a r z hlast hin hgo
  generalize hb : bsum fd es (a :: r) = b at hB
  refine q_unp2 (d1 := fr b.1) (d2 := frO b.2) (Same.refl H) hS (ev_call (d := dB b) (ea_cons (ev_var hS rfl) (ea_cons (ev_var hS rfl) ea_nil)) ⟨fd, es, a :: r, rfl, ok, hin, by rw [hb]⟩) fun σ1 H1 f1 _ hS1 => ?_
  refine q_if (b := false) (et_is (et_test (ev_neL (el_call (es := [dB b]) (ea_cons (ev_var hS1 rfl) (ea_cons (ev_var hS1 rfl) ea_nil)) ⟨fd, es, a :: r, rfl, ok, List.cons_ne_nil _ _, by rw [List.length_cons]; omega, hin, .inl ⟨hgo, by rw [hb]⟩⟩)
    (el_lst (ds := [dB b]) (ea_cons (ev_tup (ea_cons (ev_var hS1 rfl) (ea_cons (ev_var hS1 rfl) ea_nil))) ea_nil)) (Sh.ok (n := 3) (.lst (.cons (sh_dB b) .nil))) (Sh.ok (n := 3) (.lst (.cons (sh_dB b) .nil))))) ?_) (fun c => by cases c) (fun _ H2 f2 => ?_)
  · have : PyData.eqv (.list [dB b]) (.list [dB b]) = PyData.eqvAll [dB b] [dB b] := by simp [PyData.eqv]
    rw [this, (eqvA_iff [dB b] [dB b] (PlA.map (f := dB) pl_dB [b]) (PlA.map (f := dB) pl_dB [b])).mpr rfl]
    rfl
  have hS2 := hS1.sm f2
  have hz : z < es.length := hin z (List.mem_of_getLast? hlast)
  have ha : a < es.length := hin a List.mem_cons_self
  have wget : ∀ {x}, x < es.length → ww[x]? = some (wz ww x) := fun {x} hx => by
    unfold wz
    have h : x < ww.length := by rw [fw.len]; exact hx
    rw [List.getD_eq_getElem?_getD, List.getElem?_eq_getElem h]
    rfl
  have hatl : atI ((a :: r).map dN) (-1) = some (dN z) := by
    have e : (a :: r).map dN = ((a :: r).dropLast.map dN) ++ [dN z] := by
      conv => lhs; rw [← List.dropLast_concat_getLast (List.cons_ne_nil a r)]
      rw [List.map_append]
      rw [List.getLast?_eq_some_getLast (List.cons_ne_nil a r)] at hlast
      rw [Option.some.inj hlast]
      rfl
    rw [e]
    exact atI_last _ _
  refine q_set (d := fr (wz ww z - wz ww a)) (f1.trans f2) hS2 (ev_call (ea_cons (ev_at (f := fr) (l := ww) (ev_var hS2 rfl) (ev_ixT (ev_var (d := .tuple ((a :: r).map dN)) hS2 rfl) (ev_un0 ev_int) hatl) (wget hz)) (ea_cons (ev_at (f := fr) (l := ww) (ev_var hS2 rfl) (ev_ix (d := dN a) 0 (ev_var (d := .tuple ((a :: r).map dN)) hS2 rfl) rfl) (wget ha)) ea_nil)) ⟨_, _, rfl, rfl⟩) fun σ3 H3 f3 _ hS3 => ?_
  refine s_ret f3 (ev_andV (a := true) (b := true) (ev_is (ev_notV (ev_call (ea_cons (ev_var hS3 rfl) (ea_cons (ev_var hS3 rfl) ea_nil)) ⟨_, _, rfl, rfl⟩)) ?_) fun _ => ev_is (ev_orV (a := b.2.isNone) (b := true) (ev_is (ev_isN (ev_var (d := frO b.2) hS3 rfl)) ?_) fun c => ?_) ?_) fun v H4 f4 hv => hk v H4 f4 hv
  · rw [decide_eq_false (by omega)]; rfl
  · rw [isN_frO]
  · cases h2 : b.2 with
    | none => rw [h2] at c; cases c
    | some m =>
      rw [h2] at hS3
      have := hB.2 m h2
      refine ev_is (ev_notV (ev_call (ea_cons (ev_var (d := fr m) hS3 rfl) (ea_cons (ev_var hS3 rfl) ea_nil)) ⟨_, _, rfl, rfl⟩)) ?_
      rw [decide_eq_false (by omega)]
      rfl
  · rw [Bool.or_true]
end
end Lk

namespace Lk
open PySem PySem.Spec PyProof.Rows L2 Mx
theorem _root_.L2.sw_trueD {kx vx : Expr} {gs : List Comprehension} {scope : Scope} {pos py : Pos} {y : Str} {l : Nat} {env : Env} (hk : env.scope.kind = .function) (hy : env.scope.names.lookup y = some .local) (hl : (py.line == pos.line) = true)
    (ha : (scope.names.any fun (n, k) => n == y && (k == .local || k == .cell)) = false) : swapsWith (.DictComp kx vx gs scope pos) (some (.Name y py)) l env = pure true := by
  have kdy : env.kindOf y = some .local := hy
  have hfn : env.blockKind = .function := by unfold Env.blockKind; rw [hk]; rfl
  unfold swapsWith
  simp only [hfn, kdy, ha, Expr.pos, hl]
  rfl
/-- y = {k: v for ..}: the block hands its dict to the name itself -/
theorem _root_.L2.ps_setDc {X : Cx} {i : Nat} {y : Str} {py : Pos} {kx vx tg iter : Expr} {ifs : List Expr} {scope : Scope} {own : List (Str × Nat)} {pos spos : Pos} {wi : TI} {g : TG} {tt : TT} {tk tv : TE} (hc : X.calm = true) (hN : X.N.Nodup) (hy : X.N[i]? = some y) (hyl : X.env.scope.names.lookup y = some .local)
    (hswp : swapsWith (.DictComp kx vx [⟨tg, iter, ifs, 0⟩] scope pos) (some (.Name y py)) spos.line X.env = pure true) (hi : PI X tg iter wi) (ok : BlkOk X.N X.env.scope scope own)
    (hg : ∀ (s : Shared) (H : Hp) (C : Addr) (cl : List (Str × Addr)) (fq : List Addr), PG (X.blk s H scope (compEnvC scope cl C X.env) fq) tg g) (ht : ∀ (s : Shared) (H : Hp) (C : Addr) (cl : List (Str × Addr)) (fq : List Addr), PTs (X.blk s H scope (compEnvC scope cl C X.env) fq) ifs tt)
    (hk : ∀ (s : Shared) (H : Hp) (C : Addr) (cl : List (Str × Addr)) (fq : List Addr), PE (X.blk s H scope (compEnvC scope cl C X.env) fq) kx tk)
    (he : ∀ (s : Shared) (H : Hp) (C : Addr) (cl : List (Str × Addr)) (fq : List Addr), PE (X.blk s H scope (compEnvC scope cl C X.env) fq) vx tv) (hs : ∀ x, foldedSetIterable iter X.env x = pure x := by intro _; rfl) :
    PS X (.Assign [.Name y py] (.DictComp kx vx [⟨tg, iter, ifs, 0⟩] scope pos) spos) (tAsg (tDc wi g tt tk tv (own.map (·.2))) (gName i)) := by
  refine ⟨fun pns s σ H D I h => ?_⟩
  rw [exec_Assign_Name_used _ _ _ _ hswp]
  refine wpAny_bind (wpAny_standAt (wpAny_bind (?_)))
  show wpAny _ X.A (do let _ ← comprehension (.DictComp kx vx [⟨tg, iter, ifs, 0⟩] scope pos) scope X.env (firstIterPos [⟨tg, iter, ifs, 0⟩] pos) newDict false (eval iter X.env) (some (assign (.Name y py) X.env))) _ _ s
  have h : tDc wi g tt tk tv (own.map (·.2)) σ H (fun x H1 => gName i x σ H1 D.nx) := h
  refine wpAny_bind (thn (dc_core (Qf := fun _ s' => SP X pns D .next s') hc hN I hi ok hg ht hk he hs h fun L C s' m H' I' q hnm f => ?_) fun _ s' hq => wpAny_pure (wpAny_pure hq))
  show wpAny (model X.prog X.w) _ (assign (.Name y py) X.env (.ref L)) _ _ _
  refine wpAny_assign_Name (store_ok2 (v := V.ref L) I' hN hy (.inl hyl) rfl (fun s₂ J₂ ⟨a, sbo, ha⟩ => ?_) (.inr hyl))
  obtain ⟨g0, g1, g2, g3, g4, g5⟩ := f
  have hneC : C ≠ a := by
    rcases ha with z | z
    · rw [z]; exact g1
    · exact fun e => g4 y a z e.symm
  refine ⟨m, hnm.sameBut sbo hneC, fun hp3 sbt => ?_⟩
  exact ⟨_, H', J₂.turned (t' := s₂.toks) (fun b o hb e => (sbt.2 b hb).trans e) g0 g1 g3 g4 g5, q⟩
section
variable {P : Program} {w : World} {K : PySem.W.Frag} {mg : Str → Option Value} {base : Heap} {C aN : Addr}
def relPart : List PyData → PyData → Prop := fun ds d => ∃ f es y, ds = [dHist f es, dN y] ∧ HOk f es ∧ y < es.length ∧ d = dHist f (partE es y)
theorem okPartHeard (T : Txt K mg C aN) : Def P w K mg base CX0 "part_heard" 4 ["history", "number"] (spP K relPart) := by
  refine def_pure T.d_part_heard scPartHeard (fun ds d h => by obtain ⟨f, es, y, rfl, _⟩ := h; rfl) fun f cdv A outer s H0 E0 hr => ⟨_,
    (pss_cons (ps_asg (pv 0) (pg_tupk (K := K) (n := 2) rfl (pgs_cons (pg_name (i := 2) scPartHeard.nd rfl (Or.inl rfl)) (pgs_cons (pg_name (i := 3) scPartHeard.nd rfl (Or.inl rfl)) pgs_nil))))
      (pss_cons (ps_set (i := 4) scPartHeard.nd rfl (Or.inl rfl) (pe_fn ((okHasHeard T).mono (by decide)) hr pass0 (pa_cons (pv 0) (pa_cons (pv 1) pa_nil))))
      (pss_cons (ps_setDc (i := 5) (own := [("k", 11), ("one", 7)]) (g := gTup K 2 (gCons (gName 11) (gCons (gName 7) (gNil)))) rfl scPartHeard.nd rfl rfl (sw_trueD rfl rfl rfl (by decide +kernel)) (pi_enumk (K := K) (by rfl) T.z_enumerate (pa_cons (pv 4) pa_nil)) (blkOk_by (own := [("k", 11), ("one", 7)]) (N := ["history", "number", "field", "events", "numbers", "places", "found", "one", "house", "stamp", "deed", "k"]) (sc := defScope sPartHeard) (by decide +kernel)) (fun _ _ _ _ _ => (pg_tupk (K := K) (n := 2) rfl (pgs_cons (pg_name (i := 11) scPartHeard.nd rfl (Or.inl rfl)) (pgs_cons (pg_name (i := 7) scPartHeard.nd rfl (Or.inl rfl)) pgs_nil)))) (fun _ _ _ _ _ => pts_nil) (fun _ _ _ _ _ => (pv 7)) (fun _ _ _ _ _ => (pv 11)))
      (pss_cons (ps_set (i := 6) scPartHeard.nd rfl (Or.inl rfl) (pe_lst pa_nil))
      (pss_cons (ps_for PassesOwn.never rfl (pi_tupk (K := K) (pv 4)) (pg_name (i := 7) scPartHeard.nd rfl (Or.inl rfl)) (pss_cons (ps_asg (pe_ix (ix_tupk (K := K)) (pv 3) (pv 7) (fun _ _ => rfl)) (pg_tupk (K := K) (n := 3) rfl (pgs_cons (pg_name (i := 8) scPartHeard.nd rfl (Or.inl rfl)) (pgs_cons (pg_name (i := 9) scPartHeard.nd rfl (Or.inl rfl)) (pgs_cons (pg_name (i := 10) scPartHeard.nd rfl (Or.inl rfl)) pgs_nil)))))
      (pss_one (ps_expr (pe_bmk (K := K) PySem.F.plainAttrs_list PySem.F.slot_list_append PySem.F.type_list_append mt_append (pv 6) (pa_cons (pe_tup (pa_cons (pv 8) (pa_cons (pv 9) (pa_cons (pe_ifExp (pt_cmpR (op_eqk (K := K) hr.units) (pe_ix (ix_tupk (K := K)) (pv 10) pe_int (fun _ _ => rfl)) pe_str (nomark _)) (pe_tup (pa_cons pe_str (pa_cons (pe_dget (hu_of hr) (pv 5) (pe_ix (ix_tupk (K := K)) (pv 10) pe_int (fun _ _ => rfl)) (fun _ _ => rfl)) pa_nil))) (pv 10)) pa_nil)))) pa_nil))))))
      (pss_one (ps_ret (pe_tup (pa_cons (pv 2) (pa_cons (pe_callTy (call_tuplek (K := K)) (by rfl) T.z_tuple (by decide +kernel) (pa_cons (pv 6) pa_nil)) pa_nil)))))))))), fun H σ ds d D hrel hS hk => ?_⟩
  obtain ⟨fd, es, y, rfl, ok, hy, rfl⟩ := hrel
  have h20 := heard_len es y
  have n20 := ok.n
  refine q_unp2 (d1 := dF fd) (d2 := .tuple (es.map dE)) (Same.refl H) hS (ev_var (d := dHist fd es) hS rfl) fun σ1 H1 f1 _ hS1 => ?_
  refine q_set f1 hS1 (ev_heard (ea_cons (ev_var hS1 rfl) (ea_cons (ev_var hS1 rfl) ea_nil)) ok hy) fun σ2 H2 f2 _ hS2 => ?_
  refine ev_var (K := K) (i := 4) (d := .tuple ((heard es y).map dN)) hS2 rfl H2 (Same.refl H2) _ fun v H3 e3 hv => ?_
  obtain ⟨pa, xs, rfl, hq, hx⟩ := hv.tup_inv
  have exs := tpN_inv hx
  subst exs
  have hS3 := hS2.sm e3
  have f3 := f2.trans e3
  refine ⟨pa, _, rfl, hq, fun Da hD => ?_⟩
  have hD0 : H Da = none := f3.free hD
  have hlen : ((heard es y).map vN).length = (heard es y).length := by rw [List.length_map]
  refine dc_it (walk_enumT (K := K) (a := pa) (xs := (heard es y).map vN)) (fun i H' => ∃ kvs, H' Da = some (.dK kvs) ∧ kvs.length ≤ i ∧ Same H3 H' ∧ ∀ j x, j < i → (heard es y)[j]? = some x → valV kvs (kN x) = some (.int ((j : Nat) : Int)))
    ⟨[], upd_same, Nat.le_refl _, same_new hD, fun j x hj => absurd hj (Nat.not_lt_zero _)⟩ (fun i H' _ p => ?_) (fun i x H' H'' hi p yy => ?_) (fun H' p => ?_)
  · obtain ⟨kvs, _, _, e, _⟩ := p
    exact sqT_tx (same_tx e) hq
  · obtain ⟨kvs, hkv, hkl, e, hall⟩ := p
    obtain ⟨Tt, y1, y2, rfl, hT, rfl, e1, e2⟩ := yy
    have e1' : V.int ((i : Nat) : Int) = y1 := Option.some.inj e1
    subst e1'
    obtain ⟨a, ha, rfl⟩ := Option.map_eq_some_iff.mp ((List.getElem?_map (f := vN) (l := heard es y) (i := i)).symm.trans e2)
    have hi20 : i < 21 := by omega
    refine ⟨Tt, _, rfl, .inl (.inl upd_same), rfl, _, _, rfl, _, _, rfl, rfl, ?_, ?_⟩
    · rw [wipe_setG (by decide), wipe_setG (by decide), wipe_idem]
    · have eU : Same H3 (upd H' Tt (.tup [.int ((i : Nat) : Int), vN a])) := e.trans (same_new hT)
      have hS4 : Sto K (upd H' Tt (.tup [.int ((i : Nat) : Int), vN a])) (((L2.wipe σ2 [11, 7]).set 11 (some (V.int ((i : Nat) : Int)))).set 7 (some (vN a))) [.dat (dHist fd es), .dat (dN y), .dat (dF fd), .dat (.tuple (es.map dE)), .dat (dR (heard es y)), .any, .any, .val (vN a), .any, .any, .any, .val (.int ((i : Nat) : Int))] :=
        (((hS3.sm eU).wipe [11, 7]).putV 11).putV 7
      refine yes_if ?_
      refine evv_var hS4 rfl _ (Same.refl _) _ fun H5 e5 => ?_
      refine evv_var (hS4.sm e5) rfl H5 (Same.refl _) _ fun H6 e6 => ?_
      have e56 := e5.trans e6
      have hk6 : H6 Da = some (.dK kvs) := e56 _ _ (same_new hT _ _ hkv)
      refine ⟨kvs, kN a, rfl, hk6, sz_lt (by omega), putK kvs (kN a) _, upd_same, ?_, ?_, fun j x hj hx' => ?_⟩
      · exact Nat.le_trans (putK_le _ _ _) (by omega)
      · exact same_mut (eU.trans e56) hD
      · rw [valV_put]
        by_cases hji : j = i
        · subst hji
          rw [ha] at hx'
          cases hx'
          rw [if_pos rfl]
        · rw [if_neg, hall j x (by omega) hx']
          intro z
          rw [kN_inj z] at hx'
          have g1 := idx_at (heard_nodup es y) hx'
          have g2 := idx_at (heard_nodup es y) ha
          exact hji (g1.symm.trans g2)
  · obtain ⟨kvs, hkv, hkl, e, hall⟩ := p
    have hval : ∀ x ∈ heard es y, valV kvs (kN x) = some (.int (((heard es y).idxOf x : Nat) : Int)) := fun x hxm => hall _ x (by rw [hlen]; exact List.idxOf_lt_length_of_mem hxm) (idx_get hxm)
    have hS5 : Sto K H' (σ2.set 5 (some (.ref Da))) [.dat (dHist fd es), .dat (dN y), .dat (dF fd), .dat (.tuple (es.map dE)), .dat (dR (heard es y)), .val (.ref Da), .any, .any, .any, .any, .any, .any] := (hS3.sm e).putV 5
    have f5 := f3.trans e
    show tSeq (tAsg (tLst tNil) (gName 6)) _ D (σ2.set 5 (some (.ref Da))) H'
    refine q_setL f5 hS5 (el_lst ea_nil) fun pl ys σ6 H6 hpl f6 e6 hS6 hl6 hys => ?_
    have hk6 := e6 _ _ hkv
    have npl : pl ≠ Da := fun z => by rw [z, hkv] at hpl; cases hpl
    have hpl0 : H pl = none := f5.free hpl
    have eys : ys = [] := by cases hys; rfl
    subst eys
    refine q_forT (ev_var (d := .tuple ((heard es y).map dN)) hS6 rfl) (fun H7 i σ' H' => Tx H7 H' ∧ Same H H' ∧ Sto K H' σ' [.dat (dHist fd es), .dat (dN y), .dat (dF fd), .dat (.tuple (es.map dE)), .dat (dR (heard es y)), .val (.ref Da), .val (.ref pl), .any, .any, .any, .any, .any] ∧ H' Da = some (.dK kvs) ∧
      ∃ acc, H' pl = some (.lst acc) ∧ TpAll K H' acc (((partE es y).take i).map dE)) (fun _ _ _ _ p => p.1) (fun H7 e7 => ⟨Tx.refl _, f6.trans e7, hS6.sm e7, e7 _ _ hk6, [], e7 _ _ hl6, .nil⟩) (fun H7 e7 i z d σ' H' hd hz p => ?_) (fun H7 e7 σ' H' p => ?_)
    · obtain ⟨t1, g0, hS7, hk7, acc, hl7, hacc⟩ := p
      rw [List.getElem?_map] at hd
      obtain ⟨x, hx', rfl⟩ := Option.map_eq_some_iff.mp hd
      have hxm := List.mem_of_getElem? hx'
      have hi20 : i < 21 := by have := (List.getElem?_eq_some_iff.mp hx').1; omega
      have a := at_lt (heard_lt ok hy hxm)
      have hpe := partE_at hx'
      rw [evAt_of a] at hpe
      generalize es[x]'(heard_lt ok hy hxm) = e at a hpe
      refine g_name hS7 hz fun σ8 hS8 => ?_
      refine q_unp3 (d1 := .str e.house) (d2 := fr e.stamp) (d3 := dD e.deed) g0 hS8 (ev_evt (ev_var (d := .tuple (es.map dE)) hS8 rfl) (ev_var hS8 rfl) a) fun σ9 H9 g9 e9 hS9 => ?_
      refine s_app (e9 _ _ hl7) (evv_var hS9 rfl) (d := dE (renE (heard es y) e)) (ev_tup (ea_cons (ev_var hS9 rfl) (ea_cons (ev_var hS9 rfl) (ea_cons (d := dD (renD (heard es y) e.deed)) (ev_if (et_test (ev_isH (ev_var hS9 rfl))) (fun c => ?_) (fun c => ?_)) ea_nil)))) (by have h1 := hacc.len; have h2 := List.length_take_le i (partE es y); rw [List.length_map] at h1; omega) fun v H10 e10 hv => ?_
      · obtain ⟨k, hk'⟩ := isH_of c
        rw [hk'] at hS9 ⊢
        refine ev_tup (ea_cons ev_str (ea_cons (ev_dget (k := kN k) (evd_var hS9 rfl (e9 _ _ hk7) (hval k (hear_in ok hxm (by rw [dz_of a, hk']))) (.int _)) (evv_int (ev_ix 1 (ev_var (d := dD (.hear k)) hS9 rfl) rfl))) ea_nil))
      · have : renD (heard es y) e.deed = e.deed := by
          cases h : e.deed with
          | mark => rfl
          | send l => rfl
          | hear k => exact absurd h (isH_not c k)
        rw [this]
        exact ev_var hS9 rfl
      · have hl10 := e10 _ _ (e9 _ _ hl7)
        have et : ((partE es y).take (i + 1)).map dE = ((partE es y).take i).map dE ++ [dE (renE (heard es y) e)] := by
          rw [List.take_add_one, hpe, List.map_append]
          rfl
        refine ⟨((t1.trans (same_tx e9)).trans (same_tx e10)).trans (tx_lst hl10), same_mut (g9.trans e10) hpl0, ?_, ?_, acc ++ [v], upd_same, ?_⟩
        · exact (((((hS9.sm e10).tx (tx_lst hl10)).drop 7).drop 8).drop 9).drop 10
        · rw [upd_ne npl.symm]
          exact e10 _ _ (e9 _ _ hk7)
        · rw [et]
          exact (((hacc.sm e9).sm e10).app (.one hv)).up (tx_lst hl10)
    · obtain ⟨t1, g0, hS7, hk7, acc, hl7, hacc⟩ := p
      rw [List.take_of_length_le (by rw [partE_len, List.length_map]; exact Nat.le_refl _)] at hacc
      exact s_ret g0 (ev_tup (ea_cons (ev_var hS7 rfl) (ea_cons (ev_tupL (evv_var hS7 rfl) (.inl (.inl hl7)) hacc) ea_nil))) fun v H8 g8 hv => hk v H8 g8 hv
end
end Lk

namespace Lk
open PySem PySem.Spec PyProof.Rows L2 Mx
section
variable {P : Program} {w : World} {K : PySem.W.Frag} {mg : Str → Option Value} {base : Heap} {C aN : Addr}
theorem q_setHeard {σ : L2.St} {H H0 : Hp} {ρ : List Sl} {ta : TA} {tz : TS} {D : Ends} {E : XK} {i y : Nat} {f : Fd} {es : List Evt} (e0 : Same H0 H) (hS : Sto K H σ ρ) (ha : EvA K ta σ H [dHist f es, dN y]) (ok : HOk f es) (hy : y < es.length)
    (k : ∀ p σ' H1, Same H0 H1 → Same H H1 → TupZ H1 p ((heard es y).map vN) → Sto K H1 σ' (ρ.set i (.val (.ref p))) → tz D σ' H1) : tSeq (tAsg (tCall (spHeard K) [] E ta) (gName i)) tz D σ H :=
  ha H (Same.refl H) _ fun vs H1 e1 hvs => ⟨f, es, y, by rw [List.append_nil]; exact hvs, ok, hy, fun p H2 e2 hz => k p _ H2 (e0.trans (e1.trans e2)) (e1.trans e2) hz ((hS.sm (e1.trans e2)).putV i)⟩
theorem ev_index {σ : L2.St} {H : Hp} {to ta : TE} {p : Addr} {l : List Nat} {x : Nat} (ho : EvV to σ H (.ref p)) (hz : TupZ H p (l.map vN)) (ha : Ev K ta σ H (dN x)) (nd : l.Nodup) (hx : x ∈ l) : Ev K (tBMZ (rTIdx K) to (tCons ta tNil)) σ H (dN (l.idxOf x)) := fun H1 e Q q =>
  ho H1 e _ fun H2 e2 => ⟨⟨p, _, rfl, hz.sm (e.trans e2)⟩, ha H2 (e.trans e2) _ fun v H3 e3 hv => by
    have ev : v = .int (x : Int) := hv.int_inv
    subst ev
    have em : (l.map fun n : Nat => (n : Int)).map V.int = l.map vN := by rw [List.map_map]; rfl
    refine ⟨p, l.map fun n : Nat => (n : Int), (x : Int), l.idxOf x, rfl, rfl, ?_, ?_, fun m hm h => ?_, q _ H3 (e2.trans e3) (.int _)⟩
    · rw [em]
      exact (hz.sm ((e.trans e2).trans e3)).sq
    · rw [List.getElem?_map, idx_get hx]
      rfl
    · rw [List.getElem?_map] at h
      obtain ⟨u, hu, eu⟩ := Option.map_eq_some_iff.mp h
      have hux : u = x := by omega
      rw [hux] at hu
      have := idx_at nd hu
      omega⟩
theorem eqv_dB (b : Int × Option Int) : PyData.eqv (dB b) (dB b) = true := eqv_of_eq rfl (pl_dB b)
def relPair : List PyData → PyData → Prop := fun ds d => ∃ f es ww x y, ds = [dHist f es, dW ww, dN x, dN y] ∧ HOk f es ∧ FitsW f es ww ∧ x < es.length ∧ y < es.length ∧ d = .bool true
open Classical in
theorem okWpairRight (T : Txt K mg C aN) : Def P w K mg base CX0 "_law_pair_right" 10 ["_law_history", "_law_world", "_law_x", "_law_y"] (spP K relPair) := by
  refine def_pure T.d__law_pair_right scWpairRight (fun ds d h => by obtain ⟨f, es, ww, x, y, rfl, _⟩ := h; rfl) fun f cdv A outer s H0 E0 hr => ⟨_,
    (pss_cons (ps_set (i := 4) scWpairRight.nd rfl (Or.inl rfl) (pe_fn ((okRelayFrom T).mono (by decide)) hr pass0 (pa_cons (pv 0) (pa_cons (pv 2) (pa_cons (pv 3) pa_nil)))))
      (pss_cons (ps_if (pt_cmpR (op_nek (K := K) hr.units) (pe_cmpR op_isN' (pv 4) pe_non (nomark _)) (pe_cmpR (op_nink (K := K) hr.u65) (pv 2) (pe_fn ((okHasHeard T).mono (by decide)) hr pass0 (pa_cons (pv 0) (pa_cons (pv 3) pa_nil))) (by rfl)) (nomark _)) (pss_one (ps_ret pe_bl)) pss_nil)
      (pss_cons (ps_if (pt_cmpR op_isN' (pv 4) pe_non (nomark _)) (pss_one (ps_ret pe_bl)) pss_nil)
      (pss_cons (ps_if (pt_not (pt_val (pe_fn ((okWboundsRight T).mono (by decide)) hr pass0 (pa_cons (pv 0) (pa_cons (pv 1) (pa_cons (pv 4) pa_nil)))))) (pss_one (ps_ret pe_bl)) pss_nil)
      (pss_cons (ps_for PassesOwn.never rfl (pi_range1 (by rfl) T.z_range (pa_cons (pe_callB (call_lenk (K := K)) (by rfl) T.z_len (by decide +kernel) (pa_cons (pv 4) pa_nil)) pa_nil)) (pg_name (i := 5) scWpairRight.nd rfl (Or.inl rfl)) (pss_cons (ps_set (i := 6) scWpairRight.nd rfl (Or.inl rfl) (pe_lst (pa_cons (pe_fn ((okRelayBounds T).mono (by decide)) hr pass0 (pa_cons (pv 0) (pa_cons (pe_slice (sl_tupk (K := K)) (pv 4) po_none (po_some (pe_op op_add (pv 5) pe_int))) pa_nil))) (pa_cons (pe_fn ((okRelayBounds T).mono (by decide)) hr pass0 (pa_cons (pv 0) (pa_cons (pe_slice (sl_tupk (K := K)) (pv 4) (po_some (pv 5)) po_none) pa_nil))) pa_nil))))
      (pss_one (ps_if (pt_cmpR (op_nek (K := K) hr.units) (pe_fn ((okWadded T).mono (by decide)) hr pass0 (pa_cons (pe_ix (ix_listk (K := K)) (pv 6) pe_int (fun _ _ => rfl)) (pa_cons (pe_ix (ix_listk (K := K)) (pv 6) pe_int (fun _ _ => rfl)) pa_nil))) (pe_fn ((okRelayBounds T).mono (by decide)) hr pass0 (pa_cons (pv 0) (pa_cons (pv 4) pa_nil))) (nomark _)) (pss_one (ps_ret pe_bl)) pss_nil))))
      (pss_cons (ps_set (i := 7) scWpairRight.nd rfl (Or.inr rfl) (pe_fn ((okHasHeard T).mono (by decide)) hr pass0 (pa_cons (pv 0) (pa_cons (pv 3) pa_nil))))
      (pss_cons (ps_set (i := 8) scWpairRight.nd rfl (Or.inl rfl) (pe_callTy (call_tuplek (K := K)) (by rfl) T.z_tuple (by decide +kernel) (pa_cons (pe_lc (own := [("_law_one", 9)]) (g := gName 9) rfl scWpairRight.nd (pi_tupk (K := K) (pv 4)) (blkOk_by (own := [("_law_one", 9)]) (N := ["_law_history", "_law_world", "_law_x", "_law_y", "_law_relay", "_law_k", "_law_parts", "_law_heard", "_law_own", "_law_one"]) (sc := defScope sWpairRight) (by decide +kernel)) (fun _ _ _ _ _ => (pg_name (i := 9) scWpairRight.nd rfl (Or.inl rfl))) (fun _ _ _ _ _ => pts_nil) (fun _ _ _ _ _ => (pe_bmZ PySem.F.plainAttrs_tuple PySem.F.slot_tuple_index PySem.F.type_tuple_index (mt_tidxk (K := K)) (pv 7) (pa_cons (pv 9) pa_nil)))) pa_nil)))
      (pss_one (ps_ret (pe_cmpR (op_eqk (K := K) hr.units) (pe_fn ((okRelayBounds T).mono (by decide)) hr pass0 (pa_cons (pe_fn ((okPartHeard T).mono (by decide)) hr pass0 (pa_cons (pv 0) (pa_cons (pv 3) pa_nil))) (pa_cons (pv 8) pa_nil))) (pe_fn ((okRelayBounds T).mono (by decide)) hr pass0 (pa_cons (pv 0) (pa_cons (pv 4) pa_nil))) (nomark _))))))))))), fun H σ ds d D hrel hS hk => ?_⟩
  obtain ⟨fd, es, ww, x, y, rfl, ok, fw, hx, hy, rfl⟩ := hrel
  have n20 := ok.n
  refine q_setN (Same.refl H) hS (evn_from (ea_cons (ev_var hS rfl) (ea_cons (ev_var hS rfl) (ea_cons (ev_var hS rfl) ea_nil))) ok hx hy) fun dr σ1 H1 hd f1 _ hS1 => ?_
  have hxy : isN dr = !decide (x ∈ heard es y) := by
    rcases hd with ⟨h, rfl⟩ | ⟨h, r, rfl, _⟩
    · rw [decide_eq_false fun z => h ((mem_heard ok).mp z)]; rfl
    · rw [decide_eq_true ((mem_heard ok).mpr h)]; rfl
  refine q_if (b := false) (et_test (ev_is (ev_ne (ev_isN (ev_var (d := dr) hS1 rfl)) (ev_is (d' := .bool (!decide (x ∈ heard es y))) (ev_ninT (ds := (heard es y).map dN) (ev_var (d := dN x) hS1 rfl) (ev_heard (ea_cons (ev_var hS1 rfl) (ea_cons (ev_var hS1 rfl) ea_nil)) ok hy) (Sh.ok (n := 0) .int) (Sh.ok (sh_dR _))) (by rw [any_dR])) (Sh.ok (n := 0) .bool) (Sh.ok (n := 0) .bool)) ?_)) (fun c => by cases c) (fun _ H2 f2 => ?_)
  · rw [hxy, eqv_bool, beq_self_eq_true]
    rfl
  have hS2 := hS1.sm f2
  rcases hd with ⟨hR, rfl⟩ | ⟨hR, r, rfl, hlast, hgo, hall⟩
  · exact q_if (b := true) (et_test (ev_is (ev_isN (ev_var (d := .none) hS2 rfl)) rfl)) (fun _ H3 f3 => s_ret ((f1.trans f2).trans f3) (ev_bl (K := K)) fun v H4 f4 hv => hk v H4 f4 hv) (fun c => by cases c)
  refine q_if (b := false) (et_test (ev_is (ev_isN (ev_var (d := dR (x :: r)) hS2 rfl)) rfl)) (fun c => by cases c) (fun _ H3 f3 => ?_)
  have hS3 := hS2.sm f3
  have hin : ∀ u ∈ x :: r, u < es.length := fun u hu => by
    have := (hall u hu).le ok
    omega
  have hrl := goes_len ok x r hgo hin
  refine q_if (b := false) (et_not (a := true) (et_test (ev_call (ea_cons (ev_var hS3 rfl) (ea_cons (ev_var hS3 rfl) (ea_cons (ev_var hS3 rfl) ea_nil))) ⟨fd, es, ww, x, r, y, rfl, ok, fw, by omega, hin, hgo, hlast, rfl⟩))) (fun c => by cases c) (fun _ H4 f4 => ?_)
  have hS4 := hS3.sm f4
  have g4 : Same H H4 := (f1.trans f2).trans (f3.trans f4)
  generalize hrr : x :: r = rr at hS4 hall hin hgo hlast
  have hrl' : rr.length ≤ 20 := by rw [← hrr, List.length_cons]; omega
  refine q_forR1 (n := ((rr.map dN).length : Int)) (ea_cons (ev_lenT (ea_cons (ev_var (d := .tuple (rr.map dN)) hS4 rfl) ea_nil)) ea_nil) (by rw [List.length_map]; omega) (by omega)
    (fun i σ' H' => Same H H' ∧ Sto K H' σ' [.dat (dHist fd es), .dat (dW ww), .dat (dN x), .dat (dN y), .dat (dR rr), .any, .any, .any, .any, .any]) (fun H5 f5 => ⟨g4.trans f5, hS4.sm f5⟩) (fun i σ' H' hi p => ?_) (fun σ' H' p => ?_)
  · obtain ⟨g5, hS5⟩ := p
    rw [List.length_map] at hi
    refine g_name (d := .int (i : Int)) hS5 (.int _) fun σ6 hS6 => ?_
    have t1 := ev_slT (K := K) (ev_var (i := 4) (d := .tuple (rr.map dN)) hS6 rfl) eo_none (eo_some (K := K) (ev_i0 (f := fun i j => i + j) (ev_var (i := 5) (d := .int (i : Int)) hS6 rfl) (ev_int (i := 1))))
    rw [show ((i : Int) + 1) = ((i + 1 : Nat) : Int) by omega, cutD_take, ← List.map_take] at t1
    have t2 := ev_slT (K := K) (ev_var (i := 4) (d := .tuple (rr.map dN)) hS6 rfl) (eo_some (K := K) (ev_var (i := 5) (d := .int (i : Int)) hS6 rfl)) eo_none
    rw [cutD_drop, ← List.map_drop] at t2
    refine q_setL (ds := [dB (bsum fd es (rr.take (i + 1))), dB (bsum fd es (rr.drop i))]) g5 hS6 (el_lst (ea_cons (ev_call (ea_cons (ev_var hS6 rfl) (ea_cons t1 ea_nil)) ⟨fd, es, rr.take (i + 1), rfl, ok, fun u hu => hin u (List.mem_of_mem_take hu), rfl⟩)
      (ea_cons (ev_call (ea_cons (ev_var hS6 rfl) (ea_cons t2 ea_nil)) ⟨fd, es, rr.drop i, rfl, ok, fun u hu => hin u (List.mem_of_mem_drop hu), rfl⟩) ea_nil))) fun pp xs σ7 H7 hpp g7 f7 hS7 hl7 hxs => ?_
    obtain ⟨v1, v2, rfl, hv1, hv2⟩ := hxs.two_inv
    refine s_if (b := false) (et_test (ev_is (ev_ne (ev_call (ea_cons (ev_ixL (evv_var hS7 rfl) (ev_int (i := 0)) (.inl (.inl hl7)) rfl hv1) (ea_cons (ev_ixL (evv_var hS7 rfl) (ev_int (i := 1)) (.inl (.inl hl7)) rfl hv2) ea_nil)) ⟨_, _, rfl, rfl⟩) (ev_call (ea_cons (ev_var hS7 rfl) (ea_cons (ev_var hS7 rfl) ea_nil)) ⟨fd, es, rr, rfl, ok, hin, rfl⟩) (Sh.ok (sh_dB _)) (Sh.ok (sh_dB _))) ?_)) (fun c => by cases c) (fun _ H8 f8 => ⟨g7.trans f8, ((hS7.sm f8).drop 5).drop 6⟩)
    rw [bsum_parts, eqv_dB]
    rfl
  · obtain ⟨g5, hS5⟩ := p
    refine q_setHeard g5 hS5 (ea_cons (ev_var hS5 rfl) (ea_cons (ev_var hS5 rfl) ea_nil)) ok hy fun ph σ6 H6 g6 f6 hz hS6 => ?_
    have hsub : ∀ u ∈ rr, u ∈ heard es y := fun u hu => (mem_heard ok).mpr (hall u hu)
    refine q_set (d := dR (rr.map (heard es y).idxOf)) g6 hS6 (ev_tupN ?_) fun σ7 H7 g7 f7 hS7 => ?_
    · rw [show (rr.map (heard es y).idxOf).map dN = (rr.filter fun _ => true).map (fun u => dN ((heard es y).idxOf u)) by rw [List.filter_eq_self.mpr fun _ _ => rfl, List.map_map]; rfl]
      exact el_lc (K := K) (j := 9) (l := rr) (g := dN) (p := fun _ => true) (wk_tup (ev_var (i := 4) (d := .tuple (rr.map dN)) hS6 rfl)) hS6 (by omega)
        (fun a ha σ2 H2 f2 hS2 => (fun H1 e Q q => q H1 (Same.refl H1) : EvT tYes σ2 H2 true)) (fun a ha _ σ2 H2 f2 hS2 => ev_index (evv_var hS2 rfl) (hz.sm f2) (ev_var hS2 rfl) (heard_nodup es y) (hsub a ha))
    · refine s_ret g7 (ev_is (d' := .bool true) (ev_eq (ev_call (d := dB (bsum fd es rr)) (ea_cons (ev_call (d := dHist fd (partE es y)) (ea_cons (ev_var hS7 rfl) (ea_cons (ev_var hS7 rfl) ea_nil)) ⟨fd, es, y, rfl, ok, hy, rfl⟩) (ea_cons (ev_var hS7 rfl) ea_nil)) ⟨fd, partE es y, rr.map (heard es y).idxOf, rfl, part_ok ok hy, fun u hu => ?_, by rw [bsum_part ok hy rr hsub]⟩) (ev_call (ea_cons (ev_var hS7 rfl) (ea_cons (ev_var hS7 rfl) ea_nil)) ⟨fd, es, rr, rfl, ok, hin, rfl⟩) (Sh.ok (sh_dB _)) (Sh.ok (sh_dB _))) (by rw [eqv_dB])) fun v H8 f8 hv => hk v H8 f8 hv
      obtain ⟨z, hz', rfl⟩ := List.mem_map.mp hu
      rw [partE_len]
      exact List.idxOf_lt_length_of_mem (hsub z hz')
end
end Lk

namespace Lk
open PySem PySem.Spec PyProof.Rows L2 Mx
section
variable {P : Program} {w : World} {K : PySem.W.Frag} {mg : Str → Option Value} {base : Heap} {C aN : Addr}
theorem okWdivisor (T : Txt K mg C aN) : Def P w K mg base CX0 "_law_divisor" 1 ["_law_one", "_law_other"] (spP K relGcd) := by
  refine def_pure T.d__law_divisor scWdivisor (fun ds d h => by obtain ⟨a, b, rfl, _⟩ := h; rfl) fun f cdv A outer s H0 E0 hr => ⟨_,
    (pss_cons (ps_while PassesOwn.never (pt_cmpR op_gt (pv 1) pe_int (nomark _)) (pss_one (ps_par (i := 0) (j := 1) rfl scWdivisor.nd rfl rfl (by decide) rfl rfl (pa_cons (pv 1) (pa_cons (pe_op op_modN (pv 0) (pv 1)) pa_nil)) (by rfl))))
      (pss_one (ps_ret (pv 0)))), fun H σ ds d D hrel hS hk => ?_⟩
  obtain ⟨a, b, rfl, rfl⟩ := hrel
  refine q_while (fun m σ' H' => ∃ a' b' : Nat, m = b' ∧ Nat.gcd a' b' = Nat.gcd a b ∧ Same H H' ∧ Sto K H' σ' [.dat (.int (a' : Int)), .dat (.int (b' : Int))]) b ⟨a, b, rfl, rfl, Same.refl H, hS⟩ ?_
  rintro b' σ' H' ⟨a', _, rfl, hg, e, hS'⟩
  refine ⟨decide (0 < b'), ?_, fun c H2 e2 => ?_, fun c H2 e2 => ?_⟩
  · refine et_test (ev_is (ev_b0 (ev_var hS' rfl) ev_int) ?_)
    congr 1
    exact decide_eq_decide.mpr ⟨fun h => by omega, fun h => by omega⟩
  · have hb := of_decide_eq_true c
    have hS2 := hS'.sm e2
    refine s_par (e.trans e2) hS2 (ea_cons (ev_var hS2 rfl) (ea_cons (ev_i (ev_var hS2 rfl) (ev_var hS2 rfl) (by omega)) ea_nil)) fun σ3 H3 e3 e4 hS3 => ?_
    refine ⟨a' % b', Nat.mod_lt _ (by omega), b', a' % b', rfl, ?_, e3, ?_⟩
    · rw [← hg, Nat.gcd_comm a' b', Nat.gcd_rec b' a', Nat.gcd_comm]
    · have em : Int.fmod (a' : Int) (b' : Int) = ((a' % b' : Nat) : Int) := by
        rw [Int.fmod_eq_emod_of_nonneg _ (by omega)]
        exact (Int.natCast_emod _ _).symm
      rw [em] at hS3
      exact hS3
  · have hb : b' = 0 := by have := of_decide_eq_false c; omega
    subst hb
    refine s_ret (e.trans e2) (ev_var (hS'.sm e2) rfl) fun v H3 e3 hv => hk v H3 e3 ?_
    rw [← hg, Nat.gcd_zero_right]
    exact hv
theorem okWmade (T : Txt K mg C aN) : Def P w K mg base CX0 "_law_made" 2 ["_law_a", "_law_b"] (spP K relRatio) := by
  refine def_pure T.d__law_made scWmade (fun ds d h => by obtain ⟨a, b, z, rfl, _⟩ := h; rfl) fun f cdv A outer s H0 E0 hr => ⟨_,
    (pss_cons (ps_set (i := 2) scWmade.nd rfl (Or.inl rfl) (pe_fn ((okWdivisor T).mono (by decide)) hr pass0 (pa_cons (pe_callB call_abs (by rfl) T.z_abs (by decide +kernel) (pa_cons (pv 0) pa_nil)) (pa_cons (pv 1) pa_nil))))
      (pss_one (ps_ret (pe_tup (pa_cons (pe_op op_fdivN (pv 0) (pv 2)) (pa_cons (pe_op op_fdivN (pv 1) (pv 2)) pa_nil)))))), fun H σ ds d D hrel hS hk => ?_⟩
  obtain ⟨a, b, z, rfl, hb, hb2, hz, rfl⟩ := hrel
  obtain ⟨e1, e2, e3, e4⟩ := ratio_eq hb hz
  have ab : ∀ x : Int, (if x < 0 then -x else x) = ((x.natAbs : Nat) : Int) := fun x => by split <;> omega
  refine q_set (Same.refl H) hS (ev_call (ea_cons (ev_abs (ea_cons (ev_var hS rfl) ea_nil)) (ea_cons (ev_var hS rfl) ea_nil)) ⟨a.natAbs, b.natAbs, by rw [ab]; congr 3; omega, rfl⟩) fun σ1 H1 f1 _ hS1 => ?_
  have hn : ((Nat.gcd a.natAbs b.natAbs : Nat) : Int) ≠ 0 ∧ ((Nat.gcd a.natAbs b.natAbs : Nat) : Int).natAbs < 1073741824 := ⟨by omega, by omega⟩
  refine s_ret f1 (ev_tup (ea_cons (ev_i (ev_var hS1 rfl) (ev_var hS1 rfl) hn) (ea_cons (ev_i (ev_var hS1 rfl) (ev_var hS1 rfl) hn) ea_nil)) ) fun v H3 f3 hv => hk v H3 f3 ?_
  rw [Int.fdiv_eq_ediv_of_nonneg _ (Int.le_of_lt e3), Int.fdiv_eq_ediv_of_nonneg _ (Int.le_of_lt e3), e1, e2] at hv
  exact hv
def relSum : List PyData → PyData → Prop := fun ds d => ∃ x y s : Int, ds = [fr x, fr y, .int s] ∧ (s = 1 ∨ s = -1) ∧ d = fr (x + s * y)
theorem okWsum (T : Txt K mg C aN) : Def P w K mg base CX0 "_law_sum" 3 ["_law_one", "_law_other", "_law_sign"] (spP K relSum) := by
  refine def_pure T.d__law_sum scWsum (fun ds d h => by obtain ⟨x, y, s, rfl, _⟩ := h; rfl) fun f cdv A outer s H0 E0 hr => ⟨_,
    (pss_one (ps_ret (pe_fn ((okWmade T).mono (by decide)) hr pass0 (pa_cons (pe_op op_add (pe_op op_mul (pe_ix (ix_tupk (K := K)) (pv 0) pe_int (fun _ _ => rfl)) (pe_ix (ix_tupk (K := K)) (pv 1) pe_int (fun _ _ => rfl))) (pe_op op_mul (pe_op op_mul (pv 2) (pe_ix (ix_tupk (K := K)) (pv 1) pe_int (fun _ _ => rfl))) (pe_ix (ix_tupk (K := K)) (pv 0) pe_int (fun _ _ => rfl)))) (pa_cons (pe_op op_mul (pe_ix (ix_tupk (K := K)) (pv 0) pe_int (fun _ _ => rfl)) (pe_ix (ix_tupk (K := K)) (pv 1) pe_int (fun _ _ => rfl))) pa_nil))))), fun H σ ds d D hrel hS hk => ?_⟩
  obtain ⟨x, y, s, rfl, hs, rfl⟩ := hrel
  have e1 := ev_var (i := 0) hS rfl
  have e2 := ev_var (i := 1) hS rfl
  have h := de_mul x y
  have hss : s.natAbs < 2 ^ 64 := by rcases hs with h | h <;> omega
  exact s_ret (Same.refl H) (ev_call (ea_cons (ev_i0 (ev_i (ev_nu e1) (ev_de e2) (cmulR (de_sm y))) (ev_i (ev_i (ev_var (i := 2) (d := .int s) hS rfl) (ev_nu e2) (cmulL hss)) (ev_de e1) (cmulR (de_sm x)))) (ea_cons (ev_i (ev_de e1) (ev_de e2) (cmulR (de_sm y))) ea_nil))
    ⟨_, _, _, rfl, h.1, h.2, add_cross x y s, rfl⟩) fun v H1 f1 hv => hk v H1 f1 hv
def fitsB (lk : Lnk) (z : Int) : Bool := !decide (z < lk.least) && (match lk.most with | none => true | some m => decide (z ≤ m))
def relFits : List PyData → PyData → Prop := fun ds d => ∃ lk s n, ds = [dL lk, fr s, fr n] ∧ d = .bool (fitsB lk (n - s))
theorem okWfits (T : Txt K mg C aN) : Def P w K mg base CX0 "_law_fits" 4 ["_law_link", "_law_sent", "_law_now"] (spP K relFits) := by
  refine def_pure T.d__law_fits scWfits (fun ds d h => by obtain ⟨x, y, s, rfl, _⟩ := h; rfl) fun f cdv A outer s H0 E0 hr => ⟨_,
    (pss_cons (ps_set (i := 3) scWfits.nd rfl (Or.inl rfl) (pe_fn ((okWsum T).mono (by decide)) hr pass0 (pa_cons (pv 2) (pa_cons (pv 1) (pa_cons (pe_un un_neg pe_int) pa_nil)))))
      (pss_cons (ps_if (pt_cmpR op_lt (pe_op op_mul (pe_ix (ix_tupk (K := K)) (pv 3) pe_int (fun _ _ => rfl)) (pe_ix (ix_tupk (K := K)) (pe_ix (ix_tupk (K := K)) (pv 0) pe_int (fun _ _ => rfl)) pe_int (fun _ _ => rfl))) (pe_op op_mul (pe_ix (ix_tupk (K := K)) (pe_ix (ix_tupk (K := K)) (pv 0) pe_int (fun _ _ => rfl)) pe_int (fun _ _ => rfl)) (pe_ix (ix_tupk (K := K)) (pv 3) pe_int (fun _ _ => rfl))) (nomark _)) (pss_one (ps_ret pe_bl)) pss_nil)
      (pss_one (ps_ret (pe_or (pe_cmpR op_isN' (pe_ix (ix_tupk (K := K)) (pv 0) pe_int (fun _ _ => rfl)) pe_non (nomark _)) (pe_one (pe_cmpR op_le (pe_op op_mul (pe_ix (ix_tupk (K := K)) (pv 3) pe_int (fun _ _ => rfl)) (pe_ix (ix_tupk (K := K)) (pe_ix (ix_tupk (K := K)) (pv 0) pe_int (fun _ _ => rfl)) pe_int (fun _ _ => rfl))) (pe_op op_mul (pe_ix (ix_tupk (K := K)) (pe_ix (ix_tupk (K := K)) (pv 0) pe_int (fun _ _ => rfl)) pe_int (fun _ _ => rfl)) (pe_ix (ix_tupk (K := K)) (pv 3) pe_int (fun _ _ => rfl))) (nomark _)))))))), fun H σ ds d D hrel hS hk => ?_⟩
  obtain ⟨lk, s, n, rfl, rfl⟩ := hrel
  refine q_set (d := fr (n - s)) (Same.refl H) hS (ev_is (ev_call (d := fr (n + -1 * s)) (ea_cons (ev_var hS rfl) (ea_cons (ev_var hS rfl) (ea_cons (ev_un0 ev_int) ea_nil))) ⟨n, s, -1, rfl, .inr rfl, rfl⟩) (by congr 1; omega)) fun σ1 H1 f1 _ hS1 => ?_
  have w3 : ∀ {H2}, Same H1 H2 → Ev K (tVar 3) σ1 H2 (fr (n - s)) := fun {H2} g => ev_var (hS1.sm g) rfl
  have l2 : ∀ {H2}, Same H1 H2 → Ev K (tOp (rIxT K) (tVar 0) (tC (.int 2))) σ1 H2 (fr lk.least) := fun {H2} g => ev_ix 2 (ev_var (d := dL lk) (hS1.sm g) rfl) rfl
  have l3 : ∀ {H2}, Same H1 H2 → Ev K (tOp (rIxT K) (tVar 0) (tC (.int 3))) σ1 H2 (frO lk.most) := fun {H2} g => ev_ix 3 (ev_var (d := dL lk) (hS1.sm g) rfl) rfl
  have r1 := Same.refl H1
  refine q_if (b := decide (n - s < lk.least)) (et_is (et_test (ev_b0 (ev_i (ev_nu (w3 r1)) (ev_de (l2 r1)) (cmulR (de_sm _))) (ev_i (ev_nu (l2 r1)) (ev_de (w3 r1)) (cmulR (de_sm _))))) (decide_eq_decide.mpr (below_iff _ _))) (fun c H2 f2 => ?_) (fun c H2 f2 => ?_)
  · refine s_ret (f1.trans f2) (ev_bl (K := K)) fun v H3 f3 hv => hk v H3 f3 ?_
    unfold fitsB
    rw [c]
    exact hv
  · refine s_ret (f1.trans f2) (ev_is (d' := .bool (fitsB lk (n - s))) (ev_orV (a := lk.most.isNone) (b := fitsB lk (n - s)) (ev_is (ev_isN (l3 f2)) (by rw [isN_frO])) fun c2 => ?_) ?_) fun v H3 f3 hv => hk v H3 f3 hv
    · cases hm : lk.most with
      | none => rw [hm] at c2; cases c2
      | some m =>
        have l3' : Ev K (tOp (rIxT K) (tVar 0) (tC (.int 3))) σ1 H2 (fr m) := ev_is (l3 f2) (by rw [hm]; rfl)
        refine ev_is (ev_b0 (ev_i (ev_nu (w3 f2)) (ev_de l3') (cmulR (de_sm _))) (ev_i (ev_nu l3') (ev_de (w3 f2)) (cmulR (de_sm _)))) ?_
        unfold fitsB
        rw [c, hm, decide_eq_decide.mpr (le_iff _ _)]
        rfl
    · unfold fitsB
      rw [c]
      cases lk.most <;> rfl
end
end Lk

namespace Lk
open PySem PySem.Spec PyProof.Rows L2 Mx
/-- all but what is at a stands -/
def ExB (a : Addr) (H H' : Hp) : Prop := ∀ b o, b ≠ a → H b = some o → H' b = some o
theorem ExB.of {a : Addr} {H H' : Hp} (e : Same H H') : ExB a H H' := fun b o _ h => e b o h
theorem ExB.trans {a : Addr} {H H1 H2 : Hp} (e : ExB a H H1) (f : ExB a H1 H2) : ExB a H H2 := fun b o n h => f b o n (e b o n h)
theorem ExB.upd {a : Addr} {H H1 : Hp} {o : HO} (e : ExB a H H1) : ExB a H (upd H1 a o) := fun b u n h => by rw [upd_ne n]; exact e b u n h
theorem ExB.mut {a p : Addr} {H H1 : Hp} {o : HO} (e : ExB a H H1) (hp : H p = none) : ExB a H (L2.upd H1 p o) := fun b u n h => by
  rw [upd_ne fun z => by rw [z, hp] at h; cases h]
  exact e b u n h
theorem ExB.free {a p : Addr} {H H1 : Hp} (e : ExB a H H1) (hp : H1 p = none) (n : p ≠ a) : H p = none := by
  cases h : H p with
  | none => rfl
  | some o => have := e p o n h; rw [hp] at this; cases this
theorem ExB.tx {a : Addr} {H H1 : Hp} {xs : List V} (e : ExB a H H1) (ha : H a = some (.lst xs)) : Tx H H1 := fun p ys r => by
  have n : p ≠ a := fun z => by
    rw [z] at r
    rcases r with r | ⟨o, r⟩
    · rw [ha] at r; cases r
    · rw [ha] at r; cases r
  rcases r with r | ⟨o, r⟩
  · exact .inl (e p _ n r)
  · exact .inr ⟨o, e p _ n r⟩
/-- the feed -/
def FeedAt (H : Hp) (a b : Addr) (c : Int) : Prop := ∃ (i l c' : Int) (ns : List Int), H a = some (.lst [.ref b, .int i, .int l, .int c']) ∧ H b = some (.lst (ns.map V.int)) ∧ 0 ≤ c' ∧ c' ≤ c
theorem FeedAt.sm {H H' : Hp} {a b : Addr} {c : Int} (h : FeedAt H a b c) (e : Same H H') : FeedAt H' a b c := by
  obtain ⟨i, l, c', ns, h1, h2, h3, h4⟩ := h
  exact ⟨i, l, c', ns, e _ _ h1, e _ _ h2, h3, h4⟩
theorem FeedAt.mono {H : Hp} {a b : Addr} {c d : Int} (h : FeedAt H a b c) (e : c ≤ d) : FeedAt H a b d := by
  obtain ⟨i, l, c', ns, h1, h2, h3, h4⟩ := h
  exact ⟨i, l, c', ns, h1, h2, h3, Int.le_trans h4 e⟩
theorem FeedAt.ne {H : Hp} {a b : Addr} {c : Int} (h : FeedAt H a b c) : a ≠ b := fun z => by
  obtain ⟨i, l, c', ns, h1, h2, _⟩ := h
  rw [z, h2] at h1
  cases ns with
  | nil => cases h1
  | cons x r =>
    have e := HO.lst.inj (Option.some.inj h1)
    cases (List.cons.inj e).1
theorem FeedAt.mut {H : Hp} {a b p : Addr} {c : Int} {o : HO} (h : FeedAt H a b c) (n1 : p ≠ a) (n2 : p ≠ b) : FeedAt (L2.upd H p o) a b c := by
  obtain ⟨i, l, c', ns, h1, h2, h3, h4⟩ := h
  exact ⟨i, l, c', ns, by rw [upd_ne (Ne.symm n1)]; exact h1, by rw [upd_ne (Ne.symm n2)]; exact h2, h3, h4⟩
theorem FeedAt.tx {H H1 : Hp} {a b : Addr} {c : Int} (h : FeedAt H a b c) (e : ExB a H H1) : Tx H H1 := by
  obtain ⟨i, l, c', ns, h1, _⟩ := h
  exact e.tx h1
theorem FeedAt.na {H : Hp} {a b p : Addr} {c : Int} (h : FeedAt H a b c) (hp : H p = none) : p ≠ a ∧ p ≠ b := by
  obtain ⟨i, l, c', ns, h1, h2, _⟩ := h
  exact ⟨fun z => (by rw [z, h1] at hp; cases hp), fun z => (by rw [z, h2] at hp; cases hp)⟩
section
variable {P : Program} {w : World} {K : PySem.W.Frag} {mg : Str → Option Value} {base : Heap} {C aN : Addr}
def spFeed (K : PySem.W.Frag) : Sp := fun vs H Q _ => ∃ s, ∃ ns : List Int, vs = [.ref s] ∧ SqL K H s (ns.map V.int) ∧ ∀ a b H', Same H H' → FeedAt H' a b 0 → Q (.ref a) H'
theorem cutV_map (ns : List Int) (lo hi : Option Int) : ∃ ms : List Int, cutV (ns.map V.int) lo hi = ms.map V.int := by
  unfold cutV
  exact ⟨_, by rw [← List.map_drop, ← List.map_take]⟩
theorem okWfeed (T : Txt K mg C aN) : Def P w K mg base CX0 "_law_feed" 1 ["_law_script"] (spFeed K) := by
  refine def_of T.d__law_feed scWfeed (fun vs H Q E h => by obtain ⟨s, ns, rfl, _⟩ := h; rfl) fun f cdv A outer s H0 E0 hr => ⟨_,
    (pss_one (ps_ret (pe_lst (pa_cons (pe_slice (sl_listk (K := K)) (pv 0) po_none (po_some pe_int)) (pa_cons pe_int (pa_cons pe_int (pa_cons pe_int pa_nil))))))), fun H vs Q E h => ?_⟩
  obtain ⟨s, ns, rfl, hs, q⟩ := h
  obtain ⟨ms, hms⟩ := cutV_map ns none (some 63)
  refine ⟨_, rfl, 63, rfl, s, _, rfl, hs, fun b hb => ⟨sz_of (Nat.le_of_ble_eq_true rfl), fun a ha => ?_⟩⟩
  have nab : a ≠ b := fun z => by rw [z, upd_same] at ha; cases ha
  exact q a b _ ((same_new hb).trans (same_new ha)) ⟨0, 0, 0, ms, upd_same, by rw [upd_ne nab.symm, upd_same, hms], Int.le_refl _, Int.le_refl _⟩
/-! ### _law_draw -/
def spDraw (K : PySem.W.Frag) : Sp := fun vs H Q _ => ∃ a b c m, vs = [.ref a, .int m] ∧ FeedAt H a b c ∧ c ≤ 100000 ∧ 0 < m ∧ m < 2 ^ 30 ∧ ∀ z H', 0 ≤ z → z < m → ExB a H H' → FeedAt H' a b (c + 1) → Q (.int z) H'
theorem q_put {σ : L2.St} {H : Hp} {te to : TE} {tz : TS} {D : Ends} {a : Addr} {xs : List V} {j : Nat} {v : V} (hj : ixN xs.length ((j : Nat) : Int) = some j) (hp : H a = some (.lst xs)) (hv : EvV te σ H v) (ho : EvV to σ H (.ref a)) (k : ∀ H1, Same H H1 → tz D σ (upd H1 a (.lst (xs.set j v)))) :
    tSeq (tAsg te (gSub to (tC (.int ((j : Nat) : Int))) rSetL)) tz D σ H :=
  hv H (Same.refl H) _ fun H1 e1 => ho H1 e1 _ fun H2 e2 => ⟨a, xs, _, j, rfl, rfl, (e1.trans e2) _ _ hp, hj, k H2 (e1.trans e2)⟩
theorem evv_ixL {σ : L2.St} {H : Hp} {ta tb : TE} {l : Addr} {xs : List V} {i : Int} {v : V} (ha : EvV ta σ H (.ref l)) (hb : Ev K tb σ H (.int i)) (hl : SqL K H l xs) (hi : atI xs i = some v) : EvV (tOp (rIxL K) ta tb) σ H v := fun H1 e Q q =>
  ha H1 e _ fun H2 e2 => hb H2 (e.trans e2) _ fun u H3 e3 hu => ⟨l, xs, i, v, rfl, hu.int_inv, sqL_same ((e.trans e2).trans e3) hl, hi, q H3 (e2.trans e3)⟩
theorem q_ifJ {σ : L2.St} {H : Hp} {tt : TT} {t u tz : TS} {D : Ends} {b : Bool} (J : L2.St → Hp → Prop) (h : EvT tt σ H b) (hJ : ∀ σ' H', J σ' H' → tz D σ' H') (h1 : (∀ σ' H', J σ' H' → tz D σ' H') → b = true → ∀ H1, Same H H1 → t { D with nx := tz D } σ H1)
    (h2 : (∀ σ' H', J σ' H' → tz D σ' H') → b = false → ∀ H1, Same H H1 → u { D with nx := tz D } σ H1) : tSeq (tIfS tt t u) tz D σ H := q_if h (h1 hJ) (h2 hJ)
theorem fmod_rng {i m : Int} (h : 0 < m) : 0 ≤ i.fmod m ∧ i.fmod m < m := by
  rw [Int.fmod_eq_emod_of_nonneg _ (by omega)]
  exact ⟨Int.emod_nonneg _ (by omega), Int.emod_lt_of_pos _ h⟩
theorem okWdraw (T : Txt K mg C aN) : Def P w K mg base CX0 "_law_draw" 1 ["_law_feed_here", "_law_many"] (spDraw K) := by
  refine def_of T.d__law_draw scWdraw (fun vs H Q E h => by obtain ⟨a, b, c, m, rfl, _⟩ := h; rfl) fun f cdv A outer s H0 E0 hr => ⟨_,
    (pss_cons (ps_asg (pe_op op_add (pe_ix (ix_listk (K := K)) (pv 0) pe_int (fun _ _ => rfl)) pe_int) (pg_sub (pv 0) pe_int set_list))
      (pss_cons (ps_if (pt_cmpR op_gt (pe_ix (ix_listk (K := K)) (pv 0) pe_int (fun _ _ => rfl)) pe_int (nomark _)) (pss_cons (ps_set (i := 2) scWdraw.nd rfl (Or.inl rfl) (pe_op op_modN (pe_ix (ix_listk (K := K)) (pv 0) pe_int (fun _ _ => rfl)) (pv 1)))
      (pss_cons (ps_asg (pe_op op_fdivW (pe_ix (ix_listk (K := K)) (pv 0) pe_int (fun _ _ => rfl)) (pv 1)) (pg_sub (pv 0) pe_int set_list))
      (pss_one (ps_ret (pv 2))))) pss_nil)
      (pss_cons (ps_set (i := 3) scWdraw.nd rfl (Or.inl rfl) pe_int)
      (pss_cons (ps_if (pt_cmpR (op_nek (K := K) hr.units) (pe_ix (ix_listk (K := K)) (pv 0) pe_int (fun _ _ => rfl)) (pe_lst pa_nil) (nomark _)) (pss_one (ps_set (i := 3) scWdraw.nd rfl (Or.inl rfl) (pe_ix (ix_listk (K := K)) (pe_ix (ix_listk (K := K)) (pv 0) pe_int (fun _ _ => rfl)) (pe_op op_modN (pe_ix (ix_listk (K := K)) (pv 0) pe_int (fun _ _ => rfl)) (pe_callB (call_lenk (K := K)) (by rfl) T.z_len (by decide +kernel) (pa_cons (pe_ix (ix_listk (K := K)) (pv 0) pe_int (fun _ _ => rfl)) pa_nil))) (fun _ _ => rfl)))) pss_nil)
      (pss_cons (ps_asg (pe_op op_add (pe_ix (ix_listk (K := K)) (pv 0) pe_int (fun _ _ => rfl)) pe_int) (pg_sub (pv 0) pe_int set_list))
      (pss_cons (ps_if (PW.pt (pw_and (pt_cmpR op_ge (pv 3) (pe_op op_pow pe_int pe_int) (nomark _)) (pw_and1 (pt_cmpR op_le (pe_ix (ix_listk (K := K)) (pv 0) pe_int (fun _ _ => rfl)) (pe_callB (call_lenk (K := K)) (by rfl) T.z_len (by decide +kernel) (pa_cons (pe_ix (ix_listk (K := K)) (pv 0) pe_int (fun _ _ => rfl)) pa_nil)) (nomark _))))) (pss_cons (ps_asg (pe_op op_fdivW (pv 3) (pv 1)) (pg_sub (pv 0) pe_int set_list))
      (pss_one (ps_ret (pe_op op_modN (pv 3) (pv 1))))) pss_nil)
      (pss_cons (ps_set (i := 4) scWdraw.nd rfl (Or.inl rfl) (pe_op op_modN (pe_op op_pow (pe_op op_add (pe_op op_add (pe_op op_modN (pv 3) pe_int) (pe_op op_mul pe_int (pe_ix (ix_listk (K := K)) (pv 0) pe_int (fun _ _ => rfl)))) pe_int) pe_int) pe_int))
      (pss_one (ps_ret (pe_op op_modN (pe_op op_fdiv (pe_op op_modN (pe_op op_pow (pe_op op_add (pv 4) (pe_op op_mul pe_int (pe_ix (ix_listk (K := K)) (pv 0) pe_int (fun _ _ => rfl)))) pe_int) pe_int) pe_int) (pv 1))))))))))), fun H vs Q E h => ?_⟩
  obtain ⟨a, b, c, m, rfl, hf, hc, hm0, hm, q⟩ := h
  have nab := hf.ne
  obtain ⟨i, l, c', ns, ha, hb, hc0, hcc⟩ := hf
  have hS : Sto K H (L2.start ["_law_feed_here", "_law_many", "_law_found", "_law_cell", "_law_mixed"] [.ref a, .int m]) [.val (.ref a), .dat (.int m), .any, .any, .any] := .val (.dat (.int m) Sto.anys)
  have cw : ∀ x : Int, CDivW x m := fun x => wide_div (b := 30) hm0 (by omega) (by decide) (by decide)
  have ix : ∀ {σ' : L2.St} {H' : Hp} {ρ : List Sl} {xs : List V} {z : Int} (j : Nat), H' a = some (.lst xs) → Sto K H' σ' ρ → ρ[0]? = some (.val (.ref a)) → atI xs ((j : Nat) : Int) = some (.int z) → Ev K (tOp (rIxL K) (tVar 0) (tC (.int ((j : Nat) : Int)))) σ' H' (.int z) :=
    fun j h hS' h0 hz => ev_ixL (evv_var hS' h0) ev_int (.inl (.inl h)) hz (.int _)
  -- feed[3] += 1
  refine q_put (j := 3) rfl ha (evv_int (ev_i0 (ix 3 ha hS rfl rfl) ev_int)) (evv_var hS rfl) fun H1 e1 => ?_
  have x1 : ExB a H (upd H1 a (.lst [.ref b, .int i, .int l, .int (c' + 1)])) := (ExB.of e1).upd
  have hS1 := (hS.sm e1).tx (tx_lst (o := .lst [.ref b, .int i, .int l, .int (c' + 1)]) (e1 _ _ ha))
  have ha1 : (upd H1 a (.lst [.ref b, .int i, .int l, .int (c' + 1)])) a = some (.lst [.ref b, .int i, .int l, .int (c' + 1)]) := upd_same
  have hb1 : (upd H1 a (.lst [.ref b, .int i, .int l, .int (c' + 1)])) b = some (.lst (ns.map V.int)) := x1 _ _ nab.symm hb
  show tSeq _ _ _ _ (upd H1 a (.lst [.ref b, .int i, .int l, .int (c' + 1)]))
  generalize upd H1 a (.lst [.ref b, .int i, .int l, .int (c' + 1)]) = H2 at x1 hS1 ha1 hb1
  refine q_if (b := decide (0 < l)) (et_test (ev_b0 (ix 2 ha1 hS1 rfl rfl) ev_int)) (fun cl H3 e3 => ?_) (fun _ H3 e3 => ?_)
  · have hS3 := hS1.sm e3
    have ha3 := e3 _ _ ha1
    refine q_set (d := .int (l.fmod m)) (Same.refl H3) hS3 (ev_i (ix 2 ha3 hS3 rfl rfl) (ev_var hS3 rfl) (by omega)) fun σ4 H4 e4 _ hS4 => ?_
    have ha4 := e4 _ _ ha3
    refine q_put (j := 2) rfl ha4 (evv_int (ev_i (ix 2 ha4 hS4 rfl rfl) (ev_var hS4 rfl) (cw l))) (evv_var hS4 rfl) fun H5 e5 => ?_
    have hS5 := (hS4.sm e5).tx (tx_lst (o := .lst [.ref b, .int i, .int (l / m), .int (c' + 1)]) (e5 _ _ ha4))
    have x5 : ExB a H (upd H5 a (.lst [.ref b, .int i, .int (l / m), .int (c' + 1)])) := (((x1.trans (.of e3)).trans (.of e4)).trans (.of e5)).upd
    refine s_ret (Same.refl _) (ev_var (i := 2) hS5 rfl) fun v H6 e6 hv => ?_
    rw [hv.int_inv]
    have r := fmod_rng (i := l) hm0
    exact q _ H6 r.1 r.2 (x5.trans (.of e6)) ⟨i, l / m, c' + 1, ns, e6 _ _ upd_same, (x5.trans (.of e6)) _ _ nab.symm hb, by omega, by omega⟩
  have hS3 := hS1.sm e3
  have ha3 := e3 _ _ ha1
  have hb3 := e3 _ _ hb1
  have x3 := x1.trans (.of e3)
  -- the cell
  refine q_set (d := .int 5) (Same.refl H3) hS3 ev_int fun σ4 H4 e4 _ hS4 => ?_
  have ha4 := e4 _ _ ha3
  have hb4 := e4 _ _ hb3
  have x4 := x3.trans (.of e4)
  refine q_ifJ (fun σ' H' => ∃ y : Int, ExB a H H' ∧ H' a = some (.lst [.ref b, .int i, .int l, .int (c' + 1)]) ∧ Sto K H' σ' [.val (.ref a), .dat (.int m), .any, .dat (.int y), .any]) (b := !(ns.map PyData.int).isEmpty) (et_test (ev_neNil (evv_ixL (evv_var hS4 rfl) (ev_int (i := 0)) (.inl (.inl ha4)) rfl) (.inl (.inl hb4)) (TpAll.ints ns) (Sh.ok (n := 1) (.lst (.map (fun _ => .int) ns)))))
    (fun σ5 H5 hJ => ?_) (fun back cl H5 e5 => ?_) (fun back _ H5 e5 => back _ _ ⟨5, x4.trans (.of e5), e5 _ _ ha4, hS4.sm e5⟩)
  rotate_left
  · have hS5 := hS4.sm e5
    have ha5 := e5 _ _ ha4
    have hb5 := e5 _ _ hb4
    have hl : 0 < ((ns.map V.int).length : Int) := by
      cases ns with
      | nil => cases cl
      | cons x r => rw [List.length_map, List.length_cons]; omega
    have r := fmod_rng (i := i) hl
    have hin : atI (ns.map V.int) (i.fmod ((ns.map V.int).length : Int)) = some (.int (ns.getD (i.fmod ((ns.map V.int).length : Int)).toNat 0)) := by
      have ej : i.fmod ((ns.map V.int).length : Int) = (((i.fmod ((ns.map V.int).length : Int)).toNat : Nat) : Int) := by omega
      generalize (i.fmod ((ns.map V.int).length : Int)).toNat = j at ej
      rw [ej] at r ⊢
      refine atI_nat ?_
      have hj : j < ns.length := by
        have := r.2
        rw [List.length_map] at this
        omega
      rw [List.getElem?_map, List.getD_eq_getElem?_getD, List.getElem?_eq_getElem hj]
      rfl
    refine s_set (d := .int (ns.getD (i.fmod ((ns.map V.int).length : Int)).toNat 0)) (Same.refl H5) hS5 (ev_ixL (evv_ixL (evv_var hS5 rfl) (ev_int (i := 0)) (.inl (.inl ha5)) rfl) (ev_i (ix 1 ha5 hS5 rfl rfl) (ev_lenL (evv_ixL (evv_var hS5 rfl) (ev_int (i := 0)) (.inl (.inl ha5)) rfl) (.inl (.inl hb5))) (by omega)) (.inl (.inl hb5)) hin (.int _)) fun σ6 H6 e6 _ hS6 => ?_
    exact back _ _ ⟨_, (x4.trans (.of e5)).trans (.of e6), e6 _ _ ha5, hS6⟩
  -- behind the cell
  obtain ⟨y, x5, ha5, hS5⟩ := hJ
  clear hS hS1 hS3 hS4 ha ha1 hb1 ha3 hb3 ha4 hb4 x1 x3 x4
  refine q_put (j := 1) rfl ha5 (evv_int (ev_i0 (ix 1 ha5 hS5 rfl rfl) ev_int)) (evv_var hS5 rfl) fun H6 e6 => ?_
  have x7 : ExB a H (upd H6 a (.lst [.ref b, .int (i + 1), .int l, .int (c' + 1)])) := (x5.trans (.of e6)).upd
  have hS7 := (hS5.sm e6).tx (tx_lst (o := .lst [.ref b, .int (i + 1), .int l, .int (c' + 1)]) (e6 _ _ ha5))
  have ha7 : (upd H6 a (.lst [.ref b, .int (i + 1), .int l, .int (c' + 1)])) a = some (.lst [.ref b, .int (i + 1), .int l, .int (c' + 1)]) := upd_same
  show tSeq _ _ _ _ (upd H6 a (.lst [.ref b, .int (i + 1), .int l, .int (c' + 1)]))
  generalize upd H6 a (.lst [.ref b, .int (i + 1), .int l, .int (c' + 1)]) = H7 at x7 hS7 ha7
  have hb7 := x7 _ _ nab.symm hb
  refine q_if (et_and (et_test (ev_b0 (ev_var (i := 3) (d := .int y) hS7 rfl) (ev_i ev_int ev_int ⟨by decide, by decide, by decide⟩))) fun _ => et_test (ev_b0 (ix 1 ha7 hS7 rfl rfl) (ev_lenL (evv_ixL (evv_var hS7 rfl) (ev_int (i := 0)) (.inl (.inl ha7)) rfl) (.inl (.inl hb7))))) (fun _ H8 e8 => ?_) (fun _ H8 e8 => ?_)
  · have hS8 := hS7.sm e8
    have ha8 := e8 _ _ ha7
    refine q_put (j := 2) rfl ha8 (evv_int (ev_i (ev_var (i := 3) (d := .int y) hS8 rfl) (ev_var hS8 rfl) (cw y))) (evv_var hS8 rfl) fun H9 e9 => ?_
    have hS9 := (hS8.sm e9).tx (tx_lst (o := .lst [.ref b, .int (i + 1), .int (y / m), .int (c' + 1)]) (e9 _ _ ha8))
    have x9 : ExB a H (upd H9 a (.lst [.ref b, .int (i + 1), .int (y / m), .int (c' + 1)])) := ((x7.trans (.of e8)).trans (.of e9)).upd
    refine s_ret (Same.refl _) (ev_i (ev_var (i := 3) (d := .int y) hS9 rfl) (ev_var hS9 rfl) (by omega)) fun v Ha ea hv => ?_
    rw [hv.int_inv]
    have r := fmod_rng (i := y) hm0
    exact q _ Ha r.1 r.2 (x9.trans (.of ea)) ⟨i + 1, y / m, c' + 1, ns, ea _ _ upd_same, (x9.trans (.of ea)) _ _ nab.symm hb, by omega, by omega⟩
  · have hS8 := hS7.sm e8
    have ha8 := e8 _ _ ha7
    have x8 := x7.trans (.of e8)
    have r1 := fmod_rng (i := y) (m := 2147483629) (by decide)
    refine q_set (Same.refl H8) hS8 (ev_i (ev_i (ev_i0 (ev_i0 (ev_i (ev_var (i := 3) (d := .int y) hS8 rfl) (ev_int (i := 2147483629)) (by decide)) (ev_i (ev_int (i := 7919)) (ix 3 ha8 hS8 rfl rfl) (cmulL (by decide)))) (ev_int (i := 1))) (ev_int (i := 5)) ⟨by decide, by decide, by omega⟩) (ev_int (i := 2147483647)) (by decide)) fun σ9 H9 e9 _ hS9 => ?_
    have r2 := fmod_rng (i := (y.fmod 2147483629 + 7919 * (c' + 1) + 1) ^ (5 : Int).toNat) (m := 2147483647) (by decide)
    generalize ((y.fmod 2147483629 + 7919 * (c' + 1) + 1) ^ (5 : Int).toNat).fmod 2147483647 = x at r2 hS9
    have ha9 := e9 _ _ ha8
    refine s_ret (Same.refl H9) (ev_i (ev_i (ev_i (ev_i (ev_i0 (ev_var (i := 4) (d := .int x) hS9 rfl) (ev_i (ev_int (i := 104729)) (ix 3 ha9 hS9 rfl rfl) (cmulL (by decide)))) (ev_int (i := 5)) ⟨by decide, by decide, by omega⟩) (ev_int (i := 2147483587)) (by decide)) (ev_int (i := 64)) ⟨by decide, by decide⟩) (ev_var (i := 1) (d := .int m) hS9 rfl) (by omega)) fun v Ha ea hv => ?_
    rw [hv.int_inv]
    have r := fmod_rng (i := ((x + 104729 * (c' + 1)) ^ (5 : Int).toNat).fmod 2147483587 / 64) hm0
    exact q _ Ha r.1 r.2 ((x8.trans (.of e9)).trans (.of ea)) ⟨i + 1, l, c' + 1, ns, ea _ _ ha9, ((x8.trans (.of e9)).trans (.of ea)) _ _ nab.symm hb, by omega, by omega⟩
end
end Lk

namespace Lk
open PySem PySem.Spec PyProof.Rows L2 Mx
section
variable {K : PySem.W.Frag} {σ : L2.St} {H : Hp} {ρ : List Sl} {ta tl tm te to : TE} {tz : TS} {D : Ends} {E : XK} {a b : Addr} {c : Int} {Q : VK}
theorem EvV.mono {v : V} {H' : Hp} (h : EvV te σ H v) (e : Same H H') : EvV te σ H' v := fun H1 x Q q => h H1 (e.trans x) Q q
/-- one draw -/
theorem w_draw {m : Nat} (hf : FeedAt H a b c) (hc : c ≤ 100000) (ha : EvV ta σ H (.ref a)) (hm : Ev K tm σ H (.int (m : Int))) (h0 : 0 < m) (h1 : m < 2 ^ 30)
    (k : ∀ (z : Nat) H', z < m → ExB a H H' → FeedAt H' a b (c + 1) → Q (.int (z : Int)) H') : tCall (spDraw K) [] E (tCons ta (tCons tm tNil)) σ H Q :=
  ha H (Same.refl H) _ fun H1 e1 => hm H1 e1 _ fun v H2 e2 hv => by
    rw [hv.int_inv]
    refine ⟨a, b, c, m, rfl, hf.sm (e1.trans e2), hc, by omega, by omega, fun z H' z0 z1 x f => ?_⟩
    have e : z = ((z.toNat : Nat) : Int) := by omega
    rw [e]
    exact k z.toNat H' (by omega) ((ExB.of (e1.trans e2)).trans x) f
/-- an item drawn of a written list -/
theorem w_ixN {tll : TA} {ds : List PyData} {m : Nat} (hl : EvA K tll σ H ds) (hlen : ds.length = m) (hf : FeedAt H a b c) (hc : c ≤ 100000) (ha : EvV ta σ H (.ref a)) (hm : Ev K tm σ H (.int (m : Int))) (h0 : 0 < m) (h1 : m < 1000)
    (k : ∀ (j : Nat) d v H', ds[j]? = some d → Tp K H' v d → ExB a H H' → FeedAt H' a b (c + 1) → Q v H') : tOp (rIxL K) (tLst tll) (tCall (spDraw K) [] E (tCons ta (tCons tm tNil))) σ H Q :=
  hl H (Same.refl H) _ fun xs H1 e1 hxs => ⟨by rw [hxs.len]; exact sz_of (by omega), fun p hp => by
    have e2 : Same H (upd H1 p (.lst xs)) := e1.trans (same_new hp)
    have n := hf.na (e1.free hp)
    refine w_draw (m := m) (hf.sm e2) hc (ha.mono e2) (hm.mono e2) h0 (by omega) fun z H' hz x f => ?_
    have hp' := x _ _ n.1 (upd_same (H := H1) (a := p) (o := .lst xs))
    have hj : ds[z]? = some ds[z] := List.getElem?_eq_getElem (by omega)
    obtain ⟨v, hv, tv⟩ := hxs.get hj
    exact ⟨p, xs, z, v, rfl, rfl, .inl (.inl hp'), atI_nat hv, k z _ v H' hj ((tv.up (tx_new hp)).up ((hf.sm e2).tx x)) ((ExB.of e2).trans x) f⟩⟩
/-- an item drawn of a list that stands -/
theorem w_ixV {p : Addr} {xs : List V} {ds : List PyData} {m : Nat} (hl : EvV tl σ H (.ref p)) (hp : H p = some (.lst xs)) (hx : TpAll K H xs ds) (hlen : ds.length = m) (np : p ≠ a) (hf : FeedAt H a b c) (hc : c ≤ 100000) (ha : EvV ta σ H (.ref a)) (hm : Ev K tm σ H (.int (m : Int))) (h0 : 0 < m) (h1 : m < 1000)
    (k : ∀ (j : Nat) d v H', ds[j]? = some d → Tp K H' v d → ExB a H H' → FeedAt H' a b (c + 1) → Q v H') : tOp (rIxL K) tl (tCall (spDraw K) [] E (tCons ta (tCons tm tNil))) σ H Q :=
  hl H (Same.refl H) _ fun H1 e1 => w_draw (m := m) (hf.sm e1) hc (ha.mono e1) (hm.mono e1) h0 (by omega) fun z H' hz x f => by
    have hp' := x _ _ np (e1 _ _ hp)
    have hj : ds[z]? = some ds[z] := List.getElem?_eq_getElem (by omega)
    obtain ⟨v, hv, tv⟩ := hx.get hj
    exact ⟨p, xs, z, v, rfl, rfl, .inl (.inl hp'), atI_nat hv, k z _ v H' hj ((tv.sm e1).up ((hf.sm e1).tx x)) ((ExB.of e1).trans x) f⟩
/-- an item drawn of a tuple -/
theorem w_ixT {ds : List PyData} {m : Nat} (hl : Ev K tl σ H (.tuple ds)) (hlen : ds.length = m) (hf : FeedAt H a b c) (hc : c ≤ 100000) (ha : EvV ta σ H (.ref a)) (hm : Ev K tm σ H (.int (m : Int))) (h0 : 0 < m) (h1 : m < 1000)
    (k : ∀ (j : Nat) d v H', ds[j]? = some d → Tp K H' v d → ExB a H H' → FeedAt H' a b (c + 1) → Q v H') : tOp (rIxT K) tl (tCall (spDraw K) [] E (tCons ta (tCons tm tNil))) σ H Q :=
  hl H (Same.refl H) _ fun u H1 e1 hu => w_draw (m := m) (hf.sm e1) hc (ha.mono e1) (hm.mono e1) h0 (by omega) fun z H' hz x f => by
    obtain ⟨p, xs, rfl, hs, hx⟩ := hu.tup_inv
    have hj : ds[z]? = some ds[z] := List.getElem?_eq_getElem (by omega)
    obtain ⟨v, hv, tv⟩ := hx.get hj
    have t := (hf.sm e1).tx x
    exact ⟨p, xs, z, v, rfl, rfl, sqT_tx t hs, atI_nat hv, k z _ v H' hj (tv.up t) ((ExB.of e1).trans x) f⟩
/-! ### statements by their wishes -/
theorem q_asgW {i : Nat} (h : te σ H fun v H1 => tz D (σ.set i (some v)) H1) : tSeq (tAsg te (gName i)) tz D σ H := h
theorem q_dropW (h : te σ H fun _ H1 => tz D σ H1) : tSeq (tDrop te) tz D σ H := h
theorem s_asgW {i : Nat} (h : te σ H fun v H1 => D.nx (σ.set i (some v)) H1) : tAsg te (gName i) D σ H := h
theorem w_app {l : Addr} {xs : List V} (hl : H l = some (.lst xs)) (ho : EvV to σ H (.ref l)) (h : ∀ H1, Same H H1 → te σ H1 fun v H2 => ∃ ys, H2 l = some (.lst ys) ∧ ys.length < sizeLine ∧ Q .non (upd H2 l (.lst (ys ++ [v])))) : tBM K "list" rAppend to (tCons te tNil) σ H Q :=
  ho H (Same.refl H) _ fun H1 e1 => ⟨.inl ⟨rfl, xs, .inl (.inl (e1 _ _ hl))⟩, by
    have h' := h H1 e1
    show te σ H1 fun v H2 => ∃ l' ys y, V.ref l = .ref l' ∧ [v] = [y] ∧ H2 l' = some (.lst ys) ∧ ys.length < sizeLine ∧ Q .non (upd H2 l' (.lst (ys ++ [y])))
    have e : (fun (v : V) (H2 : Hp) => ∃ l' ys y, V.ref l = .ref l' ∧ [v] = [y] ∧ H2 l' = some (.lst ys) ∧ ys.length < sizeLine ∧ Q .non (upd H2 l' (.lst (ys ++ [y])))) = fun v H2 => ∃ ys, H2 l = some (.lst ys) ∧ ys.length < sizeLine ∧ Q .non (upd H2 l (.lst (ys ++ [v]))) := by
      funext v H2
      refine propext ⟨?_, ?_⟩
      · rintro ⟨l', ys, y, e1, e2, h1, h2, h3⟩
        cases e1
        cases (List.cons.inj e2).1
        exact ⟨ys, h1, h2, h3⟩
      · rintro ⟨ys, h1, h2, h3⟩
        exact ⟨l, ys, v, rfl, rfl, h1, h2, h3⟩
    rw [e]
    exact h'⟩
/-- for k in range(..), the end drawn -/
theorem q_forR1W {tn : TA} {g : TG} {tb : TS} (Pv : Nat → Nat → L2.St → Hp → Prop) (h : ∀ R : List V → Hp → Prop, (∀ (n : Nat) H1, n < 2 ^ 60 → Pv n 0 σ H1 → R [.int (n : Int)] H1) → tn σ H R)
    (hs : ∀ n i σ' H', i < n → Pv n i σ' H' → g (.int ((i : Nat) : Int)) σ' H' fun σ2 H2 => tb { D with nx := Pv n (i + 1), ct := Pv n (i + 1), bk := tz D } σ2 H2) (hd : ∀ n σ' H', Pv n n σ' H' → tz D σ' H') : tSeq (tFor (iRng1 tn) g tb) tz D σ H :=
  h _ fun n H1 hn p => ⟨(n : Int), rfl, by omega, by omega, by
    have := for_range (lo := 0) (n := n) (g := g) (tb := tb) (D := { D with nx := tz D }) (Pv n) p (fun i σ' H' hi p' => by rw [Int.zero_add]; exact hs n i σ' H' hi p') (hd n)
    exact this⟩
/-- for x in a list that stands -/
theorem q_forL {p : Addr} {xs : List V} {g : TG} {tb : TS} (hl : EvV tl σ H (.ref p)) (hp : H p = some (.lst xs)) (Pv : Nat → L2.St → Hp → Prop) (h0 : ∀ H1, Same H H1 → Pv 0 σ H1) (hst : ∀ i σ' H', Pv i σ' H' → H' p = some (.lst xs))
    (hs : ∀ i x σ' H', xs[i]? = some x → Pv i σ' H' → g x σ' H' fun σ2 H2 => tb { D with nx := Pv (i + 1), ct := Pv (i + 1), bk := tz D } σ2 H2) (hd : ∀ σ' H', Pv xs.length σ' H' → tz D σ' H') : tSeq (tFor (iList K tl) g tb) tz D σ H :=
  hl H (Same.refl H) _ fun H1 e1 => ⟨p, rfl, ⟨xs, .inl (.inl (e1 _ _ hp))⟩, for_list (K := K) (a := p) (xs := xs) (D := { D with nx := tz D }) Pv (h0 H1 e1) (fun i σ' H' _ q => .inl (.inl (hst i σ' H' q))) hs hd⟩
end
end Lk

namespace Mx
open PySem
structure FldOk (f : Fd) : Prop where
  fd : FdOk f
  h1 : 0 < f.houses.length
  l8 : f.links.length ≤ 8
  ln : ∀ l ∈ f.links, (PyData.str l.frm).canLay0 = true ∧ (PyData.str l.dst).canLay0 = true
end Mx
namespace Lk
open PySem PySem.Spec PyProof.Rows L2 Mx
theorem erase_map {α β : Type} (f : α → β) : ∀ (l : List α) (k : Nat), (l.map f).eraseIdx k = (l.eraseIdx k).map f
  | [], _ => rfl
  | _ :: _, 0 => rfl
  | x :: l, k + 1 => by
    show f x :: (l.map f).eraseIdx k = f x :: (l.eraseIdx k).map f
    rw [erase_map f l k]
theorem ixN_nat {n z : Nat} (h : z < n) : ixN n ((z : Nat) : Int) = some z := by
  unfold ixN
  rw [if_pos (by omega), if_pos (by omega)]
  rfl
section
variable {K : PySem.W.Frag} {σ : L2.St} {H : Hp} {ρ : List Sl} {ta tl tm te to : TE} {tz : TS} {D : Ends} {E : XK} {a b : Addr} {c : Int} {Q : VK}
theorem TpAll.strs : ∀ (l : List Str), TpAll K H (l.map V.str) (l.map PyData.str)
  | [] => .nil
  | x :: l => .cons (.str x) (TpAll.strs l)
theorem TpAll.strs_inv : ∀ {vs : List V} {l : List Str}, TpAll K H vs (l.map PyData.str) → vs = l.map V.str
  | _, [], h => by cases h; rfl
  | _, x :: l, h => by
    cases h with
    | cons h1 h2 => rw [h1.str_inv, TpAll.strs_inv h2]; rfl
theorem fr_lit {z n d : Int} (h : nu z = n ∧ de z = d) : fr z = .tuple [.int n, .int d] := by
  unfold fr
  rw [h.1, h.2]
theorem ev_fr {z n d : Int} (h : nu z = n ∧ de z = d := by decide +kernel) : Ev K (tTup (tCons (tC (.int n)) (tCons (tC (.int d)) tNil))) σ H (fr z) := ev_is (ev_tup (ea_cons ev_int (ea_cons ev_int ea_nil))) (fr_lit h).symm
theorem q_par3W {i j l : Nat} {t : TA} (h : t σ H fun vs H1 => ∃ u v w, vs = [u, v, w] ∧ tz D (((σ.set i (some u)).set j (some v)).set l (some w)) H1) : tSeq (tPar3 i j l t) tz D σ H := h
theorem w_bm {l : Addr} {xs : List V} {r : V → List V → Hp → VK → Prop} (hl : H l = some (.lst xs)) (ho : EvV to σ H (.ref l)) (h : ∀ H1, Same H H1 → te σ H1 fun v H2 => r (.ref l) [v] H2 Q) : tBM K "list" r to (tCons te tNil) σ H Q :=
  ho H (Same.refl H) _ fun H1 e1 => ⟨.inl ⟨rfl, xs, .inl (.inl (e1 _ _ hl))⟩, h H1 e1⟩
theorem w_op {r : R2} {tb : TE} (h : ta σ H fun x H1 => tb σ H1 fun y H2 => r x y H2 Q) : tOp r ta tb σ H Q := h
theorem w_cons {tr : TA} {R : List V → Hp → Prop} (h : ta σ H fun v H1 => tr σ H1 fun vs H2 => R (v :: vs) H2) : tCons ta tr σ H R := h
theorem w_tup {t : TA} (h : t σ H fun vs H1 => vs.length ≤ sizeLine ∧ ∀ p, H1 p = none → Q (.ref p) (upd H1 p (.tup vs))) : tTup t σ H Q := h
/-- an item of a list, drawn or the first -/
theorem w_gait {p : Addr} {xs : List V} {ds : List PyData} {m : Nat} {tt : TT} {bb : Bool} (hl : EvV tl σ H (.ref p)) (hp : H p = some (.lst xs)) (hx : TpAll K H xs ds) (hlen : ds.length = m) (np : p ≠ a) (hf : FeedAt H a b c) (hc : c ≤ 100000) (ht : EvT tt σ H bb) (ha : EvV ta σ H (.ref a)) (hm : Ev K tm σ H (.int (m : Int))) (h0 : 0 < m) (h1 : m < 1000)
    (k : ∀ d v H', d ∈ ds → Tp K H' v d → ExB a H H' → FeedAt H' a b (c + 1) → Q v H') : tOp (rIxL K) tl (tIf tt (tCall (spDraw K) [] E (tCons ta (tCons tm tNil))) (tC (.int 0))) σ H Q :=
  hl H (Same.refl H) _ fun H1 e1 => ht H1 e1 _ fun H2 e2 => by
    have e12 := e1.trans e2
    cases bb with
    | true =>
      refine iteT (w_draw (m := m) (hf.sm e12) hc (ha.mono e12) (hm.mono e12) h0 (by omega) fun z H' hz x f => ?_)
      have hp' := x _ _ np (e12 _ _ hp)
      have hj : ds[z]? = some ds[z] := List.getElem?_eq_getElem (by omega)
      obtain ⟨v, hv, tv⟩ := hx.get hj
      exact ⟨p, xs, z, v, rfl, rfl, .inl (.inl hp'), atI_nat hv, k _ v H' (List.mem_of_getElem? hj) ((tv.sm e12).up ((hf.sm e12).tx x)) ((ExB.of e12).trans x) f⟩
    | false =>
      refine iteF ?_
      have hj : ds[0]? = some ds[0] := List.getElem?_eq_getElem (by omega)
      obtain ⟨v, hv, tv⟩ := hx.get hj
      exact ⟨p, xs, 0, v, rfl, rfl, .inl (.inl (e12 _ _ hp)), atI_nat (j := 0) hv, k _ v H2 (List.mem_of_getElem? hj) (tv.sm e12) (.of e12) ((hf.sm e12).mono (by omega))⟩
theorem w_catT {ds : List PyData} {tb : TE} (n1 : ds ≠ []) (h1 : Ev K ta σ H (.tuple ds)) (hz : ds.length ≤ 1000)
    (h2 : ∀ H1, Same H H1 → ∀ R : VK, (∀ v H2 es, es ≠ [] → es.length ≤ 1000 → Tp K H2 v (.tuple es) → Tx H1 H2 → (∀ p u, H2 p = none → Tp K (upd H2 p (.tup u)) (.ref p) (.tuple (ds ++ es)) → Q (.ref p) (upd H2 p (.tup u))) → R v H2) → tb σ H1 R) : tOp (rCatA K) ta tb σ H Q :=
  h1 H (Same.refl H) _ fun v1 H1 e1 hv1 => h2 H1 e1 _ fun v2 H2 es n2 z2 hv2 t k => by
    obtain ⟨p1, xs, rfl, s1, x1⟩ := (hv1.up t).tup_inv
    obtain ⟨p2, ys, rfl, s2, x2⟩ := hv2.tup_inv
    refine ⟨p1, p2, xs, ys, rfl, rfl, s1, s2, by rw [x1.len, x2.len]; exact sz_of (by omega), fun z => ?_, fun _ z => ?_, fun _ _ p hp => k p _ hp (.tup (.inl (.inl upd_same)) ((x1.app x2).up (tx_new hp)))⟩
    · have := x1.len
      rw [z] at this
      exact absurd (List.length_eq_zero_iff.mp this.symm) n1
    · have := x2.len
      rw [z] at this
      exact absurd (List.length_eq_zero_iff.mp this.symm) n2
variable {P : Program} {w : World} {mg : Str → Option Value} {base : Heap} {C aN : Addr}
def NAMES : List Str := ["a", "ab", "b", "h", "hh", "x", "zz", "zzzzzzzz"]
theorem names_ok : ∀ n ∈ NAMES, (PyData.str n).canLay0 = true := by decide +kernel
theorem names_nd : NAMES.Nodup := by decide +kernel
def gD (g : Int × Int) : PyData := .tuple [fr g.1, fr g.2]
def GAITS : List (Int × Int) := [(240, 240), (120, 480), (180, 300), (240, 360), (120, 240)]
theorem gaits_ok : ∀ g ∈ GAITS, (RateOk g.1 ∧ g.1 ≤ 240) ∧ RateOk g.2 ∧ 240 ≤ g.2 := by
  intro g hg
  simp only [GAITS, List.mem_cons, List.not_mem_nil, or_false] at hg
  rcases hg with rfl | rfl | rfl | rfl | rfl <;> (unfold RateOk; simp)
def spField (K : PySem.W.Frag) : Sp := fun vs H Q _ => ∃ a b c, vs = [.ref a] ∧ FeedAt H a b c ∧ 0 ≤ c ∧ c ≤ 1000 ∧ ∀ f v H', FldOk f → ExB a H H' → FeedAt H' a b (c + 100) → Tp K H' v (dF f) → Q v H'
theorem ev_gait {z1 n1 d1 z2 n2 d2 : Int} (h1 : nu z1 = n1 ∧ de z1 = d1 := by decide +kernel) (h2 : nu z2 = n2 ∧ de z2 = d2 := by decide +kernel) :
    Ev K (tTup (tCons (tTup (tCons (tC (.int n1)) (tCons (tC (.int d1)) tNil))) (tCons (tTup (tCons (tC (.int n2)) (tCons (tC (.int d2)) tNil))) tNil))) σ H (gD (z1, z2)) := ev_tup (ea_cons (ev_fr h1) (ea_cons (ev_fr h2) ea_nil))
theorem okWfield (T : Txt K mg C aN) : Def P w K mg base CX0 "_law_field" 3 ["_law_feed_here"] (spField K) := by
  refine def_of T.d__law_field scWfield (fun vs H Q E h => by obtain ⟨a, b, c, rfl, _⟩ := h; rfl) fun f cdv A outer s H0 E0 hr => ⟨_,
    (pss_cons (ps_set (i := 1) scWfield.nd rfl (Or.inl rfl) (pe_lst (pa_cons pe_str (pa_cons pe_str (pa_cons pe_str (pa_cons pe_str (pa_cons pe_str (pa_cons pe_str (pa_cons pe_str (pa_cons pe_str pa_nil))))))))))
      (pss_cons (ps_par3 (i := 2) (j := 3) (l := 4) rfl scWfield.nd rfl rfl rfl (by decide) (by decide) (by decide) rfl rfl rfl (pa_cons (pe_ix (ix_listk (K := K)) (pe_lst (pa_cons pe_int (pa_cons pe_int (pa_cons pe_int (pa_cons pe_int (pa_cons pe_int (pa_cons pe_int pa_nil))))))) (pe_fn ((okWdraw T).mono (by decide)) hr pass0 (pa_cons (pv 0) (pa_cons pe_int pa_nil))) (fun _ _ => rfl)) (pa_cons (pe_lst pa_nil) (pa_cons (pe_lst pa_nil) pa_nil))) (by rfl))
      (pss_cons (ps_set (i := 5) scWfield.nd rfl (Or.inl rfl) (pe_lst (pa_cons (pe_tup (pa_cons (pe_tup (pa_cons pe_int (pa_cons pe_int pa_nil))) (pa_cons (pe_tup (pa_cons pe_int (pa_cons pe_int pa_nil))) pa_nil))) (pa_cons (pe_tup (pa_cons (pe_tup (pa_cons pe_int (pa_cons pe_int pa_nil))) (pa_cons (pe_tup (pa_cons pe_int (pa_cons pe_int pa_nil))) pa_nil))) (pa_cons (pe_tup (pa_cons (pe_tup (pa_cons pe_int (pa_cons pe_int pa_nil))) (pa_cons (pe_tup (pa_cons pe_int (pa_cons pe_int pa_nil))) pa_nil))) (pa_cons (pe_tup (pa_cons (pe_tup (pa_cons pe_int (pa_cons pe_int pa_nil))) (pa_cons (pe_tup (pa_cons pe_int (pa_cons pe_int pa_nil))) pa_nil))) (pa_cons (pe_tup (pa_cons (pe_tup (pa_cons pe_int (pa_cons pe_int pa_nil))) (pa_cons (pe_tup (pa_cons pe_int (pa_cons pe_int pa_nil))) pa_nil))) pa_nil)))))))
      (pss_cons (ps_while PassesOwn.never (pt_cmpR op_gt (pe_callB (call_lenk (K := K)) (by rfl) T.z_len (by decide +kernel) (pa_cons (pv 1) pa_nil)) (pv 2) (nomark _)) (pss_one (ps_expr (pe_bmk (K := K) PySem.F.plainAttrs_list PySem.F.slot_list_pop PySem.F.type_list_pop mt_popAt (pv 1) (pa_cons (pe_fn ((okWdraw T).mono (by decide)) hr pass0 (pa_cons (pv 0) (pa_cons (pe_callB (call_lenk (K := K)) (by rfl) T.z_len (by decide +kernel) (pa_cons (pv 1) pa_nil)) pa_nil))) pa_nil)))))
      (pss_cons (ps_set (i := 6) scWfield.nd rfl (Or.inl rfl) (pe_ix (ix_listk (K := K)) (pv 1) (pe_fn ((okWdraw T).mono (by decide)) hr pass0 (pa_cons (pv 0) (pa_cons (pv 2) pa_nil))) (fun _ _ => rfl)))
      (pss_cons (ps_for PassesOwn.never rfl (pi_listk (K := K) (pv 1)) (pg_name (i := 7) scWfield.nd rfl (Or.inl rfl)) (pss_one (ps_expr (pe_bmk (K := K) PySem.F.plainAttrs_list PySem.F.slot_list_append PySem.F.type_list_append mt_append (pv 3) (pa_cons (pe_op (op_catAk (K := K)) (pe_tup (pa_cons (pv 7) pa_nil)) (pe_ix (ix_listk (K := K)) (pv 5) (pe_ifExp (pt_cmpR (op_nek (K := K) hr.units) (pv 7) (pv 6) (nomark _)) (pe_fn ((okWdraw T).mono (by decide)) hr pass0 (pa_cons (pv 0) (pa_cons pe_int pa_nil))) pe_int) (fun _ _ => rfl))) pa_nil)))))
      (pss_cons (ps_for PassesOwn.never rfl (pi_range1 (by rfl) T.z_range (pa_cons (pe_op op_mul (pe_fn ((okWdraw T).mono (by decide)) hr pass0 (pa_cons (pv 0) (pa_cons pe_int pa_nil))) (pe_callTy call_int1 (by rfl) T.z_int (by decide +kernel) (pa_cons (pe_cmpR op_gt (pv 2) pe_int (nomark _)) pa_nil))) pa_nil)) (pg_name (i := 8) scWfield.nd rfl (Or.inl rfl)) (pss_cons (ps_set (i := 9) scWfield.nd rfl (Or.inl rfl) (pe_fn ((okWdraw T).mono (by decide)) hr pass0 (pa_cons (pv 0) (pa_cons (pv 2) pa_nil))))
      (pss_cons (ps_set (i := 10) scWfield.nd rfl (Or.inl rfl) (pe_op op_modN (pe_op op_add (pe_op op_add (pv 9) pe_int) (pe_fn ((okWdraw T).mono (by decide)) hr pass0 (pa_cons (pv 0) (pa_cons (pe_op op_sub (pv 2) pe_int) pa_nil)))) (pv 2)))
      (pss_cons (ps_set (i := 11) scWfield.nd rfl (Or.inl rfl) (pe_ix (ix_listk (K := K)) (pe_lst (pa_cons (pe_tup (pa_cons pe_int (pa_cons pe_int pa_nil))) (pa_cons (pe_tup (pa_cons pe_int (pa_cons pe_int pa_nil))) (pa_cons (pe_tup (pa_cons pe_int (pa_cons pe_int pa_nil))) (pa_cons (pe_tup (pa_cons pe_int (pa_cons pe_int pa_nil))) pa_nil))))) (pe_fn ((okWdraw T).mono (by decide)) hr pass0 (pa_cons (pv 0) (pa_cons pe_int pa_nil))) (fun _ _ => rfl)))
      (pss_cons (ps_set (i := 12) scWfield.nd rfl (Or.inl rfl) (pe_lst (pa_cons pe_non (pa_cons (pv 11) (pa_cons (pe_fn ((okWmade T).mono (by decide)) hr pass0 (pa_cons (pe_op op_add (pe_ix (ix_tupk (K := K)) (pv 11) pe_int (fun _ _ => rfl)) (pe_ix (ix_tupk (K := K)) (pv 11) pe_int (fun _ _ => rfl))) (pa_cons (pe_ix (ix_tupk (K := K)) (pv 11) pe_int (fun _ _ => rfl)) pa_nil))) (pa_cons (pe_fn ((okWmade T).mono (by decide)) hr pass0 (pa_cons (pe_op op_add (pe_ix (ix_tupk (K := K)) (pv 11) pe_int (fun _ _ => rfl)) (pe_op op_mul pe_int (pe_ix (ix_tupk (K := K)) (pv 11) pe_int (fun _ _ => rfl)))) (pa_cons (pe_ix (ix_tupk (K := K)) (pv 11) pe_int (fun _ _ => rfl)) pa_nil))) pa_nil))))))
      (pss_one (ps_expr (pe_bmk (K := K) PySem.F.plainAttrs_list PySem.F.slot_list_append PySem.F.type_list_append mt_append (pv 4) (pa_cons (pe_tup (pa_cons (pe_ix (ix_listk (K := K)) (pv 1) (pv 9) (fun _ _ => rfl)) (pa_cons (pe_ix (ix_listk (K := K)) (pv 1) (pv 10) (fun _ _ => rfl)) (pa_cons (pv 11) (pa_cons (pe_ix (ix_listk (K := K)) (pv 12) (pe_fn ((okWdraw T).mono (by decide)) hr pass0 (pa_cons (pv 0) (pa_cons pe_int pa_nil))) (fun _ _ => rfl)) pa_nil))))) pa_nil)))))))))
      (pss_one (ps_ret (pe_tup (pa_cons (pe_callTy (call_tuplek (K := K)) (by rfl) T.z_tuple (by decide +kernel) (pa_cons (pv 3) pa_nil)) (pa_cons (pe_callTy (call_tuplek (K := K)) (by rfl) T.z_tuple (by decide +kernel) (pa_cons (pv 4) pa_nil)) (pa_cons (pv 6) pa_nil))))))))))))), fun H vs Q E h => ?_⟩
  obtain ⟨a, b, c, rfl, hf, hc0, hc, q⟩ := h
  have hS : Sto K H (L2.start ["_law_feed_here", "_law_pool", "_law_size", "_law_found", "_law_links", "_law_gaits", "_law_source", "_law_name", "_law_k", "_law_one", "_law_other", "_law_least", "_law_most"] [.ref a]) (.val (.ref a) :: List.replicate 12 .any) := .val Sto.anys
  -- the pool
  refine q_setL (Same.refl H) hS (el_lst (ds := NAMES.map PyData.str) (ea_cons ev_str (ea_cons ev_str (ea_cons ev_str (ea_cons ev_str (ea_cons ev_str (ea_cons ev_str (ea_cons ev_str (ea_cons ev_str ea_nil))))))))) fun p1 xs σ1 H1 hp1 e1 _ hS1 hl1 hxs => ?_
  have exs := TpAll.strs_inv hxs
  subst exs
  have f1 := hf.sm e1
  have n1 := hf.na hp1
  -- size, found, links
  refine q_par3W (w_ixN (ds := [.int 3, .int 2, .int 1, .int 4, .int 6, .int 5]) (m := 6) (ea_cons ev_int (ea_cons ev_int (ea_cons ev_int (ea_cons ev_int (ea_cons ev_int (ea_cons ev_int ea_nil)))))) rfl f1 (by omega) (evv_var hS1 rfl) ev_int (by decide) (by decide) fun j d v H2 hd hv x2 f2 => ?_)
  obtain ⟨size, rfl, hs1, hs6⟩ : ∃ sz : Nat, d = .int (sz : Int) ∧ 1 ≤ sz ∧ sz ≤ 6 := by
    have := List.mem_of_getElem? hd
    simp only [List.mem_cons, List.not_mem_nil, or_false] at this
    rcases this with rfl | rfl | rfl | rfl | rfl | rfl
    · exact ⟨3, rfl, by decide, by decide⟩
    · exact ⟨2, rfl, by decide, by decide⟩
    · exact ⟨1, rfl, by decide, by decide⟩
    · exact ⟨4, rfl, by decide, by decide⟩
    · exact ⟨6, rfl, by decide, by decide⟩
    · exact ⟨5, rfl, by decide, by decide⟩
  refine ⟨Nat.zero_le _, fun p3 hp3 => ⟨Nat.zero_le _, fun p4 hp4 => ⟨_, _, _, rfl, ?_⟩⟩⟩
  have e24 : Same H2 (upd (upd H2 p3 (.lst [])) p4 (.lst [])) := (same_new hp3).trans (same_new hp4)
  have n3 := f2.na hp3
  have n4 := (f2.sm (same_new hp3)).na hp4
  have hl2 : H2 p1 = some (.lst (NAMES.map V.str)) := x2 _ _ n1.1 hl1
  have n31 : p3 ≠ p1 := fun z => by rw [z, hl2] at hp3; cases hp3
  have n43 : p4 ≠ p3 := fun z => by rw [z, upd_same] at hp4; cases hp4
  have n41 : p4 ≠ p1 := fun z => by rw [z, upd_ne n31.symm, hl2] at hp4; cases hp4
  have x24 : ExB a H (upd (upd H2 p3 (.lst [])) p4 (.lst [])) := ((ExB.of e1).trans x2).trans (.of e24)
  have hp3' : H p3 = none := ((ExB.of e1).trans x2).free hp3 n3.1
  have hp4' : H p4 = none := (((ExB.of e1).trans x2).trans (.of (same_new hp3))).free hp4 n4.1
  have f4 := f2.sm e24
  have hS4 := (((hS1.tx (f1.tx x2)).sm e24).put 2 (hv.sm e24)).putV 3 (v := .ref p3) |>.putV 4 (v := .ref p4)
  have hl4 := e24 _ _ hl2
  have hl43 : (upd (upd H2 p3 (.lst [])) p4 (.lst [])) p3 = some (.lst []) := by rw [upd_ne n43.symm, upd_same]
  have hl44 : (upd (upd H2 p3 (.lst [])) p4 (.lst [])) p4 = some (.lst []) := upd_same
  generalize upd (upd H2 p3 (.lst [])) p4 (.lst []) = H4 at e24 x24 f4 hS4 hl4 hl43 hl44 ⊢
  -- gaits
  refine q_setL (Same.refl H4) hS4 (el_lst (ds := GAITS.map gD) (ea_cons ev_gait (ea_cons ev_gait (ea_cons ev_gait (ea_cons ev_gait (ea_cons ev_gait ea_nil)))))) fun p5 gs σ5 H5 hp5 e5 _ hS5 hl5 hgs => ?_
  have n5 := f4.na hp5
  have n51 : p5 ≠ p1 := fun z => by rw [z, hl4] at hp5; cases hp5
  have n53 : p5 ≠ p3 := fun z => by rw [z, hl43] at hp5; cases hp5
  have n54 : p5 ≠ p4 := fun z => by rw [z, hl44] at hp5; cases hp5
  have hp1' : H p1 = none := hp1
  have k1 := e5 _ _ hl4
  have k3 := e5 _ _ hl43
  have k4 := e5 _ _ hl44
  have x5 := x24.trans (.of e5)
  have f5 := f4.sm e5
  clear hl44 hl43 hl4 hp4 hp3 hl2 hl1 hd hxs e1 x2 f1 f2 x24 f4 e24 hp5 hp1 hS1 hS4 hS
  -- the pool shrinks
  refine q_while (fun m σ' H' => ∃ ns : List Str, m = ns.length ∧ size ≤ ns.length ∧ ns.length ≤ 8 ∧ ns.Nodup ∧ (∀ n ∈ ns, (PyData.str n).canLay0 = true) ∧ ExB a H H' ∧ FeedAt H' a b (c + 1 + (8 - ns.length : Nat)) ∧ H' p1 = some (.lst (ns.map V.str)) ∧ H' p3 = some (.lst []) ∧ H' p4 = some (.lst []) ∧
      H' p5 = some (.lst gs) ∧ TpAll K H' gs (GAITS.map gD) ∧ Sto K H' σ' [.val (.ref a), .val (.ref p1), .dat (.int (size : Int)), .val (.ref p3), .val (.ref p4), .val (.ref p5), .any, .any, .any, .any, .any, .any, .any]) 8
    ⟨NAMES, rfl, by show size ≤ 8; omega, Nat.le_refl _, names_nd, names_ok, x5, f5.mono (by show c + 1 ≤ c + 1 + ((8 - 8 : Nat) : Int); omega), k1, k3, k4, hl5, hgs, hS5⟩ ?_
  clear k1 k3 k4 x5 f5 hl5 hgs hS5
  rintro m σ6 H6 ⟨ns, rfl, hsz, h8, hnd, hlay, x6, f6, k1, k3, k4, k5, hgs, hS6⟩
  refine ⟨decide (size < ns.length), et_test (ev_is (ev_b0 (ev_lenL (evv_var hS6 rfl) (.inl (.inl k1))) (ev_var hS6 rfl)) (by rw [List.length_map]; congr 1; exact decide_eq_decide.mpr ⟨fun h => by omega, fun h => by omega⟩)), fun cl H7 e7 => ?_, fun cl H7 e7 => ?_⟩
  · have cl := of_decide_eq_true cl
    have hS7 := hS6.sm e7
    refine w_bm (e7 _ _ k1) (evv_var hS7 rfl) fun H8 e8 => ?_
    have e78 := e7.trans e8
    have hS8 := hS7.sm e8
    refine w_draw (m := ns.length) (f6.sm e78) (by omega) (evv_var hS8 rfl) (ev_is (ev_lenL (evv_var hS8 rfl) (.inl (.inl (e78 _ _ k1)))) (by rw [List.length_map])) (by omega) (by omega) fun z H9 hz x9 f9 => ?_
    have k19 := x9 _ _ n1.1 (e78 _ _ k1)
    refine ⟨p1, ns.map V.str, (z : Int), z, (ns.map V.str)[z]'(by rw [List.length_map]; exact hz), rfl, rfl, k19, by omega, by omega, (ixN_seq (ixN_nat (by rw [List.length_map]; exact hz))).1, List.getElem?_eq_getElem _, ?_⟩
    rw [erase_map]
    have hlen := List.length_eraseIdx_of_lt hz
    have t9 := (f6.sm e78).tx x9
    have tl := tx_lst (o := .lst ((ns.eraseIdx z).map V.str)) k19
    refine ⟨ns.length - 1, by omega, ns.eraseIdx z, hlen.symm, by omega, by omega, (List.eraseIdx_sublist ns z).nodup hnd, fun n hn => hlay n (List.mem_of_mem_eraseIdx hn), ((x6.trans (.of e78)).trans x9).mut hp1', (f9.mut n1.1 n1.2).mono (by omega), upd_same, ?_, ?_, ?_, ?_, ?_⟩
    · rw [upd_ne n31]; exact x9 _ _ n3.1 (e78 _ _ k3)
    · rw [upd_ne n41]; exact x9 _ _ n4.1 (e78 _ _ k4)
    · rw [upd_ne n51]; exact x9 _ _ n5.1 (e78 _ _ k5)
    · exact ((hgs.sm e78).up t9).up tl
    · exact (hS8.tx t9).tx tl
  have cl := of_decide_eq_false cl
  have hsz' : ns.length = size := by omega
  have hS7 := hS6.sm e7
  have k1 := e7 _ _ k1
  have k3 := e7 _ _ k3
  have k4 := e7 _ _ k4
  have k5 := e7 _ _ k5
  have x7 := x6.trans (.of e7)
  have f7 : FeedAt H7 a b (c + 8) := (f6.sm e7).mono (by omega)
  have hgs := hgs.sm e7
  clear f6 x6 hS6 e7 cl h8
  -- the source
  refine q_asgW (w_ixV (m := size) (evv_var hS7 rfl) k1 (TpAll.strs ns) (by rw [List.length_map]; exact hsz') n1.1 f7 (by omega) (evv_var hS7 rfl) (ev_var hS7 rfl) (by omega) (by omega) fun j d v H8 hd hv x8 f8 => ?_)
  obtain ⟨src, hsrc, rfl⟩ : ∃ src, src ∈ ns ∧ d = .str src := by
    rw [List.getElem?_map] at hd
    obtain ⟨n, hn, rfl⟩ := Option.map_eq_some_iff.mp hd
    exact ⟨n, List.mem_of_getElem? hn, rfl⟩
  have t8 := f7.tx x8
  have hS8 := (hS7.tx t8).put 6 hv
  have k1 := x8 _ _ n1.1 k1
  have k3 := x8 _ _ n3.1 k3
  have k4 := x8 _ _ n4.1 k4
  have k5 := x8 _ _ n5.1 k5
  have x8' := x7.trans x8
  have hgs := hgs.up t8
  clear hd hv x8 t8 f7 x7 hS7
  -- the houses
  refine q_forL (xs := ns.map V.str) (evv_var hS8 rfl) k1 (fun i σ' H' => ExB a H H' ∧ FeedAt H' a b (c + 10 + (i : Nat)) ∧ H' p1 = some (.lst (ns.map V.str)) ∧ H' p4 = some (.lst []) ∧ H' p5 = some (.lst gs) ∧ TpAll K H' gs (GAITS.map gD) ∧
      Sto K H' σ' [.val (.ref a), .val (.ref p1), .dat (.int (size : Int)), .val (.ref p3), .val (.ref p4), .val (.ref p5), .dat (.str src), .any, .any, .any, .any, .any, .any] ∧
      ∃ (hs : List Hs) (acc : List V), H' p3 = some (.lst acc) ∧ TpAll K H' acc (hs.map dH) ∧ hs.map (·.name) = ns.take i ∧ ∀ h ∈ hs, (RateOk h.slow ∧ h.slow ≤ 240) ∧ RateOk h.fast ∧ 240 ≤ h.fast)
    (fun H9 e9 => ⟨x8'.trans (.of e9), (f8.sm e9).mono (by omega), e9 _ _ k1, e9 _ _ k4, e9 _ _ k5, hgs.sm e9, hS8.sm e9, [], [], e9 _ _ k3, .nil, rfl, fun h hh => by cases hh⟩) (fun i σ' H' p => p.2.2.1) (fun i x σ9 H9 hi p => ?_) (fun σ9 H9 p => ?_)
  · obtain ⟨x9, f9, k1, k4, k5, hgs, hS9, hs, acc, k3, hacc, hnm, hrt⟩ := p
    rw [List.getElem?_map] at hi
    obtain ⟨nm, hnm', rfl⟩ := Option.map_eq_some_iff.mp hi
    have hi8 : i < ns.length := (List.getElem?_eq_some_iff.mp hnm').1
    refine g_name (d := .str nm) hS9 (.str _) fun σa hSa => ?_
    have hlen : acc.length = i := by
      have h1 := hacc.len
      have h2 := congrArg List.length hnm
      rw [List.length_map] at h1 h2
      rw [List.length_take] at h2
      omega
    refine w_app k3 (evv_var hSa rfl) fun H10 e10 => ?_
    have hSb := hSa.sm e10
    refine w_catT (ds := [.str nm]) (by simp) (ev_tup (ea_cons (ev_var hSb rfl) ea_nil)) (Nat.le_of_ble_eq_true rfl) fun H11 e11 R kR => ?_
    have e11' := e10.trans e11
    have hSc := hSb.sm e11
    refine w_gait (m := 5) (evv_var hSc rfl) (e11' _ _ k5) (hgs.sm e11') rfl n5.1 (f9.sm e11') (by omega) (et_test (ev_ne (ev_var (d := .str nm) hSc rfl) (ev_var (d := .str src) hSc rfl) (Sh.ok (n := 0) (.str (hlay _ (List.mem_of_getElem? hnm')))) (Sh.ok (n := 0) (.str (hlay _ hsrc))))) (evv_var hSc rfl) ev_int (by decide) (by decide) fun d v H12 hd hv x12 f12 => ?_
    obtain ⟨g, hg, rfl⟩ := List.mem_map.mp hd
    have t12 := (f9.sm e11').tx x12
    refine kR v H12 [fr g.1, fr g.2] (by simp) (by show 2 ≤ 1000; decide) hv t12 fun p u hp hT => ⟨acc, ?_, sz_lt (by omega), ?_⟩
    · exact same_new hp _ _ (x12 _ _ n3.1 (e11' _ _ k3))
    · have eN : Same H12 (upd H12 p (.tup u)) := same_new hp
      have k3' : (upd H12 p (.tup u)) p3 = some (.lst acc) := eN _ _ (x12 _ _ n3.1 (e11' _ _ k3))
      have tl := tx_lst (o := .lst (acc ++ [.ref p])) k3'
      have tAll : Tx H9 (upd H12 p (.tup u)) := ((same_tx e11').trans t12).trans (same_tx eN)
      refine ⟨(((x9.trans (.of e11')).trans x12).trans (.of eN)).mut hp3', ((f12.sm eN).mut n3.1 n3.2).mono (by omega), ?_, ?_, ?_, (hgs.up tAll).up tl, ?_, hs ++ [⟨nm, g.1, g.2⟩], acc ++ [.ref p], upd_same, ?_, ?_, ?_⟩
      · rw [upd_ne n31.symm]; exact eN _ _ (x12 _ _ n1.1 (e11' _ _ k1))
      · rw [upd_ne n43]; exact eN _ _ (x12 _ _ n4.1 (e11' _ _ k4))
      · rw [upd_ne n53]; exact eN _ _ (x12 _ _ n5.1 (e11' _ _ k5))
      · exact ((((hSc.tx t12).sm eN).tx tl).drop 7)
      · rw [List.map_append]
        exact ((hacc.up tAll).app (.one hT)).up tl
      · rw [List.map_append, hnm, List.take_add_one, hnm']
        rfl
      · intro h hh
        rcases List.mem_append.mp hh with hh | hh
        · exact hrt h hh
        · rw [List.mem_singleton.mp hh]
          exact gaits_ok g hg
  obtain ⟨x9, f9, k1, k4, k5, hgs, hS9, hs, acc, k3, hacc, hnm, hrt⟩ := p
  rw [List.length_map, List.take_length] at hnm
  rw [List.length_map] at f9
  have f9 : FeedAt H9 a b (c + 20) := f9.mono (by omega)
  clear hS8 x8' f8
  have hhl : hs.length = size := by
    have := congrArg List.length hnm
    rw [List.length_map] at this
    omega
  -- the links
  refine q_forR1W (fun n i σ' H' => n ≤ 8 ∧ (0 < n → 1 < size) ∧ ExB a H H' ∧ FeedAt H' a b (c + 21 + 4 * (i : Nat)) ∧ H' p1 = some (.lst (ns.map V.str)) ∧ H' p3 = some (.lst acc) ∧ TpAll K H' acc (hs.map dH) ∧
      Sto K H' σ' [.val (.ref a), .val (.ref p1), .dat (.int (size : Int)), .val (.ref p3), .val (.ref p4), .val (.ref p5), .dat (.str src), .any, .any, .any, .any, .any, .any] ∧
      ∃ (ls : List Lnk) (lacc : List V), H' p4 = some (.lst lacc) ∧ TpAll K H' lacc (ls.map dL) ∧ ls.length = i ∧ ∀ l ∈ ls, (PyData.str l.frm).canLay0 = true ∧ (PyData.str l.dst).canLay0 = true)
    (fun R kR => w_cons (w_op (w_draw (m := 9) f9 (by omega) (evv_var hS9 rfl) ev_int (by decide) (by decide) fun z H10 hz x10 f10 => ?_))) (fun n i σ' H' hi p => ?_) (fun n σ' H' p => ?_)
  · have t10 := f9.tx x10
    have hS10 := hS9.tx t10
    refine ev_intb (b := decide (1 < size)) (ea_cons (ev_is (ev_b0 (ev_var hS10 rfl) ev_int) (by congr 1; exact decide_eq_decide.mpr ⟨fun h => by omega, fun h => by omega⟩)) ea_nil) H10 (Same.refl _) _ fun v H11 e11 hv => ?_
    rw [hv.int_inv]
    refine ⟨_, _, rfl, rfl, cmulR (by split <;> decide), ?_⟩
    have pv : ∀ n : Nat, n ≤ 8 → (0 < n → 1 < size) → _ := fun n h1 h2 => kR n H11 (by omega) ⟨h1, h2, (x9.trans x10).trans (.of e11), (f10.sm e11).mono (by omega), e11 _ _ (x10 _ _ n1.1 k1), e11 _ _ (x10 _ _ n3.1 k3), (hacc.up t10).sm e11, hS10.sm e11, [], [], e11 _ _ (x10 _ _ n4.1 k4), .nil, rfl, fun l hl => by cases hl⟩
    by_cases c1 : 1 < size
    · rw [decide_eq_true c1]
      have := pv z (by omega) fun _ => c1
      rw [if_pos rfl]
      show R [.int ((z : Int) * 1)] H11
      rw [Int.mul_one]
      exact this
    · rw [decide_eq_false c1]
      have := pv 0 (by omega) fun h => absurd h (by decide)
      rw [if_neg (by decide)]
      show R [.int ((z : Int) * 0)] H11
      rw [Int.mul_zero]
      exact this
  · obtain ⟨hn8, hn1, x10, f10, k1, k3, hacc, hS10, ls, lacc, k4, hlacc, hll, hlay2⟩ := p
    have s1 := hn1 (by omega)
    have nl : (ns.map V.str).length = size := by rw [List.length_map, hsz']
    refine g_name (d := .int (i : Int)) hS10 (.int _) fun σb hSb => ?_
    -- one
    refine q_asgW (w_draw (m := size) f10 (by omega) (evv_var hSb rfl) (ev_var hSb rfl) (by omega) (by omega) fun one H11 h1 x11 f11 => ?_)
    have t11 := f10.tx x11
    have hS11 := (hSb.tx t11).put 9 (v := .int (one : Int)) (d := .int (one : Int)) (.int _)
    have k1 := x11 _ _ n1.1 k1
    have k3 := x11 _ _ n3.1 k3
    have k4 := x11 _ _ n4.1 k4
    have hacc := hacc.up t11
    have hlacc := hlacc.up t11
    have x11 := x10.trans x11
    clear x10 f10 hS10 hSb t11
    -- other
    refine q_asgW (w_op (w_op (ev_i0 (i := one) (j := 1) (ev_var hS11 rfl) ev_int _ (Same.refl _) _ fun v H12 e12 hv => w_draw (m := size - 1) (f11.sm e12) (by omega) (evv_var (hS11.sm e12) rfl) (ev_is (ev_i0 (i := (size : Int)) (j := 1) (ev_var (hS11.sm e12) rfl) ev_int) (by congr 1; omega)) (by omega) (by omega) fun z H13 hz x13 f13 => ?_)))
    have t13 := (f11.sm e12).tx x13
    have hS13 := (hS11.sm e12).tx t13
    refine ⟨_, _, hv.int_inv, rfl, ?_⟩
    refine ev_var (d := .int (size : Int)) hS13 rfl H13 (Same.refl _) _ fun v2 H14 e14 hv2 => ⟨_, _, rfl, hv2.int_inv, by omega, ?_⟩
    have hr := fmod_rng (i := (one : Int) + 1 + (z : Int)) (m := (size : Int)) (by omega)
    obtain ⟨other, ho, hol⟩ : ∃ o : Nat, ((one : Int) + 1 + (z : Int)).fmod (size : Int) = (o : Int) ∧ o < size := ⟨(((one : Int) + 1 + (z : Int)).fmod (size : Int)).toNat, by omega, by omega⟩
    dsimp only
    rw [ho]
    have hS14 := (hS13.sm e14).put 10 (v := .int (other : Int)) (d := .int (other : Int)) (.int _)
    have tA := ((same_tx e12).trans t13).trans (same_tx e14)
    have k1 := e14 _ _ (x13 _ _ n1.1 (e12 _ _ k1))
    have k3 := e14 _ _ (x13 _ _ n3.1 (e12 _ _ k3))
    have k4 := e14 _ _ (x13 _ _ n4.1 (e12 _ _ k4))
    have hacc := hacc.up tA
    have hlacc := hlacc.up tA
    have x14 := ((x11.trans (.of e12)).trans x13).trans (.of e14)
    have f14 := f13.sm e14
    clear x11 f11 hS11 t13 hS13 tA f13 x13 e14 hv2 hv e12 hr ho hz
    -- least
    refine q_asgW (w_ixN (ds := [fr 0, fr 120, fr 240, fr 720]) (m := 4) (ea_cons ev_fr (ea_cons ev_fr (ea_cons ev_fr (ea_cons ev_fr ea_nil)))) rfl f14 (by omega) (evv_var hS14 rfl) ev_int (by decide) (by decide) fun j d v H15 hd hv x15 f15 => ?_)
    obtain ⟨lz, rfl⟩ : ∃ lz, d = fr lz := by
      have := List.mem_of_getElem? hd
      simp only [List.mem_cons, List.not_mem_nil, or_false] at this
      rcases this with rfl | rfl | rfl | rfl <;> exact ⟨_, rfl⟩
    have t15 := f14.tx x15
    have hS15 := (hS14.tx t15).put 11 hv
    have k1 := x15 _ _ n1.1 k1
    have k3 := x15 _ _ n3.1 k3
    have k4 := x15 _ _ n4.1 k4
    have hacc := hacc.up t15
    have hlacc := hlacc.up t15
    have x15 := x14.trans x15
    clear x14 f14 hS14 t15 hd hv
    -- most
    have l0 : ∀ {H2}, Same H15 H2 → Ev K (tVar 11) _ H2 (fr lz) := fun {H2} g => ev_var (hS15.sm g) rfl
    have rr := Same.refl H15
    have dp := de_pos lz
    have dl := de_le lz
    have m2 : (nu lz + de lz) * 240 = (lz + 240) * de lz := by rw [Int.add_mul, nu_de, Int.add_mul, Int.mul_comm (de lz) 240]
    have m3 : (nu lz + 9 * de lz) * 240 = (lz + 2160) * de lz := by
      rw [Int.add_mul, nu_de, Int.add_mul]
      omega
    refine q_setL (ds := [frO none, frO (some lz), frO (some (lz + 240)), frO (some (lz + 2160))]) rr hS15 (el_lst (ea_cons ev_non (ea_cons (l0 rr) (ea_cons (ev_call (d := fr (lz + 240)) (ea_cons (ev_i0 (ev_nu (l0 rr)) (ev_de (l0 rr))) (ea_cons (ev_de (l0 rr)) ea_nil)) ⟨_, _, _, rfl, dp, by omega, m2, rfl⟩)
      (ea_cons (ev_call (d := fr (lz + 2160)) (ea_cons (ev_i0 (ev_nu (l0 rr)) (ev_i ev_int (ev_de (l0 rr)) (cmulL (by decide)))) (ea_cons (ev_de (l0 rr)) ea_nil)) ⟨_, _, _, rfl, dp, by omega, m3, rfl⟩) ea_nil))))) fun pm ms σm H16 hpm e16 _ hS16 hlm hms => ?_
    have f16 := f15.sm e16
    have nm := f15.na hpm
    have k1 := e16 _ _ k1
    have k3 := e16 _ _ k3
    have k4 := e16 _ _ k4
    have hacc := hacc.sm e16
    have hlacc := hlacc.sm e16
    have x16 := x15.trans (.of e16)
    -- the link
    have g1 : (ns.map V.str)[one]? = some (.str (ns[one]'(by omega))) := by rw [List.getElem?_map, List.getElem?_eq_getElem (by omega)]; rfl
    have g2 : (ns.map V.str)[other]? = some (.str (ns[other]'(by omega))) := by rw [List.getElem?_map, List.getElem?_eq_getElem (by omega)]; rfl
    have y1 := hlay _ (List.getElem_mem (l := ns) (n := one) (by omega))
    have y2 := hlay _ (List.getElem_mem (l := ns) (n := other) (by omega))
    generalize ns[one]'(by omega) = nm1 at g1 y1
    generalize ns[other]'(by omega) = nm2 at g2 y2
    refine w_app k4 (evv_var hS16 rfl) fun H17 e17 => ?_
    have hS17 := hS16.sm e17
    refine w_tup (w_cons (ev_ixL (d := .str nm1) (evv_var hS17 rfl) (ev_var hS17 rfl) (.inl (.inl (e17 _ _ k1))) (atI_nat g1) (.str _) H17 (Same.refl _) _ fun v1 H18 e18 hv1 => ?_))
    have e178 := e17.trans e18
    have hS18 := hS17.sm e18
    refine w_cons (ev_ixL (d := .str nm2) (evv_var hS18 rfl) (ev_var hS18 rfl) (.inl (.inl (e178 _ _ k1))) (atI_nat g2) (.str _) H18 (Same.refl _) _ fun v2 H19 e19 hv2 => ?_)
    have e179 := e178.trans e19
    have hS19 := hS18.sm e19
    refine w_cons (ev_var (d := fr lz) hS19 rfl H19 (Same.refl _) _ fun v3 H20 e20 hv3 => ?_)
    have e170 := e179.trans e20
    have hS20 := hS19.sm e20
    refine w_cons (w_ixV (m := 4) (evv_var hS20 rfl) (e170 _ _ hlm) (hms.sm e170) rfl nm.1 (f16.sm e170) (by omega) (evv_var hS20 rfl) ev_int (by decide) (by decide) fun j d v4 H21 hd hv4 x21 f21 => ?_)
    obtain ⟨mo, rfl⟩ : ∃ mo, d = frO mo := by
      have := List.mem_of_getElem? hd
      simp only [List.mem_cons, List.not_mem_nil, or_false] at this
      rcases this with rfl | rfl | rfl | rfl <;> exact ⟨_, rfl⟩
    have t21 := (f16.sm e170).tx x21
    refine ⟨sz_of (Nat.le_of_ble_eq_true rfl), fun p hp => ⟨lacc, ?_, ?_, ?_⟩⟩
    · exact same_new hp _ _ (x21 _ _ n4.1 (e170 _ _ k4))
    · have h1 := hlacc.len
      rw [List.length_map] at h1
      exact sz_lt (by omega)
    · have eN : Same H21 (upd H21 p (.tup [v1, v2, v3, v4])) := same_new hp
      have hT : Tp K (upd H21 p (.tup [v1, v2, v3, v4])) (.ref p) (dL ⟨nm1, nm2, lz, mo⟩) :=
        .tup (.inl (.inl upd_same)) (.cons (((((hv1.sm e19).sm e20).up t21).sm eN)) (.cons (((hv2.sm e20).up t21).sm eN) (.cons ((hv3.up t21).sm eN) (.cons (hv4.sm eN) .nil))))
      have k4' := eN _ _ (x21 _ _ n4.1 (e170 _ _ k4))
      have tl := tx_lst (o := .lst (lacc ++ [.ref p])) k4'
      have tAll := ((same_tx e170).trans t21).trans (same_tx eN)
      refine ⟨hn8, hn1, (((x16.trans (.of e170)).trans x21).trans (.of eN)).mut hp4', ((f21.sm eN).mut n4.1 n4.2).mono (by omega), ?_, ?_, (hacc.up tAll).up tl, ?_, ls ++ [⟨nm1, nm2, lz, mo⟩], lacc ++ [.ref p], upd_same, ?_, ?_, ?_⟩
      · rw [upd_ne n41.symm]; exact eN _ _ (x21 _ _ n1.1 (e170 _ _ k1))
      · rw [upd_ne n43.symm]; exact eN _ _ (x21 _ _ n3.1 (e170 _ _ k3))
      · exact ((((((hS20.tx t21).sm eN).tx tl).drop 8).drop 9).drop 10).drop 11 |>.drop 12
      · rw [List.map_append]
        exact ((hlacc.up tAll).app (.one hT)).up tl
      · rw [List.length_append, hll]
        rfl
      · intro l hl
        rcases List.mem_append.mp hl with hl | hl
        · exact hlay2 l hl
        · rw [List.mem_singleton.mp hl]
          exact ⟨y1, y2⟩
  obtain ⟨hn8, _, x10, f10, k1, k3, hacc, hS10, ls, lacc, k4, hlacc, hll, hlay2⟩ := p
  refine s_ret (Same.refl H') (ev_tup (ea_cons (ev_tupL (evv_var hS10 rfl) (.inl (.inl k3)) hacc) (ea_cons (ev_tupL (evv_var hS10 rfl) (.inl (.inl k4)) hlacc) (ea_cons (ev_var hS10 rfl) ea_nil)))) fun v H11 e11 hv => q ⟨hs, ls, src⟩ v H11 ⟨⟨?_, ?_, fun h hh => (hrt h hh).1, fun h hh => (hrt h hh).2, ?_⟩, ?_, ?_, hlay2⟩ (x10.trans (.of e11)) ((f10.sm e11).mono (by omega)) hv
  · rw [hnm]; exact hnd
  · show hs.length ≤ 6; omega
  · intro h hh
    have : h.name ∈ ns := by rw [← hnm]; exact List.mem_map_of_mem hh
    exact hlay _ this
  · show 0 < hs.length; omega
  · show ls.length ≤ 8; omega
end
end Lk

namespace Lk
open PySem PySem.Spec PyProof.Rows L2 Mx
def DeedFits (f : Fd) (es : List Evt) (ww : List Int) (now : Int) : Deed → Prop
  | .mark => True
  | .send l => l < f.links.length
  | .hear k => ∃ e l lk, es[k]? = some e ∧ e.deed = .send l ∧ f.links[l]? = some lk ∧ fitsB lk (now - wz ww k) = true
section
variable {K : PySem.W.Frag} {σ : L2.St} {H : Hp} {ρ : List Sl} {ta tb tl tm te to : TE} {tz : TS} {D : Ends}
theorem el_cat2 {ds es : List PyData} (ha : EvL K ta σ H ds) (hb : EvL K tb σ H es) (hz : ds.length + es.length ≤ 100000) : EvL K (tOp rCat ta tb) σ H (ds ++ es) := fun H1 e Q q =>
  ha H1 e _ fun p xs H2 hn e2 hp hx => hb H2 (e.trans e2) _ fun r ys H3 _ e3 hr hy => ⟨p, r, xs, ys, rfl, rfl, e3 _ _ hp, hr, by rw [hx.len, hy.len]; exact sz_of hz, fun u hu =>
    q u _ _ ((e2.trans e3).free hu) ((e2.trans e3).trans (same_new hu)) upd_same (((hx.sm e3).app hy).up (tx_new hu))⟩
theorem el_rep2 {ds : List PyData} (ha : EvL K ta σ H ds) (hz : ds.length ≤ 1000) : EvL K (tOp rRep ta (tC (.int 2))) σ H (ds ++ ds) := fun H1 e Q q =>
  ha H1 e _ fun p xs H2 hn e2 hp hx => ⟨p, 2, xs, rfl, rfl, hp, by decide, by decide, by rw [hx.len]; exact sz_of (by show ds.length * 2 ≤ 100000; omega), fun u hu =>
    q u _ _ (e2.free hu) (e2.trans (same_new hu)) upd_same (by
      have : (List.replicate (2 : Int).toNat xs).flatten = xs ++ xs := by
        show xs ++ (xs ++ []) = xs ++ xs
        rw [List.append_nil]
      rw [this]
      exact (hx.app hx).up (tx_new hu))⟩
variable {P : Program} {w : World} {mg : Str → Option Value} {base : Heap} {C aN : Addr}
def lkAt (f : Fd) (l : Nat) : Lnk := (f.links[l]?).getD ⟨Str.empty, Str.empty, 0, none⟩
def spDeeds (K : PySem.W.Frag) : Sp := fun vs H Q _ => ∃ f es ww h now vf pe pw vh vn evs ws, vs = [vf, .ref pe, .ref pw, vh, vn] ∧ Tp K H vf (dF f) ∧ H pe = some (.lst evs) ∧ TpAll K H evs (es.map dE) ∧ H pw = some (.lst ws) ∧ TpAll K H ws (ww.map fr) ∧ Tp K H vh (.str h) ∧ Tp K H vn (fr now) ∧
  FldOk f ∧ es.length ≤ 20 ∧ ww.length = es.length ∧ (PyData.str h).canLay0 = true ∧ (∀ e ∈ es, ∀ l, e.deed = .send l → l < f.links.length) ∧
  ∀ (ds : List Deed) p xs H', ds ≠ [] → ds.length ≤ 100 → (∀ d ∈ ds, DeedFits f es ww now d) → H p = none → Same H H' → H' p = some (.lst xs) → TpAll K H' xs (ds.map dD) → Q (.ref p) H'
theorem okWdeeds (T : Txt K mg C aN) : Def P w K mg base CX0 "_law_deeds" 5 ["_law_field_here", "_law_events", "_law_world", "_law_house", "_law_now"] (spDeeds K) := by
  refine def_of T.d__law_deeds scWdeeds (fun vs H Q E h => by obtain ⟨_, _, _, _, _, _, _, _, _, _, _, _, rfl, _⟩ := h; rfl) fun f cdv A outer s H0 E0 hr => ⟨_,
    (pss_cons (ps_set (i := 5) scWdeeds.nd rfl (Or.inr rfl) (pe_ix (ix_tupk (K := K)) (pv 0) pe_int (fun _ _ => rfl)))
      (pss_cons (ps_set (i := 6) scWdeeds.nd rfl (Or.inl rfl) (pe_op op_cat (pe_lst (pa_cons (pe_tup (pa_cons pe_str pa_nil)) pa_nil)) (pe_lc (own := [("_law_l", 8)]) (g := gName 8) rfl scWdeeds.nd (pi_range1 (by rfl) T.z_range (pa_cons (pe_callB (call_lenk (K := K)) (by rfl) T.z_len (by decide +kernel) (pa_cons (pv 5) pa_nil)) pa_nil)) (blkOk_by (own := [("_law_l", 8)]) (N := ["_law_field_here", "_law_events", "_law_world", "_law_house", "_law_now", "_law_links", "_law_found", "_law_k", "_law_l"]) (sc := defScope sWdeeds) (by decide +kernel)) (fun _ _ _ _ _ => (pg_name (i := 8) scWdeeds.nd rfl (Or.inl rfl))) (fun _ _ _ _ _ => pts_one (pt_cmpR (op_eqk (K := K) hr.units) (pe_ix (ix_tupk (K := K)) (pe_ix (ix_tupk (K := K)) (pv 5) (pv 8) (fun _ _ => rfl)) pe_int (fun _ _ => rfl)) (pv 3) (nomark _))) (fun _ _ _ _ _ => (pe_tup (pa_cons pe_str (pa_cons (pv 8) pa_nil)))))))
      (pss_cons (ps_for PassesOwn.never rfl (pi_range1 (by rfl) T.z_range (pa_cons (pe_callB (call_lenk (K := K)) (by rfl) T.z_len (by decide +kernel) (pa_cons (pv 1) pa_nil)) pa_nil)) (pg_name (i := 7) scWdeeds.nd rfl (Or.inl rfl)) (pss_one (ps_if (PW.pt (pw_and (pt_cmpR (op_eqk (K := K) hr.units) (pe_ix (ix_tupk (K := K)) (pe_ix (ix_tupk (K := K)) (pe_ix (ix_listk (K := K)) (pv 1) (pv 7) (fun _ _ => rfl)) pe_int (fun _ _ => rfl)) pe_int (fun _ _ => rfl)) pe_str (nomark _)) (pw_and1 (pt_cmpR (op_eqk (K := K) hr.units) (pe_ix (ix_tupk (K := K)) (pe_ix (ix_tupk (K := K)) (pv 5) (pe_ix (ix_tupk (K := K)) (pe_ix (ix_tupk (K := K)) (pe_ix (ix_listk (K := K)) (pv 1) (pv 7) (fun _ _ => rfl)) pe_int (fun _ _ => rfl)) pe_int (fun _ _ => rfl)) (fun _ _ => rfl)) pe_int (fun _ _ => rfl)) (pv 3) (nomark _))))) (pss_one (ps_if (pt_val (pe_fn ((okWfits T).mono (by decide)) hr pass0 (pa_cons (pe_ix (ix_tupk (K := K)) (pv 5) (pe_ix (ix_tupk (K := K)) (pe_ix (ix_tupk (K := K)) (pe_ix (ix_listk (K := K)) (pv 1) (pv 7) (fun _ _ => rfl)) pe_int (fun _ _ => rfl)) pe_int (fun _ _ => rfl)) (fun _ _ => rfl)) (pa_cons (pe_ix (ix_listk (K := K)) (pv 2) (pv 7) (fun _ _ => rfl)) (pa_cons (pv 4) pa_nil))))) (pss_one (ps_set (i := 6) scWdeeds.nd rfl (Or.inl rfl) (pe_op op_cat (pv 6) (pe_op op_rep (pe_lst (pa_cons (pe_tup (pa_cons pe_str (pa_cons (pv 7) pa_nil))) pa_nil)) pe_int)))) pss_nil)) pss_nil)))
      (pss_one (ps_ret (pv 6)))))), fun H vs Q E h => ?_⟩
  obtain ⟨f, es, ww, h, now, vf, pe, pw, vh, vn, evs, ws, rfl, tf, hpe, hes, hpw, hws, th, tn, fo, h20, hlw, hlay, hsd, q⟩ := h
  have hS : Sto K H (L2.start ["_law_field_here", "_law_events", "_law_world", "_law_house", "_law_now", "_law_links", "_law_found", "_law_k", "_law_l"] [vf, .ref pe, .ref pw, vh, vn]) [.dat (dF f), .val (.ref pe), .val (.ref pw), .dat (.str h), .dat (fr now), .any, .any, .any, .any] :=
    .dat tf (.val (.val (.dat th (.dat tn Sto.anys))))
  have l8 := fo.l8
  refine q_set (d := .tuple (f.links.map dL)) (Same.refl H) hS (ev_ix 1 (ev_var (d := dF f) hS rfl) rfl) fun σ1 H1 e1 _ hS1 => ?_
  have lka : ∀ l, l < f.links.length → f.links[l]? = some (lkAt f l) := fun l hl => by
    unfold lkAt
    rw [List.getElem?_eq_getElem hl]
    rfl
  refine q_setL (ds := [dD .mark] ++ ((List.range f.links.length).filter fun l => PyData.eqv (.str (lkAt f l).frm) (.str h)).map (dD ∘ Deed.send)) e1 hS1 ?_ fun pf xs σ2 H2 hpf e2 e12 hS2 hl2 hxs => ?_
  · refine el_cat2 (ds := [dD .mark]) (el_lst (ea_cons (ev_tup (ea_cons ev_str ea_nil)) ea_nil)) (el_lc (K := K) (j := 8) (g' := dD ∘ Deed.send) (wk_rng1 (n := f.links.length) (ea_cons (ev_is (ev_lenT (ea_cons (ev_var (d := .tuple (f.links.map dL)) hS1 rfl) ea_nil)) (by rw [List.length_map])) ea_nil) (by omega)) hS1 (by rw [List.length_range]; omega)
      (fun l hl σ2 H2 f2 hS2 => et_test (ev_eq (ev_ix 0 (ev_at (f := dL) (ev_var (d := .tuple (f.links.map dL)) hS2 rfl) (ev_var (d := dN l) hS2 rfl) (lka l (List.mem_range.mp hl))) rfl) (ev_var hS2 rfl) (Sh.ok (n := 0) (.str (fo.ln _ (List.mem_of_getElem? (lka l (List.mem_range.mp hl)))).1)) (Sh.ok (n := 0) (.str hlay))))
      (fun l hl _ σ2 H2 f2 hS2 => ev_tup (ea_cons ev_str (ea_cons (ev_var hS2 rfl) ea_nil)))) ?_
    rw [List.length_map]
    have := List.length_filter_le (fun l => PyData.eqv (.str (lkAt f l).frm) (.str h)) (List.range f.links.length)
    rw [List.length_range] at this
    show 1 + _ ≤ _
    omega
  have hlen1 : (Deed.mark :: ((List.range f.links.length).filter fun l => PyData.eqv (.str (lkAt f l).frm) (.str h)).map Deed.send).length ≤ 9 := by
    have := List.length_filter_le (fun l => PyData.eqv (.str (lkAt f l).frm) (.str h)) (List.range f.links.length)
    rw [List.length_range] at this
    rw [List.length_cons, List.length_map]
    omega
  have hfit1 : ∀ d ∈ (Deed.mark :: ((List.range f.links.length).filter fun l => PyData.eqv (.str (lkAt f l).frm) (.str h)).map Deed.send), DeedFits f es ww now d := fun d hd => by
    rcases List.mem_cons.mp hd with rfl | hd
    · trivial
    · obtain ⟨l, hl, rfl⟩ := List.mem_map.mp hd
      exact List.mem_range.mp (List.mem_filter.mp hl).1
  refine q_forR1 (n := (es.length : Int)) (ea_cons (ev_is (ev_lenL (evv_var hS2 rfl) (.inl (.inl (e2 _ _ hpe)))) (by rw [hes.len, List.length_map])) ea_nil) (by omega) (by omega)
    (fun i σ' H' => Same H H' ∧ ∃ (p' : Addr) (ys : List V) (ds : List Deed), Sto K H' σ' [.dat (dF f), .val (.ref pe), .val (.ref pw), .dat (.str h), .dat (fr now), .dat (.tuple (f.links.map dL)), .val (.ref p'), .any, .any] ∧ H p' = none ∧ H' p' = some (.lst ys) ∧ TpAll K H' ys (ds.map dD) ∧ ds ≠ [] ∧ ds.length ≤ 9 + 2 * i ∧ ∀ d ∈ ds, DeedFits f es ww now d)
    (fun H3 e3 => ⟨e2.trans e3, pf, xs, _, hS2.sm e3, e1.free hpf, e3 _ _ hl2, (by rw [List.map_cons, List.map_map]; exact hxs.sm e3), List.cons_ne_nil _ _, hlen1, hfit1⟩) (fun i σ' H' hi p => ?_) (fun σ' H' p => ?_)
  · obtain ⟨e3, p', ys, ds, hS3, hp', hl3, hys, hne, hlen, hfit⟩ := p
    have hi' : i < es.length := by omega
    have ai := at_lt hi'
    obtain ⟨ev, hev, tev⟩ := hes.get (i := i) (d := dE es[i]) (by rw [List.getElem?_map, ai]; rfl)
    obtain ⟨wv, hwv, twv⟩ := hws.get (i := i) (d := fr (wz ww i)) (by
      unfold wz
      rw [List.getElem?_map, List.getD_eq_getElem?_getD, List.getElem?_eq_getElem (by omega)]
      rfl)
    have hsd' := hsd _ (List.mem_of_getElem? ai)
    generalize es[i] = e at ai tev hsd'
    refine g_name (d := .int (i : Int)) hS3 (.int _) fun σ4 hS4 => ?_
    have dd : ∀ {H2}, Same H' H2 → Ev K (tOp (rIxT K) (tOp (rIxL K) (tVar 1) (tVar 7)) (tC (.int 2))) σ4 H2 (dD e.deed) := fun {H2} g =>
      ev_ix 2 (ev_ixL (d := dE e) (evv_var (hS4.sm g) rfl) (ev_var (d := .int (i : Int)) (hS4.sm g) rfl) (.inl (.inl ((e3.trans g) _ _ hpe))) (atI_nat hev) (tev.sm (e3.trans g))) rfl
    have lk : ∀ {H2} l, Same H' H2 → e.deed = .send l → Ev K (tOp (rIxT K) (tVar 5) (tOp (rIxT K) (tOp (rIxT K) (tOp (rIxL K) (tVar 1) (tVar 7)) (tC (.int 2))) (tC (.int 1)))) σ4 H2 (dL (lkAt f l)) := fun {H2} l g hl =>
      ev_at (f := dL) (ev_var (d := .tuple (f.links.map dL)) (hS4.sm g) rfl) (ev_ix 1 (ev_is (dd g) (by rw [hl]; rfl)) rfl) (lka l (hsd' l hl))
    have same : ∀ (H2 : Hp), Same H' H2 → Same H H2 ∧ ∃ (p' : Addr) (ys : List V) (ds : List Deed), Sto K H2 σ4 [.dat (dF f), .val (.ref pe), .val (.ref pw), .dat (.str h), .dat (fr now), .dat (.tuple (f.links.map dL)), .val (.ref p'), .any, .any] ∧ H p' = none ∧ H2 p' = some (.lst ys) ∧ TpAll K H2 ys (ds.map dD) ∧ ds ≠ [] ∧ ds.length ≤ 9 + 2 * (i + 1) ∧ ∀ d ∈ ds, DeedFits f es ww now d := fun H2 g =>
      ⟨e3.trans g, p', ys, ds, ((hS4.sm g).drop 7), hp', g _ _ hl3, hys.sm g, hne, by omega, hfit⟩
    have rr := Same.refl H'
    refine s_if (b := isS e.deed && (match e.deed with | .send l => PyData.eqv (.str (lkAt f l).dst) (.str h) | _ => false)) (et_and (et_test (ev_isS (dd rr))) fun c => ?_) (fun c H5 f5 => ?_) (fun _ H5 f5 => same H5 f5)
    · obtain ⟨l, hl⟩ := isS_of c
      have e1 := lk l rr hl
      rw [hl]
      exact et_test (ev_eq (ev_ix 1 e1 rfl) (ev_var hS4 rfl) (Sh.ok (n := 0) (.str (fo.ln _ (List.mem_of_getElem? (lka l (hsd' l hl)))).2)) (Sh.ok (n := 0) (.str hlay)))
    · rw [Bool.and_eq_true] at c
      obtain ⟨l, hl⟩ := isS_of c.1
      have hS5 := hS4.sm f5
      refine s_if (b := fitsB (lkAt f l) (now - wz ww i)) (et_test (ev_call (ea_cons (lk l f5 hl) (ea_cons (ev_ixL (d := fr (wz ww i)) (evv_var hS5 rfl) (ev_var (d := .int (i : Int)) hS5 rfl) (.inl (.inl ((e3.trans f5) _ _ hpw))) (atI_nat hwv) (twv.sm (e3.trans f5))) (ea_cons (ev_var hS5 rfl) ea_nil))) ⟨_, _, _, rfl, rfl⟩)) (fun c2 H6 f6 => ?_) (fun _ H6 f6 => same H6 (f5.trans f6))
      have hS6 := hS5.sm f6
      have f56 := f5.trans f6
      refine s_setL (e3.trans f56) hS6 (el_cat (es := [dD (.hear i), dD (.hear i)]) (evv_var hS6 rfl) (f56 _ _ hl3) (hys.sm f56) (el_rep2 (ds := [dD (.hear i)]) (el_lst (ea_cons (ev_tup (ea_cons ev_str (ea_cons (ev_var (d := .int (i : Int)) hS6 rfl) ea_nil))) ea_nil)) (Nat.le_of_ble_eq_true rfl)) (by rw [List.length_map]; show _ + 2 ≤ _; omega)) fun pn zs σ7 H7 hpn e7 _ hS7 hl7 hzs => ?_
      refine ⟨e7, pn, zs, ds ++ [.hear i, .hear i], hS7.drop 7, (e3.trans f56).free hpn, hl7, ?_, by simp, by rw [List.length_append]; show _ + 2 ≤ _; omega, fun d hd => ?_⟩
      · rw [List.map_append]
        exact hzs
      · rcases List.mem_append.mp hd with hd | hd
        · exact hfit d hd
        · have : d = .hear i := by
            simp only [List.mem_cons, List.not_mem_nil, or_false, or_self] at hd
            exact hd
          rw [this]
          exact ⟨e, l, lkAt f l, ai, hl, lka l (hsd' l hl), c2⟩
  · obtain ⟨e3, p', ys, ds, hS3, hp', hl3, hys, hne, hlen, hfit⟩ := p
    exact evv_var hS3 rfl H' (Same.refl H') _ fun H4 e4 => q ds p' ys H4 hne (by omega) hfit hp' (e3.trans e4) (e4 _ _ hl3) (hys.sm e4)
end
end Lk

namespace Mx
open PySem Lk
section
variable {f : Fd} {es : List Evt} {ww : List Int} {now : Int} {e : Evt}
theorem ap_lt {α : Type} {l : List α} {a : α} {i : Nat} (h : i < l.length) : (l ++ [a])[i]? = l[i]? := List.getElem?_append_left h
theorem ap_eq {α : Type} {l : List α} {a : α} : (l ++ [a])[l.length]? = some a := by
  rw [List.getElem?_append_right (Nat.le_refl _), Nat.sub_self]
  rfl
theorem hz_lt {i : Nat} (h : i < es.length) : hz (es ++ [e]) i = hz es i := by unfold hz; rw [ap_lt h]
theorem hz_eq : hz (es ++ [e]) es.length = some e.house := by unfold hz; rw [ap_eq]; rfl
theorem dz_lt {i : Nat} (h : i < es.length) : dz (es ++ [e]) i = dz es i := by unfold dz; rw [ap_lt h]
theorem dz_eq : dz (es ++ [e]) es.length = some e.deed := by unfold dz; rw [ap_eq]; rfl
theorem stp_lt {i : Nat} (h : i < es.length) : stp (es ++ [e]) i = stp es i := by unfold stp; rw [ap_lt h]
theorem stp_eq : stp (es ++ [e]) es.length = e.stamp := by unfold stp; rw [ap_eq]; rfl
theorem wz_lt {i : Nat} (h : i < ww.length) : wz (ww ++ [now]) i = wz ww i := by
  unfold wz
  rw [List.getD_eq_getElem?_getD, List.getD_eq_getElem?_getD, ap_lt h]
theorem wz_eq : wz (ww ++ [now]) ww.length = now := by
  unfold wz
  rw [List.getD_eq_getElem?_getD, ap_eq]
  rfl
theorem wz_mem {i : Nat} (h : i < ww.length) : wz ww i ∈ ww := by
  unfold wz
  rw [List.getD_eq_getElem?_getD, List.getElem?_eq_getElem h]
  exact List.getElem_mem h
structure Scn (f : Fd) (es : List Evt) (ww : List Int) (now : Int) : Prop where
  ok : HOk f es
  fw : FitsW f es ww
  nw : ∃ t, now = 120 * t
  w120 : ∀ t ∈ ww, ∃ m, t = 120 * m
  le : ∀ t ∈ ww, t ≤ now
def NoneAt (es : List Evt) (nm : Str) : Prop := ∀ j, j < es.length → hz es j ≠ some nm
def LastAt (es : List Evt) (ww : List Int) (nm : Str) (s t : Int) : Prop := ∃ i, i < es.length ∧ hz es i = some nm ∧ stp es i = s ∧ wz ww i = t ∧ ∀ j, i < j → j < es.length → hz es j ≠ some nm
theorem Scn.nil (h : FdOk f) : Scn f [] [] 0 :=
  ⟨⟨h, Nat.zero_le _, fun e he => (by cases he), fun e he => (by cases he), fun e he => (by cases he), fun i e he => (by simp at he)⟩, ⟨rfl, fun x y h _ hy => absurd hy (Nat.not_lt_zero _), fun y k lk hy => absurd hy (Nat.not_lt_zero _)⟩, ⟨0, rfl⟩, fun t ht => (by cases ht), fun t ht => (by cases ht)⟩
theorem Scn.step (S : Scn f es ww now) {d : Int} (h : 0 ≤ d) (k : ∃ t, d = 120 * t) : Scn f es ww (now + d) := by
  obtain ⟨t, ht⟩ := S.nw
  obtain ⟨u, hu⟩ := k
  exact ⟨S.ok, S.fw, ⟨t + u, by omega⟩, S.w120, fun t ht => by have := S.le t ht; omega⟩
theorem nd_name (h : FdOk f) {a b : Hs} (ha : a ∈ f.houses) (hb : b ∈ f.houses) (e : a.name = b.name) : a = b := by
  obtain ⟨i, hi, ea⟩ := List.getElem_of_mem ha
  obtain ⟨j, hj, eb⟩ := List.getElem_of_mem hb
  have pw := List.pairwise_iff_getElem.mp h.nd
  have key : ∀ i j (hi : i < f.houses.length) (hj : j < f.houses.length), i < j → (f.houses[i]'hi).name ≠ (f.houses[j]'hj).name := fun i j hi hj hij z => by
    have := pw i j (by rw [List.length_map]; exact hi) (by rw [List.length_map]; exact hj) hij
    rw [List.getElem_map, List.getElem_map] at this
    exact this z
  have hij : i = j := by
    rcases Nat.lt_trichotomy i j with c | c | c
    · exact absurd (by rw [ea, eb, e]) (key i j hi hj c)
    · exact c
    · exact absurd (by rw [ea, eb, e]) (key j i hj hi c)
  subst hij
  rw [← ea, ← eb]
/-- what the new stamp is -/
def NewSt (h : Hs) (es : List Evt) (ww : List Int) (now s : Int) : Prop := (NoneAt es h.name ∧ ∃ m, s = 30 * m) ∨
  (∃ s0 t0 z r, LastAt es ww h.name s0 t0 ∧ s = s0 + z ∧ 240 * z = (now - t0) * r ∧ h.slow ≤ r ∧ r ≤ h.fast ∧ ∃ m, z = 30 * m)
theorem Scn.add (S : Scn f es ww now) {h : Hs} (hm : h ∈ f.houses) {d : Deed} (hd : DeedFits f es ww now d) (hn : es.length < 20) {s : Int} (hs : NewSt h es ww now s) : Scn f (es ++ [⟨h.name, s, d⟩]) (ww ++ [now]) now := by
  have hlw := S.fw.len
  have en : (es ++ [(⟨h.name, s, d⟩ : Evt)]).length = es.length + 1 := by rw [List.length_append]; rfl
  refine ⟨⟨S.ok.fd, by omega, fun e he => ?_, fun e he => ?_, fun e he l hl => ?_, fun i e he k hk => ?_⟩, ⟨by rw [List.length_append, en, hlw]; rfl, fun x y hh hxy hy hh' hs' => ?_, fun y k lk hy hd' hl => ?_⟩, S.nw, fun t ht => ?_, fun t ht => ?_⟩
  · rcases List.mem_append.mp he with he | he
    · exact S.ok.hs e he
    · rw [List.mem_singleton.mp he]
      exact ⟨h, hm, rfl⟩
  · rcases List.mem_append.mp he with he | he
    · exact S.ok.st e he
    · rw [List.mem_singleton.mp he]
      rcases hs with ⟨_, m, hm⟩ | ⟨s0, t0, z, r, ⟨i, hi, _, h2, _⟩, h3, _, _, _, m, hm⟩
      · exact ⟨m, hm⟩
      · rw [stp_of (at_lt hi)] at h2
        obtain ⟨u, hu⟩ := S.ok.st _ (List.mem_of_getElem? (at_lt hi))
        exact ⟨u + m, by show s = _; omega⟩
  · rcases List.mem_append.mp he with he | he
    · exact S.ok.sd e he l hl
    · rw [List.mem_singleton.mp he] at hl
      have hl : d = .send l := hl
      rw [hl] at hd
      exact hd
  · by_cases hi : i < es.length
    · rw [ap_lt hi] at he
      obtain ⟨h1, e', l, h2, h3⟩ := S.ok.hr i e he k hk
      exact ⟨h1, e', l, by rw [ap_lt (by omega)]; exact h2, h3⟩
    · have hi2 : i = es.length := by
        have := (List.getElem?_eq_some_iff.mp he).1
        omega
      subst hi2
      rw [ap_eq] at he
      have he := (Option.some.inj he).symm
      subst he
      have hk : d = .hear k := hk
      rw [hk] at hd
      obtain ⟨e, l, lk, h1, h2, _⟩ := hd
      have hkl := (List.getElem?_eq_some_iff.mp h1).1
      exact ⟨hkl, e, l, by rw [ap_lt hkl]; exact h1, h2⟩
  · by_cases hyl : y < es.length
    · have hxl : x < es.length := by omega
      rw [hz_lt hxl, hz_lt hyl] at hh'
      rw [stp_lt hxl, stp_lt hyl, wz_lt (by omega), wz_lt (by omega)]
      refine S.fw.same x y hh hxy hyl hh' ?_
      unfold hsOf at hs' ⊢
      rw [hz_lt hxl] at hs'
      exact hs'
    · have hy2 : y = es.length := by omega
      subst hy2
      have hxl : x < es.length := hxy
      rw [hz_lt hxl, hz_eq] at hh'
      have hsx : hsOf f es x = some hh := by
        unfold hsOf at hs' ⊢
        rw [hz_lt hxl] at hs'
        exact hs'
      have ehh : hh = h := by
        unfold hsOf at hs'
        obtain ⟨m1, p1⟩ := find_mem hs'
        have p1 := of_decide_eq_true p1
        rw [hz_lt hxl, hh'] at p1
        exact nd_name S.ok.fd m1 hm (Option.some.inj p1)
      subst ehh
      rw [stp_lt hxl, stp_eq, wz_lt (i := x) (by omega), ← hlw, wz_eq]
      show hh.slow * (now - wz ww x) ≤ 240 * (s - stp es x) ∧ 240 * (s - stp es x) ≤ hh.fast * (now - wz ww x)
      rcases hs with ⟨hno, _⟩ | ⟨s0, t0, z, r, ⟨i, hi, h1, h2, h3, h4⟩, rfl, hz240, hr1, hr2, _⟩
      · exact absurd hh' (hno x hxl)
      · have hxi : x ≤ i := by
          by_cases c : x ≤ i
          · exact c
          · exact absurd hh' (h4 x (by omega) hxl)
        have hge : 0 ≤ now - t0 := by
          have := S.le _ (wz_mem (ww := ww) (i := i) (by omega))
          omega
        have g1 : hh.slow * (now - t0) ≤ 240 * z := by
          rw [hz240, Int.mul_comm (now - t0) r]
          exact Int.mul_le_mul_of_nonneg_right hr1 hge
        have g2 : 240 * z ≤ hh.fast * (now - t0) := by
          rw [hz240, Int.mul_comm (now - t0) r]
          exact Int.mul_le_mul_of_nonneg_right hr2 hge
        have base : hh.slow * (t0 - wz ww x) ≤ 240 * (s0 - stp es x) ∧ 240 * (s0 - stp es x) ≤ hh.fast * (t0 - wz ww x) := by
          by_cases c : x = i
          · subst c
            rw [h2, h3, Int.sub_self, Int.sub_self]
            simp
          · have := S.fw.same x i hh (by omega) hi (by rw [hh', h1]) hsx
            rw [h2, h3] at this
            exact this
        have d1 : hh.slow * (now - wz ww x) = hh.slow * (t0 - wz ww x) + hh.slow * (now - t0) := by rw [← Int.mul_add]; congr 1; omega
        have d2 : hh.fast * (now - wz ww x) = hh.fast * (t0 - wz ww x) + hh.fast * (now - t0) := by rw [← Int.mul_add]; congr 1; omega
        omega
  · by_cases hyl : y < es.length
    · rw [dz_lt hyl] at hd'
      have hk := (S.ok.linkOf hd').1
      rw [wz_lt (by omega), wz_lt (by omega)]
      refine S.fw.link y k lk hyl hd' ?_
      unfold linkOf at hl ⊢
      rw [dz_lt hyl, hd'] at hl
      rw [hd']
      dsimp only at hl ⊢
      rw [dz_lt (by omega)] at hl
      exact hl
    · have hy2 : y = es.length := by omega
      subst hy2
      rw [dz_eq] at hd'
      have hdk : d = .hear k := Option.some.inj hd'
      rw [hdk] at hd
      obtain ⟨e, l, lk', h1, h2, h3, h4⟩ := hd
      have hkl := (List.getElem?_eq_some_iff.mp h1).1
      have elk : lk = lk' := by
        unfold linkOf at hl
        rw [dz_eq] at hl
        have hd2 : (⟨h.name, s, d⟩ : Evt).deed = .hear k := hdk
        rw [hd2] at hl
        dsimp only at hl
        rw [dz_lt hkl, dz_of h1, h2] at hl
        dsimp only at hl
        rw [h3] at hl
        exact (Option.some.inj hl).symm
      subst elk
      rw [wz_lt (i := k) (by omega), ← hlw, wz_eq]
      unfold fitsB at h4
      rw [Bool.and_eq_true, Bool.not_eq_true'] at h4
      have g1 := of_decide_eq_false h4.1
      refine ⟨by omega, fun m hm' => ?_⟩
      have g2 := h4.2
      rw [hm'] at g2
      exact of_decide_eq_true g2
  · rcases List.mem_append.mp ht with ht | ht
    · exact S.w120 t ht
    · rw [List.mem_singleton.mp ht]; exact S.nw
  · rcases List.mem_append.mp ht with ht | ht
    · exact S.le t ht
    · rw [List.mem_singleton.mp ht]; exact Int.le_refl _
theorem last_new (hlw : ww.length = es.length) {nm : Str} {s : Int} {d : Deed} : LastAt (es ++ [⟨nm, s, d⟩]) (ww ++ [now]) nm s now :=
  ⟨es.length, by rw [List.length_append]; show _ < _ + 1; omega, hz_eq, stp_eq, by rw [← hlw, wz_eq], fun j h1 h2 => by rw [List.length_append] at h2; exact absurd h2 (by show ¬ _ < _ + 1; omega)⟩
theorem none_old {nm nm2 : Str} {s : Int} {d : Deed} (h : NoneAt es nm) (n : nm2 ≠ nm) : NoneAt (es ++ [⟨nm2, s, d⟩]) nm := fun j hj => by
  by_cases c : j < es.length
  · rw [hz_lt c]; exact h j c
  · have : j = es.length := by rw [List.length_append] at hj; have : j < es.length + 1 := hj; omega
    rw [this, hz_eq]
    exact fun z => n (Option.some.inj z)
theorem last_old (hlw : ww.length = es.length) {nm nm2 : Str} {s s0 t0 : Int} {d : Deed} (h : LastAt es ww nm s0 t0) (n : nm2 ≠ nm) : LastAt (es ++ [⟨nm2, s, d⟩]) (ww ++ [now]) nm s0 t0 := by
  obtain ⟨i, hi, h1, h2, h3, h4⟩ := h
  refine ⟨i, by rw [List.length_append]; show i < _ + 1; omega, by rw [hz_lt hi]; exact h1, by rw [stp_lt hi]; exact h2, by rw [wz_lt (by omega)]; exact h3, fun j hij hj => ?_⟩
  by_cases c : j < es.length
  · rw [hz_lt c]; exact h4 j hij c
  · have : j = es.length := by rw [List.length_append] at hj; have : j < es.length + 1 := hj; omega
    rw [this, hz_eq]
    exact fun z => n (Option.some.inj z)
end
theorem fr_whole (z : Int) : fr (240 * z) = .tuple [.int z, .int 1] := by
  have hd : gd (240 * z) = 240 := by
    have h1 := gd_dvd240 (240 * z)
    unfold gd
    rw [Int.natAbs_mul]
    show ((Nat.gcd (240 * z.natAbs) 240 : Nat) : Int) = 240
    rw [Nat.gcd_eq_right (Nat.dvd_mul_right _ _)]
    rfl
  have h2 := nu_eq (240 * z)
  have h3 := de_eq (240 * z)
  rw [hd] at h2 h3
  have e1 : nu (240 * z) = z := by omega
  have e2 : de (240 * z) = 1 := by omega
  unfold fr
  rw [e1, e2]
theorem rate_mul {w r : Int} (h : RateOk r) (k : ∃ t, w = 120 * t) : ∃ z m, 240 * z = w * r ∧ z = 30 * m := by
  obtain ⟨t, rfl⟩ := k
  rcases h with rfl | rfl | rfl | rfl | rfl | rfl
  · exact ⟨30 * (2 * t), 2 * t, by omega, rfl⟩
  · exact ⟨30 * (3 * t), 3 * t, by omega, rfl⟩
  · exact ⟨30 * (4 * t), 4 * t, by omega, rfl⟩
  · exact ⟨30 * (5 * t), 5 * t, by omega, rfl⟩
  · exact ⟨30 * (6 * t), 6 * t, by omega, rfl⟩
  · exact ⟨30 * (8 * t), 8 * t, by omega, rfl⟩
end Mx

namespace Lk
open PySem PySem.Spec PyProof.Rows L2 Mx
section
variable {K : PySem.W.Frag} {σ : L2.St} {H : Hp} {ρ : List Sl} {ta tb tl tm te to : TE} {tz : TS} {D : Ends} {E : XK} {Q : VK}
theorem w_call {sp : Sp} {t : TA} (h : t σ H fun vs H1 => sp (vs ++ []) H1 Q E) : tCall sp [] E t σ H Q := h
theorem q_asgG {g : TG} (h : te σ H fun v H1 => g v σ H1 fun σ' H2 => tz D σ' H2) : tSeq (tAsg te g) tz D σ H := h
theorem q_parW {i j : Nat} {t : TA} (h : t σ H fun vs H1 => ∃ u v, vs = [u, v] ∧ tz D ((σ.set i (some u)).set j (some v)) H1) : tSeq (tPar i j t) tz D σ H := h
theorem g_trip {i j l : Nat} {d1 d2 d3 : PyData} {x : V} {Q : L2.St → Hp → Prop} (hS : Sto K H σ ρ) (hx : Tp K H x (.tuple [d1, d2, d3])) (k : ∀ σ', Sto K H σ' (((ρ.set i (.dat d1)).set j (.dat d2)).set l (.dat d3)) → Q σ' H) :
    gTup K 3 (gCons (gName i) (gCons (gName j) (gCons (gName l) gNil))) x σ H Q := by
  obtain ⟨b, ys, rfl, hb, hy⟩ := hx.tup_inv
  obtain ⟨v1, v2, v3, rfl, t1, t2, t3⟩ := hy.three_inv
  exact ⟨b, _, rfl, hb, rfl, _, _, rfl, _, _, rfl, _, _, rfl, rfl, k _ (((hS.put i t1).put j t2).put l t3)⟩
def Ck (K : PySem.W.Frag) (H : Hp) (kvs : List (L2.Key × V)) (es : List Evt) (ww : List Int) : Prop := ∀ nm : Str, (valV kvs (Sum.inr nm : L2.Key) = none ∧ NoneAt es nm) ∨ ∃ u s t, valV kvs (Sum.inr nm : L2.Key) = some u ∧ Tp K H u (.tuple [fr s, fr t]) ∧ LastAt es ww nm s t
theorem Ck.up {H H' : Hp} {kvs : List (L2.Key × V)} {es : List Evt} {ww : List Int} (h : Ck K H kvs es ww) (e : Tx H H') : Ck K H' kvs es ww := fun nm => by
  rcases h nm with h | ⟨u, s, t, h1, h2, h3⟩
  · exact .inl h
  · exact .inr ⟨u, s, t, h1, h2.up e, h3⟩
theorem sto_drops : ∀ (js : List Nat) {ρ : List Sl}, Sto K H σ ρ → Sto K H σ (js.foldl (fun r j => r.set j .any) ρ)
  | [], _, h => h
  | j :: js, _, h => sto_drops js (h.drop j)
variable {P : Program} {w : World} {mg : Str → Option Value} {base : Heap} {C aN : Addr}
def spScene (K : PySem.W.Frag) : Sp := fun vs H Q _ => ∃ a b c, vs = [.ref a, .int 20] ∧ FeedAt H a b c ∧ 0 ≤ c ∧ c ≤ 500 ∧ ∀ f es ww v H', HOk f es → FitsW f es ww → ExB a H H' → FeedAt H' a b (c + 300) → Tp K H' v (.tuple [dHist f es, dW ww]) → Q v H'
theorem okWscene (T : Txt K mg C aN) : Def P w K mg base CX0 "_law_scene" 6 ["_law_feed_here", "_law_most"] (spScene K) := by
  refine def_of T.d__law_scene scWscene (fun vs H Q E h => by obtain ⟨a, b, c, rfl, _⟩ := h; rfl) fun f cdv A outer s H0 E0 hr => ⟨_,
    (pss_cons (ps_set (i := 2) scWscene.nd rfl (Or.inl rfl) (pe_fn ((okWfield T).mono (by decide)) hr pass0 (pa_cons (pv 0) pa_nil)))
      (pss_cons (ps_asg (pe_tup (pa_cons (pe_lst pa_nil) (pa_cons (pe_lst pa_nil) (pa_cons pe_dnewK (pa_cons (pe_tup (pa_cons pe_int (pa_cons pe_int pa_nil))) pa_nil))))) (pg_tupk (K := K) (n := 4) rfl (pgs_cons (pg_name (i := 3) scWscene.nd rfl (Or.inl rfl)) (pgs_cons (pg_name (i := 4) scWscene.nd rfl (Or.inl rfl)) (pgs_cons (pg_name (i := 5) scWscene.nd rfl (Or.inl rfl)) (pgs_cons (pg_name (i := 6) scWscene.nd rfl (Or.inl rfl)) pgs_nil))))))
      (pss_cons (ps_for PassesOwn.never rfl (pi_range1 (by rfl) T.z_range (pa_cons (pe_ix (ix_listk (K := K)) (pe_lst (pa_cons pe_int (pa_cons pe_int (pa_cons pe_int (pa_cons pe_int (pa_cons (pv 1) pa_nil)))))) (pe_fn ((okWdraw T).mono (by decide)) hr pass0 (pa_cons (pv 0) (pa_cons pe_int pa_nil))) (fun _ _ => rfl)) pa_nil)) (pg_name (i := 7) scWscene.nd rfl (Or.inl rfl)) (pss_cons (ps_set (i := 6) scWscene.nd rfl (Or.inl rfl) (pe_fn ((okWsum T).mono (by decide)) hr pass0 (pa_cons (pv 6) (pa_cons (pe_ix (ix_listk (K := K)) (pe_lst (pa_cons (pe_tup (pa_cons pe_int (pa_cons pe_int pa_nil))) (pa_cons (pe_tup (pa_cons pe_int (pa_cons pe_int pa_nil))) (pa_cons (pe_tup (pa_cons pe_int (pa_cons pe_int pa_nil))) (pa_cons (pe_tup (pa_cons pe_int (pa_cons pe_int pa_nil))) pa_nil))))) (pe_fn ((okWdraw T).mono (by decide)) hr pass0 (pa_cons (pv 0) (pa_cons pe_int pa_nil))) (fun _ _ => rfl)) (pa_cons pe_int pa_nil)))))
      (pss_cons (ps_asg (pe_ix (ix_tupk (K := K)) (pe_ix (ix_tupk (K := K)) (pv 2) pe_int (fun _ _ => rfl)) (pe_fn ((okWdraw T).mono (by decide)) hr pass0 (pa_cons (pv 0) (pa_cons (pe_callB (call_lenk (K := K)) (by rfl) T.z_len (by decide +kernel) (pa_cons (pe_ix (ix_tupk (K := K)) (pv 2) pe_int (fun _ _ => rfl)) pa_nil)) pa_nil))) (fun _ _ => rfl)) (pg_tupk (K := K) (n := 3) rfl (pgs_cons (pg_name (i := 8) scWscene.nd rfl (Or.inl rfl)) (pgs_cons (pg_name (i := 9) scWscene.nd rfl (Or.inl rfl)) (pgs_cons (pg_name (i := 10) scWscene.nd rfl (Or.inl rfl)) pgs_nil)))))
      (pss_cons (ps_asg (pe_dget2 (hu_of hr) (pv 5) (pv 8) (pe_tup (pa_cons (pe_tup (pa_cons (pe_fn ((okWdraw T).mono (by decide)) hr pass0 (pa_cons (pv 0) (pa_cons pe_int pa_nil))) (pa_cons pe_int pa_nil))) (pa_cons (pv 6) pa_nil))) ⟨rfl, rfl, rfl, rfl⟩) (pg_tupk (K := K) (n := 2) rfl (pgs_cons (pg_name (i := 11) scWscene.nd rfl (Or.inl rfl)) (pgs_cons (pg_name (i := 12) scWscene.nd rfl (Or.inl rfl)) pgs_nil))))
      (pss_cons (ps_par (i := 13) (j := 14) rfl scWscene.nd rfl rfl (by decide) rfl rfl (pa_cons (pe_fn ((okWsum T).mono (by decide)) hr pass0 (pa_cons (pv 6) (pa_cons (pv 12) (pa_cons (pe_un un_neg pe_int) pa_nil)))) (pa_cons (pe_ix (ix_listk (K := K)) (pe_lst (pa_cons (pv 9) (pa_cons (pv 10) (pa_cons (pe_tup (pa_cons pe_int (pa_cons pe_int pa_nil))) pa_nil)))) (pe_fn ((okWdraw T).mono (by decide)) hr pass0 (pa_cons (pv 0) (pa_cons pe_int pa_nil))) (fun _ _ => rfl)) pa_nil)) (by rfl))
      (pss_cons (ps_set (i := 11) scWscene.nd rfl (Or.inl rfl) (pe_fn ((okWsum T).mono (by decide)) hr pass0 (pa_cons (pv 11) (pa_cons (pe_fn ((okWmade T).mono (by decide)) hr pass0 (pa_cons (pe_op op_mul (pe_ix (ix_tupk (K := K)) (pv 13) pe_int (fun _ _ => rfl)) (pe_ix (ix_tupk (K := K)) (pv 14) pe_int (fun _ _ => rfl))) (pa_cons (pe_op op_mul (pe_ix (ix_tupk (K := K)) (pv 13) pe_int (fun _ _ => rfl)) (pe_ix (ix_tupk (K := K)) (pv 14) pe_int (fun _ _ => rfl))) pa_nil))) (pa_cons pe_int pa_nil)))))
      (pss_cons (ps_set (i := 15) scWscene.nd rfl (Or.inl rfl) (pe_fn ((okWdeeds T).mono (by decide)) hr pass0 (pa_cons (pv 2) (pa_cons (pv 3) (pa_cons (pv 4) (pa_cons (pv 8) (pa_cons (pv 6) pa_nil)))))))
      (pss_cons (ps_expr (pe_bmk (K := K) PySem.F.plainAttrs_list PySem.F.slot_list_append PySem.F.type_list_append mt_append (pv 3) (pa_cons (pe_tup (pa_cons (pv 8) (pa_cons (pv 11) (pa_cons (pe_ix (ix_listk (K := K)) (pv 15) (pe_fn ((okWdraw T).mono (by decide)) hr pass0 (pa_cons (pv 0) (pa_cons (pe_callB (call_lenk (K := K)) (by rfl) T.z_len (by decide +kernel) (pa_cons (pv 15) pa_nil)) pa_nil))) (fun _ _ => rfl)) pa_nil)))) pa_nil)))
      (pss_cons (ps_expr (pe_bmk (K := K) PySem.F.plainAttrs_list PySem.F.slot_list_append PySem.F.type_list_append mt_append (pv 4) (pa_cons (pv 6) pa_nil)))
      (pss_one (ps_dput (hu_of hr) (pv 5) (pv 8) (pe_tup (pa_cons (pv 11) (pa_cons (pv 6) pa_nil))) rfl)))))))))))
      (pss_one (ps_ret (pe_tup (pa_cons (pe_tup (pa_cons (pv 2) (pa_cons (pe_callTy (call_tuplek (K := K)) (by rfl) T.z_tuple (by decide +kernel) (pa_cons (pv 3) pa_nil)) pa_nil))) (pa_cons (pe_callTy (call_tuplek (K := K)) (by rfl) T.z_tuple (by decide +kernel) (pa_cons (pv 4) pa_nil)) pa_nil)))))))), fun H vs Q E h => ?_⟩
  obtain ⟨a, b, c, rfl, hf, hc0, hc, q⟩ := h
  have hS : Sto K H (L2.start ["_law_feed_here", "_law_most", "_law_field_here", "_law_events", "_law_world", "_law_clocks", "_law_now", "_law_k", "_law_house", "_law_slow", "_law_fast", "_law_stamp", "_law_ahead", "_law_wide", "_law_rate", "_law_deeds_here"] [.ref a, .int 20]) (.val (.ref a) :: .dat (.int 20) :: List.replicate 14 .any) :=
    .val (.dat (.int _) Sto.anys)
  -- the field
  refine q_asgW (w_call (w_cons (evv_var (i := 0) (v := .ref a) hS rfl H (Same.refl H) _ fun H1 e1 => ⟨a, b, c, rfl, hf.sm e1, hc0, by omega, fun f v H2 fo x2 f2 hv => ?_⟩)))
  have x02 : ExB a H H2 := (ExB.of e1).trans x2
  have hS2 := (hS.tx (hf.tx x02)).put 2 hv
  clear x2 hv e1 hS
  -- events, world, clocks, now
  refine q_asgG (w_tup (w_cons ⟨Nat.zero_le _, fun p3 hp3 => w_cons ⟨Nat.zero_le _, fun p4 hp4 => w_cons fun p5 hp5 => w_cons (ev_fr (K := K) (z := 0) (by decide +kernel) _ (Same.refl _) _ fun vn H5 e5 hvn => ⟨sz_of (Nat.le_of_ble_eq_true rfl), fun pt hpt => ?_⟩)⟩⟩))
  have n3 := f2.na hp3
  have g3 := f2.sm (same_new (o := .lst []) hp3)
  have n4 := g3.na hp4
  have g4 := g3.sm (same_new (o := .lst []) hp4)
  have n5 := g4.na hp5
  have g5 := g4.sm (same_new (o := .dK []) hp5)
  have n43 : p4 ≠ p3 := fun z => by rw [z, upd_same] at hp4; cases hp4
  have n54 : p5 ≠ p4 := fun z => by rw [z, upd_same] at hp5; cases hp5
  have n53 : p5 ≠ p3 := fun z => by rw [z, upd_ne n43.symm, upd_same] at hp5; cases hp5
  have e25 : Same H2 H5 := (((same_new hp3).trans (same_new hp4)).trans (same_new hp5)).trans e5
  have q3 : H p3 = none := x02.free hp3 n3.1
  have q4 : H p4 = none := (x02.trans (.of (same_new hp3))).free hp4 n4.1
  have q5 : H p5 = none := (x02.trans (.of ((same_new hp3).trans (same_new hp4)))).free hp5 n5.1
  have k5 : H5 p5 = some (.dK []) := e5 _ _ upd_same
  have k4 : H5 p4 = some (.lst []) := e5 _ _ (by rw [upd_ne n54.symm]; exact upd_same)
  have k3 : H5 p3 = some (.lst []) := e5 _ _ (by rw [upd_ne n53.symm, upd_ne n43.symm]; exact upd_same)
  have f5 := f2.sm e25
  have hS5 := hS2.sm e25
  have x05 := x02.trans (.of e25)
  clear hp3 hp4 hp5 g3 g4 g5 e25 e5 f2 hS2 x02
  have eT : Same H5 (upd H5 pt (.tup [.ref p3, .ref p4, .ref p5, vn])) := same_new hpt
  refine ⟨pt, _, rfl, .inl (.inl upd_same), rfl, _, _, rfl, _, _, rfl, _, _, rfl, _, _, rfl, rfl, ?_⟩
  have hS6 := ((((hS5.sm eT).putV 3 (v := .ref p3)).putV 4 (v := .ref p4)).putV 5 (v := .ref p5)).put 6 (hvn.sm eT)
  have k3 := eT _ _ k3
  have k4 := eT _ _ k4
  have k5 := eT _ _ k5
  have x06 := x05.trans (.of eT)
  have f6 := f5.sm eT
  show tSeq _ _ _ _ (upd H5 pt (.tup [.ref p3, .ref p4, .ref p5, vn]))
  generalize upd H5 pt (.tup [.ref p3, .ref p4, .ref p5, vn]) = H6 at hS6 k3 k4 k5 x06 f6 ⊢
  clear eT hvn hS5 x05 f5 hpt
  refine q_forR1W (fun n i σ' H' => n ≤ 20 ∧ ExB a H H' ∧ FeedAt H' a b (c + 101 + 5 * (i : Nat)) ∧ ∃ (es : List Evt) (ww : List Int) (now : Int) (evs ws : List V) (kvs : List (L2.Key × V)), es.length = i ∧ Scn f es ww now ∧ H' p3 = some (.lst evs) ∧ TpAll K H' evs (es.map dE) ∧ H' p4 = some (.lst ws) ∧ TpAll K H' ws (ww.map fr) ∧
      H' p5 = some (.dK kvs) ∧ Ck K H' kvs es ww ∧ kvs.length ≤ i ∧ Sto K H' σ' [.val (.ref a), .dat (.int 20), .dat (dF f), .val (.ref p3), .val (.ref p4), .val (.ref p5), .dat (fr now), .any, .any, .any, .any, .any, .any, .any, .any, .any])
    (fun R kR => w_cons (w_ixN (ds := [.int 6, .int 0, .int 1, .int 12, .int 20]) (m := 5) (ea_cons ev_int (ea_cons ev_int (ea_cons ev_int (ea_cons ev_int (ea_cons (ev_var hS6 rfl) ea_nil))))) rfl f6 (by omega) (evv_var hS6 rfl) ev_int (by decide) (by decide) fun j d v H7 hd hv x7 f7 => ?_)) (fun n i σ' H' hi p => ?_) (fun n σ' H' p => ?_)
  · obtain ⟨n, rfl, hn⟩ : ∃ n : Nat, d = .int (n : Int) ∧ n ≤ 20 := by
      have := List.mem_of_getElem? hd
      simp only [List.mem_cons, List.not_mem_nil, or_false] at this
      rcases this with rfl | rfl | rfl | rfl | rfl
      · exact ⟨6, rfl, by decide⟩
      · exact ⟨0, rfl, by decide⟩
      · exact ⟨1, rfl, by decide⟩
      · exact ⟨12, rfl, by decide⟩
      · exact ⟨20, rfl, by decide⟩
    have ev := hv.int_inv
    subst ev
    refine kR n H7 (by omega) ⟨hn, x06.trans x7, f7.mono (by omega), [], [], 0, [], [], [], rfl, Scn.nil fo.fd, x7 _ _ n3.1 k3, .nil, x7 _ _ n4.1 k4, .nil, x7 _ _ n5.1 k5, fun nm => .inl ⟨rfl, fun j hj => absurd hj (Nat.not_lt_zero _)⟩, Nat.le_refl _, hS6.tx (f6.tx x7)⟩
  · clear hS6 k3 k4 k5 x06 f6
    obtain ⟨hn, x7, f7, es, ww, now, evs, ws, kvs, hel, S, k3, hevs, k4, hws, k5, ck, hkl, hS7⟩ := p
    refine g_name (d := .int (i : Int)) hS7 (.int _) fun σ8 hS8 => ?_
    -- now
    refine q_asgW (w_call (w_cons (ev_var (d := fr now) hS8 rfl H' (Same.refl H') _ fun v1 H8 e8 h1 => w_cons (w_ixN (ds := [fr 0, fr 120, fr 240, fr 0]) (m := 4) (ea_cons ev_fr (ea_cons ev_fr (ea_cons ev_fr (ea_cons ev_fr ea_nil)))) rfl (f7.sm e8) (by omega) (evv_var (hS8.sm e8) rfl) ev_int (by decide) (by decide) fun j d v2 H9 hd h2 x9 f9 => ?_))))
    obtain ⟨dz, rfl, hdz, hdt⟩ : ∃ dz : Int, d = fr dz ∧ 0 ≤ dz ∧ ∃ t, dz = 120 * t := by
      have := List.mem_of_getElem? hd
      simp only [List.mem_cons, List.not_mem_nil, or_false] at this
      rcases this with rfl | rfl | rfl | rfl
      · exact ⟨0, rfl, by decide, 0, rfl⟩
      · exact ⟨120, rfl, by decide, 1, rfl⟩
      · exact ⟨240, rfl, by decide, 2, rfl⟩
      · exact ⟨0, rfl, by decide, 0, rfl⟩
    have t9 := (f7.sm e8).tx x9
    refine ⟨[fr now, fr dz, .int 1], fr (now + 1 * dz), .cons (h1.up t9) (.cons h2 (.cons (.int _) .nil)), ⟨now, dz, 1, rfl, .inl rfl, rfl⟩, fun v H10 e10 hv => ?_⟩
    rw [Int.one_mul] at hv
    have S := S.step hdz hdt
    have tA := ((same_tx e8).trans t9).trans (same_tx e10)
    have xA : ExB a H' H10 := ((ExB.of e8).trans x9).trans (.of e10)
    have k3 := xA _ _ n3.1 k3
    have k4 := xA _ _ n4.1 k4
    have k5 := xA _ _ n5.1 k5
    have hevs := hevs.up tA
    have hws := hws.up tA
    have ck := ck.up tA
    have x10 := x7.trans xA
    have f10 := f9.sm e10
    have hS10 := (hS8.tx tA).put 6 hv
    generalize now + dz = nw at S hv hS10
    clear hS7 hS8 hv h1 h2 hd t9 tA xA e8 x9 f9 e10 f7 x7
    -- the house
    refine q_asgG (w_ixT (m := f.houses.length) (ds := f.houses.map dH) (ev_ix 0 (ev_var (d := dF f) hS10 rfl) rfl) (by rw [List.length_map]) f10 (by omega) (evv_var hS10 rfl) (ev_is (ev_lenT (ea_cons (ev_ix (ds := [.tuple (f.houses.map dH), .tuple (f.links.map dL), .str f.source]) 0 (ev_var (d := dF f) hS10 rfl) rfl) ea_nil)) (by rw [List.length_map])) fo.h1 (by have := fo.fd.h6; omega) fun j d v H11 hd hv x11 f11 => ?_)
    obtain ⟨h, hh, rfl⟩ : ∃ h, h ∈ f.houses ∧ d = dH h := by
      rw [List.getElem?_map] at hd
      obtain ⟨h, hh, rfl⟩ := Option.map_eq_some_iff.mp hd
      exact ⟨h, List.mem_of_getElem? hh, rfl⟩
    have tA := f10.tx x11
    refine g_trip (hS10.tx tA) hv fun σ11 hS11 => ?_
    have k3 := x11 _ _ n3.1 k3
    have k4 := x11 _ _ n4.1 k4
    have k5 := x11 _ _ n5.1 k5
    have hevs := hevs.up tA
    have hws := hws.up tA
    have ck := ck.up tA
    have x11 := x10.trans x11
    replace hS11 : Sto K H11 σ11 [.val (.ref a), .dat (.int 20), .dat (dF f), .val (.ref p3), .val (.ref p4), .val (.ref p5), .dat (fr nw), .dat (.int (i : Int)), .dat (.str h.name), .dat (fr h.slow), .dat (fr h.fast), .any, .any, .any, .any, .any] := hS11
    clear hS10 hv hd tA x10 f10
    -- the stamp ahead
    refine q_asgG (evv_var (i := 5) (v := .ref p5) hS11 rfl H11 (Same.refl H11) _ fun H12 e12 => ⟨p5, rfl, .inl ⟨kvs, .inl (e12 _ _ k5)⟩, ?_⟩)
    refine evv_str (ev_var (i := 8) (d := .str h.name) (hS11.sm e12) rfl) H12 (Same.refl _) _ fun H13 e13 => ?_
    have e123 := e12.trans e13
    have hS13 := hS11.sm e123
    refine w_tup (w_cons (w_tup (w_cons (w_draw (m := 10) (f11.sm e123) (by omega) (evv_var hS13 rfl) ev_int (by decide) (by decide) fun z0 H14 hz0 x14 f14 => ⟨sz_of (Nat.le_of_ble_eq_true rfl), fun pa hpa => w_cons ?_⟩))))
    have t14 := (f11.sm e123).tx x14
    have eA : Same H14 (upd H14 pa (.tup [.int (z0 : Int), .int 1])) := same_new hpa
    have hTa : Tp K (upd H14 pa (.tup [.int (z0 : Int), .int 1])) (.ref pa) (fr (240 * (z0 : Int))) := by
      rw [fr_whole]
      exact .tup (.inl (.inl upd_same)) (.cons (.int _) (.cons (.int _) .nil))
    refine ev_var (i := 6) (d := fr nw) ((hS13.tx t14).sm eA) rfl _ (Same.refl _) _ fun vn H15 e15 hvn => ⟨sz_of (Nat.le_of_ble_eq_true rfl), fun pb hpb => ?_⟩
    have eB : Same H15 (upd H15 pb (.tup [.ref pa, vn])) := same_new hpb
    have hTb : Tp K (upd H15 pb (.tup [.ref pa, vn])) (.ref pb) (.tuple [fr (240 * (z0 : Int)), fr nw]) := .tup (.inl (.inl upd_same)) (.cons ((hTa.sm e15).sm eB) (.cons (hvn.sm eB) .nil))
    have xB : ExB a H11 (upd H15 pb (.tup [.ref pa, vn])) := (((ExB.of e123).trans x14).trans (.of (eA.trans e15))).trans (.of eB)
    have tB : Tx H11 (upd H15 pb (.tup [.ref pa, vn])) := (((same_tx e123).trans t14).trans (same_tx (eA.trans e15))).trans (same_tx eB)
    have fB := f14.sm ((eA.trans e15).trans eB)
    clear hTa hvn eB eA e15 hpa hpb hS13 t14 x14 f14 e12 e13 e123
    show ∃ o, DGet (upd H15 pb (.tup [.ref pa, vn])) p5 (.str h.name) o ∧ _
    generalize upd H15 pb (.tup [.ref pa, vn]) = H16 at hTb xB tB fB ⊢
    have k3 := xB _ _ n3.1 k3
    have k4 := xB _ _ n4.1 k4
    have k5 := xB _ _ n5.1 k5
    have hevs := hevs.up tB
    have hws := hws.up tB
    have ck := ck.up tB
    have x16 := x11.trans xB
    have hS16 := hS11.tx tB
    clear x11 xB tB hS11 f11
    refine ⟨valV kvs (Sum.inr h.name : L2.Key), DGet.k (k := (Sum.inr h.name : L2.Key)) k5, ?_⟩
    obtain ⟨s1, t1, hv, hcase⟩ : ∃ s1 t1, Tp K H16 ((valV kvs (Sum.inr h.name : L2.Key)).getD (.ref pb)) (.tuple [fr s1, fr t1]) ∧ ((NoneAt es h.name ∧ (∃ m, s1 = 30 * m) ∧ t1 = nw) ∨ LastAt es ww h.name s1 t1) := by
      rcases ck h.name with ⟨c1, c2⟩ | ⟨u, s, t, c1, c2, c3⟩
      · rw [c1]
        exact ⟨240 * (z0 : Int), nw, hTb, .inl ⟨c2, ⟨8 * (z0 : Int), by omega⟩, rfl⟩⟩
      · rw [c1]
        exact ⟨s, t, c2, .inr c3⟩
    refine g_pair hS16 hv fun σ16 hS16 => ?_
    replace hS16 : Sto K H16 σ16 [.val (.ref a), .dat (.int 20), .dat (dF f), .val (.ref p3), .val (.ref p4), .val (.ref p5), .dat (fr nw), .dat (.int (i : Int)), .dat (.str h.name), .dat (fr h.slow), .dat (fr h.fast), .dat (fr s1), .dat (fr t1), .any, .any, .any] := hS16
    clear hTb hv
    -- wide, rate
    refine q_parW (w_cons (ev_call (d := fr (nw + -1 * t1)) (ea_cons (ev_var hS16 rfl) (ea_cons (ev_var hS16 rfl) (ea_cons (ev_un0 ev_int) ea_nil))) ⟨nw, t1, -1, rfl, .inr rfl, rfl⟩ H16 (Same.refl _) _ fun v1 H17 e17 h1 => w_cons (w_ixN (ds := [fr h.slow, fr h.fast, fr 240]) (m := 3) (ea_cons (ev_var (hS16.sm e17) rfl) (ea_cons (ev_var (hS16.sm e17) rfl) (ea_cons ev_fr ea_nil))) rfl (fB.sm e17) (by omega) (evv_var (hS16.sm e17) rfl) ev_int (by decide) (by decide) fun j d v2 H18 hd h2 x18 f18 => ⟨_, _, rfl, ?_⟩)))
    have hslow := fo.fd.slow h hh
    have hfast := fo.fd.fast h hh
    obtain ⟨r, rfl, hro, hr1, hr2⟩ : ∃ r, d = fr r ∧ RateOk r ∧ h.slow ≤ r ∧ r ≤ h.fast := by
      have := List.mem_of_getElem? hd
      simp only [List.mem_cons, List.not_mem_nil, or_false] at this
      rcases this with rfl | rfl | rfl
      · exact ⟨_, rfl, hslow.1, Int.le_refl _, by omega⟩
      · exact ⟨_, rfl, hfast.1, by omega, Int.le_refl _⟩
      · exact ⟨240, rfl, .inr (.inr (.inl rfl)), by omega, by omega⟩
    have t18 := (fB.sm e17).tx x18
    have hS18 := (((hS16.sm e17).tx t18).put 13 (h1.up t18)).put 14 h2
    have tA := (same_tx e17).trans t18
    have xA : ExB a H16 H18 := (ExB.of e17).trans x18
    have k3 := xA _ _ n3.1 k3
    have k4 := xA _ _ n4.1 k4
    have k5 := xA _ _ n5.1 k5
    have hevs := hevs.up tA
    have hws := hws.up tA
    have ck := ck.up tA
    have x18 := x16.trans xA
    clear hS16 h1 h2 hd t18 tA xA x16 fB
    -- the stamp
    have ht1 : ∃ t, t1 = 120 * t := by
      rcases hcase with ⟨_, _, rfl⟩ | ⟨k, hk, _, _, rfl, _⟩
      · exact S.nw
      · exact S.w120 _ (wz_mem (by rw [S.fw.len]; exact hk))
    obtain ⟨z, m, hz1, hz2⟩ := rate_mul (w := nw + -1 * t1) hro (by
      obtain ⟨u, hu⟩ := S.nw
      obtain ⟨t, ht⟩ := ht1
      exact ⟨u - t, by omega⟩)
    have hrp := hro.pos
    have nr := nu_le r
    have hmul := mul_cross (nw + -1 * t1) r hz1
    have dm := de_mul (nw + -1 * t1) r
    refine q_set (d := fr (s1 + 1 * z)) (Same.refl H18) hS18 (ev_call (ea_cons (ev_var hS18 rfl) (ea_cons (ev_call (d := fr z) (ea_cons (ev_i (ev_nu (ev_var hS18 rfl)) (ev_nu (ev_var hS18 rfl)) (cmulR (by omega))) (ea_cons (ev_i (ev_de (ev_var hS18 rfl)) (ev_de (ev_var hS18 rfl)) (cmulR (de_sm r))) ea_nil)) ⟨_, _, _, rfl, dm.1, dm.2, hmul, rfl⟩) (ea_cons ev_int ea_nil))) ⟨s1, z, 1, rfl, .inl rfl, rfl⟩) fun σ19 H19 e19 _ hS19 => ?_
    have hNew : NewSt h es ww nw (s1 + 1 * z) := by
      rcases hcase with ⟨c1, ⟨m1, c2⟩, c3⟩ | c
      · refine .inl ⟨c1, m1, ?_⟩
        rw [c3, show nw + -1 * nw = 0 by omega, Int.zero_mul] at hz1
        omega
      · exact .inr ⟨s1, t1, z, r, c, by omega, by rw [hz1]; congr 1; omega, hr1, hr2, m, hz2⟩
    have S2 : ∀ d, DeedFits f es ww nw d → Scn f (es ++ [⟨h.name, s1 + 1 * z, d⟩]) (ww ++ [nw]) nw := fun d hd => S.add hh hd (by omega) hNew
    generalize s1 + 1 * z = sn at hS19 S2 hNew
    have k3 := e19 _ _ k3
    have k4 := e19 _ _ k4
    have k5 := e19 _ _ k5
    have hevs := hevs.sm e19
    have hws := hws.sm e19
    have ck := ck.up (same_tx e19)
    have x19 := x18.trans (.of e19)
    have f19 := f18.sm e19
    clear hS18 x18 f18 e19 hmul hz1
    -- the deeds
    have hln := fo.fd.nm h hh
    have hnl : ww.length = es.length := S.fw.len
    refine q_asgW (w_call (w_cons (ev_var (d := dF f) hS19 rfl H19 (Same.refl _) _ fun u1 Ha ea h1 => w_cons (evv_var (i := 3) (v := .ref p3) (hS19.sm ea) rfl Ha (Same.refl _) _ fun Hb eb => w_cons (evv_var (i := 4) (v := .ref p4) ((hS19.sm ea).sm eb) rfl Hb (Same.refl _) _ fun Hc ec => w_cons (ev_var (d := .str h.name) (((hS19.sm ea).sm eb).sm ec) rfl Hc (Same.refl _) _ fun u4 Hd ed h4 => w_cons (ev_var (d := fr nw) ((((hS19.sm ea).sm eb).sm ec).sm ed) rfl Hd (Same.refl _) _ fun u5 He ee h5 => ?_)))))))
    have eA : Same H19 He := (((ea.trans eb).trans ec).trans ed).trans ee
    refine ⟨f, es, ww, h.name, nw, u1, p3, p4, u4, u5, evs, ws, rfl, h1.sm (((eb.trans ec).trans ed).trans ee), eA _ _ k3, hevs.sm eA, eA _ _ k4, hws.sm eA, h4.sm ee, h5, fo, by omega, hnl, hln, S.ok.sd, fun ds pd xs H20 hne hdl hfit hpd e20 hld hxs => ?_⟩
    have eB := eA.trans e20
    have hS20 : Sto K H20 _ [.val (.ref a), .dat (.int 20), .dat (dF f), .val (.ref p3), .val (.ref p4), .val (.ref p5), .dat (fr nw), .dat (.int (i : Int)), .dat (.str h.name), .dat (fr h.slow), .dat (fr h.fast), .dat (fr sn), .dat (fr t1), .dat (fr (nw + -1 * t1)), .dat (fr r), .val (.ref pd)] := (hS19.sm eB).putV 15 (v := .ref pd)
    have f20 := f19.sm eB
    have npd : pd ≠ a := fun z => by
      obtain ⟨_, _, _, _, ha, _⟩ := f19.sm eA
      rw [z, ha] at hpd
      cases hpd
    have k3 := eB _ _ k3
    have k4 := eB _ _ k4
    have k5 := eB _ _ k5
    have hevs := hevs.sm eB
    have hws := hws.sm eB
    have ck := ck.up (same_tx eB)
    have x20 := x19.trans (.of eB)
    have hdl0 : 0 < ds.length := by
      cases ds with
      | nil => exact absurd rfl hne
      | cons a r => rw [List.length_cons]; omega
    clear hS19 x19 f19 h1 h4 h5 ea eb ec ed ee eA e20 eB hpd
    -- the event
    refine q_dropW (w_app k3 (evv_var hS20 rfl) fun H21 e21 => ?_)
    have hS21 := hS20.sm e21
    refine w_tup (w_cons (ev_var (d := .str h.name) hS21 rfl H21 (Same.refl _) _ fun v1 H22 e22 h1 => w_cons (ev_var (d := fr sn) (hS21.sm e22) rfl H22 (Same.refl _) _ fun v2 H23 e23 h2 => w_cons (w_ixV (m := ds.length) (evv_var ((hS21.sm e22).sm e23) rfl) (((e21.trans e22).trans e23) _ _ hld) (hxs.sm ((e21.trans e22).trans e23)) (by rw [List.length_map]) npd (f20.sm ((e21.trans e22).trans e23)) (by omega) (evv_var ((hS21.sm e22).sm e23) rfl) (ev_is (ev_lenL (evv_var ((hS21.sm e22).sm e23) rfl) (.inl (.inl (((e21.trans e22).trans e23) _ _ hld)))) (by rw [hxs.len, List.length_map])) hdl0 (by omega) fun j d v3 H24 hd h3 x24 f24 => ?_))))
    obtain ⟨dd, hdd, rfl⟩ : ∃ dd, dd ∈ ds ∧ d = dD dd := by
      rw [List.getElem?_map] at hd
      obtain ⟨d, hd', rfl⟩ := Option.map_eq_some_iff.mp hd
      exact ⟨d, List.mem_of_getElem? hd', rfl⟩
    have e123 := (e21.trans e22).trans e23
    have t24 := (f20.sm e123).tx x24
    refine ⟨sz_of (Nat.le_of_ble_eq_true rfl), fun pe hpe => ⟨evs, ?_, ?_, ?_⟩⟩
    · exact same_new hpe _ _ (x24 _ _ n3.1 (e123 _ _ k3))
    · have h1 := hevs.len
      rw [List.length_map] at h1
      exact sz_lt (by omega)
    have eN : Same H24 (upd H24 pe (.tup [v1, v2, v3])) := same_new hpe
    have hT : Tp K (upd H24 pe (.tup [v1, v2, v3])) (.ref pe) (dE ⟨h.name, sn, dd⟩) :=
      .tup (.inl (.inl upd_same)) (.cons (((h1.sm e23).up t24).sm eN) (.cons ((h2.up t24).sm eN) (.cons (h3.sm eN) .nil)))
    have k3' : (upd H24 pe (.tup [v1, v2, v3])) p3 = some (.lst evs) := eN _ _ (x24 _ _ n3.1 (e123 _ _ k3))
    have k4' : (upd H24 pe (.tup [v1, v2, v3])) p4 = some (.lst ws) := eN _ _ (x24 _ _ n4.1 (e123 _ _ k4))
    have k5' : (upd H24 pe (.tup [v1, v2, v3])) p5 = some (.dK kvs) := eN _ _ (x24 _ _ n5.1 (e123 _ _ k5))
    have tA : Tx H20 (upd H24 pe (.tup [v1, v2, v3])) := ((same_tx e123).trans t24).trans (same_tx eN)
    have xA : ExB a H (upd H24 pe (.tup [v1, v2, v3])) := ((x20.trans (.of e123)).trans x24).trans (.of eN)
    have fA := f24.sm eN
    have hSA := hS20.tx tA
    have hevs := hevs.up tA
    have hws := hws.up tA
    have ck := ck.up tA
    have S := S2 dd (hfit dd hdd)
    have hNc : Ck K (upd H24 pe (.tup [v1, v2, v3])) kvs es ww := ck
    generalize upd H24 pe (.tup [v1, v2, v3]) = H25 at hT k3' k4' k5' tA xA fA hSA hevs hws ck hNc ⊢
    clear hS20 hS21 k3 k4 k5 x20 f20 h1 h2 h3 hd e21 e22 e23 e123 x24 f24 t24 hpe eN tA hNc hld hxs
    have tl := tx_lst (o := .lst (evs ++ [.ref pe])) k3'
    have kk3 : (upd H25 p3 (.lst (evs ++ [.ref pe]))) p3 = some (.lst (evs ++ [.ref pe])) := upd_same
    have kk4 : (upd H25 p3 (.lst (evs ++ [.ref pe]))) p4 = some (.lst ws) := by rw [upd_ne n43]; exact k4'
    have kk5 : (upd H25 p3 (.lst (evs ++ [.ref pe]))) p5 = some (.dK kvs) := by rw [upd_ne n53]; exact k5'
    have xB : ExB a H (upd H25 p3 (.lst (evs ++ [.ref pe]))) := xA.mut q3
    have fB : FeedAt (upd H25 p3 (.lst (evs ++ [.ref pe]))) a b (c + 101 + 5 * (i : Int) + 1 + 1 + 1 + 1 + 1) := fA.mut n3.1 n3.2
    have hSB := hSA.tx tl
    have hevs : TpAll K (upd H25 p3 (.lst (evs ++ [.ref pe]))) (evs ++ [.ref pe]) ((es ++ [(⟨h.name, sn, dd⟩ : Evt)]).map dE) := by
      rw [List.map_append]
      exact (hevs.app (.one hT)).up tl
    have hws := hws.up tl
    have ck := ck.up tl
    show tSeq _ _ _ _ (upd H25 p3 (.lst (evs ++ [.ref pe])))
    generalize upd H25 p3 (.lst (evs ++ [.ref pe])) = H26 at kk3 kk4 kk5 xB fB hSB hevs hws ck ⊢
    clear k3' k4' k5' xA fA hSA tl hT
    -- the world
    refine q_app kk4 (evv_var hSB rfl) (ev_var (d := fr nw) hSB rfl) (by have := hws.len; rw [List.length_map] at this; omega) fun v H27 e27 hv => ?_
    have kk4' := e27 _ _ kk4
    have tl := tx_lst (o := .lst (ws ++ [v])) kk4'
    have j3 : (upd H27 p4 (.lst (ws ++ [v]))) p3 = some (.lst (evs ++ [.ref pe])) := by rw [upd_ne n43.symm]; exact e27 _ _ kk3
    have j4 : (upd H27 p4 (.lst (ws ++ [v]))) p4 = some (.lst (ws ++ [v])) := upd_same
    have j5 : (upd H27 p4 (.lst (ws ++ [v]))) p5 = some (.dK kvs) := by rw [upd_ne n54]; exact e27 _ _ kk5
    have xC : ExB a H (upd H27 p4 (.lst (ws ++ [v]))) := (xB.trans (.of e27)).mut q4
    have fC := (fB.sm e27).mut (o := .lst (ws ++ [v])) n4.1 n4.2
    have tC : Tx H26 (upd H27 p4 (.lst (ws ++ [v]))) := (same_tx e27).trans tl
    have hSC := hSB.tx tC
    have hws : TpAll K (upd H27 p4 (.lst (ws ++ [v]))) (ws ++ [v]) ((ww ++ [nw]).map fr) := by
      rw [List.map_append]
      exact ((hws.sm e27).app (.one hv)).up tl
    have hevs := hevs.up tC
    have ck := ck.up tC
    generalize upd H27 p4 (.lst (ws ++ [v])) = H28 at j3 j4 j5 xC fC tC hSC hws hevs ck ⊢
    clear kk3 kk4 kk5 xB fB hSB tl e27 hv kk4' tC
    -- the clocks
    refine s_dput (K := K) (k := (Sum.inr h.name : L2.Key)) (d := .tuple [fr sn, fr nw]) (ev_tup (ea_cons (ev_var hSC rfl) (ea_cons (ev_var hSC rfl) ea_nil))) (evv_var hSC rfl) (evv_str (ev_var (i := 8) (d := .str h.name) hSC rfl)) j5 (by omega) fun v H29 e29 hv => ?_
    have j5' := e29 _ _ j5
    have tl := tx_dk (o := .dK (putK kvs (Sum.inr h.name : L2.Key) v)) j5'
    have tD := (same_tx e29).trans tl
    refine ⟨hn, (xC.trans (.of e29)).mut q5, ((fC.sm e29).mut n5.1 n5.2).mono (by omega), es ++ [⟨h.name, sn, dd⟩], ww ++ [nw], nw, _, _, _, by rw [List.length_append, hel]; rfl, S, ?_, hevs.up tD, ?_, hws.up tD, upd_same, fun nm => ?_, Nat.le_trans (putK_le _ _ _) (by omega), ?_⟩
    · rw [upd_ne n53.symm]; exact e29 _ _ j3
    · rw [upd_ne n54.symm]; exact e29 _ _ j4
    · by_cases cn : nm = h.name
      · subst cn
        refine .inr ⟨v, sn, nw, by rw [valV_put, if_pos rfl], hv.up tl, last_new hnl⟩
      · have cn' : h.name ≠ nm := fun z => cn z.symm
        have ev : valV (putK kvs (Sum.inr h.name : L2.Key) v) (Sum.inr nm : L2.Key) = valV kvs (Sum.inr nm : L2.Key) := by
          rw [valV_put, if_neg]
          exact fun z => cn (Sum.inr.inj z)
        rw [ev]
        rcases ck nm with ⟨c1, c2⟩ | ⟨u, s, t, c1, c2, c3⟩
        · exact .inl ⟨c1, none_old c2 cn'⟩
        · exact .inr ⟨u, s, t, c1, c2.up tD, last_old hnl c3 cn'⟩
    · exact sto_drops [7, 8, 9, 10, 11, 12, 13, 14, 15] (hSC.tx tD)
  · obtain ⟨hn, x7, f7, es, ww, now, evs, ws, kvs, hel, S, k3, hevs, k4, hws, k5, ck, hkl, hS7⟩ := p
    exact s_ret (Same.refl H') (ev_tup (ea_cons (ev_tup (ea_cons (ev_var hS7 rfl) (ea_cons (ev_tupL (evv_var hS7 rfl) (.inl (.inl k3)) hevs) ea_nil))) (ea_cons (ev_tupL (evv_var hS7 rfl) (.inl (.inl k4)) hws) ea_nil))) fun v H8 e8 hv => q f es ww v H8 S.ok S.fw (x7.trans (.of e8)) ((f7.sm e8).mono (by omega)) hv
end
end Lk

namespace Lk
open PySem PySem.Spec PyProof.Rows L2 Mx
section
variable {P : Program} {w : World} {K : PySem.W.Frag} {mg : Str → Option Value} {base : Heap} {C aN : Addr}
def spLaw (K : PySem.W.Frag) : Sp := fun vs H Q _ => ∃ s, ∃ ns : List Int, vs = [.ref s] ∧ SqL K H s (ns.map V.int) ∧ ∀ H', Q (.bl true) H'
theorem bsum_one (f : Fd) (es : List Evt) (x : Nat) : bsum f es [x] = (0, some 0) := rfl
/-- a def of any promise, by its own address -/
theorem fn_any {x : Str} {st : Stmt} {ps N : List Str} {k : Nat} {sp : Sp} {f : Addr} {fd : FuncData} (F : Fun K x x st f fd) (S : FnScope N ps (defScope st)) (len : ∀ vs H Q E, sp vs H Q E → vs.length = ps.length)
    (hbody : ∀ (f : Addr) (cdv : Value) (A : Around) (outer : List Env) (s : Shared) (H0 : Hp) (E0 : XK), Room k (A.deeper (envOfC x (defScope st) s.heap.objs.size f cdv)) →
      ∃ t, PSs (cxOf CX0 P w K mg base N x (defScope st) f cdv A outer s H0 E0).nox (defBody st) t ∧ ∀ (H : Hp) (vs : List V) (Q : VK) (E : XK), sp vs H Q E → t { nx := fun _ H' => Q .non H', rt := Q } (start N vs) H) :
    FnOk P w K mg base CX0 (k + 1) f fd ps sp :=
  F.ok S len fun cdv A outer s H vs Q E hr h => by
    obtain ⟨t, a, b⟩ := hbody f cdv A outer s H E hr
    exact ⟨t, a, b H vs Q E h⟩
theorem okLaw (T : Txt K mg C aN) {f0 : Addr} {fd0 : FuncData} (F : Fun K "law" "law" sLaw f0 fd0) : FnOk P w K mg base CX0 11 f0 fd0 ["_law_script"] (spLaw K) := by
  refine fn_any F scLaw (fun vs H Q E h => by obtain ⟨s, ns, rfl, _⟩ := h; rfl) fun f cdv A outer s H0 E0 hr => ⟨_,
    (pss_cons (ps_set (i := 1) scLaw.nd rfl (Or.inl rfl) (pe_fn ((okWfeed T).mono (by decide)) hr pass0 (pa_cons (pv 0) pa_nil)))
      (pss_cons (ps_asg (pe_fn ((okWscene T).mono (by decide)) hr pass0 (pa_cons (pv 1) (pa_cons pe_int pa_nil))) (pg_tupk (K := K) (n := 2) rfl (pgs_cons (pg_name (i := 2) scLaw.nd rfl (Or.inr rfl)) (pgs_cons (pg_name (i := 3) scLaw.nd rfl (Or.inl rfl)) pgs_nil))))
      (pss_cons (ps_set (i := 4) scLaw.nd rfl (Or.inl rfl) (pe_callB (call_lenk (K := K)) (by rfl) T.z_len (by decide +kernel) (pa_cons (pe_ix (ix_tupk (K := K)) (pv 2) pe_int (fun _ _ => rfl)) pa_nil)))
      (pss_cons (ps_for PassesOwn.never rfl (pi_range1 (by rfl) T.z_range (pa_cons (pe_op op_mul pe_int (pe_callTy call_int1 (by rfl) T.z_int (by decide +kernel) (pa_cons (pe_cmpR op_gt (pv 4) pe_int (nomark _)) pa_nil))) pa_nil)) (pg_name (i := 5) scLaw.nd rfl (Or.inl rfl)) (pss_cons (ps_asg (pe_tup (pa_cons (pe_fn ((okWdraw T).mono (by decide)) hr pass0 (pa_cons (pv 1) (pa_cons (pv 4) pa_nil))) (pa_cons (pe_fn ((okWdraw T).mono (by decide)) hr pass0 (pa_cons (pv 1) (pa_cons (pv 4) pa_nil))) pa_nil))) (pg_tupk (K := K) (n := 2) rfl (pgs_cons (pg_name (i := 6) scLaw.nd rfl (Or.inr rfl)) (pgs_cons (pg_name (i := 7) scLaw.nd rfl (Or.inl rfl)) pgs_nil))))
      (pss_one (ps_if (PW.pt (pw_or (pt_not (pt_val (pe_fn ((okWpairRight T).mono (by decide)) hr pass0 (pa_cons (pv 2) (pa_cons (pv 3) (pa_cons (pe_callB (call_min2 rfl) (by rfl) T.z_min (by decide +kernel) (pa_cons (pv 6) (pa_cons (pv 7) pa_nil))) (pa_cons (pe_callB (call_max2 rfl) (by rfl) T.z_max (by decide +kernel) (pa_cons (pv 6) (pa_cons (pv 7) pa_nil))) pa_nil))))))) (pw_or1 (pt_not (pt_val (pe_fn ((okWpairRight T).mono (by decide)) hr pass0 (pa_cons (pv 2) (pa_cons (pv 3) (pa_cons (pv 7) (pa_cons (pv 6) pa_nil)))))))))) (pss_one (ps_ret pe_bl)) pss_nil))))
      (pss_cons (ps_for PassesOwn.never rfl (pi_range1 (by rfl) T.z_range (pa_cons (pv 4) pa_nil)) (pg_name (i := 6) scLaw.nd rfl (Or.inr rfl)) (pss_cons (ps_if (PW.pt (pw_or (pt_cmpR (op_nek (K := K) hr.units) (pe_fn ((okRelayBounds T).mono (by decide)) hr pass0 (pa_cons (pv 2) (pa_cons (pe_tup (pa_cons (pv 6) pa_nil)) pa_nil))) (pe_tup (pa_cons (pe_tup (pa_cons pe_int (pa_cons pe_int pa_nil))) (pa_cons (pe_tup (pa_cons pe_int (pa_cons pe_int pa_nil))) pa_nil))) (nomark _)) (pw_or1 (pt_cmpR (op_nek (K := K) hr.units) (pe_fn ((okWlet T).mono (by decide)) hr pass0 (pa_cons (pv 2) (pa_cons (pe_tup (pa_cons (pv 6) (pa_cons (pv 6) pa_nil))) pa_nil))) (pe_lst pa_nil) (nomark _))))) (pss_one (ps_ret pe_bl)) pss_nil)
      (pss_cons (ps_setLc (i := 8) (own := [("_law_y", 7)]) (g := gName 7) rfl scLaw.nd rfl rfl (sw_true rfl rfl rfl (by decide +kernel)) (pi_range2 (by rfl) T.z_range (pa_cons (pe_op op_add (pv 6) pe_int) (pa_cons (pv 4) pa_nil))) (blkOk_by (own := [("_law_y", 7)]) (N := ["_law_script", "_law_feed_here", "_law_history", "_law_world", "_law_many", "_law_turn", "_law_x", "_law_y", "_law_later"]) (sc := defScope sLaw) (by decide +kernel)) (fun _ _ _ _ _ => (pg_name (i := 7) scLaw.nd rfl (Or.inl rfl))) (fun _ _ _ _ _ => pts_one (pt_cmpR (op_eqk (K := K) hr.units) (pe_ix (ix_tupk (K := K)) (pe_ix (ix_tupk (K := K)) (pe_ix (ix_tupk (K := K)) (pv 2) pe_int (fun _ _ => rfl)) (pv 7) (fun _ _ => rfl)) pe_int (fun _ _ => rfl)) (pe_ix (ix_tupk (K := K)) (pe_ix (ix_tupk (K := K)) (pe_ix (ix_tupk (K := K)) (pv 2) pe_int (fun _ _ => rfl)) (pv 6) (fun _ _ => rfl)) pe_int (fun _ _ => rfl)) (nomark _))) (fun _ _ _ _ _ => (pv 7)))
      (pss_one (ps_if (PW.pt (pw_and (pt_cmpR (op_nek (K := K) hr.units) (pv 8) (pe_lst pa_nil) (nomark _)) (pw_and1 (pt_not (pt_val (pe_fn ((okWboundsRight T).mono (by decide)) hr pass0 (pa_cons (pv 2) (pa_cons (pv 3) (pa_cons (pe_tup (pa_cons (pv 6) (pa_cons (pe_ix (ix_listk (K := K)) (pv 8) (pe_un un_neg pe_int) (fun _ _ => rfl)) pa_nil))) pa_nil))))))))) (pss_one (ps_ret pe_bl)) pss_nil)))))
      (pss_one (ps_ret pe_bl))))))), fun H vs Q E h => ?_⟩
  obtain ⟨s, ns, rfl, hs, q⟩ := h
  have hS : Sto K H (L2.start ["_law_script", "_law_feed_here", "_law_history", "_law_world", "_law_many", "_law_turn", "_law_x", "_law_y", "_law_later"] [.ref s]) (.val (.ref s) :: List.replicate 8 .any) := .val Sto.anys
  -- the feed
  refine q_asgW (w_call (w_cons (evv_var (i := 0) (v := .ref s) hS rfl H (Same.refl H) _ fun H1 e1 => ⟨s, ns, rfl, sqL_same e1 hs, fun a b H2 e2 f2 => ?_⟩)))
  have hS2 := ((hS.sm e1).sm e2).putV 1 (v := .ref a)
  -- the scene
  refine q_asgG (w_call (w_cons (evv_var (i := 1) (v := .ref a) hS2 rfl H2 (Same.refl _) _ fun H3 e3 => ⟨a, b, 0, rfl, f2.sm e3, by decide, by decide, fun f es ww v H4 ok fw x4 f4 hv => ?_⟩)))
  have t4 := (f2.sm e3).tx x4
  refine g_pair (d1 := dHist f es) (d2 := dW ww) ((hS2.sm e3).tx t4) hv fun σ4 hS4 => ?_
  replace hS4 : Sto K H4 σ4 [.val (.ref s), .val (.ref a), .dat (dHist f es), .dat (dW ww), .any, .any, .any, .any, .any] := hS4
  clear hS hS2 hv t4 x4 f2 e3 e1 e2
  have n20 := ok.n
  refine q_set (d := .int (es.length : Int)) (Same.refl H4) hS4 (ev_is (ev_lenT (ea_cons (ev_hist1 (ev_var hS4 rfl)) ea_nil)) (by rw [List.length_map])) fun σ5 H5 e5 _ hS5 => ?_
  have f5 := f4.sm e5
  clear hS4 f4 e5
  -- the pairs
  refine q_forR1 (n := 14 * (if decide (0 < (es.length : Int)) then 1 else 0)) (ea_cons (ev_i (i := 14) (ev_int (i := 14)) (ev_intb (b := decide (0 < (es.length : Int))) (ea_cons (ev_b0 (ev_var hS5 rfl) ev_int) ea_nil)) (cmulL (by decide))) ea_nil) (by split <;> decide) (by split <;> decide)
    (fun i σ' H' => FeedAt H' a b (0 + 300 + 2 * (i : Nat)) ∧ Sto K H' σ' [.any, .val (.ref a), .dat (dHist f es), .dat (dW ww), .dat (.int (es.length : Int)), .any, .any, .any, .any]) (fun H6 e6 => ⟨(f5.sm e6).mono (by omega), (hS5.sm e6).drop 0⟩) (fun i σ' H' hi p => ?_) (fun σ' H' p => ?_)
  · obtain ⟨f6, hS6⟩ := p
    have hi14 : i < 14 ∧ 0 < es.length := by
      by_cases c : 0 < (es.length : Int)
      · rw [decide_eq_true c, if_pos rfl] at hi
        omega
      · rw [decide_eq_false c, if_neg (by decide)] at hi
        omega
    refine g_name (d := .int (i : Int)) hS6 (.int _) fun σ7 hS7 => ?_
    refine q_asgG (w_tup (w_cons (w_draw (m := es.length) f6 (by omega) (evv_var hS7 rfl) (ev_var hS7 rfl) (by omega) (by omega) fun x H8 hx x8 f8 => w_cons (w_draw (m := es.length) f8 (by omega) (evv_var (hS7.tx (f6.tx x8)) rfl) (ev_var (hS7.tx (f6.tx x8)) rfl) (by omega) (by omega) fun y H9 hy x9 f9 => ⟨sz_of (Nat.le_of_ble_eq_true rfl), fun pt hpt => ?_⟩))))
    have eT : Same H9 (upd H9 pt (.tup [.int (x : Int), .int (y : Int)])) := same_new hpt
    refine g_pair (d1 := .int (x : Int)) (d2 := .int (y : Int)) (((hS7.tx (f6.tx x8)).tx (f8.tx x9)).sm eT) (.tup (.inl (.inl upd_same)) (.cons (.int _) (.cons (.int _) .nil))) fun σ9 hSa => ?_
    have fA := f9.sm eT
    show tIfS _ _ _ _ _ (upd H9 pt (.tup [.int (x : Int), .int (y : Int)]))
    generalize upd H9 pt (.tup [.int (x : Int), .int (y : Int)]) = Ha at hSa fA ⊢
    replace hSa : Sto K Ha σ9 [.any, .val (.ref a), .dat (dHist f es), .dat (dW ww), .dat (.int (es.length : Int)), .dat (.int (i : Int)), .dat (.int (x : Int)), .dat (.int (y : Int)), .any] := hSa
    clear hS6 hS7 eT hpt x8 x9 f8 f9
    refine s_if (b := false) (et_or (a := false) (b := false) (et_not (a := true) (et_test (ev_call (ea_cons (ev_var hSa rfl) (ea_cons (ev_var hSa rfl) (ea_cons (ev_is (d' := dN (min x y)) (ev_min2 (ea_cons (ev_var hSa rfl) (ea_cons (ev_var hSa rfl) ea_nil))) ?_) (ea_cons (ev_is (d' := dN (max x y)) (ev_max2 (ea_cons (ev_var hSa rfl) (ea_cons (ev_var hSa rfl) ea_nil))) ?_) ea_nil)))) ⟨f, es, ww, _, _, rfl, ok, fw, by omega, by omega, rfl⟩)))
      fun _ => et_not (a := true) (et_test (ev_call (ea_cons (ev_var hSa rfl) (ea_cons (ev_var hSa rfl) (ea_cons (ev_var hSa rfl) (ea_cons (ev_var hSa rfl) ea_nil)))) ⟨f, es, ww, y, x, rfl, ok, fw, hy, hx, rfl⟩))) (fun c => by cases c) (fun _ Hb eb => ⟨(fA.sm eb).mono (by omega), sto_drops [5, 6, 7] (hSa.sm eb)⟩)
    · show PyData.int _ = PyData.int _
      congr 1
      split <;> omega
    · show PyData.int _ = PyData.int _
      congr 1
      split <;> omega
  obtain ⟨_, hS6⟩ := p
  clear hS5 f5
  -- each event
  refine q_forR1 (n := (es.length : Int)) (ea_cons (ev_var hS6 rfl) ea_nil) (by omega) (by omega) (fun i σ' H' => Sto K H' σ' [.any, .any, .dat (dHist f es), .dat (dW ww), .dat (.int (es.length : Int)), .any, .any, .any, .any]) (fun H7 e7 => (hS6.sm e7).drop 1) (fun x σ' H' hi hS7 => ?_) (fun σ' H' hS7 => ?_)
  · have hx : x < es.length := by omega
    have ax := at_lt hx
    refine g_name (d := .int (x : Int)) hS7 (.int _) fun σ8 hS8 => ?_
    refine q_if (b := false) (et_or (a := false) (b := false) (et_test (ev_is (d' := .bool false) (ev_ne (ev_call (d := dB (bsum f es [x])) (ea_cons (ev_var hS8 rfl) (ea_cons (ev_tup (ea_cons (ev_var hS8 rfl) ea_nil)) ea_nil)) ⟨f, es, [x], rfl, ok, fun u hu => by rw [List.mem_singleton.mp hu]; exact hx, rfl⟩) (ev_tup (ds := [fr 0, fr 0]) (ea_cons ev_fr (ea_cons ev_fr ea_nil))) (Sh.ok (sh_dB _)) (Sh.ok (sh_dB (0, some 0)))) ?_))
      fun _ => et_test (ev_is (d' := .bool false) (ev_neL (el_call (es := []) (ea_cons (ev_var hS8 rfl) (ea_cons (ev_tup (ea_cons (ev_var hS8 rfl) (ea_cons (ev_var hS8 rfl) ea_nil))) ea_nil)) ⟨f, es, [x, x], rfl, ok, List.cons_ne_nil _ _, Nat.le_of_ble_eq_true rfl, fun u hu => ?_, .inr ⟨not_self ok x, rfl⟩⟩) (el_lst ea_nil) (Sh.ok (n := 1) (.lst .nil)) (Sh.ok (n := 1) (.lst .nil))) ?_)) (fun c => by cases c) (fun _ H9 e9 => ?_)
    · rw [bsum_one]
      show PyData.bool (!PyData.eqv (dB (0, some 0)) (dB (0, some 0))) = _
      rw [eqv_dB]
      rfl
    · have : u = x := by
        simp only [List.mem_cons, List.not_mem_nil, or_false, or_self] at hu
        exact hu
      rw [this]
      exact hx
    · simp [PyData.eqv, PyData.eqvAll]
    have hS9 := hS8.sm e9
    have hsh : ∀ y, y < es.length → SeqAt.shaped (.str (evAt es y).house) = true := fun y hy => Sh.ok (n := 0) (.str (hn_of ok _ (by
      rw [evAt_of (at_lt hy)]
      exact List.mem_of_getElem? (at_lt hy))))
    have eva : ∀ y, y < es.length → es[y]? = some (evAt es y) := fun y hy => by rw [evAt_of (at_lt hy)]; exact at_lt hy
    refine q_setL (ds := ((List.range' (x + 1) (es.length - (x + 1))).filter fun y => PyData.eqv (.str (evAt es y).house) (.str (evAt es x).house)).map dN) (Same.refl H9) hS9 (el_lc (K := K) (j := 7) (g' := dN) (wk_rng2 (lo := x + 1) (n := es.length) (ea_cons (ev_is (ev_i0 (ev_var (d := .int (x : Int)) hS9 rfl) ev_int) (by congr 1)) (ea_cons (ev_var hS9 rfl) ea_nil)) (by omega) (by omega)) hS9 (by rw [List.length_range']; omega)
      (fun y hy σa Ha ea hSa => et_test (ev_eq (ev_house (ev_hist1 (ev_var hSa rfl)) (ev_var hSa rfl) (eva y ?_)) (ev_house (ev_hist1 (ev_var hSa rfl)) (ev_var (d := dN x) hSa rfl) (eva x hx)) (hsh y ?_) (hsh x hx)))
      (fun y hy _ σa Ha ea hSa => ev_var hSa rfl)) fun pl ys σa Ha hpl ea _ hSa hla hys => ?_
    · have := (List.mem_range'_1.mp hy).2; omega
    · have := (List.mem_range'_1.mp hy).2; omega
    have eys := tpN_inv hys
    have hL : ∀ y ∈ (List.range' (x + 1) (es.length - (x + 1))).filter fun y => PyData.eqv (.str (evAt es y).house) (.str (evAt es x).house), x < y ∧ y < es.length ∧ hz es x = hz es y := fun y hy => by
      obtain ⟨h1, h2⟩ := List.mem_filter.mp hy
      have h3 := List.mem_range'_1.mp h1
      rw [eqv_str] at h2
      have h4 := of_decide_eq_true h2
      refine ⟨by omega, by omega, ?_⟩
      rw [hz_of (eva x hx), hz_of (eva y (by omega)), h4]
    generalize ((List.range' (x + 1) (es.length - (x + 1))).filter fun y => PyData.eqv (.str (evAt es y).house) (.str (evAt es x).house)) = L at hys eys hL
    subst eys
    refine s_if (b := false) (et_is (et_and (a := !(L.map dN).isEmpty) (b := false) (et_test (ev_neNil (evv_var hSa rfl) (.inl (.inl hla)) hys (Sh.ok (n := 1) (.lst (.map (fun _ => .int) L))))) fun c => ?_) (by rw [Bool.and_false])) (fun c => by cases c) (fun _ Hb eb => sto_drops [6, 7, 8] (hSa.sm eb))
    obtain ⟨L', y, rfl⟩ : ∃ L' y, L = L' ++ [y] := by
      cases L with
      | nil => cases c
      | cons u r => exact ⟨(u :: r).dropLast, (u :: r).getLast (List.cons_ne_nil _ _), (List.dropLast_concat_getLast _).symm⟩
    obtain ⟨h1, h2, h3⟩ := hL y (List.mem_append_right _ List.mem_cons_self)
    have hlast : atI ((L' ++ [y]).map vN) (-1) = some (vN y) := by
      rw [List.map_append]
      exact atI_last _ _
    refine et_not (a := true) (et_test (ev_call (ea_cons (ev_var hSa rfl) (ea_cons (ev_var hSa rfl) (ea_cons (ev_tup (ea_cons (ev_var (d := dN x) hSa rfl) (ea_cons (ev_ixL (d := dN y) (evv_var hSa rfl) (ev_un0 ev_int) (.inl (.inl hla)) hlast (.int _)) ea_nil))) ea_nil))) ⟨f, es, ww, x, [y], y, rfl, ok, fw, Nat.le_of_ble_eq_true rfl, fun u hu => ?_, fun p hp => ?_, rfl, rfl⟩))
    · simp only [List.mem_cons, List.not_mem_nil, or_false] at hu
      rcases hu with rfl | rfl
      · exact hx
      · exact h2
    · have : p = (x, y) := List.mem_singleton.mp hp
      rw [this]
      exact goB_of.mpr (.inr ⟨h1, h3⟩)
  · exact s_ret (Same.refl H') (ev_bl (K := K)) fun v H8 e8 hv => by rw [hv.bool_inv]; exact q H8
end
end Lk

namespace Lk
open PySem PySem.Spec PyProof.Rows L2
section
variable {K : PySem.W.Frag} {h : Heap} {mg : Str → Option Value}
/-- a def as the top left it -/
theorem has_mk {x : Str} {st : Stmt} {ps : List Str} {f : Addr} {oc : Value} {od an : Option Addr} {osl : Array (Option Value)} {kV doc pm cdv ct : Value} (X : K.In h) (G : h.Ns mainGlobals mg) (a : PySem.W.nsIn K mainGlobals x = some (some (.ref f)))
    (l : K.lookup f = some ⟨oc, od, .func (PySem.W.fnOf x x (defArgs st) (defBody st) (defScope st) .none kV doc pm an cdv ct), osl⟩) (c : PySem.W.codeIn K cdv x = true) (k : PySem.W.keepIn K (.ref f) = true)
    (b : ∀ (kV doc pm : Value) (an : Option Addr) (cdv ct : Value) (us : List Value), us.length = ps.length → bindArgs (PySem.W.fnOf x x (defArgs st) (defBody st) (defScope st) .none kV doc pm an cdv ct) ⟨us, []⟩ = pure (ps.zip us)) : Has K mg x st ps := by
  have F := fun_mk (st := st) l c k
  exact ⟨f, _, PySem.W.mg_of X G a, F, F.binds b⟩
theorem exm_own {C : Addr} (h1 : PySem.W.subIn K (.ref C) (.type "BaseException") = some true) (h2 : PySem.W.isClsIn K C = true) (h3 : PySem.W.typeIn K (.ref C) = some (.type "type")) (h4 : PySem.W.subIn K (.ref C) (.ref C) = some true) : PySem.W.exmOne K (.ref C) (.ref C) = some true := by
  have k2 : (PySem.W.clsIn K C).isSome = true := h2
  have g1 : (PySem.W.subIn K (.ref C) (.type "BaseException") == some true) = true := by rw [h1] <;> rfl
  have g2 : ((PySem.W.clsIn K C).isSome && PySem.W.typeIn K (.ref C) == some (.type "type")) = true := by rw [k2, h3] <;> rfl
  have e : PySem.W.exmOne K (.ref C) (.ref C) = if (PySem.W.subIn K (.ref C) (.type "BaseException") == some true) = true then (if ((PySem.W.clsIn K C).isSome && PySem.W.typeIn K (.ref C) == some (.type "type")) = true then PySem.W.subIn K (.ref C) (.ref C) else none) else none := rfl
  rw [e, if_pos g1, if_pos g2, h4]
theorem np_mk {C B fI : Addr} {nm q : Str} {N : Addr} {bs : List Value} {sn : List Str} {sub : List Value} {ab : Bool} {col : Option Bool} {dd : Option Addr} {m0 m1 m2 m3 m5 : Option Value} {oc : Value} {od an : Option Addr} {osl : Array (Option Value)} {kV doc pm cdv ct : Value}
    (X : K.In h) (G : h.Ns mainGlobals mg) (aC : PySem.W.nsIn K mainGlobals "NoPaper" = some (some (.ref C))) (aB : PySem.W.nsIn K mainGlobals "ClockError" = some (some (.ref B)))
    (xL : K.lookup C = some (excClassObj nm q C N bs [.ref B, .type "ValueError", .type "Exception", .type "BaseException", .type "object"] true sn sub ab col dd m0 m1 m2 m3 m5 "ValueError.__new__"))
    (sa : PySem.W.findIn K (.ref C) "__setattr__" = some (some (.builtin "object.__setattr__"))) (nW : PySem.W.findIn K (.ref C) "word" = some none) (nA : PySem.W.findIn K (.ref C) "at" = some none)
    (eC : PySem.W.subIn K (.ref C) (.type "BaseException") = some true) (iC : PySem.W.isClsIn K C = true) (tC : PySem.W.typeIn K (.ref C) = some (.type "type")) (sC : PySem.W.subIn K (.ref C) (.ref C) = some true) (kC : PySem.W.keepIn K (.ref C) = true)
    (b1 : PySem.W.specialIn K (.ref B) "__getattribute__" = some (some (.builtin "type.__getattribute__"))) (b2 : PySem.W.typeIn K (.ref B) = some (.type "type")) (b3 : PySem.W.readsIn K B (.type "type") = true) (b4 : PySem.W.findCls K (.ref B) (.type "type") "__init__" = some (.val (.builtin "ValueError.__init__")))
    (a1 : PySem.W.findIn K (.ref C) "__init__" = some (some (.ref fI))) (t1 : PySem.W.typeIn K (.ref fI) = some (.type "function"))
    (l1 : K.lookup fI = some ⟨oc, od, .func (PySem.W.fnOf "__init__" "NoPaper.__init__" (defArgs sNPi) (defBody sNPi) (defScope sNPi) .none kV doc pm an cdv ct), osl⟩) (c1 : PySem.W.codeIn K cdv "NoPaper.__init__" = true) (k1 : PySem.W.keepIn K (.ref fI) = true) : NpTxt K mg C := by
  have F := fun_mk (st := sNPi) l1 c1 k1
  exact ⟨PySem.W.mg_of X G aC, ⟨⟨nm, q, N, bs, _, sn, sub, ab, col, dd, m0, m1, m2, m3, m5, xL, by rfl⟩, sa, eC, tC, kC⟩, nW, nA, exm_own eC iC tC sC,
    ⟨B, fI, _, PySem.W.mg_of X G aB, ⟨b1, b2, b3, b4⟩, a1, t1, F, F.binds fun _ _ _ _ _ _ us hl => match us, hl with | [_, _, _], _ => rfl⟩⟩
theorem nought_mk {aN : Addr} {od : Option Addr} {osl : Array (Option Value)} {t0 t1 : Tok} {n : Nat} (l : K.lookup aN = some ⟨.type "tuple", od, .seq #[.int 0 t0, .int 1 t1] n, osl⟩) : ∀ H, SqT K H aN [.int 0, .int 1] := fun H =>
  .inr ⟨_, _, _, l, rfl, rfl, sz_of (Nat.le_of_ble_eq_true rfl), .cons ⟨_, rfl⟩ (.cons ⟨_, rfl⟩ .nil)⟩
theorem law_mk {P : Program} {w : World} {C aN fa : Addr} (T : Txt K mg C aN) (hfa : mg "law" = some (.ref fa)) :
    ∃ fd : FuncData, (∀ (s : Shared) (v : Value), BindsTo s fd ⟨[v], []⟩ [("_law_script", v)]) ∧ ∀ base : Heap, FnOk P w K mg base CX0 11 fa fd ["_law_script"] (spLaw K) := by
  obtain ⟨f, fd, h1, h2, h3⟩ := T.d_law.h
  rw [hfa] at h1
  cases h1
  obtain ⟨oc, od, kV, doc, pm, an, cdv, ct, osl, rfl, lk, hcd⟩ := h2.ex
  exact ⟨_, fun s v => .of_eq rfl, fun base => okLaw T ⟨⟨oc, od, kV, doc, pm, an, cdv, ct, osl, rfl, lk, hcd⟩, h2.kp⟩⟩
abbrev HasOf (_ : K.In h) (mg : Str → Option Value) (x : Str) (st : Stmt) (ps : List Str) : Prop := Has K mg x st ps
abbrev NpOf (_ : K.In h) (mg : Str → Option Value) (C : Addr) : Prop := NpTxt K mg C
abbrev NtOf (_ : K.In h) (aN : Addr) : Prop := ∀ H, SqT K H aN [.int 0, .int 1]
abbrev TxtOf (_ : K.In h) (mg : Str → Option Value) (C aN : Addr) : Prop := Txt K mg C aN
end
end Lk

open PySem PySem.W PyProof.Rows in
set_option maxRecDepth 100000 in
set_option maxHeartbeats 0 in
theorem PySem.Challenge.cw_ledclocks_k14_whole_relays_and_worlds_holds : PySem.Challenge.rw_ledclocks_k14_whole_relays_and_worlds.Holds := by
  w_on; o_law; k_head; (case hw => w_witness2)
  k_fill
  refine L2.walk_of (l := PySem.Challenge.rw_ledclocks_k14_whole_relays_and_worlds) (n := 63) (k := 11) (x := "_law_script") (CX := fun _ => L2.CX0) (sp := fun w => Lk.spLaw _) rfl (by decide) rfl ⟨rfl, by decide, by decide⟩ (fun w h Y => PySem.W.kIn_of Y) ?F (fun _ _ a ns _ _ hS => ⟨a, ns, rfl, hS, fun _ => rfl⟩) (fun _ _ _ _ _ z => z)
  case F =>
    intro w mg fa h KX G hmg
    have d_is_number : Lk.HasOf KX mg "is_number" Lk.sIsNumber ["thing"] := by
      refine' Lk.has_mk KX G ?a ?l ?c ?k (fun _ _ _ _ _ _ us hl => match us, hl with | [_], _ => rfl)
      (case a => k_is); (case l => k_is); (case c => k_is); (case k => k_is)
    have d_common_divisor : Lk.HasOf KX mg "common_divisor" Lk.sCommonDivisor ["one", "other"] := by
      refine' Lk.has_mk KX G ?a ?l ?c ?k (fun _ _ _ _ _ _ us hl => match us, hl with | [_, _], _ => rfl)
      (case a => k_is); (case l => k_is); (case c => k_is); (case k => k_is)
    have d_ratio : Lk.HasOf KX mg "ratio" Lk.sRatio ["a", "b"] := by
      refine' Lk.has_mk KX G ?a ?l ?c ?k (fun _ _ _ _ _ _ us hl => match us, hl with | [_, _], _ => rfl)
      (case a => k_is); (case l => k_is); (case c => k_is); (case k => k_is)
    have d_added : Lk.HasOf KX mg "added" Lk.sAdded ["one", "other"] := by
      refine' Lk.has_mk KX G ?a ?l ?c ?k (fun _ _ _ _ _ _ us hl => match us, hl with | [_, _], _ => rfl)
      (case a => k_is); (case l => k_is); (case c => k_is); (case k => k_is)
    have d_less : Lk.HasOf KX mg "less" Lk.sLess ["one", "other"] := by
      refine' Lk.has_mk KX G ?a ?l ?c ?k (fun _ _ _ _ _ _ us hl => match us, hl with | [_, _], _ => rfl)
      (case a => k_is); (case l => k_is); (case c => k_is); (case k => k_is)
    have d_parted : Lk.HasOf KX mg "parted" Lk.sParted ["one", "other"] := by
      refine' Lk.has_mk KX G ?a ?l ?c ?k (fun _ _ _ _ _ _ us hl => match us, hl with | [_, _], _ => rfl)
      (case a => k_is); (case l => k_is); (case c => k_is); (case k => k_is)
    have d_is_below : Lk.HasOf KX mg "is_below" Lk.sIsBelow ["one", "other"] := by
      refine' Lk.has_mk KX G ?a ?l ?c ?k (fun _ _ _ _ _ _ us hl => match us, hl with | [_, _], _ => rfl)
      (case a => k_is); (case l => k_is); (case c => k_is); (case k => k_is)
    have d_rates_of : Lk.HasOf KX mg "rates_of" Lk.sRatesOf ["field"] := by
      refine' Lk.has_mk KX G ?a ?l ?c ?k (fun _ _ _ _ _ _ us hl => match us, hl with | [_], _ => rfl)
      (case a => k_is); (case l => k_is); (case c => k_is); (case k => k_is)
    have d_last_ahead : Lk.HasOf KX mg "last_ahead" Lk.sLastAhead ["events", "number"] := by
      refine' Lk.has_mk KX G ?a ?l ?c ?k (fun _ _ _ _ _ _ us hl => match us, hl with | [_, _], _ => rfl)
      (case a => k_is); (case l => k_is); (case c => k_is); (case k => k_is)
    have d_link_heard : Lk.HasOf KX mg "link_heard" Lk.sLinkHeard ["history", "number"] := by
      refine' Lk.has_mk KX G ?a ?l ?c ?k (fun _ _ _ _ _ _ us hl => match us, hl with | [_, _], _ => rfl)
      (case a => k_is); (case l => k_is); (case c => k_is); (case k => k_is)
    have d_while_between : Lk.HasOf KX mg "while_between" Lk.sWhileBetween ["history", "x", "y"] := by
      refine' Lk.has_mk KX G ?a ?l ?c ?k (fun _ _ _ _ _ _ us hl => match us, hl with | [_, _, _], _ => rfl)
      (case a => k_is); (case l => k_is); (case c => k_is); (case k => k_is)
    have d_events_behind : Lk.HasOf KX mg "events_behind" Lk.sEventsBehind ["history", "number"] := by
      refine' Lk.has_mk KX G ?a ?l ?c ?k (fun _ _ _ _ _ _ us hl => match us, hl with | [_, _], _ => rfl)
      (case a => k_is); (case l => k_is); (case c => k_is); (case k => k_is)
    have d_has_heard : Lk.HasOf KX mg "has_heard" Lk.sHasHeard ["history", "number"] := by
      refine' Lk.has_mk KX G ?a ?l ?c ?k (fun _ _ _ _ _ _ us hl => match us, hl with | [_, _], _ => rfl)
      (case a => k_is); (case l => k_is); (case c => k_is); (case k => k_is)
    have d_part_heard : Lk.HasOf KX mg "part_heard" Lk.sPartHeard ["history", "number"] := by
      refine' Lk.has_mk KX G ?a ?l ?c ?k (fun _ _ _ _ _ _ us hl => match us, hl with | [_, _], _ => rfl)
      (case a => k_is); (case l => k_is); (case c => k_is); (case k => k_is)
    have d_does_hear : Lk.HasOf KX mg "does_hear" Lk.sDoesHear ["history", "x", "y"] := by
      refine' Lk.has_mk KX G ?a ?l ?c ?k (fun _ _ _ _ _ _ us hl => match us, hl with | [_, _, _], _ => rfl)
      (case a => k_is); (case l => k_is); (case c => k_is); (case k => k_is)
    have d_does_go : Lk.HasOf KX mg "does_go" Lk.sDoesGo ["history", "x", "y"] := by
      refine' Lk.has_mk KX G ?a ?l ?c ?k (fun _ _ _ _ _ _ us hl => match us, hl with | [_, _, _], _ => rfl)
      (case a => k_is); (case l => k_is); (case c => k_is); (case k => k_is)
    have d_bounds_between : Lk.HasOf KX mg "bounds_between" Lk.sBoundsBetween ["history", "x", "y"] := by
      refine' Lk.has_mk KX G ?a ?l ?c ?k (fun _ _ _ _ _ _ us hl => match us, hl with | [_, _, _], _ => rfl)
      (case a => k_is); (case l => k_is); (case c => k_is); (case k => k_is)
    have d_relay_bounds : Lk.HasOf KX mg "relay_bounds" Lk.sRelayBounds ["history", "relay"] := by
      refine' Lk.has_mk KX G ?a ?l ?c ?k (fun _ _ _ _ _ _ us hl => match us, hl with | [_, _], _ => rfl)
      (case a => k_is); (case l => k_is); (case c => k_is); (case k => k_is)
    have d_relay_from : Lk.HasOf KX mg "relay_from" Lk.sRelayFrom ["history", "x", "y"] := by
      refine' Lk.has_mk KX G ?a ?l ?c ?k (fun _ _ _ _ _ _ us hl => match us, hl with | [_, _, _], _ => rfl)
      (case a => k_is); (case l => k_is); (case c => k_is); (case k => k_is)
    have d_need : Lk.HasOf KX mg "need" Lk.sNeed ["truth", "word", "at"] := by
      refine' Lk.has_mk KX G ?a ?l ?c ?k (fun _ _ _ _ _ _ us hl => match us, hl with | [_, _, _], _ => rfl)
      (case a => k_is); (case l => k_is); (case c => k_is); (case k => k_is)
    have d_lets_relay : Lk.HasOf KX mg "lets_relay" Lk.sLetsRelay ["history", "thing"] := by
      refine' Lk.has_mk KX G ?a ?l ?c ?k (fun _ _ _ _ _ _ us hl => match us, hl with | [_, _], _ => rfl)
      (case a => k_is); (case l => k_is); (case c => k_is); (case k => k_is)
    have d__law_feed : Lk.HasOf KX mg "_law_feed" Lk.sWfeed ["_law_script"] := by
      refine' Lk.has_mk KX G ?a ?l ?c ?k (fun _ _ _ _ _ _ us hl => match us, hl with | [_], _ => rfl)
      (case a => k_is); (case l => k_is); (case c => k_is); (case k => k_is)
    have d__law_draw : Lk.HasOf KX mg "_law_draw" Lk.sWdraw ["_law_feed_here", "_law_many"] := by
      refine' Lk.has_mk KX G ?a ?l ?c ?k (fun _ _ _ _ _ _ us hl => match us, hl with | [_, _], _ => rfl)
      (case a => k_is); (case l => k_is); (case c => k_is); (case k => k_is)
    have d__law_divisor : Lk.HasOf KX mg "_law_divisor" Lk.sWdivisor ["_law_one", "_law_other"] := by
      refine' Lk.has_mk KX G ?a ?l ?c ?k (fun _ _ _ _ _ _ us hl => match us, hl with | [_, _], _ => rfl)
      (case a => k_is); (case l => k_is); (case c => k_is); (case k => k_is)
    have d__law_made : Lk.HasOf KX mg "_law_made" Lk.sWmade ["_law_a", "_law_b"] := by
      refine' Lk.has_mk KX G ?a ?l ?c ?k (fun _ _ _ _ _ _ us hl => match us, hl with | [_, _], _ => rfl)
      (case a => k_is); (case l => k_is); (case c => k_is); (case k => k_is)
    have d__law_sum : Lk.HasOf KX mg "_law_sum" Lk.sWsum ["_law_one", "_law_other", "_law_sign"] := by
      refine' Lk.has_mk KX G ?a ?l ?c ?k (fun _ _ _ _ _ _ us hl => match us, hl with | [_, _, _], _ => rfl)
      (case a => k_is); (case l => k_is); (case c => k_is); (case k => k_is)
    have d__law_field : Lk.HasOf KX mg "_law_field" Lk.sWfield ["_law_feed_here"] := by
      refine' Lk.has_mk KX G ?a ?l ?c ?k (fun _ _ _ _ _ _ us hl => match us, hl with | [_], _ => rfl)
      (case a => k_is); (case l => k_is); (case c => k_is); (case k => k_is)
    have d__law_fits : Lk.HasOf KX mg "_law_fits" Lk.sWfits ["_law_link", "_law_sent", "_law_now"] := by
      refine' Lk.has_mk KX G ?a ?l ?c ?k (fun _ _ _ _ _ _ us hl => match us, hl with | [_, _, _], _ => rfl)
      (case a => k_is); (case l => k_is); (case c => k_is); (case k => k_is)
    have d__law_deeds : Lk.HasOf KX mg "_law_deeds" Lk.sWdeeds ["_law_field_here", "_law_events", "_law_world", "_law_house", "_law_now"] := by
      refine' Lk.has_mk KX G ?a ?l ?c ?k (fun _ _ _ _ _ _ us hl => match us, hl with | [_, _, _, _, _], _ => rfl)
      (case a => k_is); (case l => k_is); (case c => k_is); (case k => k_is)
    have d__law_scene : Lk.HasOf KX mg "_law_scene" Lk.sWscene ["_law_feed_here", "_law_most"] := by
      refine' Lk.has_mk KX G ?a ?l ?c ?k (fun _ _ _ _ _ _ us hl => match us, hl with | [_, _], _ => rfl)
      (case a => k_is); (case l => k_is); (case c => k_is); (case k => k_is)
    have d__law_let : Lk.HasOf KX mg "_law_let" Lk.sWlet ["_law_history", "_law_thing"] := by
      refine' Lk.has_mk KX G ?a ?l ?c ?k (fun _ _ _ _ _ _ us hl => match us, hl with | [_, _], _ => rfl)
      (case a => k_is); (case l => k_is); (case c => k_is); (case k => k_is)
    have d__law_bounds_right : Lk.HasOf KX mg "_law_bounds_right" Lk.sWboundsRight ["_law_history", "_law_world", "_law_relay"] := by
      refine' Lk.has_mk KX G ?a ?l ?c ?k (fun _ _ _ _ _ _ us hl => match us, hl with | [_, _, _], _ => rfl)
      (case a => k_is); (case l => k_is); (case c => k_is); (case k => k_is)
    have d__law_added : Lk.HasOf KX mg "_law_added" Lk.sWadded ["_law_one", "_law_other"] := by
      refine' Lk.has_mk KX G ?a ?l ?c ?k (fun _ _ _ _ _ _ us hl => match us, hl with | [_, _], _ => rfl)
      (case a => k_is); (case l => k_is); (case c => k_is); (case k => k_is)
    have d__law_pair_right : Lk.HasOf KX mg "_law_pair_right" Lk.sWpairRight ["_law_history", "_law_world", "_law_x", "_law_y"] := by
      refine' Lk.has_mk KX G ?a ?l ?c ?k (fun _ _ _ _ _ _ us hl => match us, hl with | [_, _, _, _], _ => rfl)
      (case a => k_is); (case l => k_is); (case c => k_is); (case k => k_is)
    have d_law : Lk.HasOf KX mg "law" Lk.sLaw ["_law_script"] := by
      refine' Lk.has_mk KX G ?a ?l ?c ?k (fun _ _ _ _ _ _ us hl => match us, hl with | [_], _ => rfl)
      (case a => k_is); (case l => k_is); (case c => k_is); (case k => k_is)
    have z_abs : mg "abs" = none := by
      refine' PySem.W.mg_none_of KX G ?a
      (case a => k_is)
    have z_all : mg "all" = none := by
      refine' PySem.W.mg_none_of KX G ?a
      (case a => k_is)
    have z_bool : mg "bool" = none := by
      refine' PySem.W.mg_none_of KX G ?a
      (case a => k_is)
    have z_enumerate : mg "enumerate" = none := by
      refine' PySem.W.mg_none_of KX G ?a
      (case a => k_is)
    have z_int : mg "int" = none := by
      refine' PySem.W.mg_none_of KX G ?a
      (case a => k_is)
    have z_isinstance : mg "isinstance" = none := by
      refine' PySem.W.mg_none_of KX G ?a
      (case a => k_is)
    have z_len : mg "len" = none := by
      refine' PySem.W.mg_none_of KX G ?a
      (case a => k_is)
    have z_max : mg "max" = none := by
      refine' PySem.W.mg_none_of KX G ?a
      (case a => k_is)
    have z_min : mg "min" = none := by
      refine' PySem.W.mg_none_of KX G ?a
      (case a => k_is)
    have z_range : mg "range" = none := by
      refine' PySem.W.mg_none_of KX G ?a
      (case a => k_is)
    have z_sorted : mg "sorted" = none := by
      refine' PySem.W.mg_none_of KX G ?a
      (case a => k_is)
    have z_tuple : mg "tuple" = none := by
      refine' PySem.W.mg_none_of KX G ?a
      (case a => k_is)
    have z_zip : mg "zip" = none := by
      refine' PySem.W.mg_none_of KX G ?a
      (case a => k_is)
    have np : ∃ C, Lk.NpOf KX mg C := by
      refine' ⟨_, Lk.np_mk KX G ?aC ?aB ?xL ?sa ?nW ?nA ?eC ?iC ?tC ?sC ?kC ?b1 ?b2 ?b3 ?b4 ?a1 ?t1 ?l1 ?c1 ?k1⟩
      (case aC => k_is); (case aB => k_is); (case xL => k_is); (case sa => k_is); (case nW => k_is); (case nA => k_is)
      (case eC => k_is); (case iC => k_is); (case tC => k_is); (case sC => first | rfl | k_is); (case kC => k_is)
      (case b1 => k_is); (case b2 => k_is); (case b3 => k_is); (case b4 => k_is)
      (case a1 => k_is); (case t1 => k_is); (case l1 => k_is); (case c1 => k_is); (case k1 => k_is)
    have nt : ∃ aN, mg "NOUGHT" = some (.ref aN) ∧ Lk.NtOf KX aN := by
      refine' ⟨_, PySem.W.mg_of KX G ?a, Lk.nought_mk ?l⟩
      (case a => k_is); (case l => k_is)
    obtain ⟨C, np⟩ := np
    obtain ⟨aN, gN, nN⟩ := nt
    have T : Lk.TxtOf KX mg C aN := ⟨d_is_number, d_common_divisor, d_ratio, d_added, d_less, d_parted, d_is_below, d_rates_of, d_last_ahead, d_link_heard, d_while_between, d_events_behind, d_has_heard, d_part_heard, d_does_hear, d_does_go, d_bounds_between, d_relay_bounds, d_relay_from, d_need, d_lets_relay, d__law_feed, d__law_draw, d__law_divisor, d__law_made, d__law_sum, d__law_field, d__law_fits, d__law_deeds, d__law_scene, d__law_let, d__law_bounds_right, d__law_added, d__law_pair_right, d_law, z_abs, z_all, z_bool, z_enumerate, z_int, z_isinstance, z_len, z_max, z_min, z_range, z_sorted, z_tuple, z_zip, gN, nN, np⟩
    obtain ⟨fd, hb, hF⟩ := Lk.law_mk (w := w) T hmg
    exact ⟨fd, hb, fun base _ _ => hF base⟩
#print axioms PySem.Challenge.cw_ledclocks_k14_whole_relays_and_worlds_holds

