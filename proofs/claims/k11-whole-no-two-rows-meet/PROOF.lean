import PyProof.Rows.All
import Wide.All
import OpenK.AllK
import Wide.FinOn
import HandS.ForMost
import HandS.Deep
import HandS.TupAny
import HandS.TupLe
import HandS.IsInst
import HandS.DictComp
import HandS.SortKw
import HandS.Lambda
import HandS.NestedK
import HandS.EndTab
import HandS.Flow
import HandS.Wide
import HandS.StrMore
import KE.KDictKeyed
import KE.SortKeyHeap
import KE.LtData
import PySem.Challenge.RW_sayfill_k11_whole_no_two_rows_meet
import HandS.Walk
import KE.KDictDisplayH
import KE.KDictCopyH
import HandS.Nested
import KE.KMinKey
import HandS.Keys
import HandS.Style
import HandS.WordsDict
import KE.GoesEnum
set_option Elab.async false
set_option linter.all false
set_option maxRecDepth 100000
set_option maxHeartbeats 4000000
/-! Data that never change, told as trees over the abstract heap. -/
namespace Sf
open PySem L2

abbrev D := PySem.NestedKey

mutual
/-- the value v is the tree d -/
inductive IsD (H : Hp) : V → D → Prop
  | non : IsD H .non .none
  | int (i : Int) : IsD H (.int i) (.num i)
  | str (x : Str) : IsD H (.str x) (.text x)
  | tup {a : Addr} {vs : List V} {ds : List D} : H a = some (.tup vs) → IsDs H vs ds → IsD H (.ref a) (.tup ds)
inductive IsDs (H : Hp) : List V → List D → Prop
  | nil : IsDs H [] []
  | cons {v : V} {vs : List V} {d : D} {ds : List D} : IsD H v d → IsDs H vs ds → IsDs H (v :: vs) (d :: ds)
end

/-- tuples stay -/
def TEx (H H' : Hp) : Prop := ∀ a xs, H a = some (.tup xs) → H' a = some (.tup xs)
theorem TEx.refl (H : Hp) : TEx H H := fun _ _ h => h
theorem TEx.trans {H H1 H2 : Hp} (a : TEx H H1) (b : TEx H1 H2) : TEx H H2 := fun x o h => b x o (a x o h)

mutual
theorem IsD.mono {H H' : Hp} (e : TEx H H') : ∀ {v : V} {d : D}, IsD H v d → IsD H' v d
  | _, _, .non => .non
  | _, _, .int i => .int i
  | _, _, .str x => .str x
  | _, _, .tup h r => .tup (e _ _ h) (IsDs.mono e r)
theorem IsDs.mono {H H' : Hp} (e : TEx H H') : ∀ {vs : List V} {ds : List D}, IsDs H vs ds → IsDs H' vs ds
  | _, _, .nil => .nil
  | _, _, .cons h r => .cons (IsD.mono e h) (IsDs.mono e r)
end

theorem IsDs.length {H : Hp} : ∀ {vs : List V} {ds : List D}, IsDs H vs ds → vs.length = ds.length
  | _, _, .nil => rfl
  | _, _, .cons _ r => congrArg (· + 1) (IsDs.length r)
theorem IsDs.get {H : Hp} : ∀ {vs : List V} {ds : List D}, IsDs H vs ds → ∀ {i : Nat} {d : D}, ds[i]? = some d → ∃ v, vs[i]? = some v ∧ IsD H v d
  | _, _, .nil, i, d, e => by simp at e
  | _, _, .cons h r, 0, d, e => by
    simp at e
    subst e
    exact ⟨_, rfl, h⟩
  | _, _, .cons h r, i + 1, d, e => by
    obtain ⟨v, h1, h2⟩ := IsDs.get r (i := i) (d := d) (by simpa using e)
    exact ⟨v, by simpa using h1, h2⟩
theorem IsDs.getV {H : Hp} : ∀ {vs : List V} {ds : List D}, IsDs H vs ds → ∀ {i : Nat} {v : V}, vs[i]? = some v → ∃ d, ds[i]? = some d ∧ IsD H v d
  | _, _, .nil, i, d, e => by simp at e
  | _, _, .cons h r, 0, d, e => by
    simp at e
    subst e
    exact ⟨_, rfl, h⟩
  | _, _, .cons h r, i + 1, d, e => by
    obtain ⟨v, h1, h2⟩ := IsDs.getV r (i := i) (v := d) (by simpa using e)
    exact ⟨v, by simpa using h1, h2⟩
theorem IsDs.append {H : Hp} : ∀ {vs ws : List V} {ds es : List D}, IsDs H vs ds → IsDs H ws es → IsDs H (vs ++ ws) (ds ++ es)
  | _, _, _, _, .nil, s => s
  | _, _, _, _, .cons h r, s => .cons h (IsDs.append r s)
theorem IsDs.take {H : Hp} : ∀ {vs : List V} {ds : List D} (n : Nat), IsDs H vs ds → IsDs H (vs.take n) (ds.take n)
  | _, _, 0, _ => by simp only [List.take_zero]; exact .nil
  | _, _, _ + 1, .nil => by simp only [List.take_nil]; exact .nil
  | _, _, n + 1, .cons h r => by simp only [List.take_succ_cons]; exact .cons h (IsDs.take n r)
theorem IsDs.drop {H : Hp} : ∀ {vs : List V} {ds : List D} (n : Nat), IsDs H vs ds → IsDs H (vs.drop n) (ds.drop n)
  | _, _, 0, r => r
  | _, _, _ + 1, .nil => by simp only [List.drop_nil]; exact .nil
  | _, _, n + 1, .cons h r => by simp only [List.drop_succ_cons]; exact IsDs.drop n r
theorem IsDs.one {H : Hp} {v : V} {d : D} (h : IsD H v d) : IsDs H [v] [d] := .cons h .nil
theorem IsDs.texts {H : Hp} : ∀ (xs : List Str), IsDs H (xs.map V.str) (xs.map NestedKey.text)
  | [] => .nil
  | x :: xs => .cons (.str x) (IsDs.texts xs)
theorem IsDs.of_texts {H : Hp} : ∀ {xs : List Str} {vs : List V}, IsDs H vs (xs.map NestedKey.text) → vs = xs.map V.str
  | [], _, h => by cases h; rfl
  | x :: xs, _, h => by
    cases h with
    | cons h r =>
      cases h
      rw [IsDs.of_texts r]
      rfl
/-- the values of a tuple -/
theorem IsD.tup_inv {H : Hp} {v : V} {ds : List D} (h : IsD H v (.tup ds)) : ∃ a vs, v = .ref a ∧ H a = some (.tup vs) ∧ IsDs H vs ds := by
  cases h with
  | tup h r => exact ⟨_, _, rfl, h, r⟩
theorem IsD.str_inv {H : Hp} {v : V} {x : Str} (h : IsD H v (.text x)) : v = .str x := by cases h; rfl
theorem IsD.int_inv {H : Hp} {v : V} {i : Int} (h : IsD H v (.num i)) : v = .int i := by cases h; rfl
theorem IsD.non_inv {H : Hp} {v : V} (h : IsD H v .none) : v = .non := by cases h; rfl

mutual
/-- one value is one tree -/
theorem IsD.inj {H : Hp} : ∀ {v : V} {d e : D}, IsD H v d → IsD H v e → d = e
  | _, _, _, .non, .non => rfl
  | _, _, _, .int i, .int _ => rfl
  | _, _, _, .str x, .str _ => rfl
  | _, _, _, .tup h r, .tup h' r' => by
    rw [h] at h'
    cases h'
    rw [IsDs.inj r r']
theorem IsDs.inj {H : Hp} : ∀ {vs : List V} {ds es : List D}, IsDs H vs ds → IsDs H vs es → ds = es
  | _, _, _, .nil, .nil => rfl
  | _, _, _, .cons h r, .cons h' r' => by rw [IsD.inj h h', IsDs.inj r r']
end

section
variable {X : Cx} {pins : List (Addr × Obj)} {σ : L2.St} {H : Hp} {s : Shared}
mutual
/-- .. in the machine's heap -/
theorem IsD.nested (I : Inv X pins σ H s) : ∀ {v : V} {d : D} {u : Value}, IsD H v d → RelV v u → NestedIs s.heap d u
  | _, _, _, .non, r => by cases r; exact .none
  | _, _, _, .int i, r => by obtain ⟨t, rfl⟩ := r; exact .int _ t
  | _, _, _, .str x, r => by obtain ⟨t, rfl⟩ := r; exact .text _ t
  | _, _, _, .tup h hr, r => by
    cases r
    obtain ⟨hz, its, rv, o, ho, hc, n, hd⟩ := I.hok _ _ h
    exact .tup ho hc hd (by simpa using IsDs.nested I hr rv)
theorem IsDs.nested (I : Inv X pins σ H s) : ∀ {vs : List V} {ds : List D} {us : List Value}, IsDs H vs ds → Vals vs us → NestedAll s.heap ds us
  | _, _, _, .nil, r => by cases r; exact .nil
  | _, _, _, .cons h hr, r => by
    cases r with
    | cons r1 r2 => exact .cons (IsD.nested I h r1) (IsDs.nested I hr r2)
end
end

/-- texts, acts: tuples of words -/
abbrev eT (ws : List Str) : D := .tup (ws.map .text)
end Sf

set_option Elab.async false
set_option linter.all false
set_option maxRecDepth 100000
set_option maxHeartbeats 4000000
/-! Rules for values that are trees: ==, in, < . -/
namespace Sf
open PySem L2

mutual
def py : D → PyData
  | .none => .none
  | .num i => .int i
  | .text x => .str x
  | .tup ds => .tuple (pys ds)
def pys : List D → List PyData
  | [] => []
  | d :: ds => py d :: pys ds
end
mutual
theorem py_depth : ∀ d : D, (py d).depth = d.depth
  | .none => rfl
  | .num _ => rfl
  | .text _ => rfl
  | .tup ds => by
    show PyData.depthAll (pys ds) + 1 = NestedKey.depthAll ds + 1
    rw [pys_depth ds]
theorem pys_depth : ∀ ds : List D, PyData.depthAll (pys ds) = NestedKey.depthAll ds
  | [] => rfl
  | d :: ds => by
    show max (py d).depth (PyData.depthAll (pys ds)) = max d.depth (NestedKey.depthAll ds)
    rw [py_depth d, pys_depth ds]
end
section
variable {X : Cx} {pins : List (Addr × Obj)} {σ : L2.St} {H : Hp} {s : Shared}
mutual
theorem IsD.reads (I : Inv X pins σ H s) : ∀ {v : V} {d : D} {u : Value}, IsD H v d → RelV v u → Reads s.heap u (py d) []
  | _, _, _, .non, r => by cases r; exact .none
  | _, _, _, .int i, r => by obtain ⟨t, rfl⟩ := r; exact .int _ t
  | _, _, _, .str x, r => by obtain ⟨t, rfl⟩ := r; exact .str _ t
  | _, _, _, .tup h hr, r => by
    cases r
    obtain ⟨hz, its, rv, o, ho, hc, n, hd⟩ := I.hok _ _ h
    exact .tuple ho hc hd (by simpa using IsDs.reads I hr rv)
theorem IsDs.reads (I : Inv X pins σ H s) : ∀ {vs : List V} {ds : List D} {us : List Value}, IsDs H vs ds → Vals vs us → ReadsAll s.heap us (pys ds) []
  | _, _, _, .nil, r => by cases r; exact .nil
  | _, _, _, .cons h hr, r => by
    cases r with
    | cons r1 r2 => exact .cons (as := []) (bs := []) (IsD.reads I h r1) (IsDs.reads I hr r2)
end
theorem IsD.eqAt {A : Around} (I : Inv X pins σ H s) {v w : V} {d e : D} {u t : Value} (h : IsD H v d) (h' : IsD H w e) (r : RelV v u) (r' : RelV w t) (hu : A.units + d.depth < cLine) : SeqAt.EqAt A s u t (decide (d = e)) := by
  rw [NestedKey.decide_eq]
  exact eqAt_key d e A s u t (h.nested I r) (h'.nested I r') (by omega)
theorem depth_mem : ∀ {ds : List D} {d : D}, d ∈ ds → d.depth ≤ NestedKey.depthAll ds
  | x :: xs, d, h => by
    show d.depth ≤ max x.depth (NestedKey.depthAll xs)
    rcases List.mem_cons.mp h with rfl | h
    · exact Nat.le_max_left _ _
    · exact Nat.le_trans (depth_mem h) (Nat.le_max_right _ _)
end

theorem all_range_eq : ∀ (ds es : List D), ((List.range (min ds.length es.length)).all (fun j => decide (ds.getD j .none = es.getD j .none)) && ds.length == es.length) = decide (ds = es) := by
  intro ds es
  have h := beqAll_eq ds es
  have e : (fun j => decide (ds.getD j .none = es.getD j .none)) = keyEqAt ds es := by
    funext j
    exact NestedKey.decide_eq _ _
  rw [e, h]
  have q := NestedKey.decide_eq (.tup ds) (.tup es)
  have q' : NestedKey.beq (.tup ds) (.tup es) = NestedKey.beqAll ds es := by rw [NestedKey.beq]
  rw [← q', ← q]
  exact decide_eq_decide.mpr ⟨fun z => by injection z, fun z => by rw [z]⟩

section
variable {X : Cx}
/-- two tuples of trees: == -/
def rEqN : R2 := fun x y H Q => ∃ ds es : List D, IsD H x (.tup ds) ∧ IsD H y (.tup es) ∧ NestedKey.depthAll ds ≤ 60 ∧ Q (.bl (decide (ds = es))) H
theorem op_eqN (hu : X.A.units + 64 < cLine) : OpR X (compareOp .Eq) rEqN := by
  intro pins s σ H x y v u Q I rx ry h
  obtain ⟨ds, es, hx, hy, hd, q⟩ := h
  obtain ⟨a, vs, rfl, ha, hvs⟩ := hx.tup_inv
  obtain ⟨b, ws, rfl, hb, hws⟩ := hy.tup_inv
  cases rx
  cases ry
  obtain ⟨hz, its, rv, pa⟩ := I.hok _ _ ha
  obtain ⟨hz', its', rw', pb⟩ := I.hok _ _ hb
  have l1 : its.length = ds.length := rv.length.symm.trans hvs.length
  have l2 : its'.length = es.length := rw'.length.symm.trans hws.length
  refine SeqAt.eq_tupleAt (e := fun j => decide (ds.getD j .none = es.getD j .none)) pa pb (by omega) (fun j h1 h2 => ?_) ?_
  · have h1' : j < its.length := by simpa using h1
    have h2' : j < its'.length := by simpa using h2
    have hdj : ds[j]? = some ds[j] := List.getElem?_eq_getElem (by omega)
    have hej : es[j]? = some es[j] := List.getElem?_eq_getElem (by omega)
    obtain ⟨v1, e1, i1⟩ := hvs.get hdj
    obtain ⟨v2, e2, i2⟩ := hws.get hej
    obtain ⟨u1, f1, r1⟩ := rv.get e1
    obtain ⟨u2, f2, r2⟩ := rw'.get e2
    have g1 : its.toArray[j] = u1 := by
      have := List.getElem?_eq_getElem h1'
      rw [f1] at this
      simpa using (Option.some.inj this).symm
    have g2 : its'.toArray[j] = u2 := by
      have := List.getElem?_eq_getElem h2'
      rw [f2] at this
      simpa using (Option.some.inj this).symm
    rw [g1, g2]
    have hm : ds[j].depth ≤ NestedKey.depthAll ds := depth_mem (List.getElem_mem _)
    have z := i1.eqAt (A := X.A.in1) I i2 r1 r2 (by show X.A.units + 1 + _ < _; omega)
    have k1 : ds.getD j .none = ds[j] := by simp [List.getD, hdj]
    have k2 : es.getD j .none = es[j] := by simp [List.getD, hej]
    rw [k1, k2]
    exact z
  · have z1 : its.toArray.size = ds.length := by simpa using l1
    have z2 : its'.toArray.size = es.length := by simpa using l2
    rw [z1, z2, all_range_eq]
    exact ⟨.bl _, H, I, rfl, q⟩

/-- a tree in a list or a tuple of trees -/
def rInN (K : PySem.W.Frag) (neg : Bool) : R2 := fun x y H Q => ∃ (d : D) (ds : List D) (p : Addr) (vs : List V), IsD H x d ∧ y = .ref p ∧ (SqL K H p vs ∨ SqT K H p vs) ∧ IsDs H vs ds ∧ NestedKey.depthAll ds ≤ 60 ∧
  Q (.bl (if neg then !decide (d ∈ ds) else decide (d ∈ ds))) H
theorem any_is {ds : List D} {its : List Value} {e : Value → Bool} {d : D} (hl : its.length = ds.length) (he : ∀ (j : Nat) (u : Value) (x : D), its[j]? = some u → ds[j]? = some x → e u = decide (x = d)) : its.any e = decide (d ∈ ds) := by
  induction ds generalizing its with
  | nil =>
    cases its with
    | nil => rfl
    | cons _ _ => cases hl
  | cons x xs ih =>
    cases its with
    | nil => cases hl
    | cons u us =>
      have h0 := he 0 u x rfl rfl
      have h1 := ih (its := us) (by simpa using hl) fun j u' x' a b => he (j + 1) u' x' (by simpa using a) (by simpa using b)
      rw [List.any_cons, h0, h1]
      by_cases z : x = d
      · simp [z]
      · have z' : ¬ d = x := fun q => z q.symm
        simp [z, z']
theorem in_core {pins : List (Addr × Obj)} {s : Shared} {σ : L2.St} {H : Hp} {x : V} {v : Value} {d : D} {ds : List D} {vs : List V} {its : List Value} (hu : X.A.units + 64 < cLine) (I : Inv X pins σ H s) (rx : RelV x v) (hx : IsD H x d) (hvs : IsDs H vs ds) (rv : Vals vs its) (hd : NestedKey.depthAll ds ≤ 60) :
    ∃ e : Value → Bool, (∀ y, y ∈ its.toArray → SeqAt.EqAt X.A.in1 s y v (e y)) ∧ its.toArray.any e = decide (d ∈ ds) := by
  have hl : its.length = ds.length := rv.length.symm.trans hvs.length
  have at_ : ∀ (j : Nat) (u : Value), its[j]? = some u → ∃ w dw, ds[j]? = some dw ∧ IsD H w dw ∧ RelV w u := by
    intro j u hj
    have h1 : j < its.length := (List.getElem?_eq_some_iff.mp hj).1
    have hdj : ds[j]? = some ds[j] := List.getElem?_eq_getElem (by omega)
    obtain ⟨w, e1, i1⟩ := hvs.get hdj
    obtain ⟨u', f1, r1⟩ := rv.get e1
    rw [hj] at f1
    cases f1
    exact ⟨w, _, hdj, i1, r1⟩
  refine ⟨fun u => @decide (∃ w, IsD H w d ∧ RelV w u) (Classical.propDecidable _), fun y hy => ?_, ?_⟩
  · have hy' : y ∈ its := by simpa using hy
    obtain ⟨j, hj⟩ := List.getElem?_of_mem hy'
    obtain ⟨w, dw, hdj, i1, r1⟩ := at_ j y hj
    have hm : dw.depth ≤ NestedKey.depthAll ds := depth_mem (List.mem_of_getElem? hdj)
    have z := i1.eqAt (A := X.A.in1) I hx r1 rx (by show X.A.units + 1 + _ < _; omega)
    have : decide (dw = d) = @decide (∃ w, IsD H w d ∧ RelV w y) (Classical.propDecidable _) := by
      by_cases q : dw = d
      · subst q
        rw [decide_eq_true rfl]
        exact (@decide_eq_true _ (Classical.propDecidable _) ⟨w, i1, r1⟩).symm
      · rw [decide_eq_false q]
        refine (@decide_eq_false _ (Classical.propDecidable _) ?_).symm
        rintro ⟨w', i2, r2⟩
        have n1 := i1.nested I r1
        have n2 := i2.nested I r2
        exact q (NestedIs.inj _ _ _ n1 n2)
    rw [this] at z
    exact z
  · rw [List.any_toArray]
    refine any_is hl fun j u x hj hx' => ?_
    obtain ⟨w, dw, hdj, i1, r1⟩ := at_ j u hj
    rw [hx'] at hdj
    cases hdj
    by_cases q : x = d
    · subst q
      rw [decide_eq_true (p := x = x) rfl]
      exact @decide_eq_true _ (Classical.propDecidable _) ⟨w, i1, r1⟩
    · rw [decide_eq_false q]
      refine @decide_eq_false _ (Classical.propDecidable _) ?_
      rintro ⟨w', i2, r2⟩
      exact q (NestedIs.inj _ _ _ (i1.nested I r1) (i2.nested I r2))
theorem op_inN (hu : X.A.units + 64 < cLine) : OpR X (compareOp .In) (rInN X.K false) := by
  intro pins s σ H x y v u Q I rx ry h
  obtain ⟨d, ds, p, vs, hx, rfl, hq, hvs, hd, q⟩ := h
  cases ry
  rcases hq with hq | hq
  · obtain ⟨its, rv, pl, hz⟩ := I.list hq
    obtain ⟨e, he, ha⟩ := in_core hu I rx hx hvs rv hd
    exact SeqAt.in_listAt e pl.isList he ⟨.bl _, H, I, by rw [ha]; rfl, q⟩
  · obtain ⟨its, rv, pl, hz⟩ := I.tuple hq
    obtain ⟨e, he, ha⟩ := in_core hu I rx hx hvs rv hd
    exact SeqAt.in_tupleAt e pl he ⟨.bl _, H, I, by rw [ha]; rfl, q⟩
theorem op_notInN (hu : X.A.units + 64 < cLine) : OpR X (compareOp .NotIn) (rInN X.K true) := by
  intro pins s σ H x y v u Q I rx ry h
  obtain ⟨d, ds, p, vs, hx, rfl, hq, hvs, hd, q⟩ := h
  cases ry
  rcases hq with hq | hq
  · obtain ⟨its, rv, pl, hz⟩ := I.list hq
    obtain ⟨e, he, ha⟩ := in_core hu I rx hx hvs rv hd
    exact SeqAt.notIn_listAt e pl.isList he ⟨.bl _, H, I, by rw [ha]; rfl, q⟩
  · obtain ⟨its, rv, pl, hz⟩ := I.tuple hq
    obtain ⟨e, he, ha⟩ := in_core hu I rx hx hvs rv hd
    exact SeqAt.notIn_tupleAt e pl he ⟨.bl _, H, I, by rw [ha]; rfl, q⟩
end

/-! ### the order of words and of rows of words -/
def slt (x y : Str) : Bool := decide (x.cps.toList < y.cps.toList)
/-- rows of words, word by word; a beginning is less -/
def wlt : List Str → List Str → Bool
  | [], [] => false
  | [], _ :: _ => true
  | _ :: _, [] => false
  | x :: xs, y :: ys => if x = y then wlt xs ys else slt x y
theorem pys_texts (ws : List Str) : pys (ws.map .text) = ws.map PyData.str := by
  induction ws with
  | nil => rfl
  | cons w ws ih =>
    show py (.text w) :: pys (ws.map .text) = _
    rw [ih]
    rfl
theorem alike_texts : ∀ ws us : List Str, W.alikeAll (ws.map PyData.str) (us.map PyData.str) = true
  | [], _ => by simp [W.alikeAll]
  | _ :: _, [] => by simp [W.alikeAll]
  | w :: ws, u :: us => by
    show W.alikeAll (PyData.str w :: ws.map PyData.str) (PyData.str u :: us.map PyData.str) = true
    rw [W.alikeAll, alike_texts ws us]
    rw [W.alike]
    rfl
theorem str_beq (x y : Str) : (x == y) = decide (x = y) := by
  by_cases e : x = y
  · subst e; simp
  · rw [decide_eq_false e]
    exact beq_eq_false_iff_ne.mpr e
theorem eqv_str (x y : Str) : PyData.eqv (.str x) (.str y) = decide (x = y) := by
  rw [PyData.eqv]
  exact str_beq x y
theorem lexLt_texts : ∀ ws us : List Str, PyProof.Rows.lexLt PyProof.Rows.itemOrd (W.keyToksAll (ws.map PyData.str)) (W.keyToksAll (us.map PyData.str)) = wlt ws us
  | [], [] => by decide +kernel
  | [], u :: us => by
    show PyProof.Rows.lexLt PyProof.Rows.itemOrd (W.keyToksAll []) (W.keyToksAll (.str u :: us.map PyData.str)) = true
    rw [W.toks_all_cons, W.keyToksAll, W.lex_atom (by decide), W.lex_one]
    decide +kernel
  | w :: ws, [] => by
    show PyProof.Rows.lexLt PyProof.Rows.itemOrd (W.keyToksAll (.str w :: ws.map PyData.str)) (W.keyToksAll []) = false
    rw [W.toks_all_cons, W.keyToksAll, W.lex_atom (by decide), W.lex_one]
    decide +kernel
  | w :: ws, u :: us => by
    show PyProof.Rows.lexLt PyProof.Rows.itemOrd (W.keyToksAll (.str w :: ws.map PyData.str)) (W.keyToksAll (.str u :: us.map PyData.str)) = if w = u then wlt ws us else slt w u
    by_cases e : w = u
    · rw [if_pos e, W.dataLt_all_yes (by rw [W.alike]) (by rw [eqv_str]; exact decide_eq_true e), lexLt_texts ws us]
    · rw [if_neg e, W.dataLt_all_no (by rw [W.alike]) (by rw [eqv_str]; exact decide_eq_false e), W.dataLt_str]
      rfl
/-- the least: fewest words, then the first ones -/
def klt (a b : List Str) : Bool := decide (a.length < b.length) || (decide (a.length = b.length) && wlt a b)
end Sf

set_option Elab.async false
set_option linter.all false
set_option maxRecDepth 100000
set_option maxHeartbeats 4000000
/-! What stays (Ext), and what a reading evaluates to. -/
namespace Sf
open PySem L2 LamX

section
variable {X : Cx}
theorem dataLt_key (i j : Int) (ws us : List Str) (xs ys : List PyData) (hxy : W.alikeAll xs ys = true) :
    PyProof.Rows.lexLt PyProof.Rows.itemOrd (W.keyToksAll (.int i :: .tuple (ws.map PyData.str) :: xs)) (W.keyToksAll (.int j :: .tuple (us.map PyData.str) :: ys)) =
      if i = j then (if ws = us then PyProof.Rows.lexLt PyProof.Rows.itemOrd (W.keyToksAll xs) (W.keyToksAll ys) else wlt ws us) else decide (i < j) := by
  by_cases e : i = j
  · rw [if_pos e, W.dataLt_all_yes (by rw [W.alike]) (by rw [PyData.eqv]; simp [e])]
    have hal : W.alike (.tuple (ws.map PyData.str)) (.tuple (us.map PyData.str)) = true := by rw [W.alike]; exact alike_texts ws us
    have hev : ∀ ws us : List Str, PyData.eqvAll (ws.map PyData.str) (us.map PyData.str) = decide (ws = us) := by
      intro ws
      induction ws with
      | nil => intro us; cases us <;> simp [PyData.eqvAll]
      | cons w ws ih =>
        intro us
        cases us with
        | nil => simp [PyData.eqvAll]
        | cons u us =>
          show PyData.eqvAll (PyData.str w :: ws.map PyData.str) (PyData.str u :: us.map PyData.str) = _
          rw [PyData.eqvAll, eqv_str, ih us]
          by_cases h1 : w = u <;> by_cases h2 : ws = us <;> simp [h1, h2]
    by_cases h : ws = us
    · rw [if_pos h, W.dataLt_all_yes hal (by rw [PyData.eqv, hev]; exact decide_eq_true h)]
    · rw [if_neg h, W.dataLt_all_no hal (by rw [PyData.eqv, hev]; exact decide_eq_false h), W.dataLt_tuple, lexLt_texts]
  · rw [if_neg e, W.dataLt_all_no (by rw [W.alike]) (by rw [PyData.eqv]; simp [e]), W.dataLt_int]
theorem wlt_irrefl : ∀ ws : List Str, wlt ws ws = false
  | [] => rfl
  | w :: ws => by
    show (if w = w then wlt ws ws else slt w w) = false
    rw [if_pos rfl]
    exact wlt_irrefl ws
/-- (number, words) < (number, words) -/
def rLtK : R2 := fun x y H Q => ∃ (i j : Int) (ws us : List Str), IsD H x (.tup [.num i, eT ws]) ∧ IsD H y (.tup [.num j, eT us]) ∧ Q (.bl (if i = j then wlt ws us else decide (i < j))) H
theorem op_ltK (hu : X.A.units + 64 < cLine) : OpR X (compareOp .Lt) rLtK := by
  intro pins s σ H x y v u Q I rx ry h
  obtain ⟨i, j, ws, us, hx, hy, q⟩ := h
  have r1 := hx.reads I rx
  have r2 := hy.reads I ry
  have p1 : py (.tup [.num i, eT ws]) = .tuple [.int i, .tuple (ws.map PyData.str)] := by
    show PyData.tuple [PyData.int i, PyData.tuple (pys (ws.map .text))] = _
    rw [pys_texts]
  have p2 : py (.tup [.num j, eT us]) = .tuple [.int j, .tuple (us.map PyData.str)] := by
    show PyData.tuple [PyData.int j, PyData.tuple (pys (us.map .text))] = _
    rw [pys_texts]
  rw [p1] at r1
  rw [p2] at r2
  have hal : W.alike (.tuple [.int i, .tuple (ws.map PyData.str)]) (.tuple [.int j, .tuple (us.map PyData.str)]) = true := by
    rw [W.alike, W.alikeAll, W.alike, W.alikeAll, W.alike, alike_texts, W.alikeAll]
    rfl
  have dep : ∀ ws : List Str, PyData.depthAll (ws.map PyData.str) = 0 := by
    intro ws
    induction ws with
    | nil => rfl
    | cons w ws ih =>
      show max 0 (PyData.depthAll (ws.map PyData.str)) = 0
      rw [ih]
      rfl
  have hd : (PyData.tuple [.int i, .tuple (ws.map PyData.str)]).depth = 2 := by
    show max 0 (max (PyData.depthAll (ws.map PyData.str) + 1) 0) + 1 = 2
    rw [dep]
    rfl
  refine W.rcLt_alike _ _ X.A s v u [] [] r1 r2 hal (fun z => nomatch z) (by rw [hd]; omega) X.prog X.w _ _ ⟨.bl _, H, I, ?_, q⟩
  rw [W.dataLt_tuple, dataLt_key i j ws us [] [] (by rw [W.alikeAll])]
  show Value.bool _ = Value.bool _
  by_cases e : i = j
  · rw [if_pos e, if_pos e]
    by_cases h : ws = us
    · subst h
      rw [if_pos rfl, wlt_irrefl]
      rfl
    · rw [if_neg h]
  · rw [if_neg e, if_neg e]
end

/-! ### what stays -/
abbrev Tab := Addr × Str
/-- all but what stands at ex stays; tuples stay, no object goes, the tables of code objects stay tables -/
structure Ext (T : List Tab) (ex : List Addr) (H H' : Hp) : Prop where
  tup : TEx H H'
  keep : ∀ b o, b ∉ ex → H b = some o → (∀ ps, o ≠ .tbl ps) → H' b = some o
  free : ∀ b, H' b = none → H b = none
  tabs : Tabs T H → Tabs T H'
section
variable {T : List Tab} {ex : List Addr} {H H1 H2 : Hp} {p : Addr} {o : HO}
theorem Ext.refl (H : Hp) : Ext T ex H H := ⟨TEx.refl H, fun _ _ _ h _ => h, fun _ h => h, fun h => h⟩
theorem Ext.trans (a : Ext T ex H H1) (b : Ext T ex H1 H2) : Ext T ex H H2 :=
  ⟨a.tup.trans b.tup, fun c o hc h n => b.keep c o hc (a.keep c o hc h n) n, fun c h => a.free c (b.free c h), fun h => b.tabs (a.tabs h)⟩
theorem Ext.new (h : H p = none) : Ext T ex H (upd H p o) where
  tup := fun a xs e => by rw [upd_ne (ne_of_none e h)]; exact e
  keep := fun a u _ e _ => by rw [upd_ne (ne_of_none e h)]; exact e
  free := fun a e => by
    by_cases z : a = p
    · rw [z]; exact h
    · rw [upd_ne z] at e; exact e
  tabs := fun t => t.ext fun b u e => by rw [upd_ne (ne_of_none e h)]; exact e
theorem Ext.of_all (k : ∀ b u, H b = some u → H1 b = some u) : Ext T ex H H1 where
  tup := fun a xs e => k _ _ e
  keep := fun a u _ e _ => k _ _ e
  free := fun a e => by
    cases q : H a with
    | none => rfl
    | some u => rw [k _ _ q] at e; cases e
  tabs := fun t => t.ext k
theorem Ext.wide (a : Ext T [] H H1) : Ext T ex H H1 := ⟨a.tup, fun c o _ h n => a.keep c o (by simp) h n, a.free, a.tabs⟩
/-- no table, no code object -/
def NoTab (o : HO) : Prop := (∀ ps, o ≠ .tbl ps) ∧ (∀ xs, o ≠ .tup xs) ∧ ∀ c q, o ≠ CodeO c q
theorem noTab_lst (xs : List V) : NoTab (.lst xs) := ⟨fun _ z => (nomatch z), fun _ z => (nomatch z), fun c q z => (nomatch (show _ = HO.ext _ from z))⟩
theorem noTab_dK (kvs : List (Key × V)) : NoTab (.dK kvs) := ⟨fun _ z => (nomatch z), fun _ z => (nomatch z), fun c q z => (nomatch (show _ = HO.ext _ from z))⟩
theorem noTab_dT (kvs : List (List Key × V)) : NoTab (.dT kvs) := ⟨fun _ z => (nomatch z), fun _ z => (nomatch z), fun c q z => (nomatch (show _ = HO.ext _ from z))⟩
theorem noTab_ins (C dx : Addr) (fs : List (Str × V)) : NoTab (.ins C dx fs) := ⟨fun _ z => (nomatch z), fun _ z => (nomatch z), fun c q z => (nomatch (show _ = HO.ext _ from z))⟩
theorem tabs_upd {u : HO} (t : Tabs T H) (hp : H p = some o) (n : NoTab o) : Tabs T (upd H p u) := fun x hx => by
  obtain ⟨ps, h1, h2, h3⟩ := t x hx
  refine ⟨ps, ?_, h2, fun pos cv hc => ?_⟩
  · rw [upd_ne]
    · exact h1
    · rintro z
      rw [z, hp] at h1
      exact n.1 _ (Option.some.inj h1)
  · obtain ⟨c, e1, e2⟩ := h3 pos cv hc
    refine ⟨c, e1, ?_⟩
    rw [upd_ne]
    · exact e2
    · rintro z
      rw [z, hp] at e2
      exact n.2.2 _ _ (Option.some.inj (z ▸ e2))
/-- an object that H does not know, or one that may change, is written -/
theorem Ext.put {u : HO} (a : Ext T ex H H1) (h : H p = none ∨ p ∈ ex) (hp : H1 p = some o) (n : NoTab o) : Ext T ex H (upd H1 p u) where
  tup := fun b xs e => by
    have e1 := a.tup b xs e
    rw [upd_ne]
    · exact e1
    · rintro z
      rw [z, hp] at e1
      exact n.2.1 _ (Option.some.inj e1)
  keep := fun b v hb e nt => by
    have e1 := a.keep b v hb e nt
    rw [upd_ne]
    · exact e1
    · rintro z
      rcases h with h | h
      · rw [z, h] at e; cases e
      · exact hb (z ▸ h)
  free := fun b e => by
    by_cases z : b = p
    · rw [z, upd_same] at e; cases e
    · rw [upd_ne z] at e; exact a.free b e
  tabs := fun t => tabs_upd (a.tabs t) hp n
theorem Ext.lst (a : Ext T ex H H1) {xs : List V} (h : H p = some (.lst xs)) (hx : p ∉ ex) : H1 p = some (.lst xs) := a.keep p _ hx h fun _ z => nomatch z
/-- what is changed at p, that H does not know -/
theorem Ext.loc (a : Ext T ex H H1) (b : Ext T (p :: ex) H1 H2) (hp : H p = none) : Ext T ex H H2 where
  tup := a.tup.trans b.tup
  keep := fun c o hc h n => b.keep c o (fun z => by
    rcases List.mem_cons.mp z with z | z
    · rw [z, hp] at h; cases h
    · exact hc z) (a.keep c o hc h n) n
  free := fun c h => a.free c (b.free c h)
  tabs := fun t => b.tabs (a.tabs t)
theorem Ext.put_self {u : HO} (hp : H p = some o) (n : NoTab o) : Ext T [p] H (upd H p u) := (Ext.refl H).put (.inr (by simp)) hp n
end
end Sf

set_option Elab.async false
set_option linter.all false
set_option maxRecDepth 100000
set_option maxHeartbeats 4000000
/-! What a reading comes to. -/
namespace Sf
open PySem L2 LamX

abbrev RP := V → Hp → Prop
section
variable (T : List Tab)
/-- wherever what H knows stands, te gives a v of which R holds, and changes nothing that stood -/
def EvR (te : TE) (σ : L2.St) (H : Hp) (R : RP) : Prop := ∀ H1, Ext T [] H H1 → ∀ Q : VK, (∀ v H2, Ext T [] H1 H2 → R v H2 → Q v H2) → te σ H1 Q
def EvT (tt : TT) (σ : L2.St) (H : Hp) (b : Bool) : Prop := ∀ H1, Ext T [] H H1 → ∀ Q : Bool → Hp → Prop, (∀ H2, Ext T [] H1 H2 → Q b H2) → tt σ H1 Q
def EvAs (ta : TA) (σ : L2.St) (H : Hp) (R : List V → Hp → Prop) : Prop := ∀ H1, Ext T [] H H1 → ∀ Q : List V → Hp → Prop, (∀ vs H2, Ext T [] H1 H2 → R vs H2 → Q vs H2) → ta σ H1 Q
def EvO (to : TO) (σ : L2.St) (H : Hp) (o : Option Int) : Prop := ∀ H1, Ext T [] H H1 → ∀ Q : Option Int → Hp → Prop, (∀ H2, Ext T [] H1 H2 → Q o H2) → to σ H1 Q
end
/-- a tree; a truth value; a list of trees -/
def isT (d : D) : RP := fun v H => IsD H v d
def isB (b : Bool) : RP := fun v _ => v = .bl b
def isL (ds : List D) : RP := fun v H => ∃ a vs, v = .ref a ∧ H a = some (.lst vs) ∧ IsDs H vs ds
/-- .. new since H0 -/
def isLN (H0 : Hp) (ds : List D) : RP := fun v H => ∃ a vs, v = .ref a ∧ H0 a = none ∧ H a = some (.lst vs) ∧ IsDs H vs ds
def isV (x : V) : RP := fun v _ => v = x
theorem sz {n : Nat} (h : n ≤ 100000) : n ≤ sizeLine := Nat.le_trans h (by decide)
theorem sz' {n : Nat} (h : n < 100000) : n < sizeLine := Nat.lt_of_lt_of_le h (by decide)

section
variable {T : List Tab} {K : PySem.W.Frag} {σ : L2.St} {H H' : Hp} {te ta tb tc : TE} {tt tu : TT} {R R' : RP} {d e : D} {ds es : List D} {v : V} {b c : Bool}
theorem Ext.isL (x : Ext T [] H H') (h : isL ds v H) : isL ds v H' := by
  obtain ⟨a, vs, e, h1, h2⟩ := h
  exact ⟨a, vs, e, x.lst h1 (by simp), h2.mono x.tup⟩
theorem Ext.isT {ex : List Addr} (x : Ext T ex H H') (h : isT d v H) : isT d v H' := IsD.mono x.tup h
theorem Ext.isLN {H0 : Hp} (x : Ext T [] H H') (h : isLN H0 ds v H) : isLN H0 ds v H' := by
  obtain ⟨a, vs, e, h0, h1, h2⟩ := h
  exact ⟨a, vs, e, h0, x.lst h1 (by simp), h2.mono x.tup⟩
theorem isLN.l {H0 : Hp} (h : isLN H0 ds v H) : isL ds v H := by
  obtain ⟨a, vs, e, h0, h1, h2⟩ := h
  exact ⟨a, vs, e, h1, h2⟩

theorem EvR.mono (h : EvR T te σ H R) (x : Ext T [] H H') : EvR T te σ H' R := fun H1 a Q q => h H1 (x.trans a) Q q
theorem EvT.mono (h : EvT T tt σ H b) (x : Ext T [] H H') : EvT T tt σ H' b := fun H1 a Q q => h H1 (x.trans a) Q q
theorem EvR.run (h : EvR T te σ H R) {Q : VK} (q : ∀ v H2, Ext T [] H H2 → R v H2 → Q v H2) : te σ H Q := h H (Ext.refl H) Q q
theorem EvT.run (h : EvT T tt σ H b) {Q : Bool → Hp → Prop} (q : ∀ H2, Ext T [] H H2 → Q b H2) : tt σ H Q := h H (Ext.refl H) Q q
theorem EvR.imp (h : EvR T te σ H R) (i : ∀ v H2, Ext T [] H H2 → R v H2 → R' v H2) : EvR T te σ H R' := fun H1 a Q q => h H1 a Q fun v H2 x r => q v H2 x (i v H2 (a.trans x) r)
theorem EvR.eqT (h : EvR T te σ H (isT d)) (z : d = e) : EvR T te σ H (isT e) := z ▸ h
theorem EvR.eqB (h : EvR T te σ H (isB b)) (z : b = c) : EvR T te σ H (isB c) := z ▸ h
theorem EvR.eqL (h : EvR T te σ H (isL ds)) (z : ds = es) : EvR T te σ H (isL es) := z ▸ h
theorem EvR.eqLN {H0 : Hp} (h : EvR T te σ H (isLN H0 ds)) (z : ds = es) : EvR T te σ H (isLN H0 es) := z ▸ h
theorem EvT.eq (h : EvT T tt σ H b) (z : b = c) : EvT T tt σ H c := z ▸ h

/-! ### names, constants -/
theorem e_var {i : Nat} (h : σ[i]? = some (some v)) (r : R v H) (m : ∀ H', Ext T [] H H' → R v H → R v H') : EvR T (tVar i) σ H R := fun H1 x Q q => ⟨v, h, q v H1 (Ext.refl H1) (m H1 x r)⟩
theorem e_t {i : Nat} (h : σ[i]? = some (some v)) (r : IsD H v d) : EvR T (tVar i) σ H (isT d) := e_var h r fun _ x r => x.isT r
theorem e_l {i : Nat} (h : σ[i]? = some (some v)) (r : isL ds v H) : EvR T (tVar i) σ H (isL ds) := e_var h r fun _ x r => x.isL r
theorem e_b {i : Nat} (h : σ[i]? = some (some (.bl b))) : EvR T (tVar i) σ H (isB b) := e_var h rfl fun _ _ r => r
theorem e_v {i : Nat} (h : σ[i]? = some (some v)) : EvR T (tVar i) σ H (isV v) := e_var h rfl fun _ _ r => r
theorem e_int {i : Int} : EvR T (tC (.int i)) σ H (isT (.num i)) := fun H1 _ Q q => q _ H1 (Ext.refl H1) (.int i)
theorem e_str {x : Str} : EvR T (tC (.str x)) σ H (isT (.text x)) := fun H1 _ Q q => q _ H1 (Ext.refl H1) (.str x)
theorem e_non : EvR T (tC .non) σ H (isT .none) := fun H1 _ Q q => q _ H1 (Ext.refl H1) .non
theorem e_bl : EvR T (tC (.bl b)) σ H (isB b) := fun H1 _ Q q => q _ H1 (Ext.refl H1) rfl
theorem e_c : EvR T (tC v) σ H (isV v) := fun H1 _ Q q => q _ H1 (Ext.refl H1) rfl

/-! ### argument lists, displays -/
def areT (ds : List D) : List V → Hp → Prop := fun vs H => IsDs H vs ds
theorem a_nil : EvAs T tNil σ H (areT []) := fun H1 _ Q q => q [] H1 (Ext.refl H1) .nil
theorem a_cons {tr : TA} (h : EvR T ta σ H (isT d)) (hr : EvAs T tr σ H (areT ds)) : EvAs T (tCons ta tr) σ H (areT (d :: ds)) := fun H1 x Q q =>
  h H1 x _ fun v H2 x2 r => hr H2 (x.trans x2) _ fun vs H3 x3 rs => q _ H3 (x2.trans x3) (.cons (IsD.mono x3.tup r) rs)
theorem a_one (h : EvR T ta σ H (isT d)) : EvAs T (tCons ta tNil) σ H (areT [d]) := a_cons h a_nil
theorem e_tup {t : TA} (h : EvAs T t σ H (areT ds)) (hl : ds.length ≤ 100000) : EvR T (tTup t) σ H (isT (.tup ds)) := fun H1 x Q q =>
  h H1 x _ fun vs H2 x2 r => ⟨sz (by rw [r.length]; exact hl), fun p hp => q _ _ (x2.trans (Ext.new hp)) (.tup upd_same (IsDs.mono (Ext.new (T := T) (ex := []) hp).tup r))⟩
theorem e_lst {t : TA} (h : EvAs T t σ H (areT ds)) (hl : ds.length ≤ 100000) : EvR T (tLst t) σ H (isLN H ds) := fun H1 x Q q =>
  h H1 x _ fun vs H2 x2 r => ⟨sz (by rw [r.length]; exact hl), fun p hp => q _ _ (x2.trans (Ext.new hp)) ⟨p, vs, rfl, x.free _ (x2.free _ hp), upd_same, IsDs.mono (Ext.new (T := T) (ex := []) hp).tup r⟩⟩

/-! ### operations on two values -/
theorem e_op {r : R2} {R1 R2' : RP} (ha : EvR T ta σ H R1) (hb : EvR T tb σ H R2') (m : ∀ v H1 H2, Ext T [] H1 H2 → R1 v H1 → R1 v H2)
    (hr : ∀ x y H1, Ext T [] H H1 → R1 x H1 → R2' y H1 → ∀ Q : VK, (∀ v H2, Ext T [] H1 H2 → R v H2 → Q v H2) → r x y H1 Q) : EvR T (tOp r ta tb) σ H R := fun H1 x Q q =>
  ha H1 x _ fun u H2 x2 r1 => hb H2 (x.trans x2) _ fun w H3 x3 r2 => hr u w H3 ((x.trans x2).trans x3) (m _ _ _ x3 r1) r2 Q fun v H4 x4 r => q v H4 ((x2.trans x3).trans x4) r
theorem e_opT {r : R2} (ha : EvR T ta σ H (isT d)) (hb : EvR T tb σ H (isT e))
    (hr : ∀ x y H1, Ext T [] H H1 → IsD H1 x d → IsD H1 y e → ∀ Q : VK, (∀ v H2, Ext T [] H1 H2 → R v H2 → Q v H2) → r x y H1 Q) : EvR T (tOp r ta tb) σ H R :=
  e_op ha hb (fun _ _ _ x r => x.isT r) hr
/-- two numbers -/
theorem e_I0 {g : Int → Int → V} {i j : Int} (ha : EvR T ta σ H (isT (.num i))) (hb : EvR T tb σ H (isT (.num j))) : EvR T (tOp (rI0 g) ta tb) σ H (isV (g i j)) :=
  e_opT ha hb fun x y H1 _ h1 h2 Q q => by
    cases h1; cases h2
    exact ⟨i, j, rfl, rfl, q _ H1 (Ext.refl H1) rfl⟩
theorem e_I {C : Int → Int → Prop} {g : Int → Int → V} {i j : Int} (ha : EvR T ta σ H (isT (.num i))) (hb : EvR T tb σ H (isT (.num j))) (hc : C i j) : EvR T (tOp (rI C g) ta tb) σ H (isV (g i j)) :=
  e_opT ha hb fun x y H1 _ h1 h2 Q q => by
    cases h1; cases h2
    exact ⟨i, j, rfl, rfl, hc, q _ H1 (Ext.refl H1) rfl⟩
theorem EvR.num {i : Int} (h : EvR T te σ H (isV (.int i))) : EvR T te σ H (isT (.num i)) := h.imp fun v _ _ e => by
  obtain rfl : v = _ := e
  exact .int i
theorem EvR.bool (h : EvR T te σ H (isV (.bl b))) : EvR T te σ H (isB b) := h
theorem e_eqN (ha : EvR T ta σ H (isT (.tup ds))) (hb : EvR T tb σ H (isT (.tup es))) (hd : NestedKey.depthAll ds ≤ 60) : EvR T (tOp rEqN ta tb) σ H (isB (decide (ds = es))) :=
  e_opT ha hb fun x y H1 _ h1 h2 Q q => ⟨ds, es, h1, h2, hd, q _ H1 (Ext.refl H1) rfl⟩
theorem e_eqS {x y : Str} (ha : EvR T ta σ H (isT (.text x))) (hb : EvR T tb σ H (isT (.text y))) : EvR T (tOp rEq ta tb) σ H (isB (decide (x = y))) :=
  e_opT ha hb fun u w H1 _ h1 h2 Q q => by
    cases h1; cases h2
    refine ⟨rfl, ?_⟩
    have : decide (V.str x = V.str y) = decide (x = y) := decide_eq_decide.mpr ⟨fun z => by injection z, fun z => by rw [z]⟩
    rw [this]
    exact q _ H1 (Ext.refl H1) rfl
theorem e_neS {x y : Str} (ha : EvR T ta σ H (isT (.text x))) (hb : EvR T tb σ H (isT (.text y))) : EvR T (tOp rNe ta tb) σ H (isB (!decide (x = y))) :=
  e_opT ha hb fun u w H1 _ h1 h2 Q q => by
    cases h1; cases h2
    refine ⟨rfl, ?_⟩
    have : decide (V.str x = V.str y) = decide (x = y) := decide_eq_decide.mpr ⟨fun z => by injection z, fun z => by rw [z]⟩
    rw [this]
    exact q _ H1 (Ext.refl H1) rfl
theorem e_ltK {i j : Int} {ws us : List Str} (ha : EvR T ta σ H (isT (.tup [.num i, eT ws]))) (hb : EvR T tb σ H (isT (.tup [.num j, eT us]))) : EvR T (tOp rLtK ta tb) σ H (isB (if i = j then wlt ws us else decide (i < j))) :=
  e_opT ha hb fun x y H1 _ h1 h2 Q q => ⟨i, j, ws, us, h1, h2, q _ H1 (Ext.refl H1) rfl⟩
/-- t + u -/
theorem e_cat (ha : EvR T ta σ H (isT (.tup ds))) (hb : EvR T tb σ H (isT (.tup es))) (hz : ds.length + es.length ≤ 100000) : EvR T (tOp (rCatA K) ta tb) σ H (isT (.tup (ds ++ es))) :=
  e_opT ha hb fun x y H1 _ h1 h2 Q q => by
    obtain ⟨a, vs, rfl, ha, hvs⟩ := h1.tup_inv
    obtain ⟨b, ws, rfl, hb, hws⟩ := h2.tup_inv
    have l1 := hvs.length
    have l2 := hws.length
    refine ⟨a, b, vs, ws, rfl, rfl, SqT.of ha, SqT.of hb, sz (by omega), fun e => ?_, fun _ e => ?_, fun _ _ p hp => ?_⟩
    · subst e
      cases hvs
      exact q _ H1 (Ext.refl H1) h2
    · subst e
      cases hws
      rw [List.append_nil] at q
      exact q _ H1 (Ext.refl H1) h1
    · exact q _ _ (Ext.new hp) (.tup upd_same (IsDs.mono (Ext.new (T := T) (ex := []) hp).tup (hvs.append hws)))
/-- t[i] -/
theorem e_ix {i : Nat} {x : D} (ha : EvR T ta σ H (isT (.tup ds))) (hb : EvR T tb σ H (isT (.num (i : Int)))) (hi : ds[i]? = some x) : EvR T (tOp (rIxT K) ta tb) σ H (isT x) :=
  e_opT ha hb fun u y H1 _ h1 h2 Q q => by
    obtain ⟨a, vs, rfl, ha, hvs⟩ := h1.tup_inv
    cases h2
    obtain ⟨v, hv, r⟩ := hvs.get hi
    exact ⟨a, vs, (i : Int), v, rfl, rfl, SqT.of ha, atI_nat hv, q v H1 (Ext.refl H1) r⟩
theorem e_ixL {i : Nat} {x : D} (ha : EvR T ta σ H (isL ds)) (hb : EvR T tb σ H (isT (.num (i : Int)))) (hi : ds[i]? = some x) : EvR T (tOp (rIxL K) ta tb) σ H (isT x) :=
  e_op ha hb (fun _ _ _ x r => x.isL r) fun u y H1 _ h1 h2 Q q => by
    obtain ⟨a, vs, rfl, ha, hvs⟩ := h1
    cases h2
    obtain ⟨v, hv, r⟩ := hvs.get hi
    exact ⟨a, vs, (i : Int), v, rfl, rfl, SqL.of ha, atI_nat hv, q v H1 (Ext.refl H1) r⟩
/-- in, not in -/
theorem e_inL {neg : Bool} (ha : EvR T ta σ H (isT d)) (hb : EvR T tb σ H (isL ds)) (hd : NestedKey.depthAll ds ≤ 60) : EvR T (tOp (rInN K neg) ta tb) σ H (isB (if neg then !decide (d ∈ ds) else decide (d ∈ ds))) :=
  e_op ha hb (fun _ _ _ x r => x.isT r) fun x y H1 _ h1 h2 Q q => by
    obtain ⟨a, vs, rfl, ha, hvs⟩ := h2
    exact ⟨d, ds, a, vs, h1, rfl, .inl (SqL.of ha), hvs, hd, q _ H1 (Ext.refl H1) rfl⟩
theorem e_inT {neg : Bool} (ha : EvR T ta σ H (isT d)) (hb : EvR T tb σ H (isT (.tup ds))) (hd : NestedKey.depthAll ds ≤ 60) : EvR T (tOp (rInN K neg) ta tb) σ H (isB (if neg then !decide (d ∈ ds) else decide (d ∈ ds))) :=
  e_opT ha hb fun x y H1 _ h1 h2 Q q => by
    obtain ⟨a, vs, rfl, ha, hvs⟩ := h2.tup_inv
    exact ⟨d, ds, a, vs, h1, rfl, .inr (SqT.of ha), hvs, hd, q _ H1 (Ext.refl H1) rfl⟩

/-! ### slices -/
theorem o_no : EvO T tNoPart σ H none := fun H1 _ Q q => q H1 (Ext.refl H1)
theorem o_some {i : Int} (h : EvR T te σ H (isT (.num i))) : EvO T (tPart te) σ H (some i) := fun H1 x Q q => h H1 x _ fun v H2 x2 r => ⟨i, r.int_inv, q H2 x2⟩
def cutD (xs : List D) (lo hi : Option Int) : List D := (xs.drop (HT.sIx xs.length 0 lo)).take (HT.sIx xs.length xs.length hi - HT.sIx xs.length 0 lo)
theorem cut_is {vs : List V} {lo hi : Option Int} (h : IsDs H vs ds) : IsDs H (cutV vs lo hi) (cutD ds lo hi) := by
  unfold cutV cutD
  rw [h.length]
  exact (h.drop _).take _
theorem e_sl {tl th : TO} {lo hi : Option Int} (h : EvR T te σ H (isT (.tup ds))) (h1 : EvO T tl σ H lo) (h2 : EvO T th σ H hi) : EvR T (tSl (rSlA K) te tl th) σ H (isT (.tup (cutD ds lo hi))) := fun H1 x Q q =>
  h H1 x _ fun v H2 x2 r => h1 H2 (x.trans x2) _ fun H3 x3 => h2 H3 ((x.trans x2).trans x3) _ fun H4 x4 => by
    have r4 := IsD.mono (x3.trans x4).tup r
    obtain ⟨a, vs, rfl, ha, hvs⟩ := r4.tup_inv
    refine ⟨a, vs, rfl, SqT.of ha, fun hw => ?_, fun _ p hp => ?_⟩
    · refine q _ H4 ((x2.trans x3).trans x4) ?_
      have e : cutD ds lo hi = ds := by
        unfold cutD
        rw [← hvs.length, hw.1, hw.2, hvs.length]
        simp
      show IsD H4 _ _
      rw [e]
      exact r4
    · exact q _ _ (((x2.trans x3).trans x4).trans (Ext.new hp)) (.tup upd_same (IsDs.mono (Ext.new (T := T) (ex := []) hp).tup (cut_is hvs)))
theorem e_slL {tl th : TO} {lo hi : Option Int} (h : EvR T te σ H (isL ds)) (h1 : EvO T tl σ H lo) (h2 : EvO T th σ H hi) : EvR T (tSl (rSlL K) te tl th) σ H (isL (cutD ds lo hi)) := fun H1 x Q q =>
  h H1 x _ fun v H2 x2 r => h1 H2 (x.trans x2) _ fun H3 x3 => h2 H3 ((x.trans x2).trans x3) _ fun H4 x4 => by
    have r4 := (x3.trans x4).isL r
    obtain ⟨a, vs, rfl, ha, hvs⟩ := r4
    exact ⟨a, vs, rfl, SqL.of ha, fun p hp => q _ _ (((x2.trans x3).trans x4).trans (Ext.new hp)) ⟨p, _, rfl, upd_same, IsDs.mono (Ext.new (T := T) (ex := []) hp).tup (cut_is hvs)⟩⟩
theorem e_slN {tl th : TO} {lo hi : Option Int} (h : EvR T te σ H (isL ds)) (h1 : EvO T tl σ H lo) (h2 : EvO T th σ H hi) : EvR T (tSl (rSlL K) te tl th) σ H (isLN H (cutD ds lo hi)) := fun H1 x Q q =>
  h H1 x _ fun v H2 x2 r => h1 H2 (x.trans x2) _ fun H3 x3 => h2 H3 ((x.trans x2).trans x3) _ fun H4 x4 => by
    have r4 := (x3.trans x4).isL r
    obtain ⟨a, vs, rfl, ha, hvs⟩ := r4
    exact ⟨a, vs, rfl, SqL.of ha, fun p hp => q _ _ (((x2.trans x3).trans x4).trans (Ext.new hp)) ⟨p, _, rfl, x.free _ (((x2.trans x3).trans x4).free _ hp), upd_same, IsDs.mono (Ext.new (T := T) (ex := []) hp).tup (cut_is hvs)⟩⟩
theorem cut_to (xs : List D) (n : Nat) : cutD xs none (some (n : Int)) = xs.take n := by
  unfold cutD
  rw [HT.sIx_nat]
  show (xs.drop 0).take (min n xs.length - 0) = xs.take n
  rw [List.drop_zero, Nat.sub_zero]
  by_cases h : n ≤ xs.length
  · rw [Nat.min_eq_left h]
  · rw [Nat.min_eq_right (by omega), List.take_of_length_le (Nat.le_refl _), List.take_of_length_le (by omega)]
theorem cut_from (xs : List D) (n : Nat) : cutD xs (some (n : Int)) none = xs.drop n := by
  unfold cutD
  rw [HT.sIx_nat]
  show (xs.drop (min n xs.length)).take (xs.length - min n xs.length) = xs.drop n
  by_cases h : n ≤ xs.length
  · rw [Nat.min_eq_left h, List.take_of_length_le (by rw [List.length_drop]; exact Nat.le_refl _)]
  · rw [Nat.min_eq_right (by omega), List.drop_of_length_le (Nat.le_refl _), List.drop_of_length_le (by omega)]
    simp
theorem cut_both (xs : List D) (n m : Nat) : cutD xs (some (n : Int)) (some (m : Int)) = (xs.drop n).take (m - n) := by
  unfold cutD
  rw [HT.sIx_nat, HT.sIx_nat]
  by_cases h : n ≤ xs.length
  · rw [Nat.min_eq_left h]
    by_cases h2 : m ≤ xs.length
    · rw [Nat.min_eq_left h2]
    · rw [Nat.min_eq_right (by omega), List.take_of_length_le (l := xs.drop n) (i := m - n) (by rw [List.length_drop]; omega), List.take_of_length_le (by rw [List.length_drop]; exact Nat.le_refl _)]
  · rw [Nat.min_eq_right (by omega : xs.length ≤ n), List.drop_of_length_le (Nat.le_refl _), List.drop_of_length_le (by omega : xs.length ≤ n)]
    simp

/-! ### tests -/
theorem t_test (h : EvR T te σ H (isB b)) : EvT T (tTest te) σ H b := fun H1 x Q q => h H1 x _ fun v H2 x2 e => ⟨b, e, q H2 x2⟩
theorem t_b (h : EvR T te σ H (isB b)) : EvT T (tB te) σ H b := fun H1 x Q q => h H1 x _ fun v H2 x2 e => ⟨b, e, q H2 x2⟩
theorem t_and (h1 : EvT T tt σ H b) (h2 : b = true → EvT T tu σ H c) : EvT T (tAnd tt tu) σ H (b && c) := fun H1 x Q q => h1 H1 x _ fun H2 x2 => by
  cases b with
  | true =>
    show tu σ H2 Q
    exact h2 rfl H2 (x.trans x2) Q fun H3 x3 => q H3 (x2.trans x3)
  | false =>
    show Q false H2
    exact q H2 x2
theorem t_or (h1 : EvT T tt σ H b) (h2 : b = false → EvT T tu σ H c) : EvT T (tOr tt tu) σ H (b || c) := fun H1 x Q q => h1 H1 x _ fun H2 x2 => by
  cases b with
  | true =>
    show Q true H2
    exact q H2 x2
  | false =>
    show tu σ H2 Q
    exact h2 rfl H2 (x.trans x2) Q fun H3 x3 => q H3 (x2.trans x3)
theorem t_not (h : EvT T tt σ H b) : EvT T (tNot tt) σ H (!b) := fun H1 x Q q => h H1 x _ fun H2 x2 => q H2 x2
theorem e_andV (h1 : EvR T ta σ H (isB b)) (h2 : b = true → EvR T tb σ H (isB c)) : EvR T (tAndV ta tb) σ H (isB (b && c)) := fun H1 x Q q => h1 H1 x _ fun v H2 x2 e => ⟨b, e, by
  cases b with
  | true =>
    show tb σ H2 Q
    exact h2 rfl H2 (x.trans x2) Q fun v H3 x3 r => q v H3 (x2.trans x3) r
  | false =>
    show Q (.bl false) H2
    exact q _ H2 x2 rfl⟩
theorem e_orV (h1 : EvR T ta σ H (isB b)) (h2 : b = false → EvR T tb σ H (isB c)) : EvR T (tOrV ta tb) σ H (isB (b || c)) := fun H1 x Q q => h1 H1 x _ fun v H2 x2 e => ⟨b, e, by
  cases b with
  | true =>
    show Q (.bl true) H2
    exact q _ H2 x2 rfl
  | false =>
    show tb σ H2 Q
    exact h2 rfl H2 (x.trans x2) Q fun v H3 x3 r => q v H3 (x2.trans x3) r⟩
theorem e_notV (h1 : EvR T ta σ H (isB b)) : EvR T (tNotV ta) σ H (isB (!b)) := fun H1 x Q q => h1 H1 x _ fun v H2 x2 e => ⟨b, e, q _ H2 x2 rfl⟩
theorem e_if (h : EvT T tt σ H b) (h1 : b = true → EvR T ta σ H R) (h2 : b = false → EvR T tb σ H R) : EvR T (tIf tt ta tb) σ H R := fun H1 x Q q => h H1 x _ fun H2 x2 => by
  cases b with
  | true =>
    show ta σ H2 Q
    exact h1 rfl H2 (x.trans x2) Q fun v H3 x3 r => q v H3 (x2.trans x3) r
  | false =>
    show tb σ H2 Q
    exact h2 rfl H2 (x.trans x2) Q fun v H3 x3 r => q v H3 (x2.trans x3) r
theorem e_isN (h : EvR T ta σ H (isV v)) : EvR T (tIsN ta) σ H (isB (decide (v = .non))) := fun H1 x Q q => h H1 x _ fun u H2 x2 e => by
  obtain rfl : u = v := e
  exact q _ H2 x2 rfl
theorem e_notN (h : EvR T ta σ H (isV v)) : EvR T (tNotN ta) σ H (isB (!decide (v = .non))) := fun H1 x Q q => h H1 x _ fun u H2 x2 e => by
  obtain rfl : u = v := e
  exact q _ H2 x2 rfl

/-! ### calls -/
theorem e_cb {r : List V → Hp → VK → Prop} {t : TA} {P : List V → Hp → Prop} (h : EvAs T t σ H P) (hr : ∀ vs H1, Ext T [] H H1 → P vs H1 → ∀ Q : VK, (∀ v H2, Ext T [] H1 H2 → R v H2 → Q v H2) → r vs H1 Q) : EvR T (tCB r t) σ H R := fun H1 x Q q =>
  h H1 x _ fun vs H2 x2 p => hr vs H2 (x.trans x2) p Q fun v H3 x3 r => q v H3 (x2.trans x3) r
theorem e_call {sp : Sp} {dvs : List V} {E : XK} {t : TA} {P : List V → Hp → Prop} (h : EvAs T t σ H P) (hr : ∀ vs H1, Ext T [] H H1 → P vs H1 → ∀ Q : VK, (∀ v H2, Ext T [] H1 H2 → R v H2 → Q v H2) → sp (vs ++ dvs) H1 Q E) : EvR T (tCall sp dvs E t) σ H R := fun H1 x Q q =>
  h H1 x _ fun vs H2 x2 p => hr vs H2 (x.trans x2) p Q fun v H3 x3 r => q v H3 (x2.trans x3) r
/-- one argument, any kind -/
def areR (R : RP) : List V → Hp → Prop := fun vs H => ∃ v, vs = [v] ∧ R v H
theorem a_any (h : EvR T ta σ H R) : EvAs T (tCons ta tNil) σ H (areR R) := fun H1 x Q q => h H1 x _ fun v H2 x2 r => q _ H2 x2 ⟨v, rfl, r⟩
def rLen (K : PySem.W.Frag) : List V → Hp → VK → Prop := fun xs H Q => ∃ p ys, xs = [.ref p] ∧ (SqL K H p ys ∨ SqT K H p ys) ∧ Q (.int ys.length) H
theorem e_len (h : EvR T ta σ H (isT (.tup ds))) : EvR T (tCB (rLen K) (tCons ta tNil)) σ H (isT (.num (ds.length : Int))) := e_cb (a_any h) fun vs H1 _ p Q q => by
  obtain ⟨v, rfl, r⟩ := p
  obtain ⟨a, us, rfl, ha, hu⟩ := r.tup_inv
  refine ⟨a, us, rfl, .inr (SqT.of ha), ?_⟩
  rw [hu.length]
  exact q _ H1 (Ext.refl H1) (.int _)
theorem e_lenL (h : EvR T ta σ H (isL ds)) : EvR T (tCB (rLen K) (tCons ta tNil)) σ H (isT (.num (ds.length : Int))) := e_cb (a_any h) fun vs H1 _ p Q q => by
  obtain ⟨v, rfl, a, us, rfl, ha, hu⟩ := p
  refine ⟨a, us, rfl, .inl (SqL.of ha), ?_⟩
  rw [hu.length]
  exact q _ H1 (Ext.refl H1) (.int _)
end
section
variable {X : Cx}
theorem call_len : CallR X (.builtin "len") (rLen X.K) := call_len_seq
end
end Sf

set_option Elab.async false
set_option linter.all false
set_option maxRecDepth 100000
set_option maxHeartbeats 4000000
/-! Statements, loops, comprehensions. -/
namespace Sf
open PySem L2 LamX

section
variable {T : List Tab} {K : PySem.W.Frag} {σ : L2.St} {H H' : Hp} {te ta tb tc tl : TE} {tt : TT} {tu tw tz : TS} {R R' : RP} {d e : D} {ds es : List D} {v : V} {b c : Bool} {E : Ends} {g : TG} {i j : Nat}

theorem s_asg (h : EvR T te σ H R) (k : ∀ v H1, Ext T [] H H1 → R v H1 → E.nx (σ.set i (some v)) H1) : tAsg te (gName i) E σ H := h.run k
theorem s_ret (h : EvR T te σ H R) (k : ∀ v H1, Ext T [] H H1 → R v H1 → E.rt v H1) : tRet te E σ H := h.run k
theorem s_drop (h : EvR T te σ H R) (k : ∀ v H1, Ext T [] H H1 → R v H1 → E.nx σ H1) : tDrop te E σ H := h.run k
theorem s_if (h : EvT T tt σ H b) (h1 : b = true → ∀ H1, Ext T [] H H1 → tu E σ H1) (h2 : b = false → ∀ H1, Ext T [] H H1 → tw E σ H1) : tIfS tt tu tw E σ H := h.run fun H1 x => by
  cases b with
  | true =>
    show tu E σ H1
    exact h1 rfl H1 x
  | false =>
    show tw E σ H1
    exact h2 rfl H1 x
/-- if c: then what never is -/
theorem s_no (h : EvT T tt σ H false) (k : ∀ H1, Ext T [] H H1 → E.nx σ H1) : tIfS tt tu tNext E σ H := s_if h (fun z => nomatch z) fun _ => k
theorem s_seq (h : tu { E with nx := tz E } σ H) : tSeq tu tz E σ H := h
theorem s_append {l : Addr} {xs : List V} (hl : H l = some (.lst xs)) (hi : σ[i]? = some (some (.ref l))) (h : EvR T te σ H R) (hz : xs.length < 100000) (k : ∀ v H1, Ext T [] H H1 → R v H1 → H1 l = some (.lst xs) → E.nx σ (upd H1 l (.lst (xs ++ [v])))) :
    tDrop (tBM K "list" rAppend (tVar i) (tCons te tNil)) E σ H :=
  ⟨_, hi, Or.inl ⟨rfl, xs, SqL.of hl⟩, h.run fun v H1 x r => by
    have hl' := x.lst hl (by simp)
    exact ⟨l, xs, v, rfl, rfl, hl', sz' hz, k v H1 x r hl'⟩⟩

/-! ### loops -/
/-- over a list; what the body may change stands at ex -/
theorem f_list (h : EvR T tl σ H R) (k : ∀ v H1, Ext T [] H H1 → R v H1 → ∃ a vs, v = .ref a ∧ H1 a = some (.lst vs) ∧ IsDs H1 vs ds ∧ ∃ (ex : List Addr) (Pv : Nat → L2.St → Hp → Prop), a ∉ ex ∧ Pv 0 σ H1 ∧ (∀ i σ' H', Pv i σ' H' → Ext T ex H1 H') ∧
      (∀ i d x σ' H', ds[i]? = some d → IsD H' x d → Pv i σ' H' → g x σ' H' fun σ2 H2 => tu { E with nx := Pv (i + 1), ct := Pv (i + 1), bk := E.nx } σ2 H2) ∧ (∀ σ' H', Pv ds.length σ' H' → E.nx σ' H')) : tFor (iList K tl) g tu E σ H := h.run fun v H1 x r => by
  obtain ⟨a, vs, rfl, ha, hvs, ex, Pv, hx, h0, hG, hs, hd⟩ := k v H1 x r
  refine ⟨a, rfl, ⟨vs, SqL.of ha⟩, for_list (xs := vs) Pv h0 (fun i σ' H' _ p => SqL.of ((hG i σ' H' p).lst ha hx)) (fun i x σ' H' hi p => ?_) fun σ' H' p => hd σ' H' (by rw [← hvs.length]; exact p)⟩
  obtain ⟨d, e1, e2⟩ := hvs.getV hi
  exact hs i d x σ' H' e1 (IsD.mono (hG i σ' H' p).tup e2) p
theorem f_tup (h : EvR T tl σ H (isT (.tup ds))) (k : ∀ H1, Ext T [] H H1 → ∃ (ex : List Addr) (Pv : Nat → L2.St → Hp → Prop), Pv 0 σ H1 ∧ (∀ i σ' H', Pv i σ' H' → Ext T ex H1 H') ∧
      (∀ i d x σ' H', ds[i]? = some d → IsD H' x d → Pv i σ' H' → g x σ' H' fun σ2 H2 => tu { E with nx := Pv (i + 1), ct := Pv (i + 1), bk := E.nx } σ2 H2) ∧ (∀ σ' H', Pv ds.length σ' H' → E.nx σ' H')) : tFor (iTup K tl) g tu E σ H := h.run fun v H1 x r => by
  obtain ⟨a, vs, rfl, ha, hvs⟩ := r.tup_inv
  obtain ⟨ex, Pv, h0, hG, hs, hd⟩ := k H1 x
  refine ⟨a, rfl, ⟨vs, SqT.of ha⟩, for_tup (xs := vs) Pv h0 (fun i σ' H' _ p => SqT.of ((hG i σ' H' p).tup _ _ ha)) (fun i x σ' H' hi p => ?_) fun σ' H' p => hd σ' H' (by rw [← hvs.length]; exact p)⟩
  obtain ⟨d, e1, e2⟩ := hvs.getV hi
  exact hs i d x σ' H' e1 (IsD.mono (hG i σ' H' p).tup e2) p
theorem f_range {n : Nat} (h : EvR T ta σ H (isT (.num (n : Int)))) (hn : n ≤ 100000) (k : ∀ H1, Ext T [] H H1 → ∃ (Pv : Nat → L2.St → Hp → Prop), Pv 0 σ H1 ∧
      (∀ i σ' H', i < n → Pv i σ' H' → g (.int (i : Int)) σ' H' fun σ2 H2 => tu { E with nx := Pv (i + 1), ct := Pv (i + 1), bk := E.nx } σ2 H2) ∧ (∀ σ' H', Pv n σ' H' → E.nx σ' H')) : tFor (iRng1 (tCons ta tNil)) g tu E σ H := h.run fun v H1 x r => by
  obtain ⟨Pv, h0, hs, hd⟩ := k H1 x
  refine ⟨(n : Int), by rw [r.int_inv], by omega, by omega, ?_⟩
  have e : ((n : Int)).toNat = n := by simp
  rw [e]
  refine for_range (lo := 0) (n := n) Pv h0 (fun i σ' H' hi p => ?_) hd
  rw [Int.zero_add]
  exact hs i σ' H' hi p

/-! ### comprehensions that change nothing -/
/-- each of vs is what R says of the one at its place -/
inductive Each {α : Type} (R : α → RP) (H : Hp) : List V → List α → Prop
  | nil : Each R H [] []
  | cons {v : V} {x : α} {vs : List V} {xs : List α} : R x v H → Each R H vs xs → Each R H (v :: vs) (x :: xs)
def Stable {α : Type} (R : α → RP) : Prop := ∀ x v H H', TEx H H' → R x v H → R x v H'
theorem tex_put {H : Hp} {p : Addr} {o u : HO} (h : H p = some o) (n : NoTab o) : TEx H (upd H p u) := ((Ext.refl (T := []) (ex := [p]) H).put (.inr (by simp)) h n).tup
theorem Each.mono {α : Type} {R : α → RP} (m : Stable R) (x : TEx H H') : ∀ {vs : List V} {xs : List α}, Each R H vs xs → Each R H' vs xs
  | _, _, .nil => .nil
  | _, _, .cons h r => .cons (m _ _ _ _ x h) (Each.mono m x r)
theorem Each.snoc {α : Type} {R : α → RP} {x : α} : ∀ {vs : List V} {xs : List α}, Each R H vs xs → R x v H → Each R H (vs ++ [v]) (xs ++ [x])
  | _, _, .nil, h => .cons h .nil
  | _, _, .cons h0 r, h => .cons h0 (Each.snoc r h)
theorem Each.length {α : Type} {R : α → RP} : ∀ {vs : List V} {xs : List α}, Each R H vs xs → vs.length = xs.length
  | _, _, .nil => rfl
  | _, _, .cons _ r => congrArg (· + 1) (Each.length r)
theorem Each.toDs {α : Type} {f : α → D} : ∀ {vs : List V} {xs : List α}, Each (fun x => isT (f x)) H vs xs → IsDs H vs (xs.map f)
  | _, _, .nil => .nil
  | _, _, .cons h r => .cons h (Each.toDs r)
theorem Each.toBs {α : Type} {f : α → Bool} : ∀ {vs : List V} {xs : List α}, Each (fun x => isB (f x)) H vs xs → vs = (xs.map f).map V.bl
  | _, _, .nil => rfl
  | _, _, .cons h r => by
    obtain rfl : _ = _ := h
    rw [Each.toBs r]
    rfl
theorem stT {α : Type} {f : α → D} : Stable (fun x => isT (f x)) := fun _ _ _ _ x h => IsD.mono x h
theorem stB {α : Type} {f : α → Bool} : Stable (fun x => isB (f x)) := fun _ _ _ _ _ h => h
def isEach {α : Type} (R : α → RP) (H0 : Hp) (xs : List α) : RP := fun v H => ∃ a vs, v = .ref a ∧ H0 a = none ∧ H a = some (.lst vs) ∧ Each R H vs xs
theorem isEach.ln {α : Type} {f : α → D} {H0 : Hp} {xs : List α} (h : isEach (fun x => isT (f x)) H0 xs v H) : isLN H0 (xs.map f) v H := by
  obtain ⟨a, vs, e, h0, h1, h2⟩ := h
  exact ⟨a, vs, e, h0, h1, h2.toDs⟩

/-- what a target does with a tree: it changes slots alone, and within the block's own ones -/
def Tg (T : List Tab) (g : TG) (vs : List Nat) (σ : L2.St) (H : Hp) (d : D) (P : L2.St → Hp → Prop) : Prop :=
  ∀ x H1, Ext T [] H H1 → IsD H1 x d → ∀ Q : L2.St → Hp → Prop, (∀ σ2 H2, Ext T [] H1 H2 → wipe σ2 vs = wipe σ vs → P σ2 H2 → Q σ2 H2) → g x (wipe σ vs) H1 Q
theorem c_list {RE : D → RP} {vs : List Nat} (m : Stable RE) (h : EvR T tl σ H (isL ds)) (hz : ds.length ≤ 50000) (p : D → Bool)
    (hs : ∀ d, d ∈ ds → ∀ x H1, Ext T [] H H1 → IsD H1 x d → ∀ Q : L2.St → Hp → Prop, (∀ σ2 H2, Ext T [] H1 H2 → wipe σ2 vs = wipe σ vs → EvT T tt σ2 H2 (p d) → (p d = true → EvR T te σ2 H2 (RE d)) → Q σ2 H2) → g x (wipe σ vs) H1 Q) :
    EvR T (tLc (iList K tl) g tt te vs) σ H (isEach RE H (ds.filter p)) := fun H1 xa Q q => h H1 xa _ fun v H2 x2 r => by
  obtain ⟨a, us, rfl, ha, hu⟩ := r
  refine ⟨a, rfl, ⟨us, SqL.of ha⟩, fun L hL => ?_⟩
  refine lc_list (xs := us) (fun i H' => ∃ acc, Ext T [] H2 H' ∧ H' L = some (.lst acc) ∧ Each RE H' acc ((ds.take i).filter p)) ⟨[], Ext.new hL, upd_same, by simp only [List.take_zero, List.filter_nil]; exact .nil⟩
    (fun i H' _ hp => by obtain ⟨acc, e, _⟩ := hp; exact SqL.of (e.lst ha (by simp))) (fun i x H' hi hp => ?_) fun H' hp => ?_
  · obtain ⟨acc, e, hacc, hE⟩ := hp
    obtain ⟨d, hd, hxd⟩ := hu.getV hi
    have hlen : i < ds.length := (List.getElem?_eq_some_iff.mp hd).1
    have htk : ds.take (i + 1) = ds.take i ++ [d] := by rw [List.take_add_one, hd]; rfl
    have hal : acc.length ≤ i := by
      rw [hE.length]
      exact Nat.le_trans (List.length_filter_le _ _) (by rw [List.length_take]; omega)
    refine hs d (List.mem_of_getElem? hd) x H' ((xa.trans x2).trans e) (IsD.mono e.tup hxd) _ fun σ2 H3 e3 hw ht hv => ⟨hw, ht.run fun H4 e4 => ?_⟩
    have e34 := e3.trans e4
    cases hp : p d with
    | true =>
      show te σ2 H4 _
      refine ((hv hp).mono e4).run fun y H5 e5 r5 => ⟨acc, (e34.trans e5).lst hacc (by simp), sz' (by omega), acc ++ [y], ?_, upd_same, ?_⟩
      · exact (((e.trans e34).trans e5)).put (.inl hL) ((e34.trans e5).lst hacc (by simp)) (noTab_lst _)
      · have hf : (ds.take (i + 1)).filter p = (ds.take i).filter p ++ [d] := by
          rw [htk, List.filter_append, List.filter_cons, if_pos hp]
          rfl
        rw [hf]
        exact (Each.snoc (hE.mono m (e34.trans e5).tup) r5).mono m (tex_put ((e34.trans e5).lst hacc (by simp)) (noTab_lst _))
    | false =>
      show ∃ acc, _
      refine ⟨acc, e.trans e34, e34.lst hacc (by simp), ?_⟩
      have hf : (ds.take (i + 1)).filter p = (ds.take i).filter p := by
        rw [htk, List.filter_append, List.filter_cons, if_neg (by rw [hp]; exact Bool.false_ne_true)]
        show _ ++ [] = _
        rw [List.append_nil]
      rw [hf]
      exact hE.mono m e34.tup
  · obtain ⟨acc, e, hacc, hE⟩ := hp
    rw [hu.length, List.take_length] at hE
    exact q _ H' (x2.trans e) ⟨L, acc, rfl, xa.free _ (x2.free _ hL), hacc, hE⟩
end
end Sf

set_option Elab.async false
set_option linter.all false
set_option maxRecDepth 100000
set_option maxHeartbeats 4000000
/-! Comprehensions over tuples and ranges, targets, calls of built-ins. -/
namespace Sf
open PySem L2 LamX

section
variable {T : List Tab} {K : PySem.W.Frag} {σ : L2.St} {H H' : Hp} {te ta tb tc tl : TE} {tt : TT} {tu tw tz : TS} {R R' : RP} {d e : D} {ds es : List D} {v : V} {b c : Bool} {E : Ends} {g : TG} {i j : Nat}

/-- one turn of such a comprehension -/
theorem c_turn {α : Type} {ds : List α} {d : α} {RE : α → RP} {vs : List Nat} {H2 : Hp} {L : Addr} {p : α → Bool} {acc : List V} {n : Nat} {σ2 : L2.St} (m : Stable RE) (hL : H2 L = none) (e : Ext T [] H2 H') (hacc : H' L = some (.lst acc)) (hE : Each RE H' acc ((ds.take n).filter p)) (hz : ds.length ≤ 50000)
    (hd : ds[n]? = some d) (ht : EvT T tt σ2 H' (p d)) (hv : p d = true → EvR T te σ2 H' (RE d)) :
    tt σ2 H' fun b H3 => if b = true then te σ2 H3 fun y H4 => ∃ acc, H4 L = some (.lst acc) ∧ acc.length < sizeLine ∧ (fun (i : Nat) (H' : Hp) => ∃ acc, Ext T [] H2 H' ∧ H' L = some (.lst acc) ∧ Each RE H' acc ((ds.take i).filter p)) (n + 1) (upd H4 L (.lst (acc ++ [y])))
      else (fun (i : Nat) (H' : Hp) => ∃ acc, Ext T [] H2 H' ∧ H' L = some (.lst acc) ∧ Each RE H' acc ((ds.take i).filter p)) (n + 1) H3 := by
  have hlen : n < ds.length := (List.getElem?_eq_some_iff.mp hd).1
  have htk : ds.take (n + 1) = ds.take n ++ [d] := by rw [List.take_add_one, hd]; rfl
  have hal : acc.length ≤ n := by
    rw [hE.length]
    exact Nat.le_trans (List.length_filter_le _ _) (by rw [List.length_take]; omega)
  refine ht.run fun H4 e4 => ?_
  cases hp : p d with
  | true =>
    show te σ2 H4 _
    refine ((hv hp).mono e4).run fun y H5 e5 r5 => ⟨acc, (e4.trans e5).lst hacc (by simp), sz' (by omega), acc ++ [y], ?_, upd_same, ?_⟩
    · exact (((e.trans e4).trans e5)).put (.inl hL) ((e4.trans e5).lst hacc (by simp)) (noTab_lst _)
    · have hf : (ds.take (n + 1)).filter p = (ds.take n).filter p ++ [d] := by
        rw [htk, List.filter_append, List.filter_cons, if_pos hp]
        rfl
      rw [hf]
      exact (Each.snoc (hE.mono m (e4.trans e5).tup) r5).mono m (tex_put ((e4.trans e5).lst hacc (by simp)) (noTab_lst _))
  | false =>
    show ∃ acc, _
    refine ⟨acc, e.trans e4, e4.lst hacc (by simp), ?_⟩
    have hf : (ds.take (n + 1)).filter p = (ds.take n).filter p := by
      rw [htk, List.filter_append, List.filter_cons, if_neg (by rw [hp]; exact Bool.false_ne_true)]
      show _ ++ [] = _
      rw [List.append_nil]
    rw [hf]
    exact hE.mono m e4.tup
theorem c_tup {α : Type} {xs : List α} {en : α → D} {RE : α → RP} {vs : List Nat} (m : Stable RE) (h : EvR T tl σ H (isT (.tup (xs.map en)))) (hz : xs.length ≤ 50000) (p : α → Bool)
    (hs : ∀ d, d ∈ xs → ∀ x H1, Ext T [] H H1 → IsD H1 x (en d) → ∀ Q : L2.St → Hp → Prop, (∀ σ2, wipe σ2 vs = wipe σ vs → EvT T tt σ2 H1 (p d) → (p d = true → EvR T te σ2 H1 (RE d)) → Q σ2 H1) → g x (wipe σ vs) H1 Q) :
    EvR T (tLc (iTup K tl) g tt te vs) σ H (isEach RE H (xs.filter p)) := fun H1 xa Q q => h H1 xa _ fun v H2 x2 r => by
  obtain ⟨a, us, rfl, ha, hu⟩ := r.tup_inv
  refine ⟨a, rfl, ⟨us, SqT.of ha⟩, fun L hL => ?_⟩
  refine lc_tup (xs := us) (fun i H' => ∃ acc, Ext T [] H2 H' ∧ H' L = some (.lst acc) ∧ Each RE H' acc ((xs.take i).filter p)) ⟨[], Ext.new hL, upd_same, by simp only [List.take_zero, List.filter_nil]; exact .nil⟩
    (fun i H' _ hp => by obtain ⟨acc, e, _⟩ := hp; exact SqT.of (e.tup _ _ ha)) (fun i x H' hi hp => ?_) fun H' hp => ?_
  · obtain ⟨acc, e, hacc, hE⟩ := hp
    obtain ⟨d', hd', hxd⟩ := hu.getV hi
    rw [List.getElem?_map] at hd'
    obtain ⟨d, hd, rfl⟩ := Option.map_eq_some_iff.mp hd'
    exact hs d (List.mem_of_getElem? hd) x H' ((xa.trans x2).trans e) (IsD.mono e.tup hxd) _ fun σ2 hw ht hv => ⟨hw, c_turn (vs := vs) m hL e hacc hE hz hd ht hv⟩
  · obtain ⟨acc, e, hacc, hE⟩ := hp
    rw [hu.length, List.length_map, List.take_length] at hE
    exact q _ H' (x2.trans e) ⟨L, acc, rfl, xa.free _ (x2.free _ hL), hacc, hE⟩
theorem c_lst {α : Type} {xs : List α} {en : α → D} {RE : α → RP} {vs : List Nat} (m : Stable RE) (h : EvR T tl σ H (isL (xs.map en))) (hz : xs.length ≤ 50000) (p : α → Bool)
    (hs : ∀ d, d ∈ xs → ∀ x H1, Ext T [] H H1 → IsD H1 x (en d) → ∀ Q : L2.St → Hp → Prop, (∀ σ2, wipe σ2 vs = wipe σ vs → EvT T tt σ2 H1 (p d) → (p d = true → EvR T te σ2 H1 (RE d)) → Q σ2 H1) → g x (wipe σ vs) H1 Q) :
    EvR T (tLc (iList K tl) g tt te vs) σ H (isEach RE H (xs.filter p)) := fun H1 xa Q q => h H1 xa _ fun v H2 x2 r => by
  obtain ⟨a, us, rfl, ha, hu⟩ := r
  refine ⟨a, rfl, ⟨us, SqL.of ha⟩, fun L hL => ?_⟩
  refine lc_list (xs := us) (fun i H' => ∃ acc, Ext T [] H2 H' ∧ H' L = some (.lst acc) ∧ Each RE H' acc ((xs.take i).filter p)) ⟨[], Ext.new hL, upd_same, by simp only [List.take_zero, List.filter_nil]; exact .nil⟩
    (fun i H' _ hp => by obtain ⟨acc, e, _⟩ := hp; exact SqL.of (e.lst ha (by simp))) (fun i x H' hi hp => ?_) fun H' hp => ?_
  · obtain ⟨acc, e, hacc, hE⟩ := hp
    obtain ⟨d', hd', hxd⟩ := hu.getV hi
    rw [List.getElem?_map] at hd'
    obtain ⟨d, hd, rfl⟩ := Option.map_eq_some_iff.mp hd'
    exact hs d (List.mem_of_getElem? hd) x H' ((xa.trans x2).trans e) (IsD.mono e.tup hxd) _ fun σ2 hw ht hv => ⟨hw, c_turn (vs := vs) m hL e hacc hE hz hd ht hv⟩
  · obtain ⟨acc, e, hacc, hE⟩ := hp
    rw [hu.length, List.length_map, List.take_length] at hE
    exact q _ H' (x2.trans e) ⟨L, acc, rfl, xa.free _ (x2.free _ hL), hacc, hE⟩
theorem t_yes : EvT T tYes σ H true := fun H1 _ Q q => q H1 (Ext.refl H1)

/-- a pair's target: two names -/
theorem g_pair {x : V} {σ' : L2.St} {d1 d2 : D} {Q : L2.St → Hp → Prop} (h : IsD H x (.tup [d1, d2])) (k : ∀ v1 v2, IsD H v1 d1 → IsD H v2 d2 → Q ((σ'.set i (some v1)).set j (some v2)) H) : gTup K 2 (gCons (gName i) (gCons (gName j) gNil)) x σ' H Q := by
  obtain ⟨a, vs, rfl, ha, hvs⟩ := h.tup_inv
  cases hvs with
  | cons h1 r =>
    cases r with
    | cons h2 r =>
      cases r
      exact ⟨a, _, rfl, SqT.of ha, rfl, _, _, rfl, _, _, rfl, rfl, k _ _ h1 h2⟩

/-! ### built-in calls -/
theorem e_all {α : Type} {ds : List α} {f : α → Bool} {H0 : Hp} (h : EvR T te σ H (isEach (fun x => isB (f x)) H0 ds)) : EvR T (tCB (rAll K) (tCons te tNil)) σ H (isB (ds.all f)) := e_cb (a_any h) fun vs H1 _ hp Q q => by
  obtain ⟨v, rfl, a, us, rfl, _, ha, hu⟩ := hp
  have e := hu.toBs
  subst e
  refine ⟨a, ds.map f, rfl, SqL.of ha, ?_⟩
  rw [List.all_map]
  exact q _ H1 (Ext.refl H1) rfl
theorem e_any {α : Type} {ds : List α} {f : α → Bool} {H0 : Hp} (h : EvR T te σ H (isEach (fun x => isB (f x)) H0 ds)) : EvR T (tCB (rAny K) (tCons te tNil)) σ H (isB (ds.any f)) := e_cb (a_any h) fun vs H1 _ hp Q q => by
  obtain ⟨v, rfl, a, us, rfl, _, ha, hu⟩ := hp
  have e := hu.toBs
  subst e
  refine ⟨a, ds.map f, rfl, SqL.of ha, ?_⟩
  rw [List.any_map]
  exact q _ H1 (Ext.refl H1) rfl
def rTupOf (K : PySem.W.Frag) : List V → Hp → VK → Prop := fun xs H Q => ∃ p ys, xs = [.ref p] ∧ ((SqL K H p ys ∧ ∀ l, H l = none → Q (.ref l) (upd H l (.tup ys))) ∨ (SqT K H p ys ∧ Q (.ref p) H))
def rLstOf (K : PySem.W.Frag) : List V → Hp → VK → Prop := fun xs H Q => ∃ p ys, xs = [.ref p] ∧ (SqL K H p ys ∨ SqT K H p ys) ∧ ∀ l, H l = none → Q (.ref l) (upd H l (.lst ys))
theorem e_tupOf (h : EvR T te σ H (isL ds)) : EvR T (tCB (rTupOf K) (tCons te tNil)) σ H (isT (.tup ds)) := e_cb (a_any h) fun vs H1 _ hp Q q => by
  obtain ⟨v, rfl, a, us, rfl, ha, hu⟩ := hp
  exact ⟨a, us, rfl, .inl ⟨SqL.of ha, fun l hl => q _ _ (Ext.new hl) (.tup upd_same (IsDs.mono (Ext.new (T := T) (ex := []) hl).tup hu))⟩⟩
theorem e_tupTup (h : EvR T te σ H (isT (.tup ds))) : EvR T (tCB (rTupOf K) (tCons te tNil)) σ H (isT (.tup ds)) := e_cb (a_any h) fun vs H1 _ hp Q q => by
  obtain ⟨v, rfl, r⟩ := hp
  obtain ⟨a, us, rfl, ha, hu⟩ := r.tup_inv
  exact ⟨a, us, rfl, .inr ⟨SqT.of ha, q _ H1 (Ext.refl H1) (.tup ha hu)⟩⟩
/-- s.split(t), t.join(words) -/
def rSplit : V → List V → Hp → VK → Prop := fun x xs H Q => ∃ a b, x = .str a ∧ xs = [.str b] ∧ (b.length == 0) = false ∧ a.length + 2 ≤ sizeLine ∧ rNewStrs (Txt.split a b) H Q
def rJoin (K : PySem.W.Frag) : V → List V → Hp → VK → Prop := fun x xs H Q => ∃ a p, ∃ ys : List Str, x = .str a ∧ xs = [.ref p] ∧ (SqL K H p (ys.map V.str) ∨ SqT K H p (ys.map V.str)) ∧
    (ys.map (·.length)).sum + ys.length * a.length ≤ 16777216 ∧ Q (.str (Txt.join a ys)) H
theorem e_split {x y : Str} (h : EvR T ta σ H (isT (.text x))) (h2 : EvR T tb σ H (isT (.text y))) (hy : (y.length == 0) = false) (hz : x.length ≤ 100000) : EvR T (tM1 rSplit ta tb) σ H (isLN H ((Txt.split x y).map .text)) := fun H1 xa Q q =>
  h H1 xa _ fun u H2 x2 r => by
    obtain rfl := r.str_inv
    refine ⟨⟨_, rfl⟩, h2 H2 (xa.trans x2) _ fun w H3 x3 r3 => ?_⟩
    obtain rfl := r3.str_inv
    exact ⟨x, y, rfl, rfl, hy, Nat.le_trans (by omega : x.length + 2 ≤ 200000) (by decide), fun p hp => q _ _ ((x2.trans x3).trans (Ext.new hp)) ⟨p, _, rfl, xa.free _ ((x2.trans x3).free _ hp), upd_same, IsDs.texts _⟩⟩
theorem e_join {x : Str} {ws : List Str} (h : EvR T ta σ H (isT (.text x))) (h2 : EvR T tb σ H (isT (eT ws))) (hz : (ws.map (·.length)).sum + ws.length * x.length ≤ 16777216) : EvR T (tM1 (rJoin K) ta tb) σ H (isT (.text (Txt.join x ws))) := fun H1 xa Q q =>
  h H1 xa _ fun u H2 x2 r => by
    obtain rfl := r.str_inv
    refine ⟨⟨_, rfl⟩, h2 H2 (xa.trans x2) _ fun w H3 x3 r3 => ?_⟩
    obtain ⟨a, us, rfl, ha, hu⟩ := r3.tup_inv
    rw [hu.of_texts] at ha
    exact ⟨x, a, ws, rfl, rfl, .inr (SqT.of ha), hz, q _ H3 (x2.trans x3) (.str _)⟩
theorem e_joinL {x : Str} {ws : List Str} (h : EvR T ta σ H (isT (.text x))) (h2 : EvR T tb σ H (isL (ws.map .text))) (hz : (ws.map (·.length)).sum + ws.length * x.length ≤ 16777216) : EvR T (tM1 (rJoin K) ta tb) σ H (isT (.text (Txt.join x ws))) := fun H1 xa Q q =>
  h H1 xa _ fun u H2 x2 r => by
    obtain rfl := r.str_inv
    refine ⟨⟨_, rfl⟩, h2 H2 (xa.trans x2) _ fun w H3 x3 r3 => ?_⟩
    obtain ⟨a, us, rfl, ha, hu⟩ := r3
    rw [hu.of_texts] at ha
    exact ⟨x, a, ws, rfl, rfl, .inl (SqL.of ha), hz, q _ H3 (x2.trans x3) (.str _)⟩
end
section
variable {X : Cx}
theorem call_tupOf : CallR X (.type "tuple") (rTupOf X.K) := call_tuple_of
theorem call_lstOf : CallR X (.type "list") (rLstOf X.K) := call_list_of
end
section
variable {X : Cx} {o e : Expr} {to te : TE}
theorem px_split {apos pos : Pos} (ho : PE X o to) (he : PE X e te) (hs : starEach [e] X.env = [(false, eval e X.env)] := by rfl) (hbase : attributeBase o "split" X.env (eval o X.env) = eval o X.env := by rfl) (hline : (apos.endLine == pos.line) = true := by rfl) :
    PE X (.Call (.Attribute o "split" apos) [e] [] pos) (tM1 rSplit to te) := pe_split ho he hs hbase hline
theorem px_join {apos pos : Pos} (ho : PE X o to) (he : PE X e te) (hs : starEach [e] X.env = [(false, eval e X.env)] := by rfl) (hbase : attributeBase o "join" X.env (eval o X.env) = eval o X.env := by rfl) (hline : (apos.endLine == pos.line) = true := by rfl) :
    PE X (.Call (.Attribute o "join" apos) [e] [] pos) (tM1 (rJoin X.K) to te) := pe_join ho he hs hbase hline
/-- what is never evaluated -/
def tNo : TE := fun _ _ _ => False
theorem pe_never : PE X e tNo := ⟨fun _ _ _ _ _ _ h => h.elim⟩
end
end Sf

set_option Elab.async false
set_option linter.all false
set_option maxRecDepth 100000
set_option maxHeartbeats 4000000
/-! The program's text by places, what its top has written, promises that change nothing. -/
namespace Sf
open PySem L2 LamX

def topS (i : Nat) : Stmt := PySem.Challenge.pw_sayfill_k11_whole_no_two_rows_meet.main.body.getD i (.Pass ⟨0, 0, 0, 0⟩)

/-- built-ins that the module leaves as they are, and its constants -/
structure Gm (mg : Str → Option Value) : Prop where
  n_len : mg "len" = none
  n_range : mg "range" = none
  n_enumerate : mg "enumerate" = none
  n_isinstance : mg "isinstance" = none
  n_all : mg "all" = none
  n_any : mg "any" = none
  n_tuple : mg "tuple" = none
  n_list : mg "list" = none
  n_str : mg "str" = none
  n_int : mg "int" = none
  n_bool : mg "bool" = none
  n_abs : mg "abs" = none
  n_sum : mg "sum" = none
  n_min : mg "min" = none
  n_sorted : mg "sorted" = none
  c_LETTERS_core_speech : ∃ t, mg "LETTERS_core_speech" = some (.str "abcdefghijklmnopqrstuvwxyz" t)
  c_MOST_LETTERS_core_speech : ∃ t, mg "MOST_LETTERS_core_speech" = some (.int 8 t)
  c_MOST_WORDS : ∃ t, mg "MOST_WORDS" = some (.int 6 t)
  c_MOST_PHRASES : ∃ t, mg "MOST_PHRASES" = some (.int 60 t)
  c_MOST_SAID : ∃ t, mg "MOST_SAID" = some (.int 30 t)
  c_MOST_READINGS : ∃ t, mg "MOST_READINGS" = some (.int 200 t)
  c_LETTERS_forms : ∃ t, mg "LETTERS_forms" = some (.str "abcdefghijklmnopqrstuvwxyz" t)
  c_MOST_LETTERS_forms : ∃ t, mg "MOST_LETTERS_forms" = some (.int 8 t)
  c_MOST_FIELDS : ∃ t, mg "MOST_FIELDS" = some (.int 6 t)
  c_MOST_VALUES : ∃ t, mg "MOST_VALUES" = some (.int 5 t)
  c_MOST_RULES : ∃ t, mg "MOST_RULES" = some (.int 20 t)
  c_MOST_PAIRS : ∃ t, mg "MOST_PAIRS" = some (.int 4 t)
  c_MOST_FILLINGS : ∃ t, mg "MOST_FILLINGS" = some (.int 1000 t)
section
variable {X : Cx}
theorem pe_gi {x : Str} {i : Int} {pos : Pos} (h : ∃ t, X.mg x = some (.int i t)) (hg : Gl X x := by rfl) (hd : (x == ("__debug__" : Str)) = false := by decide) : PE X (.Name x pos) (tC (.int i)) := by
  obtain ⟨t, h⟩ := h
  exact pe_glob hg h ⟨_, rfl⟩ hd
theorem pe_gs {x y : Str} {pos : Pos} (h : ∃ t, X.mg x = some (.str y t)) (hg : Gl X x := by rfl) (hd : (x == ("__debug__" : Str)) = false := by decide) : PE X (.Name x pos) (tC (.str y)) := by
  obtain ⟨t, h⟩ := h
  exact pe_glob hg h ⟨_, rfl⟩ hd
end
section
variable {X : Cx}
theorem pe_ty {x : Str} {n : String} {pos : Pos} (hm : X.mg x = none) (hv : bootBuiltins x = some (.type n)) (hg : Gl X x := by rfl) (hn : x ≠ "__name__" := by decide) (hd : (x == ("__debug__" : Str)) = false := by decide) : PE X (.Name x pos) (tC (.ty n)) :=
  pe_bltn hg hm hv rfl hn hd
end
/-- a def of the module, with its promise -/
structure At (P : Program) (w : World) (K : PySem.W.Frag) (mg : Str → Option Value) (base : Heap) (k : Nat) (x : Str) (ps : List Str) (sp : Sp) : Prop where
  ex : ∃ (f : Addr) (fd : FuncData), mg x = some (.ref f) ∧ PySem.W.keepIn K (.ref f) = true ∧ Binds K fd ps [] ∧ FnOk P w K mg base CX0 k f fd ps sp
section
variable {X : Cx}
theorem pe_fn {k : Nat} {x : Str} {ps : List Str} {sp : Sp} {e : Expr} {es : List Expr} {t : TA} {p pos : Pos} (A : At X.prog X.w X.K X.mg X.base k x ps sp) (hr : Room k X.A) (ha : PA X (e :: es) t) (hg : Gl X x := by rfl) (hdb : (x == ("__debug__" : Str)) = false := by decide)
    (he : starEach (e :: es) X.env = (false, eval e X.env) :: starEach es X.env := by rfl) (hpl : (backTo pos (starEach es X.env)).any (·.1) = false := by rfl) :
    PE X (.Call (.Name x p) (e :: es) [] pos) (tCall sp [] E0 t) := by
  obtain ⟨f, fd, h1, h2, h3, h4⟩ := A.ex
  exact pe_call h4 hr hg h1 h2 h3 .nil pass0 ha hdb he hpl
end

/-- a promise that changes nothing: c tells of which arguments, and what of the value -/
def SpP (T : List Tab) (c : List V → Hp → RP → Prop) : Sp := fun vs H Q _ => ∃ R, c vs H R ∧ ∀ v H', Ext T [] H H' → R v H' → Q v H'
section
variable {T : List Tab} {σ : L2.St} {H : Hp} {R : RP}
theorem e_fn {c : List V → Hp → RP → Prop} {E : XK} {t : TA} {P : List V → Hp → Prop} (h : EvAs T t σ H P) (hr : ∀ vs H1, Ext T [] H H1 → P vs H1 → ∃ R1, c vs H1 R1 ∧ ∀ v H2, R1 v H2 → R v H2) : EvR T (tCall (SpP T c) [] E t) σ H R :=
  e_call h fun vs H1 x p Q q => by
    obtain ⟨R1, h1, h2⟩ := hr vs H1 x p
    refine ⟨R1, by rw [List.append_nil]; exact h1, fun v H' e r => q v H' e (h2 v H' r)⟩
end
end Sf

set_option Elab.async false
set_option linter.all false
set_option maxRecDepth 100000
set_option maxHeartbeats 4000000
/-! Texts: rows of words. -/
namespace Sf
open PySem L2 LamX
abbrev Tx := List Str
abbrev Ent := Tx × Tx
abbrev eE (e : Ent) : D := .tup [eT e.1, eT e.2]
theorem text_inj : ∀ {ws us : List Str}, ws.map NestedKey.text = us.map NestedKey.text → ws = us
  | [], [], _ => rfl
  | [], _ :: _, h => nomatch h
  | _ :: _, [], h => nomatch h
  | w :: ws, u :: us, h => by
    injection h with h1 h2
    injection h1 with h1
    rw [h1, text_inj h2]
theorem text_dec (ws us : List Str) : decide (ws.map NestedKey.text = us.map NestedKey.text) = decide (ws = us) := decide_eq_decide.mpr ⟨text_inj, fun h => by rw [h]⟩
theorem eT_inj {ws us : List Str} (h : eT ws = eT us) : ws = us := by
  injection h with h
  exact text_inj h
theorem text_depth : ∀ ws : List Str, NestedKey.depthAll (ws.map .text) = 0
  | [] => rfl
  | w :: ws => by
    show max 0 (NestedKey.depthAll (ws.map .text)) = 0
    rw [text_depth ws]
    rfl
theorem depth_le {n : Nat} : ∀ {ds : List D}, (∀ d ∈ ds, d.depth ≤ n) → NestedKey.depthAll ds ≤ n
  | [], _ => Nat.zero_le _
  | d :: ds, h => by
    show max d.depth (NestedKey.depthAll ds) ≤ n
    have h1 := h d List.mem_cons_self
    have h2 := depth_le (n := n) fun x hx => h x (List.mem_cons_of_mem _ hx)
    omega
theorem eT_depth (ws : List Str) : (eT ws).depth = 1 := by
  show NestedKey.depthAll (ws.map .text) + 1 = 1
  rw [text_depth]
section
variable {T : List Tab} {K : PySem.W.Frag} {σ : L2.St} {H : Hp} {te ta tb : TE} {ws us : List Str} {n m : Nat}
theorem e_take (h : EvR T te σ H (isT (eT ws))) (h2 : EvR T ta σ H (isT (.num (n : Int)))) : EvR T (tSl (rSlA K) te tNoPart (tPart ta)) σ H (isT (eT (ws.take n))) :=
  (e_sl h o_no (o_some h2)).eqT (by rw [cut_to, ← List.map_take])
theorem e_drop (h : EvR T te σ H (isT (eT ws))) (h2 : EvR T ta σ H (isT (.num (n : Int)))) : EvR T (tSl (rSlA K) te (tPart ta) tNoPart) σ H (isT (eT (ws.drop n))) :=
  (e_sl h (o_some h2) o_no).eqT (by rw [cut_from, ← List.map_drop])
theorem e_mid (h : EvR T te σ H (isT (eT ws))) (h2 : EvR T ta σ H (isT (.num (n : Int)))) (h3 : EvR T tb σ H (isT (.num (m : Int)))) : EvR T (tSl (rSlA K) te (tPart ta) (tPart tb)) σ H (isT (eT ((ws.drop n).take (m - n)))) :=
  (e_sl h (o_some h2) (o_some h3)).eqT (by rw [cut_both, ← List.map_drop, ← List.map_take])
theorem e_eqT (h : EvR T ta σ H (isT (eT ws))) (h2 : EvR T tb σ H (isT (eT us))) : EvR T (tOp rEqN ta tb) σ H (isB (decide (ws = us))) :=
  (e_eqN h h2 (by rw [text_depth]; omega)).eqB (text_dec ws us)
theorem e_catT (h : EvR T ta σ H (isT (eT ws))) (h2 : EvR T tb σ H (isT (eT us))) (hz : ws.length + us.length ≤ 100000) : EvR T (tOp (rCatA K) ta tb) σ H (isT (eT (ws ++ us))) :=
  (e_cat h h2 (by simpa using hz)).eqT (by rw [← List.map_append])
theorem e_lenT (h : EvR T ta σ H (isT (eT ws))) : EvR T (tCB (rLen K) (tCons ta tNil)) σ H (isT (.num (ws.length : Int))) :=
  (e_len h).eqT (by rw [List.length_map])
theorem e_two {d e : D} (h : EvR T ta σ H (isT d)) (h2 : EvR T tb σ H (isT e)) : EvR T (tTup (tCons ta (tCons tb tNil))) σ H (isT (.tup [d, e])) := e_tup (a_cons h (a_one h2)) (Nat.le_of_lt (by show 2 < 100000; decide))
end
/-! ### one phrase more on the shorter row -/
def step1 (words more text : Tx) : Option Ent :=
  if more.take text.length = text then some (words, more.drop text.length)
  else if text.take more.length = more then some (words ++ text.drop more.length, text.drop more.length) else none
def stepsB (texts : List Tx) (words more : Tx) : List Ent := texts.filterMap (step1 words more)
/-! ### the two rows that begin alike -/
def begin1 (text other : Tx) : Option Ent :=
  let short := if text.length < other.length then text else other
  let wide := if text.length < other.length then other else text
  if wide.take short.length = short then some (wide, wide.drop short.length) else none
def begins (texts : List Tx) : List Ent :=
  (List.range texts.length).flatMap fun i => (texts.take i).filterMap (begin1 (texts.getD i []))
end Sf

set_option Elab.async false
set_option linter.all false
set_option maxRecDepth 100000
set_option maxHeartbeats 4000000
namespace Sf
open PySem L2 LamX
abbrev S_steps_behind : Stmt := topS 30
abbrev N_steps_behind : List Str := ["texts", "words", "more", "found", "text"]
theorem sc_steps_behind : FnScope N_steps_behind ["texts", "words", "more"] (defScope S_steps_behind) := ⟨rfl, rfl, rfl, by decide +kernel, rfl, by decide +kernel, by decide +kernel⟩
/-- lists of at most 1000 texts, rows of at most 1000 words -/
def cSteps : List V → Hp → RP → Prop := fun vs H R => ∃ (v1 v2 v3 : V) (texts : List Tx) (words more : Tx), vs = [v1, v2, v3] ∧ isL (texts.map eT) v1 H ∧ IsD H v2 (eT words) ∧ IsD H v3 (eT more) ∧
  texts.length ≤ 1000 ∧ words.length ≤ 10000 ∧ (∀ t ∈ texts, t.length ≤ 10000) ∧ R = isLN H ((stepsB texts words more).map eE)
section
variable {T : List Tab} {P : Program} {w : World} {K : PySem.W.Frag} {mg : Str → Option Value} {base : Heap}
theorem stepsB_take {texts : List Tx} {words more : Tx} {i : Nat} {t : Tx} (h : texts[i]? = some t) : stepsB (texts.take (i + 1)) words more = stepsB (texts.take i) words more ++ (step1 words more t).toList := by
  have e : texts.take (i + 1) = texts.take i ++ [t] := by rw [List.take_add_one, h]; rfl
  unfold stepsB
  rw [e, List.filterMap_append]
  cases h1 : step1 words more t <;> simp [h1]
theorem ok_steps_behind {f : Addr} {fd : FuncData} (F : Fun K "steps_behind" "steps_behind" S_steps_behind f fd) (G : Gm mg) : FnOk P w K mg base CX0 1 f fd ["texts", "words", "more"] (SpP T cSteps) := by
  refine F.ok sc_steps_behind (fun vs H Q E h => ?_) (fun cdv A outer s H vs Q E hr h => ?_)
  · obtain ⟨R, ⟨_, _, _, _, _, _, rfl, _⟩, _⟩ := h
    rfl
  · obtain ⟨R, ⟨v1, v2, v3, texts, words, more, rfl, h1, h2, h3, hn, hw, ht, rfl⟩, q⟩ := h
    refine ⟨_, pss_cons (ps_set (i := 3) sc_steps_behind.nd rfl (Or.inl rfl) (pe_lst pa_nil))
    (pss_cons (ps_for PassesOwn.never rfl (pi_list (pv 0)) (pg_name (i := 4) sc_steps_behind.nd rfl (Or.inl rfl))
      (pss_one (ps_if (pt_cmpR (op_eqN hr.units) (pe_slice sl_tupA (pv 2) po_none (po_some (pe_callB call_len (by rfl) G.n_len PySem.boot_len (pa_cons (pv 4) pa_nil)))) (pv 4) (nomark _))
        (pss_one (ps_expr (pe_bm PySem.F.plainAttrs_list PySem.F.slot_list_append PySem.F.type_list_append mt_append (pv 3) (pa_cons (pe_tup (pa_cons (pv 1) (pa_cons (pe_slice sl_tupA (pv 2) (po_some (pe_callB call_len (by rfl) G.n_len PySem.boot_len (pa_cons (pv 4) pa_nil))) po_none) pa_nil))) pa_nil))))
        (pss_one (ps_if (pt_cmpR (op_eqN hr.units) (pe_slice sl_tupA (pv 4) po_none (po_some (pe_callB call_len (by rfl) G.n_len PySem.boot_len (pa_cons (pv 2) pa_nil)))) (pv 2) (nomark _))
          (pss_one (ps_expr (pe_bm PySem.F.plainAttrs_list PySem.F.slot_list_append PySem.F.type_list_append mt_append (pv 3) (pa_cons (pe_tup (pa_cons (pe_op op_catA (pv 1) (pe_slice sl_tupA (pv 4) (po_some (pe_callB call_len (by rfl) G.n_len PySem.boot_len (pa_cons (pv 2) pa_nil))) po_none)) (pa_cons (pe_slice sl_tupA (pv 4) (po_some (pe_callB call_len (by rfl) G.n_len PySem.boot_len (pa_cons (pv 2) pa_nil))) po_none) pa_nil))) pa_nil))))
          pss_nil)))))
    (pss_one (ps_ret (pv 3)))), ?_⟩
    refine s_seq (s_asg (e_lst (T := T) a_nil (by decide)) fun l H1 x1 r1 => ?_)
    obtain ⟨p, _, rfl, hp0, hp1, hnil⟩ := r1
    cases hnil
    -- for text in texts
    obtain ⟨a, us, rfl, ha, hu⟩ := x1.isL h1
    refine s_seq (f_list (T := T) (ds := texts.map eT) (R := isV (.ref a)) (e_v rfl) fun v H2 x2 e => ?_)
    obtain rfl : v = .ref a := e
    have hpa : p ≠ a := by
      obtain ⟨a', us', e', ha', _⟩ := h1
      cases e'
      rintro rfl
      rw [hp0] at ha'
      cases ha'
    refine ⟨a, us, rfl, x2.lst ha (by simp), hu.mono x2.tup, [p], fun i σ' H' => ∃ (z : Option V) (acc : List V), σ' = [some (.ref a), some v2, some v3, some (.ref p), z] ∧ Ext T [p] H2 H' ∧ H' p = some (.lst acc) ∧ IsDs H' acc ((stepsB (texts.take i) words more).map eE),
      by simpa using hpa.symm, ⟨none, [], rfl, Ext.refl _, x2.lst hp1 (by simp), .nil⟩, fun i σ' H' hP => ?_, fun i d x σ' H' hd hx hP => ?_, fun σ' H' hP => ?_⟩
    · obtain ⟨_, _, _, e, _⟩ := hP
      exact e
    · obtain ⟨z, acc, rfl, e, hacc, hE⟩ := hP
      rw [List.getElem?_map] at hd
      obtain ⟨t, htx, rfl⟩ := Option.map_eq_some_iff.mp hd
      have hi : i < texts.length := (List.getElem?_eq_some_iff.mp htx).1
      have hlen : t.length ≤ 10000 := ht t (List.mem_of_getElem? htx)
      have hal : acc.length < 100000 := by
        rw [hE.length, List.length_map]
        have := List.length_filterMap_le (step1 words more) (texts.take i)
        have : (stepsB (texts.take i) words more).length ≤ (texts.take i).length := this
        rw [List.length_take] at this
        omega
      have x12 := x1.trans x2
      have i2 : IsD H' v2 (eT words) := IsD.mono (x12.tup.trans e.tup) h2
      have i3 : IsD H' v3 (eT more) := IsD.mono (x12.tup.trans e.tup) h3
      have nxt : ∀ (v : V) (H3 : Hp) (en : Ent), Ext T [] H' H3 → IsD H3 v (eE en) → step1 words more t = some en →
          ∃ (z : Option V) (acc' : List V), [some (V.ref a), some v2, some v3, some (V.ref p), some x] = [some (.ref a), some v2, some v3, some (.ref p), z] ∧ Ext T [p] H2 (upd H3 p (.lst (acc ++ [v]))) ∧ (upd H3 p (.lst (acc ++ [v]))) p = some (.lst acc') ∧ IsDs (upd H3 p (.lst (acc ++ [v]))) acc' ((stepsB (texts.take (i + 1)) words more).map eE) := by
        intro v H3 en x3 r3 h1
        have h3p := x3.lst hacc (by simp)
        refine ⟨some x, acc ++ [v], rfl, (e.trans x3.wide).put (.inr (by simp)) h3p (noTab_lst _), upd_same, ?_⟩
        have tx := tex_put (u := .lst (acc ++ [v])) h3p (noTab_lst _)
        rw [stepsB_take htx, h1, List.map_append]
        exact IsDs.mono tx ((hE.mono x3.tup).append (.one r3))
      show tIfS _ _ _ _ _ _
      refine s_if (t_test (e_eqT (T := T) (e_take (e_t rfl i3) (e_lenT (e_t rfl hx))) (e_t rfl hx))) (fun hb H3 x3 => ?_) fun hb H3 x3 => ?_
      · -- found.append((words, more[len(text):]))
        refine s_append (i := 3) (T := T) (R := isT (eE (words, more.drop t.length))) (x3.lst hacc (by simp)) rfl (e_two (e_t rfl (x3.isT i2)) (e_drop (e_t rfl (x3.isT i3)) (e_lenT (e_t rfl (x3.isT hx))))) hal fun v H4 x4 r4 _ => ?_
        exact nxt v H4 _ (x3.trans x4) r4 (by unfold step1; rw [if_pos (of_decide_eq_true hb)])
      · show tIfS _ _ _ _ _ _
        refine s_if (t_test (e_eqT (T := T) (e_take (e_t rfl (x3.isT hx)) (e_lenT (e_t rfl (x3.isT i3)))) (e_t rfl (x3.isT i3)))) (fun hb2 H4 x4 => ?_) fun hb2 H4 x4 => ?_
        · have x34 := x3.trans x4
          refine s_append (i := 3) (T := T) (R := isT (eE (words ++ t.drop more.length, t.drop more.length))) (x34.lst hacc (by simp)) rfl
            (e_two (e_catT (e_t rfl (x34.isT i2)) (e_drop (e_t rfl (x34.isT hx)) (e_lenT (e_t rfl (x34.isT i3)))) (by rw [List.length_drop]; omega)) (e_drop (e_t rfl (x34.isT hx)) (e_lenT (e_t rfl (x34.isT i3))))) hal fun v H5 x5 r5 _ => ?_
          exact nxt v H5 _ (x34.trans x5) r5 (by unfold step1; rw [if_neg (of_decide_eq_false hb), if_pos (of_decide_eq_true hb2)])
        · refine ⟨some x, acc, rfl, e.trans (x3.trans x4).wide, (x3.trans x4).lst hacc (by simp), ?_⟩
          have h0 : step1 words more t = none := by unfold step1; rw [if_neg (of_decide_eq_false hb), if_neg (of_decide_eq_false hb2)]
          rw [stepsB_take htx, h0]
          show IsDs _ _ ((_ ++ []).map eE)
          rw [List.append_nil]
          exact hE.mono (x3.trans x4).tup
    · obtain ⟨z, acc, rfl, e, hacc, hE⟩ := hP
      rw [List.length_map, List.take_length] at hE
      refine s_ret (T := T) (R := isV (.ref p)) (e_v rfl) fun v H3 x3 e3 => ?_
      obtain rfl : v = .ref p := e3
      refine q _ H3 ?_ ⟨p, acc, rfl, hp0, x3.lst hacc (by simp), hE.mono x3.tup⟩
      exact ((x1.trans x2).loc e hp0).trans x3
end
end Sf

set_option Elab.async false
set_option linter.all false
set_option maxRecDepth 100000
set_option maxHeartbeats 4000000
/-! Words, isinstance, chains of comparisons. -/
namespace Sf
open PySem L2 LamX

/-- a word: 1 to 8 small letters -/
def OkW (w : Str) : Prop := 1 ≤ w.length ∧ w.length ≤ 8 ∧ ∀ c ∈ w.cps.toList, 97 ≤ c ∧ c ≤ 122
abbrev abc : Str := "abcdefghijklmnopqrstuvwxyz"
theorem abc_cps : (abc : Str).cps.toList = List.range' 97 26 := by decide +kernel
theorem abc_has {c : Nat} (h : 97 ≤ c ∧ c ≤ 122) : decide (c ∈ (abc : Str).cps.toList) = true := by
  rw [abc_cps]
  refine decide_eq_true ?_
  rw [List.mem_range'_1]
  omega
theorem OkW.blank {w : Str} (h : OkW w) : 32 ∉ w.cps.toList := fun z => by
  have := h.2.2 32 z
  omega
theorem OkW.ne {w : Str} (h : OkW w) : w ≠ "" := by
  rintro rfl
  have := h.1
  revert this
  decide +kernel
/-- the text of words -/
def joinW (ws : List Str) : Str := Txt.join " " ws
theorem tl_blank : TL.tl (" " : Str) = [32] := by decide +kernel
theorem split_joinW {ws : List Str} (hn : ws ≠ []) (h : ∀ w ∈ ws, OkW w) : Txt.split (joinW ws) " " = ws :=
  TL.split_join tl_blank (by decide +kernel) hn fun p hp => (h p hp).blank
theorem joinW_len : ∀ {ws : List Str}, (∀ w ∈ ws, OkW w) → (joinW ws).length ≤ 9 * ws.length := by
  intro ws
  unfold joinW
  rw [TL.join_eq]
  induction ws with
  | nil => intro _; decide +kernel
  | cons w ws ih =>
    intro h
    cases ws with
    | nil =>
      have := (h w (by simp)).2.1
      show w.length ≤ _
      simp
      omega
    | cons u us =>
      have h1 := (h w (by simp)).2.1
      have h2 := ih fun x hx => h x (List.mem_cons_of_mem _ hx)
      show (w ++ " " ++ Str.join " " (u :: us)).length ≤ _
      rw [TL.len_tl] at h1 h2 ⊢
      rw [TL.tl_append, TL.tl_append, List.length_append, List.length_append, tl_blank]
      simp only [List.length_cons, List.length_nil] at h2 ⊢
      omega
theorem joinW_inj {ws us : List Str} (h1 : ws ≠ []) (h2 : us ≠ []) (k1 : ∀ w ∈ ws, OkW w) (k2 : ∀ w ∈ us, OkW w) (h : joinW ws = joinW us) : ws = us := by
  rw [← split_joinW h1 k1, ← split_joinW h2 k2, h]

section
variable {T : List Tab} {K : PySem.W.Frag} {σ : L2.St} {H H' : Hp} {te ta tb tc tl : TE} {tt : TT} {R : RP} {d e f : D} {b c : Bool} {r r' : R2}
/-- the name of a tree's type -/
def tyN : D → String
  | .none => "NoneType"
  | .num _ => "int"
  | .text _ => "str"
  | .tup _ => "tuple"
theorem IsD.ty {v : V} (h : IsD H v d) : TyX K H v (.type (tyN d)) := by
  cases h with
  | non => exact .base .non
  | int i => exact .base (.int i)
  | str x => exact .base (.str x)
  | tup h _ => exact .base (.tup h)
theorem e_isi {n : String} (h : EvR T ta σ H (isT d)) (h2 : EvR T tb σ H (isV (.ty n))) (hb : kitB (tyN d) n = some b) : EvR T (tCB (rIsi K) (tCons ta (tCons tb tNil))) σ H (isB b) := fun H1 x Q q =>
  h H1 x _ fun v H2 x2 r => h2 H2 (x.trans x2) _ fun u H3 x3 e => by
    obtain rfl : u = .ty n := e
    exact ⟨v, .ty n, _, _, b, rfl, .ty n, (IsD.mono x3.tup r).ty, kit_ty hb, q _ H3 (x2.trans x3) rfl⟩
theorem e_isiT {n m : String} (h : EvR T ta σ H (isT d)) (h2 : EvR T tb σ H (isV (.ty n))) (h3 : EvR T tc σ H (isV (.ty m))) {b1 b2 : Bool} (hb : kitB (tyN d) n = some b1) (hc : kitB (tyN d) m = some b2) :
    EvR T (tCB (rIsiT K) (tCons ta (tCons (tTup (tCons tb (tCons tc tNil))) tNil))) σ H (isB (b1 || b2)) := fun H1 x Q q =>
  h H1 x _ fun v H2 x2 r => h2 H2 (x.trans x2) _ fun u H3 x3 e => h3 H3 ((x.trans x2).trans x3) _ fun w H4 x4 e2 => by
    obtain rfl : u = .ty n := e
    obtain rfl : w = .ty m := e2
    refine ⟨by show 2 ≤ sizeLine; decide, fun p hp => ?_⟩
    have x5 : Ext T [] H4 (upd H4 p (.tup [.ty n, .ty m])) := Ext.new hp
    refine ⟨v, p, [.ty n, .ty m], _, _, b1 || b2, rfl, upd_same, .cons (.ty n) (.cons (.ty m) .nil), (IsD.mono ((x3.trans x4).trans x5).tup r).ty, ?_, q _ _ (((x2.trans x3).trans x4).trans x5) rfl⟩
    cases b1 with
    | true => exact kitAny_cons (kit_ty hb) (fun z => nomatch z) fun _ => rfl
    | false =>
      refine kitAny_cons (kit_ty hb) (fun _ => ?_) fun z => nomatch z
      cases b2 with
      | true => exact kitAny_cons (kit_ty hc) (fun z => nomatch z) fun _ => rfl
      | false => exact kitAny_cons (kit_ty hc) (fun _ => kitAny_nil) fun z => nomatch z
/-- i <= j <= k and its like -/
theorem e_chain {i j k : Int} {p q : Int → Int → Bool} (ha : EvR T ta σ H (isT (.num i))) (hb : EvR T tb σ H (isT (.num j))) (hc : EvR T tc σ H (isT (.num k))) :
    EvR T (tChain (rI0 fun i j => .bl (p i j)) (rI0 fun i j => .bl (q i j)) ta tb tc) σ H (isB (p i j && q j k)) := fun H1 x Q qq =>
  ha H1 x _ fun v H2 x2 r1 => hb H2 (x.trans x2) _ fun u H3 x3 r2 => by
    obtain rfl := r1.int_inv
    obtain rfl := r2.int_inv
    refine ⟨i, j, rfl, rfl, p i j, rfl, ?_⟩
    cases hp : p i j with
    | true =>
      show tc σ H3 _
      refine hc H3 ((x.trans x2).trans x3) _ fun w H4 x4 r3 => ?_
      obtain rfl := r3.int_inv
      exact ⟨j, k, rfl, rfl, qq _ H4 ((x2.trans x3).trans x4) (by rw [hp]; rfl)⟩
    | false =>
      show Q (.bl false) H3
      exact qq _ H3 (x2.trans x3) (by rw [hp]; rfl)
def rLenS : List V → Hp → VK → Prop := fun xs H Q => ∃ z : Str, xs = [.str z] ∧ z.length ≤ sizeLine ∧ Q (.int z.length) H
theorem e_lenS {x : Str} (h : EvR T ta σ H (isT (.text x))) (hz : x.length ≤ 100000) : EvR T (tCB rLenS (tCons ta tNil)) σ H (isT (.num (x.length : Int))) := e_cb (a_any h) fun vs H1 _ p Q q => by
  obtain ⟨v, rfl, r⟩ := p
  obtain rfl := r.str_inv
  exact ⟨x, rfl, sz hz, q _ H1 (Ext.refl H1) (.int _)⟩
def rInSign : R2 := fun x y H Q => ∃ (c : Nat) (z : Str), x = .str ⟨#[c]⟩ ∧ y = .str z ∧ Q (.bl (decide (c ∈ z.cps.toList))) H
theorem e_inSign {c : Nat} {z : Str} (ha : EvR T ta σ H (isT (.text ⟨#[c]⟩))) (hb : EvR T tb σ H (isT (.text z))) : EvR T (tOp rInSign ta tb) σ H (isB (decide (c ∈ z.cps.toList))) :=
  e_opT ha hb fun x y H1 _ h1 h2 Q q => by
    obtain rfl := h1.str_inv
    obtain rfl := h2.str_inv
    exact ⟨c, z, rfl, rfl, q _ H1 (Ext.refl H1) rfl⟩
/-- all of a text's signs -/
theorem c_signs {x : Str} {j : Nat} {vs : List Nat} {f : Nat → Bool} (h : EvR T tl σ H (isT (.text x))) (hz : x.length ≤ 50000) (hw : ∀ v, wipe ((wipe σ vs).set j (some v)) vs = wipe σ vs)
    (hs : ∀ c H1, Ext T [] H H1 → c ∈ x.cps.toList → EvR T te ((wipe σ vs).set j (some (.str ⟨#[c]⟩))) H1 (isB (f c))) : EvR T (tLc (iStr tl) (gName j) tYes te vs) σ H (fun v H2 => ∃ a, v = .ref a ∧ H2 a = some (.lst ((x.cps.toList.map f).map V.bl))) := fun H1 xa Q q => h H1 xa _ fun v H2 x2 r => by
  obtain rfl := r.str_inv
  refine ⟨x, rfl, fun L hL => ?_⟩
  have hlen : x.cps.size = x.cps.toList.length := by simp
  refine lc_it (walk_str (z := x)) (fun i H' => Ext T [] H2 H' ∧ H' L = some (.lst (((x.cps.toList.take i).map f).map V.bl))) ⟨Ext.new hL, upd_same⟩ (fun _ _ _ _ => trivial) (fun i v H' H'' hi hp hy => ?_) fun H' hp => ?_
  · obtain ⟨rfl, c, hc, rfl⟩ := hy
    obtain ⟨e, hacc⟩ := hp
    have hc' : x.cps.toList[i]? = some c := by simpa using hc
    refine ⟨hw _, ?_⟩
    show te _ _ _
    refine (hs c _ ((xa.trans x2).trans e) (List.mem_of_getElem? hc')).run fun y H4 x4 r4 => ?_
    obtain rfl : y = .bl (f c) := r4
    refine ⟨_, x4.lst hacc (by simp), ?_, (e.trans x4).put (.inl hL) (x4.lst hacc (by simp)) (noTab_lst _), ?_⟩
    · rw [List.length_map, List.length_map, List.length_take]
      have : x.cps.size = x.length := rfl
      exact sz' (by omega)
    · rw [upd_same, List.take_add_one, hc', List.map_append, List.map_append]
      rfl
  · obtain ⟨e, hacc⟩ := hp
    rw [hlen, List.take_length] at hacc
    exact q _ H' (x2.trans e) ⟨L, rfl, hacc⟩
theorem e_allB {bs : List Bool} (h : EvR T te σ H (fun v H2 => ∃ a, v = .ref a ∧ H2 a = some (.lst (bs.map V.bl)))) : EvR T (tCB (rAll K) (tCons te tNil)) σ H (isB (bs.all id)) := e_cb (a_any h) fun vs H1 _ hp Q q => by
  obtain ⟨v, rfl, a, rfl, ha⟩ := hp
  exact ⟨a, bs, rfl, SqL.of ha, q _ H1 (Ext.refl H1) rfl⟩
end
section
variable {X : Cx}
theorem call_lenS : CallR X (.builtin "len") rLenS := call_len_str
theorem op_inSign : OpR X (compareOp .In) rInSign := op_in_sign
end
end Sf

set_option Elab.async false
set_option linter.all false
set_option maxRecDepth 100000
set_option maxHeartbeats 4000000
/-! The rules with the written part named: for use within comprehensions. -/
namespace Sf
open PySem L2 LamX
section
variable {X : Cx} {K : PySem.W.Frag}
theorem slT (h : X.K = K) : SlR X (rSlA K) := h ▸ sl_tupA
theorem slL (h : X.K = K) : SlR X (rSlL K) := h ▸ sl_list
theorem ixT (h : X.K = K) : IxR X (rIxT K) := h ▸ ix_tup
theorem ixL (h : X.K = K) : IxR X (rIxL K) := h ▸ ix_list
theorem catT (h : X.K = K) : OpR X (binaryOp .Add) (rCatA K) := h ▸ op_catA
theorem inN (h : X.K = K) (hu : X.A.units + 64 < cLine) : OpR X (compareOp .In) (rInN K false) := h ▸ op_inN hu
theorem notInN (h : X.K = K) (hu : X.A.units + 64 < cLine) : OpR X (compareOp .NotIn) (rInN K true) := h ▸ op_notInN hu
theorem allK (h : X.K = K) (hc : X.calm = true) : CallR X (.builtin "all") (rAll K) := h ▸ cr_all hc
theorem anyK (h : X.K = K) (hc : X.calm = true) : CallR X (.builtin "any") (rAny K) := h ▸ cr_any hc
theorem isiK (h : X.K = K) : CallR X (.builtin "isinstance") (rIsi K) := h ▸ call_isi
theorem isiTK (h : X.K = K) : CallR X (.builtin "isinstance") (rIsiT K) := h ▸ call_isiT
theorem tupOfK (h : X.K = K) : CallR X (.type "tuple") (rTupOf K) := h ▸ call_tupOf
theorem lstOfK (h : X.K = K) : CallR X (.type "list") (rLstOf K) := h ▸ call_lstOf
theorem lenK (h : X.K = K) : CallR X (.builtin "len") (rLen K) := h ▸ call_len
theorem pi_listK {tg l : Expr} {tl : TE} (h : X.K = K) (hl : PE X l tl) : PI X tg l (iList K tl) := h ▸ pi_list hl
theorem pi_tupK {tg l : Expr} {tl : TE} (h : X.K = K) (hl : PE X l tl) : PI X tg l (iTup K tl) := h ▸ pi_tup hl
theorem pg_tupK {es : List Expr} {k : Nat} {t : TGs} {n : Nat} {pos : Pos} (h : X.K = K) (hc : X.calm = true) (hs : PGs X es t)
    (hn : (assignEach es X.env).length = n := by rfl) (hst : (assignEach es X.env).findIdx? (·.1) = none := by rfl) : PG X (.Tuple es k pos) (gTup K n t) := h ▸ pg_tup hc hs hn hst
theorem joinK {o e : Expr} {to te : TE} {apos pos : Pos} (h : X.K = K) (ho : PE X o to) (he : PE X e te) (hs : starEach [e] X.env = [(false, eval e X.env)] := by rfl) (hbase : attributeBase o "join" X.env (eval o X.env) = eval o X.env := by rfl) (hline : (apos.endLine == pos.line) = true := by rfl) :
    PE X (.Call (.Attribute o "join" apos) [e] [] pos) (tM1 (rJoin K) to te) := h ▸ px_join ho he hs hbase hline
end
end Sf

set_option Elab.async false
set_option linter.all false
set_option maxRecDepth 100000
set_option maxHeartbeats 4000000
/-! is_sequence, is_word, words_of, texts_of, said_words, ends_at. -/
namespace Sf
open PySem L2 LamX
abbrev S_is_sequence : Stmt := topS 5
abbrev N_is_sequence : List Str := ["value"]
abbrev P_is_sequence : List Str := ["value"]
theorem sc_is_sequence : FnScope N_is_sequence P_is_sequence (defScope S_is_sequence) := ⟨rfl, rfl, rfl, by decide +kernel, rfl, by decide +kernel, by decide +kernel⟩
abbrev S_is_word_core : Stmt := topS 6
abbrev N_is_word_core : List Str := ["value", "sign"]
abbrev P_is_word_core : List Str := ["value"]
theorem sc_is_word_core : FnScope N_is_word_core P_is_word_core (defScope S_is_word_core) := ⟨rfl, rfl, rfl, by decide +kernel, rfl, by decide +kernel, by decide +kernel⟩
abbrev S_is_word_forms : Stmt := topS 40
abbrev N_is_word_forms : List Str := ["value", "sign"]
abbrev P_is_word_forms : List Str := ["value"]
theorem sc_is_word_forms : FnScope N_is_word_forms P_is_word_forms (defScope S_is_word_forms) := ⟨rfl, rfl, rfl, by decide +kernel, rfl, by decide +kernel, by decide +kernel⟩
abbrev S_words_of : Stmt := topS 8
abbrev N_words_of : List Str := ["value", "words", "word"]
abbrev P_words_of : List Str := ["value"]
theorem sc_words_of : FnScope N_words_of P_words_of (defScope S_words_of) := ⟨rfl, rfl, rfl, by decide +kernel, rfl, by decide +kernel, by decide +kernel⟩
abbrev S_texts_of : Stmt := topS 21
abbrev N_texts_of : List Str := ["phrases", "text", "act"]
abbrev P_texts_of : List Str := ["phrases"]
theorem sc_texts_of : FnScope N_texts_of P_texts_of (defScope S_texts_of) := ⟨rfl, rfl, rfl, by decide +kernel, rfl, by decide +kernel, by decide +kernel⟩
abbrev S_said_words : Stmt := topS 22
abbrev N_said_words : List Str := ["utterance", "word"]
abbrev P_said_words : List Str := ["utterance"]
theorem sc_said_words : FnScope N_said_words P_said_words (defScope S_said_words) := ⟨rfl, rfl, rfl, by decide +kernel, rfl, by decide +kernel, by decide +kernel⟩
abbrev S_ends_at : Stmt := topS 23
abbrev N_ends_at : List Str := ["words", "at", "rows", "text", "act"]
abbrev P_ends_at : List Str := ["words", "at", "rows"]
theorem sc_ends_at : FnScope N_ends_at P_ends_at (defScope S_ends_at) := ⟨rfl, rfl, rfl, by decide +kernel, rfl, by decide +kernel, by decide +kernel⟩
theorem kTL : kitB "tuple" "list" = some false := by decide +kernel
theorem kTT : kitB "tuple" "tuple" = some true := by decide +kernel
theorem kSS : kitB "str" "str" = some true := by decide +kernel
def cIsSeq : List V → Hp → RP → Prop := fun vs H R => ∃ v ds, vs = [v] ∧ IsD H v (.tup ds) ∧ R = isB true
def cIsWord : List V → Hp → RP → Prop := fun vs H R => ∃ w : Str, vs = [.str w] ∧ OkW w ∧ R = isB true
/-- texts of 1 to 40 words -/
structure OkT (ws : List Str) : Prop where
  ne : ws ≠ []
  len : ws.length ≤ 40
  ok : ∀ w ∈ ws, OkW w
def cWordsOf : List V → Hp → RP → Prop := fun vs H R => ∃ ws : List Str, vs = [.str (joinW ws)] ∧ OkT ws ∧ R = isT (eT ws)
/-- phrases: the words of the text, the act -/
abbrev Ph := Tx × Tx
abbrev eP (p : Ph) : D := .tup [.text (joinW p.1), eT p.2]
abbrev ePs (ps : List Ph) : D := .tup (ps.map eP)
def cTextsOf : List V → Hp → RP → Prop := fun vs H R => ∃ (v : V) (ps : List Ph), vs = [v] ∧ IsD H v (ePs ps) ∧ (∀ p ∈ ps, OkT p.1) ∧ ps.length ≤ 1000 ∧ R = isLN H (ps.map eE)
def cSaid : List V → Hp → RP → Prop := fun vs H R => ∃ (u : Str), vs = [.str u] ∧ u.length ≤ 40000 ∧ R = isT (eT ((Txt.split u " ").filter fun w => !decide (w = "")))
/-- the places behind the phrases that stand at a place -/
def endsAt (words : Tx) (at_ : Nat) (rows : List Ph) : List (Nat × Tx) := (rows.filter fun r => decide ((words.drop at_).take r.1.length = r.1)).map fun r => (at_ + r.1.length, r.2)
abbrev eN (x : Nat × Tx) : D := .tup [.num (x.1 : Int), eT x.2]
def cEnds : List V → Hp → RP → Prop := fun vs H R => ∃ (v1 v3 : V) (words : Tx) (n : Nat) (rows : List Ph), vs = [v1, .int (n : Int), v3] ∧ IsD H v1 (eT words) ∧ isL (rows.map eE) v3 H ∧ rows.length ≤ 1000 ∧ R = isLN H ((endsAt words n rows).map eN)
section
variable {T : List Tab} {P : Program} {w : World} {K : PySem.W.Frag} {mg : Str → Option Value} {base : Heap}
theorem ok_is_sequence {f : Addr} {fd : FuncData} (F : Fun K "is_sequence" "is_sequence" S_is_sequence f fd) (G : Gm mg) : FnOk P w K mg base CX0 1 f fd P_is_sequence (SpP T cIsSeq) := by
  refine F.ok sc_is_sequence (fun vs H Q E h => ?_) (fun cdv A outer s H vs Q E hr h => ?_)
  · obtain ⟨R, ⟨_, _, rfl, _⟩, _⟩ := h
    rfl
  · obtain ⟨R, ⟨v, ds, rfl, h1, rfl⟩, q⟩ := h
    refine ⟨_, (pss_one (ps_ret (pe_callB (isiTK (K := K) rfl) (by rfl) G.n_isinstance (by decide +kernel) (pa_cons (pv 0) (pa_cons (pe_tup (pa_cons (pe_ty G.n_list PyProof.Rows.boot_list) (pa_cons (pe_ty G.n_tuple PyProof.Rows.boot_tuple) pa_nil))) pa_nil))))), ?_⟩
    exact s_ret (T := T) (e_isiT (b1 := false) (b2 := true) (e_t rfl h1) e_c e_c kTL kTT) fun v H1 x r => q v H1 x r
theorem ok_is_word_core {f : Addr} {fd : FuncData} (F : Fun K "is_word" "is_word" S_is_word_core f fd) (G : Gm mg) : FnOk P w K mg base CX0 1 f fd P_is_word_core (SpP T cIsWord) := by
  refine F.ok sc_is_word_core (fun vs H Q E h => ?_) (fun cdv A outer s H vs Q E hr h => ?_)
  · obtain ⟨R, ⟨_, rfl, _⟩, _⟩ := h
    rfl
  · obtain ⟨R, ⟨z, rfl, hz, rfl⟩, q⟩ := h
    refine ⟨_, (pss_cons (ps_if (PW.pt (pw_or (pt_not (pt_val (pe_callB (isiK (K := K) rfl) (by rfl) G.n_isinstance (by decide +kernel) (pa_cons (pv 0) (pa_cons (pe_ty G.n_str PyProof.Rows.boot_str) pa_nil))))) (pw_or1 (pt_not (pt_chain op_le op_le pe_int (pe_callB call_lenS (by rfl) G.n_len PySem.boot_len (pa_cons (pv 0) pa_nil)) (pe_gi G.c_MOST_LETTERS_core_speech))))))
      (pss_one (ps_ret pe_bl))
      pss_nil)
    (pss_one (ps_ret (pe_callB (allK (K := K) rfl rfl) (by rfl) G.n_all (by decide +kernel) (pa_cons (pe_lc (own := [("sign", 1)]) rfl sc_is_word_core.nd (pi_str (pv 0)) (blkOk_by (own := [("sign", 1)]) (N := N_is_word_core) (sc := defScope S_is_word_core) (by decide +kernel)) (fun _ _ _ _ _ => by exact (pg_name (i := 1) sc_is_word_core.nd rfl (Or.inl rfl) (Or.inr rfl))) (fun _ _ _ _ _ => by exact pts_nil) (fun _ _ _ _ _ => by exact (pe_cmpR op_inSign (pv 1) (pe_gs G.c_LETTERS_core_speech) rfl))) pa_nil))))), ?_⟩
    have hv : ∀ H, IsD H (.str z) (.text z) := fun H => .str z
    refine s_seq (s_no (T := T) ((t_or (b := false) (c := false) ((t_not (t_b (e_isi (b := true) (e_t rfl (hv _)) e_c kSS))).eq rfl) fun _ => (t_not (t_b (e_chain e_int (e_lenS (e_t rfl (hv _)) (by have := hz.2.1; omega)) e_int))).eq ?_).eq rfl) fun H1 x1 => ?_)
    · have h1 := hz.1
      have h2 := hz.2.1
      rw [decide_eq_true (show (1 : Int) ≤ (z.length : Int) by omega), decide_eq_true (show (z.length : Int) ≤ 8 by omega)]
      rfl
    · refine s_ret (T := T) ((e_allB (bs := z.cps.toList.map fun _ => true) (c_signs (e_t rfl (hv _)) (by have := hz.2.1; omega) (fun _ => rfl) fun c H2 x2 hc => (e_inSign (e_t rfl (.str _)) e_str).eqB (abc_has (hz.2.2 c hc)))).eqB ?_) fun v H2 x2 r => q v H2 (x1.trans x2) r
      simp
theorem ok_is_word_forms {f : Addr} {fd : FuncData} (F : Fun K "is_word" "is_word" S_is_word_forms f fd) (G : Gm mg) : FnOk P w K mg base CX0 1 f fd P_is_word_forms (SpP T cIsWord) := by
  refine F.ok sc_is_word_forms (fun vs H Q E h => ?_) (fun cdv A outer s H vs Q E hr h => ?_)
  · obtain ⟨R, ⟨_, rfl, _⟩, _⟩ := h
    rfl
  · obtain ⟨R, ⟨z, rfl, hz, rfl⟩, q⟩ := h
    refine ⟨_, (pss_cons (ps_if (PW.pt (pw_or (pt_not (pt_val (pe_callB (isiK (K := K) rfl) (by rfl) G.n_isinstance (by decide +kernel) (pa_cons (pv 0) (pa_cons (pe_ty G.n_str PyProof.Rows.boot_str) pa_nil))))) (pw_or1 (pt_not (pt_chain op_le op_le pe_int (pe_callB call_lenS (by rfl) G.n_len PySem.boot_len (pa_cons (pv 0) pa_nil)) (pe_gi G.c_MOST_LETTERS_forms))))))
      (pss_one (ps_ret pe_bl))
      pss_nil)
    (pss_one (ps_ret (pe_callB (allK (K := K) rfl rfl) (by rfl) G.n_all (by decide +kernel) (pa_cons (pe_lc (own := [("sign", 1)]) rfl sc_is_word_forms.nd (pi_str (pv 0)) (blkOk_by (own := [("sign", 1)]) (N := N_is_word_forms) (sc := defScope S_is_word_forms) (by decide +kernel)) (fun _ _ _ _ _ => by exact (pg_name (i := 1) sc_is_word_forms.nd rfl (Or.inl rfl) (Or.inr rfl))) (fun _ _ _ _ _ => by exact pts_nil) (fun _ _ _ _ _ => by exact (pe_cmpR op_inSign (pv 1) (pe_gs G.c_LETTERS_forms) rfl))) pa_nil))))), ?_⟩
    have hv : ∀ H, IsD H (.str z) (.text z) := fun H => .str z
    refine s_seq (s_no (T := T) ((t_or (b := false) (c := false) ((t_not (t_b (e_isi (b := true) (e_t rfl (hv _)) e_c kSS))).eq rfl) fun _ => (t_not (t_b (e_chain e_int (e_lenS (e_t rfl (hv _)) (by have := hz.2.1; omega)) e_int))).eq ?_).eq rfl) fun H1 x1 => ?_)
    · have h1 := hz.1
      have h2 := hz.2.1
      rw [decide_eq_true (show (1 : Int) ≤ (z.length : Int) by omega), decide_eq_true (show (z.length : Int) ≤ 8 by omega)]
      rfl
    · refine s_ret (T := T) ((e_allB (bs := z.cps.toList.map fun _ => true) (c_signs (e_t rfl (hv _)) (by have := hz.2.1; omega) (fun _ => rfl) fun c H2 x2 hc => (e_inSign (e_t rfl (.str _)) e_str).eqB (abc_has (hz.2.2 c hc)))).eqB ?_) fun v H2 x2 r => q v H2 (x1.trans x2) r
      simp
theorem ok_words_of {f : Addr} {fd : FuncData} (F : Fun K "words_of" "words_of" S_words_of f fd) (G : Gm mg) (A_is_word_core_speech : At P w K mg base 1 "is_word_core_speech" P_is_word_core (SpP T cIsWord)) : FnOk P w K mg base CX0 2 f fd P_words_of (SpP T cWordsOf) := by
  refine F.ok sc_words_of (fun vs H Q E h => ?_) (fun cdv A outer s H vs Q E hr h => ?_)
  · obtain ⟨R, ⟨_, rfl, _⟩, _⟩ := h
    rfl
  · obtain ⟨R, ⟨ws, rfl, hws, rfl⟩, q⟩ := h
    refine ⟨_, (pss_cons (ps_if (pt_not (pt_val (pe_callB (isiK (K := K) rfl) (by rfl) G.n_isinstance (by decide +kernel) (pa_cons (pv 0) (pa_cons (pe_ty G.n_str PyProof.Rows.boot_str) pa_nil)))))
      (pss_one (ps_ret pe_non))
      pss_nil)
    (pss_cons (ps_set (i := 1) sc_words_of.nd rfl (Or.inl rfl) (pe_callTy (tupOfK (K := K) rfl) (by rfl) G.n_tuple (by decide +kernel) (pa_cons (px_split (pv 0) pe_str) pa_nil)))
    (pss_one (ps_ret (pe_ifExp (pt_val (pe_callB (allK (K := K) rfl rfl) (by rfl) G.n_all (by decide +kernel) (pa_cons (pe_lc (own := [("word", 2)]) rfl sc_words_of.nd (pi_tupK (K := K) rfl (pv 1)) (blkOk_by (own := [("word", 2)]) (N := N_words_of) (sc := defScope S_words_of) (by decide +kernel)) (fun _ _ _ _ _ => by exact (pg_name (i := 2) sc_words_of.nd rfl (Or.inl rfl) (Or.inr rfl))) (fun _ _ _ _ _ => by exact pts_nil) (fun _ _ _ _ _ => by exact (pe_fn A_is_word_core_speech (hr.mono (by decide)) (pa_cons (pv 2) pa_nil)))) pa_nil))) (pv 1) pe_non))))), ?_⟩
    have hv : ∀ H, IsD H (.str (joinW ws)) (.text (joinW ws)) := fun H => .str _
    have hl := joinW_len hws.ok
    have hn := hws.len
    refine s_seq (s_no (T := T) ((t_not (t_b (e_isi (b := true) (e_t rfl (hv _)) e_c kSS))).eq rfl) fun H1 x1 => ?_)
    refine s_seq (s_asg (T := T) (e_tupOf ((e_split (e_t rfl (hv _)) e_str (by decide +kernel) (by omega)).imp fun _ _ _ r => r.l)) fun v H2 x2 r2 => ?_)
    rw [split_joinW hws.ne hws.ok] at r2
    refine s_ret (T := T) (e_if (b := true) (t_b ((e_all (f := fun _ => true) (c_tup (xs := ws) (en := NestedKey.text) (RE := fun _ => isB true) (stB (f := fun _ => true)) (e_t rfl r2) (by omega) (fun _ => true) fun d hd x H3 x3 hx Q k => ?_)).eqB (by simp))) (fun _ => e_t rfl r2) fun z => nomatch z) fun v' H3 x3 r => q v' H3 ((x1.trans x2).trans x3) r
    refine k _ rfl t_yes fun _ => ?_
    exact e_fn (a_any (e_t rfl hx)) fun vs H4 x4 hp => by
      obtain ⟨u, rfl, hu⟩ := hp
      obtain rfl := IsD.str_inv hu
      exact ⟨_, ⟨d, rfl, hws.ok d hd, rfl⟩, fun _ _ r => r⟩
theorem ok_texts_of {f : Addr} {fd : FuncData} (F : Fun K "texts_of" "texts_of" S_texts_of f fd) (G : Gm mg) : FnOk P w K mg base CX0 1 f fd P_texts_of (SpP T cTextsOf) := by
  refine F.ok sc_texts_of (fun vs H Q E h => ?_) (fun cdv A outer s H vs Q E hr h => ?_)
  · obtain ⟨R, ⟨_, _, rfl, _⟩, _⟩ := h
    rfl
  · obtain ⟨R, ⟨v, ps, rfl, h1, hok, hn, rfl⟩, q⟩ := h
    refine ⟨_, (pss_one (ps_ret (pe_lc (own := [("text", 1), ("act", 2)]) rfl sc_texts_of.nd (pi_tupK (K := K) rfl (pv 0)) (blkOk_by (own := [("text", 1), ("act", 2)]) (N := N_texts_of) (sc := defScope S_texts_of) (by decide +kernel)) (fun _ _ _ _ _ => by exact (pg_tupK (K := K) (n := 2) rfl rfl (pgs_cons (pg_name (i := 1) sc_texts_of.nd rfl (Or.inl rfl) (Or.inr rfl)) (pgs_cons (pg_name (i := 2) sc_texts_of.nd rfl (Or.inl rfl) (Or.inr rfl)) pgs_nil)))) (fun _ _ _ _ _ => by exact pts_nil) (fun _ _ _ _ _ => by exact (pe_tup (pa_cons (pe_callTy (tupOfK (K := K) rfl) (by rfl) G.n_tuple (by decide +kernel) (pa_cons (px_split (pv 1) pe_str) pa_nil)) (pa_cons (pv 2) pa_nil))))))), ?_⟩
    refine s_ret (T := T) (R := isLN H (ps.map eE)) ?_ fun v' H1 x r => q v' H1 x r
    refine EvR.imp (c_tup (xs := ps) (en := eP) (RE := fun p => isT (eE p)) stT (e_t rfl h1) (by omega) (fun _ => true) fun p hp x H1 x1 hx Q k => ?_) fun v' H2 _ r => ?_
    · have ho := hok p hp
      have hl := joinW_len ho.ok
      have hn := ho.len
      refine g_pair hx fun v1 v2 i1 i2 => ?_
      refine k _ rfl t_yes fun _ => ?_
      refine e_two (e_tupOf ((e_split (e_t rfl i1) e_str (by decide +kernel) (by omega)).imp fun _ _ _ r => ?_)) (e_t rfl i2)
      rw [split_joinW ho.ne ho.ok] at r
      exact r.l
    · rw [List.filter_eq_self.mpr fun _ _ => rfl] at r
      exact isEach.ln r
end
end Sf

set_option Elab.async false
set_option linter.all false
set_option maxRecDepth 100000
set_option maxHeartbeats 4000000
/-! said_words, ends_at, beginnings. -/
namespace Sf
open PySem L2 LamX
section
variable {T : List Tab} {K : PySem.W.Frag} {σ : L2.St} {H : Hp} {ta : TE} {tu : TS} {R : RP} {ds : List D} {E : Ends} {i1 i2 : Nat}
theorem f_enum (h : EvR T ta σ H R) (k : ∀ v H1, Ext T [] H H1 → R v H1 → ∃ a vs, v = .ref a ∧ H1 a = some (.lst vs) ∧ IsDs H1 vs ds ∧ ∃ (ex : List Addr) (Pv : Nat → L2.St → Hp → Prop), a ∉ ex ∧ Pv 0 σ H1 ∧ (∀ i σ' H', Pv i σ' H' → Ext T ex H1 H') ∧
      (∀ i d x σ' H' H'', ds[i]? = some d → IsD H'' x d → Ext T [] H' H'' → Pv i σ' H' → tu { E with nx := Pv (i + 1), ct := Pv (i + 1), bk := E.nx } ((σ'.set i1 (some (.int (i : Int)))).set i2 (some x)) H'') ∧ (∀ σ' H', Pv ds.length σ' H' → E.nx σ' H')) :
    tFor (iEnum K (tCons ta tNil)) (gTup K 2 (gCons (gName i1) (gCons (gName i2) gNil))) tu E σ H := h.run fun v H1 x r => by
  obtain ⟨a, vs, rfl, ha, hvs, ex, Pv, hx, h0, hG, hs, hd⟩ := k v H1 x r
  refine ⟨a, vs, rfl, SqL.of ha, for_it (walk_enum (xs := vs)) Pv h0 (fun i σ' H' _ p => SqL.of ((hG i σ' H' p).lst ha hx)) (fun i y σ' H' H'' hi p hy => ?_) fun σ' H' p => hd σ' H' (by rw [← hvs.length]; exact p)⟩
  obtain ⟨t, z, u, rfl, ht, rfl, ez, eu⟩ := hy
  have ez' : V.int (i : Int) = z := by simpa using ez
  subst ez'
  obtain ⟨d, e1, e2⟩ := hvs.getV eu
  have x2 : Ext T [] H' (upd H' t (.tup [V.int (i : Int), u])) := Ext.new ht
  exact ⟨t, _, rfl, SqT.of upd_same, rfl, _, _, rfl, _, _, rfl, rfl, hs i d u σ' H' _ e1 (IsD.mono ((hG i σ' H' p).tup.trans x2.tup) e2) x2 p⟩
end
abbrev S_beginnings : Stmt := topS 29
abbrev N_beginnings : List Str := ["texts", "found", "at", "text", "other", "short", "wide"]
abbrev P_beginnings : List Str := ["texts"]
theorem sc_beginnings : FnScope N_beginnings P_beginnings (defScope S_beginnings) := ⟨rfl, rfl, rfl, by decide +kernel, rfl, by decide +kernel, by decide +kernel⟩
theorem spl_len : ∀ (l : List Nat) (k : Nat) (acc : List Nat), (TL.spl [32] k acc l).length ≤ l.length + 1
  | [], k, acc => by
    rw [TL.spl_nil]
    exact Nat.le_refl _
  | c :: l, 0, acc => by
    show (if TL.pre [32] (c :: l) = true then acc :: TL.spl [32] 0 [] l else TL.spl [32] 0 (acc ++ [c]) l).length ≤ l.length + 1 + 1
    have h1 := spl_len l 0 []
    have h2 := spl_len l 0 (acc ++ [c])
    split
    · simp only [List.length_cons]
      omega
    · omega
  | c :: l, k + 1, acc => by
    show (TL.spl [32] k acc l).length ≤ l.length + 1 + 1
    have h1 := spl_len l k acc
    omega
theorem split_length (u : Str) : (Txt.split u " ").length ≤ u.length + 1 := by
  have h := TL.split_spl u " " (by rw [tl_blank]; simp) (TL.kind_ok (by decide +kernel))
  have h2 := congrArg List.length h
  rw [List.length_map] at h2
  rw [h2, tl_blank, TL.len_tl]
  exact spl_len _ _ _
section
variable {T : List Tab} {P : Program} {w : World} {K : PySem.W.Frag} {mg : Str → Option Value} {base : Heap}
theorem ok_said_words {f : Addr} {fd : FuncData} (F : Fun K "said_words" "said_words" S_said_words f fd) (G : Gm mg) : FnOk P w K mg base CX0 1 f fd P_said_words (SpP T cSaid) := by
  refine F.ok sc_said_words (fun vs H Q E h => ?_) (fun cdv A outer s H vs Q E hr h => ?_)
  · obtain ⟨R, ⟨_, rfl, _⟩, _⟩ := h
    rfl
  · obtain ⟨R, ⟨u, rfl, hu, rfl⟩, q⟩ := h
    refine ⟨_, (pss_one (ps_ret (pe_callTy (tupOfK (K := K) rfl) (by rfl) G.n_tuple (by decide +kernel) (pa_cons (pe_lc (own := [("word", 1)]) rfl sc_said_words.nd (pi_listK (K := K) rfl (px_split (pv 0) pe_str)) (blkOk_by (own := [("word", 1)]) (N := N_said_words) (sc := defScope S_said_words) (by decide +kernel)) (fun _ _ _ _ _ => by exact (pg_name (i := 1) sc_said_words.nd rfl (Or.inl rfl) (Or.inr rfl))) (fun _ _ _ _ _ => by exact (pts_one (pt_cmpR op_ne (pv 1) pe_str (nomark _)))) (fun _ _ _ _ _ => by exact (pv 1))) pa_nil)))), ?_⟩
    have hlen : (Txt.split u " ").length ≤ 50000 := by have := split_length u; omega
    refine s_ret (T := T) (e_tupOf (EvR.imp (c_lst (xs := Txt.split u " ") (en := NestedKey.text) (RE := fun x => isT (.text x)) stT ((e_split (e_t rfl (.str u)) e_str (by decide +kernel) (by omega)).imp fun _ _ _ r => r.l) (by omega) (fun w => !decide (w = "")) fun d hd x H1 x1 hx Q k => ?_) fun v' H2 _ r => (isEach.ln r).l)) fun v H1 x r => q v H1 x r
    exact k _ rfl (t_test (e_neS (e_t rfl hx) e_str)) fun _ => e_t rfl hx
theorem ok_ends_at {f : Addr} {fd : FuncData} (F : Fun K "ends_at" "ends_at" S_ends_at f fd) (G : Gm mg) : FnOk P w K mg base CX0 1 f fd P_ends_at (SpP T cEnds) := by
  refine F.ok sc_ends_at (fun vs H Q E h => ?_) (fun cdv A outer s H vs Q E hr h => ?_)
  · obtain ⟨R, ⟨_, _, _, _, _, rfl, _⟩, _⟩ := h
    rfl
  · obtain ⟨R, ⟨v1, v3, words, n, rows, rfl, h1, h3, hn, rfl⟩, q⟩ := h
    refine ⟨_, (pss_one (ps_ret (pe_lc (own := [("text", 3), ("act", 4)]) rfl sc_ends_at.nd (pi_listK (K := K) rfl (pv 2)) (blkOk_by (own := [("text", 3), ("act", 4)]) (N := N_ends_at) (sc := defScope S_ends_at) (by decide +kernel)) (fun _ _ _ _ _ => by exact (pg_tupK (K := K) (n := 2) rfl rfl (pgs_cons (pg_name (i := 3) sc_ends_at.nd rfl (Or.inl rfl) (Or.inr rfl)) (pgs_cons (pg_name (i := 4) sc_ends_at.nd rfl (Or.inl rfl) (Or.inr rfl)) pgs_nil)))) (fun _ _ _ _ _ => by exact (pts_one (pt_cmpR (op_eqN hr.units) (pe_slice (slT (K := K) rfl) (pv 0) (po_some (pv 1)) (po_some (pe_op op_add (pv 1) (pe_callB (lenK (K := K) rfl) (by rfl) G.n_len PySem.boot_len (pa_cons (pv 3) pa_nil))))) (pv 3) (nomark _)))) (fun _ _ _ _ _ => by exact (pe_tup (pa_cons (pe_op op_add (pv 1) (pe_callB (lenK (K := K) rfl) (by rfl) G.n_len PySem.boot_len (pa_cons (pv 3) pa_nil))) (pa_cons (pv 4) pa_nil))))))), ?_⟩
    refine s_ret (T := T) (EvR.imp (c_lst (xs := rows) (en := eE) (RE := fun r => isT (eN (n + r.1.length, r.2))) stT (e_l rfl h3) (by omega) (fun r => decide ((words.drop n).take r.1.length = r.1)) fun r hr x H1 x1 hx Q k => ?_) fun v' H2 _ r => isEach.ln r) fun v H1 x r => q v H1 x (by unfold endsAt; rw [List.map_map]; exact r)
    refine g_pair hx fun u1 u2 i1 i2 => ?_
    have iw := x1.isT h1
    have hsum : EvR T (tOp (rI0 fun i j => .int (i + j)) (tVar 1) (tCB (rLen K) (tCons (tVar 3) tNil))) _ H1 (isT (.num ((n + r.1.length : Nat) : Int))) := (e_I0 (e_t (σ := [some v1, some (.int (n : Int)), some v3, some u1, some u2]) rfl (.int (n : Int))) (e_lenT (e_t rfl i1))).num
    refine k _ rfl (t_test ((e_eqT (e_mid (e_t rfl iw) (e_t rfl (.int (n : Int))) hsum) (e_t rfl i1)).eqB (by rw [Nat.add_sub_cancel_left]))) fun _ => e_two hsum (e_t rfl i2)
theorem begins_succ (texts : List Tx) (n : Nat) : (List.range (n + 1)).flatMap (fun i => (texts.take i).filterMap (begin1 (texts.getD i []))) = (List.range n).flatMap (fun i => (texts.take i).filterMap (begin1 (texts.getD i []))) ++ (texts.take n).filterMap (begin1 (texts.getD n [])) := by
  rw [List.range_succ, List.flatMap_append]
  simp
def cBegins : List V → Hp → RP → Prop := fun vs H R => ∃ (v : V) (texts : List Tx), vs = [v] ∧ isL (texts.map eT) v H ∧ texts.length ≤ 100 ∧ R = isLN H ((begins texts).map eE)
theorem flat_len (texts : List Tx) : ∀ n, ((List.range n).flatMap (fun i => (texts.take i).filterMap (begin1 (texts.getD i [])))).length ≤ n * texts.length
  | 0 => by simp
  | n + 1 => by
    rw [begins_succ, List.length_append]
    have h1 := flat_len texts n
    have h2 := List.length_filterMap_le (begin1 (texts.getD n [])) (texts.take n)
    rw [List.length_take] at h2
    have e : (n + 1) * texts.length = n * texts.length + texts.length := Nat.succ_mul _ _
    omega
theorem ok_beginnings {f : Addr} {fd : FuncData} (F : Fun K "beginnings" "beginnings" S_beginnings f fd) (G : Gm mg) : FnOk P w K mg base CX0 1 f fd P_beginnings (SpP T cBegins) := by
  refine F.ok sc_beginnings (fun vs H Q E h => ?_) (fun cdv A outer s H vs Q E hr h => ?_)
  · obtain ⟨R, ⟨_, _, rfl, _⟩, _⟩ := h
    rfl
  · obtain ⟨R, ⟨v1, texts, rfl, h1, hn, rfl⟩, q⟩ := h
    refine ⟨_, (pss_cons (ps_set (i := 1) sc_beginnings.nd rfl (Or.inl rfl) (pe_lst pa_nil))
    (pss_cons (ps_for PassesOwn.never rfl (pi_enum (by rfl) G.n_enumerate (pa_cons (pv 0) pa_nil)) (pg_tupK (K := K) (n := 2) rfl rfl (pgs_cons (pg_name (i := 2) sc_beginnings.nd rfl (Or.inl rfl)) (pgs_cons (pg_name (i := 3) sc_beginnings.nd rfl (Or.inl rfl)) pgs_nil)))
      (pss_one (ps_for PassesOwn.never rfl (pi_listK (K := K) rfl (pe_slice (slL (K := K) rfl) (pv 0) po_none (po_some (pv 2)))) (pg_name (i := 4) sc_beginnings.nd rfl (Or.inl rfl))
        (pss_cons (ps_asg (pe_ifExp (pt_cmpR op_lt (pe_callB (lenK (K := K) rfl) (by rfl) G.n_len PySem.boot_len (pa_cons (pv 3) pa_nil)) (pe_callB (lenK (K := K) rfl) (by rfl) G.n_len PySem.boot_len (pa_cons (pv 4) pa_nil)) (nomark _)) (pe_tup (pa_cons (pv 3) (pa_cons (pv 4) pa_nil))) (pe_tup (pa_cons (pv 4) (pa_cons (pv 3) pa_nil)))) (pg_tupK (K := K) (n := 2) rfl rfl (pgs_cons (pg_name (i := 5) sc_beginnings.nd rfl (Or.inl rfl)) (pgs_cons (pg_name (i := 6) sc_beginnings.nd rfl (Or.inl rfl)) pgs_nil))))
        (pss_one (ps_if (pt_cmpR (op_eqN hr.units) (pe_slice (slT (K := K) rfl) (pv 6) po_none (po_some (pe_callB (lenK (K := K) rfl) (by rfl) G.n_len PySem.boot_len (pa_cons (pv 5) pa_nil)))) (pv 5) (nomark _))
          (pss_one (ps_expr (pe_bm PySem.F.plainAttrs_list PySem.F.slot_list_append PySem.F.type_list_append mt_append (pv 1) (pa_cons (pe_tup (pa_cons (pv 6) (pa_cons (pe_slice (slT (K := K) rfl) (pv 6) (po_some (pe_callB (lenK (K := K) rfl) (by rfl) G.n_len PySem.boot_len (pa_cons (pv 5) pa_nil))) po_none) pa_nil))) pa_nil))))
          pss_nil))))))
    (pss_one (ps_ret (pv 1))))), ?_⟩
    refine s_seq (s_asg (e_lst (T := T) a_nil (by decide)) fun l H1 x1 r1 => ?_)
    obtain ⟨p, _, rfl, hp0, hp1, hnil⟩ := r1
    cases hnil
    obtain ⟨a, us, rfl, ha, hu⟩ := x1.isL h1
    have hpa : p ≠ a := by
      obtain ⟨a', us', e', ha', _⟩ := h1
      cases e'
      rintro rfl
      rw [hp0] at ha'
      cases ha'
    refine s_seq (f_enum (T := T) (ds := texts.map eT) (R := isV (.ref a)) (e_v rfl) fun v H2 x2 e => ?_)
    obtain rfl : v = .ref a := e
    refine ⟨a, us, rfl, x2.lst ha (by simp), hu.mono x2.tup, [p], fun i σ' H' => ∃ (z1 z2 z3 z4 z5 : Option V) (acc : List V), σ' = [some (.ref a), some (.ref p), z1, z2, z3, z4, z5] ∧ Ext T [p] H2 H' ∧ H' p = some (.lst acc) ∧
      IsDs H' acc (((List.range i).flatMap (fun i => (texts.take i).filterMap (begin1 (texts.getD i [])))).map eE),
      by simpa using hpa.symm, ⟨none, none, none, none, none, [], rfl, Ext.refl _, x2.lst hp1 (by simp), .nil⟩, fun i σ' H' hP => ?_, fun i d x σ' H' H'' hd hx xe hP => ?_, fun σ' H' hP => ?_⟩
    · obtain ⟨_, _, _, _, _, _, _, e, _⟩ := hP
      exact e
    · obtain ⟨z1, z2, z3, z4, z5, acc, rfl, e, hacc, hE⟩ := hP
      rw [List.getElem?_map] at hd
      obtain ⟨t, htx, rfl⟩ := Option.map_eq_some_iff.mp hd
      have hi : i < texts.length := (List.getElem?_eq_some_iff.mp htx).1
      have hget : texts.getD i [] = t := by simp [List.getD, htx]
      have e2 : Ext T [p] H2 H'' := e.trans xe.wide
      have hl2 : isL (texts.map eT) (.ref a) H'' := ⟨a, us, rfl, e2.lst (x2.lst ha (by simp)) (by simpa using hpa.symm), hu.mono (x2.tup.trans e2.tup)⟩
      -- for other in texts[:at]
      show tFor _ _ _ _ _ _
      refine f_list (T := T) (ds := (texts.take i).map eT) ((e_slN (e_l rfl hl2) o_no (o_some (e_t rfl (.int (i : Int))))).eqLN (by rw [cut_to, ← List.map_take])) fun v3 H3 x3 r3 => ?_
      obtain ⟨b, bs, rfl, hb0, hb, hbs⟩ := r3
      have hpb : b ≠ p := by
        rintro rfl
        rw [xe.lst hacc (by simp)] at hb0
        cases hb0
      refine ⟨b, bs, rfl, hb, hbs, [p], fun j σ' H' => ∃ (z3 z4 z5 : Option V) (acc : List V), σ' = [some (.ref a), some (.ref p), some (.int (i : Int)), some x, z3, z4, z5] ∧ Ext T [p] H3 H' ∧ H' p = some (.lst acc) ∧
        IsDs H' acc (((List.range i).flatMap (fun i => (texts.take i).filterMap (begin1 (texts.getD i []))) ++ ((texts.take i).take j).filterMap (begin1 t)).map eE),
        by simpa using hpb, ⟨z3, z4, z5, acc, rfl, Ext.refl _, (xe.trans x3).lst hacc (by simp), by simpa using hE.mono (xe.trans x3).tup⟩, fun j σ' H' hP => ?_, fun j d y σ4 H4 hd2 hy hP => ?_, fun σ4 H4 hP => ?_⟩
      · obtain ⟨_, _, _, _, _, e, _⟩ := hP
        exact e
      · obtain ⟨z3, z4, z5, acc, rfl, e4, hacc, hE⟩ := hP
        rw [List.getElem?_map] at hd2
        obtain ⟨o, hox, rfl⟩ := Option.map_eq_some_iff.mp hd2
        have hj : j < (texts.take i).length := (List.getElem?_eq_some_iff.mp hox).1
        have hal : acc.length < 100000 := by
          rw [hE.length, List.length_map, List.length_append]
          have h1 := flat_len texts i
          have h2 := List.length_filterMap_le (begin1 t) ((texts.take i).take j)
          rw [List.length_take, List.length_take] at h2
          have h3 : i * texts.length ≤ 100 * 100 := Nat.mul_le_mul (by omega) hn
          omega
        have htk : (texts.take i).take (j + 1) = (texts.take i).take j ++ [o] := by rw [List.take_add_one, hox]; rfl
        have it : IsD H4 x (eT t) := IsD.mono (x3.tup.trans e4.tup) hx
        have io : IsD H4 y (eT o) := hy
        show tSeq _ _ _ _ _
        -- short, wide = ..
        refine s_seq ((e_if (T := T) (R := isT (.tup [eT (if t.length < o.length then t else o), eT (if t.length < o.length then o else t)])) (t_test (e_I0 (e_lenT (e_t rfl it)) (e_lenT (e_t rfl io))).bool) (fun hb => ?_) fun hb => ?_).run fun v5 H5 x5 r5 => ?_)
        · have hlt : t.length < o.length := by have := of_decide_eq_true hb; omega
          rw [if_pos hlt, if_pos hlt]
          exact e_two (e_t rfl it) (e_t rfl io)
        · have hlt : ¬ t.length < o.length := by have := of_decide_eq_false hb; omega
          rw [if_neg hlt, if_neg hlt]
          exact e_two (e_t rfl io) (e_t rfl it)
        · refine g_pair r5 fun u1 u2 i1 i2 => ?_
          have fin : ∀ (v : V) (H6 : Hp) (en : Option Ent), Ext T [] H5 H6 → begin1 t o = en → (∀ e', en = some e' → IsD H6 v (eE e')) → ∃ acc', Ext T [p] H3 (match en with | some _ => upd H6 p (.lst (acc ++ [v])) | none => H6) ∧ (match en with | some _ => upd H6 p (.lst (acc ++ [v])) | none => H6) p = some (.lst acc') ∧
              IsDs (match en with | some _ => upd H6 p (.lst (acc ++ [v])) | none => H6) acc' (((List.range i).flatMap (fun i => (texts.take i).filterMap (begin1 (texts.getD i []))) ++ ((texts.take i).take (j + 1)).filterMap (begin1 t)).map eE) := by
            intro v H6 en x6 h1 h2
            have hp6 := (x5.trans x6).lst hacc (by simp)
            cases en with
            | none =>
              refine ⟨acc, e4.trans (x5.trans x6).wide, hp6, ?_⟩
              rw [htk, List.filterMap_append]
              show IsDs _ _ ((_ ++ (_ ++ [o].filterMap (begin1 t))).map eE)
              rw [show [o].filterMap (begin1 t) = [] by simp [h1], List.append_nil]
              exact hE.mono (x5.trans x6).tup
            | some e' =>
              refine ⟨acc ++ [v], (e4.trans (x5.trans x6).wide).put (.inr (by simp)) hp6 (noTab_lst _), upd_same, ?_⟩
              rw [htk, List.filterMap_append]
              show IsDs _ _ ((_ ++ (_ ++ [o].filterMap (begin1 t))).map eE)
              rw [show [o].filterMap (begin1 t) = [e'] by simp [h1], ← List.append_assoc, List.map_append]
              exact ((hE.mono (x5.trans x6).tup).append (.one (h2 e' rfl))).mono (tex_put hp6 (noTab_lst _))
          refine s_if (T := T) (t_test (e_eqT (e_take (e_t rfl i2) (e_lenT (e_t rfl i1))) (e_t rfl i1))) (fun hb H6 x6 => ?_) fun hb H6 x6 => ?_
          · refine s_append (i := 1) (T := T) (R := isT (eE (if t.length < o.length then o else t, (if t.length < o.length then o else t).drop (if t.length < o.length then t else o).length))) ((x5.trans x6).lst hacc (by simp)) rfl (e_two (e_t rfl (x6.isT i2)) (e_drop (e_t rfl (x6.isT i2)) (e_lenT (e_t rfl (x6.isT i1))))) hal fun v H7 x7 r7 _ => ?_
            obtain ⟨acc', k1, k2, k3⟩ := fin v H7 (some _) (x6.trans x7) (by unfold begin1; rw [if_pos (of_decide_eq_true hb)]) fun e' he => by cases he; exact r7
            exact ⟨some y, some u1, some u2, acc', rfl, k1, k2, k3⟩
          · obtain ⟨acc', k1, k2, k3⟩ := fin u1 H6 none x6 (by unfold begin1; rw [if_neg (of_decide_eq_false hb)]) fun e' he => nomatch he
            exact ⟨some y, some u1, some u2, acc', rfl, k1, k2, k3⟩
      · obtain ⟨z3, z4, z5, acc, rfl, e4, hacc, hE⟩ := hP
        refine ⟨_, _, z3, z4, z5, acc, rfl, (e2.trans x3.wide).trans e4, hacc, ?_⟩
        rw [begins_succ, hget]
        rw [List.length_map, List.take_length] at hE
        exact hE
    · obtain ⟨z1, z2, z3, z4, z5, acc, rfl, e, hacc, hE⟩ := hP
      rw [List.length_map] at hE
      refine s_ret (T := T) (R := isV (.ref p)) (e_v rfl) fun v H3 x3 e3 => ?_
      obtain rfl : v = .ref p := e3
      exact q _ H3 (((x1.trans x2).loc e hp0).trans x3) ⟨p, acc, rfl, hp0, x3.lst hacc (by simp), hE.mono x3.tup⟩
end
end Sf

set_option Elab.async false
set_option linter.all false
set_option maxRecDepth 100000
set_option maxHeartbeats 4000000
/-! Dicts whose keys are tuples of trees. -/
namespace Sf
open PySem L2 LamX

/-- keys, the addresses of their tuples, values -/
abbrev NK := D × Addr × V
def NRel (p : NK) (q : D × Addr × Value) : Prop := p.1 = q.1 ∧ p.2.1 = q.2.1 ∧ RelV p.2.2 q.2.2
def NFact (P : Program) (w : World) (a : Addr) (ks : List NK) (h : Heap) : Prop :=
  (a == sysModules) = false ∧ (ks.map (·.1)).Nodup ∧ ks.length ≤ sizeLine ∧ ∃ (xs : List (D × Addr × Value)) (o : Obj) (es : Array DictEntry) (ep : Nat), Paired NRel ks xs ∧ h.get? a = some o ∧ o.ExactDict ∧ o.data = .dict es ep ∧ es.toList = xs.map (entryOfKey (nestedKind P w))
def NDo (P : Program) (w : World) (a : Addr) (ks : List NK) : HO := .ext (NFact P w a ks)
/-- the keys' own tuples stand -/
def NKeys (H : Hp) (ks : List NK) : Prop := ∀ k ∈ ks, IsD H (.ref k.2.1) k.1 ∧ k.1.depth ≤ 8
def pairs (ks : List NK) : List (D × V) := ks.map fun k => (k.1, k.2.2)
/-- at a stands a dict of kvs, in the order of their coming -/
def NAt (P : Program) (w : World) (H : Hp) (a : Addr) (kvs : List (D × V)) : Prop := ∃ ks, H a = some (NDo P w a ks) ∧ NKeys H ks ∧ pairs ks = kvs

theorem ndo_tup {P : Program} {w : World} {a : Addr} {ks : List NK} (xs : List V) : NDo P w a ks ≠ .tup xs := fun z => nomatch (show HO.ext _ = HO.tup xs from z)
theorem ndo_tbl {P : Program} {w : World} {a : Addr} {ks : List NK} (xs : Array Value) : NDo P w a ks ≠ .tbl xs := fun z => nomatch (show HO.ext _ = HO.tbl xs from z)
/-- a heap with a dict at a -/
theorem ndo_code {P : Program} {w : World} {a : Addr} {ks : List NK} (hne : ∃ h, NFact P w a ks h) (c : Addr) (q : Str) (hc : c = a) : NDo P w a ks ≠ CodeO c q := fun z => by
  subst hc
  obtain ⟨h, hf⟩ := hne
  have e : NFact P w c ks = fun h => ∃ (oc : Obj) (vs : Array Value) (t : Tok), h.get? c = some oc ∧ oc.data = .fields vs ∧ vs[1]? = some (.str q t) := by
    have z' : HO.ext (NFact P w c ks) = HO.ext _ := z
    injection z'
  have hf' := hf
  rw [e] at hf'
  obtain ⟨oc, vs, t, h1, h2, _⟩ := hf'
  obtain ⟨_, _, _, _, o, es, ep, _, h3, _, h4, _⟩ := hf
  rw [h1] at h3
  cases h3
  rw [h2] at h4
  cases h4
theorem NKeys.mono {H H' : Hp} {ks : List NK} (x : TEx H H') (h : NKeys H ks) : NKeys H' ks := fun k hk => ⟨IsD.mono x (h k hk).1, (h k hk).2⟩
section
variable {T : List Tab} {ex : List Addr} {P : Program} {w : World} {H H' : Hp} {a : Addr} {kvs : List (D × V)}
theorem Ext.nd (x : Ext T ex H H') (h : NAt P w H a kvs) (ha : a ∉ ex) : NAt P w H' a kvs := by
  obtain ⟨ks, h1, h2, h3⟩ := h
  exact ⟨ks, x.keep a _ ha h1 ndo_tbl, h2.mono x.tup, h3⟩
end

theorem paired_keys : ∀ {ks : List NK} {xs : List (D × Addr × Value)}, Paired NRel ks xs → xs.map (·.1) = ks.map (·.1)
  | _, _, .nil => rfl
  | _, _, .cons h r => by
    rw [List.map_cons, List.map_cons, paired_keys r, h.1]
theorem paired_len : ∀ {ks : List NK} {xs : List (D × Addr × Value)}, Paired NRel ks xs → xs.length = ks.length
  | _, _, .nil => rfl
  | _, _, .cons h r => congrArg (· + 1) (paired_len r)
theorem paired_mem : ∀ {ks : List NK} {xs : List (D × Addr × Value)}, Paired NRel ks xs → ∀ x ∈ xs, ∃ k ∈ ks, NRel k x
  | _, _, .nil, x, h => by cases h
  | _, _, .cons (a := p) h r, x, hx => by
    rcases List.mem_cons.mp hx with e | hx
    · rw [e]
      exact ⟨_, List.mem_cons_self, h⟩
    · obtain ⟨k, hk, hr⟩ := paired_mem r x hx
      exact ⟨k, List.mem_cons_of_mem _ hk, hr⟩
theorem paired_at : ∀ {ks : List NK} {xs : List (D × Addr × Value)}, Paired NRel ks xs → ∀ k : D, (valV (pairs ks) k = none ∧ atKey xs k = none) ∨ ∃ v b u, valV (pairs ks) k = some v ∧ atKey xs k = some (b, u) ∧ RelV v u
  | _, _, .nil, k => .inl ⟨rfl, rfl⟩
  | p :: ks, q :: xs, .cons h r, k => by
    obtain ⟨h1, h2, h3⟩ := h
    by_cases e : p.1 = k
    · refine .inr ⟨p.2.2, q.2.1, q.2.2, ?_, ?_, h3⟩
      · show ((List.find? (fun kv => decide (kv.1 = k)) ((p.1, p.2.2) :: pairs ks)).map (·.2)) = _
        rw [List.find?_cons_of_pos (by simpa using e)]
        rfl
      · show ((List.find? (fun x => decide (x.1 = k)) (q :: xs)).map (·.2)) = _
        rw [List.find?_cons_of_pos (by simpa [← h1] using e)]
        rfl
    · have e1 : valV (pairs (p :: ks)) k = valV (pairs ks) k := by
        show ((List.find? (fun kv => decide (kv.1 = k)) ((p.1, p.2.2) :: pairs ks)).map (·.2)) = _
        rw [List.find?_cons_of_neg (by simpa using e)]
        rfl
      have e2 : atKey (q :: xs) k = atKey xs k := by
        show ((List.find? (fun x => decide (x.1 = k)) (q :: xs)).map (·.2)) = _
        rw [List.find?_cons_of_neg (by simpa [← h1] using e)]
        rfl
      rw [e1, e2]
      exact paired_at r k
/-- ks behind d[k] = v, k's tuple at b -/
def nput (ks : List NK) (k : D) (b : Addr) (v : V) : List NK := if (valV (pairs ks) k).isSome then ks.map (fun p => if p.1 = k then (p.1, p.2.1, v) else p) else ks ++ [(k, b, v)]
theorem valV_isSome_any (kvs : List (D × V)) (k : D) : (valV kvs k).isSome = kvs.any fun kv => decide (kv.1 = k) := (valV_any k kvs).symm
theorem pairs_nput (ks : List NK) (k : D) (b : Addr) (v : V) : pairs (nput ks k b v) = putK (pairs ks) k v := by
  unfold nput putK
  rw [valV_isSome_any]
  split
  · unfold pairs
    rw [List.map_map, List.map_map]
    refine List.map_congr_left fun p _ => ?_
    show ((if p.1 = k then (p.1, p.2.1, v) else p).1, (if p.1 = k then (p.1, p.2.1, v) else p).2.2) = if p.1 = k then (p.1, v) else (p.1, p.2.2)
    split <;> rfl
  · unfold pairs
    rw [List.map_append]
    rfl
theorem keys_nput_mem {ks : List NK} {k : D} {b : Addr} {v : V} : ∀ x ∈ nput ks k b v, (∃ y ∈ ks, y.1 = x.1 ∧ y.2.1 = x.2.1) ∨ (x.1 = k ∧ x.2.1 = b) := by
  intro x hx
  unfold nput at hx
  split at hx
  · obtain ⟨p, hp, e⟩ := List.mem_map.mp hx
    refine .inl ⟨p, hp, ?_⟩
    by_cases z : p.1 = k
    · rw [if_pos z] at e
      rw [← e]
      exact ⟨rfl, rfl⟩
    · rw [if_neg z] at e
      rw [← e]
      exact ⟨rfl, rfl⟩
  · rcases List.mem_append.mp hx with h | h
    · exact .inl ⟨x, h, rfl, rfl⟩
    · rw [List.mem_singleton.mp h]
      exact .inr ⟨rfl, rfl⟩
theorem nput_nodup {ks : List NK} {k : D} {b : Addr} {v : V} (h : (ks.map (·.1)).Nodup) : ((nput ks k b v).map (·.1)).Nodup := by
  unfold nput
  split
  · have e : (ks.map (fun p => if p.1 = k then (p.1, p.2.1, v) else p)).map (·.1) = ks.map (·.1) := by
      rw [List.map_map]
      refine List.map_congr_left fun p _ => ?_
      show (if p.1 = k then (p.1, p.2.1, v) else p).1 = p.1
      split <;> rfl
    rw [e]
    exact h
  · rename_i hn
    rw [List.map_append, List.nodup_append]
    refine ⟨h, by simp, fun x hx y hy e => ?_⟩
    have hy' : y = k := by simpa using hy
    subst hy'
    subst e
    obtain ⟨p, hp, e1⟩ := List.mem_map.mp hx
    refine hn ?_
    rw [valV_isSome_any]
    exact List.any_eq_true.mpr ⟨(p.1, p.2.2), List.mem_map.mpr ⟨p, hp, rfl⟩, by simpa using e1⟩
theorem nput_len (ks : List NK) (k : D) (b : Addr) (v : V) : (nput ks k b v).length ≤ ks.length + 1 := by
  unfold nput
  split
  · rw [List.length_map]; omega
  · rw [List.length_append]; exact Nat.le_refl _
theorem paired_map {F : NK → NK} {G : D × Addr × Value → D × Addr × Value} (hFG : ∀ p q, NRel p q → NRel (F p) (G q)) : ∀ {ks : List NK} {xs : List (D × Addr × Value)}, Paired NRel ks xs → Paired NRel (ks.map F) (xs.map G)
  | _, _, .nil => .nil
  | _, _, .cons h r => .cons (hFG _ _ h) (paired_map hFG r)
theorem paired_app {p : NK} {q : D × Addr × Value} (h0 : NRel p q) : ∀ {ks : List NK} {xs : List (D × Addr × Value)}, Paired NRel ks xs → Paired NRel (ks ++ [p]) (xs ++ [q])
  | _, _, .nil => .cons h0 .nil
  | _, _, .cons h r => .cons h (paired_app h0 r)
theorem paired_put {ks : List NK} {xs : List (D × Addr × Value)} {k : D} {b : Addr} {v : V} {u : Value} (h : Paired NRel ks xs) (r : RelV v u) : Paired NRel (nput ks k b v) (storedH xs k b u) := by
  unfold nput storedH
  rcases paired_at h k with ⟨e1, e2⟩ | ⟨v', b', u', e1, e2, _⟩
  · rw [e1, e2]
    exact paired_app ⟨rfl, rfl, r⟩ h
  · rw [e1, e2]
    refine paired_map (fun p q hpq => ?_) h
    obtain ⟨h1, h2, h3⟩ := hpq
    unfold putAt
    by_cases z : p.1 = k
    · rw [if_pos z, if_pos (h1 ▸ z)]
      exact ⟨h1, h2, r⟩
    · rw [if_neg z, if_neg (fun y => z (h1.trans y))]
      exact ⟨h1, h2, h3⟩

section
variable {X : Cx} {pins : List (Addr × Obj)} {σ : L2.St} {H : Hp} {s : Shared} {a : Addr} {ks : List NK}
/-- in the machine's heap -/
theorem nd_of (I : Inv X pins σ H s) (h : H a = some (NDo X.prog X.w a ks)) (hk : NKeys H ks) : ∃ xs, s.heap.DictOfH (nestedKind X.prog X.w) a xs ∧ Paired NRel ks xs ∧ (a == sysModules) = false ∧ ks.length ≤ sizeLine ∧ (ks.map (·.1)).Nodup := by
  obtain ⟨⟨h1, h2, h3, xs, o, es, ep, h4, h5, h6, h7, h8⟩, _⟩ := I.hok a _ h
  refine ⟨xs, ⟨o, es, ep, h5, h6, h7, h8, fun x hx => ?_, by rw [paired_keys h4]; exact h2⟩, h4, h1, h3, h2⟩
  obtain ⟨k, hk', e1, e2, _⟩ := paired_mem h4 x hx
  obtain ⟨d1, d2⟩ := hk k hk'
  rw [← e1, ← e2]
  exact ⟨d1.nested I rfl, d2⟩
theorem nd_ok {h' : Heap} {xs : List (D × Addr × Value)} {H' : Hp} (hm : h'.DictOfH (nestedKind X.prog X.w) a xs) (hp : Paired NRel ks xs) (ha : (a == sysModules) = false) (hz : ks.length ≤ sizeLine) : ObjOk X.prog X.w H' h' a (NDo X.prog X.w a ks) := by
  obtain ⟨o, es, ep, h1, h2, h3, h4, _, h5⟩ := hm
  refine ⟨⟨ha, by rw [← paired_keys hp]; exact h5, hz, xs, o, es, ep, hp, h1, h2, h3, h4⟩, ⟨o, h1⟩, fun g1 g2 hg hs => ?_⟩
  obtain ⟨k1, k2, k3, xs', o', es', ep', k4, k5, k6, k7, k8⟩ := hg
  exact ⟨k1, k2, k3, xs', o', es', ep', k4, hs _ k5, k6, k7, k8⟩
theorem nd_write {h' : Heap} {k : D} {b : Addr} {v : V} {u : Value} {xs : List (D × Addr × Value)} {t' : Nat} (I : Inv X pins σ H s) (h : H a = some (NDo X.prog X.w a ks)) (hp : Paired NRel ks xs) (ha : (a == sysModules) = false) (hz : ks.length < sizeLine) (r : RelV v u)
    (hm : h'.DictOfH (nestedKind X.prog X.w) a (storedH xs k b u)) (hs : Heap.SameBut a s.heap h') : Inv X pins σ (upd H a (NDo X.prog X.w a (nput ks k b v))) { s with heap := h', toks := t' } := by
  obtain ⟨o, es, ep, h1, _⟩ := id hm
  refine I.write (e := a) (by rw [h]; trivial) (.inl rfl) (fun c q hc e => (hs.2 c hc).trans e) ⟨o, h1⟩ ?_
  exact nd_ok hm (paired_put hp r) ha (Nat.le_trans (nput_len _ _ _ _) hz)
end

/-! ### the rules -/
section
variable {X : Cx}
/-- k in d, k not in d -/
def rNIn (P : Program) (w : World) (neg : Bool) : R2 := fun x y H Q => ∃ (d : D) (a : Addr) (kvs : List (D × V)), IsD H x d ∧ (∃ ds, d = .tup ds) ∧ d.depth ≤ 8 ∧ y = .ref a ∧ NAt P w H a kvs ∧ Q (.bl (if neg then !(valV kvs d).isSome else (valV kvs d).isSome)) H
theorem at_some {ks : List NK} {xs : List (D × Addr × Value)} (h : Paired NRel ks xs) (k : D) : (atKey xs k).isSome = (valV (pairs ks) k).isSome := by
  rcases paired_at h k with ⟨e1, e2⟩ | ⟨v', b', u', e1, e2, _⟩ <;> rw [e1, e2] <;> rfl
theorem op_nin (hu : X.A.units + 64 < cLine) : OpR X (compareOp .In) (rNIn X.prog X.w false) := by
  intro pins s σ H x y v u Q I rx ry h
  obtain ⟨d, a, kvs, hx, ⟨ds, rfl⟩, hd, rfl, ⟨ks, h1, h2, rfl⟩, q⟩ := h
  cases ry
  obtain ⟨b, vs, rfl, _⟩ := hx.tup_inv
  cases rx
  obtain ⟨xs, hm, hp, hs, _⟩ := nd_of I h1 h2
  refine wpAny_in_heap (knd := nestedKind X.prog X.w) (k := .tup ds) (by show X.A.units + 1 + 8 < _; omega) ⟨hx.nested I rfl, hd⟩ hs hm ⟨.bl _, H, I.tok _, ?_, q⟩
  rw [at_some hp]
  rfl
theorem op_nnotin (hu : X.A.units + 64 < cLine) : OpR X (compareOp .NotIn) (rNIn X.prog X.w true) := by
  intro pins s σ H x y v u Q I rx ry h
  obtain ⟨d, a, kvs, hx, ⟨ds, rfl⟩, hd, rfl, ⟨ks, h1, h2, rfl⟩, q⟩ := h
  cases ry
  obtain ⟨b, vs, rfl, _⟩ := hx.tup_inv
  cases rx
  obtain ⟨xs, hm, hp, hs, _⟩ := nd_of I h1 h2
  refine notIn_keyed (knd := nestedKind X.prog X.w) (k := .tup ds) (kvs := pairsH xs) (by show X.A.units + 1 + 8 < _; omega) ⟨hx.nested I rfl, hd⟩ hs ⟨xs, hm, rfl⟩ ⟨.bl _, H, I.tok _, ?_, q⟩
  rw [valueAt_pairsH, Option.isSome_map, at_some hp]
  rfl
/-- d[k], k there -/
def rNIx (P : Program) (w : World) : R2 := fun x y H Q => ∃ (d : D) (a : Addr) (kvs : List (D × V)) (v : V), x = .ref a ∧ IsD H y d ∧ (∃ ds, d = .tup ds) ∧ d.depth ≤ 8 ∧ NAt P w H a kvs ∧ valV kvs d = some v ∧ Q v H
theorem ix_nd (hu : X.A.units + 64 < cLine) : IxR X (rNIx X.prog X.w) := by
  intro value slice pins s σ H x y v u Q I rx ry h hs
  obtain ⟨d, a, kvs, z, rfl, hy, ⟨ds, rfl⟩, hd, ⟨ks, h1, h2, rfl⟩, hv, q⟩ := h
  cases rx
  obtain ⟨b, vs, rfl, _⟩ := hy.tup_inv
  cases ry
  obtain ⟨xs, hm, hp, hsm, _⟩ := nd_of I h1 h2
  rcases paired_at hp (.tup ds) with ⟨e1, _⟩ | ⟨v', b', u', e1, e2, r⟩
  · rw [hv] at e1
    cases e1
  · rw [hv] at e1
    cases e1
    exact PyProof.Rows.subscriptTail_builtinR (x := u') hm.typeIs PySem.F.slot_dict_getitem.lookup
      (wpAny_getItem_heap (Q := fun r s' => r = u' ∧ EP X pins σ Q r s') (knd := nestedKind X.prog X.w) (by show X.A.units + 1 + 8 < _; omega) ⟨hy.nested I rfl, hd⟩ hm e2 ⟨rfl, z, H, I.tok _, r, q⟩) hs
/-- d[k] = v -/
def rNSet (P : Program) (w : World) : V → V → V → Hp → (Hp → Prop) → Prop := fun o i v H Q => ∃ (d : D) (b : Addr) (a : Addr) (ks : List NK), o = .ref a ∧ i = .ref b ∧ IsD H i d ∧ d.depth ≤ 8 ∧ H a = some (NDo P w a ks) ∧ NKeys H ks ∧ ks.length < sizeLine ∧ Q (upd H a (NDo P w a (nput ks d b v)))
theorem set_nd (hu : X.A.units + 64 < cLine) : PSet X (rNSet X.prog X.w) := by
  intro pins s σ H o i v ov iv u Q I ro ri rv h
  obtain ⟨d, b, a, ks, rfl, rfl, hi, hd, h1, h2, hz, q⟩ := h
  cases ro
  cases ri
  obtain ⟨xs, hm, hp, hsm, _⟩ := nd_of I h1 h2
  exact wpAny_setItem_heap (knd := nestedKind X.prog X.w) (hsz := by rw [paired_len hp]; exact Nat.le_of_lt hz) (by show X.A.units + 1 + 8 < _; omega) ⟨hi.nested I rfl, hd⟩ hm fun h' hm' hs => ⟨_, nd_write I h1 hp hsm hz rv hm' hs, q⟩
/-- {} -/
def tDNewN (P : Program) (w : World) : TE := fun _ H Q => ∀ p, H p = none → Q (.ref p) (upd H p (NDo P w p []))
theorem pe_dnewN {pos : Pos} : PE X (.Dict [] [] pos) (tDNewN X.prog X.w) := ⟨fun pins s σ H Q I h =>
  wpAny_Dict_empty ⟨.ref s.heap.objs.size, _, I.laid (a := s.heap.objs.size) (o := NDo X.prog X.w s.heap.objs.size []) (t' := s.toks) (fun _ _ q => Heap.get?_push_of_some _ q) (Nat.le_refl _)
    (nd_ok (Heap.DictOfH.new s.heap) .nil (beq_eq_false_iff_ne.mpr (Ne.symm (Nat.ne_of_lt I.big))) (Nat.zero_le _)), rfl, h _ (I.hok.fresh (Nat.le_refl _))⟩⟩
end
end Sf

set_option Elab.async false
set_option linter.all false
set_option maxRecDepth 100000
set_option maxHeartbeats 4000000
/-! More of dicts whose keys are tuples: displays, methods, walks. -/
namespace Sf
open PySem L2 LamX
section
variable {X : Cx}
/-- {k: v} -/
def tDisp1 (P : Program) (w : World) (tk tv : TE) : TE := fun σ H Q => ∀ p, H p = none → tk σ (upd H p (NDo P w p [])) fun x H1 => tv σ H1 fun y H2 => H2 p = some (NDo P w p []) ∧ ∃ (d : D) (b : Addr), x = .ref b ∧ IsD H2 x d ∧ d.depth ≤ 8 ∧ Q (.ref p) (upd H2 p (NDo P w p [(d, b, y)]))
theorem pe_disp1 {pos : Pos} {k v : Expr} {tk tv : TE} (hr : X.A.units + 64 < cLine) (hk : PE X k tk) (hv : PE X v tv) : PE X (.Dict [some k] [v] pos) (tDisp1 X.prog X.w tk tv) := by
  refine ⟨fun pins s σ H Q I q => ?_⟩
  have hn := I.hok.fresh (Nat.le_refl s.heap.objs.size)
  have hsm : (s.heap.objs.size == sysModules) = false := beq_eq_false_iff_ne.mpr (Ne.symm (Nat.ne_of_lt I.big))
  have I1 := I.laid (a := s.heap.objs.size) (o := NDo X.prog X.w s.heap.objs.size []) (h' := s.heap.push { cls := .type "dict", data := .dict #[] }) (t' := s.toks) (fun _ _ q => Heap.get?_push_of_some _ q) (Nat.le_refl _) (nd_ok (Heap.DictOfH.new s.heap) .nil hsm (Nat.zero_le _))
  have h1 : (pairTrees [some k] [v] X.env pos).length = 1 := pairTrees_length [some k] [v] X.env pos rfl rfl
  rw [arm_eval_Dict, zip_pairTrees [some k] [v] X.env pos rfl rfl, dictDisplay_pairs (pairTrees [some k] [v] X.env pos) (fun z => by rw [z] at h1; cases h1) (by omega)]
  refine wpAny_bind (wpAny_standAt (wpAny_bind (wpAny_subDictH (knd := nestedKind X.prog X.w) (by show X.A.units + 8 < _; omega) (by omega) ?_)))
  refine pairTrees_cons_walk (thn (hk.run pins _ σ _ _ I1 (q _ hn)) fun u s2 ⟨x, H2, I2, rx, q2⟩ => thn (hv.run pins s2 σ H2 _ I2 q2) fun z s3 ⟨y, H3, I3, ry, e, d, b, ex, hd, hdep, q3⟩ => pairTrees_nil_walk ?_)
  subst ex
  cases rx
  obtain ⟨xs, hm, hp, hsm', _, _⟩ := nd_of I3 e (fun _ h => nomatch h)
  cases hp
  refine ⟨[(d, b, z)], ⟨rfl, rfl, ⟨hd.nested I3 rfl, hdep⟩, trivial⟩, hm, fun h' tk hm' hs => wpAny_pure ?_⟩
  have J := nd_write (t' := tk) (k := d) (b := b) I3 e .nil hsm' (by show 0 < sizeLine; decide) ry hm' hs
  exact ⟨.ref s.heap.objs.size, _, J, rfl, q3⟩
end

/-! ### lists of values -/
theorem vals_of : ∀ {vs : List V} {us : List Value}, vs.length = us.length → (∀ (i : Nat) (v : V) (u : Value), vs[i]? = some v → us[i]? = some u → RelV v u) → Vals vs us
  | [], [], _, _ => .nil
  | [], _ :: _, h, _ => nomatch h
  | _ :: _, [], h, _ => nomatch h
  | v :: vs, u :: us, h, k => .cons (k 0 v u rfl rfl) (vals_of (by simpa using h) fun i v' u' a b => k (i + 1) v' u' (by simpa using a) (by simpa using b))

/-! ### walked -/
def Itn (P : Program) (w : World) (d : Addr) (o : Obj) (ks : List NK) : It :=
  ⟨fun i H => H d = some (.frz o (NDo P w d ks)) ∧ i < ks.length, fun i H x H' => H' = H ∧ ∃ k, ks[i]? = some k ∧ x = .ref k.2.1, fun i H => H d = some (.frz o (NDo P w d ks)) ∧ ks.length ≤ i⟩
theorem nd_frz {X : Cx} {pins : List (Addr × Obj)} {σ : L2.St} {H : Hp} {s : Shared} {d : Addr} {o : Obj} {ks : List NK} (I : Inv X pins σ H s) (h : H d = some (.frz o (NDo X.prog X.w d ks))) :
    s.heap.get? d = some o ∧ (d == sysModules) = false ∧ o.ExactDict ∧ ∃ (xs : List (D × Addr × Value)) (es : Array DictEntry) (ep : Nat), Paired NRel ks xs ∧ o.data = .dict es ep ∧ es.toList = xs.map (entryOfKey (nestedKind X.prog X.w)) ∧ es.size = ks.length := by
  obtain ⟨e, ⟨h1, _, _, xs, o', es, ep, h4, h5, h6, h7, h8⟩, _⟩ := I.hok d _ h
  rw [e] at h5
  cases h5
  exact ⟨e, h1, h6, xs, es, ep, h4, h7, h8, by rw [size_of_entries h8, paired_len h4]⟩
theorem paired_get : ∀ {ks : List NK} {xs : List (D × Addr × Value)} {i : Nat} {k : NK}, Paired NRel ks xs → ks[i]? = some k → ∃ x, xs[i]? = some x ∧ NRel k x
  | _, _, _, _, .nil, h => by simp at h
  | _, _, 0, _, .cons h r, e => by
    simp at e
    subst e
    exact ⟨_, rfl, h⟩
  | _, _, i + 1, k, .cons h r, e => by
    obtain ⟨x, h1, h2⟩ := paired_get (i := i) (k := k) r (by simpa using e)
    exact ⟨x, by simpa using h1, h2⟩
theorem turn_nd {P : Program} {w : World} {K : PySem.W.Frag} {tg : Expr} {d : Addr} {o : Obj} {ks : List NK} {es : Array DictEntry} {ep : Nat} (it : Addr) (hod : o.data = .dict es ep) :
    Turn P w K tg (Itn P w d o ks) [it] it (fun i h => h.IsKeyIter it d i ks.length ep) where
  mem := by simp
  obj := fun i h st b hb => by
    obtain rfl : b = it := by simpa using hb
    obtain ⟨oi, e, c, dd⟩ := st
    exact ⟨oi, e, fun v z => by rw [dd] at z; cases z⟩
  keep := fun i h h' st k => st.at fun oi e => k it (by simp) oi e
  item := by
    intro X hP hw hK hc i pins s σ H E I hf st hg
    subst hP hw hK
    obtain ⟨hd, hi⟩ := hg
    obtain ⟨f0, f1, f2, f3, f4, f5⟩ := hf it (by simp)
    obtain ⟨hgd, hs, hx, xs, es', ep', hp, hdt, hes, hsz⟩ := nd_frz I hd
    obtain ⟨rfl, rfl⟩ := dict_ep hod hdt
    have hk : ks[i]? = some ks[i] := List.getElem?_eq_getElem hi
    obtain ⟨x, hxi, e1, e2, _⟩ := paired_get hp hk
    have hen : es'[i]? = some (entryOfKey (nestedKind X.prog X.w) x) := by rw [entry_at hes, hxi]; rfl
    refine next_key_item st hgd hdt hsz hen fun h' st' sb => ?_
    have I1 : Inv X pins σ H { s with heap := h' } := I.turned (t' := s.toks) (fun b ob hb e => (sb.2 b hb).trans e) f0 f1 f3 f4 f5
    obtain ⟨oi, e, c, dd⟩ := id st'
    refine ⟨_, rfl, go_of (s := { s with heap := h' }) e c dd (by decide) ⟨.ref (ks[i]).2.1, H, I1, ?_, ⟨rfl, ks[i], hk, rfl⟩, st', fun b hb => (hf b hb).1⟩⟩
    show Value.ref x.2.1 = Value.ref (ks[i]).2.1
    rw [e2]
  done := by
    intro X hP hw hK hc i pins s σ H E I hf st hg
    subst hP hw hK
    obtain ⟨hd, hi⟩ := hg
    obtain ⟨f0, f1, f2, f3, f4, f5⟩ := hf it (by simp)
    obtain ⟨hgd, hs, hx, xs, es', ep', hp, hdt, hes, hsz⟩ := nd_frz I hd
    obtain ⟨rfl, rfl⟩ := dict_ep hod hdt
    exact next_key_end (I.ok.hd hc) st hgd hdt hsz hi fun h' eb => ⟨rfl, I.turned (t' := s.toks) (fun b ob hb e => eb b ob hb e) f0 f1 f3 f4 f5⟩
  self := fun A i s Q E st h => (turn_keysT (P := P) (w := w) (K := K) (tg := tg) (d := d) (o := o) (kvs := ks.map fun k => ([], k.2.2)) it hod).self A i s Q E (by rw [List.length_map]; exact st) h
def iNKeys (P : Program) (w : World) (td : TE) : TI := fun σ H R => td σ H fun x H1 => ∃ d o ks, x = .ref d ∧ H1 d = some (.frz o (NDo P w d ks)) ∧ R (Itn P w d o ks) H1
theorem pi_nd {X : Cx} {tg e : Expr} {td : TE} (he : PE X e td) : PI X tg e (iNKeys X.prog X.w td) := by
  refine ⟨fun pins s σ H R I h => thn (he.run pins s σ H _ I h) fun u s1 ⟨x, H1, I1, rx, d, o, ks, ex, hd, q⟩ => ?_⟩
  subst ex
  obtain rfl : u = Value.ref d := rx
  obtain ⟨hgd, hs, hx, xs, es, ep, hp, hdt, hes, hsz⟩ := nd_frz I1 hd
  refine iter_keys hs hgd hx hdt (pi_one (tk := s1.toks) I1 _ (turn_nd _ hdt) ⟨_, Heap.get?_push_size _ rfl, rfl, ?_⟩ q)
  rw [hsz] <;> rfl
theorem walk_nd {P : Program} {w : World} {d : Addr} {o : Obj} {ks : List NK} : Walk (Itn P w d o ks) ks.length (fun H => H d = some (.frz o (NDo P w d ks))) (fun i H x H' => H' = H ∧ ∃ k, ks[i]? = some k ∧ x = .ref k.2.1) :=
  ⟨fun _ _ hi q => ⟨q, hi⟩, fun _ q => ⟨q, Nat.le_refl _⟩, fun _ _ _ _ _ _ y => y⟩
/-- list(d) -/
def rNList (P : Program) (w : World) : List V → Hp → VK → Prop := fun xs H Q => ∃ a ks, xs = [.ref a] ∧ H a = some (NDo P w a ks) ∧ NKeys H ks ∧ ∀ l, H l = none → Q (.ref l) (upd H l (.lst (ks.map fun k => .ref k.2.1)))
theorem call_nlist {X : Cx} (hc : X.calm = true) : CallR X (.type "list") (rNList X.prog X.w) := by
  intro pins s σ H xs us Q I r h
  obtain ⟨a, ks, rfl, h1, h2, q⟩ := h
  obtain ⟨u, rfl, ru⟩ := vals1 r
  cases ru
  obtain ⟨ys, hm, hp, hs, hz, _⟩ := nd_of I h1 h2
  obtain ⟨es, ep, hr, hsz, he⟩ := hm.raw
  have hl := paired_len hp
  refine PySem.W.kdl_call (KdlSrc.rawDict (d := a) hs) (I.ok.hd hc) hr (by omega) fun h' tk acc c hk hL hacc => ?_
  have hav : Vals (ks.map fun k => V.ref k.2.1) acc.toList := by
    refine vals_of (by rw [List.length_map, show acc.toList.length = acc.size from Array.length_toList, hacc.1, hsz, hl]) fun i v u e1 e2 => ?_
    rw [List.getElem?_map] at e1
    obtain ⟨k, hki, rfl⟩ := Option.map_eq_some_iff.mp e1
    obtain ⟨y, hy, e3, e4, _⟩ := paired_get hp hki
    obtain ⟨hi, e5⟩ := hacc.2 i u (by rw [← Array.getElem?_toList]; exact e2)
    obtain ⟨y', hy', e6, _⟩ := he i hi
    rw [hy] at hy'
    cases hy'
    show u = Value.ref k.2.1
    rw [e5, e6, e4]
  refine ⟨.ref s.heap.objs.size, _, I.laid (t' := tk) (o := .lst (ks.map fun k => V.ref k.2.1)) hk (Nat.le_refl _) ⟨by rw [List.length_map]; exact hz, acc.toList, c, hav, by simpa using hL⟩, rfl, q _ (I.hok.fresh (Nat.le_refl _))⟩
end Sf

set_option Elab.async false
set_option linter.all false
set_option maxRecDepth 100000
set_option maxHeartbeats 4000000
/-! Lambdas with parameters: made, called by built-ins. -/
namespace Sf
open PySem PySem.Spec PyProof.Rows L2 LamX NdefX

/-- the object at f is the lambda of F (F's body is not asked), with the body e -/
def LamO (f : Addr) (F : NF) (e : Expr) : HO := .ext fun h => ∃ pm ctv : Value, h.get? f = some (PySem.W.kla_obj "<lambda>" F.qual F.params e F.scope F.cl pm F.c ctv)
theorem lamO_ne {f : Addr} {F : NF} {e : Expr} (ps : Array Value) : LamO f F e ≠ .tbl ps := fun z => by
  unfold LamO at z
  cases z
theorem lamO_at {P : Program} {w : World} {H : Hp} {h : Heap} {f : Addr} {F : NF} {e : Expr} (hok : HOk P w H h) (q : H f = some (LamO f F e)) : ∃ pm ctv : Value, h.get? f = some (PySem.W.kla_obj "<lambda>" F.qual F.params e F.scope F.cl pm F.c ctv) := by
  obtain ⟨z, _, _⟩ := hok f _ q
  exact z
section
variable {X : Cx} {pins : List (Addr × Obj)} {σ : L2.St} {H : Hp} {s : Shared}
theorem inv_lam {F : NF} {e : Expr} {h' : Heap} {t' : Nat} {pm ctv : Value} {hp : Heap} (I : Inv X pins σ H { s with heap := hp, toks := t' }) (hh : h' = hp.push (PySem.W.kla_obj "<lambda>" F.qual F.params e F.scope F.cl pm F.c ctv)) :
    Inv X pins σ (upd H hp.objs.size (LamO hp.objs.size F e)) { s with heap := h', toks := t' } := by
  subst hh
  refine I.laid (a := hp.objs.size) (fun b u q => Heap.get?_push_of_some _ q) (Nat.le_refl _) ?_
  have q : (hp.push (PySem.W.kla_obj "<lambda>" F.qual F.params e F.scope F.cl pm F.c ctv)).get? hp.objs.size = some (PySem.W.kla_obj "<lambda>" F.qual F.params e F.scope F.cl pm F.c ctv) := Heap.get?_push_size _ rfl
  exact ⟨⟨pm, ctv, q⟩, ⟨_, q⟩, fun h1 h2 ⟨p, t, z⟩ st => ⟨p, t, st _ z⟩⟩
/-- the lambda is made -/
theorem lam_new {T : List Tab} {c P : Addr} {params : Arguments} {body : Expr} {scope : Scope} {pos : Pos} {E : Value → Shared → Prop} {Q : Value → Shared → Prop} (I : Inv X pins σ H s) (TB : TabB X.base X.mg c P) (hcode : X.env.code = .ref c)
    (hm : (P, X.env.qual ++ "<lambda>") ∈ T) (hu : ∀ p ∈ T, p.1 = P → p.2 = X.env.qual ++ "<lambda>") (hT : Tabs T H) (hdef : defaultsOf params X.env = ([], [])) (hfree : ∀ y ∈ scope.names, y.2 = .free → ∃ c, X.env.cells.lookup y.1 = some c)
    (h : ∀ (f c' : Addr) (H1 : Hp) (s' : Shared), Inv X pins σ H1 s' → Ext T [] H H1 → H f = none →
      H1 f = some (LamO f ⟨"<lambda>", X.env.qual ++ "<lambda>", params, [], scope, cloFrom X.env.cells scope.names [], c'⟩ body) → H1 c' = some (CodeO c' (X.env.qual ++ "<lambda>")) → Q (.ref f) s') :
    wpAny (model X.prog X.w) X.A (eval (.Lambda params body scope pos) X.env) Q E s := by
  obtain ⟨ps, hP, ht, ha⟩ := hT _ hm
  refine PySem.W.kla_eval hdef ?_
  have bP : s.heap.BuiltinsAt X.mg P := TB.bm.keeps I.bk
  have hP' : s.heap.get? P = some { cls := .none, data := .fields ps } := I.hok P _ hP
  cases hc : codeAmong pos ps.toList with
  | none =>
    refine PySem.W.kla_makeFunction (mg := X.mg) (c := c) (P := P) (ps := ps) (closure_ok hfree) I.ok.glob (I.mod.glob.keeps I.bk) hcode (TB.code.keeps I.bk) hP' ht hc TB.gP bP fun c' ctv h' tk hx hge hlt hrec htb => ?_
    obtain ⟨c2, oc, vs, t, e2, hoc, hd, hv⟩ := hrec
    cases e2
    have nC : H c' = none := I.hok.fresh hge
    have nPc : P ≠ c' := ne_of_none hP nC
    have I1 := inv_table (t' := tk) (more := #[rawInt pos.line, rawInt pos.col, .ref c']) (h' := h') I hP (fun b o hb e => hx b o hb e) htb hge ⟨oc, vs, t, hoc, hd, hv⟩
    have hE : ExtN H (upd (upd H P (.tbl (ps ++ #[rawInt pos.line, rawInt pos.col, .ref c']))) c' (CodeO c' (X.env.qual ++ "<lambda>"))) := fun b o e n => by
      rw [upd_ne (ne_of_none e nC), upd_ne (fun z => n ps (Option.some.inj (e.symm.trans (by rw [z]; exact hP))))]
      exact e
    have eL : (ps ++ #[rawInt pos.line, rawInt pos.col, .ref c']).toList = ps.toList ++ [rawInt pos.line, rawInt pos.col, .ref c'] := by simp
    have T1 : Tabs T (upd (upd H P (.tbl (ps ++ #[rawInt pos.line, rawInt pos.col, .ref c']))) c' (CodeO c' (X.env.qual ++ "<lambda>"))) := fun p hp => by
      by_cases hb : p.1 = P
      · rw [hu p hp hb, hb]
        refine ⟨_, by rw [upd_ne nPc, upd_same], by rw [eL]; exact PySem.TriplesOk_snoc _ _ _ _ ht, fun p' cv hcv => ?_⟩
        rw [eL] at hcv
        rcases among_app _ ht hcv with z | z
        · obtain ⟨c0, e1, e2⟩ := ha p' cv z
          exact ⟨c0, e1, hE _ _ e2 codeO_ne⟩
        · exact ⟨c', z, upd_same⟩
      · obtain ⟨ps', a1, a2, a3⟩ := hT p hp
        refine ⟨ps', by rw [upd_ne (ne_of_none a1 nC), upd_ne hb]; exact a1, a2, fun p' cv hcv => ?_⟩
        obtain ⟨c0, e1, e2⟩ := a3 p' cv hcv
        exact ⟨c0, e1, hE _ _ e2 codeO_ne⟩
    have X1 : Ext T [] H (upd (upd H P (.tbl (ps ++ #[rawInt pos.line, rawInt pos.col, .ref c']))) c' (CodeO c' (X.env.qual ++ "<lambda>"))) :=
      ⟨fun a xs e => hE a _ e (fun _ z => by cases z), fun b o _ e n => hE b o e n, fun b e => upd_none (upd_none e), fun _ => T1⟩
    have nF := I1.hok.fresh (Nat.le_refl _)
    have I2 := inv_lam (F := ⟨"<lambda>", X.env.qual ++ "<lambda>", params, [], scope, cloFrom X.env.cells scope.names [], c'⟩) (e := body) (pm := (X.mg "__name__").getD .none) (ctv := ctv) I1 rfl
    refine h h'.objs.size c' _ _ I2 (X1.trans (Ext.new nF)) (I.hok.fresh (Nat.le_trans hge (Nat.le_of_lt hlt))) upd_same ?_
    exact (upd_ne (Nat.ne_of_lt hlt)).trans upd_same
  | some cv =>
    obtain ⟨c', e, hco⟩ := ha pos cv hc
    subst e
    refine PySem.W.kla_makeFunctionHit (mg := X.mg) (c := c) (P := P) (ps := ps) (closure_ok hfree) I.ok.glob (I.mod.glob.keeps I.bk) hcode (TB.code.keeps I.bk) hP' ht hc bP fun ctv h' tk hx hsz => ?_
    have I1 : Inv X pins σ H { s with heap := h', toks := tk } := I.kept hx
    have nF : H h'.objs.size = none := I1.hok.fresh (Nat.le_refl _)
    have I2 := inv_lam (F := ⟨"<lambda>", X.env.qual ++ "<lambda>", params, [], scope, cloFrom X.env.cells scope.names [], c'⟩) (e := body) (pm := (X.mg "__name__").getD .none) (ctv := ctv) I1 rfl
    exact h h'.objs.size c' _ _ I2 (Ext.new nF) nF upd_same ((upd_ne (ne_of_none hco nF)).trans hco)
end
/-- a call of the lambda -/
theorem lam_run {CX : CXT} {P : Program} {w : World} {K : PySem.W.Frag} {mg : Str → Option Value} {base : Heap} {N ps fr : List Str} {F : NF} {e : Expr} {f : Addr} {k : Nat} {A : Around} {outer : List Env} {s : Shared} {H : Hp} {us : List Value} {vs : List V} {ws : List (Option V)} {Q : VK} {E : XK} {t : TE}
    (S : NScope N ps fr F.scope) (hb : ∀ pm ctv : Value, bindArgs (PySem.W.kla_fn "<lambda>" F.qual F.params e F.scope F.cl pm (.ref F.c) ctv) ⟨us, []⟩ = pure (ps.zip us)) (hl : vs.length = ps.length)
    (hr : Room (k + 1) A) (e0 : Env0 P w K mg base A outer s H) (hf : H f = some (LamO f F e)) (hc : H F.c = some (CodeO F.c F.qual)) (C : CellsAt F.cl fr ws s.heap H) (r : Vals vs us)
    (hbody : Room k (A.deeper (envF F f s.heap.objs.size)) → PE (ncx CX P w K mg base N F f A outer s H E) e t) (q : t (startF N vs ws) H Q) :
    codeAny (model P w) A (.call (.ref f) ⟨us, []⟩) (CR CX outer P w H s Q E) s := by
  have lim : s.heap.NoLimit := e0.mod.nolimit.keeps fun b o e => (e0.bs b o e).1
  obtain ⟨pm, ctv, ho⟩ := lamO_at e0.hok hf
  refine PySem.W.kla_callFunE hr.depth ho rfl S.co S.gen rfl (codeO_at e0.hok hc) ?_
  rw [hb pm ctv]
  refine wpAny_pure (wpAny_newFunctionEnv S.nocell (fun ⟨n, _⟩ hy => S.par n (List.of_mem_zip hy).1) (fun h₁ hns hsb => ⟨lim.fresh _ hsb, ?_⟩) S.kind)
  show codeAny _ _ (.expr e (envF F f s.heap.objs.size)) _ _
  have kp : ∀ b o, s.heap.get? b = some o → h₁.get? b = some o := fun b o e => hsb.extBut b o (Nat.ne_of_lt (Heap.lt_size e)) (Heap.get?_push_of_some _ e)
  have I : Inv (ncx CX P w K mg base N F f A outer s H E) [] (startF N vs ws) H { s with heap := h₁, toks := s.toks + (ps.zip us).length } := inv_startN S hr.hd e0 hl r C hns kp
  refine PySem.W.kla_codeExpr (wpAny_mono ((hbody (hr.deeper _)).run [] _ (startF N vs ws) H Q I q) (fun v s' hq => ?_) fun e s' hs => hs)
  obtain ⟨w', H', J', rv, q⟩ := hq
  exact ⟨w', H', J'.os, J'.bare, J'.base, J'.hok, rv, q⟩
end Sf

set_option Elab.async false
set_option linter.all false
set_option maxRecDepth 100000
set_option maxHeartbeats 4000000
/-! min(list, key=lambda ..). -/
namespace Sf
open PySem PySem.Spec PyProof.Rows L2 LamX NdefX
section
variable {T : List Tab} {X : Cx} {σ : L2.St} {H0 : Hp}
/-- the built-in's own records are kept by what is called -/
theorem kept2 {pins : List (Addr × Obj)} {H H2 : Hp} {s s2 : Shared} {S I : Addr} {oS oI : Obj} (Iv : Inv X pins σ H s) (fS : FpOk X pins H S) (fI : FpOk X pins H I) (gS : s.heap.get? S = some oS) (gI : s.heap.get? I = some oI) (dS : ∀ v, oS.data ≠ .cell v) (dI : ∀ v, oI.data ≠ .cell v) :
    Inv X (pins ++ pinsAt [S, I] s.heap) σ H s ∧ (Inv X (pins ++ pinsAt [S, I] s.heap) σ H2 s2 → Inv X pins σ H2 s2 ∧ FpOk X pins H2 S ∧ FpOk X pins H2 I ∧ s2.heap.get? S = some oS ∧ s2.heap.get? I = some oI) := by
  refine ⟨Iv.pinned (fun b hb => ?_) fun b hb => ?_, fun J => ?_⟩
  · rcases List.mem_cons.mp hb with rfl | hb
    · exact fS
    · rw [List.mem_singleton.mp hb]; exact fI
  · rcases List.mem_cons.mp hb with rfl | hb
    · exact ⟨oS, gS, dS⟩
    · rw [List.mem_singleton.mp hb]; exact ⟨oI, gI, dI⟩
  · have mS : (S, oS) ∈ pinsAt [S, I] s.heap := List.mem_filterMap.mpr ⟨S, by simp, by rw [gS]; rfl⟩
    have mI : (I, oI) ∈ pinsAt [S, I] s.heap := List.mem_filterMap.mpr ⟨I, by simp, by rw [gI]; rfl⟩
    have pS := J.pin _ (List.mem_append_right _ (List.mem_append_right _ mS))
    have pI := J.pin _ (List.mem_append_right _ (List.mem_append_right _ mI))
    exact ⟨J.unpinned, ⟨pS.2.1, fS.2⟩, ⟨pI.2.1, fI.2⟩, pS.1, pI.1⟩
theorem min_loop {pins : List (Addr × Obj)} {l S I f : Addr} {its : List Value} {KR : Nat → RP} {lt : Nat → Nat → Bool} {R : Result → Shared → Prop} (hh : X.A.handled = none)
    (hl : ∀ H' s', Ext T [] H0 H' → Inv X pins σ H' s' → s'.heap.IsList l its.toArray) (hlI : l ≠ I) (hSI : S ≠ I) (stab : ∀ i v H H', TEx H H' → KR i v H → KR i v H')
    (irr : ∀ i, lt i i = false) (tr : ∀ a b c, lt a b = true → lt b c = true → lt a c = true)
    (turn : ∀ i u, its[i]? = some u → ∀ pins' H' s', Ext T [] H0 H' → Inv X pins' σ H' s' → wpAny (model X.prog X.w) X.A.in1 (call (.ref f) [u]) (fun r s2 => ∃ y H2, Inv X pins' σ H2 s2 ∧ Ext T [] H' H2 ∧ RelV y r ∧ KR i y H2) (fun _ _ => False) s')
    (cmp : ∀ i j x y u w pins' H' s', Inv X pins' σ H' s' → KR i x H' → KR j y H' → RelV x u → RelV y w → SeqAt.RcLt X.A.in1 s' u w (lt i j))
    (hR : ∀ i u H' s', its[i]? = some u → (∀ j, j < its.length → lt j i = false) → Ext T [] H0 H' → Inv X pins σ H' s' → R (.ok (.ret u)) s') :
    ∀ (r j i : Nat) (H : Hp) (s : Shared) (vb kb : Value) (y : V) (c : Nat), its.length - (j + 1) = r → j + 1 ≤ its.length → Inv X pins σ H s → Ext T [] H0 H → FpOk X pins H S → FpOk X pins H I →
      s.heap.get? S = some (seqObj "list" #[vb, kb] c) → s.heap.IsListIter I l (j + 1) → its[i]? = some vb → RelV y kb → KR i y H → i ≤ j → (∀ j', j' ≤ j → lt j' i = false) →
      codeAny (model X.prog X.w) X.A (.builtin "min.loop" ⟨[.ref I, .ref f, .ref S], []⟩) R s := by
  have hname : (toString "min" ++ toString ".loop" : String) = "min.loop" := by decide
  have W := Walks.list (prog := X.prog) (w := X.w) (A := X.A.in1) hh I l hlI its.toArray
  have hsz : its.toArray.size = its.length := List.size_toArray ..
  intro r
  induction r with
  | zero =>
    intro j i H s vb kb y c hr hj Iv e fS fI gS hit hvb ry hk hij hbest
    have hin : j + 1 = its.length := by omega
    refine codeAny_builtin PySem.F.entry_min_loop ?_
    rw [Around.under_plainId PySem.F.plain_min_loop _]
    show wpAny _ X.A.in1 (seqItems? (.ref S) >>= _) _ _ _
    refine wpAny_bind (wpAny_seqItems gS rfl ?_)
    show wpAny _ X.A.in1 (tryCatch (pyNext (.ref I)) _ >>= _) _ _ _
    refine wpAny_bind (wpAny_tryCatch (W.done _ _ _ ⟨by rw [hsz, ← hin]; exact hit, hl H s e Iv⟩ fun h' tk' hk' => ?_))
    have I1 : Inv X pins σ H { s with heap := h', toks := tk' } := Iv.turned (it := I) (fun b o hb q => hk' b o (by simpa using hb) q) fI.1 fI.2.1 fI.2.2.2.1 fI.2.2.2.2.1 fI.2.2.2.2.2
    have gS' := hk' S _ (by simpa using hSI) gS
    have s1 := Heap.SameBut.update h' S (Obj.mapSeq fun _ => (#[] : Array Value))
    show wpAny _ X.A.in1 (updateSeq S (fun _ => #[]) >>= _) _ _ _
    refine wpAny_bind ?_
    refine wpAny_updateSeq gS' rfl (wpAny_bind (wpAny_letGo (wpAny_pure ?_)))
    exact hR i vb H _ hvb (fun j' hj' => hbest j' (by omega)) e (I1.turned (it := S) (fun b o hb q => (s1.2 b hb).trans q) fS.1 fS.2.1 fS.2.2.2.1 fS.2.2.2.2.1 fS.2.2.2.2.2)
  | succ r ih =>
    intro j i H s vb kb y c hr hj Iv e fS fI gS hit hvb ry hk hij hbest
    have hlt : j + 1 < its.length := by omega
    refine codeAny_builtin PySem.F.entry_min_loop ?_
    rw [Around.under_plainId PySem.F.plain_min_loop _]
    show wpAny _ X.A.in1 (seqItems? (.ref S) >>= _) _ _ _
    refine wpAny_bind (wpAny_seqItems gS rfl ?_)
    show wpAny _ X.A.in1 (tryCatch (pyNext (.ref I)) _ >>= _) _ _ _
    refine wpAny_bind (wpAny_tryCatch (W.item (j + 1) _ _ _ (by rw [hsz]; exact hlt) ⟨hit, hl H s e Iv⟩ fun v h' tk' hP hst' hk' => ?_))
    have hv : its[j + 1]? = some v := by simpa using hP
    obtain ⟨oI', hoI', hoc, hod⟩ := id hst'.1
    have I1 : Inv X pins σ H { s with heap := h', toks := tk' } := Iv.turned (it := I) (fun b o hb q => hk' b o (by simpa using hb) q) fI.1 fI.2.1 fI.2.2.2.1 fI.2.2.2.2.1 fI.2.2.2.2.2
    have gS' : h'.get? S = some (seqObj "list" #[vb, kb] c) := hk' S _ (by simpa using hSI) gS
    show wpAny _ X.A.in1 (tryCatch (holding [v] (call (.ref f) [v])) _ >>= _) _ _ _
    have K2 := fun (H2 : Hp) (s2 : Shared) => kept2 (H2 := H2) (s2 := s2) I1 fS fI gS' hoI' (fun v z => by cases z) (fun v z => by rw [hod] at z; cases z)
    refine wpAny_bind (wpAny_tryCatch (wpAny_holding (wpAny_mono (turn (j + 1) v hv _ H _ e (K2 H s).1) (fun x s2 he => ?_) fun _ _ hF => hF.elim)))
    obtain ⟨y2, H2, J, e2, ry2, hk2⟩ := he
    obtain ⟨I2, fS2, fI2, gS2, gI2⟩ := (K2 H2 s2).2 J
    have hkb := stab i y H H2 e2.tup hk
    show wpAny _ X.A.in1 (tryCatch (holding [v, x] (richCompare .Lt x kb >>= _)) _ >>= _) _ _ _
    refine wpAny_bind (wpAny_tryCatch (wpAny_holding (wpAny_bind (cmp (j + 1) i y2 y x kb _ H2 s2 I2 hk2 hkb ry2 ry _ _ _ _ ?_))))
    refine wpAny_bind (wpAny_holding (wpAny_truthy_bool ?_))
    refine wpAny_bind (wpAny_letGo (wpAny_pure ?_))
    cases hb' : lt (j + 1) i with
    | true =>
      have s1 := Heap.SameBut.update s2.heap S (Obj.mapSeq fun _ => #[v, x])
      obtain ⟨c2, hc2⟩ : ∃ c2, (s2.heap.update S (Obj.mapSeq fun _ => #[v, x])).get? S = some (seqObj "list" #[v, x] c2) := ⟨_, get?_update_seq gS2 fun _ => #[v, x]⟩
      simp only [if_true]
      refine wpAny_bind ?_
      refine wpAny_updateSeq gS2 rfl (wpAny_bind (wpAny_letGo ?_))
      rw [hname]
      have I3 := I2.turned (h' := s2.heap.update S (Obj.mapSeq fun _ => #[v, x])) (t' := s2.toks) (it := S) (fun b o hb q => (s1.2 b hb).trans q) fS2.1 fS2.2.1 fS2.2.2.2.1 fS2.2.2.2.2.1 fS2.2.2.2.2.2
      refine wpAny_pure ⟨plainId_quiet PySem.F.plain_min_loop _, ih (j + 1) (j + 1) H2 _ v x y2 c2 (by omega) hlt I3 (e.trans e2) fS2 fI2 hc2 ⟨oI', (s1.2 I hSI.symm).trans gI2, hoc, hod⟩ hv ry2 hk2 (Nat.le_refl _) fun j' hj' => ?_⟩
      by_cases q : j' = j + 1
      · subst q
        exact irr _
      · cases hz : lt j' (j + 1) with
        | false => rfl
        | true =>
          have z := tr _ _ _ hz hb'
          rw [hbest j' (by omega)] at z
          cases z
    | false =>
      simp only [Bool.false_eq_true, if_false]
      refine wpAny_bind (wpAny_letGo ?_)
      rw [hname]
      refine wpAny_pure ⟨plainId_quiet PySem.F.plain_min_loop _, ih (j + 1) i H2 _ vb kb y c (by omega) hlt I2 (e.trans e2) fS2 fI2 gS2 ⟨oI', gI2, hoc, hod⟩ hvb ry hkb (by omega) fun j' hj' => ?_⟩
      by_cases q : j' = j + 1
      · subst q
        exact hb'
      · exact hbest j' (by omega)
theorem min_key {pins : List (Addr × Obj)} {l f : Addr} {its : List Value} {KR : Nat → RP} {lt : Nat → Nat → Bool} {Q : Value → Shared → Prop} {E : Value → Shared → Prop} {H : Hp} {s : Shared} (hh : X.A.handled = none)
    (Iv : Inv X pins σ H s) (hll : l < s.heap.objs.size)
    (hl : ∀ H' s', Ext T [] H H' → Inv X pins σ H' s' → s'.heap.IsList l its.toArray) (hne : 0 < its.length) (stab : ∀ i v H H', TEx H H' → KR i v H → KR i v H')
    (irr : ∀ i, lt i i = false) (tr : ∀ a b c, lt a b = true → lt b c = true → lt a c = true)
    (turn : ∀ i u, its[i]? = some u → ∀ pins' H' s', Ext T [] H H' → Inv X pins' σ H' s' → wpAny (model X.prog X.w) X.A.in1 (call (.ref f) [u]) (fun r s2 => ∃ y H2, Inv X pins' σ H2 s2 ∧ Ext T [] H' H2 ∧ RelV y r ∧ KR i y H2) (fun _ _ => False) s')
    (cmp : ∀ i j x y u w pins' H' s', Inv X pins' σ H' s' → KR i x H' → KR j y H' → RelV x u → RelV y w → SeqAt.RcLt X.A.in1 s' u w (lt i j))
    (hQ : ∀ i u H' s', its[i]? = some u → (∀ j, j < its.length → lt j i = false) → Ext T [] H H' → Inv X pins σ H' s' → Q u s') :
    wpAny (model X.prog X.w) X.A (call (.builtin "min") [.ref l] [(Str.ofString "key", .ref f)]) Q E s := by
  have hname : (toString "min" ++ toString ".loop" : String) = "min.loop" := by decide
  have hls := hl H s (Ext.refl H) Iv
  refine kmk_tree PySem.F.kind_min PySem.F.plain_min PySem.F.entry_min (kmk_min_key _ _) ?_
  show wpAny _ X.A.in1 (Builtin.Builtins.bindParams "min" ["key", "default"] 0 ⟨[], [(Str.ofString "key", .ref f)]⟩ >>= _) _ _ s
  refine wpAny_bind (wpAny_of_eq (show Builtin.Builtins.bindParams "min" ["key", "default"] 0 ⟨[], [(Str.ofString "key", .ref f)]⟩ = pure [some (.ref f), none] from rfl) ?_)
  refine wpAny_bind (wpAny_pure ?_)
  refine wpAny_bind (wpAny_pyIter_list hls ?_)
  refine wpAny_bind (wpAny_newList ?_ (Nat.zero_le _))
  rw [hname]
  generalize hI : s.heap.objs.size = I
  generalize hh1 : s.heap.push { cls := .type "list_iterator", data := .fields #[.ref l, .int 0 0] } = h1
  have hS : h1.objs.size = I + 1 := by rw [← hh1, ← hI]; exact size_push' ..
  generalize hS2 : h1.objs.size = S at hS
  have k1 : ∀ b o, s.heap.get? b = some o → (h1.push (seqObj "list" #[] 0)).get? b = some o := fun b o q => Heap.get?_push_of_some _ (by rw [← hh1]; exact Heap.get?_push_of_some _ q)
  have gI : (h1.push (seqObj "list" #[] 0)).get? I = some { cls := .type "list_iterator", data := .fields #[.ref l, .int 0 0] } := Heap.get?_push_of_some _ (by rw [← hh1, ← hI]; exact Heap.get?_push_size _ rfl)
  have gS : (h1.push (seqObj "list" #[] 0)).get? S = some (seqObj "list" #[] 0) := by rw [← hS2]; exact Heap.get?_push_size _ rfl
  have hlI : l ≠ I := by rw [← hI]; exact Nat.ne_of_lt hll
  have hSI : S ≠ I := by omega
  have I0 : Inv X pins σ H { s with heap := h1.push (seqObj "list" #[] 0) } := Iv.kept (t' := s.toks) k1
  have fI : FpOk X pins H I := Iv.fpOk (by omega) (Iv.hok.fresh (by omega))
  have fS : FpOk X pins H S := Iv.fpOk (by omega) (Iv.hok.fresh (by omega))
  have W := Walks.list (prog := X.prog) (w := X.w) (A := X.A.in1) hh I l hlI its.toArray
  have hsz : its.toArray.size = its.length := List.size_toArray ..
  refine wpAny_pure ⟨plainId_quiet PySem.F.plain_min_loop _, ?_⟩
  refine codeAny_builtin PySem.F.entry_min_loop ?_
  rw [Around.under_plainId PySem.F.plain_min_loop _]
  show wpAny _ X.A.in1 (seqItems? (.ref _) >>= _) _ _ _
  refine wpAny_bind (wpAny_seqItems gS rfl ?_)
  show wpAny _ X.A.in1 (tryCatch (pyNext (.ref I)) _ >>= _) _ _ _
  refine wpAny_bind (wpAny_tryCatch (W.item 0 _ _ _ (by rw [hsz]; exact hne) ⟨⟨_, gI, rfl, rfl⟩, hl _ _ (Ext.refl H) I0⟩ fun v h' tk' hP hst' hk' => ?_))
  have hv : its[0]? = some v := by simpa using hP
  obtain ⟨oI', hoI', hoc, hod⟩ := id hst'.1
  have I1' := I0.turned (h' := h') (t' := tk') (it := I) (fun b o hb q => hk' b o (by simpa using hb) q) fI.1 fI.2.1 fI.2.2.2.1 fI.2.2.2.2.1 fI.2.2.2.2.2
  have I1 : Inv X pins σ H { s with heap := h', toks := tk' } := I1'
  have gS' : h'.get? S = some (seqObj "list" #[] 0) := hk' S _ (by simpa using hSI) gS
  show wpAny _ X.A.in1 (tryCatch (holding [v] (call (.ref f) [v])) _ >>= _) _ _ _
  have K2 := fun (H2 : Hp) (s2 : Shared) => kept2 (H2 := H2) (s2 := s2) I1 fS fI gS' hoI' (fun v z => by cases z) (fun v z => by rw [hod] at z; cases z)
  refine wpAny_bind (wpAny_tryCatch (wpAny_holding (wpAny_mono (turn 0 v hv _ H _ (Ext.refl H) (K2 H s).1) (fun x s2 he => ?_) fun _ _ hF => hF.elim)))
  obtain ⟨y2, H2, J, e2, ry2, hk2⟩ := he
  obtain ⟨I2, fS2, fI2, gS2, gI2⟩ := (K2 H2 s2).2 J
  have s1 := Heap.SameBut.update s2.heap S (Obj.mapSeq fun _ => #[v, x])
  obtain ⟨c2, hc2⟩ : ∃ c2, (s2.heap.update S (Obj.mapSeq fun _ => #[v, x])).get? S = some (seqObj "list" #[v, x] c2) := ⟨_, get?_update_seq gS2 fun _ => #[v, x]⟩
  show wpAny _ X.A.in1 (updateSeq S (fun _ => #[v, x]) >>= _) _ _ _
  refine wpAny_bind ?_
  refine wpAny_updateSeq gS2 rfl ?_
  rw [hname]
  have I3 := I2.turned (h' := s2.heap.update S (Obj.mapSeq fun _ => #[v, x])) (t' := s2.toks) (it := S) (fun b o hb q => (s1.2 b hb).trans q) fS2.1 fS2.2.1 fS2.2.2.2.1 fS2.2.2.2.2.1 fS2.2.2.2.2.2
  refine wpAny_pure ⟨plainId_quiet PySem.F.plain_min_loop _, min_loop hh hl hlI hSI stab irr tr turn cmp (fun i u H' s' a b c d => hQ i u H' s' a b c d) _ 0 0 H2 _ v x y2 c2 rfl hne I3 e2 fS2 fI2 hc2 ⟨oI', (s1.2 I hSI.symm).trans gI2, hoc, hod⟩ hv ry2 hk2 (Nat.le_refl _) fun j' hj' => ?_⟩
  have q : j' = 0 := by omega
  subst q
  exact irr 0
end
end Sf

set_option Elab.async false
set_option linter.all false
set_option maxRecDepth 100000
set_option maxHeartbeats 4000000
/-! sorted(list, key=lambda ..): some sequence of the same things. -/
namespace Sf
open PySem PySem.Spec PyProof.Rows L2 LamX NdefX
theorem vals_perm : ∀ {its out : List Value}, out.Perm its → ∀ {xs : List V}, Vals xs its → ∃ ys : List V, ys.Perm xs ∧ Vals ys out := by
  intro its out hp
  have h := hp.symm
  clear hp
  induction h with
  | nil => intro xs h; cases h; exact ⟨[], .nil, .nil⟩
  | cons x _ ih =>
    intro xs h
    cases h with
    | cons r h =>
      obtain ⟨ys, p, v⟩ := ih h
      exact ⟨_ :: ys, p.cons _, .cons r v⟩
  | swap x y l =>
    intro xs h
    cases h with
    | cons r h =>
      cases h with
      | cons r2 h => exact ⟨_, List.Perm.swap .., .cons r2 (.cons r h)⟩
  | trans _ _ ih1 ih2 =>
    intro xs h
    obtain ⟨ys, p, v⟩ := ih1 h
    obtain ⟨zs, p2, v2⟩ := ih2 v
    exact ⟨zs, p2.trans p, v2⟩
theorem sortVals_perm {κ : PyProof.Rows.KeyKind} {ks vs : List Value} (h : ks.length = vs.length) : (W.sortVals κ false ks vs).Perm vs := by
  unfold W.sortVals
  refine ((List.mergeSort_perm _ _).map Prod.snd).trans ?_
  rw [List.map_snd_zip (by omega)]
section
variable {T : List Tab} {X : Cx} {σ : L2.St}
theorem sorted_key {pins : List (Addr × Obj)} {l f : Addr} {xs : List V} {its : List Value} {KR : Nat → RP} {dk : Nat → PyData} {Q : Value → Shared → Prop} {E : Value → Shared → Prop} {H : Hp} {s : Shared}
    (Iv : Inv X pins σ H s) (hl : s.heap.IsList l its.toArray) (hv : Vals xs its) (hz : its.length ≤ sizeLine) (stab : ∀ i v H H', Ext T [] H H' → KR i v H → KR i v H')
    (rd : ∀ i y u pins' H' s', Inv X pins' σ H' s' → KR i y H' → RelV y u → ∃ as, Reads s'.heap u (dk i) as) (hal : W.AllAlike ((List.range its.length).map dk)) (hsk : W.Sortable ((List.range its.length).map dk)) (hu : ∀ d, d ∈ (List.range its.length).map dk → X.A.in1.in1.units + d.depth < cLine)
    (turn : ∀ i u, its[i]? = some u → ∀ pins' H' s', Ext T [] H H' → Inv X pins' σ H' s' → wpAny (model X.prog X.w) X.A.in1.in1 (call (.ref f) [u]) (fun r s2 => ∃ y H2, Inv X pins' σ H2 s2 ∧ Ext T [] H' H2 ∧ RelV y r ∧ KR i y H2) (fun _ _ => False) s')
    (hQ : ∀ (ys : List V) (D : Addr) (H' : Hp) (s' : Shared), ys.Perm xs → Ext T [] H H' → H' D = none → Inv X pins σ (upd H' D (.lst ys)) s' → Q (.ref D) s') :
    wpAny (model X.prog X.w) X.A (call (.builtin "sorted") [.ref l] [(Str.ofString "key", .ref f)]) Q E s := by
  refine W.sorted_of_sort hl hz (ksk_s1 _ _) (fun _ => ksk_l1 _ _) fun E' => ?_
  rw [ksk_t1]
  generalize hD : s.heap.objs.size + 1 = D
  have I0 : Inv X pins σ H { s with heap := W.copyHeap s.heap its } := Iv.kept (t' := s.toks) fun b o e => W.copyHeap_old e
  have gD : (W.copyHeap s.heap its).get? D = some (seqObj "list" its.toArray 0) := by rw [← hD]; exact W.copyHeap_at _ _
  have hDs : D < (W.copyHeap s.heap its).objs.size := Heap.lt_size gD
  have nD : H D = none := Iv.hok.fresh (by omega)
  have fD : FpOk X pins H D := Iv.fpOk (by omega) nD
  generalize hh0 : W.copyHeap s.heap its = h0 at I0 gD hDs ⊢
  clear hl
  obtain ⟨e1, gD1⟩ : ∃ e1, (h0.update D (Obj.mapSeq fun _ => (#[] : Array Value))).get? D = some (seqObj "list" #[] e1) := ⟨_, get?_update_seq gD fun _ => #[]⟩
  generalize hh1 : h0.update D (Obj.mapSeq fun _ => (#[] : Array Value)) = h1 at gD1
  have s1 : Heap.SameBut D h0 h1 := by rw [← hh1]; exact Heap.SameBut.update _ _ _
  have hs1 : h1.objs.size = h0.objs.size := by rw [← hh1, Heap.size_update]
  unfold ksk_tree
  refine wpAny_bind (listItems_at gD rfl ?_)
  refine wpAny_bind (listUpdate_at gD rfl ?_ (by rw [List.size_toArray]; exact hz) (Nat.zero_le _))
  try dsimp only
  rw [hh1]
  refine wpAny_bind (seqEpoch_at gD1 rfl ?_)
  refine wpAny_bind (wpAny_newTuple ?_ (by show its.length ≤ _; exact hz))
  refine wpAny_bind (wpAny_newList ?_ (Nat.zero_le _))
  refine wpAny_holding ?_
  try dsimp only
  generalize hh2 : h1.push (seqObj "tuple" its.toArray 0) = h2
  have hs2 : h2.objs.size = h0.objs.size + 1 := by rw [← hh2, size_push', hs1]
  generalize hkS : h2.objs.size = kS at hs2
  have gK : (h2.push (seqObj "list" #[] 0)).get? kS = some (seqObj "list" #[] 0) := by rw [← hkS]; exact Heap.get?_push_size _ rfl
  have up1 : ∀ b o, h1.get? b = some o → (h2.push (seqObj "list" #[] 0)).get? b = some o := fun b o e => Heap.get?_push_of_some _ (by rw [← hh2]; exact Heap.get?_push_of_some _ e)
  have hKD : kS ≠ D := by omega
  have hk0 : h0.get? kS = none := Heap.get?_none_of_le (by omega)
  have I1' := I0.turned (h' := h2.push (seqObj "list" #[] 0)) (it := D) (t' := s.toks) (fun b o hb e => up1 b o ((s1.2 b hb).trans e)) fD.1 fD.2.1 fD.2.2.2.1 fD.2.2.2.2.1 fD.2.2.2.2.2
  have I1 : Inv X pins σ H { s with heap := h2.push (seqObj "list" #[] 0) } := I1'
  have nK : H kS = none := I0.hok.fresh (by show h0.objs.size ≤ kS; omega)
  have fK : FpOk X pins H kS := I0.fpOk (by show h0.objs.size ≤ kS; omega) nK
  have gD2 := up1 _ _ gD1
  -- the keys
  unfold ksk_rest
  refine wpAny_bind (wpAny_rule ?_)
  first
    | rw [List.forIn_toArray]
    | (rw [← Array.forIn_toList]; simp only [List.toList_toArray])
    | rw [← Array.forIn_toList]
  refine wpAny_bind (ksk_fold (fun i s' => ∃ (H' : Hp) (kA : Array Value) (e : Nat), Inv X pins σ H' s' ∧ Ext T [] H H' ∧ FpOk X pins H' kS ∧ FpOk X pins H' D ∧ s'.heap.get? kS = some (seqObj "list" kA e) ∧ s'.heap.get? D = some (seqObj "list" #[] e1) ∧
      kA.toList.length = i ∧ ∀ (j : Nat) (u : Value), kA.toList[j]? = some u → ∃ y, RelV y u ∧ KR j y H') its 0 _
    ⟨H, #[], 0, I1, Ext.refl H, fK, fD, gK, gD2, rfl, fun j u e => by simp at e⟩ ?step ?done)
  case step =>
    rintro j x s' hx ⟨H', kA, e, J, eH, fK', fD', gK', gD', hkl, hk⟩
    simp only [Nat.zero_add] at hkl ⊢
    have hj : j < its.length := (List.getElem?_eq_some_iff.mp hx).1
    have hzk : kA.size ≤ its.length := by rw [Array.length_toList] at hkl; omega
    have K2 := fun (H2 : Hp) (s2 : Shared) => kept2 (H2 := H2) (s2 := s2) J fK' fD' gK' gD' (fun v z => by cases z) (fun v z => by cases z)
    refine wpAny_bind (wpAny_attempt (wpAny_mono (turn j x hx _ H' _ eH (K2 H' s').1) (fun v s2 he => ?_) fun _ _ hF => hF.elim))
    obtain ⟨y, H2, J2, e2, ry, hy⟩ := he
    obtain ⟨I2, fK2, fD2, gK2, gD2⟩ := (K2 H2 s2).2 J2
    try dsimp only
    have s3 := Heap.SameBut.update s2.heap kS (Obj.mapSeq (·.push v))
    obtain ⟨c2, hc2⟩ : ∃ c2, (s2.heap.update kS (Obj.mapSeq (·.push v))).get? kS = some (seqObj "list" (kA.push v) c2) := ⟨_, get?_update_seq gK2 (·.push v)⟩
    have ea : (kA.push v).toList = kA.toList ++ [v] := by simp
    refine wpAny_bind (listUpdate_at gK2 rfl ?_ (Nat.le_trans hzk hz) (Nat.le_trans (Nat.le_of_eq (Array.size_push ..)) (Nat.succ_le_succ (Nat.le_trans hzk hz))))
    have I3 := I2.turned (h' := s2.heap.update kS (Obj.mapSeq (·.push v))) (t' := s2.toks) (it := kS) (fun b o hb q => (s3.2 b hb).trans q) fK2.1 fK2.2.1 fK2.2.2.2.1 fK2.2.2.2.2.1 fK2.2.2.2.2.2
    refine wpAny_pure ⟨rfl, H2, kA.push v, c2, I3, eH.trans e2, fK2, fD2, hc2, (s3.2 D hKD.symm).trans gD2, by rw [ea, List.length_append, hkl]; rfl, fun i u hi => ?_⟩
    rw [ea] at hi
    by_cases q : i < kA.toList.length
    · rw [List.getElem?_append_left q] at hi
      obtain ⟨y', r', k'⟩ := hk i u hi
      exact ⟨y', r', stab i y' H' H2 e2 k'⟩
    · rw [List.getElem?_append_right (by omega)] at hi
      have q2 : i - kA.toList.length < 1 := (List.getElem?_eq_some_iff.mp hi).1
      have hi0 : i - kA.toList.length = 0 := by omega
      have hij : i = j := by omega
      subst hij
      rw [hi0] at hi
      have hi' : v = u := by simpa using hi
      subst hi'
      exact ⟨y, ry, hy⟩
  case done =>
    rintro s' ⟨H', kA, e, J, eH, fK', fD', gK', gD', hkl, hk⟩
    rw [Nat.zero_add] at hkl
    have hsz : kA.size = its.length := by rw [← hkl, Array.length_toList]
    try dsimp only
    refine wpAny_bind (listItems_at gK' rfl ?_)
    have each : W.EachIs (fun v d => ∃ as, Reads s'.heap v d as) kA.toList ((List.range its.length).map dk) := by
      have gen : ∀ (us : List Value) (n : Nat), (∀ (j : Nat) (u : Value), us[j]? = some u → ∃ y, RelV y u ∧ KR (n + j) y H') → W.EachIs (fun v d => ∃ as, Reads s'.heap v d as) us ((List.range' n us.length).map dk) := by
        intro us
        induction us with
        | nil => intro n _; exact .nil
        | cons u us ih =>
          intro n h
          rw [List.length_cons, List.range'_succ, List.map_cons]
          obtain ⟨y, r, k⟩ := h 0 u rfl
          refine .cons (rd n y u pins H' s' J k r) (ih (n + 1) fun j u' hj => ?_)
          have := h (j + 1) u' (by simpa using hj)
          rwa [show n + 1 + j = n + (j + 1) by omega]
      have h := gen kA.toList 0 (fun j u hj => by rw [Nat.zero_add]; exact hk j u hj)
      rw [hkl] at h
      rw [List.range_eq_range']
      exact h
    have nk1 : kS ∉ ([] : List Addr) := by simp
    refine W.keyH_end (κ := W.dataKind s'.heap ((List.range its.length).map dk)) (h₁ := W.hideAll s'.heap [kS]) (fun b o hb q => W.of_hideAll _ q) (W.hideAll_none _ (by simp)) gK' gD' hKD (W.SortsAt.data each hal hsk hu) hsz hz fun h3 tk3 c k3 n3 => ⟨rfl, ?_⟩
    have hp := sortVals_perm (κ := W.dataKind s'.heap ((List.range its.length).map dk)) (ks := kA.toList) (vs := its) (by rw [Array.length_toList]; exact hsz)
    obtain ⟨ys, py, vy⟩ := vals_perm hp hv
    have hyl : ys.length ≤ sizeLine := by rw [vy.length, hp.length_eq]; exact hz
    have kk : ∀ b o, b ≠ kS → b ≠ D → s'.heap.get? b = some o → h3.get? b = some o := fun b o h1 h2 q => k3 b o h2 (W.hideAll_get _ q (by simpa using h1))
    have I4 : Inv X pins σ H' { s' with heap := s'.heap.update kS (Obj.mapSeq fun _ => (#[] : Array Value)) } := J.turned (it := kS) (t' := s'.toks) (fun b o hb q => ((Heap.SameBut.update s'.heap kS (Obj.mapSeq fun _ => (#[] : Array Value))).2 b hb).trans q) fK'.1 fK'.2.1 fK'.2.2.2.1 fK'.2.2.2.2.1 fK'.2.2.2.2.2
    have I5 : Inv X pins σ H' { s' with heap := h3, toks := tk3 } := J.turnedL (ch := [kS, D]) (fun b o hb q => kk b o (fun z => hb (by simp [z])) (fun z => hb (by simp [z])) q) fun b hb => by
      rcases List.mem_cons.mp hb with rfl | hb
      · exact fK'
      · rw [List.mem_singleton.mp hb]; exact fD'
    exact hQ ys D H' _ py eH fD'.1 (I5.take (h' := h3) (t' := tk3) (fun b o _ q => q) fD' ⟨hyl, _, c, vy, n3⟩)
end
end Sf

set_option Elab.async false
set_option linter.all false
set_option maxRecDepth 100000
set_option maxHeartbeats 4000000
/-! The calls min(.., key=lambda ..), sorted(.., key=lambda ..) as expressions. -/
namespace Sf
open PySem PySem.Spec PyProof.Rows L2 LamX NdefX
abbrev C0 : CXT := fun _ _ _ _ _ _ => False
abbrev E00 : XK := fun _ _ _ => False
section
variable {T : List Tab} {X : Cx} {σ : L2.St}
theorem lam_turn {pins : List (Addr × Obj)} {H : Hp} {s : Shared} {A : Around} {N ps fr : List Str} {js : List Nat} {F : NF} {e : Expr} {f : Addr} {k : Nat} {x : V} {u : Value} {tb : TE} {R : RP}
    (hfr : A.frames = some X.stack) (hr : Room (k + 1) A) (Iv : Inv X pins σ H s) (hf : H f = some (LamO f F e)) (hc : H F.c = some (CodeO F.c F.qual)) (S : NScope N ps fr F.scope) (hl : ps.length = 1)
    (hb : ∀ (pm ctv : Value), bindArgs (PySem.W.kla_fn "<lambda>" F.qual F.params e F.scope F.cl pm (.ref F.c) ctv) ⟨[u], []⟩ = pure (ps.zip [u])) (cp : Caps X F.cl fr js) (r : RelV x u)
    (hbody : ∀ (A : Around) (outer : List Env) (s : Shared) (H : Hp), Room k (A.deeper (envF F f s.heap.objs.size)) → PE (ncx C0 X.prog X.w X.K X.mg X.base N F f A outer s H E00) e tb)
    (ev : EvR T tb (startF N [x] (js.map (slotAt σ))) H R) :
    wpAny (model X.prog X.w) A (call (.ref f) [u]) (fun r s2 => ∃ y H2, Inv X pins σ H2 s2 ∧ Ext T [] H H2 ∧ RelV y r ∧ R y H2) (fun _ _ => False) s := by
  have e0 := Iv.env0
  have e1 : Env0 X.prog X.w X.K X.mg X.base A X.stack s H := ⟨hfr, e0.mod, e0.bs, e0.bsz, e0.funs, e0.frf, e0.hok, e0.bare⟩
  have rc := lam_run (CX := C0) (E := E00) (Q := fun y H2 => Ext T [] H H2 ∧ R y H2) S hb (vs := [x]) (by rw [hl]; rfl) hr e1 hf hc (cells_of Iv cp) (.cons r .nil) (fun hr' => hbody A X.stack s H hr') (ev.run fun v H2 a b => ⟨a, b⟩)
  refine wpAny_call (codeAny_mono rc fun r s2 hq => ?_)
  cases r with
  | error e => exact (show False from hq).elim
  | ok fl =>
    cases fl with
    | ret u =>
      obtain ⟨y, H2, I2, r2, q1, q2⟩ := Iv.after hq
      exact ⟨y, H2, I2, q1, r2, q2⟩
    | next => exact False.elim hq
    | brk => exact False.elim hq
    | cont => exact False.elim hq

/-- refs are told once -/
theorem vals_refs : ∀ {xs : List V} {us ws : List Value}, (∀ x ∈ xs, ∃ a, x = .ref a) → Vals xs us → Vals xs ws → us = ws
  | _, _, _, _, .nil, .nil => rfl
  | _, _, _, h, .cons r1 t1, .cons r2 t2 => by
    obtain ⟨a, rfl⟩ := h _ List.mem_cons_self
    cases r1
    cases r2
    rw [vals_refs (fun x hx => h x (List.mem_cons_of_mem _ hx)) t1 t2]
/-- min(e, key=lambda y: body): D, what is told of the items; lt: the order of their keys -/
def tMinK {α : Type} (T : List Tab) (te : TE) (en : α → D) (lt : α → α → Bool) : TE := fun σ H Q => te σ H fun v H1 => Tabs T H1 ∧ ∃ es : List α, isL (es.map en) v H1 ∧ es ≠ [] ∧ ∀ v e H2, Ext T [] H1 H2 → e ∈ es → IsD H2 v (en e) → (∀ e' ∈ es, lt e' e = false) → Q v H2
theorem pe_minK {α : Type} {en : α → D} {lt : α → α → Bool} {KR : α → RP} {k : Nat} {N : List Str} {y : Str} {c P : Addr} {p pos kpos lpos : Pos} {e body : Expr} {params : Arguments} {scope : Scope} {te tb : TE}
    (hen : ∀ a, ∃ ds, en a = .tup ds) (hm : X.mg "min" = none) (ha : PA X [e] (tCons te tNil)) (TB : TabB X.base X.mg c P) (hcode : X.env.code = .ref c) (hmT : (P, X.env.qual ++ "<lambda>") ∈ T) (hu : ∀ p ∈ T, p.1 = P → p.2 = X.env.qual ++ "<lambda>") (hr : Room (k + 2) X.A)
    (S : NScope N [y] [] scope) (hnf : ∀ z ∈ scope.names, z.2 ≠ .free)
    (hb : ∀ (q : Str) (cl : List (Str × Addr)) (pm cv ctv u : Value), bindArgs (PySem.W.kla_fn "<lambda>" q params body scope cl pm cv ctv) ⟨[u], []⟩ = pure [(y, u)])
    (hbody : ∀ (A : Around) (outer : List Env) (s : Shared) (H : Hp) (f : Addr) (q : Str) (cl : List (Str × Addr)) (c' : Addr), Room k (A.deeper (envF ⟨"<lambda>", q, params, [], scope, cl, c'⟩ f s.heap.objs.size)) → PE (ncx C0 X.prog X.w X.K X.mg X.base N ⟨"<lambda>", q, params, [], scope, cl, c'⟩ f A outer s H E00) body tb)
    (stab : ∀ a v H H', TEx H H' → KR a v H → KR a v H') (irr : ∀ a, lt a a = false) (tr : ∀ a b c, lt a b = true → lt b c = true → lt a c = true)
    (ev : ∀ (a : α) (v : V) (H : Hp), IsD H v (en a) → EvR T tb (startF N [v] []) H (KR a))
    (cmp : ∀ (a b : α) (v w : V) (u z : Value) (A : Around) (pins : List (Addr × Obj)) (σ : L2.St) (H : Hp) (s : Shared), Inv X pins σ H s → A.units = X.A.units + 1 → KR a v H → KR b w H → RelV v u → RelV w z → SeqAt.RcLt A s u z (lt a b))
    (hg : Gl X "min" := by rfl) (hdef : defaultsOf params X.env = ([], []) := by rfl)
    (hst : backTo pos (starEach [e] X.env) = (false, eval e X.env) :: backTo pos (starEach [] X.env) := by rfl) (hpl : (backTo pos (starEach [e] X.env)).any (·.1) = false := by rfl) :
    PE X (.Call (.Name "min" p) [e] [⟨some "key", .Lambda params body scope lpos, kpos⟩] pos) (tMinK T te en lt) := by
  refine ⟨fun pins s σ H Q Iv h => ?_⟩
  refine wpAny_Call_Name_kw (ld_blt Iv hg hm PyProof.Rows.boot_min ?_ (by decide) (by decide))
  refine callWith_kw ?_ hst hpl (by rfl) (by rfl)
  refine thn (ha.run pos pins s σ H (fun vs H1 => match vs with | [v] => (Tabs T H1 ∧ ∃ es : List α, isL (es.map en) v H1 ∧ es ≠ [] ∧ ∀ v e H2, Ext T [] H1 H2 → e ∈ es → IsD H2 v (en e) → (∀ e' ∈ es, lt e' e = false) → Q v H2) | _ => False) Iv h) fun us s1 ⟨vs, H1, I1, r1, h1⟩ => ?_
  obtain ⟨v, rfl⟩ : ∃ v, vs = [v] := by
    match vs, h1 with
    | [v], _ => exact ⟨v, rfl⟩
  obtain ⟨hT, es, hL, hne, q⟩ := h1
  obtain ⟨u, rfl, ru⟩ := vals1 r1
  obtain ⟨a, xs, rfl, hxs, hds⟩ := hL
  cases ru
  refine wpAny_evalAll_cons (wpAny_bind ?_)
  refine lam_new I1 TB hcode hmT hu hT hdef (fun z hz e => absurd e (hnf z hz)) fun f c' H2 s2 I2 x2 _ hf hc => wpAny_bind (wpAny_standAt (wpAny_pure (wpAny_evalAll_nil ?_)))
  show wpAny _ _ (call (.builtin "min") [.ref a] [(Str.ofString "key", .ref f)]) _ _ _
  obtain ⟨hz, its, n, rv, hob⟩ := I1.hok a _ hxs
  have hlen : its.length = es.length := by rw [← rv.length, hds.length, List.length_map]
  have hne' : 0 < es.length := List.length_pos_iff.mpr hne
  have cp : Caps X (cloFrom X.env.cells scope.names []) [] [] := Caps.made I2.ok (fun z hz e => absurd e (hnf z hz)) (fun z hz => absurd hz (by simp)) rfl
  have item : ∀ (i : Nat) (u : Value), its[i]? = some u → ∃ x e, xs[i]? = some x ∧ es[i]? = some e ∧ RelV x u ∧ IsD H1 x (en e) := by
    intro i u hi
    obtain ⟨x, hx⟩ : ∃ x, xs[i]? = some x := ⟨_, List.getElem?_eq_getElem (by have := (List.getElem?_eq_some_iff.mp hi).1; rw [rv.length]; exact this)⟩
    obtain ⟨u', hu', rx⟩ := rv.get hx
    rw [hi] at hu'
    cases hu'
    obtain ⟨d, hd, hxd⟩ := hds.getV hx
    rw [List.getElem?_map] at hd
    obtain ⟨e, he', rfl⟩ := Option.map_eq_some_iff.mp hd
    exact ⟨x, e, hx, he', rx, hxd⟩
  have at_ : ∀ i : Nat, i < its.length → ∃ e, es[i]? = some e := fun i hi => ⟨_, List.getElem?_eq_getElem (by omega)⟩
  have cpE : ∀ {F : NF}, F.cl = cloFrom X.env.cells scope.names [] → Caps X F.cl [] [] := fun h => by rw [h]; exact cp
  refine min_key (T := T) (KR := fun i v H => ∃ e, es[i]? = some e ∧ KR e v H) (lt := fun i j => match es[i]?, es[j]? with | some a, some b => lt a b | _, _ => false) (H := H2) (its := its) hr.hd I2 (I2.hok.lt (x2.lst hxs (by simp))) (fun H' s' e J => ?_) (by omega) (fun i v H H' x h => ?_) (fun i => ?_) (fun i j k h1 h2 => ?_) (fun i u hi pins' H' s' e J => ?_) (fun i j v w u z pins' H' s' J h1 h2 r1 r2 => ?_) (fun i u H' s' hi hbest e J => ?_)
  · obtain ⟨_, its', n', rv', ho'⟩ := J.hok a _ (e.lst (x2.lst hxs (by simp)) (by simp))
    have href : ∀ x ∈ xs, ∃ b, x = .ref b := fun x hx => by
      obtain ⟨i, hi⟩ := List.getElem?_of_mem hx
      obtain ⟨d, hd, hxd⟩ := hds.getV hi
      rw [List.getElem?_map] at hd
      obtain ⟨e', _, rfl⟩ := Option.map_eq_some_iff.mp hd
      obtain ⟨ds, hds'⟩ := hen e'
      rw [hds'] at hxd
      obtain ⟨b, _, rfl, _⟩ := hxd.tup_inv
      exact ⟨b, rfl⟩
    obtain rfl := vals_refs href rv rv'
    exact ⟨_, ho', rfl, n', rfl⟩
  · obtain ⟨e, h1, h2⟩ := h
    exact ⟨e, h1, stab e v H H' x h2⟩
  · cases es[i]? with
    | none => rfl
    | some a => exact irr a
  · cases ei : es[i]? with
    | none => rw [ei] at h1; cases h1
    | some a =>
      cases ej : es[j]? with
      | none => rw [ei, ej] at h1; cases h1
      | some b =>
        cases ek : es[k]? with
        | none => rw [ej, ek] at h2; cases h2
        | some c =>
          rw [ei, ej] at h1
          rw [ej, ek] at h2
          exact tr a b c h1 h2
  · obtain ⟨x, e', hx, he, rx, hd⟩ := item i u hi
    have hd' : IsD H' x (en e') := IsD.mono (x2.tup.trans e.tup) hd
    refine wpAny_mono (lam_turn (T := T) (A := X.A.in1) (k := k) (N := N) (js := []) J.ok.frames hr.in1 J (e.keep f _ (by simp) hf lamO_ne) (e.keep c' _ (by simp) hc codeO_ne) S rfl (fun pm ctv => hb _ _ _ _ _ _) (cpE rfl) rx (fun A outer s H hr2 => hbody A outer s H f _ _ _ hr2) (ev e' x H' hd')) (fun r s2 ⟨y, H2, a1, a2, a3, a4⟩ => ⟨y, H2, a1, a2, a3, e', he, a4⟩) fun _ _ h => h
  · obtain ⟨e1, a1, b1⟩ := h1
    obtain ⟨e2, a2, b2⟩ := h2
    show SeqAt.RcLt _ _ _ _ (match es[i]?, es[j]? with | some a, some b => lt a b | _, _ => false)
    rw [a1, a2]
    exact cmp e1 e2 v w u z X.A.in1 pins' σ H' s' J rfl b1 b2 r1 r2
  · obtain ⟨x, e', hx, he, rx, hd⟩ := item i u hi
    refine ⟨x, H', J, rx, q x e' H' (x2.trans e) (List.mem_of_getElem? he) (IsD.mono (x2.tup.trans e.tup) hd) fun e2 he2 => ?_⟩
    obtain ⟨j, hj⟩ := List.getElem?_of_mem he2
    have z := hbest j (by have := (List.getElem?_eq_some_iff.mp hj).1; omega)
    show lt e2 e' = false
    have z' : (match es[j]?, es[i]? with | some a, some b => lt a b | _, _ => false) = false := z
    rw [hj, he] at z'
    exact z'

theorem each_perm {α : Type} {R : α → RP} {H : Hp} : ∀ {xs ys : List V}, ys.Perm xs → ∀ {es : List α}, Each R H xs es → ∃ fs : List α, fs.Perm es ∧ Each R H ys fs := by
  intro xs ys hp
  have h := hp.symm
  clear hp
  induction h with
  | nil => intro es h; cases h; exact ⟨[], .nil, .nil⟩
  | cons x _ ih =>
    intro es h
    cases h with
    | cons r h =>
      obtain ⟨fs, p, v⟩ := ih h
      exact ⟨_ :: fs, p.cons _, .cons r v⟩
  | swap x y l =>
    intro es h
    cases h with
    | cons r h =>
      cases h with
      | cons r2 h => exact ⟨_, List.Perm.swap .., .cons r2 (.cons r h)⟩
  | trans _ _ ih1 ih2 =>
    intro es h
    obtain ⟨fs, p, v⟩ := ih1 h
    obtain ⟨gs, p2, v2⟩ := ih2 v
    exact ⟨gs, p2.trans p, v2⟩
theorem each_of {α : Type} {en : α → D} {H : Hp} : ∀ {vs : List V} {es : List α}, IsDs H vs (es.map en) → Each (fun e => isT (en e)) H vs es
  | _, [], h => by cases h; exact .nil
  | _, e :: es, h => by
    cases h with
    | cons h r => exact .cons h (each_of r)
/-- sorted(e, key=lambda y: body): some sequence of the same -/
def tSortK {α : Type} (T : List Tab) (te tb : TE) (N : List Str) (js : List Nat) (en : α → D) (KR : α → RP) : TE := fun σ H Q => te σ H fun v H1 => Tabs T H1 ∧ ∃ es : List α, isL (es.map en) v H1 ∧
  (∀ e ∈ es, ∀ v H2, Ext T [] H1 H2 → IsD H2 v (en e) → EvR T tb (startF N [v] (js.map (slotAt σ))) H2 (KR e)) ∧
  ∀ (fs : List α) (D : Addr) (ys : List V) H2, fs.Perm es → Ext T [] H1 H2 → H2 D = none → IsDs H2 ys (fs.map en) → Q (.ref D) (upd H2 D (.lst ys))
theorem pe_sortK {α : Type} {en : α → D} {kd : α → PyData} {KR : α → RP} {k : Nat} {N fr : List Str} {js : List Nat} {y : Str} {c P : Addr} {p pos kpos lpos : Pos} {e body : Expr} {params : Arguments} {scope : Scope} {te tb : TE}
    (hen : ∀ a, ∃ ds, en a = .tup ds) (hm : X.mg "sorted" = none) (ha : PA X [e] (tCons te tNil)) (TB : TabB X.base X.mg c P) (hcode : X.env.code = .ref c) (hmT : (P, X.env.qual ++ "<lambda>") ∈ T) (hu : ∀ p ∈ T, p.1 = P → p.2 = X.env.qual ++ "<lambda>") (hr : Room (k + 3) X.A)
    (S : NScope N [y] fr scope) (hfree : ∀ y ∈ scope.names, y.2 = .free → X.env.scope.names.lookup y.1 = some .cell ∨ X.env.scope.names.lookup y.1 = some .free) (hfr : ∀ y ∈ fr, (y, NameKind.free) ∈ scope.names) (hjs : js.map (fun j => X.N[j]?) = fr.map some)
    (hb : ∀ (q : Str) (cl : List (Str × Addr)) (pm cv ctv u : Value), bindArgs (PySem.W.kla_fn "<lambda>" q params body scope cl pm cv ctv) ⟨[u], []⟩ = pure [(y, u)])
    (hbody : ∀ (A : Around) (outer : List Env) (s : Shared) (H : Hp) (f : Addr) (q : Str) (cl : List (Str × Addr)) (c' : Addr), Room k (A.deeper (envF ⟨"<lambda>", q, params, [], scope, cl, c'⟩ f s.heap.objs.size)) → PE (ncx C0 X.prog X.w X.K X.mg X.base N ⟨"<lambda>", q, params, [], scope, cl, c'⟩ f A outer s H E00) body tb)
    (stab : ∀ a v H H', Ext T [] H H' → KR a v H → KR a v H')
    (rd : ∀ (a : α) (v : V) (u : Value) (pins : List (Addr × Obj)) (σ : L2.St) (H : Hp) (s : Shared), Inv X pins σ H s → KR a v H → RelV v u → ∃ as, Reads s.heap u (kd a) as)
    (hal : ∀ a b, W.alike (kd a) (kd b) = true) (hsk : ∀ a, ∃ x r, kd a = .tuple (x :: r)) (hdp : ∀ a, (kd a).depth ≤ 8)
    (hg : Gl X "sorted" := by rfl) (hdef : defaultsOf params X.env = ([], []) := by rfl)
    (hst : backTo pos (starEach [e] X.env) = (false, eval e X.env) :: backTo pos (starEach [] X.env) := by rfl) (hpl : (backTo pos (starEach [e] X.env)).any (·.1) = false := by rfl) :
    PE X (.Call (.Name "sorted" p) [e] [⟨some "key", .Lambda params body scope lpos, kpos⟩] pos) (tSortK T te tb N js en KR) := by
  refine ⟨fun pins s σ H Q Iv h => ?_⟩
  refine wpAny_Call_Name_kw (ld_blt Iv hg hm PyProof.Rows.boot_sorted ?_ (by decide) (by decide))
  refine callWith_kw ?_ hst hpl (by rfl) (by rfl)
  refine thn (ha.run pos pins s σ H (fun vs H1 => match vs with | [v] => (Tabs T H1 ∧ ∃ es : List α, isL (es.map en) v H1 ∧
      (∀ e ∈ es, ∀ v H2, Ext T [] H1 H2 → IsD H2 v (en e) → EvR T tb (startF N [v] (js.map (slotAt σ))) H2 (KR e)) ∧
      ∀ (fs : List α) (D : Addr) (ys : List V) H2, fs.Perm es → Ext T [] H1 H2 → H2 D = none → IsDs H2 ys (fs.map en) → Q (.ref D) (upd H2 D (.lst ys))) | _ => False) Iv h) fun us s1 ⟨vs, H1, I1, r1, h1⟩ => ?_
  obtain ⟨v, rfl⟩ : ∃ v, vs = [v] := by
    match vs, h1 with
    | [v], _ => exact ⟨v, rfl⟩
  obtain ⟨hT, es, hL, ev, q⟩ := h1
  obtain ⟨u, rfl, ru⟩ := vals1 r1
  obtain ⟨a, xs, rfl, hxs, hds⟩ := hL
  cases ru
  refine wpAny_evalAll_cons (wpAny_bind ?_)
  have hfree' : ∀ y ∈ scope.names, y.2 = .free → ∃ c, X.env.cells.lookup y.1 = some c := fun y hy e => (hfree y hy e).elim (fun z => I1.ok.has _ (.inl z)) fun z => I1.ok.has _ (.inr z)
  refine lam_new I1 TB hcode hmT hu hT hdef hfree' fun f c' H2 s2 I2 x2 _ hf hc => wpAny_bind (wpAny_standAt (wpAny_pure (wpAny_evalAll_nil ?_)))
  show wpAny _ _ (call (.builtin "sorted") [.ref a] [(Str.ofString "key", .ref f)]) _ _ _
  obtain ⟨hz, its, n, rv, hob⟩ := I2.hok a _ (x2.lst hxs (by simp))
  have hlen : its.length = es.length := by rw [← rv.length, hds.length, List.length_map]
  have cp : Caps X (cloFrom X.env.cells scope.names []) fr js := Caps.made I2.ok hfree hfr hjs
  have cpE : ∀ {F : NF}, F.cl = cloFrom X.env.cells scope.names [] → Caps X F.cl fr js := fun h => by rw [h]; exact cp
  have item : ∀ (i : Nat) (u : Value), its[i]? = some u → ∃ x e, xs[i]? = some x ∧ es[i]? = some e ∧ RelV x u ∧ IsD H1 x (en e) := by
    intro i u hi
    obtain ⟨x, hx⟩ : ∃ x, xs[i]? = some x := ⟨_, List.getElem?_eq_getElem (by have := (List.getElem?_eq_some_iff.mp hi).1; rw [rv.length]; exact this)⟩
    obtain ⟨u', hu', rx⟩ := rv.get hx
    rw [hi] at hu'
    cases hu'
    obtain ⟨d, hd, hxd⟩ := hds.getV hx
    rw [List.getElem?_map] at hd
    obtain ⟨e, he', rfl⟩ := Option.map_eq_some_iff.mp hd
    exact ⟨x, e, hx, he', rx, hxd⟩
  have dk : ∀ d, d ∈ (List.range its.length).map (fun i => match es[i]? with | some a => kd a | none => PyData.none) → ∃ a, d = kd a := by
    intro d hd
    obtain ⟨i, hi, rfl⟩ := List.mem_map.mp hd
    rw [List.mem_range] at hi
    refine ⟨es[i]'(by omega), ?_⟩
    rw [List.getElem?_eq_getElem (show i < es.length by omega)]
  refine sorted_key (T := T) (xs := xs) (KR := fun i v H => ∃ e, es[i]? = some e ∧ KR e v H) (dk := fun i => match es[i]? with | some a => kd a | none => PyData.none) (H := H2) (its := its) I2 ⟨_, hob, rfl, n, rfl⟩ rv (by rw [← rv.length]; exact hz) (fun i v H H' x h => ?_) (fun i y u pins' H' s' J h r => ?_) (fun d hd d' hd' => ?_) (.inl fun d hd => ?_) (fun d hd => ?_) (fun i u hi pins' H' s' e J => ?_) (fun ys D H' s' py e hD J => ?_)
  · obtain ⟨e, h1, h2⟩ := h
    exact ⟨e, h1, stab e v H H' x h2⟩
  · obtain ⟨e, h1, h2⟩ := h
    rw [h1]
    exact rd e y u pins' σ H' s' J h2 r
  · obtain ⟨b, rfl⟩ := dk d hd
    obtain ⟨b', rfl⟩ := dk d' hd'
    exact hal b b'
  · obtain ⟨b, rfl⟩ := dk d hd
    exact hsk b
  · obtain ⟨b, rfl⟩ := dk d hd
    have := hdp b
    have := hr.un
    show X.A.units + 1 + 1 + _ < _
    omega
  · obtain ⟨x, e', hx, he, rx, hd⟩ := item i u hi
    have hd' : IsD H' x (en e') := IsD.mono (x2.tup.trans e.tup) hd
    refine wpAny_mono (lam_turn (T := T) (A := X.A.in1.in1) (k := k) (N := N) (js := js) J.ok.frames hr.in1.in1 J (e.keep f _ (by simp) hf lamO_ne) (e.keep c' _ (by simp) hc codeO_ne) S rfl (fun pm ctv => hb _ _ _ _ _ _) (cpE rfl) rx (fun A outer s H hr2 => hbody A outer s H f _ _ _ hr2) (ev e' (List.mem_of_getElem? he) x H' (x2.trans e) hd')) (fun r s2 ⟨y, H2, a1, a2, a3, a4⟩ => ⟨y, H2, a1, a2, a3, e', he, a4⟩) fun _ _ h => h
  · obtain ⟨fs, p1, p2⟩ := each_perm py (each_of (IsDs.mono (x2.tup.trans e.tup) hds))
    exact ⟨.ref D, _, J, rfl, q fs D ys H' p1 (x2.trans e) hD p2.toDs⟩
end
end Sf

set_option Elab.async false
set_option linter.all false
set_option maxRecDepth 100000
set_option maxHeartbeats 4000000
/-! Dicts whose keys are tuples: get, setdefault, len. -/
namespace Sf
open PySem L2 LamX
section
variable {X : Cx}
theorem ndo_ref {X : Cx} {pins : List (Addr × Obj)} {σ : L2.St} {H : Hp} {s : Shared} {a : Addr} {ks : List NK} (I : Inv X pins σ H s) (h : H a = some (NDo X.prog X.w a ks)) (hk : NKeys H ks) : s.TypeIs (.ref a) "dict" ∧ (∀ b, Value.ref a = .ref b → ∃ ob, s.heap.get? b = some ob ∧ ob.dict = none) ∧ (a == sysModules) = false := by
  obtain ⟨xs, hm, hp, hsm, hz, _⟩ := nd_of I h hk
  refine ⟨hm.typeIs, fun b e => ?_, hsm⟩
  cases e
  obtain ⟨o, es, ep, h1, h2, _⟩ := hm
  exact ⟨o, h1, h2.2.1⟩
/-- len(d) -/
def rNLen (P : Program) (w : World) : List V → Hp → VK → Prop := fun xs H Q => ∃ a kvs, xs = [V.ref a] ∧ NAt P w H a kvs ∧ Q (.int kvs.length) H
theorem call_nlen : CallR X (.builtin "len") (rNLen X.prog X.w) := by
  intro pins s σ H xs us Q I r h
  obtain ⟨a, kvs, rfl, ⟨ks, h1, h2, rfl⟩, q⟩ := h
  obtain ⟨u, rfl, ru⟩ := vals1 r
  cases ru
  obtain ⟨ys, hm, hp, hs, hz, _⟩ := nd_of I h1 h2
  obtain ⟨es, ep, hr, hsz, _⟩ := hm.raw
  have hl := paired_len hp
  have e : (pairs ks).length = es.size := by unfold pairs; rw [List.length_map, hsz, hl]
  rw [e] at q
  have hz2 : es.size ≤ sizeLine := by rw [hsz, hl]; exact hz
  have hz3 : sizeLine < 2 ^ 63 := by rw [sizeLine_eq]; decide
  exact PyProof.Rows.call_len_slot hm.typeIs PySem.F.slot_dict_len (fun Q' hq => call_len_raw hs hr hq) (by omega) (by omega) ⟨.int es.size, H, I.tok _, ⟨_, rfl⟩, q⟩
/-- d.get(k, x) -/
def tNGet2 (P : Program) (w : World) (td ty tx : TE) : TE := fun σ H Q => td σ H fun x H1 => ∃ a ks, x = .ref a ∧ H1 a = some (NDo P w a ks) ∧ NKeys H1 ks ∧ ty σ H1 fun y H2 => tx σ H2 fun z H3 => ∃ d kvs, IsD H3 y d ∧ (∃ ds, d = .tup ds) ∧ d.depth ≤ 8 ∧ NAt P w H3 a kvs ∧ Q ((valV kvs d).getD z) H3
theorem pe_nget2 {o e f : Expr} {apos cpos : Pos} {td ty tx : TE} (hu : X.A.units + 64 < cLine) (ho : PE X o td) (he : PE X e ty) (hf : PE X f tx) (m : M2 X o "get" apos e f cpos) : PE X (.Call (.Attribute o "get" apos) [e, f] [] cpos) (tNGet2 X.prog X.w td ty tx) := by
  refine ⟨fun pins s σ H Q I h => ?_⟩
  refine wpAny_Call_method m.base m.few m.line PySem.F.plainAttrs_dict PySem.F.slot_dict_get PySem.F.type_dict_get (thn (ho.run pins s σ H _ I h) fun u s1 ⟨x, H1, I1, rx, a, ks, ex, e1, e2, q1⟩ => ?_)
  subst ex
  obtain rfl : u = Value.ref a := rx
  obtain ⟨t1, t2, _⟩ := ndo_ref I1 e1 e2
  refine ⟨t1, t2, ?_⟩
  rw [m.trees]
  refine Calls.callWith_builtin rfl (Calls.evalArgs_plain (Calls.spliced_cons (thn (he.run pins s1 σ H1 _ I1 q1) fun iv s2 ⟨y, H2, I2, ry, q2⟩ =>
    Calls.spliced_cons (thn (hf.run pins s2 σ H2 _ I2 q2) fun fv s3 ⟨z, H3, I3, rz, d, kvs, hy, ⟨ds, hd⟩, hdep, ⟨ks', h1, h2, hkv⟩, q3⟩ => Calls.spliced_nil ?_))))
  subst hd
  subst hkv
  obtain ⟨b, vs, rfl, _⟩ := hy.tup_inv
  cases ry
  obtain ⟨xs, hm, hp, hsm, _⟩ := nd_of I3 h1 h2
  refine call_meetsIn PySem.F.slot_dict_get hm.typeIs PySem.F.entry_dict_get (PySem.F.args_dict_get_3 _ _ _) (meetsH_dict_get_default (nestedKind X.prog X.w) a b hsm fv) ⟨by show X.A.units + 1 + 8 < _; omega, .tup ds, xs, ⟨hy.nested I3 rfl, hdep⟩, hm, ⟨(valV (pairs ks') (.tup ds)).getD z, H3, I3.tok _, ?_, q3⟩⟩
  rcases paired_at hp (.tup ds) with ⟨k1, k2⟩ | ⟨v', b', u', k1, k2, r⟩
  · rw [k1, k2]; exact rz
  · rw [k1, k2]; exact r
/-- d.setdefault(k, x), the value unused -/
def tNSetDef (P : Program) (w : World) (td ty tx : TE) : TE := fun σ H Q => td σ H fun x H1 => ∃ a ks, x = .ref a ∧ H1 a = some (NDo P w a ks) ∧ NKeys H1 ks ∧ ty σ H1 fun y H2 => tx σ H2 fun z H3 => ∃ d b ks, y = .ref b ∧ IsD H3 y d ∧ d.depth ≤ 8 ∧ H3 a = some (NDo P w a ks) ∧ NKeys H3 ks ∧ ks.length < sizeLine ∧
  (∀ v, valV (pairs ks) d = some v → Q v H3) ∧ (valV (pairs ks) d = none → Q z (upd H3 a (NDo P w a (nput ks d b z))))
theorem pe_nsetdef {o e f : Expr} {apos cpos : Pos} {td ty tx : TE} (hu : X.A.units + 64 < cLine) (ho : PE X o td) (he : PE X e ty) (hf : PE X f tx) (m : M2 X o "setdefault" apos e f cpos) : PE X (.Call (.Attribute o "setdefault" apos) [e, f] [] cpos) (tNSetDef X.prog X.w td ty tx) := by
  refine ⟨fun pins s σ H Q I h => ?_⟩
  refine wpAny_Call_method m.base m.few m.line PySem.F.plainAttrs_dict PySem.F.slot_dict_setdefault PySem.F.type_dict_setdefault (thn (ho.run pins s σ H _ I h) fun u s1 ⟨x, H1, I1, rx, a, ks, ex, e1, e2, q1⟩ => ?_)
  subst ex
  obtain rfl : u = Value.ref a := rx
  obtain ⟨t1, t2, _⟩ := ndo_ref I1 e1 e2
  refine ⟨t1, t2, ?_⟩
  rw [m.trees]
  refine Calls.callWith_builtin rfl (Calls.evalArgs_plain (Calls.spliced_cons (thn (he.run pins s1 σ H1 _ I1 q1) fun iv s2 ⟨y, H2, I2, ry, q2⟩ =>
    Calls.spliced_cons (thn (hf.run pins s2 σ H2 _ I2 q2) fun fv s3 ⟨z, H3, I3, rz, d, b, ks', ey, hy, hdep, h1, h2, hz, qy, qn⟩ => Calls.spliced_nil ?_))))
  subst ey
  cases ry
  obtain ⟨xs, hm, hp, hsm, _⟩ := nd_of I3 h1 h2
  refine call_setdefault_heap (knd := nestedKind X.prog X.w) (k := d) (by show X.A.units + 1 + 8 < _; omega) ⟨hy.nested I3 rfl, hdep⟩ hsm hm (fun p hpk => ?_) (fun hn h' hm' hs => ?_) (by rw [paired_len hp]; exact Nat.le_of_lt hz)
  · rcases paired_at hp d with ⟨k1, k2⟩ | ⟨v', b', u', k1, k2, r⟩
    · rw [k2] at hpk; cases hpk
    · rw [k2] at hpk
      cases hpk
      exact ⟨v', H3, I3.tok _, r, qy v' k1⟩
  · rcases paired_at hp d with ⟨k1, k2⟩ | ⟨v', b', u', k1, k2, r⟩
    · exact ⟨z, _, nd_write I3 h1 hp hsm hz rz hm' hs, rz, qn k1⟩
    · rw [k2] at hn; cases hn
end
end Sf

set_option Elab.async false
set_option linter.all false
set_option maxRecDepth 100000
set_option maxHeartbeats 4000000
/-! Dict comprehensions whose keys are tuples (after the hand layer's proof for plain keys). -/
namespace Sf
open PySem PySem.Spec PyProof.Rows L2 LamX
theorem n_dictSet {X : Cx} {pins : List (Addr × Obj)} {σ : L2.St} {H : Hp} {s : Shared} {E : Value → Shared → Prop} {D : Addr} {ks : List NK} {d : Sf.D} {b : Addr} {v : V} {r : Value} {Q : Unit → Shared → Prop} (hu : X.A.units + 64 < cLine) (I : L2.Inv X pins σ H s) (hD : H D = some (NDo X.prog X.w D ks)) (hk : NKeys H ks) (hz : ks.length < sizeLine)
    (hd : IsD H (.ref b) d) (hdep : d.depth ≤ 8) (rv : RelV v r) (h : ∀ s', L2.Inv X pins σ (upd H D (NDo X.prog X.w D (nput ks d b v))) s' → Q () s') : wpAny (model X.prog X.w) X.A (dictSet D (.ref b) r) Q E s := by
  obtain ⟨xs, hm, hp, hsm, _⟩ := nd_of I hD hk
  refine wpAny_dictSet_heap (knd := nestedKind X.prog X.w) (k := d) (by show X.A.units + 8 < _; omega) ⟨hd.nested I rfl, hdep⟩ hm (fun h' hm' hs => h _ ?_) (by rw [paired_len hp]; exact Nat.le_of_lt hz)
  exact nd_write I hD hp hsm hz rv hm' hs
section
variable {X : Cx}
/-- {k: v for target in iter if ..} -/
def tNDc (P : Program) (w : World) (wi : TI) (g : TG) (tt : TT) (tk tv : TE) (vs : List Nat) : TE := fun σ H Q => wi σ H fun J H1 => ∀ D, H1 D = none → ∃ W : Nat → Nat → Hp → Prop, (∃ m, W 0 m (upd H1 D (NDo P w D []))) ∧ ∀ i m H, W i m H →
  (J.stop i H ∧ Q (.ref D) H) ∨ (J.go i H ∧ ∃ Nx : Hp → Prop, (∀ H', Nx H' → ∃ m', m' < m ∧ W (i + 1) m' H') ∧ ∀ x H', J.yld i H x H' → g x (wipe σ vs) H' fun σ2 H2 => wipe σ2 vs = wipe σ vs ∧ tt σ2 H2 fun b H3 =>
    if b = true then tk σ2 H3 fun y H4 => tv σ2 H4 fun z H5 => ∃ ks d b, y = .ref b ∧ IsD H5 y d ∧ d.depth ≤ 8 ∧ H5 D = some (NDo P w D ks) ∧ NKeys H5 ks ∧ ks.length < sizeLine ∧ Nx (upd H5 D (NDo P w D (nput ks d b z))) else Nx H3)
theorem ndc_core {pins : List (Addr × Obj)} {s : Shared} {σ : L2.St} {H : Hp} {Q : VK} {kx vx tg iter : Expr} {ifs : List Expr} {scope : Scope} {own : List (Str × Nat)} {pos pos' : Pos} {wi : TI} {g : TG} {tt : TT} {tk tv : TE} {use : Option (Value → Sem Unit)} {Qf : Value → Shared → Prop}
    (hu : X.A.units + 64 < cLine) (hc : X.calm = true) (hN : X.N.Nodup) (I : L2.Inv X pins σ H s) (hi : PI X tg iter wi) (ok : BlkOk X.N X.env.scope scope own)
    (hg : ∀ (s : Shared) (H : Hp) (C : Addr) (cl : List (Str × Addr)) (fp : List Addr), PG (X.blk s H scope (compEnvC scope cl C X.env) fp) tg g) (ht : ∀ (s : Shared) (H : Hp) (C : Addr) (cl : List (Str × Addr)) (fp : List Addr), PTs (X.blk s H scope (compEnvC scope cl C X.env) fp) ifs tt)
    (hk : ∀ (s : Shared) (H : Hp) (C : Addr) (cl : List (Str × Addr)) (fp : List Addr), PE (X.blk s H scope (compEnvC scope cl C X.env) fp) kx tk)
    (he : ∀ (s : Shared) (H : Hp) (C : Addr) (cl : List (Str × Addr)) (fp : List Addr), PE (X.blk s H scope (compEnvC scope cl C X.env) fp) vx tv) (hs : ∀ x, foldedSetIterable iter X.env x = pure x)
    (h : tNDc X.prog X.w wi g tt tk tv (own.map (·.2)) σ H Q)
    (hRR : ∀ D C s' m H', L2.Inv X pins σ H' s' → Q (.ref D) H' → s'.heap.Ns C m → FpOk X pins H' C → compPost (model X.prog X.w) X.A X.xe use Qf (.ref D) C (.ok .next) s') :
    wpAny (model X.prog X.w) X.A (comprehension (.DictComp kx vx [⟨tg, iter, ifs, 0⟩] scope pos) scope X.env pos' newDict false (eval iter X.env) use) Qf X.xe s := by
  have hfree : ∀ y ∈ scope.names, y.2 = .free → ∃ c, X.env.cells.lookup y.1 = some c := fun y hy e => by
    rcases ok.free y hy e with k | k
    · exact I.ok.has _ (.inl k)
    · exact I.ok.has _ (.inr k)
  refine wpAny_comprehension_free (use := use) rfl hs (closure_ok hfree) ok.kind (fun y hy e => by rw [ok.uniq y hy, e])
    (thn (hi.run pins s σ H _ I h) fun xv s1 hx => thn hx fun itv s2 h2 => ?_)
  obtain ⟨it, fp, tn, J, H2, e, I2, T, st2, f2, q⟩ := h2
  subst e
  refine wpAny_newObj_type (newEnv_comp ?_)
  generalize hD : s2.heap.objs.size = D
  have hDn : H2 D = none := I2.hok.fresh (Nat.le_of_eq hD)
  obtain ⟨W, ⟨m0, w0⟩, turn⟩ := q D hDn
  -- the new list
  generalize hs3 : ({ s2 with heap := s2.heap.push { cls := .type "dict", data := .dict #[] } } : Shared) = s3
  have I3 : L2.Inv X pins σ (upd H2 D (NDo X.prog X.w D [])) s3 := by
    rw [← hs3]
    refine I2.laid (t' := s2.toks) (fun b o e => Heap.get?_push_of_some _ e) (Nat.le_of_eq hD) ?_
    rw [← hD]
    exact nd_ok (Heap.DictOfH.new s2.heap) .nil (beq_eq_false_iff_ne.mpr (Ne.symm (Nat.ne_of_lt I2.big))) (Nat.zero_le _)
  have h3 : s3.heap = s2.heap.push { cls := .type "dict", data := .dict #[] } := by rw [← hs3]
  have sz : ∀ b ∈ fp, b < s2.heap.objs.size := fun b hb => by
    obtain ⟨o, e, _⟩ := T.obj _ _ st2 b hb
    exact Heap.lt_size e
  have f3 : ∀ b ∈ fp, FpOk X pins (upd H2 D (NDo X.prog X.w D [])) b ∧ b < s3.heap.objs.size := fun b hb => by
    have hlt := sz b hb
    refine ⟨⟨?_, (f2 b hb).2⟩, by rw [h3, Heap.size_push]; exact Nat.lt_succ_of_lt hlt⟩
    rw [upd_ne (by rw [← hD]; exact Nat.ne_of_lt hlt)]
    exact (f2 b hb).1
  have st3 : tn 0 s3.heap := T.keep _ _ _ st2 fun b _ o e => by rw [h3]; exact Heap.get?_push_of_some _ e
  have I4 := block_start I3 ok hN f3
  have pg := hg s3 (upd H2 D (NDo X.prog X.w D [])) s3.heap.objs.size (cellsFrom (s3.heap.objs.size + 1) scope.names (cloFrom X.env.cells scope.names [])) fp
  have pt := ht s3 (upd H2 D (NDo X.prog X.w D [])) s3.heap.objs.size (cellsFrom (s3.heap.objs.size + 1) scope.names (cloFrom X.env.cells scope.names [])) fp
  have pk := hk s3 (upd H2 D (NDo X.prog X.w D [])) s3.heap.objs.size (cellsFrom (s3.heap.objs.size + 1) scope.names (cloFrom X.env.cells scope.names [])) fp
  have pe := he s3 (upd H2 D (NDo X.prog X.w D [])) s3.heap.objs.size (cellsFrom (s3.heap.objs.size + 1) scope.names (cloFrom X.env.cells scope.names [])) fp
  show codeAny _ _ (.compStart (.DictComp kx vx [⟨tg, iter, ifs, 0⟩] scope pos) 0 (.ref it) (.ref D) (compEnvC scope (cellsFrom (s3.heap.objs.size + 1) scope.names (cloFrom X.env.cells scope.names [])) s3.heap.objs.size X.env)) (compPost (model X.prog X.w) X.A X.xe use Qf (.ref D) s3.heap.objs.size) { s3 with heap := pushCells (s3.heap.push { cls := .type "dict", data := .dict #[] }) scope.names }
  have nfp : ∀ b ∈ fp, (upd H2 D (NDo X.prog X.w D [])) b = none := fun b hb => (f3 b hb).1.1
  generalize hce : compEnvC scope (cellsFrom (s3.heap.objs.size + 1) scope.names (cloFrom X.env.cells scope.names [])) s3.heap.objs.size X.env = ce at I4 pg pt pk pe ⊢
  have cL : ce.locals = s3.heap.objs.size := by subst hce; rfl
  generalize hH3 : upd H2 D (NDo X.prog X.w D []) = H3 at I3 I4 pg pt pk pe w0 nfp f3
  generalize hs4 : ({ s3 with heap := pushCells (s3.heap.push { cls := .type "dict", data := .dict #[] }) scope.names } : Shared) = s4 at I4 ⊢
  have st4 : tn 0 s4.heap := T.keep _ _ _ st3 fun b _ o e => by rw [← hs4]; exact pushCells_keeps _ _ _ _ (Heap.get?_push_of_some _ e)
  have stat : ∀ {σ' : L2.St} {H' : Hp} {s' : Shared}, L2.Inv (X.blk s3 H3 scope ce fp) [] σ' H' s' → (∀ b ∈ fp, H' b = none) → ∀ b ∈ fp, FpOk (X.blk s3 H3 scope ce fp) [] H' b := fun {σ' H' s'} I' hn b hb =>
    ⟨hn b hb, (I'.ok.exf b hb).1, I'.ok.exfs b hb, .inl hb, fun x c e => (I'.ok.exf b hb).2 x c e, fun p hp => absurd (show p ∈ ([] : List (Addr × Obj)) ++ [] from hp) (by simp)⟩
  have loop : codeAny (model X.prog X.w) X.A (.compLoop (.DictComp kx vx [⟨tg, iter, ifs, 0⟩] scope pos) 0 (.ref it) (.ref D) ce) (compPost (model X.prog X.w) X.A X.xe use Qf (.ref D) s3.heap.objs.size) s4 := by
    refine compLoop_anyD (fun n s' => ∃ i H', L2.Inv (X.blk s3 H3 scope ce fp) [] (wipe σ (own.map (·.2))) H' s' ∧ tn i s'.heap ∧ (∀ b ∈ fp, H' b = none) ∧ W i n H') ?_ m0 ⟨0, H3, I4, st4, nfp, w0⟩
    rintro n s5 ⟨i, H5, I5, st5, n5, w5⟩
    rcases turn i n H5 w5 with ⟨stop, qq⟩ | ⟨go, Nx, hNx, step⟩
    · have td := T.done (X.blk s3 H3 scope ce fp) rfl rfl rfl hc i [] s5 _ H5 (fun _ _ => False) I5 (stat I5 n5) st5 stop
      refine thnF td fun r s6 ⟨hr, I6⟩ => ?_
      subst hr
      -- back in the def's context
      have I7 : L2.Inv X pins σ H5 s6 := I3.call' (ch := fp) I6.os I6.base I6.hok I6.bare fun b hb => ⟨(f3 b hb).1.2.2.2.1, (f3 b hb).1.2.1, (f3 b hb).1.2.2.2.2.1, (f3 b hb).1.2.2.2.2.2⟩
      have nC : H5 s3.heap.objs.size = none := by
        have z : H5 ce.locals = none := I6.free
        rw [cL] at z
        exact z
      obtain ⟨m, hn, _⟩ := I6.loc
      have hn : s6.heap.Ns ce.locals m := hn
      rw [cL] at hn
      exact hRR D s3.heap.objs.size s6 m H5 I7 qq hn (I3.fpOk (Nat.le_refl _) nC)
    · have ti := T.item (X.blk s3 H3 scope ce fp) rfl rfl rfl hc i [] s5 _ H5 (fun _ _ => False) I5 (stat I5 n5) st5 go
      refine thnF ti fun r s6 ⟨u, hr, h6⟩ => ?_
      subst hr
      refine thnF h6 fun _ s7 ⟨x, H7, I7, r7, y7, st7, n7⟩ => ?_
      have I7' := I7.pinned (stat I7 n7) (T.obj _ _ st7)
      refine thnF (pg.run _ s7 _ H7 x u _ I7' r7 (step x H7 y7)) fun _ s8 ⟨σ8, H8, I8, hw8, q8⟩ => ?_
      refine thnF (pt.run _ s8 σ8 H8 _ I8 q8) fun b s9 ⟨H9, I9, q9⟩ => ?_
      -- the turn's end
      have fin : ∀ {s' : Shared} {H' : Hp}, L2.Inv (X.blk s3 H3 scope ce fp) ([] ++ pinsAt fp s7.heap) σ8 H' s' → Nx H' → ∃ m, m < n ∧ ∃ i H', L2.Inv (X.blk s3 H3 scope ce fp) [] (wipe σ (own.map (·.2))) H' s' ∧ tn i s'.heap ∧ (∀ b ∈ fp, H' b = none) ∧ W i m H' := fun {s' H'} I' nx => by
        obtain ⟨m', hm, w'⟩ := hNx H' nx
        have pin' : ∀ b ∈ fp, ∀ o, s7.heap.get? b = some o → s'.heap.get? b = some o ∧ H' b = none := fun b hb o e =>
          let z := I'.pin (b, o) (List.mem_append_right _ (List.mem_append_right _ (mem_pinsAt hb e)))
          ⟨z.1, z.2.1⟩
        have hl : (wipe σ (own.map (·.2))).length = σ8.length := by rw [← hw8, wipe_length]
        refine ⟨m', hm, i + 1, H', (I'.unpinned (pins := [])).weak hl (fun j v e => ?_), T.keep _ _ _ st7 fun b hb o e => (pin' b hb o e).1, fun b hb => ?_, w'⟩
        · rw [← hw8] at e
          exact (wipe_some e).1
        · obtain ⟨o, e, _⟩ := T.obj _ _ st7 b hb
          exact (pin' b hb o e).2
      cases b with
      | false =>
        simp only [Bool.false_eq_true, if_false] at q9 ⊢
        exact fin I9 q9
      | true =>
        simp only [if_true] at q9 ⊢
        refine thnF (pk.run _ s9 σ8 H9 _ I9 q9) fun z s10 ⟨yk, H10, I10, r10, q10⟩ => ?_
        refine thnF (pe.run _ s10 σ8 H10 _ I10 q10) fun z2 s11 ⟨yv, H11, I11, r11, ks, d, b, ey, hyd, hdep, hD11, hk11, hz11, nx⟩ => ?_
        subst ey
        cases r10
        exact n_dictSet (X := X.blk s3 H3 scope ce fp) hu I11 hD11 hk11 hz11 hyd hdep r11 fun s12 I12 => fin I12 nx
  exact codeAny_compStart_dict loop (T.self X.A 0 _ _ _ st4 loop)
theorem pe_ndc {kx vx tg iter : Expr} {ifs : List Expr} {scope : Scope} {own : List (Str × Nat)} {pos : Pos} {wi : TI} {g : TG} {tt : TT} {tk tv : TE} (hu : X.A.units + 64 < cLine) (hc : X.calm = true) (hN : X.N.Nodup) (hi : PI X tg iter wi) (ok : BlkOk X.N X.env.scope scope own)
    (hg : ∀ (s : Shared) (H : Hp) (C : Addr) (cl : List (Str × Addr)) (fp : List Addr), PG (X.blk s H scope (compEnvC scope cl C X.env) fp) tg g) (ht : ∀ (s : Shared) (H : Hp) (C : Addr) (cl : List (Str × Addr)) (fp : List Addr), PTs (X.blk s H scope (compEnvC scope cl C X.env) fp) ifs tt)
    (hk : ∀ (s : Shared) (H : Hp) (C : Addr) (cl : List (Str × Addr)) (fp : List Addr), PE (X.blk s H scope (compEnvC scope cl C X.env) fp) kx tk)
    (he : ∀ (s : Shared) (H : Hp) (C : Addr) (cl : List (Str × Addr)) (fp : List Addr), PE (X.blk s H scope (compEnvC scope cl C X.env) fp) vx tv) (hs : ∀ x, foldedSetIterable iter X.env x = pure x := by intro _; rfl) :
    PE X (.DictComp kx vx [⟨tg, iter, ifs, 0⟩] scope pos) (tNDc X.prog X.w wi g tt tk tv (own.map (·.2))) := by
  refine ⟨fun pins s σ H Q I h => ?_⟩
  rw [arm_eval_DictComp]
  refine ndc_core hu hc hN I hi ok hg ht hk he hs h fun D C s' m H' I' q hn f => ⟨m, hn, fun h'' sb => ?_⟩
  obtain ⟨f0, f1, f2, f3, f4, f5⟩ := f
  exact ⟨.ref D, H', I'.turned (t' := s'.toks) (fun b o hb e => (sb.2 b hb).trans e) f0 f1 f3 f4 f5, rfl, q⟩
end
end Sf

set_option Elab.async false
set_option linter.all false
set_option maxRecDepth 100000
set_option maxHeartbeats 4000000
/-! t[::-1] of a tuple; dict methods and lists as EvR. -/
namespace Sf
open PySem PySem.Spec PyProof.Rows L2 LamX HT
theorem adjust_rev (n : Nat) : Builtin.Slice.sliceAdjust none none (-1) (n : Int) = ((n : Int) - 1, -1) := by
  unfold Builtin.Slice.sliceAdjust
  rfl
theorem places_rev (n : Nat) : Builtin.Slice.slicePlaces ((n : Int) - 1) (-1) (-1) = n := by
  unfold Builtin.Slice.slicePlaces
  simp
  split <;> omega
theorem pick_rev (xs : Array Value) : ((List.range xs.size).filterMap fun (m : Nat) => xs[((xs.size : Int) - 1 + (m : Int) * (-1)).toNat]?) = xs.toList.reverse := by
  have e : ∀ k, k ≤ xs.size → ((List.range k).filterMap fun (m : Nat) => xs[((xs.size : Int) - 1 + (m : Int) * (-1)).toNat]?) = (xs.toList.drop (xs.size - k)).reverse := by
    intro k
    induction k with
    | zero => intro _; simp
    | succ k ih =>
      intro h
      rw [List.range_succ, List.filterMap_append, ih (by omega)]
      have hi : ((xs.size : Int) - 1 + (k : Int) * (-1)).toNat = xs.size - (k + 1) := by omega
      have hl : xs.size - (k + 1) < xs.toList.length := by rw [Array.length_toList]; omega
      rw [List.drop_eq_getElem_cons hl, List.reverse_cons]
      have hs : xs.size - (k + 1) + 1 = xs.size - k := by omega
      rw [hs]
      congr 1
      have hg : xs[((xs.size : Int) - 1 + (k : Int) * (-1)).toNat]? = some (xs.toList[xs.size - (k + 1)]) := by
        rw [hi, ← Array.getElem?_toList]
        exact List.getElem?_eq_getElem hl
      rw [List.filterMap_cons_some (f := fun (m : Nat) => xs[((xs.size : Int) - 1 + (m : Int) * (-1)).toNat]?) (a := k) (b := xs.toList[xs.size - (k + 1)]) hg, List.filterMap_nil]
  have := e xs.size (Nat.le_refl _)
  rw [this, Nat.sub_self, List.drop_zero]
section
variable {prog : Program} {w : World} {A : Around} {E : Value → Shared → Prop} {s : Shared}
theorem getItem_tuple_rev {t sl : Addr} {items : Array Value} {vl vu : Value} {u : Tok} {Q : Value → Shared → Prop} (ht : IsTup s.heap t items) (hs : s.heap.IsSliceOf sl vl vu (.int (-1) u)) (pl : IsPart vl none) (pu : IsPart vu none)
    (h : Q (.ref s.heap.objs.size) { s with heap := s.heap.push { cls := .type "tuple", data := .seq items.toList.reverse.toArray } })
    (hsz : items.size ≤ sizeLine) : wpAny (model prog w) A (getItem (.ref t) (.ref sl)) Q E s := by
  have htake : sizeOk (.seq items.toList.reverse.toArray) := by
    show items.toList.reverse.toArray.size ≤ sizeLine
    rw [List.size_toArray, List.length_reverse, Array.length_toList]
    exact hsz
  obtain ⟨os, hos, hcs, hds⟩ := id hs
  have hTs : s.TypeIs (.ref sl) "slice" := ⟨os, hos, hcs⟩
  unfold getItem
  try with_reducible refine wpAny_holding ?_
  first | refine wpAny_bind (wpAny_pure ?_) | skip
  refine wpAny_bind (wpAny_sequenceKey ht.typeIs (by decide) ?_)
  refine wpAny_bind (wpAny_callSpecial?_slot (name := Str.ofString "__getitem__") ht.typeIs PyProof.Rows.slot_tuple_getitem
    (wpAny_call_entry PyProof.Rows.slot_tuple_getitem ht.typeIs entry_tuple_getitem ?_ (args_tuple_getitem _ _)))
  show wpAny _ _ (Builtin.Tuple.tupleItemsOf (.ref t) >>= _) _ _ s
  refine wpAny_bind (tupleItemsOf_ ht ?_)
  refine wpAny_bind (wpAny_typeOf hTs ?_)
  rw [if_pos (by decide)]
  have hap : ∀ {Q' : Int × Int × Nat → Shared → Prop}, Q' ((items.size : Int) - 1, -1, items.size) s → wpAny (model prog w) A.in1 (Builtin.Slice.sliceApplied (.ref sl) (pure (items.size : Int))) Q' (fun _ _ => False) s := by
    intro Q' hq
    unfold Builtin.Slice.sliceApplied Builtin.Slice.sliceFields
    refine wpAny_bind (wpAny_bind (wpAny_field hos hds (x := vl) rfl (wpAny_bind (wpAny_field hos hds (x := vu) rfl (wpAny_bind (wpAny_field hos hds (x := .int (-1) u) rfl (wpAny_pure ?_)))))))
    refine wpAny_bind (slicePart_ (o := some (-1)) (.int (-1) u) ?_)
    show wpAny _ _ (if ((-1 : Int) == 0) = true then _ else _) _ _ s
    rw [if_neg (by decide)]
    refine wpAny_bind (slicePart_ pl (wpAny_bind (slicePart_ pu (wpAny_bind (wpAny_pure ?_)))))
    show wpAny _ _ (match Builtin.Slice.sliceAdjust none none (-1) (items.size : Int) with | (lo, hi) => pure (lo, (-1 : Int), Builtin.Slice.slicePlaces lo hi (-1))) _ _ s
    rw [adjust_rev]
    show wpAny _ _ (pure ((items.size : Int) - 1, (-1 : Int), Builtin.Slice.slicePlaces ((items.size : Int) - 1) (-1) (-1))) _ _ s
    rw [places_rev]
    exact wpAny_pure hq
  refine wpAny_bind (wpAny_mono (hap (Q' := fun r s' => r = ((items.size : Int) - 1, -1, items.size) ∧ s' = s) ⟨rfl, rfl⟩) (fun r s' hr => ?_) fun _ _ h => h.elim)
  obtain ⟨rfl, rfl⟩ := hr
  show wpAny _ _ (if (((items.size : Int) - 1) == 0 && (-1 : Int) == 1 && items.size == items.size) = true then _ else _) _ _ _
  rw [if_neg (by simp), pick_rev]
  first
    | exact wpAny_bind (m := Builtin.Tuple.tupleExact _) (wpAny_newObj_type (wpAny_pure ⟨_, rfl, wpAny_pure h⟩) htake)
    | exact wpAny_bind (m := Builtin.Tuple.tupleExact _) (wpAny_newObj_type (wpAny_bind (wpAny_pure (wpAny_pure ⟨_, rfl, wpAny_pure h⟩))) htake)
    | exact wpAny_bind (wpAny_bind (m := Builtin.Tuple.tupleExact _) (wpAny_newObj_type (wpAny_pure (wpAny_pure ⟨_, rfl, wpAny_pure h⟩)) htake))
    | exact wpAny_bind (wpAny_bind (m := Builtin.Tuple.tupleExact _) (wpAny_newObj_type (wpAny_pure ⟨_, rfl, wpAny_pure h⟩) htake))
end
section
variable {X : Cx}
/-- t[::-1] -/
def tRevT (K : PySem.W.Frag) (te : TE) : TE := fun σ H Q => te σ H fun x H1 => ∃ a xs, x = .ref a ∧ SqT K H1 a xs ∧ ∀ p, H1 p = none → Q (.ref p) (upd H1 p (.tup xs.reverse))
theorem pe_revT {e : Expr} {te : TE} {k : Nat} {p1 p2 p3 pos : Pos} (he : PE X e te) : PE X (.Subscript e (.Slice none none (some (.UnaryOp .USub (.Constant (.int 1) k p1) p2)) p3) pos) (tRevT X.K te) := by
  refine ⟨fun pins s σ H Q I h => ?_⟩
  refine Subscript_ (thn (he.run pins s σ H _ I h) fun v s1 ⟨x, H1, I1, r1, q1⟩ => ?_)
  obtain ⟨a, xs, ex, hx, q⟩ := q1
  subst ex
  cases r1
  have hst : PO X (some (.UnaryOp .USub (.Constant (.int 1) k p1) p2)) (tPart (tUn (rU fun i => .int (-i)) (tC (.int 1)))) := po_some (pe_un un_neg pe_int)
  refine wpAny_Slice (thn (po_none.run pins s1 σ H1 (fun o H2 => o = none ∧ H2 = H1) I1 ⟨rfl, rfl⟩) fun vl s2 ⟨l, H2, I2, pl, el, e2⟩ => ?_)
  subst el e2
  refine thn (po_none.run pins s2 σ H2 (fun o H3 => o = none ∧ H3 = H2) I2 ⟨rfl, rfl⟩) fun vu s3 ⟨u, H3, I3, pu, eu, e3⟩ => ?_
  subst eu e3
  refine thn (hst.run pins s3 σ H3 (fun o H4 => o = some (-1) ∧ H4 = H3) I3 ⟨1, rfl, -1, rfl, rfl, rfl⟩) fun vs s4 ⟨o, H4, I4, ps, eo, e4⟩ => ?_
  subst eo e4
  cases ps with
  | int i tk =>
    have I5 : L2.Inv X pins σ H4 { s4 with heap := s4.heap.push { cls := .type "slice", data := .fields #[vl, vu, .int (-1) tk] } } := I4.kept (t' := s4.toks) fun b ob q => Heap.get?_push_of_some _ q
    obtain ⟨its, r, ht, hz⟩ := I5.tuple hx
    have hlen := r.length
    show wpAny (model X.prog X.w) X.A (subscriptTail e (.Slice none none (some (.UnaryOp .USub (.Constant (.int 1) k p1) p2)) p3) (.ref a) (.ref s4.heap.objs.size)) (EP X pins σ Q) X.xe { s4 with heap := s4.heap.push { cls := .type "slice", data := .fields #[vl, vu, .int (-1) tk] } }
    refine tail_any (ops := [.ref a, .ref s4.heap.objs.size]) ht.typeIs (PyProof.Rows.slot_tuple_getitem.lookup) ?_ (by with_unfolding_all rfl)
    refine getItem_tuple_rev ht (Heap.IsSliceOf.new _ vl vu (.int (-1) tk)) pl pu ?_ (by rw [List.size_toArray]; omega)
    refine ⟨.ref _, _, I5.laid (t' := s4.toks) (o := .tup xs.reverse) (fun b ob q => Heap.get?_push_of_some _ q) (Nat.le_refl _) ?_, rfl, q _ (I5.hok.fresh (Nat.le_refl _))⟩
    refine ⟨by rw [List.length_reverse]; exact hz, its.reverse, r.reverse, _, Heap.get?_push_size _ rfl, rfl, 0, ?_⟩
    simp
end
theorem isDs_reverse {H : Hp} : ∀ {vs : List V} {ds : List D}, IsDs H vs ds → IsDs H vs.reverse ds.reverse
  | _, _, .nil => .nil
  | _, _, .cons h r => by
    rw [List.reverse_cons, List.reverse_cons]
    exact (isDs_reverse r).append (.one h)
section
variable {T : List Tab} {K : PySem.W.Frag} {σ : L2.St} {H : Hp} {te ta tb : TE} {ds es : List D}
theorem e_rev (h : EvR T te σ H (isT (.tup ds))) : EvR T (tRevT K te) σ H (isT (.tup ds.reverse)) := fun H1 x Q q => h H1 x _ fun v H2 x2 r => by
  obtain ⟨a, vs, rfl, ha, hvs⟩ := r.tup_inv
  exact ⟨a, vs, rfl, SqT.of ha, fun p hp => q _ _ (x2.trans (Ext.new hp)) (.tup upd_same (isDs_reverse (IsDs.mono (Ext.new (T := T) (ex := []) hp).tup hvs)))⟩
/-- l + m -/
theorem e_catL (ha : EvR T ta σ H (isL ds)) (hb : EvR T tb σ H (isL es)) (hz : ds.length + es.length ≤ 100000) : EvR T (tOp rCat ta tb) σ H (isLN H (ds ++ es)) :=
  e_op ha hb (fun _ _ _ x r => x.isL r) fun x y H1 x1 h1 h2 Q q => by
    obtain ⟨a, vs, rfl, ha, hvs⟩ := h1
    obtain ⟨b, ws, rfl, hb, hws⟩ := h2
    exact ⟨a, b, vs, ws, rfl, rfl, ha, hb, sz (by rw [hvs.length, hws.length]; exact hz), fun p hp => q _ _ (Ext.new hp) ⟨p, _, rfl, x1.free _ hp, upd_same, IsDs.mono (Ext.new (T := T) (ex := []) hp).tup (hvs.append hws)⟩⟩
end
end Sf

set_option Elab.async false
set_option linter.all false
set_option maxRecDepth 100000
set_option maxHeartbeats 4000000
/-! Dicts with tuple keys as EvR: sets of keys, maps. -/
namespace Sf
open PySem L2 LamX

def ocO (q : Str) : Obj := { cls := .none, data := .fields #[.none, .str q 0] }
theorem ndo_code' {P : Program} {w : World} {a : Addr} {ks : List NK} (c : Addr) (q : Str) : NDo P w a ks ≠ CodeO c q := fun z => by
  have e : NFact P w a ks = fun h => ∃ (oc : Obj) (vs : Array Value) (t : Tok), h.get? c = some oc ∧ oc.data = .fields vs ∧ vs[1]? = some (.str q t) := by
    have z' : HO.ext (NFact P w a ks) = HO.ext _ := z
    injection z'
  have at_ : ∀ b o, (⟨Array.replicate (c + 1) (ocO q), {}⟩ : Heap).get? b = some o → o = ocO q := by
    intro b o h
    unfold Heap.get? at h
    by_cases hb : b < c + 1
    · rw [show (⟨Array.replicate (c + 1) (ocO q), {}⟩ : Heap).objs[b]? = some (ocO q) from by simp [Array.getElem?_replicate, hb]] at h
      exact (Option.some.inj h).symm
    · rw [show (⟨Array.replicate (c + 1) (ocO q), {}⟩ : Heap).objs[b]? = none from by simp [Array.getElem?_replicate, hb]] at h
      cases h
  have hc : (⟨Array.replicate (c + 1) (ocO q), {}⟩ : Heap).get? c = some (ocO q) := by
    unfold Heap.get?
    rw [show (⟨Array.replicate (c + 1) (ocO q), {}⟩ : Heap).objs[c]? = some (ocO q) from by simp [Array.getElem?_replicate]]
    rfl
  have hn : NFact P w a ks ⟨Array.replicate (c + 1) (ocO q), {}⟩ := by
    rw [e]
    exact ⟨ocO q, _, 0, hc, rfl, rfl⟩
  obtain ⟨_, _, _, _, o, es, ep, _, h3, _, h4, _⟩ := hn
  rw [at_ _ _ h3] at h4
  cases h4
theorem noTab_nd {P : Program} {w : World} {a : Addr} {ks : List NK} : NoTab (NDo P w a ks) := ⟨ndo_tbl, ndo_tup, ndo_code'⟩
theorem noTab_frz (o : Obj) (u : HO) : NoTab (.frz o u) := ⟨fun _ z => (nomatch z), fun _ z => (nomatch z), fun c q z => (nomatch (show _ = HO.ext _ from z))⟩
section
variable {T : List Tab} {ex : List Addr} {H H' : Hp} {d : Addr} {u : HO} {od : Obj}
theorem Ext.locked (hd : H d = some u) (n : NoTab u) : Ext T [d] H (upd H d (.frz od u)) := Ext.put_self hd n
/-- what ran while d was locked -/
theorem Ext.unlock (hd : H d = some u) (n : NoTab u) (x : Ext T ex (upd H d (.frz od u)) H') (h' : H' d = some (.frz od u)) : Ext T ex H (upd H' d u) where
  tup := fun b xs e => by
    have nb : b ≠ d := by
      rintro rfl
      rw [hd] at e
      exact n.2.1 _ (Option.some.inj e)
    rw [upd_ne nb]
    exact x.tup b xs (by rw [upd_ne nb]; exact e)
  keep := fun b o hb e nt => by
    by_cases z : b = d
    · subst z
      rw [upd_same]
      rw [hd] at e
      exact e
    · rw [upd_ne z]
      exact x.keep b o hb (by rw [upd_ne z]; exact e) nt
  free := fun b e => by
    by_cases z : b = d
    · subst z
      rw [upd_same] at e
      cases e
    · rw [upd_ne z] at e
      have := x.free b e
      rwa [upd_ne z] at this
  tabs := fun t => tabs_upd (x.tabs (tabs_upd t hd n)) h' (noTab_frz _ _)
end
/-! ### sets of keys -/
/-- at a stands a dict of the keys l, in the order of their coming -/
def NS (P : Program) (w : World) (H : Hp) (a : Addr) (l : List D) : Prop := ∃ ks, H a = some (NDo P w a ks) ∧ NKeys H ks ∧ ks.map (·.1) = l
def addK (l : List D) (k : D) : List D := if k ∈ l then l else l ++ [k]
theorem val_isSome {ks : List NK} {k : D} : (valV (pairs ks) k).isSome = decide (k ∈ ks.map (·.1)) := by
  rw [← valV_any]
  unfold pairs
  rw [List.any_map]
  by_cases h : k ∈ ks.map (·.1)
  · rw [decide_eq_true h]
    obtain ⟨p, hp, e⟩ := List.mem_map.mp h
    exact List.any_eq_true.mpr ⟨p, hp, by simpa using e⟩
  · rw [decide_eq_false h]
    refine List.any_eq_false.mpr fun p hp => ?_
    simp only [Function.comp_apply, decide_eq_true_eq]
    exact fun e => h (List.mem_map.mpr ⟨p, hp, e⟩)
theorem nput_keys (ks : List NK) (k : D) (b : Addr) (v : V) : (nput ks k b v).map (·.1) = addK (ks.map (·.1)) k := by
  unfold nput addK
  rw [val_isSome]
  by_cases h : k ∈ ks.map (·.1)
  · rw [decide_eq_true h, if_pos rfl, if_pos h, List.map_map]
    refine List.map_congr_left fun p _ => ?_
    show (if p.1 = k then (p.1, p.2.1, v) else p).1 = p.1
    split <;> rfl
  · rw [decide_eq_false h, if_neg (by decide), if_neg h, List.map_append]
    rfl
theorem nput_nkeys {H : Hp} {ks : List NK} {k : D} {b : Addr} {v : V} (h : NKeys H ks) (hk : IsD H (.ref b) k) (hd : k.depth ≤ 8) : NKeys H (nput ks k b v) := fun x hx => by
  rcases keys_nput_mem x hx with ⟨y, hy, e1, e2⟩ | ⟨e1, e2⟩
  · rw [← e1, ← e2]
    exact h y hy
  · rw [e1, e2]
    exact ⟨hk, hd⟩
section
variable {T : List Tab} {ex : List Addr} {P : Program} {w : World} {H H' : Hp} {a : Addr} {l : List D}
theorem Ext.ns (x : Ext T ex H H') (h : NS P w H a l) (ha : a ∉ ex) : NS P w H' a l := by
  obtain ⟨ks, h1, h2, h3⟩ := h
  exact ⟨ks, x.keep a _ ha h1 ndo_tbl, h2.mono x.tup, h3⟩
theorem NS.at {ks : List NK} (h : NS P w H a l) : ∃ kvs, NAt P w H a kvs ∧ (∀ k, (valV kvs k).isSome = decide (k ∈ l)) ∧ kvs.length = l.length := by
  obtain ⟨ks, h1, h2, rfl⟩ := h
  exact ⟨pairs ks, ⟨ks, h1, h2, rfl⟩, fun k => val_isSome, by unfold pairs; simp⟩
end
/-! ### maps -/
/-- .. and the values are trees too -/
def NM (P : Program) (w : World) (H : Hp) (a : Addr) (l : List (D × D)) : Prop := ∃ ks, H a = some (NDo P w a ks) ∧ NKeys H ks ∧ ks.map (·.1) = l.map (·.1) ∧ IsDs H (ks.map (·.2.2)) (l.map (·.2))
def findK (l : List (D × D)) (k : D) : Option D := (l.find? fun p => decide (p.1 = k)).map (·.2)
def putM (l : List (D × D)) (k v : D) : List (D × D) := if k ∈ l.map (·.1) then l.map (fun p => if p.1 = k then (p.1, v) else p) else l ++ [(k, v)]
section
variable {T : List Tab} {ex : List Addr} {P : Program} {w : World} {H H' : Hp} {a : Addr} {l : List (D × D)}
theorem Ext.nm (x : Ext T ex H H') (h : NM P w H a l) (ha : a ∉ ex) : NM P w H' a l := by
  obtain ⟨ks, h1, h2, h3, h4⟩ := h
  exact ⟨ks, x.keep a _ ha h1 ndo_tbl, h2.mono x.tup, h3, h4.mono x.tup⟩
theorem nm_val : ∀ {ks : List NK} {l : List (D × D)}, ks.map (·.1) = l.map (·.1) → IsDs H (ks.map (·.2.2)) (l.map (·.2)) → ∀ k, (valV (pairs ks) k = none ∧ findK l k = none) ∨ ∃ v d, valV (pairs ks) k = some v ∧ findK l k = some d ∧ IsD H v d
  | [], [], _, _, k => .inl ⟨rfl, rfl⟩
  | [], _ :: _, h, _, _ => nomatch h
  | _ :: _, [], h, _, _ => nomatch h
  | p :: ks, q :: l, h, hv, k => by
    injection h with h1 h2
    cases hv with
    | cons r rs =>
      by_cases e : p.1 = k
      · refine .inr ⟨p.2.2, q.2, ?_, ?_, r⟩
        · show ((List.find? (fun kv => decide (kv.1 = k)) ((p.1, p.2.2) :: pairs ks)).map (·.2)) = _
          rw [List.find?_cons_of_pos (by simpa using e)]
          rfl
        · show ((List.find? (fun kv => decide (kv.1 = k)) (q :: l)).map (·.2)) = _
          rw [List.find?_cons_of_pos (by simpa [← h1] using e)]
          rfl
      · have e1 : valV (pairs (p :: ks)) k = valV (pairs ks) k := by
          show ((List.find? (fun kv => decide (kv.1 = k)) ((p.1, p.2.2) :: pairs ks)).map (·.2)) = _
          rw [List.find?_cons_of_neg (by simpa using e)]
          rfl
        have e2 : findK (q :: l) k = findK l k := by
          show ((List.find? (fun kv => decide (kv.1 = k)) (q :: l)).map (·.2)) = _
          rw [List.find?_cons_of_neg (by simpa [← h1] using e)]
          rfl
        rw [e1, e2]
        exact nm_val h2 rs k
theorem nm_put {ks : List NK} {l : List (D × D)} {k d : D} {b : Addr} {v : V} (h1 : ks.map (·.1) = l.map (·.1)) (h2 : IsDs H (ks.map (·.2.2)) (l.map (·.2))) (hv : IsD H v d) :
    (nput ks k b v).map (·.1) = (putM l k d).map (·.1) ∧ IsDs H ((nput ks k b v).map (·.2.2)) ((putM l k d).map (·.2)) := by
  constructor
  · rw [nput_keys, h1]
    unfold addK putM
    by_cases h : k ∈ l.map (·.1)
    · rw [if_pos h, if_pos h, List.map_map]
      refine List.map_congr_left fun p _ => ?_
      show p.1 = (if p.1 = k then (p.1, d) else p).1
      split <;> rfl
    · rw [if_neg h, if_neg h, List.map_append]
      rfl
  · unfold nput putM
    rw [val_isSome, h1]
    by_cases h : k ∈ l.map (·.1)
    · rw [decide_eq_true h, if_pos rfl, if_pos h, List.map_map, List.map_map]
      have gen : ∀ {ks : List NK} {l : List (D × D)}, ks.map (·.1) = l.map (·.1) → IsDs H (ks.map (·.2.2)) (l.map (·.2)) → IsDs H (ks.map ((fun p : NK => p.2.2) ∘ fun p => if p.1 = k then (p.1, p.2.1, v) else p)) (l.map ((fun p : D × D => p.2) ∘ fun p => if p.1 = k then (p.1, d) else p)) := by
        intro ks
        induction ks with
        | nil =>
          intro l e _
          cases l with
          | nil => exact .nil
          | cons _ _ => cases e
        | cons p ks ih =>
          intro l e r
          cases l with
          | nil => cases e
          | cons q l =>
            injection e with e1 e2
            have e1 : p.1 = q.1 := e1
            cases r with
            | cons r rs =>
              refine .cons ?_ (ih e2 rs)
              show IsD H (if p.1 = k then (p.1, p.2.1, v) else p).2.2 (if q.1 = k then (q.1, d) else q).2
              by_cases z : p.1 = k
              · rw [if_pos z, if_pos (e1.symm.trans z)]
                exact hv
              · rw [if_neg z, if_neg fun y => z (e1.trans y)]
                exact r
      exact gen h1 h2
    · rw [decide_eq_false h, if_neg (by decide), if_neg h, List.map_append, List.map_append]
      exact h2.append (.one hv)
end
/-! ### as EvR -/
section
variable {T : List Tab} {P : Program} {w : World} {K : PySem.W.Frag} {σ : L2.St} {H : Hp} {te ta tb tc tl : TE} {tt : TT} {tu tw tz : TS} {R : RP} {d e k : D} {l : List D} {m : List (D × D)} {v : V} {b : Bool} {E : Ends} {g : TG} {a : Addr}
/-- k in d, the dict at a -/
theorem e_ninS {neg : Bool} {ds : List D} (h : EvR T ta σ H (isT (.tup ds))) (hb : EvR T tb σ H (isV (.ref a))) (hs : NS P w H a l) (hd : (NestedKey.tup ds).depth ≤ 8) : EvR T (tOp (rNIn P w neg) ta tb) σ H (isB (if neg then !decide (.tup ds ∈ l) else decide (.tup ds ∈ l))) :=
  e_op h hb (fun _ _ _ x r => x.isT r) fun x y H1 x1 h1 h2 Q q => by
    obtain rfl : y = .ref a := h2
    obtain ⟨kvs, n1, n2, _⟩ := (x1.ns hs (by simp)).at (ks := [])
    refine ⟨_, a, kvs, h1, ⟨ds, rfl⟩, hd, rfl, n1, ?_⟩
    rw [n2]
    exact q _ H1 (Ext.refl H1) rfl
theorem e_nlenS (hb : EvR T tb σ H (isV (.ref a))) (hs : NS P w H a l) : EvR T (tCB (rNLen P w) (tCons tb tNil)) σ H (isT (.num (l.length : Int))) := e_cb (a_any hb) fun vs H1 x1 p Q q => by
  obtain ⟨v, rfl, e⟩ := p
  obtain rfl : v = .ref a := e
  obtain ⟨kvs, n1, _, n3⟩ := (x1.ns hs (by simp)).at (ks := [])
  refine ⟨a, kvs, rfl, n1, ?_⟩
  rw [n3]
  exact q _ H1 (Ext.refl H1) (.int _)
/-- list(d) -/
theorem nkeys_ds {ks : List NK} (h : NKeys H ks) : IsDs H (ks.map fun k => V.ref k.2.1) (ks.map (·.1)) := by
  induction ks with
  | nil => exact .nil
  | cons p ks ih => exact .cons (h p List.mem_cons_self).1 (ih fun x hx => h x (List.mem_cons_of_mem _ hx))
theorem e_nlistS (hb : EvR T tb σ H (isV (.ref a))) (hs : NS P w H a l) : EvR T (tCB (rNList P w) (tCons tb tNil)) σ H (isLN H l) := e_cb (a_any hb) fun vs H1 x1 p Q q => by
  obtain ⟨v, rfl, e⟩ := p
  obtain rfl : v = .ref a := e
  obtain ⟨ks, h1, h2, rfl⟩ := x1.ns hs (by simp)
  exact ⟨a, ks, rfl, h1, h2, fun p hp => q _ _ (Ext.new hp) ⟨p, _, rfl, x1.free _ hp, upd_same, IsDs.mono (Ext.new (T := T) (ex := []) hp).tup (nkeys_ds h2)⟩⟩
theorem NM.ns (h : NM P w H a m) : NS P w H a (m.map (·.1)) := by
  obtain ⟨ks, h1, h2, h3, h4⟩ := h
  exact ⟨ks, h1, h2, h3⟩
/-- d[k], k there -/
theorem e_nixM {ds : List D} (hb : EvR T ta σ H (isV (.ref a))) (h : EvR T tb σ H (isT (.tup ds))) (hs : NM P w H a m) (hd : (NestedKey.tup ds).depth ≤ 8) (hf : findK m (.tup ds) = some e) : EvR T (tOp (rNIx P w) ta tb) σ H (isT e) :=
  e_op hb h (fun _ _ _ x r => r) fun x y H1 x1 h1 h2 Q q => by
    obtain rfl : x = .ref a := h1
    obtain ⟨ks, k1, k2, k3, k4⟩ := x1.nm hs (by simp)
    rcases nm_val k3 k4 (.tup ds) with ⟨_, e2⟩ | ⟨v, d', e1, e2, r⟩
    · rw [hf] at e2; cases e2
    · rw [hf] at e2
      cases e2
      exact ⟨_, a, pairs ks, v, rfl, h2, ⟨ds, rfl⟩, hd, ⟨ks, k1, k2, rfl⟩, e1, q v H1 (Ext.refl H1) r⟩
/-- d.get(k, None) -/
theorem e_ngetM {ds : List D} (hb : EvR T ta σ H (isV (.ref a))) (h : EvR T tb σ H (isT (.tup ds))) (hn : EvR T tc σ H (isT .none)) (hs : NM P w H a m) (hd : (NestedKey.tup ds).depth ≤ 8) : EvR T (tNGet2 P w ta tb tc) σ H (isT ((findK m (.tup ds)).getD .none)) := fun H1 x1 Q q =>
  hb H1 x1 _ fun v H2 x2 e => by
    obtain rfl : v = .ref a := e
    obtain ⟨ks, k1, k2, _⟩ := (x1.trans x2).nm hs (by simp)
    refine ⟨a, ks, rfl, k1, k2, h H2 (x1.trans x2) _ fun y H3 x3 r3 => hn H3 ((x1.trans x2).trans x3) _ fun z H4 x4 r4 => ?_⟩
    obtain ⟨ks', j1, j2, j3, j4⟩ := (((x1.trans x2).trans x3).trans x4).nm hs (by simp)
    refine ⟨_, pairs ks', IsD.mono x4.tup r3, ⟨ds, rfl⟩, hd, ⟨ks', j1, j2, rfl⟩, q _ H4 ((x2.trans x3).trans x4) ?_⟩
    rcases nm_val j3 j4 (.tup ds) with ⟨e1, e2⟩ | ⟨v, d', e1, e2, r⟩
    · rw [e1, e2]; exact r4
    · rw [e1, e2]; exact r
/-- {} -/
theorem e_dnewN : EvR T (tDNewN P w) σ H (fun v H2 => ∃ a, v = .ref a ∧ H a = none ∧ H2 a = some (NDo P w a [])) := fun H1 x Q q p hp => q _ _ (Ext.new hp) ⟨p, rfl, x.free _ hp, upd_same⟩
/-- for x in d: .., d locked -/
theorem f_nd {ks : List NK} (hd : H a = some (NDo P w a ks)) (hk : NKeys H ks) (h : ∀ od, EvR T te σ (upd H a (.frz od (NDo P w a ks))) (isV (.ref a)))
    (k : ∀ od H1, Ext T [] (upd H a (.frz od (NDo P w a ks))) H1 → ∃ (ex : List Addr) (Pv : Nat → L2.St → Hp → Prop), a ∉ ex ∧ Pv 0 σ H1 ∧ (∀ i σ' H', Pv i σ' H' → Ext T ex H1 H') ∧
      (∀ (i : Nat) (p : NK) σ' H', ks[i]? = some p → IsD H' (.ref p.2.1) p.1 → Pv i σ' H' → ∀ rt bk, g (.ref p.2.1) σ' H' fun σ2 H2 => tu ⟨Pv (i + 1), rt, bk, Pv (i + 1)⟩ σ2 H2) ∧
      (∀ σ' H', Pv ks.length σ' H' → Ext T ex H (upd H' a (NDo P w a ks)) → E.nx σ' (upd H' a (NDo P w a ks)))) : tLock (tFor (iNKeys P w te) g tu) E σ H := by
  refine ⟨a, _, hd, trivial, fun od => ?_⟩
  refine (h od).run fun v H1 x1 e => ?_
  obtain rfl : v = .ref a := e
  have f1 : H1 a = some (.frz od (NDo P w a ks)) := x1.keep a _ (by simp) upd_same fun _ z => nomatch z
  obtain ⟨ex, Pv, hx, h0, hG, hs, hdn⟩ := k od H1 x1
  refine ⟨a, od, ks, rfl, f1, for_it (walk_nd (ks := ks)) Pv h0 (fun i σ' H' _ p => (hG i σ' H' p).keep a _ hx f1 fun _ z => nomatch z) (fun i x s2 Ha Hb hi p hy => ?_) (fun s2 Ha p => ?_)⟩
  · obtain ⟨hab, q, hq, rfl⟩ := hy
    subst hab
    have t1 : TEx H Hb := fun b xs e => (x1.tup.trans (hG i s2 Hb p).tup) b xs (by
      have nb : b ≠ a := by
        rintro rfl
        rw [hd] at e
        exact ndo_tup _ (Option.some.inj e)
      rw [upd_ne nb]
      exact e)
    exact hs i q s2 Hb hq (IsD.mono t1 (hk q (List.mem_of_getElem? hq)).1) p _ _
  · have f2 := (hG _ s2 Ha p).keep a _ hx f1 fun _ z => nomatch z
    exact ⟨f2, hdn s2 Ha p (Ext.unlock hd noTab_nd (x1.wide.trans (hG _ s2 Ha p)) f2)⟩
end
end Sf

set_option Elab.async false
set_option linter.all false
set_option maxRecDepth 100000
set_option maxHeartbeats 1000000
/-! Plain mathematics: rests that one row of texts can be ahead; the least double. -/
namespace Sf
open PySem
/-! ### orders -/
theorem slt_irrefl (x : Str) : slt x x = false := by
  unfold slt
  exact decide_eq_false (List.lt_irrefl _)
theorem slt_trans {x y z : Str} (h1 : slt x y = true) (h2 : slt y z = true) : slt x z = true := by
  unfold slt at *
  exact decide_eq_true (List.lt_trans (of_decide_eq_true h1) (of_decide_eq_true h2))
theorem str_eq {x y : Str} (h : x.cps.toList = y.cps.toList) : x = y := by
  cases x; cases y
  have h' := congrArg List.toArray h
  simp only [Array.toArray_toList] at h'
  rw [h']
theorem slt_total (x y : Str) : slt x y = true ∨ x = y ∨ slt y x = true := by
  unfold slt
  by_cases h1 : x.cps.toList < y.cps.toList
  · exact .inl (decide_eq_true h1)
  · by_cases h2 : y.cps.toList < x.cps.toList
    · exact .inr (.inr (decide_eq_true h2))
    · exact .inr (.inl (str_eq (List.le_antisymm (List.not_lt.mp h2) (List.not_lt.mp h1))))
theorem wlt_trans : ∀ {a b c : Tx}, wlt a b = true → wlt b c = true → wlt a c = true
  | [], [], _, h, _ => by cases h
  | [], _ :: _, [], _, h => by cases h
  | [], _ :: _, _ :: _, _, _ => rfl
  | _ :: _, [], _, h, _ => by cases h
  | _ :: _, _ :: _, [], _, h => by cases h
  | x :: a, y :: b, z :: c, h1, h2 => by
    have h1 : (if x = y then wlt a b else slt x y) = true := h1
    have h2 : (if y = z then wlt b c else slt y z) = true := h2
    show (if x = z then wlt a c else slt x z) = true
    by_cases e1 : x = y
    · subst e1
      by_cases e2 : x = z
      · subst e2
        rw [if_pos rfl] at *
        exact wlt_trans h1 h2
      · rw [if_neg e2] at *
        exact h2
    · rw [if_neg e1] at h1
      by_cases e2 : y = z
      · subst e2
        rw [if_neg e1]
        exact h1
      · rw [if_neg e2] at h2
        have h := slt_trans h1 h2
        by_cases e3 : x = z
        · subst e3
          rw [slt_irrefl] at h
          cases h
        · rw [if_neg e3]
          exact h
theorem wlt_total : ∀ a b : Tx, wlt a b = true ∨ a = b ∨ wlt b a = true
  | [], [] => .inr (.inl rfl)
  | [], _ :: _ => .inl rfl
  | _ :: _, [] => .inr (.inr rfl)
  | x :: a, y :: b => by
    show (if x = y then wlt a b else slt x y) = true ∨ _ ∨ (if y = x then wlt b a else slt y x) = true
    by_cases e : x = y
    · subst e
      rw [if_pos rfl, if_pos rfl]
      rcases wlt_total a b with h | h | h
      · exact .inl h
      · exact .inr (.inl (by rw [h]))
      · exact .inr (.inr h)
    · rw [if_neg e, if_neg fun z => e z.symm]
      rcases slt_total x y with h | h | h
      · exact .inl h
      · exact absurd h e
      · exact .inr (.inr h)
theorem klt_def (a b : Tx) : klt a b = true ↔ a.length < b.length ∨ (a.length = b.length ∧ wlt a b = true) := by
  unfold klt
  simp
theorem klt_irrefl (a : Tx) : klt a a = false := by
  cases h : klt a a with
  | false => rfl
  | true =>
    rcases (klt_def a a).mp h with h | h
    · omega
    · rw [wlt_irrefl] at h; cases h.2
theorem klt_trans {a b c : Tx} (h1 : klt a b = true) (h2 : klt b c = true) : klt a c = true := by
  rw [klt_def] at *
  rcases h1 with h1 | ⟨h1, k1⟩ <;> rcases h2 with h2 | ⟨h2, k2⟩
  · left; omega
  · left; omega
  · left; omega
  · right; exact ⟨by omega, wlt_trans k1 k2⟩
theorem klt_total (a b : Tx) : klt a b = true ∨ a = b ∨ klt b a = true := by
  rw [klt_def, klt_def]
  by_cases h : a.length = b.length
  · rcases wlt_total a b with k | k | k
    · exact .inl (.inr ⟨h, k⟩)
    · exact .inr (.inl k)
    · exact .inr (.inr (.inr ⟨h.symm, k⟩))
  · by_cases k : a.length < b.length
    · exact .inl (.inl k)
    · exact .inr (.inr (.inl (by omega)))
/-- not more: klt b a = false -/
theorem kle_trans {a b c : Tx} (h1 : klt b a = false) (h2 : klt c b = false) : klt c a = false := by
  cases h : klt c a with
  | false => rfl
  | true =>
    rcases klt_total a b with k | k | k
    · rw [klt_trans h k] at h2; cases h2
    · subst k; rw [h] at h2; cases h2
    · rw [k] at h1; cases h1
theorem kle_antisymm {a b : Tx} (h1 : klt b a = false) (h2 : klt a b = false) : a = b := by
  rcases klt_total a b with k | k | k
  · rw [k] at h2; cases h2
  · exact k
  · rw [k] at h1; cases h1
theorem kle_of_lt {a b : Tx} (h : klt a b = true) : klt b a = false := by
  cases k : klt b a with
  | false => rfl
  | true => have := klt_trans h k; rw [klt_irrefl] at this; cases this
theorem wlt_app : ∀ {a b : Tx} (s : Tx), a.length = b.length → wlt (a ++ s) (b ++ s) = wlt a b
  | [], [], s, _ => by simp [wlt, wlt_irrefl]
  | [], _ :: _, _, h => by simp at h
  | _ :: _, [], _, h => by simp at h
  | x :: a, y :: b, s, h => by
    show (if x = y then wlt (a ++ s) (b ++ s) else slt x y) = if x = y then wlt a b else slt x y
    rw [wlt_app s (by simpa using h)]
theorem klt_app (a b s : Tx) : klt (a ++ s) (b ++ s) = klt a b := by
  have : klt (a ++ s) (b ++ s) = true ↔ klt a b = true := by
    rw [klt_def, klt_def, List.length_append, List.length_append]
    by_cases h : a.length = b.length
    · rw [wlt_app s h]
      exact ⟨fun k => k.elim (fun k => .inl (by omega)) (fun k => .inr ⟨h, k.2⟩), fun k => k.elim (fun k => .inl (by omega)) (fun k => .inr ⟨by omega, k.2⟩)⟩
    · exact ⟨fun k => k.elim (fun k => .inl (by omega)) (fun k => absurd (by have := k.1; omega) h), fun k => k.elim (fun k => .inl (by omega)) (fun k => absurd k.1 h)⟩
  cases h1 : klt (a ++ s) (b ++ s) <;> cases h2 : klt a b <;> simp_all
theorem kle_app (a s : Tx) : klt (a ++ s) a = false := by
  cases h : klt (a ++ s) a with
  | false => rfl
  | true =>
    rw [klt_def, List.length_append] at h
    rcases h with h | ⟨h, k⟩
    · omega
    · have : s = [] := List.length_eq_zero_iff.mp (by omega)
      subst this
      rw [List.append_nil, wlt_irrefl] at k
      cases k
/-! ### rests -/
inductive Reach (texts : List Tx) : Tx → Tx → Prop
  | base {i j : Nat} {t o : Tx} : texts[i]? = some t → texts[j]? = some o → i ≠ j → t.take o.length = o → Reach texts t (t.drop o.length)
  | step {w m t w' m' : Tx} : Reach texts w m → m ≠ [] → t ∈ texts → step1 w m t = some (w', m') → Reach texts w' m'
/-- the first double, or none -/
def First (texts : List Tx) : Option Tx → Prop
  | none => ∀ w, ¬ Reach texts w []
  | some w => Reach texts w [] ∧ ∀ w', Reach texts w' [] → klt w' w = false
theorem First.uniq {texts : List Tx} : ∀ {o o' : Option Tx}, First texts o → First texts o' → o = o'
  | none, none, _, _ => rfl
  | none, some w, h, h' => absurd h'.1 (h w)
  | some w, none, h, h' => absurd h.1 (h' w)
  | some w, some w', h, h' => by rw [kle_antisymm (h.2 w' h'.1) (h'.2 w h.1)]
theorem step1_app {w m t w' m' : Tx} (h : step1 w m t = some (w', m')) : ∃ s, w' = w ++ s ∧ s.length ≤ t.length ∧ ∀ v, step1 v m t = some (v ++ s, m') := by
  unfold step1 at h ⊢
  by_cases h1 : m.take t.length = t
  · rw [if_pos h1] at h
    injection h with h
    injection h with h2 h3
    refine ⟨[], by rw [h2, List.append_nil], by simp, fun v => ?_⟩
    rw [if_pos h1, h3, List.append_nil]
  · rw [if_neg h1] at h
    by_cases h2 : t.take m.length = m
    · rw [if_pos h2] at h
      injection h with h
      injection h with h3 h4
      refine ⟨t.drop m.length, h3.symm, by rw [List.length_drop]; omega, fun v => ?_⟩
      rw [if_neg h1, if_pos h2, h4]
    · rw [if_neg h2] at h
      cases h
theorem mem_stepsB {texts : List Tx} {w m : Tx} {e : Ent} : e ∈ stepsB texts w m ↔ ∃ t ∈ texts, step1 w m t = some e := by
  unfold stepsB
  rw [List.mem_filterMap]
theorem mem_begins {texts : List Tx} {e : Ent} : e ∈ begins texts ↔ ∃ (i j : Nat) (t o : Tx), texts[i]? = some t ∧ texts[j]? = some o ∧ i ≠ j ∧ t.take o.length = o ∧ e = (t, t.drop o.length) := by
  unfold begins
  rw [List.mem_flatMap]
  constructor
  · rintro ⟨i, hi, he⟩
    rw [List.mem_range] at hi
    obtain ⟨o, ho, hb⟩ := List.mem_filterMap.mp he
    obtain ⟨j, hj, ej⟩ := List.getElem_of_mem ho
    rw [List.length_take] at hj
    rw [List.getElem_take] at ej
    have gi : texts[i]? = some texts[i] := List.getElem?_eq_getElem hi
    have gj : texts[j]? = some o := by rw [List.getElem?_eq_getElem (by omega), ej]
    have gd : texts.getD i [] = texts[i] := by simp [List.getD, gi]
    rw [gd] at hb
    unfold begin1 at hb
    by_cases hl : texts[i].length < o.length
    · simp only [if_pos hl] at hb
      by_cases hp : o.take texts[i].length = texts[i]
      · rw [if_pos hp] at hb
        exact ⟨j, i, o, texts[i], gj, gi, by omega, hp, (Option.some.inj hb).symm⟩
      · rw [if_neg hp] at hb; cases hb
    · simp only [if_neg hl] at hb
      by_cases hp : texts[i].take o.length = o
      · rw [if_pos hp] at hb
        exact ⟨i, j, texts[i], o, gi, gj, by omega, hp, (Option.some.inj hb).symm⟩
      · rw [if_neg hp] at hb; cases hb
  · rintro ⟨i, j, t, o, hi, hj, hij, hp, rfl⟩
    have li := (List.getElem?_eq_some_iff.mp hi).1
    have lj := (List.getElem?_eq_some_iff.mp hj).1
    have hle : o.length ≤ t.length := by
      have := congrArg List.length hp
      rw [List.length_take] at this
      omega
    have gi : texts.getD i [] = t := by simp [List.getD, hi]
    have gj : texts.getD j [] = o := by simp [List.getD, hj]
    rcases Nat.lt_or_gt_of_ne hij with h | h
    · refine ⟨j, List.mem_range.mpr lj, List.mem_filterMap.mpr ⟨t, ?_, ?_⟩⟩
      · have : (texts.take j)[i]? = some t := by rw [List.getElem?_take_of_lt h]; exact hi
        exact List.mem_of_getElem? this
      · rw [gj]
        unfold begin1
        by_cases hl : o.length < t.length
        · simp only [if_pos hl]
          rw [if_pos hp]
        · have e : o = t := by rw [← hp, List.take_of_length_le (by omega)]
          subst e
          simp only [if_neg hl]
          rw [if_pos (List.take_of_length_le (Nat.le_refl _))]
    · refine ⟨i, List.mem_range.mpr li, List.mem_filterMap.mpr ⟨o, ?_, ?_⟩⟩
      · have : (texts.take i)[j]? = some o := by rw [List.getElem?_take_of_lt h]; exact hj
        exact List.mem_of_getElem? this
      · rw [gi]
        unfold begin1
        simp only [if_neg (show ¬ t.length < o.length by omega)]
        rw [if_pos hp]
theorem reach_begins {texts : List Tx} {e : Ent} (h : e ∈ begins texts) : Reach texts e.1 e.2 := by
  obtain ⟨i, j, t, o, h1, h2, h3, h4, rfl⟩ := mem_begins.mp h
  exact .base h1 h2 h3 h4
/-! ### the search by least words -/
/-- the order in which rests are looked at -/
def klE (a b : Ent) : Bool := if a.1.length = b.1.length then (if a.1 = b.1 then decide (a.2.length < b.2.length) else wlt a.1 b.1) else decide (a.1.length < b.1.length)
theorem klE_kle {a b : Ent} (h : klE a b = false) : klt a.1 b.1 = false := by
  cases k : klt a.1 b.1 with
  | false => rfl
  | true =>
    unfold klE at h
    rcases (klt_def _ _).mp k with k | ⟨k1, k2⟩
    · rw [if_neg (by omega)] at h
      exact absurd k (of_decide_eq_false h)
    · rw [if_pos k1] at h
      by_cases e : a.1 = b.1
      · rw [e, wlt_irrefl] at k2; cases k2
      · rw [if_neg e, k2] at h; cases h
theorem klE_irrefl (a : Ent) : klE a a = false := by
  unfold klE
  rw [if_pos rfl, if_pos rfl]
  exact decide_eq_false (by omega)
theorem klE_trans (a b c : Ent) (h1 : klE a b = true) (h2 : klE b c = true) : klE a c = true := by
  unfold klE at *
  by_cases e1 : a.1.length = b.1.length
  · rw [if_pos e1] at h1
    by_cases e2 : b.1.length = c.1.length
    · rw [if_pos e2] at h2
      rw [if_pos (e1.trans e2)]
      by_cases f1 : a.1 = b.1
      · rw [if_pos f1] at h1
        rw [f1]
        by_cases f2 : b.1 = c.1
        · rw [if_pos f2] at h2 ⊢
          exact decide_eq_true (Nat.lt_trans (of_decide_eq_true h1) (of_decide_eq_true h2))
        · rw [if_neg f2] at h2 ⊢
          exact h2
      · rw [if_neg f1] at h1
        by_cases f2 : b.1 = c.1
        · rw [if_pos f2] at h2
          rw [← f2, if_neg f1]
          exact h1
        · rw [if_neg f2] at h2
          have h := wlt_trans h1 h2
          by_cases f3 : a.1 = c.1
          · rw [f3, wlt_irrefl] at h; cases h
          · rw [if_neg f3]
            exact h
    · rw [if_neg e2] at h2
      rw [if_neg (by omega)]
      exact decide_eq_true (by have := of_decide_eq_true h2; omega)
  · rw [if_neg e1] at h1
    have l1 := of_decide_eq_true h1
    by_cases e2 : b.1.length = c.1.length
    · rw [if_neg (by omega)]
      exact decide_eq_true (by omega)
    · rw [if_neg e2] at h2
      have l2 := of_decide_eq_true h2
      rw [if_neg (by omega)]
      exact decide_eq_true (by omega)
/-- done: rests with their least words, in the order of their settling -/
structure DInv (texts : List Tx) (waiting : List Ent) (done : List (Tx × Tx)) : Prop where
  reach : ∀ e ∈ waiting, Reach texts e.1 e.2
  fresh : ∀ e ∈ waiting, e.2 ∉ done.map (·.1)
  nd : (done.map (·.1)).Nodup
  ne : ∀ d ∈ done, d.1 ≠ []
  dreach : ∀ d ∈ done, Reach texts d.2 d.1
  least : ∀ d ∈ done, ∀ w, Reach texts w d.1 → klt w d.2 = false
  steps : ∀ d ∈ done, ∀ t ∈ texts, ∀ e, step1 d.2 d.1 t = some e → e.2 ∈ done.map (·.1) ∨ e ∈ waiting
  base : ∀ e ∈ begins texts, e.2 ∈ done.map (·.1) ∨ e ∈ waiting
  pre : ∀ e ∈ waiting, e ∈ begins texts ∨ ∃ d ∈ done, ∃ t ∈ texts, step1 d.2 d.1 t = some e
  chain : ∀ (i : Nat) d, done[i]? = some d → (d.2, d.1) ∈ begins texts ∨ ∃ d' ∈ done.take i, ∃ t ∈ texts, step1 d'.2 d'.1 t = some (d.2, d.1)
section
variable {texts : List Tx} {waiting : List Ent} {done : List (Tx × Tx)}
theorem DInv.start : DInv texts (begins texts) [] where
  reach := fun e h => reach_begins h
  fresh := fun e h z => by simp at z
  nd := by simp
  ne := fun d h => by simp at h
  dreach := fun d h => by simp at h
  least := fun d h => by simp at h
  steps := fun d h => by simp at h
  base := fun e h => .inr h
  pre := fun e h => .inl h
  chain := fun i d h => by simp at h
/-- whatever is come to is done, or something not more waits -/
theorem DInv.front (I : DInv texts waiting done) {w m : Tx} (h : Reach texts w m) : m ∈ done.map (·.1) ∨ ∃ e ∈ waiting, klt w e.1 = false := by
  induction h with
  | base h1 h2 h3 h4 =>
    rcases I.base _ (mem_begins.mpr ⟨_, _, _, _, h1, h2, h3, h4, rfl⟩) with h | h
    · exact .inl h
    · exact .inr ⟨_, h, klt_irrefl _⟩
  | step h1 h2 h3 h4 ih =>
    rename_i w0 m0 t w' m'
    obtain ⟨s, e1, _, e2⟩ := step1_app h4
    rcases ih with h | ⟨e, he, hk⟩
    · obtain ⟨d, hd, ed⟩ := List.mem_map.mp h
      have hs : step1 d.2 d.1 t = some (d.2 ++ s, m') := by rw [ed]; exact e2 d.2
      rcases I.steps d hd t h3 _ hs with k | k
      · exact .inl k
      · refine .inr ⟨_, k, ?_⟩
        rw [e1, klt_app]
        exact I.least d hd w0 (by rw [ed]; exact h1)
    · refine .inr ⟨e, he, ?_⟩
      rw [e1]
      exact kle_trans hk (kle_app w0 s)
/-- the least that waits is settled -/
theorem DInv.settled (I : DInv texts waiting done) {e : Ent} (he : e ∈ waiting) (hm : ∀ e' ∈ waiting, klE e' e = false) {w : Tx} (h : Reach texts w e.2) : klt w e.1 = false := by
  rcases I.front h with k | ⟨e', he', hk⟩
  · exact absurd k (I.fresh e he)
  · exact kle_trans (klE_kle (hm e' he')) hk
theorem DInv.found (I : DInv texts waiting done) {w : Tx} (he : (w, ([] : Tx)) ∈ waiting) (hm : ∀ e' ∈ waiting, klE e' (w, []) = false) : First texts (some w) :=
  ⟨I.reach _ he, fun w' h => I.settled he hm h⟩
theorem DInv.empty (I : DInv texts [] done) : First texts none := fun w h => by
  rcases I.front h with k | ⟨e, he, _⟩
  · obtain ⟨d, hd, ed⟩ := List.mem_map.mp k
    exact I.ne d hd ed
  · simp at he
def nextW (texts : List Tx) (waiting : List Ent) (done : List (Tx × Tx)) (w m : Tx) : List Ent := (waiting ++ stepsB texts w m).filter fun e => !decide (e.2 ∈ done.map (·.1) ++ [m])
theorem DInv.turn (I : DInv texts waiting done) {w m : Tx} (he : (w, m) ∈ waiting) (hm : ∀ e' ∈ waiting, klE e' (w, m) = false) (hne : m ≠ []) : DInv texts (nextW texts waiting done w m) (done ++ [(m, w)]) := by
  have mk : (done ++ [(m, w)]).map (·.1) = done.map (·.1) ++ [m] := by simp
  have inW : ∀ {e}, e ∈ nextW texts waiting done w m ↔ (e ∈ waiting ∨ e ∈ stepsB texts w m) ∧ e.2 ∉ done.map (·.1) ++ [m] := fun {e} => by
    unfold nextW
    rw [List.mem_filter, List.mem_append]
    simp
  have keepW : ∀ {e}, e ∈ waiting ∨ e ∈ stepsB texts w m → e.2 ∈ (done ++ [(m, w)]).map (·.1) ∨ e ∈ nextW texts waiting done w m := fun {e} h => by
    rw [mk]
    by_cases k : e.2 ∈ done.map (·.1) ++ [m]
    · exact .inl k
    · exact .inr (inW.mpr ⟨h, k⟩)
  refine ⟨fun e h => ?_, fun e h => ?_, ?_, fun d h => ?_, fun d h => ?_, fun d h w' hw => ?_, fun d h t ht e hs => ?_, fun e h => ?_, fun e h => ?_, fun i d h => ?_⟩
  · rcases (inW.mp h).1 with k | k
    · exact I.reach e k
    · obtain ⟨t, ht, hs⟩ := mem_stepsB.mp k
      exact .step (I.reach _ he) hne ht hs
  · rw [mk]
    exact (inW.mp h).2
  · rw [mk, List.nodup_append]
    refine ⟨I.nd, by simp, fun a ha b hb e => ?_⟩
    have : b = m := by simpa using hb
    subst this
    subst e
    exact I.fresh _ he ha
  · rcases List.mem_append.mp h with k | k
    · exact I.ne d k
    · rw [List.mem_singleton.mp k]; exact hne
  · rcases List.mem_append.mp h with k | k
    · exact I.dreach d k
    · rw [List.mem_singleton.mp k]; exact I.reach _ he
  · rcases List.mem_append.mp h with k | k
    · exact I.least d k w' hw
    · rw [List.mem_singleton.mp k] at hw ⊢
      exact I.settled he hm hw
  · rcases List.mem_append.mp h with k | k
    · rcases I.steps d k t ht e hs with z | z
      · left; rw [mk]; exact List.mem_append_left _ z
      · exact keepW (.inl z)
    · rw [List.mem_singleton.mp k] at hs
      exact keepW (.inr (mem_stepsB.mpr ⟨t, ht, hs⟩))
  · rcases I.base e h with z | z
    · left; rw [mk]; exact List.mem_append_left _ z
    · exact keepW (.inl z)
  · rcases (inW.mp h).1 with k | k
    · rcases I.pre e k with z | ⟨d, hd, t, ht, hs⟩
      · exact .inl z
      · exact .inr ⟨d, List.mem_append_left _ hd, t, ht, hs⟩
    · obtain ⟨t, ht, hs⟩ := mem_stepsB.mp k
      exact .inr ⟨(m, w), by simp, t, ht, hs⟩
  · by_cases hi : i < done.length
    · rw [List.getElem?_append_left hi] at h
      rcases I.chain i d h with z | ⟨d', hd', r⟩
      · exact .inl z
      · refine .inr ⟨d', ?_, r⟩
        rw [List.take_append_of_le_length (by omega)]
        exact hd'
    · have hlt := (List.getElem?_eq_some_iff.mp h).1
      rw [List.length_append] at hlt
      have hi2 : i = done.length := by simp at hlt; omega
      subst hi2
      rw [List.getElem?_append_right (Nat.le_refl _), Nat.sub_self] at h
      have hd : d = (m, w) := by simpa using h.symm
      subst hd
      rcases I.pre _ he with z | ⟨d', hd', r⟩
      · exact .inl z
      · refine .inr ⟨d', ?_, r⟩
        rw [List.take_append_of_le_length (Nat.le_refl _), List.take_length]
        exact hd'
/-! ### how many there are -/
/-- the ends of a text that aren't empty -/
def endsOf (t : Tx) : List Tx := (List.range t.length).map fun i => t.drop i
def restsOf (texts : List Tx) : List Tx := texts.flatMap endsOf
theorem mem_endsOf {t m : Tx} {n : Nat} (e : m = t.drop n) (h : m ≠ []) : m ∈ endsOf t := by
  subst e
  refine List.mem_map.mpr ⟨n, List.mem_range.mpr ?_, rfl⟩
  by_cases k : n < t.length
  · exact k
  · exact absurd (List.drop_of_length_le (by omega)) h
theorem ends_drop {t m : Tx} (n : Nat) (h : m ∈ endsOf t) (hn : m.drop n ≠ []) : m.drop n ∈ endsOf t := by
  obtain ⟨i, _, rfl⟩ := List.mem_map.mp h
  rw [List.drop_drop] at hn ⊢
  exact mem_endsOf rfl hn
theorem Reach.rest {w m : Tx} (h : Reach texts w m) : m ≠ [] → m ∈ restsOf texts := by
  induction h with
  | base h1 h2 h3 h4 => exact fun hm => List.mem_flatMap.mpr ⟨_, List.mem_of_getElem? h1, mem_endsOf rfl hm⟩
  | step h1 h2 h3 h4 ih =>
    rename_i w0 m0 t w' m'
    intro hm
    unfold step1 at h4
    by_cases k : m0.take t.length = t
    · rw [if_pos k] at h4
      injection h4 with h4
      injection h4 with _ h5
      obtain ⟨t0, ht0, hm0⟩ := List.mem_flatMap.mp (ih h2)
      subst h5
      exact List.mem_flatMap.mpr ⟨t0, ht0, ends_drop _ hm0 hm⟩
    · rw [if_neg k] at h4
      by_cases k2 : t.take m0.length = m0
      · rw [if_pos k2] at h4
        injection h4 with h4
        injection h4 with _ h5
        exact List.mem_flatMap.mpr ⟨t, h3, mem_endsOf h5.symm hm⟩
      · rw [if_neg k2] at h4; cases h4
theorem length_rests {texts : List Tx} {L : Nat} (h : ∀ t ∈ texts, t.length ≤ L) : (restsOf texts).length ≤ texts.length * L := by
  induction texts with
  | nil => simp [restsOf]
  | cons t texts ih =>
    show (endsOf t ++ restsOf texts).length ≤ _
    rw [List.length_append, List.length_cons, Nat.succ_mul]
    have h1 : (endsOf t).length ≤ L := by unfold endsOf; rw [List.length_map, List.length_range]; exact h t List.mem_cons_self
    have h2 := ih fun x hx => h x (List.mem_cons_of_mem _ hx)
    omega
theorem nodup_le {α : Type} [DecidableEq α] : ∀ {l m : List α}, l.Nodup → (∀ x ∈ l, x ∈ m) → l.length ≤ m.length
  | [], _, _, _ => Nat.zero_le _
  | x :: l, m, hn, hs => by
    have hx := hs x List.mem_cons_self
    have h1 := List.length_erase_of_mem hx
    have h2 := nodup_le (l := l) (m := m.erase x) (List.nodup_cons.mp hn).2 fun y hy => by
      have hne : y ≠ x := fun e => (List.nodup_cons.mp hn).1 (e ▸ hy)
      exact (List.mem_erase_of_ne hne).mpr (hs y (List.mem_cons_of_mem _ hy))
    have h3 : 0 < m.length := List.length_pos_of_mem hx
    rw [List.length_cons]
    omega
theorem DInv.many (I : DInv texts waiting done) {L : Nat} (h : ∀ t ∈ texts, t.length ≤ L) : done.length ≤ texts.length * L := by
  have h1 := nodup_le I.nd fun m hm => by
    obtain ⟨d, hd, e⟩ := List.mem_map.mp hm
    subst e
    exact (I.dreach d hd).rest (I.ne d hd)
  rw [List.length_map] at h1
  exact Nat.le_trans h1 (length_rests h)
end
end Sf

set_option Elab.async false
set_option linter.all false
set_option maxRecDepth 100000
set_option maxHeartbeats 4000000
/-! Forms and phrases as data; defs that make lambdas; more rules with the written part named. -/
namespace Sf
open PySem L2 LamX
/-- a field and its values -/
abbrev Fd := Str × List Str
abbrev eF (f : Fd) : D := .tup [.text f.1, eT f.2]
abbrev eFs (fs : List Fd) : D := .tup (fs.map eF)
/-- the form of the fields fs, an instance of the class at C -/
def isForm (C : Addr) (fs : List Fd) : RP := fun v H => ∃ a dx kv w, v = .ref a ∧ H a = some (.ins C dx kv) ∧ kv.lookup ("told_fields" : Str) = some w ∧ IsD H w (eFs fs) ∧ kv.lookup ("fields" : Str) = none
theorem isForm.mono {T : List Tab} {ex : List Addr} {C : Addr} {fs : List Fd} {v : V} {H H' : Hp} (h : isForm C fs v H) (x : Ext T ex H H') (hn : ∀ a, v = .ref a → a ∉ ex) : isForm C fs v H' := by
  obtain ⟨a, dx, kv, w, rfl, h1, h2, h3, h4⟩ := h
  exact ⟨a, dx, kv, w, rfl, x.keep a _ (hn a rfl) h1 (fun _ z => (nomatch z)), h2, IsD.mono x.tup h3, h4⟩
/-- an act of a form -/
def OkA (fs : List Fd) (act : Tx) : Prop := act = [("yes" : Str)] ∨ act = [("no" : Str)] ∨ (∃ f vs, (f, vs) ∈ fs ∧ act = [("drop" : Str), f]) ∨ ∃ f vs v, (f, vs) ∈ fs ∧ v ∈ vs ∧ (act = [("set" : Str), f, v] ∨ act = [("not" : Str), f, v])
structure OkP (fs : List Fd) (p : Ph) : Prop where
  text : OkT p.1
  six : p.1.length ≤ 6
  act : OkA fs p.2
/-- phrases of a form -/
structure OkPs (fs : List Fd) (ps : List Ph) : Prop where
  nf : (fs.map (·.1)).Nodup
  few : fs.length ≤ 6
  vals : ∀ f ∈ fs, f.2.length ≤ 5
  ok : ∀ p ∈ ps, OkP fs p
  lo : 1 ≤ ps.length
  hi : ps.length ≤ 16
  nd : ps.Nodup
def cNeed (C : Addr) : List V → Hp → RP → Prop := fun vs H R => ∃ (v1 v2 v3 : V) (fs : List Fd) (ps : List Ph), vs = [v1, v2, v3] ∧ isForm C fs v1 H ∧ IsD H v2 (ePs ps) ∧ OkPs fs ps ∧ R = isT (ePs ps)
/-- a def whose code object stands at c -/
structure FunC (K : PySem.W.Frag) (x qual : Str) (st : Stmt) (f : Addr) (fd : FuncData) (c : Addr) : Prop where
  ex : ∃ (oc : Value) (od : Option Addr) (kV doc pm : Value) (an : Option Addr) (ct : Value) (osl : Array (Option Value)),
    fd = PySem.W.fnOf x qual (defArgs st) (defBody st) (defScope st) .none kV doc pm an (.ref c) ct ∧ K.lookup f = some ⟨oc, od, .func fd, osl⟩ ∧ PySem.W.codeIn K (.ref c) qual = true
  kp : PySem.W.keepIn K (.ref f) = true
section
variable {P : Program} {w : World} {K : PySem.W.Frag} {mg : Str → Option Value} {base : Heap}
theorem FunC.ok {x qual : Str} {st : Stmt} {f c : Addr} {fd : FuncData} {N ps : List Str} {k : Nat} {sp : Sp} (F : FunC K x qual st f fd c) (S : FnScope N ps (defScope st)) (len : ∀ vs H Q E, sp vs H Q E → vs.length = ps.length)
    (hbody : ∀ (A : Around) (outer : List Env) (s : Shared) (H : Hp) (vs : List V) (Q : VK) (E : XK), Room k (A.deeper (PyProof.Rows.envOfC qual (defScope st) s.heap.objs.size f (.ref c))) → sp vs H Q E →
      ∃ t, PSs (cxOf CX0 P w K mg base N qual (defScope st) f (.ref c) A outer s H E).nox (defBody st) t ∧ t { nx := fun _ H' => Q .non H', rt := Q } (start N vs) H) : FnOk P w K mg base CX0 (k + 1) f fd ps sp := by
  obtain ⟨oc, od, kV, doc, pm, an, ct, osl, rfl, lk, hcd⟩ := F.ex
  refine fn_of lk hcd S len fun A outer s H vs Q E hr hsp => ?_
  obtain ⟨t, h, q⟩ := hbody A outer s H vs Q E hr hsp
  exact ⟨t, h.nox, q⟩
theorem FunC.fun {x qual : Str} {st : Stmt} {f c : Addr} {fd : FuncData} (F : FunC K x qual st f fd c) : Fun K x qual st f fd := by
  obtain ⟨oc, od, kV, doc, pm, an, ct, osl, h1, h2, h3⟩ := F.ex
  exact ⟨⟨oc, od, kV, doc, pm, an, _, ct, osl, h1, h2, h3⟩, F.kp⟩
/-- the name of the code object of a lambda in the def of this name -/
abbrev lamQ (q : Str) : Str := (q ++ ".<locals>.") ++ "<lambda>"
end
section
variable {X : Cx} {K : PySem.W.Frag} {P : Program} {w : World}
theorem ninK (hp : X.prog = P) (hw : X.w = w) (hu : X.A.units + 64 < cLine) : OpR X (compareOp .In) (rNIn P w false) := by subst hp hw; exact op_nin hu
theorem nnotinK (hp : X.prog = P) (hw : X.w = w) (hu : X.A.units + 64 < cLine) : OpR X (compareOp .NotIn) (rNIn P w true) := by subst hp hw; exact op_nnotin hu
theorem nixK (hp : X.prog = P) (hw : X.w = w) (hu : X.A.units + 64 < cLine) : IxR X (rNIx P w) := by subst hp hw; exact ix_nd hu
end
section
variable {T : List Tab} {P : Program} {w : World} {K : PySem.W.Frag} {σ : L2.St} {H : Hp} {te ta tb : TE} {tt : TT} {tu : TS} {R : RP} {d : D} {ds : List D} {l : List D} {E : Ends} {a i : Nat}
/-- while .. -/
theorem f_while (Pv : Nat → L2.St → Hp → Prop) (m0 : Nat) (h0 : Pv m0 σ H) (hs : ∀ m σ' H', Pv m σ' H' → ∃ b, EvT T tt σ' H' b ∧ (b = true → ∀ H1, Ext T [] H' H1 → ∃ N : L2.St → Hp → Prop, (∀ σ2 H2, N σ2 H2 → ∃ m', m' < m ∧ Pv m' σ2 H2) ∧ tu { E with nx := N, ct := N, bk := E.nx } σ' H1) ∧ (b = false → ∀ H1, Ext T [] H' H1 → E.nx σ' H1)) : tWhile tt tu E σ H := by
  refine ⟨Pv, ⟨m0, h0⟩, fun m σ' H' p => ?_⟩
  obtain ⟨b, h1, h2, h3⟩ := hs m σ' H' p
  refine h1.run fun H1 x => ?_
  cases b with
  | true =>
    show ∃ N, _
    exact h2 rfl H1 x
  | false =>
    show E.nx σ' H1
    exact h3 rfl H1 x
theorem t_truthL (h : EvR T te σ H (isL ds)) : EvT T (fun σ H Q => te σ H fun x H' => ∃ k, TruV K x H' k ∧ Q k H') σ H (!ds.isEmpty) := fun H1 x Q q => h H1 x _ fun v H2 x2 r => by
  obtain ⟨a, vs, rfl, ha, hv⟩ := r
  refine ⟨!vs.isEmpty, .inl ⟨vs, SqL.of ha, rfl⟩, ?_⟩
  have : vs.isEmpty = ds.isEmpty := by cases hv <;> rfl
  rw [this]
  exact q H2 x2
/-- d[k] = x -/
theorem s_nput {k : D} {b : Addr} {o io : Nat} {v : V} (ho : σ[o]? = some (some (.ref a))) (hi : σ[io]? = some (some (.ref b))) (hs : NS P w H a l) (hk : IsD H (.ref b) k) (hd : k.depth ≤ 8) (hz : l.length < 100000)
    (kk : ∀ H', Ext T [a] H H' → NS P w H' a (addK l k) → E.nx σ H') : tAsg (tC v) (gSub (tVar o) (tVar io) (rNSet P w)) E σ H := by
  obtain ⟨ks, h1, h2, h3⟩ := hs
  have hl : ks.length < 100000 := by rw [← List.length_map (as := ks) (f := fun k => k.1), h3]; exact hz
  refine ⟨_, ho, _, hi, k, b, a, ks, rfl, rfl, hk, hd, h1, h2, sz' hl, ?_⟩
  refine kk _ (Ext.put_self h1 noTab_nd) ⟨nput ks k b v, upd_same, ?_, by rw [nput_keys, h3]⟩
  exact (nput_nkeys h2 hk hd).mono (tex_put h1 noTab_nd)
end
theorem addK_new {l : List D} {k : D} (h : k ∉ l) : addK l k = l ++ [k] := if_neg h
theorem mem_eT {l : List Tx} {k : Tx} : (eT k ∈ l.map eT) ↔ k ∈ l := by
  constructor
  · intro h
    obtain ⟨x, hx, e⟩ := List.mem_map.mp h
    rw [← eT_inj e]
    exact hx
  · exact fun h => List.mem_map.mpr ⟨k, h, rfl⟩
end Sf

set_option Elab.async false
set_option linter.all false
set_option maxRecDepth 100000
set_option maxHeartbeats 4000000
/-! first_double. -/
namespace Sf
open PySem L2 LamX NdefX
abbrev S_first_double : Stmt := topS 31
abbrev N_first_double : List Str := ["form", "phrases", "texts", "text", "_", "waiting", "done", "words", "more", "one"]
abbrev P_first_double : List Str := ["form", "phrases"]
theorem sc_first_double : FnScope N_first_double P_first_double (defScope S_first_double) := ⟨rfl, rfl, rfl, by decide +kernel, rfl, by decide +kernel, by decide +kernel⟩
theorem Reach.words {texts : List Tx} {w m : Tx} (h : Reach texts w m) : (∀ x ∈ w, ∃ t ∈ texts, x ∈ t) ∧ ∀ x ∈ m, ∃ t ∈ texts, x ∈ t := by
  induction h with
  | base h1 h2 h3 h4 => exact ⟨fun x hx => ⟨_, List.mem_of_getElem? h1, hx⟩, fun x hx => ⟨_, List.mem_of_getElem? h1, List.mem_of_mem_drop hx⟩⟩
  | step h1 h2 h3 h4 ih =>
    rename_i w0 m0 t w' m'
    unfold step1 at h4
    by_cases k : m0.take t.length = t
    · rw [if_pos k] at h4
      injection h4 with h4
      injection h4 with e1 e2
      rw [← e1, ← e2]
      exact ⟨ih.1, fun x hx => ih.2 x (List.mem_of_mem_drop hx)⟩
    · rw [if_neg k] at h4
      by_cases k2 : t.take m0.length = m0
      · rw [if_pos k2] at h4
        injection h4 with h4
        injection h4 with e1 e2
        rw [← e1, ← e2]
        exact ⟨fun x hx => (List.mem_append.mp hx).elim (ih.1 x) fun z => ⟨t, h3, List.mem_of_mem_drop z⟩, fun x hx => ⟨t, h3, List.mem_of_mem_drop hx⟩⟩
      · rw [if_neg k2] at h4; cases h4
theorem sum_le {L : Nat} : ∀ {ws : Tx}, (∀ x ∈ ws, x.length ≤ L) → (ws.map (·.length)).sum ≤ L * ws.length
  | [], _ => by simp
  | w :: ws, h => by
    have h1 := h w List.mem_cons_self
    have h2 := sum_le fun x hx => h x (List.mem_cons_of_mem _ hx)
    rw [List.map_cons, List.sum_cons, List.length_cons, Nat.mul_succ]
    omega
/-- the key of an entry -/
abbrev eKey (e : Ent) : D := .tup [.num (e.1.length : Int), eT e.1, .num (e.2.length : Int)]
theorem klE_data (a b : Ent) : W.dataLt (py (eKey a)) (py (eKey b)) = klE a b := by
  have p : ∀ e : Ent, py (eKey e) = .tuple [.int e.1.length, .tuple (e.1.map PyData.str), .int e.2.length] := fun e => by
    show PyData.tuple [PyData.int _, PyData.tuple (pys (e.1.map .text)), PyData.int _] = _
    rw [pys_texts]
  rw [p, p, W.dataLt_tuple, dataLt_key _ _ a.1 b.1 [.int a.2.length] [.int b.2.length] (by rw [W.alikeAll, W.alike, W.alikeAll]; rfl)]
  have hl : PyProof.Rows.lexLt PyProof.Rows.itemOrd (W.keyToksAll [PyData.int (a.2.length : Int)]) (W.keyToksAll [PyData.int (b.2.length : Int)]) = decide (a.2.length < b.2.length) := by
    by_cases e : (a.2.length : Int) = b.2.length
    · rw [W.dataLt_all_yes (by rw [W.alike]) (by rw [PyData.eqv]; simp [e])]
      rw [decide_eq_false (by omega)]
      decide +kernel
    · rw [W.dataLt_all_no (by rw [W.alike]) (by rw [PyData.eqv]; simp [e]), W.dataLt_int]
      exact decide_eq_decide.mpr (by omega)
  rw [hl]
  unfold klE
  by_cases e : a.1.length = b.1.length
  · rw [if_pos (by omega), if_pos e]
  · rw [if_neg (by omega), if_neg e]
    exact decide_eq_decide.mpr (by omega)
theorem klE_rc {X : Cx} (hu : X.A.units + 80 < cLine) (a b : Ent) (v w : V) (u z : Value) (A : Around) (pins : List (Addr × Obj)) (σ : L2.St) (H : Hp) (s : Shared) (I : Inv X pins σ H s) (hA : A.units = X.A.units + 1) (h1 : isT (eKey a) v H) (h2 : isT (eKey b) w H) (r1 : RelV v u) (r2 : RelV w z) : SeqAt.RcLt A s u z (klE a b) := by
  rw [← klE_data]
  have p : ∀ e : Ent, py (eKey e) = .tuple [.int e.1.length, .tuple (e.1.map PyData.str), .int e.2.length] := fun e => by
    show PyData.tuple [PyData.int _, PyData.tuple (pys (e.1.map .text)), PyData.int _] = _
    rw [pys_texts]
  have k1 := IsD.reads I h1 r1
  have k2 := IsD.reads I h2 r2
  refine W.rcLt_alike _ _ A s u z _ _ k1 k2 ?_ ?_ ?_
  · rw [p, p, W.alike, W.alikeAll, W.alike, W.alikeAll, W.alike, alike_texts, W.alikeAll, W.alike, W.alikeAll]
    rfl
  · rw [p]
    exact fun z => nomatch z
  · have dep : ∀ ws : List Str, PyData.depthAll (ws.map PyData.str) = 0 := by
      intro ws
      induction ws with
      | nil => rfl
      | cons w ws ih =>
        show max 0 (PyData.depthAll (ws.map PyData.str)) = 0
        rw [ih]
        rfl
    have hd : (py (eKey a)).depth = 2 := by
      rw [p]
      show max 0 (max (PyData.depthAll (a.1.map PyData.str) + 1) (max 0 0)) + 1 = 2
      rw [dep]
      rfl
    rw [hd, hA]
    omega
/-- none, or the text of the first double -/
def eO : Option Tx → D
  | none => .none
  | some w => .text (joinW w)
def cDouble (T : List Tab) (C : Addr) : List V → Hp → RP → Prop := fun vs H R => ∃ (v1 v2 : V) (fs : List Fd) (ps : List Ph), vs = [v1, v2] ∧ isForm C fs v1 H ∧ IsD H v2 (ePs ps) ∧ OkPs fs ps ∧ Tabs T H ∧ R = fun v H' => ∃ o, First (ps.map (·.1)) o ∧ IsD H' v (eO o)
theorem _root_.L2.Room.u80 {k : Nat} {A : Around} (h : Room k A) : A.units + 80 < cLine := by have := h.un; omega
section
variable {T : List Tab} {σ : L2.St} {H : Hp} {ta : TE} {tr : TA} {R : RP} {Pr : List V → Hp → Prop} {K : PySem.W.Frag} {te : TE} {en : Ent → D}
theorem a_consR (h : EvR T ta σ H R) (m : ∀ v H H', Ext T [] H H' → R v H → R v H') (hr : EvAs T tr σ H Pr) : EvAs T (tCons ta tr) σ H (fun vs H => ∃ v us, vs = v :: us ∧ R v H ∧ Pr us H) := fun H1 x Q q =>
  h H1 x _ fun v H2 x2 r => hr H2 (x.trans x2) _ fun vs H3 x3 rs => q _ H3 (x2.trans x3) ⟨v, vs, rfl, m v H2 H3 x3 r, rs⟩
theorem isLN_back {H0 H1 H2 : Hp} {ds : List D} {v : V} (h : isLN H1 ds v H2) (f : ∀ b, H1 b = none → H0 b = none) : isLN H0 ds v H2 := by
  obtain ⟨a, vs, e, h0, h1, h2⟩ := h
  exact ⟨a, vs, e, f a h0, h1, h2⟩
theorem e_form {C : Addr} {fs : List Fd} {i : Nat} {v : V} (hi : σ[i]? = some (some v)) (h : isForm C fs v H) : EvR T (tVar i) σ H (isForm C fs) := e_var hi h fun _ x r => r.mono x fun _ _ => by simp
theorem form_st {C : Addr} {fs : List Fd} : ∀ v H H', Ext T [] H H' → isForm C fs v H → isForm C fs v H' := fun _ _ _ x r => r.mono x fun _ _ => by simp
theorem s_minK {α : Type} {en : α → D} {lt : α → α → Bool} {es : List α} {g : TG} {E : Ends} (h : EvR T te σ H (isL (es.map en))) (hT : Tabs T H) (hne : es ≠ [])
    (k : ∀ v e H1, Ext T [] H H1 → e ∈ es → IsD H1 v (en e) → (∀ e' ∈ es, lt e' e = false) → g v σ H1 E.nx) : tAsg (tMinK T te en lt) g E σ H :=
  h.run fun v H1 x1 r => ⟨x1.tabs hT, es, r, hne, fun v e H2 x2 he hd hb => k v e H2 (x1.trans x2) he hd hb⟩
end
section
variable {T : List Tab} {P : Program} {w : World} {K : PySem.W.Frag} {mg : Str → Option Value} {base : Heap} {C : Addr}
theorem ok_first_double {f cd cP : Addr} {fd : FuncData} (F : FunC K "first_double" "first_double" S_first_double f fd cd) (G : Gm mg) (TB : TabB base mg cd cP) (hT : (cP, lamQ "first_double") ∈ T) (hTu : ∀ p ∈ T, p.1 = cP → p.2 = lamQ "first_double")
    (A_texts_of : At P w K mg base 1 "texts_of" P_texts_of (SpP T cTextsOf)) (A_need_phrases : At P w K mg base 5 "need_phrases" ["form", "phrases", "at"] (SpP T (cNeed C)))
    (A_beginnings : At P w K mg base 1 "beginnings" P_beginnings (SpP T cBegins)) (A_steps_behind : At P w K mg base 1 "steps_behind" ["texts", "words", "more"] (SpP T cSteps)) : FnOk P w K mg base CX0 6 f fd P_first_double (SpP T (cDouble T C)) := by
  refine F.ok sc_first_double (fun vs H Q E h => ?_) (fun A outer s H vs Q E hr h => ?_)
  · obtain ⟨R, ⟨_, _, _, _, rfl, _⟩, _⟩ := h
    rfl
  · obtain ⟨R, ⟨v1, v2, fs, ps, rfl, h1, h2, hps, hT0, rfl⟩, q⟩ := h
    refine ⟨_, (pss_cons (ps_setLc (i := 2) (own := [("text", 3), ("_", 4)]) rfl sc_first_double.nd rfl rfl (sw_true rfl rfl rfl (by decide +kernel)) (pi_listK (K := K) rfl (pe_fn A_texts_of (hr.mono (by decide)) (pa_cons (pe_fn A_need_phrases (hr.mono (by decide)) (pa_cons (pv 0) (pa_cons (pv 1) (pa_cons pe_int pa_nil)))) pa_nil))) (blkOk_by (own := [("text", 3), ("_", 4)]) (N := N_first_double) (sc := defScope S_first_double) (by decide +kernel)) (fun _ _ _ _ _ => by exact (pg_tupK (K := K) (n := 2) rfl rfl (pgs_cons (pg_name (i := 3) sc_first_double.nd rfl (Or.inl rfl) (Or.inr rfl)) (pgs_cons (pg_name (i := 4) sc_first_double.nd rfl (Or.inl rfl) (Or.inr rfl)) pgs_nil)))) (fun _ _ _ _ _ => by exact pts_nil) (fun _ _ _ _ _ => by exact (pv 3)))
    (pss_cons (ps_set (i := 5) sc_first_double.nd rfl (Or.inl rfl) (pe_fn A_beginnings (hr.mono (by decide)) (pa_cons (pv 2) pa_nil)))
    (pss_cons (ps_set (i := 6) sc_first_double.nd rfl (Or.inr rfl) pe_dnewN)
    (pss_cons (ps_while PassesOwn.never (pt_truth (pv 5) (by intro _; rfl))
      (pss_cons (ps_asg (pe_minK (T := T) (N := ["one"]) (y := "one") (k := 1) (en := eE) (lt := klE) (KR := fun e => isT (eKey e)) (fun e => ⟨_, rfl⟩) G.n_min (pa_cons (pv 5) pa_nil) TB rfl hT hTu (hr.mono (by decide)) (nscope_by (by decide +kernel)) (by decide +kernel) (fun _ _ _ _ _ _ => rfl)
          (fun A outer s H f q cl c' hr2 => pe_tup (pa_cons (pe_callB (lenK (K := K) rfl) (by rfl) G.n_len PySem.boot_len (pa_cons (pe_ix (ixT (K := K) rfl) (pe_var (i := 0) rfl (Or.inl rfl)) pe_int (fun _ _ => rfl)) pa_nil)) (pa_cons (pe_ix (ixT (K := K) rfl) (pe_var (i := 0) rfl (Or.inl rfl)) pe_int (fun _ _ => rfl)) (pa_cons (pe_callB (lenK (K := K) rfl) (by rfl) G.n_len PySem.boot_len (pa_cons (pe_ix (ixT (K := K) rfl) (pe_var (i := 0) rfl (Or.inl rfl)) pe_int (fun _ _ => rfl)) pa_nil)) pa_nil))))
          (fun a v H H' x h => IsD.mono x h) klE_irrefl klE_trans
          (fun a v H h => e_tup (a_cons (e_lenT (e_ix (e_t rfl h) e_int rfl)) (a_cons (e_ix (e_t rfl h) e_int rfl) (a_one (e_lenT (e_ix (e_t rfl h) e_int rfl))))) (by show 3 ≤ 100000; decide))
          (klE_rc hr.u80)) (pg_tupK (K := K) (n := 2) rfl rfl (pgs_cons (pg_name (i := 7) sc_first_double.nd rfl (Or.inl rfl)) (pgs_cons (pg_name (i := 8) sc_first_double.nd rfl (Or.inl rfl)) pgs_nil))))
      (pss_cons (ps_if (pt_cmpR (op_eqN hr.units) (pv 8) (pe_tup pa_nil) (nomark _))
        (pss_one (ps_ret (joinK (K := K) rfl pe_str (pv 7))))
        pss_nil)
      (pss_cons (ps_asg pe_bl (pg_sub (pv 6) (pv 8) (set_nd hr.units)))
      (pss_one (ps_setLc (i := 5) (own := [("one", 9)]) rfl sc_first_double.nd rfl rfl (sw_true rfl rfl rfl (by decide +kernel)) (pi_listK (K := K) rfl (pe_op op_cat (pv 5) (pe_fn A_steps_behind (hr.mono (by decide)) (pa_cons (pv 2) (pa_cons (pv 7) (pa_cons (pv 8) pa_nil)))))) (blkOk_by (own := [("one", 9)]) (N := N_first_double) (sc := defScope S_first_double) (by decide +kernel)) (fun _ _ _ _ _ => by exact (pg_name (i := 9) sc_first_double.nd rfl (Or.inl rfl) (Or.inr rfl))) (fun _ _ _ _ _ => by exact (pts_one (pt_cmpR (nnotinK (P := P) (w := w) rfl rfl hr.units) (pe_ix (ixT (K := K) rfl) (pv 9) pe_int (fun _ _ => rfl)) (pv 6) (by rfl)))) (fun _ _ _ _ _ => by exact (pv 9))))))))
    (pss_one (ps_ret pe_non)))))), ?_⟩
    have hn := hps.hi
    have htx : ∀ t ∈ ps.map (·.1), OkT t ∧ t.length ≤ 6 := fun t ht => by
      obtain ⟨p, hp, rfl⟩ := List.mem_map.mp ht
      exact ⟨(hps.ok p hp).text, (hps.ok p hp).six⟩
    have hnt : (ps.map (·.1)).length ≤ 16 := by rw [List.length_map]; exact hn
    -- texts
    refine s_seq (s_asg (T := T) (R := isLN H ((ps.map (·.1)).map eT)) ?_ fun lt H1 x1 rt => ?_)
    · refine EvR.imp (c_lst (xs := ps) (en := eE) (RE := fun p => isT (eT p.1)) stT ((e_fn (R := isLN H (ps.map eE)) (a_any (e_fn (R := isT (ePs ps)) (a_consR (e_form rfl h1) form_st (a_cons (e_t rfl h2) (a_one e_int))) fun vs H1 x1 hp => ?_)) fun vs H1 x1 hp => ?_).imp fun _ _ _ r => r.l) (by omega) (fun _ => true) fun p hp x H1 x1 hx Q k => ?_) fun v H2 _ r => ?_
      · obtain ⟨v, us, rfl, hv, hu⟩ := hp
        cases hu with
        | cons hu hr =>
          cases hr with
          | cons hr hn =>
            cases hn
            exact ⟨_, ⟨v, _, _, fs, ps, rfl, hv, hu, hps, rfl⟩, fun _ _ r => r⟩
      · obtain ⟨v, rfl, hv⟩ := hp
        exact ⟨_, ⟨v, ps, rfl, hv, fun p hp => (hps.ok p hp).text, by omega, rfl⟩, fun v H2 r => isLN_back r x1.free⟩
      · exact g_pair hx fun u1 u2 i1 i2 => k _ rfl t_yes fun _ => e_t rfl i1
      · rw [List.filter_eq_self.mpr fun _ _ => rfl] at r
        rw [List.map_map]
        exact isEach.ln r
    obtain ⟨lt', _, rfl, lt0, _⟩ := id rt
    have rt1 := rt.l
    generalize hxs : ps.map (·.1) = texts at *
    -- waiting
    refine s_seq (s_asg (T := T) (R := isL ((begins texts).map eE)) (e_fn (a_any (e_l rfl rt1)) fun vs H2 x2 hp => ?_) fun lw H2 x2 rw2 => ?_)
    · obtain ⟨v, rfl, hv⟩ := hp
      exact ⟨_, ⟨v, texts, rfl, hv, by omega, rfl⟩, fun v H2 r => r.l⟩
    -- done
    refine s_seq (s_asg (T := T) e_dnewN fun ld H3 x3 rd => ?_)
    obtain ⟨pd, rfl, pd0, pd1⟩ := rd
    have x123 := (x1.trans x2).trans x3
    have hpd : H pd = none := (x1.trans x2).free _ pd0
    dsimp only
    refine s_seq ?_
    refine f_while (T := T) (fun m σ' H' => ∃ (wl : V) (z7 z8 : Option V) (waiting : List Ent) (done : List (Tx × Tx)), σ' = [some v1, some v2, some (.ref lt'), none, none, some wl, some (.ref pd), z7, z8, none] ∧ Ext T [pd] H3 H' ∧ isL (waiting.map eE) wl H' ∧ NS P w H' pd ((done.map (·.1)).map eT) ∧
      DInv texts waiting done ∧ m + done.length = 1000 ∧ waiting.length ≤ 400 + 16 * done.length ∧ ∀ e ∈ waiting, e.1.length ≤ 6 * (done.length + 1)) 1000
      ⟨lw, none, none, begins texts, [], rfl, Ext.refl _, x3.isL rw2, ⟨[], pd1, fun _ h => (nomatch h), rfl⟩, DInv.start, rfl, ?_, fun e he => ?_⟩ fun m σ' H' hP => ?_
    · have h1 : (begins texts).length ≤ texts.length * texts.length := flat_len texts texts.length
      have h2 : texts.length * texts.length ≤ 16 * 16 := Nat.mul_le_mul hnt hnt
      simp only [List.length_nil]
      omega
    · obtain ⟨i, j, t, o, h1, _, _, _, rfl⟩ := mem_begins.mp he
      have := (htx t (List.mem_of_getElem? h1)).2
      simp only [List.length_nil]
      omega
    · obtain ⟨wl, z7, z8, waiting, done, rfl, e, hw, hs, I, hm, hlen, hbd⟩ := hP
      have hdn : done.length ≤ 16 * 6 := Nat.le_trans (I.many fun t ht => (htx t ht).2) (Nat.mul_le_mul hnt (Nat.le_refl _))
      have hlt : isL (texts.map eT) (.ref lt') H' := by
        obtain ⟨a, us, ea, ha, hu⟩ := (x2.trans x3).isL rt1
        cases ea
        refine ⟨_, us, rfl, e.lst ha ?_, hu.mono e.tup⟩
        have : pd ≠ lt' := by
          rintro rfl
          obtain ⟨a, us, ea, ha, _⟩ := x2.isL rt1
          cases ea
          rw [pd0] at ha
          cases ha
        simpa using this.symm
      refine ⟨_, t_truthL (e_l rfl hw), fun hb H5 x5 => ⟨fun σ2 H2 => ∃ m', m' < m ∧ (∃ (wl : V) (z7 z8 : Option V) (waiting : List Ent) (done : List (Tx × Tx)), σ2 = [some v1, some v2, some (.ref lt'), none, none, some wl, some (.ref pd), z7, z8, none] ∧ Ext T [pd] H3 H2 ∧ isL (waiting.map eE) wl H2 ∧ NS P w H2 pd ((done.map (·.1)).map eT) ∧
        DInv texts waiting done ∧ m' + done.length = 1000 ∧ waiting.length ≤ 400 + 16 * done.length ∧ ∀ e ∈ waiting, e.1.length ≤ 6 * (done.length + 1)), fun _ _ h => h, ?_⟩, fun hb H5 x5 => ?_⟩
      · have hne : waiting ≠ [] := by
          rintro rfl
          simp at hb
        dsimp only
        refine s_seq (s_minK (T := T) (es := waiting) (e_l rfl (x5.isL hw)) (x5.tabs (e.tabs (x123.tabs hT0))) hne fun v en H6 x6 hen hd hbest => g_pair hd fun u1 u2 i1 i2 => ?_)
        obtain ⟨ew, em⟩ := en
        have hR := I.reach _ hen
        have hw1 : ∀ x ∈ ew, OkW x := fun x hx => by
          obtain ⟨t, ht, hxt⟩ := hR.words.1 x hx
          exact (htx t ht).1.ok x hxt
        have hbw : ew.length ≤ 6 * (done.length + 1) := hbd _ hen
        have x56 := x5.trans x6
        refine s_seq (s_if (T := T) (t_test (e_eqT (us := []) (e_t rfl i2) (e_tup a_nil (by decide)))) (fun hb H7 x7 => ?_) fun hb H7 x7 => ?_)
        · have hm0 : em = [] := of_decide_eq_true hb
          subst hm0
          refine s_ret (T := T) (R := isT (.text (joinW ew))) (e_join e_str (e_t rfl (x7.isT i1)) ?_) fun v H8 x8 r8 => ?_
          · have h1 := sum_le (L := 8) fun x hx => (hw1 x hx).2.1
            have h2 : ew.length * (" " : Str).length = ew.length := by
              rw [show (" " : Str).length = 1 by decide +kernel, Nat.mul_one]
            rw [h2]
            omega
          · exact q v H8 (((x123.loc (e.trans x56.wide) hpd).trans x7).trans x8) ⟨some ew, I.found hen hbest, r8⟩
        · have hm0 : em ≠ [] := of_decide_eq_false hb
          have hfr : em ∉ done.map (·.1) := I.fresh _ hen
          obtain ⟨b2, vs2, rfl, _⟩ := i2.tup_inv
          refine s_seq (s_nput (T := T) (k := eT em) rfl rfl ((x56.trans x7).ns hs (by simp)) (x7.isT i2) (by rw [eT_depth]; omega) (by rw [List.length_map, List.length_map]; omega) fun H8 x8 s8 => ?_)
          rw [addK_new (fun z => hfr (mem_eT.mp z)), show (done.map (·.1)).map eT ++ [eT em] = ((done ++ [(em, ew)]).map (·.1)).map eT by simp] at s8
          have e8 : Ext T [pd] H3 H8 := (e.trans (x56.trans x7).wide).trans x8
          have hpw : ∀ a, wl = .ref a → a ≠ pd := by
            rintro a rfl rfl
            obtain ⟨a, us, ea, ha, _⟩ := hw
            cases ea
            obtain ⟨ks, hk, _⟩ := hs
            rw [ha] at hk
            cases (Option.some.inj hk)
          have hw8 : isL (waiting.map eE) wl H8 := by
            obtain ⟨a, us, ea, ha, hu⟩ := (x56.trans x7).isL hw
            exact ⟨a, us, ea, x8.lst ha (by simpa using hpw a ea), hu.mono x8.tup⟩
          have hl8 : isL (texts.map eT) (.ref lt') H8 := by
            obtain ⟨a, us, ea, ha, hu⟩ := (x56.trans x7).isL hlt
            cases ea
            refine ⟨_, us, rfl, x8.lst ha ?_, hu.mono x8.tup⟩
            have : lt' ≠ pd := by
              rintro rfl
              obtain ⟨a, us, ea, ha, _⟩ := x2.isL rt1
              cases ea
              rw [pd0] at ha
              cases ha
            simpa using this
          have j1 : IsD H8 u1 (eT ew) := IsD.mono (x7.tup.trans x8.tup) i1
          have j2 : IsD H8 (.ref b2) (eT em) := IsD.mono (x7.tup.trans x8.tup) i2
          have hst : (stepsB texts ew em).length ≤ 16 := Nat.le_trans (List.length_filterMap_le _ _) hnt
          dsimp only
          refine s_asg (T := T) (R := isLN H8 ((nextW texts waiting done ew em).map eE)) ?_ fun v9 H9 x9 r9 => ?_
          · refine EvR.imp (c_lst (xs := waiting ++ stepsB texts ew em) (en := eE) (RE := fun e => isT (eE e)) stT ?_ (by rw [List.length_append]; omega) (fun e => !decide (e.2 ∈ done.map (·.1) ++ [em])) fun e he x H9 x9 hx Q k => k _ rfl ?_ fun _ => e_t rfl hx) fun v H9 _ r => isEach.ln r
            · refine ((e_catL (e_l rfl hw8) (e_fn (R := isL ((stepsB texts ew em).map eE)) (a_consR (e_l rfl hl8) (fun _ _ _ x r => x.isL r) (a_cons (e_t rfl j1) (a_one (e_t rfl j2)))) fun vs H9 x9 hp => ?_) (by rw [List.length_map, List.length_map]; omega)).imp fun _ _ _ r => r.l).eqL (by rw [List.map_append])
              obtain ⟨v, us, rfl, hv, hu⟩ := hp
              cases hu with
              | cons hu hr =>
                cases hr with
                | cons hr hn =>
                  cases hn
                  exact ⟨_, ⟨v, _, _, texts, ew, em, rfl, hv, hu, hr, by omega, by omega, fun t ht => by have := (htx t ht).2; omega, rfl⟩, fun _ _ r => r.l⟩
            · refine (t_test ((e_ninS (P := P) (w := w) (neg := true) (ds := e.2.map .text) (e_ix (e_t rfl hx) e_int rfl) (e_v rfl) (x9.ns s8 (by simp)) (Nat.le_trans (Nat.le_of_eq (eT_depth e.2)) (by decide))).eqB ?_))
              have : (done ++ [(em, ew)]).map (·.1) = done.map (·.1) ++ [em] := by simp
              rw [if_pos rfl, this]
              exact congrArg (! ·) (decide_eq_decide.mpr mem_eT)
          · refine ⟨m - 1, by omega, v9, some u1, some (.ref b2), nextW texts waiting done ew em, done ++ [(em, ew)], rfl, e8.trans x9.wide, r9.l, x9.ns s8 (by simp), I.turn hen hbest hm0, by rw [List.length_append]; simp only [List.length_cons, List.length_nil]; omega, ?_, fun e' he' => ?_⟩
            · have h1 : (nextW texts waiting done ew em).length ≤ (waiting ++ stepsB texts ew em).length := List.length_filter_le _ _
              rw [List.length_append] at h1
              rw [List.length_append]
              simp only [List.length_cons, List.length_nil]
              omega
            · rw [List.length_append]
              simp only [List.length_cons, List.length_nil]
              rcases List.mem_append.mp (List.mem_filter.mp he').1 with z | z
              · have := hbd _ z
                omega
              · obtain ⟨t, ht, hst⟩ := mem_stepsB.mp z
                obtain ⟨sx, e1, l1, _⟩ := step1_app (w' := e'.1) (m' := e'.2) hst
                have := (htx t ht).2
                rw [e1, List.length_append]
                omega
      · have hne : waiting = [] := by
          cases waiting with
          | nil => rfl
          | cons _ _ => simp at hb
        subst hne
        dsimp only
        refine s_ret (T := T) (R := isT .none) e_non fun v H6 x6 r6 => ?_
        exact q v H6 ((x123.loc (e.trans x5.wide) hpd).trans x6) ⟨none, I.empty, r6⟩
end
end Sf

set_option Elab.async false
set_option linter.all false
set_option maxRecDepth 100000
set_option maxHeartbeats 4000000
/-! Dicts whose keys are texts or numbers, as EvR. -/
namespace Sf
open PySem L2 LamX
section
variable {T : List Tab} {K : PySem.W.Frag} {σ : L2.St} {H H' : Hp} {te ta tb tc tl tk tv : TE} {R : RP} {d : D} {ds : List D} {g : TG} {a : Addr}
/-- the dict at a: keys k of xs, values as R says -/
def KD {α : Type} (H : Hp) (a : Addr) (xs : List α) (k : α → Key) (R : α → RP) : Prop := ∃ kvs : List (Key × V), H a = some (.dK kvs) ∧ kvs.map (·.1) = xs.map k ∧ Each R H (kvs.map (·.2)) xs
def isKD {α : Type} (H0 : Hp) (xs : List α) (k : α → Key) (R : α → RP) : RP := fun v H => ∃ a, v = .ref a ∧ H0 a = none ∧ KD H a xs k R
theorem Ext.kd {α : Type} {xs : List α} {k : α → Key} {R : α → RP} {ex : List Addr} (x : Ext T ex H H') (m : Stable R) (h : KD H a xs k R) (ha : a ∉ ex) : KD H' a xs k R := by
  obtain ⟨kvs, h1, h2, h3⟩ := h
  exact ⟨kvs, x.keep a _ ha h1 fun _ z => (nomatch z), h2, h3.mono m x.tup⟩
theorem kd_val {α : Type} {k : α → Key} {R : α → RP} : ∀ {kvs : List (Key × V)} {xs : List α}, kvs.map (·.1) = xs.map k → Each R H (kvs.map (·.2)) xs → ∀ j, (valV kvs j = none ∧ ∀ x ∈ xs, k x ≠ j) ∨ ∃ v x, valV kvs j = some v ∧ x ∈ xs ∧ k x = j ∧ R x v H
  | [], [], _, _, j => .inl ⟨rfl, fun x hx => by simp at hx⟩
  | [], _ :: _, h, _, _ => nomatch h
  | _ :: _, [], h, _, _ => nomatch h
  | p :: kvs, x :: xs, h, hv, j => by
    injection h with h1 h2
    have h1 : p.1 = k x := h1
    cases hv with
    | cons r rs =>
      by_cases e : p.1 = j
      · exact .inr ⟨p.2, x, valV_pos e, List.mem_cons_self, h1.symm.trans e, r⟩
      · have e1 : valV (p :: kvs) j = valV kvs j := by
          show ((List.find? (fun kv => decide (kv.1 = j)) (p :: kvs)).map (·.2)) = _
          rw [List.find?_cons_of_neg (by simpa using e)]
          rfl
        rw [e1]
        rcases kd_val h2 rs j with ⟨k1, k2⟩ | ⟨v, y, k1, k2, k3⟩
        · refine .inl ⟨k1, fun y hy => ?_⟩
          rcases List.mem_cons.mp hy with rfl | hy
          · rw [← h1]; exact e
          · exact k2 y hy
        · exact .inr ⟨v, y, k1, List.mem_cons_of_mem _ k2, k3⟩
theorem kd_snoc {α : Type} {xs : List α} {k : α → Key} {R : α → RP} {kvs : List (Key × V)} {x : α} {v : V} (h1 : kvs.map (·.1) = xs.map k) (hE : Each R H (kvs.map (·.2)) xs) (hn : k x ∉ xs.map k) (hr : R x v H) :
    putK kvs (k x) v = kvs ++ [(k x, v)] ∧ (kvs ++ [(k x, v)]).map (·.1) = (xs ++ [x]).map k ∧ Each R H ((kvs ++ [(k x, v)]).map (·.2)) (xs ++ [x]) := by
  refine ⟨putK_new v ?_, by rw [List.map_append, List.map_append, h1]; rfl, ?_⟩
  · rcases kd_val (xs := xs) h1 hE (k x) with ⟨e, _⟩ | ⟨_, y, _, hy, e, _⟩
    · exact e
    · exact absurd (List.mem_map.mpr ⟨y, hy, e⟩) hn
  · rw [List.map_append]
    exact hE.snoc hr
/-- {k: v for x in t}, the keys unlike -/
theorem dc_any {J : It} {n : Nat} {G : Hp → Prop} {Y : Nat → Hp → V → Hp → Prop} (w : Walk J n G Y) {g : TG} {tt : TT} {vs : List Nat} {H1 : Hp} {D : Addr} {Qd : Hp → Prop} (Pv : Nat → Hp → Prop) (h0 : Pv 0 (upd H1 D (.dK []))) (hG : ∀ i H, i ≤ n → Pv i H → G H)
    (hs : ∀ i x H H', i < n → Pv i H → Y i H x H' → g x (wipe σ vs) H' fun σ2 H2 => wipe σ2 vs = wipe σ vs ∧ tt σ2 H2 fun b H3 =>
      if b = true then tk σ2 H3 fun y H4 => tv σ2 H4 fun z H5 => ∃ kvs k, y = kV k ∧ H5 D = some (.dK kvs) ∧ kvs.length < sizeLine ∧ Pv (i + 1) (upd H5 D (.dK (putK kvs k z))) else Pv (i + 1) H3) (hd : ∀ H, Pv n H → Qd H) :
    ∃ W : Nat → Nat → Hp → Prop, (∃ m, W 0 m (upd H1 D (.dK []))) ∧ ∀ i m H, W i m H →
      (J.stop i H ∧ Qd H) ∨ (J.go i H ∧ ∃ Nx : Hp → Prop, (∀ H', Nx H' → ∃ m', m' < m ∧ W (i + 1) m' H') ∧ ∀ x H', J.yld i H x H' → g x (wipe σ vs) H' fun σ2 H2 => wipe σ2 vs = wipe σ vs ∧ tt σ2 H2 fun b H3 =>
        if b = true then tk σ2 H3 fun y H4 => tv σ2 H4 fun z H5 => ∃ kvs k, y = kV k ∧ H5 D = some (.dK kvs) ∧ kvs.length < sizeLine ∧ Nx (upd H5 D (.dK (putK kvs k z))) else Nx H3) := by
  refine ⟨fun i m H => m = n - i ∧ i ≤ n ∧ Pv i H, ⟨n, by simp, Nat.zero_le _, h0⟩, ?_⟩
  rintro i m H ⟨rfl, hi, p⟩
  have q := hG i H hi p
  by_cases hlt : i < n
  · refine .inr ⟨w.goes i H hlt q, Pv (i + 1), fun H' p' => ⟨n - (i + 1), by omega, rfl, hlt, p'⟩, fun x H' y => hs i x H H' hlt p (w.yields i H x H' hlt q y)⟩
  · have e : i = n := by omega
    subst e
    exact .inl ⟨w.stops H q, hd H p⟩
theorem kd_turn {α : Type} {xs : List α} {k : α → Key} {R : α → RP} {L : Addr} {H2 : Hp} {kvs : List (Key × V)} {n : Nat} {x : α} {σ2 : L2.St} (m : Stable R) (hL : H2 L = none) (e : Ext T [] H2 H') (hk : H' L = some (.dK kvs)) (h1 : kvs.map (·.1) = (xs.take n).map k) (hE : Each R H' (kvs.map (·.2)) (xs.take n)) (hz : xs.length ≤ 50000)
    (hd : xs[n]? = some x) (hn : (xs.map k).Nodup) (htk : EvR T tk σ2 H' (isV (kV (k x)))) (htv : EvR T tv σ2 H' (R x)) :
    tYes σ2 H' fun b H3 => if b = true then tk σ2 H3 fun y H4 => tv σ2 H4 fun z H5 => ∃ kvs j, y = kV j ∧ H5 L = some (.dK kvs) ∧ kvs.length < sizeLine ∧ (fun (i : Nat) (H' : Hp) => ∃ kvs, Ext T [] H2 H' ∧ H' L = some (.dK kvs) ∧ kvs.map (·.1) = (xs.take i).map k ∧ Each R H' (kvs.map (·.2)) (xs.take i)) (n + 1) (upd H5 L (.dK (putK kvs j z)))
      else (fun (i : Nat) (H' : Hp) => ∃ kvs, Ext T [] H2 H' ∧ H' L = some (.dK kvs) ∧ kvs.map (·.1) = (xs.take i).map k ∧ Each R H' (kvs.map (·.2)) (xs.take i)) (n + 1) H3 := by
  have hlen : n < xs.length := (List.getElem?_eq_some_iff.mp hd).1
  have htake : xs.take (n + 1) = xs.take n ++ [x] := by rw [List.take_add_one, hd]; rfl
  have hkl : kvs.length = n := by
    have := congrArg List.length h1
    rw [List.length_map, List.length_map, List.length_take] at this
    omega
  have hnew : k x ∉ (xs.take n).map k := by
    have hsub : ((xs.take (n + 1)).map k).Nodup := hn.sublist ((List.take_sublist _ _).map _)
    rw [htake, List.map_append, List.nodup_append] at hsub
    exact fun z => hsub.2.2 _ z _ (by simp) rfl
  show tk σ2 H' _
  refine htk.run fun y H4 e4 r4 => (htv.mono e4).run fun z H5 e5 r5 => ?_
  obtain rfl : y = kV (k x) := r4
  have e45 := e4.trans e5
  have hk5 := e45.keep L _ (by simp) hk fun _ z => (nomatch z)
  refine ⟨kvs, k x, rfl, hk5, sz' (by omega), ?_⟩
  obtain ⟨p1, p2, p3⟩ := kd_snoc (x := x) h1 (hE.mono m e45.tup) hnew r5
  rw [p1]
  refine ⟨kvs ++ [(k x, z)], (e.trans e45).put (.inl hL) hk5 (noTab_dK _), upd_same, by rw [htake]; exact p2, ?_⟩
  rw [htake]
  exact p3.mono m (tex_put hk5 (noTab_dK _))
theorem c_dict {α : Type} {xs : List α} {en : α → D} {k : α → Key} {R : α → RP} {vs : List Nat} (m : Stable R) (h : EvR T tl σ H (isT (.tup (xs.map en)))) (hz : xs.length ≤ 50000) (hn : (xs.map k).Nodup)
    (hs : ∀ d, d ∈ xs → ∀ x H1, Ext T [] H H1 → IsD H1 x (en d) → ∀ Q : L2.St → Hp → Prop, (∀ σ2, wipe σ2 vs = wipe σ vs → EvR T tk σ2 H1 (isV (kV (k d))) → EvR T tv σ2 H1 (R d) → Q σ2 H1) → g x (wipe σ vs) H1 Q) :
    EvR T (tDc (iTup K tl) g tYes tk tv vs) σ H (isKD H xs k R) := fun H1 xa Q q => h H1 xa _ fun v H2 x2 r => by
  obtain ⟨a, us, rfl, ha, hu⟩ := r.tup_inv
  refine ⟨a, rfl, ⟨us, SqT.of ha⟩, fun L hL => ?_⟩
  refine dc_any (walk_tup (K := K) (a := a) (xs := us)) (fun i H' => ∃ kvs, Ext T [] H2 H' ∧ H' L = some (.dK kvs) ∧ kvs.map (·.1) = (xs.take i).map k ∧ Each R H' (kvs.map (·.2)) (xs.take i)) ⟨[], Ext.new hL, upd_same, rfl, by simp only [List.take_zero]; exact .nil⟩
    (fun i H' _ hp => by obtain ⟨kvs, e, _⟩ := hp; exact SqT.of (e.tup _ _ ha)) (fun i x H' H'' hlt hp hy => ?_) fun H' hp => ?_
  · obtain ⟨rfl, hi⟩ := hy
    obtain ⟨kvs, e, hk, hk1, hE⟩ := hp
    obtain ⟨d', hd', hxd⟩ := hu.getV hi
    rw [List.getElem?_map] at hd'
    obtain ⟨d, hd, rfl⟩ := Option.map_eq_some_iff.mp hd'
    exact hs d (List.mem_of_getElem? hd) x _ ((xa.trans x2).trans e) (IsD.mono e.tup hxd) _ fun σ2 hw h1 h2 => ⟨hw, kd_turn m hL e hk hk1 hE hz hd hn h1 h2⟩
  · obtain ⟨kvs, e, hk, hk1, hE⟩ := hp
    rw [hu.length, List.length_map, List.take_length] at hk1 hE
    exact q _ H' (x2.trans e) ⟨L, rfl, xa.free _ (x2.free _ hL), kvs, hk, hk1, hE⟩
theorem c_dictL {α : Type} {xs : List α} {en : α → D} {k : α → Key} {R : α → RP} {vs : List Nat} (m : Stable R) (h : EvR T tl σ H (isL (xs.map en))) (hz : xs.length ≤ 50000) (hn : (xs.map k).Nodup)
    (hs : ∀ d, d ∈ xs → ∀ x H1, Ext T [] H H1 → IsD H1 x (en d) → ∀ Q : L2.St → Hp → Prop, (∀ σ2, wipe σ2 vs = wipe σ vs → EvR T tk σ2 H1 (isV (kV (k d))) → EvR T tv σ2 H1 (R d) → Q σ2 H1) → g x (wipe σ vs) H1 Q) :
    EvR T (tDc (iList K tl) g tYes tk tv vs) σ H (isKD H xs k R) := fun H1 xa Q q => h H1 xa _ fun v H2 x2 r => by
  obtain ⟨a, us, rfl, ha, hu⟩ := r
  refine ⟨a, rfl, ⟨us, SqL.of ha⟩, fun L hL => ?_⟩
  refine dc_any (walk_list (K := K) (a := a) (xs := us)) (fun i H' => ∃ kvs, Ext T [] H2 H' ∧ H' L = some (.dK kvs) ∧ kvs.map (·.1) = (xs.take i).map k ∧ Each R H' (kvs.map (·.2)) (xs.take i)) ⟨[], Ext.new hL, upd_same, rfl, by simp only [List.take_zero]; exact .nil⟩
    (fun i H' _ hp => by obtain ⟨kvs, e, _⟩ := hp; exact SqL.of (e.lst ha (by simp))) (fun i x H' H'' hlt hp hy => ?_) fun H' hp => ?_
  · obtain ⟨rfl, hi⟩ := hy
    obtain ⟨kvs, e, hk, hk1, hE⟩ := hp
    obtain ⟨d', hd', hxd⟩ := hu.getV hi
    rw [List.getElem?_map] at hd'
    obtain ⟨d, hd, rfl⟩ := Option.map_eq_some_iff.mp hd'
    exact hs d (List.mem_of_getElem? hd) x _ ((xa.trans x2).trans e) (IsD.mono e.tup hxd) _ fun σ2 hw h1 h2 => ⟨hw, kd_turn m hL e hk hk1 hE hz hd hn h1 h2⟩
  · obtain ⟨kvs, e, hk, hk1, hE⟩ := hp
    rw [hu.length, List.length_map, List.take_length] at hk1 hE
    exact q _ H' (x2.trans e) ⟨L, rfl, xa.free _ (x2.free _ hL), kvs, hk, hk1, hE⟩
/-- len(d) -/
theorem e_dlen {α : Type} {xs : List α} {k : α → Key} {R : α → RP} {H0 : Hp} (m : Stable R) (h : EvR T te σ H (isKD H0 xs k R)) : EvR T (tCB (fun xs H Q => ∃ a kvs, xs = [V.ref a] ∧ H a = some (.dK kvs) ∧ Q (.int kvs.length) H) (tCons te tNil)) σ H (isT (.num (xs.length : Int))) := e_cb (a_any h) fun vs H1 _ p Q q => by
  obtain ⟨v, rfl, a, rfl, _, kvs, h1, h2, _⟩ := p
  have e : kvs.length = xs.length := by have := congrArg List.length h2; rwa [List.length_map, List.length_map] at this
  exact ⟨a, kvs, rfl, h1, by rw [e]; exact q _ H1 (Ext.refl H1) (.int _)⟩
/-- k in d -/
theorem e_din {α : Type} {xs : List α} {k : α → Key} {R : α → RP} {y : V} {j : Key} {b : Bool} (hy : y = kV j) (h : EvR T ta σ H (isV y)) (hb : EvR T tb σ H (isV (.ref a))) (m : Stable R) (hd : KD H a xs k R) (hj : b = true ↔ ∃ x ∈ xs, k x = j) : EvR T (tDIn ta tb) σ H (isB b) := fun H1 x1 Q q =>
  h H1 x1 _ fun v H2 x2 e => hb H2 (x1.trans x2) _ fun u H3 x3 e2 => by
    obtain rfl : v = y := e
    obtain rfl : u = .ref a := e2
    obtain ⟨kvs, k1, k2, k3⟩ := ((x1.trans x2).trans x3).kd m hd (by simp)
    refine ⟨a, valV kvs j, rfl, .inl ⟨kvs, j, .inl k1, hy, rfl⟩, ?_⟩
    rcases kd_val (xs := xs) k2 k3 j with ⟨e1, e2⟩ | ⟨v, x, e1, e2, e3, _⟩
    · rw [e1]
      refine q _ H3 (x2.trans x3) ?_
      have hb0 : b = false := by
        cases hb : b with
        | false => rfl
        | true =>
          obtain ⟨x, hx, e⟩ := hj.mp hb
          exact absurd e (e2 x hx)
      rw [hb0]
      rfl
    · rw [e1]
      refine q _ H3 (x2.trans x3) ?_
      rw [hj.mpr ⟨x, e2, e3⟩]
      rfl
theorem e_dnotin {α : Type} {xs : List α} {k : α → Key} {R : α → RP} {y : V} {j : Key} {b : Bool} (hy : y = kV j) (h : EvR T ta σ H (isV y)) (hb : EvR T tb σ H (isV (.ref a))) (m : Stable R) (hd : KD H a xs k R) (hj : b = true ↔ ∃ x ∈ xs, k x = j) : EvR T (tDNotIn ta tb) σ H (isB (!b)) := fun H1 x1 Q q =>
  h H1 x1 _ fun v H2 x2 e => hb H2 (x1.trans x2) _ fun u H3 x3 e2 => by
    obtain rfl : v = y := e
    obtain rfl : u = .ref a := e2
    obtain ⟨kvs, k1, k2, k3⟩ := ((x1.trans x2).trans x3).kd m hd (by simp)
    refine ⟨a, valV kvs j, rfl, .inl ⟨kvs, j, .inl k1, hy, rfl⟩, ?_⟩
    rcases kd_val (xs := xs) k2 k3 j with ⟨e1, e2⟩ | ⟨v, x, e1, e2, e3, _⟩
    · rw [e1]
      refine q _ H3 (x2.trans x3) ?_
      have hb0 : b = false := by
        cases hb : b with
        | false => rfl
        | true =>
          obtain ⟨x, hx, e⟩ := hj.mp hb
          exact absurd e (e2 x hx)
      rw [hb0]
      rfl
    · rw [e1]
      refine q _ H3 (x2.trans x3) ?_
      rw [hj.mpr ⟨x, e2, e3⟩]
      rfl
/-- d[k], k there -/
theorem e_dgetK {α : Type} {xs : List α} {k : α → Key} {R : α → RP} {y : V} {j : Key} (hy : y = kV j) (hb : EvR T tb σ H (isV (.ref a))) (h : EvR T ta σ H (isV y)) (m : Stable R) (hd : KD H a xs k R) (hj : j ∈ xs.map k) {R' : RP} (hR : ∀ x ∈ xs, k x = j → ∀ v H1, Ext T [] H H1 → R x v H1 → R' v H1) : EvR T (tDGet tb ta) σ H R' := fun H1 x1 Q q =>
  hb H1 x1 _ fun u H2 x2 e2 => h H2 (x1.trans x2) _ fun v H3 x3 e => by
    obtain rfl : v = y := e
    obtain rfl : u = .ref a := e2
    obtain ⟨kvs, k1, k2, k3⟩ := ((x1.trans x2).trans x3).kd m hd (by simp)
    rcases kd_val (xs := xs) k2 k3 j with ⟨e1, e2⟩ | ⟨v, x, e1, e2, e3, r⟩
    · obtain ⟨x, hx, e⟩ := List.mem_map.mp hj
      exact absurd e (e2 x hx)
    · exact ⟨a, v, rfl, .inl ⟨kvs, j, .inl k1, hy, e1.symm⟩, q v H3 (x2.trans x3) (hR x e2 e3 v H3 ((x1.trans x2).trans x3) r)⟩
end
end Sf

set_option Elab.async false
set_option linter.all false
set_option maxRecDepth 100000
set_option maxHeartbeats 4000000
/-! A dict comprehension stored under a name (after the hand layer's rule for lists). -/
namespace Sf
open PySem PySem.Spec PyProof.Rows L2 LamX
section
variable {X : Cx}
theorem ps_setDc {i : Nat} {y : Str} {py : Pos} {kx vx tg iter : Expr} {ifs : List Expr} {scope : Scope} {own : List (Str × Nat)} {pos spos : Pos} {wi : TI} {g : TG} {tt : TT} {tk tv : TE} (hc : X.calm = true) (hN : X.N.Nodup) (hy : X.N[i]? = some y) (hyl : X.env.scope.names.lookup y = some .local)
    (hsw : swapsWith (.DictComp kx vx [⟨tg, iter, ifs, 0⟩] scope pos) (some (.Name y py)) spos.line X.env = pure true) (hi : PI X tg iter wi) (ok : BlkOk X.N X.env.scope scope own)
    (hg : ∀ (s : Shared) (H : Hp) (C : Addr) (cl : List (Str × Addr)) (fp : List Addr), PG (X.blk s H scope (compEnvC scope cl C X.env) fp) tg g) (ht : ∀ (s : Shared) (H : Hp) (C : Addr) (cl : List (Str × Addr)) (fp : List Addr), PTs (X.blk s H scope (compEnvC scope cl C X.env) fp) ifs tt)
    (hk : ∀ (s : Shared) (H : Hp) (C : Addr) (cl : List (Str × Addr)) (fp : List Addr), PE (X.blk s H scope (compEnvC scope cl C X.env) fp) kx tk)
    (he : ∀ (s : Shared) (H : Hp) (C : Addr) (cl : List (Str × Addr)) (fp : List Addr), PE (X.blk s H scope (compEnvC scope cl C X.env) fp) vx tv) (hs : ∀ x, foldedSetIterable iter X.env x = pure x := by intro _; rfl) :
    PS X (.Assign [.Name y py] (.DictComp kx vx [⟨tg, iter, ifs, 0⟩] scope pos) spos) (tAsg (tDc wi g tt tk tv (own.map (·.2))) (gName i)) := by
  refine ⟨fun pins s σ H D I h => ?_⟩
  rw [exec_Assign_Name_used _ _ _ _ hsw]
  refine wpAny_bind (wpAny_standAt (wpAny_bind ?_))
  show wpAny _ X.A (do let _ ← comprehension (.DictComp kx vx [⟨tg, iter, ifs, 0⟩] scope pos) scope X.env (firstIterPos [⟨tg, iter, ifs, 0⟩] pos) newDict false (eval iter X.env) (some (assign (.Name y py) X.env))) _ _ s
  have h : tDc wi g tt tk tv (own.map (·.2)) σ H (fun x H1 => gName i x σ H1 D.nx) := h
  refine wpAny_bind (thn (dc_core (Qf := fun _ s' => SP X pins D .next s') hc hN I hi ok hg ht hk he hs h fun L C s' m H' I' q hn f => ?_) fun _ s' hq => wpAny_pure (wpAny_pure hq))
  show wpAny _ _ (assign (.Name y py) X.env (.ref L)) _ _ _
  refine wpAny_assign_Name (store_ok2 (v := V.ref L) I' hN hy (.inl hyl) rfl (fun s2 I2 ⟨a, sb, ha⟩ => ?_) (.inr hyl))
  obtain ⟨f0, f1, f2, f3, f4, f5⟩ := f
  have haC : C ≠ a := by
    rcases ha with z | z
    · rw [z]; exact f1
    · exact fun e => f4 y a z e.symm
  refine ⟨m, hn.sameBut sb haC, fun h3 sb3 => ?_⟩
  exact ⟨_, H', I2.turned (t' := s2.toks) (fun b o hb e => (sb3.2 b hb).trans e) f0 f1 f3 f4 f5, q⟩
theorem sw_trueD {kx vx : Expr} {gs : List Comprehension} {scope : Scope} {pos py : Pos} {y : Str} {l : Nat} {env : Env} (hk : env.scope.kind = .function) (hy : env.scope.names.lookup y = some .local) (hl : (py.line == pos.line) = true)
    (ha : (scope.names.any fun (n, k) => n == y && (k == .local || k == .cell)) = false) : swapsWith (.DictComp kx vx gs scope pos) (some (.Name y py)) l env = pure true := by
  have ky : env.kindOf y = some .local := hy
  have hb : env.blockKind = .function := by unfold Env.blockKind; rw [hk]; rfl
  unfold swapsWith
  simp only [hb, ky, ha, Expr.pos, hl]
  rfl
end
end Sf

set_option Elab.async false
set_option linter.all false
set_option maxRecDepth 100000
set_option maxHeartbeats 4000000
/-! fields, is_act, as_phrase, as_phrases, need_phrases, check_phrases. -/
namespace Sf
open PySem L2 LamX
/-- a method of the class at C -/
structure AtM (P : Program) (w : World) (K : PySem.W.Frag) (mg : Str → Option Value) (base : Heap) (C : Addr) (k : Nat) (m : Str) (ps : List Str) (sp : Sp) : Prop where
  cls : Cls K C
  ex : ∃ (f : Addr) (fd : FuncData), Meth K C m f ∧ Binds K fd ps [] ∧ FnOk P w K mg base CX0 k f fd ps sp
section
variable {X : Cx} {C : Addr}
theorem pe_mth0 {k : Nat} {m : Str} {ps : List Str} {sp : Sp} {o : Expr} {ta : TE} {apos pos : Pos} {pl : Sem Bool} (A : AtM X.prog X.w X.K X.mg X.base C k m ps sp) (hr : Room k X.A) (he : PE X o ta)
    (ht : eval (.Call (.Attribute o m apos) [] [] pos) X.env = (do
      let ov ← eval o X.env
      standAt apos.atName
      let (f, first) ← holding [ov] (getMethod ov m pl)
      callWith pos f first (backTo pos (starEach [] X.env)) (backToKw pos (keywordEach [] X.env))) := by rfl) : PE X (.Call (.Attribute o m apos) [] [] pos) (tMeth C m sp [] E0 ta tNil) := by
  obtain ⟨f, fd, h1, h2, h3⟩ := A.ex
  exact pe_meth0 he A.cls h1 h3 hr h2 .nil pass0 ht
end
/-! ### dict comprehensions over tuples, whose keys are the tuple's own things -/
section
variable {T : List Tab} {P : Program} {w : World} {K : PySem.W.Frag} {σ : L2.St} {H : Hp} {tl tk tv te : TE} {g : TG}
theorem ndc_any {J : It} {n : Nat} {G : Hp → Prop} {Y : Nat → Hp → V → Hp → Prop} (wk : Walk J n G Y) {g : TG} {tt : TT} {vs : List Nat} {H1 : Hp} {D : Addr} {Qd : Hp → Prop} (Pv : Nat → Hp → Prop) (h0 : Pv 0 (upd H1 D (NDo P w D []))) (hG : ∀ i H, i ≤ n → Pv i H → G H)
    (hs : ∀ i x H H', i < n → Pv i H → Y i H x H' → g x (wipe σ vs) H' fun σ2 H2 => wipe σ2 vs = wipe σ vs ∧ tt σ2 H2 fun b H3 =>
      if b = true then tk σ2 H3 fun y H4 => tv σ2 H4 fun z H5 => ∃ ks d b, y = .ref b ∧ IsD H5 y d ∧ d.depth ≤ 8 ∧ H5 D = some (NDo P w D ks) ∧ NKeys H5 ks ∧ ks.length < sizeLine ∧ Pv (i + 1) (upd H5 D (NDo P w D (nput ks d b z))) else Pv (i + 1) H3) (hd : ∀ H, Pv n H → Qd H) :
    ∃ W : Nat → Nat → Hp → Prop, (∃ m, W 0 m (upd H1 D (NDo P w D []))) ∧ ∀ i m H, W i m H →
      (J.stop i H ∧ Qd H) ∨ (J.go i H ∧ ∃ Nx : Hp → Prop, (∀ H', Nx H' → ∃ m', m' < m ∧ W (i + 1) m' H') ∧ ∀ x H', J.yld i H x H' → g x (wipe σ vs) H' fun σ2 H2 => wipe σ2 vs = wipe σ vs ∧ tt σ2 H2 fun b H3 =>
        if b = true then tk σ2 H3 fun y H4 => tv σ2 H4 fun z H5 => ∃ ks d b, y = .ref b ∧ IsD H5 y d ∧ d.depth ≤ 8 ∧ H5 D = some (NDo P w D ks) ∧ NKeys H5 ks ∧ ks.length < sizeLine ∧ Nx (upd H5 D (NDo P w D (nput ks d b z))) else Nx H3) := by
  refine ⟨fun i m H => m = n - i ∧ i ≤ n ∧ Pv i H, ⟨n, by simp, Nat.zero_le _, h0⟩, ?_⟩
  rintro i m H ⟨rfl, hi, p⟩
  have q := hG i H hi p
  by_cases hlt : i < n
  · refine .inr ⟨wk.goes i H hlt q, Pv (i + 1), fun H' p' => ⟨n - (i + 1), by omega, rfl, hlt, p'⟩, fun x H' y => hs i x H H' hlt p (wk.yields i H x H' hlt q y)⟩
  · have e : i = n := by omega
    subst e
    exact .inl ⟨wk.stops H q, hd H p⟩
/-- {x: True for x in t}, all unlike -/
theorem c_nself {ds : List D} {v : V} {vs : List Nat} {j : Nat} (h : EvR T tl σ H (isT (.tup ds))) (hz : ds.length ≤ 50000) (hn : ds.Nodup) (hds : ∀ d ∈ ds, (∃ es, d = .tup es) ∧ d.depth ≤ 8) (hw : ∀ x, wipe ((wipe σ vs).set j (some x)) vs = wipe σ vs) (hj : ∀ x, ((wipe σ vs).set j (some x))[j]? = some (some x)) :
    EvR T (tNDc P w (iTup K tl) (gName j) tYes (tVar j) (tC v) vs) σ H (fun v H2 => ∃ a, v = .ref a ∧ H a = none ∧ NS P w H2 a ds) := fun H1 xa Q q => h H1 xa _ fun v0 H2 x2 r => by
  obtain ⟨a, us, rfl, ha, hu⟩ := r.tup_inv
  refine ⟨a, rfl, ⟨us, SqT.of ha⟩, fun L hL => ?_⟩
  refine ndc_any (walk_tup (K := K) (a := a) (xs := us)) (fun i H' => Ext T [] H2 H' ∧ NS P w H' L (ds.take i)) ⟨Ext.new hL, [], upd_same, fun _ h => (nomatch h), by simp⟩
    (fun i H' _ hp => SqT.of (hp.1.tup _ _ ha)) (fun i x H' H'' hlt hp hy => ?_) fun H' hp => ?_
  · obtain ⟨rfl, hi⟩ := hy
    obtain ⟨e, hs⟩ := hp
    obtain ⟨d, hd, hxd⟩ := hu.getV hi
    obtain ⟨⟨es, hes⟩, hdep⟩ := hds d (List.mem_of_getElem? hd)
    have hxd' := IsD.mono e.tup hxd
    have htk : ds.take (i + 1) = ds.take i ++ [d] := by rw [List.take_add_one, hd]; rfl
    have hnew : d ∉ ds.take i := by
      have hsub : (ds.take (i + 1)).Nodup := hn.sublist (List.take_sublist _ _)
      rw [htk, List.nodup_append] at hsub
      exact fun z => hsub.2.2 _ z _ (by simp) rfl
    refine ⟨hw x, ?_⟩
    unfold tYes
    dsimp only
    rw [if_pos rfl]
    refine ⟨x, hj x, ?_⟩
    show ∃ ks d b, _
    obtain ⟨b, _, rfl, _⟩ := (hes ▸ hxd').tup_inv
    obtain ⟨ks, h1, h2, h3⟩ := hs
    have hl : ks.length < 100000 := by
      rw [← List.length_map (as := ks) (f := fun k => k.1), h3, List.length_take]
      omega
    refine ⟨ks, d, b, rfl, hxd', hdep, h1, h2, sz' hl, e.put (.inl hL) h1 noTab_nd, nput ks d b v, upd_same, ?_, ?_⟩
    · exact (nput_nkeys h2 hxd' hdep).mono (tex_put h1 noTab_nd)
    · rw [nput_keys, h3, addK_new hnew, htk]
  · obtain ⟨e, hs⟩ := hp
    rw [hu.length, List.take_length] at hs
    exact q _ H' (x2.trans e) ⟨L, rfl, xa.free _ (x2.free _ hL), hs⟩
end
abbrev S_fields : Stmt := inClass (topS 51) 2
abbrev N_fields : List Str := ["self"]
abbrev P_fields : List Str := ["self"]
theorem sc_fields : FnScope N_fields P_fields (defScope S_fields) := ⟨rfl, rfl, rfl, by decide +kernel, rfl, by decide +kernel, by decide +kernel⟩
abbrev S_is_act : Stmt := topS 9
abbrev N_is_act : List Str := ["form", "value", "part", "values", "field", "told"]
abbrev P_is_act : List Str := ["form", "value"]
theorem sc_is_act : FnScope N_is_act P_is_act (defScope S_is_act) := ⟨rfl, rfl, rfl, by decide +kernel, rfl, by decide +kernel, by decide +kernel⟩
abbrev S_as_phrase : Stmt := topS 10
abbrev N_as_phrase : List Str := ["form", "value", "words", "act"]
abbrev P_as_phrase : List Str := ["form", "value"]
theorem sc_as_phrase : FnScope N_as_phrase P_as_phrase (defScope S_as_phrase) := ⟨rfl, rfl, rfl, by decide +kernel, rfl, by decide +kernel, by decide +kernel⟩
abbrev S_as_phrases : Stmt := topS 11
abbrev N_as_phrases : List Str := ["form", "value", "found", "one"]
abbrev P_as_phrases : List Str := ["form", "value"]
theorem sc_as_phrases : FnScope N_as_phrases P_as_phrases (defScope S_as_phrases) := ⟨rfl, rfl, rfl, by decide +kernel, rfl, by decide +kernel, by decide +kernel⟩
abbrev S_need_phrases : Stmt := topS 19
abbrev N_need_phrases : List Str := ["form", "phrases", "at", "found"]
abbrev P_need_phrases : List Str := ["form", "phrases", "at"]
theorem sc_need_phrases : FnScope N_need_phrases P_need_phrases (defScope S_need_phrases) := ⟨rfl, rfl, rfl, by decide +kernel, rfl, by decide +kernel, by decide +kernel⟩
abbrev S_check_phrases : Stmt := topS 20
abbrev N_check_phrases : List Str := ["form", "phrases"]
abbrev P_check_phrases : List Str := ["form", "phrases"]
theorem sc_check_phrases : FnScope N_check_phrases P_check_phrases (defScope S_check_phrases) := ⟨rfl, rfl, rfl, by decide +kernel, rfl, by decide +kernel, by decide +kernel⟩
def cFields (C : Addr) : List V → Hp → RP → Prop := fun vs H R => ∃ v fs, vs = [v] ∧ isForm C fs v H ∧ R = isT (eFs fs)
def cIsAct (C : Addr) : List V → Hp → RP → Prop := fun vs H R => ∃ (v1 v2 : V) (fs : List Fd) (act : Tx), vs = [v1, v2] ∧ isForm C fs v1 H ∧ IsD H v2 (eT act) ∧ (fs.map (·.1)).Nodup ∧ fs.length ≤ 6 ∧ (∀ f ∈ fs, f.2.length ≤ 5) ∧ OkA fs act ∧ R = isB true
def cAsPhrase (C : Addr) : List V → Hp → RP → Prop := fun vs H R => ∃ (v1 v2 : V) (fs : List Fd) (p : Ph), vs = [v1, v2] ∧ isForm C fs v1 H ∧ IsD H v2 (eP p) ∧ (fs.map (·.1)).Nodup ∧ fs.length ≤ 6 ∧ (∀ f ∈ fs, f.2.length ≤ 5) ∧ OkP fs p ∧ R = isT (eP p)
def cAsPhrases (C : Addr) : List V → Hp → RP → Prop := fun vs H R => ∃ (v1 v2 : V) (fs : List Fd) (ps : List Ph), vs = [v1, v2] ∧ isForm C fs v1 H ∧ IsD H v2 (ePs ps) ∧ OkPs fs ps ∧ R = isT (ePs ps)
def cCheck (C : Addr) : List V → Hp → RP → Prop := fun vs H R => ∃ (v1 v2 : V) (fs : List Fd) (ps : List Ph), vs = [v1, v2] ∧ isForm C fs v1 H ∧ IsD H v2 (ePs ps) ∧ OkPs fs ps ∧ R = isV .non
section
variable {T : List Tab} {P : Program} {w : World} {K : PySem.W.Frag} {mg : Str → Option Value} {base : Heap} {C : Addr}
theorem ok_fields {f : Addr} {fd : FuncData} (F : Fun K "fields" "Form.fields" S_fields f fd) (cls : Cls K C) (na : NoAttr K C "told_fields") : FnOk P w K mg base CX0 1 f fd P_fields (SpP T (cFields C)) := by
  refine F.ok sc_fields (fun vs H Q E h => ?_) (fun cdv A outer s H vs Q E hr h => ?_)
  · obtain ⟨R, ⟨_, _, rfl, _⟩, _⟩ := h
    rfl
  · obtain ⟨R, ⟨v, fs, rfl, h1, rfl⟩, q⟩ := h
    refine ⟨_, (pss_one (ps_ret (pe_fld (pv 0) rfl))), ?_⟩
    obtain ⟨a, dx, kv, w', rfl, h1, h2, h3, h4⟩ := h1
    exact ⟨_, rfl, a, C, dx, kv, w', rfl, h1, cls, na, h2, q _ H (Ext.refl H) h3⟩

theorem e_meth0 {σ : L2.St} {H : Hp} {m : Str} {c : List V → Hp → RP → Prop} {ta : TE} {R : RP} {fs : List Fd} {E : XK} (hm : m = "fields") (h : EvR T ta σ H (isForm C fs)) (hc : ∀ v H1, Ext T [] H H1 → isForm C fs v H1 → ∃ R1, c [v] H1 R1 ∧ ∀ u H2, R1 u H2 → R u H2) : EvR T (tMeth C m (SpP T c) [] E ta tNil) σ H R := fun H1 x1 Q q =>
  h H1 x1 _ fun v H2 x2 r => by
    obtain ⟨a, dx, kv, w', rfl, k1, k2, k3, k4⟩ := id r
    obtain ⟨R1, h1, h2⟩ := hc _ H2 (x1.trans x2) r
    subst hm
    exact ⟨a, dx, kv, rfl, k1, k4, R1, h1, fun u H3 x3 r3 => q u H3 (x2.trans x3) (h2 u H3 r3)⟩
theorem e_eqI {σ : L2.St} {H : Hp} {ta tb : TE} {i j : Int} (ha : EvR T ta σ H (isT (.num i))) (hb : EvR T tb σ H (isT (.num j))) : EvR T (tOp rEq ta tb) σ H (isB (decide (i = j))) :=
  e_opT ha hb fun u w H1 _ h1 h2 Q q => by
    cases h1; cases h2
    refine ⟨rfl, ?_⟩
    have : decide (V.int i = V.int j) = decide (i = j) := decide_eq_decide.mpr ⟨fun z => by injection z, fun z => by rw [z]⟩
    rw [this]
    exact q _ H1 (Ext.refl H1) rfl
theorem e_neI {σ : L2.St} {H : Hp} {ta tb : TE} {i j : Int} (ha : EvR T ta σ H (isT (.num i))) (hb : EvR T tb σ H (isT (.num j))) : EvR T (tOp rNe ta tb) σ H (isB (!decide (i = j))) :=
  e_opT ha hb fun u w H1 _ h1 h2 Q q => by
    cases h1; cases h2
    refine ⟨rfl, ?_⟩
    have : decide (V.int i = V.int j) = decide (i = j) := decide_eq_decide.mpr ⟨fun z => by injection z, fun z => by rw [z]⟩
    rw [this]
    exact q _ H1 (Ext.refl H1) rfl
theorem nodup_inr {fs : List Fd} (h : (fs.map (·.1)).Nodup) : (fs.map fun f => (Sum.inr f.1 : Key)).Nodup := by
  have e : (fs.map fun f => (Sum.inr f.1 : Key)) = (fs.map (·.1)).map Sum.inr := by rw [List.map_map]; rfl
  rw [e]
  unfold List.Nodup at *
  rw [List.pairwise_map]
  exact h.imp fun hab e => hab (Sum.inr.inj e)
theorem name_one {fs : List Fd} (h : (fs.map (·.1)).Nodup) {f : Str} {vs : List Str} {x : Fd} (h1 : (f, vs) ∈ fs) (h2 : x ∈ fs) (e : x.1 = f) : x = (f, vs) := by
  induction fs with
  | nil => cases h1
  | cons y ys ih =>
    rw [List.map_cons, List.nodup_cons] at h
    rcases List.mem_cons.mp h1 with h1 | h1
    · rcases List.mem_cons.mp h2 with h2 | h2
      · rw [h2, h1]
      · exact absurd (List.mem_map.mpr ⟨x, h2, by rw [e, ← h1]⟩) h.1
    · rcases List.mem_cons.mp h2 with h2 | h2
      · exact absurd (List.mem_map.mpr ⟨_, h1, by rw [← h2, e]⟩) h.1
      · exact ih h.2 h1 h2
theorem ok_is_act {f : Addr} {fd : FuncData} (F : Fun K "is_act" "is_act" S_is_act f fd) (G : Gm mg) (A_fields : AtM P w K mg base C 1 "fields" P_fields (SpP T (cFields C))) : FnOk P w K mg base CX0 2 f fd P_is_act (SpP T (cIsAct C)) := by
  refine F.ok sc_is_act (fun vs H Q E h => ?_) (fun cdv A outer s H vs Q E hr h => ?_)
  · obtain ⟨R, ⟨_, _, _, _, rfl, _⟩, _⟩ := h
    rfl
  · obtain ⟨R, ⟨v1, v2, fs, act, rfl, h1, h2, hnf, hfew, hvals, hact, rfl⟩, q⟩ := h
    refine ⟨_, (pss_cons (ps_if (PW.pt (pw_or (pt_cmpR op_eq (pe_callB (lenK (K := K) rfl) (by rfl) G.n_len PySem.boot_len (pa_cons (pv 1) pa_nil)) pe_int (nomark _)) (pw_or1 (pt_not (pt_val (pe_callB (allK (K := K) rfl rfl) (by rfl) G.n_all (by decide +kernel) (pa_cons (pe_lc (own := [("part", 2)]) rfl sc_is_act.nd (pi_tupK (K := K) rfl (pv 1)) (blkOk_by (own := [("part", 2)]) (N := N_is_act) (sc := defScope S_is_act) (by decide +kernel)) (fun _ _ _ _ _ => by exact (pg_name (i := 2) sc_is_act.nd rfl (Or.inl rfl) (Or.inr rfl))) (fun _ _ _ _ _ => by exact pts_nil) (fun _ _ _ _ _ => by exact (pe_callB (isiK (K := K) rfl) (by rfl) G.n_isinstance (by decide +kernel) (pa_cons (pv 2) (pa_cons (pe_ty G.n_str PyProof.Rows.boot_str) pa_nil))))) pa_nil)))))))
      (pss_one (ps_ret pe_bl))
      pss_nil)
    (pss_cons (ps_if (pt_cmpR (inN (K := K) rfl hr.units) (pe_ix (ixT (K := K) rfl) (pv 1) pe_int (fun _ _ => rfl)) (pe_tup (pa_cons pe_str (pa_cons pe_str pa_nil))) (by rfl))
      (pss_one (ps_ret (pe_cmpR op_eq (pe_callB (lenK (K := K) rfl) (by rfl) G.n_len PySem.boot_len (pa_cons (pv 1) pa_nil)) pe_int (nomark _))))
      pss_nil)
    (pss_cons (ps_setDc (i := 3) (own := [("field", 4), ("told", 5)]) rfl sc_is_act.nd rfl rfl (sw_trueD rfl rfl rfl (by decide +kernel)) (pi_tupK (K := K) rfl (pe_mth0 A_fields (hr.mono (by decide)) (pv 0))) (blkOk_by (own := [("field", 4), ("told", 5)]) (N := N_is_act) (sc := defScope S_is_act) (by decide +kernel)) (fun _ _ _ _ _ => by exact (pg_tupK (K := K) (n := 2) rfl rfl (pgs_cons (pg_name (i := 4) sc_is_act.nd rfl (Or.inl rfl) (Or.inr rfl)) (pgs_cons (pg_name (i := 5) sc_is_act.nd rfl (Or.inl rfl) (Or.inr rfl)) pgs_nil)))) (fun _ _ _ _ _ => by exact pts_nil) (fun _ _ _ _ _ => by exact (pv 4)) (fun _ _ _ _ _ => by exact (pv 5)))
    (pss_cons (ps_if (pt_cmpR op_eq (pe_ix (ixT (K := K) rfl) (pv 1) pe_int (fun _ _ => rfl)) pe_str (nomark _))
      (pss_one (ps_ret (pe_and (pe_cmpR op_eq (pe_callB (lenK (K := K) rfl) (by rfl) G.n_len PySem.boot_len (pa_cons (pv 1) pa_nil)) pe_int (nomark _)) (pe_one (pe_cmp (pc_din (hu_of hr) (pe_ix (ixT (K := K) rfl) (pv 1) pe_int (fun _ _ => rfl)) (pv 3)))))))
      pss_nil)
    (pss_cons (ps_if (PW.pt (pw_or (pt_cmpR (notInN (K := K) rfl hr.units) (pe_ix (ixT (K := K) rfl) (pv 1) pe_int (fun _ _ => rfl)) (pe_tup (pa_cons pe_str (pa_cons pe_str pa_nil))) (by rfl)) (pw_or (pt_cmpR op_ne (pe_callB (lenK (K := K) rfl) (by rfl) G.n_len PySem.boot_len (pa_cons (pv 1) pa_nil)) pe_int (nomark _)) (pw_or1 (pt_cmp (pc_dnotin (hu_of hr) (pe_ix (ixT (K := K) rfl) (pv 1) pe_int (fun _ _ => rfl)) (pv 3)))))))
      (pss_one (ps_ret pe_bl))
      pss_nil)
    (pss_one (ps_ret (pe_cmpR (inN (K := K) rfl hr.units) (pe_ix (ixT (K := K) rfl) (pv 1) pe_int (fun _ _ => rfl)) (pe_dget (hu_of hr) (pv 3) (pe_ix (ixT (K := K) rfl) (pv 1) pe_int (fun _ _ => rfl)) (fun _ _ => rfl)) (by rfl))))))))), ?_⟩
    have hlen : 1 ≤ act.length ∧ act.length ≤ 3 := by
      rcases hact with rfl | rfl | ⟨f, vs, _, rfl⟩ | ⟨f, vs, v, _, _, rfl | rfl⟩ <;> simp
    refine s_seq (s_no (T := T) ((t_or (b := false) (c := false) ((t_test (e_eqI (e_lenT (e_t rfl h2)) e_int)).eq (decide_eq_false (by omega))) fun _ => (t_not (t_b ((e_all (f := fun _ => true) (c_tup (xs := act) (en := NestedKey.text) (RE := fun _ => isB true) (stB (f := fun _ => true)) (e_t rfl h2) (by omega) (fun _ => true) fun d hd x H3 x3 hx Q k => ?_)).eqB (c := true) (by simp)))).eq rfl).eq rfl) fun H1 x1 => ?_)
    · exact k _ rfl t_yes fun _ => e_isi (b := true) (e_t rfl hx) e_c kSS
    have i2 := x1.isT h2
    have first : ∀ {w0 : Str} {rest : Tx} {H2 : Hp} {σ : L2.St}, act = w0 :: rest → σ[1]? = some (some v2) → IsD H2 v2 (eT act) → EvR T (tOp (rIxT K) (tVar 1) (tC (.int 0))) σ H2 (isT (.text w0)) := fun ha hs h => by
      subst ha
      exact e_ix (e_t hs h) e_int rfl
    have dict : ∀ {H2 : Hp}, Ext T [] H1 H2 → EvR T (tDc (iTup K (tMeth C "fields" (SpP T (cFields C)) [] E0 (tVar 0) tNil)) (gTup K 2 (gCons (gName 4) (gCons (gName 5) gNil))) tYes (tVar 4) (tVar 5) [4, 5]) [some v1, some v2, none, none, none, none] H2 (isKD H2 fs (fun f => (Sum.inr f.1 : Key)) fun f => isT (eT f.2)) := fun {H2} x2 => by
      refine c_dict (xs := fs) (en := eF) (k := fun f => (Sum.inr f.1 : Key)) stT (e_meth0 rfl (e_form rfl (form_st _ _ _ (x1.trans x2) h1)) fun v H3 x3 r => ⟨_, ⟨v, fs, rfl, r, rfl⟩, fun _ _ r => r⟩) (by omega) (nodup_inr hnf) fun d hd x H3 x3 hx Q k => ?_
      refine g_pair hx fun u1 u2 j1 j2 => k _ rfl ?_ (e_t rfl j2)
      obtain rfl := j1.str_inv
      exact e_v rfl
    have len2 : ∀ {H2 : Hp} {σ : L2.St}, σ[1]? = some (some v2) → IsD H2 v2 (eT act) → EvR T (tCB (rLen K) (tCons (tVar 1) tNil)) σ H2 (isT (.num (act.length : Int))) := fun hs h => e_lenT (e_t hs h)
    have yn : ∀ {w0 : Str} {rest : Tx} {H2 : Hp} {σ : L2.St} {b : Bool}, act = w0 :: rest → σ[1]? = some (some v2) → IsD H2 v2 (eT act) → decide (NestedKey.text w0 ∈ [NestedKey.text "yes", NestedKey.text "no"]) = b → EvR T (tOp (rInN K false) (tOp (rIxT K) (tVar 1) (tC (.int 0))) (tTup (tCons (tC (.str "yes")) (tCons (tC (.str "no")) tNil)))) σ H2 (isB b) := fun ha hs h hb =>
      (e_inT (neg := false) (first ha hs h) (e_tup (a_cons e_str (a_one e_str)) (by show 2 ≤ 100000; decide)) (by decide)).eqB (by rw [if_neg Bool.false_ne_true]; exact hb)
    rcases hact with ha | ha | ⟨fn, vals, hf, ha⟩ | ⟨fn, vals, va, hf, hva, ha⟩
    · refine s_seq (s_if (T := T) (b := true) (t_test (yn ha rfl i2 (by decide +kernel))) (fun _ H2 x2 => ?_) fun z => nomatch z)
      refine s_ret (T := T) ((e_eqI (len2 rfl (x2.isT i2)) e_int).eqB (c := true) (by rw [ha]; rfl)) fun v H3 x3 r => q v H3 ((x1.trans x2).trans x3) r
    · refine s_seq (s_if (T := T) (b := true) (t_test (yn ha rfl i2 (by decide +kernel))) (fun _ H2 x2 => ?_) fun z => nomatch z)
      refine s_ret (T := T) ((e_eqI (len2 rfl (x2.isT i2)) e_int).eqB (c := true) (by rw [ha]; rfl)) fun v H3 x3 r => q v H3 ((x1.trans x2).trans x3) r
    · refine s_seq (s_no (T := T) (t_test (yn ha rfl i2 (by decide +kernel))) fun H2 x2 => ?_)
      refine s_seq (s_asg (T := T) (dict x2) fun ld H3 x3 rd => ?_)
      obtain ⟨d, rfl, _, hkd⟩ := rd
      have i3 := (x2.trans x3).isT i2
      refine s_seq (s_if (T := T) (b := true) (t_test ((e_eqS (first ha rfl i3) e_str).eqB (by decide +kernel))) (fun _ H4 x4 => ?_) fun z => nomatch z)
      refine s_ret (T := T) ((e_andV (b := true) (c := true) ((e_eqI (len2 rfl (x4.isT i3)) e_int).eqB (by rw [ha]; rfl)) fun _ => e_din (j := Sum.inr fn) (y := .str fn) rfl ((e_ix (i := 1) (e_t rfl (x4.isT i3)) e_int (by rw [ha]; rfl)).imp fun _ _ _ r => r.str_inv) (e_v rfl) stT (x4.kd stT hkd (by simp)) ⟨fun _ => ⟨_, hf, rfl⟩, fun _ => rfl⟩).eqB rfl) fun v H5 x5 r => q v H5 ((((x1.trans x2).trans x3).trans x4).trans x5) r
    · have hw : ∃ w0, act = [w0, fn, va] ∧ decide (NestedKey.text w0 ∈ [NestedKey.text "yes", NestedKey.text "no"]) = false ∧ decide (w0 = "drop") = false ∧ decide (NestedKey.text w0 ∈ [NestedKey.text "set", NestedKey.text "not"]) = true := by
        rcases ha with ha | ha <;> exact ⟨_, ha, by decide +kernel, by decide +kernel, by decide +kernel⟩
      obtain ⟨w0, ha, hw1, hw2, hw3⟩ := hw
      refine s_seq (s_no (T := T) (t_test (yn ha rfl i2 hw1)) fun H2 x2 => ?_)
      refine s_seq (s_asg (T := T) (dict x2) fun ld H3 x3 rd => ?_)
      obtain ⟨d, rfl, _, hkd⟩ := rd
      have i3 := (x2.trans x3).isT i2
      refine s_seq (s_no (T := T) (t_test ((e_eqS (first ha rfl i3) e_str).eqB hw2)) fun H4 x4 => ?_)
      have i4 := x4.isT i3
      have kd4 := x4.kd stT hkd (by simp)
      refine s_seq (s_no (T := T) ((t_or (b := false) (c := false) ((t_test (e_inT (neg := true) (first ha rfl i4) (e_tup (a_cons e_str (a_one e_str)) (by show 2 ≤ 100000; decide)) (by decide))).eq (by rw [if_pos rfl, hw3]; rfl)) fun _ => ((t_or (b := false) (c := false) ((t_test (e_neI (len2 rfl i4) e_int)).eq (by rw [ha]; rfl)) fun _ => (t_test (e_dnotin (b := true) (j := Sum.inr fn) (y := .str fn) rfl ((e_ix (i := 1) (e_t rfl i4) e_int (by rw [ha]; rfl)).imp fun _ _ _ r => r.str_inv) (e_v rfl) stT kd4 ⟨fun _ => ⟨_, hf, rfl⟩, fun _ => rfl⟩)).eq rfl).eq rfl)).eq rfl) fun H5 x5 => ?_)
      have i5 := x5.isT i4
      refine s_ret (T := T) ((e_inT (neg := false) (ds := vals.map .text) (e_ix (i := 2) (e_t rfl i5) e_int (by rw [ha]; rfl)) (e_dgetK (j := Sum.inr fn) (y := .str fn) rfl (e_v rfl) ((e_ix (i := 1) (e_t rfl i5) e_int (by rw [ha]; rfl)).imp fun _ _ _ r => r.str_inv) stT (x5.kd stT kd4 (by simp)) (List.mem_map.mpr ⟨_, hf, rfl⟩) fun x hx e v H6 x6 r => ?_) (by rw [text_depth]; omega)).eqB (c := true) ?_) fun v H6 x6 r => q v H6 (((((x1.trans x2).trans x3).trans x4).trans x5).trans x6) r
      · have := name_one hnf hf hx (Sum.inr.inj e)
        rw [this] at r
        exact r
      · rw [if_neg Bool.false_ne_true]
        exact decide_eq_true (List.mem_map.mpr ⟨va, hva, rfl⟩)

theorem e_nlenR {σ : L2.St} {H H0 : Hp} {te : TE} {l : List D} (h : EvR T te σ H (fun v H2 => ∃ a, v = .ref a ∧ H0 a = none ∧ NS P w H2 a l)) : EvR T (tCB (rNLen P w) (tCons te tNil)) σ H (isT (.num (l.length : Int))) := e_cb (a_any h) fun vs H1 x1 p Q q => by
  obtain ⟨v, rfl, a, rfl, _, hs⟩ := p
  obtain ⟨kvs, n1, _, n3⟩ := hs.at (ks := [])
  refine ⟨a, kvs, rfl, n1, ?_⟩
  rw [n3]
  exact q _ H1 (Ext.refl H1) (.int _)
theorem ePs_depth (ps : List Ph) : NestedKey.depthAll (ps.map eP) ≤ 3 := depth_le fun d hd => by
  obtain ⟨p, _, rfl⟩ := List.mem_map.mp hd
  show NestedKey.depthAll [.text _, eT p.2] + 1 ≤ 3
  show max 0 (max (eT p.2).depth 0) + 1 ≤ 3
  rw [eT_depth]
  decide
theorem eP_inj {p r : Ph} (hp : OkT p.1) (hr : OkT r.1) (h : eP p = eP r) : p = r := by
  obtain ⟨p1, p2⟩ := p
  obtain ⟨r1, r2⟩ := r
  injection h with h
  injection h with h1 h
  injection h with h2 _
  injection h1 with h1
  have e1 : p1 = r1 := joinW_inj hp.ne hr.ne hp.ok hr.ok h1
  have e2 : p2 = r2 := eT_inj h2
  rw [e1, e2]
theorem ePs_nodup : ∀ {ps : List Ph}, (∀ p ∈ ps, OkT p.1) → ps.Nodup → (ps.map eP).Nodup
  | [], _, _ => by simp
  | p :: ps, hok, hn => by
    rw [List.map_cons, List.nodup_cons]
    rw [List.nodup_cons] at hn
    refine ⟨fun z => ?_, ePs_nodup (fun x hx => hok x (List.mem_cons_of_mem _ hx)) hn.2⟩
    obtain ⟨r, hr, e⟩ := List.mem_map.mp z
    have := eP_inj (hok r (List.mem_cons_of_mem _ hr)) (hok p List.mem_cons_self) e
    subst this
    exact hn.1 hr
theorem ok_as_phrase {f : Addr} {fd : FuncData} (F : Fun K "as_phrase" "as_phrase" S_as_phrase f fd) (G : Gm mg) (A_is_sequence : At P w K mg base 1 "is_sequence" P_is_sequence (SpP T cIsSeq)) (A_words_of : At P w K mg base 2 "words_of" P_words_of (SpP T cWordsOf))
    (A_is_act : At P w K mg base 2 "is_act" P_is_act (SpP T (cIsAct C))) : FnOk P w K mg base CX0 3 f fd P_as_phrase (SpP T (cAsPhrase C)) := by
  refine F.ok sc_as_phrase (fun vs H Q E h => ?_) (fun cdv A outer s H vs Q E hr h => ?_)
  · obtain ⟨R, ⟨_, _, _, _, rfl, _⟩, _⟩ := h
    rfl
  · obtain ⟨R, ⟨v1, v2, fs, p, rfl, h1, h2, hnf, hfew, hvals, hp, rfl⟩, q⟩ := h
    refine ⟨_, (pss_cons (ps_if (PW.pt (pw_or (pt_not (pt_val (pe_fn A_is_sequence (hr.mono (by decide)) (pa_cons (pv 1) pa_nil)))) (pw_or (pt_cmpR op_ne (pe_callB (lenK (K := K) rfl) (by rfl) G.n_len PySem.boot_len (pa_cons (pv 1) pa_nil)) pe_int (nomark _)) (pw_or1 (pt_not (pt_val (pe_fn A_is_sequence (hr.mono (by decide)) (pa_cons (pe_ix (ixT (K := K) rfl) (pv 1) pe_int (fun _ _ => rfl)) pa_nil))))))))
      (pss_one (ps_ret pe_non))
      pss_nil)
    (pss_cons (ps_set (i := 2) sc_as_phrase.nd rfl (Or.inl rfl) (pe_fn A_words_of (hr.mono (by decide)) (pa_cons (pe_ix (ixT (K := K) rfl) (pv 1) pe_int (fun _ _ => rfl)) pa_nil)))
    (pss_cons (ps_set (i := 3) sc_as_phrase.nd rfl (Or.inl rfl) (pe_callTy (tupOfK (K := K) rfl) (by rfl) G.n_tuple (by decide +kernel) (pa_cons (pe_ix (ixT (K := K) rfl) (pv 1) pe_int (fun _ _ => rfl)) pa_nil)))
    (pss_cons (ps_if (PW.pt (pw_or (pt_cmp (pc_isN (pv 2))) (pw_or (pt_cmpR op_gt (pe_callB (lenK (K := K) rfl) (by rfl) G.n_len PySem.boot_len (pa_cons (pv 2) pa_nil)) (pe_gi G.c_MOST_WORDS) (nomark _)) (pw_or1 (pt_not (pt_val (pe_fn A_is_act (hr.mono (by decide)) (pa_cons (pv 0) (pa_cons (pv 3) pa_nil)))))))))
      (pss_one (ps_ret pe_non))
      pss_nil)
    (pss_one (ps_ret (pe_tup (pa_cons (pe_ix (ixT (K := K) rfl) (pv 1) pe_int (fun _ _ => rfl)) (pa_cons (pv 3) pa_nil))))))))), ?_⟩
    have hsix := hp.six
    have seq : ∀ {σ : L2.St} {H2 : Hp} {te : TE} {ds : List D} {E : XK}, EvR T te σ H2 (isT (.tup ds)) → EvR T (tCall (SpP T cIsSeq) [] E (tCons te tNil)) σ H2 (isB true) := fun h => e_fn (a_any h) fun vs H4 x4 hp => by
      obtain ⟨u, rfl, hu⟩ := hp
      exact ⟨_, ⟨u, _, rfl, hu, rfl⟩, fun _ _ r => r⟩
    refine s_seq (s_no (T := T) ((t_or (b := false) (c := false) ((t_not (t_b (seq (e_t rfl h2)))).eq rfl) fun _ => ((t_or (b := false) (c := false) ((t_test (e_neI (e_len (e_t rfl h2)) e_int)).eq rfl) fun _ => (t_not (t_b (seq (ds := p.2.map .text) (e_ix (i := 1) (e_t rfl h2) e_int rfl)))).eq rfl).eq rfl)).eq rfl) fun H1 x1 => ?_)
    have i2 := x1.isT h2
    refine s_seq (s_asg (T := T) (R := isT (eT p.1)) (e_fn (a_one (e_ix (i := 0) (e_t rfl i2) e_int rfl)) fun vs H2 x2 hv => ?_) fun vw H2 x2 r2 => ?_)
    · cases hv with
      | cons hv hn =>
        cases hn
        obtain rfl := hv.str_inv
        exact ⟨_, ⟨p.1, rfl, hp.text, rfl⟩, fun _ _ r => r⟩
    refine s_seq (s_asg (T := T) (R := isT (eT p.2)) (e_tupTup (e_ix (i := 1) (e_t rfl (x2.isT i2)) e_int rfl)) fun va H3 x3 r3 => ?_)
    have x123 := (x1.trans x2).trans x3
    have hne : vw ≠ .non := by
      obtain ⟨a, vs, rfl, _⟩ := r2.tup_inv
      exact fun z => nomatch z
    refine s_seq (s_no (T := T) ((t_or (b := false) (c := false) ((t_test (e_isN (e_v rfl))).eq (decide_eq_false hne)) fun _ => ((t_or (b := false) (c := false) ((t_test (e_I0 (e_lenT (e_t rfl (x3.isT r2))) e_int).bool).eq (decide_eq_false (by omega))) fun _ => (t_not (t_b (e_fn (R := isB true) (a_consR (e_form rfl (form_st _ _ _ x123 h1)) form_st (a_one (e_t rfl r3))) fun vs H4 x4 hv => ?_))).eq rfl).eq rfl)).eq rfl) fun H4 x4 => ?_)
    · obtain ⟨u, us, rfl, hu, hus⟩ := hv
      cases hus with
      | cons hv hn =>
        cases hn
        exact ⟨_, ⟨u, _, fs, p.2, rfl, hu, hv, hnf, hfew, hvals, hp.act, rfl⟩, fun _ _ r => r⟩
    · refine s_ret (T := T) (R := isT (eP p)) (e_two (e_ix (i := 0) (e_t rfl ((x123.trans x4).isT h2)) e_int rfl) (e_t rfl (x4.isT r3))) fun v H5 x5 r => q v H5 ((x123.trans x4).trans x5) r
theorem ok_as_phrases {f : Addr} {fd : FuncData} (F : Fun K "as_phrases" "as_phrases" S_as_phrases f fd) (G : Gm mg) (A_is_sequence : At P w K mg base 1 "is_sequence" P_is_sequence (SpP T cIsSeq)) (A_as_phrase : At P w K mg base 3 "as_phrase" P_as_phrase (SpP T (cAsPhrase C))) : FnOk P w K mg base CX0 4 f fd P_as_phrases (SpP T (cAsPhrases C)) := by
  refine F.ok sc_as_phrases (fun vs H Q E h => ?_) (fun cdv A outer s H vs Q E hr h => ?_)
  · obtain ⟨R, ⟨_, _, _, _, rfl, _⟩, _⟩ := h
    rfl
  · obtain ⟨R, ⟨v1, v2, fs, ps, rfl, h1, h2, hps, rfl⟩, q⟩ := h
    refine ⟨_, (pss_cons (ps_if (PW.pt (pw_or (pt_not (pt_val (pe_fn A_is_sequence (hr.mono (by decide)) (pa_cons (pv 1) pa_nil)))) (pw_or1 (pt_not (pt_chain op_le op_le pe_int (pe_callB (lenK (K := K) rfl) (by rfl) G.n_len PySem.boot_len (pa_cons (pv 1) pa_nil)) (pe_gi G.c_MOST_PHRASES))))))
      (pss_one (ps_ret pe_non))
      pss_nil)
    (pss_cons (ps_set (i := 2) sc_as_phrases.nd rfl (Or.inl rfl) (pe_callTy (tupOfK (K := K) rfl) (by rfl) G.n_tuple (by decide +kernel) (pa_cons (pe_lc (own := [("one", 3)]) rfl sc_as_phrases.nd (pi_tupK (K := K) rfl (pv 1)) (blkOk_by (own := [("one", 3)]) (N := N_as_phrases) (sc := defScope S_as_phrases) (by decide +kernel)) (fun _ _ _ _ _ => by exact (pg_name (i := 3) sc_as_phrases.nd rfl (Or.inl rfl) (Or.inr rfl))) (fun _ _ _ _ _ => by exact pts_nil) (fun _ _ _ _ _ => by exact (pe_fn A_as_phrase (hr.mono (by decide)) (pa_cons (pv 0) (pa_cons (pv 3) pa_nil))))) pa_nil)))
    (pss_cons (ps_if (PW.pt (pw_or (pt_cmpR (inN (K := K) rfl hr.units) pe_non (pv 2) (by rfl)) (pw_or1 (pt_cmpR op_lt (pe_callB call_nlen (by rfl) G.n_len PySem.boot_len (pa_cons (pe_ndc hr.units (own := [("one", 3)]) rfl sc_as_phrases.nd (pi_tupK (K := K) rfl (pv 2)) (blkOk_by (own := [("one", 3)]) (N := N_as_phrases) (sc := defScope S_as_phrases) (by decide +kernel)) (fun _ _ _ _ _ => by exact (pg_name (i := 3) sc_as_phrases.nd rfl (Or.inl rfl) (Or.inr rfl))) (fun _ _ _ _ _ => by exact pts_nil) (fun _ _ _ _ _ => by exact (pv 3)) (fun _ _ _ _ _ => by exact pe_bl)) pa_nil)) (pe_callB (lenK (K := K) rfl) (by rfl) G.n_len PySem.boot_len (pa_cons (pv 2) pa_nil)) (nomark _)))))
      (pss_one (ps_ret pe_non))
      pss_nil)
    (pss_one (ps_ret (pv 2)))))), ?_⟩
    have hlo := hps.lo
    have hhi := hps.hi
    have hlen : (ps.map eP).length = ps.length := List.length_map ..
    refine s_seq (s_no (T := T) ((t_or (b := false) (c := false) ((t_not (t_b (e_fn (R := isB true) (a_one (e_t rfl h2)) fun vs H4 x4 hp => ?_))).eq rfl) fun _ => (t_not (t_b (e_chain e_int (e_len (e_t rfl h2)) e_int))).eq ?_).eq rfl) fun H1 x1 => ?_)
    · cases hp with
      | cons hv hn =>
        cases hn
        exact ⟨_, ⟨_, _, rfl, hv, rfl⟩, fun _ _ r => r⟩
    · rw [decide_eq_true (show (1 : Int) ≤ ((ps.map eP).length : Int) by omega), decide_eq_true (show ((ps.map eP).length : Int) ≤ 60 by omega)]
      rfl
    refine s_seq (s_asg (T := T) (R := isT (ePs ps)) (e_tupOf (EvR.imp (c_tup (xs := ps) (en := eP) (RE := fun p => isT (eP p)) stT (e_t rfl (x1.isT h2)) (by omega) (fun _ => true) fun p hp x H2 x2 hx Q k => ?_) fun v H2 _ r => ?_)) fun vf H2 x2 r2 => ?_)
    · refine k _ rfl t_yes fun _ => e_fn (a_consR (e_form rfl (form_st _ _ _ (x1.trans x2) h1)) form_st (a_one (e_t rfl hx))) fun vs H3 x3 hv => ?_
      obtain ⟨u, us, rfl, hu, hus⟩ := hv
      cases hus with
      | cons hv hn =>
        cases hn
        exact ⟨_, ⟨u, _, fs, p, rfl, hu, hv, hps.nf, hps.few, hps.vals, hps.ok p hp, rfl⟩, fun _ _ r => r⟩
    · rw [List.filter_eq_self.mpr fun _ _ => rfl] at r
      exact (isEach.ln r).l
    have hdep := ePs_depth ps
    refine s_seq (s_no (T := T) ((t_or (b := false) (c := false) ((t_test (e_inT (neg := false) e_non (e_t rfl r2) (by omega))).eq ?_) fun _ => (t_test (e_I0 (e_nlenR (H0 := H2) (c_nself (e_t rfl r2) (by omega) (ePs_nodup (fun p hp => (hps.ok p hp).text) hps.nd) (fun d hd => ?_) (fun _ => rfl) fun _ => rfl)) (e_len (e_t rfl r2))).bool).eq (decide_eq_false (by omega))).eq rfl) fun H3 x3 => ?_)
    · rw [if_neg Bool.false_ne_true]
      refine decide_eq_false fun z => ?_
      obtain ⟨p, _, e⟩ := List.mem_map.mp z
      cases e
    · obtain ⟨p, hp, rfl⟩ := List.mem_map.mp hd
      exact ⟨⟨_, rfl⟩, Nat.le_trans (depth_mem (List.mem_map.mpr ⟨p, hp, rfl⟩)) (by omega)⟩
    · exact s_ret (T := T) (e_t rfl (x3.isT r2)) fun v H4 x4 r => q v H4 (((x1.trans x2).trans x3).trans x4) r
theorem ok_need_phrases {f : Addr} {fd : FuncData} (F : Fun K "need_phrases" "need_phrases" S_need_phrases f fd) (G : Gm mg) (A_as_phrases : At P w K mg base 4 "as_phrases" P_as_phrases (SpP T (cAsPhrases C))) : FnOk P w K mg base CX0 5 f fd P_need_phrases (SpP T (cNeed C)) := by
  refine F.ok sc_need_phrases (fun vs H Q E h => ?_) (fun cdv A outer s H vs Q E hr h => ?_)
  · obtain ⟨R, ⟨_, _, _, _, _, rfl, _⟩, _⟩ := h
    rfl
  · obtain ⟨R, ⟨v1, v2, v3, fs, ps, rfl, h1, h2, hps, rfl⟩, q⟩ := h
    refine ⟨_, (pss_cons (ps_set (i := 3) sc_need_phrases.nd rfl (Or.inl rfl) (pe_fn A_as_phrases (hr.mono (by decide)) (pa_cons (pv 0) (pa_cons (pv 1) pa_nil))))
    (pss_cons (ps_if (pt_cmp (pc_isN (pv 3)))
      (pss_one ps_never)
      pss_nil)
    (pss_one (ps_ret (pv 3))))), ?_⟩
    refine s_seq (s_asg (T := T) (R := isT (ePs ps)) (e_fn (a_consR (e_form rfl h1) form_st (a_one (e_t rfl h2))) fun vs H2 x2 hv => ?_) fun vf H1 x1 r1 => ?_)
    · obtain ⟨u, us, rfl, hu, hus⟩ := hv
      cases hus with
      | cons hv hn =>
        cases hn
        exact ⟨_, ⟨u, _, fs, ps, rfl, hu, hv, hps, rfl⟩, fun _ _ r => r⟩
    have hne : vf ≠ .non := by
      obtain ⟨a, vs, rfl, _⟩ := r1.tup_inv
      exact fun z => nomatch z
    refine s_seq (s_no (T := T) ((t_test (e_isN (e_v rfl))).eq (decide_eq_false hne)) fun H2 x2 => ?_)
    exact s_ret (T := T) (e_t rfl (x2.isT r1)) fun v H3 x3 r => q v H3 ((x1.trans x2).trans x3) r
theorem ok_check_phrases {f : Addr} {fd : FuncData} (F : Fun K "check_phrases" "check_phrases" S_check_phrases f fd) (G : Gm mg) (A_need_phrases : At P w K mg base 5 "need_phrases" P_need_phrases (SpP T (cNeed C))) : FnOk P w K mg base CX0 6 f fd P_check_phrases (SpP T (cCheck C)) := by
  refine F.ok sc_check_phrases (fun vs H Q E h => ?_) (fun cdv A outer s H vs Q E hr h => ?_)
  · obtain ⟨R, ⟨_, _, _, _, rfl, _⟩, _⟩ := h
    rfl
  · obtain ⟨R, ⟨v1, v2, fs, ps, rfl, h1, h2, hps, rfl⟩, q⟩ := h
    refine ⟨_, (pss_one (ps_expr (pe_fn A_need_phrases (hr.mono (by decide)) (pa_cons (pv 0) (pa_cons (pv 1) (pa_cons pe_int pa_nil)))))), ?_⟩
    refine s_drop (T := T) (R := isT (ePs ps)) (e_fn (a_consR (e_form rfl h1) form_st (a_cons (e_t rfl h2) (a_one e_int))) fun vs H2 x2 hv => ?_) fun v H1 x1 r1 => q _ H1 x1 rfl
    obtain ⟨u, us, rfl, hu, hus⟩ := hv
    cases hus with
    | cons hv hr =>
      cases hr with
      | cons hi hn =>
        cases hn
        exact ⟨_, ⟨u, _, _, fs, ps, rfl, hu, hv, hps, rfl⟩, fun _ _ r => r⟩
end
end Sf

set_option Elab.async false
set_option linter.all false
set_option maxRecDepth 100000
set_option maxHeartbeats 4000000
/-! reached_places, readings_of. -/
namespace Sf
open PySem L2 LamX
abbrev S_reached_places : Stmt := topS 24
abbrev N_reached_places : List Str := ["words", "rows", "found", "at", "behind", "_"]
abbrev P_reached_places : List Str := ["words", "rows"]
theorem sc_reached_places : FnScope N_reached_places P_reached_places (defScope S_reached_places) := ⟨rfl, rfl, rfl, by decide +kernel, rfl, by decide +kernel, by decide +kernel⟩
abbrev S_readings_of : Stmt := topS 25
abbrev N_readings_of : List Str := ["words", "rows", "reached", "left", "at", "found", "behind", "act", "reading"]
abbrev P_readings_of : List Str := ["words", "rows"]
theorem sc_readings_of : FnScope N_readings_of P_readings_of (defScope S_readings_of) := ⟨rfl, rfl, rfl, by decide +kernel, rfl, by decide +kernel, by decide +kernel⟩
/-! ### what they compute -/
abbrev Stands (words : Tx) (n : Nat) (t : Tx) : Prop := (words.drop n).take t.length = t
theorem Stands.le {words t : Tx} {n : Nat} (h : Stands words n t) (ht : t ≠ []) : n + t.length ≤ words.length := by
  have h1 := congrArg List.length h
  rw [List.length_take, List.length_drop] at h1
  have : 0 < t.length := List.length_pos_iff.mpr ht
  omega
/-- places that are come to from the beginning -/
inductive Rch (rows : List Ph) (words : Tx) : Nat → Prop
  | zero : Rch rows words 0
  | step {n : Nat} {p : Ph} : Rch rows words n → p ∈ rows → Stands words n p.1 → Rch rows words (n + p.1.length)
theorem Rch.le {rows : List Ph} {words : Tx} (hr : ∀ p ∈ rows, p.1 ≠ []) {n : Nat} (h : Rch rows words n) : n ≤ words.length := by
  cases h with
  | zero => exact Nat.zero_le _
  | step h1 h2 h3 => exact h3.le (hr _ h2)
theorem mem_endsAt {words : Tx} {n : Nat} {rows : List Ph} {x : Nat × Tx} : x ∈ endsAt words n rows ↔ ∃ p ∈ rows, Stands words n p.1 ∧ x = (n + p.1.length, p.2) := by
  unfold endsAt
  rw [List.mem_map]
  constructor
  · rintro ⟨p, hp, rfl⟩
    rw [List.mem_filter] at hp
    exact ⟨p, hp.1, of_decide_eq_true hp.2, rfl⟩
  · rintro ⟨p, hp, hs, rfl⟩
    exact ⟨p, List.mem_filter.mpr ⟨hp, decide_eq_true hs⟩, rfl⟩
theorem endsAt_len (words : Tx) (n : Nat) (rows : List Ph) : (endsAt words n rows).length ≤ rows.length := by
  unfold endsAt
  rw [List.length_map]
  exact List.length_filter_le _ _
/-- the dict at a: its keys are the places of which S tells -/
def PD (H : Hp) (a : Addr) (S : Nat → Prop) (n : Nat) : Prop := ∃ kvs : List (Key × V), H a = some (.dK kvs) ∧ kvs.length ≤ n ∧ ∀ j : Nat, (valV kvs (Sum.inl (j : Int) : Key)).isSome = true ↔ S j
def cReached : List V → Hp → RP → Prop := fun vs H R => ∃ (v1 v2 : V) (words : Tx) (rows : List Ph), vs = [v1, v2] ∧ IsD H v1 (eT words) ∧ isL (rows.map eE) v2 H ∧ words.length ≤ 100 ∧ rows.length ≤ 100 ∧ (∀ p ∈ rows, p.1 ≠ []) ∧
  R = fun v H' => ∃ a, v = .ref a ∧ H a = none ∧ PD H' a (Rch rows words) 20000
section
variable {T : List Tab} {σ : L2.St} {H : Hp} {td ty tv : TE} {E : Ends} {a : Addr} {S S' : Nat → Prop} {n k : Nat}
theorem Ext.pd {ex : List Addr} {H' : Hp} (x : Ext T ex H H') (h : PD H a S n) (ha : a ∉ ex) : PD H' a S n := by
  obtain ⟨kvs, h1, h2⟩ := h
  exact ⟨kvs, x.keep a _ ha h1 fun _ z => (nomatch z), h2⟩
theorem val_put_iff {kvs : List (Key × V)} {k j : Nat} {v : V} : (valV (putK kvs (Sum.inl (k : Int) : Key) v) (Sum.inl (j : Int))).isSome = true ↔ (j = k ∨ (valV kvs (Sum.inl (j : Int) : Key)).isSome = true) := by
  rw [valV_put]
  by_cases h : j = k
  · subst h
    rw [if_pos rfl]
    simp
  · rw [if_neg (fun z => h (by have := Sum.inl.inj z; omega))]
    simp [h]
/-- d[k] = x -/
theorem s_pput {i1 i2 : Nat} {v : V} (h1 : σ[i1]? = some (some (.ref a))) (h2 : σ[i2]? = some (some (.int (k : Int)))) (hp : PD H a S n) (hn : n < 50000)
    (kk : ∀ H', Ext T [a] H H' → PD H' a (fun j => j = k ∨ S j) (n + 1) → E.nx σ H') : sDPut (tVar i1) (tVar i2) (tC v) E σ H := by
  obtain ⟨kvs, g1, g2, g3⟩ := hp
  refine ⟨_, h1, _, h2, a, _, rfl, DPut.k (k := Sum.inl (k : Int)) g1 (sz' (by omega)), kk _ (Ext.put_self g1 (noTab_dK _)) ⟨_, upd_same, ?_, fun j => ?_⟩⟩
  · have := length_putK kvs (Sum.inl (k : Int) : Key) v
    omega
  · rw [val_put_iff, g3]
/-- k in d -/
theorem e_pin {i1 i2 : Nat} (h1 : σ[i1]? = some (some (.int (k : Int)))) (h2 : σ[i2]? = some (some (.ref a))) (hp : PD H a S n) : ∃ b : Bool, EvR T (tDIn (tVar i1) (tVar i2)) σ H (isB b) ∧ (b = true ↔ S k) := by
  obtain ⟨kvs, g1, g2, g3⟩ := hp
  refine ⟨(valV kvs (Sum.inl (k : Int) : Key)).isSome, fun H1 x1 Q q => ⟨_, h1, _, h2, a, _, rfl, .inl ⟨kvs, Sum.inl (k : Int), .inl (x1.keep a _ (by simp) g1 fun _ z => nomatch z), rfl, rfl⟩, q _ H1 (Ext.refl H1) rfl⟩, g3 k⟩
end
section
variable {T : List Tab} {P : Program} {w : World} {K : PySem.W.Frag} {mg : Str → Option Value} {base : Heap}
theorem ok_reached_places {f : Addr} {fd : FuncData} (F : Fun K "reached_places" "reached_places" S_reached_places f fd) (G : Gm mg) (A_ends_at : At P w K mg base 1 "ends_at" P_ends_at (SpP T cEnds)) : FnOk P w K mg base CX0 2 f fd P_reached_places (SpP T cReached) := by
  refine F.ok sc_reached_places (fun vs H Q E h => ?_) (fun cdv A outer s H vs Q E hr h => ?_)
  · obtain ⟨R, ⟨_, _, _, _, rfl, _⟩, _⟩ := h
    rfl
  · obtain ⟨R, ⟨v1, v2, words, rows, rfl, h1, h2, hw, hrn, hne, rfl⟩, q⟩ := h
    refine ⟨_, (pss_cons (ps_set (i := 2) sc_reached_places.nd rfl (Or.inl rfl) (pe_disp (pps_cons pe_int pe_bl pps_nil) rfl rfl (by simp) (by decide)))
    (pss_cons (ps_for PassesOwn.never rfl (pi_range1 rfl G.n_range (pa_cons (pe_callB (lenK (K := K) rfl) (by rfl) G.n_len PySem.boot_len (pa_cons (pv 0) pa_nil)) pa_nil)) (pg_name (i := 3) sc_reached_places.nd rfl (Or.inl rfl))
      (pss_one (ps_if (pt_cmp (pc_din (hu_of hr) (pv 3) (pv 2)))
        (pss_one (ps_for PassesOwn.never rfl (pi_listK (K := K) rfl (pe_fn A_ends_at (hr.mono (by decide)) (pa_cons (pv 0) (pa_cons (pv 3) (pa_cons (pv 1) pa_nil))))) (pg_tupK (K := K) (n := 2) rfl rfl (pgs_cons (pg_name (i := 4) sc_reached_places.nd rfl (Or.inl rfl)) (pgs_cons (pg_name (i := 5) sc_reached_places.nd rfl (Or.inl rfl)) pgs_nil)))
          (pss_one (ps_dput (hu_of hr) (pv 2) (pv 4) pe_bl rfl))))
        pss_nil)))
    (pss_one (ps_ret (pv 2))))), ?_⟩
    -- found = {0: True}
    refine s_seq (s_asg (T := T) (R := fun v H' => ∃ a, v = .ref a ∧ H a = none ∧ PD H' a (fun j => j = 0) 1) (fun H1 x1 Q' q' p hp => ?_) fun lf H1 x1 rf => ?_)
    · refine ⟨upd_same, [(Sum.inl 0, .bl true)], rfl, by decide, ?_⟩
      refine q' _ _ (Ext.loc (T := T) (ex := []) (Ext.new hp) (Ext.put_self upd_same (noTab_dK _)) hp) ⟨p, rfl, x1.free _ hp, _, upd_same, by decide, fun j => ?_⟩
      show (valV (putK [] (Sum.inl ((0 : Nat) : Int) : Key) (V.bl true)) (Sum.inl (j : Int) : Key)).isSome = true ↔ _
      rw [val_put_iff]
      simp [valV]
    obtain ⟨pf, rfl, pf0, hpf⟩ := rf
    have i1 := x1.isT h1
    have l2 := x1.isL h2
    obtain ⟨al, us, rfl, hal, hus⟩ := l2
    have hne2 : pf ≠ al := by
      rintro rfl
      obtain ⟨a', us', e', ha', _⟩ := h2
      cases e'
      rw [pf0] at ha'
      cases ha'
    dsimp only
    refine s_seq (f_range (T := T) (n := words.length) (e_lenT (e_t rfl i1)) (by omega) fun H2 x2 => ⟨fun i σ' H' => ∃ z3 z4 z5, σ' = [some v1, some (.ref al), some (.ref pf), z3, z4, z5] ∧ Ext T [pf] H2 H' ∧ PD H' pf (fun n => n = 0 ∨ ∃ m < i, Rch rows words m ∧ ∃ p ∈ rows, Stands words m p.1 ∧ n = m + p.1.length) (1 + 100 * i),
      ⟨none, none, none, rfl, Ext.refl _, ?_⟩, fun i σ' H' hi hP => ?_, fun σ' H' hP => ?_⟩)
    · obtain ⟨kvs, g1, g2, g3⟩ := x2.pd hpf (by simp)
      exact ⟨kvs, g1, by omega, fun j => (g3 j).trans ⟨fun h => .inl h, fun h => h.elim id fun ⟨m, hm, _⟩ => absurd hm (Nat.not_lt_zero _)⟩⟩
    · obtain ⟨z3, z4, z5, rfl, e, hp⟩ := hP
      show tIfS _ _ _ _ _ _
      obtain ⟨b, hb, hbi⟩ := e_pin (T := T) (σ := [some v1, some (.ref al), some (.ref pf), some (.int (i : Int)), z4, z5]) (i1 := 3) (i2 := 2) rfl rfl hp
      have hreach : b = true ↔ Rch rows words i := hbi.trans ⟨fun h => ?_, fun h => ?_⟩
      · refine s_if (T := T) (t_test hb) (fun hbt H3 x3 => ?_) fun hbf H3 x3 => ?_
        · have hri := hreach.mp hbt
          have e3 := e.trans x3.wide
          have hl3 : isL (rows.map eE) (.ref al) H3 := ⟨al, us, rfl, e3.lst (x2.lst hal (by simp)) (by simpa using hne2.symm), hus.mono (x2.tup.trans e3.tup)⟩
          dsimp only
          refine f_list (T := T) (R := isLN H3 ((endsAt words i rows).map eN)) (ds := (endsAt words i rows).map eN) (e_fn (a_consR (e_t rfl (IsD.mono (x2.tup.trans e3.tup) i1)) (fun _ _ _ x r => x.isT r) (a_consR (e_t rfl (.int (i : Int))) (fun _ _ _ x r => x.isT r) (a_any (e_l rfl hl3)))) fun vs H4 x4 hv => ?_) fun v H4 x4 r => ?_
          · obtain ⟨u1, us1, rfl, hu1, u2, us2, rfl, hu2, u3, rfl, hu3⟩ := hv
            obtain rfl := hu2.int_inv
            exact ⟨_, ⟨u1, u3, words, i, rows, rfl, hu1, hu3, by omega, rfl⟩, fun _ _ r => isLN_back r x4.free⟩
          · obtain ⟨la, lvs, rfl, la0, hla, hlv⟩ := r
            have hpf4 := (x3.trans x4).pd hp (by simp)
            have hne4 : la ≠ pf := by
              rintro rfl
              obtain ⟨kvs, g1, _⟩ := x3.pd hp (by simp)
              rw [g1] at la0
              cases la0
            have hel := endsAt_len words i rows
            refine ⟨la, lvs, rfl, hla, hlv, [pf], fun j σ' H' => ∃ z4 z5, σ' = [some v1, some (.ref al), some (.ref pf), some (.int (i : Int)), z4, z5] ∧ Ext T [pf] H4 H' ∧ PD H' pf (fun n => (n = 0 ∨ ∃ m < i, Rch rows words m ∧ ∃ p ∈ rows, Stands words m p.1 ∧ n = m + p.1.length) ∨ ∃ x ∈ (endsAt words i rows).take j, n = x.1) (1 + 100 * i + j),
              by simpa using hne4, ⟨z4, z5, rfl, Ext.refl _, ?_⟩, fun j σ' H' hP => ?_, fun j d x σ' H' hd hx hP => ?_, fun σ' H' hP => ?_⟩
            · obtain ⟨kvs, g1, g2, g3⟩ := hpf4
              exact ⟨kvs, g1, by omega, fun n => (g3 n).trans ⟨fun h => .inl h, fun h => h.elim id fun ⟨x, hx, _⟩ => by simp at hx⟩⟩
            · obtain ⟨_, _, _, e, _⟩ := hP
              exact e
            · obtain ⟨z4, z5, rfl, e4, hp4⟩ := hP
              rw [List.getElem?_map] at hd
              obtain ⟨y, hy, rfl⟩ := Option.map_eq_some_iff.mp hd
              have hj : j < (endsAt words i rows).length := (List.getElem?_eq_some_iff.mp hy).1
              refine g_pair hx fun u1 u2 j1 j2 => ?_
              obtain rfl := j1.int_inv
              dsimp only
              refine s_pput (T := T) (k := y.1) rfl rfl hp4 (by omega) fun H5 x5 hp5 => ?_
              refine ⟨_, _, rfl, e4.trans x5, ?_⟩
              obtain ⟨kvs, g1, g2, g3⟩ := hp5
              refine ⟨kvs, g1, by omega, fun n => (g3 n).trans ?_⟩
              have htk : (endsAt words i rows).take (j + 1) = (endsAt words i rows).take j ++ [y] := by rw [List.take_add_one, hy]; rfl
              rw [htk]
              constructor
              · rintro (h | h | ⟨x, hx, h⟩)
                · exact .inr ⟨y, by simp, h⟩
                · exact .inl h
                · exact .inr ⟨x, List.mem_append_left _ hx, h⟩
              · rintro (h | ⟨x, hx, h⟩)
                · exact .inr (.inl h)
                · rcases List.mem_append.mp hx with hx | hx
                  · exact .inr (.inr ⟨x, hx, h⟩)
                  · rw [List.mem_singleton.mp hx] at h
                    exact .inl h
            · obtain ⟨z4, z5, rfl, e4, kvs, g1, g2, g3⟩ := hP
              rw [List.length_map, List.take_length] at g3
              rw [List.length_map] at g2
              refine ⟨_, z4, z5, rfl, (e3.trans x4.wide).trans e4, kvs, g1, by omega, fun n => (g3 n).trans ?_⟩
              constructor
              · rintro ((h | ⟨m, hm, h⟩) | ⟨x, hx, h⟩)
                · exact .inl h
                · exact .inr ⟨m, by omega, h⟩
                · obtain ⟨p, hp1, hp2, rfl⟩ := mem_endsAt.mp hx
                  exact .inr ⟨i, by omega, hri, p, hp1, hp2, h⟩
              · rintro (h | ⟨m, hm, h1, p, hp1, hp2, h⟩)
                · exact .inl (.inl h)
                · by_cases hmi : m = i
                  · subst hmi
                    exact .inr ⟨_, mem_endsAt.mpr ⟨p, hp1, hp2, rfl⟩, h⟩
                  · exact .inl (.inr ⟨m, by omega, h1, p, hp1, hp2, h⟩)
        · have hnr : ¬ Rch rows words i := fun z => by rw [hreach.mpr z] at hbf; cases hbf
          obtain ⟨kvs, g1, g2, g3⟩ := x3.pd hp (by simp)
          refine ⟨_, z4, z5, rfl, e.trans x3.wide, kvs, g1, by omega, fun n => (g3 n).trans ?_⟩
          constructor
          · rintro (h | ⟨m, hm, h⟩)
            · exact .inl h
            · exact .inr ⟨m, by omega, h⟩
          · rintro (h | ⟨m, hm, h1, h⟩)
            · exact .inl h
            · by_cases hmi : m = i
              · subst hmi
                exact absurd h1 hnr
              · exact .inr ⟨m, by omega, h1, h⟩
      · rcases h with h | ⟨m, _, hm, p, hp1, hp2, h⟩
        · rw [h]; exact .zero
        · rw [h]; exact .step hm hp1 hp2
      · cases h with
        | zero => exact .inl rfl
        | step h1 h2 h3 =>
          rename_i m p
          have : 0 < p.1.length := List.length_pos_iff.mpr (hne p h2)
          exact .inr ⟨m, by omega, h1, p, h2, h3, rfl⟩
    · obtain ⟨z3, z4, z5, rfl, e, kvs, g1, g2, g3⟩ := hP
      dsimp only
      refine s_ret (T := T) (R := isV (.ref pf)) (e_v rfl) fun v H3 x3 r3 => ?_
      obtain rfl : v = .ref pf := r3
      refine q _ H3 (((x1.trans x2).loc e pf0).trans x3) ⟨pf, rfl, pf0, kvs, x3.keep pf _ (by simp) g1 fun _ z => (nomatch z), by omega, fun n => (g3 n).trans ?_⟩
      constructor
      · rintro (h | ⟨m, _, hm, p, hp1, hp2, h⟩)
        · rw [h]; exact .zero
        · rw [h]; exact .step hm hp1 hp2
      · intro h
        cases h with
        | zero => exact .inl rfl
        | step h1 h2 h3 =>
          rename_i m p
          have h4 := h3.le (hne p h2)
          have : 0 < p.1.length := List.length_pos_iff.mpr (hne p h2)
          exact .inr ⟨m, by omega, h1, p, h2, h3, rfl⟩
end
end Sf

set_option Elab.async false
set_option linter.all false
set_option maxRecDepth 100000
set_option maxHeartbeats 4000000
/-! readings_of. -/
namespace Sf
open PySem L2 LamX
/-- ρ is a row of phrases that makes up ws -/
def Prs (rows : List Ph) (ws : Tx) (ρ : List Ph) : Prop := (∀ p ∈ ρ, p ∈ rows) ∧ ρ.flatMap (·.1) = ws
abbrev acts (ρ : List Ph) : List Tx := ρ.map (·.2)
abbrev eR (r : List Tx) : D := .tup (r.map eT)
theorem eR_inj {r s : List Tx} (h : eR r = eR s) : r = s := by
  injection h with h
  induction r generalizing s with
  | nil =>
    cases s with
    | nil => rfl
    | cons _ _ => cases h
  | cons x r ih =>
    cases s with
    | nil => cases h
    | cons y s =>
      injection h with h1 h2
      rw [eT_inj h1, ih h2]
theorem mem_eR {l : List (List Tx)} {k : List Tx} : (eR k ∈ l.map eR) ↔ k ∈ l := by
  constructor
  · intro h
    obtain ⟨x, hx, e⟩ := List.mem_map.mp h
    rw [← eR_inj e]
    exact hx
  · exact fun h => List.mem_map.mpr ⟨k, h, rfl⟩
theorem eR_depth (r : List Tx) : (eR r).depth ≤ 2 := by
  show NestedKey.depthAll (r.map eT) + 1 ≤ 2
  have : NestedKey.depthAll (r.map eT) ≤ 1 := depth_le fun d hd => by
    obtain ⟨t, _, rfl⟩ := List.mem_map.mp hd
    rw [eT_depth]
    exact Nat.le_refl _
  omega
theorem prs_nil {rows : List Ph} : Prs rows [] [] := ⟨fun _ h => (nomatch h), rfl⟩
theorem prs_cons {rows : List Ph} {words : Tx} {n : Nat} {p : Ph} {ρ : List Ph} (hp : p ∈ rows) (hs : Stands words n p.1) (h : Prs rows (words.drop (n + p.1.length)) ρ) : Prs rows (words.drop n) (p :: ρ) := by
  refine ⟨fun x hx => ?_, ?_⟩
  · rcases List.mem_cons.mp hx with rfl | hx
    · exact hp
    · exact h.1 x hx
  · rw [List.flatMap_cons, h.2]
    have e : p.1 ++ words.drop (n + p.1.length) = (words.drop n).take p.1.length ++ (words.drop n).drop p.1.length := by rw [hs, List.drop_drop]
    rw [e, List.take_append_drop]
theorem prs_inv {rows : List Ph} {words : Tx} {n : Nat} {p : Ph} {ρ : List Ph} (h : Prs rows (words.drop n) (p :: ρ)) : p ∈ rows ∧ Stands words n p.1 ∧ Prs rows (words.drop (n + p.1.length)) ρ := by
  obtain ⟨h1, h2⟩ := h
  rw [List.flatMap_cons] at h2
  refine ⟨h1 p List.mem_cons_self, ?_, fun x hx => h1 x (List.mem_cons_of_mem _ hx), ?_⟩
  · show (words.drop n).take p.1.length = p.1
    rw [← h2, List.take_left]
  · rw [← List.drop_drop, ← h2, List.drop_left]
/-- the readings of what stands behind n -/
def RS (rows : List Ph) (words : Tx) (n : Nat) (l : List (List Tx)) : Prop := l.Nodup ∧ ∀ x, x ∈ l ↔ ∃ ρ, Prs rows (words.drop n) ρ ∧ acts ρ = x
theorem RS.last {rows : List Ph} {words : Tx} (hne : ∀ p ∈ rows, p.1 ≠ []) : RS rows words words.length [[]] := by
  refine ⟨by simp, fun x => ?_⟩
  rw [List.mem_singleton, List.drop_length]
  constructor
  · rintro rfl
    exact ⟨[], prs_nil, rfl⟩
  · rintro ⟨ρ, ⟨h1, h2⟩, rfl⟩
    cases ρ with
    | nil => rfl
    | cons p ρ =>
      rw [List.flatMap_cons] at h2
      exact absurd (List.append_eq_nil_iff.mp h2).1 (hne p (h1 p List.mem_cons_self))
theorem RS.place {rows : List Ph} {words : Tx} {n : Nat} {l : List (List Tx)} {f : Nat → List (List Tx)} (hn : n < words.length) (hnd : l.Nodup) (hf : ∀ e ∈ endsAt words n rows, RS rows words e.1 (f e.1))
    (h : ∀ x, x ∈ l ↔ ∃ e ∈ endsAt words n rows, ∃ r ∈ f e.1, x = e.2 :: r) : RS rows words n l := by
  refine ⟨hnd, fun x => (h x).trans ⟨?_, ?_⟩⟩
  · rintro ⟨e, he, r, hr, rfl⟩
    obtain ⟨ρ, hρ, rfl⟩ := ((hf e he).2 r).mp hr
    obtain ⟨p, hp, hs, rfl⟩ := mem_endsAt.mp he
    exact ⟨p :: ρ, prs_cons hp hs hρ, rfl⟩
  · rintro ⟨ρ, hρ, rfl⟩
    cases ρ with
    | nil =>
      have := hρ.2
      have h2 := congrArg List.length this
      rw [List.length_drop] at h2
      simp at h2
      omega
    | cons p ρ =>
      obtain ⟨hp, hs, hr⟩ := prs_inv hρ
      have he : (n + p.1.length, p.2) ∈ endsAt words n rows := mem_endsAt.mpr ⟨p, hp, hs, rfl⟩
      exact ⟨_, he, acts ρ, ((hf _ he).2 _).mpr ⟨ρ, hr, rfl⟩, rfl⟩
def cReadings : List V → Hp → RP → Prop := fun vs H R => ∃ (v1 v2 : V) (words : Tx) (rows : List Ph), vs = [v1, v2] ∧ IsD H v1 (eT words) ∧ isL (rows.map eE) v2 H ∧ words.length ≤ 30 ∧ rows.length ≤ 100 ∧ (∀ p ∈ rows, p.1 ≠ []) ∧
  (∀ n, Rch rows words n → ∀ l : List (List Tx), l.Nodup → (∀ x ∈ l, ∃ ρ, Prs rows (words.drop n) ρ ∧ acts ρ = x) → l.length ≤ 200) ∧ R = fun v H' => ∃ l, isLN H (l.map eR) v H' ∧ RS rows words 0 l
section
variable {T : List Tab} {P : Program} {w : World} {K : PySem.W.Frag} {σ : L2.St} {H : Hp} {tk tv te ta : TE} {E : Ends} {a : Addr}
theorem e_disp1 {ds : List D} {v : V} (hk : ∀ H', Ext T [] H H' → EvR T tk σ H' (isT (.tup ds))) (hd : (NestedKey.tup ds).depth ≤ 8) : EvR T (tDisp1 P w tk (tC v)) σ H (fun v H2 => ∃ a, v = .ref a ∧ H a = none ∧ NS P w H2 a [.tup ds]) := fun H1 x1 Q q p hp => by
  refine (hk _ (x1.trans (Ext.new (o := NDo P w p []) hp))).run fun x H2 x2 r => ?_
  obtain ⟨b, vs, rfl, _⟩ := r.tup_inv
  have h2 := x2.keep p _ (by simp) upd_same ndo_tbl
  refine ⟨h2, _, b, rfl, r, hd, q _ _ (Ext.loc (Ext.new hp) (x2.wide.trans (Ext.put_self h2 noTab_nd)) hp) ⟨p, rfl, x1.free _ hp, _, upd_same, fun k hk => ?_, rfl⟩⟩
  rw [List.mem_singleton.mp hk]
  exact ⟨IsD.mono (tex_put h2 noTab_nd) r, hd⟩
/-- {n: d}, d a set of keys -/
theorem e_dispS {n : Nat} {l : List D} (hk : ∀ H', Ext T [] H H' → EvR T tk σ H' (isT (.num (n : Int)))) (hv : ∀ H', Ext T [] H H' → EvR T tv σ H' (fun v H2 => ∃ a, v = .ref a ∧ H' a = none ∧ NS P w H2 a l)) :
    EvR T (tDisp [(tk, tv)]) σ H (fun v H2 => ∃ pl a0, v = .ref pl ∧ H pl = none ∧ H2 pl = some (.dK [(Sum.inl (n : Int), .ref a0)]) ∧ a0 ≠ pl ∧ NS P w H2 a0 l) := fun H1 x1 Q q p hp => by
  refine (hk _ (x1.trans (Ext.new (o := .dK []) hp))).run fun x H2 x2 r => ?_
  obtain rfl := r.int_inv
  refine (hv _ ((x1.trans (Ext.new (o := .dK []) hp)).trans x2)).run fun y H3 x3 r3 => ?_
  obtain ⟨a0, rfl, a00, hs⟩ := r3
  have h3 := (x2.trans x3).keep p _ (by simp) upd_same fun _ z => nomatch z
  have hne : a0 ≠ p := by
    rintro rfl
    rw [x2.keep _ _ (by simp) upd_same fun _ z => nomatch z] at a00
    cases a00
  refine ⟨h3, [(Sum.inl (n : Int), .ref a0)], rfl, (show 1 ≤ 15 by decide), q _ _ (Ext.loc (Ext.new hp) ((x2.trans x3).wide.trans (Ext.put_self h3 (noTab_dK _))) hp) ⟨p, a0, rfl, x1.free _ hp, upd_same, hne, (Ext.put_self (T := T) h3 (noTab_dK _)).ns hs (by simpa using hne)⟩⟩
/-- d[k] for a number -/
theorem e_dgetI {kvs : List (Key × V)} {n : Int} {v : V} (h : EvR T te σ H (isV (.ref a))) (h2 : EvR T ta σ H (isV (.int n))) (hk : H a = some (.dK kvs)) (hv : valV kvs (Sum.inl n : Key) = some v) : EvR T (tDGet te ta) σ H (isV v) := fun H1 x1 Q q =>
  h H1 x1 _ fun u H2 x2 e => h2 H2 (x1.trans x2) _ fun y H3 x3 e2 => by
    obtain rfl : u = .ref a := e
    obtain rfl : y = .int n := e2
    exact ⟨a, v, rfl, .inl ⟨kvs, Sum.inl n, .inl (((x1.trans x2).trans x3).keep a _ (by simp) hk fun _ z => nomatch z), rfl, hv.symm⟩, q v H3 (x2.trans x3) rfl⟩
/-- d[t] = x -/
theorem s_nputE {ds : List D} {l : List D} {o : Nat} {v : V} (ho : σ[o]? = some (some (.ref a))) (hi : EvR T ta σ H (isT (.tup ds))) (hs : NS P w H a l) (hd : (NestedKey.tup ds).depth ≤ 8) (hz : l.length < 100000)
    (kk : ∀ H', Ext T [a] H H' → NS P w H' a (addK l (.tup ds)) → E.nx σ H') : tAsg (tC v) (gSub (tVar o) ta (rNSet P w)) E σ H := by
  refine ⟨_, ho, hi.run fun y H1 x1 r => ?_⟩
  obtain ⟨ks, h1, h2, h3⟩ := x1.ns hs (by simp)
  have hl : ks.length < 100000 := by rw [← List.length_map (as := ks) (f := fun k => k.1), h3]; exact hz
  obtain ⟨b, vs, rfl, _⟩ := r.tup_inv
  refine ⟨_, b, a, ks, rfl, rfl, r, hd, h1, h2, sz' hl, ?_⟩
  refine kk _ (x1.wide.trans (Ext.put_self h1 noTab_nd)) ⟨nput ks _ b v, upd_same, ?_, by rw [nput_keys, h3]⟩
  exact (nput_nkeys h2 r hd).mono (tex_put h1 noTab_nd)
/-- d[k] = x, a number's place -/
theorem s_dput {kvs : List (Key × V)} {n : Int} {v : V} {i1 i2 i3 : Nat} (h1 : σ[i1]? = some (some (.ref a))) (h2 : σ[i2]? = some (some (.int n))) (h3 : σ[i3]? = some (some v)) (hk : H a = some (.dK kvs)) (hz : kvs.length < 50000)
    (kk : Ext T [a] H (upd H a (.dK (putK kvs (Sum.inl n : Key) v))) → E.nx σ (upd H a (.dK (putK kvs (Sum.inl n : Key) v)))) : sDPut (tVar i1) (tVar i2) (tVar i3) E σ H :=
  ⟨_, h3, _, h1, _, h2, a, _, rfl, DPut.k (k := Sum.inl n) hk (sz' (by omega)), kk (Ext.put_self hk (noTab_dK _))⟩
theorem e_neg {i : Int} (h : EvR T ta σ H (isT (.num i))) : EvR T (tUn (rU fun i => .int (-i)) ta) σ H (isT (.num (-i))) := fun H1 x Q q => h H1 x _ fun v H2 x2 r => ⟨i, r.int_inv, q _ H2 x2 (.int _)⟩
theorem f_range3 {tu : TS} {g : TG} {n : Nat} {tb tc : TE} (h : EvR T ta σ H (isT (.num ((n : Int) - 1)))) (h2 : EvR T tb σ H (isT (.num (-1)))) (h3 : EvR T tc σ H (isT (.num (-1)))) (hn : n ≤ 100000) (k : ∀ H1, Ext T [] H H1 → ∃ (Pv : Nat → L2.St → Hp → Prop), Pv 0 σ H1 ∧
      (∀ i σ' H', i < n → Pv i σ' H' → g (.int ((n - 1 - i : Nat) : Int)) σ' H' fun σ2 H2 => tu { E with nx := Pv (i + 1), ct := Pv (i + 1), bk := E.nx } σ2 H2) ∧ (∀ σ' H', Pv n σ' H' → E.nx σ' H')) : tFor (iRng3 (tCons ta (tCons tb (tCons tc tNil)))) g tu E σ H := by
  unfold tFor iRng3
  exact (a_consR h (fun _ _ _ x r => x.isT r) (a_consR h2 (fun _ _ _ x r => x.isT r) (a_any h3))) H (Ext.refl H) _ fun vs H1 x1 hp => by
    obtain ⟨v1, us, rfl, r1, v2, us2, rfl, r2, v3, rfl, r3⟩ := hp
    obtain ⟨Pv, h0, hs, hd⟩ := k H1 x1
    obtain rfl := r1.int_inv
    obtain rfl := r2.int_inv
    obtain rfl := r3.int_inv
    have e : ((n : Int) - 1 - (-1)).toNat = n := by omega
    have hrg := RgC.neg (i := (n : Int) - 1) (j := -1) (by omega) (by omega) (by omega) (by omega)
    rw [e] at hrg
    refine ⟨(n : Int) - 1, -1, -1, n, rfl, hrg, for_rangeC (lo := (n : Int) - 1) (c := -1) (n := n) Pv h0 (fun i σ' H' hi p => ?_) hd⟩
    have e2 : (n : Int) - 1 + (i : Nat) * (-1) = ((n - 1 - i : Nat) : Int) := by omega
    rw [e2]
    exact hs i σ' H' hi p


/-- the same, but once more with k -/
theorem addK_eR {l : List (List Tx)} {k : List Tx} (hn : l.Nodup) : ∃ l' : List (List Tx), addK (l.map eR) (eR k) = l'.map eR ∧ l'.Nodup ∧ ∀ x, x ∈ l' ↔ x ∈ l ∨ x = k := by
  unfold addK
  by_cases h : k ∈ l
  · rw [if_pos (mem_eR.mpr h)]
    exact ⟨l, rfl, hn, fun x => ⟨.inl, fun z => z.elim id fun e => e ▸ h⟩⟩
  · rw [if_neg (fun z => h (mem_eR.mp z))]
    refine ⟨l ++ [k], by rw [List.map_append]; rfl, ?_, fun x => by rw [List.mem_append, List.mem_singleton]⟩
    rw [List.nodup_append]
    refine ⟨hn, by simp, fun a ha b hb e => ?_⟩
    have : b = k := by simpa using hb
    subst this
    exact h (e ▸ ha)
/-- for reading in left[behind]: found[(act,) + reading] = True -/
theorem rd_in {pl pf : Addr} {kvs : List (Key × V)} {n : Int} {s0 s1 s2 s4 z8 : Option V} {act : V} {e2 : Tx} {lb L : List (List Tx)} (hpl : H pl = some (.dK kvs)) (hv : valV kvs (Sum.inl n : Key) = some (.ref a)) (hal : a ≠ pl) (haf : a ≠ pf) (hlf : pl ≠ pf)
    (hs : NS P w H a (lb.map eR)) (hf : NS P w H pf (L.map eR)) (hact : IsD H act (eT e2)) (hL : L.Nodup) (hbd : ∀ L' : List (List Tx), L'.Nodup → (∀ x ∈ L', x ∈ L ∨ ∃ r ∈ lb, x = e2 :: r) → L'.length ≤ 200) (hlb : ∀ r ∈ lb, r.length ≤ 1000)
    (k : ∀ (z8 : Option V) (L' : List (List Tx)) (H' : Hp), Ext T [pf] H H' → NS P w H' pf (L'.map eR) → L'.Nodup → (∀ x, x ∈ L' ↔ x ∈ L ∨ ∃ r ∈ lb, x = e2 :: r) → E.nx [s0, s1, s2, some (.ref pl), s4, some (.ref pf), some (.int n), some act, z8] H') :
    tLock (tFor (iNKeys P w (tDGet (tVar 3) (tVar 6))) (gName 8) (tAsg (tC (.bl true)) (gSub (tVar 5) (tOp (rCatA K) (tTup (tCons (tVar 7) tNil)) (tVar 8)) (rNSet P w)))) E [s0, s1, s2, some (.ref pl), s4, some (.ref pf), some (.int n), some act, z8] H := by
  obtain ⟨ks, k1, k2, k3⟩ := hs
  refine f_nd (T := T) k1 k2 (fun od => e_dgetI (e_v rfl) (e_v rfl) (by rw [upd_ne (Ne.symm hal)]; exact hpl) hv) fun od H1 x1 => ?_
  have hf1 : NS P w H1 pf (L.map eR) := x1.ns ((Ext.locked (T := T) k1 noTab_nd).ns hf (by simpa using haf.symm)) (by simp)
  have hact1 : IsD H1 act (eT e2) := IsD.mono ((Ext.locked (T := T) k1 noTab_nd).tup.trans x1.tup) hact
  have hkl : ks.length = lb.length := by have := congrArg List.length k3; rwa [List.length_map, List.length_map] at this
  refine ⟨[pf], fun i σ' H' => ∃ (z8 : Option V) (L' : List (List Tx)), σ' = [s0, s1, s2, some (.ref pl), s4, some (.ref pf), some (.int n), some act, z8] ∧ Ext T [pf] H1 H' ∧ NS P w H' pf (L'.map eR) ∧ L'.Nodup ∧ ∀ x, x ∈ L' ↔ x ∈ L ∨ ∃ r ∈ lb.take i, x = e2 :: r, by simpa using haf,
    ⟨z8, L, rfl, Ext.refl _, hf1, hL, fun x => by simp⟩, fun i σ' H' hP => ?_, fun i p σ' H' hp hpd hP rt bk => ?_, fun σ' H' hP x2 => ?_⟩
  · obtain ⟨_, _, _, e, _⟩ := hP
    exact e
  · obtain ⟨z8, L', rfl, e, hf', hL', hm⟩ := hP
    have hi : i < lb.length := by rw [← hkl]; exact (List.getElem?_eq_some_iff.mp hp).1
    obtain ⟨r, hr⟩ : ∃ r, lb[i]? = some r := ⟨_, List.getElem?_eq_getElem hi⟩
    have hrm := List.mem_of_getElem? hr
    have hpr : p.1 = eR r := by
      have h1 : (ks.map (·.1))[i]? = some p.1 := by rw [List.getElem?_map, hp]; rfl
      rw [k3, List.getElem?_map, hr] at h1
      exact (Option.some.inj h1).symm
    have htk : lb.take (i + 1) = lb.take i ++ [r] := by rw [List.take_add_one, hr]; rfl
    have hll : L'.length ≤ 200 := hbd L' hL' fun x hx => ((hm x).mp hx).imp id fun ⟨r, hr, e⟩ => ⟨r, List.mem_of_mem_take hr, e⟩
    show tAsg _ _ _ _ _
    have hq : EvR T (tOp (rCatA K) (tTup (tCons (tVar 7) tNil)) (tVar 8)) [s0, s1, s2, some (.ref pl), s4, some (.ref pf), some (.int n), some act, some (.ref p.2.1)] H' (isT (eR (e2 :: r))) := by
      refine (e_cat (ds := [eT e2]) (es := r.map eT) (e_tup (a_one (e_t rfl (IsD.mono e.tup hact1))) (by show 1 ≤ 100000; decide)) (e_t rfl (by rw [hpr] at hpd; exact hpd)) ?_).eqT rfl
      have := hlb r hrm
      rw [List.length_map]
      show 1 + r.length ≤ 100000
      omega
    refine s_nputE (T := T) (a := pf) rfl hq hf' (Nat.le_trans (eR_depth _) (by decide)) (by rw [List.length_map]; omega) fun H2 x2 s2 => ?_
    obtain ⟨l', e1, e2', e3⟩ := addK_eR (k := e2 :: r) hL'
    rw [show (NestedKey.tup ((e2 :: r).map eT)) = eR (e2 :: r) from rfl, e1] at s2
    refine ⟨_, l', rfl, e.trans x2, s2, e2', fun x => (e3 x).trans ?_⟩
    rw [hm, htk]
    constructor
    · rintro ((h | ⟨r', h, e⟩) | h)
      · exact .inl h
      · exact .inr ⟨r', List.mem_append_left _ h, e⟩
      · exact .inr ⟨r, by simp, h⟩
    · rintro (h | ⟨r', h, e⟩)
      · exact .inl (.inl h)
      · rcases List.mem_append.mp h with h | h
        · exact .inl (.inr ⟨r', h, e⟩)
        · rw [List.mem_singleton.mp h] at e
          exact .inr e
  · obtain ⟨z8, L', rfl, e, hf', hL', hm⟩ := hP
    rw [hkl, List.take_length] at hm
    have hf2 : NS P w (upd H' a (NDo P w a ks)) pf (L'.map eR) := by
      obtain ⟨ks', g1, g2, g3⟩ := hf'
      have f2 : H' a = some (.frz od (NDo P w a ks)) := e.keep a _ (by simpa using haf) (x1.keep a _ (by simp) upd_same fun _ z => nomatch z) fun _ z => nomatch z
      exact ⟨ks', by rw [upd_ne haf.symm]; exact g1, g2.mono (tex_put f2 (noTab_frz _ _)), g3⟩
    exact k z8 L' _ x2 hf2 hL' hm
/-- if len(found) > 200: ..; left[at] = found -/
theorem rd_tail {tu : TS} {pl pf : Addr} {kvs : List (Key × V)} {n : Nat} {s0 s1 s2 s6 s7 s8 : Option V} {l : List (List Tx)} (hpl : H pl = some (.dK kvs)) (hf : NS P w H pf (l.map eR)) (hl : l.length ≤ 200) (hkl : kvs.length < 1000)
    (k : ∀ H', Ext T [pl] H H' → H' pl = some (.dK (putK kvs (Sum.inl (n : Int)) (.ref pf))) → E.nx [s0, s1, s2, some (.ref pl), some (.int (n : Int)), some (.ref pf), s6, s7, s8] H') :
    tSeq (tIfS (tTest (tOp (rI0 fun i j => .bl (decide (j < i))) (tCB (rNLen P w) (tCons (tVar 5) tNil)) (tC (.int 200)))) tu tNext) (sDPut (tVar 3) (tVar 4) (tVar 5)) E [s0, s1, s2, some (.ref pl), some (.int (n : Int)), some (.ref pf), s6, s7, s8] H := by
  refine s_seq (s_no (T := T) ((t_test (e_I0 (e_nlenS (e_v rfl) hf) e_int).bool).eq (decide_eq_false (by rw [List.length_map]; omega))) fun H1 x1 => ?_)
  dsimp only
  have hpl1 := x1.keep pl _ (by simp) hpl fun _ z => nomatch z
  exact s_dput (T := T) rfl rfl rfl hpl1 (by omega) fun x2 => k _ (x1.wide.trans x2) upd_same

/-- for behind, act in ends_at(words, at, rows): .. -/
theorem rd_fill {E1 : XK} {al pl pf : Addr} {kvs : List (Key × V)} {n : Nat} {v1 : V} {s2 z6 z7 z8 : Option V} {words : Tx} {rows : List Ph} {f : Nat → List (List Tx)} (h1 : IsD H v1 (eT words)) (h2 : isL (rows.map eE) (.ref al) H) (hrn : rows.length ≤ 1000) (hpl : H pl = some (.dK kvs)) (hlf : pl ≠ pf) (hf0 : NS P w H pf [])
    (hf : ∀ e ∈ endsAt words n rows, ∃ a, valV kvs (Sum.inl (e.1 : Int) : Key) = some (.ref a) ∧ a ≠ pl ∧ a ≠ pf ∧ NS P w H a ((f e.1).map eR))
    (hbd : ∀ L' : List (List Tx), L'.Nodup → (∀ x ∈ L', ∃ e ∈ endsAt words n rows, ∃ r ∈ f e.1, x = e.2 :: r) → L'.length ≤ 200) (hlb : ∀ e ∈ endsAt words n rows, ∀ r ∈ f e.1, r.length ≤ 1000)
    (k : ∀ (z6 z7 z8 : Option V) (L : List (List Tx)) (H' : Hp), Ext T [pf] H H' → NS P w H' pf (L.map eR) → L.Nodup → (∀ x, x ∈ L ↔ ∃ e ∈ endsAt words n rows, ∃ r ∈ f e.1, x = e.2 :: r) → E.nx [some v1, some (.ref al), s2, some (.ref pl), some (.int (n : Int)), some (.ref pf), z6, z7, z8] H') :
    tFor (iList K (tCall (SpP T cEnds) [] E1 (tCons (tVar 0) (tCons (tVar 4) (tCons (tVar 1) tNil))))) (gTup K 2 (gCons (gName 6) (gCons (gName 7) gNil)))
      (tLock (tFor (iNKeys P w (tDGet (tVar 3) (tVar 6))) (gName 8) (tAsg (tC (.bl true)) (gSub (tVar 5) (tOp (rCatA K) (tTup (tCons (tVar 7) tNil)) (tVar 8)) (rNSet P w))))) E [some v1, some (.ref al), s2, some (.ref pl), some (.int (n : Int)), some (.ref pf), z6, z7, z8] H := by
  refine f_list (T := T) (R := isLN H ((endsAt words n rows).map eN)) (ds := (endsAt words n rows).map eN) (e_fn (a_consR (e_t rfl h1) (fun _ _ _ x r => x.isT r) (a_consR (e_t rfl (.int (n : Int))) (fun _ _ _ x r => x.isT r) (a_any (e_l rfl h2)))) fun vs H4 x4 hv => ?_) fun v H4 x4 r => ?_
  · obtain ⟨u1, us1, rfl, hu1, u2, us2, rfl, hu2, u3, rfl, hu3⟩ := hv
    obtain rfl := hu2.int_inv
    exact ⟨_, ⟨u1, u3, words, n, rows, rfl, hu1, hu3, hrn, rfl⟩, fun _ _ r => isLN_back r x4.free⟩
  · obtain ⟨la, lvs, rfl, la0, hla, hlv⟩ := r
    have hf4 := x4.ns hf0 (by simp)
    have hpl4 := x4.keep pl _ (by simp) hpl fun _ z => nomatch z
    have hne : la ≠ pf := by
      rintro rfl
      obtain ⟨ks, g1, _⟩ := hf0
      rw [g1] at la0
      cases la0
    refine ⟨la, lvs, rfl, hla, hlv, [pf], fun j σ' H' => ∃ (z6 z7 z8 : Option V) (L : List (List Tx)), σ' = [some v1, some (.ref al), s2, some (.ref pl), some (.int (n : Int)), some (.ref pf), z6, z7, z8] ∧ Ext T [pf] H4 H' ∧ NS P w H' pf (L.map eR) ∧ L.Nodup ∧ ∀ x, x ∈ L ↔ ∃ e ∈ (endsAt words n rows).take j, ∃ r ∈ f e.1, x = e.2 :: r,
      by simpa using hne, ⟨z6, z7, z8, [], rfl, Ext.refl _, hf4, by simp, fun x => by simp⟩, fun j σ' H' hP => ?_, fun j d x σ' H' hd hx hP => ?_, fun σ' H' hP => ?_⟩
    · obtain ⟨_, _, _, _, _, e, _⟩ := hP
      exact e
    · obtain ⟨z6, z7, z8, L, rfl, e, hL1, hL2, hm⟩ := hP
      rw [List.getElem?_map] at hd
      obtain ⟨y, hy, rfl⟩ := Option.map_eq_some_iff.mp hd
      have hym := List.mem_of_getElem? hy
      have htk : (endsAt words n rows).take (j + 1) = (endsAt words n rows).take j ++ [y] := by rw [List.take_add_one, hy]; rfl
      obtain ⟨a, g1, g2, g3, g4⟩ := hf y hym
      refine g_pair hx fun u1 u2 j1 j2 => ?_
      obtain rfl := j1.int_inv
      refine rd_in (T := T) (a := a) (e2 := y.2) (lb := f y.1) (L := L) (e.keep pl _ (by simpa using hlf) hpl4 fun _ z => nomatch z) g1 g2 g3 hlf (e.ns (x4.ns g4 (by simp)) (by simpa using g3)) hL1 j2 hL2 (fun L' hn' hs' => hbd L' hn' fun x hx => ?_) (hlb y hym) fun z8 L' H' x5 s5 hn5 hm5 => ?_
      · rcases hs' x hx with h | ⟨r, hr, h⟩
        · obtain ⟨e', he', r, hr, h⟩ := (hm x).mp h
          exact ⟨e', List.mem_of_mem_take he', r, hr, h⟩
        · exact ⟨y, hym, r, hr, h⟩
      · refine ⟨_, _, z8, L', rfl, e.trans x5, s5, hn5, fun x => (hm5 x).trans ?_⟩
        rw [hm, htk]
        constructor
        · rintro (⟨e', he', h⟩ | h)
          · exact ⟨e', List.mem_append_left _ he', h⟩
          · exact ⟨y, by simp, h⟩
        · rintro ⟨e', he', h⟩
          rcases List.mem_append.mp he' with he' | he'
          · exact .inl ⟨e', he', h⟩
          · rw [List.mem_singleton.mp he'] at h
            exact .inr h
    · obtain ⟨z6, z7, z8, L, rfl, e, hL1, hL2, hm⟩ := hP
      rw [List.length_map, List.take_length] at hm
      exact k z6 z7 z8 L H' (x4.wide.trans e) hL1 hL2 hm
theorem prs_len {rows : List Ph} (hne : ∀ p ∈ rows, p.1 ≠ []) : ∀ {ρ : List Ph} {ws : Tx}, Prs rows ws ρ → ρ.length ≤ ws.length
  | [], _, _ => Nat.zero_le _
  | p :: ρ, ws, ⟨h1, h2⟩ => by
    rw [List.flatMap_cons] at h2
    have h3 := prs_len hne (ρ := ρ) (ws := ρ.flatMap (·.1)) ⟨fun x hx => h1 x (List.mem_cons_of_mem _ hx), rfl⟩
    have h4 : 0 < p.1.length := List.length_pos_iff.mpr (hne p (h1 p List.mem_cons_self))
    have h5 := congrArg List.length h2
    rw [List.length_append] at h5
    rw [List.length_cons]
    omega
theorem ok_readings_of {mg : Str → Option Value} {base : Heap} {f : Addr} {fd : FuncData} (F : Fun K "readings_of" "readings_of" S_readings_of f fd) (G : Gm mg) (A_ends_at : At P w K mg base 1 "ends_at" P_ends_at (SpP T cEnds)) (A_reached_places : At P w K mg base 2 "reached_places" P_reached_places (SpP T cReached)) : FnOk P w K mg base CX0 3 f fd P_readings_of (SpP T cReadings) := by
  refine F.ok sc_readings_of (fun vs H Q E h => ?_) (fun cdv A outer s H vs Q E hr h => ?_)
  · obtain ⟨R, ⟨_, _, _, _, rfl, _⟩, _⟩ := h
    rfl
  · obtain ⟨R, ⟨v1, v2, words, rows, rfl, h1, h2, hw, hrn, hne, hfew, rfl⟩, q⟩ := h
    refine ⟨_, (pss_cons (ps_set (i := 2) sc_readings_of.nd rfl (Or.inl rfl) (pe_fn A_reached_places (hr.mono (by decide)) (pa_cons (pv 0) (pa_cons (pv 1) pa_nil))))
    (pss_cons (ps_set (i := 3) sc_readings_of.nd rfl (Or.inl rfl) (pe_disp (pps_cons (pe_callB (lenK (K := K) rfl) (by rfl) G.n_len PySem.boot_len (pa_cons (pv 0) pa_nil)) (pe_disp1 hr.units (pe_tup pa_nil) pe_bl) pps_nil) rfl rfl (by simp) (by decide)))
    (pss_cons (ps_for PassesOwn.never rfl (pi_range3 rfl G.n_range (pa_cons (pe_op op_sub (pe_callB (lenK (K := K) rfl) (by rfl) G.n_len PySem.boot_len (pa_cons (pv 0) pa_nil)) pe_int) (pa_cons (pe_un un_neg pe_int) (pa_cons (pe_un un_neg pe_int) pa_nil)))) (pg_name (i := 4) sc_readings_of.nd rfl (Or.inl rfl))
      (pss_cons (ps_set (i := 5) sc_readings_of.nd rfl (Or.inl rfl) pe_dnewN)
      (pss_cons (ps_if (pt_cmp (pc_din (hu_of hr) (pv 4) (pv 2)))
        (pss_one (ps_for PassesOwn.never rfl (pi_listK (K := K) rfl (pe_fn A_ends_at (hr.mono (by decide)) (pa_cons (pv 0) (pa_cons (pv 4) (pa_cons (pv 1) pa_nil))))) (pg_tupK (K := K) (n := 2) rfl rfl (pgs_cons (pg_name (i := 6) sc_readings_of.nd rfl (Or.inl rfl)) (pgs_cons (pg_name (i := 7) sc_readings_of.nd rfl (Or.inl rfl)) pgs_nil)))
          (pss_one (ps_lock (ps_for PassesOwn.never rfl (pi_nd (pe_dget (hu_of hr) (pv 3) (pv 6) (fun _ _ => rfl))) (pg_name (i := 8) sc_readings_of.nd rfl (Or.inl rfl))
            (pss_one (ps_asg pe_bl (pg_sub (pv 5) (pe_op (catT (K := K) rfl) (pe_tup (pa_cons (pv 7) pa_nil)) (pv 8)) (set_nd hr.units)))))))))
        pss_nil)
      (pss_cons (ps_if (pt_cmpR op_gt (pe_callB call_nlen (by rfl) G.n_len PySem.boot_len (pa_cons (pv 5) pa_nil)) (pe_gi G.c_MOST_READINGS) (nomark _))
        (pss_one ps_never)
        pss_nil)
      (pss_one (ps_dput (hu_of hr) (pv 3) (pv 4) (pv 5) rfl))))))
    (pss_one (ps_ret (pe_callTy (call_nlist rfl) (by rfl) G.n_list (by decide +kernel) (pa_cons (pe_dget (hu_of hr) (pv 3) pe_int (fun _ _ => rfl)) pa_nil))))))), ?_⟩
    refine s_seq (s_asg (T := T) (R := fun v H' => ∃ a, v = .ref a ∧ H a = none ∧ PD H' a (Rch rows words) 20000) (e_fn (a_consR (e_t rfl h1) (fun _ _ _ x r => x.isT r) (a_any (e_l rfl h2))) fun vs H1 x1 hv => ?_) fun lr H1 x1 rr => ?_)
    · obtain ⟨u1, us1, rfl, hu1, u2, rfl, hu2⟩ := hv
      refine ⟨_, ⟨u1, u2, words, rows, rfl, hu1, hu2, by omega, hrn, hne, rfl⟩, fun v H2 r => ?_⟩
      obtain ⟨a, e, h0, hp⟩ := r
      exact ⟨a, e, x1.free _ h0, hp⟩
    obtain ⟨pr, rfl, pr0, hpr⟩ := rr
    refine s_seq (s_asg (T := T) (e_dispS (P := P) (w := w) (n := words.length) (l := [.tup []]) (fun H' x => e_lenT (e_t rfl ((x1.trans x).isT h1))) fun H' x => e_disp1 (ds := []) (fun H2 x2 => e_tup a_nil (by decide)) (by decide)) fun ll H2 x2 rl => ?_)
    obtain ⟨pl, a0, rfl, pl0, hpl, ha0, hs0⟩ := rl
    have x12 := x1.trans x2
    obtain ⟨al, us, rfl, hal, hus⟩ := x12.isL h2
    have hprl : pr ≠ pl := by
      rintro rfl
      obtain ⟨kvs, g1, _⟩ := hpr
      rw [g1] at pl0
      cases pl0
    have hall : al ≠ pl := by
      rintro rfl
      obtain ⟨a', us', e', ha', _⟩ := x1.isL h2
      cases e'
      rw [pl0] at ha'
      cases ha'
    dsimp only
    refine s_seq (f_range3 (T := T) (n := words.length) (e_I0 (e_lenT (e_t rfl (x12.isT h1))) e_int).num (e_neg e_int) (e_neg e_int) (by omega) fun H3 x3 => ⟨fun i σ' H' => ∃ z4 z5 z6 z7 z8 kvs, σ' = [some v1, some (.ref al), some (.ref pr), some (.ref pl), z4, z5, z6, z7, z8] ∧ Ext T [pl] H3 H' ∧ H' pl = some (.dK kvs) ∧ kvs.length ≤ i + 1 ∧
      ∀ n, words.length - i ≤ n → n ≤ words.length → ∃ a l, valV kvs (Sum.inl (n : Int) : Key) = some (.ref a) ∧ a ≠ pl ∧ NS P w H' a (l.map eR) ∧ (Rch rows words n ∨ n = words.length → RS rows words n l), ⟨none, none, none, none, none, _, rfl, Ext.refl _, x3.keep pl _ (by simp) hpl fun _ z => (nomatch z), Nat.le_refl 1, fun n h1 h2 => ?_⟩, fun i σ' H' hi hP => ?_, fun σ' H' hP => ?_⟩)
    · have : n = words.length := by omega
      subst this
      exact ⟨a0, [[]], valV_pos rfl, ha0, x3.ns hs0 (by simp), fun _ => RS.last hne⟩
    · obtain ⟨z4, z5, z6, z7, z8, kvs, rfl, e, hpl', hkl, hall'⟩ := hP
      obtain ⟨at_, hat⟩ : ∃ at_, words.length - 1 - i = at_ := ⟨_, rfl⟩
      rw [hat]
      have hatl : at_ < words.length := by omega
      show tSeq _ _ _ _ _
      refine s_seq (s_asg (T := T) e_dnewN fun lf H4 x4 rf => ?_)
      obtain ⟨pf, rfl, pf0, pf1⟩ := rf
      have hpl4 : H4 pl = some (.dK kvs) := x4.keep pl _ (by simp) hpl' fun _ z => nomatch z
      have hpfl : pl ≠ pf := by
        rintro rfl
        rw [hpl'] at pf0
        cases pf0
      have hpr4 : PD H4 pr (Rch rows words) 20000 := x4.pd (e.pd ((x2.trans x3).pd hpr (by simp)) (by simpa using hprl)) (by simp)
      have i1 : IsD H4 v1 (eT words) := IsD.mono ((x12.trans x3).tup.trans (e.tup.trans x4.tup)) h1
      have hal4 : isL (rows.map eE) (.ref al) H4 := ⟨al, us, rfl, x4.lst (e.lst (x3.lst hal (by simp)) (by simpa using hall)) (by simp), hus.mono ((x3.tup.trans e.tup).trans x4.tup)⟩
      have hs4 : NS P w H4 pf [] := ⟨[], pf1, fun _ h => (nomatch h), rfl⟩
      -- the places behind
      have behind : ∀ n, at_ < n → n ≤ words.length → ∃ a l, valV kvs (Sum.inl (n : Int) : Key) = some (.ref a) ∧ a ≠ pl ∧ a ≠ pf ∧ NS P w H4 a (l.map eR) ∧ (Rch rows words n ∨ n = words.length → RS rows words n l) := by
        intro n h1 h2
        obtain ⟨a, l, g1, g2, g3, g4⟩ := hall' n (by omega) h2
        refine ⟨a, l, g1, g2, ?_, x4.ns g3 (by simp), g4⟩
        rintro rfl
        obtain ⟨ks, k1, _⟩ := g3
        rw [k1] at pf0
        cases pf0
      obtain ⟨fr, hfr⟩ : ∃ fr : Nat → List (List Tx), ∀ n, at_ < n → n ≤ words.length → ∃ a, valV kvs (Sum.inl (n : Int) : Key) = some (.ref a) ∧ a ≠ pl ∧ a ≠ pf ∧ NS P w H4 a ((fr n).map eR) ∧ (Rch rows words n ∨ n = words.length → RS rows words n (fr n)) := by
        refine ⟨fun n => if h : at_ < n ∧ n ≤ words.length then (behind n h.1 h.2).choose_spec.choose else [], fun n h1 h2 => ?_⟩
        have e1 : (if h : at_ < n ∧ n ≤ words.length then (behind n h.1 h.2).choose_spec.choose else []) = (behind n h1 h2).choose_spec.choose := dif_pos ⟨h1, h2⟩
        simp only [e1]
        exact ⟨_, (behind n h1 h2).choose_spec.choose_spec⟩
      -- the end of a turn
      have fin : ∀ (z6 z7 z8 : Option V) (l : List (List Tx)) (H5 H6 : Hp), Ext T [pf] H4 H5 → NS P w H5 pf (l.map eR) → (Rch rows words at_ → RS rows words at_ l) → Ext T [pl] H5 H6 → H6 pl = some (.dK (putK kvs (Sum.inl (at_ : Int)) (.ref pf))) →
          ∃ z4 z5 z6' z7' z8' kvs', [some v1, some (.ref al), some (.ref pr), some (.ref pl), some (.int (at_ : Int)), some (.ref pf), z6, z7, z8] = [some v1, some (.ref al), some (.ref pr), some (.ref pl), z4, z5, z6', z7', z8'] ∧ Ext T [pl] H3 H6 ∧ H6 pl = some (.dK kvs') ∧ kvs'.length ≤ i + 1 + 1 ∧
            ∀ n, words.length - (i + 1) ≤ n → n ≤ words.length → ∃ a l, valV kvs' (Sum.inl (n : Int) : Key) = some (.ref a) ∧ a ≠ pl ∧ NS P w H6 a (l.map eR) ∧ (Rch rows words n ∨ n = words.length → RS rows words n l) := by
        intro z6 z7 z8 l H5 H6 x5 s5 hRS x6 hp6
        refine ⟨_, _, z6, z7, z8, _, rfl, (e.trans (x4.loc x5 pf0).wide).trans x6, hp6, by have := length_putK kvs (Sum.inl (at_ : Int) : Key) (.ref pf); omega, fun n g1 g2 => ?_⟩
        by_cases hn : n = at_
        · subst hn
          exact ⟨pf, l, by rw [valV_put, if_pos rfl], hpfl.symm, x6.ns s5 (by simpa using hpfl.symm), fun z => hRS (z.elim id fun z => absurd z (by omega))⟩
        · obtain ⟨a, k1, k2, k3, k4, k5⟩ := hfr n (by omega) g2
          exact ⟨a, fr n, by rw [valV_put, if_neg (fun z => hn (by have := Sum.inl.inj z; omega))]; exact k1, k2, x6.ns (x5.ns k4 (by simpa using k3)) (by simpa using k2), k5⟩
      dsimp only
      obtain ⟨b, hb, hbi⟩ := e_pin (T := T) (σ := [some v1, some (.ref al), some (.ref pr), some (.ref pl), some (.int (at_ : Int)), some (.ref pf), z6, z7, z8]) (i1 := 4) (i2 := 2) rfl rfl hpr4
      refine s_seq (s_if (T := T) (t_test hb) (fun hbt H5 x5 => ?_) fun hbf H5 x5 => ?_)
      · have hR := hbi.mp hbt
        have place : ∀ e ∈ endsAt words at_ rows, at_ < e.1 ∧ e.1 ≤ words.length ∧ RS rows words e.1 (fr e.1) := fun e he => by
          obtain ⟨p, hp, hs, rfl⟩ := mem_endsAt.mp he
          have h3 := Stands.le hs (hne p hp)
          have h4 : 0 < p.1.length := List.length_pos_iff.mpr (hne p hp)
          obtain ⟨a, k1, k2, k3, k4, k5⟩ := hfr (at_ + p.1.length) (by omega) h3
          exact ⟨by show at_ < at_ + _; omega, h3, k5 (.inl (.step hR hp hs))⟩
        have parse : ∀ e ∈ endsAt words at_ rows, ∀ r ∈ fr e.1, ∃ ρ, Prs rows (words.drop at_) ρ ∧ acts ρ = e.2 :: r := fun e he r hr => by
          obtain ⟨ρ, hρ, rfl⟩ := ((place e he).2.2.2 r).mp hr
          obtain ⟨p, hp, hs, rfl⟩ := mem_endsAt.mp he
          exact ⟨p :: ρ, prs_cons hp hs hρ, rfl⟩
        have few : ∀ L' : List (List Tx), L'.Nodup → (∀ x ∈ L', ∃ e ∈ endsAt words at_ rows, ∃ r ∈ fr e.1, x = e.2 :: r) → L'.length ≤ 200 := fun L' hn hs => hfew at_ hR L' hn fun x hx => by
          obtain ⟨e, he, r, hr, rfl⟩ := hs x hx
          exact parse e he r hr
        refine rd_fill (T := T) (f := fr) (x5.isT i1) (x5.isL hal4) (by omega) (x5.keep pl _ (by simp) hpl4 fun _ z => nomatch z) hpfl (x5.ns hs4 (by simp)) (fun e he => ?_) few (fun e he r hr => ?_) fun z6 z7 z8 L H6 x6 s6 n6 m6 => ?_
        · obtain ⟨p1, p2, _⟩ := place e he
          obtain ⟨a, k1, k2, k3, k4, _⟩ := hfr e.1 p1 p2
          exact ⟨a, k1, k2, k3, x5.ns k4 (by simp)⟩
        · obtain ⟨ρ, hρ, e1⟩ := parse e he r hr
          have h1 := prs_len hne hρ
          have h2 := congrArg List.length e1
          rw [List.length_map, List.length_cons] at h2
          rw [List.length_drop] at h1
          omega
        · have hRS : RS rows words at_ L := RS.place hatl n6 (fun e he => (place e he).2.2) m6
          dsimp only
          refine rd_tail (T := T) (n := at_) ((x5.wide.trans x6).keep pl _ (by simpa using hpfl) hpl4 fun _ z => nomatch z) s6 (few L n6 fun x hx => (m6 x).mp hx) (by omega) fun H7 x7 h7 => ?_
          exact fin z6 z7 z8 L H6 H7 (x5.wide.trans x6) s6 (fun _ => hRS) x7 h7
      · have hnr : ¬ Rch rows words at_ := fun z => by rw [hbi.mpr z] at hbf; cases hbf
        dsimp only
        show tSeq _ _ _ _ _
        refine rd_tail (T := T) (n := at_) (l := []) (x5.keep pl _ (by simp) hpl4 fun _ z => nomatch z) (x5.ns hs4 (by simp)) (by decide) (by omega) fun H7 x7 h7 => ?_
        exact fin z6 z7 z8 [] H5 H7 x5.wide (x5.ns hs4 (by simp)) (fun z => absurd z hnr) x7 h7
    · obtain ⟨z4, z5, z6, z7, z8, kvs, rfl, e, hpl', hkl, hall'⟩ := hP
      obtain ⟨a, l, g1, g2, g3, g4⟩ := hall' 0 (by omega) (by omega)
      dsimp only
      refine s_ret (T := T) (e_nlistS (a := a) (l := l.map eR) (e_dgetI (n := 0) (e_v rfl) e_c hpl' g1) g3) fun v H4 x4 r => ?_
      have xx := (x12.trans x3).loc e (x1.free _ pl0)
      exact q v H4 (xx.trans x4) ⟨l, isLN_back r xx.free, g4 (.inl .zero)⟩
end
end Sf

set_option Elab.async false
set_option linter.all false
set_option maxRecDepth 100000
set_option maxHeartbeats 4000000
/-! enumerate(tuple) (after the kit's rules for lists). -/
namespace Sf
open PySem PySem.Spec PyProof.Rows L2 LamX
theorem meets_enum1 {v : Value} {o : Obj} {H : Heap → Prop} (B : PySem.Begins v o H) :
    Meets (Builtin.«enumerate.__new__» ⟨[.type "enumerate", v], []⟩) (fun _ R s => H s.heap ∧
      R (.ok (.ret (.ref (s.heap.push o).objs.size))) { s with heap := (s.heap.push o).push { cls := .type "enumerate", data := .fields #[.none, .bool false, .ref s.heap.objs.size, rawInt 0, .none, .none] } }) :=
  .of_wp fun prog w A R s h => by
    obtain ⟨hp, g, d, tk, os⟩ := s; obtain ⟨h1, h⟩ := h
    have hsub := sub_enumerate
    have q1 : ∀ {A' : Around} {E : Value → Shared → Prop} {Q : Value → Shared → Prop}, Q (.ref hp.objs.size) ⟨hp.push o, g, d, tk, os⟩ → wpAny (model prog w) A' (pyIter v) Q E ⟨hp, g, d, tk, os⟩ :=
      fun q => B.iter prog w _ _ ⟨hp, g, d, tk, os⟩ _ h1 q
    wp_walk using q1
    refine wpAny_stack_any fun st => wpAny_pure ?_
    split
    · rename_i c _ _ _ _ _
      cases (c == Value.type "enumerate")
      · wp_walk using q1
        exact ⟨_, rfl, h⟩
      · wp_walk using q1
        exact ⟨_, rfl, h⟩
    · wp_walk using q1
      exact ⟨_, rfl, h⟩
theorem call_enum1 {prog : Program} {w : World} {A : Around} {E : Value → Shared → Prop} {s : Shared} {v : Value} {o : Obj} {H : Heap → Prop} {Q : Value → Shared → Prop} (B : PySem.Begins v o H) (h1 : H s.heap)
    (h : ∀ h', IsEnum h' (s.heap.objs.size + 1) s.heap.objs.size 0 .none → h'.get? s.heap.objs.size = some o → h'.objs.size = s.heap.objs.size + 2 →
      (∀ b o, s.heap.get? b = some o → h'.get? b = some o) → Q (.ref (s.heap.objs.size + 1)) { s with heap := h' }) :
    wpAny (model prog w) A (call (.type "enumerate") [v]) Q E s := by
  refine callType_new F.called_enumerate (by decide) (F.typeCall_enumerate_1 _) (F.newCall_enumerate_1 _) (fun obj => F.args_object_init_2 obj _) F.entry_enumerate_new
    (meets_enum1 B) ⟨h1, ?_⟩
  have hz : (s.heap.push o).objs.size = s.heap.objs.size + 1 := Heap.size_push ..
  show _ ∧ _
  rw [hz]
  have he : IsEnum ((s.heap.push o).push { cls := .type "enumerate", data := .fields #[.none, .bool false, .ref s.heap.objs.size, rawInt 0, .none, .none] }) (s.heap.objs.size + 1) s.heap.objs.size 0 .none := by
    have := Heap.get?_push_size (s.heap.push o) (o := { cls := .type "enumerate", data := .fields #[.none, .bool false, .ref s.heap.objs.size, rawInt 0, .none, .none] }) rfl
    rw [hz] at this; exact this
  refine ⟨⟨_, he, rfl⟩, h _ he (Heap.get?_push_of_some _ (Heap.get?_push_size _ B.free)) (by rw [Heap.size_push, hz]) fun b o x => Heap.get?_push_of_some _ (Heap.get?_push_of_some _ x)⟩
/-- the tuple at a, each item in a new pair -/
def IteT (K : PySem.W.Frag) (a : Addr) : It :=
  ⟨fun i H => ∃ (xs : List V) (x : V), SqT K H a xs ∧ xs[i]? = some x, fun i H v H' => ∃ T x, v = .ref T ∧ H T = none ∧ H' = upd H T (.tup [.int (i : Nat), x]) ∧ ∀ xs, SqT K H a xs → xs[i]? = some x, fun i H => ∃ xs : List V, SqT K H a xs ∧ xs.length = i⟩
theorem turn_enumT {P : Program} {w : World} {K : PySem.W.Frag} {elts : List Expr} {kk : Nat} {tpos : Pos} (a e it : Addr) (hat : a ≠ it) (hae : a ≠ e) :
    Turn P w K (.Tuple elts kk tpos) (IteT K a) [e, it] e (fun i h => (∃ old, IsEnum h e it ((i : Nat) : Int) old) ∧ h.IsTupleIter it a i ∧ e ≠ it) where
  mem := by simp
  obj := fun i h st b hb => by
    obtain ⟨⟨old, he⟩, ⟨o, ho, hc, hd⟩, _⟩ := st
    have e' : b = e ∨ b = it := by simpa using hb
    rcases e' with z | z
    · rw [z]; exact ⟨_, he, fun v q => nomatch q⟩
    · rw [z]; exact ⟨o, ho, fun v q => by rw [hd] at q; cases q⟩
  keep := fun i h h' st k => let ⟨⟨old, he⟩, hi, hne⟩ := st; ⟨⟨old, k e (by simp) _ he⟩, hi.at fun o q => k it (by simp) o q, hne⟩
  item := by
    intro X hP hw hK hc i pins s σ H E I hf st hg
    subst hP hw hK
    obtain ⟨⟨old, he⟩, hit, hne⟩ := st
    obtain ⟨xs, x, hq, hx⟩ := hg
    obtain ⟨its, rv, p, hz⟩ := I.tuple hq
    obtain ⟨u, hu, ru⟩ := rv.get hx
    have hel : e < s.heap.objs.size := Heap.lt_size he
    have hil : it < s.heap.objs.size := by obtain ⟨_, q, _⟩ := hit; exact Heap.lt_size q
    have hlt : i < its.toArray.size := by rw [List.size_toArray]; exact (List.getElem?_eq_some_iff.mp hu).1
    have D := Draws.tuple (prog := X.prog) (w := X.w) (A := X.A.in1) (I.ok.hd hc) it a hat its.toArray
    refine wpAny_pyNext_enum_itemC D he ⟨hit, p⟩ hlt hne (by simp [hne, hae.symm]) fun y h' tk hy ho hst hT hsz hk => ?_
    have hy' : u = y := by
      have hy2 : its[i]? = some y := by simpa using hy
      rw [hu] at hy2
      exact Option.some.inj hy2
    subst hy'
    refine ⟨_, rfl, wpAny_letOwnedTupleGo_enum (s := { s with heap := h', toks := tk + 1 }) ho fun h'' he' sb => ?_⟩
    have hT2 : h''.get? s.heap.objs.size = some { cls := .type "tuple", data := .seq #[.int i tk, u] } := (sb.2 _ (Nat.ne_of_gt hel)).trans hT
    have new : ObjOk X.prog X.w (upd H s.heap.objs.size (.tup [.int (i : Nat), x])) h'' s.heap.objs.size (.tup [.int (i : Nat), x]) :=
      ⟨by show 2 ≤ sizeLine; decide, [.int i tk, u], .cons ⟨_, rfl⟩ (.cons ru .nil), ⟨_, hT2, rfl, _, rfl⟩⟩
    have I1 : L2.Inv X pins σ (upd H s.heap.objs.size (.tup [.int (i : Nat), x])) { s with heap := h'', toks := tk + 1 } :=
      I.turnedNew (ch := [e, it]) (fun b ob hb q => (sb.2 b (fun z => hb (by simp [z]))).trans (hk b ob (fun z => hb (by simp [z])) (fun z => hb (by simp [z])) q)) hf (Nat.le_refl _) new
    refine ⟨.ref s.heap.objs.size, _, I1, rfl, ⟨_, x, rfl, I.hok.fresh (Nat.le_refl _), rfl, fun ys hy => by rw [I.tuple_inj hy hq]; exact hx⟩, ⟨⟨u, ?_⟩, hst.1.at fun o q => (sb.2 it (Ne.symm hne)).trans q, hne⟩, fun b hb => ?_⟩
    · have e1 : ((i + 1 : Nat) : Int) = (i : Int) + 1 := by omega
      rw [e1]; exact he'
    · have hb' : b < s.heap.objs.size := by
        have e' : b = e ∨ b = it := by simpa using hb
        rcases e' with z | z
        · rw [z]; exact hel
        · rw [z]; exact hil
      rw [upd_ne (Nat.ne_of_lt hb')]
      exact (hf b hb).1
  done := by
    intro X hP hw hK hc i pins s σ H E I hf st hg
    subst hP hw hK
    obtain ⟨⟨old, he⟩, hit, hne⟩ := st
    obtain ⟨xs, hq, hx⟩ := hg
    obtain ⟨its, rv, p, hz⟩ := I.tuple hq
    obtain ⟨f0, f1, f2, f3, f4, f5⟩ := hf it (by simp)
    have hl := rv.length
    have hs : i = its.toArray.size := by rw [List.size_toArray]; omega
    subst hs
    have D := Draws.tuple (prog := X.prog) (w := X.w) (A := X.A.in1) (I.ok.hd hc) it a hat its.toArray
    exact wpAny_pyNext_enum_endD D he ⟨hit, p⟩ fun h' eb => ⟨rfl, I.turned (t' := s.toks) (fun b o hb q => eb b o hb q) f0 f1 f3 f4 f5⟩
  self := fun A i s Q E st h => let ⟨⟨_, he⟩, _⟩ := st; wpAny_pyIter_enum he h
def iEnumT (K : PySem.W.Frag) (ta : TA) : TI := fun σ H R => ta σ H fun vs H1 => ∃ a xs, vs = [.ref a] ∧ SqT K H1 a xs ∧ R (IteT K a) H1
theorem pi_enumT {X : Cx} {e : Expr} {ta : TA} {p pos tpos : Pos} {elts : List Expr} {kk : Nat} (hg : Gl X "enumerate") (hm : X.mg "enumerate" = none) (ha : PA X [e] ta) (hs : starEach [e] X.env = [(false, eval e X.env)] := by rfl) :
    PI X (.Tuple elts kk tpos) (.Call (.Name "enumerate" p) [e] [] pos) (iEnumT X.K ta) := by
  refine ⟨fun pins s σ H R I h => ?_⟩
  refine Call_ (ld_blt I hg hm boot_enumerate (PyProof.Rows.callWith_type1 (thn (ha.run pos pins s σ H _ I h) fun us s1 ⟨vs, H1, I1, r1, q1⟩ => ?_) hs rfl))
  obtain ⟨a, xs, ex, hq, q⟩ := q1
  subst ex
  cases r1 with
  | cons r rr =>
    cases rr
    cases r
    obtain ⟨its, rv, p', hz⟩ := I1.tuple hq
    have hal : a < s1.heap.objs.size := by obtain ⟨o, ho, _⟩ := id p'; exact Heap.lt_size ho
    refine call_enum1 (begins_tuple a its.toArray) p' fun h' he hit hsz hk => wpAny_pyIter_enum he ?_
    have I2 : L2.Inv X pins σ H1 { s1 with heap := h' } := I1.kept (t' := s1.toks) hk
    refine ⟨s1.heap.objs.size + 1, [s1.heap.objs.size + 1, s1.heap.objs.size], _, _, H1, rfl, I2, turn_enumT a (s1.heap.objs.size + 1) s1.heap.objs.size (Nat.ne_of_lt hal) (Nat.ne_of_lt (Nat.lt_succ_of_lt hal)), ⟨⟨.none, he⟩, ⟨_, hit, rfl, rfl⟩, Nat.succ_ne_self _⟩, fun b hb => ?_, q⟩
    have e' : b = s1.heap.objs.size + 1 ∨ b = s1.heap.objs.size := by simpa using hb
    have hle : s1.heap.objs.size ≤ b := by
      rcases e' with z | z
      · rw [z]; exact Nat.le_add_right _ _
      · rw [z]; exact Nat.le_refl _
    exact I1.fpOk hle (I1.hok.fresh hle)
theorem walk_enumT {K : PySem.W.Frag} {a : Addr} {xs : List V} : Walk (IteT K a) xs.length (fun H => SqT K H a xs) (fun i H v H' => ∃ T x, v = .ref T ∧ H T = none ∧ H' = upd H T (.tup [.int (i : Nat), x]) ∧ xs[i]? = some x) :=
  ⟨fun i _ hi q => ⟨xs, xs[i], q, by simp [hi]⟩, fun _ q => ⟨xs, q, rfl⟩, fun _ _ _ _ _ q y => let ⟨T, x, a, b, c, d⟩ := y; ⟨T, x, a, b, c, d xs q⟩⟩
theorem f_enumT {T : List Tab} {K : PySem.W.Frag} {σ : L2.St} {H : Hp} {ta : TE} {tu : TS} {ds : List D} {E : Ends} {i1 i2 : Nat} (h : EvR T ta σ H (isT (.tup ds))) (k : ∀ H1, Ext T [] H H1 → ∃ (ex : List Addr) (Pv : Nat → L2.St → Hp → Prop), Pv 0 σ H1 ∧ (∀ i σ' H', Pv i σ' H' → Ext T ex H1 H') ∧
      (∀ i d x σ' H' H'', ds[i]? = some d → IsD H'' x d → Ext T [] H' H'' → Pv i σ' H' → tu { E with nx := Pv (i + 1), ct := Pv (i + 1), bk := E.nx } ((σ'.set i1 (some (.int (i : Int)))).set i2 (some x)) H'') ∧ (∀ σ' H', Pv ds.length σ' H' → E.nx σ' H')) :
    tFor (iEnumT K (tCons ta tNil)) (gTup K 2 (gCons (gName i1) (gCons (gName i2) gNil))) tu E σ H := h.run fun v H1 x r => by
  obtain ⟨a, vs, rfl, ha, hvs⟩ := r.tup_inv
  obtain ⟨ex, Pv, h0, hG, hs, hd⟩ := k H1 x
  refine ⟨a, vs, rfl, SqT.of ha, for_it (walk_enumT (xs := vs)) Pv h0 (fun i σ' H' _ p => SqT.of ((hG i σ' H' p).tup _ _ ha)) (fun i y σ' H' H'' hi p hy => ?_) fun σ' H' p => hd σ' H' (by rw [← hvs.length]; exact p)⟩
  obtain ⟨t, u, rfl, ht, rfl, eu⟩ := hy
  obtain ⟨d, e1, e2⟩ := hvs.getV eu
  have x2 : Ext T [] H' (upd H' t (.tup [V.int (i : Int), u])) := Ext.new ht
  exact ⟨t, _, rfl, SqT.of upd_same, rfl, _, _, rfl, _, _, rfl, rfl, hs i d u σ' H' _ e1 (IsD.mono ((hG i σ' H' p).tup.trans x2.tup) e2) x2 p⟩
end Sf

set_option Elab.async false
set_option linter.all false
set_option maxRecDepth 100000
set_option maxHeartbeats 4000000
/-! places_of_acts, meanings_of, meanings. -/
namespace Sf
open PySem L2 LamX NdefX
abbrev S_places_of_acts : Stmt := topS 26
abbrev N_places_of_acts : List Str := ["phrases", "found", "at", "phrase"]
abbrev P_places_of_acts : List Str := ["phrases"]
theorem sc_places_of_acts : FnScope N_places_of_acts P_places_of_acts (defScope S_places_of_acts) := ⟨rfl, rfl, rfl, by decide +kernel, rfl, by decide +kernel, by decide +kernel⟩
abbrev S_meanings_of : Stmt := topS 27
abbrev N_meanings_of : List Str := ["phrases", "utterance", "words", "places", "found"]
abbrev P_meanings_of : List Str := ["phrases", "utterance"]
theorem sc_meanings_of : FnScope N_meanings_of P_meanings_of (defScope S_meanings_of) := ⟨rfl, rfl, rfl, by decide +kernel, rfl, by decide +kernel, by decide +kernel⟩
abbrev S_meanings : Stmt := topS 28
abbrev N_meanings : List Str := ["form", "phrases", "utterance", "told"]
abbrev P_meanings : List Str := ["form", "phrases", "utterance"]
theorem sc_meanings : FnScope N_meanings P_meanings (defScope S_meanings) := ⟨rfl, rfl, rfl, by decide +kernel, rfl, by decide +kernel, by decide +kernel⟩
/-! ### the places of acts -/
def addM (m : List (D × D)) (x : Ph × Nat) : List (D × D) := if eT x.1.2 ∈ m.map (·.1) then m else m ++ [(eT x.1.2, .num (x.2 : Int))]
def plM (ps : List Ph) : List (D × D) := ps.zipIdx.foldl addM []
def placeOf (ps : List Ph) (act : Tx) : Int := match findK (plM ps) (eT act) with | some (.num i) => i | _ => 0
theorem findK_mem {m : List (D × D)} {k : D} (h : k ∈ m.map (·.1)) : ∃ d, findK m k = some d ∧ (k, d) ∈ m := by
  induction m with
  | nil => simp at h
  | cons p m ih =>
    unfold findK
    by_cases e : p.1 = k
    · rw [List.find?_cons_of_pos (by simpa using e)]
      refine ⟨p.2, rfl, ?_⟩
      rw [← e]
      exact List.mem_cons_self
    · rw [List.find?_cons_of_neg (by simpa using e)]
      rw [List.map_cons, List.mem_cons] at h
      obtain ⟨d, h1, h2⟩ := ih (h.elim (fun z => absurd z.symm e) id)
      exact ⟨d, h1, List.mem_cons_of_mem _ h2⟩
theorem addM_old {m : List (D × D)} {x : Ph × Nat} (h : eT x.1.2 ∈ m.map (·.1)) : addM m x = m := if_pos h
theorem addM_put {m : List (D × D)} {x : Ph × Nat} (h : eT x.1.2 ∉ m.map (·.1)) : addM m x = putM m (eT x.1.2) (.num (x.2 : Int)) := by
  unfold addM putM
  rw [if_neg h, if_neg h]
theorem addM_num {m : List (D × D)} (h : ∀ q ∈ m, ∃ j : Int, q.2 = .num j) (x : Ph × Nat) : ∀ q ∈ addM m x, ∃ j : Int, q.2 = .num j := fun q hq => by
  unfold addM at hq
  split at hq
  · exact h q hq
  · rcases List.mem_append.mp hq with hq | hq
    · exact h q hq
    · rw [List.mem_singleton.mp hq]
      exact ⟨_, rfl⟩
theorem addM_keys {m : List (D × D)} {x : Ph × Nat} {k : D} (h : k ∈ m.map (·.1) ∨ k = eT x.1.2) : k ∈ (addM m x).map (·.1) := by
  unfold addM
  split
  · rename_i h2
    rcases h with h | h
    · exact h
    · rw [h]; exact h2
  · rw [List.map_append, List.mem_append]
    exact h.imp id fun h => by simp [h]
theorem plM_num (l : List (Ph × Nat)) : ∀ m : List (D × D), (∀ q ∈ m, ∃ j : Int, q.2 = .num j) → ∀ q ∈ l.foldl addM m, ∃ j : Int, q.2 = .num j := by
  induction l with
  | nil => exact fun m h => h
  | cons x l ih => exact fun m h => ih _ (addM_num h x)
theorem plM_keys (l : List (Ph × Nat)) : ∀ (m : List (D × D)) (k : D), (k ∈ m.map (·.1) ∨ ∃ x ∈ l, k = eT x.1.2) → k ∈ (l.foldl addM m).map (·.1) := by
  induction l with
  | nil =>
    intro m k h
    rcases h with h | ⟨x, hx, _⟩
    · exact h
    · cases hx
  | cons x l ih =>
    intro m k h
    refine ih _ k ?_
    rcases h with h | ⟨y, hy, e⟩
    · exact .inl (addM_keys (.inl h))
    · rcases List.mem_cons.mp hy with rfl | hy
      · exact .inl (addM_keys (.inr e))
      · exact .inr ⟨y, hy, e⟩
theorem place_is {ps : List Ph} {p : Ph} (h : p ∈ ps) : findK (plM ps) (eT p.2) = some (.num (placeOf ps p.2)) := by
  obtain ⟨i, hi⟩ := List.getElem?_of_mem h
  have hz : (p, i) ∈ ps.zipIdx := by
    have : ps.zipIdx[i]? = some (p, i) := by rw [List.getElem?_zipIdx, hi]; simp
    exact List.mem_of_getElem? this
  obtain ⟨d, h1, h2⟩ := findK_mem (plM_keys ps.zipIdx [] (eT p.2) (.inr ⟨_, hz, rfl⟩))
  obtain ⟨j, e⟩ := plM_num ps.zipIdx [] (fun _ h => (nomatch h)) _ h2
  have e' : d = .num j := e
  subst e'
  have h1' : findK (plM ps) (eT p.2) = some (.num j) := h1
  unfold placeOf
  rw [h1']
def cPlaces (P : Program) (w : World) : List V → Hp → RP → Prop := fun vs H R => ∃ (v : V) (ps : List Ph), vs = [v] ∧ IsD H v (ePs ps) ∧ ps.length ≤ 1000 ∧ R = fun v H' => ∃ a, v = .ref a ∧ H a = none ∧ NM P w H' a (plM ps)
section
variable {T : List Tab} {P : Program} {w : World} {K : PySem.W.Frag} {mg : Str → Option Value} {base : Heap} {C : Addr}
theorem ok_places_of_acts {f : Addr} {fd : FuncData} (F : Fun K "places_of_acts" "places_of_acts" S_places_of_acts f fd) (G : Gm mg) : FnOk P w K mg base CX0 1 f fd P_places_of_acts (SpP T (cPlaces P w)) := by
  refine F.ok sc_places_of_acts (fun vs H Q E h => ?_) (fun cdv A outer s H vs Q E hr h => ?_)
  · obtain ⟨R, ⟨_, _, rfl, _⟩, _⟩ := h
    rfl
  · obtain ⟨R, ⟨v1, ps, rfl, h1, hn, rfl⟩, q⟩ := h
    refine ⟨_, (pss_cons (ps_set (i := 1) sc_places_of_acts.nd rfl (Or.inl rfl) pe_dnewN)
    (pss_cons (ps_for PassesOwn.never rfl (pi_enumT (by rfl) G.n_enumerate (pa_cons (pv 0) pa_nil)) (pg_tupK (K := K) (n := 2) rfl rfl (pgs_cons (pg_name (i := 2) sc_places_of_acts.nd rfl (Or.inl rfl)) (pgs_cons (pg_name (i := 3) sc_places_of_acts.nd rfl (Or.inl rfl)) pgs_nil)))
      (pss_one (ps_expr (pe_nsetdef hr.units (pv 1) (pe_ix (ixT (K := K) rfl) (pv 3) pe_int (fun _ _ => rfl)) (pv 2) ⟨rfl, rfl, rfl, rfl⟩))))
    (pss_one (ps_ret (pv 1))))), ?_⟩
    refine s_seq (s_asg (T := T) e_dnewN fun lf H1 x1 rf => ?_)
    obtain ⟨pf, rfl, pf0, pf1⟩ := rf
    refine s_seq (f_enumT (T := T) (ds := ps.map eP) (e_t rfl (x1.isT h1)) fun H2 x2 => ⟨[pf], fun i σ' H' => ∃ z2 z3, σ' = [some v1, some (.ref pf), z2, z3] ∧ Ext T [pf] H2 H' ∧ NM P w H' pf ((ps.zipIdx.take i).foldl addM []) ∧ ((ps.zipIdx.take i).foldl addM []).length ≤ i,
      ⟨none, none, rfl, Ext.refl _, x2.nm ⟨[], pf1, fun _ h => (nomatch h), rfl, .nil⟩ (by simp), by simp⟩, fun i σ' H' hP => ?_, fun i d x σ' H' H'' hd hx xx hP => ?_, fun σ' H' hP => ?_⟩)
    · obtain ⟨_, _, _, e, _⟩ := hP
      exact e
    · obtain ⟨z2, z3, rfl, e, hm, hl⟩ := hP
      rw [List.getElem?_map] at hd
      obtain ⟨p, hp, rfl⟩ := Option.map_eq_some_iff.mp hd
      have hi : i < ps.length := (List.getElem?_eq_some_iff.mp hp).1
      have htk : ps.zipIdx.take (i + 1) = ps.zipIdx.take i ++ [(p, i)] := by
        rw [List.take_add_one, List.getElem?_zipIdx, hp]
        simp
      have hm2 := xx.nm hm (by simp)
      obtain ⟨ks, k1, k2, k3, k4⟩ := hm2
      show tDrop _ _ _ _
      refine ⟨_, rfl, pf, ks, rfl, k1, k2, ?_⟩
      refine (e_ix (T := T) (K := K) (i := 1) (x := eT p.2) (e_t rfl hx) e_int rfl).run fun y H3 x3 r3 => ⟨_, rfl, ?_⟩
      obtain ⟨b, vs, rfl, _⟩ := r3.tup_inv
      obtain ⟨ks', j1, j2, j3, j4⟩ := (xx.trans x3).nm hm (by simp)
      have hkl : ks'.length ≤ i := by
        have := congrArg List.length j3
        rw [List.length_map, List.length_map] at this
        omega
      refine ⟨eT p.2, b, ks', rfl, r3, by rw [eT_depth]; decide, j1, j2, sz' (by omega), fun v hv => ?_, fun hv => ?_⟩
      · have hin : eT p.2 ∈ ((ps.zipIdx.take i).foldl addM []).map (·.1) := by
          rw [← j3]
          have := val_isSome (ks := ks') (k := eT p.2)
          rw [hv] at this
          exact of_decide_eq_true this.symm
        have ee : (ps.zipIdx.take (i + 1)).foldl addM [] = (ps.zipIdx.take i).foldl addM [] := by
          rw [htk, List.foldl_append]
          exact addM_old (x := (p, i)) hin
        refine ⟨_, _, rfl, e.trans (xx.trans x3).wide, ?_, ?_⟩
        · rw [ee]; exact ⟨ks', j1, j2, j3, j4⟩
        · rw [ee]; omega
      · have hin : eT p.2 ∉ ((ps.zipIdx.take i).foldl addM []).map (·.1) := fun z => by
          rw [← j3] at z
          have := val_isSome (ks := ks') (k := eT p.2)
          rw [hv, decide_eq_true z] at this
          cases this
        have ee : (ps.zipIdx.take (i + 1)).foldl addM [] = putM ((ps.zipIdx.take i).foldl addM []) (eT p.2) (.num (i : Int)) := by
          rw [htk, List.foldl_append]
          exact addM_put (x := (p, i)) hin
        obtain ⟨p1, p2⟩ := nm_put (b := b) (k := eT p.2) j3 j4 (IsD.int (i : Int))
        refine ⟨_, _, rfl, (e.trans (xx.trans x3).wide).trans (Ext.put_self j1 noTab_nd), ?_, ?_⟩
        · rw [ee]
          exact ⟨_, upd_same, (nput_nkeys j2 r3 (by rw [eT_depth]; decide)).mono (tex_put j1 noTab_nd), p1, p2.mono (tex_put j1 noTab_nd)⟩
        · rw [ee]
          unfold putM
          rw [if_neg hin, List.length_append]
          exact Nat.succ_le_succ hl
    · obtain ⟨z2, z3, rfl, e, hm, hl⟩ := hP
      dsimp only
      refine s_ret (T := T) (R := isV (.ref pf)) (e_v rfl) fun v H3 x3 r3 => ?_
      obtain rfl : v = .ref pf := r3
      refine q _ H3 (((x1.trans x2).loc e pf0).trans x3) ⟨pf, rfl, pf0, ?_⟩
      have : ps.zipIdx.take (ps.map eP).length = ps.zipIdx := List.take_of_length_le (by rw [List.length_zipIdx, List.length_map]; exact Nat.le_refl _)
      rw [this] at hm
      exact x3.nm hm (by simp)

/-- the key of a reading: how many acts, their places -/
def keyR (ps : List Ph) (r : List Tx) : RP := fun v H => ∃ t l, v = .ref t ∧ H t = some (.tup [.int (r.length : Int), .ref l]) ∧ H l = some (.lst ((r.map fun a => placeOf ps a).map V.int))
theorem keyR_stab {ps : List Ph} (r : List Tx) (v : V) (H H' : Hp) (x : Ext T [] H H') (h : keyR ps r v H) : keyR ps r v H' := by
  obtain ⟨t, l, e, h1, h2⟩ := h
  exact ⟨t, l, e, x.tup _ _ h1, x.lst h2 (by simp)⟩
theorem keyR_reads {X : Cx} {ps : List Ph} (r : List Tx) (v : V) (u : Value) (pins : List (Addr × Obj)) (σ : L2.St) (H : Hp) (s : Shared) (I : Inv X pins σ H s) (h : keyR ps r v H) (rv : RelV v u) : ∃ as, Reads s.heap u (PyData.tuple [.int (r.length : Int), .list (r.map fun a => .int (placeOf ps a))]) as := by
  obtain ⟨t, l, rfl, h1, h2⟩ := h
  cases rv
  obtain ⟨_, its, rv1, o, ho, hc, n, hd⟩ := I.hok t _ h1
  obtain ⟨u1, u2, rfl, ⟨tk, rfl⟩, r2⟩ := vals2 rv1
  cases r2
  obtain ⟨_, its2, n2, rv2, ho2⟩ := I.hok l _ h2
  have all : ∀ {xs : List Int} {us : List Value}, Vals (xs.map V.int) us → ReadsAll s.heap us (xs.map PyData.int) [] := by
    intro xs
    induction xs with
    | nil => intro us h; cases h; exact .nil
    | cons x xs ih =>
      intro us h
      cases h with
      | cons r h =>
        obtain ⟨t, rfl⟩ := r
        exact .cons (.int x t) (ih h)
  have hl : Reads s.heap (.ref l) (.list (r.map fun a => .int (placeOf ps a))) [l] := by
    have := all rv2
    rw [List.map_map] at this
    exact .list ho2 rfl rfl (by simpa [Function.comp_def] using this)
  exact ⟨_, .tuple ho hc hd (.cons (.int _ tk) (.cons hl .nil))⟩
theorem alike_ints : ∀ xs ys : List Int, W.alikeAll (xs.map PyData.int) (ys.map PyData.int) = true
  | [], _ => by simp [W.alikeAll]
  | _ :: _, [] => by simp [W.alikeAll]
  | x :: xs, y :: ys => by
    show W.alikeAll (PyData.int x :: xs.map PyData.int) (PyData.int y :: ys.map PyData.int) = true
    rw [W.alikeAll, alike_ints xs ys, W.alike]
    rfl
theorem keyR_alike {ps : List Ph} (a b : List Tx) : W.alike (PyData.tuple [.int (a.length : Int), .list (a.map fun a => .int (placeOf ps a))]) (PyData.tuple [.int (b.length : Int), .list (b.map fun a => .int (placeOf ps a))]) = true := by
  have e : ∀ a : List Tx, (a.map fun a => PyData.int (placeOf ps a)) = (a.map (placeOf ps)).map PyData.int := fun a => by rw [List.map_map]; rfl
  rw [e, e, W.alike, W.alikeAll, W.alike, W.alikeAll, W.alike, alike_ints, W.alikeAll]
  rfl
theorem keyR_depth {ps : List Ph} (a : List Tx) : (PyData.tuple [.int (a.length : Int), .list (a.map fun a => .int (placeOf ps a))]).depth ≤ 8 := by
  have d : ∀ a : List Tx, PyData.depthAll (a.map fun a => PyData.int (placeOf ps a)) = 0 := by
    intro a
    induction a with
    | nil => rfl
    | cons x a ih =>
      show max 0 (PyData.depthAll (a.map fun a => PyData.int (placeOf ps a))) = 0
      rw [ih]
      rfl
  show max 0 (max (PyData.depthAll (a.map fun a => PyData.int (placeOf ps a)) + 1) 0) + 1 ≤ 8
  rw [d]
  decide
def cMeansOf (T : List Tab) : List V → Hp → RP → Prop := fun vs H R => ∃ (v1 : V) (u : Str) (ps : List Ph) (words : Tx), vs = [v1, .str u] ∧ IsD H v1 (ePs ps) ∧ (∀ p ∈ ps, OkT p.1) ∧ ps.length ≤ 16 ∧ u.length ≤ 40000 ∧ (Txt.split u " ").filter (fun w : Str => !decide (w = ("" : Str))) = words ∧ words.length ≤ 30 ∧
  (∀ n, Rch ps words n → ∀ l : List (List Tx), l.Nodup → (∀ x ∈ l, ∃ ρ, Prs ps (words.drop n) ρ ∧ acts ρ = x) → l.length ≤ 200) ∧ Tabs T H ∧ R = fun v H' => ∃ l, IsD H' v (.tup (l.map eR)) ∧ RS ps words 0 l
theorem e_sortK {α : Type} {te tb : TE} {N : List Str} {js : List Nat} {en : α → D} {KR : α → RP} {σ : L2.St} {H : Hp} {es : List α} (h : EvR T te σ H (isL (es.map en))) (hT : Tabs T H) (ev : ∀ e ∈ es, ∀ v H2, Ext T [] H H2 → IsD H2 v (en e) → EvR T tb (startF N [v] (js.map (slotAt σ))) H2 (KR e)) :
    EvR T (tSortK T te tb N js en KR) σ H (fun v H2 => ∃ fs : List α, fs.Perm es ∧ isL (fs.map en) v H2) := fun H1 x1 Q q =>
  h H1 x1 _ fun v H2 x2 r => ⟨(x1.trans x2).tabs hT, es, r, fun e he v H3 x3 hd => ev e he v H3 ((x1.trans x2).trans x3) hd, fun fs D ys H3 hp x3 h0 hds => by
    refine q _ _ ((x2.trans x3).trans (Ext.new h0)) ⟨fs, hp, D, ys, rfl, upd_same, IsDs.mono (Ext.new (T := T) (ex := []) h0).tup hds⟩⟩
theorem e_tupOfP {α : Type} {te : TE} {en : α → D} {σ : L2.St} {H : Hp} {es : List α} (h : EvR T te σ H (fun v H2 => ∃ fs : List α, fs.Perm es ∧ isL (fs.map en) v H2)) : EvR T (tCB (rTupOf K) (tCons te tNil)) σ H (fun v H2 => ∃ fs : List α, fs.Perm es ∧ IsD H2 v (.tup (fs.map en))) := e_cb (a_any h) fun vs H1 _ hp Q q => by
  obtain ⟨v, rfl, fs, hf, a, us, rfl, ha, hu⟩ := hp
  exact ⟨a, us, rfl, .inl ⟨SqL.of ha, fun l hl => q _ _ (Ext.new hl) ⟨fs, hf, .tup upd_same (IsDs.mono (Ext.new (T := T) (ex := []) hl).tup hu)⟩⟩⟩
theorem each_ints {α : Type} {f : α → Int} {H : Hp} : ∀ {vs : List V} {xs : List α}, Each (fun a => isT (.num (f a))) H vs xs → vs = (xs.map f).map V.int
  | _, _, .nil => rfl
  | _, _, .cons h r => by
    rw [each_ints r, h.int_inv]
    rfl
theorem e_keyR {σ : L2.St} {H : Hp} {ta tb : TE} {n : Int} {xs : List Int} (h1 : EvR T ta σ H (isT (.num n))) (h2 : EvR T tb σ H (fun v H2 => ∃ l, v = .ref l ∧ H2 l = some (.lst (xs.map V.int)))) :
    EvR T (tTup (tCons ta (tCons tb tNil))) σ H (fun v H2 => ∃ t l, v = .ref t ∧ H2 t = some (.tup [.int n, .ref l]) ∧ H2 l = some (.lst (xs.map V.int))) := fun H1 x Q q =>
  h1 H1 x _ fun v H2 x2 r => h2 H2 (x.trans x2) _ fun u H3 x3 r3 => by
    obtain rfl := r.int_inv
    obtain ⟨l, rfl, hl⟩ := r3
    refine ⟨by show 2 ≤ sizeLine; decide, fun p hp => q _ _ ((x2.trans x3).trans (Ext.new hp)) ⟨p, l, rfl, upd_same, ?_⟩⟩
    rw [upd_ne (ne_of_none hl hp)]
    exact hl
theorem nd3 : ([("reading" : Str), "places", "act"] : List Str).Nodup := by decide +kernel
theorem ok_meanings_of {f cd cP : Addr} {fd : FuncData} (F : FunC K "meanings_of" "meanings_of" S_meanings_of f fd cd) (G : Gm mg) (TB : TabB base mg cd cP) (hT : (cP, lamQ "meanings_of") ∈ T) (hTu : ∀ p ∈ T, p.1 = cP → p.2 = lamQ "meanings_of")
    (A_said_words : At P w K mg base 1 "said_words" P_said_words (SpP T cSaid)) (A_places_of_acts : At P w K mg base 1 "places_of_acts" P_places_of_acts (SpP T (cPlaces P w))) (A_readings_of : At P w K mg base 3 "readings_of" P_readings_of (SpP T cReadings)) (A_texts_of : At P w K mg base 1 "texts_of" P_texts_of (SpP T cTextsOf)) :
    FnOk P w K mg base CX0 5 f fd P_meanings_of (SpP T (cMeansOf T)) := by
  refine F.ok sc_meanings_of (fun vs H Q E h => ?_) (fun A outer s H vs Q E hr h => ?_)
  · obtain ⟨R, ⟨_, _, _, _, rfl, _⟩, _⟩ := h
    rfl
  · obtain ⟨R, ⟨v1, u, ps, words, rfl, h1, hok, hn, hu, hwords, hw30, hfew, hT0, rfl⟩, q⟩ := h
    refine ⟨_, (pss_cons (ps_set (i := 2) sc_meanings_of.nd rfl (Or.inl rfl) (pe_fn A_said_words (hr.mono (by decide)) (pa_cons (pv 1) pa_nil)))
    (pss_cons (ps_if (pt_cmpR op_gt (pe_callB (lenK (K := K) rfl) (by rfl) G.n_len PySem.boot_len (pa_cons (pv 2) pa_nil)) (pe_gi G.c_MOST_SAID) (nomark _))
      (pss_one ps_never)
      pss_nil)
    (pss_cons (ps_set (i := 3) sc_meanings_of.nd rfl (Or.inr rfl) (pe_fn A_places_of_acts (hr.mono (by decide)) (pa_cons (pv 0) pa_nil)))
    (pss_cons (ps_set (i := 4) sc_meanings_of.nd rfl (Or.inl rfl) (pe_fn A_readings_of (hr.mono (by decide)) (pa_cons (pv 2) (pa_cons (pe_fn A_texts_of (hr.mono (by decide)) (pa_cons (pv 0) pa_nil)) pa_nil))))
    (pss_one (ps_ret (pe_callTy (tupOfK (K := K) rfl) (by rfl) G.n_tuple (by decide +kernel) (pa_cons (pe_sortK (T := T) (N := ["reading", "places", "act"]) (y := "reading") (fr := ["places"]) (js := [3]) (k := 1) (en := eR) (kd := fun r => PyData.tuple [.int (r.length : Int), .list (r.map fun a => .int (placeOf ps a))]) (KR := keyR ps) (fun e => ⟨_, rfl⟩) G.n_sorted (pa_cons (pv 4) pa_nil) TB rfl hT hTu (hr.mono (by decide)) (nscope_by (by decide +kernel)) (show ∀ (y : Str × NameKind), y ∈ _ → y.2 = NameKind.free → (defScope S_meanings_of).names.lookup y.1 = some .cell ∨ (defScope S_meanings_of).names.lookup y.1 = some .free from by decide +kernel) (by decide +kernel) rfl (fun _ _ _ _ _ _ => rfl)
          (fun A outer s H f q cl c' hr2 => pe_tup (pa_cons (pe_callB (lenK (K := K) rfl) (by rfl) G.n_len PySem.boot_len (pa_cons (pv 0) pa_nil)) (pa_cons (pe_lc (own := [("act", 2)]) rfl nd3 (pi_tupK (K := K) rfl (pv 0)) (blkOk_by (own := [("act", 2)]) (by rfl)) (fun _ _ _ _ _ => by exact (pg_name (i := 2) nd3 rfl (Or.inl rfl) (Or.inr rfl))) (fun _ _ _ _ _ => by exact pts_nil) (fun _ _ _ _ _ => by exact (pe_ix (nixK (P := P) (w := w) rfl rfl hr2.units) (pv 1) (pv 2) (fun _ _ => rfl)))) pa_nil)))
          keyR_stab keyR_reads keyR_alike (fun a => ⟨_, _, rfl⟩) keyR_depth) pa_nil)))))))), ?_⟩
    refine s_seq (s_asg (T := T) (R := isT (eT words)) (e_fn (a_one (e_t rfl (.str u))) fun vs H1 x1 hv => ?_) fun lw H1 x1 rw1 => ?_)
    · cases hv with
      | cons hv hn =>
        cases hn
        obtain rfl := hv.str_inv
        exact ⟨_, ⟨u, rfl, hu, rfl⟩, fun v H2 r => by rw [hwords] at r; exact r⟩
    refine s_seq (s_no (T := T) ((t_test (e_I0 (g := fun i j => .bl (decide (j < i))) (e_lenT (e_t rfl rw1)) e_int).bool).eq (decide_eq_false (show ¬ (30 : Int) < (words.length : Int) by omega))) fun H2 x2 => ?_)
    have x12 := x1.trans x2
    refine s_seq (s_asg (T := T) (R := fun v H' => ∃ a, v = .ref a ∧ H2 a = none ∧ NM P w H' a (plM ps)) (e_fn (a_one (e_t rfl (x12.isT h1))) fun vs H3 x3 hv => ?_) fun lp H3 x3 rp => ?_)
    · cases hv with
      | cons hv hn =>
        cases hn
        refine ⟨_, ⟨_, ps, rfl, hv, by omega, rfl⟩, fun v H4 r => ?_⟩
        obtain ⟨a, e, h0, hm⟩ := r
        exact ⟨a, e, x3.free _ h0, hm⟩
    obtain ⟨pp, rfl, pp0, hpp⟩ := rp
    have x123 := x12.trans x3
    refine s_seq (s_asg (T := T) (R := fun v H' => ∃ l, isLN H3 (l.map eR) v H' ∧ RS ps words 0 l) (e_fn (a_consR (e_t rfl ((x2.trans x3).isT rw1)) (fun _ _ _ x r => x.isT r) (a_any (e_fn (R := isL (ps.map eE)) (a_one (e_t rfl (x123.isT h1))) fun vs H4 x4 hv => ?_))) fun vs H4 x4 hv => ?_) fun lf H4 x4 rf => ?_)
    · cases hv with
      | cons hv hn =>
        cases hn
        exact ⟨_, ⟨_, ps, rfl, hv, hok, by omega, rfl⟩, fun _ _ r => r.l⟩
    · obtain ⟨u1, us1, rfl, hu1, u2, rfl, hu2⟩ := hv
      refine ⟨_, ⟨u1, u2, words, ps, rfl, hu1, hu2, hw30, by omega, fun p hp => (hok p hp).ne, hfew, rfl⟩, fun v H5 r => ?_⟩
      obtain ⟨l, h1, h2⟩ := r
      exact ⟨l, isLN_back h1 x4.free, h2⟩
    obtain ⟨l, rl, hRS⟩ := rf
    have hpp4 := x4.nm hpp (by simp)
    refine s_ret (T := T) (e_tupOfP (e_sortK (e_l rfl rl.l) ((x123.trans x4).tabs hT0) fun r hr v H5 x5 hv => ?_)) fun v H5 x5 r5 => ?_
    · obtain ⟨ρ, hρ, rfl⟩ := (hRS.2 r).mp hr
      show EvR T _ [some v, some (.ref pp), none] H5 _
      have hlen : ((acts ρ).map eT).length = (acts ρ).length := List.length_map ..
      refine (e_keyR (xs := (acts ρ).map (placeOf ps)) ((e_len (e_t rfl hv)).eqT (by rw [hlen])) (EvR.imp (c_tup (xs := acts ρ) (en := eT) (RE := fun a => isT (.num (placeOf ps a))) stT (e_t rfl hv) ?_ (fun _ => true) fun a ha x H6 x6 hx Q k => ?_) fun v H6 _ r => ?_))
      · have := prs_len (fun p hp => (hok p hp).ne) hρ
        rw [List.drop_zero] at this
        rw [List.length_map]
        omega
      · refine k _ rfl t_yes fun _ => ?_
        obtain ⟨p, hp, rfl⟩ := List.mem_map.mp ha
        exact e_nixM (ds := p.2.map .text) (e_v rfl) (e_t rfl hx) ((x5.trans x6).nm hpp4 (by simp)) (Nat.le_trans (Nat.le_of_eq (eT_depth p.2)) (by decide)) (place_is (hρ.1 p hp))
      · rw [List.filter_eq_self.mpr fun _ _ => rfl] at r
        obtain ⟨a, vs, e1, _, h2, h3⟩ := r
        exact ⟨a, e1, by rw [h2, each_ints h3]⟩
    · obtain ⟨fs, hp, hd⟩ := r5
      refine q v H5 ((x123.trans x4).trans x5) ⟨fs, hd, hp.symm.nodup hRS.1, fun x => (hp.mem_iff).trans (hRS.2 x)⟩
/-- keywords -/
def cMeans (T : List Tab) (C : Addr) : List V → Hp → RP → Prop := fun vs H R => ∃ (v1 v2 : V) (u : Str) (fs : List Fd) (ps : List Ph) (words : Tx), vs = [v1, v2, .str u] ∧ isForm C fs v1 H ∧ IsD H v2 (ePs ps) ∧ OkPs fs ps ∧ u.length ≤ 40000 ∧ (Txt.split u " ").filter (fun w : Str => !decide (w = ("" : Str))) = words ∧ words.length ≤ 30 ∧
  (∀ n, Rch ps words n → ∀ l : List (List Tx), l.Nodup → (∀ x ∈ l, ∃ ρ, Prs ps (words.drop n) ρ ∧ acts ρ = x) → l.length ≤ 200) ∧ Tabs T H ∧ R = fun v H' => ∃ l, IsD H' v (.tup (l.map eR)) ∧ RS ps words 0 l
theorem ok_meanings {f : Addr} {fd : FuncData} (F : Fun K "meanings" "meanings" S_meanings f fd) (G : Gm mg) (A_need_phrases : At P w K mg base 5 "need_phrases" P_need_phrases (SpP T (cNeed C))) (A_meanings_of : At P w K mg base 5 "meanings_of" P_meanings_of (SpP T (cMeansOf T))) : FnOk P w K mg base CX0 6 f fd P_meanings (SpP T (cMeans T C)) := by
  refine F.ok sc_meanings (fun vs H Q E h => ?_) (fun cdv A outer s H vs Q E hr h => ?_)
  · obtain ⟨R, ⟨_, _, _, _, _, _, rfl, _⟩, _⟩ := h
    rfl
  · obtain ⟨R, ⟨v1, v2, u, fs, ps, words, rfl, h1, h2, hps, hu, hwords, hw30, hfew, hT0, rfl⟩, q⟩ := h
    refine ⟨_, (pss_cons (ps_set (i := 3) sc_meanings.nd rfl (Or.inl rfl) (pe_fn A_need_phrases (hr.mono (by decide)) (pa_cons (pv 0) (pa_cons (pv 1) (pa_cons pe_int pa_nil)))))
    (pss_cons (ps_if (pt_not (pt_val (pe_callB (isiK (K := K) rfl) (by rfl) G.n_isinstance (by decide +kernel) (pa_cons (pv 2) (pa_cons (pe_ty G.n_str PyProof.Rows.boot_str) pa_nil)))))
      (pss_one ps_never)
      pss_nil)
    (pss_one (ps_ret (pe_fn A_meanings_of (hr.mono (by decide)) (pa_cons (pv 3) (pa_cons (pv 2) pa_nil))))))), ?_⟩
    refine s_seq (s_asg (T := T) (R := isT (ePs ps)) (e_fn (a_consR (e_form rfl h1) form_st (a_cons (e_t rfl h2) (a_one e_int))) fun vs H2 x2 hv => ?_) fun vf H1 x1 r1 => ?_)
    · obtain ⟨u, us, rfl, hu, hus⟩ := hv
      cases hus with
      | cons hv hr =>
        cases hr with
        | cons hi hn =>
          cases hn
          exact ⟨_, ⟨u, _, _, fs, ps, rfl, hu, hv, hps, rfl⟩, fun _ _ r => r⟩
    refine s_seq (s_no (T := T) ((t_not (t_b (e_isi (b := true) (e_t rfl (.str u)) e_c kSS))).eq rfl) fun H2 x2 => ?_)
    have x12 := x1.trans x2
    refine s_ret (T := T) (e_fn (R := fun v H' => ∃ l, IsD H' v (.tup (l.map eR)) ∧ RS ps words 0 l) (a_cons (e_t rfl (x2.isT r1)) (a_one (e_t rfl (.str u)))) fun vs H3 x3 hv => ?_) fun v H3 x3 r => q v H3 (x12.trans x3) r
    cases hv with
    | cons hv hr =>
      cases hr with
      | cons hi hn =>
        cases hn
        obtain rfl := hi.str_inv
        exact ⟨_, ⟨_, u, ps, words, rfl, hv, fun p hp => (hps.ok p hp).text, hps.hi, hu, hwords, hw30, hfew, (x12.trans x3).tabs hT0, rfl⟩, fun _ _ r => r⟩
end
end Sf

set_option Elab.async false
set_option linter.all false
set_option maxRecDepth 100000
set_option maxHeartbeats 4000000
/-! Comprehensions with two sources; fields of instances; keys of plain dicts. -/
namespace Sf
open PySem L2 LamX
section
variable {X : Cx} {K : PySem.W.Frag}
theorem fldK {e : Expr} {f : Str} {pos : Pos} {ta : TE} (h : X.K = K) (he : PE X e ta) (hb : attributeBase e f X.env (eval e X.env) = eval e X.env) : PE X (.Attribute e f pos) (tFld K ta f) := h ▸ pe_fld he hb
end
section
variable {T : List Tab} {K : PySem.W.Frag} {σ : L2.St} {H : Hp} {tl t1 te ta : TE} {rows ws : List D} {f : D → D → D} {vs vs1 : List Nat} {j j1 : Nat}
theorem flatMap_len {rows : List D} {ws : List D} {f : D → D → D} : (rows.flatMap fun r => ws.map fun x => f r x).length = rows.length * ws.length := by
  induction rows with
  | nil => simp
  | cons r rows ih =>
    rw [List.flatMap_cons, List.length_append, List.length_map, ih, List.length_cons, Nat.succ_mul]
    omega
theorem c_list2 (h : EvR T tl σ H (isL rows)) (hz : rows.length * ws.length ≤ 50000) (hw : ∀ x, wipe ((wipe σ vs).set j (some x)) vs = wipe σ vs)
    (hw1 : ∀ x y, wipe ((wipe ((wipe σ vs).set j (some x)) vs1).set j1 (some y)) vs1 = wipe ((wipe σ vs).set j (some x)) vs1)
    (hi : ∀ r, r ∈ rows → ∀ x H1, Ext T [] H H1 → IsD H1 x r → EvR T t1 ((wipe σ vs).set j (some x)) H1 (isT (.tup ws)))
    (hs : ∀ r, r ∈ rows → ∀ d, d ∈ ws → ∀ x y H1, Ext T [] H H1 → IsD H1 x r → IsD H1 y d → EvR T te ((wipe ((wipe σ vs).set j (some x)) vs1).set j1 (some y)) H1 (isT (f r d))) :
    EvR T (tLc2 (iList K tl) (gName j) tYes (iTup K t1) (gName j1) tYes te vs vs1) σ H (isLN H (rows.flatMap fun r => ws.map fun x => f r x)) := fun H1 xa Q q => h H1 xa _ fun v H2 x2 r => by
  obtain ⟨a, us, rfl, ha, hu⟩ := r
  refine ⟨a, rfl, ⟨us, SqL.of ha⟩, fun L hL => ?_⟩
  have wk := walk_list (K := K) (a := a) (xs := us)
  have hul := hu.length
  refine ⟨fun i m H' => m = us.length - i ∧ i ≤ us.length ∧ ∃ acc, Ext T [] H2 H' ∧ H' L = some (.lst acc) ∧ IsDs H' acc ((rows.take i).flatMap fun r => ws.map fun x => f r x), ⟨us.length, by simp, Nat.zero_le _, [], Ext.new hL, upd_same, .nil⟩, ?_⟩
  rintro i m H' ⟨rfl, hi', acc, e, hacc, hE⟩
  by_cases hlt : i < us.length
  · refine .inr ⟨wk.goes i H' hlt (SqL.of (e.lst ha (by simp))), fun H' => ∃ acc, Ext T [] H2 H' ∧ H' L = some (.lst acc) ∧ IsDs H' acc ((rows.take (i + 1)).flatMap fun r => ws.map fun x => f r x), fun H'' p => ⟨us.length - (i + 1), by omega, rfl, hlt, p⟩, fun x H'' y => ?_⟩
    obtain ⟨rfl, hx⟩ := wk.yields i H' x H'' hlt (SqL.of (e.lst ha (by simp))) y
    obtain ⟨r, hr, hxr⟩ := hu.getV hx
    have hrm := List.mem_of_getElem? hr
    have htk : rows.take (i + 1) = rows.take i ++ [r] := by rw [List.take_add_one, hr]; rfl
    have hil : i < rows.length := (List.getElem?_eq_some_iff.mp hr).1
    have hxr' := IsD.mono e.tup hxr
    have eH := (xa.trans x2).trans e
    refine ⟨hw x, ?_⟩
    unfold tYes
    dsimp only
    rw [if_pos rfl]
    refine (hi r hrm x _ eH hxr').run fun v1 H4 x4 r4 => ?_
    obtain ⟨b, bs, rfl, hb, hbs⟩ := r4.tup_inv
    refine ⟨b, rfl, ⟨bs, SqT.of hb⟩, ?_⟩
    have wk1 := walk_tup (K := K) (a := b) (xs := bs)
    have hbl := hbs.length
    refine ⟨fun j m H' => m = bs.length - j ∧ j ≤ bs.length ∧ ∃ acc, Ext T [] H2 H' ∧ TEx H4 H' ∧ H' L = some (.lst acc) ∧ IsDs H' acc (((rows.take i).flatMap fun r => ws.map fun x => f r x) ++ (ws.take j).map fun x => f r x), ⟨bs.length, by simp, Nat.zero_le _, acc, e.trans x4, TEx.refl _, x4.lst hacc (by simp), by simpa using hE.mono x4.tup⟩, ?_⟩
    rintro j' m H5 ⟨rfl, hj', acc', e5, t5, hacc', hE'⟩
    have hqb : SqT K H5 b bs := SqT.of (t5 _ _ hb)
    by_cases hjl : j' < bs.length
    · refine .inr ⟨wk1.goes j' H5 hjl hqb, fun H' => ∃ acc, Ext T [] H2 H' ∧ TEx H4 H' ∧ H' L = some (.lst acc) ∧ IsDs H' acc (((rows.take i).flatMap fun r => ws.map fun x => f r x) ++ (ws.take (j' + 1)).map fun x => f r x), fun H'' p => ⟨bs.length - (j' + 1), by omega, rfl, hjl, p⟩, fun y H'' yy => ?_⟩
      obtain ⟨rfl, hy⟩ := wk1.yields j' H5 y H'' hjl hqb yy
      obtain ⟨d, hd, hyd⟩ := hbs.getV hy
      have htk1 : ws.take (j' + 1) = ws.take j' ++ [d] := by rw [List.take_add_one, hd]; rfl
      have hjw : j' < ws.length := (List.getElem?_eq_some_iff.mp hd).1
      refine ⟨hw1 x y, ?_⟩
      try unfold tYes
      try dsimp only
      rw [if_pos rfl]
      refine (hs r hrm d (List.mem_of_getElem? hd) x y _ ((xa.trans x2).trans e5) (IsD.mono (x4.tup.trans t5) hxr') (IsD.mono t5 hyd)).run fun z H6 x6 r6 => ?_
      have hl6 := x6.lst hacc' (by simp)
      have hlen : acc'.length < 100000 := by
        rw [hE'.length, List.length_append, flatMap_len, List.length_take, List.length_map, List.length_take, Nat.min_eq_left (Nat.le_of_lt hil), Nat.min_eq_left (Nat.le_of_lt hjw)]
        have h1 : i * ws.length ≤ rows.length * ws.length := Nat.mul_le_mul (Nat.le_of_lt hil) (Nat.le_refl _)
        have h2 : (i + 1) * ws.length ≤ rows.length * ws.length := Nat.mul_le_mul hil (Nat.le_refl _)
        rw [Nat.succ_mul] at h2
        omega
      refine ⟨acc', hl6, sz' hlen, acc' ++ [z], (e5.trans x6).put (.inl hL) hl6 (noTab_lst _), (t5.trans x6.tup).trans (tex_put hl6 (noTab_lst _)), upd_same, ?_⟩
      rw [htk1, List.map_append, ← List.append_assoc]
      exact ((hE'.mono x6.tup).append (.one r6)).mono (tex_put hl6 (noTab_lst _))
    · have : j' = bs.length := by omega
      subst this
      refine .inl ⟨wk1.stops H5 hqb, acc', e5, hacc', ?_⟩
      rw [hbl, List.take_length] at hE'
      rw [htk, List.flatMap_append]
      simpa using hE'
  · have : i = us.length := by omega
    subst this
    refine .inl ⟨wk.stops H' (SqL.of (e.lst ha (by simp))), ?_⟩
    rw [hul, List.take_length] at hE
    exact q _ H' (x2.trans e) ⟨L, acc, rfl, xa.free _ (x2.free _ hL), hacc, hE⟩
end
end Sf

set_option Elab.async false
set_option linter.all false
set_option maxRecDepth 100000
set_option maxHeartbeats 4000000
/-! is_row .. breaks: what a form asks of its fields. -/
namespace Sf
open PySem L2 LamX
abbrev S_is_row : Stmt := topS 42
abbrev N_is_row : List Str := ["value", "least", "most"]
abbrev P_is_row : List Str := ["value", "least", "most"]
theorem sc_is_row : FnScope N_is_row P_is_row (defScope S_is_row) := ⟨rfl, rfl, rfl, by decide +kernel, rfl, by decide +kernel, by decide +kernel⟩
abbrev S_are_unlike : Stmt := topS 43
abbrev N_are_unlike : List Str := ["words", "word"]
abbrev P_are_unlike : List Str := ["words"]
theorem sc_are_unlike : FnScope N_are_unlike P_are_unlike (defScope S_are_unlike) := ⟨rfl, rfl, rfl, by decide +kernel, rfl, by decide +kernel, by decide +kernel⟩
abbrev S_are_words : Stmt := topS 44
abbrev N_are_words : List Str := ["value", "most", "one"]
abbrev P_are_words : List Str := ["value", "most"]
theorem sc_are_words : FnScope N_are_words P_are_words (defScope S_are_words) := ⟨rfl, rfl, rfl, by decide +kernel, rfl, by decide +kernel, by decide +kernel⟩
abbrev S_are_fields : Stmt := topS 45
abbrev N_are_fields : List Str := ["value", "one", "name", "choices", "_"]
abbrev P_are_fields : List Str := ["value"]
theorem sc_are_fields : FnScope N_are_fields P_are_fields (defScope S_are_fields) := ⟨rfl, rfl, rfl, by decide +kernel, rfl, by decide +kernel, by decide +kernel⟩
abbrev S_all_of : Stmt := topS 49
abbrev N_all_of : List Str := ["fields", "rows", "name", "words", "row", "word"]
abbrev P_all_of : List Str := ["fields"]
theorem sc_all_of : FnScope N_all_of P_all_of (defScope S_all_of) := ⟨rfl, rfl, rfl, by decide +kernel, rfl, by decide +kernel, by decide +kernel⟩
abbrev S_breaks : Stmt := topS 50
abbrev N_breaks : List Str := ["rules", "row", "rule", "pair"]
abbrev P_breaks : List Str := ["rules", "row"]
theorem sc_breaks : FnScope N_breaks P_breaks (defScope S_breaks) := ⟨rfl, rfl, rfl, by decide +kernel, rfl, by decide +kernel, by decide +kernel⟩
/-- a row of unlike words -/
structure OkWs (ws : Tx) : Prop where
  ok : ∀ w ∈ ws, OkW w
  nd : ws.Nodup
structure OkFs (fs : List Fd) : Prop where
  lo : 1 ≤ fs.length
  hi : fs.length ≤ 3
  names : OkWs (fs.map (·.1))
  vals : ∀ f ∈ fs, OkWs f.2 ∧ 1 ≤ f.2.length ∧ f.2.length ≤ 3
def cIsRow : List V → Hp → RP → Prop := fun vs H R => ∃ (v : V) (ds : List D) (lo hi : Int), vs = [v, .int lo, .int hi] ∧ IsD H v (.tup ds) ∧ lo ≤ ds.length ∧ (ds.length : Int) ≤ hi ∧ R = isB true
def cUnlike : List V → Hp → RP → Prop := fun vs H R => ∃ (v : V) (ws : Tx), vs = [v] ∧ (IsD H v (eT ws) ∨ isL (ws.map .text) v H) ∧ ws.Nodup ∧ ws.length ≤ 1000 ∧ R = isB true
def cAreWords : List V → Hp → RP → Prop := fun vs H R => ∃ (v : V) (ws : Tx) (m : Int), vs = [v, .int m] ∧ IsD H v (eT ws) ∧ OkWs ws ∧ 1 ≤ ws.length ∧ ws.length ≤ 1000 ∧ (ws.length : Int) ≤ m ∧ R = isB true
def cAreFields : List V → Hp → RP → Prop := fun vs H R => ∃ (v : V) (fs : List Fd), vs = [v] ∧ IsD H v (eFs fs) ∧ OkFs fs ∧ R = isB true
def cAllOf : List V → Hp → RP → Prop := fun vs H R => ∃ (v : V) (fs : List Fd), vs = [v] ∧ IsD H v (eFs fs) ∧ OkFs fs ∧ R = fun v H' => ∃ rows : List D, rows.length ≤ 1000 ∧ isLN H rows v H'
def cBreaks : List V → Hp → RP → Prop := fun vs H R => ∃ (v1 v2 : V), vs = [v1, v2] ∧ IsD H v1 (.tup []) ∧ R = isB false
theorem nodup_inr' {ws : Tx} (h : ws.Nodup) : (ws.map fun w => (Sum.inr w : Key)).Nodup := by
  unfold List.Nodup at *
  rw [List.pairwise_map]
  exact h.imp fun hab e => hab (Sum.inr.inj e)
section
variable {T : List Tab} {P : Program} {w : World} {K : PySem.W.Frag} {mg : Str → Option Value} {base : Heap}
theorem e_true {σ : L2.St} {H : Hp} {te : TE} {b : Bool} (h : EvR T te σ H (isB b)) (hb : b = true) : EvR T te σ H (isB true) := h.eqB hb
theorem ok_is_row {f : Addr} {fd : FuncData} (F : Fun K "is_row" "is_row" S_is_row f fd) (G : Gm mg) : FnOk P w K mg base CX0 1 f fd P_is_row (SpP T cIsRow) := by
  refine F.ok sc_is_row (fun vs H Q E h => ?_) (fun cdv A outer s H vs Q E hr h => ?_)
  · obtain ⟨R, ⟨_, _, _, _, rfl, _⟩, _⟩ := h
    rfl
  · obtain ⟨R, ⟨v, ds, lo, hi, rfl, h1, h2, h3, rfl⟩, q⟩ := h
    refine ⟨_, (pss_one (ps_ret (pe_and (pe_callB (isiTK (K := K) rfl) (by rfl) G.n_isinstance (by decide +kernel) (pa_cons (pv 0) (pa_cons (pe_tup (pa_cons (pe_ty G.n_list PyProof.Rows.boot_list) (pa_cons (pe_ty G.n_tuple PyProof.Rows.boot_tuple) pa_nil))) pa_nil))) (pe_one (pe_chain op_le op_le (pv 1) (pe_callB (lenK (K := K) rfl) (by rfl) G.n_len PySem.boot_len (pa_cons (pv 0) pa_nil)) (pv 2)))))), ?_⟩
    refine s_ret (T := T) ((e_andV (b := true) (c := true) (e_isiT (b1 := false) (b2 := true) (e_t rfl h1) e_c e_c kTL kTT) fun _ => (e_chain (e_t rfl (.int lo)) (e_len (e_t rfl h1)) (e_t rfl (.int hi))).eqB ?_).eqB rfl) fun v H1 x r => q v H1 x r
    rw [decide_eq_true h2, decide_eq_true h3]
    rfl
theorem ok_are_unlike {f : Addr} {fd : FuncData} (F : Fun K "are_unlike" "are_unlike" S_are_unlike f fd) (G : Gm mg) : FnOk P w K mg base CX0 1 f fd P_are_unlike (SpP T cUnlike) := by
  refine F.ok sc_are_unlike (fun vs H Q E h => ?_) (fun cdv A outer s H vs Q E hr h => ?_)
  · obtain ⟨R, ⟨_, _, rfl, _⟩, _⟩ := h
    rfl
  · obtain ⟨R, ⟨v, ws, rfl, h1 | h1, h2, h3, rfl⟩, q⟩ := h
    · refine ⟨_, (pss_one (ps_ret (pe_cmpR op_eq (pe_callB call_lenD (by rfl) G.n_len PySem.boot_len (pa_cons (pe_dc (own := [("word", 1)]) rfl sc_are_unlike.nd (pi_tupK (K := K) rfl (pv 0)) (blkOk_by (own := [("word", 1)]) (N := N_are_unlike) (sc := defScope S_are_unlike) (by decide +kernel)) (fun _ _ _ _ _ => by exact (pg_name (i := 1) sc_are_unlike.nd rfl (Or.inl rfl) (Or.inr rfl))) (fun _ _ _ _ _ => by exact pts_nil) (fun _ _ _ _ _ => by exact (pv 1)) (fun _ _ _ _ _ => by exact pe_bl)) pa_nil)) (pe_callB (lenK (K := K) rfl) (by rfl) G.n_len PySem.boot_len (pa_cons (pv 0) pa_nil)) (nomark _)))), ?_⟩
      refine s_ret (T := T) (e_true (e_eqI (e_dlen (R := fun _ => isB true) (stB (f := fun _ => true)) (c_dict (xs := ws) (en := NestedKey.text) (k := fun w => (Sum.inr w : Key)) (stB (f := fun _ => true)) (e_t rfl h1) (by omega) (nodup_inr' h2) fun d hd x H1 x1 hx Q k => ?_)) (e_lenT (e_t rfl h1))) (decide_eq_true rfl)) fun v H1 x r => q v H1 x r
      obtain rfl := hx.str_inv
      exact k _ rfl (e_v rfl) e_bl
    · refine ⟨_, (pss_one (ps_ret (pe_cmpR op_eq (pe_callB call_lenD (by rfl) G.n_len PySem.boot_len (pa_cons (pe_dc (own := [("word", 1)]) rfl sc_are_unlike.nd (pi_listK (K := K) rfl (pv 0)) (blkOk_by (own := [("word", 1)]) (N := N_are_unlike) (sc := defScope S_are_unlike) (by decide +kernel)) (fun _ _ _ _ _ => by exact (pg_name (i := 1) sc_are_unlike.nd rfl (Or.inl rfl) (Or.inr rfl))) (fun _ _ _ _ _ => by exact pts_nil) (fun _ _ _ _ _ => by exact (pv 1)) (fun _ _ _ _ _ => by exact pe_bl)) pa_nil)) (pe_callB (lenK (K := K) rfl) (by rfl) G.n_len PySem.boot_len (pa_cons (pv 0) pa_nil)) (nomark _)))), ?_⟩
      refine s_ret (T := T) (e_true (e_eqI (e_dlen (R := fun _ => isB true) (stB (f := fun _ => true)) (c_dictL (xs := ws) (en := NestedKey.text) (k := fun w => (Sum.inr w : Key)) (stB (f := fun _ => true)) (e_l rfl h1) (by omega) (nodup_inr' h2) fun d hd x H1 x1 hx Q k => ?_)) ((e_lenL (e_l rfl h1)).eqT (by rw [List.length_map]))) (decide_eq_true rfl)) fun v H1 x r => q v H1 x r
      obtain rfl := hx.str_inv
      exact k _ rfl (e_v rfl) e_bl
theorem ok_are_words {f : Addr} {fd : FuncData} (F : Fun K "are_words" "are_words" S_are_words f fd) (G : Gm mg) (A_is_row : At P w K mg base 1 "is_row" P_is_row (SpP T cIsRow)) (A_is_word_forms : At P w K mg base 1 "is_word_forms" P_is_word_forms (SpP T cIsWord)) (A_are_unlike : At P w K mg base 1 "are_unlike" P_are_unlike (SpP T cUnlike)) :
    FnOk P w K mg base CX0 2 f fd P_are_words (SpP T cAreWords) := by
  refine F.ok sc_are_words (fun vs H Q E h => ?_) (fun cdv A outer s H vs Q E hr h => ?_)
  · obtain ⟨R, ⟨_, _, _, rfl, _⟩, _⟩ := h
    rfl
  · obtain ⟨R, ⟨v, ws, m, rfl, h1, h2, h3, h4, h5, rfl⟩, q⟩ := h
    refine ⟨_, (pss_one (ps_ret (pe_and (pe_fn A_is_row (hr.mono (by decide)) (pa_cons (pv 0) (pa_cons pe_int (pa_cons (pv 1) pa_nil)))) (pe_and (pe_callB (allK (K := K) rfl rfl) (by rfl) G.n_all (by decide +kernel) (pa_cons (pe_lc (own := [("one", 2)]) rfl sc_are_words.nd (pi_tupK (K := K) rfl (pv 0)) (blkOk_by (own := [("one", 2)]) (N := N_are_words) (sc := defScope S_are_words) (by decide +kernel)) (fun _ _ _ _ _ => by exact (pg_name (i := 2) sc_are_words.nd rfl (Or.inl rfl) (Or.inr rfl))) (fun _ _ _ _ _ => by exact pts_nil) (fun _ _ _ _ _ => by exact (pe_fn A_is_word_forms (hr.mono (by decide)) (pa_cons (pv 2) pa_nil)))) pa_nil)) (pe_one (pe_fn A_are_unlike (hr.mono (by decide)) (pa_cons (pv 0) pa_nil))))))), ?_⟩
    refine s_ret (T := T) ((e_andV (b := true) (c := true) (e_fn (a_cons (e_t rfl h1) (a_cons e_int (a_one (e_t rfl (.int m))))) fun vs H1 x1 hv => ?_) fun _ => ((e_andV (b := true) (c := true) ((e_all (f := fun _ => true) (c_tup (xs := ws) (en := NestedKey.text) (RE := fun _ => isB true) (stB (f := fun _ => true)) (e_t rfl h1) (by omega) (fun _ => true) fun d hd x H1 x1 hx Q k => ?_)).eqB (by simp)) fun _ => e_fn (a_one (e_t rfl h1)) fun vs H1 x1 hv => ?_).eqB rfl)).eqB rfl) fun v H1 x r => q v H1 x r
    · cases hv with
      | cons a hv =>
        cases hv with
        | cons b hv =>
          cases hv with
          | cons c hv =>
            cases hv
            obtain rfl := b.int_inv
            obtain rfl := c.int_inv
            exact ⟨_, ⟨_, ws.map .text, 1, m, rfl, a, by rw [List.length_map]; omega, by rw [List.length_map]; exact h5, rfl⟩, fun _ _ r => r⟩
    · refine k _ rfl t_yes fun _ => ?_
      exact e_fn (a_any (e_t rfl hx)) fun vs H4 x4 hp => by
        obtain ⟨u, rfl, hu⟩ := hp
        obtain rfl := IsD.str_inv hu
        exact ⟨_, ⟨d, rfl, h2.ok d hd, rfl⟩, fun _ _ r => r⟩
    · cases hv with
      | cons a hv =>
        cases hv
        exact ⟨_, ⟨_, ws, rfl, .inl a, h2.nd, h4, rfl⟩, fun _ _ r => r⟩
theorem ok_breaks {f : Addr} {fd : FuncData} (F : Fun K "breaks" "breaks" S_breaks f fd) (G : Gm mg) : FnOk P w K mg base CX0 1 f fd P_breaks (SpP T cBreaks) := by
  refine F.ok sc_breaks (fun vs H Q E h => ?_) (fun cdv A outer s H vs Q E hr h => ?_)
  · obtain ⟨R, ⟨_, _, rfl, _⟩, _⟩ := h
    rfl
  · obtain ⟨R, ⟨v1, v2, rfl, h1, rfl⟩, q⟩ := h
    refine ⟨_, (pss_one (ps_ret (pe_callB (anyK (K := K) rfl rfl) (by rfl) G.n_any (by decide +kernel) (pa_cons (pe_lc (own := [("rule", 2)]) rfl sc_breaks.nd (pi_tupK (K := K) rfl (pv 0)) (blkOk_by (own := [("rule", 2)]) (N := N_breaks) (sc := defScope S_breaks) (by decide +kernel)) (fun _ _ _ _ _ => by exact (pg_name (i := 2) sc_breaks.nd rfl (Or.inl rfl) (Or.inr rfl))) (fun _ _ _ _ _ => by exact pts_nil) (fun _ _ _ _ _ => by exact pe_never)) pa_nil)))), ?_⟩
    refine s_ret (T := T) ((e_any (f := fun _ => true) (c_tup (xs := ([] : List D)) (en := id) (RE := fun _ => isB true) (stB (f := fun _ => true)) (e_t rfl h1) (by decide) (fun _ => true) fun d hd => nomatch hd)).eqB rfl) fun v H1 x r => q v H1 x r
theorem ok_are_fields {f : Addr} {fd : FuncData} (F : Fun K "are_fields" "are_fields" S_are_fields f fd) (G : Gm mg) (A_is_row : At P w K mg base 1 "is_row" P_is_row (SpP T cIsRow)) (A_is_word_forms : At P w K mg base 1 "is_word_forms" P_is_word_forms (SpP T cIsWord)) (A_are_unlike : At P w K mg base 1 "are_unlike" P_are_unlike (SpP T cUnlike))
    (A_are_words : At P w K mg base 2 "are_words" P_are_words (SpP T cAreWords)) : FnOk P w K mg base CX0 3 f fd P_are_fields (SpP T cAreFields) := by
  refine F.ok sc_are_fields (fun vs H Q E h => ?_) (fun cdv A outer s H vs Q E hr h => ?_)
  · obtain ⟨R, ⟨_, _, rfl, _⟩, _⟩ := h
    rfl
  · obtain ⟨R, ⟨v, fs, rfl, h1, hfs, rfl⟩, q⟩ := h
    refine ⟨_, (pss_cons (ps_if (PW.pt (pw_or (pt_not (pt_val (pe_fn A_is_row (hr.mono (by decide)) (pa_cons (pv 0) (pa_cons pe_int (pa_cons (pe_gi G.c_MOST_FIELDS) pa_nil)))))) (pw_or1 (pt_not (pt_val (pe_callB (allK (K := K) rfl rfl) (by rfl) G.n_all (by decide +kernel) (pa_cons (pe_lc (own := [("one", 1)]) rfl sc_are_fields.nd (pi_tupK (K := K) rfl (pv 0)) (blkOk_by (own := [("one", 1)]) (N := N_are_fields) (sc := defScope S_are_fields) (by decide +kernel)) (fun _ _ _ _ _ => by exact (pg_name (i := 1) sc_are_fields.nd rfl (Or.inl rfl) (Or.inr rfl))) (fun _ _ _ _ _ => by exact pts_nil) (fun _ _ _ _ _ => by exact (pe_fn A_is_row (hr.mono (by decide)) (pa_cons (pv 1) (pa_cons pe_int (pa_cons pe_int pa_nil)))))) pa_nil)))))))
      (pss_one (ps_ret pe_bl))
      pss_nil)
    (pss_cons (ps_if (pt_not (pt_val (pe_callB (allK (K := K) rfl rfl) (by rfl) G.n_all (by decide +kernel) (pa_cons (pe_lc (own := [("name", 2), ("choices", 3)]) rfl sc_are_fields.nd (pi_tupK (K := K) rfl (pv 0)) (blkOk_by (own := [("name", 2), ("choices", 3)]) (N := N_are_fields) (sc := defScope S_are_fields) (by decide +kernel)) (fun _ _ _ _ _ => by exact (pg_tupK (K := K) (n := 2) rfl rfl (pgs_cons (pg_name (i := 2) sc_are_fields.nd rfl (Or.inl rfl) (Or.inr rfl)) (pgs_cons (pg_name (i := 3) sc_are_fields.nd rfl (Or.inl rfl) (Or.inr rfl)) pgs_nil)))) (fun _ _ _ _ _ => by exact pts_nil) (fun _ _ _ _ _ => by exact (pe_and (pe_fn A_is_word_forms (hr.mono (by decide)) (pa_cons (pv 2) pa_nil)) (pe_one (pe_fn A_are_words (hr.mono (by decide)) (pa_cons (pv 3) (pa_cons (pe_gi G.c_MOST_VALUES) pa_nil))))))) pa_nil))))
      (pss_one (ps_ret pe_bl))
      pss_nil)
    (pss_one (ps_ret (pe_fn A_are_unlike (hr.mono (by decide)) (pa_cons (pe_lc (own := [("name", 2), ("_", 4)]) rfl sc_are_fields.nd (pi_tupK (K := K) rfl (pv 0)) (blkOk_by (own := [("name", 2), ("_", 4)]) (N := N_are_fields) (sc := defScope S_are_fields) (by decide +kernel)) (fun _ _ _ _ _ => by exact (pg_tupK (K := K) (n := 2) rfl rfl (pgs_cons (pg_name (i := 2) sc_are_fields.nd rfl (Or.inl rfl) (Or.inr rfl)) (pgs_cons (pg_name (i := 4) sc_are_fields.nd rfl (Or.inl rfl) (Or.inr rfl)) pgs_nil)))) (fun _ _ _ _ _ => by exact pts_nil) (fun _ _ _ _ _ => by exact (pv 2))) pa_nil)))))), ?_⟩
    have hlo := hfs.lo
    have hhi := hfs.hi
    have row : ∀ {σ : L2.St} {H2 : Hp} {ta tb tc : TE} {ds : List D} {lo hi : Int} {E : XK}, EvR T ta σ H2 (isT (.tup ds)) → EvR T tb σ H2 (isT (.num lo)) → EvR T tc σ H2 (isT (.num hi)) → lo ≤ ds.length → (ds.length : Int) ≤ hi → EvR T (tCall (SpP T cIsRow) [] E (tCons ta (tCons tb (tCons tc tNil)))) σ H2 (isB true) := fun {σ H2 ta tb tc ds lo hi E} a b c d e => e_fn (a_cons a (a_cons b (a_one c))) fun vs H1 x1 hv => by
      cases hv with
      | cons a hv =>
        cases hv with
        | cons b hv =>
          cases hv with
          | cons c hv =>
            cases hv
            obtain rfl := b.int_inv
            obtain rfl := c.int_inv
            exact ⟨_, ⟨_, ds, lo, hi, rfl, a, d, e, rfl⟩, fun _ _ r => r⟩
    refine s_seq (s_no (T := T) ((t_or (b := false) (c := false) ((t_not (t_b (row (ds := fs.map eF) (e_t rfl h1) e_int e_int (by rw [List.length_map]; omega) (by rw [List.length_map]; omega)))).eq rfl) fun _ => (t_not (t_b ((e_all (f := fun _ => true) (c_tup (xs := fs) (en := eF) (RE := fun _ => isB true) (stB (f := fun _ => true)) (e_t rfl h1) (by omega) (fun _ => true) fun d hd x H1 x1 hx Q k => ?_)).eqB (c := true) (by simp)))).eq rfl).eq rfl) fun H1 x1 => ?_)
    · exact k _ rfl t_yes fun _ => row (e_t rfl hx) e_int e_int (by show (2 : Int) ≤ 2; decide) (by show (2 : Int) ≤ 2; decide)
    refine s_seq (s_no (T := T) ((t_not (t_b ((e_all (f := fun _ => true) (c_tup (xs := fs) (en := eF) (RE := fun _ => isB true) (stB (f := fun _ => true)) (e_t rfl (x1.isT h1)) (by omega) (fun _ => true) fun d hd x H2 x2 hx Q k => ?_)).eqB (c := true) (by simp)))).eq rfl) fun H2 x2 => ?_)
    · refine g_pair hx fun u1 u2 i1 i2 => k _ rfl t_yes fun _ => ?_
      have hv := hfs.vals d hd
      refine (e_andV (b := true) (c := true) (e_fn (a_any (e_t rfl i1)) fun vs H4 x4 hp => ?_) fun _ => e_fn (a_cons (e_t rfl i2) (a_one e_int)) fun vs H4 x4 hp => ?_).eqB rfl
      · obtain ⟨u, rfl, hu⟩ := hp
        obtain rfl := IsD.str_inv hu
        exact ⟨_, ⟨d.1, rfl, hfs.names.ok _ (List.mem_map.mpr ⟨d, hd, rfl⟩), rfl⟩, fun _ _ r => r⟩
      · cases hp with
        | cons a hp =>
          cases hp with
          | cons b hp =>
            cases hp
            obtain rfl := b.int_inv
            exact ⟨_, ⟨_, d.2, 5, rfl, a, hv.1, hv.2.1, by omega, by omega, rfl⟩, fun _ _ r => r⟩
    refine s_ret (T := T) (e_fn (R := isB true) (a_any (EvR.imp (R' := isL ((fs.map (·.1)).map .text)) (c_tup (xs := fs) (en := eF) (RE := fun f => isT (.text f.1)) stT (e_t rfl ((x1.trans x2).isT h1)) (by omega) (fun _ => true) fun d hd x H3 x3 hx Q k => ?_) fun v H3 _ r => ?_)) fun vs H3 x3 hp => ?_) fun v H3 x3 r => q v H3 ((x1.trans x2).trans x3) r
    · exact g_pair hx fun u1 u2 i1 i2 => k _ rfl t_yes fun _ => e_t rfl i1
    · rw [List.filter_eq_self.mpr fun _ _ => rfl] at r
      rw [List.map_map]
      exact (isEach.ln r).l
    · obtain ⟨u, rfl, hu⟩ := hp
      exact ⟨_, ⟨u, _, rfl, .inr hu, hfs.names.nd, by rw [List.length_map]; omega, rfl⟩, fun _ _ r => r⟩

def addPair (name : Str) (r d : D) : D := match r with | .tup ds => .tup (ds ++ [.tup [.text name, d]]) | x => x
theorem ok_all_of {f : Addr} {fd : FuncData} (F : Fun K "all_of" "all_of" S_all_of f fd) (G : Gm mg) : FnOk P w K mg base CX0 1 f fd P_all_of (SpP T cAllOf) := by
  refine F.ok sc_all_of (fun vs H Q E h => ?_) (fun cdv A outer s H vs Q E hr h => ?_)
  · obtain ⟨R, ⟨_, _, rfl, _⟩, _⟩ := h
    rfl
  · obtain ⟨R, ⟨v, fs, rfl, h1, hfs, rfl⟩, q⟩ := h
    refine ⟨_, (pss_cons (ps_set (i := 1) sc_all_of.nd rfl (Or.inl rfl) (pe_lst (pa_cons (pe_tup pa_nil) pa_nil)))
    (pss_cons (ps_for PassesOwn.never rfl (pi_tupK (K := K) rfl (pv 0)) (pg_tupK (K := K) (n := 2) rfl rfl (pgs_cons (pg_name (i := 2) sc_all_of.nd rfl (Or.inr rfl)) (pgs_cons (pg_name (i := 3) sc_all_of.nd rfl (Or.inr rfl)) pgs_nil)))
      (pss_one (ps_setLc2 (i := 1) (own := [("row", 4), ("word", 5)]) (vs1 := [5]) rfl sc_all_of.nd rfl rfl (sw_true rfl rfl rfl (by decide +kernel)) (pi_listK (K := K) rfl (pv 1)) (blkOk_by (own := [("row", 4), ("word", 5)]) (N := N_all_of) (sc := defScope S_all_of) (by decide +kernel)) (by decide) (fun _ _ _ _ _ => by exact (pg_name (i := 4) sc_all_of.nd rfl (Or.inl rfl) (Or.inr rfl))) (fun _ _ _ _ _ => by exact pts_nil) (fun _ _ _ _ _ => by exact (pi_tupK (K := K) rfl (pv 3))) (fun _ _ _ _ _ => by exact (pg_name (i := 5) sc_all_of.nd rfl (Or.inl rfl) (Or.inr rfl))) (fun _ _ _ _ _ => by exact pts_nil) (fun _ _ _ _ _ => by exact (pe_op (catT (K := K) rfl) (pv 4) (pe_tup (pa_cons (pe_tup (pa_cons (pv 2) (pa_cons (pv 5) pa_nil))) pa_nil)))))))
    (pss_one (ps_ret (pv 1))))), ?_⟩
    have hhi := hfs.hi
    refine s_seq (s_asg (T := T) (R := isLN H [.tup []]) (e_lst (a_one (e_tup a_nil (by decide))) (by decide)) fun lr H1 x1 rr => ?_)
    dsimp only
    refine s_seq (f_tup (T := T) (ds := fs.map eF) (e_t rfl (x1.isT h1)) fun H2 x2 => ⟨[], fun i σ' H' => ∃ (lr : V) (z2 z3 z4 z5 : Option V) (rows : List D), σ' = [some v, some lr, z2, z3, z4, z5] ∧ Ext T [] H2 H' ∧ isLN H rows lr H' ∧ rows.length ≤ 3 ^ i ∧ ∀ r ∈ rows, ∃ ds, r = .tup ds ∧ ds.length ≤ i,
      ⟨lr, none, none, none, none, _, rfl, Ext.refl _, x2.isLN rr, Nat.le_refl _, fun r hr => ⟨[], List.mem_singleton.mp hr, Nat.le_refl _⟩⟩, fun i σ' H' hP => ?_, fun i d x σ' H' hd hx hP => ?_, fun σ' H' hP => ?_⟩)
    · obtain ⟨_, _, _, _, _, _, _, e, _⟩ := hP
      exact e
    · obtain ⟨lr, z2, z3, z4, z5, rows, rfl, e, hl, hn, hr⟩ := hP
      rw [List.getElem?_map] at hd
      obtain ⟨fd, hfd, rfl⟩ := Option.map_eq_some_iff.mp hd
      have hi : i < fs.length := (List.getElem?_eq_some_iff.mp hfd).1
      have hv := hfs.vals fd (List.mem_of_getElem? hfd)
      refine g_pair hx fun u1 u2 i1 i2 => ?_
      have hp3 : 3 ^ i ≤ 27 := by
        have : i ≤ 3 := by omega
        exact Nat.pow_le_pow_right (by decide) this
      have hmul : rows.length * (fd.2.map NestedKey.text).length ≤ 3 ^ i * 3 := Nat.mul_le_mul hn (by rw [List.length_map]; exact hv.2.2)
      dsimp only
      refine s_asg (T := T) (R := isLN H' (rows.flatMap fun r => (fd.2.map .text).map fun d => addPair fd.1 r d)) (c_list2 (e_l rfl hl.l) (by omega) (fun _ => rfl) (fun _ _ => rfl) (fun r hrm x H3 x3 hxr => e_t rfl (x3.isT i2)) fun r hrm d hdm x y H3 x3 hxr hyd => ?_) fun v3 H3 x3 r3 => ?_
      · obtain ⟨ds, rfl, hdl⟩ := hr r hrm
        refine (e_cat (ds := ds) (es := [.tup [.text fd.1, d]]) (e_t rfl hxr) (e_tup (a_one (e_two (e_t rfl (x3.isT i1)) (e_t rfl hyd))) (by show 1 ≤ 100000; decide)) (by show ds.length + 1 ≤ 100000; omega)).eqT rfl
      · refine ⟨v3, _, _, _, _, _, rfl, e.trans x3, isLN_back r3 ((x1.trans x2).trans e).free, ?_, fun r hrm => ?_⟩
        · rw [flatMap_len, Nat.pow_succ]
          exact hmul
        · obtain ⟨r0, hr0, hm⟩ := List.mem_flatMap.mp hrm
          obtain ⟨d, _, rfl⟩ := List.mem_map.mp hm
          obtain ⟨ds, rfl, hdl⟩ := hr r0 hr0
          exact ⟨_, rfl, by rw [List.length_append]; exact Nat.succ_le_succ hdl⟩
    · obtain ⟨lr, z2, z3, z4, z5, rows, rfl, e, hl, hn, hr⟩ := hP
      dsimp only
      refine s_ret (T := T) (R := isLN H rows) (e_var rfl hl fun _ x r => x.isLN r) fun v3 H3 x3 r3 => ?_
      refine q v3 H3 (((x1.trans x2).trans e).trans x3) ⟨rows, ?_, r3⟩
      have : 3 ^ (fs.map eF).length ≤ 27 := by
        rw [List.length_map]
        exact Nat.pow_le_pow_right (by decide) hhi
      omega
end
end Sf

set_option Elab.async false
set_option linter.all false
set_option maxRecDepth 100000
set_option maxHeartbeats 4000000
/-! Form.__init__: a form is made. -/
namespace Sf
open PySem L2 LamX
abbrev S_Form_init : Stmt := inClass (topS 51) 0
abbrev N_Form_init : List Str := ["self", "fields", "rules", "name", "words", "rule", "many", "_", "kept", "rows", "row"]
abbrev P_Form_init : List Str := ["self", "fields", "rules"]
theorem sc_Form_init : FnScope N_Form_init P_Form_init (defScope S_Form_init) := ⟨rfl, rfl, rfl, by decide +kernel, rfl, by decide +kernel, by decide +kernel⟩
def SpI (T : List Tab) (C : Addr) : Sp := fun vs H Q _ => ∃ (x dx : Addr) (v2 v3 : V) (fs : List Fd), vs = [.ref x, v2, v3] ∧ H x = some (.ins C dx []) ∧ IsD H v2 (eFs fs) ∧ OkFs fs ∧ IsD H v3 (.tup []) ∧ ∀ H', Ext T [x] H H' → isForm C fs (.ref x) H' → Q .non H'
section
variable {T : List Tab} {K : PySem.W.Frag} {σ : L2.St} {H H' : Hp} {te ta tb tc tl tk tv : TE} {tt : TT} {R : RP} {d : D} {ds : List D} {g : TG} {a x C dx : Addr} {f : Str} {fs : List (Str × V)} {E : Ends} {i : Nat} {vs : List Nat}
theorem s_fldT (h : EvR T tv σ H R) (hx : σ[i]? = some (some (.ref x))) (hX : H x = some (.ins C dx fs)) (cls : Cls K C) (na : NoAttr K C f) (hl : fs.length < 1000)
    (k : ∀ y H1, Ext T [] H H1 → R y H1 → H1 x = some (.ins C dx fs) → Ext T [x] H (upd H1 x (.ins C dx (putF f y fs))) → E.nx σ (upd H1 x (.ins C dx (putF f y fs)))) : sFld K (tVar i) tv f E σ H :=
  h.run fun y H1 x1 r => by
    have hX1 : H1 x = some (.ins C dx fs) := x1.keep x _ (by simp) hX fun _ z => nomatch z
    exact ⟨_, hx, x, C, dx, fs, rfl, hX1, cls, na, hl, k y H1 x1 r hX1 ((x1.wide).trans (Ext.put_self hX1 (noTab_ins C dx fs)))⟩
theorem e_fldT {v : V} (hx : σ[i]? = some (some (.ref x))) (hX : H x = some (.ins C dx fs)) (cls : Cls K C) (na : NoAttr K C f) (hl : fs.lookup f = some v) (hv : IsD H v d) : EvR T (tFld K (tVar i) f) σ H (isT d) := fun H1 x1 Q q =>
  ⟨_, hx, x, C, dx, fs, v, rfl, x1.keep x _ (by simp) hX (fun _ z => nomatch z), cls, na, hl, q v H1 (Ext.refl H1) (x1.isT hv)⟩
/-- [x for x in d], d a dict with nothing in it -/
theorem e_keys0 {D : Addr} (hi : σ[i]? = some (some (.ref D))) (hD : H D = some (.dK [])) : EvR T (tLockE (tLc (iKeys (tVar i)) g tt te vs)) σ H (isLN H []) := fun H1 x1 Q q => by
  have hD1 : H1 D = some (.dK []) := x1.keep D _ (by simp) hD fun _ z => nomatch z
  refine ⟨D, _, hD1, trivial, fun od => ?_⟩
  refine ⟨_, hi, D, od, rfl, .inl ⟨[], upd_same, fun L hL => ?_⟩⟩
  have nLD : D ≠ L := by
    rintro rfl
    rw [upd_same] at hL
    cases hL
  refine lc_it (walk_keys (kvs := [])) (fun i H' => H' = upd (upd H1 D (.frz od (.dK []))) L (.lst [])) rfl (fun i H' _ e => ?_) (fun i x H' H'' hi => absurd hi (Nat.not_lt_zero _)) fun H' e => ?_
  · subst e
    rw [upd_ne nLD, upd_same]
  · subst e
    have e1 : upd (upd H1 D (.frz od (.dK []))) L (.lst []) D = some (.frz od (.dK [])) := by rw [upd_ne nLD, upd_same]
    refine ⟨e1, ?_⟩
    have x2 : Ext T [] H1 (upd (upd (upd H1 D (.frz od (.dK []))) L (.lst [])) D (.dK [])) := Ext.unlock hD1 (noTab_dK []) (Ext.new hL) e1
    refine q _ _ x2 ⟨L, [], rfl, ?_, ?_, .nil⟩
    · refine x1.free _ ?_
      rw [upd_ne (Ne.symm nLD)] at hL
      exact hL
    · rw [upd_ne (Ne.symm nLD), upd_same]
end
section
variable {T : List Tab} {P : Program} {w : World} {K : PySem.W.Frag} {mg : Str → Option Value} {base : Heap} {C : Addr}
theorem ok_Form_init {f : Addr} {fd : FuncData} (F : Fun K "__init__" "Form.__init__" S_Form_init f fd) (G : Gm mg) (cls : Cls K C) (na1 : NoAttr K C "told_fields") (na2 : NoAttr K C "told_rules") (na3 : NoAttr K C "filled")
    (A_is_row : At P w K mg base 1 "is_row" P_is_row (SpP T cIsRow)) (A_are_fields : At P w K mg base 3 "are_fields" P_are_fields (SpP T cAreFields)) (A_all_of : At P w K mg base 1 "all_of" P_all_of (SpP T cAllOf)) (A_breaks : At P w K mg base 1 "breaks" P_breaks (SpP T cBreaks)) : FnOk P w K mg base CX0 4 f fd P_Form_init (SpI T C) := by
  refine F.ok sc_Form_init (fun vs H Q E h => ?_) (fun cdv A outer s H vs Q E hr h => ?_)
  · obtain ⟨x, dx, v2, v3, fs, rfl, _⟩ := h
    rfl
  · obtain ⟨x, dx, v2, v3, fs, rfl, hX, h2, hfs, h3, q⟩ := h
    refine ⟨_, (pss_cons (ps_if (pt_not (pt_val (pe_fn A_are_fields (hr.mono (by decide)) (pa_cons (pv 1) pa_nil))))
      (pss_one ps_never)
      pss_nil)
    (pss_cons (ps_fld (pv 0) (pe_callTy (tupOfK (K := K) rfl) (by rfl) G.n_tuple (by decide +kernel) (pa_cons (pe_lc (own := [("name", 3), ("words", 4)]) rfl sc_Form_init.nd (pi_tupK (K := K) rfl (pv 1)) (blkOk_by (own := [("name", 3), ("words", 4)]) (N := N_Form_init) (sc := defScope S_Form_init) (by decide +kernel)) (fun _ _ _ _ _ => by exact (pg_tupK (K := K) (n := 2) rfl rfl (pgs_cons (pg_name (i := 3) sc_Form_init.nd rfl (Or.inl rfl) (Or.inr rfl)) (pgs_cons (pg_name (i := 4) sc_Form_init.nd rfl (Or.inl rfl) (Or.inr rfl)) pgs_nil)))) (fun _ _ _ _ _ => by exact pts_nil) (fun _ _ _ _ _ => by exact (pe_tup (pa_cons (pv 3) (pa_cons (pe_callTy (tupOfK (K := K) rfl) (by rfl) G.n_tuple (by decide +kernel) (pa_cons (pv 4) pa_nil)) pa_nil))))) pa_nil)) rfl)
    (pss_cons (ps_if (PW.pt (pw_or (pt_not (pt_val (pe_fn A_is_row (hr.mono (by decide)) (pa_cons (pv 2) (pa_cons pe_int (pa_cons (pe_gi G.c_MOST_RULES) pa_nil)))))) (pw_or1 (pt_not (pt_val (pe_callB (allK (K := K) rfl rfl) (by rfl) G.n_all (by decide +kernel) (pa_cons (pe_lc (own := [("rule", 5)]) rfl sc_Form_init.nd (pi_tupK (K := K) rfl (pv 2)) (blkOk_by (own := [("rule", 5)]) (N := N_Form_init) (sc := defScope S_Form_init) (by decide +kernel)) (fun _ _ _ _ _ => by exact (pg_name (i := 5) sc_Form_init.nd rfl (Or.inl rfl) (Or.inr rfl))) (fun _ _ _ _ _ => by exact pts_nil) (fun _ _ _ _ _ => by exact pe_never)) pa_nil)))))))
      (pss_one ps_never)
      pss_nil)
    (pss_cons (ps_set (i := 6) sc_Form_init.nd rfl (Or.inl rfl) pe_int)
    (pss_cons (ps_for PassesOwn.never rfl (pi_tupK (K := K) rfl (fldK (K := K) rfl (pv 0) rfl)) (pg_tupK (K := K) (n := 2) rfl rfl (pgs_cons (pg_name (i := 7) sc_Form_init.nd rfl (Or.inl rfl)) (pgs_cons (pg_name (i := 4) sc_Form_init.nd rfl (Or.inl rfl)) pgs_nil)))
      (pss_one (ps_set (i := 6) sc_Form_init.nd rfl (Or.inl rfl) (pe_op op_mul (pv 6) (pe_callB (lenK (K := K) rfl) (by rfl) G.n_len PySem.boot_len (pa_cons (pv 4) pa_nil))))))
    (pss_cons (ps_if (pt_cmpR op_gt (pv 6) (pe_gi G.c_MOST_FILLINGS) (nomark _))
      (pss_one ps_never)
      pss_nil)
    (pss_cons (ps_setDc (i := 8) (own := [("rule", 5)]) rfl sc_Form_init.nd rfl rfl (sw_trueD rfl rfl rfl (by decide +kernel)) (pi_tupK (K := K) rfl (pv 2)) (blkOk_by (own := [("rule", 5)]) (N := N_Form_init) (sc := defScope S_Form_init) (by decide +kernel)) (fun _ _ _ _ _ => by exact (pg_name (i := 5) sc_Form_init.nd rfl (Or.inl rfl) (Or.inr rfl))) (fun _ _ _ _ _ => by exact pts_nil) (fun _ _ _ _ _ => by exact pe_never) (fun _ _ _ _ _ => by exact pe_bl))
    (pss_cons (ps_fld (pv 0) (pe_callTy (tupOfK (K := K) rfl) (by rfl) G.n_tuple (by decide +kernel) (pa_cons (pe_lock (pe_lc (own := [("rule", 5)]) rfl sc_Form_init.nd (pi_keys (pv 8)) (blkOk_by (own := [("rule", 5)]) (N := N_Form_init) (sc := defScope S_Form_init) (by decide +kernel)) (fun _ _ _ _ _ => by exact (pg_name (i := 5) sc_Form_init.nd rfl (Or.inl rfl) (Or.inr rfl))) (fun _ _ _ _ _ => by exact pts_nil) (fun _ _ _ _ _ => by exact (pv 5)))) pa_nil)) rfl)
    (pss_cons (ps_set (i := 9) sc_Form_init.nd rfl (Or.inl rfl) (pe_fn A_all_of (hr.mono (by decide)) (pa_cons (fldK (K := K) rfl (pv 0) rfl) pa_nil)))
    (pss_one (ps_fld (pv 0) (pe_callTy (tupOfK (K := K) rfl) (by rfl) G.n_tuple (by decide +kernel) (pa_cons (pe_lc (own := [("row", 10)]) rfl sc_Form_init.nd (pi_listK (K := K) rfl (pv 9)) (blkOk_by (own := [("row", 10)]) (N := N_Form_init) (sc := defScope S_Form_init) (by decide +kernel)) (fun _ _ _ _ _ => by exact (pg_name (i := 10) sc_Form_init.nd rfl (Or.inl rfl) (Or.inr rfl))) (fun _ _ _ _ _ => by exact (pts_one (pt_not (pt_val (pe_fn A_breaks (hr.mono (by decide)) (pa_cons (fldK (K := K) rfl (pv 0) rfl) (pa_cons (pv 10) pa_nil))))))) (fun _ _ _ _ _ => by exact (pv 10))) pa_nil)) rfl))))))))))), ?_⟩
    have hlo := hfs.lo
    have hhi := hfs.hi
    refine s_seq (s_no (T := T) ((t_not (t_b (e_fn (R := isB true) (a_one (e_t rfl h2)) fun vs H1 x1 hv => ?_))).eq (b := !true) rfl) fun H1 x1 => ?_)
    · cases hv with
      | cons a hv =>
        cases hv
        exact ⟨_, ⟨_, fs, rfl, a, hfs, rfl⟩, fun _ _ r => r⟩
    have hX1 : H1 x = some (.ins C dx []) := x1.keep x _ (by simp) hX fun _ z => nomatch z
    refine s_seq (s_fldT (T := T) (x := x) (R := isT (eFs fs)) (e_tupOf (EvR.imp (R' := isL (fs.map eF)) (c_tup (xs := fs) (en := eF) (RE := fun f => isT (eF f)) stT (e_t rfl (x1.isT h2)) (by omega) (fun _ => true) fun d hd x H2 x2 hx Q k => ?_) fun v H2 _ r => ?_)) rfl hX1 cls na1 (by show 0 < 1000; decide) fun y H2 x2 r2 hX2 e2 => ?_)
    · exact g_pair hx fun u1 u2 i1 i2 => k _ rfl t_yes fun _ => e_tup (a_cons (e_t rfl i1) (a_one (e_tupTup (e_t rfl i2)))) (by show 2 ≤ 100000; decide)
    · rw [List.filter_eq_self.mpr fun _ _ => rfl] at r
      exact (isEach.ln r).l
    generalize hH3 : upd H2 x (.ins C dx (putF "told_fields" y [])) = H3 at *
    have hX3 : H3 x = some (.ins C dx [("told_fields", y)]) := by rw [← hH3]; exact upd_same
    have t3 : TEx H2 H3 := by rw [← hH3]; exact tex_put hX2 (noTab_ins C dx _)
    have hy : IsD H3 y (eFs fs) := IsD.mono t3 r2
    have e3 := x1.wide.trans e2
    have h33 := e3.isT h3
    refine s_seq (s_no (T := T) ((t_or (b := false) (c := false) ((t_not (t_b (e_fn (R := isB true) (a_cons (e_t rfl h33) (a_cons e_int (a_one e_int))) fun vs H4 x4 hv => ?_))).eq (b := !true) rfl) fun _ => (t_not (t_b ((e_all (f := fun _ => true) (c_tup (xs := ([] : List D)) (en := id) (RE := fun _ => isB true) (stB (f := fun _ => true)) (e_t rfl h33) (by decide) (fun _ => true) fun d hd => nomatch hd)).eqB (c := true) (by simp)))).eq (b := !true) rfl).eq rfl) fun H4 x4 => ?_)
    · cases hv with
      | cons a hv =>
        cases hv with
        | cons b hv =>
          cases hv with
          | cons c hv =>
            cases hv
            obtain rfl := b.int_inv
            obtain rfl := c.int_inv
            exact ⟨_, ⟨_, [], _, _, rfl, a, by decide, by decide, rfl⟩, fun _ _ r => r⟩
    dsimp only
    refine s_seq (s_asg (T := T) (R := isT (.num 1)) e_int fun v6 H5 x5 r6 => ?_)
    obtain rfl := r6.int_inv
    have x45 := x4.trans x5
    have hX5 : H5 x = some (.ins C dx [("told_fields", y)]) := x45.keep x _ (by simp) hX3 fun _ z => nomatch z
    have fT : ∀ {H' : Hp} {σ : L2.St}, Ext T [] H5 H' → σ[0]? = some (some (.ref x)) → EvR T (tFld K (tVar 0) "told_fields") σ H' (isT (eFs fs)) := fun x' hs =>
      e_fldT hs (x'.keep x _ (by simp) hX5 fun _ z => nomatch z) cls na1 rfl ((x45.trans x').isT hy)
    dsimp only
    refine s_seq (f_tup (T := T) (ds := fs.map eF) (fT (Ext.refl _) rfl) fun H6 x6 => ⟨[], fun i σ' H' => ∃ (z3 z4 z7 : Option V) (m : Int), σ' = [some (.ref x), some v2, some v3, z3, z4, none, some (.int m), z7, none, none, none] ∧ Ext T [] H6 H' ∧ 0 ≤ m ∧ m ≤ (3 ^ i : Nat),
      ⟨none, none, none, 1, rfl, Ext.refl _, by decide, by decide⟩, fun i σ' H' hP => ?_, fun i d x' σ' H' hd hx hP => ?_, fun σ' H' hP => ?_⟩)
    · obtain ⟨_, _, _, _, _, e, _⟩ := hP
      exact e
    · obtain ⟨z3, z4, z7, m, rfl, e, m0, m1⟩ := hP
      rw [List.getElem?_map] at hd
      obtain ⟨fd, hfd, rfl⟩ := Option.map_eq_some_iff.mp hd
      have hi : i < fs.length := (List.getElem?_eq_some_iff.mp hfd).1
      have hv := hfs.vals fd (List.mem_of_getElem? hfd)
      have hp3 : 3 ^ i ≤ 27 := by
        have : i ≤ 3 := by omega
        exact Nat.pow_le_pow_right (by decide) this
      refine g_pair hx fun u1 u2 i1 i2 => ?_
      dsimp only
      refine s_asg (T := T) (R := isV (.int (m * fd.2.length))) (e_I (e_t rfl (.int m)) (e_lenT (e_t rfl i2)) (.inl ⟨by omega, by omega⟩)) fun v7 H7 x7 r7 => ?_
      obtain rfl : v7 = _ := r7
      refine ⟨_, _, _, m * fd.2.length, rfl, e.trans x7, Int.mul_nonneg m0 (by omega), ?_⟩
      have h1 : m * (fd.2.length : Int) ≤ ((3 ^ i : Nat) : Int) * 3 := Int.mul_le_mul m1 (by omega) (by omega) (by omega)
      rw [Nat.pow_succ]
      omega
    · obtain ⟨z3, z4, z7, m, rfl, e, m0, m1⟩ := hP
      have hm : m ≤ 27 := by
        have : 3 ^ (fs.map eF).length ≤ 27 := by
          rw [List.length_map]
          exact Nat.pow_le_pow_right (by decide) hhi
        omega
      dsimp only
      have x56 := x6.trans e
      refine s_seq (s_no (T := T) ((t_test ((e_I0 (e_t rfl (.int m)) e_int).bool.eqB (c := false) (decide_eq_false (by omega))))) fun H7 x7 => ?_)
      have h37 := ((x45.trans x56).trans x7).isT h33
      refine s_seq (s_asg (T := T) (R := isKD H7 ([] : List D) (fun _ => (Sum.inr ("" : Str) : Key)) fun _ => isB true) (c_dict (xs := ([] : List D)) (en := id) (k := fun _ => (Sum.inr ("" : Str) : Key)) (stB (f := fun _ => true)) (e_t rfl h37) (by decide) List.nodup_nil fun d hd => nomatch hd) fun v8 H8 x8 r8 => ?_)
      obtain ⟨D, rfl, _, kvs, hD, hk1, hk2⟩ := r8
      obtain rfl : kvs = [] := by
        cases kvs with
        | nil => rfl
        | cons p r => exact nomatch hk1
      have x58 := (x56.trans x7).trans x8
      have hX8 : H8 x = some (.ins C dx [("told_fields", y)]) := x58.keep x _ (by simp) hX5 fun _ z => nomatch z
      have nDx : D ≠ x := by
        rintro rfl
        rw [hD] at hX8
        cases hX8
      refine s_seq (s_fldT (T := T) (x := x) (R := isT (.tup [])) (e_tupOf (EvR.imp (R' := isL []) (e_keys0 rfl hD) fun v H2 _ r => r.l)) rfl hX8 cls na2 (by show 1 < 1000; decide) fun y2 H9 x9 r9 hX9 e9 => ?_)
      generalize hH10 : upd H9 x (.ins C dx (putF "told_rules" y2 [("told_fields", y)])) = H10 at *
      have hX10 : H10 x = some (.ins C dx [("told_fields", y), ("told_rules", y2)]) := by rw [← hH10]; exact upd_same
      have t10 : TEx H9 H10 := by rw [← hH10]; exact tex_put hX9 (noTab_ins C dx _)
      have hy2 : IsD H10 y2 (.tup []) := IsD.mono t10 r9
      have ex10 : Ext T [x] H3 H10 := ((x45.trans x58).wide).trans e9
      have hyA : IsD H10 y (eFs fs) := ex10.isT hy
      dsimp only
      refine s_seq (s_asg (T := T) (R := fun v H' => ∃ rows : List NestedKey, rows.length ≤ 1000 ∧ isLN H10 rows v H') (e_fn (a_one (e_fldT rfl hX10 cls na1 rfl hyA)) fun vs H11 x11 hv => ?_) fun v9 H11 x11 r11 => ?_)
      · cases hv with
        | cons a hv =>
          cases hv
          refine ⟨_, ⟨_, fs, rfl, a, hfs, rfl⟩, fun u H2 r => ?_⟩
          obtain ⟨rows, r1, r2⟩ := r
          exact ⟨rows, r1, isLN_back r2 x11.free⟩
      obtain ⟨rows, hrow, r11⟩ := r11
      have hX11 : H11 x = some (.ins C dx [("told_fields", y), ("told_rules", y2)]) := x11.keep x _ (by simp) hX10 fun _ z => nomatch z
      refine s_fldT (T := T) (x := x) (R := isT (.tup rows)) (e_tupOf (EvR.imp (R' := isL rows) (c_lst (xs := rows) (en := id) (RE := fun r => isT r) stT ((e_l rfl r11.l).eqL (by rw [List.map_id])) (by omega) (fun _ => true) fun d hd x' H2 x2 hx Q k => ?_) fun v H2 _ r => ?_)) rfl hX11 cls na3 (by show 2 < 1000; decide) fun y3 H12 x12 r12 hX12 e12 => ?_
      · refine k _ rfl ((t_not (t_b (e_fn (R := isB false) (a_cons (e_fldT (d := .tup []) rfl (x2.keep x _ (by simp) hX11 fun _ z => nomatch z) cls na2 rfl ((x11.trans x2).isT hy2)) (a_one (e_t rfl hx))) fun vs H3 x3 hv => ?_))).eq (b := !false) rfl) fun _ => e_t rfl hx
        cases hv with
        | cons a hv =>
          cases hv with
          | cons b hv =>
            cases hv
            exact ⟨_, ⟨_, _, rfl, a, rfl⟩, fun _ _ r => r⟩
      · rw [List.filter_eq_self.mpr fun _ _ => rfl] at r
        have r := (isEach.ln r).l
        rw [List.map_id'] at r
        exact r
      · have ex12 : Ext T [x] H10 (upd H12 x (.ins C dx (putF "filled" y3 [("told_fields", y), ("told_rules", y2)]))) := (x11.wide).trans e12
        refine q _ ((e3.trans ex10).trans ex12) ?_
        exact ⟨x, dx, _, y, rfl, upd_same, rfl, ex12.isT hyA, rfl⟩
end
end Sf

set_option Elab.async false
set_option linter.all false
set_option maxRecDepth 100000
set_option maxHeartbeats 4000000
/-! The law's reader: _law_reader, _law_mixed, _law_draw. -/
namespace Sf
open PySem L2 LamX
abbrev S_law_reader : Stmt := topS 53
abbrev N_law_reader : List Str := ["_law_script"]
abbrev P_law_reader : List Str := ["_law_script"]
theorem sc_law_reader : FnScope N_law_reader P_law_reader (defScope S_law_reader) := ⟨rfl, rfl, rfl, by decide +kernel, rfl, by decide +kernel, by decide +kernel⟩
abbrev S_law_mixed : Stmt := topS 54
abbrev N_law_mixed : List Str := ["_law_number", "_law_turn", "_law_many", "_law_first", "_law_second"]
abbrev P_law_mixed : List Str := ["_law_number", "_law_turn", "_law_many"]
theorem sc_law_mixed : FnScope N_law_mixed P_law_mixed (defScope S_law_mixed) := ⟨rfl, rfl, rfl, by decide +kernel, rfl, by decide +kernel, by decide +kernel⟩
abbrev S_law_draw : Stmt := topS 55
abbrev N_law_draw : List Str := ["_law_reader_here", "_law_many", "_law_cell", "_law_digit"]
abbrev P_law_draw : List Str := ["_law_reader_here", "_law_many"]
theorem sc_law_draw : FnScope N_law_draw P_law_draw (defScope S_law_draw) := ⟨rfl, rfl, rfl, by decide +kernel, rfl, by decide +kernel, by decide +kernel⟩
/-- a reader at r, at most k draws made -/
def Rdr (r L : Addr) (k : Nat) (H : Hp) : Prop := ∃ (is : List Int) (a1 : Nat) (a2 a3 a4 a5 a6 : Int), H r = some (.lst [.ref L, .int a1, .int a2, .int a3, .int a4, .int a5, .int a6]) ∧ H L = some (.lst (is.map .int)) ∧ L ≠ r ∧ 0 ≤ a4 ∧ a4 ≤ k ∧ (a5 = 0 ∨ a5 = 1)
/-- a number below m -/
def isN (m : Nat) : RP := fun v _ => ∃ i : Nat, i < m ∧ v = .int i
theorem Rdr.mono {r L : Addr} {k k' : Nat} {H : Hp} (h : Rdr r L k H) (hk : k ≤ k') : Rdr r L k' H := by
  obtain ⟨is, a1, a2, a3, a4, a5, a6, h1, h2, h3, h4, h5, h6⟩ := h
  exact ⟨is, a1, a2, a3, a4, a5, a6, h1, h2, h3, h4, by omega, h6⟩
theorem Rdr.ext {T : List Tab} {r L : Addr} {k : Nat} {H H' : Hp} (h : Rdr r L k H) (x : Ext T [] H H') : Rdr r L k H' := by
  obtain ⟨is, a1, a2, a3, a4, a5, a6, h1, h2, h3⟩ := h
  exact ⟨is, a1, a2, a3, a4, a5, a6, x.lst h1 (by simp), x.lst h2 (by simp), h3⟩
theorem Ext.sqL {T : List Tab} {K : PySem.W.Frag} {H H' : Hp} {a : Addr} {xs : List V} (x : Ext T [] H H') (h : SqL K H a xs) : SqL K H' a xs := by
  rcases h with (h | ⟨o, h⟩) | h
  · exact .inl (.inl (x.keep a _ (by simp) h fun _ z => nomatch z))
  · exact .inl (.inr ⟨o, x.keep a _ (by simp) h fun _ z => nomatch z⟩)
  · exact .inr h
def cMixed : List V → Hp → RP → Prop := fun vs H R => ∃ (n t : Int) (m : Nat), vs = [.int n, .int t, .int m] ∧ 0 ≤ t ∧ t ≤ 1000000 ∧ 1 ≤ m ∧ R = isN m
/-- a def that draws: c says what comes and how many draws it takes -/
def SpD (T : List Tab) (c : List V → Hp → Addr → Nat → RP → Prop) : Sp := fun vs H Q _ => ∃ (r L : Addr) (k n : Nat) (R : RP), c vs H r n R ∧ Rdr r L k H ∧ k + n ≤ 1000000 ∧ ∀ v H', Ext T [r] H H' → Rdr r L (k + n) H' → R v H' → Q v H'
def cDraw : List V → Hp → Addr → Nat → RP → Prop := fun vs H r n R => ∃ m : Nat, vs = [.ref r, .int m] ∧ 1 ≤ m ∧ m ≤ 1000 ∧ n = 1 ∧ R = isN m
def SpReader (K : PySem.W.Frag) (T : List Tab) : Sp := fun vs H Q _ => ∃ (a : Addr) (ns : List Int), vs = [.ref a] ∧ SqL K H a (ns.map .int) ∧ ∀ r L H', H r = none → Ext T [] H H' → Rdr r L 0 H' → Q (.ref r) H'
theorem isDs_ints {H : Hp} : ∀ is : List Int, IsDs H (is.map .int) (is.map .num)
  | [] => .nil
  | i :: is => .cons (.int i) (isDs_ints is)
section
variable {T : List Tab} {K : PySem.W.Frag} {σ : L2.St} {H : Hp} {te ta tb : TE} {i j : Int} {n : Nat} {xs : List V} {r a : Addr} {v : V} {o : Nat} {E : Ends}
theorem e_add (ha : EvR T ta σ H (isT (.num i))) (hb : EvR T tb σ H (isT (.num j))) : EvR T (tOp (rI0 fun i j => .int (i + j)) ta tb) σ H (isT (.num (i + j))) := (e_I0 ha hb).num
theorem e_sub (ha : EvR T ta σ H (isT (.num i))) (hb : EvR T tb σ H (isT (.num j))) : EvR T (tOp (rI0 fun i j => .int (i - j)) ta tb) σ H (isT (.num (i - j))) := (e_I0 ha hb).num
theorem e_mul (ha : EvR T ta σ H (isT (.num i))) (hb : EvR T tb σ H (isT (.num j))) (hc : CMul i j) : EvR T (tOp (rI CMul fun i j => .int (i * j)) ta tb) σ H (isT (.num (i * j))) := (e_I ha hb hc).num
theorem e_mod (ha : EvR T ta σ H (isT (.num i))) (hb : EvR T tb σ H (isT (.num j))) (hc : j ≠ 0) : EvR T (tOp (rI (fun _ j => j ≠ 0) fun i j => .int (i.fmod j)) ta tb) σ H (isT (.num (i.fmod j))) := (e_I ha hb hc).num
theorem e_fdiv (ha : EvR T ta σ H (isT (.num i))) (hb : EvR T tb σ H (isT (.num j))) (hc : CDivN i j) : EvR T (tOp (rI CDivN fun i j => .int (i.fdiv j)) ta tb) σ H (isT (.num (i.fdiv j))) := (e_I ha hb hc).num
theorem e_int1 (ha : EvR T ta σ H (isT (.num i))) : EvR T (tCB (fun xs H Q => (∃ i, xs = [.int i] ∧ Q (.int i) H) ∨ ∃ k, xs = [.bl k] ∧ Q (.int (if k then 1 else 0)) H) (tCons ta tNil)) σ H (isT (.num i)) := e_cb (a_any ha) fun vs H1 _ hp Q q => by
  obtain ⟨v, rfl, h⟩ := hp
  obtain rfl := h.int_inv
  exact .inl ⟨i, rfl, q _ H1 (Ext.refl H1) (.int i)⟩
theorem e_intB {b : Bool} (ha : EvR T ta σ H (isB b)) : EvR T (tCB (fun xs H Q => (∃ i, xs = [.int i] ∧ Q (.int i) H) ∨ ∃ k, xs = [.bl k] ∧ Q (.int (if k then 1 else 0)) H) (tCons ta tNil)) σ H (isT (.num (if b then 1 else 0))) := e_cb (a_any ha) fun vs H1 _ hp Q q => by
  obtain ⟨v, rfl, h⟩ := hp
  obtain rfl : v = _ := h
  exact .inr ⟨b, rfl, q _ H1 (Ext.refl H1) (.int _)⟩
theorem e_abs (ha : EvR T ta σ H (isT (.num i))) : EvR T (tCB (fun xs H Q => ∃ i, xs = [.int i] ∧ Q (.int (if i < 0 then -i else i)) H) (tCons ta tNil)) σ H (isT (.num (if i < 0 then -i else i))) := e_cb (a_any ha) fun vs H1 _ hp Q q => by
  obtain ⟨v, rfl, h⟩ := hp
  obtain rfl := h.int_inv
  exact ⟨i, rfl, q _ H1 (Ext.refl H1) (.int _)⟩
/-- l[j], l a list of any things -/
theorem e_rix (ha : EvR T ta σ H (isV (.ref r))) (hr : H r = some (.lst xs)) (hb : EvR T tb σ H (isT (.num (n : Int)))) (hi : xs[n]? = some v) : EvR T (tOp (rIxL K) ta tb) σ H (isV v) :=
  e_op ha hb (fun _ _ _ _ r => r) fun x y H1 x1 h1 h2 Q q => by
    obtain rfl : x = _ := h1
    obtain rfl := h2.int_inv
    exact ⟨r, xs, (n : Int), v, rfl, rfl, SqL.of (x1.lst hr (by simp)), atI_nat hi, q v H1 (Ext.refl H1) rfl⟩
/-- l[j] = v -/
theorem s_rset (h : EvR T te σ H (isV v)) (ho : σ[o]? = some (some (.ref r))) (hr : H r = some (.lst xs)) (hn : n < xs.length) (k : ∀ H1, Ext T [r] H H1 → H1 r = some (.lst (xs.set n v)) → E.nx σ H1) : tAsg te (gSub (tVar o) (tC (.int (n : Int))) rSetL) E σ H :=
  h.run fun u H1 x1 e => by
    obtain rfl : u = v := e
    have h1 := x1.lst hr (by simp)
    refine ⟨_, ho, r, xs, (n : Int), n, rfl, rfl, h1, ?_, k _ (x1.wide.trans (Ext.put_self h1 (noTab_lst xs))) upd_same⟩
    unfold ixN
    rw [if_pos (by omega), if_pos (by omega)]
    simp
/-- if c: .. ; both ways lead to Pn -/
theorem s_ifP {tt : TT} {tu : TS} {b : Bool} (Pn : L2.St → Hp → Prop) (hn : ∀ σ' H', Pn σ' H' → E.nx σ' H') (h : EvT T tt σ H b) (h1 : (∀ σ' H', Pn σ' H' → E.nx σ' H') → b = true → ∀ H1, Ext T [] H H1 → tu E σ H1) (h2 : b = false → ∀ H1, Ext T [] H H1 → Pn σ H1) : tIfS tt tu tNext E σ H :=
  s_if h (h1 hn) fun e H1 x => hn σ H1 (h2 e H1 x)
end
section
variable {T : List Tab} {P : Program} {w : World} {K : PySem.W.Frag} {mg : Str → Option Value} {base : Heap}
theorem ok_law_mixed {f : Addr} {fd : FuncData} (F : Fun K "_law_mixed" "_law_mixed" S_law_mixed f fd) (G : Gm mg) : FnOk P w K mg base CX0 1 f fd P_law_mixed (SpP T cMixed) := by
  refine F.ok sc_law_mixed (fun vs H Q E h => ?_) (fun cdv A outer s H vs Q E hr h => ?_)
  · obtain ⟨R, ⟨_, _, _, rfl, _⟩, _⟩ := h
    rfl
  · obtain ⟨R, ⟨n, t, m, rfl, ht0, ht1, hm, rfl⟩, q⟩ := h
    refine ⟨_, (pss_cons (ps_set (i := 3) sc_law_mixed.nd rfl (Or.inl rfl) (pe_op op_modN (pe_callTy call_int1 (by rfl) G.n_int (by decide +kernel) (pa_cons (pe_op op_mul (pe_op op_add (pe_op op_modN (pe_callTy call_int1 (by rfl) G.n_int (by decide +kernel) (pa_cons (pv 0) pa_nil)) pe_int) (pe_op op_mul (pv 1) pe_int)) pe_int) pa_nil)) pe_int))
    (pss_cons (ps_set (i := 4) sc_law_mixed.nd rfl (Or.inl rfl) (pe_op op_modN (pe_callTy call_int1 (by rfl) G.n_int (by decide +kernel) (pa_cons (pe_op op_add (pe_op op_add (pe_op op_mul (pv 3) pe_int) (pe_op op_mul (pe_op op_mul (pv 1) (pv 1)) pe_int)) pe_int) pa_nil)) pe_int))
    (pss_one (ps_ret (pe_op op_modN (pe_callTy call_int1 (by rfl) G.n_int (by decide +kernel) (pa_cons (pe_op op_fdivN (pv 4) pe_int) pa_nil)) (pv 2)))))), ?_⟩
    refine s_seq (s_asg (T := T) (e_mod (e_int1 (e_mul (e_add (e_mod (e_int1 (e_t rfl (.int n))) e_int (by decide)) (e_mul (e_t rfl (.int t)) e_int (.inr (by decide)))) e_int (.inr (by decide)))) e_int (by decide)) fun v1 H1 x1 r1 => ?_)
    obtain rfl := r1.int_inv
    dsimp only
    refine s_seq (s_asg (T := T) (e_mod (e_int1 (e_add (e_add (e_mul (e_t rfl (.int _)) e_int (.inr (by decide))) (e_mul (e_mul (e_t rfl (.int t)) (e_t rfl (.int t)) (.inl ⟨by omega, by omega⟩)) e_int (.inr (by decide)))) e_int)) e_int (by decide)) fun v2 H2 x2 r2 => ?_)
    obtain rfl := r2.int_inv
    dsimp only
    refine s_ret (T := T) (e_mod (e_int1 (e_fdiv (e_t rfl (.int _)) e_int ⟨by decide, by decide⟩)) (e_t rfl (.int m)) (by omega)) fun v3 H3 x3 r3 => q v3 H3 ((x1.trans x2).trans x3) ?_
    obtain rfl := r3.int_inv
    rw [Int.fmod_eq_emod_of_nonneg _ (by omega)]
    generalize (((_ : Int).fmod 2147483629).fdiv 64) = z
    have h0 := Int.emod_nonneg z (show (m : Int) ≠ 0 by omega)
    have h1 := Int.emod_lt_of_pos z (show (0 : Int) < m by omega)
    exact ⟨(z % m).toNat, by omega, by rw [Int.toNat_of_nonneg h0]⟩
theorem ok_law_reader {f : Addr} {fd : FuncData} (F : Fun K "_law_reader" "_law_reader" S_law_reader f fd) (G : Gm mg) : FnOk P w K mg base CX0 1 f fd P_law_reader (SpReader K T) := by
  refine F.ok sc_law_reader (fun vs H Q E h => ?_) (fun cdv A outer s H vs Q E hr h => ?_)
  · obtain ⟨a, ns, rfl, _⟩ := h
    rfl
  · obtain ⟨a, ns, rfl, hs, q⟩ := h
    refine ⟨_, (pss_one (ps_ret (pe_lst (pa_cons (pe_callTy (lstOfK (K := K) rfl) (by rfl) G.n_list (by decide +kernel) (pa_cons (pv 0) pa_nil)) (pa_cons pe_int (pa_cons pe_int (pa_cons pe_int (pa_cons pe_int (pa_cons pe_int (pa_cons (pe_op op_modN (pe_callTy call_int1 (by rfl) G.n_int (by decide +kernel) (pa_cons (pe_callB (cr_sum rfl) (by rfl) G.n_sum (by decide +kernel) (pa_cons (pv 0) pa_nil)) pa_nil)) pe_int) pa_nil)))))))))), ?_⟩
    have hl : EvR T (tCB (rLstOf K) (tCons (tVar 0) tNil)) (L2.start N_law_reader [V.ref a]) H (fun v H' => ∃ L, v = .ref L ∧ H' L = some (.lst (ns.map .int)) ∧ H L = none) := e_cb (a_any (e_v rfl)) fun vs H1 x1 hp Q q => by
      obtain ⟨v, rfl, e⟩ := hp
      obtain rfl : v = .ref a := e
      exact ⟨a, ns.map .int, rfl, .inl (x1.sqL hs), fun l hl => q _ _ (Ext.new hl) ⟨l, rfl, upd_same, x1.free _ hl⟩⟩
    have hsum : ∀ {H1}, Ext T [] H H1 → EvR T (tCB (rSum K) (tCons (tVar 0) tNil)) (L2.start N_law_reader [V.ref a]) H1 (isT (.num ns.sum)) := fun x0 => e_cb (a_any (e_v rfl)) fun vs H1 x1 hp Q q => by
      obtain ⟨v, rfl, e⟩ := hp
      obtain rfl : v = .ref a := e
      exact ⟨a, ns, rfl, (x0.trans x1).sqL hs, q _ H1 (Ext.refl H1) (.int _)⟩
    refine hl.run fun v H1 x1 hv => ?_
    obtain ⟨L, rfl, hL, hL0⟩ := hv
    refine (a_cons e_int (a_cons e_int (a_cons e_int (a_cons e_int (a_cons e_int (a_one (e_mod (e_int1 (hsum x1)) e_int (by decide)))))))) H1 (Ext.refl H1) _ fun vs H2 x2 hvs => ?_
    cases hvs with
    | cons h1 hvs =>
    cases hvs with
    | cons h2 hvs =>
    cases hvs with
    | cons h3 hvs =>
    cases hvs with
    | cons h4 hvs =>
    cases hvs with
    | cons h5 hvs =>
    cases hvs with
    | cons h6 hvs =>
    cases hvs
    obtain rfl := h1.int_inv
    obtain rfl := h2.int_inv
    obtain rfl := h3.int_inv
    obtain rfl := h4.int_inv
    obtain rfl := h5.int_inv
    obtain rfl := h6.int_inv
    refine ⟨by show 7 ≤ _; decide, fun p hp => ?_⟩
    have x12 := x1.trans x2
    refine q p L _ (x12.free _ hp) (x12.trans (Ext.new hp)) ⟨ns, 0, 0, 0, 0, 0, _, upd_same, ?_, ?_, by decide, by decide, .inl rfl⟩
    · rw [upd_ne]
      · exact x2.lst hL (by simp)
      · rintro rfl
        rw [x2.lst hL (by simp)] at hp
        cases hp
    · rintro rfl
      rw [x2.lst hL (by simp)] at hp
      cases hp
theorem ok_law_draw {f : Addr} {fd : FuncData} (F : Fun K "_law_draw" "_law_draw" S_law_draw f fd) (G : Gm mg) (A_law_mixed : At P w K mg base 1 "_law_mixed" P_law_mixed (SpP T cMixed)) : FnOk P w K mg base CX0 2 f fd P_law_draw (SpD T cDraw) := by
  refine F.ok sc_law_draw (fun vs H Q E h => ?_) (fun cdv A outer s H vs Q E hr h => ?_)
  · obtain ⟨_, _, _, _, _, ⟨_, rfl, _⟩, _⟩ := h
    rfl
  · obtain ⟨r, L, k, n, R, ⟨m, rfl, hm, hm2, rfl, rfl⟩, hR, hk, q⟩ := h
    refine ⟨_, (pss_cons (ps_asg (pe_op op_add (pe_ix (ixL (K := K) rfl) (pv 0) pe_int (fun _ _ => rfl)) pe_int) (pg_sub (pv 0) pe_int set_list))
    (pss_cons (ps_if (PW.pt (pw_and (pt_cmpR op_eq (pe_ix (ixL (K := K) rfl) (pv 0) pe_int (fun _ _ => rfl)) pe_int (nomark _)) (pw_and1 (pt_cmpR op_lt (pe_ix (ixL (K := K) rfl) (pv 0) pe_int (fun _ _ => rfl)) (pe_callB (lenK (K := K) rfl) (by rfl) G.n_len PySem.boot_len (pa_cons (pe_ix (ixL (K := K) rfl) (pv 0) pe_int (fun _ _ => rfl)) pa_nil)) (nomark _)))))
      (pss_cons (ps_set (i := 2) sc_law_draw.nd rfl (Or.inl rfl) (pe_callB call_abs (by rfl) G.n_abs (by decide +kernel) (pa_cons (pe_ix (ixL (K := K) rfl) (pe_ix (ixL (K := K) rfl) (pv 0) pe_int (fun _ _ => rfl)) (pe_ix (ixL (K := K) rfl) (pv 0) pe_int (fun _ _ => rfl)) (fun _ _ => rfl)) pa_nil)))
      (pss_cons (ps_asg (pe_op op_add (pe_ix (ixL (K := K) rfl) (pv 0) pe_int (fun _ _ => rfl)) pe_int) (pg_sub (pv 0) pe_int set_list))
      (pss_cons (ps_asg (pe_op op_modN (pe_callTy call_int1 (by rfl) G.n_int (by decide +kernel) (pa_cons (pv 2) pa_nil)) pe_int) (pg_sub (pv 0) pe_int set_list))
      (pss_cons (ps_asg (pe_op op_fdivN (pv 2) (pe_op op_sub pe_int (pe_ix (ixL (K := K) rfl) (pv 0) pe_int (fun _ _ => rfl)))) (pg_sub (pv 0) pe_int set_list))
      (pss_one (ps_asg (pe_op op_sub pe_int (pe_op op_mul pe_int (pe_ix (ixL (K := K) rfl) (pv 0) pe_int (fun _ _ => rfl)))) (pg_sub (pv 0) pe_int set_list)))))))
      pss_nil)
    (pss_cons (ps_if (pt_cmpR op_eq (pe_ix (ixL (K := K) rfl) (pv 0) pe_int (fun _ _ => rfl)) pe_int (nomark _))
      (pss_one (ps_ret (pe_fn A_law_mixed (hr.mono (by decide)) (pa_cons (pe_ix (ixL (K := K) rfl) (pv 0) pe_int (fun _ _ => rfl)) (pa_cons (pe_ix (ixL (K := K) rfl) (pv 0) pe_int (fun _ _ => rfl)) (pa_cons (pv 1) pa_nil))))))
      pss_nil)
    (pss_cons (ps_asg (pe_op op_sub (pe_ix (ixL (K := K) rfl) (pv 0) pe_int (fun _ _ => rfl)) pe_int) (pg_sub (pv 0) pe_int set_list))
    (pss_cons (ps_if (pt_cmpR op_eq (pe_ix (ixL (K := K) rfl) (pv 0) pe_int (fun _ _ => rfl)) pe_int (nomark _))
      (pss_one (ps_ret (pe_fn A_law_mixed (hr.mono (by decide)) (pa_cons (pe_ix (ixL (K := K) rfl) (pv 0) pe_int (fun _ _ => rfl)) (pa_cons (pe_ix (ixL (K := K) rfl) (pv 0) pe_int (fun _ _ => rfl)) (pa_cons (pv 1) pa_nil))))))
      pss_nil)
    (pss_cons (ps_set (i := 3) sc_law_draw.nd rfl (Or.inl rfl) (pe_op op_modN (pe_callTy call_int1 (by rfl) G.n_int (by decide +kernel) (pa_cons (pe_ix (ixL (K := K) rfl) (pv 0) pe_int (fun _ _ => rfl)) pa_nil)) (pv 1)))
    (pss_cons (ps_asg (pe_op op_fdivN (pe_ix (ixL (K := K) rfl) (pv 0) pe_int (fun _ _ => rfl)) (pv 1)) (pg_sub (pv 0) pe_int set_list))
    (pss_cons (ps_asg (pe_op op_mul (pe_ix (ixL (K := K) rfl) (pv 0) pe_int (fun _ _ => rfl)) (pe_callTy call_int1 (by rfl) G.n_int (by decide +kernel) (pa_cons (pe_cmpR op_gt (pe_ix (ixL (K := K) rfl) (pv 0) pe_int (fun _ _ => rfl)) pe_int (nomark _)) pa_nil))) (pg_sub (pv 0) pe_int set_list))
    (pss_one (ps_ret (pv 3))))))))))), ?_⟩
    obtain ⟨is, a1, a2, a3, a4, a5, a6, h1, h2, h3, h4, h5, h6⟩ := hR
    have num : ∀ {te : TE} {σ : L2.St} {H1 : Hp} {i : Int}, EvR T te σ H1 (isV (.int i)) → EvR T te σ H1 (isT (.num i)) := fun h => h.num
    -- the last part: a number mixed
    have mixed : ∀ {ti tj : TE} {σ : L2.St} {H1 : Hp} {b t : Int} {E : Ends}, EvR T ti σ H1 (isT (.num b)) → EvR T tj σ H1 (isT (.num t)) → σ[1]? = some (some (.int m)) → 0 ≤ t → t ≤ 1000000 → (∀ v H2, Ext T [] H1 H2 → isN m v H2 → E.rt v H2) → tRet (tCall (SpP T cMixed) [] E0 (tCons ti (tCons tj (tCons (tVar 1) tNil)))) E σ H1 := fun {ti tj σ H1 b t E} hi hj hs ht0 ht1 q => by
      refine s_ret (T := T) (R := isN m) (e_fn (a_cons hi (a_cons hj (a_one (e_t hs (.int m))))) fun vs H2 x2 hv => ?_) q
      cases hv with
      | cons h1 hv =>
        cases hv with
        | cons h2 hv =>
          cases hv with
          | cons h3 hv =>
            cases hv
            obtain rfl := h1.int_inv
            obtain rfl := h2.int_inv
            obtain rfl := h3.int_inv
            exact ⟨_, ⟨_, _, m, rfl, ht0, ht1, hm, rfl⟩, fun _ _ r => r⟩
    have ix : ∀ {σ : L2.St} {H1 : Hp} {xs : List V} {j : Nat} {v : V}, σ[0]? = some (some (.ref r)) → H1 r = some (.lst xs) → xs[j]? = some v → EvR T (tOp (rIxL K) (tVar 0) (tC (.int (j : Int)))) σ H1 (isV v) := fun hs hr hj => e_rix (e_v hs) hr e_int hj
    refine s_seq (s_rset (T := T) (n := 4) (xs := [.ref L, .int a1, .int a2, .int a3, .int a4, .int a5, .int a6]) (v := .int (a4 + 1)) ((e_add (ix rfl h1 (j := 4) rfl).num e_int).imp fun v H' x r => r.int_inv) rfl h1 (by show 4 < 7; decide) fun H1 x1 hr1 => ?_)
    have hL1 : H1 L = some (.lst (is.map .int)) := x1.lst h2 (by simpa using h3)
    have i0 : ∀ {σ : L2.St} {H1 : Hp} {xs : List V} {j : Nat} {i : Int}, σ[0]? = some (some (.ref r)) → H1 r = some (.lst xs) → xs[j]? = some (.int i) → EvR T (tOp (rIxL K) (tVar 0) (tC (.int (j : Int)))) σ H1 (isT (.num i)) := fun hs hr hj => (ix hs hr hj).num
    have asV : ∀ {te : TE} {σ : L2.St} {H1 : Hp} {i : Int}, EvR T te σ H1 (isT (.num i)) → EvR T te σ H1 (isV (.int i)) := fun h => h.imp fun v _ _ r => r.int_inv
    have cells : ∀ {σ : L2.St} {H1 : Hp} {xs : List V}, σ[0]? = some (some (.ref r)) → H1 r = some (.lst xs) → xs[0]? = some (.ref L) → H1 L = some (.lst (is.map .int)) → EvR T (tOp (rIxL K) (tVar 0) (tC (.int 0))) σ H1 (isL (is.map .num)) := fun {σ H1 xs} hs hr hx hL => EvR.imp (e_rix (n := 0) (e_v hs) hr e_int hx) fun v H2 x2 e => by
      obtain rfl : v = .ref L := e
      exact ⟨L, _, rfl, x2.lst hL (by simp), isDs_ints is⟩
    dsimp only
    -- the first if: a new number is taken
    refine s_seq (s_ifP (T := T) (b := decide (a3 = 0) && decide ((a1 : Int) < is.length)) (fun σ H2 => ∃ (z2 : Option V) (b1 : Nat) (b2 b3 b5 : Int), σ = [some (.ref r), some (.int m), z2, none] ∧ Ext T [r] H H2 ∧ H2 r = some (.lst [.ref L, .int b1, .int b2, .int b3, .int (a4 + 1), .int b5, .int a6]) ∧ H2 L = some (.lst (is.map .int)) ∧ (b5 = 0 ∨ b5 = 1)) (fun σ H2 hP => ?_) ?_ (fun hn hb H2 x2 => ?_) fun hb H2 x2 => ⟨none, a1, a2, a3, a5, rfl, x1.trans x2.wide, x2.lst hr1 (by simp), x2.lst hL1 (by simp), h6⟩)
    · obtain ⟨z2, b1, b2, b3, b5, rfl, e2, hr2, hL2, h62⟩ := hP
      dsimp only
      refine s_seq (s_if (T := T) (b := decide (b3 = 0)) (t_test (e_eqI (i0 rfl hr2 (j := 3) rfl) e_int)) (fun _ H3 x3 => ?_) fun hb H3 x3 => ?_)
      · refine mixed (i0 rfl (x3.lst hr2 (by simp)) (j := 6) rfl) (i0 rfl (x3.lst hr2 (by simp)) (j := 4) rfl) rfl (by omega) (by omega) fun v H4 x4 r4 => ?_
        exact q v H4 (e2.trans (x3.trans x4).wide) ⟨is, b1, b2, b3, a4 + 1, b5, a6, (x3.trans x4).lst hr2 (by simp), (x3.trans x4).lst hL2 (by simp), h3, by omega, by omega, h62⟩ r4
      · dsimp only
        refine s_seq (s_rset (T := T) (n := 3) (v := .int (b3 - 1)) (asV (e_sub (i0 rfl (x3.lst hr2 (by simp)) (j := 3) rfl) e_int)) rfl (x3.lst hr2 (by simp)) (by show 3 < 7; decide) fun H4 x4 hr4 => ?_)
        have hL4 : H4 L = some (.lst (is.map .int)) := x4.lst (x3.lst hL2 (by simp)) (by simpa using h3)
        have e4 := (e2.trans x3.wide).trans x4
        dsimp only
        refine s_seq (s_if (T := T) (b := decide (b5 = 1)) (t_test (e_eqI (i0 rfl hr4 (j := 5) rfl) e_int)) (fun _ H5 x5 => ?_) fun hb5 H5 x5 => ?_)
        · refine mixed (i0 rfl (x5.lst hr4 (by simp)) (j := 2) rfl) (i0 rfl (x5.lst hr4 (by simp)) (j := 4) rfl) rfl (by omega) (by omega) fun v H6 x6 r6 => ?_
          exact q v H6 (e4.trans (x5.trans x6).wide) ⟨is, b1, b2, b3 - 1, a4 + 1, b5, a6, (x5.trans x6).lst hr4 (by simp), (x5.trans x6).lst hL4 (by simp), h3, by omega, by omega, h62⟩ r6
        · dsimp only
          refine s_seq (s_asg (T := T) (e_mod (e_int1 (i0 rfl (x5.lst hr4 (by simp)) (j := 2) rfl)) (e_t rfl (.int m)) (by omega)) fun v6 H6 x6 r6 => ?_)
          obtain rfl := r6.int_inv
          dsimp only
          have x56 := x5.trans x6
          refine s_seq (s_rset (T := T) (n := 2) (v := .int (b2.fdiv m)) (asV (e_fdiv (i0 rfl (x56.lst hr4 (by simp)) (j := 2) rfl) (e_t rfl (.int m)) ⟨by omega, by omega⟩)) rfl (x56.lst hr4 (by simp)) (by show 2 < 7; decide) fun H7 x7 hr7 => ?_)
          have hL7 : H7 L = some (.lst (is.map .int)) := x7.lst (x56.lst hL4 (by simp)) (by simpa using h3)
          have e7 := (e4.trans x56.wide).trans x7
          dsimp only
          refine s_seq (s_rset (T := T) (n := 3) (v := .int ((b3 - 1) * (if decide (0 < b2.fdiv m) = true then 1 else 0))) (asV (e_mul (i0 rfl hr7 (j := 3) rfl) (e_intB (e_I0 (i0 rfl hr7 (j := 2) rfl) e_int).bool) (.inr ⟨?_, ?_⟩))) rfl hr7 (by show 3 < 7; decide) fun H8 x8 hr8 => ?_)
          · split <;> omega
          · split <;> omega
          have hL8 : H8 L = some (.lst (is.map .int)) := x8.lst hL7 (by simpa using h3)
          have e8 := e7.trans x8
          dsimp only
          refine s_ret (T := T) (e_v rfl) fun v9 H9 x9 r9 => ?_
          obtain rfl : v9 = _ := r9
          refine q _ H9 (e8.trans x9.wide) ⟨is, b1, b2.fdiv m, _, a4 + 1, b5, a6, x9.lst hr8 (by simp), x9.lst hL8 (by simp), h3, by omega, by omega, h62⟩ ?_
          rw [Int.fmod_eq_emod_of_nonneg _ (by omega)]
          have h0 := Int.emod_nonneg b2 (show (m : Int) ≠ 0 by omega)
          have h1 := Int.emod_lt_of_pos b2 (show (0 : Int) < m by omega)
          exact ⟨(b2 % m).toNat, by omega, by rw [Int.toNat_of_nonneg h0]⟩
    · exact t_and (t_test (e_eqI (i0 rfl hr1 (j := 3) rfl) e_int)) fun _ => t_test (EvR.bool ((e_I0 (i0 rfl hr1 (j := 1) rfl) ((e_lenL (cells rfl hr1 rfl hL1)).eqT (by rw [List.length_map])))))
    · rw [Bool.and_eq_true] at hb
      have hlt : a1 < is.length := by
        have := of_decide_eq_true hb.2
        omega
      have hr2 := x2.lst hr1 (by simp)
      have hL2 := x2.lst hL1 (by simp)
      have e2 := x1.trans x2.wide
      dsimp only
      refine s_seq (s_asg (T := T) (e_abs (e_ixL (x := .num is[a1]) (cells rfl hr2 rfl hL2) (i0 rfl hr2 (j := 1) rfl) (by rw [List.getElem?_map, List.getElem?_eq_getElem hlt]; rfl))) fun v3 H3 x3 r3 => ?_)
      obtain rfl := r3.int_inv
      generalize (if is[a1] < 0 then -is[a1] else is[a1]) = cell at *
      have hr3 := x3.lst hr2 (by simp)
      dsimp only
      refine s_seq (s_rset (T := T) (n := 1) (v := .int ((a1 + 1 : Nat) : Int)) (asV (e_add (i0 rfl hr3 (j := 1) rfl) e_int)) rfl hr3 (by show 1 < 7; decide) fun H4 x4 hr4 => ?_)
      dsimp only
      refine s_seq (s_rset (T := T) (n := 5) (v := .int (cell.fmod 2)) (asV (e_mod (e_int1 (e_t rfl (.int _))) e_int (by decide))) rfl hr4 (by show 5 < 7; decide) fun H5 x5 hr5 => ?_)
      have hm2 : cell.fmod 2 = 0 ∨ cell.fmod 2 = 1 := by
        rw [Int.fmod_eq_emod_of_nonneg _ (by omega)]
        omega
      dsimp only
      refine s_seq (s_rset (T := T) (n := 2) (v := .int (cell.fdiv (2 - cell.fmod 2))) (asV (e_fdiv (e_t rfl (.int _)) (e_sub e_int (i0 rfl hr5 (j := 5) rfl)) ⟨by omega, by omega⟩)) rfl hr5 (by show 2 < 7; decide) fun H6 x6 hr6 => ?_)
      dsimp only
      refine s_rset (T := T) (n := 3) (v := .int (60 - 40 * cell.fmod 2)) (asV (e_sub e_int (e_mul e_int (i0 rfl hr6 (j := 5) rfl) (.inl ⟨by decide, by decide⟩)))) rfl hr6 (by show 3 < 7; decide) fun H7 x7 hr7 => ?_
      have nL : L ∉ [r] := by simpa using h3
      have e7 := (((((e2.trans x3.wide).trans x4).trans x5).trans x6).trans x7)
      exact hn _ _ ⟨_, a1 + 1, _, _, _, rfl, e7, hr7, x7.lst (x6.lst (x5.lst (x4.lst (x3.lst hL2 (by simp)) nL) nL) nL) nL, hm2⟩
end
end Sf

set_option Elab.async false
set_option linter.all false
set_option maxRecDepth 100000
set_option maxHeartbeats 4000000
/-! What a reading comes to that draws. -/
namespace Sf
open PySem L2 LamX
section
variable (T : List Tab) (r L : Addr)
def EvD (n : Nat) (te : TE) (σ : L2.St) (H : Hp) (R : RP) : Prop := ∀ k H1, Ext T [r] H H1 → Rdr r L k H1 → k + n ≤ 1000000 → ∀ Q : VK, (∀ v H2, Ext T [r] H1 H2 → Rdr r L (k + n) H2 → R v H2 → Q v H2) → te σ H1 Q
def EvDA (n : Nat) (ta : TA) (σ : L2.St) (H : Hp) (R : List V → Hp → Prop) : Prop := ∀ k H1, Ext T [r] H H1 → Rdr r L k H1 → k + n ≤ 1000000 → ∀ Q : List V → Hp → Prop, (∀ vs H2, Ext T [r] H1 H2 → Rdr r L (k + n) H2 → R vs H2 → Q vs H2) → ta σ H1 Q
end
section
variable {T : List Tab} {r L : Addr} {K : PySem.W.Frag} {σ : L2.St} {H H' : Hp} {n m : Nat} {te ta tb tc : TE} {tt : TT} {tu tw : TS} {t : TA} {R R' R1 R2 : RP} {d e : D} {ds es : List D} {E : Ends} {i k : Nat} {v : V}
theorem Rdr.some (h : Rdr r L k H) : H r ≠ none := by
  obtain ⟨is, a1, a2, a3, a4, a5, a6, h1, _⟩ := h
  rw [h1]
  exact fun z => nomatch z
theorem Rdr.cell (h : Rdr r L k H) : H L ≠ none := by
  obtain ⟨is, a1, a2, a3, a4, a5, a6, _, h1, _⟩ := h
  rw [h1]
  exact fun z => nomatch z
theorem Rdr.put {p : Addr} {o : HO} (h : Rdr r L k H) (h1 : r ≠ p) (h2 : L ≠ p) : Rdr r L k (upd H p o) := by
  obtain ⟨is, a1, a2, a3, a4, a5, a6, k1, k2, k3⟩ := h
  exact ⟨is, a1, a2, a3, a4, a5, a6, by rw [upd_ne h1]; exact k1, by rw [upd_ne h2]; exact k2, k3⟩
theorem EvD.mono (h : EvD T r L n te σ H R) (x : Ext T [r] H H') : EvD T r L n te σ H' R := fun k H1 a hr hk Q q => h k H1 (x.trans a) hr hk Q q
theorem EvD.imp (h : EvD T r L n te σ H R) (i : ∀ v H2, Ext T [r] H H2 → R v H2 → R' v H2) : EvD T r L n te σ H R' := fun k H1 a hr hk Q q => h k H1 a hr hk Q fun v H2 x hr2 p => q v H2 x hr2 (i v H2 (a.trans x) p)
theorem EvD.up (h : EvD T r L n te σ H R) (hn : n ≤ m) : EvD T r L m te σ H R := fun k H1 a hr hk Q q => h k H1 a hr (by omega) Q fun v H2 x hr2 p => q v H2 x (hr2.mono (by omega)) p
theorem EvD.run (h : EvD T r L n te σ H R) (hr : Rdr r L k H) (hk : k + n ≤ 1000000) {Q : VK} (q : ∀ v H2, Ext T [r] H H2 → Rdr r L (k + n) H2 → R v H2 → Q v H2) : te σ H Q := h k H (Ext.refl H) hr hk Q q
/-- what draws nothing -/
theorem d_of (h : ∀ H1, Ext T [r] H H1 → EvR T te σ H1 R) : EvD T r L 0 te σ H R := fun k H1 a hr hk Q q => (h H1 a).run fun v H2 x p => q v H2 x.wide (hr.ext x) p
theorem da_nil : EvDA T r L 0 tNil σ H (fun vs _ => vs = []) := fun k H1 a hr hk Q q => q [] H1 (Ext.refl H1) hr rfl
/-- arguments -/
def consP (R : RP) (P : List V → Hp → Prop) : List V → Hp → Prop := fun vs H => ∃ v us, vs = v :: us ∧ R v H ∧ P us H
theorem da_cons {tr : TA} {P : List V → Hp → Prop} (m' : ∀ v H1 H2, Ext T [r] H1 H2 → R v H1 → R v H2) (h : EvD T r L n te σ H R) (hr : EvDA T r L m tr σ H P) : EvDA T r L (n + m) (tCons te tr) σ H (consP R P) := fun k H1 a rd hk Q q =>
  h k H1 a rd (by omega) _ fun v H2 x2 rd2 p => hr (k + n) H2 (a.trans x2) rd2 (by omega) _ fun vs H3 x3 rd3 ps => q _ H3 (x2.trans x3) (by rw [← Nat.add_assoc]; exact rd3) ⟨v, vs, rfl, m' v _ _ x3 p, ps⟩
/-- a call of a def that draws -/
theorem d_call {c : List V → Hp → Addr → Nat → RP → Prop} {X : XK} {P : List V → Hp → Prop} (h : EvDA T r L n t σ H P) (hc : ∀ vs H1, Ext T [r] H H1 → H1 r ≠ none → P vs H1 → ∃ R1, c vs H1 r m R1 ∧ ∀ v H2, R1 v H2 → R v H2) : EvD T r L (n + m) (tCall (SpD T c) [] X t) σ H R := fun k H1 a rd hk Q q =>
  h k H1 a rd (by omega) _ fun vs H2 x2 rd2 p => by
    obtain ⟨R1, h1, h2⟩ := hc vs H2 (a.trans x2) rd2.some p
    refine ⟨r, L, k + n, m, R1, by rw [List.append_nil]; exact h1, rd2, by omega, fun v H3 x3 rd3 p3 => q v H3 (x2.trans x3) (by rw [← Nat.add_assoc]; exact rd3) (h2 v H3 p3)⟩
/-- a call of one that draws not, whose arguments draw -/
theorem d_fn {c : List V → Hp → RP → Prop} {X : XK} {P : List V → Hp → Prop} (h : EvDA T r L n t σ H P) (hc : ∀ vs H1, Ext T [r] H H1 → P vs H1 → ∃ R1, c vs H1 R1 ∧ ∀ v H2, R1 v H2 → R v H2) : EvD T r L n (tCall (SpP T c) [] X t) σ H R := fun k H1 a rd hk Q q =>
  h k H1 a rd hk _ fun vs H2 x2 rd2 p => by
    obtain ⟨R1, h1, h2⟩ := hc vs H2 (a.trans x2) p
    exact ⟨R1, by rw [List.append_nil]; exact h1, fun v H3 x3 p3 => q v H3 (x2.trans x3.wide) (rd2.ext x3) (h2 v H3 p3)⟩
theorem e_tC (h : IsD H v d) : EvR T (tC v) σ H (isT d) := fun H1 x Q q => q v H1 (Ext.refl H1) (x.isT h)
/-- an operation -/
theorem d_op {rd : L2.R2} (m1 : ∀ v H1 H2, Ext T [r] H1 H2 → R1 v H1 → R1 v H2) (ha : EvD T r L n ta σ H R1) (hb : EvD T r L m tb σ H R2) (hr : ∀ x y H1, Ext T [r] H H1 → R1 x H1 → R2 y H1 → EvR T (tOp rd (tC x) (tC y)) σ H1 R) : EvD T r L (n + m) (tOp rd ta tb) σ H R := fun k H1 a r1 hk Q q =>
  ha k H1 a r1 (by omega) _ fun u H2 x2 r2 p2 => hb (k + n) H2 (a.trans x2) r2 (by omega) _ fun w H3 x3 r3 p3 => by
    refine (hr u w H3 ((a.trans x2).trans x3) (m1 _ _ _ x3 p2) p3).run fun v H4 x4 p4 => ?_
    exact q v H4 ((x2.trans x3).trans x4.wide) (by rw [← Nat.add_assoc]; exact r3.ext x4) p4
/-- a built-in's call with one argument -/
theorem d_cb {rd : List V → Hp → VK → Prop} (ha : EvD T r L n ta σ H R1) (hr : ∀ x H1, Ext T [r] H H1 → R1 x H1 → EvR T (tCB rd (tCons (tC x) tNil)) σ H1 R) : EvD T r L n (tCB rd (tCons ta tNil)) σ H R := fun k H1 a r1 hk Q q =>
  ha k H1 a r1 hk _ fun u H2 x2 r2 p2 => (hr u H2 (a.trans x2) p2).run fun v H4 x4 p4 => q v H4 (x2.trans x4.wide) (r2.ext x4) p4
theorem d_tup {P : List V → Hp → Prop} (h : EvDA T r L n t σ H P) (hp : ∀ vs H1, Ext T [r] H H1 → P vs H1 → IsDs H1 vs ds) (hl : ds.length ≤ 100000) : EvD T r L n (tTup t) σ H (isT (.tup ds)) := fun k H1 a rd hk Q q =>
  h k H1 a rd hk _ fun vs H2 x2 rd2 p => by
    have hd := hp vs H2 (a.trans x2) p
    exact ⟨sz (by rw [hd.length]; exact hl), fun p hp => q _ _ (x2.trans (Ext.new hp)) (rd2.ext (T := T) (Ext.new hp)) (.tup upd_same (IsDs.mono (Ext.new (T := T) (ex := []) hp).tup hd))⟩
/-- s.join(..) -/
theorem d_m1 {rd : V → List V → Hp → VK → Prop} (ho : ∀ H1, Ext T [r] H H1 → EvR T ta σ H1 R1) (hs : ∀ v H1, R1 v H1 → ∃ a, v = .str a) (m1 : ∀ v H1 H2, Ext T [r] H1 H2 → R1 v H1 → R1 v H2) (hb : EvD T r L n tb σ H R2) (hr : ∀ x y H1, Ext T [r] H H1 → R1 x H1 → R2 y H1 → EvR T (tM1 rd (tC x) (tC y)) σ H1 R) : EvD T r L n (tM1 rd ta tb) σ H R := fun k H1 a r1 hk Q q =>
  (ho H1 a).run fun u H2 x2 p2 => ⟨hs u H2 p2, hb k H2 (a.trans x2.wide) (r1.ext x2) hk _ fun w H3 x3 r3 p3 => by
    have h := (hr u w H3 ((a.trans x2.wide).trans x3) (m1 _ _ _ x3 p2) p3)
    exact (h.run (Q := Q) fun v H4 x4 p4 => q v H4 ((x2.wide.trans x3).trans x4.wide) (r3.ext x4) p4).2⟩
/-- reader first, a number next: one draw -/
theorem d_draw {X : XK} {m : Nat} (hs : σ[i]? = .some (.some (.ref r))) (hm : ∀ H1, Ext T [r] H H1 → EvR T te σ H1 (isT (.num (m : Int)))) (h1 : 1 ≤ m) (h2 : m ≤ 1000) : EvD T r L 1 (tCall (SpD T cDraw) [] X (tCons (tVar i) (tCons te tNil))) σ H (isN m) :=
  (d_call (n := 0 + (0 + 0)) (m := 1) (da_cons (R := isV (.ref r)) (fun _ _ _ _ p => p) (d_of fun _ _ => e_v hs) (da_cons (R := isT (.num (m : Int))) (fun _ _ _ x p => x.isT p) (d_of hm) da_nil)) fun vs H1 x1 _ hp => by
    obtain ⟨v, us, rfl, hv, w, us, rfl, hw, rfl⟩ := hp
    obtain rfl : v = .ref r := hv
    obtain rfl := hw.int_inv
    exact ⟨_, ⟨m, rfl, h1, h2, rfl, rfl⟩, fun _ _ p => p⟩)
/-- a list of trees, not the reader -/
def isLr (r : Addr) (ds : List D) : RP := fun v H => ∃ a vs, v = .ref a ∧ a ≠ r ∧ H a = .some (.lst vs) ∧ IsDs H vs ds
theorem isLr.l (h : isLr r ds v H) : isL ds v H := by
  obtain ⟨a, vs, e, _, h1, h2⟩ := h
  exact ⟨a, vs, e, h1, h2⟩
theorem isLr.mono (x : Ext T [r] H H') (h : isLr r ds v H) : isLr r ds v H' := by
  obtain ⟨a, vs, e, h0, h1, h2⟩ := h
  exact ⟨a, vs, e, h0, x.lst h1 (by simpa using h0), h2.mono x.tup⟩
theorem isLN.lr {H0 : Hp} (h : isLN H0 ds v H) (hr : H0 r ≠ none) : isLr r ds v H := by
  obtain ⟨a, vs, e, h0, h1, h2⟩ := h
  exact ⟨a, vs, e, fun z => hr (z ▸ h0), h1, h2⟩
theorem isLN.monoR {H0 : Hp} (x : Ext T [r] H H') (hr : H0 r ≠ none) (h : isLN H0 ds v H) : isLN H0 ds v H' := by
  obtain ⟨a, vs, e, h0, h1, h2⟩ := h
  exact ⟨a, vs, e, h0, x.lst h1 (by simp only [List.mem_singleton]; rintro rfl; exact hr h0), h2.mono x.tup⟩
/-! statements -/
theorem sd_asg (h : EvD T r L n te σ H R) (hr : Rdr r L k H) (hk : k + n ≤ 1000000) (q : ∀ v H1, Ext T [r] H H1 → Rdr r L (k + n) H1 → R v H1 → E.nx (σ.set i (some v)) H1) : tAsg te (gName i) E σ H := h.run hr hk q
theorem sd_ret (h : EvD T r L n te σ H R) (hr : Rdr r L k H) (hk : k + n ≤ 1000000) (q : ∀ v H1, Ext T [r] H H1 → Rdr r L (k + n) H1 → R v H1 → E.rt v H1) : tRet te E σ H := h.run hr hk q
/-- if .. , drawn -/
theorem sd_if (h : EvD T r L n te σ H (fun v _ => ∃ b, v = .bl b)) (hr : Rdr r L k H) (hk : k + n ≤ 1000000) (h1 : ∀ H1, Ext T [r] H H1 → Rdr r L (k + n) H1 → tu E σ H1) (h2 : ∀ H1, Ext T [r] H H1 → Rdr r L (k + n) H1 → tw E σ H1) : tIfS (tTest te) tu tw E σ H := by
  refine h.run hr hk fun v H1 x rd p => ?_
  obtain ⟨b, rfl⟩ := p
  refine ⟨b, rfl, ?_⟩
  cases b with
  | true => exact h1 H1 x rd
  | false => exact h2 H1 x rd
/-- for i in range(..): .. -/
theorem fd_range {g : TG} {ti : TE} {b0 b : Nat} (h : EvD T r L n ti σ H (fun v _ => ∃ j : Nat, b0 ≤ j ∧ j ≤ b ∧ v = .int j)) (hb : b ≤ 100000) (hr : Rdr r L k H) (hk : k + n ≤ 1000000) (kk : ∀ j H1, b0 ≤ j → j ≤ b → Ext T [r] H H1 → Rdr r L (k + n) H1 → ∃ (Pv : Nat → L2.St → Hp → Prop), Pv 0 σ H1 ∧
      (∀ i σ' H', i < j → Pv i σ' H' → g (.int (i : Int)) σ' H' fun σ2 H2 => tu { E with nx := Pv (i + 1), ct := Pv (i + 1), bk := E.nx } σ2 H2) ∧ (∀ σ' H', Pv j σ' H' → E.nx σ' H')) : tFor (iRng1 (tCons ti tNil)) g tu E σ H := h.run hr hk fun v H1 x rd p => by
  obtain ⟨j, hj0, hj, rfl⟩ := p
  obtain ⟨Pv, h0, hs, hd⟩ := kk j H1 hj0 hj x rd
  refine ⟨(j : Int), rfl, by omega, by omega, ?_⟩
  have e : ((j : Int)).toNat = j := by simp
  rw [e]
  refine for_range (lo := 0) (n := j) Pv h0 (fun i σ' H' hi p => ?_) hd
  rw [Int.zero_add]
  exact hs i σ' H' hi p
/-- [.. for i in range(..)], drawn -/
theorem cd_range {ti : TE} {vs : List Nat} {b j0 : Nat} {Pd : Nat → D → Prop} (h : EvD T r L n ti σ H (fun v _ => ∃ j : Nat, j0 ≤ j ∧ j ≤ b ∧ v = .int j)) (hb : b ≤ 1000) (hw : ∀ x, wipe ((wipe σ vs).set i (some x)) vs = wipe σ vs)
    (hs : ∀ j H1, j < b → Ext T [r] H H1 → EvD T r L m te ((wipe σ vs).set i (some (.int (j : Nat)))) H1 (fun v H' => ∃ d, Pd j d ∧ IsD H' v d)) :
    EvD T r L (n + b * m) (tLc (iRng1 (tCons ti tNil)) (gName i) tYes te vs) σ H (fun v H' => ∃ ds : List D, j0 ≤ ds.length ∧ ds.length ≤ b ∧ (∀ (i : Nat) d, ds[i]? = some d → Pd i d) ∧ isLN H ds v H') := fun k H1 xa rd hk Q q =>
  h k H1 xa rd (by omega) _ fun v H2 x2 rd2 p => by
    obtain ⟨j, hj0, hj, rfl⟩ := p
    refine ⟨(j : Int), rfl, by omega, by omega, ?_⟩
    have e : ((j : Int)).toNat = j := by simp
    rw [e]
    intro M hM
    have hMr : r ≠ M := by
      rintro rfl
      exact rd2.some hM
    refine lc_range (lo := 0) (n := j) (fun i H' => ∃ acc ds, Ext T [r] H2 H' ∧ Rdr r L (k + n + i * m) H' ∧ H' M = some (.lst acc) ∧ IsDs H' acc ds ∧ ds.length = i ∧ ∀ (i : Nat) d, ds[i]? = some d → Pd i d) ⟨[], [], Ext.new hM, by rw [Nat.zero_mul]; exact rd2.ext (T := T) (Ext.new hM), upd_same, .nil, rfl, fun i d hd => by simp at hd⟩ (fun i' H' hi hp => ?_) fun H' hp => ?_
    · obtain ⟨acc, ds, e, rd3, hacc, hds, hlen, hpd⟩ := hp
      refine ⟨hw _, ?_⟩
      unfold tYes
      dsimp only
      rw [if_pos rfl, Int.zero_add]
      have hmul : i' * m + m ≤ b * m := by
        have := Nat.mul_le_mul (show i' + 1 ≤ b by omega) (Nat.le_refl m)
        rw [Nat.succ_mul] at this
        exact this
      refine (hs i' H' (by omega) ((xa.trans x2).trans e)).run rd3 (by omega) fun y H4 x4 rd4 p4 => ?_
      obtain ⟨d, hd, hyd⟩ := p4
      have hacc4 : H4 M = some (.lst acc) := x4.lst hacc (by simpa using Ne.symm hMr)
      refine ⟨acc, hacc4, sz' (by rw [hds.length]; omega), acc ++ [y], ds ++ [d], (e.trans x4).put (.inl hM) hacc4 (noTab_lst _), ?_, upd_same, ?_, by rw [List.length_append, hlen]; rfl, fun iz z hz => ?_⟩
      · refine Rdr.mono (k := k + n + i' * m + m) (rd4.put hMr ?_) (by rw [Nat.succ_mul]; omega)
        rintro rfl
        exact rd2.cell hM
      · exact ((hds.mono x4.tup).append (.one hyd)).mono (tex_put hacc4 (noTab_lst _))
      · by_cases hlt : iz < ds.length
        · rw [List.getElem?_append_left hlt] at hz
          exact hpd iz z hz
        · rw [List.getElem?_append_right (by omega)] at hz
          have hz0 : iz - ds.length = 0 := by
            cases hq : iz - ds.length with
            | zero => rfl
            | succ q => rw [hq] at hz; simp at hz
          rw [hz0] at hz
          obtain rfl : d = z := by simpa using hz
          obtain rfl : iz = i' := by omega
          exact hd
    · obtain ⟨acc, ds, e, rd3, hacc, hds, hlen, hpd⟩ := hp
      have hmul := Nat.mul_le_mul hj (Nat.le_refl m)
      exact q _ H' (x2.trans e) (rd3.mono (by omega)) ⟨ds, by omega, by omega, hpd, M, acc, rfl, xa.free _ (x2.free _ hM), hacc, hds⟩
end
end Sf

set_option Elab.async false
set_option linter.all false
set_option maxRecDepth 100000
set_option maxHeartbeats 4000000
/-! Texts sign by sign; _law_names. -/
namespace Sf
open PySem L2 LamX
abbrev S_law_names : Stmt := topS 56
abbrev N_law_names : List Str := ["_law_reader_here", "_law_many", "_law_letters", "_law_size", "_law_stem", "_law_k", "_law_at", "_law_start", "_law_step"]
abbrev P_law_names : List Str := ["_law_reader_here", "_law_many"]
theorem sc_law_names : FnScope N_law_names P_law_names (defScope S_law_names) := ⟨rfl, rfl, rfl, by decide +kernel, rfl, by decide +kernel, by decide +kernel⟩
/-- x + y, two texts -/
abbrev rAdS : V → V → Hp → VK → Prop := fun x y H Q => ∃ i j, x = .str i ∧ y = .str j ∧ i.length + j.length ≤ sizeLine ∧ Q (.str (i ++ j)) H
/-- the text of signs -/
abbrev mkS (cs : List Nat) : Str := ⟨cs.toArray⟩
def OkC (c : Nat) : Prop := 97 ≤ c ∧ c ≤ 122
theorem mkS_len (cs : List Nat) : (mkS cs).length = cs.length := by simp [Str.length]
theorem joinL_nil : ∀ ps : List (List Nat), TL.joinL [] ps = ps.flatten
  | [] => rfl
  | [p] => by simp [TL.joinL]
  | p :: q :: r => by
    show p ++ ([] ++ TL.joinL [] (q :: r)) = _
    rw [joinL_nil (q :: r)]
    simp
theorem tl_empty : TL.tl ("" : Str) = [] := by decide +kernel
theorem join_letters (cs : List Nat) : Txt.join "" (cs.map fun c => (⟨#[c]⟩ : Str)) = mkS cs := by
  refine TL.ext_tl ?_
  rw [TL.join_eq, TL.tl_join, tl_empty, joinL_nil, List.map_map]
  show (cs.map fun c => [c]).flatten = _
  rw [TL.tl_mk]
  induction cs with
  | nil => rfl
  | cons c cs ih =>
    show c :: (cs.map fun c => [c]).flatten = _
    rw [ih]
theorem letters_of : ∀ {ds : List D}, (∀ (i : Nat) d, ds[i]? = some d → ∃ c, OkC c ∧ d = .text ⟨#[c]⟩) → ∃ cs : List Nat, cs.length = ds.length ∧ (∀ c ∈ cs, OkC c) ∧ ds = (cs.map fun c => (⟨#[c]⟩ : Str)).map .text
  | [], _ => ⟨[], rfl, (fun _ h => nomatch h), rfl⟩
  | d :: ds, h => by
    obtain ⟨c, hc, rfl⟩ := h 0 d rfl
    obtain ⟨cs, h1, h2, h3⟩ := letters_of (ds := ds) fun i d hd => h (i + 1) d hd
    refine ⟨c :: cs, by rw [List.length_cons, h1]; rfl, fun x hx => ?_, by rw [h3]; rfl⟩
    rcases List.mem_cons.mp hx with rfl | hx
    · exact hc
    · exact h2 x hx
/-- the word with c put in at n -/
def nameW (cs : List Nat) (n c : Nat) : Str := mkS (cs.take n ++ c :: cs.drop n)
theorem nameW_ok {cs : List Nat} {n c : Nat} (h : ∀ c ∈ cs, OkC c) (hl : cs.length ≤ 7) (hc : OkC c) : OkW (nameW cs n c) := by
  have hlen : (nameW cs n c).length = cs.length + 1 := by
    unfold nameW
    rw [mkS_len, List.length_append, List.length_cons, List.length_take, List.length_drop]
    omega
  refine ⟨by omega, by omega, fun x hx => ?_⟩
  unfold nameW at hx
  rw [List.toList_toArray] at hx
  rcases List.mem_append.mp hx with hx | hx
  · exact h x (List.mem_of_mem_take hx)
  · rcases List.mem_cons.mp hx with rfl | hx
    · exact hc
    · exact h x (List.mem_of_mem_drop hx)
theorem nameW_inj {cs : List Nat} {n c c' : Nat} (h : nameW cs n c = nameW cs n c') : c = c' := by
  have h1 : cs.take n ++ c :: cs.drop n = cs.take n ++ c' :: cs.drop n := congrArg (fun x : Str => x.cps.toList) h
  have h2 := List.append_cancel_left h1
  injection h2
theorem letter_at {i : Nat} (h : i < 26) : (abc : Str).cps.toList[i]? = some (97 + i) := by
  rw [abc_cps, List.getElem?_range' (by omega)]
  simp
def stepN (start step k : Nat) : Nat := (start + k * step) % 26
theorem stepN_inj {start step k k' : Nat} (hs : step = 1 ∨ step = 3 ∨ step = 25 ∨ step = 9) (h1 : k < 26) (h2 : k' < 26) (h : stepN start step k = stepN start step k') : k = k' := by
  unfold stepN at h
  rcases hs with rfl | rfl | rfl | rfl <;> omega
/-- the words of _law_names -/
def namesW (cs : List Nat) (n start step many : Nat) : Tx := (List.range many).map fun k => nameW cs n (97 + stepN start step k)
theorem namesW_ok {cs : List Nat} {n start step many : Nat} (h : ∀ c ∈ cs, OkC c) (hl : cs.length ≤ 7) (hs : step = 1 ∨ step = 3 ∨ step = 25 ∨ step = 9) (hm : many ≤ 26) : OkWs (namesW cs n start step many) := by
  refine ⟨fun w hw => ?_, ?_⟩
  · obtain ⟨k, _, rfl⟩ := List.mem_map.mp hw
    refine nameW_ok h hl ?_
    have : stepN start step k < 26 := Nat.mod_lt _ (by decide)
    exact ⟨by omega, by omega⟩
  · unfold namesW List.Nodup
    rw [List.pairwise_map]
    refine List.Pairwise.imp_of_mem ?_ (List.nodup_range)
    intro a b ha hb hab e
    have := nameW_inj e
    exact hab (stepN_inj (start := start) hs (by have := List.mem_range.mp ha; omega) (by have := List.mem_range.mp hb; omega) (by omega))
section
variable {T : List Tab} {K : PySem.W.Frag} {σ : L2.St} {H : Hp} {te ta tb : TE} {z y : Str} {i c : Nat}
theorem e_sIx (ha : EvR T ta σ H (isT (.text z))) (hb : EvR T tb σ H (isT (.num (i : Int)))) (hz : z.length ≤ 100000) (hi : z.cps.toList[i]? = some c) : EvR T (tOp rIxS ta tb) σ H (isT (.text ⟨#[c]⟩)) :=
  e_opT ha hb fun u w H1 _ h1 h2 Q q => by
    obtain rfl := h1.str_inv
    obtain rfl := h2.int_inv
    exact ⟨z, (i : Int), c, rfl, rfl, sz hz, atI_nat hi, q _ H1 (Ext.refl H1) (.str _)⟩
theorem e_sSl {tl th : TO} {lo hi : Option Int} (h : EvR T te σ H (isT (.text z))) (h1 : EvO T tl σ H lo) (h2 : EvO T th σ H hi) (hz : z.length ≤ 100000) : EvR T (tSl rSlS te tl th) σ H (isT (.text (cutS z lo hi))) := fun H1 x Q q =>
  h H1 x _ fun v H2 x2 r => h1 H2 (x.trans x2) _ fun H3 x3 => h2 H3 ((x.trans x2).trans x3) _ fun H4 x4 => by
    obtain rfl := r.str_inv
    exact ⟨z, rfl, sz hz, q _ H4 ((x2.trans x3).trans x4) (.str _)⟩
theorem e_sAdd (ha : EvR T ta σ H (isT (.text z))) (hb : EvR T tb σ H (isT (.text y))) (hz : z.length + y.length ≤ 100000) : EvR T (tOp rAdS ta tb) σ H (isT (.text (z ++ y))) :=
  e_opT ha hb fun u w H1 _ h1 h2 Q q => by
    obtain rfl := h1.str_inv
    obtain rfl := h2.str_inv
    exact ⟨z, y, rfl, rfl, sz hz, q _ H1 (Ext.refl H1) (.str _)⟩
end
theorem e_lC {T : List Tab} {σ : L2.St} {H : Hp} {v : V} {ds : List D} (h : isL ds v H) : EvR T (tC v) σ H (isL ds) := fun H1 x Q q => q v H1 (Ext.refl H1) (x.isL h)
theorem cutS_to (cs : List Nat) (n : Nat) : cutS (mkS cs) none (some (n : Int)) = mkS (cs.take n) := by
  unfold cutS
  rw [HT.sIx_nat, mkS_len]
  show (⟨((cs.drop 0).take (min n cs.length - 0)).toArray⟩ : Str) = _
  rw [List.drop_zero, Nat.sub_zero]
  by_cases h : n ≤ cs.length
  · rw [Nat.min_eq_left h]
  · rw [Nat.min_eq_right (by omega), List.take_of_length_le (Nat.le_refl _), List.take_of_length_le (by omega)]
theorem cutS_from (cs : List Nat) (n : Nat) : cutS (mkS cs) (some (n : Int)) none = mkS (cs.drop n) := by
  unfold cutS
  rw [HT.sIx_nat, mkS_len]
  show (⟨((cs.drop (min n cs.length)).take (cs.length - min n cs.length)).toArray⟩ : Str) = _
  by_cases h : n ≤ cs.length
  · rw [Nat.min_eq_left h, List.take_of_length_le (by rw [List.length_drop]; exact Nat.le_refl _)]
  · rw [Nat.min_eq_right (by omega), List.drop_of_length_le (Nat.le_refl _), List.drop_of_length_le (by omega)]
    simp
theorem mkS_app (a b : List Nat) : mkS a ++ mkS b = mkS (a ++ b) := TL.ext_tl (by rw [TL.tl_append, TL.tl_mk, TL.tl_mk, TL.tl_mk])
section
variable {T : List Tab} {r L : Addr} {K : PySem.W.Frag} {σ : L2.St} {H H' : Hp} {n m : Nat} {te ta tb tc : TE} {d e : D} {ds es : List D}
/-- one of a tuple, drawn -/
theorem d_pick (ha : ∀ H1, Ext T [r] H H1 → EvR T ta σ H1 (isT (.tup ds))) (hb : EvD T r L n tb σ H (isN m)) (hm : m = ds.length) : EvD T r L n (tOp (rIxT K) ta tb) σ H (fun v H' => ∃ d ∈ ds, IsD H' v d) := by
  have h : EvD T r L (0 + n) (tOp (rIxT K) ta tb) σ H (fun v H' => ∃ d ∈ ds, IsD H' v d) := d_op (R1 := isT (.tup ds)) (fun _ _ _ x p => x.isT p) (d_of ha) hb fun x y H1 x1 h1 h2 => by
    obtain ⟨i, hi, rfl⟩ := h2
    have hlt : i < ds.length := by omega
    exact (e_ix (e_tC h1) (e_tC (.int i)) (List.getElem?_eq_getElem hlt)).imp fun v H2 x2 p => ⟨ds[i], List.getElem_mem hlt, p⟩
  rw [Nat.zero_add] at h
  exact h
theorem d_pickL (ha : ∀ H1, Ext T [r] H H1 → EvR T ta σ H1 (isLr r ds)) (hb : EvD T r L n tb σ H (isN m)) (hm : m = ds.length) : EvD T r L n (tOp (rIxL K) ta tb) σ H (fun v H' => ∃ d ∈ ds, IsD H' v d) := by
  have h : EvD T r L (0 + n) (tOp (rIxL K) ta tb) σ H (fun v H' => ∃ d ∈ ds, IsD H' v d) := d_op (R1 := isLr r ds) (fun _ _ _ x p => p.mono x) (d_of ha) hb fun x y H1 x1 h1 h2 => by
    obtain ⟨i, hi, rfl⟩ := h2
    have hlt : i < ds.length := by omega
    exact (e_ixL (fun H2 x2 Q q => q x H2 (Ext.refl H2) (x2.isL h1.l)) (e_tC (.int i)) (List.getElem?_eq_getElem hlt)).imp fun v H2 x2 p => ⟨ds[i], List.getElem_mem hlt, p⟩
  rw [Nat.zero_add] at h
  exact h
end
def cNames : List V → Hp → Addr → Nat → RP → Prop := fun vs H r n R => ∃ m : Nat, vs = [.ref r, .int m] ∧ 1 ≤ m ∧ m ≤ 6 ∧ n = 12 ∧ R = fun v H' => ∃ ws : Tx, ws.length = m ∧ OkWs ws ∧ isLN H (ws.map .text) v H'
section
variable {T : List Tab} {P : Program} {w : World} {K : PySem.W.Frag} {mg : Str → Option Value} {base : Heap}
theorem ok_law_names {f : Addr} {fd : FuncData} (F : Fun K "_law_names" "_law_names" S_law_names f fd) (G : Gm mg) (A_law_draw : At P w K mg base 2 "_law_draw" P_law_draw (SpD T cDraw)) : FnOk P w K mg base CX0 3 f fd P_law_names (SpD T cNames) := by
  refine F.ok sc_law_names (fun vs H Q E h => ?_) (fun cdv A outer s H vs Q E hr h => ?_)
  · obtain ⟨_, _, _, _, _, ⟨_, rfl, _⟩, _⟩ := h
    rfl
  · obtain ⟨r, L, k, n, R, ⟨m, rfl, hm, hm2, rfl, rfl⟩, hR, hk, q⟩ := h
    refine ⟨_, (pss_cons (ps_set (i := 2) sc_law_names.nd rfl (Or.inr rfl) pe_str)
    (pss_cons (ps_set (i := 3) sc_law_names.nd rfl (Or.inl rfl) (pe_ix (ixT (K := K) rfl) (pe_tup (pa_cons pe_int (pa_cons pe_int (pa_cons pe_int (pa_cons pe_int (pa_cons pe_int pa_nil)))))) (pe_fn A_law_draw (hr.mono (by decide)) (pa_cons (pv 0) (pa_cons pe_int pa_nil))) (fun _ _ => rfl)))
    (pss_cons (ps_set (i := 4) sc_law_names.nd rfl (Or.inr rfl) (joinK (K := K) rfl pe_str (pe_lc (own := [("_law_k", 5)]) rfl sc_law_names.nd (pi_range1 rfl G.n_range (pa_cons (pv 3) pa_nil)) (blkOk_by (own := [("_law_k", 5)]) (N := N_law_names) (sc := defScope S_law_names) (by decide +kernel)) (fun _ _ _ _ _ => by exact (pg_name (i := 5) sc_law_names.nd rfl (Or.inl rfl) (Or.inr rfl))) (fun _ _ _ _ _ => by exact pts_nil) (fun _ _ _ _ _ => by exact (pe_ix ix_str (pv 2) (pe_fn A_law_draw (hr.mono (by decide)) (pa_cons (pv 0) (pa_cons pe_int pa_nil))) (fun _ _ => rfl))))))
    (pss_cons (ps_set (i := 6) sc_law_names.nd rfl (Or.inr rfl) (pe_fn A_law_draw (hr.mono (by decide)) (pa_cons (pv 0) (pa_cons (pe_op op_add (pv 3) pe_int) pa_nil))))
    (pss_cons (ps_set (i := 7) sc_law_names.nd rfl (Or.inr rfl) (pe_fn A_law_draw (hr.mono (by decide)) (pa_cons (pv 0) (pa_cons pe_int pa_nil))))
    (pss_cons (ps_set (i := 8) sc_law_names.nd rfl (Or.inr rfl) (pe_ix (ixT (K := K) rfl) (pe_tup (pa_cons pe_int (pa_cons pe_int (pa_cons pe_int (pa_cons pe_int pa_nil))))) (pe_fn A_law_draw (hr.mono (by decide)) (pa_cons (pv 0) (pa_cons pe_int pa_nil))) (fun _ _ => rfl)))
    (pss_one (ps_ret (pe_lc (own := [("_law_k", 5)]) rfl sc_law_names.nd (pi_range1 rfl G.n_range (pa_cons (pv 1) pa_nil)) (blkOk_by (own := [("_law_k", 5)]) (N := N_law_names) (sc := defScope S_law_names) (by decide +kernel)) (fun _ _ _ _ _ => by exact (pg_name (i := 5) sc_law_names.nd rfl (Or.inl rfl) (Or.inr rfl))) (fun _ _ _ _ _ => by exact pts_nil) (fun _ _ _ _ _ => by exact (pe_op op_add_str (pe_op op_add_str (pe_slice sl_str (pv 4) po_none (po_some (pv 6))) (pe_ix ix_str (pv 2) (pe_op op_modN (pe_callTy call_int1 (by rfl) G.n_int (by decide +kernel) (pa_cons (pe_op op_add (pv 7) (pe_op op_mul (pv 5) (pv 8))) pa_nil)) pe_int) (fun _ _ => rfl))) (pe_slice sl_str (pv 4) (po_some (pv 6)) po_none)))))))))))), ?_⟩
    refine s_seq (s_asg (T := T) (e_str (x := abc)) fun v2 H1 x1 r2 => ?_)
    obtain rfl := r2.str_inv
    have hR1 := hR.ext x1
    dsimp only
    refine s_seq (sd_asg (T := T) (r := r) (L := L) (n := 1) (R := fun v _ => ∃ s : Nat, s ≤ 7 ∧ v = .int s) (EvD.imp (d_pick (m := 5) (ds := [.num 0, .num 0, .num 1, .num 2, .num 7]) (fun H2 x2 => e_tup (a_cons e_int (a_cons e_int (a_cons e_int (a_cons e_int (a_one e_int))))) (by decide)) (d_draw rfl (fun _ _ => e_int) (by decide) (by decide)) rfl) fun v H2 _ p => ?_) hR1 (by omega) fun v3 H3 x3 hR3 r3 => ?_)
    · obtain ⟨d, hd, p⟩ := p
      simp only [List.mem_cons, List.not_mem_nil, or_false] at hd
      rcases hd with rfl | rfl | rfl | rfl | rfl
      · exact ⟨0, by decide, p.int_inv⟩
      · exact ⟨0, by decide, p.int_inv⟩
      · exact ⟨1, by decide, p.int_inv⟩
      · exact ⟨2, by decide, p.int_inv⟩
      · exact ⟨7, by decide, p.int_inv⟩
    obtain ⟨size, hsize, rfl⟩ := r3
    dsimp only
    -- the stem
    refine s_seq (sd_asg (T := T) (r := r) (L := L) (n := 7) (R := fun v _ => ∃ cs : List Nat, cs.length ≤ 7 ∧ (∀ c ∈ cs, OkC c) ∧ v = .str (mkS cs) ∧ cs.length = size) (d_m1 (R1 := isT (.text "")) (fun _ _ => e_str) (fun v H1 p => ⟨_, p.str_inv⟩) (fun _ _ _ x p => x.isT p)
      (EvD.up (cd_range (i := 5) (m := 1) (b := size) (j0 := size) (Pd := fun _ d => ∃ c, OkC c ∧ d = .text ⟨#[c]⟩) (EvD.imp (d_of (R := isV (.int (size : Nat))) fun _ _ => e_v rfl) fun v _ _ e => ⟨size, Nat.le_refl _, Nat.le_refl _, e⟩) (by omega) (fun _ => rfl) fun j H2 hj x2 => ?_) (by omega)) fun x y H2 x2 p1 p2 => ?_) hR3 (by omega) fun v4 H4 x4 hR4 r4 => ?_)
    · refine EvD.up (n := 0 + 1) (d_op (R1 := isT (.text abc)) (R2 := isN 26) (fun _ _ _ x p => x.isT p) (d_of fun _ _ => e_t rfl (.str abc)) (d_draw rfl (fun _ _ => e_int) (by decide) (by decide)) fun u w H3 x3 p1 p2 => ?_) (by decide)
      obtain ⟨i, hi, rfl⟩ := p2
      exact (e_sIx (e_tC p1) (e_tC (.int i)) (by decide +kernel) (letter_at hi)).imp fun v H4 x4 p => ⟨_, ⟨97 + i, ⟨by omega, by omega⟩, rfl⟩, p⟩
    · obtain rfl := p1.str_inv
      obtain ⟨ds, hj1, hj2, hds, hl⟩ := p2
      obtain ⟨cs, hc1, hc2, rfl⟩ := letters_of hds
      rw [List.length_map, List.length_map] at hj1 hj2
      refine (e_joinL (e_tC (.str _)) (e_lC hl.l) ?_).imp fun v H3 x3 p => ⟨cs, by omega, hc2, by rw [p.str_inv, join_letters], by omega⟩
      rw [List.map_map, List.length_map]
      have h1 : (cs.map fun _ => 1).sum = cs.length := by
        clear hc2 hds hl hj1 hj2 hc1
        induction cs with
        | nil => rfl
        | cons c cs ih => rw [List.map_cons, List.sum_cons, ih, List.length_cons]; omega
      show (cs.map fun _ => 1).sum + cs.length * 0 ≤ _
      omega
    obtain ⟨cs, hcs7, hcsOk, rfl, hcsl⟩ := r4
    dsimp only
    refine s_seq (sd_asg (T := T) (r := r) (L := L) (n := 1) (R := isN (size + 1)) (d_draw rfl (fun H2 x2 => (e_add (e_t rfl (.int size)) e_int).eqT (by rw [Int.natCast_add]; rfl)) (by omega) (by omega)) hR4 (by omega) fun v5 H5 x5 hR5 r5 => ?_)
    obtain ⟨at_, hat, rfl⟩ := r5
    dsimp only
    refine s_seq (sd_asg (T := T) (r := r) (L := L) (n := 1) (R := isN 26) (d_draw rfl (fun H2 x2 => e_int) (by omega) (by omega)) hR5 (by omega) fun v6 H6 x6 hR6 r6 => ?_)
    obtain ⟨start, hst, rfl⟩ := r6
    dsimp only
    refine s_seq (sd_asg (T := T) (r := r) (L := L) (n := 1) (R := fun v _ => ∃ s : Nat, (s = 1 ∨ s = 3 ∨ s = 25 ∨ s = 9) ∧ v = .int s) (EvD.imp (d_pick (m := 4) (ds := [.num 1, .num 3, .num 25, .num 9]) (fun H2 x2 => e_tup (a_cons e_int (a_cons e_int (a_cons e_int (a_one e_int)))) (by decide)) (d_draw rfl (fun _ _ => e_int) (by decide) (by decide)) rfl) fun v H2 _ p => ?_) hR6 (by omega) fun v7 H7 x7 hR7 r7 => ?_)
    · obtain ⟨d, hd, p⟩ := p
      simp only [List.mem_cons, List.not_mem_nil, or_false] at hd
      rcases hd with rfl | rfl | rfl | rfl
      · exact ⟨1, by decide, p.int_inv⟩
      · exact ⟨3, by decide, p.int_inv⟩
      · exact ⟨25, by decide, p.int_inv⟩
      · exact ⟨9, by decide, p.int_inv⟩
    obtain ⟨step, hstep, rfl⟩ := r7
    dsimp only
    have x17 := ((((x1.wide.trans x3).trans x4).trans x5).trans x6).trans x7
    refine sd_ret (T := T) (r := r) (L := L) (n := 0 + m * 0) (cd_range (i := 5) (m := 0) (b := m) (j0 := m) (Pd := fun k d => d = .text (nameW cs at_ (97 + stepN start step k))) (EvD.imp (d_of (R := isV (.int (m : Nat))) fun _ _ => e_v rfl) fun v _ _ e => ⟨m, Nat.le_refl _, Nat.le_refl _, e⟩) (by omega) (fun _ => rfl) fun j H2 hj x2 => ?_) hR7 (by omega) fun v8 H8 x8 hR8 r8 => ?_
    · refine d_of fun H3 x3 => ?_
      have hst26 : stepN start step j < 26 := Nat.mod_lt _ (by decide)
      have hix : EvR T (tOp (rI (fun _ j => j ≠ 0) fun i j => .int (i.fmod j)) (tCB (fun xs H Q => (∃ i, xs = [.int i] ∧ Q (.int i) H) ∨ ∃ k, xs = [.bl k] ∧ Q (.int (if k then 1 else 0)) H) (tCons (tOp (rI0 fun i j => .int (i + j)) (tVar 7) (tOp (rI CMul fun i j => .int (i * j)) (tVar 5) (tVar 8))) tNil)) (tC (.int 26))) [some (.ref r), some (.int m), some (.str abc), some (.int size), some (.str (mkS cs)), some (.int j), some (.int at_), some (.int start), some (.int step)] H3 (isT (.num (stepN start step j : Nat))) := by
        refine (e_mod (e_int1 (e_add (e_t rfl (.int start)) (e_mul (e_t rfl (.int j)) (e_t rfl (.int step)) (.inl ⟨by omega, by omega⟩)))) e_int (by decide)).eqT ?_
        rw [Int.fmod_eq_emod_of_nonneg _ (by decide)]
        unfold stepN
        rw [Int.natCast_emod, Int.natCast_add, Int.natCast_mul]
        rfl
      refine (e_sAdd (e_sAdd (e_sSl (e_t rfl (.str _)) o_no (o_some (e_t rfl (.int at_))) (by rw [mkS_len]; omega)) (e_sIx (e_t rfl (.str abc)) hix (by decide +kernel) (letter_at hst26)) ?_) (e_sSl (e_t rfl (.str _)) (o_some (e_t rfl (.int at_))) o_no (by rw [mkS_len]; omega)) ?_).imp fun v H4 x4 p => ⟨_, ?_, p⟩
      · rw [cutS_to, mkS_len, List.length_take]
        show _ + 1 ≤ _
        omega
      · rw [cutS_to, cutS_from, mkS_app, mkS_len, mkS_len, List.length_append, List.length_take, List.length_drop]
        show _ + 1 + _ ≤ _
        omega
      · rw [cutS_to, cutS_from, mkS_app, mkS_app]
        unfold nameW
        rw [List.append_assoc]
        rfl
    · obtain ⟨ds, hd1, hd2, hds, hl⟩ := r8
      have e : ds = (namesW cs at_ start step m).map .text := by
        refine List.ext_getElem? fun i => ?_
        unfold namesW
        rw [List.map_map]
        by_cases hi : i < ds.length
        · have h1 := List.getElem?_eq_getElem hi
          rw [h1, hds i ds[i] h1, List.getElem?_map, List.getElem?_range (by omega)]
          rfl
        · rw [List.getElem?_eq_none (by omega), List.getElem?_eq_none (by rw [List.length_map, List.length_range]; omega)]
      rw [e] at hl
      refine q v8 H8 (x17.trans x8) (hR8.mono (by omega)) ⟨namesW cs at_ start step m, by unfold namesW; rw [List.length_map, List.length_range], namesW_ok hcsOk hcs7 hstep (by omega), ?_⟩
      exact isLN_back hl x17.free
end
end Sf

set_option Elab.async false
set_option linter.all false
set_option maxRecDepth 100000
set_option maxHeartbeats 4000000
/-! _law_sheet. -/
namespace Sf
open PySem L2 LamX
abbrev S_law_sheet : Stmt := topS 57
abbrev N_law_sheet : List Str := ["_law_reader_here", "_law_words", "_law_told", "_law_acts", "_law_k", "_law_values", "_law_value"]
abbrev P_law_sheet : List Str := ["_law_reader_here"]
theorem sc_law_sheet : FnScope N_law_sheet P_law_sheet (defScope S_law_sheet) := ⟨rfl, rfl, rfl, by decide +kernel, rfl, by decide +kernel, by decide +kernel⟩
section
variable {T : List Tab} {r L : Addr} {K : PySem.W.Frag} {σ : L2.St} {H H' H1 H2 : Hp} {n m k i : Nat} {te ta tb tc : TE} {d e : D} {ds es : List D} {ex ex' : List Addr} {l p : Addr} {xs : List V} {E : Ends}
theorem Ext.sub (x : Ext T ex H H') (h : ∀ a ∈ ex, a ∈ ex') : Ext T ex' H H' := ⟨x.tup, fun c o hc e n => x.keep c o (fun z => hc (h c z)) e n, x.free, x.tabs⟩
/-- what changed at l alone, new since H -/
theorem Ext.own (a : Ext T ex H H1) (b : Ext T [l] H1 H2) (hl : H l = none) : Ext T ex H H2 := a.loc (b.sub fun x hx => by rw [List.mem_singleton.mp hx]; exact List.mem_cons_self) hl
theorem Rdr.keep (h : Rdr r L k H) (x : Ext T ex H H') (h1 : r ∉ ex) (h2 : L ∉ ex) : Rdr r L k H' := by
  obtain ⟨is, a1, a2, a3, a4, a5, a6, k1, k2, k3⟩ := h
  exact ⟨is, a1, a2, a3, a4, a5, a6, x.lst k1 h1, x.lst k2 h2, k3⟩
/-- l[lo:hi], hi drawn -/
theorem d_slL {v1 : V} {lo : Int} {pj : Nat → Prop} (hw : σ[i]? = some (some v1)) (hl : isLr r ds v1 H) (hh : EvD T r L n tb σ H (fun v _ => ∃ j : Nat, pj j ∧ v = .int j)) : EvD T r L n (tSl (rSlL K) (tVar i) (tPart (tC (.int lo))) (tPart tb)) σ H (fun v H' => ∃ j : Nat, pj j ∧ isLN H (cutD ds (some lo) (some (j : Int))) v H') := fun k H1 a rd hk Q q => by
  refine ⟨v1, hw, lo, rfl, hh k H1 a rd hk _ fun u H2 x2 rd2 p => ?_⟩
  obtain ⟨j, hj, rfl⟩ := p
  obtain ⟨b, vs, rfl, _, hb, hvs⟩ := hl.mono (a.trans x2)
  exact ⟨(j : Int), rfl, b, vs, rfl, SqL.of hb, fun p hp => q _ _ (x2.trans (Ext.new hp)) (rd2.ext (T := T) (Ext.new hp)) ⟨j, hj, p, _, rfl, a.free _ (x2.free _ hp), upd_same, IsDs.mono (Ext.new (T := T) (ex := []) hp).tup (cut_is hvs)⟩⟩
/-- l.append(x), l a list of trees -/
theorem s_appD (hl : H l = some (.lst xs)) (hds : IsDs H xs ds) (hi : σ[i]? = some (some (.ref l))) (h : EvR T te σ H (isT d)) (hz : ds.length < 100000) (kk : ∀ H1 xs', Ext T [l] H H1 → H1 l = some (.lst xs') → IsDs H1 xs' (ds ++ [d]) → E.nx σ H1) :
    tDrop (tBM K "list" rAppend (tVar i) (tCons te tNil)) E σ H := s_append hl hi h (by rw [hds.length]; exact hz) fun v H1 x1 hv hl1 =>
  kk _ _ (x1.wide.trans (Ext.put_self hl1 (noTab_lst xs))) upd_same (((hds.mono x1.tup).append (.one hv)).mono (tex_put hl1 (noTab_lst xs)))
end
theorem OkA.sub {fs fs' : List Fd} {a : Tx} (h : OkA fs a) (hs : ∀ f ∈ fs, f ∈ fs') : OkA fs' a := by
  rcases h with h | h | ⟨f, vs, h1, h2⟩ | ⟨f, vs, v, h1, h2, h3⟩
  · exact .inl h
  · exact .inr (.inl h)
  · exact .inr (.inr (.inl ⟨f, vs, hs _ h1, h2⟩))
  · exact .inr (.inr (.inr ⟨f, vs, v, hs _ h1, h2, h3⟩))
def cSheet : List V → Hp → Addr → Nat → RP → Prop := fun vs H r n R => vs = [.ref r] ∧ n = 16 ∧ R = fun v H' => ∃ (fs : List Fd) (acts : List Tx) (a : Addr) (u1 u2 : V), OkFs fs ∧ (∀ x ∈ acts, OkA fs x) ∧ 1 ≤ acts.length ∧ acts.length ≤ 30 ∧ v = .ref a ∧ H a = none ∧ H' a = some (.lst [u1, u2]) ∧ IsD H' u1 (eFs fs) ∧ isLN H (acts.map eT) u2 H'
section
variable {T : List Tab} {P : Program} {w : World} {K : PySem.W.Frag} {mg : Str → Option Value} {base : Heap}
theorem ok_law_sheet {f : Addr} {fd : FuncData} (F : Fun K "_law_sheet" "_law_sheet" S_law_sheet f fd) (G : Gm mg) (A_law_draw : At P w K mg base 2 "_law_draw" P_law_draw (SpD T cDraw)) (A_law_names : At P w K mg base 3 "_law_names" P_law_names (SpD T cNames)) : FnOk P w K mg base CX0 4 f fd P_law_sheet (SpD T cSheet) := by
  refine F.ok sc_law_sheet (fun vs H Q E h => ?_) (fun cdv A outer s H vs Q E hr h => ?_)
  · obtain ⟨_, _, _, _, _, ⟨rfl, _⟩, _⟩ := h
    rfl
  · obtain ⟨r, L, k, n, R, ⟨rfl, rfl, rfl⟩, hR, hk, q⟩ := h
    refine ⟨_, (pss_cons (ps_set (i := 1) sc_law_sheet.nd rfl (Or.inl rfl) (pe_fn A_law_names (hr.mono (by decide)) (pa_cons (pv 0) (pa_cons pe_int pa_nil))))
    (pss_cons (ps_set (i := 2) sc_law_sheet.nd rfl (Or.inl rfl) (pe_lst pa_nil))
    (pss_cons (ps_set (i := 3) sc_law_sheet.nd rfl (Or.inl rfl) (pe_lst (pa_cons (pe_tup (pa_cons pe_str pa_nil)) (pa_cons (pe_tup (pa_cons pe_str pa_nil)) pa_nil))))
    (pss_cons (ps_for PassesOwn.never rfl (pi_range1 rfl G.n_range (pa_cons (pe_op op_add pe_int (pe_fn A_law_draw (hr.mono (by decide)) (pa_cons (pv 0) (pa_cons pe_int pa_nil)))) pa_nil)) (pg_name (i := 4) sc_law_sheet.nd rfl (Or.inl rfl))
      (pss_cons (ps_set (i := 5) sc_law_sheet.nd rfl (Or.inl rfl) (pe_slice (slL (K := K) rfl) (pv 1) (po_some pe_int) (po_some (pe_op op_add pe_int (pe_fn A_law_draw (hr.mono (by decide)) (pa_cons (pv 0) (pa_cons pe_int pa_nil)))))))
      (pss_cons (ps_expr (pe_bm PySem.F.plainAttrs_list PySem.F.slot_list_append PySem.F.type_list_append mt_append (pv 2) (pa_cons (pe_tup (pa_cons (pe_ix (ixL (K := K) rfl) (pv 1) (pv 4) (fun _ _ => rfl)) (pa_cons (pe_callTy (tupOfK (K := K) rfl) (by rfl) G.n_tuple (by decide +kernel) (pa_cons (pv 5) pa_nil)) pa_nil))) pa_nil)))
      (pss_cons (ps_expr (pe_bm PySem.F.plainAttrs_list PySem.F.slot_list_append PySem.F.type_list_append mt_append (pv 3) (pa_cons (pe_tup (pa_cons pe_str (pa_cons (pe_ix (ixL (K := K) rfl) (pv 1) (pv 4) (fun _ _ => rfl)) pa_nil))) pa_nil)))
      (pss_one (ps_for PassesOwn.never rfl (pi_listK (K := K) rfl (pv 5)) (pg_name (i := 6) sc_law_sheet.nd rfl (Or.inl rfl))
        (pss_cons (ps_expr (pe_bm PySem.F.plainAttrs_list PySem.F.slot_list_append PySem.F.type_list_append mt_append (pv 3) (pa_cons (pe_tup (pa_cons pe_str (pa_cons (pe_ix (ixL (K := K) rfl) (pv 1) (pv 4) (fun _ _ => rfl)) (pa_cons (pv 6) pa_nil)))) pa_nil)))
        (pss_one (ps_expr (pe_bm PySem.F.plainAttrs_list PySem.F.slot_list_append PySem.F.type_list_append mt_append (pv 3) (pa_cons (pe_tup (pa_cons pe_str (pa_cons (pe_ix (ixL (K := K) rfl) (pv 1) (pv 4) (fun _ _ => rfl)) (pa_cons (pv 6) pa_nil)))) pa_nil)))))))))))
    (pss_one (ps_ret (pe_lst (pa_cons (pe_callTy (tupOfK (K := K) rfl) (by rfl) G.n_tuple (by decide +kernel) (pa_cons (pv 2) pa_nil)) (pa_cons (pv 3) pa_nil))))))))), ?_⟩
    refine s_seq (sd_asg (T := T) (r := r) (L := L) (n := 0 + (0 + 0) + 12) (R := fun v H' => ∃ ws : Tx, ws.length = 6 ∧ OkWs ws ∧ isLr r (ws.map .text) v H') (d_call (m := 12) (da_cons (R := isV (.ref r)) (fun _ _ _ _ p => p) (d_of fun _ _ => e_v rfl) (da_cons (R := isT (.num 6)) (fun _ _ _ x p => x.isT p) (d_of fun _ _ => e_int) da_nil)) fun vs H1 x1 hr1 hp => ?_) hR (by omega) fun v1 H1 x1 hR1 r1 => ?_)
    · obtain ⟨v, us, rfl, hv, w, us, rfl, hw, rfl⟩ := hp
      obtain rfl : v = .ref r := hv
      obtain rfl := hw.int_inv
      refine ⟨_, ⟨6, rfl, by decide, by decide, rfl, rfl⟩, fun v H2 p => ?_⟩
      obtain ⟨ws, h1, h2, h3⟩ := p
      exact ⟨ws, h1, h2, h3.lr hr1⟩
    obtain ⟨ws, hws6, hws, hl1⟩ := r1
    dsimp only
    refine s_seq (s_asg (T := T) (R := isLN H1 []) (e_lst a_nil (by decide)) fun v2 H2 x2 r2 => ?_)
    dsimp only
    refine s_seq (s_asg (T := T) (R := isLN H2 ([[("yes" : Str)], [("no" : Str)]].map eT)) (e_lst (a_cons (e_tup (a_one e_str) (by decide)) (a_one (e_tup (a_one e_str) (by decide)))) (by decide)) fun v3 H3 x3 r3 => ?_)
    obtain ⟨lt, ts0, rfl, ht0, ht2, htd⟩ := r2
    obtain ⟨la, as0, rfl, ha0, ha3, had⟩ := r3
    have hne : lt ≠ la := by
      rintro rfl
      rw [ht2] at ha0
      cases ha0
    have ha1 : H1 la = none := x2.free _ ha0
    have hR3 := (hR1.ext x2).ext x3
    have hrt : r ≠ lt := by rintro rfl; exact hR1.some ht0
    have hra : r ≠ la := by rintro rfl; exact hR1.some ha1
    have hLt : L ≠ lt := by rintro rfl; exact hR1.cell ht0
    have hLa : L ≠ la := by rintro rfl; exact hR1.cell ha1
    dsimp only
    refine s_seq (fd_range (T := T) (r := r) (L := L) (n := 1) (b0 := 1) (b := 3) (EvD.up (n := 0 + 1) (d_op (R1 := isT (.num 1)) (R2 := isN 3) (fun _ _ _ x p => x.isT p) (d_of fun _ _ => e_int) (d_draw rfl (fun _ _ => e_int) (by decide) (by decide)) fun u w H4 x4 p1 p2 => ?_) (by decide)) (by decide) hR3 (by omega) fun j H4 hj1 hj3 x4 hR4 => ?_)
    · obtain ⟨i, hi, rfl⟩ := p2
      exact (e_add (e_tC p1) (e_tC (.int i))).imp fun v H5 x5 p => ⟨1 + i, by omega, by omega, by rw [p.int_inv, Int.natCast_add]; rfl⟩
    have x13 := (x2.trans x3).wide (ex := [r])
    have ht4 : H4 lt = some (.lst ts0) := x4.lst (x3.lst ht2 (by simp)) (by simpa using Ne.symm hrt)
    have ha4 : H4 la = some (.lst as0) := x4.lst ha3 (by simpa using Ne.symm hra)
    have htd4 := (htd.mono x3.tup).mono x4.tup
    have had4 := had.mono x4.tup
    refine ⟨fun i σ' H' => ∃ (z4 z5 z6 : Option V) (fs : List Fd) (acts : List Tx) (ts as : List V), σ' = [some (.ref r), some v1, some (.ref lt), some (.ref la), z4, z5, z6] ∧ Ext T [r] H1 H' ∧ Rdr r L (k + 13 + i) H' ∧ H' lt = some (.lst ts) ∧ IsDs H' ts (fs.map eF) ∧ H' la = some (.lst as) ∧ IsDs H' as (acts.map eT) ∧
      fs.map (·.1) = ws.take i ∧ (∀ f ∈ fs, OkWs f.2 ∧ 1 ≤ f.2.length ∧ f.2.length ≤ 3) ∧ (∀ x ∈ acts, OkA fs x) ∧ 1 ≤ acts.length ∧ acts.length ≤ 2 + 7 * i,
      ⟨none, none, none, [], [[("yes" : Str)], [("no" : Str)]], ts0, as0, rfl, x13.trans x4, hR4.mono (by omega), ht4, htd4, ha4, had4, rfl, (fun _ h => nomatch h), fun x hx => ?_, by decide, by decide⟩, fun i σ' H' hi hP => ?_, fun σ' H' hP => ?_⟩
    · simp only [List.mem_cons, List.not_mem_nil, or_false] at hx
      rcases hx with rfl | rfl
      · exact .inl rfl
      · exact .inr (.inl rfl)
    · obtain ⟨z4, z5, z6, fs, acts, ts, as, rfl, e, rd, ht, htD, ha, haD, hnm, hval, hact, hlo, hhi⟩ := hP
      have hiw : i < ws.length := by omega
      have hil : ws[i]? = some ws[i] := List.getElem?_eq_getElem hiw
      dsimp only
      refine s_seq (sd_asg (T := T) (r := r) (L := L) (n := 1) (d_slL (pj := fun j => 4 ≤ j ∧ j ≤ 6) rfl (hl1.mono e) (EvD.up (n := 0 + 1) (d_op (R1 := isT (.num 4)) (R2 := isN 3) (fun _ _ _ x p => x.isT p) (d_of fun _ _ => e_int) (d_draw rfl (fun _ _ => e_int) (by decide) (by decide)) fun u w H5 x5 p1 p2 => ?_) (by decide))) rd (by omega) fun v5 H5 x5 hR5 r5 => ?_)
      · obtain ⟨i, hi, rfl⟩ := p2
        exact (e_add (e_tC p1) (e_tC (.int i))).imp fun v H5 x5 p => ⟨4 + i, by omega, by rw [p.int_inv, Int.natCast_add]; rfl⟩
      obtain ⟨j5, hj5, hl5⟩ := r5
      have hvals : cutD (ws.map .text) (some 3) (some (j5 : Int)) = ((ws.drop 3).take (j5 - 3)).map .text := by
        rw [show (3 : Int) = ((3 : Nat) : Int) from rfl, cut_both, List.map_take, List.map_drop]
      rw [hvals] at hl5
      have hvl : ((ws.drop 3).take (j5 - 3)).length = j5 - 3 := by
        rw [List.length_take, List.length_drop]
        omega
      have hvok : OkWs ((ws.drop 3).take (j5 - 3)) := ⟨fun w hw => hws.ok w (List.mem_of_mem_drop (List.mem_of_mem_take hw)), hws.nd.sublist ((List.take_sublist _ _).trans (List.drop_sublist _ _))⟩
      generalize (ws.drop 3).take (j5 - 3) = vals at *
      obtain ⟨lv, vs5, rfl, hv0, hv5, hvd⟩ := hl5
      have ht5 := x5.lst ht (by simpa using Ne.symm hrt)
      have ha5 := x5.lst ha (by simpa using Ne.symm hra)
      have e5 := e.trans x5
      have nvt : lv ≠ lt := by rintro rfl; rw [ht] at hv0; cases hv0
      have nva : lv ≠ la := by rintro rfl; rw [ha] at hv0; cases hv0
      have nvr : r ≠ lv := by rintro rfl; exact rd.some hv0
      have nvL : L ≠ lv := by rintro rfl; exact rd.cell hv0
      have word : ∀ {H' : Hp} {z5 z6 : Option V}, Ext T [r] H1 H' → EvR T (tOp (rIxL K) (tVar 1) (tVar 4)) [some (.ref r), some v1, some (.ref lt), some (.ref la), some (.int (i : Nat)), z5, z6] H' (isT (.text ws[i])) := fun e' => e_ixL (e_l rfl (hl1.mono e').l) (e_t rfl (.int _)) (by rw [List.getElem?_map, hil]; rfl)
      dsimp only
      refine s_seq (s_appD (T := T) (d := eF (ws[i], vals)) ht5 (htD.mono x5.tup) rfl (e_tup (a_cons (word e5) (a_one (e_tupOf (e_l rfl ⟨lv, vs5, rfl, hv5, hvd⟩)))) (by show 2 ≤ 100000; decide)) (by rw [List.length_map]; have := congrArg List.length hnm; rw [List.length_map, List.length_take] at this; omega) fun H6 ts6 x6 ht6 htD6 => ?_)
      have e6 := e5.own x6 ht0
      have ha6 := x6.lst ha5 (by simpa using Ne.symm hne)
      have hR6 := hR5.keep x6 (by simpa using hrt) (by simpa using hLt)
      have haD6 := (haD.mono x5.tup).mono x6.tup
      have hv6 := x6.lst hv5 (by simpa using nvt)
      have hvd6 := hvd.mono x6.tup
      refine s_seq (s_appD (T := T) (d := eT [("drop" : Str), ws[i]]) ha6 haD6 rfl (e_tup (a_cons e_str (a_one (word e6))) (by show 2 ≤ 100000; decide)) (by rw [List.length_map]; omega) fun H7 as7 x7 ha7 haD7 => ?_)
      have e7 := e6.own x7 ha1
      have ht7 := x7.lst ht6 (by simpa using hne)
      have hR7 := hR6.keep x7 (by simpa using hra) (by simpa using hLa)
      have htD7 := htD6.mono x7.tup
      have hv7 := x7.lst hv6 (by simpa using nva)
      have hvd7 := hvd6.mono x7.tup
      have hmem : (ws[i], vals) ∈ fs ++ [(ws[i], vals)] := List.mem_append_right _ List.mem_cons_self
      have hsub : ∀ f ∈ fs, f ∈ fs ++ [(ws[i], vals)] := fun f hf => List.mem_append_left _ hf
      refine f_list (T := T) (ds := vals.map .text) (e_v rfl) fun vv H8 x8 ev => ⟨lv, vs5, ev, x8.lst hv7 (by simp), hvd7.mono x8.tup, [la], fun n σ' H' => ∃ (z6 : Option V) (acts' : List Tx) (as' : List V), σ' = [some (.ref r), some v1, some (.ref lt), some (.ref la), some (.int (i : Nat)), some (.ref lv), z6] ∧ Ext T [la] H8 H' ∧ H' la = some (.lst as') ∧ IsDs H' as' (acts'.map eT) ∧
          (∀ x ∈ acts', OkA (fs ++ [(ws[i], vals)]) x) ∧ 1 ≤ acts'.length ∧ acts'.length ≤ acts.length + 1 + 2 * n, by simpa using nva,
        ⟨z6, acts ++ [[("drop" : Str), ws[i]]], as7, rfl, Ext.refl _, x8.lst ha7 (by simp), by rw [List.map_append]; exact haD7.mono x8.tup, fun x hx => ?_, by rw [List.length_append]; omega, by rw [List.length_append]; show acts.length + 1 ≤ _; omega⟩, fun n σ' H' hP => ?_, fun n d x σ' H' hd hx hP => ?_, fun σ' H' hP => ?_⟩
      · rcases List.mem_append.mp hx with hx | hx
        · exact (hact x hx).sub hsub
        · rw [List.mem_singleton.mp hx]
          exact .inr (.inr (.inl ⟨_, _, hmem, rfl⟩))
      · obtain ⟨_, _, _, _, e, _⟩ := hP
        exact e
      · obtain ⟨z6, acts', as', rfl, e9, ha9, haD9, hact9, hlo9, hhi9⟩ := hP
        rw [List.getElem?_map] at hd
        obtain ⟨va, hva, rfl⟩ := Option.map_eq_some_iff.mp hd
        have hvam := List.mem_of_getElem? hva
        have hn : n < vals.length := (List.getElem?_eq_some_iff.mp hva).1
        obtain rfl := hx.str_inv
        have e79 : Ext T [r] H1 H' := (e7.trans x8.wide).own e9 ha1
        dsimp only
        refine s_seq (s_appD (T := T) (d := eT [("set" : Str), ws[i], va]) ha9 haD9 rfl (e_tup (a_cons e_str (a_cons (word e79) (a_one (e_t rfl (.str va))))) (by show 3 ≤ 100000; decide)) (by rw [List.length_map]; omega) fun H10 as10 x10 ha10 haD10 => ?_)
        have e80 := e79.own x10 ha1
        refine s_appD (T := T) (d := eT [("not" : Str), ws[i], va]) ha10 haD10 rfl (e_tup (a_cons e_str (a_cons (word e80) (a_one (e_t rfl (.str va))))) (by show 3 ≤ 100000; decide)) (by rw [List.length_append, List.length_map]; show _ + 1 < _; omega) fun H11 as11 x11 ha11 haD11 => ?_
        refine ⟨_, acts' ++ [[("set" : Str), ws[i], va]] ++ [[("not" : Str), ws[i], va]], as11, rfl, (e9.trans x10).trans x11, ha11, by rw [List.map_append, List.map_append]; exact haD11, fun x hx => ?_, by rw [List.length_append, List.length_append]; omega, by rw [List.length_append, List.length_append]; show _ + 1 + 1 ≤ _; omega⟩
        rcases List.mem_append.mp hx with hx | hx
        · rcases List.mem_append.mp hx with hx | hx
          · exact hact9 x hx
          · rw [List.mem_singleton.mp hx]
            exact .inr (.inr (.inr ⟨_, _, va, hmem, hvam, .inl rfl⟩))
        · rw [List.mem_singleton.mp hx]
          exact .inr (.inr (.inr ⟨_, _, va, hmem, hvam, .inr rfl⟩))
      · obtain ⟨z6, acts', as', rfl, e9, ha9, haD9, hact9, hlo9, hhi9⟩ := hP
        rw [List.length_map] at hhi9
        dsimp only
        refine ⟨_, _, _, fs ++ [(ws[i], vals)], acts', ts6, as', rfl, (e7.trans x8.wide).own e9 ha1, ((hR7.ext x8).keep e9 (by simpa using hra) (by simpa using hLa)).mono (by omega), e9.lst (x8.lst ht7 (by simp)) (by simpa using hne), by rw [List.map_append]; exact (htD7.mono x8.tup).mono e9.tup, ha9, haD9, ?_, fun f hf => ?_, hact9, hlo9, by omega⟩
        · rw [List.map_append, hnm, List.take_add_one, hil]
          rfl
        · rcases List.mem_append.mp hf with hf | hf
          · exact hval f hf
          · rw [List.mem_singleton.mp hf]
            exact ⟨hvok, by show 1 ≤ vals.length; omega, by show vals.length ≤ 3; omega⟩
    · obtain ⟨z4, z5, z6, fs, acts, ts, as, rfl, e, rd, ht, htD, ha, haD, hnm, hval, hact, hlo, hhi⟩ := hP
      dsimp only
      have hfl : fs.length = j := by
        have := congrArg List.length hnm
        rw [List.length_map, List.length_take] at this
        omega
      refine s_ret (T := T) (R := fun v H2 => ∃ a u1 u2, v = .ref a ∧ H' a = none ∧ H2 a = some (.lst [u1, u2]) ∧ IsD H2 u1 (eFs fs) ∧ isL (acts.map eT) u2 H2 ∧ u2 = .ref la) (fun H2 x2' Q q => ?_) fun v H2 x2' p => ?_
      · refine (e_tupOf (e_l rfl ⟨lt, ts, rfl, ht, htD⟩)) H2 x2' _ fun u1 H3 x3' p1 => ⟨_, rfl, by show 2 ≤ _; decide, fun p hp => ?_⟩
        have x23 := x2'.trans x3'
        refine q _ _ (x3'.trans (Ext.new hp)) ⟨p, u1, .ref la, rfl, x23.free _ hp, upd_same, IsD.mono (Ext.new (T := T) (ex := []) hp).tup p1, ⟨la, as, rfl, ?_, (haD.mono x23.tup).mono (Ext.new (T := T) (ex := []) hp).tup⟩, rfl⟩
        rw [upd_ne]
        · exact x23.lst ha (by simp)
        · rintro rfl
          rw [x23.lst ha (by simp)] at hp
          cases hp
      · obtain ⟨a, u1, u2, rfl, p1, p2, p3, p4, rfl⟩ := p
        have eA := x1.trans e
        obtain ⟨la', as', e', k1, k2⟩ := p4
        cases e'
        refine q _ H2 (eA.trans x2'.wide) ((rd.ext x2').mono (by omega)) ⟨fs, acts, a, u1, .ref la, ⟨by omega, by omega, ?_, hval⟩, hact, hlo, by omega, rfl, eA.free _ p1, p2, p3, la, as', rfl, x1.free _ ha1, k1, k2⟩
        rw [hnm]
        exact ⟨fun w hw => hws.ok w (List.mem_of_mem_take hw), hws.nd.sublist (List.take_sublist _ _)⟩
end
end Sf

set_option Elab.async false
set_option linter.all false
set_option maxRecDepth 100000
set_option maxHeartbeats 4000000
/-! _law_begins, _law_texts. -/
namespace Sf
open PySem L2 LamX
abbrev S_law_begins : Stmt := topS 58
abbrev N_law_begins : List Str := ["_law_one", "_law_two"]
abbrev P_law_begins : List Str := ["_law_one", "_law_two"]
theorem sc_law_begins : FnScope N_law_begins P_law_begins (defScope S_law_begins) := ⟨rfl, rfl, rfl, by decide +kernel, rfl, by decide +kernel, by decide +kernel⟩
abbrev S_law_texts : Stmt := topS 59
abbrev N_law_texts : List Str := ["_law_reader_here", "_law_pool", "_law_many", "_law_most", "_law_style", "_law_found", "_law_k", "_law_text", "_law_j", "_law_bad", "_law_one"]
abbrev P_law_texts : List Str := ["_law_reader_here", "_law_pool", "_law_many", "_law_most"]
theorem sc_law_texts : FnScope N_law_texts P_law_texts (defScope S_law_texts) := ⟨rfl, rfl, rfl, by decide +kernel, rfl, by decide +kernel, by decide +kernel⟩
theorem revK {X : Cx} {K : PySem.W.Frag} (h : X.K = K) {e : Expr} {te : TE} {k : Nat} {p1 p2 p3 pos : Pos} (he : PE X e te) : PE X (.Subscript e (.Slice none none (some (.UnaryOp .USub (.Constant (.int 1) k p1) p2)) p3) pos) (tRevT K te) := h ▸ pe_revT he
def beg (a b : Tx) : Bool := decide (a.take b.length = b) || decide (b.take a.length = a)
def cBegins' : List V → Hp → RP → Prop := fun vs H R => ∃ (v1 v2 : V) (a b : Tx), vs = [v1, v2] ∧ IsD H v1 (eT a) ∧ IsD H v2 (eT b) ∧ R = isB (beg a b)
/-- a text that the law draws -/
structure TxOk (t : Tx) : Prop where
  ne : t ≠ []
  len : t.length ≤ 6
  ok : ∀ w ∈ t, OkW w
def cTexts : List V → Hp → Addr → Nat → RP → Prop := fun vs H r n R => ∃ (vp : V) (ws : Tx) (many most : Nat), vs = [.ref r, vp, .int many, .int most] ∧ isLr r (ws.map .text) vp H ∧ (∀ w ∈ ws, OkW w) ∧ 1 ≤ ws.length ∧ ws.length ≤ 26 ∧ 1 ≤ many ∧ many ≤ 12 ∧ 1 ≤ most ∧ most ≤ 6 ∧ n = 85 ∧
  R = fun v H' => ∃ ts : List Tx, 1 ≤ ts.length ∧ ts.length ≤ 12 ∧ (∀ t ∈ ts, TxOk t) ∧ isLN H (ts.map eT) v H'
theorem texts_from {ws : Tx} : ∀ {ds : List D}, (∀ (i : Nat) d, ds[i]? = some d → ∃ w ∈ ws, d = .text w) → ∃ us : Tx, ds = us.map .text ∧ ∀ u ∈ us, u ∈ ws
  | [], _ => ⟨[], rfl, (fun _ h => nomatch h)⟩
  | d :: ds, h => by
    obtain ⟨w, hw, rfl⟩ := h 0 d rfl
    obtain ⟨us, rfl, h2⟩ := texts_from (ds := ds) fun i d hd => h (i + 1) d hd
    refine ⟨w :: us, rfl, fun x hx => ?_⟩
    rcases List.mem_cons.mp hx with rfl | hx
    · exact hw
    · exact h2 x hx
section
variable {T : List Tab} {r L : Addr} {K : PySem.W.Frag} {σ : L2.St} {H H' : Hp} {n m i : Nat} {te ta tb tc : TE} {d e : D} {ds es : List D} {ws : Tx} {v : V}
/-- tuple([.. for i in range(..)]), texts drawn -/
theorem d_words {ti : TE} {vs : List Nat} {b j0 : Nat} (h : EvD T r L n ti σ H (fun v _ => ∃ j : Nat, j0 ≤ j ∧ j ≤ b ∧ v = .int j)) (hb : b ≤ 1000) (hw : ∀ x, wipe ((wipe σ vs).set i (some x)) vs = wipe σ vs)
    (hs : ∀ j H1, j < b → Ext T [r] H H1 → EvD T r L 1 te ((wipe σ vs).set i (some (.int (j : Nat)))) H1 (fun v H' => ∃ d ∈ ws.map .text, IsD H' v d)) :
    EvD T r L (n + b) (tCB (rTupOf K) (tCons (tLc (iRng1 (tCons ti tNil)) (gName i) tYes te vs) tNil)) σ H (fun v H' => ∃ us : Tx, j0 ≤ us.length ∧ us.length ≤ b ∧ (∀ u ∈ us, u ∈ ws) ∧ IsD H' v (eT us)) := by
  have h1 := cd_range (Pd := fun _ d => ∃ w ∈ ws, d = .text w) h hb hw fun j H1 hj x1 => EvD.imp (hs j H1 hj x1) fun v H2 x2 p => by
    obtain ⟨d, hd, p⟩ := p
    obtain ⟨w, hw, rfl⟩ := List.mem_map.mp hd
    exact ⟨_, ⟨w, hw, rfl⟩, p⟩
  rw [Nat.mul_one] at h1
  refine d_cb h1 fun x H1 x1 p => ?_
  obtain ⟨ds, hj1, hj2, hds, hl⟩ := p
  obtain ⟨us, rfl, hus⟩ := texts_from hds
  rw [List.length_map] at hj1 hj2
  exact (e_tupOf (e_lC hl.l)).imp fun v H2 x2 p => ⟨us, hj1, hj2, hus, p⟩
theorem e_revE {t : Tx} (h : EvR T te σ H (isT (eT t))) : EvR T (tRevT K te) σ H (isT (eT t.reverse)) := (e_rev h).eqT (by rw [← List.map_reverse])
/-- pool[draw(len(pool))] -/
theorem d_one {X : XK} {ir ip : Nat} {vp : V} (hr : σ[ir]? = some (some (.ref r))) (hp : σ[ip]? = some (some vp)) (hl : isLr r ds vp H) (h1 : 1 ≤ ds.length) (h2 : ds.length ≤ 1000) :
    EvD T r L 1 (tOp (rIxL K) (tVar ip) (tCall (SpD T cDraw) [] X (tCons (tVar ir) (tCons (tCB (rLen K) (tCons (tVar ip) tNil)) tNil)))) σ H (fun v H' => ∃ d ∈ ds, IsD H' v d) :=
  d_pickL (fun H1 x1 => e_var hp (hl.mono x1) fun _ x p => p.mono x.wide) (d_draw hr (fun H1 x1 => e_lenL (e_l hp (hl.mono x1).l)) h1 h2) rfl
end
section
variable {T : List Tab} {P : Program} {w : World} {K : PySem.W.Frag} {mg : Str → Option Value} {base : Heap}
theorem ok_law_begins {f : Addr} {fd : FuncData} (F : Fun K "_law_begins" "_law_begins" S_law_begins f fd) (G : Gm mg) : FnOk P w K mg base CX0 1 f fd P_law_begins (SpP T cBegins') := by
  refine F.ok sc_law_begins (fun vs H Q E h => ?_) (fun cdv A outer s H vs Q E hr h => ?_)
  · obtain ⟨R, ⟨_, _, _, _, rfl, _⟩, _⟩ := h
    rfl
  · obtain ⟨R, ⟨v1, v2, a, b, rfl, h1, h2, rfl⟩, q⟩ := h
    refine ⟨_, (pss_one (ps_ret (pe_or (pe_cmpR (op_eqN hr.units) (pe_slice (slT (K := K) rfl) (pv 0) po_none (po_some (pe_callB (lenK (K := K) rfl) (by rfl) G.n_len PySem.boot_len (pa_cons (pv 1) pa_nil)))) (pv 1) (nomark _)) (pe_one (pe_cmpR (op_eqN hr.units) (pe_slice (slT (K := K) rfl) (pv 1) po_none (po_some (pe_callB (lenK (K := K) rfl) (by rfl) G.n_len PySem.boot_len (pa_cons (pv 0) pa_nil)))) (pv 0) (nomark _)))))), ?_⟩
    refine s_ret (T := T) ((e_orV (e_eqT (e_take (e_t rfl h1) (e_lenT (e_t rfl h2))) (e_t rfl h2)) fun _ => e_eqT (e_take (e_t rfl h2) (e_lenT (e_t rfl h1))) (e_t rfl h1)).eqB rfl) fun v H1 x r => q v H1 x r
theorem ok_law_texts {f : Addr} {fd : FuncData} (F : Fun K "_law_texts" "_law_texts" S_law_texts f fd) (G : Gm mg) (A_law_draw : At P w K mg base 2 "_law_draw" P_law_draw (SpD T cDraw)) (A_law_begins : At P w K mg base 1 "_law_begins" P_law_begins (SpP T cBegins')) : FnOk P w K mg base CX0 3 f fd P_law_texts (SpD T cTexts) := by
  refine F.ok sc_law_texts (fun vs H Q E h => ?_) (fun cdv A outer s H vs Q E hr h => ?_)
  · obtain ⟨_, _, _, _, _, ⟨_, _, _, _, rfl, _⟩, _⟩ := h
    rfl
  · obtain ⟨r, L, k, n, R, ⟨vp, ws, many, most, rfl, hp, hws, hw1, hw2, hm1, hm2, ho1, ho2, rfl, rfl⟩, hR, hk, q⟩ := h
    refine ⟨_, (pss_cons (ps_set (i := 4) sc_law_texts.nd rfl (Or.inl rfl) (pe_fn A_law_draw (hr.mono (by decide)) (pa_cons (pv 0) (pa_cons pe_int pa_nil))))
    (pss_cons (ps_set (i := 5) sc_law_texts.nd rfl (Or.inl rfl) (pe_lst pa_nil))
    (pss_cons (ps_for PassesOwn.never rfl (pi_range1 rfl G.n_range (pa_cons (pv 2) pa_nil)) (pg_name (i := 6) sc_law_texts.nd rfl (Or.inl rfl))
      (pss_cons (ps_set (i := 7) sc_law_texts.nd rfl (Or.inr rfl) (pe_callTy (tupOfK (K := K) rfl) (by rfl) G.n_tuple (by decide +kernel) (pa_cons (pe_lc (own := [("_law_j", 8)]) rfl sc_law_texts.nd (pi_range1 rfl G.n_range (pa_cons (pe_op op_add pe_int (pe_fn A_law_draw (hr.mono (by decide)) (pa_cons (pv 0) (pa_cons (pv 3) pa_nil)))) pa_nil)) (blkOk_by (own := [("_law_j", 8)]) (N := N_law_texts) (sc := defScope S_law_texts) (by decide +kernel)) (fun _ _ _ _ _ => by exact (pg_name (i := 8) sc_law_texts.nd rfl (Or.inl rfl) (Or.inr rfl))) (fun _ _ _ _ _ => by exact pts_nil) (fun _ _ _ _ _ => by exact (pe_ix (ixL (K := K) rfl) (pv 1) (pe_fn A_law_draw (hr.mono (by decide)) (pa_cons (pv 0) (pa_cons (pe_callB (lenK (K := K) rfl) (by rfl) G.n_len PySem.boot_len (pa_cons (pv 1) pa_nil)) pa_nil))) (fun _ _ => rfl)))) pa_nil)))
      (pss_cons (ps_set (i := 9) sc_law_texts.nd rfl (Or.inl rfl) (pe_and (pe_cmpR op_eq (pv 4) pe_int (nomark _)) (pe_one (pe_callB (anyK (K := K) rfl rfl) (by rfl) G.n_any (by decide +kernel) (pa_cons (pe_lc (own := [("_law_one", 10)]) rfl sc_law_texts.nd (pi_listK (K := K) rfl (pv 5)) (blkOk_by (own := [("_law_one", 10)]) (N := N_law_texts) (sc := defScope S_law_texts) (by decide +kernel)) (fun _ _ _ _ _ => by exact (pg_name (i := 10) sc_law_texts.nd rfl (Or.inl rfl) (Or.inr rfl))) (fun _ _ _ _ _ => by exact pts_nil) (fun _ _ _ _ _ => by exact (pe_fn A_law_begins (hr.mono (by decide)) (pa_cons (pv 7) (pa_cons (pv 10) pa_nil))))) pa_nil)))))
      (pss_cons (ps_set (i := 9) sc_law_texts.nd rfl (Or.inl rfl) (pe_or (pv 9) (pe_one (pe_and (pe_cmpR op_gt (pv 4) pe_int (nomark _)) (pe_one (pe_callB (anyK (K := K) rfl rfl) (by rfl) G.n_any (by decide +kernel) (pa_cons (pe_lc (own := [("_law_one", 10)]) rfl sc_law_texts.nd (pi_listK (K := K) rfl (pv 5)) (blkOk_by (own := [("_law_one", 10)]) (N := N_law_texts) (sc := defScope S_law_texts) (by decide +kernel)) (fun _ _ _ _ _ => by exact (pg_name (i := 10) sc_law_texts.nd rfl (Or.inl rfl) (Or.inr rfl))) (fun _ _ _ _ _ => by exact pts_nil) (fun _ _ _ _ _ => by exact (pe_fn A_law_begins (hr.mono (by decide)) (pa_cons (revK (K := K) rfl (pv 7)) (pa_cons (revK (K := K) rfl (pv 10)) pa_nil))))) pa_nil)))))))
      (pss_cons (ps_if (PW.pt (pw_and (pt_cmpR op_eq (pv 4) pe_int (nomark _)) (pw_and1 (pt_cmpR op_eq (pv 6) (pe_op op_sub (pv 2) pe_int) (nomark _)))))
        (pss_one (ps_set (i := 9) sc_law_texts.nd rfl (Or.inl rfl) pe_bl))
        pss_nil)
      (pss_one (ps_if (pt_not (pt_val (pv 9)))
        (pss_one (ps_expr (pe_bm PySem.F.plainAttrs_list PySem.F.slot_list_append PySem.F.type_list_append mt_append (pv 5) (pa_cons (pv 7) pa_nil))))
        pss_nil)))))))
    (pss_one (ps_ret (pv 5)))))), ?_⟩
    refine s_seq (sd_asg (T := T) (r := r) (L := L) (n := 1) (R := isN 4) (d_draw rfl (fun _ _ => e_int) (by decide) (by decide)) hR (by omega) fun v1 H1 x1 hR1 r1 => ?_)
    obtain ⟨style, hst, rfl⟩ := r1
    dsimp only
    refine s_seq (s_asg (T := T) (R := isLN H1 []) (e_lst a_nil (by decide)) fun v2 H2 x2 r2 => ?_)
    obtain ⟨lf, us0, rfl, hf0, hf2, hfd⟩ := r2
    have hR2 := hR1.ext x2
    have nrf : r ≠ lf := by rintro rfl; exact hR1.some hf0
    have nLf : L ≠ lf := by rintro rfl; exact hR1.cell hf0
    dsimp only
    refine s_seq (fd_range (T := T) (r := r) (L := L) (n := 0) (b0 := many) (b := many) (EvD.imp (d_of (R := isV (.int (many : Nat))) fun _ _ => e_v rfl) fun v _ _ e => ⟨many, Nat.le_refl _, Nat.le_refl _, e⟩) (by omega) hR2 (by omega) fun j H3 hj1 hj2 x3 hR3 => ?_)
    obtain rfl : j = many := by omega
    refine ⟨fun i σ' H' => ∃ (z6 z7 z8 z9 z10 : Option V) (ts : List Tx) (us : List V), σ' = [some (.ref r), some vp, some (.int j), some (.int most), some (.int style), some (.ref lf), z6, z7, z8, z9, z10] ∧ Ext T [r] H1 H' ∧ Rdr r L (k + 1 + 7 * i) H' ∧ H' lf = some (.lst us) ∧ IsDs H' us (ts.map eT) ∧
      ts.length ≤ i ∧ (1 ≤ i → 1 ≤ ts.length) ∧ (∀ t ∈ ts, TxOk t),
      ⟨none, none, none, none, none, [], us0, rfl, x2.wide.trans x3, hR3.mono (by omega), x3.lst hf2 (by simpa using Ne.symm nrf), hfd.mono x3.tup, Nat.le_refl _, fun h => absurd h (by decide), (fun _ h => nomatch h)⟩, fun i σ' H' hi hP => ?_, fun σ' H' hP => ?_⟩
    · obtain ⟨z6, z7, z8, z9, z10, ts, us, rfl, e, rd, hl, hld, hn1, hn2, hok⟩ := hP
      dsimp only
      have hp' := hp.mono (x1.trans e)
      refine s_seq (sd_asg (T := T) (r := r) (L := L) (n := 1 + most) (d_words (ws := ws) (j0 := 1) (i := 8) (EvD.up (n := 0 + 1) (d_op (R1 := isT (.num 1)) (R2 := isN most) (fun _ _ _ x p => x.isT p) (d_of fun _ _ => e_int) (d_draw rfl (fun _ _ => e_t rfl (.int most)) ho1 (by omega)) fun u w H5 x5 p1 p2 => ?_) (by decide)) (by omega) (fun _ => rfl) fun j' H5 hj' x5 => ?_) rd (by omega) fun v7 H7 x7 hR7 r7 => ?_)
      · obtain ⟨i, hi, rfl⟩ := p2
        exact (e_add (e_tC p1) (e_tC (.int i))).imp fun v H5 x5 p => ⟨1 + i, by omega, by omega, by rw [p.int_inv, Int.natCast_add]; rfl⟩
      · exact d_one rfl rfl (hp'.mono x5) (by rw [List.length_map]; exact hw1) (by rw [List.length_map]; omega)
      obtain ⟨t, ht1, ht2, htw, hvt⟩ := r7
      have htok : TxOk t := ⟨fun z => by rw [z] at ht1; exact absurd ht1 (by decide), by omega, fun w hw => hws w (htw w hw)⟩
      have e7 := e.trans x7
      have hl7 := x7.lst hl (by simpa using Ne.symm nrf)
      have hld7 := hld.mono x7.tup
      have hl7' : isL (ts.map eT) (.ref lf) H7 := ⟨lf, us, rfl, hl7, hld7⟩
      dsimp only
      refine s_seq (s_asg (T := T) (R := isB (decide ((style : Int) = 1) && ts.any (beg t))) (e_andV (e_eqI (e_t rfl (.int style)) e_int) fun _ => e_any (c_lst (xs := ts) (en := eT) (RE := fun o => isB (beg t o)) (stB (f := beg t)) (e_l rfl hl7') (by omega) (fun _ => true) fun d hd x H8 x8 hx Q k => ?_) |>.eqB (by rw [List.filter_eq_self.mpr fun _ _ => rfl])) fun v8 H8 x8 r8 => ?_)
      · refine k _ rfl t_yes fun _ => e_fn (a_cons (e_t rfl (x8.isT hvt)) (a_one (e_t rfl hx))) fun vs H9 x9 hv => ?_
        cases hv with
        | cons a hv =>
          cases hv with
          | cons b hv =>
            cases hv
            exact ⟨_, ⟨_, _, t, d, rfl, a, b, rfl⟩, fun _ _ r => r⟩
      obtain rfl : v8 = _ := r8
      have hl8 : isL (ts.map eT) (.ref lf) H8 := x8.isL hl7'
      have hvt8 := x8.isT hvt
      dsimp only
      refine s_seq (s_asg (T := T) (R := isB ((decide ((style : Int) = 1) && ts.any (beg t)) || (decide (1 < (style : Int)) && ts.any fun o => beg t.reverse o.reverse))) (e_orV (e_b rfl) fun _ => e_andV (EvR.bool (e_I0 (e_t rfl (.int style)) e_int)) fun _ => e_any (c_lst (xs := ts) (en := eT) (RE := fun o : Tx => isB (beg t.reverse o.reverse)) (stB (f := fun o : Tx => beg t.reverse o.reverse)) (e_l rfl hl8) (by omega) (fun _ => true) fun d hd x H9 x9 hx Q k => ?_) |>.eqB (by rw [List.filter_eq_self.mpr fun _ _ => rfl])) fun v9 H9 x9 r9 => ?_)
      · refine k _ rfl t_yes fun _ => e_fn (a_cons (e_revE (e_t rfl (x9.isT hvt8))) (a_one (e_revE (e_t rfl hx)))) fun vs H9 x9 hv => ?_
        cases hv with
        | cons a hv =>
          cases hv with
          | cons b hv =>
            cases hv
            exact ⟨_, ⟨_, _, t.reverse, d.reverse, rfl, a, b, rfl⟩, fun _ _ r => r⟩
      obtain rfl : v9 = _ := r9
      have hbad : ts = [] → ((decide ((style : Int) = 1) && ts.any (beg t)) || (decide (1 < (style : Int)) && ts.any fun o => beg t.reverse o.reverse)) = false := fun z => by subst z; simp
      generalize ((decide ((style : Int) = 1) && ts.any (beg t)) || (decide (1 < (style : Int)) && ts.any fun o => beg t.reverse o.reverse)) = bad at *
      have x79 := x8.trans x9
      dsimp only
      refine s_seq (s_ifP (T := T) (b := decide ((style : Int) = 3) && decide ((i : Int) = (j : Int) - 1)) (fun σ H' => ∃ (z10 : Option V) (b : Bool), σ = [some (.ref r), some vp, some (.int j), some (.int most), some (.int style), some (.ref lf), some (.int (i : Nat)), some v7, z8, some (.bl b), z10] ∧ Ext T [] H9 H' ∧ (ts = [] → b = false)) (fun σ' H' hP => ?_) (t_and (t_test (e_eqI (e_t rfl (.int style)) e_int)) fun _ => t_test (e_eqI (e_t rfl (.int _)) (e_sub (e_t rfl (.int j)) e_int))) (fun hn _ H10 x10 => ?_) fun _ H10 x10 => ⟨_, bad, rfl, x10, hbad⟩)
      · obtain ⟨z10, b, rfl, x10, hb⟩ := hP
        have x70 := x79.trans x10
        have hl10 := x70.lst hl7 (by simp)
        have hR10 := hR7.ext x70
        dsimp only
        refine s_if (T := T) (b := !b) (t_not (t_b (e_b rfl))) (fun hb' H11 x11 => ?_) fun hb' H11 x11 => ?_
        · have x71 := x70.trans x11
          refine s_appD (T := T) (d := eT t) (x71.lst hl7 (by simp)) (hld7.mono x71.tup) rfl (e_t rfl (x71.isT hvt)) (by rw [List.length_map]; omega) fun H12 us12 x12 hl12 hd12 => ?_
          refine ⟨_, _, _, _, _, ts ++ [t], us12, rfl, (e7.trans x71.wide).own x12 hf0, ((hR7.ext x71).keep x12 (by simpa using nrf) (by simpa using nLf)).mono (by omega), hl12, by rw [List.map_append]; exact hd12, by rw [List.length_append]; show _ + 1 ≤ _; omega, fun _ => by rw [List.length_append]; show 1 ≤ _ + 1; omega, fun x hx => ?_⟩
          rcases List.mem_append.mp hx with hx | hx
          · exact hok x hx
          · rw [List.mem_singleton.mp hx]
            exact htok
        · have x71 := x70.trans x11
          have hts : 1 ≤ ts.length := by
            cases ts with
            | nil =>
              rw [hb rfl] at hb'
              cases hb'
            | cons a as => simp
          exact ⟨_, _, _, _, _, ts, us, rfl, e7.trans x71.wide, (hR7.ext x71).mono (by omega), x71.lst hl7 (by simp), hld7.mono x71.tup, by omega, fun _ => hts, hok⟩
      · dsimp only
        refine s_asg (T := T) (R := isB false) e_bl fun v11 H11 x11 r11 => ?_
        obtain rfl : v11 = _ := r11
        exact hn _ _ ⟨_, false, rfl, x10.trans x11, fun _ => rfl⟩
    · obtain ⟨z6, z7, z8, z9, z10, ts, us, rfl, e, rd, hl, hld, hn1, hn2, hok⟩ := hP
      dsimp only
      refine s_ret (T := T) (e_v rfl) fun v H4 x4 ev => ?_
      obtain rfl : v = .ref lf := ev
      exact q _ H4 ((x1.trans e).trans x4.wide) ((rd.ext x4).mono (by omega)) ⟨ts, hn2 hm1, by omega, hok, lf, us, rfl, x1.free _ hf0, x4.lst hl (by simp), hld.mono x4.tup⟩
end
end Sf

set_option Elab.async false
set_option linter.all false
set_option maxRecDepth 100000
set_option maxHeartbeats 4000000
/-! _law_pairs, _law_split, _law_chain. -/
namespace Sf
open PySem L2 LamX
abbrev S_law_pairs : Stmt := topS 60
abbrev N_law_pairs : List Str := ["_law_reader_here", "_law_texts_here", "_law_acts", "_law_found", "_law_text", "_law_pair"]
abbrev P_law_pairs : List Str := ["_law_reader_here", "_law_texts_here", "_law_acts"]
theorem sc_law_pairs : FnScope N_law_pairs P_law_pairs (defScope S_law_pairs) := ⟨rfl, rfl, rfl, by decide +kernel, rfl, by decide +kernel, by decide +kernel⟩
abbrev S_law_split : Stmt := topS 61
abbrev N_law_split : List Str := ["_law_pairs_here", "_law_pair"]
abbrev P_law_split : List Str := ["_law_pairs_here"]
theorem sc_law_split : FnScope N_law_split P_law_split (defScope S_law_split) := ⟨rfl, rfl, rfl, by decide +kernel, rfl, by decide +kernel, by decide +kernel⟩
abbrev S_law_chain : Stmt := topS 71
abbrev N_law_chain : List Str := ["_law_reader_here", "_law_pool", "_law_rests", "_law_k", "_law_rest", "_law_j", "_law_start", "_law_texts_here"]
abbrev P_law_chain : List Str := ["_law_reader_here", "_law_pool"]
theorem sc_law_chain : FnScope N_law_chain P_law_chain (defScope S_law_chain) := ⟨rfl, rfl, rfl, by decide +kernel, rfl, by decide +kernel, by decide +kernel⟩
theorem TxOk.t {t : Tx} (h : TxOk t) : OkT t := ⟨h.ne, by have := h.len; omega, h.ok⟩
def cPairs : List V → Hp → Addr → Nat → RP → Prop := fun vs H r n R => ∃ (vt va : V) (ts acts : List Tx), vs = [.ref r, vt, va] ∧ isLr r (ts.map eT) vt H ∧ isLr r (acts.map eT) va H ∧ 1 ≤ ts.length ∧ ts.length ≤ 16 ∧ (∀ t ∈ ts, TxOk t) ∧ 1 ≤ acts.length ∧ acts.length ≤ 30 ∧ n = 16 ∧
  R = fun v H' => ∃ ps : List Ph, IsD H' v (ePs ps) ∧ 1 ≤ ps.length ∧ ps.length ≤ 16 ∧ ps.Nodup ∧ ∀ p ∈ ps, p.1 ∈ ts ∧ p.2 ∈ acts
def cSplit : List V → Hp → RP → Prop := fun vs H R => ∃ (v : V) (ps : List Ph), vs = [v] ∧ IsD H v (ePs ps) ∧ ps.length ≤ 1000 ∧ (∀ p ∈ ps, OkT p.1) ∧ R = isLN H ((ps.map (·.1)).map eT)
def cChain : List V → Hp → Addr → Nat → RP → Prop := fun vs H r n R => ∃ (vp : V) (ws : Tx), vs = [.ref r, vp] ∧ isLr r (ws.map .text) vp H ∧ (∀ w ∈ ws, OkW w) ∧ 1 ≤ ws.length ∧ ws.length ≤ 26 ∧ n = 38 ∧
  R = fun v H' => ∃ ts : List Tx, 1 ≤ ts.length ∧ ts.length ≤ 14 ∧ (∀ t ∈ ts, TxOk t) ∧ isLN H (ts.map eT) v H'
section
variable {T : List Tab} {r L : Addr} {K : PySem.W.Frag} {σ : L2.St} {H H' : Hp} {n m i : Nat} {te ta tb tc : TE} {t : TA} {d e : D} {ds es : List D} {ws : Tx} {v : V}
theorem d_tupP {P : List V → Hp → Prop} {Pd : D → Prop} (h : EvDA T r L n t σ H P) (hp : ∀ vs H1, Ext T [r] H H1 → P vs H1 → ∃ ds, Pd (.tup ds) ∧ IsDs H1 vs ds ∧ ds.length ≤ 100000) : EvD T r L n (tTup t) σ H (fun v H' => ∃ d, Pd d ∧ IsD H' v d) := fun k H1 a rd hk Q q =>
  h k H1 a rd hk _ fun vs H2 x2 rd2 p => by
    obtain ⟨ds, hd0, hd, hl⟩ := hp vs H2 (a.trans x2) p
    exact ⟨sz (by rw [hd.length]; exact hl), fun p hp => q _ _ (x2.trans (Ext.new hp)) (rd2.ext (T := T) (Ext.new hp)) ⟨_, hd0, .tup upd_same (IsDs.mono (Ext.new (T := T) (ex := []) hp).tup hd)⟩⟩
theorem join_size {t : Tx} (h : TxOk t) : (t.map (·.length)).sum + t.length * (" " : Str).length ≤ 16777216 := by
  have h1 := sum_le (L := 8) fun x hx => (h.ok x hx).2.1
  have h2 : t.length * (" " : Str).length = t.length := by rw [show (" " : Str).length = 1 by decide +kernel, Nat.mul_one]
  have := h.len
  omega
end
section
variable {T : List Tab} {P : Program} {w : World} {K : PySem.W.Frag} {mg : Str → Option Value} {base : Heap}
theorem ok_law_split {f : Addr} {fd : FuncData} (F : Fun K "_law_split" "_law_split" S_law_split f fd) (G : Gm mg) : FnOk P w K mg base CX0 1 f fd P_law_split (SpP T cSplit) := by
  refine F.ok sc_law_split (fun vs H Q E h => ?_) (fun cdv A outer s H vs Q E hr h => ?_)
  · obtain ⟨R, ⟨_, _, rfl, _⟩, _⟩ := h
    rfl
  · obtain ⟨R, ⟨v, ps, rfl, h1, hz, hok, rfl⟩, q⟩ := h
    refine ⟨_, (pss_one (ps_ret (pe_lc (own := [("_law_pair", 1)]) rfl sc_law_split.nd (pi_tupK (K := K) rfl (pv 0)) (blkOk_by (own := [("_law_pair", 1)]) (N := N_law_split) (sc := defScope S_law_split) (by decide +kernel)) (fun _ _ _ _ _ => by exact (pg_name (i := 1) sc_law_split.nd rfl (Or.inl rfl) (Or.inr rfl))) (fun _ _ _ _ _ => by exact pts_nil) (fun _ _ _ _ _ => by exact (pe_callTy (tupOfK (K := K) rfl) (by rfl) G.n_tuple (by decide +kernel) (pa_cons (px_split (pe_ix (ixT (K := K) rfl) (pv 1) pe_int (fun _ _ => rfl)) pe_str) pa_nil)))))), ?_⟩
    refine s_ret (T := T) (R := isLN H ((ps.map (·.1)).map eT)) (EvR.imp (c_tup (xs := ps) (en := eP) (RE := fun p => isT (eT p.1)) stT (e_t rfl h1) (by omega) (fun _ => true) fun d hd x H1 x1 hx Q k => ?_) fun v' H2 _ r => ?_) fun v H1 x r => q v H1 x r
    · refine k _ rfl t_yes fun _ => ?_
      have ho := hok d hd
      have := ho.len
      have hl := joinW_len ho.ok
      refine e_tupOf ((e_split (e_ix (i := 0) (x := .text (joinW d.1)) (e_t rfl hx) e_int rfl) e_str (by decide +kernel) (by omega)).imp fun _ _ _ r => ?_)
      rw [split_joinW ho.ne ho.ok] at r
      exact r.l
    · rw [List.filter_eq_self.mpr fun _ _ => rfl] at r
      rw [List.map_map]
      exact isEach.ln r
theorem ok_law_pairs {f : Addr} {fd : FuncData} (F : Fun K "_law_pairs" "_law_pairs" S_law_pairs f fd) (G : Gm mg) (A_law_draw : At P w K mg base 2 "_law_draw" P_law_draw (SpD T cDraw)) : FnOk P w K mg base CX0 3 f fd P_law_pairs (SpD T cPairs) := by
  refine F.ok sc_law_pairs (fun vs H Q E h => ?_) (fun cdv A outer s H vs Q E hr h => ?_)
  · obtain ⟨_, _, _, _, _, ⟨_, _, _, _, rfl, _⟩, _⟩ := h
    rfl
  · obtain ⟨r, L, k, n, R, ⟨vt, va, ts, acts, rfl, ht, ha, ht1, ht2, hok, ha1, ha2, rfl, rfl⟩, hR, hk, q⟩ := h
    refine ⟨_, (pss_cons (ps_set (i := 3) sc_law_pairs.nd rfl (Or.inl rfl) (pe_lst pa_nil))
    (pss_cons (ps_for PassesOwn.never rfl (pi_listK (K := K) rfl (pv 1)) (pg_name (i := 4) sc_law_pairs.nd rfl (Or.inl rfl))
      (pss_cons (ps_set (i := 5) sc_law_pairs.nd rfl (Or.inl rfl) (pe_tup (pa_cons (joinK (K := K) rfl pe_str (pv 4)) (pa_cons (pe_ix (ixL (K := K) rfl) (pv 2) (pe_fn A_law_draw (hr.mono (by decide)) (pa_cons (pv 0) (pa_cons (pe_callB (lenK (K := K) rfl) (by rfl) G.n_len PySem.boot_len (pa_cons (pv 2) pa_nil)) pa_nil))) (fun _ _ => rfl)) pa_nil))))
      (pss_one (ps_if (pt_cmpR (notInN (K := K) rfl hr.units) (pv 5) (pv 3) (by rfl))
        (pss_one (ps_expr (pe_bm PySem.F.plainAttrs_list PySem.F.slot_list_append PySem.F.type_list_append mt_append (pv 3) (pa_cons (pv 5) pa_nil))))
        pss_nil))))
    (pss_one (ps_ret (pe_callTy (tupOfK (K := K) rfl) (by rfl) G.n_tuple (by decide +kernel) (pa_cons (pv 3) pa_nil)))))), ?_⟩
    refine s_seq (s_asg (T := T) (R := isLN H []) (e_lst a_nil (by decide)) fun v1 H1 x1 r1 => ?_)
    obtain ⟨lf, us0, rfl, hf0, hf1, hfd⟩ := r1
    have nrf : r ≠ lf := by rintro rfl; exact hR.some hf0
    have nLf : L ≠ lf := by rintro rfl; exact hR.cell hf0
    have hR1 := hR.ext x1
    dsimp only
    refine s_seq (f_list (T := T) (ds := ts.map eT) (R := isV vt) (e_v rfl) fun v2 H2 x2 e2 => ?_)
    obtain rfl : v2 = vt := e2
    have x12 := x1.trans x2
    obtain ⟨lt, tvs, rfl, ntr, hlt, htd⟩ := id ht
    have ntf : lt ≠ lf := by rintro rfl; rw [hlt] at hf0; cases hf0
    refine ⟨lt, tvs, rfl, x12.lst hlt (by simp), htd.mono x12.tup, [r, lf], fun i σ' H' => ∃ (z4 z5 : Option V) (ps : List Ph) (us : List V), σ' = [some (.ref r), some (.ref lt), some va, some (.ref lf), z4, z5] ∧ Ext T [r, lf] H2 H' ∧ Ext T [r] H H' ∧ Rdr r L (k + i) H' ∧ H' lf = some (.lst us) ∧ IsDs H' us (ps.map eP) ∧
      ps.length ≤ i ∧ (1 ≤ i → 1 ≤ ps.length) ∧ ps.Nodup ∧ (∀ p ∈ ps, p.1 ∈ ts ∧ p.2 ∈ acts), by simp [ntr, ntf],
      ⟨none, none, [], us0, rfl, Ext.refl _, x12.wide, (hR1.ext x2).mono (by omega), x2.lst hf1 (by simp), hfd.mono x2.tup, Nat.le_refl _, fun h => absurd h (by decide), List.nodup_nil, (fun _ h => nomatch h)⟩, fun i σ' H' hP => ?_, fun i d x σ' H' hd hx hP => ?_, fun σ' H' hP => ?_⟩
    · obtain ⟨_, _, _, _, _, e, _⟩ := hP
      exact e
    · obtain ⟨z4, z5, ps, us, rfl, e, eH, rd, hl, hld, hn1, hn2, hnd, hps⟩ := hP
      rw [List.getElem?_map] at hd
      obtain ⟨t, hdt, rfl⟩ := Option.map_eq_some_iff.mp hd
      have hi : i < ts.length := (List.getElem?_eq_some_iff.mp hdt).1
      have htm := List.mem_of_getElem? hdt
      have htok := hok t htm
      dsimp only
      refine s_seq (sd_asg (T := T) (r := r) (L := L) (n := 0 + (1 + 0)) (R := fun v H' => ∃ d, (∃ a ∈ acts, d = eP (t, a)) ∧ IsD H' v d) (d_tupP (da_cons (R := isT (.text (joinW t))) (fun _ _ _ x p => x.isT p) (d_of fun H5 x5 => e_join e_str (e_t rfl (x5.isT hx)) (join_size htok)) (da_cons (R := fun v H' => ∃ d ∈ acts.map eT, IsD H' v d) (fun v H5 H6 x6 p => ?_) (d_one rfl rfl (ha.mono eH) (by rw [List.length_map]; exact ha1) (by rw [List.length_map]; omega)) da_nil)) fun vs H5 x5 hp => ?_) rd (by omega) fun v5 H5 x5 hR5 r5 => ?_)
      · obtain ⟨d, hd, p⟩ := p
        exact ⟨d, hd, x6.isT p⟩
      · obtain ⟨v, us, rfl, hv, w, us, rfl, hw, rfl⟩ := hp
        obtain ⟨d, hd, hw⟩ := hw
        obtain ⟨a, ha, rfl⟩ := List.mem_map.mp hd
        exact ⟨_, ⟨a, ha, rfl⟩, .cons hv (.cons hw .nil), by show 2 ≤ 100000; decide⟩
      obtain ⟨d, ⟨a, ham, rfl⟩, hv5⟩ := r5
      have hl5 := x5.lst hl (by simpa using Ne.symm nrf)
      have hld5 := hld.mono x5.tup
      have e5 : Ext T [r, lf] H2 H5 := e.trans (x5.sub fun a ha => by simp at ha; simp [ha])
      dsimp only
      refine s_if (T := T) (b := !decide (eP (t, a) ∈ ps.map eP)) (t_test ((e_inL (neg := true) (e_t rfl hv5) (e_l rfl ⟨lf, us, rfl, hl5, hld5⟩) (Nat.le_trans (ePs_depth ps) (by decide))).eqB rfl)) (fun hb H6 x6 => ?_) fun hb H6 x6 => ?_
      · have hb : eP (t, a) ∉ ps.map eP := by simpa using hb
        refine s_appD (T := T) (d := eP (t, a)) (x6.lst hl5 (by simp)) (hld5.mono x6.tup) rfl (e_t rfl (x6.isT hv5)) (by rw [List.length_map]; omega) fun H7 us7 x7 hl7 hd7 => ?_
        refine ⟨_, _, ps ++ [(t, a)], us7, rfl, (e5.trans x6.wide).trans (x7.sub fun a ha => by simp at ha; simp [ha]), ((eH.trans x5).trans x6.wide).own x7 hf0, ((hR5.ext x6).keep x7 (by simpa using nrf) (by simpa using nLf)).mono (by omega), hl7, by rw [List.map_append]; exact hd7, by rw [List.length_append]; show _ + 1 ≤ _; omega, fun _ => by rw [List.length_append]; show 1 ≤ _ + 1; omega, ?_, fun p hp => ?_⟩
        · rw [List.nodup_append]
          refine ⟨hnd, by simp, fun x hx y hy e => hb ?_⟩
          rw [List.mem_singleton.mp hy] at e
          exact List.mem_map.mpr ⟨x, hx, by rw [e]⟩
        · rcases List.mem_append.mp hp with hp | hp
          · exact hps p hp
          · rw [List.mem_singleton.mp hp]
            exact ⟨htm, ham⟩
      · have hb : eP (t, a) ∈ ps.map eP := by simpa using hb
        obtain ⟨p0, hp0, _⟩ := List.mem_map.mp hb
        refine ⟨_, _, ps, us, rfl, e5.trans x6.wide, (eH.trans x5).trans x6.wide, (hR5.ext x6).mono (by omega), x6.lst hl5 (by simp), hld5.mono x6.tup, by omega, fun _ => List.length_pos_of_mem hp0, hnd, hps⟩
    · obtain ⟨z4, z5, ps, us, rfl, e, eH, rd, hl, hld, hn1, hn2, hnd, hps⟩ := hP
      rw [List.length_map] at hn1 hn2 rd
      dsimp only
      refine s_ret (T := T) (R := isT (ePs ps)) (e_tupOf (e_l rfl ⟨lf, us, rfl, hl, hld⟩)) fun v4 H4 x4 r4 => ?_
      exact q v4 H4 (eH.trans x4.wide) ((rd.ext x4).mono (by omega)) ⟨ps, r4, hn2 ht1, by omega, hnd, hps⟩
theorem ok_law_chain {f : Addr} {fd : FuncData} (F : Fun K "_law_chain" "_law_chain" S_law_chain f fd) (G : Gm mg) (A_law_draw : At P w K mg base 2 "_law_draw" P_law_draw (SpD T cDraw)) : FnOk P w K mg base CX0 3 f fd P_law_chain (SpD T cChain) := by
  refine F.ok sc_law_chain (fun vs H Q E h => ?_) (fun cdv A outer s H vs Q E hr h => ?_)
  · obtain ⟨_, _, _, _, _, ⟨_, _, rfl, _⟩, _⟩ := h
    rfl
  · obtain ⟨r, L, k, n, R, ⟨vp, ws, rfl, hp, hws, hw1, hw2, rfl, rfl⟩, hR, hk, q⟩ := h
    refine ⟨_, (pss_cons (ps_set (i := 2) sc_law_chain.nd rfl (Or.inl rfl) (pe_lst pa_nil))
    (pss_cons (ps_for PassesOwn.never rfl (pi_range1 rfl G.n_range (pa_cons (pe_op op_add pe_int (pe_fn A_law_draw (hr.mono (by decide)) (pa_cons (pv 0) (pa_cons pe_int pa_nil)))) pa_nil)) (pg_name (i := 3) sc_law_chain.nd rfl (Or.inl rfl))
      (pss_cons (ps_set (i := 4) sc_law_chain.nd rfl (Or.inl rfl) (pe_callTy (tupOfK (K := K) rfl) (by rfl) G.n_tuple (by decide +kernel) (pa_cons (pe_lc (own := [("_law_j", 5)]) rfl sc_law_chain.nd (pi_range1 rfl G.n_range (pa_cons pe_int pa_nil)) (blkOk_by (own := [("_law_j", 5)]) (N := N_law_chain) (sc := defScope S_law_chain) (by decide +kernel)) (fun _ _ _ _ _ => by exact (pg_name (i := 5) sc_law_chain.nd rfl (Or.inl rfl) (Or.inr rfl))) (fun _ _ _ _ _ => by exact pts_nil) (fun _ _ _ _ _ => by exact (pe_ix (ixL (K := K) rfl) (pv 1) (pe_fn A_law_draw (hr.mono (by decide)) (pa_cons (pv 0) (pa_cons (pe_callB (lenK (K := K) rfl) (by rfl) G.n_len PySem.boot_len (pa_cons (pv 1) pa_nil)) pa_nil))) (fun _ _ => rfl)))) pa_nil)))
      (pss_one (ps_if (pt_cmpR (notInN (K := K) rfl hr.units) (pv 4) (pv 2) (by rfl))
        (pss_one (ps_expr (pe_bm PySem.F.plainAttrs_list PySem.F.slot_list_append PySem.F.type_list_append mt_append (pv 2) (pa_cons (pv 4) pa_nil))))
        pss_nil))))
    (pss_cons (ps_set (i := 6) sc_law_chain.nd rfl (Or.inl rfl) (pe_tup (pa_cons (pe_ix (ixL (K := K) rfl) (pv 1) (pe_fn A_law_draw (hr.mono (by decide)) (pa_cons (pv 0) (pa_cons (pe_callB (lenK (K := K) rfl) (by rfl) G.n_len PySem.boot_len (pa_cons (pv 1) pa_nil)) pa_nil))) (fun _ _ => rfl)) pa_nil)))
    (pss_cons (ps_set (i := 7) sc_law_chain.nd rfl (Or.inl rfl) (pe_lst (pa_cons (pv 6) (pa_cons (pe_op (catT (K := K) rfl) (pv 6) (pe_ix (ixL (K := K) rfl) (pv 2) pe_int (fun _ _ => rfl))) pa_nil))))
    (pss_cons (ps_for PassesOwn.never rfl (pi_range1 rfl G.n_range (pa_cons (pe_op op_sub (pe_callB (lenK (K := K) rfl) (by rfl) G.n_len PySem.boot_len (pa_cons (pv 2) pa_nil)) pe_int) pa_nil)) (pg_name (i := 3) sc_law_chain.nd rfl (Or.inl rfl))
      (pss_one (ps_expr (pe_bm PySem.F.plainAttrs_list PySem.F.slot_list_append PySem.F.type_list_append mt_append (pv 7) (pa_cons (pe_op (catT (K := K) rfl) (pe_ix (ixL (K := K) rfl) (pv 2) (pv 3) (fun _ _ => rfl)) (pe_ix (ixL (K := K) rfl) (pv 2) (pe_op op_add (pv 3) pe_int) (fun _ _ => rfl))) pa_nil)))))
    (pss_one (ps_ret (pe_op op_cat (pv 7) (pe_lst (pa_cons (pe_ix (ixL (K := K) rfl) (pv 2) (pe_op op_sub (pe_callB (lenK (K := K) rfl) (by rfl) G.n_len PySem.boot_len (pa_cons (pv 2) pa_nil)) pe_int) (fun _ _ => rfl)) pa_nil)))))))))), ?_⟩
    refine s_seq (s_asg (T := T) (R := isLN H []) (e_lst a_nil (by decide)) fun v1 H1 x1 r1 => ?_)
    obtain ⟨lf, us0, rfl, hf0, hf1, hfd⟩ := r1
    have nrf : r ≠ lf := by rintro rfl; exact hR.some hf0
    have nLf : L ≠ lf := by rintro rfl; exact hR.cell hf0
    have hR1 := hR.ext x1
    dsimp only
    refine s_seq (fd_range (T := T) (r := r) (L := L) (n := 1) (b0 := 2) (b := 12) (EvD.up (n := 0 + 1) (d_op (R1 := isT (.num 2)) (R2 := isN 11) (fun _ _ _ x p => x.isT p) (d_of fun _ _ => e_int) (d_draw rfl (fun _ _ => e_int) (by decide) (by decide)) fun u w H4 x4 p1 p2 => ?_) (by decide)) (by decide) hR1 (by omega) fun j H2 hj1 hj2 x2 hR2 => ?_)
    · obtain ⟨i, hi, rfl⟩ := p2
      exact (e_add (e_tC p1) (e_tC (.int i))).imp fun v H5 x5 p => ⟨2 + i, by omega, by omega, by rw [p.int_inv, Int.natCast_add]; rfl⟩
    have x12 := x1.wide.trans x2
    refine ⟨fun i σ' H' => ∃ (z3 z4 z5 : Option V) (rs : List Tx) (us : List V), σ' = [some (.ref r), some vp, some (.ref lf), z3, z4, z5, none, none] ∧ Ext T [r] H H' ∧ Rdr r L (k + 1 + 3 * i) H' ∧ H' lf = some (.lst us) ∧ IsDs H' us (rs.map eT) ∧
      rs.length ≤ i ∧ (1 ≤ i → 1 ≤ rs.length) ∧ (∀ t ∈ rs, t.length = 3 ∧ ∀ w ∈ t, OkW w),
      ⟨none, none, none, [], us0, rfl, x12, hR2.mono (by omega), x2.lst hf1 (by simpa using Ne.symm nrf), hfd.mono x2.tup, Nat.le_refl _, fun h => absurd h (by decide), (fun _ h => nomatch h)⟩, fun i σ' H' hi hP => ?_, fun σ' H' hP => ?_⟩
    · obtain ⟨z3, z4, z5, rs, us, rfl, e, rd, hl, hld, hn1, hn2, hrs⟩ := hP
      dsimp only
      have hp' := hp.mono e
      refine s_seq (sd_asg (T := T) (r := r) (L := L) (n := 0 + 3) (d_words (ws := ws) (j0 := 3) (b := 3) (i := 5) (EvD.imp (d_of (R := isV (.int 3)) fun _ _ => e_c) fun v _ _ e => ⟨3, Nat.le_refl _, Nat.le_refl _, e⟩) (by omega) (fun _ => rfl) fun j' H5 hj' x5 => ?_) rd (by omega) fun v5 H5 x5 hR5 r5 => ?_)
      · exact d_one rfl rfl (hp'.mono x5) (by rw [List.length_map]; exact hw1) (by rw [List.length_map]; omega)
      obtain ⟨t, ht1, ht2, htw, hvt⟩ := r5
      have htok : t.length = 3 ∧ ∀ w ∈ t, OkW w := ⟨by omega, fun w hw => hws w (htw w hw)⟩
      have hl5 := x5.lst hl (by simpa using Ne.symm nrf)
      have hld5 := hld.mono x5.tup
      have e5 := e.trans x5
      dsimp only
      refine s_if (T := T) (b := !decide (eT t ∈ rs.map eT)) (t_test ((e_inL (neg := true) (e_t rfl hvt) (e_l rfl ⟨lf, us, rfl, hl5, hld5⟩) (depth_le fun d hd => ?_)).eqB rfl)) (fun hb H6 x6 => ?_) fun hb H6 x6 => ?_
      · obtain ⟨t', _, rfl⟩ := List.mem_map.mp hd
        rw [eT_depth]
        decide
      · refine s_appD (T := T) (d := eT t) (x6.lst hl5 (by simp)) (hld5.mono x6.tup) rfl (e_t rfl (x6.isT hvt)) (by rw [List.length_map]; omega) fun H7 us7 x7 hl7 hd7 => ?_
        refine ⟨_, _, _, rs ++ [t], us7, rfl, (e5.trans x6.wide).own x7 hf0, ((hR5.ext x6).keep x7 (by simpa using nrf) (by simpa using nLf)).mono (by omega), hl7, by rw [List.map_append]; exact hd7, by rw [List.length_append]; show _ + 1 ≤ _; omega, fun _ => by rw [List.length_append]; show 1 ≤ _ + 1; omega, fun p hp => ?_⟩
        rcases List.mem_append.mp hp with hp | hp
        · exact hrs p hp
        · rw [List.mem_singleton.mp hp]
          exact htok
      · have hb : eT t ∈ rs.map eT := by simpa using hb
        obtain ⟨p0, hp0, _⟩ := List.mem_map.mp hb
        exact ⟨_, _, _, rs, us, rfl, e5.trans x6.wide, (hR5.ext x6).mono (by omega), x6.lst hl5 (by simp), hld5.mono x6.tup, by omega, fun _ => List.length_pos_of_mem hp0, hrs⟩
    · obtain ⟨z3, z4, z5, rs, us, rfl, e, rd, hl, hld, hn1, hn2, hrs⟩ := hP
      have hn2 := hn2 (by omega)
      have hn1 : rs.length ≤ 12 := by omega
      have hget : ∀ i, (hi : i < rs.length) → (rs.map eT)[i]? = some (eT rs[i]) := fun i hi => by rw [List.getElem?_map, List.getElem?_eq_getElem hi]; rfl
      have hrsi : ∀ i, (hi : i < rs.length) → (rs[i]).length = 3 ∧ ∀ w ∈ rs[i], OkW w := fun i hi => hrs _ (List.getElem_mem hi)
      dsimp only
      refine s_seq (sd_asg (T := T) (r := r) (L := L) (n := 1 + 0) (R := fun v H' => ∃ d, (∃ w ∈ ws, d = eT [w]) ∧ IsD H' v d) (d_tupP (da_cons (R := fun v H' => ∃ d ∈ ws.map .text, IsD H' v d) (fun v H5 H6 x6 p => ?_) (d_one rfl rfl (hp.mono e) (by rw [List.length_map]; exact hw1) (by rw [List.length_map]; omega)) da_nil) fun vs H5 x5 hp => ?_) rd (by omega) fun v6 H6 x6 hR6 r6 => ?_)
      · obtain ⟨d, hd, p⟩ := p
        exact ⟨d, hd, x6.isT p⟩
      · obtain ⟨w, us, rfl, hw, rfl⟩ := hp
        obtain ⟨d, hd, hw⟩ := hw
        obtain ⟨a, ha, rfl⟩ := List.mem_map.mp hd
        exact ⟨_, ⟨a, ha, rfl⟩, .cons hw .nil, by show 1 ≤ 100000; decide⟩
      obtain ⟨d, ⟨st, hst, rfl⟩, hv6⟩ := r6
      have hl6 := x6.lst hl (by simpa using Ne.symm nrf)
      have hld6 := hld.mono x6.tup
      have e6 := e.trans x6
      have rests : ∀ {H' : Hp} {σ : L2.St}, Ext T [] H6 H' → σ[2]? = some (some (.ref lf)) → EvR T (tVar 2) σ H' (isL (rs.map eT)) := fun x hs => e_l hs ⟨lf, us, rfl, x.lst hl6 (by simp), hld6.mono x.tup⟩
      dsimp only
      refine s_seq (s_asg (T := T) (R := isLN H6 ([[st], [st] ++ rs[0]].map eT)) (e_lst (a_cons (e_t rfl hv6) (a_one (e_catT (e_t rfl hv6) (e_ixL (i := 0) (rests (Ext.refl _) rfl) e_int (hget 0 (by omega))) (by have := (hrsi 0 (by omega)).1; show 1 + _ ≤ _; omega)))) (by show 2 ≤ 100000; decide)) fun v7 H7 x7 r7 => ?_)
      obtain ⟨lg, us7, rfl, hg6, hg7, hgd⟩ := r7
      have hR7 := hR6.ext x7
      have nrg : r ≠ lg := by rintro rfl; exact hR6.some hg6
      have nLg : L ≠ lg := by rintro rfl; exact hR6.cell hg6
      have nfg : lf ≠ lg := by rintro rfl; rw [hl6] at hg6; cases hg6
      have hg0 : H lg = none := e6.free _ hg6
      have hl7 := x7.lst hl6 (by simp)
      have hld7 := hld6.mono x7.tup
      have hs1 : OkW st := hws st hst
      dsimp only
      refine s_seq (f_range (T := T) (n := rs.length - 1) ((e_sub ((e_lenL (rests x7 rfl)).eqT (by rw [List.length_map])) e_int).eqT (by congr 1; omega)) (by omega) fun H8 x8 => ⟨fun i σ' H' => ∃ (z3 : Option V) (ts : List Tx) (us' : List V), σ' = [some (.ref r), some vp, some (.ref lf), z3, z4, z5, some v6, some (.ref lg)] ∧ Ext T [lg] H7 H' ∧ H' lg = some (.lst us') ∧ IsDs H' us' (ts.map eT) ∧ ts.length = 2 + i ∧ (∀ t ∈ ts, TxOk t),
        ⟨z3, [[st], [st] ++ rs[0]], us7, rfl, x8.wide, x8.lst hg7 (by simp), hgd.mono x8.tup, rfl, fun t ht => ?_⟩, fun i σ' H' hi hP => ?_, fun σ' H' hP => ?_⟩)
      · simp only [List.mem_cons, List.not_mem_nil, or_false] at ht
        have h0 := hrsi 0 (by omega)
        rcases ht with rfl | rfl
        · exact ⟨by simp, by show 1 ≤ 6; decide, fun w hw => by rw [List.mem_singleton.mp hw]; exact hs1⟩
        · exact ⟨by simp, by rw [List.length_append]; show 1 + _ ≤ 6; omega, fun w hw => by
            rcases List.mem_append.mp hw with hw | hw
            · rw [List.mem_singleton.mp hw]; exact hs1
            · exact h0.2 w hw⟩
      · obtain ⟨z3, ts, us', rfl, e8, hg8, hgd8, htl, htk⟩ := hP
        have hl8 := e8.lst hl7 (by simpa using nfg)
        have hld8 := hld7.mono e8.tup
        have ha := hrsi i (by omega)
        have hb := hrsi (i + 1) (by omega)
        dsimp only
        refine s_appD (T := T) (d := eT (rs[i] ++ rs[i + 1])) hg8 hgd8 rfl (e_catT (e_ixL (e_l rfl ⟨lf, us, rfl, hl8, hld8⟩) (e_t rfl (.int (i : Nat))) (hget i (by omega))) (e_ixL (i := i + 1) (e_l rfl ⟨lf, us, rfl, hl8, hld8⟩) (e_add (e_t rfl (.int (i : Nat))) e_int) (hget (i + 1) (by omega))) (by omega)) (by rw [List.length_map]; omega) fun H9 us9 x9 hg9 hd9 => ?_
        refine ⟨_, ts ++ [rs[i] ++ rs[i + 1]], us9, rfl, e8.trans x9, hg9, by rw [List.map_append]; exact hd9, by rw [List.length_append, htl]; rfl, fun t ht => ?_⟩
        rcases List.mem_append.mp ht with ht | ht
        · exact htk t ht
        · rw [List.mem_singleton.mp ht]
          refine ⟨fun z => ?_, by rw [List.length_append]; omega, fun w hw => ?_⟩
          · have := congrArg List.length z
            rw [List.length_append] at this
            simp only [List.length_nil] at this
            omega
          · rcases List.mem_append.mp hw with hw | hw
            · exact ha.2 w hw
            · exact hb.2 w hw
      · obtain ⟨z3, ts, us', rfl, e8, hg8, hgd8, htl, htk⟩ := hP
        have hl8 := e8.lst hl7 (by simpa using nfg)
        have hld8 := hld7.mono e8.tup
        have hR8 := hR7.keep e8 (by simpa using nrg) (by simpa using nLg)
        have eH8 : Ext T [r] H H' := (e6.trans x7.wide).own e8 hg0
        have hla := hrsi (rs.length - 1) (by omega)
        dsimp only
        refine s_ret (T := T) (R := isLN H' (ts.map eT ++ [eT rs[rs.length - 1]])) (e_catL (e_l rfl ⟨lg, us', rfl, hg8, hgd8⟩) (EvR.imp (e_lst (a_one (e_ixL (i := rs.length - 1) (e_l rfl ⟨lf, us, rfl, hl8, hld8⟩) ((e_sub ((e_lenL (e_l rfl ⟨lf, us, rfl, hl8, hld8⟩)).eqT (by rw [List.length_map])) e_int).eqT (by congr 1; omega)) (hget _ (by omega)))) (by show 1 ≤ 100000; decide)) fun _ _ _ p => p.l) (by rw [List.length_map]; show _ + 1 ≤ _; omega)) fun v9 H9 x9 r9 => ?_
        refine q v9 H9 (eH8.trans x9.wide) ((hR8.ext x9).mono (by omega)) ⟨ts ++ [rs[rs.length - 1]], by rw [List.length_append]; show 1 ≤ _ + 1; omega, by rw [List.length_append]; show _ + 1 ≤ _; omega, fun t ht => ?_, ?_⟩
        · rcases List.mem_append.mp ht with ht | ht
          · exact htk t ht
          · rw [List.mem_singleton.mp ht]
            refine ⟨fun z => ?_, by omega, hla.2⟩
            have := congrArg List.length z
            simp only [List.length_nil] at this
            omega
        · rw [List.map_append]
          exact isLN_back r9 eH8.free
end
end Sf

set_option Elab.async false
set_option linter.all false
set_option maxRecDepth 100000
set_option maxHeartbeats 4000000
/-! What is said of a row: _law_said. -/
namespace Sf
open PySem L2 LamX
abbrev S_law_said : Stmt := topS 67
abbrev N_law_said : List Str := ["_law_reader_here", "_law_row", "_law_found", "_law_pair", "_law_blanks"]
abbrev P_law_said : List Str := ["_law_reader_here", "_law_row"]
theorem sc_law_said : FnScope N_law_said P_law_said (defScope S_law_said) := ⟨rfl, rfl, rfl, by decide +kernel, rfl, by decide +kernel, by decide +kernel⟩
/-- the words, by signs -/
def spw (l : List Nat) : List (List Nat) := (TL.spl [32] 0 [] l).filter fun p => !decide (p = [])
theorem spl_blank (acc r : List Nat) : TL.spl [32] 0 acc (32 :: r) = acc :: TL.spl [32] 0 [] r := by
  rw [TL.spl_hit]
  · rfl
  · show (List.take 1 (32 :: r) == [32]) = true
    simp
theorem spl_word : ∀ (p : List Nat) {r acc : List Nat}, 32 ∉ p → TL.spl [32] 0 acc (p ++ r) = TL.spl [32] 0 (acc ++ p) r
  | [], r, acc, _ => by simp
  | c :: p, r, acc, h => by
    rw [List.cons_append, TL.spl_miss, spl_word p (fun z => h (List.mem_cons_of_mem _ z)), List.append_assoc]
    · rfl
    · exact TL.pre_of_head [] (p ++ r) (fun z => h (by rw [z]; exact List.mem_cons_self))
theorem spw_blank (r : List Nat) : spw (32 :: r) = spw r := by
  unfold spw
  rw [spl_blank]
  rfl
theorem spw_nil : spw [] = [] := by
  unfold spw
  rw [TL.spl_nil]
  rfl
theorem spw_blanks {r : List Nat} : ∀ {b : List Nat}, (∀ c ∈ b, c = 32) → spw (b ++ r) = spw r
  | [], _ => rfl
  | c :: b, h => by
    obtain rfl := h c List.mem_cons_self
    rw [List.cons_append, spw_blank, spw_blanks fun x hx => h x (List.mem_cons_of_mem _ hx)]
/-- what may stand behind a word -/
def Beh (r : List Nat) : Prop := r = [] ∨ ∃ r', r = 32 :: r'
theorem spw_word {p r : List Nat} (h : 32 ∉ p) (hp : p ≠ []) (hr : Beh r) : spw (p ++ r) = p :: spw r := by
  unfold spw
  rw [spl_word p h, List.nil_append]
  rcases hr with rfl | ⟨r', rfl⟩
  · rw [TL.spl_nil, TL.spl_nil]
    simp [hp]
  · rw [spl_blank, spl_blank]
    simp [hp]
def Said (cs : List Nat) (ws : List (List Nat)) : Prop := ∀ r, Beh r → spw (cs ++ r) = ws ++ spw r
theorem Said.nil : Said [] [] := fun _ _ => rfl
theorem Said.word {cs b p : List Nat} {ws : List (List Nat)} (h : Said cs ws) (hb : ∀ c ∈ b, c = 32) (hb0 : b ≠ []) (hp : 32 ∉ p) (hp0 : p ≠ []) : Said (cs ++ (b ++ p)) (ws ++ [p]) := fun r hr => by
  rw [List.append_assoc, h _ ?_, List.append_assoc, spw_blanks hb, spw_word hp hp0 hr, List.append_assoc]
  · rfl
  · cases b with
    | nil => exact absurd rfl hb0
    | cons c b =>
      obtain rfl := hb c List.mem_cons_self
      exact .inr ⟨_, rfl⟩
theorem Said.join {b : List Nat} (hb : ∀ c ∈ b, c = 32) (hb0 : b ≠ []) : ∀ {ps : List (List Nat)} {cs : List Nat} {ws : List (List Nat)}, Said cs ws → ps ≠ [] → (∀ p ∈ ps, 32 ∉ p ∧ p ≠ []) → Said (cs ++ (b ++ TL.joinL b ps)) (ws ++ ps)
  | [], _, _, _, h, _ => absurd rfl h
  | [p], cs, ws, h, _, hp => h.word hb hb0 (hp p List.mem_cons_self).1 (hp p List.mem_cons_self).2
  | p :: q :: ps, cs, ws, h, _, hp => by
    have h1 := h.word hb hb0 (hp p List.mem_cons_self).1 (hp p List.mem_cons_self).2
    have h2 := Said.join (ps := q :: ps) hb hb0 h1 (by simp) fun x hx => hp x (List.mem_cons_of_mem _ hx)
    rw [List.append_assoc, List.append_assoc] at h2
    rw [List.append_assoc] at h2
    exact h2
theorem joinL_len {b : List Nat} (hb : b.length ≤ 3) : ∀ {ps : List (List Nat)}, (∀ p ∈ ps, p.length ≤ 8) → (TL.joinL b ps).length ≤ 11 * ps.length
  | [], _ => Nat.zero_le _
  | [p], h => by
    have := h p List.mem_cons_self
    show p.length ≤ 11 * 1
    omega
  | p :: q :: ps, h => by
    have h1 := h p List.mem_cons_self
    have h2 := joinL_len hb (ps := q :: ps) fun x hx => h x (List.mem_cons_of_mem _ hx)
    show (p ++ (b ++ TL.joinL b (q :: ps))).length ≤ _
    rw [List.length_append, List.length_append]
    simp only [List.length_cons] at h2 ⊢
    omega
theorem said_words {u : Str} {ws : Tx} (h : spw (TL.tl u) = ws.map TL.tl) : (Txt.split u " ").filter (fun w : Str => !decide (w = ("" : Str))) = ws := by
  refine TL.map_tl_inj ?_
  rw [← h]
  unfold spw
  have e := TL.split_spl u " " (by rw [tl_blank]; simp) (TL.kind_ok (by decide +kernel))
  rw [tl_blank] at e
  rw [← e, List.filter_map]
  congr 1
  refine List.filter_congr fun w _ => ?_
  show (!decide (w = "")) = !decide (TL.tl w = [])
  congr 1
  exact decide_eq_decide.mpr ⟨fun z => by rw [z]; exact tl_empty, fun z => TL.ext_tl (by rw [z, tl_empty])⟩
def cSaidW : List V → Hp → Addr → Nat → RP → Prop := fun vs H r n R => ∃ (vl : V) (ρ : List Ph), vs = [.ref r, vl] ∧ isLr r (ρ.map eP) vl H ∧ (∀ p ∈ ρ, TxOk p.1) ∧ 1 ≤ ρ.length ∧ ρ.length ≤ 5 ∧ n = 6 ∧ R = fun v _ => ∃ u : Str, v = .str u ∧ u.length ≤ 40000 ∧ (Txt.split u " ").filter (fun w : Str => !decide (w = ("" : Str))) = ρ.flatMap (·.1)
section
variable {T : List Tab} {r L : Addr} {K : PySem.W.Frag} {σ : L2.St} {H H' : Hp} {n m i : Nat} {te ta tb tc : TE} {d e : D} {ds es : List D} {ws : Tx} {v : V}
/-- s[lo:], lo drawn -/
theorem d_slS {z : Str} (ha : ∀ H1, Ext T [r] H H1 → EvR T ta σ H1 (isT (.text z))) (hh : EvD T r L n tb σ H (isN m)) (hz : z.length ≤ 100000) : EvD T r L n (tSl rSlS ta (tPart tb) tNoPart) σ H (fun v H' => ∃ j : Nat, j < m ∧ v = .str (cutS z (some (j : Int)) none)) := fun k H1 a rd hk Q q =>
  (ha H1 a).run fun u H2 x2 p2 => hh k H2 (a.trans x2.wide) (rd.ext x2) hk _ fun w H3 x3 rd3 p => by
    obtain rfl := p2.str_inv
    obtain ⟨j, hj, rfl⟩ := p
    exact ⟨(j : Int), rfl, z, rfl, sz hz, q _ H3 (x2.wide.trans x3) rd3 ⟨j, hj, rfl⟩⟩
end
section
variable {T : List Tab} {P : Program} {w : World} {K : PySem.W.Frag} {mg : Str → Option Value} {base : Heap}
theorem ok_law_said {f : Addr} {fd : FuncData} (F : Fun K "_law_said" "_law_said" S_law_said f fd) (G : Gm mg) (A_law_draw : At P w K mg base 2 "_law_draw" P_law_draw (SpD T cDraw)) : FnOk P w K mg base CX0 3 f fd P_law_said (SpD T cSaidW) := by
  refine F.ok sc_law_said (fun vs H Q E h => ?_) (fun cdv A outer s H vs Q E hr h => ?_)
  · obtain ⟨_, _, _, _, _, ⟨_, _, rfl, _⟩, _⟩ := h
    rfl
  · obtain ⟨r, L, k, n, R, ⟨vl, ρ, rfl, hl, hok, hn1, hn2, rfl, rfl⟩, hR, hk, q⟩ := h
    refine ⟨_, (pss_cons (ps_set (i := 2) sc_law_said.nd rfl (Or.inl rfl) pe_str)
    (pss_cons (ps_for PassesOwn.never rfl (pi_listK (K := K) rfl (pv 1)) (pg_name (i := 3) sc_law_said.nd rfl (Or.inl rfl))
      (pss_cons (ps_set (i := 4) sc_law_said.nd rfl (Or.inl rfl) (pe_ix (ixT (K := K) rfl) (pe_tup (pa_cons pe_str (pa_cons pe_str (pa_cons pe_str (pa_cons pe_str pa_nil))))) (pe_fn A_law_draw (hr.mono (by decide)) (pa_cons (pv 0) (pa_cons pe_int pa_nil))) (fun _ _ => rfl)))
      (pss_one (ps_set (i := 2) sc_law_said.nd rfl (Or.inl rfl) (pe_op op_add_str (pe_op op_add_str (pv 2) (pv 4)) (joinK (K := K) rfl (pv 4) (px_split (pe_ix (ixT (K := K) rfl) (pv 3) pe_int (fun _ _ => rfl)) pe_str)))))))
    (pss_one (ps_ret (pe_slice sl_str (pv 2) (po_some (pe_fn A_law_draw (hr.mono (by decide)) (pa_cons (pv 0) (pa_cons pe_int pa_nil)))) po_none))))), ?_⟩
    refine s_seq (s_asg (T := T) (e_str (x := "")) fun v1 H1 x1 r1 => ?_)
    obtain rfl := r1.str_inv
    have hR1 := hR.ext x1
    dsimp only
    refine s_seq (f_list (T := T) (ds := ρ.map eP) (R := isV vl) (e_v rfl) fun v2 H2 x2 e2 => ?_)
    obtain rfl : v2 = vl := e2
    have x12 := x1.trans x2
    obtain ⟨ll, lvs, rfl, nlr, hll, hld⟩ := id hl
    refine ⟨ll, lvs, rfl, x12.lst hll (by simp), hld.mono x12.tup, [r], fun i σ' H' => ∃ (z3 z4 : Option V) (u : Str), σ' = [some (.ref r), some (.ref ll), some (.str u), z3, z4] ∧ Ext T [r] H2 H' ∧ Rdr r L (k + i) H' ∧ Said (TL.tl u) (((ρ.take i).flatMap (·.1)).map TL.tl) ∧ (TL.tl u).length ≤ 100 * i ∧ (1 ≤ i → ∃ r', TL.tl u = 32 :: r'), by simpa using nlr,
      ⟨none, none, "", rfl, Ext.refl _, (hR1.ext x2).mono (by omega), ?_, ?_, fun h => absurd h (by decide)⟩, fun i σ' H' hP => ?_, fun i d x σ' H' hd hx hP => ?_, fun σ' H' hP => ?_⟩
    · rw [tl_empty]
      exact Said.nil
    · rw [tl_empty]
      decide
    · obtain ⟨_, _, _, _, e, _⟩ := hP
      exact e
    · obtain ⟨z3, z4, u, rfl, e, rd, hsaid, hul, hu32⟩ := hP
      rw [List.getElem?_map] at hd
      obtain ⟨p, hdp, rfl⟩ := Option.map_eq_some_iff.mp hd
      have hi : i < ρ.length := (List.getElem?_eq_some_iff.mp hdp).1
      have hpok := hok p (List.mem_of_getElem? hdp)
      dsimp only
      refine s_seq (sd_asg (T := T) (r := r) (L := L) (n := 1) (R := fun v _ => ∃ b : Str, v = .str b ∧ (∀ c ∈ TL.tl b, c = 32) ∧ TL.tl b ≠ [] ∧ (TL.tl b).length ≤ 3) (EvD.imp (d_pick (m := 4) (ds := [.text " ", .text " ", .text "  ", .text "   "]) (fun H2 x2 => e_tup (a_cons e_str (a_cons e_str (a_cons e_str (a_one e_str)))) (by decide)) (d_draw rfl (fun _ _ => e_int) (by decide) (by decide)) rfl) fun v H2 _ p => ?_) rd (by omega) fun v5 H5 x5 hR5 r5 => ?_)
      · obtain ⟨d, hd, p⟩ := p
        simp only [List.mem_cons, List.not_mem_nil, or_false] at hd
        rcases hd with rfl | rfl | rfl | rfl
        · exact ⟨_, p.str_inv, by decide +kernel, by decide +kernel, by decide +kernel⟩
        · exact ⟨_, p.str_inv, by decide +kernel, by decide +kernel, by decide +kernel⟩
        · exact ⟨_, p.str_inv, by decide +kernel, by decide +kernel, by decide +kernel⟩
        · exact ⟨_, p.str_inv, by decide +kernel, by decide +kernel, by decide +kernel⟩
      obtain ⟨b, rfl, hb32, hb0, hb3⟩ := r5
      have hjl := joinW_len hpok.ok
      have hp6 := hpok.len
      have hlen : (Txt.join b p.1).length ≤ 66 := by
        have := joinL_len hb3 (ps := p.1.map TL.tl) fun x hx => by
          obtain ⟨w, hw, rfl⟩ := List.mem_map.mp hx
          rw [← TL.len_tl]
          exact (hpok.ok w hw).2.1
        rw [List.length_map] at this
        rw [TL.join_eq, TL.len_tl, TL.tl_join]
        omega
      dsimp only
      have hul' : u.length ≤ 100 * i := by rw [TL.len_tl]; exact hul
      have hbl : b.length ≤ 3 := by rw [TL.len_tl]; exact hb3
      have hubl : (u ++ b).length ≤ 100 * i + 3 := by rw [TL.len_tl, TL.tl_append, List.length_append]; omega
      refine s_asg (T := T) (R := isT (.text (u ++ b ++ Txt.join b p.1))) (e_sAdd (e_sAdd (e_t rfl (.str u)) (e_t rfl (.str b)) (by omega)) (e_joinL (ws := p.1) (e_t rfl (.str b)) (EvR.imp (e_split (x := joinW p.1) (e_ix (i := 0) (e_t rfl (x5.isT hx)) e_int rfl) e_str (by decide +kernel) (by omega)) fun v H6 x6 r => ?_) ?_) (by omega)) fun v6 H6 x6 r6 => ?_
      · rw [split_joinW hpok.ne hpok.ok] at r
        exact r.l
      · have h1 := sum_le (L := 8) fun x hx => (hpok.ok x hx).2.1
        have h2 : p.1.length * b.length ≤ 6 * 3 := Nat.mul_le_mul hp6 hbl
        omega
      · obtain rfl := r6.str_inv
        have etl : TL.tl (u ++ b ++ Txt.join b p.1) = TL.tl u ++ (TL.tl b ++ TL.joinL (TL.tl b) (p.1.map TL.tl)) := by
          rw [TL.tl_append, TL.tl_append, TL.join_eq, TL.tl_join, List.append_assoc]
        have htk : ρ.take (i + 1) = ρ.take i ++ [p] := by rw [List.take_add_one, hdp]; rfl
        refine ⟨_, _, _, rfl, (e.trans x5).trans x6.wide, (hR5.ext x6).mono (by omega), ?_, ?_, fun _ => ?_⟩
        · rw [etl, htk, List.flatMap_append, List.map_append, List.flatMap_cons, List.flatMap_nil, List.append_nil]
          refine hsaid.join hb32 hb0 (fun z => hpok.ne (List.map_eq_nil_iff.mp z)) fun x hx => ?_
          obtain ⟨w, hw, rfl⟩ := List.mem_map.mp hx
          refine ⟨(hpok.ok w hw).blank, fun z => ?_⟩
          have := (hpok.ok w hw).1
          rw [TL.len_tl, z] at this
          exact absurd this (by decide)
        · rw [← TL.len_tl]
          rw [TL.len_tl, TL.tl_append, List.length_append, ← TL.len_tl, ← TL.len_tl]
          omega
        · rw [etl]
          by_cases h : 1 ≤ i
          · obtain ⟨r', e'⟩ := hu32 h
            rw [e']
            exact ⟨_, rfl⟩
          · have : (TL.tl u) = [] := List.length_eq_zero_iff.mp (by omega)
            rw [this]
            cases hq : TL.tl b with
            | nil => exact absurd hq hb0
            | cons c b' =>
              have := hb32 c (by rw [hq]; exact List.mem_cons_self)
              rw [this]
              exact ⟨_, rfl⟩
    · obtain ⟨z3, z4, u, rfl, e, rd, hsaid, hul, hu32⟩ := hP
      rw [List.length_map] at hsaid hul hu32 rd
      rw [List.take_length] at hsaid
      have hul' : u.length ≤ 100 * ρ.length := by rw [TL.len_tl]; exact hul
      dsimp only
      refine sd_ret (T := T) (r := r) (L := L) (n := 1) (d_slS (m := 2) (fun H3 x3 => e_t rfl (.str u)) (d_draw rfl (fun _ _ => e_int) (by decide) (by decide)) (by omega)) rd (by omega) fun v5 H5 x5 hR5 r5 => ?_
      obtain ⟨j, hj, rfl⟩ := r5
      have hcut : TL.tl (cutS u (some (j : Int)) none) = (TL.tl u).drop j := by
        have := cutS_from (TL.tl u) j
        rw [show mkS (TL.tl u) = u from TL.mk_tl u] at this
        rw [this, TL.tl_mk]
      refine q _ H5 ((x12.wide.trans e).trans x5) (hR5.mono (by omega)) ⟨_, rfl, ?_, said_words ?_⟩
      · rw [TL.len_tl, hcut, List.length_drop]
        omega
      · have h0 := hsaid [] (.inl rfl)
        rw [List.append_nil, spw_nil, List.append_nil] at h0
        rw [hcut, ← h0]
        have hj2 : j = 0 ∨ j = 1 := by omega
        rcases hj2 with rfl | rfl
        · rw [List.drop_zero]
        · obtain ⟨r', e'⟩ := hu32 hn1
          rw [e']
          exact (spw_blank r').symm
end
end Sf

set_option Elab.async false
set_option linter.all false
set_option maxRecDepth 100000
set_option maxHeartbeats 4000000
/-! _law_same: it calls itself. -/
namespace Sf
open PySem L2 LamX
abbrev S_law_same : Stmt := topS 63
abbrev N_law_same : List Str := ["_law_actual", "_law_due", "_law_k"]
abbrev P_law_same : List Str := ["_law_actual", "_law_due"]
theorem sc_law_same : FnScope N_law_same P_law_same (defScope S_law_same) := ⟨rfl, rfl, rfl, by decide +kernel, rfl, by decide +kernel, by decide +kernel⟩
/-- trees of texts, at most n deep -/
def TTn : Nat → D → Prop
  | 0, d => ∃ x, d = .text x
  | n + 1, d => (∃ x, d = .text x) ∨ ∃ ds : List D, d = .tup ds ∧ ds.length ≤ 1000 ∧ ∀ e ∈ ds, TTn n e
def cSame (n : Nat) : List V → Hp → RP → Prop := fun vs H R => ∃ (v1 v2 : V) (d : D), vs = [v1, v2] ∧ IsD H v1 d ∧ IsD H v2 d ∧ TTn n d ∧ R = isB true
theorem kTS : kitB "tuple" "str" = some false := by decide +kernel
section
variable {T : List Tab} {K : PySem.W.Frag} {σ : L2.St} {H H' : Hp} {te ta tb tc tl : TE} {tt : TT} {i n : Nat} {vs : List Nat}
/-- [.. for i in range(n) if ..] -/
theorem c_rng {RE : Nat → RP} (m : Stable RE) (h : EvR T ta σ H (isT (.num (n : Int)))) (hz : n ≤ 50000) (p : Nat → Bool) (hw : ∀ x, wipe ((wipe σ vs).set i (some x)) vs = wipe σ vs)
    (ht : ∀ j, j < n → ∀ H1, Ext T [] H H1 → EvT T tt ((wipe σ vs).set i (some (.int (j : Nat)))) H1 (p j)) (hs : ∀ j, j < n → ∀ H1, Ext T [] H H1 → p j = true → EvR T te ((wipe σ vs).set i (some (.int (j : Nat)))) H1 (RE j)) :
    EvR T (tLc (iRng1 (tCons ta tNil)) (gName i) tt te vs) σ H (isEach RE H ((List.range n).filter p)) := fun H1 xa Q q => h H1 xa _ fun v H2 x2 r => by
  obtain rfl := r.int_inv
  refine ⟨(n : Int), rfl, by omega, by omega, ?_⟩
  have e : ((n : Int)).toNat = n := by simp
  rw [e]
  intro L hL
  refine lc_range (lo := 0) (n := n) (fun j H' => ∃ acc, Ext T [] H2 H' ∧ H' L = some (.lst acc) ∧ Each RE H' acc (((List.range n).take j).filter p)) ⟨[], Ext.new hL, upd_same, by simp only [List.take_zero, List.filter_nil]; exact .nil⟩ (fun j H' hj hp => ?_) fun H' hp => ?_
  · obtain ⟨acc, e, hacc, hE⟩ := hp
    rw [Int.zero_add]
    exact ⟨hw _, c_turn (vs := vs) m hL e hacc hE (by rw [List.length_range]; exact hz) (List.getElem?_range hj) (ht j hj H' ((xa.trans x2).trans e)) (hs j hj H' ((xa.trans x2).trans e))⟩
  · obtain ⟨acc, e, hacc, hE⟩ := hp
    rw [List.take_of_length_le (by rw [List.length_range]; exact Nat.le_refl _)] at hE
    exact q _ H' (x2.trans e) ⟨L, acc, rfl, xa.free _ (x2.free _ hL), hacc, hE⟩
end
section
variable {T : List Tab} {P : Program} {w : World} {K : PySem.W.Frag} {mg : Str → Option Value} {base : Heap}
theorem same_text {σ : L2.St} {H : Hp} {tx : TS} {E : Ends} {v1 v2 : V} {x : Str} {tu : TS} (h1 : v1 = .str x) (h2 : v2 = .str x) (hs0 : σ[0]? = some (some v1)) (hs1 : σ[1]? = some (some v2)) (q : ∀ v H', Ext T [] H H' → isB true v H' → E.rt v H') :
    tSeq (tIfS (tTest (tIsN (tVar 1))) tu tNext) (tSeq (tIfS (tB (tCB (rIsi K) (tCons (tVar 1) (tCons (tC (.ty "str")) tNil)))) (tRet (tAndV (tCB (rIsi K) (tCons (tVar 0) (tCons (tC (.ty "str")) tNil))) (tOp rEq (tVar 0) (tVar 1)))) tNext) tx) E σ H := by
  subst h1 h2
  refine s_seq (s_no (T := T) ((t_test (e_isN (e_v hs1))).eq (decide_eq_false fun z => nomatch z)) fun H2 x2 => ?_)
  refine s_seq (s_if (T := T) (b := true) (t_b (e_isi (b := true) (e_t hs1 (.str x)) e_c kSS)) (fun _ H3 x3 => ?_) fun z => nomatch z)
  refine s_ret (T := T) ((e_andV (b := true) (c := true) (e_isi (b := true) (e_t hs0 (.str x)) e_c kSS) fun _ => (e_eqS (e_t hs0 (.str x)) (e_t hs1 (.str x))).eqB (decide_eq_true rfl)).eqB rfl) fun v H4 x4 r => q v H4 ((x2.trans x3).trans x4) r
theorem ok_law_same0 {f : Addr} {fd : FuncData} (F : Fun K "_law_same" "_law_same" S_law_same f fd) (G : Gm mg) : FnOk P w K mg base CX0 1 f fd P_law_same (SpP T (cSame 0)) := by
  refine F.ok sc_law_same (fun vs H Q E h => ?_) (fun cdv A outer s H vs Q E hr h => ?_)
  · obtain ⟨R, ⟨_, _, _, rfl, _⟩, _⟩ := h
    rfl
  · obtain ⟨R, ⟨v1, v2, d, rfl, h1, h2, ⟨x, rfl⟩, rfl⟩, q⟩ := h
    refine ⟨_, (pss_cons (ps_if (pt_cmp (pc_isN (pv 1)))
      (pss_one ps_never)
      pss_nil)
    (pss_cons (ps_if (pt_val (pe_callB (isiK (K := K) rfl) (by rfl) G.n_isinstance (by decide +kernel) (pa_cons (pv 1) (pa_cons (pe_ty G.n_str PyProof.Rows.boot_str) pa_nil))))
      (pss_one (ps_ret (pe_and (pe_callB (isiK (K := K) rfl) (by rfl) G.n_isinstance (by decide +kernel) (pa_cons (pv 0) (pa_cons (pe_ty G.n_str PyProof.Rows.boot_str) pa_nil))) (pe_one (pe_cmpR op_eq (pv 0) (pv 1) (nomark _))))))
      pss_nil) (pss_cons ps_never (pss_cons ps_never (pss_one ps_never))))), ?_⟩
    exact same_text (T := T) (K := K) h1.str_inv h2.str_inv rfl rfl fun v H' x r => q v H' x r
theorem ok_law_same1 {n : Nat} {f : Addr} {fd : FuncData} (F : Fun K "_law_same" "_law_same" S_law_same f fd) (G : Gm mg) (A_law_same : At P w K mg base (n + 1) "_law_same" P_law_same (SpP T (cSame n))) : FnOk P w K mg base CX0 (n + 2) f fd P_law_same (SpP T (cSame (n + 1))) := by
  refine F.ok sc_law_same (fun vs H Q E h => ?_) (fun cdv A outer s H vs Q E hr h => ?_)
  · obtain ⟨R, ⟨_, _, _, rfl, _⟩, _⟩ := h
    rfl
  · obtain ⟨R, ⟨v1, v2, d, rfl, h1, h2, ⟨x, rfl⟩ | ⟨ds, rfl, hz, hds⟩, rfl⟩, q⟩ := h
    · refine ⟨_, (pss_cons (ps_if (pt_cmp (pc_isN (pv 1)))
      (pss_one ps_never)
      pss_nil)
    (pss_cons (ps_if (pt_val (pe_callB (isiK (K := K) rfl) (by rfl) G.n_isinstance (by decide +kernel) (pa_cons (pv 1) (pa_cons (pe_ty G.n_str PyProof.Rows.boot_str) pa_nil))))
      (pss_one (ps_ret (pe_and (pe_callB (isiK (K := K) rfl) (by rfl) G.n_isinstance (by decide +kernel) (pa_cons (pv 0) (pa_cons (pe_ty G.n_str PyProof.Rows.boot_str) pa_nil))) (pe_one (pe_cmpR op_eq (pv 0) (pv 1) (nomark _))))))
      pss_nil) (pss_cons ps_never (pss_cons ps_never (pss_one ps_never))))), ?_⟩
      exact same_text (T := T) (K := K) h1.str_inv h2.str_inv rfl rfl fun v H' x r => q v H' x r
    · refine ⟨_, (pss_cons (ps_if (pt_cmp (pc_isN (pv 1)))
      (pss_one (ps_ret (pe_cmp (pc_isN (pv 0)) rfl)))
      pss_nil)
    (pss_cons (ps_if (pt_val (pe_callB (isiK (K := K) rfl) (by rfl) G.n_isinstance (by decide +kernel) (pa_cons (pv 1) (pa_cons (pe_ty G.n_str PyProof.Rows.boot_str) pa_nil))))
      (pss_one (ps_ret (pe_and (pe_callB (isiK (K := K) rfl) (by rfl) G.n_isinstance (by decide +kernel) (pa_cons (pv 0) (pa_cons (pe_ty G.n_str PyProof.Rows.boot_str) pa_nil))) (pe_one (pe_cmpR (op_eqN hr.units) (pv 0) (pv 1) (nomark _))))))
      pss_nil)
    (pss_cons (ps_if (pt_not (pt_val (pe_callB (isiK (K := K) rfl) (by rfl) G.n_isinstance (by decide +kernel) (pa_cons (pv 1) (pa_cons (pe_ty G.n_tuple PyProof.Rows.boot_tuple) pa_nil)))))
      (pss_one (ps_ret (pe_and (pe_callB (isiK (K := K) rfl) (by rfl) G.n_isinstance (by decide +kernel) (pa_cons (pv 0) (pa_cons (pe_ty G.n_int PyProof.Rows.boot_int) pa_nil))) (pe_and (pe_not (pe_callB (isiK (K := K) rfl) (by rfl) G.n_isinstance (by decide +kernel) (pa_cons (pv 0) (pa_cons (pe_ty G.n_bool PyProof.Rows.boot_bool) pa_nil)))) (pe_one (pe_cmpR (op_eqN hr.units) (pv 0) (pv 1) (nomark _)))))))
      pss_nil)
    (pss_cons (ps_if (PW.pt (pw_or (pt_not (pt_val (pe_callB (isiK (K := K) rfl) (by rfl) G.n_isinstance (by decide +kernel) (pa_cons (pv 0) (pa_cons (pe_ty G.n_tuple PyProof.Rows.boot_tuple) pa_nil))))) (pw_or1 (pt_cmpR op_ne (pe_callB (lenK (K := K) rfl) (by rfl) G.n_len PySem.boot_len (pa_cons (pv 0) pa_nil)) (pe_callB (lenK (K := K) rfl) (by rfl) G.n_len PySem.boot_len (pa_cons (pv 1) pa_nil)) (nomark _)))))
      (pss_one (ps_ret pe_bl))
      pss_nil)
    (pss_one (ps_ret (pe_callB (allK (K := K) rfl rfl) (by rfl) G.n_all (by decide +kernel) (pa_cons (pe_lc (own := [("_law_k", 2)]) rfl sc_law_same.nd (pi_range1 rfl G.n_range (pa_cons (pe_callB (lenK (K := K) rfl) (by rfl) G.n_len PySem.boot_len (pa_cons (pv 1) pa_nil)) pa_nil)) (blkOk_by (own := [("_law_k", 2)]) (N := N_law_same) (sc := defScope S_law_same) (by decide +kernel)) (fun _ _ _ _ _ => by exact (pg_name (i := 2) sc_law_same.nd rfl (Or.inl rfl) (Or.inr rfl))) (fun _ _ _ _ _ => by exact pts_nil) (fun _ _ _ _ _ => by exact (pe_fn A_law_same (hr.mono (by omega)) (pa_cons (pe_ix (ixT (K := K) rfl) (pv 0) (pv 2) (fun _ _ => rfl)) (pa_cons (pe_ix (ixT (K := K) rfl) (pv 1) (pv 2) (fun _ _ => rfl)) pa_nil))))) pa_nil)))))))), ?_⟩
      have hne : v2 ≠ .non := by
        obtain ⟨a, vs, rfl, _⟩ := h2.tup_inv
        exact fun z => nomatch z
      refine s_seq (s_no (T := T) ((t_test (e_isN (e_v rfl))).eq (decide_eq_false hne)) fun H2 x2 => ?_)
      refine s_seq (s_no (T := T) (t_b (e_isi (b := false) (e_t rfl (x2.isT h2)) e_c kTS)) fun H3 x3 => ?_)
      have x23 := x2.trans x3
      refine s_seq (s_no (T := T) ((t_not (t_b (e_isi (b := true) (e_t rfl (x23.isT h2)) e_c kTT))).eq rfl) fun H4 x4 => ?_)
      have x24 := x23.trans x4
      refine s_seq (s_no (T := T) ((t_or (b := false) (c := false) ((t_not (t_b (e_isi (b := true) (e_t rfl (x24.isT h1)) e_c kTT))).eq rfl) fun _ => (t_test ((e_neI (e_len (e_t rfl (x24.isT h1))) (e_len (e_t rfl (x24.isT h2)))).eqB (by simp)))).eq rfl) fun H5 x5 => ?_)
      have x25 := x24.trans x5
      refine s_ret (T := T) (e_true (e_all (f := fun _ => true) (c_rng (n := ds.length) (RE := fun _ => isB true) (stB (f := fun _ => true)) (e_len (e_t rfl (x25.isT h2))) (by omega) (fun _ => true) (fun _ => rfl) (fun j hj H6 x6 => t_yes) fun j hj H6 x6 _ => ?_)) (by simp)) fun v H6 x6 r => q v H6 (x25.trans x6) r
      have hget := List.getElem?_eq_getElem hj
      have x26 := x25.trans x6
      refine e_fn (a_cons (e_ix (i := j) (e_t rfl (x26.isT h1)) (e_t rfl (.int _)) hget) (a_one (e_ix (i := j) (e_t rfl (x26.isT h2)) (e_t rfl (.int _)) hget))) fun vs H7 x7 hv => ?_
      cases hv with
      | cons a hv =>
        cases hv with
        | cons b hv =>
          cases hv
          exact ⟨_, ⟨_, _, ds[j], rfl, a, b, hds _ (List.getElem_mem hj), rfl⟩, fun _ _ r => r⟩
end
end Sf

set_option Elab.async false
set_option linter.all false
set_option maxRecDepth 100000
set_option maxHeartbeats 4000000
/-! _law_own_readings. -/
namespace Sf
open PySem L2 LamX
abbrev S_law_own_readings : Stmt := topS 68
abbrev N_law_own_readings : List Str := ["_law_reader_here", "_law_sheet_here", "_law_pairs_here", "_law_turn", "_law_row", "_law_k", "_law_due", "_law_pair"]
abbrev P_law_own_readings : List Str := ["_law_reader_here", "_law_sheet_here", "_law_pairs_here"]
theorem sc_law_own_readings : FnScope N_law_own_readings P_law_own_readings (defScope S_law_own_readings) := ⟨rfl, rfl, rfl, by decide +kernel, rfl, by decide +kernel, by decide +kernel⟩
/-- no two rows of the phrases run together to the same -/
def UD (ps : List Ph) : Prop := ∀ ρ ρ' : List Ph, (∀ p ∈ ρ, p ∈ ps) → (∀ p ∈ ρ', p ∈ ps) → ρ.flatMap (·.1) = ρ'.flatMap (·.1) → ρ = ρ'
theorem UD.few {ps : List Ph} (h : UD ps) {ws : Tx} {l : List (List Tx)} (hn : l.Nodup) (hl : ∀ x ∈ l, ∃ ρ, Prs ps ws ρ ∧ acts ρ = x) : l.length ≤ 200 := by
  have h1 : ∀ x ∈ l, ∀ y ∈ l, x = y := fun x hx y hy => by
    obtain ⟨ρ, p1, rfl⟩ := hl x hx
    obtain ⟨ρ', p2, rfl⟩ := hl y hy
    rw [h ρ ρ' p1.1 p2.1 (p1.2.trans p2.2.symm)]
  cases l with
  | nil => decide
  | cons a l =>
    cases l with
    | nil => show 1 ≤ 200; decide
    | cons b l =>
      have := h1 a (by simp) b (by simp)
      subst this
      simp at hn
theorem UD.one {ps : List Ph} (h : UD ps) {ρ : List Ph} (hρ : ∀ p ∈ ρ, p ∈ ps) {l : List (List Tx)} (hl : RS ps (ρ.flatMap (·.1)) 0 l) : l = [acts ρ] := by
  have h1 : ∀ x, x ∈ l ↔ x = acts ρ := fun x => by
    rw [hl.2 x, List.drop_zero]
    constructor
    · rintro ⟨ρ', p, rfl⟩
      rw [h ρ' ρ p.1 hρ p.2]
    · rintro rfl
      exact ⟨ρ, ⟨hρ, rfl⟩, rfl⟩
  have hn := hl.1
  cases l with
  | nil => exact absurd ((h1 (acts ρ)).mpr rfl) (by simp)
  | cons a l =>
    obtain rfl := (h1 a).mp List.mem_cons_self
    cases l with
    | nil => rfl
    | cons b l =>
      have := (h1 b).mp (by simp)
      subst this
      simp at hn
def cOwn (T : List Tab) (C : Addr) : List V → Hp → Addr → Nat → RP → Prop := fun vs H r n R => ∃ (v1 v2 : V) (fs : List Fd) (ps : List Ph), vs = [.ref r, v1, v2] ∧ isForm C fs v1 H ∧ IsD H v2 (ePs ps) ∧ OkPs fs ps ∧ (∀ p ∈ ps, TxOk p.1) ∧ UD ps ∧ Tabs T H ∧ n = 48 ∧ R = isB true
section
variable {T : List Tab} {r L : Addr} {K : PySem.W.Frag} {σ : L2.St} {H H' : Hp} {n m i k : Nat} {te ta tb tc : TE} {tu : TS} {d e : D} {ds es : List D} {ws : Tx} {v : V} {E : Ends}
/-- if not ..: never -/
theorem sd_not (h : EvD T r L n te σ H (isB true)) (hr : Rdr r L k H) (hk : k + n ≤ 1000000) (q : ∀ H1, Ext T [r] H H1 → Rdr r L (k + n) H1 → E.nx σ H1) : tIfS (tNot (tB te)) tu tNext E σ H := by
  refine h.run hr hk fun v H1 x rd p => ?_
  obtain rfl : v = _ := p
  exact ⟨true, rfl, q H1 x rd⟩
theorem Rdr.noForm {C : Addr} {fs : List Fd} (h : Rdr r L k H) (hf : isForm C fs v H) : ∀ a, v = .ref a → a ∉ [r] := by
  obtain ⟨is, a1, a2, a3, a4, a5, a6, h1, _⟩ := h
  obtain ⟨a, dx, kv, w, rfl, h2, _⟩ := hf
  rintro b e hb
  cases e
  rw [List.mem_singleton.mp hb, h1] at h2
  cases h2
theorem drawn_ps {ps : List Ph} : ∀ {ds : List D}, (∀ (i : Nat) d, ds[i]? = some d → d ∈ ps.map eP) → ∃ ρ : List Ph, ds = ρ.map eP ∧ ∀ p ∈ ρ, p ∈ ps
  | [], _ => ⟨[], rfl, (fun _ h => nomatch h)⟩
  | d :: ds, h => by
    obtain ⟨w, hw, rfl⟩ := List.mem_map.mp (h 0 d rfl)
    obtain ⟨us, rfl, h2⟩ := drawn_ps (ds := ds) fun i d hd => h (i + 1) d hd
    refine ⟨w :: us, rfl, fun x hx => ?_⟩
    rcases List.mem_cons.mp hx with rfl | hx
    · exact hw
    · exact h2 x hx
end
section
variable {T : List Tab} {P : Program} {w : World} {K : PySem.W.Frag} {mg : Str → Option Value} {base : Heap} {C : Addr}
theorem ok_law_own_readings {f : Addr} {fd : FuncData} (F : Fun K "_law_own_readings" "_law_own_readings" S_law_own_readings f fd) (G : Gm mg) (A_law_draw : At P w K mg base 2 "_law_draw" P_law_draw (SpD T cDraw)) (A_law_said : At P w K mg base 3 "_law_said" P_law_said (SpD T cSaidW))
    (A_meanings : At P w K mg base 6 "meanings" P_meanings (SpP T (cMeans T C))) (A_law_same : At P w K mg base 4 "_law_same" P_law_same (SpP T (cSame 3))) : FnOk P w K mg base CX0 7 f fd P_law_own_readings (SpD T (cOwn T C)) := by
  refine F.ok sc_law_own_readings (fun vs H Q E h => ?_) (fun cdv A outer s H vs Q E hr h => ?_)
  · obtain ⟨_, _, _, _, _, ⟨_, _, _, _, rfl, _⟩, _⟩ := h
    rfl
  · obtain ⟨r, L, k, n, R, ⟨v1, v2, fs, ps, rfl, h1, h2, hps, htx, hud, hT, rfl, rfl⟩, hR, hk, q⟩ := h
    refine ⟨_, (pss_cons (ps_for PassesOwn.never rfl (pi_range1 rfl G.n_range (pa_cons pe_int pa_nil)) (pg_name (i := 3) sc_law_own_readings.nd rfl (Or.inl rfl))
      (pss_cons (ps_setLc (i := 4) (own := [("_law_k", 5)]) rfl sc_law_own_readings.nd rfl rfl (sw_true rfl rfl rfl (by decide +kernel)) (pi_range1 rfl G.n_range (pa_cons (pe_op op_add pe_int (pe_fn A_law_draw (hr.mono (by decide)) (pa_cons (pv 0) (pa_cons pe_int pa_nil)))) pa_nil)) (blkOk_by (own := [("_law_k", 5)]) (N := N_law_own_readings) (sc := defScope S_law_own_readings) (by decide +kernel)) (fun _ _ _ _ _ => by exact (pg_name (i := 5) sc_law_own_readings.nd rfl (Or.inl rfl) (Or.inr rfl))) (fun _ _ _ _ _ => by exact pts_nil) (fun _ _ _ _ _ => by exact (pe_ix (ixT (K := K) rfl) (pv 2) (pe_fn A_law_draw (hr.mono (by decide)) (pa_cons (pv 0) (pa_cons (pe_callB (lenK (K := K) rfl) (by rfl) G.n_len PySem.boot_len (pa_cons (pv 2) pa_nil)) pa_nil))) (fun _ _ => rfl))))
      (pss_cons (ps_set (i := 6) sc_law_own_readings.nd rfl (Or.inl rfl) (pe_tup (pa_cons (pe_callTy (tupOfK (K := K) rfl) (by rfl) G.n_tuple (by decide +kernel) (pa_cons (pe_lc (own := [("_law_pair", 7)]) rfl sc_law_own_readings.nd (pi_listK (K := K) rfl (pv 4)) (blkOk_by (own := [("_law_pair", 7)]) (N := N_law_own_readings) (sc := defScope S_law_own_readings) (by decide +kernel)) (fun _ _ _ _ _ => by exact (pg_name (i := 7) sc_law_own_readings.nd rfl (Or.inl rfl) (Or.inr rfl))) (fun _ _ _ _ _ => by exact pts_nil) (fun _ _ _ _ _ => by exact (pe_ix (ixT (K := K) rfl) (pv 7) pe_int (fun _ _ => rfl)))) pa_nil)) pa_nil)))
      (pss_one (ps_if (pt_not (pt_val (pe_fn A_law_same (hr.mono (by decide)) (pa_cons (pe_fn A_meanings (hr.mono (by decide)) (pa_cons (pv 1) (pa_cons (pv 2) (pa_cons (pe_fn A_law_said (hr.mono (by decide)) (pa_cons (pv 0) (pa_cons (pv 4) pa_nil))) pa_nil)))) (pa_cons (pv 6) pa_nil)))))
        (pss_one (ps_ret pe_bl))
        pss_nil)))))
    (pss_one (ps_ret pe_bl))), ?_⟩
    have hhi := hps.hi
    have hlo := hps.lo
    have nf := hR.noForm h1
    refine s_seq (f_range (T := T) (n := 4) e_int (by decide) fun H1 x1 => ⟨fun i σ' H' => ∃ z3 z4 z5 z6 z7 : Option V, σ' = [some (.ref r), some v1, some v2, z3, z4, z5, z6, z7] ∧ Ext T [r] H H' ∧ Rdr r L (k + 12 * i) H', ⟨none, none, none, none, none, rfl, x1.wide, hR.ext x1⟩, fun i σ' H' hi hP => ?_, fun σ' H' hP => ?_⟩)
    · obtain ⟨z3, z4, z5, z6, z7, rfl, e, rd⟩ := hP
      have h2' := e.isT h2
      dsimp only
      refine s_seq (sd_asg (T := T) (r := r) (L := L) (n := 1 + 5 * 1) (R := fun v H'' => ∃ ρ : List Ph, 1 ≤ ρ.length ∧ ρ.length ≤ 5 ∧ (∀ p ∈ ρ, p ∈ ps) ∧ isLN H' (ρ.map eP) v H'') (EvD.imp (cd_range (i := 5) (b := 5) (j0 := 1) (Pd := fun _ d => d ∈ ps.map eP) (EvD.up (n := 0 + 1) (d_op (R1 := isT (.num 1)) (R2 := isN 5) (fun _ _ _ x p => x.isT p) (d_of fun _ _ => e_int) (d_draw rfl (fun _ _ => e_int) (by decide) (by decide)) fun u w H4 x4 p1 p2 => ?_) (by decide)) (by decide) (fun _ => rfl) fun j H2 hj x2 => ?_) fun v H2 x2 p => ?_) rd (by omega) fun v4 H4 x4 hR4 r4 => ?_)
      · obtain ⟨i, hi, rfl⟩ := p2
        exact (e_add (e_tC p1) (e_tC (.int i))).imp fun v H5 x5 p => ⟨1 + i, by omega, by omega, by rw [p.int_inv, Int.natCast_add]; rfl⟩
      · exact d_pick (m := ps.length) (ds := ps.map eP) (fun H3 x3 => e_t rfl (IsD.mono (x2.trans x3).tup h2')) (d_draw rfl (fun H3 x3 => (e_len (e_t rfl (IsD.mono (x2.trans x3).tup h2'))).eqT (by rw [List.length_map])) hlo (by omega)) (by rw [List.length_map])
      · obtain ⟨ds, hd1, hd2, hds, hl⟩ := p
        obtain ⟨ρ, rfl, hρ⟩ := drawn_ps hds
        rw [List.length_map] at hd1 hd2
        exact ⟨ρ, hd1, hd2, hρ, hl⟩
      obtain ⟨ρ, hρ1, hρ2, hρ, hl4⟩ := r4
      have hl4r := hl4.lr rd.some
      have e4 := e.trans x4
      dsimp only
      refine s_seq (s_asg (T := T) (R := isT (.tup [eR (acts ρ)])) (e_tup (a_one (e_tupOf (EvR.imp (c_lst (xs := ρ) (en := eP) (RE := fun p => isT (eT p.2)) stT (e_l rfl hl4.l) (by omega) (fun _ => true) fun d hd x H5 x5 hx Q k => ?_) fun v H5 x5 p => ?_))) (by show 1 ≤ 100000; decide)) fun v6 H6 x6 r6 => ?_)
      · exact k _ rfl t_yes fun _ => e_ix (i := 1) (e_t rfl hx) e_int rfl
      · rw [List.filter_eq_self.mpr fun _ _ => rfl] at p
        have p := (isEach.ln p).l
        rw [show (ρ.map fun p => eT p.2) = (acts ρ).map eT by rw [List.map_map]; rfl] at p
        exact p
      have hR6 := hR4.ext x6
      have e6 := e4.trans x6.wide
      have hl6 := hl4r.mono (x6.wide (ex := [r]))
      dsimp only
      have saidD : EvD T r L (0 + (0 + 0) + 6) (tCall (SpD T cSaidW) [] E0 (tCons (tVar 0) (tCons (tVar 4) tNil))) [some (.ref r), some v1, some v2, some (.int (i : Nat)), some v4, z5, some v6, z7] H6 (fun v _ => ∃ u : Str, v = .str u ∧ u.length ≤ 40000 ∧ (Txt.split u " ").filter (fun w : Str => !decide (w = ("" : Str))) = ρ.flatMap (·.1)) := d_call (m := 6) (da_cons (R := isV (.ref r)) (fun _ _ _ _ p => p) (d_of fun _ _ => e_v rfl) (da_cons (R := isLr r (ρ.map eP)) (fun _ _ _ x p => p.mono x) (d_of fun H7 x7 => e_var rfl (hl6.mono x7) fun _ x p => p.mono x.wide) da_nil)) fun vs H7 x7 hr7 hp => by
        obtain ⟨v, us, rfl, hv, w, us, rfl, hw, rfl⟩ := hp
        obtain rfl : v = .ref r := hv
        exact ⟨_, ⟨_, ρ, rfl, hw, fun p hp => htx p (hρ p hp), hρ1, hρ2, rfl, rfl⟩, fun _ _ p => p⟩
      have meanD : EvD T r L (0 + (0 + (0 + (0 + 0) + 6 + 0))) (tCall (SpP T (cMeans T C)) [] E0 (tCons (tVar 1) (tCons (tVar 2) (tCons (tCall (SpD T cSaidW) [] E0 (tCons (tVar 0) (tCons (tVar 4) tNil))) tNil)))) [some (.ref r), some v1, some v2, some (.int (i : Nat)), some v4, z5, some v6, z7] H6 (isT (.tup [eR (acts ρ)])) := d_fn (da_cons (R := fun v H' => v = v1 ∧ isForm C fs v H') (fun v H7 H8 x7 p => ⟨p.1, p.2.mono x7 (p.1 ▸ nf)⟩) (d_of fun H7 x7 => e_var rfl ⟨rfl, h1.mono (e6.trans x7) nf⟩ fun _ x p => ⟨p.1, p.2.mono x (fun _ _ => by simp)⟩) (da_cons (R := isT (ePs ps)) (fun _ _ _ x p => x.isT p) (d_of fun H7 x7 => e_t rfl ((e6.trans x7).isT h2)) (da_cons (fun _ _ _ _ p => p) saidD da_nil))) fun vs H7 x7 hp => by
        obtain ⟨v, us, rfl, ⟨_, hv⟩, w, us, rfl, hw, y, us, rfl, ⟨u, rfl, hu1, hu2⟩, rfl⟩ := hp
        refine ⟨_, ⟨_, _, u, fs, ps, _, rfl, hv, hw, hps, hu1, hu2, ?_, fun n _ l hn hl => hud.few hn hl, (e6.trans x7).tabs hT, rfl⟩, fun v H8 p => ?_⟩
        · have h6 : ∀ {ρ : List Ph}, (∀ p ∈ ρ, p ∈ ps) → (ρ.flatMap (·.1)).length ≤ 6 * ρ.length := fun {ρ} => by
            induction ρ with
            | nil => intro _; exact Nat.le_refl _
            | cons a ρ ih =>
              intro h
              have := ih fun p hp => h p (List.mem_cons_of_mem _ hp)
              have h7 := (htx a (h a List.mem_cons_self)).len
              rw [List.flatMap_cons, List.length_append, List.length_cons]
              omega
          have := h6 hρ
          omega
        · obtain ⟨l, p1, p2⟩ := p
          rw [hud.one hρ p2] at p1
          exact p1
      refine sd_not (T := T) (r := r) (L := L) (n := 0 + (0 + (0 + (0 + 0) + 6 + 0)) + (0 + 0)) (d_fn (da_cons (R := isT (.tup [eR (acts ρ)])) (fun _ _ _ x p => x.isT p) meanD (da_cons (R := isT (.tup [eR (acts ρ)])) (fun _ _ _ x p => x.isT p) (d_of fun H7 x7 => e_t rfl (x7.isT r6)) da_nil)) fun vs H7 x7 hp => ?_) hR6 (by omega) fun H7 x7 hR7 => ⟨_, _, _, _, _, rfl, e6.trans x7, hR7.mono (by omega)⟩
      obtain ⟨v, us, rfl, hv, w, us, rfl, hw, rfl⟩ := hp
      refine ⟨_, ⟨_, _, _, rfl, hv, hw, .inr ⟨_, rfl, by show 1 ≤ 1000; decide, fun e he => ?_⟩, rfl⟩, fun _ _ p => p⟩
      rw [List.mem_singleton.mp he]
      refine .inr ⟨_, rfl, by rw [List.length_map, List.length_map]; omega, fun e he => ?_⟩
      obtain ⟨t, ht, rfl⟩ := List.mem_map.mp he
      obtain ⟨p, hp, rfl⟩ := List.mem_map.mp ht
      refine .inr ⟨_, rfl, ?_, fun e he => ?_⟩
      · rw [List.length_map]
        have := (hps.ok p (hρ p hp)).act
        rcases this with h | h | ⟨_, _, _, h⟩ | ⟨_, _, _, _, _, h | h⟩ <;> rw [h] <;> simp
      · obtain ⟨x, _, rfl⟩ := List.mem_map.mp he
        exact ⟨x, rfl⟩
    · obtain ⟨z3, z4, z5, z6, z7, rfl, e, rd⟩ := hP
      dsimp only
      refine s_ret (T := T) (R := isB true) e_bl fun v H2 x2 r2 => q v H2 (e.trans x2.wide) ((rd.ext x2).mono (by omega)) r2
end
end Sf

set_option Elab.async false
set_option linter.all false
set_option maxRecDepth 100000
set_option maxHeartbeats 4000000
/-! _law_makes; calls with keywords alone. -/
namespace Sf
open PySem L2 LamX
abbrev S_law_makes : Stmt := topS 69
abbrev N_law_makes : List Str := ["_law_pairs_here", "_law_acts", "_law_words", "_law_left", "_law_act", "_law_texts_here", "_law_pair", "_law_behind", "_law_rest", "_law_text", "_law_k"]
abbrev P_law_makes : List Str := ["_law_pairs_here", "_law_acts", "_law_words"]
theorem sc_law_makes : FnScope N_law_makes P_law_makes (defScope S_law_makes) := ⟨rfl, rfl, rfl, by decide +kernel, rfl, by decide +kernel, by decide +kernel⟩
section
variable {X : Cx} {CX : CXT} {k : Nat} {f : Addr} {fd : FuncData} {ps ks : List Str} {sp : Sp} {E : XK} {x : Str} {p pos : Pos} {kws : List Keyword} {tk : TA}
/-- f(k = v, ..) -/
theorem pe_callK0 (F : FnOk X.prog X.w X.K X.mg X.base CX k f fd ps sp) (hr : Room k X.A) (hg : Gl X x) (hm : X.mg x = some (.ref f)) (hk : PySem.W.keepIn X.K (.ref f) = true) (hb : ∀ (s : Shared) (ws : List Value), X.K.In s.heap → ws.length = ps.length → BindsTo s fd ⟨[], ks.zip ws⟩ (ps.zip ws)) (hx : Passes CX X E)
    (hkw : PK X kws tk) (hall : (backToKw pos (keywordEach kws X.env)).all (·.1.isSome) = true := by rfl) (hks : (backToKw pos (keywordEach kws X.env)).filterMap (·.1) = ks := by rfl)
    (hdb : (x == ("__debug__" : Str)) = false := by decide)
    (hpl : ((backTo pos (starEach [] X.env)).any (·.1) || (backToKw pos (keywordEach kws X.env)).any (·.1.isNone)) = false := by rfl) :
    PE X (.Call (.Name x p) [] kws pos) (tCall sp [] E tk) := by
  refine ⟨fun pins s σ H Q I h => ?_⟩
  refine wpAny_Call_Name_kw (ld_glob I hg hm ?_ hdb)
  refine PySem.W.callWith_KW0 (h₀ := X.base) I.ok.mod.kin hk hall ?_ hpl
  refine thn (hkw.run pos pins s σ H _ I h) fun ws s2 ⟨zs, H2, I2, rz, q2⟩ => ⟨I2.kIn, ?_⟩
  rw [hks]
  have q2 : sp (zs ++ []) H2 Q E := q2
  rw [List.append_nil] at q2
  have hl : ws.length = ps.length := by rw [← rz.length]; exact F.len _ _ _ _ q2
  refine wpAny_call (codeAny_mono (F.run X.A X.stack s2 H2 ⟨[], ks.zip ws⟩ ws zs Q E hr I2.env0 (hb s2 ws I2.kIn hl) rz q2) fun r s' hq => ?_)
  cases r with
  | error e => exact hx pins σ H2 s2 e s' I2 hq
  | ok fl =>
    cases fl with
    | ret u => exact I2.after hq
    | next => exact False.elim hq
    | brk => exact False.elim hq
    | cont => exact False.elim hq
end
/-- a def that is called by keywords alone -/
structure AtK (P : Program) (w : World) (K : PySem.W.Frag) (mg : Str → Option Value) (base : Heap) (k : Nat) (x : Str) (ps : List Str) (sp : Sp) : Prop where
  ex : ∃ (f : Addr) (fd : FuncData), mg x = some (.ref f) ∧ PySem.W.keepIn K (.ref f) = true ∧ (∀ (s : Shared) (ws : List Value), K.In s.heap → ws.length = ps.length → BindsTo s fd ⟨[], ps.zip ws⟩ (ps.zip ws)) ∧ FnOk P w K mg base CX0 k f fd ps sp
theorem pe_fnK {X : Cx} {k : Nat} {x : Str} {ps : List Str} {sp : Sp} {kws : List Keyword} {t : TA} {p pos : Pos} (A : AtK X.prog X.w X.K X.mg X.base k x ps sp) (hr : Room k X.A) (hkw : PK X kws t) (hg : Gl X x := by rfl) (hdb : (x == ("__debug__" : Str)) = false := by decide)
    (hall : (backToKw pos (keywordEach kws X.env)).all (·.1.isSome) = true := by rfl) (hks : (backToKw pos (keywordEach kws X.env)).filterMap (·.1) = ps := by rfl)
    (hpl : ((backTo pos (starEach [] X.env)).any (·.1) || (backToKw pos (keywordEach kws X.env)).any (·.1.isNone)) = false := by rfl) : PE X (.Call (.Name x p) [] kws pos) (tCall sp [] E0 t) := by
  obtain ⟨f, fd, h1, h2, h3, h4⟩ := A.ex
  exact pe_callK0 h4 hr hg h1 h2 h3 pass0 hkw hall hks hdb hpl
/-! ### the same thing once -/
def dd {α : Type} [DecidableEq α] (e : α) (B : List α) : List α := ((List.range B.length).filter fun j => !decide (B.getD j e ∈ B.take j)).map fun j => B.getD j e
section
variable {α : Type} [DecidableEq α] {e : α} {B : List α}
theorem getD_eq {j : Nat} (h : j < B.length) : B.getD j e = B[j] := by
  rw [List.getD_eq_getElem?_getD, List.getElem?_eq_getElem h]
  rfl
theorem dd_sub {x : α} (h : x ∈ dd e B) : x ∈ B := by
  obtain ⟨j, hj, rfl⟩ := List.mem_map.mp h
  have hj := List.mem_range.mp (List.mem_filter.mp hj).1
  rw [getD_eq hj]
  exact List.getElem_mem hj
theorem mem_dd {x : α} (h : x ∈ B) : x ∈ dd e B := by
  obtain ⟨j, hj, rfl⟩ := List.mem_iff_getElem.mp h
  clear h
  induction j using Nat.strongRecOn with
  | _ j ih =>
    by_cases h : B[j] ∈ B.take j
    · obtain ⟨i, hi, e'⟩ := List.mem_iff_getElem.mp h
      rw [List.length_take] at hi
      rw [List.getElem_take] at e'
      rw [← e']
      exact ih i (by omega) (by omega)
    · refine List.mem_map.mpr ⟨j, List.mem_filter.mpr ⟨List.mem_range.mpr hj, ?_⟩, getD_eq hj⟩
      rw [getD_eq hj]
      simpa using h
theorem dd_nodup : (dd e B).Nodup := by
  unfold dd List.Nodup
  rw [List.pairwise_map]
  have h : (List.range B.length).Pairwise (· < ·) := List.pairwise_lt_range
  refine List.Pairwise.imp_of_mem ?_ (h.filter _)
  intro a b ha hb hab e'
  have ha' := List.mem_range.mp (List.mem_filter.mp ha).1
  have hb' := List.mem_range.mp (List.mem_filter.mp hb).1
  have hb2 := (List.mem_filter.mp hb).2
  rw [← e', getD_eq ha'] at hb2
  have : B[a] ∈ B.take b := List.mem_iff_getElem.mpr ⟨a, by rw [List.length_take]; omega, List.getElem_take⟩
  simp [this] at hb2
end
/-- what stands behind the texts that the row begins with -/
def nb (texts : List Tx) (rest : Tx) : List Tx := (texts.filter fun t => decide (rest.take t.length = t)).map fun t => rest.drop t.length
theorem nb_len (texts : List Tx) (rest : Tx) : (nb texts rest).length ≤ texts.length := by
  unfold nb
  rw [List.length_map]
  exact List.length_filter_le _ _
theorem nbs_len (texts : List Tx) : ∀ l : List Tx, (l.flatMap fun rest => nb texts rest).length ≤ texts.length * l.length
  | [] => Nat.le_refl _
  | a :: l => by
    have h1 := nb_len texts a
    have h2 := nbs_len texts l
    rw [List.flatMap_cons, List.length_append, List.length_cons, Nat.mul_succ]
    omega
def cMakes : List V → Hp → RP → Prop := fun vs H R => ∃ (v1 v2 v3 : V) (ps ρ : List Ph) (words : Tx), vs = [v1, v2, v3] ∧ IsD H v1 (ePs ps) ∧ (∀ p ∈ ps, OkT p.1) ∧ ps.length ≤ 16 ∧ IsD H v2 (eR (acts ρ)) ∧ IsD H v3 (eT words) ∧ words.length ≤ 40 ∧ Prs ps words ρ ∧ R = isB true
section
variable {T : List Tab} {P : Program} {w : World} {K : PySem.W.Frag} {mg : Str → Option Value} {base : Heap}
theorem ok_law_makes {f : Addr} {fd : FuncData} (F : Fun K "_law_makes" "_law_makes" S_law_makes f fd) (G : Gm mg) : FnOk P w K mg base CX0 1 f fd P_law_makes (SpP T cMakes) := by
  refine F.ok sc_law_makes (fun vs H Q E h => ?_) (fun cdv A outer s H vs Q E hr h => ?_)
  · obtain ⟨R, ⟨_, _, _, _, _, _, rfl, _⟩, _⟩ := h
    rfl
  · obtain ⟨R, ⟨v1, v2, v3, ps, ρ, words, rfl, h1, hok, hps, h2, h3, hwl, hprs, rfl⟩, q⟩ := h
    refine ⟨_, (pss_cons (ps_set (i := 3) sc_law_makes.nd rfl (Or.inl rfl) (pe_lst (pa_cons (pv 2) pa_nil)))
    (pss_cons (ps_for PassesOwn.never rfl (pi_tupK (K := K) rfl (pv 1)) (pg_name (i := 4) sc_law_makes.nd rfl (Or.inr rfl))
      (pss_cons (ps_setLc (i := 5) (own := [("_law_pair", 6)]) rfl sc_law_makes.nd rfl rfl (sw_true rfl rfl rfl (by decide +kernel)) (pi_tupK (K := K) rfl (pv 0)) (blkOk_by (own := [("_law_pair", 6)]) (N := N_law_makes) (sc := defScope S_law_makes) (by decide +kernel)) (fun _ _ _ _ _ => by exact (pg_name (i := 6) sc_law_makes.nd rfl (Or.inl rfl) (Or.inr rfl))) (fun _ _ _ _ _ => by exact (pts_one (pt_cmpR (op_eqN hr.units) (pe_ix (ixT (K := K) rfl) (pv 6) pe_int (fun _ _ => rfl)) (pv 4) (nomark _)))) (fun _ _ _ _ _ => by exact (pe_callTy (tupOfK (K := K) rfl) (by rfl) G.n_tuple (by decide +kernel) (pa_cons (px_split (pe_ix (ixT (K := K) rfl) (pv 6) pe_int (fun _ _ => rfl)) pe_str) pa_nil))))
      (pss_cons (ps_set (i := 7) sc_law_makes.nd rfl (Or.inr rfl) (pe_lst pa_nil))
      (pss_cons (ps_for PassesOwn.never rfl (pi_listK (K := K) rfl (pv 3)) (pg_name (i := 8) sc_law_makes.nd rfl (Or.inr rfl))
        (pss_one (ps_set (i := 7) sc_law_makes.nd rfl (Or.inr rfl) (pe_op op_cat (pv 7) (pe_lc (own := [("_law_text", 9)]) rfl sc_law_makes.nd (pi_listK (K := K) rfl (pv 5)) (blkOk_by (own := [("_law_text", 9)]) (N := N_law_makes) (sc := defScope S_law_makes) (by decide +kernel)) (fun _ _ _ _ _ => by exact (pg_name (i := 9) sc_law_makes.nd rfl (Or.inl rfl) (Or.inr rfl))) (fun _ _ _ _ _ => by exact (pts_one (pt_cmpR (op_eqN hr.units) (pe_slice (slT (K := K) rfl) (pv 8) po_none (po_some (pe_callB (lenK (K := K) rfl) (by rfl) G.n_len PySem.boot_len (pa_cons (pv 9) pa_nil)))) (pv 9) (nomark _)))) (fun _ _ _ _ _ => by exact (pe_slice (slT (K := K) rfl) (pv 8) (po_some (pe_callB (lenK (K := K) rfl) (by rfl) G.n_len PySem.boot_len (pa_cons (pv 9) pa_nil))) po_none)))))))
      (pss_one (ps_setLc (i := 3) (own := [("_law_k", 10)]) rfl sc_law_makes.nd rfl rfl (sw_true rfl rfl rfl (by decide +kernel)) (pi_range1 rfl G.n_range (pa_cons (pe_callB (lenK (K := K) rfl) (by rfl) G.n_len PySem.boot_len (pa_cons (pv 7) pa_nil)) pa_nil)) (blkOk_by (own := [("_law_k", 10)]) (N := N_law_makes) (sc := defScope S_law_makes) (by decide +kernel)) (fun _ _ _ _ _ => by exact (pg_name (i := 10) sc_law_makes.nd rfl (Or.inl rfl) (Or.inr rfl))) (fun _ _ _ _ _ => by exact (pts_one (pt_cmpR (notInN (K := K) rfl hr.units) (pe_ix (ixL (K := K) rfl) (pv 7) (pv 10) (fun _ _ => rfl)) (pe_slice (slL (K := K) rfl) (pv 7) po_none (po_some (pv 10))) (by rfl)))) (fun _ _ _ _ _ => by exact (pe_ix (ixL (K := K) rfl) (pv 7) (pv 10) (fun _ _ => rfl)))))))))
    (pss_one (ps_ret (pe_cmpR (inN (K := K) rfl hr.units) (pe_tup pa_nil) (pv 3) (by rfl)))))), ?_⟩
    refine s_seq (s_asg (T := T) (R := isLN H [eT words]) (e_lst (a_one (e_t rfl h3)) (by show 1 ≤ 100000; decide)) fun vl H1 x1 r1 => ?_)
    have r1 := r1.l
    dsimp only
    refine s_seq (f_tup (T := T) (ds := (acts ρ).map eT) (e_t rfl (x1.isT h2)) fun H2 x2 => ⟨[], fun i σ' H' => ∃ (vl : V) (z4 z5 z6 z7 z8 z9 z10 : Option V) (left : List Tx), σ' = [some v1, some v2, some v3, some vl, z4, z5, z6, z7, z8, z9, z10] ∧ Ext T [] H2 H' ∧ isL (left.map eT) vl H' ∧ left.Nodup ∧ (∀ x ∈ left, ∃ n, n ≤ words.length ∧ x = words.drop n) ∧ (ρ.drop i).flatMap (·.1) ∈ left,
      ⟨vl, none, none, none, none, none, none, none, [words], rfl, Ext.refl _, x2.isL r1, by simp, fun x hx => ⟨0, Nat.zero_le _, by rw [List.mem_singleton.mp hx, List.drop_zero]⟩, by rw [List.drop_zero, hprs.2]; simp⟩, fun i σ' H' hP => ?_, fun i d x σ' H' hd hx hP => ?_, fun σ' H' hP => ?_⟩)
    · obtain ⟨_, _, _, _, _, _, _, _, _, _, e, _⟩ := hP
      exact e
    · obtain ⟨vl, z4, z5, z6, z7, z8, z9, z10, left, rfl, e, hl, hnd, hsuf, hmem⟩ := hP
      rw [List.getElem?_map, List.getElem?_map, Option.map_map] at hd
      obtain ⟨p, hdp, rfl⟩ := Option.map_eq_some_iff.mp hd
      have hpm : p ∈ ps := hprs.1 p (List.mem_of_getElem? hdp)
      have hi : i < ρ.length := (List.getElem?_eq_some_iff.mp hdp).1
      have hdr : ρ.drop i = p :: ρ.drop (i + 1) := by
        rw [List.drop_eq_getElem_cons hi]
        congr 1
        rw [List.getElem?_eq_getElem hi] at hdp
        exact Option.some.inj hdp
      rw [hdr, List.flatMap_cons] at hmem
      have hlen : left.length ≤ 41 := by
        have := nodup_le (l := left) (m := (List.range (words.length + 1)).map fun n => words.drop n) hnd fun x hx => by
          obtain ⟨n, hn, rfl⟩ := hsuf x hx
          exact List.mem_map.mpr ⟨n, List.mem_range.mpr (by omega), rfl⟩
        rw [List.length_map, List.length_range] at this
        omega
      have x12 := (x1.trans x2).trans e
      have hx : IsD H' x (eT p.2) := hx
      dsimp only
      refine s_seq (s_asg (T := T) (R := isL (((ps.filter fun r => decide (r.2 = p.2)).map (·.1)).map eT)) (EvR.imp (c_tup (xs := ps) (en := eP) (RE := fun r => isT (eT r.1)) stT (e_t rfl (x12.isT h1)) (by omega) (fun r => decide (r.2 = p.2)) fun d hd y H4 x4 hy Q k => ?_) fun v' H2 _ r => ?_) fun vt H4 x4 r4 => ?_)
      · have ho := hok d hd
        have := ho.len
        have hl := joinW_len ho.ok
        refine k _ rfl (t_test (e_eqT (e_ix (i := 1) (e_t rfl hy) e_int rfl) (e_t rfl (x4.isT hx)))) fun _ => e_tupOf ((e_split (e_ix (i := 0) (x := .text (joinW d.1)) (e_t rfl hy) e_int rfl) e_str (by decide +kernel) (by omega)).imp fun _ _ _ r => ?_)
        rw [split_joinW ho.ne ho.ok] at r
        exact r.l
      · have r := (isEach.ln r).l
        rw [List.map_map]
        exact r
      have htp : p.1 ∈ ((ps.filter fun r => decide (r.2 = p.2)).map (·.1)) := List.mem_map.mpr ⟨p, List.mem_filter.mpr ⟨hpm, by simp⟩, rfl⟩
      have htl : ((ps.filter fun r => decide (r.2 = p.2)).map (·.1)).length ≤ 16 := by
        rw [List.length_map]
        exact Nat.le_trans (List.length_filter_le _ _) hps
      generalize ((ps.filter fun r => decide (r.2 = p.2)).map (·.1)) = texts at *
      dsimp only
      refine s_seq (s_asg (T := T) (R := isL (([] : List Tx).map eT)) (EvR.imp (e_lst a_nil (by decide)) fun _ _ _ p => p.l) fun vb H5 x5 r5 => ?_)
      have x45 := x4.trans x5
      have hl5 := x45.isL hl
      have r45 := x5.isL r4
      dsimp only
      refine s_seq (f_list (T := T) (ds := left.map eT) (e_l rfl hl5) fun vv H6 x6 r6 => ?_)
      obtain ⟨la, lvs, rfl, hla, hlad⟩ := r6
      have x46 := x45.trans x6
      refine ⟨la, lvs, rfl, hla, hlad, [], fun j σ' H' => ∃ (vb : V) (z8 z9 : Option V), σ' = [some v1, some v2, some v3, some vl, some x, some vt, z6, some vb, z8, z9, z10] ∧ Ext T [] H6 H' ∧ isL (((left.take j).flatMap fun rest => nb texts rest).map eT) vb H', by simp,
        ⟨vb, z8, z9, rfl, Ext.refl _, by rw [List.take_zero]; exact x6.isL r5⟩, fun j σ' H' hP => ?_, fun j d y σ' H' hd hy hP => ?_, fun σ' H' hP => ?_⟩
      · obtain ⟨_, _, _, _, e, _⟩ := hP
        exact e
      · obtain ⟨vb, z8, z9, rfl, e7, hb⟩ := hP
        rw [List.getElem?_map] at hd
        obtain ⟨rest, hdr, rfl⟩ := Option.map_eq_some_iff.mp hd
        have hj : j < left.length := (List.getElem?_eq_some_iff.mp hdr).1
        have htk : left.take (j + 1) = left.take j ++ [rest] := by rw [List.take_add_one, hdr]; rfl
        have hbl : ∀ (l : List Tx), (l.flatMap fun rest => nb texts rest).length ≤ 16 * l.length := fun l => Nat.le_trans (nbs_len texts l) (Nat.mul_le_mul htl (Nat.le_refl _))
        have hb1 := hbl (left.take j)
        rw [List.length_take] at hb1
        have hb2 := nb_len texts rest
        dsimp only
        refine s_asg (T := T) (R := isLN H' _) (e_catL (es := (nb texts rest).map eT) (e_l rfl hb) (EvR.imp (c_lst (xs := texts) (en := eT) (RE := fun t => isT (eT (rest.drop t.length))) stT (e_l rfl ((x6.trans e7).isL r45)) (by omega) (fun t => decide (rest.take t.length = t)) fun d hd u H8 x8 hu Q k => ?_) fun v' H2 _ r => ?_) ?_) fun v7 H8 x8 r8 => ?_
        · exact k _ rfl (t_test (e_eqT (e_take (e_t rfl (x8.isT hy)) (e_lenT (e_t rfl hu))) (e_t rfl hu))) fun _ => e_drop (e_t rfl (x8.isT hy)) (e_lenT (e_t rfl hu))
        · have r := (isEach.ln r).l
          unfold nb
          rw [List.map_map]
          exact r
        · rw [List.length_map, List.length_map]
          omega
        · refine ⟨_, _, _, rfl, e7.trans x8, ?_⟩
          rw [htk, List.flatMap_append, List.flatMap_cons, List.flatMap_nil, List.append_nil, List.map_append]
          exact r8.l
      · obtain ⟨vb, z8, z9, rfl, e7, hb⟩ := hP
        rw [List.length_map, List.take_length] at hb
        have hBl : (left.flatMap fun rest => nb texts rest).length ≤ 16 * left.length := Nat.le_trans (nbs_len texts left) (Nat.mul_le_mul htl (Nat.le_refl _))
        have hBs : ∀ y ∈ (left.flatMap fun rest => nb texts rest), ∃ n, n ≤ words.length ∧ y = words.drop n := fun y hy => by
          obtain ⟨rest, hr, hy⟩ := List.mem_flatMap.mp hy
          obtain ⟨t, _, rfl⟩ := List.mem_map.mp hy
          obtain ⟨n, hn, rfl⟩ := hsuf rest hr
          rw [List.drop_drop]
          by_cases h : n + t.length ≤ words.length
          · exact ⟨_, h, rfl⟩
          · exact ⟨words.length, Nat.le_refl _, by rw [List.drop_length, List.drop_of_length_le (by omega)]⟩
        have hBm : (ρ.drop (i + 1)).flatMap (·.1) ∈ (left.flatMap fun rest => nb texts rest) := by
          refine List.mem_flatMap.mpr ⟨_, hmem, List.mem_map.mpr ⟨p.1, List.mem_filter.mpr ⟨htp, by simp⟩, by simp⟩⟩
        generalize (left.flatMap fun rest => nb texts rest) = B at *
        have hget : ∀ j, j < B.length → (B.map eT)[j]? = some (eT (B.getD j [])) := fun j hj => by rw [List.getElem?_map, List.getElem?_eq_getElem hj, getD_eq hj]; rfl
        dsimp only
        refine s_asg (T := T) (R := isL ((dd [] B).map eT)) (EvR.imp (c_rng (n := B.length) (RE := fun j => isT (eT (B.getD j []))) stT ((e_lenL (e_l rfl hb)).eqT (by rw [List.length_map])) (by omega) (fun j => !decide (B.getD j [] ∈ B.take j)) (fun _ => rfl) (fun j hj H8 x8 => ?_) fun j hj H8 x8 _ => e_ixL (i := j) (e_l rfl (x8.isL hb)) (e_t rfl (.int _)) (hget j hj)) fun v' H2 _ r => ?_) fun v8 H8 x8 r8 => ?_
        · refine t_test ((e_inL (neg := true) (ds := (B.take j).map eT) (e_ixL (i := j) (e_l rfl (x8.isL hb)) (e_t rfl (.int _)) (hget j hj)) ((e_slL (e_l rfl (x8.isL hb)) o_no (o_some (e_t rfl (.int (j : Nat))))).eqL (by rw [cut_to, List.map_take])) (depth_le fun d hd => ?_)).eqB ?_)
          · obtain ⟨t, _, rfl⟩ := List.mem_map.mp hd
            rw [eT_depth]
            decide
          · rw [if_pos rfl]
            congr 1
            exact decide_eq_decide.mpr mem_eT
        · have r := (isEach.ln r).l
          have e' : ((List.range B.length).filter fun j => !decide (B.getD j [] ∈ B.take j)).map (fun j => eT (B.getD j [])) = (dd [] B).map eT := by
            unfold dd
            rw [List.map_map]
            exact congrArg _ (List.filter_congr fun j _ => congrArg (fun b => !b) (decide_eq_decide.mpr Iff.rfl))
          rw [e'] at r
          exact r
        · exact ⟨_, _, _, _, _, _, _, _, dd [] B, rfl, ((e.trans x46).trans e7).trans x8, r8, dd_nodup, fun y hy => hBs y (dd_sub hy), mem_dd hBm⟩
    · obtain ⟨vl, z4, z5, z6, z7, z8, z9, z10, left, rfl, e, hl, hnd, hsuf, hmem⟩ := hP
      rw [List.length_map, List.length_map, List.drop_length] at hmem
      dsimp only
      refine s_ret (T := T) (e_true (e_inL (neg := false) (ds := left.map eT) (e_tup a_nil (by decide)) (e_l rfl hl) (depth_le fun d hd => ?_)) ?_) fun v H3 x3 r3 => q v H3 (((x1.trans x2).trans e).trans x3) r3
      · obtain ⟨t, _, rfl⟩ := List.mem_map.mp hd
        rw [eT_depth]
        decide
      · show (if false = true then _ else decide (eT ([] : Tx) ∈ left.map eT)) = true
        rw [if_neg (by decide)]
        exact decide_eq_true (mem_eT.mpr hmem)
end
end Sf

set_option Elab.async false
set_option linter.all false
set_option maxRecDepth 100000
set_option maxHeartbeats 4000000
/-! _law_readings_right. -/
namespace Sf
open PySem L2 LamX
abbrev S_law_readings_right : Stmt := topS 70
abbrev N_law_readings_right : List Str := ["_law_sheet_here", "_law_pairs_here", "_law_utterance", "_law_words", "_law_told", "_law_k"]
abbrev P_law_readings_right : List Str := ["_law_sheet_here", "_law_pairs_here", "_law_utterance", "_law_words"]
theorem sc_law_readings_right : FnScope N_law_readings_right P_law_readings_right (defScope S_law_readings_right) := ⟨rfl, rfl, rfl, by decide +kernel, rfl, by decide +kernel, by decide +kernel⟩
def cRight (T : List Tab) (C : Addr) : List V → Hp → RP → Prop := fun vs H R => ∃ (v1 v2 v4 : V) (u : Str) (fs : List Fd) (ps ρ : List Ph) (words : Tx), vs = [v1, v2, .str u, v4] ∧ isForm C fs v1 H ∧ IsD H v2 (ePs ps) ∧ OkPs fs ps ∧ u.length ≤ 40000 ∧ (Txt.split u " ").filter (fun w : Str => !decide (w = ("" : Str))) = words ∧ words.length ≤ 30 ∧
  (∀ n, Rch ps words n → ∀ l : List (List Tx), l.Nodup → (∀ x ∈ l, ∃ ρ, Prs ps (words.drop n) ρ ∧ acts ρ = x) → l.length ≤ 200) ∧ IsD H v4 (eT words) ∧ Prs ps words ρ ∧ Tabs T H ∧ R = isB true
section
variable {T : List Tab} {P : Program} {w : World} {K : PySem.W.Frag} {mg : Str → Option Value} {base : Heap} {C : Addr}
theorem ok_law_readings_right {f : Addr} {fd : FuncData} (F : Fun K "_law_readings_right" "_law_readings_right" S_law_readings_right f fd) (G : Gm mg) (AK_meanings : AtK P w K mg base 6 "meanings" P_meanings (SpP T (cMeans T C))) (A_law_makes : At P w K mg base 1 "_law_makes" P_law_makes (SpP T cMakes)) : FnOk P w K mg base CX0 7 f fd P_law_readings_right (SpP T (cRight T C)) := by
  refine F.ok sc_law_readings_right (fun vs H Q E h => ?_) (fun cdv A outer s H vs Q E hr h => ?_)
  · obtain ⟨R, ⟨_, _, _, _, _, _, _, _, rfl, _⟩, _⟩ := h
    rfl
  · obtain ⟨R, ⟨v1, v2, v4, u, fs, ps, ρ, words, rfl, h1, h2, hps, hu, hw, hwl, hfew, h4, hρ, hT, rfl⟩, q⟩ := h
    refine ⟨_, (pss_cons (ps_set (i := 4) sc_law_readings_right.nd rfl (Or.inl rfl) (pe_fnK AK_meanings (hr.mono (by decide)) (pk_cons (pv 0) (pk_cons (pv 1) (pk_cons (pv 2) pk_nil)))))
    (pss_cons (ps_if (PW.pt (pw_or (pt_not (pt_val (pe_callB (isiK (K := K) rfl) (by rfl) G.n_isinstance (by decide +kernel) (pa_cons (pv 4) (pa_cons (pe_ty G.n_tuple PyProof.Rows.boot_tuple) pa_nil))))) (pw_or1 (pt_cmpR op_eq (pe_callB (lenK (K := K) rfl) (by rfl) G.n_len PySem.boot_len (pa_cons (pv 4) pa_nil)) pe_int (nomark _)))))
      (pss_one (ps_ret pe_bl))
      pss_nil)
    (pss_cons (ps_for PassesOwn.never rfl (pi_range1 rfl G.n_range (pa_cons (pe_callB (lenK (K := K) rfl) (by rfl) G.n_len PySem.boot_len (pa_cons (pv 4) pa_nil)) pa_nil)) (pg_name (i := 5) sc_law_readings_right.nd rfl (Or.inl rfl))
      (pss_one (ps_if (PW.pt (pw_or (pt_not (pt_val (pe_callB (isiK (K := K) rfl) (by rfl) G.n_isinstance (by decide +kernel) (pa_cons (pe_ix (ixT (K := K) rfl) (pv 4) (pv 5) (fun _ _ => rfl)) (pa_cons (pe_ty G.n_tuple PyProof.Rows.boot_tuple) pa_nil))))) (pw_or (pt_cmpR (inN (K := K) rfl hr.units) (pe_ix (ixT (K := K) rfl) (pv 4) (pv 5) (fun _ _ => rfl)) (pe_slice (slT (K := K) rfl) (pv 4) po_none (po_some (pv 5))) (by rfl)) (pw_or1 (pt_not (pt_val (pe_fn A_law_makes (hr.mono (by decide)) (pa_cons (pv 1) (pa_cons (pe_ix (ixT (K := K) rfl) (pv 4) (pv 5) (fun _ _ => rfl)) (pa_cons (pv 3) pa_nil))))))))))
        (pss_one (ps_ret pe_bl))
        pss_nil)))
    (pss_one (ps_ret pe_bl))))), ?_⟩
    refine s_seq (s_asg (T := T) (R := fun v H' => ∃ l, IsD H' v (.tup (l.map eR)) ∧ RS ps words 0 l) (e_fn (a_consR (e_form rfl h1) form_st (a_cons (e_t rfl h2) (a_one (e_t rfl (.str u))))) fun vs H2 x2 hv => ?_) fun vt H1 x1 r1 => ?_)
    · obtain ⟨v, us, rfl, hv1, hus⟩ := hv
      cases hus with
      | cons a hus =>
        cases hus with
        | cons b hus =>
          cases hus
          obtain rfl := b.str_inv
          exact ⟨_, ⟨_, _, u, fs, ps, words, rfl, hv1, a, hps, hu, hw, hwl, hfew, x2.tabs hT, rfl⟩, fun _ _ r => r⟩
    obtain ⟨l, hl, hRS⟩ := r1
    have hne : l ≠ [] := fun z => by
      have := (hRS.2 (acts ρ)).mpr ⟨ρ, by rw [List.drop_zero]; exact hρ, rfl⟩
      rw [z] at this
      cases this
    have hlen : l.length ≤ 200 := hfew 0 .zero l hRS.1 fun x hx => (hRS.2 x).mp hx
    have hl1 : 1 ≤ l.length := List.length_pos_iff.mpr hne
    have lenE : ∀ {H' : Hp} {σ : L2.St}, Ext T [] H1 H' → σ[4]? = some (some vt) → EvR T (tCB (rLen K) (tCons (tVar 4) tNil)) σ H' (isT (.num (l.length : Int))) := fun x hs => (e_len (e_t hs (x.isT hl))).eqT (by rw [List.length_map])
    dsimp only
    refine s_seq (s_no (T := T) ((t_or (b := false) (c := false) ((t_not (t_b (e_isi (b := true) (e_t rfl hl) e_c kTT))).eq rfl) fun _ => (t_test ((e_eqI (lenE (Ext.refl _) rfl) e_int).eqB (decide_eq_false (by omega))))).eq rfl) fun H2 x2 => ?_)
    refine s_seq (f_range (T := T) (n := l.length) (lenE x2 rfl) (by omega) fun H3 x3 => ⟨fun i σ' H' => ∃ z5 : Option V, σ' = [some v1, some v2, some (.str u), some v4, some vt, z5] ∧ Ext T [] H1 H', ⟨none, rfl, x2.trans x3⟩, fun i σ' H' hi hP => ?_, fun σ' H' hP => ?_⟩)
    · obtain ⟨z5, rfl, e⟩ := hP
      have hget : (l.map eR)[i]? = some (eR l[i]) := by rw [List.getElem?_map, List.getElem?_eq_getElem hi]; rfl
      have itm : ∀ {H'' : Hp}, Ext T [] H' H'' → EvR T (tOp (rIxT K) (tVar 4) (tVar 5)) [some v1, some v2, some (.str u), some v4, some vt, some (.int (i : Nat))] H'' (isT (eR l[i])) := fun x => e_ix (i := i) (e_t rfl ((e.trans x).isT hl)) (e_t rfl (.int _)) hget
      obtain ⟨ρ', hp', hx'⟩ := (hRS.2 l[i]).mp (List.getElem_mem hi)
      rw [List.drop_zero] at hp'
      dsimp only
      refine s_no (T := T) ((t_or (b := false) (c := false) ((t_not (t_b (e_isi (b := true) (itm (Ext.refl _)) e_c kTT))).eq rfl) fun _ => (t_or (b := false) (c := false) (t_test ((e_inT (neg := false) (ds := (l.map eR).take i) (itm (Ext.refl _)) ((e_sl (e_t rfl (e.isT hl)) o_no (o_some (e_t rfl (.int (i : Nat))))).eqT (by rw [cut_to])) (depth_le fun d hd => ?_)).eqB ?_)) fun _ => (t_not (t_b (e_fn (R := isB true) (a_cons (e_t rfl ((x1.trans e).isT h2)) (a_cons (itm (Ext.refl _)) (a_one (e_t rfl ((x1.trans e).isT h4))))) fun vs H5 x5 hv => ?_))).eq rfl).eq rfl).eq rfl) fun H5 x5 => ⟨_, rfl, e.trans x5⟩
      · obtain ⟨t, _, rfl⟩ := List.mem_map.mp (List.mem_of_mem_take hd)
        exact Nat.le_trans (eR_depth t) (by decide)
      · rw [if_neg (by decide)]
        refine decide_eq_false fun z => ?_
        rw [← List.map_take] at z
        obtain ⟨y, hy, e'⟩ := List.mem_map.mp z
        have := eR_inj e'
        subst this
        obtain ⟨j, hj, ej⟩ := List.mem_iff_getElem.mp hy
        rw [List.length_take] at hj
        rw [List.getElem_take] at ej
        have hjl : j < l.length := by omega
        have := (List.getElem_inj hRS.1 (h₀ := hjl) (h₁ := hi)).mp ej
        omega
      · cases hv with
        | cons a hv =>
          cases hv with
          | cons b hv =>
            cases hv with
            | cons c hv =>
              cases hv
              rw [← hx'] at b
              exact ⟨_, ⟨_, _, _, ps, ρ', words, rfl, a, fun p hp => (hps.ok p hp).text, hps.hi, b, c, by omega, hp', rfl⟩, fun _ _ r => r⟩
    · obtain ⟨z5, rfl, e⟩ := hP
      dsimp only
      refine s_ret (T := T) (R := isB true) e_bl fun v H4 x4 r4 => q v H4 ((x1.trans e).trans x4) r4
end
end Sf

set_option Elab.async false
set_option linter.all false
set_option maxRecDepth 100000
set_option maxHeartbeats 1000000
/-! Plain mathematics: the law's own search comes to the first double, too. -/
namespace Sf
open PySem
abbrev Bm := List (Tx × Tx)
def getB (B : Bm) (m : Tx) : Option Tx := (B.find? fun p => decide (p.1 = m)).map (·.2)
def putB (B : Bm) (m w : Tx) : Bm := if m ∈ B.map (·.1) then B.map (fun p => if p.1 = m then (p.1, w) else p) else B ++ [(m, w)]
def better (B : Bm) (m w : Tx) : Bool := match getB B m with | none => true | some o => klt w o
def offerF (B : Bm) (m w : Tx) : Bm := if better B m w = true then putB B m w else B
theorem getB_cons (p : Tx × Tx) (B : Bm) (m : Tx) : getB (p :: B) m = if p.1 = m then some p.2 else getB B m := by
  unfold getB
  by_cases h : p.1 = m
  · rw [List.find?_cons_of_pos (by simpa using h), if_pos h]; rfl
  · rw [List.find?_cons_of_neg (by simpa using h), if_neg h]
theorem getB_none {B : Bm} {m : Tx} (h : m ∉ B.map (·.1)) : getB B m = none := by
  induction B with
  | nil => rfl
  | cons p B ih =>
    rw [List.map_cons, List.mem_cons, not_or] at h
    rw [getB_cons, if_neg (fun e => h.1 e.symm), ih h.2]
theorem getB_mem {B : Bm} {m w : Tx} (h : getB B m = some w) : m ∈ B.map (·.1) := by
  by_cases k : m ∈ B.map (·.1)
  · exact k
  · rw [getB_none k] at h; cases h
theorem getB_app (B C : Bm) (m : Tx) : getB (B ++ C) m = if m ∈ B.map (·.1) then getB B m else getB C m := by
  induction B with
  | nil => rw [List.nil_append, List.map_nil, if_neg (by simp)]
  | cons p B ih =>
    rw [List.cons_append, getB_cons, getB_cons, ih, List.map_cons]
    by_cases h : p.1 = m
    · rw [if_pos h, if_pos (by rw [h]; exact List.mem_cons_self), if_pos h]
    · rw [if_neg h, if_neg h]
      by_cases k : m ∈ B.map (·.1)
      · rw [if_pos k, if_pos (List.mem_cons_of_mem _ k)]
      · rw [if_neg k, if_neg]
        rw [List.mem_cons, not_or]
        exact ⟨fun e => h e.symm, k⟩
theorem getB_put (B : Bm) (m w m' : Tx) : getB (putB B m w) m' = if m' = m then some w else getB B m' := by
  unfold putB
  by_cases h : m ∈ B.map (·.1)
  · rw [if_pos h]
    induction B with
    | nil => simp at h
    | cons p B ih =>
      rw [List.map_cons, getB_cons, getB_cons]
      by_cases e : p.1 = m
      · rw [if_pos e]
        by_cases e2 : m' = m
        · rw [if_pos e2, if_pos (by rw [e2]; exact e)]
        · rw [if_neg e2, if_neg (show ¬ p.1 = m' from fun z => e2 (z.symm.trans e)), if_neg (show ¬ p.1 = m' from fun z => e2 (z.symm.trans e))]
          clear ih h
          induction B with
          | nil => rfl
          | cons q B ih =>
            rw [List.map_cons, getB_cons, getB_cons, ih]
            by_cases e3 : q.1 = m
            · rw [if_pos e3]
              rw [if_neg (show ¬ q.1 = m' from fun z => e2 (z.symm.trans e3)), if_neg (show ¬ q.1 = m' from fun z => e2 (z.symm.trans e3))]
            · rw [if_neg e3]
      · rw [if_neg e]
        have h' : m ∈ B.map (·.1) := by
          rw [List.map_cons, List.mem_cons] at h
          exact h.resolve_left fun z => e z.symm
        rw [ih h']
        by_cases e2 : m' = m
        · rw [if_pos e2, if_pos e2]
          rw [if_neg (show ¬ p.1 = m' from fun z => e (z.trans e2))]
        · rw [if_neg e2, if_neg e2]
  · rw [if_neg h, getB_app, getB_cons]
    by_cases e2 : m' = m
    · rw [if_pos e2, e2, if_neg h, if_pos rfl]
    · rw [if_neg e2]
      by_cases k : m' ∈ B.map (·.1)
      · rw [if_pos k]
      · rw [if_neg k, if_neg (fun z => e2 z.symm), getB_none k]
        rfl
/-- what is kept for m is not more than w -/
def Has (B : Bm) (m w : Tx) : Prop := ∃ w', getB B m = some w' ∧ klt w w' = false
theorem Has.le {B : Bm} {m w v : Tx} (h : Has B m w) (hv : klt v w = false) : Has B m v := by
  obtain ⟨w', h1, h2⟩ := h
  exact ⟨w', h1, kle_trans h2 hv⟩
theorem offer_get (B : Bm) (m w m' : Tx) : getB (offerF B m w) m' = if better B m w = true ∧ m' = m then some w else getB B m' := by
  unfold offerF
  by_cases h : better B m w = true
  · rw [if_pos h, getB_put]
    by_cases e : m' = m
    · rw [if_pos e, if_pos ⟨h, e⟩]
    · rw [if_neg e, if_neg fun z => e z.2]
  · rw [if_neg h, if_neg fun z => h z.1]
theorem offer_has (B : Bm) (m w : Tx) : Has (offerF B m w) m w := by
  unfold Has
  rw [offer_get]
  by_cases h : better B m w = true
  · rw [if_pos ⟨h, rfl⟩]
    exact ⟨w, rfl, klt_irrefl w⟩
  · rw [if_neg fun z => h z.1]
    unfold better at h
    cases k : getB B m with
    | none => rw [k] at h; exact absurd rfl h
    | some o =>
      rw [k] at h
      exact ⟨o, rfl, by simpa using h⟩
theorem offer_mono {B : Bm} {m w m' w' : Tx} (h : Has B m' w') : Has (offerF B m w) m' w' := by
  obtain ⟨v, h1, h2⟩ := h
  unfold Has
  rw [offer_get]
  by_cases k : better B m w = true ∧ m' = m
  · rw [if_pos k]
    refine ⟨w, rfl, ?_⟩
    have hb := k.1
    unfold better at hb
    rw [← k.2, h1] at hb
    exact kle_trans (kle_of_lt hb) h2
  · rw [if_neg k]
    exact ⟨v, h1, h2⟩
def Sound (ts : List Tx) (B : Bm) : Prop := ∀ m w, getB B m = some w → Reach ts w m
theorem offer_sound {ts : List Tx} {B : Bm} {m w : Tx} (h : Sound ts B) (hr : Reach ts w m) : Sound ts (offerF B m w) := fun m' w' e => by
  rw [offer_get] at e
  by_cases k : better B m w = true ∧ m' = m
  · rw [if_pos k] at e
    injection e with e
    rw [← e, k.2]
    exact hr
  · rw [if_neg k] at e
    exact h m' w' e
/-! ### one turn -/
def txF (m w : Tx) (s : Bm × Bool) (t : Tx) : Bm × Bool :=
  if m ≠ [] ∧ t.take m.length = m then (offerF s.1 (t.drop m.length) (w ++ t.drop m.length), better s.1 (t.drop m.length) (w ++ t.drop m.length) || s.2)
  else if m ≠ [] ∧ m.take t.length = t then (offerF s.1 (m.drop t.length) w, better s.1 (m.drop t.length) w || s.2) else s
def keyF (ts : List Tx) (s : Bm × Bool) (m : Tx) : Bm × Bool := ts.foldl (txF m ((getB s.1 m).getD [])) s
def turnF (ts : List Tx) (B : Bm) : Bm × Bool := (B.map (·.1)).foldl (keyF ts) (B, false)
theorem txF_nil (w : Tx) (s : Bm × Bool) (t : Tx) : txF [] w s t = s := by
  unfold txF
  rw [if_neg (fun z => z.1 rfl), if_neg (fun z => z.1 rfl)]
theorem txF_eq {m w : Tx} (s : Bm × Bool) (t : Tx) (hm : m ≠ []) : txF m w s t = match step1 w m t with | some e => (offerF s.1 e.2 e.1, better s.1 e.2 e.1 || s.2) | none => s := by
  unfold txF step1
  by_cases h1 : t.take m.length = m
  · rw [if_pos ⟨hm, h1⟩]
    by_cases h2 : m.take t.length = t
    · rw [if_pos h2]
      have hl : m.length = t.length := by
        have l1 := congrArg List.length h1
        have l2 := congrArg List.length h2
        rw [List.length_take] at l1 l2
        omega
      have e : t = m := by
        rw [← h1, hl, List.take_of_length_le (Nat.le_refl _)]
      subst e
      rw [List.drop_length, List.append_nil]
    · rw [if_neg h2, if_pos h1]
  · rw [if_neg (fun z => h1 z.2)]
    by_cases h2 : m.take t.length = t
    · rw [if_pos ⟨hm, h2⟩, if_pos h2]
    · rw [if_neg (fun z => h2 z.2), if_neg h2, if_neg h1]
theorem txF_mono {m w m' w' : Tx} {s : Bm × Bool} {t : Tx} (h : Has s.1 m' w') : Has (txF m w s t).1 m' w' := by
  by_cases hm : m = []
  · rw [hm, txF_nil]; exact h
  · rw [txF_eq s t hm]
    cases step1 w m t with
    | none => exact h
    | some e => exact offer_mono h
theorem txF_has {m w t m' w' : Tx} {s : Bm × Bool} (hm : m ≠ []) (h : step1 w m t = some (w', m')) : Has (txF m w s t).1 m' w' := by
  rw [txF_eq s t hm, h]
  exact offer_has _ _ _
theorem txF_sound {ts : List Tx} {m w t : Tx} {s : Bm × Bool} (hs : Sound ts s.1) (hr : m ≠ [] → Reach ts w m) (ht : t ∈ ts) : Sound ts (txF m w s t).1 := by
  by_cases hm : m = []
  · rw [hm, txF_nil]; exact hs
  · rw [txF_eq s t hm]
    cases h : step1 w m t with
    | none => exact hs
    | some e => exact offer_sound hs (.step (hr hm) hm ht h)
theorem txF_flag {m w t : Tx} {s : Bm × Bool} (h : (txF m w s t).2 = false) : txF m w s t = s := by
  by_cases hm : m = []
  · rw [hm, txF_nil]
  · rw [txF_eq s t hm] at h ⊢
    cases k : step1 w m t with
    | none => rfl
    | some e =>
      rw [k] at h
      have h : (better s.1 e.2 e.1 || s.2) = false := h
      rw [Bool.or_eq_false_iff] at h
      show (offerF s.1 e.2 e.1, better s.1 e.2 e.1 || s.2) = s
      unfold offerF
      rw [h.1, if_neg Bool.false_ne_true, Bool.false_or]
theorem fold_mono {ts : List Tx} {m w m' w' : Tx} : ∀ {s : Bm × Bool}, Has s.1 m' w' → Has (ts.foldl (txF m w) s).1 m' w' := by
  induction ts with
  | nil => exact fun h => h
  | cons t ts ih => exact fun h => ih (txF_mono h)
theorem fold_has {m w t m' w' : Tx} (hm : m ≠ []) (h : step1 w m t = some (w', m')) : ∀ {ts : List Tx} {s : Bm × Bool}, t ∈ ts → Has (ts.foldl (txF m w) s).1 m' w'
  | [], _, ht => nomatch ht
  | u :: ts, s, ht => by
    rw [List.foldl_cons]
    rcases List.mem_cons.mp ht with e | ht
    · rw [← e]; exact fold_mono (txF_has hm h)
    · exact fold_has hm h ht
theorem fold_sound {ts : List Tx} {m w : Tx} (hr : m ≠ [] → Reach ts w m) : ∀ {us : List Tx} {s : Bm × Bool}, (∀ t ∈ us, t ∈ ts) → Sound ts s.1 → Sound ts (us.foldl (txF m w) s).1
  | [], _, _, h => h
  | u :: us, s, hu, h => by
    rw [List.foldl_cons]
    exact fold_sound hr (fun t ht => hu t (List.mem_cons_of_mem _ ht)) (txF_sound h hr (hu u List.mem_cons_self))
theorem fold_flag {m w : Tx} : ∀ {us : List Tx} {s : Bm × Bool}, (us.foldl (txF m w) s).2 = false → us.foldl (txF m w) s = s
  | [], _, _ => rfl
  | u :: us, s, h => by
    rw [List.foldl_cons] at h ⊢
    have e := fold_flag h
    rw [e] at h ⊢
    exact txF_flag h
theorem keyF_mono {ts : List Tx} {s : Bm × Bool} {m m' w' : Tx} (h : Has s.1 m' w') : Has (keyF ts s m).1 m' w' := fold_mono h
theorem keys_mono {ts : List Tx} {m' w' : Tx} : ∀ {ms : List Tx} {s : Bm × Bool}, Has s.1 m' w' → Has (ms.foldl (keyF ts) s).1 m' w'
  | [], _, h => h
  | m :: ms, s, h => keys_mono (ms := ms) (keyF_mono h)
theorem keyF_has {ts : List Tx} {s : Bm × Bool} {m w0 t m' w' : Tx} (h : Has s.1 m w0) (hm : m ≠ []) (ht : t ∈ ts) (hs : step1 w0 m t = some (w', m')) : Has (keyF ts s m).1 m' w' := by
  obtain ⟨w1, h1, h2⟩ := h
  obtain ⟨x, e1, _, e2⟩ := step1_app hs
  unfold keyF
  rw [h1]
  refine (fold_has hm (e2 w1) ht).le ?_
  rw [e1, klt_app]
  exact h2
theorem keys_has {ts : List Tx} {m w0 t m' w' : Tx} (hm : m ≠ []) (ht : t ∈ ts) (hs : step1 w0 m t = some (w', m')) : ∀ {ms : List Tx} {s : Bm × Bool}, m ∈ ms → Has s.1 m w0 → Has (ms.foldl (keyF ts) s).1 m' w'
  | [], _, h, _ => nomatch h
  | u :: ms, s, h, hh => by
    rw [List.foldl_cons]
    rcases List.mem_cons.mp h with e | h
    · rw [← e]; exact keys_mono (keyF_has hh hm ht hs)
    · exact keys_has hm ht hs h (keyF_mono hh)
theorem keys_sound {ts : List Tx} : ∀ {ms : List Tx} {s : Bm × Bool}, (∀ m ∈ ms, ∃ w, getB s.1 m = some w) → Sound ts s.1 → Sound ts (ms.foldl (keyF ts) s).1
  | [], _, _, h => h
  | m :: ms, s, hm, h => by
    rw [List.foldl_cons]
    obtain ⟨w, hw⟩ := hm m List.mem_cons_self
    refine keys_sound (fun m' h' => ?_) ?_
    · obtain ⟨w', hw'⟩ := hm m' (List.mem_cons_of_mem _ h')
      obtain ⟨v, hv, _⟩ := keyF_mono (ts := ts) (m := m) (show Has s.1 m' w' from ⟨w', hw', klt_irrefl _⟩)
      exact ⟨v, hv⟩
    · unfold keyF
      rw [hw]
      exact fold_sound (fun _ => h m w hw) (fun _ h => h) h
theorem keys_flag {ts : List Tx} : ∀ {ms : List Tx} {s : Bm × Bool}, (ms.foldl (keyF ts) s).2 = false → ms.foldl (keyF ts) s = s
  | [], _, _ => rfl
  | m :: ms, s, h => by
    rw [List.foldl_cons] at h ⊢
    have e := keys_flag h
    rw [e] at h ⊢
    exact fold_flag h
theorem getB_some {B : Bm} {m : Tx} (h : m ∈ B.map (·.1)) : ∃ w, getB B m = some w := by
  induction B with
  | nil => simp at h
  | cons p B ih =>
    rw [getB_cons]
    by_cases e : p.1 = m
    · exact ⟨p.2, by rw [if_pos e]⟩
    · rw [if_neg e]
      rw [List.map_cons, List.mem_cons] at h
      exact ih (h.resolve_left fun z => e z.symm)
theorem turn_mono {ts : List Tx} {B : Bm} {m w : Tx} (h : Has B m w) : Has (turnF ts B).1 m w := keys_mono h
theorem turn_has {ts : List Tx} {B : Bm} {m w0 t m' w' : Tx} (h : Has B m w0) (hm : m ≠ []) (ht : t ∈ ts) (hs : step1 w0 m t = some (w', m')) : Has (turnF ts B).1 m' w' := by
  obtain ⟨w, hw, _⟩ := id h
  exact keys_has hm ht hs (getB_mem hw) h
theorem turn_sound {ts : List Tx} {B : Bm} (h : Sound ts B) : Sound ts (turnF ts B).1 := keys_sound (fun m hm => getB_some hm) h
theorem turn_flag {ts : List Tx} {B : Bm} (h : (turnF ts B).2 = false) : (turnF ts B).1 = B := congrArg (·.1) (keys_flag h)
/-! ### the start -/
def stF (ts : List Tx) (B : Bm) (p : Nat × Nat) : Bm := if p.1 ≠ p.2 ∧ (ts.getD p.2 []).take (ts.getD p.1 []).length = ts.getD p.1 [] then offerF B ((ts.getD p.2 []).drop (ts.getD p.1 []).length) (ts.getD p.2 []) else B
def startF (ts : List Tx) : Bm := ((List.range ts.length).flatMap fun i => (List.range ts.length).map fun j => (i, j)).foldl (stF ts) []
theorem stF_mono {ts : List Tx} {B : Bm} {p : Nat × Nat} {m w : Tx} (h : Has B m w) : Has (stF ts B p) m w := by
  unfold stF
  split
  · exact offer_mono h
  · exact h
theorem sts_mono {ts : List Tx} {m w : Tx} : ∀ {ps : List (Nat × Nat)} {B : Bm}, Has B m w → Has (ps.foldl (stF ts) B) m w
  | [], _, h => h
  | p :: ps, B, h => sts_mono (ps := ps) (stF_mono h)
theorem sts_has {ts : List Tx} {p : Nat × Nat} {m w : Tx} (hp : ∀ B, Has (stF ts B p) m w) : ∀ {ps : List (Nat × Nat)} {B : Bm}, p ∈ ps → Has (ps.foldl (stF ts) B) m w
  | [], _, h => nomatch h
  | q :: ps, B, h => by
    rw [List.foldl_cons]
    rcases List.mem_cons.mp h with e | h
    · rw [← e]; exact sts_mono (hp B)
    · exact sts_has hp h
theorem start_has {ts : List Tx} {e : Ent} (h : e ∈ begins ts) : Has (startF ts) e.2 e.1 := by
  obtain ⟨i, j, t, o, hi, hj, hij, hp, rfl⟩ := mem_begins.mp h
  have li := (List.getElem?_eq_some_iff.mp hi).1
  have lj := (List.getElem?_eq_some_iff.mp hj).1
  have gi : ts.getD i [] = t := by simp [List.getD, hi]
  have gj : ts.getD j [] = o := by simp [List.getD, hj]
  refine sts_has (p := (j, i)) (fun B => ?_) (List.mem_flatMap.mpr ⟨j, List.mem_range.mpr lj, List.mem_map.mpr ⟨i, List.mem_range.mpr li, rfl⟩⟩)
  unfold stF
  rw [if_pos ⟨fun z => hij z.symm, by rw [gi, gj]; exact hp⟩, gi, gj]
  exact offer_has _ _ _
theorem sts_sound {ts : List Tx} : ∀ {ps : List (Nat × Nat)} {B : Bm}, (∀ p ∈ ps, p.1 < ts.length ∧ p.2 < ts.length) → Sound ts B → Sound ts (ps.foldl (stF ts) B)
  | [], _, _, h => h
  | p :: ps, B, hp, h => by
    rw [List.foldl_cons]
    refine sts_sound (fun q hq => hp q (List.mem_cons_of_mem _ hq)) ?_
    unfold stF
    split
    · rename_i hc
      have h1 := hp p List.mem_cons_self
      have g1 : ts[p.1]? = some (ts.getD p.1 []) := by rw [List.getElem?_eq_getElem h1.1]; simp [List.getD, List.getElem?_eq_getElem h1.1]
      have g2 : ts[p.2]? = some (ts.getD p.2 []) := by rw [List.getElem?_eq_getElem h1.2]; simp [List.getD, List.getElem?_eq_getElem h1.2]
      exact offer_sound h (.base g2 g1 (fun z => hc.1 z.symm) hc.2)
    · exact h
theorem start_sound (ts : List Tx) : Sound ts (startF ts) := sts_sound (fun p hp => by
  obtain ⟨i, hi, hp⟩ := List.mem_flatMap.mp hp
  obtain ⟨j, hj, rfl⟩ := List.mem_map.mp hp
  exact ⟨List.mem_range.mp hi, List.mem_range.mp hj⟩) fun m w h => by cases h
/-! ### all turns -/
def turns (ts : List Tx) : Nat → Bm
  | 0 => startF ts
  | n + 1 => (turnF ts (turns ts n)).1
theorem turns_sound (ts : List Tx) : ∀ n, Sound ts (turns ts n)
  | 0 => start_sound ts
  | n + 1 => turn_sound (turns_sound ts n)
theorem turns_mono {ts : List Tx} {m w : Tx} {n : Nat} (h : Has (turns ts n) m w) : ∀ k, Has (turns ts (n + k)) m w
  | 0 => h
  | k + 1 => turn_mono (turns_mono h k)
theorem turns_le {ts : List Tx} {m w : Tx} {n k : Nat} (h : Has (turns ts n) m w) (hk : n ≤ k) : Has (turns ts k) m w := by
  have := turns_mono h (k - n)
  rwa [show n + (k - n) = k by omega] at this
theorem turns_done {ts : List Tx} {waiting : List Ent} {done : List (Tx × Tx)} (I : DInv ts waiting done) : ∀ (i : Nat) d, done[i]? = some d → Has (turns ts i) d.1 d.2 := by
  intro i
  induction i using Nat.strongRecOn with
  | _ i ih =>
    intro d hd
    rcases I.chain i d hd with h | ⟨d', hd', t, ht, hs⟩
    · exact turns_le (n := 0) (start_has h) (Nat.zero_le _)
    · obtain ⟨j, hj, e⟩ := List.mem_iff_getElem.mp hd'
      rw [List.length_take] at hj
      rw [List.getElem_take] at e
      have hjl : j < done.length := by omega
      have h1 := ih j (by omega) d' (by rw [List.getElem?_eq_getElem hjl, e])
      have hm : d' ∈ done := by rw [← e]; exact List.getElem_mem hjl
      exact turns_le (n := j + 1) (turn_has h1 (I.ne d' hm) ht hs) (by omega)
theorem least_of : ∀ {l : List Ent}, l ≠ [] → ∃ e ∈ l, ∀ e' ∈ l, klE e' e = false
  | [], h => absurd rfl h
  | [a], _ => ⟨a, by simp, fun e he => by rw [List.mem_singleton.mp he]; exact klE_irrefl a⟩
  | a :: b :: l, _ => by
    obtain ⟨m, hm, hl⟩ := least_of (l := b :: l) (by simp)
    by_cases h : klE a m = true
    · refine ⟨a, List.mem_cons_self, fun e he => ?_⟩
      rcases List.mem_cons.mp he with rfl | he
      · exact klE_irrefl _
      · cases k : klE e a with
        | false => rfl
        | true =>
          have := klE_trans e a m k h
          rw [hl e he] at this
          cases this
    · refine ⟨m, List.mem_cons_of_mem _ hm, fun e he => ?_⟩
      rcases List.mem_cons.mp he with rfl | he
      · simpa using h
      · exact hl e he
/-- the first double, with all that is settled before it -/
theorem first_run {ts : List Tx} {L : Nat} (hL : ∀ t ∈ ts, t.length ≤ L) : ∀ (n : Nat) {waiting : List Ent} {done : List (Tx × Tx)}, DInv ts waiting done → ts.length * L < done.length + n →
    (∃ (waiting : List Ent) (done : List (Tx × Tx)) (w : Tx), DInv ts waiting done ∧ (w, ([] : Tx)) ∈ waiting ∧ ∀ e' ∈ waiting, klE e' (w, []) = false) ∨ First ts none
  | 0, waiting, done, I, h => by
    have := I.many hL
    omega
  | n + 1, waiting, done, I, h => by
    by_cases hw : waiting = []
    · subst hw
      exact .inr I.empty
    · obtain ⟨⟨w, m⟩, he, hl⟩ := least_of hw
      by_cases hm : m = []
      · subst hm
        exact .inl ⟨waiting, done, w, I, he, hl⟩
      · exact first_run hL n (I.turn he hl hm) (by rw [List.length_append]; show ts.length * L < done.length + 1 + n; omega)
/-- the law's own search -/
theorem turns_first {ts : List Tx} {L n : Nat} (hL : ∀ t ∈ ts, t.length ≤ L) (hn : ts.length * L < n) : First ts (getB (turns ts n) []) := by
  rcases first_run hL _ DInv.start (show ts.length * L < ([] : List (Tx × Tx)).length + (ts.length * L + 1) by simp) with ⟨waiting, done, w, I, he, hl⟩ | h
  · have hF := I.found he hl
    have hd := I.many hL
    have hh : Has (turns ts n) [] w := by
      rcases I.pre _ he with h | ⟨d, hd', t, ht, hs⟩
      · exact turns_le (n := 0) (start_has h) (Nat.zero_le _)
      · obtain ⟨j, hj, e⟩ := List.mem_iff_getElem.mp hd'
        have h1 := turns_done I j d (by rw [List.getElem?_eq_getElem hj, e])
        exact turns_le (n := j + 1) (turn_has h1 (I.ne d hd') ht hs) (by omega)
    obtain ⟨w', h1, h2⟩ := hh
    rw [h1]
    have hr := turns_sound ts n _ _ h1
    have : w' = w := kle_antisymm h2 (hF.2 w' hr)
    rw [this]
    exact hF
  · cases h1 : getB (turns ts n) [] with
    | none => exact h
    | some w => exact absurd (turns_sound ts n _ _ h1) (h w)
end Sf

set_option Elab.async false
set_option linter.all false
set_option maxRecDepth 100000
set_option maxHeartbeats 4000000
/-! _law_offer, _law_started. -/
namespace Sf
open PySem L2 LamX
abbrev S_law_offer : Stmt := topS 64
abbrev N_law_offer : List Str := ["_law_best", "_law_rest", "_law_words", "_law_old"]
abbrev P_law_offer : List Str := ["_law_best", "_law_rest", "_law_words"]
theorem sc_law_offer : FnScope N_law_offer P_law_offer (defScope S_law_offer) := ⟨rfl, rfl, rfl, by decide +kernel, rfl, by decide +kernel, by decide +kernel⟩
abbrev S_law_started : Stmt := topS 65
abbrev N_law_started : List Str := ["_law_texts_here", "_law_best", "_law_i", "_law_j"]
abbrev P_law_started : List Str := ["_law_texts_here"]
theorem sc_law_started : FnScope N_law_started P_law_started (defScope S_law_started) := ⟨rfl, rfl, rfl, by decide +kernel, rfl, by decide +kernel, by decide +kernel⟩
abbrev eBm (B : Bm) : List (D × D) := B.map fun p => (eT p.1, eT p.2)
theorem eBm_keys (B : Bm) : (eBm B).map (·.1) = (B.map (·.1)).map eT := by rw [List.map_map, List.map_map]; rfl
theorem eBm_find (B : Bm) (m : Tx) : findK (eBm B) (eT m) = (getB B m).map eT := by
  induction B with
  | nil => rfl
  | cons p B ih =>
    rw [getB_cons]
    unfold findK at ih ⊢
    show Option.map (·.2) (List.find? _ ((eT p.1, eT p.2) :: eBm B)) = _
    by_cases h : p.1 = m
    · rw [if_pos h, List.find?_cons_of_pos (by simp [h])]
      rfl
    · rw [if_neg h, List.find?_cons_of_neg (by simpa using fun z => h (text_inj z))]
      exact ih
theorem eBm_put (B : Bm) (m w : Tx) : putM (eBm B) (eT m) (eT w) = eBm (putB B m w) := by
  unfold putM putB
  rw [eBm_keys]
  by_cases h : m ∈ B.map (·.1)
  · rw [if_pos (mem_eT.mpr h), if_pos h]
    show List.map _ (List.map (fun p : Tx × Tx => (eT p.1, eT p.2)) B) = List.map (fun p : Tx × Tx => (eT p.1, eT p.2)) (List.map _ B)
    rw [List.map_map, List.map_map]
    refine List.map_congr_left fun p _ => ?_
    show (if eT p.1 = eT m then (eT p.1, eT w) else (eT p.1, eT p.2)) = _
    by_cases e : p.1 = m
    · rw [if_pos (by rw [e])]
      show _ = (eT (if p.1 = m then (p.1, w) else p).1, eT (if p.1 = m then (p.1, w) else p).2)
      rw [if_pos e]
    · rw [if_neg fun z => e (eT_inj z)]
      show _ = (eT (if p.1 = m then (p.1, w) else p).1, eT (if p.1 = m then (p.1, w) else p).2)
      rw [if_neg e]
  · rw [if_neg fun z => h (mem_eT.mp z), if_neg h]
    show _ = List.map (fun p : Tx × Tx => (eT p.1, eT p.2)) (B ++ [(m, w)])
    rw [List.map_append]
    rfl
theorem klt_k (a b : Tx) : (if (a.length : Int) = b.length then wlt a b else decide ((a.length : Int) < b.length)) = klt a b := by
  by_cases h : a.length = b.length
  · rw [if_pos (by omega)]
    have : klt a b = true ↔ wlt a b = true := by
      rw [klt_def]
      exact ⟨fun k => k.elim (fun k => absurd k (by omega)) (·.2), fun k => .inr ⟨h, k⟩⟩
    cases h1 : klt a b <;> cases h2 : wlt a b <;> simp_all
  · rw [if_neg (by omega)]
    have : klt a b = true ↔ a.length < b.length := by
      rw [klt_def]
      exact ⟨fun k => k.elim id fun k => absurd k.1 h, .inl⟩
    by_cases k : a.length < b.length
    · rw [this.mpr k]
      exact decide_eq_true (by omega)
    · have : klt a b = false := by
        cases h1 : klt a b with
        | false => rfl
        | true => exact absurd (this.mp h1) k
      rw [this]
      exact decide_eq_false (by omega)
/-- best.offer: the map changes, the answer says so -/
def SpOffer (P : Program) (w : World) (T : List Tab) : Sp := fun vs H Q _ => ∃ (a : Addr) (v2 v3 : V) (B : Bm) (m ws : Tx), vs = [.ref a, v2, v3] ∧ NM P w H a (eBm B) ∧ IsD H v2 (eT m) ∧ IsD H v3 (eT ws) ∧ B.length ≤ 50000 ∧ ∀ H', Ext T [a] H H' → NM P w H' a (eBm (offerF B m ws)) → Q (.bl (better B m ws)) H'
section
variable {T : List Tab} {P : Program} {w : World} {K : PySem.W.Frag} {σ : L2.St} {H : Hp} {E : Ends} {a b : Addr} {v : V} {o io : Nat} {B : Bm} {m ws : Tx} {te : TE}
theorem s_nputM (ho : σ[o]? = some (some (.ref a))) {vk : V} (hi : σ[io]? = some (some vk)) (hs : NM P w H a (eBm B)) (hk : IsD H vk (eT m)) (hv : EvR T te σ H (isT (eT ws))) (hz : B.length < 100000)
    (kk : ∀ H', Ext T [a] H H' → NM P w H' a (eBm (putB B m ws)) → E.nx σ H') : tAsg te (gSub (tVar o) (tVar io) (rNSet P w)) E σ H := by
  refine hv.run fun v H1 x1 hv1 => ?_
  obtain ⟨b, us, rfl, hb⟩ := hk.tup_inv
  obtain ⟨ks, h1, h2, h3, h4⟩ := x1.nm hs (by simp)
  have hk1 := x1.isT hk
  have hd : (eT m).depth ≤ 8 := by rw [eT_depth]; decide
  have hl : ks.length < 100000 := by
    have := congrArg List.length h3
    rw [List.length_map, List.length_map, List.length_map] at this
    omega
  refine ⟨_, ho, _, hi, eT m, b, a, ks, rfl, rfl, hk1, hd, h1, h2, sz' hl, ?_⟩
  obtain ⟨p1, p2⟩ := nm_put (k := eT m) (b := b) h3 h4 hv1
  rw [eBm_put] at p1 p2
  refine kk _ (x1.wide.trans (Ext.put_self h1 noTab_nd)) ⟨nput ks (eT m) b v, upd_same, ?_, p1, p2.mono (tex_put h1 noTab_nd)⟩
  exact (nput_nkeys h2 hk1 hd).mono (tex_put h1 noTab_nd)
end
section
variable {T : List Tab} {P : Program} {w : World} {K : PySem.W.Frag} {mg : Str → Option Value} {base : Heap}
theorem ok_law_offer {f : Addr} {fd : FuncData} (F : Fun K "_law_offer" "_law_offer" S_law_offer f fd) (G : Gm mg) : FnOk P w K mg base CX0 1 f fd P_law_offer (SpOffer P w T) := by
  refine F.ok sc_law_offer (fun vs H Q E h => ?_) (fun cdv A outer s H vs Q E hr h => ?_)
  · obtain ⟨_, _, _, _, _, _, rfl, _⟩ := h
    rfl
  · obtain ⟨a, v2, v3, B, m, ws, rfl, hB, h2, h3, hz, q⟩ := h
    refine ⟨_, (pss_cons (ps_set (i := 3) sc_law_offer.nd rfl (Or.inl rfl) (pe_nget2 hr.units (pv 0) (pv 1) pe_non ⟨rfl, rfl, rfl, rfl⟩))
    (pss_cons (ps_if (PW.pt (pw_or (pt_cmp (pc_isN (pv 3))) (pw_or1 (pt_cmpR (op_ltK hr.units) (pe_tup (pa_cons (pe_callB (lenK (K := K) rfl) (by rfl) G.n_len PySem.boot_len (pa_cons (pv 2) pa_nil)) (pa_cons (pv 2) pa_nil))) (pe_tup (pa_cons (pe_callB (lenK (K := K) rfl) (by rfl) G.n_len PySem.boot_len (pa_cons (pv 3) pa_nil)) (pa_cons (pv 3) pa_nil))) (nomark _)))))
      (pss_cons (ps_asg (pv 2) (pg_sub (pv 0) (pv 1) (set_nd hr.units)))
      (pss_one (ps_ret pe_bl)))
      pss_nil)
    (pss_one (ps_ret pe_bl)))), ?_⟩
    have hd : (eT m).depth ≤ 8 := by rw [eT_depth]; decide
    refine s_seq (s_asg (T := T) (R := isT (((getB B m).map eT).getD .none)) ((e_ngetM (P := P) (w := w) (e_v rfl) (e_t rfl h2) e_non hB hd).eqT (by rw [eBm_find])) fun vo H1 x1 r1 => ?_)
    have put : ∀ {H1 : Hp} {vo : V} {E : Ends}, Ext T [] H H1 → better B m ws = true → E.rt = Q → tSeq (tAsg (tVar 2) (gSub (tVar 0) (tVar 1) (rNSet P w))) (tRet (tC (.bl true))) E [some (.ref a), some v2, some v3, some vo] H1 := fun {H1 vo E} x1 hb hE => by
      refine s_seq (s_nputM (P := P) (w := w) (T := T) rfl rfl (x1.nm hB (by simp)) (x1.isT h2) (e_t rfl (x1.isT h3)) (by omega) fun H2 x2 h2' => ?_)
      dsimp only
      refine s_ret (T := T) (σ := [some (.ref a), some v2, some v3, some vo]) (R := isB true) e_bl fun v H3 x3 r3 => ?_
      obtain rfl : v = _ := r3
      have := q H3 ((x1.wide.trans x2).trans x3.wide) (by unfold offerF; rw [if_pos hb]; exact x3.nm h2' (by simp))
      rw [hb] at this
      rw [hE]
      exact this
    cases hg : getB B m with
    | none =>
      rw [hg] at r1
      have hb : better B m ws = true := by unfold better; rw [hg]
      cases r1
      dsimp only
      refine s_seq (s_if (T := T) (b := true) ((t_or (b := true) (c := true) (t_test ((e_isN (e_v rfl)).eqB (decide_eq_true rfl))) fun z => nomatch z).eq rfl) (fun _ H2 x2 => ?_) fun z => nomatch z)
      exact put (x1.trans x2) hb rfl
    | some old =>
      rw [hg] at r1
      have r1 : IsD H1 vo (eT old) := r1
      have hb : better B m ws = klt ws old := by unfold better; rw [hg]
      have hne : vo ≠ .non := by
        obtain ⟨_, _, rfl, _⟩ := r1.tup_inv
        exact fun z => nomatch z
      dsimp only
      refine s_seq (s_if (T := T) (b := klt ws old) ((t_or (b := false) (c := klt ws old) (t_test ((e_isN (e_v rfl)).eqB (decide_eq_false hne))) fun _ => t_test ((e_ltK (e_two (e_lenT (e_t rfl (x1.isT h3))) (e_t rfl (x1.isT h3))) (e_two (e_lenT (e_t rfl r1)) (e_t rfl r1))).eqB (klt_k ws old))).eq rfl) (fun hk H2 x2 => ?_) fun hk H2 x2 => ?_)
      · exact put (x1.trans x2) (hb.trans hk) rfl
      · unfold tNext
        dsimp only
        refine s_ret (T := T) (R := isB false) e_bl fun v H3 x3 r3 => ?_
        obtain rfl : v = _ := r3
        have x13 := (x1.trans x2).trans x3
        have := q H3 x13.wide (by unfold offerF; rw [hb, hk, if_neg (by decide)]; exact x13.nm hB (by simp))
        rw [hb, hk] at this
        exact this
/-- the call as a reading -/
theorem s_offer {σ : L2.St} {H : Hp} {E : XK} {a : Addr} {o : Nat} {B : Bm} {m ws : Tx} {tr tw : TE} {Q : VK} (h0 : σ[o]? = some (some (.ref a))) (hB : NM P w H a (eBm B)) (hr : EvR T tr σ H (isT (eT m))) (hw : EvR T tw σ H (isT (eT ws))) (hz : B.length ≤ 50000)
    (kk : ∀ H', Ext T [a] H H' → NM P w H' a (eBm (offerF B m ws)) → Q (.bl (better B m ws)) H') : tCall (SpOffer P w T) [] E (tCons (tVar o) (tCons tr (tCons tw tNil))) σ H Q :=
  ⟨_, h0, hr.run fun v2 H1 x1 r1 => (hw.mono x1).run fun v3 H2 x2 r2 => ⟨a, v2, v3, B, m, ws, rfl, (x1.trans x2).nm hB (by simp), x2.isT r1, r2, hz, fun H' x h => kk H' ((x1.trans x2).wide.trans x) h⟩⟩
theorem offer_len (B : Bm) (m w : Tx) : (offerF B m w).length ≤ B.length + 1 := by
  unfold offerF putB
  split
  · split
    · rw [List.length_map]; omega
    · rw [List.length_append]; exact Nat.le_refl _
  · omega
theorem stF_len (ts : List Tx) (B : Bm) (p : Nat × Nat) : (stF ts B p).length ≤ B.length + 1 := by
  unfold stF
  split
  · exact offer_len _ _ _
  · omega
theorem sts_len (ts : List Tx) : ∀ (ps : List (Nat × Nat)) (B : Bm), (ps.foldl (stF ts) B).length ≤ B.length + ps.length
  | [], _ => Nat.le_refl _
  | p :: ps, B => by
    have h1 := sts_len ts ps (stF ts B p)
    have h2 := stF_len ts B p
    rw [List.foldl_cons, List.length_cons]
    omega
def cStarted (P : Program) (w : World) : List V → Hp → RP → Prop := fun vs H R => ∃ (v : V) (ts : List Tx), vs = [v] ∧ isL (ts.map eT) v H ∧ ts.length ≤ 20 ∧ R = fun v H' => ∃ a, v = .ref a ∧ H a = none ∧ NM P w H' a (eBm (startF ts))
abbrev rowI (n i : Nat) : List (Nat × Nat) := (List.range n).map fun j => (i, j)
theorem ok_law_started {f : Addr} {fd : FuncData} (F : Fun K "_law_started" "_law_started" S_law_started f fd) (G : Gm mg) (A_law_offer : At P w K mg base 1 "_law_offer" P_law_offer (SpOffer P w T)) : FnOk P w K mg base CX0 2 f fd P_law_started (SpP T (cStarted P w)) := by
  refine F.ok sc_law_started (fun vs H Q E h => ?_) (fun cdv A outer s H vs Q E hr h => ?_)
  · obtain ⟨R, ⟨_, _, rfl, _⟩, _⟩ := h
    rfl
  · obtain ⟨R, ⟨v, ts, rfl, hl, hn, rfl⟩, q⟩ := h
    refine ⟨_, (pss_cons (ps_set (i := 1) sc_law_started.nd rfl (Or.inl rfl) pe_dnewN)
    (pss_cons (ps_for PassesOwn.never rfl (pi_range1 rfl G.n_range (pa_cons (pe_callB (lenK (K := K) rfl) (by rfl) G.n_len PySem.boot_len (pa_cons (pv 0) pa_nil)) pa_nil)) (pg_name (i := 2) sc_law_started.nd rfl (Or.inl rfl))
      (pss_one (ps_for PassesOwn.never rfl (pi_range1 rfl G.n_range (pa_cons (pe_callB (lenK (K := K) rfl) (by rfl) G.n_len PySem.boot_len (pa_cons (pv 0) pa_nil)) pa_nil)) (pg_name (i := 3) sc_law_started.nd rfl (Or.inl rfl))
        (pss_one (ps_if (PW.pt (pw_and (pt_cmpR op_ne (pv 2) (pv 3) (nomark _)) (pw_and1 (pt_cmpR (op_eqN hr.units) (pe_slice (slT (K := K) rfl) (pe_ix (ixL (K := K) rfl) (pv 0) (pv 3) (fun _ _ => rfl)) po_none (po_some (pe_callB (lenK (K := K) rfl) (by rfl) G.n_len PySem.boot_len (pa_cons (pe_ix (ixL (K := K) rfl) (pv 0) (pv 2) (fun _ _ => rfl)) pa_nil)))) (pe_ix (ixL (K := K) rfl) (pv 0) (pv 2) (fun _ _ => rfl)) (nomark _)))))
          (pss_one (ps_expr (pe_fn A_law_offer (hr.mono (by decide)) (pa_cons (pv 1) (pa_cons (pe_slice (slT (K := K) rfl) (pe_ix (ixL (K := K) rfl) (pv 0) (pv 3) (fun _ _ => rfl)) (po_some (pe_callB (lenK (K := K) rfl) (by rfl) G.n_len PySem.boot_len (pa_cons (pe_ix (ixL (K := K) rfl) (pv 0) (pv 2) (fun _ _ => rfl)) pa_nil))) po_none) (pa_cons (pe_ix (ixL (K := K) rfl) (pv 0) (pv 3) (fun _ _ => rfl)) pa_nil))))))
          pss_nil)))))
    (pss_one (ps_ret (pv 1))))), ?_⟩
    refine s_seq (s_asg (T := T) (e_dnewN (P := P) (w := w)) fun v1 H1 x1 r1 => ?_)
    obtain ⟨a, rfl, ha0, ha1⟩ := r1
    have hN1 : NM P w H1 a (eBm []) := ⟨[], ha1, fun _ h => (nomatch h), rfl, .nil⟩
    have hget : ∀ i, i < ts.length → (ts.map eT)[i]? = some (eT (ts.getD i [])) := fun i hi => by rw [List.getElem?_map, List.getElem?_eq_getElem hi, getD_eq hi]; rfl
    have len : ∀ {H' : Hp} {σ : L2.St}, Ext T [] H H' → σ[0]? = some (some v) → EvR T (tCB (rLen K) (tCons (tVar 0) tNil)) σ H' (isT (.num (ts.length : Int))) := fun x hs => (e_lenL (e_l hs (x.isL hl))).eqT (by rw [List.length_map])
    have rowLen : ∀ (ps : List (Nat × Nat)), ps.length ≤ 1000 → (ps.foldl (stF ts) []).length ≤ 50000 := fun ps h => by
      have := sts_len ts ps []
      simp only [List.length_nil] at this
      omega
    have flLen : ∀ i, ((List.range i).flatMap (rowI ts.length)).length = i * ts.length := fun i => by
      induction i with
      | zero => simp
      | succ i ih => rw [List.range_succ, List.flatMap_append, List.length_append, ih, List.flatMap_cons, List.flatMap_nil, List.append_nil, List.length_map, List.length_range, Nat.succ_mul]
    dsimp only
    refine s_seq (f_range (T := T) (n := ts.length) (len x1 rfl) (by omega) fun H2 x2 => ⟨fun i σ' H' => ∃ (z2 z3 : Option V), σ' = [some v, some (.ref a), z2, z3] ∧ Ext T [] H H' ∧ NM P w H' a (eBm (((List.range i).flatMap (rowI ts.length)).foldl (stF ts) [])), ⟨none, none, rfl, x1.trans x2, x2.nm hN1 (by simp)⟩, fun i σ' H' hi hP => ?_, fun σ' H' hP => ?_⟩)
    · obtain ⟨z2, z3, rfl, e, hN⟩ := hP
      dsimp only
      refine f_range (T := T) (n := ts.length) (len e rfl) (by omega) fun H3 x3 => ⟨fun j σ' H' => ∃ (z3 : Option V), σ' = [some v, some (.ref a), some (.int (i : Nat)), z3] ∧ Ext T [] H H' ∧ NM P w H' a (eBm (((List.range i).flatMap (rowI ts.length) ++ rowI j i).foldl (stF ts) [])), ⟨z3, rfl, e.trans x3, by rw [show rowI 0 i = [] from rfl, List.append_nil]; exact x3.nm hN (by simp)⟩, fun j σ' H' hj hP => ?_, fun σ' H' hP => ?_⟩
      · obtain ⟨z3, rfl, e, hN⟩ := hP
        have hrow : rowI (j + 1) i = rowI j i ++ [(i, j)] := by unfold rowI; rw [List.range_succ, List.map_append]; rfl
        have hfold : ((List.range i).flatMap (rowI ts.length) ++ rowI (j + 1) i).foldl (stF ts) [] = stF ts (((List.range i).flatMap (rowI ts.length) ++ rowI j i).foldl (stF ts) []) (i, j) := by
          rw [hrow, ← List.append_assoc, List.foldl_append]
          rfl
        have hB := rowLen ((List.range i).flatMap (rowI ts.length) ++ rowI j i) (by
          rw [List.length_append, flLen, List.length_map, List.length_range]
          have : i * ts.length ≤ 20 * 20 := Nat.mul_le_mul (by omega) hn
          omega)
        generalize ((List.range i).flatMap (rowI ts.length) ++ rowI j i).foldl (stF ts) [] = B at hN hB hfold
        have iI : ∀ {H' : Hp}, Ext T [] H H' → EvR T (tOp (rIxL K) (tVar 0) (tVar 2)) [some v, some (.ref a), some (.int (i : Nat)), some (.int (j : Nat))] H' (isT (eT (ts.getD i []))) := fun x => e_ixL (i := i) (e_l rfl (x.isL hl)) (e_t rfl (.int _)) (hget i hi)
        have iJ : ∀ {H' : Hp}, Ext T [] H H' → EvR T (tOp (rIxL K) (tVar 0) (tVar 3)) [some v, some (.ref a), some (.int (i : Nat)), some (.int (j : Nat))] H' (isT (eT (ts.getD j []))) := fun x => e_ixL (i := j) (e_l rfl (x.isL hl)) (e_t rfl (.int _)) (hget j hj)
        dsimp only
        refine s_if (T := T) (b := !decide (((i : Nat) : Int) = ((j : Nat) : Int)) && decide ((ts.getD j []).take (ts.getD i []).length = ts.getD i [])) (t_and (t_test (e_neI (e_t rfl (.int _)) (e_t rfl (.int _)))) fun _ => t_test (e_eqT (e_take (iJ e) (e_lenT (iI e))) (iI e))) (fun hb H4 x4 => ?_) fun hb H4 x4 => ?_
        · have e4 := e.trans x4
          rw [Bool.and_eq_true] at hb
          have hb1 : i ≠ j := fun z => by rw [z] at hb; simp at hb
          have hb2 := of_decide_eq_true hb.2
          refine s_offer (T := T) (P := P) (w := w) rfl (x4.nm hN (by simp)) (e_drop (iJ e4) (e_lenT (iI e4))) (iJ e4) hB fun H5 x5 hN5 => ?_
          refine ⟨_, rfl, e4.own x5 ha0, ?_⟩
          rw [hfold]
          unfold stF
          rw [if_pos ⟨hb1, hb2⟩]
          exact hN5
        · refine ⟨_, rfl, e.trans x4, ?_⟩
          rw [hfold]
          unfold stF
          rw [if_neg fun z => ?_]
          · exact x4.nm hN (by simp)
          · have h1 : decide (((i : Nat) : Int) = ((j : Nat) : Int)) = false := decide_eq_false fun y => z.1 (by omega)
            rw [h1, decide_eq_true z.2] at hb
            cases hb
      · obtain ⟨z3, rfl, e, hN⟩ := hP
        refine ⟨_, _, rfl, e, ?_⟩
        rw [List.range_succ, List.flatMap_append, List.flatMap_cons, List.flatMap_nil, List.append_nil]
        exact hN
    · obtain ⟨z2, z3, rfl, e, hN⟩ := hP
      dsimp only
      refine s_ret (T := T) (R := isV (.ref a)) (e_v rfl) fun v4 H4 x4 r4 => ?_
      obtain rfl : v4 = _ := r4
      exact q _ H4 (e.trans x4) ⟨a, rfl, ha0, x4.nm hN (by simp)⟩
end
end Sf

set_option Elab.async false
set_option linter.all false
set_option maxRecDepth 100000
set_option maxHeartbeats 4000000
/-! _law_shortest. -/
namespace Sf
open PySem L2 LamX
abbrev S_law_shortest : Stmt := topS 66
abbrev N_law_shortest : List Str := ["_law_texts_here", "_law_best", "_law_turn", "_law_grown", "_law_rest", "_law_words", "_law_text"]
abbrev P_law_shortest : List Str := ["_law_texts_here"]
theorem sc_law_shortest : FnScope N_law_shortest P_law_shortest (defScope S_law_shortest) := ⟨rfl, rfl, rfl, by decide +kernel, rfl, by decide +kernel, by decide +kernel⟩
theorem offer_keys (B : Bm) (m w : Tx) : ((offerF B m w).map (·.1)) = B.map (·.1) ∨ (m ∉ B.map (·.1) ∧ (offerF B m w).map (·.1) = B.map (·.1) ++ [m]) := by
  unfold offerF
  split
  · unfold putB
    split
    · left
      rw [List.map_map]
      refine List.map_congr_left fun p _ => ?_
      show (if p.1 = m then (p.1, w) else p).1 = p.1
      split <;> rfl
    · rename_i h
      exact .inr ⟨h, by rw [List.map_append]; rfl⟩
  · exact .inl rfl
/-- what the map keeps true -/
structure Bok (ts : List Tx) (B : Bm) : Prop where
  sound : Sound ts B
  nd : (B.map (·.1)).Nodup
  len : ∀ m w, getB B m = some w → w.length ≤ 6 * B.length
theorem Bok.nil {ts : List Tx} : Bok ts [] := ⟨fun _ _ h => (nomatch h), by simp, fun _ _ h => (nomatch h)⟩
theorem offer_grow (B : Bm) (m w : Tx) : B.length ≤ (offerF B m w).length := by
  rcases offer_keys B m w with h | ⟨_, h⟩
  · have := congrArg List.length h
    rw [List.length_map, List.length_map] at this
    omega
  · have := congrArg List.length h
    rw [List.length_map, List.length_append, List.length_map] at this
    omega
theorem Bok.offer {ts : List Tx} {B : Bm} {m w : Tx} (h : Bok ts B) (hr : Reach ts w m) (hl : w.length ≤ 6 * B.length + 6) : Bok ts (offerF B m w) := by
  refine ⟨offer_sound h.sound hr, ?_, fun m' w' e => ?_⟩
  · rcases offer_keys B m w with e | ⟨hn, e⟩
    · rw [e]; exact h.nd
    · rw [e, List.nodup_append]
      refine ⟨h.nd, by simp, fun x hx y hy e => hn ?_⟩
      rw [List.mem_singleton.mp hy] at e
      rw [← e]
      exact hx
  · have hg := offer_grow B m w
    rw [offer_get] at e
    by_cases k : better B m w = true ∧ m' = m
    · rw [if_pos k] at e
      cases e
      cases hm : getB B m with
      | some o =>
        have hb := k.1
        unfold better at hb
        rw [hm] at hb
        have h1 := h.len m o hm
        have h2 := (klt_def _ _).mp hb
        omega
      | none =>
        have hn : m ∉ B.map (·.1) := fun z => by
          obtain ⟨w', hw'⟩ := getB_some z
          rw [hm] at hw'
          cases hw'
        have e : (offerF B m w).length = B.length + 1 := by
          unfold offerF putB
          rw [if_pos k.1, if_neg hn, List.length_append]
          rfl
        omega
    · rw [if_neg k] at e
      have := h.len m' w' e
      omega
theorem step1_len {w m t w' m' : Tx} (h : step1 w m t = some (w', m')) : w'.length ≤ w.length + t.length := by
  obtain ⟨s, e, h1, _⟩ := step1_app h
  rw [e, List.length_append]
  omega
theorem txF_ok {ts : List Tx} {m w t : Tx} {s : Bm × Bool} (h : Bok ts s.1) (hr : m ≠ [] → Reach ts w m) (hl : w.length ≤ 6 * s.1.length) (ht : t ∈ ts) (h6 : t.length ≤ 6) : Bok ts (txF m w s t).1 ∧ s.1.length ≤ (txF m w s t).1.length := by
  by_cases hm : m = []
  · rw [hm, txF_nil]; exact ⟨h, Nat.le_refl _⟩
  · rw [txF_eq s t hm]
    cases hs : step1 w m t with
    | none => exact ⟨h, Nat.le_refl _⟩
    | some e =>
      have := step1_len hs
      exact ⟨h.offer (.step (hr hm) hm ht hs) (by omega), offer_grow _ _ _⟩
theorem fold_ok {ts : List Tx} {m w : Tx} (hr : m ≠ [] → Reach ts w m) (h6 : ∀ t ∈ ts, t.length ≤ 6) : ∀ {us : List Tx} {s : Bm × Bool}, (∀ t ∈ us, t ∈ ts) → Bok ts s.1 → w.length ≤ 6 * s.1.length → Bok ts (us.foldl (txF m w) s).1 ∧ s.1.length ≤ (us.foldl (txF m w) s).1.length
  | [], _, _, h, _ => ⟨h, Nat.le_refl _⟩
  | u :: us, s, hu, h, hl => by
    rw [List.foldl_cons]
    have hum := hu u List.mem_cons_self
    obtain ⟨h1, h2⟩ := txF_ok h hr hl hum (h6 u hum)
    obtain ⟨h3, h4⟩ := fold_ok hr h6 (us := us) (fun t ht => hu t (List.mem_cons_of_mem _ ht)) h1 (by omega)
    exact ⟨h3, by omega⟩
theorem keyF_ok {ts : List Tx} {m w : Tx} {s : Bm × Bool} (h6 : ∀ t ∈ ts, t.length ≤ 6) (h : Bok ts s.1) (hw : getB s.1 m = some w) : Bok ts (keyF ts s m).1 := by
  unfold keyF
  rw [hw]
  exact (fold_ok (fun _ => h.sound m w hw) h6 (fun _ h => h) h (h.len m w hw)).1
theorem Bok.few {ts : List Tx} {B : Bm} {L : Nat} (h : Bok ts B) (hL : ∀ t ∈ ts, t.length ≤ L) : B.length ≤ ts.length * L + 1 := by
  have h1 := nodup_le (m := [] :: restsOf ts) h.nd fun m hm => by
    obtain ⟨w, hw⟩ := getB_some hm
    by_cases e : m = []
    · rw [e]; exact List.mem_cons_self
    · exact List.mem_cons_of_mem _ ((h.sound m w hw).rest e)
  have h2 := length_rests hL
  rw [List.length_map, List.length_cons] at h1
  omega
theorem startF_ok {ts : List Tx} (h6 : ∀ t ∈ ts, t.length ≤ 6) : Bok ts (startF ts) := by
  have h : ∀ (ps : List (Nat × Nat)) (B : Bm), (∀ p ∈ ps, p.1 < ts.length ∧ p.2 < ts.length) → Bok ts B → Bok ts (ps.foldl (stF ts) B) := fun ps => by
    induction ps with
    | nil => exact fun B _ h => h
    | cons p ps ih =>
      intro B hp h
      rw [List.foldl_cons]
      refine ih _ (fun q hq => hp q (List.mem_cons_of_mem _ hq)) ?_
      unfold stF
      split
      · rename_i hc
        have h1 := hp p List.mem_cons_self
        have g1 : ts[p.1]? = some (ts.getD p.1 []) := by rw [List.getElem?_eq_getElem h1.1, getD_eq h1.1]
        have g2 : ts[p.2]? = some (ts.getD p.2 []) := by rw [List.getElem?_eq_getElem h1.2, getD_eq h1.2]
        have := h6 _ (List.mem_of_getElem? g2)
        exact h.offer (.base g2 g1 (fun z => hc.1 z.symm) hc.2) (by omega)
      · exact h
  refine h _ [] (fun p hp => ?_) .nil
  obtain ⟨i, hi, hp⟩ := List.mem_flatMap.mp hp
  obtain ⟨j, hj, rfl⟩ := List.mem_map.mp hp
  exact ⟨List.mem_range.mp hi, List.mem_range.mp hj⟩
theorem turns_stop {ts : List Tx} {i : Nat} (h : (turnF ts (turns ts i)).2 = false) : ∀ k, turns ts (i + k) = turns ts i
  | 0 => rfl
  | k + 1 => by
    show (turnF ts (turns ts (i + k))).1 = _
    rw [turns_stop h k]
    exact turn_flag h
abbrev eOT (o : Option Tx) : D := (o.map eT).getD .none
def cShortest : List V → Hp → RP → Prop := fun vs H R => ∃ (v : V) (ts : List Tx), vs = [v] ∧ isL (ts.map eT) v H ∧ ts.length ≤ 16 ∧ (∀ t ∈ ts, t.length ≤ 6) ∧ R = fun v H' => ∃ o, First ts o ∧ IsD H' v (eOT o)
section
variable {T : List Tab} {P : Program} {w : World} {K : PySem.W.Frag} {mg : Str → Option Value} {base : Heap}
/-- grown = offer(..) or grown -/
theorem s_grow {σ : L2.St} {H : Hp} {E : Ends} {X : XK} {a : Addr} {o i3 : Nat} {B : Bm} {m ws : Tx} {tr tw : TE} {g : Bool} (h0 : σ[o]? = some (some (.ref a))) (h3 : σ[i3]? = some (some (.bl g))) (hB : NM P w H a (eBm B)) (hr : EvR T tr σ H (isT (eT m))) (hw : EvR T tw σ H (isT (eT ws))) (hz : B.length ≤ 50000)
    (kk : ∀ H', Ext T [a] H H' → NM P w H' a (eBm (offerF B m ws)) → E.nx (σ.set i3 (some (.bl (better B m ws || g)))) H') : tAsg (tOrV (tCall (SpOffer P w T) [] X (tCons (tVar o) (tCons tr (tCons tw tNil)))) (tVar i3)) (gName i3) E σ H := by
  refine s_offer h0 hB hr hw hz fun H' x h => ⟨better B m ws, rfl, ?_⟩
  have := kk H' x h
  cases hb : better B m ws with
  | true =>
    rw [hb] at this
    exact this
  | false =>
    rw [hb] at this
    exact ⟨_, h3, this⟩
theorem ok_law_shortest {f : Addr} {fd : FuncData} (F : Fun K "_law_shortest" "_law_shortest" S_law_shortest f fd) (G : Gm mg) (A_law_offer : At P w K mg base 1 "_law_offer" P_law_offer (SpOffer P w T)) (A_law_started : At P w K mg base 2 "_law_started" P_law_started (SpP T (cStarted P w))) : FnOk P w K mg base CX0 3 f fd P_law_shortest (SpP T cShortest) := by
  refine F.ok sc_law_shortest (fun vs H Q E h => ?_) (fun cdv A outer s H vs Q E hr h => ?_)
  · obtain ⟨R, ⟨_, _, rfl, _⟩, _⟩ := h
    rfl
  · obtain ⟨R, ⟨v, ts, rfl, hl, hn, h6, rfl⟩, q⟩ := h
    refine ⟨_, (pss_cons (ps_set (i := 1) sc_law_shortest.nd rfl (Or.inl rfl) (pe_fn A_law_started (hr.mono (by decide)) (pa_cons (pv 0) pa_nil)))
    (pss_cons (ps_for PassesOwn.never rfl (pi_range1 rfl G.n_range (pa_cons pe_int pa_nil)) (pg_name (i := 2) sc_law_shortest.nd rfl (Or.inl rfl))
      (pss_cons (ps_set (i := 3) sc_law_shortest.nd rfl (Or.inl rfl) pe_bl)
      (pss_cons (ps_for PassesOwn.never rfl (pi_listK (K := K) rfl (pe_callTy (call_nlist rfl) (by rfl) G.n_list (by decide +kernel) (pa_cons (pv 1) pa_nil))) (pg_name (i := 4) sc_law_shortest.nd rfl (Or.inl rfl))
        (pss_cons (ps_set (i := 5) sc_law_shortest.nd rfl (Or.inl rfl) (pe_ix (nixK (P := P) (w := w) rfl rfl hr.units) (pv 1) (pv 4) (fun _ _ => rfl)))
        (pss_one (ps_for PassesOwn.never rfl (pi_listK (K := K) rfl (pv 0)) (pg_name (i := 6) sc_law_shortest.nd rfl (Or.inl rfl))
          (pss_one (ps_if (PW.pt (pw_and (pt_cmpR op_gt (pe_callB (lenK (K := K) rfl) (by rfl) G.n_len PySem.boot_len (pa_cons (pv 4) pa_nil)) pe_int (nomark _)) (pw_and1 (pt_cmpR (op_eqN hr.units) (pe_slice (slT (K := K) rfl) (pv 6) po_none (po_some (pe_callB (lenK (K := K) rfl) (by rfl) G.n_len PySem.boot_len (pa_cons (pv 4) pa_nil)))) (pv 4) (nomark _)))))
            (pss_one (ps_set (i := 3) sc_law_shortest.nd rfl (Or.inl rfl) (pe_or (pe_fn A_law_offer (hr.mono (by decide)) (pa_cons (pv 1) (pa_cons (pe_slice (slT (K := K) rfl) (pv 6) (po_some (pe_callB (lenK (K := K) rfl) (by rfl) G.n_len PySem.boot_len (pa_cons (pv 4) pa_nil))) po_none) (pa_cons (pe_op (catT (K := K) rfl) (pv 5) (pe_slice (slT (K := K) rfl) (pv 6) (po_some (pe_callB (lenK (K := K) rfl) (by rfl) G.n_len PySem.boot_len (pa_cons (pv 4) pa_nil))) po_none)) pa_nil)))) (pe_one (pv 3)))))
            (pss_one (ps_if (PW.pt (pw_and (pt_cmpR op_gt (pe_callB (lenK (K := K) rfl) (by rfl) G.n_len PySem.boot_len (pa_cons (pv 4) pa_nil)) pe_int (nomark _)) (pw_and1 (pt_cmpR (op_eqN hr.units) (pe_slice (slT (K := K) rfl) (pv 4) po_none (po_some (pe_callB (lenK (K := K) rfl) (by rfl) G.n_len PySem.boot_len (pa_cons (pv 6) pa_nil)))) (pv 6) (nomark _)))))
              (pss_one (ps_set (i := 3) sc_law_shortest.nd rfl (Or.inl rfl) (pe_or (pe_fn A_law_offer (hr.mono (by decide)) (pa_cons (pv 1) (pa_cons (pe_slice (slT (K := K) rfl) (pv 4) (po_some (pe_callB (lenK (K := K) rfl) (by rfl) G.n_len PySem.boot_len (pa_cons (pv 6) pa_nil))) po_none) (pa_cons (pv 5) pa_nil)))) (pe_one (pv 3)))))
              pss_nil))))))))
      (pss_one (ps_if (pt_not (pt_val (pv 3)))
        (pss_one ps_break)
        pss_nil)))))
    (pss_one (ps_ret (pe_nget2 hr.units (pv 1) (pe_tup pa_nil) pe_non ⟨rfl, rfl, rfl, rfl⟩))))), ?_⟩
    have n96 : ts.length * 6 ≤ 96 := by omega
    have hl' := hl
    obtain ⟨b, tvs, rfl, hb, hbd⟩ := hl'
    refine s_seq (s_asg (T := T) (R := fun v H' => ∃ a, v = .ref a ∧ H a = none ∧ NM P w H' a (eBm (startF ts))) (e_fn (a_any (e_l rfl hl)) fun vs H1 x1 hv => ?_) fun v1 H1 x1 r1 => ?_)
    · obtain ⟨u, rfl, hu⟩ := hv
      refine ⟨_, ⟨u, ts, rfl, hu, by omega, rfl⟩, fun v H2 r => ?_⟩
      obtain ⟨a, e, h0, hN⟩ := r
      exact ⟨a, e, x1.free _ h0, hN⟩
    obtain ⟨a, rfl, ha0, hN1⟩ := r1
    have nba : b ≠ a := by rintro rfl; rw [hb] at ha0; cases ha0
    have list : ∀ {H' : Hp} {σ : L2.St}, Ext T [] H H' → σ[0]? = some (some (.ref b)) → EvR T (tVar 0) σ H' (isL (ts.map eT)) := fun x hs => e_l hs (x.isL hl)
    have fin : ∀ {H' : Hp} {σ : L2.St} {E : Ends}, E.rt = Q → Ext T [] H H' → σ[1]? = some (some (.ref a)) → NM P w H' a (eBm (turns ts 200)) → tRet (tNGet2 P w (tVar 1) (tTup tNil) (tC .non)) E σ H' := fun {H' σ E} hE e hs hN => by
      refine s_ret (T := T) (R := isT (eOT (getB (turns ts 200) []))) ((e_ngetM (P := P) (w := w) (ds := []) (e_v hs) (e_tup a_nil (by decide)) e_non hN (by decide)).eqT ?_) fun v H2 x2 r2 => ?_
      · rw [show (NestedKey.tup []) = eT [] from rfl, eBm_find]
      · rw [hE]
        exact q v H2 (e.trans x2) ⟨_, turns_first h6 (by omega), r2⟩
    dsimp only
    refine s_seq (f_range (T := T) (n := 200) e_int (by decide) fun H2 x2 => ⟨fun i σ' H' => ∃ (z2 z3 z4 z5 z6 : Option V), σ' = [some (.ref b), some (.ref a), z2, z3, z4, z5, z6] ∧ Ext T [] H H' ∧ NM P w H' a (eBm (turns ts i)) ∧ Bok ts (turns ts i), ⟨none, none, none, none, none, rfl, x1.trans x2, x2.nm hN1 (by simp), startF_ok h6⟩, fun i σ' H' hi hP => ?_, fun σ' H' hP => ?_⟩)
    · obtain ⟨z2, z3, z4, z5, z6, rfl, e, hN, hOk⟩ := hP
      have hfew := hOk.few h6
      dsimp only
      refine s_seq (s_asg (T := T) (R := isB false) e_bl fun v3 H3 x3 r3 => ?_)
      obtain rfl : v3 = _ := r3
      have hN3 := x3.nm hN (by simp)
      dsimp only
      refine s_seq (f_list (T := T) (ds := (eBm (turns ts i)).map (·.1)) (R := isLN H3 ((eBm (turns ts i)).map (·.1))) (e_nlistS (P := P) (w := w) (e_v rfl) hN3.ns) fun vk H4 x4 r4 => ?_)
      obtain ⟨lk, kvs, rfl, hk0, hk4, hkd⟩ := r4
      have nka : lk ≠ a := by
        rintro rfl
        obtain ⟨ks, hh, _⟩ := hN3
        rw [hh] at hk0
        cases hk0
      have e4 := (e.trans x3).trans x4
      refine ⟨lk, kvs, rfl, hk4, hkd, [a], fun j σ' H' => ∃ (z4 z5 z6 : Option V) (s : Bm × Bool), σ' = [some (.ref b), some (.ref a), some (.int (i : Nat)), some (.bl s.2), z4, z5, z6] ∧ Ext T [a] H4 H' ∧ NM P w H' a (eBm s.1) ∧ s = (((turns ts i).map (·.1)).take j).foldl (keyF ts) (turns ts i, false) ∧ Bok ts s.1 ∧ (∀ m ∈ (turns ts i).map (·.1), ∃ w, getB s.1 m = some w), by simpa using nka,
        ⟨z4, z5, z6, (turns ts i, false), rfl, Ext.refl _, x4.nm hN3 (by simp), rfl, hOk, fun m hm => getB_some hm⟩, fun j σ' H' hP => ?_, fun j d x σ' H' hd hx hP => ?_, fun σ' H' hP => ?_⟩
      · obtain ⟨_, _, _, _, _, e, _⟩ := hP
        exact e
      · obtain ⟨z4, z5, z6, s, rfl, e5, hN5, hs, hOk5, hkeys⟩ := hP
        rw [eBm_keys, List.getElem?_map] at hd
        obtain ⟨m, hdm, rfl⟩ := Option.map_eq_some_iff.mp hd
        have hmk := List.mem_of_getElem? hdm
        obtain ⟨wd, hwd⟩ := hkeys m hmk
        have hlw := hOk5.len m wd hwd
        have hf5 := hOk5.few h6
        have hrw : m ≠ [] → Reach ts wd m := fun _ => hOk5.sound m wd hwd
        have eH5 : Ext T [] H H' := e4.own e5 ha0
        dsimp only
        refine s_seq (s_asg (T := T) (R := isT (eT wd)) (e_nixM (P := P) (w := w) (e_v rfl) (e_t rfl hx) hN5 (by show (eT m).depth ≤ 8; rw [eT_depth]; decide) (by show findK _ (eT m) = _; rw [eBm_find, hwd]; rfl)) fun v5 H6 x6 r6 => ?_)
        have eH6 := eH5.trans x6
        have hN6 := x6.nm hN5 (by simp)
        have hx6 := x6.isT hx
        dsimp only
        refine f_list (T := T) (ds := ts.map eT) (R := isV (.ref b)) (e_v rfl) fun vb H7 x7 evb => ⟨b, tvs, evb, (eH6.trans x7).lst hb (by simp), hbd.mono (eH6.trans x7).tup, [a], fun k σ' H' => ∃ (z6 : Option V) (s' : Bm × Bool), σ' = [some (.ref b), some (.ref a), some (.int (i : Nat)), some (.bl s'.2), some x, some v5, z6] ∧ Ext T [a] H7 H' ∧ NM P w H' a (eBm s'.1) ∧ s' = (ts.take k).foldl (txF m wd) s ∧ Bok ts s'.1 ∧ wd.length ≤ 6 * s'.1.length, by simpa using nba,
          ⟨z6, s, rfl, Ext.refl _, x7.nm hN6 (by simp), rfl, hOk5, hlw⟩, fun k σ' H' hP => ?_, fun k d y σ' H' hd hy hP => ?_, fun σ' H' hP => ?_⟩
        · obtain ⟨_, _, _, e, _⟩ := hP
          exact e
        · obtain ⟨z6, s', rfl, e8, hN8, hs', hOk8, hlw8⟩ := hP
          rw [List.getElem?_map] at hd
          obtain ⟨t, hdt, rfl⟩ := Option.map_eq_some_iff.mp hd
          have htm := List.mem_of_getElem? hdt
          have ht6 := h6 t htm
          have htk : (ts.take (k + 1)).foldl (txF m wd) s = txF m wd s' t := by
            rw [List.take_add_one, hdt, List.foldl_append, ← hs']
            rfl
          have hf8 := hOk8.few h6
          have hz8 : s'.1.length ≤ 50000 := by omega
          obtain ⟨ok9, gr9⟩ := txF_ok hOk8 hrw hlw8 htm ht6
          have hx8 : IsD H' x (eT m) := e8.isT (x7.isT hx6)
          have r8 : IsD H' v5 (eT wd) := e8.isT (x7.isT r6)
          have hy : IsD H' y (eT t) := hy
          dsimp only
          have posM : ∀ {H'' : Hp} {σ : L2.St}, Ext T [] H' H'' → σ[4]? = some (some x) → EvT T (tTest (tOp (rI0 fun i j => V.bl (decide (j < i))) (tCB (rLen K) (tCons (tVar 4) tNil)) (tC (.int 0)))) σ H'' (decide (m ≠ [])) := fun xx hs => (t_test (EvR.bool (e_I0 (e_lenT (e_t hs (xx.isT hx8))) e_int))).eq (decide_eq_decide.mpr ⟨fun z y => by rw [y] at z; exact absurd z (by decide), fun z => by
            have := List.length_pos_iff.mpr z
            omega⟩)
          refine s_if (T := T) (b := decide (m ≠ []) && decide (t.take m.length = m)) (t_and (posM (Ext.refl _) rfl) fun _ => t_test (e_eqT (e_take (e_t rfl hy) (e_lenT (e_t rfl hx8))) (e_t rfl hx8))) (fun hb H9 x9 => ?_) fun hb H9 x9 => ?_
          · rw [Bool.and_eq_true] at hb
            have hc : m ≠ [] ∧ t.take m.length = m := ⟨of_decide_eq_true hb.1, of_decide_eq_true hb.2⟩
            have eF : txF m wd s' t = (offerF s'.1 (t.drop m.length) (wd ++ t.drop m.length), better s'.1 (t.drop m.length) (wd ++ t.drop m.length) || s'.2) := by
              unfold txF; rw [if_pos hc]
            have hx9 := x9.isT hx8
            have hy9 : IsD H9 y (eT t) := x9.isT hy
            refine s_grow (T := T) (P := P) (w := w) (i3 := 3) rfl rfl (x9.nm hN8 (by simp)) (e_drop (e_t rfl hy9) (e_lenT (e_t rfl hx9))) (e_catT (e_t rfl (x9.isT r8)) (e_drop (e_t rfl hy9) (e_lenT (e_t rfl hx9))) (by rw [List.length_drop]; omega)) hz8 fun H10 x10 hN10 => ?_
            refine ⟨_, txF m wd s' t, by rw [eF]; rfl, (e8.trans x9.wide).trans x10, by rw [eF]; exact hN10, htk.symm, ok9, by omega⟩
          · have hc1 : ¬ (m ≠ [] ∧ t.take m.length = m) := fun z => by
              rw [decide_eq_true z.1, decide_eq_true z.2] at hb
              cases hb
            have hx9 := x9.isT hx8
            have hy9 : IsD H9 y (eT t) := x9.isT hy
            refine s_if (T := T) (b := decide (m ≠ []) && decide (m.take t.length = t)) (t_and (posM x9 rfl) fun _ => t_test (e_eqT (e_take (e_t rfl hx9) (e_lenT (e_t rfl hy9))) (e_t rfl hy9))) (fun hb H10 x10 => ?_) fun hb H10 x10 => ?_
            · rw [Bool.and_eq_true] at hb
              have hc : m ≠ [] ∧ m.take t.length = t := ⟨of_decide_eq_true hb.1, of_decide_eq_true hb.2⟩
              have eF : txF m wd s' t = (offerF s'.1 (m.drop t.length) wd, better s'.1 (m.drop t.length) wd || s'.2) := by
                unfold txF; rw [if_neg hc1, if_pos hc]
              have x90 := x9.trans x10
              refine s_grow (T := T) (P := P) (w := w) (i3 := 3) rfl rfl (x90.nm hN8 (by simp)) (e_drop (e_t rfl (x90.isT hx8)) (e_lenT (e_t rfl (x90.isT hy)))) (e_t rfl (x90.isT r8)) hz8 fun H11 x11 hN11 => ?_
              refine ⟨_, txF m wd s' t, by rw [eF]; rfl, (e8.trans x90.wide).trans x11, by rw [eF]; exact hN11, htk.symm, ok9, by omega⟩
            · have hc : ¬ (m ≠ [] ∧ m.take t.length = t) := fun z => by
                rw [decide_eq_true z.1, decide_eq_true z.2] at hb
                cases hb
              have eF : txF m wd s' t = s' := by
                unfold txF; rw [if_neg hc1, if_neg hc]
              have x90 := x9.trans x10
              exact ⟨_, txF m wd s' t, by rw [eF]; rfl, e8.trans x90.wide, by rw [eF]; exact x90.nm hN8 (by simp), htk.symm, ok9, by omega⟩
        · obtain ⟨z6, s', rfl, e8, hN8, hs', hOk8, hlw8⟩ := hP
          rw [List.length_map, List.take_length] at hs'
          have hkF : s' = keyF ts s m := by unfold keyF; rw [hwd]; exact hs'
          have htk : (((turns ts i).map (·.1)).take (j + 1)).foldl (keyF ts) (turns ts i, false) = s' := by
            rw [List.take_add_one, hdm, List.foldl_append, ← hs, hkF]
            rfl
          refine ⟨_, _, _, s', rfl, (e5.trans (x6.trans x7).wide).trans e8, hN8, htk.symm, hOk8, fun m' hm' => ?_⟩
          obtain ⟨w', hw'⟩ := hkeys m' hm'
          obtain ⟨v', hv', _⟩ := keyF_mono (ts := ts) (m := m) (show Has s.1 m' w' from ⟨w', hw', klt_irrefl _⟩)
          rw [hkF]
          exact ⟨v', hv'⟩
      · obtain ⟨z4, z5, z6, s, rfl, e5, hN5, hs, hOk5, hkeys⟩ := hP
        rw [eBm_keys, List.length_map, List.take_length] at hs
        have hsT : s = turnF ts (turns ts i) := hs
        have eH5 : Ext T [] H H' := e4.own e5 ha0
        dsimp only
        refine s_if (T := T) (b := !s.2) (t_not (t_b (e_b rfl))) (fun hb H6 x6 => ?_) fun hb H6 x6 => ?_
        · have hfl : (turnF ts (turns ts i)).2 = false := by rw [← hsT]; simpa using hb
          have hst := turns_stop hfl (200 - i)
          rw [show i + (200 - i) = 200 by omega] at hst
          have hs1 : s.1 = turns ts 200 := by
            rw [hsT, turn_flag hfl, hst]
          refine fin rfl (eH5.trans x6) rfl ?_
          rw [← hs1]
          exact x6.nm hN5 (by simp)
        · have e1 : turns ts (i + 1) = s.1 := by rw [hsT]; rfl
          refine ⟨_, _, _, _, _, rfl, eH5.trans x6, ?_, ?_⟩
          · rw [e1]; exact x6.nm hN5 (by simp)
          · rw [e1]; exact hOk5
    · obtain ⟨z2, z3, z4, z5, z6, rfl, e, hN, hOk⟩ := hP
      exact fin rfl e rfl hN
end
end Sf

set_option Elab.async false
set_option linter.all false
set_option maxRecDepth 100000
set_option maxHeartbeats 1000000
/-! Plain mathematics: two unlike rows that run together alike come to a double. -/
namespace Sf
open PySem
abbrev cat (ρ : List Ph) : Tx := ρ.flatMap (·.1)
abbrev txs (ps : List Ph) : List Tx := ps.map (·.1)
theorem take_of_app {a b c d : Tx} (h : a ++ b = c ++ d) (hl : a.length ≤ c.length) : c.take a.length = a ∧ b = c.drop a.length ++ d := by
  have h1 := congrArg (List.take a.length) h
  have h2 := congrArg (List.drop a.length) h
  rw [List.take_append_of_le_length (Nat.le_refl _), List.take_length, List.take_append_of_le_length hl] at h1
  rw [List.drop_append_of_le_length (Nat.le_refl _), List.drop_length, List.nil_append, List.drop_append_of_le_length hl] at h2
  exact ⟨h1.symm, h2⟩
section
variable {ps : List Ph}
/-- one row is ahead by m -/
theorem sp_go : ∀ (n : Nat) {ρ σ : List Ph} {w m : Tx}, ρ.length + σ.length ≤ n → (∀ p ∈ ρ, p ∈ ps) → (∀ p ∈ σ, p ∈ ps) → Reach (txs ps) w m → m ≠ [] → cat σ = m ++ cat ρ → ∃ w', Reach (txs ps) w' [] ∧ w'.length ≤ w.length + (cat ρ).length
  | n, ρ, [], w, m, _, _, _, _, hm, h => by
    have h : [] = m ++ cat ρ := h
    cases m with
    | nil => exact absurd rfl hm
    | cons a m => cases h
  | 0, ρ, s :: σ, _, _, hn, _, _, _, _, _ => by
    rw [List.length_cons] at hn
    omega
  | n + 1, ρ, s :: σ, w, m, hn, hρ, hσ, hr, hm, h => by
    rw [List.length_cons] at hn
    have hs : s.1 ∈ txs ps := List.mem_map.mpr ⟨s, hσ s List.mem_cons_self, rfl⟩
    have hσ' : ∀ p ∈ σ, p ∈ ps := fun p hp => hσ p (List.mem_cons_of_mem _ hp)
    have h : s.1 ++ cat σ = m ++ cat ρ := by rw [← h]; rfl
    by_cases hl : s.1.length ≤ m.length
    · obtain ⟨h1, h2⟩ := take_of_app h hl
      have hst : step1 w m s.1 = some (w, m.drop s.1.length) := by unfold step1; rw [if_pos h1]
      have hr' := hr.step hm hs hst
      by_cases he : m.drop s.1.length = []
      · rw [he] at hr'
        exact ⟨w, hr', by omega⟩
      · exact sp_go n (by omega) hρ hσ' hr' he h2
    · obtain ⟨h1, h2⟩ := take_of_app h.symm (by omega)
      have hst : step1 w m s.1 = some (w ++ s.1.drop m.length, s.1.drop m.length) := by
        unfold step1
        rw [if_neg (fun z => by
          have := congrArg List.length z
          rw [List.length_take] at this
          omega), if_pos h1]
      have hr' := hr.step hm hs hst
      have he : s.1.drop m.length ≠ [] := fun z => by
        have := congrArg List.length z
        rw [List.length_drop, List.length_nil] at this
        omega
      obtain ⟨w', k1, k2⟩ := sp_go n (by omega) hσ' hρ hr' he h2
      refine ⟨w', k1, ?_⟩
      have := congrArg List.length h2
      rw [List.length_append] at this k2
      omega
/-- two unlike rows -/
theorem sp_rows (hne : ∀ p ∈ ps, p.1 ≠ []) : ∀ {ρ σ : List Ph}, (∀ p ∈ ρ, p ∈ ps) → (∀ p ∈ σ, p ∈ ps) → ρ ≠ σ → cat ρ = cat σ → ∃ w', Reach (txs ps) w' [] ∧ w'.length ≤ (cat ρ).length
  | [], [], _, _, hn, _ => absurd rfl hn
  | [], s :: σ, _, hσ, _, h => by
    have h : [] = s.1 ++ cat σ := h
    have := hne s (hσ s List.mem_cons_self)
    cases hs : s.1 with
    | nil => exact absurd hs this
    | cons a l => rw [hs] at h; cases h
  | p :: ρ, [], hρ, _, _, h => by
    have h : p.1 ++ cat ρ = [] := h
    have := hne p (hρ p List.mem_cons_self)
    cases hs : p.1 with
    | nil => exact absurd hs this
    | cons a l => rw [hs] at h; cases h
  | p :: ρ, s :: σ, hρ, hσ, hn, h => by
    have hρ' : ∀ q ∈ ρ, q ∈ ps := fun q hq => hρ q (List.mem_cons_of_mem _ hq)
    have hσ' : ∀ q ∈ σ, q ∈ ps := fun q hq => hσ q (List.mem_cons_of_mem _ hq)
    have h : p.1 ++ cat ρ = s.1 ++ cat σ := h
    have hX : (cat (p :: ρ)).length = p.1.length + (cat ρ).length := by
      show (p.1 ++ cat ρ).length = _
      rw [List.length_append]
    by_cases e : p = s
    · subst e
      have h' := List.append_cancel_left h
      obtain ⟨w', k1, k2⟩ := sp_rows hne hρ' hσ' (fun z => hn (by rw [z])) h'
      exact ⟨w', k1, by omega⟩
    · obtain ⟨i, hi, ei⟩ := List.mem_iff_getElem.mp (hρ p List.mem_cons_self)
      obtain ⟨j, hj, ej⟩ := List.mem_iff_getElem.mp (hσ s List.mem_cons_self)
      have hij : i ≠ j := by
        rintro rfl
        exact e (ei.symm.trans ej)
      have gi : (txs ps)[i]? = some p.1 := by rw [List.getElem?_map, List.getElem?_eq_getElem hi, ei]; rfl
      have gj : (txs ps)[j]? = some s.1 := by rw [List.getElem?_map, List.getElem?_eq_getElem hj, ej]; rfl
      have hlen := congrArg List.length h
      rw [List.length_append, List.length_append] at hlen
      by_cases hl : s.1.length ≤ p.1.length
      · obtain ⟨h1, h2⟩ := take_of_app h.symm hl
        have hr := Reach.base gi gj hij h1
        by_cases he : p.1.drop s.1.length = []
        · rw [he] at hr
          exact ⟨p.1, hr, by omega⟩
        · obtain ⟨w', k1, k2⟩ := sp_go _ (Nat.le_refl _) hρ' hσ' hr he h2
          exact ⟨w', k1, by omega⟩
      · obtain ⟨h1, h2⟩ := take_of_app h (by omega)
        have hr := Reach.base gj gi (fun z => hij z.symm) h1
        by_cases he : s.1.drop p.1.length = []
        · rw [he] at hr
          exact ⟨s.1, hr, by omega⟩
        · obtain ⟨w', k1, k2⟩ := sp_go _ (Nat.le_refl _) hσ' hρ' hr he h2
          exact ⟨w', k1, by omega⟩
/-- no double: rows are told apart -/
theorem ud_of_none (hne : ∀ p ∈ ps, p.1 ≠ []) (h : First (txs ps) none) : UD ps := fun ρ σ hρ hσ e => by
  by_cases k : ρ = σ
  · exact k
  · obtain ⟨w, hw, _⟩ := sp_rows hne hρ hσ k e
    exact absurd hw (h w)
/-- the rows behind a word that is come to -/
theorem reach_rows {w m : Tx} (h : Reach (txs ps) w m) : ∃ α β : List Ph, (∀ p ∈ α, p ∈ ps) ∧ (∀ p ∈ β, p ∈ ps) ∧ cat α = w ∧ cat β ++ m = w := by
  induction h with
  | base h1 h2 _ h4 =>
    rename_i i j t o
    rw [List.getElem?_map] at h1 h2
    obtain ⟨p, hp, rfl⟩ := Option.map_eq_some_iff.mp h1
    obtain ⟨s, hs, rfl⟩ := Option.map_eq_some_iff.mp h2
    refine ⟨[p], [s], fun q hq => ?_, fun q hq => ?_, by simp, ?_⟩
    · rw [List.mem_singleton.mp hq]; exact List.mem_of_getElem? hp
    · rw [List.mem_singleton.mp hq]; exact List.mem_of_getElem? hs
    · show [s].flatMap (·.1) ++ _ = _
      rw [List.flatMap_cons, List.flatMap_nil, List.append_nil]
      have := List.take_append_drop s.1.length p.1
      rw [h4] at this
      exact this
  | step hr0 hm0 h3 h4 ih =>
    rename_i w0 m0 t w' m'
    obtain ⟨α, β, ha, hb, e1, e2⟩ := ih
    obtain ⟨p, hp, rfl⟩ := List.mem_map.mp h3
    have hb' : ∀ q ∈ β ++ [p], q ∈ ps := fun q hq => by
      rcases List.mem_append.mp hq with hq | hq
      · exact hb q hq
      · rw [List.mem_singleton.mp hq]; exact hp
    have hcat : cat (β ++ [p]) = cat β ++ p.1 := by
      show (β ++ [p]).flatMap (·.1) = _
      rw [List.flatMap_append, List.flatMap_cons, List.flatMap_nil, List.append_nil]
    unfold step1 at h4
    by_cases k1 : m0.take p.1.length = p.1
    · rw [if_pos k1] at h4
      injection h4 with h4
      injection h4 with h5 h6
      refine ⟨α, β ++ [p], ha, hb', by rw [e1, h5], ?_⟩
      rw [hcat, ← h6, ← h5, List.append_assoc]
      have := List.take_append_drop p.1.length m0
      rw [k1] at this
      rw [this]
      exact e2
    · rw [if_neg k1] at h4
      by_cases k2 : p.1.take m0.length = m0
      · rw [if_pos k2] at h4
        injection h4 with h4
        injection h4 with h5 h6
        refine ⟨β ++ [p], α, hb', ha, ?_, by rw [e1, ← h5, ← h6]⟩
        rw [hcat, ← h5, ← e2, List.append_assoc]
        have := List.take_append_drop m0.length p.1
        rw [k2] at this
        rw [this]
      · rw [if_neg k2] at h4; cases h4
/-- behind a place of the first double at most one row stands -/
theorem one_behind (hne : ∀ p ∈ ps, p.1 ≠ []) {W : Tx} (h : First (txs ps) (some W)) {n : Nat} (hn : 0 < n) (hW : 0 < W.length) {ρ σ : List Ph} (h1 : Prs ps (W.drop n) ρ) (h2 : Prs ps (W.drop n) σ) : ρ = σ := by
  by_cases k : ρ = σ
  · exact k
  · obtain ⟨w, hw, hl⟩ := sp_rows hne h1.1 h2.1 k (h1.2.trans h2.2.symm)
    have hlen : (cat ρ).length < W.length := by
      show (ρ.flatMap (·.1)).length < _
      rw [h1.2, List.length_drop]
      omega
    have := h.2 w hw
    rw [(klt_def w W).mpr (.inl (by omega))] at this
    cases this
theorem few_double (hne : ∀ p ∈ ps, p.1 ≠ []) (hps : ps.length ≤ 16) {W : Tx} (h : First (txs ps) (some W)) (hW : 0 < W.length) {n : Nat} {l : List (List Tx)} (hn : l.Nodup) (hl : ∀ x ∈ l, ∃ ρ, Prs ps (W.drop n) ρ ∧ acts ρ = x) : l.length ≤ 200 := by
  by_cases h0 : 0 < n
  · have h1 : ∀ x ∈ l, ∀ y ∈ l, x = y := fun x hx y hy => by
      obtain ⟨ρ, p1, rfl⟩ := hl x hx
      obtain ⟨σ, p2, rfl⟩ := hl y hy
      rw [one_behind hne h h0 hW p1 p2]
    cases l with
    | nil => decide
    | cons a l =>
      cases l with
      | nil => show 1 ≤ 200; decide
      | cons b l =>
        have := h1 a (by simp) b (by simp)
        subst this
        simp at hn
  · obtain rfl : n = 0 := by omega
    rw [List.drop_zero] at hl
    -- each by its first phrase
    have hf : ∀ x : List Tx, ∃ p : Ph, x ∈ l → ∃ ρ, Prs ps W (p :: ρ) ∧ acts (p :: ρ) = x := fun x => by
      by_cases hx : x ∈ l
      · obtain ⟨ρ, p1, rfl⟩ := hl x hx
        cases ρ with
        | nil =>
          have := p1.2
          rw [← this] at hW
          exact absurd hW (by decide)
        | cons p ρ => exact ⟨p, fun _ => ⟨ρ, p1, rfl⟩⟩
      · exact ⟨([], []), fun z => absurd z hx⟩
    have hex : ∃ f : List Tx → Ph, ∀ x ∈ l, ∃ ρ, Prs ps W (f x :: ρ) ∧ acts (f x :: ρ) = x := ⟨fun x => Classical.choose (hf x), fun x hx => Classical.choose_spec (hf x) hx⟩
    obtain ⟨f, hf⟩ := hex
    have hnd : (l.map f).Nodup := by
      unfold List.Nodup
      rw [List.pairwise_map]
      refine List.Pairwise.imp_of_mem ?_ hn
      intro x y hx hy hxy e
      obtain ⟨ρ, p1, e1⟩ := hf x hx
      obtain ⟨σ, p2, e2⟩ := hf y hy
      rw [← e] at p2 e2
      have hp : f x ∈ ps := p1.1 _ List.mem_cons_self
      have hpos : 0 < (f x).1.length := List.length_pos_iff.mpr (hne _ hp)
      have q1 : (f x).1 ++ cat ρ = W := p1.2
      have q2 : (f x).1 ++ cat σ = W := p2.2
      have d1 : W.drop (f x).1.length = cat ρ := by rw [← q1]; simp
      have d2 : W.drop (f x).1.length = cat σ := by rw [← q2]; simp
      have := one_behind hne h hpos hW (ρ := ρ) (σ := σ) ⟨fun q hq => p1.1 q (List.mem_cons_of_mem _ hq), d1.symm⟩ ⟨fun q hq => p2.1 q (List.mem_cons_of_mem _ hq), d2.symm⟩
      rw [this] at e1
      exact hxy (e1.symm.trans e2)
    have hle := nodup_le (m := ps) hnd fun p hp => by
      obtain ⟨x, hx, rfl⟩ := List.mem_map.mp hp
      obtain ⟨ρ, p1, _⟩ := hf x hx
      exact p1.1 _ List.mem_cons_self
    rw [List.length_map] at hle
    omega
end
end Sf

set_option Elab.async false
set_option linter.all false
set_option maxRecDepth 100000
set_option maxHeartbeats 4000000
/-! law. -/
namespace Sf
open PySem L2 LamX
abbrev S_law : Stmt := topS 72
abbrev N_law : List Str := ["_law_script", "_law_reader_here", "_law_drawn", "_law_sheet_here", "_law_pool", "_law_texts_here", "_law_pairs_here", "_law_words", "_law_told"]
abbrev P_law : List Str := ["_law_script"]
theorem sc_law : FnScope N_law P_law (defScope S_law) := ⟨rfl, rfl, rfl, by decide +kernel, rfl, by decide +kernel, by decide +kernel⟩
theorem keys_ok {ts : List Tx} (h6 : ∀ t ∈ ts, t.length ≤ 6) : ∀ {ms : List Tx} {s : Bm × Bool}, (∀ m ∈ ms, ∃ w, getB s.1 m = some w) → Bok ts s.1 → Bok ts (ms.foldl (keyF ts) s).1
  | [], _, _, h => h
  | m :: ms, s, hm, h => by
    rw [List.foldl_cons]
    obtain ⟨w, hw⟩ := hm m List.mem_cons_self
    refine keys_ok h6 (fun m' h' => ?_) (keyF_ok h6 h hw)
    obtain ⟨w', hw'⟩ := hm m' (List.mem_cons_of_mem _ h')
    obtain ⟨v, hv, _⟩ := keyF_mono (ts := ts) (m := m) (show Has s.1 m' w' from ⟨w', hw', klt_irrefl _⟩)
    exact ⟨v, hv⟩
theorem turns_ok {ts : List Tx} (h6 : ∀ t ∈ ts, t.length ≤ 6) : ∀ n, Bok ts (turns ts n)
  | 0 => startF_ok h6
  | n + 1 => keys_ok h6 (fun m hm => getB_some hm) (turns_ok h6 n)
theorem first_len {ts : List Tx} {W : Tx} (hn : ts.length ≤ 16) (h6 : ∀ t ∈ ts, t.length ≤ 6) (h : First ts (some W)) : W.length ≤ 600 := by
  obtain ⟨n, hn'⟩ : ∃ n, ts.length * 6 < n := ⟨_, Nat.lt_succ_self _⟩
  have h1 := turns_first h6 hn'
  have h2 := First.uniq h h1
  have h3 := turns_ok h6 n
  have h4 := h3.len [] W h2.symm
  have h5 := h3.few h6
  omega
theorem reach_ne {ts : List Tx} (hne : ∀ t ∈ ts, t ≠ []) {w m : Tx} (h : Reach ts w m) : w ≠ [] := by
  induction h with
  | base h1 _ _ _ => exact hne _ (List.mem_of_getElem? h1)
  | step h1 h2 h3 h4 ih =>
    obtain ⟨s, e, _⟩ := step1_app h4
    rw [e]
    intro z
    exact ih (List.append_eq_nil_iff.mp z).1
/-- the class of forms -/
structure AtC (P : Program) (w : World) (K : PySem.W.Frag) (mg : Str → Option Value) (base : Heap) (k : Nat) (x : Str) (C : Addr) (ps : List Str) (sp : Sp) : Prop where
  ex : ∃ (f : Addr) (fd : FuncData), Mk K C f ∧ mg x = some (.ref C) ∧ Binds K fd ps [] ∧ FnOk P w K mg base CX0 k f fd ps sp
theorem pe_mk {X : Cx} {k : Nat} {x : Str} {C : Addr} {ps : List Str} {sp : Sp} {e : Expr} {es : List Expr} {t : TA} {p pos : Pos} (A : AtC X.prog X.w X.K X.mg X.base k x C ps sp) (hr : Room (k + 1) X.A) (ha : PA X (e :: es) t) (hg : Gl X x := by rfl) (hdb : (x == ("__debug__" : Str)) = false := by decide)
    (he : starEach (e :: es) X.env = (false, eval e X.env) :: starEach es X.env := by rfl) (hpl : (backTo pos (starEach es X.env)).any (·.1) = false := by rfl) :
    PE X (.Call (.Name x p) (e :: es) [] pos) (tMake C sp [] E0 t) := by
  obtain ⟨f, fd, h1, h2, h3, h4⟩ := A.ex
  exact pe_make h1 h4 hr hg h2 h3 .nil pass0 ha hdb he hpl
section
variable {T : List Tab} {r L : Addr} {K : PySem.W.Frag} {σ : L2.St} {H H' : Hp} {n m i k : Nat} {te ta tb tc : TE} {tu tw : TS} {d e : D} {ds es : List D} {v : V} {E : Ends}
theorem e_mk {C : Addr} {X : XK} {fs : List Fd} (ha : EvR T ta σ H (isT (eFs fs))) (hb : EvR T tb σ H (isT (.tup []))) (hfs : OkFs fs) : EvR T (tMake C (SpI T C) [] X (tCons ta (tCons tb tNil))) σ H (isForm C fs) := fun H1 xa Q q =>
  (a_cons ha (a_one hb)) H1 xa _ fun vs H2 x2 hv => fun x dx hx hdx hne => by
    cases hv with
    | cons h1 hv =>
      cases hv with
      | cons h2 hv =>
        cases hv
        have e1 : Ext T [] H2 (upd H2 dx (.own x)) := Ext.new hdx
        have hx' : upd H2 dx (.own x) x = none := by rw [upd_ne (Ne.symm hne)]; exact hx
        have e2 : Ext T [] (upd H2 dx (.own x)) (upd (upd H2 dx (.own x)) x (.ins C dx [])) := Ext.new hx'
        have e12 := e1.trans e2
        refine ⟨x, dx, _, _, fs, rfl, upd_same, e12.isT h1, hfs, e12.isT h2, fun H' x' hf => ⟨rfl, ?_⟩⟩
        exact q _ H' (x2.trans (e12.own x' hx)) hf
theorem sd_ifP (Pn : L2.St → Hp → Prop) (hn : ∀ σ' H', Pn σ' H' → E.nx σ' H') (h : EvD T r L n te σ H (fun v _ => ∃ b, v = .bl b)) (hr : Rdr r L k H) (hk : k + n ≤ 1000000) (h1 : (∀ σ' H', Pn σ' H' → E.nx σ' H') → ∀ H1, Ext T [r] H H1 → Rdr r L (k + n) H1 → tu E σ H1) (h2 : ∀ H1, Ext T [r] H H1 → Rdr r L (k + n) H1 → Pn σ H1) : tIfS (tTest te) tu tNext E σ H :=
  sd_if h hr hk (h1 hn) fun H1 x rd => hn σ H1 (h2 H1 x rd)
theorem sd_append {l : Addr} {xs : List V} {R : RP} (hl : H l = some (.lst xs)) (hlr : l ≠ r) (hi : σ[i]? = some (some (.ref l))) (h : EvD T r L n te σ H R) (hr : Rdr r L k H) (hk : k + n ≤ 1000000) (hz : xs.length < 100000) (q : ∀ v H1, Ext T [r] H H1 → Rdr r L (k + n) H1 → R v H1 → H1 l = some (.lst xs) → E.nx σ (upd H1 l (.lst (xs ++ [v])))) :
    tDrop (tBM K "list" rAppend (tVar i) (tCons te tNil)) E σ H :=
  ⟨_, hi, Or.inl ⟨rfl, xs, SqL.of hl⟩, h.run hr hk fun v H1 x rd r => by
    have hl' := x.lst hl (by simpa using hlr)
    exact ⟨l, xs, v, rfl, rfl, hl', sz' hz, q v H1 x rd r hl'⟩⟩
theorem d_andV (h1 : ∀ H1, Ext T [r] H H1 → EvR T ta σ H1 (isB true)) (h2 : EvD T r L n tb σ H (isB true)) : EvD T r L n (tAndV ta tb) σ H (isB true) := fun k H1 a rd hk Q q =>
  (h1 H1 a).run fun v H2 x2 p => by
    obtain rfl : v = _ := p
    exact ⟨true, rfl, h2 k H2 (a.trans x2.wide) (rd.ext x2) hk Q fun v H3 x3 rd3 p3 => q v H3 (x2.wide.trans x3) rd3 p3⟩
/-- a drawn number is 0 -/
theorem d_is0 {X : XK} {m : Nat} (hs : σ[i]? = .some (.some (.ref r))) (h1 : 1 ≤ m) (h2 : m ≤ 1000) : EvD T r L 1 (tOp rEq (tCall (SpD T cDraw) [] X (tCons (tVar i) (tCons (tC (.int (m : Int))) tNil))) (tC (.int 0))) σ H (fun v _ => ∃ b, v = .bl b) :=
  d_op (n := 1) (m := 0) (R1 := isN m) (R2 := isT (.num 0)) (fun _ _ _ _ p => p) (d_draw hs (fun _ _ => e_int) h1 h2) (d_of fun _ _ => e_int) fun x y H1 x1 p1 p2 => by
    obtain ⟨j, _, rfl⟩ := p1
    exact (e_eqI (e_tC (.int j)) (e_tC p2)).imp fun v _ _ p => ⟨_, p⟩
end
def SpLaw (K : PySem.W.Frag) (T : List Tab) : Sp := fun vs H Q _ => ∃ (a : Addr) (ns : List Int), vs = [.ref a] ∧ SqL K H a (ns.map .int) ∧ Tabs T H ∧ ∀ H', Q (.bl true) H'
section
variable {T : List Tab} {P : Program} {w : World} {K : PySem.W.Frag} {mg : Str → Option Value} {base : Heap} {C : Addr}
theorem ok_law {f : Addr} {fd : FuncData} (F : Fun K "law" "law" S_law f fd) (G : Gm mg) (A_law_reader : At P w K mg base 1 "_law_reader" P_law_reader (SpReader K T)) (A_law_draw : At P w K mg base 2 "_law_draw" P_law_draw (SpD T cDraw)) (A_law_names : At P w K mg base 3 "_law_names" P_law_names (SpD T cNames)) (A_law_sheet : At P w K mg base 4 "_law_sheet" P_law_sheet (SpD T cSheet))
    (A_Form : AtC P w K mg base 4 "Form" C P_Form_init (SpI T C)) (A_law_texts : At P w K mg base 3 "_law_texts" P_law_texts (SpD T cTexts)) (A_law_chain : At P w K mg base 3 "_law_chain" P_law_chain (SpD T cChain)) (A_law_pairs : At P w K mg base 3 "_law_pairs" P_law_pairs (SpD T cPairs))
    (A_check_phrases : At P w K mg base 6 "check_phrases" P_check_phrases (SpP T (cCheck C))) (A_law_shortest : At P w K mg base 3 "_law_shortest" P_law_shortest (SpP T cShortest)) (A_law_split : At P w K mg base 1 "_law_split" P_law_split (SpP T cSplit)) (A_first_double : At P w K mg base 6 "first_double" P_first_double (SpP T (cDouble T C)))
    (A_law_own_readings : At P w K mg base 7 "_law_own_readings" P_law_own_readings (SpD T (cOwn T C))) (A_law_same : At P w K mg base 4 "_law_same" P_law_same (SpP T (cSame 3))) (A_law_readings_right : At P w K mg base 7 "_law_readings_right" P_law_readings_right (SpP T (cRight T C))) : FnOk P w K mg base CX0 8 f fd P_law (SpLaw K T) := by
  refine F.ok sc_law (fun vs H Q E h => ?_) (fun cdv A outer s H vs Q E hr h => ?_)
  · obtain ⟨_, _, rfl, _⟩ := h
    rfl
  · obtain ⟨a, ns, rfl, hs, hT, q⟩ := h
    refine ⟨_, (pss_cons (ps_set (i := 1) sc_law.nd rfl (Or.inl rfl) (pe_fn A_law_reader (hr.mono (by decide)) (pa_cons (pv 0) pa_nil)))
    (pss_cons (ps_set (i := 2) sc_law.nd rfl (Or.inl rfl) (pe_fn A_law_sheet (hr.mono (by decide)) (pa_cons (pv 1) pa_nil)))
    (pss_cons (ps_set (i := 3) sc_law.nd rfl (Or.inl rfl) (pe_mk A_Form (hr.mono (by decide)) (pa_cons (pe_ix (ixL (K := K) rfl) (pv 2) pe_int (fun _ _ => rfl)) (pa_cons (pe_tup pa_nil) pa_nil))))
    (pss_cons (ps_set (i := 4) sc_law.nd rfl (Or.inl rfl) (pe_fn A_law_names (hr.mono (by decide)) (pa_cons (pv 1) (pa_cons (pe_op op_add pe_int (pe_fn A_law_draw (hr.mono (by decide)) (pa_cons (pv 1) (pa_cons pe_int pa_nil)))) pa_nil))))
    (pss_cons (ps_set (i := 5) sc_law.nd rfl (Or.inl rfl) (pe_fn A_law_texts (hr.mono (by decide)) (pa_cons (pv 1) (pa_cons (pv 4) (pa_cons (pe_ix (ixT (K := K) rfl) (pe_tup (pa_cons pe_int (pa_cons pe_int (pa_cons pe_int (pa_cons pe_int (pa_cons pe_int (pa_cons pe_int (pa_cons pe_int pa_nil)))))))) (pe_fn A_law_draw (hr.mono (by decide)) (pa_cons (pv 1) (pa_cons pe_int pa_nil))) (fun _ _ => rfl)) (pa_cons (pe_ix (ixT (K := K) rfl) (pe_tup (pa_cons pe_int (pa_cons pe_int (pa_cons pe_int (pa_cons pe_int pa_nil))))) (pe_fn A_law_draw (hr.mono (by decide)) (pa_cons (pv 1) (pa_cons pe_int pa_nil))) (fun _ _ => rfl)) pa_nil))))))
    (pss_cons (ps_if (pt_cmpR op_eq (pe_fn A_law_draw (hr.mono (by decide)) (pa_cons (pv 1) (pa_cons pe_int pa_nil))) pe_int (nomark _))
      (pss_one (ps_set (i := 5) sc_law.nd rfl (Or.inl rfl) (pe_fn A_law_chain (hr.mono (by decide)) (pa_cons (pv 1) (pa_cons (pv 4) pa_nil)))))
      pss_nil)
    (pss_cons (ps_if (pt_cmpR op_eq (pe_fn A_law_draw (hr.mono (by decide)) (pa_cons (pv 1) (pa_cons pe_int pa_nil))) pe_int (nomark _))
      (pss_one (ps_expr (pe_bm PySem.F.plainAttrs_list PySem.F.slot_list_append PySem.F.type_list_append mt_append (pv 5) (pa_cons (pe_ix (ixL (K := K) rfl) (pv 5) (pe_fn A_law_draw (hr.mono (by decide)) (pa_cons (pv 1) (pa_cons (pe_callB (lenK (K := K) rfl) (by rfl) G.n_len PySem.boot_len (pa_cons (pv 5) pa_nil)) pa_nil))) (fun _ _ => rfl)) pa_nil))))
      pss_nil)
    (pss_cons (ps_set (i := 6) sc_law.nd rfl (Or.inl rfl) (pe_fn A_law_pairs (hr.mono (by decide)) (pa_cons (pv 1) (pa_cons (pv 5) (pa_cons (pe_ix (ixL (K := K) rfl) (pv 2) pe_int (fun _ _ => rfl)) pa_nil)))))
    (pss_cons (ps_if (pt_cmp (pc_notN (pe_fn A_check_phrases (hr.mono (by decide)) (pa_cons (pv 3) (pa_cons (pv 6) pa_nil)))))
      (pss_one (ps_ret pe_bl))
      pss_nil)
    (pss_cons (ps_set (i := 7) sc_law.nd rfl (Or.inl rfl) (pe_fn A_law_shortest (hr.mono (by decide)) (pa_cons (pe_fn A_law_split (hr.mono (by decide)) (pa_cons (pv 6) pa_nil)) pa_nil)))
    (pss_cons (ps_set (i := 8) sc_law.nd rfl (Or.inl rfl) (pe_fn A_first_double (hr.mono (by decide)) (pa_cons (pv 3) (pa_cons (pv 6) pa_nil))))
    (pss_cons (ps_if (pt_cmp (pc_isN (pv 7)))
      (pss_one (ps_ret (pe_and (pe_cmp (pc_isN (pv 8)) rfl) (pe_one (pe_fn A_law_own_readings (hr.mono (by decide)) (pa_cons (pv 1) (pa_cons (pv 3) (pa_cons (pv 6) pa_nil))))))))
      pss_nil)
    (pss_cons (ps_if (pt_not (pt_val (pe_fn A_law_same (hr.mono (by decide)) (pa_cons (pv 8) (pa_cons (joinK (K := K) rfl pe_str (pv 7)) pa_nil)))))
      (pss_one (ps_ret pe_bl))
      pss_nil)
    (pss_one (ps_ret (pe_or (pe_cmpR op_gt (pe_callB (lenK (K := K) rfl) (by rfl) G.n_len PySem.boot_len (pa_cons (pv 7) pa_nil)) pe_int (nomark _)) (pe_one (pe_fn A_law_readings_right (hr.mono (by decide)) (pa_cons (pv 3) (pa_cons (pv 6) (pa_cons (pv 8) (pa_cons (pv 7) pa_nil)))))))))))))))))))))), ?_⟩
    refine ⟨_, rfl, a, ns, rfl, hs, fun r L H1 hr0 x1 hR1 => ?_⟩
    have hT1 := x1.tabs hT
    dsimp only
    refine s_seq (sd_asg (T := T) (r := r) (L := L) (n := 0 + 0 + 16) (R := fun v H' => ∃ (fs : List Fd) (acts : List Tx) (ad : Addr) (u1 u2 : V), OkFs fs ∧ (∀ x ∈ acts, OkA fs x) ∧ 1 ≤ acts.length ∧ acts.length ≤ 30 ∧ v = .ref ad ∧ ad ≠ r ∧ H' ad = some (.lst [u1, u2]) ∧ IsD H' u1 (eFs fs) ∧ isLr r (acts.map eT) u2 H') (d_call (m := 16) (da_cons (R := isV (.ref r)) (fun _ _ _ _ p => p) (d_of fun _ _ => e_v rfl) da_nil) fun vs H2 x2 hr2 hp => ?_) hR1 (by omega) fun v2 H2 x2 hR2 r2 => ?_)
    · obtain ⟨v, us, rfl, hv, rfl⟩ := hp
      obtain rfl : v = .ref r := hv
      refine ⟨_, ⟨rfl, rfl, rfl⟩, fun v H3 p => ?_⟩
      obtain ⟨fs, acts, ad, u1, u2, k1, k2, k3, k4, k5, k6, k7, k8, k9⟩ := p
      exact ⟨fs, acts, ad, u1, u2, k1, k2, k3, k4, k5, (by rintro rfl; exact hr2 k6), k7, k8, k9.lr hr2⟩
    obtain ⟨fs, acts, ad, u1, u2, hfs, hacts, ha1, ha30, rfl, nad, hd2, hu1, hac2⟩ := r2
    dsimp only
    refine s_seq (s_asg (T := T) (R := isForm C fs) (e_mk (EvR.imp (e_rix (n := 0) (e_v rfl) hd2 e_int rfl) fun v H3 x3 e => ?_) (e_tup a_nil (by decide)) hfs) fun v3 H3 x3 hf3 => ?_)
    · obtain rfl : v = u1 := e
      exact x3.isT hu1
    have hR3 := hR2.ext x3
    have nf := hR3.noForm hf3
    have hd3 := x3.lst hd2 (by simp)
    have hac3 := hac2.mono (x3.wide (ex := [r]))
    have e13 := x2.trans x3.wide
    have hT3 := e13.tabs hT1
    dsimp only
    refine s_seq (sd_asg (T := T) (r := r) (L := L) (n := 0 + (1 + 0) + 12) (R := fun v H' => ∃ ws : Tx, 2 ≤ ws.length ∧ ws.length ≤ 5 ∧ OkWs ws ∧ isLr r (ws.map .text) v H') (d_call (m := 12) (da_cons (R := isV (.ref r)) (fun _ _ _ _ p => p) (d_of fun _ _ => e_v rfl) (da_cons (R := fun v _ => ∃ j : Nat, 2 ≤ j ∧ j ≤ 5 ∧ v = .int j) (fun _ _ _ _ p => p) (EvD.up (n := 0 + 1) (d_op (R1 := isT (.num 2)) (R2 := isN 4) (fun _ _ _ x p => x.isT p) (d_of fun _ _ => e_int) (d_draw rfl (fun _ _ => e_int) (by decide) (by decide)) fun u w H4 x4 p1 p2 => ?_) (by decide)) da_nil)) fun vs H4 x4 hr4 hp => ?_) hR3 (by omega) fun v4 H4 x4 hR4 r4 => ?_)
    · obtain ⟨i, hi, rfl⟩ := p2
      exact (e_add (e_tC p1) (e_tC (.int i))).imp fun v H5 x5 p => ⟨2 + i, by omega, by omega, by rw [p.int_inv, Int.natCast_add]; rfl⟩
    · obtain ⟨v, us, rfl, hv, w, us, rfl, ⟨j, hj1, hj2, rfl⟩, rfl⟩ := hp
      obtain rfl : v = .ref r := hv
      refine ⟨_, ⟨j, rfl, by omega, by omega, rfl, rfl⟩, fun v H5 p => ?_⟩
      obtain ⟨ws, k1, k2, k3⟩ := p
      exact ⟨ws, by omega, by omega, k2, k3.lr hr4⟩
    obtain ⟨ws, hw2, hw5, hws, hp4⟩ := r4
    have e14 := e13.trans x4
    have hT4 := x4.tabs hT3
    have hf4 := hf3.mono x4 nf
    have hd4 := x4.lst hd3 (by simpa using nad)
    have hac4 := hac3.mono x4
    dsimp only
    -- the texts
    have pick : ∀ {ks : List Int} {te tb : TE} {σ : L2.St} {H5 : Hp} {m : Nat}, (∀ H1, Ext T [r] H5 H1 → EvR T te σ H1 (isT (.tup (ks.map .num)))) → EvD T r L 1 tb σ H5 (isN m) → m = ks.length → EvD T r L 1 (tOp (rIxT K) te tb) σ H5 (fun v _ => ∃ j ∈ ks, v = .int j) := fun h1 h2 h3 => (d_pick h1 h2 (by rw [List.length_map]; exact h3)).imp fun v H2 _ p => by
      obtain ⟨d, hd, p⟩ := p
      obtain ⟨j, hj, rfl⟩ := List.mem_map.mp hd
      exact ⟨j, hj, p.int_inv⟩
    refine s_seq (sd_asg (T := T) (r := r) (L := L) (n := 0 + (0 + (1 + (1 + 0))) + 85) (R := fun v H' => ∃ ts : List Tx, 1 ≤ ts.length ∧ ts.length ≤ 12 ∧ (∀ t ∈ ts, TxOk t) ∧ isLN H4 (ts.map eT) v H') (d_call (m := 85) (da_cons (R := isV (.ref r)) (fun _ _ _ _ p => p) (d_of fun _ _ => e_v rfl) (da_cons (R := isLr r (ws.map .text)) (fun _ _ _ x p => p.mono x) (d_of fun H5 x5 => e_var rfl (hp4.mono x5) fun _ x p => p.mono x.wide)
      (da_cons (R := fun v _ => ∃ j ∈ ([1, 2, 3, 4, 6, 8, 12] : List Int), v = .int j) (fun _ _ _ _ p => p) (pick (fun H5 x5 => e_tup (a_cons e_int (a_cons e_int (a_cons e_int (a_cons e_int (a_cons e_int (a_cons e_int (a_one e_int))))))) (by decide)) (d_draw rfl (fun _ _ => e_int) (by decide) (by decide)) rfl)
        (da_cons (R := fun v _ => ∃ j ∈ ([2, 3, 4, 6] : List Int), v = .int j) (fun _ _ _ _ p => p) (pick (fun H5 x5 => e_tup (a_cons e_int (a_cons e_int (a_cons e_int (a_one e_int)))) (by decide)) (d_draw rfl (fun _ _ => e_int) (by decide) (by decide)) rfl) da_nil)))) fun vs H5 x5 hr5 hp => ?_) hR4 (by omega) fun v5 H5 x5 hR5 r5 => ?_)
    · obtain ⟨v, us, rfl, hv, vp, us, rfl, hvp, c1, us, rfl, ⟨j1, hj1, rfl⟩, c2, us, rfl, ⟨j2, hj2, rfl⟩, rfl⟩ := hp
      obtain rfl : v = .ref r := hv
      have h1 : ∃ m1 : Nat, j1 = m1 ∧ 1 ≤ m1 ∧ m1 ≤ 12 := by
        simp only [List.mem_cons, List.not_mem_nil, or_false] at hj1
        exact ⟨j1.toNat, by omega, by omega, by omega⟩
      have h2 : ∃ m2 : Nat, j2 = m2 ∧ 1 ≤ m2 ∧ m2 ≤ 6 := by
        simp only [List.mem_cons, List.not_mem_nil, or_false] at hj2
        exact ⟨j2.toNat, by omega, by omega, by omega⟩
      obtain ⟨m1, rfl, l1, l2⟩ := h1
      obtain ⟨m2, rfl, l3, l4⟩ := h2
      refine ⟨_, ⟨vp, ws, m1, m2, rfl, hvp, hws.ok, by omega, by omega, l1, l2, l3, l4, rfl, rfl⟩, fun v H6 p => ?_⟩
      obtain ⟨ts, k1, k2, k3, k4⟩ := p
      exact ⟨ts, k1, k2, k3, isLN_back k4 x5.free⟩
    obtain ⟨ts, ht1, ht2, htx, hl5⟩ := r5
    have hr4 := hR4.some
    dsimp only
    -- the chain
    refine s_seq (sd_ifP (T := T) (r := r) (L := L) (n := 1) (fun σ H' => ∃ (vt : V) (ts : List Tx), σ = [some (.ref a), some (.ref r), some (.ref ad), some v3, some v4, some vt, none, none, none] ∧ Ext T [r] H4 H' ∧ Rdr r L (16 + 13 + 87 + 1 + 38) H' ∧ 1 ≤ ts.length ∧ ts.length ≤ 14 ∧ (∀ t ∈ ts, TxOk t) ∧ isLN H4 (ts.map eT) vt H') (fun σ H6 hP => ?_) (d_is0 (m := 4) rfl (by decide) (by decide)) hR5 (by omega) (fun hn H6 x6 hR6 => ?_) fun H6 x6 hR6 => ⟨v5, ts, rfl, x5.trans x6, hR6.mono (by omega), ht1, by omega, htx, hl5.monoR x6 hr4⟩)
    · obtain ⟨vt, ts, rfl, x46, hR6, ht1, ht2, htx, hl6⟩ := hP
      obtain ⟨lt, us, rfl, hlt4, hlt6, hltd⟩ := id hl6
      have nlt : lt ≠ r := by rintro rfl; exact hr4 hlt4
      have nLt : L ≠ lt := by rintro rfl; exact hR4.cell hlt4
      dsimp only
      -- one text twice
      refine s_seq (sd_ifP (T := T) (r := r) (L := L) (n := 1) (fun σ H' => ∃ (ts : List Tx), σ = [some (.ref a), some (.ref r), some (.ref ad), some v3, some v4, some (.ref lt), none, none, none] ∧ Ext T [r] H4 H' ∧ Rdr r L 200 H' ∧ 1 ≤ ts.length ∧ ts.length ≤ 15 ∧ (∀ t ∈ ts, TxOk t) ∧ isLr r (ts.map eT) (.ref lt) H') (fun σ H7 hP => ?_) (d_is0 (m := 6) rfl (by decide) (by decide)) hR6 (by omega) (fun hn H7 x7 hR7 => ?_) fun H7 x7 hR7 => ⟨ts, rfl, x46.trans x7, hR7.mono (by omega), ht1, by omega, htx, (hl6.lr hr4).mono x7⟩)
      · obtain ⟨ts, rfl, x47, hR7, ht1, ht2, htx, hl7⟩ := hP
        have hf7 := hf4.mono x47 nf
        have hd7 := x47.lst hd4 (by simpa using nad)
        have hac7 := hac4.mono x47
        have hT7 := x47.tabs hT4
        dsimp only
        refine s_seq (sd_asg (T := T) (r := r) (L := L) (n := 0 + (0 + (0 + 0)) + 16) (R := fun v H' => ∃ ps : List Ph, IsD H' v (ePs ps) ∧ 1 ≤ ps.length ∧ ps.length ≤ 16 ∧ ps.Nodup ∧ ∀ p ∈ ps, p.1 ∈ ts ∧ p.2 ∈ acts) (d_call (m := 16) (da_cons (R := isV (.ref r)) (fun _ _ _ _ p => p) (d_of fun _ _ => e_v rfl) (da_cons (R := isLr r (ts.map eT)) (fun _ _ _ x p => p.mono x) (d_of fun H8 x8 => e_var rfl (hl7.mono x8) fun _ x p => p.mono x.wide)
          (da_cons (R := isLr r (acts.map eT)) (fun _ _ _ x p => p.mono x) (d_of fun H8 x8 => EvR.imp (e_rix (n := 1) (v := u2) (e_v rfl) (x8.lst hd7 (by simpa using nad)) e_int rfl) fun v H9 x9 e => ?_) da_nil))) fun vs H8 x8 hr8 hp => ?_) hR7 (by omega) fun v6 H8 x8 hR8 r8 => ?_)
        · obtain rfl : v = u2 := e
          exact (hac7.mono x8).mono x9.wide
        · obtain ⟨v, us, rfl, hv, vt, us, rfl, hvt, va, us, rfl, hva, rfl⟩ := hp
          obtain rfl : v = .ref r := hv
          exact ⟨_, ⟨vt, va, ts, acts, rfl, hvt, hva, ht1, by omega, htx, ha1, ha30, rfl, rfl⟩, fun _ _ p => p⟩
        obtain ⟨ps, hps6, hp1, hp16, hpnd, hpm⟩ := r8
        have hf8 := hf7.mono x8 nf
        have hT8 := x8.tabs hT7
        have htxp : ∀ p ∈ ps, TxOk p.1 := fun p hp => htx _ (hpm p hp).1
        have hOk : OkPs fs ps := ⟨hfs.names.nd, by have := hfs.hi; omega, fun f hf => by have := (hfs.vals f hf).2.2; omega, fun p hp => ⟨(htxp p hp).t, (htxp p hp).len, hacts _ (hpm p hp).2⟩, hp1, hp16, hpnd⟩
        have hne : ∀ p ∈ ps, p.1 ≠ [] := fun p hp => (htxp p hp).ne
        dsimp only
        refine s_seq (s_no (T := T) ((t_test (e_notN (v := .non) (e_fn (a_consR (e_form rfl hf8) form_st (a_one (e_t rfl hps6))) fun vs H9 x9 hv => ?_))).eq (by simp)) fun H9 x9 => ?_)
        · obtain ⟨u, us, rfl, hu, hus⟩ := hv
          cases hus with
          | cons hv hn =>
            cases hn
            exact ⟨_, ⟨u, _, fs, ps, rfl, hu, hv, hOk, rfl⟩, fun _ _ r => r⟩
        have hps9 := x9.isT hps6
        refine s_seq (s_asg (T := T) (R := fun v H' => ∃ o, First (txs ps) o ∧ IsD H' v (eOT o)) (e_fn (a_any (e_fn (R := isL ((txs ps).map eT)) (a_one (e_t rfl hps9)) fun vs H10 x10 hv => ?_)) fun vs H10 x10 hv => ?_) fun v7 H10 x10 r7 => ?_)
        · cases hv with
          | cons hv hn =>
            cases hn
            exact ⟨_, ⟨_, ps, rfl, hv, by omega, fun p hp => (htxp p hp).t, rfl⟩, fun _ _ r => r.l⟩
        · obtain ⟨u, rfl, hu⟩ := hv
          refine ⟨_, ⟨u, txs ps, rfl, hu, by rw [List.length_map]; exact hp16, fun t ht => ?_, rfl⟩, fun _ _ r => r⟩
          obtain ⟨p, hp, rfl⟩ := List.mem_map.mp ht
          exact (htxp p hp).len
        obtain ⟨o, ho, hv7⟩ := r7
        have x810 := x9.trans x10
        have hf10 := form_st _ _ _ x810 hf8
        have hps10 := x10.isT hps9
        have hT10 := x810.tabs hT8
        have hR10 := hR8.ext x810
        dsimp only
        refine s_seq (s_asg (T := T) (R := fun v H' => IsD H' v (eO o)) (e_fn (a_consR (e_form rfl hf10) form_st (a_one (e_t rfl hps10))) fun vs H11 x11 hv => ?_) fun v8 H11 x11 r8 => ?_)
        · obtain ⟨u, us, rfl, hu, hus⟩ := hv
          cases hus with
          | cons hv hn =>
            cases hn
            refine ⟨_, ⟨u, _, fs, ps, rfl, hu, hv, hOk, x11.tabs hT10, rfl⟩, fun v H12 p => ?_⟩
            obtain ⟨o', h1, h2⟩ := p
            rw [First.uniq ho h1]
            exact h2
        have hf11 := form_st _ _ _ x11 hf10
        have hps11 := x11.isT hps10
        have hT11 := x11.tabs hT10
        have hR11 := hR10.ext x11
        have hv7 := x11.isT hv7
        cases o with
        | none =>
          obtain rfl : v7 = .non := by cases hv7; rfl
          obtain rfl : v8 = .non := by cases r8; rfl
          dsimp only
          refine s_seq (s_if (T := T) (b := true) (t_test ((e_isN (e_v rfl)).eqB (decide_eq_true rfl))) (fun _ H12 x12 => ?_) fun z => nomatch z)
          have hf12 := form_st _ _ _ x12 hf11
          have own : EvD T r L (0 + (0 + (0 + 0)) + 48) (tCall (SpD T (cOwn T C)) [] E0 (tCons (tVar 1) (tCons (tVar 3) (tCons (tVar 6) tNil)))) [some (.ref a), some (.ref r), some (.ref ad), some v3, some v4, some (.ref lt), some v6, some .non, some .non] H12 (isB true) := d_call (m := 48) (da_cons (R := isV (.ref r)) (fun _ _ _ _ p => p) (d_of fun _ _ => e_v rfl) (da_cons (R := fun v H' => v = v3 ∧ isForm C fs v H') (fun v H7 H8 x7 p => ⟨p.1, p.2.mono x7 (p.1 ▸ nf)⟩) (d_of fun H7 x7 => e_var rfl ⟨rfl, hf12.mono x7 nf⟩ fun _ x p => ⟨p.1, p.2.mono x (fun _ _ => by simp)⟩) (da_cons (R := isT (ePs ps)) (fun _ _ _ x p => x.isT p) (d_of fun H7 x7 => e_t rfl (x7.isT (x12.isT hps11))) da_nil))) fun vs H13 x13 hr13 hp => by
            obtain ⟨v, us, rfl, hv, v', us, rfl, ⟨_, hv'⟩, v'', us, rfl, hv'', rfl⟩ := hp
            obtain rfl : v = .ref r := hv
            exact ⟨_, ⟨_, _, fs, ps, rfl, hv', hv'', hOk, htxp, ud_of_none hne ho, x13.tabs (x12.tabs hT11), rfl, rfl⟩, fun _ _ p => p⟩
          exact sd_ret (T := T) (r := r) (L := L) (n := 0 + (0 + (0 + 0)) + 48) (d_andV (fun H13 x13 => (e_isN (e_v rfl)).eqB (decide_eq_true rfl)) own) (hR11.ext x12) (by omega) fun v H13 x13 hR13 r13 => by
            obtain rfl : v = _ := r13
            exact q H13
        | some W =>
          have hv7 : IsD H11 v7 (eT W) := hv7
          have r8 : IsD H11 v8 (.text (joinW W)) := r8
          have hne7 : v7 ≠ .non := by
            obtain ⟨_, _, rfl, _⟩ := hv7.tup_inv
            exact fun z => nomatch z
          obtain ⟨α, β, hα, _, hcα, _⟩ := reach_rows ho.1
          have hWok : ∀ x ∈ W, OkW x := fun x hx => by
            rw [← hcα] at hx
            obtain ⟨p, hp, hx⟩ := List.mem_flatMap.mp hx
            exact (htxp p (hα p hp)).ok x hx
          have hWlen : W.length ≤ 600 := first_len (by rw [List.length_map]; exact hp16) (fun t ht => by
            obtain ⟨p, hp, rfl⟩ := List.mem_map.mp ht
            exact (htxp p hp).len) ho
          have hWne : W ≠ [] := reach_ne (fun t ht => by
            obtain ⟨p, hp, rfl⟩ := List.mem_map.mp ht
            exact hne p hp) ho.1
          dsimp only
          refine s_seq (s_no (T := T) ((t_test (e_isN (e_v rfl))).eq (decide_eq_false hne7)) fun H12 x12 => ?_)
          have hv12 := x12.isT hv7
          have r12 := x12.isT r8
          refine s_seq (s_no (T := T) ((t_not (t_b (e_fn (R := isB true) (a_cons (e_t rfl r12) (a_one (e_join e_str (e_t rfl hv12) ?_))) fun vs H13 x13 hv => ?_))).eq (b := !true) rfl) fun H13 x13 => ?_)
          · have h1 := sum_le (L := 8) fun x hx => (hWok x hx).2.1
            have h2 : W.length * (" " : Str).length = W.length := by rw [show (" " : Str).length = 1 by decide +kernel, Nat.mul_one]
            omega
          · cases hv with
            | cons a' hv =>
              cases hv with
              | cons b' hv =>
                cases hv
                exact ⟨_, ⟨_, _, _, rfl, a', b', .inl ⟨_, rfl⟩, rfl⟩, fun _ _ r => r⟩
          have x1213 := x12.trans x13
          have hf13 := form_st _ _ _ x1213 hf11
          have hjl := joinW_len hWok
          refine s_ret (T := T) (R := isB true) ((e_orV (b := decide ((30 : Int) < W.length)) (c := true) (EvR.bool (e_I0 (g := fun i j => V.bl (decide (j < i))) (e_lenT (e_t rfl (x1213.isT hv7))) e_int)) fun hb => ?_).eqB (by simp)) fun v H14 x14 r14 => ?_
          · have hW30 : W.length ≤ 30 := by
              have := of_decide_eq_false hb
              omega
            refine e_fn (a_consR (e_form rfl hf13) form_st (a_cons (e_t rfl (x1213.isT hps11)) (a_cons (e_t rfl (x1213.isT r8)) (a_one (e_t rfl (x1213.isT hv7)))))) fun vs H14 x14 hv => ?_
            obtain ⟨u, us, rfl, hu, hus⟩ := hv
            cases hus with
            | cons h1 hus =>
              cases hus with
              | cons h2 hus =>
                cases hus with
                | cons h3 hus =>
                  cases hus
                  obtain rfl := h2.str_inv
                  refine ⟨_, ⟨_, _, _, joinW W, fs, ps, α, W, rfl, hu, h1, hOk, by omega, ?_, hW30, fun n _ l hn hl => few_double hne hp16 ho (List.length_pos_iff.mpr hWne) hn hl, h3, ⟨hα, hcα⟩, x14.tabs (x1213.tabs hT11), rfl⟩, fun _ _ r => r⟩
                  rw [split_joinW hWne hWok]
                  exact List.filter_eq_self.mpr fun x hx => by
                    have := (hWok x hx).ne
                    simpa using this
          · obtain rfl : v = _ := r14
            exact q H14
      · have hl7 := x7.lst hlt6 (by simpa using nlt)
        have hld7 := hltd.mono x7.tup
        dsimp only
        refine sd_append (T := T) (r := r) (L := L) (n := 1) (R := fun v H' => ∃ d ∈ ts.map eT, IsD H' v d) hl7 nlt rfl (d_one rfl rfl ((hl6.lr hr4).mono x7) (by rw [List.length_map]; exact ht1) (by rw [List.length_map]; omega)) hR7 (by omega) (by rw [hld7.length, List.length_map]; omega) fun v H8 x8 hR8 r8 hl8 => ?_
        obtain ⟨d, hd, hv⟩ := r8
        obtain ⟨t, ht, rfl⟩ := List.mem_map.mp hd
        have e9 : Ext T [lt] H8 (upd H8 lt (.lst (us ++ [v]))) := Ext.put_self hl8 (noTab_lst us)
        refine hn _ _ ⟨ts ++ [t], rfl, ((x46.trans x7).trans x8).own e9 hlt4, (hR8.keep e9 (by simpa using Ne.symm nlt) (by simpa using nLt)).mono (by omega), by rw [List.length_append]; show 1 ≤ _ + 1; omega, by rw [List.length_append]; show _ + 1 ≤ _; omega, fun x hx => ?_, ⟨lt, _, rfl, nlt, upd_same, ?_⟩⟩
        · rcases List.mem_append.mp hx with hx | hx
          · exact htx x hx
          · rw [List.mem_singleton.mp hx]; exact htx t ht
        · rw [List.map_append]
          exact ((hld7.mono x8.tup).append (.one hv)).mono e9.tup
    · dsimp only
      refine sd_asg (T := T) (r := r) (L := L) (n := 0 + (0 + 0) + 38) (R := fun v H' => ∃ ts : List Tx, 1 ≤ ts.length ∧ ts.length ≤ 14 ∧ (∀ t ∈ ts, TxOk t) ∧ isLN H4 (ts.map eT) v H') (d_call (m := 38) (da_cons (R := isV (.ref r)) (fun _ _ _ _ p => p) (d_of fun _ _ => e_v rfl) (da_cons (R := isLr r (ws.map .text)) (fun _ _ _ x p => p.mono x) (d_of fun H7 x7 => e_var rfl (hp4.mono ((x5.trans x6).trans x7)) fun _ x p => p.mono x.wide) da_nil)) fun vs H7 x7 hr7 hp => ?_) hR6 (by omega) fun v7 H7 x7 hR7 r7 => ?_
      · obtain ⟨v, us, rfl, hv, vp, us, rfl, hvp, rfl⟩ := hp
        obtain rfl : v = .ref r := hv
        refine ⟨_, ⟨vp, ws, rfl, hvp, hws.ok, by omega, by omega, rfl, rfl⟩, fun v H8 p => ?_⟩
        obtain ⟨ts, k1, k2, k3, k4⟩ := p
        exact ⟨ts, k1, k2, k3, isLN_back k4 ((x5.trans x6).trans x7).free⟩
      · obtain ⟨ts', k1, k2, k3, k4⟩ := r7
        exact hn _ _ ⟨v7, ts', rfl, (x5.trans x6).trans x7, hR7.mono (by omega), k1, k2, k3, k4⟩
end
end Sf

set_option Elab.async false
set_option linter.all false
set_option maxRecDepth 100000
set_option maxHeartbeats 4000000
/-! What the text's top has written, and the law's end. -/
namespace Sf
open PySem L2 LamX
abbrev P_steps_behind' : List Str := ["texts", "words", "more"]
/-- a def that the top's names hold -/
structure Def (K : PySem.W.Frag) (x n q : Str) (st : Stmt) : Prop where
  ex : ∃ (f : Addr) (fd : FuncData), PySem.W.nsIn K mainGlobals x = some (some (.ref f)) ∧ Fun K n q st f fd
structure DefC (K : PySem.W.Frag) (x n q : Str) (st : Stmt) (c : Addr) : Prop where
  ex : ∃ (f : Addr) (fd : FuncData), PySem.W.nsIn K mainGlobals x = some (some (.ref f)) ∧ FunC K n q st f fd c
theorem def_mk {K : PySem.W.Frag} {x n q : Str} {st : Stmt} {f : Addr} {oc : Value} {od an : Option Addr} {osl : Array (Option Value)} {kV doc pm cdv ct : Value} (a : PySem.W.nsIn K mainGlobals x = some (some (.ref f)))
    (l : K.lookup f = some ⟨oc, od, .func (PySem.W.fnOf n q (defArgs st) (defBody st) (defScope st) .none kV doc pm an cdv ct), osl⟩) (c : PySem.W.codeIn K cdv q = true) (k : PySem.W.keepIn K (.ref f) = true) : Def K x n q st := ⟨_, _, a, fun_mk l c k⟩
theorem defC_mk {K : PySem.W.Frag} {x n q : Str} {st : Stmt} {f cd : Addr} {oc : Value} {od an : Option Addr} {osl : Array (Option Value)} {kV doc pm ct : Value} (a : PySem.W.nsIn K mainGlobals x = some (some (.ref f)))
    (l : K.lookup f = some ⟨oc, od, .func (PySem.W.fnOf n q (defArgs st) (defBody st) (defScope st) .none kV doc pm an (.ref cd) ct), osl⟩) (c : PySem.W.codeIn K (.ref cd) q = true) (k : PySem.W.keepIn K (.ref f) = true) : DefC K x n q st cd :=
  ⟨_, _, a, ⟨oc, od, kV, doc, pm, an, ct, osl, rfl, l, c⟩, k⟩
/-- a method of the class at C -/
structure DefM (K : PySem.W.Frag) (C : Addr) (m n q : Str) (st : Stmt) : Prop where
  ex : ∃ (f : Addr) (fd : FuncData), Meth K C m f ∧ Fun K n q st f fd
theorem defM_mk {K : PySem.W.Frag} {C : Addr} {m n q : Str} {st : Stmt} {f : Addr} {oc : Value} {od an : Option Addr} {osl : Array (Option Value)} {kV doc pm cdv ct : Value} (a : PySem.W.findIn K (.ref C) m = some (some (.ref f))) (i : PySem.W.isFn K (.ref f) = true)
    (l : K.lookup f = some ⟨oc, od, .func (PySem.W.fnOf n q (defArgs st) (defBody st) (defScope st) .none kV doc pm an cdv ct), osl⟩) (c : PySem.W.codeIn K cdv q = true) (k : PySem.W.keepIn K (.ref f) = true) : DefM K C m n q st := ⟨_, _, ⟨a, i, k⟩, fun_mk l c k⟩

structure GmK (K : PySem.W.Frag) : Prop where
  n_len : PySem.W.nsIn K mainGlobals "len" = some none
  n_range : PySem.W.nsIn K mainGlobals "range" = some none
  n_enumerate : PySem.W.nsIn K mainGlobals "enumerate" = some none
  n_isinstance : PySem.W.nsIn K mainGlobals "isinstance" = some none
  n_all : PySem.W.nsIn K mainGlobals "all" = some none
  n_any : PySem.W.nsIn K mainGlobals "any" = some none
  n_tuple : PySem.W.nsIn K mainGlobals "tuple" = some none
  n_list : PySem.W.nsIn K mainGlobals "list" = some none
  n_str : PySem.W.nsIn K mainGlobals "str" = some none
  n_int : PySem.W.nsIn K mainGlobals "int" = some none
  n_bool : PySem.W.nsIn K mainGlobals "bool" = some none
  n_abs : PySem.W.nsIn K mainGlobals "abs" = some none
  n_sum : PySem.W.nsIn K mainGlobals "sum" = some none
  n_min : PySem.W.nsIn K mainGlobals "min" = some none
  n_sorted : PySem.W.nsIn K mainGlobals "sorted" = some none
  c_LETTERS_core_speech : ∃ t, PySem.W.nsIn K mainGlobals "LETTERS_core_speech" = some (some (.str "abcdefghijklmnopqrstuvwxyz" t))
  c_MOST_LETTERS_core_speech : ∃ t, PySem.W.nsIn K mainGlobals "MOST_LETTERS_core_speech" = some (some (.int 8 t))
  c_MOST_WORDS : ∃ t, PySem.W.nsIn K mainGlobals "MOST_WORDS" = some (some (.int 6 t))
  c_MOST_PHRASES : ∃ t, PySem.W.nsIn K mainGlobals "MOST_PHRASES" = some (some (.int 60 t))
  c_MOST_SAID : ∃ t, PySem.W.nsIn K mainGlobals "MOST_SAID" = some (some (.int 30 t))
  c_MOST_READINGS : ∃ t, PySem.W.nsIn K mainGlobals "MOST_READINGS" = some (some (.int 200 t))
  c_LETTERS_forms : ∃ t, PySem.W.nsIn K mainGlobals "LETTERS_forms" = some (some (.str "abcdefghijklmnopqrstuvwxyz" t))
  c_MOST_LETTERS_forms : ∃ t, PySem.W.nsIn K mainGlobals "MOST_LETTERS_forms" = some (some (.int 8 t))
  c_MOST_FIELDS : ∃ t, PySem.W.nsIn K mainGlobals "MOST_FIELDS" = some (some (.int 6 t))
  c_MOST_VALUES : ∃ t, PySem.W.nsIn K mainGlobals "MOST_VALUES" = some (some (.int 5 t))
  c_MOST_RULES : ∃ t, PySem.W.nsIn K mainGlobals "MOST_RULES" = some (some (.int 20 t))
  c_MOST_PAIRS : ∃ t, PySem.W.nsIn K mainGlobals "MOST_PAIRS" = some (some (.int 4 t))
  c_MOST_FILLINGS : ∃ t, PySem.W.nsIn K mainGlobals "MOST_FILLINGS" = some (some (.int 1000 t))
theorem GmK.gm {K : PySem.W.Frag} {h : Heap} {mg : Str → Option Value} (X : K.In h) (G : h.Ns mainGlobals mg) (g : GmK K) : Gm mg where
  n_len := PySem.W.mg_none_of X G g.n_len
  n_range := PySem.W.mg_none_of X G g.n_range
  n_enumerate := PySem.W.mg_none_of X G g.n_enumerate
  n_isinstance := PySem.W.mg_none_of X G g.n_isinstance
  n_all := PySem.W.mg_none_of X G g.n_all
  n_any := PySem.W.mg_none_of X G g.n_any
  n_tuple := PySem.W.mg_none_of X G g.n_tuple
  n_list := PySem.W.mg_none_of X G g.n_list
  n_str := PySem.W.mg_none_of X G g.n_str
  n_int := PySem.W.mg_none_of X G g.n_int
  n_bool := PySem.W.mg_none_of X G g.n_bool
  n_abs := PySem.W.mg_none_of X G g.n_abs
  n_sum := PySem.W.mg_none_of X G g.n_sum
  n_min := PySem.W.mg_none_of X G g.n_min
  n_sorted := PySem.W.mg_none_of X G g.n_sorted
  c_LETTERS_core_speech := g.c_LETTERS_core_speech.elim fun t e => ⟨t, PySem.W.mg_of X G e⟩
  c_MOST_LETTERS_core_speech := g.c_MOST_LETTERS_core_speech.elim fun t e => ⟨t, PySem.W.mg_of X G e⟩
  c_MOST_WORDS := g.c_MOST_WORDS.elim fun t e => ⟨t, PySem.W.mg_of X G e⟩
  c_MOST_PHRASES := g.c_MOST_PHRASES.elim fun t e => ⟨t, PySem.W.mg_of X G e⟩
  c_MOST_SAID := g.c_MOST_SAID.elim fun t e => ⟨t, PySem.W.mg_of X G e⟩
  c_MOST_READINGS := g.c_MOST_READINGS.elim fun t e => ⟨t, PySem.W.mg_of X G e⟩
  c_LETTERS_forms := g.c_LETTERS_forms.elim fun t e => ⟨t, PySem.W.mg_of X G e⟩
  c_MOST_LETTERS_forms := g.c_MOST_LETTERS_forms.elim fun t e => ⟨t, PySem.W.mg_of X G e⟩
  c_MOST_FIELDS := g.c_MOST_FIELDS.elim fun t e => ⟨t, PySem.W.mg_of X G e⟩
  c_MOST_VALUES := g.c_MOST_VALUES.elim fun t e => ⟨t, PySem.W.mg_of X G e⟩
  c_MOST_RULES := g.c_MOST_RULES.elim fun t e => ⟨t, PySem.W.mg_of X G e⟩
  c_MOST_PAIRS := g.c_MOST_PAIRS.elim fun t e => ⟨t, PySem.W.mg_of X G e⟩
  c_MOST_FILLINGS := g.c_MOST_FILLINGS.elim fun t e => ⟨t, PySem.W.mg_of X G e⟩
theorem gmk_mk {K : PySem.W.Frag} {t_LETTERS_core_speech t_MOST_LETTERS_core_speech t_MOST_WORDS t_MOST_PHRASES t_MOST_SAID t_MOST_READINGS t_LETTERS_forms t_MOST_LETTERS_forms t_MOST_FIELDS t_MOST_VALUES t_MOST_RULES t_MOST_PAIRS t_MOST_FILLINGS : Tok}
    (n_len : PySem.W.nsIn K mainGlobals "len" = some none)
    (n_range : PySem.W.nsIn K mainGlobals "range" = some none)
    (n_enumerate : PySem.W.nsIn K mainGlobals "enumerate" = some none)
    (n_isinstance : PySem.W.nsIn K mainGlobals "isinstance" = some none)
    (n_all : PySem.W.nsIn K mainGlobals "all" = some none)
    (n_any : PySem.W.nsIn K mainGlobals "any" = some none)
    (n_tuple : PySem.W.nsIn K mainGlobals "tuple" = some none)
    (n_list : PySem.W.nsIn K mainGlobals "list" = some none)
    (n_str : PySem.W.nsIn K mainGlobals "str" = some none)
    (n_int : PySem.W.nsIn K mainGlobals "int" = some none)
    (n_bool : PySem.W.nsIn K mainGlobals "bool" = some none)
    (n_abs : PySem.W.nsIn K mainGlobals "abs" = some none)
    (n_sum : PySem.W.nsIn K mainGlobals "sum" = some none)
    (n_min : PySem.W.nsIn K mainGlobals "min" = some none)
    (n_sorted : PySem.W.nsIn K mainGlobals "sorted" = some none)
    (c_LETTERS_core_speech : PySem.W.nsIn K mainGlobals "LETTERS_core_speech" = some (some (.str "abcdefghijklmnopqrstuvwxyz" t_LETTERS_core_speech)))
    (c_MOST_LETTERS_core_speech : PySem.W.nsIn K mainGlobals "MOST_LETTERS_core_speech" = some (some (.int 8 t_MOST_LETTERS_core_speech)))
    (c_MOST_WORDS : PySem.W.nsIn K mainGlobals "MOST_WORDS" = some (some (.int 6 t_MOST_WORDS)))
    (c_MOST_PHRASES : PySem.W.nsIn K mainGlobals "MOST_PHRASES" = some (some (.int 60 t_MOST_PHRASES)))
    (c_MOST_SAID : PySem.W.nsIn K mainGlobals "MOST_SAID" = some (some (.int 30 t_MOST_SAID)))
    (c_MOST_READINGS : PySem.W.nsIn K mainGlobals "MOST_READINGS" = some (some (.int 200 t_MOST_READINGS)))
    (c_LETTERS_forms : PySem.W.nsIn K mainGlobals "LETTERS_forms" = some (some (.str "abcdefghijklmnopqrstuvwxyz" t_LETTERS_forms)))
    (c_MOST_LETTERS_forms : PySem.W.nsIn K mainGlobals "MOST_LETTERS_forms" = some (some (.int 8 t_MOST_LETTERS_forms)))
    (c_MOST_FIELDS : PySem.W.nsIn K mainGlobals "MOST_FIELDS" = some (some (.int 6 t_MOST_FIELDS)))
    (c_MOST_VALUES : PySem.W.nsIn K mainGlobals "MOST_VALUES" = some (some (.int 5 t_MOST_VALUES)))
    (c_MOST_RULES : PySem.W.nsIn K mainGlobals "MOST_RULES" = some (some (.int 20 t_MOST_RULES)))
    (c_MOST_PAIRS : PySem.W.nsIn K mainGlobals "MOST_PAIRS" = some (some (.int 4 t_MOST_PAIRS)))
    (c_MOST_FILLINGS : PySem.W.nsIn K mainGlobals "MOST_FILLINGS" = some (some (.int 1000 t_MOST_FILLINGS)))
    : GmK K := ⟨n_len, n_range, n_enumerate, n_isinstance, n_all, n_any, n_tuple, n_list, n_str, n_int, n_bool, n_abs, n_sum, n_min, n_sorted, ⟨_, c_LETTERS_core_speech⟩, ⟨_, c_MOST_LETTERS_core_speech⟩, ⟨_, c_MOST_WORDS⟩, ⟨_, c_MOST_PHRASES⟩, ⟨_, c_MOST_SAID⟩, ⟨_, c_MOST_READINGS⟩, ⟨_, c_LETTERS_forms⟩, ⟨_, c_MOST_LETTERS_forms⟩, ⟨_, c_MOST_FIELDS⟩, ⟨_, c_MOST_VALUES⟩, ⟨_, c_MOST_RULES⟩, ⟨_, c_MOST_PAIRS⟩, ⟨_, c_MOST_FILLINGS⟩⟩
theorem all_mk {P : Program} {w : World} {K : PySem.W.Frag} {h : Heap} {mg : Str → Option Value} {fa C c_first_double P_fd c_meanings_of P_mo : Addr} (X : K.In h) (G : h.Ns mainGlobals mg) (hfa : mg "law" = some (.ref fa)) (gk : GmK K) (aC : PySem.W.nsIn K mainGlobals "Form" = some (some (.ref C)))
    (cls : Cls K C) (na1 : NoAttr K C "told_fields") (na2 : NoAttr K C "told_rules") (na3 : NoAttr K C "filled") (mk : PySem.W.makesIn K C = true) (kc : PySem.W.keepIn K (.ref C) = true) (ne : P_fd ≠ P_mo)
    (D_is_sequence : Def K "is_sequence" "is_sequence" "is_sequence" S_is_sequence)
    (D_is_word_core : Def K "is_word_core_speech" "is_word" "is_word" S_is_word_core)
    (D_is_word_forms : Def K "is_word_forms" "is_word" "is_word" S_is_word_forms)
    (D_words_of : Def K "words_of" "words_of" "words_of" S_words_of)
    (D_texts_of : Def K "texts_of" "texts_of" "texts_of" S_texts_of)
    (D_said_words : Def K "said_words" "said_words" "said_words" S_said_words)
    (D_ends_at : Def K "ends_at" "ends_at" "ends_at" S_ends_at)
    (D_beginnings : Def K "beginnings" "beginnings" "beginnings" S_beginnings)
    (D_steps_behind : Def K "steps_behind" "steps_behind" "steps_behind" S_steps_behind)
    (D_is_row : Def K "is_row" "is_row" "is_row" S_is_row)
    (D_are_unlike : Def K "are_unlike" "are_unlike" "are_unlike" S_are_unlike)
    (D_are_words : Def K "are_words" "are_words" "are_words" S_are_words)
    (D_breaks : Def K "breaks" "breaks" "breaks" S_breaks)
    (D_are_fields : Def K "are_fields" "are_fields" "are_fields" S_are_fields)
    (D_all_of : Def K "all_of" "all_of" "all_of" S_all_of)
    (D_fields : DefM K C "fields" "fields" "Form.fields" S_fields)
    (D_is_act : Def K "is_act" "is_act" "is_act" S_is_act)
    (D_as_phrase : Def K "as_phrase" "as_phrase" "as_phrase" S_as_phrase)
    (D_as_phrases : Def K "as_phrases" "as_phrases" "as_phrases" S_as_phrases)
    (D_need_phrases : Def K "need_phrases" "need_phrases" "need_phrases" S_need_phrases)
    (D_check_phrases : Def K "check_phrases" "check_phrases" "check_phrases" S_check_phrases)
    (D_reached_places : Def K "reached_places" "reached_places" "reached_places" S_reached_places)
    (D_readings_of : Def K "readings_of" "readings_of" "readings_of" S_readings_of)
    (D_places_of_acts : Def K "places_of_acts" "places_of_acts" "places_of_acts" S_places_of_acts)
    (D_meanings_of : DefC K "meanings_of" "meanings_of" "meanings_of" S_meanings_of c_meanings_of)
    (D_meanings : Def K "meanings" "meanings" "meanings" S_meanings)
    (D_first_double : DefC K "first_double" "first_double" "first_double" S_first_double c_first_double)
    (D_Form_init : DefM K C "__init__" "__init__" "Form.__init__" S_Form_init)
    (D_law_mixed : Def K "_law_mixed" "_law_mixed" "_law_mixed" S_law_mixed)
    (D_law_reader : Def K "_law_reader" "_law_reader" "_law_reader" S_law_reader)
    (D_law_draw : Def K "_law_draw" "_law_draw" "_law_draw" S_law_draw)
    (D_law_names : Def K "_law_names" "_law_names" "_law_names" S_law_names)
    (D_law_sheet : Def K "_law_sheet" "_law_sheet" "_law_sheet" S_law_sheet)
    (D_law_begins : Def K "_law_begins" "_law_begins" "_law_begins" S_law_begins)
    (D_law_texts : Def K "_law_texts" "_law_texts" "_law_texts" S_law_texts)
    (D_law_split : Def K "_law_split" "_law_split" "_law_split" S_law_split)
    (D_law_pairs : Def K "_law_pairs" "_law_pairs" "_law_pairs" S_law_pairs)
    (D_law_chain : Def K "_law_chain" "_law_chain" "_law_chain" S_law_chain)
    (D_law_said : Def K "_law_said" "_law_said" "_law_said" S_law_said)
    (D_law_same : Def K "_law_same" "_law_same" "_law_same" S_law_same)
    (D_law_own_readings : Def K "_law_own_readings" "_law_own_readings" "_law_own_readings" S_law_own_readings)
    (D_law_makes : Def K "_law_makes" "_law_makes" "_law_makes" S_law_makes)
    (D_law_readings_right : Def K "_law_readings_right" "_law_readings_right" "_law_readings_right" S_law_readings_right)
    (D_law_offer : Def K "_law_offer" "_law_offer" "_law_offer" S_law_offer)
    (D_law_started : Def K "_law_started" "_law_started" "_law_started" S_law_started)
    (D_law_shortest : Def K "_law_shortest" "_law_shortest" "_law_shortest" S_law_shortest)
    (D_law : Def K "law" "law" "law" S_law) :
    ∃ fd : FuncData, (∀ (s : Shared) (v : Value), BindsTo s fd ⟨[v], []⟩ [("_law_script", v)]) ∧ ∀ base : Heap, K.In base → base.Ns mainGlobals mg → TabB base mg c_first_double P_fd → TabB base mg c_meanings_of P_mo →
      FnOk P w K mg base CX0 8 fa fd ["_law_script"] (SpLaw K [(P_fd, lamQ "first_double"), (P_mo, lamQ "meanings_of")]) := by
  have gm := gk.gm X G
  obtain ⟨f_is_sequence, fd_is_sequence, a_is_sequence, F_is_sequence⟩ := D_is_sequence.ex
  have b_is_sequence := F_is_sequence.binds (ps := P_is_sequence) fun _ _ _ _ _ _ us hl => match us, hl with | [_], _ => rfl
  obtain ⟨f_is_word_core, fd_is_word_core, a_is_word_core, F_is_word_core⟩ := D_is_word_core.ex
  have b_is_word_core := F_is_word_core.binds (ps := P_is_word_core) fun _ _ _ _ _ _ us hl => match us, hl with | [_], _ => rfl
  obtain ⟨f_is_word_forms, fd_is_word_forms, a_is_word_forms, F_is_word_forms⟩ := D_is_word_forms.ex
  have b_is_word_forms := F_is_word_forms.binds (ps := P_is_word_forms) fun _ _ _ _ _ _ us hl => match us, hl with | [_], _ => rfl
  obtain ⟨f_words_of, fd_words_of, a_words_of, F_words_of⟩ := D_words_of.ex
  have b_words_of := F_words_of.binds (ps := P_words_of) fun _ _ _ _ _ _ us hl => match us, hl with | [_], _ => rfl
  obtain ⟨f_texts_of, fd_texts_of, a_texts_of, F_texts_of⟩ := D_texts_of.ex
  have b_texts_of := F_texts_of.binds (ps := P_texts_of) fun _ _ _ _ _ _ us hl => match us, hl with | [_], _ => rfl
  obtain ⟨f_said_words, fd_said_words, a_said_words, F_said_words⟩ := D_said_words.ex
  have b_said_words := F_said_words.binds (ps := P_said_words) fun _ _ _ _ _ _ us hl => match us, hl with | [_], _ => rfl
  obtain ⟨f_ends_at, fd_ends_at, a_ends_at, F_ends_at⟩ := D_ends_at.ex
  have b_ends_at := F_ends_at.binds (ps := P_ends_at) fun _ _ _ _ _ _ us hl => match us, hl with | [_, _, _], _ => rfl
  obtain ⟨f_beginnings, fd_beginnings, a_beginnings, F_beginnings⟩ := D_beginnings.ex
  have b_beginnings := F_beginnings.binds (ps := P_beginnings) fun _ _ _ _ _ _ us hl => match us, hl with | [_], _ => rfl
  obtain ⟨f_steps_behind, fd_steps_behind, a_steps_behind, F_steps_behind⟩ := D_steps_behind.ex
  have b_steps_behind := F_steps_behind.binds (ps := P_steps_behind') fun _ _ _ _ _ _ us hl => match us, hl with | [_, _, _], _ => rfl
  obtain ⟨f_is_row, fd_is_row, a_is_row, F_is_row⟩ := D_is_row.ex
  have b_is_row := F_is_row.binds (ps := P_is_row) fun _ _ _ _ _ _ us hl => match us, hl with | [_, _, _], _ => rfl
  obtain ⟨f_are_unlike, fd_are_unlike, a_are_unlike, F_are_unlike⟩ := D_are_unlike.ex
  have b_are_unlike := F_are_unlike.binds (ps := P_are_unlike) fun _ _ _ _ _ _ us hl => match us, hl with | [_], _ => rfl
  obtain ⟨f_are_words, fd_are_words, a_are_words, F_are_words⟩ := D_are_words.ex
  have b_are_words := F_are_words.binds (ps := P_are_words) fun _ _ _ _ _ _ us hl => match us, hl with | [_, _], _ => rfl
  obtain ⟨f_breaks, fd_breaks, a_breaks, F_breaks⟩ := D_breaks.ex
  have b_breaks := F_breaks.binds (ps := P_breaks) fun _ _ _ _ _ _ us hl => match us, hl with | [_, _], _ => rfl
  obtain ⟨f_are_fields, fd_are_fields, a_are_fields, F_are_fields⟩ := D_are_fields.ex
  have b_are_fields := F_are_fields.binds (ps := P_are_fields) fun _ _ _ _ _ _ us hl => match us, hl with | [_], _ => rfl
  obtain ⟨f_all_of, fd_all_of, a_all_of, F_all_of⟩ := D_all_of.ex
  have b_all_of := F_all_of.binds (ps := P_all_of) fun _ _ _ _ _ _ us hl => match us, hl with | [_], _ => rfl
  obtain ⟨f_fields, fd_fields, a_fields, F_fields⟩ := D_fields.ex
  have b_fields := F_fields.binds (ps := P_fields) fun _ _ _ _ _ _ us hl => match us, hl with | [_], _ => rfl
  obtain ⟨f_is_act, fd_is_act, a_is_act, F_is_act⟩ := D_is_act.ex
  have b_is_act := F_is_act.binds (ps := P_is_act) fun _ _ _ _ _ _ us hl => match us, hl with | [_, _], _ => rfl
  obtain ⟨f_as_phrase, fd_as_phrase, a_as_phrase, F_as_phrase⟩ := D_as_phrase.ex
  have b_as_phrase := F_as_phrase.binds (ps := P_as_phrase) fun _ _ _ _ _ _ us hl => match us, hl with | [_, _], _ => rfl
  obtain ⟨f_as_phrases, fd_as_phrases, a_as_phrases, F_as_phrases⟩ := D_as_phrases.ex
  have b_as_phrases := F_as_phrases.binds (ps := P_as_phrases) fun _ _ _ _ _ _ us hl => match us, hl with | [_, _], _ => rfl
  obtain ⟨f_need_phrases, fd_need_phrases, a_need_phrases, F_need_phrases⟩ := D_need_phrases.ex
  have b_need_phrases := F_need_phrases.binds (ps := P_need_phrases) fun _ _ _ _ _ _ us hl => match us, hl with | [_, _, _], _ => rfl
  obtain ⟨f_check_phrases, fd_check_phrases, a_check_phrases, F_check_phrases⟩ := D_check_phrases.ex
  have b_check_phrases := F_check_phrases.binds (ps := P_check_phrases) fun _ _ _ _ _ _ us hl => match us, hl with | [_, _], _ => rfl
  obtain ⟨f_reached_places, fd_reached_places, a_reached_places, F_reached_places⟩ := D_reached_places.ex
  have b_reached_places := F_reached_places.binds (ps := P_reached_places) fun _ _ _ _ _ _ us hl => match us, hl with | [_, _], _ => rfl
  obtain ⟨f_readings_of, fd_readings_of, a_readings_of, F_readings_of⟩ := D_readings_of.ex
  have b_readings_of := F_readings_of.binds (ps := P_readings_of) fun _ _ _ _ _ _ us hl => match us, hl with | [_, _], _ => rfl
  obtain ⟨f_places_of_acts, fd_places_of_acts, a_places_of_acts, F_places_of_acts⟩ := D_places_of_acts.ex
  have b_places_of_acts := F_places_of_acts.binds (ps := P_places_of_acts) fun _ _ _ _ _ _ us hl => match us, hl with | [_], _ => rfl
  obtain ⟨f_meanings_of, fd_meanings_of, a_meanings_of, F_meanings_of⟩ := D_meanings_of.ex
  have b_meanings_of := F_meanings_of.fun.binds (ps := P_meanings_of) fun _ _ _ _ _ _ us hl => match us, hl with | [_, _], _ => rfl
  obtain ⟨f_meanings, fd_meanings, a_meanings, F_meanings⟩ := D_meanings.ex
  have b_meanings := F_meanings.binds (ps := P_meanings) fun _ _ _ _ _ _ us hl => match us, hl with | [_, _, _], _ => rfl
  obtain ⟨f_first_double, fd_first_double, a_first_double, F_first_double⟩ := D_first_double.ex
  have b_first_double := F_first_double.fun.binds (ps := P_first_double) fun _ _ _ _ _ _ us hl => match us, hl with | [_, _], _ => rfl
  obtain ⟨f_Form_init, fd_Form_init, a_Form_init, F_Form_init⟩ := D_Form_init.ex
  have b_Form_init := F_Form_init.binds (ps := P_Form_init) fun _ _ _ _ _ _ us hl => match us, hl with | [_, _, _], _ => rfl
  obtain ⟨f_law_mixed, fd_law_mixed, a_law_mixed, F_law_mixed⟩ := D_law_mixed.ex
  have b_law_mixed := F_law_mixed.binds (ps := P_law_mixed) fun _ _ _ _ _ _ us hl => match us, hl with | [_, _, _], _ => rfl
  obtain ⟨f_law_reader, fd_law_reader, a_law_reader, F_law_reader⟩ := D_law_reader.ex
  have b_law_reader := F_law_reader.binds (ps := P_law_reader) fun _ _ _ _ _ _ us hl => match us, hl with | [_], _ => rfl
  obtain ⟨f_law_draw, fd_law_draw, a_law_draw, F_law_draw⟩ := D_law_draw.ex
  have b_law_draw := F_law_draw.binds (ps := P_law_draw) fun _ _ _ _ _ _ us hl => match us, hl with | [_, _], _ => rfl
  obtain ⟨f_law_names, fd_law_names, a_law_names, F_law_names⟩ := D_law_names.ex
  have b_law_names := F_law_names.binds (ps := P_law_names) fun _ _ _ _ _ _ us hl => match us, hl with | [_, _], _ => rfl
  obtain ⟨f_law_sheet, fd_law_sheet, a_law_sheet, F_law_sheet⟩ := D_law_sheet.ex
  have b_law_sheet := F_law_sheet.binds (ps := P_law_sheet) fun _ _ _ _ _ _ us hl => match us, hl with | [_], _ => rfl
  obtain ⟨f_law_begins, fd_law_begins, a_law_begins, F_law_begins⟩ := D_law_begins.ex
  have b_law_begins := F_law_begins.binds (ps := P_law_begins) fun _ _ _ _ _ _ us hl => match us, hl with | [_, _], _ => rfl
  obtain ⟨f_law_texts, fd_law_texts, a_law_texts, F_law_texts⟩ := D_law_texts.ex
  have b_law_texts := F_law_texts.binds (ps := P_law_texts) fun _ _ _ _ _ _ us hl => match us, hl with | [_, _, _, _], _ => rfl
  obtain ⟨f_law_split, fd_law_split, a_law_split, F_law_split⟩ := D_law_split.ex
  have b_law_split := F_law_split.binds (ps := P_law_split) fun _ _ _ _ _ _ us hl => match us, hl with | [_], _ => rfl
  obtain ⟨f_law_pairs, fd_law_pairs, a_law_pairs, F_law_pairs⟩ := D_law_pairs.ex
  have b_law_pairs := F_law_pairs.binds (ps := P_law_pairs) fun _ _ _ _ _ _ us hl => match us, hl with | [_, _, _], _ => rfl
  obtain ⟨f_law_chain, fd_law_chain, a_law_chain, F_law_chain⟩ := D_law_chain.ex
  have b_law_chain := F_law_chain.binds (ps := P_law_chain) fun _ _ _ _ _ _ us hl => match us, hl with | [_, _], _ => rfl
  obtain ⟨f_law_said, fd_law_said, a_law_said, F_law_said⟩ := D_law_said.ex
  have b_law_said := F_law_said.binds (ps := P_law_said) fun _ _ _ _ _ _ us hl => match us, hl with | [_, _], _ => rfl
  obtain ⟨f_law_same, fd_law_same, a_law_same, F_law_same⟩ := D_law_same.ex
  have b_law_same := F_law_same.binds (ps := P_law_same) fun _ _ _ _ _ _ us hl => match us, hl with | [_, _], _ => rfl
  obtain ⟨f_law_own_readings, fd_law_own_readings, a_law_own_readings, F_law_own_readings⟩ := D_law_own_readings.ex
  have b_law_own_readings := F_law_own_readings.binds (ps := P_law_own_readings) fun _ _ _ _ _ _ us hl => match us, hl with | [_, _, _], _ => rfl
  obtain ⟨f_law_makes, fd_law_makes, a_law_makes, F_law_makes⟩ := D_law_makes.ex
  have b_law_makes := F_law_makes.binds (ps := P_law_makes) fun _ _ _ _ _ _ us hl => match us, hl with | [_, _, _], _ => rfl
  obtain ⟨f_law_readings_right, fd_law_readings_right, a_law_readings_right, F_law_readings_right⟩ := D_law_readings_right.ex
  have b_law_readings_right := F_law_readings_right.binds (ps := P_law_readings_right) fun _ _ _ _ _ _ us hl => match us, hl with | [_, _, _, _], _ => rfl
  obtain ⟨f_law_offer, fd_law_offer, a_law_offer, F_law_offer⟩ := D_law_offer.ex
  have b_law_offer := F_law_offer.binds (ps := P_law_offer) fun _ _ _ _ _ _ us hl => match us, hl with | [_, _, _], _ => rfl
  obtain ⟨f_law_started, fd_law_started, a_law_started, F_law_started⟩ := D_law_started.ex
  have b_law_started := F_law_started.binds (ps := P_law_started) fun _ _ _ _ _ _ us hl => match us, hl with | [_], _ => rfl
  obtain ⟨f_law_shortest, fd_law_shortest, a_law_shortest, F_law_shortest⟩ := D_law_shortest.ex
  have b_law_shortest := F_law_shortest.binds (ps := P_law_shortest) fun _ _ _ _ _ _ us hl => match us, hl with | [_], _ => rfl
  obtain ⟨f_law, fd_law, a_law, F_law⟩ := D_law.ex
  have e := hfa.symm.trans (PySem.W.mg_of X G a_law)
  cases e
  have bk_meanings : ∀ (s : Shared) (ws : List Value), K.In s.heap → ws.length = P_meanings.length → BindsTo s fd_meanings ⟨[], P_meanings.zip ws⟩ (P_meanings.zip ws) := by
    obtain ⟨⟨oc, od, kV, doc, pm, an, cdv, ct, osl, rfl, lk, hcd⟩, kp⟩ := id F_meanings
    exact fun s ws _ hl => match ws, hl with | [_, _, _], _ => .of_eq rfl
  refine ⟨fd_law, ?_, fun base _ _ TB1 TB2 => ?_⟩
  · obtain ⟨⟨oc, od, kV, doc, pm, an, cdv, ct, osl, rfl, lk, hcd⟩, kp⟩ := id F_law
    exact fun s v => .of_eq rfl
  have hT1 : ∀ p ∈ [(P_fd, lamQ "first_double"), (P_mo, lamQ "meanings_of")], p.1 = P_fd → p.2 = lamQ "first_double" := fun p hp e => by
    rcases List.mem_cons.mp hp with rfl | hp
    · rfl
    · rw [List.mem_singleton.mp hp] at e; exact absurd e.symm ne
  have hT2 : ∀ p ∈ [(P_fd, lamQ "first_double"), (P_mo, lamQ "meanings_of")], p.1 = P_mo → p.2 = lamQ "meanings_of" := fun p hp e => by
    rcases List.mem_cons.mp hp with rfl | hp
    · exact absurd e ne
    · rw [List.mem_singleton.mp hp]
  generalize hTd : [(P_fd, lamQ "first_double"), (P_mo, lamQ "meanings_of")] = T at *
  have m1 : (P_fd, lamQ "first_double") ∈ T := by rw [← hTd]; exact List.mem_cons_self
  have m2 : (P_mo, lamQ "meanings_of") ∈ T := by rw [← hTd]; exact List.mem_cons_of_mem _ List.mem_cons_self
  have A_is_sequence : At P w K mg base 1 "is_sequence" P_is_sequence (SpP T cIsSeq) := ⟨_, _, PySem.W.mg_of X G a_is_sequence, F_is_sequence.kp, b_is_sequence, ok_is_sequence F_is_sequence gm⟩
  have A_is_word_core_speech : At P w K mg base 1 "is_word_core_speech" P_is_word_core (SpP T cIsWord) := ⟨_, _, PySem.W.mg_of X G a_is_word_core, F_is_word_core.kp, b_is_word_core, ok_is_word_core F_is_word_core gm⟩
  have A_is_word_forms : At P w K mg base 1 "is_word_forms" P_is_word_forms (SpP T cIsWord) := ⟨_, _, PySem.W.mg_of X G a_is_word_forms, F_is_word_forms.kp, b_is_word_forms, ok_is_word_forms F_is_word_forms gm⟩
  have A_words_of : At P w K mg base 2 "words_of" P_words_of (SpP T cWordsOf) := ⟨_, _, PySem.W.mg_of X G a_words_of, F_words_of.kp, b_words_of, ok_words_of F_words_of gm A_is_word_core_speech⟩
  have A_texts_of : At P w K mg base 1 "texts_of" P_texts_of (SpP T cTextsOf) := ⟨_, _, PySem.W.mg_of X G a_texts_of, F_texts_of.kp, b_texts_of, ok_texts_of F_texts_of gm⟩
  have A_said_words : At P w K mg base 1 "said_words" P_said_words (SpP T cSaid) := ⟨_, _, PySem.W.mg_of X G a_said_words, F_said_words.kp, b_said_words, ok_said_words F_said_words gm⟩
  have A_ends_at : At P w K mg base 1 "ends_at" P_ends_at (SpP T cEnds) := ⟨_, _, PySem.W.mg_of X G a_ends_at, F_ends_at.kp, b_ends_at, ok_ends_at F_ends_at gm⟩
  have A_beginnings : At P w K mg base 1 "beginnings" P_beginnings (SpP T cBegins) := ⟨_, _, PySem.W.mg_of X G a_beginnings, F_beginnings.kp, b_beginnings, ok_beginnings F_beginnings gm⟩
  have A_steps_behind : At P w K mg base 1 "steps_behind" P_steps_behind' (SpP T cSteps) := ⟨_, _, PySem.W.mg_of X G a_steps_behind, F_steps_behind.kp, b_steps_behind, ok_steps_behind F_steps_behind gm⟩
  have A_is_row : At P w K mg base 1 "is_row" P_is_row (SpP T cIsRow) := ⟨_, _, PySem.W.mg_of X G a_is_row, F_is_row.kp, b_is_row, ok_is_row F_is_row gm⟩
  have A_are_unlike : At P w K mg base 1 "are_unlike" P_are_unlike (SpP T cUnlike) := ⟨_, _, PySem.W.mg_of X G a_are_unlike, F_are_unlike.kp, b_are_unlike, ok_are_unlike F_are_unlike gm⟩
  have A_are_words : At P w K mg base 2 "are_words" P_are_words (SpP T cAreWords) := ⟨_, _, PySem.W.mg_of X G a_are_words, F_are_words.kp, b_are_words, ok_are_words F_are_words gm A_is_row A_is_word_forms A_are_unlike⟩
  have A_breaks : At P w K mg base 1 "breaks" P_breaks (SpP T cBreaks) := ⟨_, _, PySem.W.mg_of X G a_breaks, F_breaks.kp, b_breaks, ok_breaks F_breaks gm⟩
  have A_are_fields : At P w K mg base 3 "are_fields" P_are_fields (SpP T cAreFields) := ⟨_, _, PySem.W.mg_of X G a_are_fields, F_are_fields.kp, b_are_fields, ok_are_fields F_are_fields gm A_is_row A_is_word_forms A_are_unlike A_are_words⟩
  have A_all_of : At P w K mg base 1 "all_of" P_all_of (SpP T cAllOf) := ⟨_, _, PySem.W.mg_of X G a_all_of, F_all_of.kp, b_all_of, ok_all_of F_all_of gm⟩
  have A_fields : AtM P w K mg base C 1 "fields" P_fields (SpP T (cFields C)) := ⟨cls, _, _, a_fields, b_fields, ok_fields F_fields cls na1⟩
  have A_is_act : At P w K mg base 2 "is_act" P_is_act (SpP T (cIsAct C)) := ⟨_, _, PySem.W.mg_of X G a_is_act, F_is_act.kp, b_is_act, ok_is_act F_is_act gm A_fields⟩
  have A_as_phrase : At P w K mg base 3 "as_phrase" P_as_phrase (SpP T (cAsPhrase C)) := ⟨_, _, PySem.W.mg_of X G a_as_phrase, F_as_phrase.kp, b_as_phrase, ok_as_phrase F_as_phrase gm A_is_sequence A_words_of A_is_act⟩
  have A_as_phrases : At P w K mg base 4 "as_phrases" P_as_phrases (SpP T (cAsPhrases C)) := ⟨_, _, PySem.W.mg_of X G a_as_phrases, F_as_phrases.kp, b_as_phrases, ok_as_phrases F_as_phrases gm A_is_sequence A_as_phrase⟩
  have A_need_phrases : At P w K mg base 5 "need_phrases" P_need_phrases (SpP T (cNeed C)) := ⟨_, _, PySem.W.mg_of X G a_need_phrases, F_need_phrases.kp, b_need_phrases, ok_need_phrases F_need_phrases gm A_as_phrases⟩
  have A_check_phrases : At P w K mg base 6 "check_phrases" P_check_phrases (SpP T (cCheck C)) := ⟨_, _, PySem.W.mg_of X G a_check_phrases, F_check_phrases.kp, b_check_phrases, ok_check_phrases F_check_phrases gm A_need_phrases⟩
  have A_reached_places : At P w K mg base 2 "reached_places" P_reached_places (SpP T cReached) := ⟨_, _, PySem.W.mg_of X G a_reached_places, F_reached_places.kp, b_reached_places, ok_reached_places F_reached_places gm A_ends_at⟩
  have A_readings_of : At P w K mg base 3 "readings_of" P_readings_of (SpP T cReadings) := ⟨_, _, PySem.W.mg_of X G a_readings_of, F_readings_of.kp, b_readings_of, ok_readings_of F_readings_of gm A_ends_at A_reached_places⟩
  have A_places_of_acts : At P w K mg base 1 "places_of_acts" P_places_of_acts (SpP T (cPlaces P w)) := ⟨_, _, PySem.W.mg_of X G a_places_of_acts, F_places_of_acts.kp, b_places_of_acts, ok_places_of_acts F_places_of_acts gm⟩
  have A_meanings_of : At P w K mg base 5 "meanings_of" P_meanings_of (SpP T (cMeansOf T)) := ⟨_, _, PySem.W.mg_of X G a_meanings_of, F_meanings_of.kp, b_meanings_of, ok_meanings_of F_meanings_of gm TB2 m2 hT2 A_said_words A_places_of_acts A_readings_of A_texts_of⟩
  have A_meanings : At P w K mg base 6 "meanings" P_meanings (SpP T (cMeans T C)) := ⟨_, _, PySem.W.mg_of X G a_meanings, F_meanings.kp, b_meanings, ok_meanings F_meanings gm A_need_phrases A_meanings_of⟩
  have AK_meanings : AtK P w K mg base 6 "meanings" P_meanings (SpP T (cMeans T C)) := ⟨_, _, PySem.W.mg_of X G a_meanings, F_meanings.kp, bk_meanings, ok_meanings F_meanings gm A_need_phrases A_meanings_of⟩
  have A_first_double : At P w K mg base 6 "first_double" P_first_double (SpP T (cDouble T C)) := ⟨_, _, PySem.W.mg_of X G a_first_double, F_first_double.kp, b_first_double, ok_first_double F_first_double gm TB1 m1 hT1 A_texts_of A_need_phrases A_beginnings A_steps_behind⟩
  have A_Form : AtC P w K mg base 4 "Form" C P_Form_init (SpI T C) := ⟨_, _, ⟨mk, a_Form_init.1, a_Form_init.2, kc⟩, PySem.W.mg_of X G aC, b_Form_init, ok_Form_init F_Form_init gm cls na1 na2 na3 A_is_row A_are_fields A_all_of A_breaks⟩
  have A_law_mixed : At P w K mg base 1 "_law_mixed" P_law_mixed (SpP T cMixed) := ⟨_, _, PySem.W.mg_of X G a_law_mixed, F_law_mixed.kp, b_law_mixed, ok_law_mixed F_law_mixed gm⟩
  have A_law_reader : At P w K mg base 1 "_law_reader" P_law_reader (SpReader K T) := ⟨_, _, PySem.W.mg_of X G a_law_reader, F_law_reader.kp, b_law_reader, ok_law_reader F_law_reader gm⟩
  have A_law_draw : At P w K mg base 2 "_law_draw" P_law_draw (SpD T cDraw) := ⟨_, _, PySem.W.mg_of X G a_law_draw, F_law_draw.kp, b_law_draw, ok_law_draw F_law_draw gm A_law_mixed⟩
  have A_law_names : At P w K mg base 3 "_law_names" P_law_names (SpD T cNames) := ⟨_, _, PySem.W.mg_of X G a_law_names, F_law_names.kp, b_law_names, ok_law_names F_law_names gm A_law_draw⟩
  have A_law_sheet : At P w K mg base 4 "_law_sheet" P_law_sheet (SpD T cSheet) := ⟨_, _, PySem.W.mg_of X G a_law_sheet, F_law_sheet.kp, b_law_sheet, ok_law_sheet F_law_sheet gm A_law_draw A_law_names⟩
  have A_law_begins : At P w K mg base 1 "_law_begins" P_law_begins (SpP T cBegins') := ⟨_, _, PySem.W.mg_of X G a_law_begins, F_law_begins.kp, b_law_begins, ok_law_begins F_law_begins gm⟩
  have A_law_texts : At P w K mg base 3 "_law_texts" P_law_texts (SpD T cTexts) := ⟨_, _, PySem.W.mg_of X G a_law_texts, F_law_texts.kp, b_law_texts, ok_law_texts F_law_texts gm A_law_draw A_law_begins⟩
  have A_law_split : At P w K mg base 1 "_law_split" P_law_split (SpP T cSplit) := ⟨_, _, PySem.W.mg_of X G a_law_split, F_law_split.kp, b_law_split, ok_law_split F_law_split gm⟩
  have A_law_pairs : At P w K mg base 3 "_law_pairs" P_law_pairs (SpD T cPairs) := ⟨_, _, PySem.W.mg_of X G a_law_pairs, F_law_pairs.kp, b_law_pairs, ok_law_pairs F_law_pairs gm A_law_draw⟩
  have A_law_chain : At P w K mg base 3 "_law_chain" P_law_chain (SpD T cChain) := ⟨_, _, PySem.W.mg_of X G a_law_chain, F_law_chain.kp, b_law_chain, ok_law_chain F_law_chain gm A_law_draw⟩
  have A_law_said : At P w K mg base 3 "_law_said" P_law_said (SpD T cSaidW) := ⟨_, _, PySem.W.mg_of X G a_law_said, F_law_said.kp, b_law_said, ok_law_said F_law_said gm A_law_draw⟩
  have A_law_same0 : At P w K mg base 1 "_law_same" P_law_same (SpP T (cSame 0)) := ⟨_, _, PySem.W.mg_of X G a_law_same, F_law_same.kp, b_law_same, ok_law_same0 F_law_same gm⟩
  have A_law_same1 : At P w K mg base 2 "_law_same" P_law_same (SpP T (cSame 1)) := ⟨_, _, PySem.W.mg_of X G a_law_same, F_law_same.kp, b_law_same, ok_law_same1 (n := 0) F_law_same gm A_law_same0⟩
  have A_law_same2 : At P w K mg base 3 "_law_same" P_law_same (SpP T (cSame 2)) := ⟨_, _, PySem.W.mg_of X G a_law_same, F_law_same.kp, b_law_same, ok_law_same1 (n := 1) F_law_same gm A_law_same1⟩
  have A_law_same : At P w K mg base 4 "_law_same" P_law_same (SpP T (cSame 3)) := ⟨_, _, PySem.W.mg_of X G a_law_same, F_law_same.kp, b_law_same, ok_law_same1 (n := 2) F_law_same gm A_law_same2⟩
  have A_law_own_readings : At P w K mg base 7 "_law_own_readings" P_law_own_readings (SpD T (cOwn T C)) := ⟨_, _, PySem.W.mg_of X G a_law_own_readings, F_law_own_readings.kp, b_law_own_readings, ok_law_own_readings F_law_own_readings gm A_law_draw A_law_said A_meanings A_law_same⟩
  have A_law_makes : At P w K mg base 1 "_law_makes" P_law_makes (SpP T cMakes) := ⟨_, _, PySem.W.mg_of X G a_law_makes, F_law_makes.kp, b_law_makes, ok_law_makes F_law_makes gm⟩
  have A_law_readings_right : At P w K mg base 7 "_law_readings_right" P_law_readings_right (SpP T (cRight T C)) := ⟨_, _, PySem.W.mg_of X G a_law_readings_right, F_law_readings_right.kp, b_law_readings_right, ok_law_readings_right F_law_readings_right gm AK_meanings A_law_makes⟩
  have A_law_offer : At P w K mg base 1 "_law_offer" P_law_offer (SpOffer P w T) := ⟨_, _, PySem.W.mg_of X G a_law_offer, F_law_offer.kp, b_law_offer, ok_law_offer F_law_offer gm⟩
  have A_law_started : At P w K mg base 2 "_law_started" P_law_started (SpP T (cStarted P w)) := ⟨_, _, PySem.W.mg_of X G a_law_started, F_law_started.kp, b_law_started, ok_law_started F_law_started gm A_law_offer⟩
  have A_law_shortest : At P w K mg base 3 "_law_shortest" P_law_shortest (SpP T cShortest) := ⟨_, _, PySem.W.mg_of X G a_law_shortest, F_law_shortest.kp, b_law_shortest, ok_law_shortest F_law_shortest gm A_law_offer A_law_started⟩
  exact ok_law F_law gm A_law_reader A_law_draw A_law_names A_law_sheet A_Form A_law_texts A_law_chain A_law_pairs A_check_phrases A_law_shortest A_law_split A_first_double A_law_own_readings A_law_same A_law_readings_right
theorem law_end {l : PySem.W.OpenLaw} {w : World} {K : PySem.W.Frag} {h : Heap} {mg : Str → Option Value} {fa C c_first_double P_fd c_meanings_of P_mo : Addr} (X : K.In h) (G : h.Ns mainGlobals mg) (hfa : mg "law" = some (.ref fa)) (gk : GmK K) (aC : PySem.W.nsIn K mainGlobals "Form" = some (some (.ref C)))
    (cls : Cls K C) (na1 : PySem.W.findIn K (.ref C) "told_fields" = some none) (na2 : PySem.W.findIn K (.ref C) "told_rules" = some none) (na3 : PySem.W.findIn K (.ref C) "filled" = some none) (mk : PySem.W.makesIn K C = true) (kc : PySem.W.keepIn K (.ref C) = true)
    (hd1 : PySem.W.codeHdIn K c_first_double P_fd = true) (hd2 : PySem.W.codeHdIn K c_meanings_of P_mo = true) (ne : P_fd ≠ P_mo)
    (nk1 : K.lookup P_fd = none) (nk2 : K.lookup P_mo = none) (t1 : h.get? P_fd = some (PySem.W.tabObj #[])) (t2 : h.get? P_mo = some (PySem.W.tabObj #[]))
    (D_is_sequence : Def K "is_sequence" "is_sequence" "is_sequence" S_is_sequence)
    (D_is_word_core : Def K "is_word_core_speech" "is_word" "is_word" S_is_word_core)
    (D_is_word_forms : Def K "is_word_forms" "is_word" "is_word" S_is_word_forms)
    (D_words_of : Def K "words_of" "words_of" "words_of" S_words_of)
    (D_texts_of : Def K "texts_of" "texts_of" "texts_of" S_texts_of)
    (D_said_words : Def K "said_words" "said_words" "said_words" S_said_words)
    (D_ends_at : Def K "ends_at" "ends_at" "ends_at" S_ends_at)
    (D_beginnings : Def K "beginnings" "beginnings" "beginnings" S_beginnings)
    (D_steps_behind : Def K "steps_behind" "steps_behind" "steps_behind" S_steps_behind)
    (D_is_row : Def K "is_row" "is_row" "is_row" S_is_row)
    (D_are_unlike : Def K "are_unlike" "are_unlike" "are_unlike" S_are_unlike)
    (D_are_words : Def K "are_words" "are_words" "are_words" S_are_words)
    (D_breaks : Def K "breaks" "breaks" "breaks" S_breaks)
    (D_are_fields : Def K "are_fields" "are_fields" "are_fields" S_are_fields)
    (D_all_of : Def K "all_of" "all_of" "all_of" S_all_of)
    (D_fields : DefM K C "fields" "fields" "Form.fields" S_fields)
    (D_is_act : Def K "is_act" "is_act" "is_act" S_is_act)
    (D_as_phrase : Def K "as_phrase" "as_phrase" "as_phrase" S_as_phrase)
    (D_as_phrases : Def K "as_phrases" "as_phrases" "as_phrases" S_as_phrases)
    (D_need_phrases : Def K "need_phrases" "need_phrases" "need_phrases" S_need_phrases)
    (D_check_phrases : Def K "check_phrases" "check_phrases" "check_phrases" S_check_phrases)
    (D_reached_places : Def K "reached_places" "reached_places" "reached_places" S_reached_places)
    (D_readings_of : Def K "readings_of" "readings_of" "readings_of" S_readings_of)
    (D_places_of_acts : Def K "places_of_acts" "places_of_acts" "places_of_acts" S_places_of_acts)
    (D_meanings_of : DefC K "meanings_of" "meanings_of" "meanings_of" S_meanings_of c_meanings_of)
    (D_meanings : Def K "meanings" "meanings" "meanings" S_meanings)
    (D_first_double : DefC K "first_double" "first_double" "first_double" S_first_double c_first_double)
    (D_Form_init : DefM K C "__init__" "__init__" "Form.__init__" S_Form_init)
    (D_law_mixed : Def K "_law_mixed" "_law_mixed" "_law_mixed" S_law_mixed)
    (D_law_reader : Def K "_law_reader" "_law_reader" "_law_reader" S_law_reader)
    (D_law_draw : Def K "_law_draw" "_law_draw" "_law_draw" S_law_draw)
    (D_law_names : Def K "_law_names" "_law_names" "_law_names" S_law_names)
    (D_law_sheet : Def K "_law_sheet" "_law_sheet" "_law_sheet" S_law_sheet)
    (D_law_begins : Def K "_law_begins" "_law_begins" "_law_begins" S_law_begins)
    (D_law_texts : Def K "_law_texts" "_law_texts" "_law_texts" S_law_texts)
    (D_law_split : Def K "_law_split" "_law_split" "_law_split" S_law_split)
    (D_law_pairs : Def K "_law_pairs" "_law_pairs" "_law_pairs" S_law_pairs)
    (D_law_chain : Def K "_law_chain" "_law_chain" "_law_chain" S_law_chain)
    (D_law_said : Def K "_law_said" "_law_said" "_law_said" S_law_said)
    (D_law_same : Def K "_law_same" "_law_same" "_law_same" S_law_same)
    (D_law_own_readings : Def K "_law_own_readings" "_law_own_readings" "_law_own_readings" S_law_own_readings)
    (D_law_makes : Def K "_law_makes" "_law_makes" "_law_makes" S_law_makes)
    (D_law_readings_right : Def K "_law_readings_right" "_law_readings_right" "_law_readings_right" S_law_readings_right)
    (D_law_offer : Def K "_law_offer" "_law_offer" "_law_offer" S_law_offer)
    (D_law_started : Def K "_law_started" "_law_started" "_law_started" S_law_started)
    (D_law_shortest : Def K "_law_shortest" "_law_shortest" "_law_shortest" S_law_shortest)
    (D_law : Def K "law" "law" "law" S_law) :
    LawAtS l w K CX0 8 63 "_law_script" mg fa h := by
  obtain ⟨fd, hb, hF⟩ := all_mk (P := l.prog) (w := w) X G hfa gk aC cls na1 na2 na3 mk kc ne D_is_sequence D_is_word_core D_is_word_forms D_words_of D_texts_of D_said_words D_ends_at D_beginnings D_steps_behind D_is_row D_are_unlike D_are_words D_breaks D_are_fields D_all_of D_fields D_is_act D_as_phrase D_as_phrases D_need_phrases D_check_phrases D_reached_places D_readings_of D_places_of_acts D_meanings_of D_meanings D_first_double D_Form_init D_law_mixed D_law_reader D_law_draw D_law_names D_law_sheet D_law_begins D_law_texts D_law_split D_law_pairs D_law_chain D_law_said D_law_same D_law_own_readings D_law_makes D_law_readings_right D_law_offer D_law_started D_law_shortest D_law
  refine ⟨fd, [(c_first_double, P_fd), (c_meanings_of, P_mo)], _, fun p hp => ?_, fun p hp => ?_, fun p hp => ?_, hb, fun H a ns hn _ hH hS => ?_, fun base kb gb TB => hF base kb gb (TB _ List.mem_cons_self) (TB _ (List.mem_cons_of_mem _ List.mem_cons_self))⟩
  · rcases List.mem_cons.mp hp with rfl | hp
    · exact t1
    · rw [List.mem_singleton.mp hp]; exact t2
  · rcases List.mem_cons.mp hp with rfl | hp
    · exact nk1
    · rw [List.mem_singleton.mp hp]; exact nk2
  · rcases List.mem_cons.mp hp with rfl | hp
    · exact PySem.W.codeHd_of_K X hd1
    · rw [List.mem_singleton.mp hp]; exact PySem.W.codeHd_of_K X hd2
  · refine ⟨a, ns, rfl, hS, fun x hx => ?_, fun _ => rfl⟩
    have hx1 : H x.1 = some (.tbl #[]) := by
      rcases List.mem_cons.mp hx with rfl | hx
      · exact hH _ List.mem_cons_self
      · rw [List.mem_singleton.mp hx]; exact hH _ (List.mem_cons_of_mem _ List.mem_cons_self)
    exact TabS.nil hx1
end Sf

open PySem PySem.W PyProof.Rows
set_option maxRecDepth 100000 in
set_option maxHeartbeats 0 in
theorem PySem.Challenge.cw_sayfill_k11_whole_no_two_rows_meet_holds : PySem.Challenge.rw_sayfill_k11_whole_no_two_rows_meet.Holds := by
  w_on; o_law; k_head; (case hw => w_witness2)
  k_fill
  refine LamX.walk_ofTs (l := PySem.Challenge.rw_sayfill_k11_whole_no_two_rows_meet) (n := 63) (k := 8) (x := "_law_script") (CX := fun _ => L2.CX0) rfl (by decide) rfl ⟨rfl, by decide, by decide⟩ (fun w h Y => PySem.W.km_in_of Y) ?F (fun _ _ _ _ _ z => z)
  case F =>
    intro w mg fa h Y KX G hmg
    refine' Sf.law_end (P_fd := 183) (P_mo := 155) KX G hmg (Sf.gmk_mk ?g_len ?g_range ?g_enumerate ?g_isinstance ?g_all ?g_any ?g_tuple ?g_list ?g_str ?g_int ?g_bool ?g_abs ?g_sum ?g_min ?g_sorted ?v_LETTERS_core_speech ?v_MOST_LETTERS_core_speech ?v_MOST_WORDS ?v_MOST_PHRASES ?v_MOST_SAID ?v_MOST_READINGS ?v_LETTERS_forms ?v_MOST_LETTERS_forms ?v_MOST_FIELDS ?v_MOST_VALUES ?v_MOST_RULES ?v_MOST_PAIRS ?v_MOST_FILLINGS) ?aC ⟨?pg, ?hd, ?po, ?sa⟩ ?na1 ?na2 ?na3 ?mk ?kc ?hd1 ?hd2 ?ne ?nk1 ?nk2 ?t1 ?t2 (Sf.def_mk (st := Sf.S_is_sequence) ?a_is_sequence ?l_is_sequence ?c_is_sequence ?k_is_sequence) (Sf.def_mk (st := Sf.S_is_word_core) ?a_is_word_core ?l_is_word_core ?c_is_word_core ?k_is_word_core) (Sf.def_mk (st := Sf.S_is_word_forms) ?a_is_word_forms ?l_is_word_forms ?c_is_word_forms ?k_is_word_forms) (Sf.def_mk (st := Sf.S_words_of) ?a_words_of ?l_words_of ?c_words_of ?k_words_of) (Sf.def_mk (st := Sf.S_texts_of) ?a_texts_of ?l_texts_of ?c_texts_of ?k_texts_of) (Sf.def_mk (st := Sf.S_said_words) ?a_said_words ?l_said_words ?c_said_words ?k_said_words) (Sf.def_mk (st := Sf.S_ends_at) ?a_ends_at ?l_ends_at ?c_ends_at ?k_ends_at) (Sf.def_mk (st := Sf.S_beginnings) ?a_beginnings ?l_beginnings ?c_beginnings ?k_beginnings) (Sf.def_mk (st := Sf.S_steps_behind) ?a_steps_behind ?l_steps_behind ?c_steps_behind ?k_steps_behind) (Sf.def_mk (st := Sf.S_is_row) ?a_is_row ?l_is_row ?c_is_row ?k_is_row) (Sf.def_mk (st := Sf.S_are_unlike) ?a_are_unlike ?l_are_unlike ?c_are_unlike ?k_are_unlike) (Sf.def_mk (st := Sf.S_are_words) ?a_are_words ?l_are_words ?c_are_words ?k_are_words) (Sf.def_mk (st := Sf.S_breaks) ?a_breaks ?l_breaks ?c_breaks ?k_breaks) (Sf.def_mk (st := Sf.S_are_fields) ?a_are_fields ?l_are_fields ?c_are_fields ?k_are_fields) (Sf.def_mk (st := Sf.S_all_of) ?a_all_of ?l_all_of ?c_all_of ?k_all_of) (Sf.defM_mk (st := Sf.S_fields) ?a_fields ?i_fields ?l_fields ?c_fields ?k_fields) (Sf.def_mk (st := Sf.S_is_act) ?a_is_act ?l_is_act ?c_is_act ?k_is_act) (Sf.def_mk (st := Sf.S_as_phrase) ?a_as_phrase ?l_as_phrase ?c_as_phrase ?k_as_phrase) (Sf.def_mk (st := Sf.S_as_phrases) ?a_as_phrases ?l_as_phrases ?c_as_phrases ?k_as_phrases) (Sf.def_mk (st := Sf.S_need_phrases) ?a_need_phrases ?l_need_phrases ?c_need_phrases ?k_need_phrases) (Sf.def_mk (st := Sf.S_check_phrases) ?a_check_phrases ?l_check_phrases ?c_check_phrases ?k_check_phrases) (Sf.def_mk (st := Sf.S_reached_places) ?a_reached_places ?l_reached_places ?c_reached_places ?k_reached_places) (Sf.def_mk (st := Sf.S_readings_of) ?a_readings_of ?l_readings_of ?c_readings_of ?k_readings_of) (Sf.def_mk (st := Sf.S_places_of_acts) ?a_places_of_acts ?l_places_of_acts ?c_places_of_acts ?k_places_of_acts) (Sf.defC_mk (st := Sf.S_meanings_of) ?a_meanings_of ?l_meanings_of ?c_meanings_of ?k_meanings_of) (Sf.def_mk (st := Sf.S_meanings) ?a_meanings ?l_meanings ?c_meanings ?k_meanings) (Sf.defC_mk (st := Sf.S_first_double) ?a_first_double ?l_first_double ?c_first_double ?k_first_double) (Sf.defM_mk (st := Sf.S_Form_init) ?a_Form_init ?i_Form_init ?l_Form_init ?c_Form_init ?k_Form_init) (Sf.def_mk (st := Sf.S_law_mixed) ?a_law_mixed ?l_law_mixed ?c_law_mixed ?k_law_mixed) (Sf.def_mk (st := Sf.S_law_reader) ?a_law_reader ?l_law_reader ?c_law_reader ?k_law_reader) (Sf.def_mk (st := Sf.S_law_draw) ?a_law_draw ?l_law_draw ?c_law_draw ?k_law_draw) (Sf.def_mk (st := Sf.S_law_names) ?a_law_names ?l_law_names ?c_law_names ?k_law_names) (Sf.def_mk (st := Sf.S_law_sheet) ?a_law_sheet ?l_law_sheet ?c_law_sheet ?k_law_sheet) (Sf.def_mk (st := Sf.S_law_begins) ?a_law_begins ?l_law_begins ?c_law_begins ?k_law_begins) (Sf.def_mk (st := Sf.S_law_texts) ?a_law_texts ?l_law_texts ?c_law_texts ?k_law_texts) (Sf.def_mk (st := Sf.S_law_split) ?a_law_split ?l_law_split ?c_law_split ?k_law_split) (Sf.def_mk (st := Sf.S_law_pairs) ?a_law_pairs ?l_law_pairs ?c_law_pairs ?k_law_pairs) (Sf.def_mk (st := Sf.S_law_chain) ?a_law_chain ?l_law_chain ?c_law_chain ?k_law_chain) (Sf.def_mk (st := Sf.S_law_said) ?a_law_said ?l_law_said ?c_law_said ?k_law_said) (Sf.def_mk (st := Sf.S_law_same) ?a_law_same ?l_law_same ?c_law_same ?k_law_same) (Sf.def_mk (st := Sf.S_law_own_readings) ?a_law_own_readings ?l_law_own_readings ?c_law_own_readings ?k_law_own_readings) (Sf.def_mk (st := Sf.S_law_makes) ?a_law_makes ?l_law_makes ?c_law_makes ?k_law_makes) (Sf.def_mk (st := Sf.S_law_readings_right) ?a_law_readings_right ?l_law_readings_right ?c_law_readings_right ?k_law_readings_right) (Sf.def_mk (st := Sf.S_law_offer) ?a_law_offer ?l_law_offer ?c_law_offer ?k_law_offer) (Sf.def_mk (st := Sf.S_law_started) ?a_law_started ?l_law_started ?c_law_started ?k_law_started) (Sf.def_mk (st := Sf.S_law_shortest) ?a_law_shortest ?l_law_shortest ?c_law_shortest ?k_law_shortest) (Sf.def_mk (st := Sf.S_law) ?a_law ?l_law ?c_law ?k_law)
    (case aC => k_is)
    (case pg => k_is)
    (case hd => k_is)
    (case po => k_is)
    (case sa => k_is)
    (case na1 => k_is)
    (case na2 => k_is)
    (case na3 => k_is)
    (case mk => k_is)
    (case kc => k_is)
    (case g_len => k_is)
    (case g_range => k_is)
    (case g_enumerate => k_is)
    (case g_isinstance => k_is)
    (case g_all => k_is)
    (case g_any => k_is)
    (case g_tuple => k_is)
    (case g_list => k_is)
    (case g_str => k_is)
    (case g_int => k_is)
    (case g_bool => k_is)
    (case g_abs => k_is)
    (case g_sum => k_is)
    (case g_min => k_is)
    (case g_sorted => k_is)
    (case v_LETTERS_core_speech => k_is)
    (case v_MOST_LETTERS_core_speech => k_is)
    (case v_MOST_WORDS => k_is)
    (case v_MOST_PHRASES => k_is)
    (case v_MOST_SAID => k_is)
    (case v_MOST_READINGS => k_is)
    (case v_LETTERS_forms => k_is)
    (case v_MOST_LETTERS_forms => k_is)
    (case v_MOST_FIELDS => k_is)
    (case v_MOST_VALUES => k_is)
    (case v_MOST_RULES => k_is)
    (case v_MOST_PAIRS => k_is)
    (case v_MOST_FILLINGS => k_is)
    (case a_is_sequence => k_is)
    (case l_is_sequence => k_is)
    (case c_is_sequence => k_is)
    (case k_is_sequence => k_is)
    (case a_is_word_core => k_is)
    (case l_is_word_core => k_is)
    (case c_is_word_core => k_is)
    (case k_is_word_core => k_is)
    (case a_is_word_forms => k_is)
    (case l_is_word_forms => k_is)
    (case c_is_word_forms => k_is)
    (case k_is_word_forms => k_is)
    (case a_words_of => k_is)
    (case l_words_of => k_is)
    (case c_words_of => k_is)
    (case k_words_of => k_is)
    (case a_texts_of => k_is)
    (case l_texts_of => k_is)
    (case c_texts_of => k_is)
    (case k_texts_of => k_is)
    (case a_said_words => k_is)
    (case l_said_words => k_is)
    (case c_said_words => k_is)
    (case k_said_words => k_is)
    (case a_ends_at => k_is)
    (case l_ends_at => k_is)
    (case c_ends_at => k_is)
    (case k_ends_at => k_is)
    (case a_beginnings => k_is)
    (case l_beginnings => k_is)
    (case c_beginnings => k_is)
    (case k_beginnings => k_is)
    (case a_steps_behind => k_is)
    (case l_steps_behind => k_is)
    (case c_steps_behind => k_is)
    (case k_steps_behind => k_is)
    (case a_is_row => k_is)
    (case l_is_row => k_is)
    (case c_is_row => k_is)
    (case k_is_row => k_is)
    (case a_are_unlike => k_is)
    (case l_are_unlike => k_is)
    (case c_are_unlike => k_is)
    (case k_are_unlike => k_is)
    (case a_are_words => k_is)
    (case l_are_words => k_is)
    (case c_are_words => k_is)
    (case k_are_words => k_is)
    (case a_breaks => k_is)
    (case l_breaks => k_is)
    (case c_breaks => k_is)
    (case k_breaks => k_is)
    (case a_are_fields => k_is)
    (case l_are_fields => k_is)
    (case c_are_fields => k_is)
    (case k_are_fields => k_is)
    (case a_all_of => k_is)
    (case l_all_of => k_is)
    (case c_all_of => k_is)
    (case k_all_of => k_is)
    (case a_fields => k_is)
    (case i_fields => k_is)
    (case l_fields => k_is)
    (case c_fields => k_is)
    (case k_fields => k_is)
    (case a_is_act => k_is)
    (case l_is_act => k_is)
    (case c_is_act => k_is)
    (case k_is_act => k_is)
    (case a_as_phrase => k_is)
    (case l_as_phrase => k_is)
    (case c_as_phrase => k_is)
    (case k_as_phrase => k_is)
    (case a_as_phrases => k_is)
    (case l_as_phrases => k_is)
    (case c_as_phrases => k_is)
    (case k_as_phrases => k_is)
    (case a_need_phrases => k_is)
    (case l_need_phrases => k_is)
    (case c_need_phrases => k_is)
    (case k_need_phrases => k_is)
    (case a_check_phrases => k_is)
    (case l_check_phrases => k_is)
    (case c_check_phrases => k_is)
    (case k_check_phrases => k_is)
    (case a_reached_places => k_is)
    (case l_reached_places => k_is)
    (case c_reached_places => k_is)
    (case k_reached_places => k_is)
    (case a_readings_of => k_is)
    (case l_readings_of => k_is)
    (case c_readings_of => k_is)
    (case k_readings_of => k_is)
    (case a_places_of_acts => k_is)
    (case l_places_of_acts => k_is)
    (case c_places_of_acts => k_is)
    (case k_places_of_acts => k_is)
    (case a_meanings_of => k_is)
    (case l_meanings_of => k_is)
    (case c_meanings_of => k_is)
    (case k_meanings_of => k_is)
    (case a_meanings => k_is)
    (case l_meanings => k_is)
    (case c_meanings => k_is)
    (case k_meanings => k_is)
    (case a_first_double => k_is)
    (case l_first_double => k_is)
    (case c_first_double => k_is)
    (case k_first_double => k_is)
    (case a_Form_init => k_is)
    (case i_Form_init => k_is)
    (case l_Form_init => k_is)
    (case c_Form_init => k_is)
    (case k_Form_init => k_is)
    (case a_law_mixed => k_is)
    (case l_law_mixed => k_is)
    (case c_law_mixed => k_is)
    (case k_law_mixed => k_is)
    (case a_law_reader => k_is)
    (case l_law_reader => k_is)
    (case c_law_reader => k_is)
    (case k_law_reader => k_is)
    (case a_law_draw => k_is)
    (case l_law_draw => k_is)
    (case c_law_draw => k_is)
    (case k_law_draw => k_is)
    (case a_law_names => k_is)
    (case l_law_names => k_is)
    (case c_law_names => k_is)
    (case k_law_names => k_is)
    (case a_law_sheet => k_is)
    (case l_law_sheet => k_is)
    (case c_law_sheet => k_is)
    (case k_law_sheet => k_is)
    (case a_law_begins => k_is)
    (case l_law_begins => k_is)
    (case c_law_begins => k_is)
    (case k_law_begins => k_is)
    (case a_law_texts => k_is)
    (case l_law_texts => k_is)
    (case c_law_texts => k_is)
    (case k_law_texts => k_is)
    (case a_law_split => k_is)
    (case l_law_split => k_is)
    (case c_law_split => k_is)
    (case k_law_split => k_is)
    (case a_law_pairs => k_is)
    (case l_law_pairs => k_is)
    (case c_law_pairs => k_is)
    (case k_law_pairs => k_is)
    (case a_law_chain => k_is)
    (case l_law_chain => k_is)
    (case c_law_chain => k_is)
    (case k_law_chain => k_is)
    (case a_law_said => k_is)
    (case l_law_said => k_is)
    (case c_law_said => k_is)
    (case k_law_said => k_is)
    (case a_law_same => k_is)
    (case l_law_same => k_is)
    (case c_law_same => k_is)
    (case k_law_same => k_is)
    (case a_law_own_readings => k_is)
    (case l_law_own_readings => k_is)
    (case c_law_own_readings => k_is)
    (case k_law_own_readings => k_is)
    (case a_law_makes => k_is)
    (case l_law_makes => k_is)
    (case c_law_makes => k_is)
    (case k_law_makes => k_is)
    (case a_law_readings_right => k_is)
    (case l_law_readings_right => k_is)
    (case c_law_readings_right => k_is)
    (case k_law_readings_right => k_is)
    (case a_law_offer => k_is)
    (case l_law_offer => k_is)
    (case c_law_offer => k_is)
    (case k_law_offer => k_is)
    (case a_law_started => k_is)
    (case l_law_started => k_is)
    (case c_law_started => k_is)
    (case k_law_started => k_is)
    (case a_law_shortest => k_is)
    (case l_law_shortest => k_is)
    (case c_law_shortest => k_is)
    (case k_law_shortest => k_is)
    (case a_law => k_is)
    (case l_law => k_is)
    (case c_law => k_is)
    (case k_law => k_is)
    (case hd1 => kernel_rfl)
    (case hd2 => kernel_rfl)
    (case ne => decide)
    (case nk1 => kernel_rfl)
    (case nk2 => kernel_rfl)
    (case t1 => exact PySem.W.km_tabs_of Y _ (by decide))
    (case t2 => exact PySem.W.km_tabs_of Y _ (by decide))
