import PyProof.Rows.All
import Wide.All
import OpenK.AllK
import Wide.FinOn
import KE.KStateDown
import HandS.ForMost
import HandS.ForExc
import HandS.Codes
import HandS.Defaults
import HandS.Deep
import HandS.TupAny
import HandS.Conv
import HandS.IsInst
import HandS.Flow
import HandS.Style
import HandS.Zip
import HandS.HeadHook1
import HandS.HeadHook2
import KE.KNestM
import KE.KExcInit
import HandS.Property
import HandS.ClsMeth
import HandS.Head0
import HandS.Head1
import HandS.Head2
import HandS.HeadHook3
import HandS.HeadHook4
import HandS.HeadNt
import HandS.SortInts
import HandS.TupSets
import HandS.DictTup
import HandS.SetFor
import KE.GoesEnum
import HandS.Strs
import HandS.ExcInit
import HandS.ExcField
import HandS.ExcIs
import HandS.ExcSuper
import HandS.ExcOwn
import HandS.ExcBuiltin
import HandS.TryMany
import KE.KExcIs
import HandS.HotCalls
import HandS.ExcInitHot
import HandS.Lambda
import HandS.Finally
import PyProof.ReprRoads
import PyProof.ReprLen
import PyProof.Rows.ReprOcc
import HandS.EndTab
import PySem.Challenge.RW_holdmodes_k40_whole_yards_are_fair
set_option Elab.async false
set_option linter.all false
set_option maxRecDepth 100000
set_option maxHeartbeats 4000000
/-! Data in the abstract heap, the text by places, what the module's names stand for. -/
namespace HM
open PySem PySem.Spec PyProof.Rows L2

/-! ### the text by places -/
def top (i : Nat) : Stmt := PySem.Challenge.pw_holdmodes_k40_whole_yards_are_fair.main.body.getD i (.Pass ⟨0, 0, 0, 0⟩)

/-! ### data -/
mutual
/-- the value stands for the data, in the abstract heap -/
inductive Is (H : Hp) : V → PyData → Prop
  | non : Is H .non .none
  | bl (b : Bool) : Is H (.bl b) (.bool b)
  | int (i : Int) : Is H (.int i) (.int i)
  | str (x : Str) : Is H (.str x) (.str x)
  | lst {a : Addr} {xs : List V} {ds : List PyData} : H a = some (.lst xs) → IsAll H xs ds → Is H (.ref a) (.list ds)
  | tup {a : Addr} {xs : List V} {ds : List PyData} : H a = some (.tup xs) → IsAll H xs ds → Is H (.ref a) (.tuple ds)
  | dct0 {a : Addr} : H a = some (.dK []) → Is H (.ref a) (.dict [])
  | dct1 {a : Addr} {x : Str} {i : Int} : H a = some (.dK [(.inr x, .int i)]) → Is H (.ref a) (.dict [(.str x, .int i)])
inductive IsAll (H : Hp) : List V → List PyData → Prop
  | nil : IsAll H [] []
  | cons {v : V} {vs : List V} {d : PyData} {ds : List PyData} : Is H v d → IsAll H vs ds → IsAll H (v :: vs) (d :: ds)
end

section
variable {H H' : Hp} {v : V} {d : PyData} {vs : List V} {ds : List PyData}
mutual
theorem Is.same (e : Same H H') : ∀ {v : V} {d : PyData}, Is H v d → Is H' v d
  | _, _, .non => .non
  | _, _, .bl b => .bl b
  | _, _, .int i => .int i
  | _, _, .str x => .str x
  | _, _, .lst h a => .lst (e _ _ h) (IsAll.same e a)
  | _, _, .tup h a => .tup (e _ _ h) (IsAll.same e a)
  | _, _, .dct0 h => .dct0 (e _ _ h)
  | _, _, .dct1 h => .dct1 (e _ _ h)
theorem IsAll.same (e : Same H H') : ∀ {vs : List V} {ds : List PyData}, IsAll H vs ds → IsAll H' vs ds
  | _, _, .nil => .nil
  | _, _, .cons h t => .cons (Is.same e h) (IsAll.same e t)
end
/-- all tuples stand -/
def Tups (H H' : Hp) : Prop := ∀ a xs, H a = some (.tup xs) → H' a = some (.tup xs)
theorem _root_.L2.Same.tups (e : Same H H') : Tups H H' := fun a xs h => e a _ h
theorem Tups.refl (H : Hp) : Tups H H := fun _ _ h => h
theorem Tups.trans {H1 : Hp} (a : Tups H H1) (b : Tups H1 H') : Tups H H' := fun c o h => b c o (a c o h)
/-! nothing but flat values and tuples -/
mutual
def tupd : PyData → Bool
  | .tuple ds => tupdAll ds
  | .list _ => false
  | .dict _ => false
  | .str x => PyData.strOk x
  | _ => true
def tupdAll : List PyData → Bool
  | [] => true
  | d :: ds => tupd d && tupdAll ds
end
mutual
theorem Is.tups (e : Tups H H') : ∀ {v : V} {d : PyData}, Is H v d → tupd d = true → Is H' v d
  | _, _, .non, _ => .non
  | _, _, .bl b, _ => .bl b
  | _, _, .int i, _ => .int i
  | _, _, .str x, _ => .str x
  | _, _, .lst h a, q => by simp [tupd] at q
  | _, _, .tup h a, q => .tup (e _ _ h) (IsAll.tups e a (by simpa [tupd] using q))
  | _, _, .dct0 h, q => by simp [tupd] at q
  | _, _, .dct1 h, q => by simp [tupd] at q
theorem IsAll.tups (e : Tups H H') : ∀ {vs : List V} {ds : List PyData}, IsAll H vs ds → tupdAll ds = true → IsAll H' vs ds
  | _, _, .nil, _ => .nil
  | _, _, .cons h t, q => .cons (Is.tups e h (Bool.and_eq_true_iff.mp (by simpa only [tupdAll] using q)).1) (IsAll.tups e t (Bool.and_eq_true_iff.mp (by simpa only [tupdAll] using q)).2)
end
mutual
/-- for the rules over Dp, no dict within -/
def nodict : PyData → Bool
  | .tuple ds => nodictAll ds
  | .list ds => nodictAll ds
  | .dict _ => false
  | .str x => PyData.strOk x
  | _ => true
def nodictAll : List PyData → Bool
  | [] => true
  | d :: ds => nodict d && nodictAll ds
end
mutual
theorem Is.dp {K : PySem.W.Frag} : ∀ {v : V} {d : PyData}, Is H v d → nodict d = true → Dp K H v d
  | _, _, .non, _ => .non
  | _, _, .bl b, _ => .bl b
  | _, _, .int i, _ => .int i
  | _, _, .str x, _ => .str x
  | _, _, .lst h a, q => .lst (.of h) (IsAll.dp a (by simpa [nodict] using q))
  | _, _, .tup h a, q => .tup (.of h) (IsAll.dp a (by simpa [nodict] using q))
  | _, _, .dct0 h, q => by simp [nodict] at q
  | _, _, .dct1 h, q => by simp [nodict] at q
theorem IsAll.dp {K : PySem.W.Frag} : ∀ {vs : List V} {ds : List PyData}, IsAll H vs ds → nodictAll ds = true → DpAll K H vs ds
  | _, _, .nil, _ => .nil
  | _, _, .cons h t, q => .cons (Is.dp h (Bool.and_eq_true_iff.mp (by simpa only [nodictAll] using q)).1) (IsAll.dp t (Bool.and_eq_true_iff.mp (by simpa only [nodictAll] using q)).2)
end
mutual
theorem nodict_tupd : ∀ {d : PyData}, tupd d = true → nodict d = true
  | .none, _ => rfl
  | .bool _, _ => rfl
  | .int _, _ => rfl
  | .str _, h => h
  | .list _, h => by simp [tupd] at h
  | .dict _, h => by simp [tupd] at h
  | .tuple ds, h => by
    have q := nodict_tupdAll (ds := ds) (by simpa [tupd] using h)
    simpa [nodict] using q
theorem nodict_tupdAll : ∀ {ds : List PyData}, tupdAll ds = true → nodictAll ds = true
  | [], _ => rfl
  | d :: ds, h => by
    have q' : (tupd d && tupdAll ds) = true := by simpa [tupdAll] using h
    rw [Bool.and_eq_true] at q'
    have a := nodict_tupd q'.1
    have b := nodict_tupdAll q'.2
    simp [nodictAll, a, b]
end
theorem IsAll.length : ∀ {vs : List V} {ds : List PyData}, IsAll H vs ds → vs.length = ds.length
  | _, _, .nil => rfl
  | _, _, .cons _ t => by simp [IsAll.length t]
theorem IsAll.get : ∀ {vs : List V} {ds : List PyData} {i : Nat} {v : V}, IsAll H vs ds → vs[i]? = some v → ∃ d, ds[i]? = some d ∧ Is H v d
  | _, _, _, _, .nil, e => by simp at e
  | _, _, 0, _, .cons h _, e => by
    have e' := Option.some.inj (by simpa using e)
    exact ⟨_, rfl, e' ▸ h⟩
  | _, _, i + 1, v, .cons _ t, e => by
    obtain ⟨d, h1, h2⟩ := IsAll.get (i := i) (v := v) t (by simpa using e)
    exact ⟨d, by simpa using h1, h2⟩
theorem IsAll.of : ∀ {vs : List V} {ds : List PyData} {i : Nat} {d : PyData}, IsAll H vs ds → ds[i]? = some d → ∃ v, vs[i]? = some v ∧ Is H v d
  | _, _, _, _, .nil, e => by simp at e
  | _, _, 0, _, .cons h _, e => by
    have e' := Option.some.inj (by simpa using e)
    exact ⟨_, rfl, e' ▸ h⟩
  | _, _, i + 1, d, .cons _ t, e => by
    obtain ⟨v, h1, h2⟩ := IsAll.of (i := i) (d := d) t (by simpa using e)
    exact ⟨v, by simpa using h1, h2⟩
theorem IsAll.append : ∀ {vs ws : List V} {ds es : List PyData}, IsAll H vs ds → IsAll H ws es → IsAll H (vs ++ ws) (ds ++ es)
  | _, _, _, _, .nil, s => s
  | _, _, _, _, .cons h t, s => .cons h (IsAll.append t s)
theorem IsAll.one {v : V} {d : PyData} (h : Is H v d) : IsAll H [v] [d] := .cons h .nil
theorem IsAll.take : ∀ {vs : List V} {ds : List PyData} (n : Nat), IsAll H vs ds → IsAll H (vs.take n) (ds.take n)
  | _, _, 0, _ => .nil
  | _, _, _ + 1, .nil => .nil
  | _, _, n + 1, .cons h t => .cons h (IsAll.take n t)
theorem IsAll.drop : ∀ {vs : List V} {ds : List PyData} (n : Nat), IsAll H vs ds → IsAll H (vs.drop n) (ds.drop n)
  | _, _, 0, h => h
  | _, _, _ + 1, .nil => .nil
  | _, _, n + 1, .cons _ t => IsAll.drop n t
theorem IsAll.reverse : ∀ {vs : List V} {ds : List PyData}, IsAll H vs ds → IsAll H vs.reverse ds.reverse
  | _, _, .nil => .nil
  | _, _, .cons h t => by
    rw [List.reverse_cons, List.reverse_cons]
    exact (IsAll.reverse t).append (.one h)
/-- what a value stands for is one data -/
theorem Is.tup_inv {ds : List PyData} (h : Is H v (.tuple ds)) : ∃ a xs, v = .ref a ∧ H a = some (.tup xs) ∧ IsAll H xs ds := by
  cases h with
  | tup h a => exact ⟨_, _, rfl, h, a⟩
theorem Is.lst_inv {ds : List PyData} (h : Is H v (.list ds)) : ∃ a xs, v = .ref a ∧ H a = some (.lst xs) ∧ IsAll H xs ds := by
  cases h with
  | lst h a => exact ⟨_, _, rfl, h, a⟩
theorem Is.int_inv {i : Int} (h : Is H v (.int i)) : v = .int i := by cases h; rfl
theorem Is.bl_inv {b : Bool} (h : Is H v (.bool b)) : v = .bl b := by cases h; rfl
theorem Is.str_inv {x : Str} (h : Is H v (.str x)) : v = .str x := by cases h; rfl
theorem Is.non_inv (h : Is H v .none) : v = .non := by cases h; rfl
theorem isAll_ints : ∀ {l : List Int}, IsAll H (l.map V.int) (l.map PyData.int)
  | [] => .nil
  | i :: l => .cons (.int i) isAll_ints
theorem isAll_bls : ∀ {l : List Bool}, IsAll H (l.map V.bl) (l.map PyData.bool)
  | [] => .nil
  | i :: l => .cons (.bl i) isAll_bls
theorem IsAll.ints : ∀ {l : List Int} {vs : List V}, IsAll H vs (l.map PyData.int) → vs = l.map V.int
  | [], _, .nil => rfl
  | i :: l, _, .cons h t => by
    rw [h.int_inv, IsAll.ints (l := l) t]
    rfl
theorem IsAll.map_get {α : Type} {c : α → PyData} {l : List α} {i : Nat} {a : α} (h : IsAll H vs (l.map c)) (e : l[i]? = some a) : ∃ v, vs[i]? = some v ∧ Is H v (c a) :=
  h.of (by rw [List.getElem?_map, e]; rfl)
theorem IsAll.map_of {α : Type} {c : α → PyData} {l : List α} {i : Nat} {v : V} (h : IsAll H vs (l.map c)) (e : vs[i]? = some v) : ∃ a, l[i]? = some a ∧ Is H v (c a) := by
  obtain ⟨d, h1, h2⟩ := h.get e
  rw [List.getElem?_map] at h1
  cases q : l[i]? with
  | none => rw [q] at h1; cases h1
  | some a =>
    rw [q] at h1
    exact ⟨a, rfl, Option.some.inj h1 ▸ h2⟩
end

/-! ### heaps -/
theorem _root_.L2.Same.new {H : Hp} {p : Addr} {o : HO} (h : H p = none) : Same H (upd H p o) := fun b u e => by rw [upd_ne (ne_of_none e h)]; exact e
theorem _root_.L2.Same.set {H H1 : Hp} {p : Addr} {o : HO} (s : Same H H1) (h : H p = none) : Same H (upd H1 p o) := fun b u e => by rw [upd_ne (ne_of_none e h)]; exact s b u e

/-! ### the data of the program -/
abbrev Lot := List Int
abbrev Mode := Lot × Lot
abbrev Hold := Int × Int × Mode
abbrev Rules := Int × List (Int × Int)
def cLot (l : Lot) : PyData := .tuple (l.map .int)
def cMode (m : Mode) : PyData := .tuple [cLot m.1, cLot m.2]
def cHold (h : Hold) : PyData := .tuple [.int h.1, .int h.2.1, cMode h.2.2]
def cHolds (hs : List Hold) : PyData := .tuple (hs.map cHold)
def cPair (p : Int × Int) : PyData := .tuple [.int p.1, .int p.2]
def cPairs (ps : List (Int × Int)) : PyData := .tuple (ps.map cPair)
def cRules (r : Rules) : PyData := .tuple [.int r.1, cPairs r.2]
/-- a parent: None or a number -/
def cPar : Option Int → PyData
  | none => .none
  | some i => .int i
def cTree (t : List (Option Int)) : PyData := .tuple (t.map cPar)
theorem tupdAll_map {α : Type} {c : α → PyData} (h : ∀ a, tupd (c a) = true) : ∀ l : List α, tupdAll (l.map c) = true
  | [] => rfl
  | a :: l => by
    show (tupd (c a) && tupdAll (l.map c)) = true
    rw [h a, tupdAll_map h l] <;> rfl
theorem tupd_lot (l : Lot) : tupd (cLot l) = true := tupdAll_map (c := PyData.int) (fun _ => rfl) l
theorem tupd_mode (m : Mode) : tupd (cMode m) = true := by
  show (tupd (cLot m.1) && (tupd (cLot m.2) && true)) = true
  rw [tupd_lot, tupd_lot] <;> rfl
theorem tupd_hold (h : Hold) : tupd (cHold h) = true := by
  show (true && (true && (tupd (cMode h.2.2) && true))) = true
  rw [tupd_mode] <;> rfl
theorem tupd_holds (hs : List Hold) : tupd (cHolds hs) = true := tupdAll_map tupd_hold hs
theorem tupd_pair (p : Int × Int) : tupd (cPair p) = true := rfl
theorem tupd_pairs (ps : List (Int × Int)) : tupd (cPairs ps) = true := tupdAll_map tupd_pair ps
theorem tupd_rules (r : Rules) : tupd (cRules r) = true := by
  show (true && (tupd (cPairs r.2) && true)) = true
  rw [tupd_pairs] <;> rfl
theorem tupd_par (o : Option Int) : tupd (cPar o) = true := by cases o <;> rfl
theorem tupd_tree (t : List (Option Int)) : tupd (cTree t) = true := tupdAll_map tupd_par t
section
variable {H : Hp} {v : V}
theorem Is.lot {l : Lot} (h : Is H v (cLot l)) : ∃ a, v = .ref a ∧ H a = some (.tup (l.map V.int)) := by
  obtain ⟨a, xs, e, h1, h2⟩ := h.tup_inv
  exact ⟨a, e, by rw [h1, h2.ints]⟩
theorem is_lot_mk {a : Addr} {l : Lot} (h : H a = some (.tup (l.map V.int))) : Is H (.ref a) (cLot l) := .tup h isAll_ints
theorem Is.mode {m : Mode} (h : Is H v (cMode m)) : ∃ a b c, v = .ref a ∧ H a = some (.tup [.ref b, .ref c]) ∧ H b = some (.tup (m.1.map V.int)) ∧ H c = some (.tup (m.2.map V.int)) := by
  obtain ⟨a, xs, e, h1, h2⟩ := h.tup_inv
  cases h2 with
  | cons x y =>
    cases y with
    | cons y z =>
      cases z
      obtain ⟨b, rfl, hb⟩ := x.lot
      obtain ⟨c, rfl, hc⟩ := y.lot
      exact ⟨a, b, c, e, h1, hb, hc⟩
theorem is_mode_mk {a b c : Addr} {m : Mode} (h : H a = some (.tup [.ref b, .ref c])) (hb : H b = some (.tup (m.1.map V.int))) (hc : H c = some (.tup (m.2.map V.int))) : Is H (.ref a) (cMode m) :=
  .tup h (.cons (is_lot_mk hb) (.cons (is_lot_mk hc) .nil))
theorem Is.hold {h : Hold} (q : Is H v (cHold h)) : ∃ a m, v = .ref a ∧ H a = some (.tup [.int h.1, .int h.2.1, m]) ∧ Is H m (cMode h.2.2) := by
  obtain ⟨a, xs, e, h1, h2⟩ := q.tup_inv
  cases h2 with
  | cons x y =>
    cases y with
    | cons y z =>
      cases z with
      | cons z w =>
        cases w
        obtain rfl := x.int_inv
        obtain rfl := y.int_inv
        exact ⟨a, _, e, h1, z⟩
theorem Is.pair {p : Int × Int} (q : Is H v (cPair p)) : ∃ a, v = .ref a ∧ H a = some (.tup [.int p.1, .int p.2]) := by
  obtain ⟨a, xs, e, h1, h2⟩ := q.tup_inv
  cases h2 with
  | cons x y =>
    cases y with
    | cons y z =>
      cases z
      obtain rfl := x.int_inv
      obtain rfl := y.int_inv
      exact ⟨a, e, h1⟩
theorem Is.rules {r : Rules} (q : Is H v (cRules r)) : ∃ a m, v = .ref a ∧ H a = some (.tup [.int r.1, m]) ∧ Is H m (cPairs r.2) := by
  obtain ⟨a, xs, e, h1, h2⟩ := q.tup_inv
  cases h2 with
  | cons x y =>
    cases y with
    | cons y z =>
      cases z
      obtain rfl := x.int_inv
      exact ⟨a, _, e, h1, y⟩
theorem Is.holds {hs : List Hold} (q : Is H v (cHolds hs)) : ∃ a xs, v = .ref a ∧ H a = some (.tup xs) ∧ IsAll H xs (hs.map cHold) := q.tup_inv
end

/-! ### defs of the module -/
/-- the def st stands under the module's name x -/
structure Dn (K : PySem.W.Frag) (mg : Str → Option Value) (x : Str) (st : Stmt) : Prop where
  ex : ∃ (f : Addr) (fd : FuncData), FunD K x x (defArgs st) (defBody st) (defScope st) [] [] f fd ∧ mg x = some (.ref f)
abbrev CalE := C8.Cal
section
variable {P : Program} {w : World} {K : PySem.W.Frag} {mg : Str → Option Value} {base : Heap}
theorem cal_of {x : Str} {st : Stmt} {N ps : List Str} {k : Nat} {sp : Sp} (D : Dn K mg x st) (S : FnScope N ps (defScope st))
    (hb : ∀ (kV doc pm : Value) (an : Option Addr) (cdv ct : Value) (us : List Value), us.length = ps.length → bindArgs (PySem.W.fnOf x x (defArgs st) (defBody st) (defScope st) .none kV doc pm an cdv ct) ⟨us, []⟩ = pure (ps.zip us))
    (len : ∀ vs H Q E, sp vs H Q E → vs.length = ps.length)
    (hbody : ∀ (f : Addr) (cdv : Value) (A : Around) (outer : List Env) (s : Shared) (H : Hp) (vs : List V) (Q : VK) (E : XK), Room k (A.deeper (envOfC x (defScope st) s.heap.objs.size f cdv)) → sp vs H Q E →
      ∃ t, PSs (cxOf C8.CX0 P w K mg base N x (defScope st) f cdv A outer s H E).nox (defBody st) t ∧ t { nx := fun _ H' => Q .non H', rt := Q } (start N vs) H) : C8.Cal P w K mg base (k + 1) x sp [] := by
  obtain ⟨f, fd, F, hm⟩ := D.ex
  exact ⟨f, fd, ps, [], F.ok S len fun cdv A outer s H vs Q E hr h => by
    obtain ⟨t, h1, h2⟩ := hbody f cdv A outer s H vs Q E hr h
    exact ⟨t, h1.nox, h2⟩, hm, F.kp, F.bindsN hb, .nil⟩
end
/-- built-in names that the module leaves free -/
structure Free (mg : Str → Option Value) : Prop where
  isinstance : mg "isinstance" = none
  int : mg "int" = none
  bool : mg "bool" = none
  tuple : mg "tuple" = none
  list : mg "list" = none
  set : mg "set" = none
  all : mg "all" = none
  any : mg "any" = none
  zip : mg "zip" = none
  len : mg "len" = none
  sorted : mg "sorted" = none
  min : mg "min" = none
  max : mg "max" = none
  range : mg "range" = none
  enumerate : mg "enumerate" = none
  abs : mg "abs" = none
  repr : mg "repr" = none
  valueError : mg "ValueError" = none
  lookupError : mg "LookupError" = none
end HM
/-! The head: what the run of the top leaves, read as facts. -/
namespace HM
open PySem PySem.Spec PyProof.Rows L2
/-! ### facts the kit's list has no word for -/
def leBase : List Value := [.type "LookupError", .type "Exception", .type "BaseException", .type "object"]
def hasB (K : PySem.W.Frag) (C : Addr) (m : Str) (v : String) : Bool := He.eqO (PySem.W.findIn K (.ref C) m) (some (some (.builtin v)))
def subB (K : PySem.W.Frag) (C : Addr) : Bool := decide (PySem.W.subIn K (.ref C) (.type "BaseException") = some true)
/-- an own exception with an own __init__ -/
def oxB (K : PySem.W.Frag) (C : Addr) (tl : List Value) (newId : String) : Bool :=
  PySem.W.excInitIn K C tl newId && (PySem.W.excOver K C tl && (PySem.W.hasDictIn K C && (hasB K C "__setattr__" "object.__setattr__" && (subB K C && (decide (PySem.W.typeIn K (.ref C) = some (.type "type")) && PySem.W.keepIn K (.ref C))))))
/-- an exception whose attributes are read -/
def seeB (K : PySem.W.Frag) (C : Addr) : Bool :=
  (PySem.W.clsIn K C).isSome && (hasB K C "__getattribute__" "BaseException.__getattribute__" && (He.eqO (PySem.W.findIn K (.ref C) "__getattr__") (some none) && (subB K C && (PySem.W.hasDictIn K C && (hasB K C "__class__" "object.__class__" &&
    (He.eqO (PySem.W.specialIn K (.builtin "object.__class__") "__get__") (some (some (.builtin "getset_descriptor.__get__"))) && (decide (PySem.W.takesIn K (.builtin "object.__class__") = some true) && decide (PySem.W.mroIn K C (.type "object") = some true))))))))
/-- a property's getter -/
def gp (K : PySem.W.Frag) (C : Addr) (m : Str) : Addr := match PySem.W.recIn K (He.ma K C m) "property" with
  | some (.ref g :: _) => g
  | _ => 0
def propB (K : PySem.W.Frag) (C : Addr) (m : Str) : Bool := He.eqO (PySem.W.findIn K (.ref C) m) (some (some (.ref (He.ma K C m)))) && (He.eqO (PySem.W.specialIn K (.ref (He.ma K C m)) "__get__") (some (some (.builtin "property.__get__"))) &&
  (decide (PySem.W.takesIn K (.ref (He.ma K C m)) = some true) && (match PySem.W.recIn K (He.ma K C m) "property" with
    | some (.ref _ :: _) => true
    | _ => false)))
def valB (K : PySem.W.Frag) (c mc : Value) (m : Str) (i : String) : Bool := match PySem.W.findCls K c mc m with
  | some (.val u) => decide (u = .builtin i)
  | _ => false
/-- a class whose __init__ is a built-in's -/
def ownB (K : PySem.W.Frag) (C : Addr) (i : String) : Bool := PySem.W.readsIn K C (.type "type") && (He.eqO (PySem.W.specialIn K (.ref C) "__getattribute__") (some (some (.builtin "type.__getattribute__"))) && (PySem.W.handedIn (.builtin i) && valB K (.ref C) (.type "type") "__init__" i))
def dG (y x : Str) (st : Stmt) : He5.DefA := ⟨fun K => He.ga K y, x, x, defArgs st, defBody st, defScope st, [], []⟩
def dM (m q : Str) (st : Stmt) : He5.DefA := ⟨fun K => He.ma K (He.ga K "Yard") m, m, q, defArgs st, defBody st, defScope st, [], []⟩
def dP (m q : Str) (st : Stmt) : He5.DefA := ⟨fun K => gp K (He.ga K "Yard") m, m, q, defArgs st, defBody st, defScope st, [], []⟩
def dI (c q : Str) (st : Stmt) : He5.DefA := ⟨fun K => He.ma K (He.ga K c) "__init__", "__init__", q, defArgs st, defBody st, defScope st, [], []⟩
/-! ### the lists -/
def faL0 : List He.Fa := [.free "isinstance", .free "int", .free "bool", .free "tuple", .free "list", .free "set", .free "all", .free "any", .free "zip", .free "len", .free "sorted", .free "min", .free "max", .free "range", .free "enumerate", .free "abs", .free "repr", .free "ValueError", .free "LookupError", .int "MAX_ACTS" 6, .int "MAX_DEEDS" 25, .int "MAX_HOLDERS" 4, .int "MAX_THINGS" 12, .glo "is_integer"]
def faL1 : List He.Fa := [.glo "is_rising", .glo "are_numbers", .glo "is_lot", .glo "is_within", .glo "is_mode", .glo "are_beside", .glo "against", .glo "bars", .glo "goes", .glo "joined", .glo "are_pairs", .glo "rules_error", .glo "tree_error", .glo "around", .glo "is_hold", .glo "are_holds", .glo "table_of", .glo "lacking", .glo "pairs_at", .glo "fault", .glo "clash_at", .glo "clash", .glo "both", .glo "holds_of"]
def faL2 : List He.Fa := [.glo "changes", .glo "_law_bag", .glo "_law_draw", .glo "_law_pick", .glo "_law_odd", .glo "_law_rules", .glo "_law_tree", .glo "_law_around", .glo "_law_mode", .glo "_law_error_told", .glo "_law_do", .glo "_law_done", .glo "_law_deed", .glo "_law_rights", .glo "_law_is_safe", .glo "_law_is_right", .glo "law", .glo "may_holds", .glo "HoldError", .glo "BadMode", .glo "Barred", .glo "Full", .glo "NothingToUndo", .glo "NoAct"]
def faL3 : List He.Fa := [.glo "NoHold", .glo "NoHolder", .glo "NoThing", .glo "Yard", .cls "Yard", .noat "Yard" "ground", .noat "Yard" "now", .noat "Yard" "past", .noat "Yard" "moved", .noat "BadMode" "mode", .noat "Barred" "thing", .noat "Barred" "other", .noat "NoAct" "act", .noat "NoHold" "holder", .noat "NoHolder" "holder", .noat "NoThing" "thing", .meth "Yard" "check_deeds", .meth "Yard" "check_holder", .meth "Yard" "check_thing", .meth "Yard" "check_act", .meth "Yard" "raised", .meth "Yard" "bar", .meth "Yard" "go_to", .meth "Yard" "give"]
def faL4 : List He.Fa := [.meth "Yard" "ask", .meth "Yard" "take", .meth "Yard" "leave", .meth "Yard" "undo", .meth "Yard" "may", .meth "Yard" "could", .meth "Yard" "tried", .meth "BadMode" "__init__", .meth "Barred" "__init__", .meth "NoAct" "__init__", .meth "NoHold" "__init__", .meth "NoHolder" "__init__", .meth "NoThing" "__init__", .mkr "Yard", .exc "NothingToUndo", .exm "BadMode" "HoldError" true, .exm "Barred" "HoldError" true, .exm "NothingToUndo" "HoldError" true, .exm "NoHolder" "HoldError" false, .exm "NoHolder" "NoHolder" true, .exm "NoThing" "HoldError" false, .exm "NoThing" "NoHolder" false, .exm "NoThing" "NoThing" true, .exm "NoAct" "HoldError" false]
def faL5 : List He.Fa := [.exm "NoAct" "NoHolder" false, .exm "NoAct" "NoThing" false, .exm "NoAct" "NoAct" true, .exm "NoHold" "HoldError" false, .exm "NoHold" "NoHolder" false, .exm "NoHold" "NoThing" false, .exm "NoHold" "NoAct" false, .exm "NoHold" "NoHold" true]
def faL : List He.Fa := faL0 ++ (faL1 ++ (faL2 ++ (faL3 ++ (faL4 ++ faL5))))
def fnL0 : List He5.DefA := [dG "is_integer" "is_integer" (top 16), dG "is_rising" "is_rising" (top 17), dG "are_numbers" "are_numbers" (top 18), dG "is_lot" "is_lot" (top 19), dG "is_within" "is_within" (top 22), dG "is_mode" "is_mode" (top 28), dG "are_beside" "are_beside" (top 25), dG "against" "against" (top 26), dG "bars" "bars" (top 30), dG "goes" "goes" (top 31), dG "joined" "joined" (top 29), dG "are_pairs" "are_pairs" (top 20), dG "rules_error" "rules_error" (top 24), dG "tree_error" "tree_error" (top 33), dG "around" "around" (top 34), dG "is_hold" "is_hold" (top 35)]
def fnL1 : List He5.DefA := [dG "are_holds" "are_holds" (top 36), dG "table_of" "table_of" (top 37), dG "lacking" "lacking" (top 38), dG "pairs_at" "pairs_at" (top 39), dG "fault" "fault" (top 40), dG "clash_at" "clash_at" (top 43), dG "clash" "clash" (top 44), dG "both" "both" (top 21), dG "holds_of" "holds_of" (top 46), dG "changes" "changes" (top 47), dG "_law_bag" "_law_bag" (top 50), dG "_law_draw" "_law_draw" (top 51), dG "_law_pick" "_law_pick" (top 52), dG "_law_odd" "_law_odd" (top 53), dG "_law_rules" "_law_rules" (top 55), dG "_law_tree" "_law_tree" (top 56)]
def fnL2 : List He5.DefA := [dG "_law_around" "_law_around" (top 57), dG "_law_mode" "_law_mode" (top 58), dG "_law_error_told" "_law_error_told" (top 59), dG "_law_do" "_law_do" (top 60), dG "_law_done" "_law_done" (top 61), dG "_law_deed" "_law_deed" (top 62), dG "_law_rights" "_law_rights" (top 63), dG "_law_is_safe" "_law_is_safe" (top 64), dG "_law_is_right" "_law_is_right" (top 65), dG "law" "law" (top 66), dG "may_holds" "may" (top 41), dM "check_deeds" "Yard.check_deeds" (inClass (top 48) 6), dM "check_holder" "Yard.check_holder" (inClass (top 48) 7), dM "check_thing" "Yard.check_thing" (inClass (top 48) 8), dM "check_act" "Yard.check_act" (inClass (top 48) 9), dM "raised" "Yard.raised" (inClass (top 48) 10)]
def fnL3 : List He5.DefA := [dM "bar" "Yard.bar" (inClass (top 48) 11), dM "go_to" "Yard.go_to" (inClass (top 48) 12), dM "give" "Yard.give" (inClass (top 48) 13), dM "ask" "Yard.ask" (inClass (top 48) 14), dM "take" "Yard.take" (inClass (top 48) 15), dM "leave" "Yard.leave" (inClass (top 48) 16), dM "undo" "Yard.undo" (inClass (top 48) 17), dM "may" "Yard.may" (inClass (top 48) 18), dM "could" "Yard.could" (inClass (top 48) 19), dM "tried" "Yard.tried" (inClass (top 48) 20), dI "Yard" "Yard.__init__" (inClass (top 48) 0), dP "rules" "Yard.rules" (inClass (top 48) 1), dP "tree" "Yard.tree" (inClass (top 48) 2), dP "holds" "Yard.holds" (inClass (top 48) 3), dP "version" "Yard.version" (inClass (top 48) 4), dI "BadMode" "BadMode.__init__" (inClass (top 6) 0)]
def fnL4 : List He5.DefA := [dI "Barred" "Barred.__init__" (inClass (top 8) 0), dI "NoAct" "NoAct.__init__" (inClass (top 11) 0), dI "NoHold" "NoHold.__init__" (inClass (top 12) 0), dI "NoHolder" "NoHolder.__init__" (inClass (top 13) 0), dI "NoThing" "NoThing.__init__" (inClass (top 14) 0)]
def fnL : List He5.DefA := fnL0 ++ (fnL1 ++ (fnL2 ++ (fnL3 ++ fnL4)))
def exL0 : List (PySem.W.Frag → Bool) := [fun K => oxB K (He.ga K "BadMode") He.veBase "ValueError.__new__", fun K => oxB K (He.ga K "Barred") He.veBase "ValueError.__new__", fun K => oxB K (He.ga K "NoAct") leBase "LookupError.__new__", fun K => oxB K (He.ga K "NoHold") leBase "LookupError.__new__", fun K => oxB K (He.ga K "NoHolder") leBase "LookupError.__new__", fun K => oxB K (He.ga K "NoThing") leBase "LookupError.__new__", fun K => seeB K (He.ga K "BadMode"), fun K => seeB K (He.ga K "Barred"), fun K => seeB K (He.ga K "NothingToUndo"), fun K => seeB K (He.ga K "NoHolder"), fun K => seeB K (He.ga K "NoThing"), fun K => seeB K (He.ga K "NoAct"), fun K => seeB K (He.ga K "NoHold"), fun K => decide (PySem.W.kitOne K (.ref (He.ga K "BadMode")) (.ref (He.ga K "BadMode")) = some true), fun K => decide (PySem.W.kitOne K (.ref (He.ga K "Barred")) (.ref (He.ga K "BadMode")) = some false), fun K => decide (PySem.W.kitOne K (.ref (He.ga K "Barred")) (.ref (He.ga K "Barred")) = some true)]
def exL1 : List (PySem.W.Frag → Bool) := [fun K => decide (PySem.W.kitOne K (.ref (He.ga K "NothingToUndo")) (.ref (He.ga K "BadMode")) = some false), fun K => decide (PySem.W.kitOne K (.ref (He.ga K "NothingToUndo")) (.ref (He.ga K "Barred")) = some false), fun K => decide (PySem.W.kitOne K (.ref (He.ga K "NothingToUndo")) (.ref (He.ga K "Full")) = some false), fun K => decide (PySem.W.kitOne K (.ref (He.ga K "NothingToUndo")) (.ref (He.ga K "NothingToUndo")) = some true), fun K => propB K (He.ga K "Yard") "rules", fun K => propB K (He.ga K "Yard") "tree", fun K => propB K (He.ga K "Yard") "holds", fun K => propB K (He.ga K "Yard") "version", fun K => ownB K (He.ga K "HoldError") "ValueError.__init__", fun K => valB K (.type "LookupError") (.type "type") "__init__" "LookupError.__init__"]
def exL : List (PySem.W.Frag → Bool) := exL0 ++ exL1
/-! ### the Hook, over any such lists -/
def lawAt : List He.Defn := [("law", none)]
def codeR (g : Addr → Option Obj) (a : Addr) : List Addr := match g a with
  | some ⟨_, _, .func fd, _⟩ => He.refV fd.code
  | _ => []
def spaceR (g : Addr → Option Obj) (a : Addr) : List Addr := match g a with
  | some ⟨_, _, .cls cd, _⟩ => [cd.ns]
  | _ => []
def dictR (g : Addr → Option Obj) (a : Addr) : List Addr := match g a with
  | some ⟨_, _, .dict es _, _⟩ => es.toList.flatMap fun e => He.refV e.val
  | _ => []
def propR (g : Addr → Option Obj) (a : Addr) : List Addr := match g a with
  | some ⟨_, _, .fields vs, _⟩ => (match vs.toList with
    | v :: _ => He.refV v
    | [] => [])
  | _ => []
/-- the module's names, its classes' names, their properties' getters, the code of all -/
def spots (g : Addr → Option Obj) : List Addr := (fun l : List Addr => (fun m : List Addr => (fun n : List Addr => (fun p : List Addr => mainGlobals :: m ++ (l ++ (n ++ (p ++ ([cStatics] ++ (l.flatMap (codeR g) ++ (n.flatMap (codeR g) ++ p.flatMap (codeR g)))))))) (n.flatMap (propR g))) (m.flatMap (dictR g))) (l.flatMap (spaceR g))) (dictR g mainGlobals)
def frQ (g : Addr → Option Obj) : PySem.W.Frag := He.frT g (spots g)
def seenK (fa : List He.Fa) (fn : List He5.DefA) (ex : PySem.W.Frag → Bool) (g : Addr → Option Obj) (K : PySem.W.Frag) : He.AlD × Bool := (He5.obsA fa fn K, ex K && He.tabsB g lawAt K)
def obsG (fa : List He.Fa) (fn : List He5.DefA) (ex : PySem.W.Frag → Bool) (g : Addr → Option Obj) : He.AlD × Bool := seenK fa fn ex g (frQ g)
def valG (fn : List He5.DefA) : He.AlD × Bool := (He5.valA fn, true)
structure SaysG (fa : List He.Fa) (fn : List He5.DefA) (ex : PySem.W.Frag → Bool) (h : Heap) (K : PySem.W.Frag) : Prop where
  a : He5.SaysA fa fn K
  e : ex K = true
  c : PySem.W.codeHdIn K (He.cT K ("law", none)).1 (He.cT K ("law", none)).2 = true
  out : K.lookup (He.cT K ("law", none)).2 = none
  tab : h.get? (He.cT K ("law", none)).2 = some { cls := .none, data := .fields #[] }
theorem saysG_of {fa : List He.Fa} {fn : List He5.DefA} {ex : PySem.W.Frag → Bool} {h : Heap} (z : obsG fa fn ex h.get? = valG fn) : SaysG fa fn ex h (frQ h.get?) := by
  have z1 : He5.SaysA fa fn (frQ h.get?) := congrArg (fun q : He.AlD × Bool => q.1) z
  have z2 : (ex (frQ h.get?) && He.tabsB h.get? lawAt (frQ h.get?)) = true := congrArg (fun q : He.AlD × Bool => q.2) z
  obtain ⟨z3, z4⟩ := He.ba z2
  obtain ⟨z5, z6⟩ := He.ba (List.all_eq_true.mp z4 ("law", none) (List.mem_singleton.mpr rfl))
  cases q : h.get? (He.cT (frQ h.get?) ("law", none)).2 with
  | none =>
    rw [q] at z6
    cases z6
  | some o =>
    rw [q] at z6
    exact ⟨z1, z3, z5, He.frT_none q z6, by rw [q, He.emptyTab_eq z6]⟩
def hookG (fa : List He.Fa) (fn : List He5.DefA) (ex : PySem.W.Frag → Bool) : PySem.W.Hook where
  α := He.AlD × Bool
  obs := fun s => obsG fa fn ex s.heap.get?
  val := fun _ => valG fn
  says := fun _ h => ∃ K : PySem.W.Frag, K.In h ∧ SaysG fa fn ex h K
  of := fun _ _ z => ⟨_, He.frT_in, saysG_of z⟩
  keeps := fun _ _ _ ⟨K, hK, z⟩ k => ⟨K, PySem.W.Frag.In.keeps hK k, ⟨z.a, z.e, z.c, z.out, k _ _ z.tab⟩⟩
theorem obsG_eq {fa : List He.Fa} {fn : List He5.DefA} {ex : PySem.W.Frag → Bool} (s : PySem.W.SharedT) : obsG fa fn ex (HandSHeadRun.getT s) = (hookG fa fn ex).obs s.abs := congrArg (obsG fa fn ex) (funext (HandSHeadRun.getT_eq s))
/-! ### .. over these -/
def exB (K : PySem.W.Frag) : Bool := exL.all fun e => e K
abbrev SaysQ (h : Heap) (K : PySem.W.Frag) : Prop := SaysG faL fnL exB h K
abbrev hookQ : PySem.W.Hook := hookG faL fnL exB
def obQ (s : PySem.W.SharedT) : He.AlD × Bool := obsG faL fnL exB (HandSHeadRun.getT s)
theorem obQ_eq (s : PySem.W.SharedT) : obQ s = hookQ.obs s.abs := obsG_eq s
abbrev rowR : PySem.W.OpenRow := PySem.W.OpenLaw.row PySem.Challenge.rw_holdmodes_k40_whole_yards_are_fair
abbrev viewQ : Program := PySem.W.view rowR.prog [66]
def nm1 : List PySem.Str := ["MAX_ACTS", "MAX_DEEDS", "MAX_HOLDERS", "MAX_THINGS", "HoldError", "BadMode", "BadYard", "Barred", "Full", "NothingToUndo", "NoAct", "NoHold", "NoHolder", "NoThing", "is_integer", "is_rising", "are_numbers", "is_lot", "are_pairs", "both", "is_within", "rules_error", "are_beside", "against"]
def nm2 : List PySem.Str := ["is_mode", "joined", "bars", "goes", "tree_error", "around", "is_hold", "are_holds", "table_of", "lacking", "pairs_at", "fault", "may", "may_holds", "clash_at", "clash", "holds_of", "changes", "Yard"]
def nm3 : List PySem.Str := ["_law_bag", "_law_draw", "_law_pick", "_law_odd", "_law_is_whole", "_law_rules", "_law_tree", "_law_around", "_law_mode", "_law_error_told", "_law_do", "_law_done", "_law_deed", "_law_rights", "_law_is_safe", "_law_is_right"]
def looseQ : List PySem.Str := nm1 ++ (nm2 ++ nm3)
theorem runQ (w : World) : HandSHeadRun.RunEq rowR viewQ hookQ obQ 20000 looseQ w := by
  intro os
  kernel_rfl
end HM
namespace HM
open PySem PySem.Spec PyProof.Rows L2
/-! ### isinstance of data -/
def tyS : PyData → String
  | .none => "NoneType"
  | .bool _ => "bool"
  | .int _ => "int"
  | .str _ => "str"
  | .list _ => "list"
  | .tuple _ => "tuple"
  | .dict _ => "dict"
def isI : PyData → Bool
  | .int _ => true
  | .bool _ => true
  | _ => false
def isB : PyData → Bool
  | .bool _ => true
  | _ => false
def isT : PyData → Bool
  | .tuple _ => true
  | _ => false
theorem Is.ty {K : PySem.W.Frag} {H : Hp} {v : V} {d : PyData} (h : Is H v d) : TyX K H v (.type (tyS d)) := by
  cases h with
  | non => exact .base .non
  | bl b => exact .base (.bl b)
  | int i => exact .base (.int i)
  | str x => exact .base (.str x)
  | lst h _ => exact .base (.lst h)
  | tup h _ => exact .base (.tup h)
  | dct0 h => exact .base (.dK h)
  | dct1 h => exact .base (.dK h)
structure IsP (T : String) (p : PyData → Bool) : Prop where
  ok : ∀ d, kitB (tyS d) T = some (p d)
theorem kit_all {T : String} {a b c d e f g : Bool} (h : kitB "NoneType" T = some a ∧ kitB "bool" T = some b ∧ kitB "int" T = some c ∧ kitB "str" T = some d ∧ kitB "list" T = some e ∧ kitB "tuple" T = some f ∧ kitB "dict" T = some g)
    {p : PyData → Bool} (hp : p .none = a ∧ (∀ x, p (.bool x) = b) ∧ (∀ x, p (.int x) = c) ∧ (∀ x, p (.str x) = d) ∧ (∀ x, p (.list x) = e) ∧ (∀ x, p (.tuple x) = f) ∧ (∀ x, p (.dict x) = g)) : IsP T p := ⟨fun z => by
  obtain ⟨h1, h2, h3, h4, h5, h6, h7⟩ := h
  obtain ⟨p1, p2, p3, p4, p5, p6, p7⟩ := hp
  cases z with
  | none => rw [p1]; exact h1
  | bool x => rw [p2]; exact h2
  | int x => rw [p3]; exact h3
  | str x => rw [p4]; exact h4
  | list x => rw [p5]; exact h5
  | tuple x => rw [p6]; exact h6
  | dict x => rw [p7]; exact h7⟩
theorem isP_int : IsP "int" isI := kit_all (a := false) (b := true) (c := true) (d := false) (e := false) (f := false) (g := false) (by decide +kernel) ⟨rfl, fun _ => rfl, fun _ => rfl, fun _ => rfl, fun _ => rfl, fun _ => rfl, fun _ => rfl⟩
theorem isP_bool : IsP "bool" isB := kit_all (a := false) (b := true) (c := false) (d := false) (e := false) (f := false) (g := false) (by decide +kernel) ⟨rfl, fun _ => rfl, fun _ => rfl, fun _ => rfl, fun _ => rfl, fun _ => rfl, fun _ => rfl⟩
theorem isP_tuple : IsP "tuple" isT := kit_all (a := false) (b := false) (c := false) (d := false) (e := false) (f := true) (g := false) (by decide +kernel) ⟨rfl, fun _ => rfl, fun _ => rfl, fun _ => rfl, fun _ => rfl, fun _ => rfl, fun _ => rfl⟩
section
variable {X : Cx} {n : String} {q : PyData → Bool}
theorem call_isT (hp : IsP n q) : CallR X (.builtin "isinstance") (fun xs H Q => ∃ v d, xs = [v, .ty n] ∧ Is H v d ∧ Q (.bl (q d)) H) := by
  intro pins s σ H xs us Q I r h
  obtain ⟨v, d, e, hv, k⟩ := h
  exact call_isi pins s σ H xs us Q I r ⟨v, .ty n, _, _, q d, e, .ty n, hv.ty, kit_ty (hp.ok d), k⟩
theorem pe_tInt {p : Pos} (hm : X.mg "int" = none) (hg : Gl X "int" := by rfl) : PE X (.Name "int" p) (tC (.ty "int")) := pe_bltn (u := .type "int") hg hm (by decide +kernel) rfl
theorem pe_tBool {p : Pos} (hm : X.mg "bool" = none) (hg : Gl X "bool" := by rfl) : PE X (.Name "bool" p) (tC (.ty "bool")) := pe_bltn (u := .type "bool") hg hm (by decide +kernel) rfl
theorem pe_tTuple {p : Pos} (hm : X.mg "tuple" = none) (hg : Gl X "tuple" := by rfl) : PE X (.Name "tuple" p) (tC (.ty "tuple")) := pe_bltn (u := .type "tuple") hg hm (by decide +kernel) rfl
theorem boot_isi : bootBuiltins "isinstance" = some (.builtin "isinstance") := by decide +kernel
end
/-! ### is_integer -/
def isIntB (d : PyData) (lo hi : Int) : Bool := match d with
  | .int i => decide (lo ≤ i) && decide (i ≤ hi)
  | _ => false
abbrev sIsInteger : Stmt := top 16
theorem sc_isInteger : FnScope ["value", "low", "high"] ["value", "low", "high"] (defScope sIsInteger) := ⟨rfl, rfl, rfl, by decide +kernel, rfl, by decide +kernel, by decide +kernel⟩
def spIsInteger : Sp := fun vs H Q _ => ∃ (v : V) (d : PyData) (lo hi : Int), vs = [v, .int lo, .int hi] ∧ Is H v d ∧ Q (.bl (isIntB d lo hi)) H
section
variable {P : Program} {w : World} {K : PySem.W.Frag} {mg : Str → Option Value} {base : Heap}
theorem ok_isInteger (F : Free mg) (D : Dn K mg "is_integer" sIsInteger) : C8.Cal P w K mg base 1 "is_integer" spIsInteger [] := by
  refine cal_of D sc_isInteger (fun _ _ _ _ _ _ us hl => match us, hl with | [_, _, _], _ => rfl) (fun vs H Q E h => ?_) (fun f cdv A outer s H vs Q E hr h => ?_)
  · obtain ⟨v, d, lo, hi, rfl, _⟩ := h
    rfl
  · obtain ⟨v, d, lo, hi, rfl, hv, k⟩ := h
    refine ⟨_, pss_one (ps_ret (pe_and (pe_callB (call_isT isP_int) (by rfl) F.isinstance boot_isi (pa_cons (pv 0) (pa_cons (pe_tInt F.int) pa_nil)))
      (pe_and (pe_not (pe_callB (call_isT isP_bool) (by rfl) F.isinstance boot_isi (pa_cons (pv 0) (pa_cons (pe_tBool F.bool) pa_nil)))) (pe_one (pe_chain op_le op_le (pv 1) (pv 0) (pv 2)))))), ?_⟩
    refine ⟨_, rfl, _, d, rfl, hv, _, rfl, ?_⟩
    by_cases h1 : isI d = true
    · rw [h1]
      refine iteT ?_
      refine ⟨_, rfl, _, d, rfl, hv, _, rfl, _, rfl, ?_⟩
      cases d with
      | int i =>
        obtain rfl := hv.int_inv
        refine iteT ?_
        refine ⟨_, rfl, _, rfl, _, _, rfl, rfl, _, rfl, ?_⟩
        refine ite2 (fun c => ?_) (fun c => ?_)
        · refine ⟨_, rfl, _, _, rfl, rfl, ?_⟩
          have e : isIntB (.int i) lo hi = decide (i ≤ hi) := by
            show (decide (lo ≤ i) && decide (i ≤ hi)) = _
            rw [c] <;> rfl
          rw [e] at k
          exact k
        · have e : isIntB (.int i) lo hi = false := by
            show (decide (lo ≤ i) && decide (i ≤ hi)) = _
            rw [Bool.not_eq_true] at c
            rw [c] <;> rfl
          rw [e] at k
          exact k
      | bool b => exact iteF k
      | _ => cases h1
    · rw [Bool.not_eq_true] at h1
      rw [h1]
      have e : isIntB d lo hi = false := by
        cases d with
        | int i => cases h1
        | _ => rfl
      rw [e] at k
      exact iteF k
end
end HM
namespace HM
open PySem PySem.Spec PyProof.Rows L2
/-! ### loops over anything of n turns -/
theorem lc_any {J : It} {n : Nat} {g : TG} {tt : TT} {te : TE} {vs : List Nat} {σ : L2.St} {H1 : Hp} {D : Addr} {Qd : Hp → Prop} (Pv : Nat → Hp → Prop) (h0 : Pv 0 (upd H1 D (.lst [])))
    (hgo : ∀ i H, i < n → Pv i H → J.go i H) (hst : ∀ H, Pv n H → J.stop n H)
    (hs : ∀ i x H H', i < n → Pv i H → J.yld i H x H' → g x (wipe σ vs) H' fun σ2 H2 => wipe σ2 vs = wipe σ vs ∧ tt σ2 H2 fun b H3 =>
      if b = true then te σ2 H3 fun y H4 => ∃ acc, H4 D = some (.lst acc) ∧ acc.length < sizeLine ∧ Pv (i + 1) (upd H4 D (.lst (acc ++ [y]))) else Pv (i + 1) H3) (hd : ∀ H, Pv n H → Qd H) :
    ∃ W : Nat → Nat → Hp → Prop, (∃ m, W 0 m (upd H1 D (.lst []))) ∧ ∀ i m H, W i m H →
      (J.stop i H ∧ Qd H) ∨ (J.go i H ∧ ∃ Nx : Hp → Prop, (∀ H', Nx H' → ∃ m', m' < m ∧ W (i + 1) m' H') ∧ ∀ x H', J.yld i H x H' → g x (wipe σ vs) H' fun σ2 H2 => wipe σ2 vs = wipe σ vs ∧ tt σ2 H2 fun b H3 =>
        if b = true then te σ2 H3 fun y H4 => ∃ acc, H4 D = some (.lst acc) ∧ acc.length < sizeLine ∧ Nx (upd H4 D (.lst (acc ++ [y]))) else Nx H3) := by
  refine ⟨fun i m H => m = n - i ∧ i ≤ n ∧ Pv i H, ⟨n, rfl, Nat.zero_le _, h0⟩, ?_⟩
  rintro i m H ⟨rfl, hi, p⟩
  by_cases hlt : i < n
  · exact .inr ⟨hgo i H hlt p, Pv (i + 1), fun H' p' => ⟨n - (i + 1), by omega, rfl, hlt, p'⟩, fun x H' y => hs i x H H' hlt p y⟩
  · have e : i = n := by omega
    subst e
    exact .inl ⟨hst H p, hd H p⟩
theorem for_any {J : It} {n : Nat} {g : TG} {tb : TS} {D : Ends} {σ : L2.St} {H : Hp} (Pv : Nat → L2.St → Hp → Prop) (h0 : Pv 0 σ H)
    (hgo : ∀ i σ H, i < n → Pv i σ H → J.go i H) (hst : ∀ σ H, Pv n σ H → J.stop n H)
    (hs : ∀ i x σ H H', i < n → Pv i σ H → J.yld i H x H' → g x σ H' fun σ2 H2 => tb { D with nx := Pv (i + 1), ct := Pv (i + 1), bk := D.nx } σ2 H2) (hd : ∀ σ H, Pv n σ H → D.nx σ H) :
    ∃ W : Nat → Nat → L2.St → Hp → Prop, (∃ m, W 0 m σ H) ∧ ∀ i m σ H, W i m σ H →
      (J.stop i H ∧ D.nx σ H) ∨ (J.go i H ∧ ∃ N : L2.St → Hp → Prop, (∀ σ' H', N σ' H' → ∃ m', m' < m ∧ W (i + 1) m' σ' H') ∧ ∀ x H', J.yld i H x H' → g x σ H' fun σ2 H2 => tb { D with nx := N, ct := N, bk := D.nx } σ2 H2) := by
  refine ⟨fun i m σ H => m = n - i ∧ i ≤ n ∧ Pv i σ H, ⟨n, rfl, Nat.zero_le _, h0⟩, ?_⟩
  rintro i m σ H ⟨rfl, hi, p⟩
  by_cases hlt : i < n
  · exact .inr ⟨hgo i σ H hlt p, Pv (i + 1), fun σ' H' p' => ⟨n - (i + 1), by omega, rfl, hlt, p'⟩, fun x H' y => hs i x σ H H' hlt p y⟩
  · have e : i = n := by omega
    subst e
    exact .inl ⟨hst σ H p, hd σ H p⟩
theorem yes_at {σ : L2.St} {H : Hp} {A B : Hp → Prop} (h : A H) : tYes σ H (fun b H3 => if b = true then A H3 else B H3) := by
  show (if true = true then A H else B H)
  rw [if_pos rfl]
  exact h
theorem take_more {α : Type} : ∀ {l : List α} {i : Nat} {x : α}, l[i]? = some x → l.take (i + 1) = l.take i ++ [x]
  | [], i, x, h => by simp at h
  | a :: l, 0, x, h => by
    have e : a = x := Option.some.inj h
    subst e
    rfl
  | a :: l, i + 1, x, h => by
    have ih := take_more (l := l) (i := i) (x := x) h
    show a :: l.take (i + 1) = a :: l.take i ++ [x]
    rw [ih]
    rfl
theorem get_lt {α : Type} {l : List α} {i : Nat} (h : i < l.length) : ∃ x, l[i]? = some x := ⟨l[i], List.getElem?_eq_getElem h⟩
theorem lt_get {α : Type} {l : List α} {i : Nat} {x : α} (h : l[i]? = some x) : i < l.length := by
  obtain ⟨h, _⟩ := List.getElem?_eq_some_iff.mp h
  exact h
theorem lt1000 {n : Nat} (h : n < 1000) : n < sizeLine := Nat.lt_of_lt_of_le h (by decide)
theorem le1000 {n : Nat} (h : n ≤ 1000) : n ≤ sizeLine := Nat.le_trans h (by decide)
/-! ### rules without the written part -/
section
variable {X : Cx}
def gT (n : Nat) (t : TGs) : TG := fun v σ H Q => ∃ a xs, v = .ref a ∧ H a = some (.tup xs) ∧ xs.length = n ∧ t xs σ H Q
theorem pgT {es : List Expr} {k : Nat} {t : TGs} {n : Nat} {pos : Pos} (hc : X.calm = true) (h : PGs X es t)
    (hn : (assignEach es X.env).length = n := by rfl) (hst : (assignEach es X.env).findIdx? (·.1) = none := by rfl) : PG X (.Tuple es k pos) (gT n t) := by
  refine ⟨fun pins s σ H v u Q I r hw => ?_⟩
  obtain ⟨a, xs, e1, hq, hl, hw⟩ := hw
  exact (pg_tup hc h hn hst).run pins s σ H v u Q I r ⟨a, xs, e1, .of hq, hl, hw⟩
def rIxTup : R2 := fun x y H Q => ∃ p xs i v, x = .ref p ∧ y = .int i ∧ H p = some (.tup xs) ∧ atI xs i = some v ∧ Q v H
def rIxLst : R2 := fun x y H Q => ∃ p xs i v, x = .ref p ∧ y = .int i ∧ H p = some (.lst xs) ∧ atI xs i = some v ∧ Q v H
theorem ixT : IxR X rIxTup := by
  intro va sl pins s σ H x y v u Q I rx ry h
  obtain ⟨p, xs, i, z, e1, e2, h1, h2, q⟩ := h
  exact ix_tup va sl pins s σ H x y v u Q I rx ry ⟨p, xs, i, z, e1, e2, .of h1, h2, q⟩
theorem ixL : IxR X rIxLst := by
  intro va sl pins s σ H x y v u Q I rx ry h
  obtain ⟨p, xs, i, z, e1, e2, h1, h2, q⟩ := h
  exact ix_list va sl pins s σ H x y v u Q I rx ry ⟨p, xs, i, z, e1, e2, .of h1, h2, q⟩
/-- len of a tuple or a list -/
def rLenS : List V → Hp → VK → Prop := fun xs H Q => ∃ p ys, xs = [.ref p] ∧ (H p = some (.tup ys) ∨ H p = some (.lst ys)) ∧ Q (.int ys.length) H
theorem callLen : CallR X (.builtin "len") rLenS := by
  intro pins s σ H xs us Q I r h
  obtain ⟨p, ys, e, h1, q⟩ := h
  exact call_len_seq pins s σ H xs us Q I r ⟨p, ys, e, h1.elim (fun z => .inr (.of z)) (fun z => .inl (.of z)), q⟩
end
/-! ### is_rising -/
def CmpOk (x y : PyData) (b : Bool) : Prop := (∃ i j : Int, x = .int i ∧ y = .int j ∧ b = decide (i < j)) ∨ (∃ ns ms : List Int, x = cLot ns ∧ y = cLot ms ∧ b = HT.lexLt ns ms)
theorem Is.inj_int {H : Hp} {v : V} {i : Int} (h : Is H v (.int i)) : v = .int i := h.int_inv
section
variable {X : Cx}
def rLtC : R2 := fun x y H Q => ∃ d e b, Is H x d ∧ Is H y e ∧ CmpOk d e b ∧ Q (.bl b) H
theorem op_ltC (hu : X.A.units < cLine) : OpR X (compareOp .Lt) rLtC := by
  intro pins s σ H x y v u Q I rx ry h
  obtain ⟨d, e, b, hd, he, hc, q⟩ := h
  rcases hc with ⟨i, j, rfl, rfl, rfl⟩ | ⟨ns, ms, rfl, rfl, rfl⟩
  · exact op_lt pins s σ H x y v u Q I rx ry ⟨i, j, hd.int_inv, he.int_inv, q⟩
  · obtain ⟨a, e1, h1⟩ := hd.lot
    obtain ⟨c, e2, h2⟩ := he.lot
    exact op_ltT hu pins s σ H x y v u Q I rx ry ⟨a, c, ns, ms, e1, e2, .of h1, .of h2, q⟩
end
def ris (lt : PyData → PyData → Bool) (ds : List PyData) : Bool := (ds.zip (ds.drop 1)).all fun p => lt p.1 p.2
abbrev sIsRising : Stmt := top 17
theorem sc_isRising : FnScope ["value", "one", "other"] ["value"] (defScope sIsRising) := ⟨rfl, rfl, rfl, by decide +kernel, rfl, by decide +kernel, by decide +kernel⟩
def spIsRising : Sp := fun vs H Q _ => ∃ (v : V) (ds : List PyData) (lt : PyData → PyData → Bool), vs = [v] ∧ (Is H v (.tuple ds) ∨ Is H v (.list ds)) ∧ ds.length < 1000 ∧ (∀ x ∈ ds, ∀ y ∈ ds, CmpOk x y (lt x y)) ∧ ∀ H', Same H H' → Q (.bl (ris lt ds)) H'
section
variable {P : Program} {w : World} {K : PySem.W.Frag} {mg : Str → Option Value} {base : Heap}
theorem cutV_tail (xs : List V) : cutV xs (some 1) none = xs.drop 1 := by
  unfold cutV
  have e1 : HT.sIx xs.length 0 (some 1) = min 1 xs.length := HT.sIx_nat _ _ 1
  rw [e1, HT.sIx_none]
  by_cases h : xs.length = 0
  · have e : xs = [] := List.length_eq_zero_iff.mp h
    subst e
    rfl
  · have e2 : min 1 xs.length = 1 := by omega
    rw [e2]
    exact List.take_of_length_le (by rw [List.length_drop]; omega)
theorem not_lst {H : Hp} {a : Addr} {xs : List V} {ds : List PyData} (h : H a = some (.tup xs)) (q : Is H (.ref a) (.list ds)) : False := by
  obtain ⟨b, ys, e, h2, _⟩ := q.lst_inv
  cases e
  rw [h] at h2
  cases h2
theorem not_tup {H : Hp} {a : Addr} {xs : List V} {ds : List PyData} (h : H a = some (.lst xs)) (q : Is H (.ref a) (.tuple ds)) : False := by
  obtain ⟨b, ys, e, h2, _⟩ := q.tup_inv
  cases e
  rw [h] at h2
  cases h2
/-- value[1:] of a tuple or a list, then what follows, at a sequence of the tail -/
theorem slice_tail {X : Cx} {ds : List PyData} {v : V} {H : Hp} {Q : V → Hp → Prop} (h : Is H v (.tuple ds) ∨ Is H v (.list ds))
    (k : ∀ w H', Same H H' → ((Is H v (.tuple ds) → Is H' w (.tuple (ds.drop 1))) ∧ (Is H v (.list ds) → Is H' w (.list (ds.drop 1)))) → Q w H') :
    rSlA X.K v (some 1) none H Q ∨ rSlL X.K v (some 1) none H Q := by
  rcases h with h | h
  · obtain ⟨a, xs, rfl, h1, h2⟩ := h.tup_inv
    refine .inl ⟨a, xs, rfl, .of h1, fun c => ?_, fun c p hp => ?_⟩
    · obtain ⟨c1, _⟩ := c
      have e1 : HT.sIx xs.length 0 (some 1) = min 1 xs.length := HT.sIx_nat _ _ 1
      rw [e1] at c1
      have e0 : xs.length = 0 := by omega
      have e : xs = [] := List.length_eq_zero_iff.mp e0
      subst e
      have el := h2.length
      have ed : ds = [] := List.length_eq_zero_iff.mp (by simpa using el.symm)
      subst ed
      exact k _ _ (Same.refl _) ⟨fun q => q, fun q => (not_lst h1 q).elim⟩
    · refine k _ _ (Same.new hp) ⟨fun q => ?_, fun q => (not_lst h1 q).elim⟩
      rw [cutV_tail]
      exact .tup upd_same (IsAll.same (Same.new hp) (h2.drop 1))
  · obtain ⟨a, xs, rfl, h1, h2⟩ := h.lst_inv
    refine .inr ⟨a, xs, rfl, .of h1, fun p hp => ?_⟩
    refine k _ _ (Same.new hp) ⟨fun q => (not_tup h1 q).elim, fun q => ?_⟩
    rw [cutV_tail]
    exact .lst upd_same (IsAll.same (Same.new hp) (h2.drop 1))
theorem boot_all : bootBuiltins "all" = some (.builtin "all") := by decide +kernel
theorem boot_any : bootBuiltins "any" = some (.builtin "any") := by decide +kernel
theorem all_ris (lt : PyData → PyData → Bool) (ds : List PyData) : (((ds.zip (ds.drop 1)).map fun p => lt p.1 p.2).all id) = ris lt ds := by
  unfold ris
  rw [List.all_map]
  rfl
theorem ris_loop {J : It} {ds : List PyData} {lt : PyData → PyData → Bool} {v : V} {H1 : Hp} {D : Addr} {Qd : Hp → Prop} (hlen : ds.length < 1000) (hc : ∀ x ∈ ds, ∀ y ∈ ds, CmpOk x y (lt x y)) (nD : H1 D = none)
    (hgo : ∀ i H, i < (ds.zip (ds.drop 1)).length → Same H1 H → J.go i H) (hst : ∀ H, Same H1 H → J.stop (ds.zip (ds.drop 1)).length H)
    (hy : ∀ (i : Nat) (z : V) (H H' : Hp) (p : PyData × PyData), (ds.zip (ds.drop 1))[i]? = some p → Same H1 H → J.yld i H z H' → ∃ T x y, z = .ref T ∧ H T = none ∧ H' = upd H T (.tup [x, y]) ∧ Is H x p.1 ∧ Is H y p.2)
    (hd : ∀ H, Same H1 H → H D = some (.lst (((ds.zip (ds.drop 1)).map fun p => lt p.1 p.2).map V.bl)) → Qd H) :
    ∃ W : Nat → Nat → Hp → Prop, (∃ m, W 0 m (upd H1 D (.lst []))) ∧ ∀ i m H, W i m H →
      (J.stop i H ∧ Qd H) ∨ (J.go i H ∧ ∃ Nx : Hp → Prop, (∀ H', Nx H' → ∃ m', m' < m ∧ W (i + 1) m' H') ∧ ∀ x H', J.yld i H x H' → gT 2 (gCons (gName 1) (gCons (gName 2) gNil)) x (wipe [some v, none, none] [1, 2]) H' fun σ2 H2 => wipe σ2 [1, 2] = wipe [some v, none, none] [1, 2] ∧ tYes σ2 H2 fun b H3 =>
        if b = true then tOp rLtC (tVar 1) (tVar 2) σ2 H3 fun y H4 => ∃ acc, H4 D = some (.lst acc) ∧ acc.length < sizeLine ∧ Nx (upd H4 D (.lst (acc ++ [y]))) else Nx H3) := by
  refine lc_any (n := (ds.zip (ds.drop 1)).length) (fun i H => Same H1 H ∧ H D = some (.lst ((((ds.zip (ds.drop 1)).take i).map fun p => lt p.1 p.2).map V.bl))) ⟨Same.new nD, upd_same⟩ (fun i H hi p => hgo i H hi p.1) (fun H p => hst H p.1) (fun i z H H' hi p yy => ?_) (fun H p => ?_)
  · obtain ⟨q, hq⟩ := get_lt hi
    obtain ⟨s1, hD⟩ := p
    obtain ⟨T, x, y, rfl, hT, rfl, ix, iy⟩ := hy i z H H' q hq s1 yy
    have sT := Same.new (o := HO.tup [x, y]) hT
    have hm := List.of_mem_zip (List.mem_of_getElem? hq)
    have m2 : q.2 ∈ ds := List.mem_of_mem_drop hm.2
    have DT : D ≠ T := ne_of_none hD hT
    refine ⟨T, _, rfl, upd_same, rfl, x, _, rfl, y, _, rfl, rfl, rfl, ?_⟩
    refine yes_at ?_
    refine ⟨x, rfl, y, rfl, q.1, q.2, _, ix.same sT, iy.same sT, hc _ hm.1 _ m2, _, by rw [upd_ne DT]; exact hD, ?_, ?_, ?_⟩
    · rw [List.length_map, List.length_map, List.length_take, List.length_zip]
      exact lt1000 (by omega)
    · exact (s1.set (s1.free hT)).set nD
    · rw [upd_same, take_more hq, List.map_append, List.map_append]
      rfl
  · refine hd H p.1 ?_
    have e := p.2
    rw [List.take_length] at e
    exact e
theorem zip_tail {ds : List PyData} {i : Nat} {p : PyData × PyData} (h : (ds.zip (ds.drop 1))[i]? = some p) : ds[i]? = some p.1 ∧ (ds.drop 1)[i]? = some p.2 := by
  rw [List.getElem?_zip_eq_some] at h
  exact h
theorem zip_len (ds : List PyData) : (ds.zip (ds.drop 1)).length = (ds.drop 1).length := by
  rw [List.length_zip, List.length_drop]
  omega
theorem ok_isRising (F : Free mg) (D : Dn K mg "is_rising" sIsRising) : C8.Cal P w K mg base 1 "is_rising" spIsRising [] := by
  refine cal_of D sc_isRising (fun _ _ _ _ _ _ us hl => match us, hl with | [_], _ => rfl) (fun vs H Q E h => ?_) (fun f cdv A outer s H vs Q E hr h => ?_)
  · obtain ⟨v, ds, lt, rfl, _⟩ := h
    rfl
  · obtain ⟨v, ds, lt, rfl, hv, hlen, hc, k⟩ := h
    refine ⟨_, pss_one (ps_ret (pe_callB (cr_all rfl) (by rfl) F.all boot_all (pa_cons (pe_lc (own := [("one", 1), ("other", 2)]) (g := gT 2 (gCons (gName 1) (gCons (gName 2) gNil))) (tt := tYes) (te := tOp rLtC (tVar 1) (tVar 2)) rfl sc_isRising.nd
      (RZ.pi_zipA (by rfl) F.zip (pa_cons (pv 0) (pa_cons (pe_slice (sl_tupA.or sl_list) (pv 0) (po_some pe_int) po_none) pa_nil)))
      (blkOk_by (N := ["value", "one", "other"]) (sc := defScope sIsRising) (own := [("one", 1), ("other", 2)]) (by decide +kernel))
      (fun _ _ _ _ _ => by exact (pgT rfl (by exact (pgs_cons (by exact (pg_name (i := 1) sc_isRising.nd rfl (.inl rfl))) (by exact (pgs_cons (by exact (pg_name (i := 2) sc_isRising.nd rfl (.inl rfl))) pgs_nil))))))
      (fun _ _ _ _ _ => pts_nil)
      (fun _ _ _ _ _ => by exact (pe_cmpR (op_ltC hr.units0) (pv 1) (pv 2) (nomark _)))) pa_nil))), ?_⟩
    refine ⟨_, rfl, _, rfl, _, rfl, ?_⟩
    refine slice_tail (X := cxOf C8.CX0 P w K mg base ["value", "one", "other"] "is_rising" (defScope sIsRising) f cdv A outer s H E) hv fun u H1 s1 hu => ?_
    have fin : ∀ (D : Addr) (H2 : Hp), Same H1 H2 → H2 D = some (.lst (((ds.zip (ds.drop 1)).map fun p => lt p.1 p.2).map V.bl)) → rAll K [.ref D] H2 Q := fun D H2 s2 hD =>
      ⟨D, _, rfl, .of hD, by rw [all_ris]; exact k H2 (s1.trans s2)⟩
    rcases hv with hv | hv
    · obtain ⟨b, ys, rfl, hb, iys⟩ := (hu.1 hv).tup_inv
      obtain ⟨a, xs, rfl, ha, ixs⟩ := (hv.same s1).tup_inv
      refine ⟨a, b, xs, ys, rfl, .inr ⟨.of ha, .of hb, fun D nD => ris_loop hlen hc nD (fun i H2 hi s2 => ?_) (fun H2 s2 => ?_) (fun i z H2 H3 p hp s2 y => ?_) fun H2 s2 hD => fin D H2 s2 hD⟩⟩
      · rw [zip_len, ← iys.length] at hi
        obtain ⟨y, hy⟩ := get_lt hi
        have hl := ixs.length
        have hl2 := iys.length
        rw [List.length_drop] at hl2
        obtain ⟨x, hx⟩ := get_lt (l := xs) (i := i) (by omega)
        exact ⟨xs, ys, x, y, .of (s2 _ _ ha), .of (s2 _ _ hb), hx, hy⟩
      · exact ⟨xs, ys, .of (s2 _ _ ha), .of (s2 _ _ hb), .inr (by rw [zip_len, ← iys.length]; exact Nat.le_refl _)⟩
      · obtain ⟨T, x, y', rfl, hT, rfl, f1, f2⟩ := y
        obtain ⟨p1, p2⟩ := zip_tail hp
        obtain ⟨x2, e2, i2⟩ := ixs.of p1
        obtain ⟨y2, e3, i3⟩ := iys.of p2
        have q1 := f1 xs (.of (s2 _ _ ha))
        have q2 := f2 ys (.of (s2 _ _ hb))
        rw [e2] at q1
        rw [e3] at q2
        cases q1
        cases q2
        exact ⟨T, x, y', rfl, hT, rfl, i2.same s2, i3.same s2⟩
    · obtain ⟨b, ys, rfl, hb, iys⟩ := (hu.2 hv).lst_inv
      obtain ⟨a, xs, rfl, ha, ixs⟩ := (hv.same s1).lst_inv
      refine ⟨a, b, xs, ys, rfl, .inl ⟨.of ha, .of hb, fun D nD => ris_loop hlen hc nD (fun i H2 hi s2 => ?_) (fun H2 s2 => ?_) (fun i z H2 H3 p hp s2 y => ?_) fun H2 s2 hD => fin D H2 s2 hD⟩⟩
      · rw [zip_len, ← iys.length] at hi
        obtain ⟨y, hy⟩ := get_lt hi
        have hl := ixs.length
        have hl2 := iys.length
        rw [List.length_drop] at hl2
        obtain ⟨x, hx⟩ := get_lt (l := xs) (i := i) (by omega)
        exact ⟨xs, ys, x, y, .of (s2 _ _ ha), .of (s2 _ _ hb), hx, hy⟩
      · exact ⟨xs, ys, .of (s2 _ _ ha), .of (s2 _ _ hb), .inr (by rw [zip_len, ← iys.length]; exact Nat.le_refl _)⟩
      · obtain ⟨T, x, y', rfl, hT, rfl, f1, f2⟩ := y
        obtain ⟨p1, p2⟩ := zip_tail hp
        obtain ⟨x2, e2, i2⟩ := ixs.of p1
        obtain ⟨y2, e3, i3⟩ := iys.of p2
        have q1 := f1 xs (.of (s2 _ _ ha))
        have q2 := f2 ys (.of (s2 _ _ hb))
        rw [e2] at q1
        rw [e3] at q2
        cases q1
        cases q2
        exact ⟨T, x, y', rfl, hT, rfl, i2.same s2, i3.same s2⟩
end
end HM
namespace HM
open PySem PySem.Spec PyProof.Rows L2
/-! ### are_numbers, is_lot, is_within -/
def numsB (n : Int) (d : PyData) : Bool := match d with
  | .tuple ds => ds.all fun e => isIntB e 0 (n - 1)
  | _ => false
abbrev sAreNumbers : Stmt := top 18
theorem sc_areNumbers : FnScope ["many", "value", "item"] ["many", "value"] (defScope sAreNumbers) := ⟨rfl, rfl, rfl, by decide +kernel, rfl, by decide +kernel, by decide +kernel⟩
def sizeB : PyData → Bool
  | .tuple ds => decide (ds.length < 1000)
  | _ => true
def spAreNumbers : Sp := fun vs H Q _ => ∃ (v : V) (d : PyData) (n : Int), vs = [.int n, v] ∧ Is H v d ∧ sizeB d = true ∧ ∀ H', Same H H' → Q (.bl (numsB n d)) H'
section
variable {P : Program} {w : World} {K : PySem.W.Frag} {mg : Str → Option Value} {base : Heap}
theorem ok_areNumbers (F : Free mg) (D : Dn K mg "are_numbers" sAreNumbers) (cI : C8.Cal P w K mg base 1 "is_integer" spIsInteger []) : C8.Cal P w K mg base 2 "are_numbers" spAreNumbers [] := by
  refine cal_of D sc_areNumbers (fun _ _ _ _ _ _ us hl => match us, hl with | [_, _], _ => rfl) (fun vs H Q E h => ?_) (fun f cdv A outer s H vs Q E hr h => ?_)
  · obtain ⟨v, d, n, rfl, _⟩ := h
    rfl
  · obtain ⟨v, d, n, rfl, hv, hz, k⟩ := h
    refine ⟨_, pss_one (ps_ret (pe_and (pe_callB (call_isT isP_tuple) (by rfl) F.isinstance boot_isi (pa_cons (pv 1) (pa_cons (pe_tTuple F.tuple) pa_nil)))
      (pe_one (pe_callB (cr_all rfl) (by rfl) F.all boot_all (pa_cons (pe_lc (own := [("item", 2)]) (g := gName 2) (tt := tYes) (te := tCall spIsInteger [] C8.E0 (tCons (tVar 2) (tCons (tC (.int 0)) (tCons (tOp (rI0 fun i j => .int (i - j)) (tVar 0) (tC (.int 1))) tNil)))) rfl sc_areNumbers.nd
        (pi_tup (pv 1)) (blkOk_by (N := ["many", "value", "item"]) (sc := defScope sAreNumbers) (own := [("item", 2)]) (by decide +kernel))
        (fun _ _ _ _ _ => by exact (pg_name (i := 2) sc_areNumbers.nd rfl (.inl rfl)))
        (fun _ _ _ _ _ => pts_nil)
        (fun _ _ _ _ _ => by exact (C8.pe_c cI hr (by decide) (by rfl) (pa_cons (pv 2) (pa_cons pe_int (pa_cons (pe_op op_sub (pv 0) pe_int) pa_nil)))))) pa_nil))))), ?_⟩
    refine ⟨_, rfl, _, d, rfl, hv, _, rfl, ?_⟩
    cases d with
    | tuple ds =>
      refine iteT ?_
      obtain ⟨a, xs, rfl, ha, ixs⟩ := hv.tup_inv
      have hl := ixs.length
      have hz' : ds.length < 1000 := of_decide_eq_true hz
      refine ⟨_, rfl, a, rfl, ⟨_, .of ha⟩, fun D nD => lc_tup (K := K) (a := a) (xs := xs) (fun i H' => Same H H' ∧ H' D = some (.lst (((ds.take i).map fun e => isIntB e 0 (n - 1)).map V.bl))) ⟨Same.new nD, upd_same⟩ (fun i H' _ p => .of (p.1 _ _ ha)) (fun i x H' hx p => ?_) (fun H' p => ?_)⟩
      · obtain ⟨s1, hD⟩ := p
        obtain ⟨e, he, ie⟩ := ixs.get hx
        have hlt := lt_get hx
        refine ⟨rfl, yes_at ?_⟩
        refine ⟨x, rfl, _, rfl, _, _, rfl, rfl, x, e, 0, n - 1, rfl, ie.same s1, _, hD, ?_, s1.set nD, ?_⟩
        · rw [List.length_map, List.length_map, List.length_take]
          exact lt1000 (by omega)
        · rw [upd_same, take_more he, List.map_append, List.map_append]
          rfl
      · obtain ⟨s1, hD⟩ := p
        rw [hl, List.take_length] at hD
        refine ⟨D, _, rfl, .of hD, ?_⟩
        have e : numsB n (.tuple ds) = (List.map (fun e => isIntB e 0 (n - 1)) ds).all id := by
          rw [List.all_map]
          rfl
        rw [← e]
        exact k H' s1
    | _ => exact iteF (k H (Same.refl _))
/-! ### is_lot -/
def lotB (n : Int) (d : PyData) : Bool := numsB n d && (match d with
  | .tuple ds => ris (fun x y => match x, y with | .int i, .int j => decide (i < j) | _, _ => false) ds
  | _ => false)
abbrev sIsLot : Stmt := top 19
theorem sc_isLot : FnScope ["acts", "value"] ["acts", "value"] (defScope sIsLot) := ⟨rfl, rfl, rfl, by decide +kernel, rfl, by decide +kernel, by decide +kernel⟩
def spIsLot : Sp := fun vs H Q _ => ∃ (v : V) (d : PyData) (n : Int), vs = [.int n, v] ∧ Is H v d ∧ sizeB d = true ∧ ∀ H', Same H H' → Q (.bl (lotB n d)) H'
theorem nums_int {n : Int} {ds : List PyData} (h : numsB n (.tuple ds) = true) {x : PyData} (hx : x ∈ ds) : ∃ i, x = .int i ∧ 0 ≤ i ∧ i ≤ n - 1 := by
  have q : isIntB x 0 (n - 1) = true := List.all_eq_true.mp h x hx
  cases x with
  | int i =>
    have q2 : (decide (0 ≤ i) && decide (i ≤ n - 1)) = true := q
    rw [Bool.and_eq_true, decide_eq_true_eq, decide_eq_true_eq] at q2
    exact ⟨i, rfl, q2⟩
  | _ => cases q
theorem ok_isLot (F : Free mg) (D : Dn K mg "is_lot" sIsLot) (cN : C8.Cal P w K mg base 2 "are_numbers" spAreNumbers []) (cR : C8.Cal P w K mg base 1 "is_rising" spIsRising []) : C8.Cal P w K mg base 3 "is_lot" spIsLot [] := by
  refine cal_of D sc_isLot (fun _ _ _ _ _ _ us hl => match us, hl with | [_, _], _ => rfl) (fun vs H Q E h => ?_) (fun f cdv A outer s H vs Q E hr h => ?_)
  · obtain ⟨v, d, n, rfl, _⟩ := h
    rfl
  · obtain ⟨v, d, n, rfl, hv, hz, k⟩ := h
    refine ⟨_, pss_one (ps_ret (pe_and (C8.pe_c cN hr (by decide) (by rfl) (pa_cons (pv 0) (pa_cons (pv 1) pa_nil))) (pe_one (C8.pe_c cR hr (by decide) (by rfl) (pa_cons (pv 1) pa_nil))))), ?_⟩
    refine ⟨_, rfl, v, rfl, v, d, n, rfl, hv, hz, fun H1 s1 => ⟨_, rfl, ?_⟩⟩
    by_cases hn : numsB n d = true
    · rw [hn]
      refine iteT ?_
      cases d with
      | tuple ds =>
        refine ⟨v, rfl, v, ds, (fun x y => match x, y with | .int i, .int j => decide (i < j) | _, _ => false), rfl, .inl (hv.same s1), of_decide_eq_true hz, fun x hx y hy => ?_, fun H2 s2 => ?_⟩
        · obtain ⟨i, rfl, _⟩ := nums_int hn hx
          obtain ⟨j, rfl, _⟩ := nums_int hn hy
          exact .inl ⟨i, j, rfl, rfl, rfl⟩
        · have e := k H2 (s1.trans s2)
          unfold lotB at e
          rw [hn] at e
          exact e
      | _ => cases hn
    · rw [Bool.not_eq_true] at hn
      rw [hn]
      have e := k H1 s1
      unfold lotB at e
      rw [hn] at e
      exact iteF e
end
end HM
namespace HM
open PySem PySem.Spec PyProof.Rows L2
/-! ### equality and membership of data -/
mutual
theorem lay_of : ∀ {d : PyData}, nodict d = true → d.canLay0 = true
  | .none, _ => rfl
  | .bool _, _ => rfl
  | .int _, _ => rfl
  | .str _, h => by simpa [PyData.canLay0, nodict] using h
  | .dict _, h => by simp [nodict] at h
  | .list ds, h => by
    have q := layAll_of (ds := ds) (by simpa [nodict] using h)
    simpa [PyData.canLay0] using q
  | .tuple ds, h => by
    have q := layAll_of (ds := ds) (by simpa [nodict] using h)
    simpa [PyData.canLay0] using q
theorem layAll_of : ∀ {ds : List PyData}, nodictAll ds = true → PyData.canLayAll0 ds = true
  | [], _ => rfl
  | d :: ds, h => by
    have q' : (nodict d && nodictAll ds) = true := by simpa [nodictAll] using h
    rw [Bool.and_eq_true] at q'
    have a := lay_of q'.1
    have b := layAll_of q'.2
    simp [PyData.canLayAll0, a, b]
end
theorem depthAll_map {α : Type} {c : α → PyData} {n : Nat} (h : ∀ a, (c a).depth ≤ n) : ∀ l : List α, PyData.depthAll (l.map c) ≤ n
  | [] => by simp [PyData.depthAll]
  | a :: l => by
    have h1 := h a
    have h2 := depthAll_map h l
    simp only [List.map_cons, PyData.depthAll]
    omega
theorem depth_lot (l : Lot) : (cLot l).depth ≤ 1 := by
  have h := depthAll_map (c := PyData.int) (n := 0) (fun _ => by simp [PyData.depth]) l
  show PyData.depth (.tuple _) ≤ 1
  simp only [PyData.depth]
  omega
theorem depth_mode (m : Mode) : (cMode m).depth ≤ 2 := by
  have h1 := depth_lot m.1
  have h2 := depth_lot m.2
  show PyData.depth (.tuple _) ≤ 2
  simp only [PyData.depth, PyData.depthAll]
  omega
theorem depth_hold (h : Hold) : (cHold h).depth ≤ 3 := by
  have h1 := depth_mode h.2.2
  show PyData.depth (.tuple _) ≤ 3
  simp only [PyData.depth, PyData.depthAll]
  omega
theorem depth_holds (hs : List Hold) : (cHolds hs).depth ≤ 4 := by
  have h := depthAll_map depth_hold hs
  show PyData.depth (.tuple _) ≤ 4
  simp only [PyData.depth]
  omega
theorem depth_pair (p : Int × Int) : (cPair p).depth ≤ 1 := by
  show PyData.depth (.tuple _) ≤ 1
  simp [PyData.depth, PyData.depthAll]
theorem depth_pairs (ps : List (Int × Int)) : (cPairs ps).depth ≤ 2 := by
  have h := depthAll_map depth_pair ps
  show PyData.depth (.tuple _) ≤ 2
  simp only [PyData.depth]
  omega
def Shp (d : PyData) : Prop := nodict d = true ∧ d.depth ≤ 60
theorem Shp.shaped {d : PyData} (h : Shp d) : SeqAt.shaped d = true := by
  show (d.canLay0 && decide (d.depth ≤ 64)) = true
  rw [Bool.and_eq_true]
  exact ⟨lay_of h.1, decide_eq_true (by have := h.2; omega)⟩
theorem shp_lot (l : Lot) : Shp (cLot l) := ⟨nodict_tupd (tupd_lot l), by have := depth_lot l; omega⟩
theorem shp_mode (m : Mode) : Shp (cMode m) := ⟨nodict_tupd (tupd_mode m), by have := depth_mode m; omega⟩
theorem shp_hold (h : Hold) : Shp (cHold h) := ⟨nodict_tupd (tupd_hold h), by have := depth_hold h; omega⟩
theorem shp_holds (h : List Hold) : Shp (cHolds h) := ⟨nodict_tupd (tupd_holds h), by have := depth_holds h; omega⟩
theorem shp_pair (p : Int × Int) : Shp (cPair p) := ⟨nodict_tupd (tupd_pair p), by have := depth_pair p; omega⟩
theorem shp_pairs (p : List (Int × Int)) : Shp (cPairs p) := ⟨nodict_tupd (tupd_pairs p), by have := depth_pairs p; omega⟩
section
variable {X : Cx}
def rEqS (neg : Bool) : R2 := fun x y H Q => ∃ d e, Is H x d ∧ Is H y e ∧ Shp d ∧ Shp e ∧ Q (.bl (if neg = true then !PyData.eqv d e else PyData.eqv d e)) H
theorem op_eqS {k : Nat} (hr : Room k X.A) : OpR X (compareOp .Eq) (rEqS false) := by
  intro pins s σ H x y v u Q I rx ry h
  obtain ⟨d, e, hd, he, sd, se, q⟩ := h
  exact op_eqD hr.units pins s σ H x y v u Q I rx ry ⟨d, e, hd.dp sd.1, he.dp se.1, sd.shaped, se.shaped, q⟩
theorem op_neS {k : Nat} (hr : Room k X.A) : OpR X (compareOp .NotEq) (rEqS true) := by
  intro pins s σ H x y v u Q I rx ry h
  obtain ⟨d, e, hd, he, sd, se, q⟩ := h
  exact op_neD hr.units pins s σ H x y v u Q I rx ry ⟨d, e, hd.dp sd.1, he.dp se.1, sd.shaped, se.shaped, q⟩
/-- x in a tuple or a list of data -/
def rInS (neg : Bool) : R2 := fun x y H Q => ∃ d ds, Is H x d ∧ (Is H y (.tuple ds) ∨ Is H y (.list ds)) ∧ Shp d ∧ Shp (.tuple ds) ∧ Q (.bl (if neg = true then !ds.any fun z => PyData.eqv z d else ds.any fun z => PyData.eqv z d)) H
theorem op_inS {k : Nat} (hr : Room k X.A) : OpR X (compareOp .In) (rInS false) := by
  intro pins s σ H x y v u Q I rx ry h
  obtain ⟨d, ds, hd, he, sd, se, q⟩ := h
  obtain ⟨as, r1⟩ := Dp.reads I d x v (hd.dp sd.1) rx
  have n2 : nodictAll ds = true := by simpa [nodict] using se.1
  have hu := hr.units
  have hdp := sd.2
  rcases he with he | he
  · obtain ⟨bs, r2⟩ := Dp.reads I (.tuple ds) y u (he.dp se.1) ry
    exact SeqAt.in_tuple_reads r2 r1 (layAll_of n2) (lay_of sd.1) (by omega) ⟨.bl _, H, I, rfl, q⟩
  · obtain ⟨bs, r2⟩ := Dp.reads I (.list ds) y u (he.dp (by simpa [nodict] using n2)) ry
    exact SeqAt.in_list_reads r2 r1 (layAll_of n2) (lay_of sd.1) (by omega) ⟨.bl _, H, I, rfl, q⟩
theorem op_notInS {k : Nat} (hr : Room k X.A) : OpR X (compareOp .NotIn) (rInS true) := by
  intro pins s σ H x y v u Q I rx ry h
  obtain ⟨d, ds, hd, he, sd, se, q⟩ := h
  obtain ⟨as, r1⟩ := Dp.reads I d x v (hd.dp sd.1) rx
  have n2 : nodictAll ds = true := by simpa [nodict] using se.1
  have hu := hr.units
  have hdp := sd.2
  rcases he with he | he
  · obtain ⟨bs, r2⟩ := Dp.reads I (.tuple ds) y u (he.dp se.1) ry
    exact SeqAt.notIn_tuple_reads r2 r1 (layAll_of n2) (lay_of sd.1) (by omega) ⟨.bl _, H, I, rfl, q⟩
  · obtain ⟨bs, r2⟩ := Dp.reads I (.list ds) y u (he.dp (by simpa [nodict] using n2)) ry
    exact SeqAt.notIn_list_reads r2 r1 (layAll_of n2) (lay_of sd.1) (by omega) ⟨.bl _, H, I, rfl, q⟩
/-- an int in a lot -/
def rInI : R2 := fun x y H Q => ∃ (i : Int) (l : Lot), x = .int i ∧ Is H y (cLot l) ∧ Q (.bl (decide (i ∈ l))) H
theorem eqv_int (i j : Int) : PyData.eqv (.int i) (.int j) = (i == j) := by simp [PyData.eqv]
theorem any_int (l : List Int) (i : Int) : ((l.map PyData.int).any fun z => PyData.eqv z (.int i)) = decide (i ∈ l) := by
  rw [List.any_map]
  induction l with
  | nil => simp
  | cons a l ih =>
    rw [List.any_cons, ih]
    show (PyData.eqv (.int a) (.int i) || _) = _
    rw [eqv_int]
    by_cases h : a = i
    · subst h
      simp
    · have h' : ¬ i = a := fun e => h e.symm
      simp [h, h']
theorem op_inI {k : Nat} (hr : Room k X.A) : OpR X (compareOp .In) rInI := by
  intro pins s σ H x y v u Q I rx ry h
  obtain ⟨i, l, rfl, hl, q⟩ := h
  refine op_inS hr pins s σ H _ y v u Q I rx ry ⟨.int i, l.map .int, .int i, .inl hl, ⟨rfl, by simp [PyData.depth]⟩, shp_lot l, ?_⟩
  rw [any_int]
  exact q
end
theorem eqv_pair (p q : Int × Int) : PyData.eqv (cPair p) (cPair q) = decide (p = q) := by
  obtain ⟨a, b⟩ := p
  obtain ⟨c, d⟩ := q
  have e : PyData.eqv (cPair (a, b)) (cPair (c, d)) = ((a == c) && ((b == d) && true)) := by simp only [cPair, PyData.eqv, PyData.eqvAll]
  rw [e, Bool.and_true]
  by_cases h1 : a = c
  · by_cases h2 : b = d
    · subst h1
      subst h2
      simp
    · simp [h2]
  · simp [h1]
theorem any_pair (ps : List (Int × Int)) (q : Int × Int) : ((ps.map cPair).any fun z => PyData.eqv z (cPair q)) = decide (q ∈ ps) := by
  rw [List.any_map]
  induction ps with
  | nil => simp
  | cons a l ih =>
    rw [List.any_cons, ih]
    show (PyData.eqv (cPair a) (cPair q) || _) = _
    rw [eqv_pair]
    by_cases h : a = q
    · subst h
      simp
    · have h' : ¬ q = a := fun e => h e.symm
      simp [h, h']
/-! ### is_within -/
abbrev sIsWithin : Stmt := top 22
theorem sc_isWithin : FnScope ["one", "other", "item"] ["one", "other"] (defScope sIsWithin) := ⟨rfl, rfl, rfl, by decide +kernel, rfl, by decide +kernel, by decide +kernel⟩
def withinB (a b : Lot) : Bool := a.all fun i => decide (i ∈ b)
def spIsWithin : Sp := fun vs H Q _ => ∃ (v u : V) (a b : Lot), vs = [v, u] ∧ Is H v (cLot a) ∧ Is H u (cLot b) ∧ a.length < 1000 ∧ ∀ H', Same H H' → Q (.bl (withinB a b)) H'
section
variable {P : Program} {w : World} {K : PySem.W.Frag} {mg : Str → Option Value} {base : Heap}
theorem ok_isWithin (F : Free mg) (D : Dn K mg "is_within" sIsWithin) : C8.Cal P w K mg base 1 "is_within" spIsWithin [] := by
  refine cal_of D sc_isWithin (fun _ _ _ _ _ _ us hl => match us, hl with | [_, _], _ => rfl) (fun vs H Q E h => ?_) (fun f cdv A outer s H vs Q E hr h => ?_)
  · obtain ⟨v, u, a, b, rfl, _⟩ := h
    rfl
  · obtain ⟨v, u, a, b, rfl, hv, hu, hz, k⟩ := h
    refine ⟨_, pss_one (ps_ret (pe_callB (cr_all rfl) (by rfl) F.all boot_all (pa_cons (pe_lc (own := [("item", 2)]) (g := gName 2) (tt := tYes) (te := tOp rInI (tVar 2) (tVar 1)) rfl sc_isWithin.nd
        (pi_tup (pv 0)) (blkOk_by (N := ["one", "other", "item"]) (sc := defScope sIsWithin) (own := [("item", 2)]) (by decide +kernel))
        (fun _ _ _ _ _ => by exact (pg_name (i := 2) sc_isWithin.nd rfl (.inl rfl)))
        (fun _ _ _ _ _ => pts_nil)
        (fun _ _ _ _ _ => by exact (pe_cmpR (op_inI hr) (pv 2) (pv 1) (by rfl)))) pa_nil))), ?_⟩
    obtain ⟨p, rfl, hp⟩ := hv.lot
    refine ⟨_, rfl, p, rfl, ⟨_, .of hp⟩, fun D nD => lc_tup (K := K) (a := p) (xs := a.map V.int) (fun i H' => Same H H' ∧ H' D = some (.lst (((a.take i).map fun e => decide (e ∈ b)).map V.bl))) ⟨Same.new nD, upd_same⟩ (fun i H' _ p => .of (p.1 _ _ hp)) (fun i x H' hx p => ?_) (fun H' p => ?_)⟩
    · obtain ⟨s1, hD⟩ := p
      rw [List.getElem?_map] at hx
      obtain ⟨z, hz1, rfl⟩ := Option.map_eq_some_iff.mp hx
      refine ⟨rfl, yes_at ?_⟩
      refine ⟨_, rfl, u, rfl, z, b, rfl, hu.same s1, _, hD, ?_, s1.set nD, ?_⟩
      · rw [List.length_map, List.length_map, List.length_take]
        exact lt1000 (by omega)
      · rw [upd_same, take_more hz1, List.map_append, List.map_append]
        rfl
    · obtain ⟨s1, hD⟩ := p
      rw [List.length_map, List.take_length] at hD
      refine ⟨D, _, rfl, .of hD, ?_⟩
      have e : withinB a b = (List.map (fun e => decide (e ∈ b)) a).all id := by
        rw [List.all_map]
        rfl
      rw [← e]
      exact k H' s1
end
end HM
namespace HM
open PySem PySem.Spec PyProof.Rows L2
/-! ### what lots and modes are -/
structure LotOk (n : Int) (l : Lot) : Prop where
  up : l.Pairwise (· < ·)
  lo : ∀ i ∈ l, 0 ≤ i
  hi : ∀ i ∈ l, i < n
structure ModeOk (n : Int) (m : Mode) : Prop where
  own : LotOk n m.1
  means : LotOk n m.2
  sub : ∀ i ∈ m.1, i ∈ m.2
theorem nodup_bound : ∀ (n : Nat) (l : List Int), l.Nodup → (∀ i ∈ l, 0 ≤ i) → (∀ i ∈ l, i < (n : Int)) → l.length ≤ n
  | 0, [], _, _, _ => Nat.le_refl _
  | 0, a :: l, _, h1, h2 => by
    have p := h1 a List.mem_cons_self
    have q := h2 a List.mem_cons_self
    omega
  | n + 1, l, hn, h1, h2 => by
    have ih := nodup_bound n (l.erase (n : Int)) (hn.erase _) (fun i hi => h1 i (List.mem_of_mem_erase hi)) (fun i hi => by
      have p := h2 i (List.mem_of_mem_erase hi)
      have q : i ≠ (n : Int) := fun e => by
        subst e
        exact absurd hi (List.Nodup.not_mem_erase hn)
      have p' : i < ((n + 1 : Nat) : Int) := p
      omega)
    have e := List.length_erase (a := (n : Int)) (l := l)
    split at e <;> omega
theorem LotOk.nodup {n : Int} {l : Lot} (h : LotOk n l) : l.Nodup := h.up.imp fun h => by omega
theorem LotOk.len {l : Lot} {n : Int} (h : LotOk n l) : l.length ≤ n.toNat := nodup_bound n.toNat l h.nodup h.lo fun i hi => by
  have := h.lo i hi
  have := h.hi i hi
  omega
mutual
def small : PyData → Bool
  | .tuple ds => decide (ds.length < 1000) && smallAll ds
  | .list ds => decide (ds.length < 1000) && smallAll ds
  | _ => true
def smallAll : List PyData → Bool
  | [] => true
  | d :: ds => small d && smallAll ds
end
theorem small_tup {ds : List PyData} (h : small (.tuple ds) = true) : ds.length < 1000 ∧ smallAll ds = true := by
  have q : (decide (ds.length < 1000) && smallAll ds) = true := by simpa [small] using h
  rw [Bool.and_eq_true, decide_eq_true_eq] at q
  exact q
theorem small_size {d : PyData} (h : small d = true) : sizeB d = true := by
  cases d with
  | tuple ds => exact decide_eq_true (small_tup h).1
  | _ => rfl
/-! ### is_lot tells LotOk -/
def ltI (x y : PyData) : Bool := match x, y with
  | .int i, .int j => decide (i < j)
  | _, _ => false
theorem ris_ints : ∀ l : List Int, ris ltI (l.map .int) = true ↔ l.Pairwise (· < ·)
  | [] => by simp [ris]
  | [a] => by simp [ris]
  | a :: b :: l => by
    have ih := ris_ints (b :: l)
    have e : ris ltI ((a :: b :: l).map .int) = (decide (a < b) && ris ltI ((b :: l).map .int)) := by
      unfold ris
      simp [ltI]
    rw [e, Bool.and_eq_true, ih, decide_eq_true_eq]
    constructor
    · rintro ⟨h1, h2⟩
      refine List.pairwise_cons.mpr ⟨fun x hx => ?_, h2⟩
      rcases List.mem_cons.mp hx with r | r
      · rw [r]; exact h1
      · exact Int.lt_trans h1 ((List.pairwise_cons.mp h2).1 x r)
    · intro h
      obtain ⟨h1, h2⟩ := List.pairwise_cons.mp h
      exact ⟨h1 b List.mem_cons_self, h2⟩
theorem numsB_ints (n : Int) (l : List Int) : numsB n (.tuple (l.map .int)) = true ↔ (∀ i ∈ l, 0 ≤ i) ∧ ∀ i ∈ l, i < n := by
  show (l.map PyData.int).all (fun e => isIntB e 0 (n - 1)) = true ↔ _
  rw [List.all_eq_true]
  constructor
  · intro h
    have key : ∀ i ∈ l, 0 ≤ i ∧ i ≤ n - 1 := fun i hi => by
      have q : (decide (0 ≤ i) && decide (i ≤ n - 1)) = true := h (.int i) (List.mem_map.mpr ⟨i, hi, rfl⟩)
      rw [Bool.and_eq_true, decide_eq_true_eq, decide_eq_true_eq] at q
      exact q
    exact ⟨fun i hi => (key i hi).1, fun i hi => by have := (key i hi).2; omega⟩
  · rintro ⟨h1, h2⟩ x hx
    obtain ⟨i, hi, rfl⟩ := List.mem_map.mp hx
    show (decide (0 ≤ i) && decide (i ≤ n - 1)) = true
    rw [Bool.and_eq_true, decide_eq_true_eq, decide_eq_true_eq]
    exact ⟨h1 i hi, by have := h2 i hi; omega⟩
theorem all_int : ∀ {ds : List PyData}, (∀ x ∈ ds, ∃ i : Int, x = .int i) → ∃ l : List Int, ds = l.map .int
  | [], _ => ⟨[], rfl⟩
  | d :: ds, h => by
    obtain ⟨i, rfl⟩ := h d List.mem_cons_self
    obtain ⟨l, rfl⟩ := all_int (ds := ds) fun x hx => h x (List.mem_cons_of_mem _ hx)
    exact ⟨i :: l, rfl⟩
theorem lotB_eq (n : Int) (l : Lot) : lotB n (cLot l) = true ↔ LotOk n l := by
  have e : lotB n (cLot l) = (numsB n (.tuple (l.map .int)) && ris ltI (l.map .int)) := rfl
  rw [e, Bool.and_eq_true, numsB_ints, ris_ints]
  exact ⟨fun h => ⟨h.2, h.1.1, h.1.2⟩, fun h => ⟨⟨h.lo, h.hi⟩, h.up⟩⟩
theorem lotB_lot {n : Int} {d : PyData} (h : lotB n d = true) : ∃ l, d = cLot l ∧ LotOk n l := by
  have hn : numsB n d = true := (Bool.and_eq_true_iff.mp h).1
  cases d with
  | tuple ds =>
    obtain ⟨l, rfl⟩ := all_int (ds := ds) fun x hx => by
      obtain ⟨i, e, _⟩ := nums_int hn hx
      exact ⟨i, e⟩
    exact ⟨l, rfl, (lotB_eq n l).mp h⟩
  | _ => cases hn
/-! ### is_mode -/
def lotOf : PyData → Lot
  | .tuple ds => ds.map fun | .int i => i | _ => 0
  | _ => []
theorem lotOf_lot (l : Lot) : lotOf (cLot l) = l := by
  show (l.map PyData.int).map _ = l
  rw [List.map_map]
  exact List.map_id l
def modeB (n : Int) (d : PyData) : Bool := match d with
  | .tuple [a, b] => lotB n a && (lotB n b && withinB (lotOf a) (lotOf b))
  | _ => false
theorem modeB_eq (n : Int) (m : Mode) : modeB n (cMode m) = true ↔ ModeOk n m := by
  have e : modeB n (cMode m) = (lotB n (cLot m.1) && (lotB n (cLot m.2) && withinB (lotOf (cLot m.1)) (lotOf (cLot m.2)))) := rfl
  rw [e, Bool.and_eq_true, Bool.and_eq_true, lotB_eq, lotB_eq, lotOf_lot, lotOf_lot]
  unfold withinB
  rw [List.all_eq_true]
  exact ⟨fun h => ⟨h.1, h.2.1, fun i hi => of_decide_eq_true (h.2.2 i hi)⟩, fun h => ⟨h.own, h.means, fun i hi => decide_eq_true (h.sub i hi)⟩⟩
theorem modeB_mode {n : Int} {d : PyData} (h : modeB n d = true) : ∃ m, d = cMode m ∧ ModeOk n m := by
  unfold modeB at h
  split at h
  · rename_i a b
    rw [Bool.and_eq_true, Bool.and_eq_true] at h
    obtain ⟨la, rfl, _⟩ := lotB_lot h.1
    obtain ⟨lb, rfl, _⟩ := lotB_lot h.2.1
    refine ⟨(la, lb), rfl, (modeB_eq n (la, lb)).mp ?_⟩
    show (lotB n (cLot la) && (lotB n (cLot lb) && withinB (lotOf (cLot la)) (lotOf (cLot lb)))) = true
    rw [Bool.and_eq_true, Bool.and_eq_true]
    exact h
  · cases h
abbrev sIsMode : Stmt := top 28
theorem sc_isMode : FnScope ["rules", "value"] ["rules", "value"] (defScope sIsMode) := ⟨rfl, rfl, rfl, by decide +kernel, rfl, by decide +kernel, by decide +kernel⟩
def spIsMode : Sp := fun vs H Q _ => ∃ (u v : V) (r : Rules) (d : PyData), vs = [u, v] ∧ Is H u (cRules r) ∧ Is H v d ∧ small d = true ∧ r.1 ≤ 6 ∧ ∀ H', Same H H' → Q (.bl (modeB r.1 d)) H'
section
variable {P : Program} {w : World} {K : PySem.W.Frag} {mg : Str → Option Value} {base : Heap}
theorem ok_isMode (F : Free mg) (D : Dn K mg "is_mode" sIsMode) (cL : C8.Cal P w K mg base 3 "is_lot" spIsLot []) (cW : C8.Cal P w K mg base 1 "is_within" spIsWithin []) : C8.Cal P w K mg base 4 "is_mode" spIsMode [] := by
  refine cal_of D sc_isMode (fun _ _ _ _ _ _ us hl => match us, hl with | [_, _], _ => rfl) (fun vs H Q E h => ?_) (fun f cdv A outer s H vs Q E hr h => ?_)
  · obtain ⟨u, v, r, d, rfl, _⟩ := h
    rfl
  · obtain ⟨u, v, r, d, rfl, hu, hv, hz, h6, k⟩ := h
    refine ⟨_, pss_cons (ps_if (PW.pt (pw_or (pt_not (pt_val (pe_callB (call_isT isP_tuple) (by rfl) F.isinstance boot_isi (pa_cons (pv 1) (pa_cons (pe_tTuple F.tuple) pa_nil)))))
        (pw_or1 (pt_cmpR op_ne (pe_callB callLen (by rfl) F.len PySem.boot_len (pa_cons (pv 1) pa_nil)) pe_int (nomark _))))) (pss_one (ps_ret pe_bl)) pss_nil)
      (pss_one (ps_ret (pe_and (C8.pe_c cL hr (by decide) (by rfl) (pa_cons (pe_ix ixT (pv 0) pe_int (fun _ _ => rfl)) (pa_cons (pe_ix ixT (pv 1) pe_int (fun _ _ => rfl)) pa_nil)))
        (pe_and (C8.pe_c cL hr (by decide) (by rfl) (pa_cons (pe_ix ixT (pv 0) pe_int (fun _ _ => rfl)) (pa_cons (pe_ix ixT (pv 1) pe_int (fun _ _ => rfl)) pa_nil)))
          (pe_one (C8.pe_c cW hr (by decide) (by rfl) (pa_cons (pe_ix ixT (pv 1) pe_int (fun _ _ => rfl)) (pa_cons (pe_ix ixT (pv 1) pe_int (fun _ _ => rfl)) pa_nil)))))))), ?_⟩
    refine ⟨_, rfl, _, d, rfl, hv, _, rfl, ?_⟩
    obtain ⟨ra, rp, rfl, hra, hrp⟩ := hu.rules
    by_cases h1 : isT d = true
    · rw [h1]
      cases d with
      | tuple ds =>
        obtain ⟨a, xs, rfl, ha, ixs⟩ := hv.tup_inv
        obtain ⟨z1, z2⟩ := small_tup hz
        refine iteF ?_
        refine ⟨_, rfl, a, xs, rfl, .inl ha, rfl, _, rfl, ?_⟩
        have hl := ixs.length
        have eV : decide (V.int ((xs.length : Nat) : Int) = V.int 2) = decide (ds.length = 2) := by
          rw [hl]
          by_cases c : ds.length = 2
          · rw [c]
            simp
          · have c' : ¬ V.int ((ds.length : Nat) : Int) = V.int 2 := fun e => c (by injection e with e; omega)
            rw [decide_eq_false c', decide_eq_false c]
        rw [eV]
        by_cases c : ds.length = 2
        · rw [decide_eq_true c]
          refine iteF ?_
          match ds, c with
          | [d1, d2], _ =>
            cases ixs with
            | cons i1 ixs =>
              cases ixs with
              | cons i2 ixs =>
                cases ixs
                rename_i x1 x2
                have z3 : (small d1 && (small d2 && true)) = true := by simpa [smallAll] using z2
                rw [Bool.and_true, Bool.and_eq_true] at z3
                refine ⟨_, rfl, ra, _, 0, _, rfl, rfl, hra, atI_nat (j := 0) rfl, _, rfl, a, _, 0, _, rfl, rfl, ha, atI_nat (j := 0) rfl, x1, d1, r.1, rfl, i1, small_size z3.1, fun H1 s1 => ⟨_, rfl, ?_⟩⟩
                by_cases c1 : lotB r.1 d1 = true
                · rw [c1]
                  refine iteT ?_
                  refine ⟨_, rfl, ra, _, 0, _, rfl, rfl, s1 _ _ hra, atI_nat (j := 0) rfl, _, rfl, a, _, 1, _, rfl, rfl, s1 _ _ ha, atI_nat (j := 1) rfl, x2, d2, r.1, rfl, i2.same s1, small_size z3.2, fun H2 s2 => ⟨_, rfl, ?_⟩⟩
                  have s12 := s1.trans s2
                  by_cases c2 : lotB r.1 d2 = true
                  · rw [c2]
                    refine iteT ?_
                    obtain ⟨l1, rfl, o1⟩ := lotB_lot c1
                    obtain ⟨l2, rfl, o2⟩ := lotB_lot c2
                    refine ⟨_, rfl, a, _, 0, _, rfl, rfl, s12 _ _ ha, atI_nat (j := 0) rfl, _, rfl, a, _, 1, _, rfl, rfl, s12 _ _ ha, atI_nat (j := 1) rfl, x1, x2, l1, l2, rfl, i1.same s12, i2.same s12, ?_, fun H3 s3 => ?_⟩
                    · have := o1.len
                      omega
                    · have e := k H3 (s12.trans s3)
                      have em : modeB r.1 (.tuple [cLot l1, cLot l2]) = withinB l1 l2 := by
                        show (lotB r.1 (cLot l1) && (lotB r.1 (cLot l2) && withinB (lotOf (cLot l1)) (lotOf (cLot l2)))) = _
                        rw [c1, c2, lotOf_lot, lotOf_lot] <;> rfl
                      rw [em] at e
                      exact e
                  · rw [Bool.not_eq_true] at c2
                    rw [c2]
                    have e := k H2 s12
                    have em : modeB r.1 (.tuple [d1, d2]) = false := by
                      show (lotB r.1 d1 && (lotB r.1 d2 && withinB (lotOf d1) (lotOf d2))) = false
                      rw [c1, c2] <;> rfl
                    rw [em] at e
                    exact iteF e
                · rw [Bool.not_eq_true] at c1
                  rw [c1]
                  have e := k H1 s1
                  have em : modeB r.1 (.tuple [d1, d2]) = false := by
                    show (lotB r.1 d1 && (lotB r.1 d2 && withinB (lotOf d1) (lotOf d2))) = false
                    rw [c1] <;> rfl
                  rw [em] at e
                  exact iteF e
        · rw [decide_eq_false c]
          refine iteT ?_
          have e := k H (Same.refl _)
          have em : modeB r.1 (.tuple ds) = false := by
            unfold modeB
            split
            · rename_i q
              injection q with q
              rw [q] at c
              exact absurd rfl c
            · rfl
          rw [em] at e
          exact e
      | _ => cases h1
    · rw [Bool.not_eq_true] at h1
      rw [h1]
      refine iteT ?_
      have e := k H (Same.refl _)
      have em : modeB r.1 d = false := by
        cases d with
        | tuple ds => cases h1
        | _ => rfl
      rw [em] at e
      exact iteT e
end
end HM
namespace HM
open PySem PySem.Spec PyProof.Rows L2
/-! ### are_beside -/
def lo2 (i j : Int) : Int := if j < i then j else i
def hi2 (i j : Int) : Int := if j > i then j else i
def besB (r : Rules) (i j : Int) : Bool := decide ((lo2 i j, hi2 i j) ∈ r.2)
abbrev sAreBeside : Stmt := top 25
theorem sc_areBeside : FnScope ["rules", "one", "other"] ["rules", "one", "other"] (defScope sAreBeside) := ⟨rfl, rfl, rfl, by decide +kernel, rfl, by decide +kernel, by decide +kernel⟩
def spAreBeside : Sp := fun vs H Q _ => ∃ (u : V) (r : Rules) (i j : Int), vs = [u, .int i, .int j] ∧ Is H u (cRules r) ∧ ∀ H', Same H H' → Q (.bl (besB r i j)) H'
def rangeZ (n : Int) : List Int := (List.range n.toNat).map fun (k : Nat) => (k : Int)
def againstL (r : Rules) (l : Lot) : Lot := (rangeZ r.1).filter fun a => !(l.all fun o => besB r a o)
abbrev sAgainst : Stmt := top 26
theorem sc_against : FnScope ["rules", "lot", "act", "own"] ["rules", "lot"] (defScope sAgainst) := ⟨rfl, rfl, rfl, by decide +kernel, rfl, by decide +kernel, by decide +kernel⟩
def spAgainst : Sp := fun vs H Q _ => ∃ (u v : V) (r : Rules) (l : Lot), vs = [u, v] ∧ Is H u (cRules r) ∧ Is H v (cLot l) ∧ l.length < 1000 ∧ 0 ≤ r.1 ∧ r.1 ≤ 6 ∧ ∀ x H', Same H H' → Is H' x (cLot (againstL r l)) → Q x H'
theorem mem_rangeZ {n i : Int} : i ∈ rangeZ n ↔ 0 ≤ i ∧ i < n := by
  unfold rangeZ
  rw [List.mem_map]
  constructor
  · rintro ⟨k, hk, rfl⟩
    rw [List.mem_range] at hk
    omega
  · rintro ⟨h1, h2⟩
    exact ⟨i.toNat, by rw [List.mem_range]; omega, by omega⟩
theorem rangeZ_up (n : Int) : (rangeZ n).Pairwise (· < ·) := by
  unfold rangeZ
  rw [List.pairwise_map]
  exact List.Pairwise.imp (fun h => by omega) List.pairwise_lt_range
theorem filter_lot {n : Int} (p : Int → Bool) : LotOk n ((rangeZ n).filter p) :=
  ⟨(rangeZ_up n).filter _, fun i hi => (mem_rangeZ.mp (List.mem_filter.mp hi).1).1, fun i hi => (mem_rangeZ.mp (List.mem_filter.mp hi).1).2⟩
section
variable {P : Program} {w : World} {K : PySem.W.Frag} {mg : Str → Option Value} {base : Heap}
theorem boot_min : bootBuiltins "min" = some (.builtin "min") := by decide +kernel
theorem boot_max : bootBuiltins "max" = some (.builtin "max") := by decide +kernel
theorem boot_tuple : bootBuiltins "tuple" = some (.type "tuple") := by decide +kernel
theorem ok_areBeside (F : Free mg) (D : Dn K mg "are_beside" sAreBeside) : C8.Cal P w K mg base 1 "are_beside" spAreBeside [] := by
  refine cal_of D sc_areBeside (fun _ _ _ _ _ _ us hl => match us, hl with | [_, _, _], _ => rfl) (fun vs H Q E h => ?_) (fun f cdv A outer s H vs Q E hr h => ?_)
  · obtain ⟨u, r, i, j, rfl, _⟩ := h
    rfl
  · obtain ⟨u, r, i, j, rfl, hu, k⟩ := h
    refine ⟨_, pss_one (ps_ret (pe_cmpR (op_inS hr) (pe_tup (pa_cons (pe_callB (call_min2 rfl) (by rfl) F.min boot_min (pa_cons (pv 1) (pa_cons (pv 2) pa_nil))) (pa_cons (pe_callB (call_max2 rfl) (by rfl) F.max boot_max (pa_cons (pv 1) (pa_cons (pv 2) pa_nil))) pa_nil)))
      (pe_ix ixT (pv 0) pe_int (fun _ _ => rfl)) (by rfl))), ?_⟩
    obtain ⟨ra, rp, rfl, hra, hrp⟩ := hu.rules
    refine ⟨_, rfl, _, rfl, i, j, rfl, _, rfl, _, rfl, i, j, rfl, (by show 2 ≤ sizeLine; decide), fun p hp => ?_⟩
    have s1 := Same.new (o := HO.tup [.int (lo2 i j), .int (hi2 i j)]) hp
    refine ⟨_, rfl, ra, _, 1, rp, rfl, rfl, s1 _ _ hra, atI_nat (j := 1) rfl, ?_⟩
    refine ⟨cPair (lo2 i j, hi2 i j), r.2.map cPair, .tup upd_same (.cons (.int _) (.cons (.int _) .nil)), .inl (hrp.same s1), shp_pair _, shp_pairs _, ?_⟩
    rw [any_pair]
    exact k _ s1
/-! ### against -/
theorem ok_against (F : Free mg) (D : Dn K mg "against" sAgainst) (cB : C8.Cal P w K mg base 1 "are_beside" spAreBeside []) : C8.Cal P w K mg base 2 "against" spAgainst [] := by
  refine cal_of D sc_against (fun _ _ _ _ _ _ us hl => match us, hl with | [_, _], _ => rfl) (fun vs H Q E h => ?_) (fun f cdv A outer s H vs Q E hr h => ?_)
  · obtain ⟨u, v, r, l, rfl, _⟩ := h
    rfl
  · obtain ⟨u, v, r, l, rfl, hu, hv, hz, h0, h6, k⟩ := h
    refine ⟨_, pss_one (ps_ret (pe_callTy call_tuple_of (by rfl) F.tuple boot_tuple (pa_cons (pe_lc (own := [("act", 2)]) (g := gName 2)
        (tt := tNot (tB (tCB (rAll K) (tCons (tLc (iTup K (tVar 1)) (gName 3) tYes (tCall spAreBeside [] C8.E0 (tCons (tVar 0) (tCons (tVar 2) (tCons (tVar 3) tNil)))) [3]) tNil)))) (te := tVar 2) rfl sc_against.nd
        (pi_range1 (by rfl) F.range (pa_cons (pe_ix ixT (pv 0) pe_int (fun _ _ => rfl)) pa_nil)) (blkOk_by (N := ["rules", "lot", "act", "own"]) (sc := defScope sAgainst) (own := [("act", 2)]) (by decide +kernel))
        (fun _ _ _ _ _ => by exact (pg_name (i := 2) sc_against.nd rfl (.inr rfl)))
        (fun _ _ _ _ _ => by exact (pts_one (by exact (pt_not (by exact (pt_val (by exact (pe_callB (cr_all rfl) (by rfl) F.all boot_all (by exact (pa_cons (by exact (pe_lc (own := [("own", 3)]) (g := gName 3) (tt := tYes) (te := tCall spAreBeside [] C8.E0 (tCons (tVar 0) (tCons (tVar 2) (tCons (tVar 3) tNil)))) rfl sc_against.nd
            (by exact (pi_tup (by exact (pv 1)))) (by exact (blkOk_by (N := ["rules", "lot", "act", "own"]) (sc := relS _ (defScope sAgainst)) (own := [("own", 3)]) (by decide +kernel)))
            (fun _ _ _ _ _ => by exact (pg_name (i := 3) sc_against.nd rfl (.inl rfl)))
            (fun _ _ _ _ _ => pts_nil)
            (fun _ _ _ _ _ => by exact (C8.pe_c cB hr (by decide) (by rfl) (pa_cons (pv 0) (pa_cons (pv 2) (pa_cons (pv 3) pa_nil))))))) pa_nil))))))))))
        (fun _ _ _ _ _ => by exact (pv 2))) pa_nil))), ?_⟩
    obtain ⟨ra, rp, rfl, hra, hrp⟩ := hu.rules
    obtain ⟨p, rfl, hp⟩ := hv.lot
    refine ⟨_, rfl, ra, _, 0, _, rfl, rfl, hra, atI_nat (j := 0) rfl, r.1, rfl, by omega, by omega, fun D nD => lc_range (lo := 0) (n := r.1.toNat) (fun i H' => Same H H' ∧ H' D = some (.lst ((((List.range i).map fun (k : Nat) => (k : Int)).filter fun a => !(l.all fun o => besB r a o)).map V.int))) ⟨Same.new nD, upd_same⟩ (fun i H' hi p => ?_) (fun H' p => ?_)⟩
    · obtain ⟨s1, hD⟩ := p
      refine ⟨rfl, ?_⟩
      refine ⟨_, rfl, p, rfl, ⟨_, .of (s1 _ _ hp)⟩, fun D2 nD2 => lc_tup (K := K) (a := p) (xs := l.map V.int) (fun j H2 => Same H' H2 ∧ H2 D2 = some (.lst (((l.take j).map fun o => besB r (0 + (i : Int)) o).map V.bl))) ⟨Same.new nD2, upd_same⟩ (fun j H2 _ q => .of (q.1 _ _ (s1 _ _ hp))) (fun j x H2 hx q => ?_) (fun H2 q => ?_)⟩
      · obtain ⟨s2, hD2⟩ := q
        rw [List.getElem?_map] at hx
        obtain ⟨z, hz1, rfl⟩ := Option.map_eq_some_iff.mp hx
        refine ⟨rfl, yes_at ?_⟩
        refine ⟨_, rfl, _, rfl, _, rfl, .ref ra, r, 0 + (i : Int), z, rfl, hu.same (s1.trans s2), fun H3 s3 => ⟨_, s3 _ _ hD2, ?_, (s2.trans s3).set nD2, ?_⟩⟩
        · rw [List.length_map, List.length_map, List.length_take]
          exact lt1000 (by omega)
        · rw [upd_same, take_more hz1, List.map_append, List.map_append]
          rfl
      · obtain ⟨s2, hD2⟩ := q
        rw [List.length_map, List.take_length] at hD2
        refine ⟨D2, _, rfl, .of hD2, _, rfl, ?_⟩
        have e : (List.map (fun o => besB r (0 + (i : Int)) o) l).all id = l.all fun o => besB r ((i : Nat) : Int) o := by
          rw [List.all_map, Int.zero_add]
          rfl
        rw [e]
        have er : (List.range (i + 1)).map (fun (k : Nat) => (k : Int)) = (List.range i).map (fun (k : Nat) => (k : Int)) ++ [(i : Int)] := by
          rw [List.range_succ, List.map_append]
          rfl
        by_cases c : (l.all fun o => besB r ((i : Nat) : Int) o) = true
        · rw [c]
          refine iteF ⟨s1.trans s2, ?_⟩
          rw [s2 _ _ hD, er, List.filter_append, List.filter_cons_of_neg (by rw [c]; decide)]
          simp
        · rw [Bool.not_eq_true] at c
          rw [c]
          refine iteT ?_
          refine ⟨_, rfl, _, s2 _ _ hD, ?_, (s1.trans s2).set nD, ?_⟩
          · refine lt1000 ?_
            rw [List.length_map]
            refine Nat.lt_of_le_of_lt (List.length_filter_le _ _) ?_
            rw [List.length_map, List.length_range]
            omega
          · rw [upd_same, er, List.filter_append, List.filter_cons_of_pos (by rw [c]; rfl), Int.zero_add]
            simp
    · obtain ⟨s1, hD⟩ := p
      refine ⟨D, _, rfl, .inl ⟨.of hD, fun q hq => ?_⟩⟩
      exact k _ _ (s1.set (s1.free hq)) (is_lot_mk upd_same)
end
end HM
namespace HM
open PySem PySem.Spec PyProof.Rows L2
/-! ### bars, goes, joined -/
structure RuOk (r : Rules) : Prop where
  lo : 1 ≤ r.1
  hi : r.1 ≤ 6
def MLen (m : Mode) : Prop := m.1.length < 1000 ∧ m.2.length < 1000
theorem ModeOk.len {n : Int} {m : Mode} (h : ModeOk n m) (hn : n ≤ 6) : MLen m := ⟨by have := h.own.len; omega, by have := h.means.len; omega⟩
def barsB (r : Rules) (m1 m2 : Mode) : Bool := m2.2.any fun a => decide (a ∈ againstL r m1.1)
def goesB (r : Rules) (m1 m2 : Mode) : Bool := !barsB r m1 m2 && !barsB r m2 m1
abbrev sBars : Stmt := top 30
theorem sc_bars : FnScope ["rules", "one", "other", "found", "act"] ["rules", "one", "other"] (defScope sBars) := ⟨rfl, rfl, rfl, by decide +kernel, rfl, by decide +kernel, by decide +kernel⟩
def spBars : Sp := fun vs H Q _ => ∃ (u v w : V) (r : Rules) (m1 m2 : Mode), vs = [u, v, w] ∧ Is H u (cRules r) ∧ Is H v (cMode m1) ∧ Is H w (cMode m2) ∧ MLen m1 ∧ MLen m2 ∧ RuOk r ∧ ∀ H', Same H H' → Q (.bl (barsB r m1 m2)) H'
abbrev sGoes : Stmt := top 31
theorem sc_goes : FnScope ["rules", "one", "other"] ["rules", "one", "other"] (defScope sGoes) := ⟨rfl, rfl, rfl, by decide +kernel, rfl, by decide +kernel, by decide +kernel⟩
def spGoes : Sp := fun vs H Q _ => ∃ (u v w : V) (r : Rules) (m1 m2 : Mode), vs = [u, v, w] ∧ Is H u (cRules r) ∧ Is H v (cMode m1) ∧ Is H w (cMode m2) ∧ MLen m1 ∧ MLen m2 ∧ RuOk r ∧ ∀ H', Same H H' → Q (.bl (goesB r m1 m2)) H'
def In6 (l : Lot) : Prop := ∀ i ∈ l, 0 ≤ i ∧ i < 6
def bothL (a b : Lot) : Lot := (rangeZ 6).filter fun k => decide (k ∈ a) || decide (k ∈ b)
def spBoth : Sp := fun vs H Q _ => ∃ (u v : V) (a b : Lot), vs = [u, v] ∧ Is H u (cLot a) ∧ Is H v (cLot b) ∧ In6 a ∧ In6 b ∧ a.Nodup ∧ b.Nodup ∧ ∀ x H', Same H H' → Is H' x (cLot (bothL a b)) → Q x H'
def joinedM (m1 m2 : Mode) : Mode := (bothL m1.1 m2.1, bothL m1.2 m2.2)
def M6 (m : Mode) : Prop := In6 m.1 ∧ In6 m.2 ∧ m.1.Nodup ∧ m.2.Nodup
theorem LotOk.in6 {n : Int} {l : Lot} (h : LotOk n l) (hn : n ≤ 6) : In6 l := fun i hi => ⟨h.lo i hi, by have := h.hi i hi; omega⟩
theorem ModeOk.m6 {n : Int} {m : Mode} (h : ModeOk n m) (hn : n ≤ 6) : M6 m := ⟨h.own.in6 hn, h.means.in6 hn, h.own.nodup, h.means.nodup⟩
abbrev sJoined : Stmt := top 29
theorem sc_joined : FnScope ["one", "other"] ["one", "other"] (defScope sJoined) := ⟨rfl, rfl, rfl, by decide +kernel, rfl, by decide +kernel, by decide +kernel⟩
def spJoined : Sp := fun vs H Q _ => ∃ (u v : V) (m1 m2 : Mode), vs = [u, v] ∧ Is H u (cMode m1) ∧ Is H v (cMode m2) ∧ M6 m1 ∧ M6 m2 ∧ ∀ x H', Same H H' → Is H' x (cMode (joinedM m1 m2)) → Q x H'
section
variable {P : Program} {w : World} {K : PySem.W.Frag} {mg : Str → Option Value} {base : Heap}
theorem ok_bars (F : Free mg) (D : Dn K mg "bars" sBars) (cA : C8.Cal P w K mg base 2 "against" spAgainst []) : C8.Cal P w K mg base 3 "bars" spBars [] := by
  refine cal_of D sc_bars (fun _ _ _ _ _ _ us hl => match us, hl with | [_, _, _], _ => rfl) (fun vs H Q E h => ?_) (fun f cdv A outer s H vs Q E hr h => ?_)
  · obtain ⟨u, v, w, r, m1, m2, rfl, _⟩ := h
    rfl
  · obtain ⟨u, v, w, r, m1, m2, rfl, hu, hv, hw, l1, l2, hR, k⟩ := h
    refine ⟨_, pss_cons (ps_set (i := 3) sc_bars.nd rfl (Or.inr rfl) (C8.pe_c cA hr (by decide) (by rfl) (pa_cons (pv 0) (pa_cons (pe_ix ixT (pv 1) pe_int (fun _ _ => rfl)) pa_nil))))
      (pss_one (ps_ret (pe_callB (cr_any rfl) (by rfl) F.any boot_any (pa_cons (pe_lc (own := [("act", 4)]) (g := gName 4) (tt := tYes) (te := tOp rInI (tVar 4) (tVar 3)) rfl sc_bars.nd
        (pi_tup (pe_ix ixT (pv 2) pe_int (fun _ _ => rfl))) (blkOk_by (N := ["rules", "one", "other", "found", "act"]) (sc := defScope sBars) (own := [("act", 4)]) (by decide +kernel))
        (fun _ _ _ _ _ => by exact (pg_name (i := 4) sc_bars.nd rfl (.inl rfl)))
        (fun _ _ _ _ _ => pts_nil)
        (fun _ _ _ _ _ => by exact (pe_cmpR (op_inI hr) (pv 4) (pv 3) (by rfl)))) pa_nil)))), ?_⟩
    obtain ⟨a1, b1, c1, rfl, h1, hb1, hc1⟩ := hv.mode
    obtain ⟨a2, b2, c2, rfl, h2, hb2, hc2⟩ := hw.mode
    refine ⟨u, rfl, _, rfl, a1, _, 0, .ref b1, rfl, rfl, h1, atI_nat (j := 0) rfl, u, .ref b1, r, m1.1, rfl, hu, is_lot_mk hb1, l1.1, by have := hR.lo; omega, hR.hi, fun x H1 s1 hx => ?_⟩
    refine ⟨_, rfl, a2, _, 1, .ref c2, rfl, rfl, s1 _ _ h2, atI_nat (j := 1) rfl, c2, rfl, ⟨_, .of (s1 _ _ hc2)⟩, fun D nD => lc_tup (K := K) (a := c2) (xs := m2.2.map V.int) (fun i H' => Same H1 H' ∧ H' D = some (.lst (((m2.2.take i).map fun e => decide (e ∈ againstL r m1.1)).map V.bl))) ⟨Same.new nD, upd_same⟩ (fun i H' _ p => .of (p.1 _ _ (s1 _ _ hc2))) (fun i y H' hy p => ?_) (fun H' p => ?_)⟩
    · obtain ⟨s2, hD⟩ := p
      rw [List.getElem?_map] at hy
      obtain ⟨z, hz1, rfl⟩ := Option.map_eq_some_iff.mp hy
      refine ⟨rfl, yes_at ?_⟩
      refine ⟨_, rfl, x, rfl, z, _, rfl, hx.same s2, _, hD, ?_, s2.set nD, ?_⟩
      · rw [List.length_map, List.length_map, List.length_take]
        exact lt1000 (by have := l2.2; omega)
      · rw [upd_same, take_more hz1, List.map_append, List.map_append]
        rfl
    · obtain ⟨s2, hD⟩ := p
      rw [List.length_map, List.take_length] at hD
      refine ⟨D, _, rfl, .of hD, ?_⟩
      have e : barsB r m1 m2 = (List.map (fun e => decide (e ∈ againstL r m1.1)) m2.2).any id := by
        rw [List.any_map]
        rfl
      rw [← e]
      exact k H' (s1.trans s2)
theorem ok_goes (D : Dn K mg "goes" sGoes) (cB : C8.Cal P w K mg base 3 "bars" spBars []) : C8.Cal P w K mg base 4 "goes" spGoes [] := by
  refine cal_of D sc_goes (fun _ _ _ _ _ _ us hl => match us, hl with | [_, _, _], _ => rfl) (fun vs H Q E h => ?_) (fun f cdv A outer s H vs Q E hr h => ?_)
  · obtain ⟨u, v, w, r, m1, m2, rfl, _⟩ := h
    rfl
  · obtain ⟨u, v, w, r, m1, m2, rfl, hu, hv, hw, l1, l2, hR, k⟩ := h
    refine ⟨_, pss_one (ps_ret (pe_and (pe_not (C8.pe_c cB hr (by decide) (by rfl) (pa_cons (pv 0) (pa_cons (pv 1) (pa_cons (pv 2) pa_nil))))) (pe_one (pe_not (C8.pe_c cB hr (by decide) (by rfl) (pa_cons (pv 0) (pa_cons (pv 2) (pa_cons (pv 1) pa_nil)))))))), ?_⟩
    refine ⟨u, rfl, v, rfl, w, rfl, u, v, w, r, m1, m2, rfl, hu, hv, hw, l1, l2, hR, fun H1 s1 => ⟨_, rfl, _, rfl, ?_⟩⟩
    cases c : barsB r m1 m2 with
    | false =>
      refine iteT ?_
      refine ⟨u, rfl, w, rfl, v, rfl, u, w, v, r, m2, m1, rfl, hu.same s1, hw.same s1, hv.same s1, l2, l1, hR, fun H2 s2 => ⟨_, rfl, ?_⟩⟩
      have e := k H2 (s1.trans s2)
      unfold goesB at e
      rw [c] at e
      exact e
    | true =>
      have e := k H1 s1
      unfold goesB at e
      rw [c] at e
      exact iteF e
theorem ok_joined (D : Dn K mg "joined" sJoined) (cB : C8.Cal P w K mg base 1 "both" spBoth []) : C8.Cal P w K mg base 2 "joined" spJoined [] := by
  refine cal_of D sc_joined (fun _ _ _ _ _ _ us hl => match us, hl with | [_, _], _ => rfl) (fun vs H Q E h => ?_) (fun f cdv A outer s H vs Q E hr h => ?_)
  · obtain ⟨u, v, m1, m2, rfl, _⟩ := h
    rfl
  · obtain ⟨u, v, m1, m2, rfl, hu, hv, o1, o2, k⟩ := h
    refine ⟨_, pss_one (ps_ret (pe_tup (pa_cons (C8.pe_c cB hr (by decide) (by rfl) (pa_cons (pe_ix ixT (pv 0) pe_int (fun _ _ => rfl)) (pa_cons (pe_ix ixT (pv 1) pe_int (fun _ _ => rfl)) pa_nil)))
      (pa_cons (C8.pe_c cB hr (by decide) (by rfl) (pa_cons (pe_ix ixT (pv 0) pe_int (fun _ _ => rfl)) (pa_cons (pe_ix ixT (pv 1) pe_int (fun _ _ => rfl)) pa_nil))) pa_nil)))), ?_⟩
    obtain ⟨a1, b1, c1, rfl, h1, hb1, hc1⟩ := hu.mode
    obtain ⟨a2, b2, c2, rfl, h2, hb2, hc2⟩ := hv.mode
    refine ⟨_, rfl, a1, _, 0, .ref b1, rfl, rfl, h1, atI_nat (j := 0) rfl, _, rfl, a2, _, 0, .ref b2, rfl, rfl, h2, atI_nat (j := 0) rfl, .ref b1, .ref b2, m1.1, m2.1, rfl, is_lot_mk hb1, is_lot_mk hb2, o1.1, o2.1, o1.2.2.1, o2.2.2.1, fun x H1 s1 hx => ?_⟩
    refine ⟨_, rfl, a1, _, 1, .ref c1, rfl, rfl, s1 _ _ h1, atI_nat (j := 1) rfl, _, rfl, a2, _, 1, .ref c2, rfl, rfl, s1 _ _ h2, atI_nat (j := 1) rfl, .ref c1, .ref c2, m1.2, m2.2, rfl, is_lot_mk (s1 _ _ hc1), is_lot_mk (s1 _ _ hc2), o1.2.1, o2.2.1, o1.2.2.2, o2.2.2.2, fun y H2 s2 hy => ?_⟩
    refine ⟨(by show 2 ≤ sizeLine; decide), fun p hp => ?_⟩
    have s3 := Same.new (o := HO.tup [x, y]) hp
    exact k _ _ ((s1.trans s2).trans s3) (.tup upd_same (.cons (hx.same (s2.trans s3)) (.cons (hy.same s3) .nil)))
end
end HM
namespace HM
open PySem PySem.Spec PyProof.Rows L2
/-! ### enumerate(tuple) -/
theorem meets_enumT {v : Value} {o : Obj} {G : Heap → Prop} (B : Begins v o G) :
    Meets (Builtin.«enumerate.__new__» ⟨[.type "enumerate", v], []⟩) (fun _ R s => G s.heap ∧
      R (.ok (.ret (.ref (s.heap.push o).objs.size))) { s with heap := (s.heap.push o).push { cls := .type "enumerate", data := .fields #[.none, .bool false, .ref s.heap.objs.size, rawInt 0, .none, .none] } }) :=
  .of_wp fun prog w A R s h => by
    obtain ⟨hp, g, d, tk, os⟩ := s
    obtain ⟨h1, h⟩ := h
    have hsub := sub_enumerate
    have go : ∀ {A' : Around} {E : Value → Shared → Prop} {Q : Value → Shared → Prop}, Q (.ref hp.objs.size) ⟨hp.push o, g, d, tk, os⟩ → wpAny (model prog w) A' (pyIter v) Q E ⟨hp, g, d, tk, os⟩ :=
      fun q => B.iter prog w _ _ ⟨hp, g, d, tk, os⟩ _ h1 q
    wp_walk using go
    refine wpAny_stack_any fun st => wpAny_pure ?_
    split
    · rename_i c _ _ _ _ _
      cases (c == Value.type "enumerate")
      · wp_walk using go
        exact ⟨_, rfl, h⟩
      · wp_walk using go
        exact ⟨_, rfl, h⟩
    · wp_walk using go
      exact ⟨_, rfl, h⟩
theorem call_enumT {prog : Program} {w : World} {A : Around} {E : Value → Shared → Prop} {s : Shared} {v : Value} {o : Obj} {G : Heap → Prop} {Q : Value → Shared → Prop} (B : Begins v o G) (h1 : G s.heap)
    (h : ∀ h', IsEnum h' (s.heap.objs.size + 1) s.heap.objs.size 0 .none → h'.get? s.heap.objs.size = some o → h'.objs.size = s.heap.objs.size + 2 →
      (∀ b o, s.heap.get? b = some o → h'.get? b = some o) → Q (.ref (s.heap.objs.size + 1)) { s with heap := h' }) :
    wpAny (model prog w) A (call (.type "enumerate") [v]) Q E s := by
  refine callType_new F.called_enumerate (by decide) (F.typeCall_enumerate_1 _) (F.newCall_enumerate_1 _) (fun obj => F.args_object_init_2 obj _) F.entry_enumerate_new (meets_enumT B) ⟨h1, ?_⟩
  have hz : (s.heap.push o).objs.size = s.heap.objs.size + 1 := Heap.size_push ..
  show _ ∧ _
  rw [hz]
  have he : IsEnum ((s.heap.push o).push { cls := .type "enumerate", data := .fields #[.none, .bool false, .ref s.heap.objs.size, rawInt 0, .none, .none] }) (s.heap.objs.size + 1) s.heap.objs.size 0 .none := by
    have q := Heap.get?_push_size (s.heap.push o) (o := { cls := .type "enumerate", data := .fields #[.none, .bool false, .ref s.heap.objs.size, rawInt 0, .none, .none] }) rfl
    rw [hz] at q
    exact q
  exact ⟨⟨_, he, rfl⟩, h _ he (Heap.get?_push_of_some _ (Heap.get?_push_size _ B.free)) (by rw [Heap.size_push, hz]) fun b ob x => Heap.get?_push_of_some _ (Heap.get?_push_of_some _ x)⟩
/-- the tuple at a with the places, in new pairs -/
def ItE (K : PySem.W.Frag) (a : Addr) : It :=
  ⟨fun i H => ∃ (xs : List V) (x : V), SqT K H a xs ∧ xs[i]? = some x, fun i H v H' => ∃ T x, v = .ref T ∧ H T = none ∧ H' = upd H T (.tup [.int (i : Nat), x]) ∧ ∀ xs, SqT K H a xs → xs[i]? = some x, fun i H => ∃ xs : List V, SqT K H a xs ∧ xs.length ≤ i⟩
theorem tup_ne_enum {h : Heap} {a e it : Addr} {i : Int} {old : Value} {xs : Array Value} (p : h.IsTuple a xs) (he : IsEnum h e it i old) : e ≠ a := by
  rintro rfl
  obtain ⟨o, ho, hc, _⟩ := p
  have q := ho.symm.trans he
  rw [Option.some.inj q] at hc
  exact absurd hc (by simp)
theorem turn_enumT {P : Program} {w : World} {K : PySem.W.Frag} {elts : List Expr} {kk : Nat} {tpos : Pos} (a e it : Addr) :
    Turn P w K (.Tuple elts kk tpos) (ItE K a) [e, it] e (fun i h => (∃ old, IsEnum h e it ((i : Nat) : Int) old) ∧ h.IsTupleIter it a i ∧ e ≠ it) where
  mem := by simp
  obj := fun i h st b hb => by
    obtain ⟨⟨old, he⟩, ⟨o, ho, hc, hd⟩, _⟩ := st
    have e' : b = e ∨ b = it := by simpa using hb
    rcases e' with z | z
    · rw [z]; exact ⟨_, he, fun v q => nomatch q⟩
    · rw [z]; exact ⟨o, ho, fun v q => by rw [hd] at q; cases q⟩
  keep := fun i h h' st k => let ⟨⟨old, he⟩, hi, hne⟩ := st; ⟨⟨old, k e (by simp) _ he⟩, hi.at fun o q => k it (by simp) o q, hne⟩
  item := by
    intro X hP hw hK hc i pins s σ H E I hf st hg
    subst hP hw hK
    obtain ⟨⟨old, he⟩, hit, hne⟩ := st
    obtain ⟨xs, x, hq, hx⟩ := hg
    obtain ⟨its, rv, p, hz⟩ := I.tuple hq
    obtain ⟨u, hu, ru⟩ := rv.get hx
    have p' : s.heap.IsTuple a its.toArray := p
    have hea := tup_ne_enum p' he
    have hel : e < s.heap.objs.size := Heap.lt_size he
    have hil : it < s.heap.objs.size := by obtain ⟨_, q, _⟩ := hit; exact Heap.lt_size q
    have hia : a ≠ it := by
      rintro rfl
      obtain ⟨o, ho, hc1, _⟩ := p'
      obtain ⟨o2, ho2, hc2, _⟩ := hit
      have q := ho.symm.trans ho2
      cases q
      rw [hc1] at hc2
      exact absurd hc2 (by simp)
    have hli : i < its.toArray.size := by
      have q := lt_get hu
      simpa using q
    refine wpAny_pyNext_enum_itemC (Draws.tuple (A := X.A.in1) (I.ok.hd hc) it a hia its.toArray) he ⟨hit, p'⟩ hli hne (by simp [hne, hea]) fun y h' tk hy ho hit' hT hsz hk => ?_
    refine ⟨_, rfl, wpAny_letOwnedTupleGo_enum (s := { s with heap := h', toks := tk + 1 }) ho fun h'' he' sb => ?_⟩
    have hyu : y = u := by
      have q : its.toArray[i]? = some u := by simpa using hu
      rw [q] at hy
      cases hy
      rfl
    subst hyu
    have hT2 : h''.get? s.heap.objs.size = some { cls := .type "tuple", data := .seq #[.int i tk, y] } := (sb.2 _ (Nat.ne_of_gt hel)).trans hT
    have new : ObjOk X.prog X.w (upd H s.heap.objs.size (.tup [.int (i : Nat), x])) h'' s.heap.objs.size (.tup [.int (i : Nat), x]) :=
      ⟨by show 2 ≤ sizeLine; decide, [.int i tk, y], .cons ⟨_, rfl⟩ (.cons ru .nil), ⟨_, hT2, rfl, _, rfl⟩⟩
    have I1 : Inv X pins σ (upd H s.heap.objs.size (.tup [.int (i : Nat), x])) { s with heap := h'', toks := tk + 1 } :=
      I.turnedNew (t' := tk + 1) (ch := [e, it]) (fun b ob hb q => (sb.2 b (fun z => hb (by simp [z]))).trans (hk b ob (fun z => hb (by simp [z])) (fun z => hb (by simp [z])) q)) hf (Nat.le_refl _) new
    refine ⟨.ref s.heap.objs.size, _, I1, rfl, ⟨_, x, rfl, I.hok.fresh (Nat.le_refl _), rfl, fun ys hy => by rw [I.tuple_inj hy hq]; exact hx⟩, ⟨⟨y, ?_⟩, hit'.1.at fun o q => (sb.2 it (Ne.symm hne)).trans q, hne⟩, fun b hb => ?_⟩
    · have e1 : ((i + 1 : Nat) : Int) = (i : Int) + 1 := by omega
      rw [e1]; exact he'
    · have hb' : b < s.heap.objs.size := by
        have e' : b = e ∨ b = it := by simpa using hb
        rcases e' with z | z
        · rw [z]; exact hel
        · rw [z]; exact hil
      rw [upd_ne (Nat.ne_of_lt hb')]
      exact (hf b hb).1
  done := by
    intro X hP hw hK hc i pins s σ H E I hf st hg
    subst hP hw hK
    obtain ⟨⟨old, he⟩, hit, hne⟩ := st
    obtain ⟨xs, hq, hx⟩ := hg
    obtain ⟨its, rv, p, hz⟩ := I.tuple hq
    have p' : s.heap.IsTuple a its.toArray := p
    obtain ⟨f0, f1, f2, f3, f4, f5⟩ := hf it (by simp)
    have hl := rv.length
    have hT : s.TypeIs (.ref e) "enumerate" := ⟨_, he, rfl⟩
    unfold pyNext
    refine wpAny_bind (wpAny_attempt (wpAny_callSpecial?_slot (name := Str.ofString "__next__") hT F.slot_enumerate_next (wpAny_call_entry F.slot_enumerate_next hT F.entry_enumerate_next ?_ (F.args_enumerate_next_1 _))))
    show wpAny _ _ (field (.ref e) 2 >>= _) _ _ _
    refine wpAny_bind (wpAny_field he rfl (x := .ref it) rfl ?_)
    refine wpAny_bind (wpAny_nextOf_tuple_end (I.ok.hd hc) hit p' (by simp; omega) fun h' z eb hx' => ?_)
    obtain ⟨o, ho, hc'⟩ := hx'
    refine wpAny_bind (wpAny_isInstance (T := "StopIteration") (b := true) ⟨o, ho, hc'⟩ isSubtype_stop ?_)
    exact wpAny_pure ⟨rfl, I.turned (t' := s.toks) (fun b o hb q => eb b o hb q) f0 f1 f3 f4 f5⟩
  self := fun A i s Q E st h => let ⟨⟨_, he⟩, _⟩ := st; wpAny_pyIter_enum he h
def iEnumT (K : PySem.W.Frag) (ta : TA) : TI := fun σ H R => ta σ H fun vs H1 => ∃ a xs, vs = [.ref a] ∧ SqT K H1 a xs ∧ R (ItE K a) H1
theorem pi_enumT {X : Cx} {e : Expr} {ta : TA} {p pos tpos : Pos} {elts : List Expr} {kk : Nat} (hg : Gl X "enumerate") (hm : X.mg "enumerate" = none) (ha : PA X [e] ta) (hs : starEach [e] X.env = [(false, eval e X.env)] := by rfl) :
    PI X (.Tuple elts kk tpos) (.Call (.Name "enumerate" p) [e] [] pos) (iEnumT X.K ta) := by
  refine ⟨fun pins s σ H R I h => ?_⟩
  refine Call_ (ld_blt I hg hm boot_enumerate (PyProof.Rows.callWith_type1 (thn (ha.run pos pins s σ H _ I h) fun us s1 ⟨vs, H1, I1, r1, q1⟩ => ?_) hs rfl))
  obtain ⟨a, xs, ex, hq, q⟩ := q1
  subst ex
  cases r1 with
  | cons r rr =>
    cases rr
    cases r
    obtain ⟨its, rv, p', hz⟩ := I1.tuple hq
    refine call_enumT (begins_tuple a its.toArray) p' fun h' he hit hsz hk => wpAny_pyIter_enum he ?_
    have I2 : Inv X pins σ H1 { s1 with heap := h' } := I1.kept (t' := s1.toks) hk
    refine ⟨s1.heap.objs.size + 1, [s1.heap.objs.size + 1, s1.heap.objs.size], _, _, H1, rfl, I2, turn_enumT a (s1.heap.objs.size + 1) s1.heap.objs.size, ⟨⟨.none, he⟩, ⟨_, hit, rfl, rfl⟩, Nat.succ_ne_self _⟩, fun b hb => ?_, q⟩
    have e' : b = s1.heap.objs.size + 1 ∨ b = s1.heap.objs.size := by simpa using hb
    have hle : s1.heap.objs.size ≤ b := by
      rcases e' with z | z
      · rw [z]; exact Nat.le_add_right _ _
      · rw [z]; exact Nat.le_refl _
    exact I1.fpOk hle (I1.hok.fresh hle)
end HM
namespace HM
open PySem PySem.Spec PyProof.Rows L2
/-- the numbers of the module -/
structure Nums (mg : Str → Option Value) : Prop where
  acts : ∃ u, mg "MAX_ACTS" = some u ∧ RelV (.int 6) u
  deeds : ∃ u, mg "MAX_DEEDS" = some u ∧ RelV (.int 25) u
  holders : ∃ u, mg "MAX_HOLDERS" = some u ∧ RelV (.int 4) u
  things : ∃ u, mg "MAX_THINGS" = some u ∧ RelV (.int 12) u
/-! ### are_pairs -/
def ltP (p q : Int × Int) : Prop := p.1 < q.1 ∨ (p.1 = q.1 ∧ p.2 < q.2)
structure PairsOk (n : Int) (ps : List (Int × Int)) : Prop where
  up : ps.Pairwise ltP
  ok : ∀ p ∈ ps, 0 ≤ p.1 ∧ p.1 ≤ p.2 ∧ p.2 < n
  len : ps.length < 1000
theorem lexLt_pair (p q : Int × Int) (h : ltP p q) : HT.lexLt [p.1, p.2] [q.1, q.2] = true := by
  rcases h with h | ⟨h1, h2⟩
  · have h' : ¬ p.1 = q.1 := by omega
    simp [HT.lexLt, h, h']
  · have h2' : ¬ p.2 = q.2 := by omega
    simp [HT.lexLt, h1, h2, h2']
theorem ris_up {lt : PyData → PyData → Bool} : ∀ {ds : List PyData}, ds.Pairwise (fun x y => lt x y = true) → ris lt ds = true
  | [], _ => by simp [ris]
  | [a], _ => by simp [ris]
  | a :: b :: l, h => by
    obtain ⟨h1, h2⟩ := List.pairwise_cons.mp h
    have ih := ris_up (ds := b :: l) h2
    have e : ris lt (a :: b :: l) = (lt a b && ris lt (b :: l)) := by simp [ris]
    rw [e, h1 b List.mem_cons_self, ih] <;> rfl
def ltD (x y : PyData) : Bool := HT.lexLt (lotOf x) (lotOf y)
theorem cPair_lot (p : Int × Int) : cPair p = cLot [p.1, p.2] := rfl
theorem nums_pair {n : Int} {p : Int × Int} (h : 0 ≤ p.1 ∧ p.1 ≤ p.2 ∧ p.2 < n) : numsB n (cPair p) = true := by
  rw [cPair_lot]
  refine (numsB_ints n _).mpr ⟨fun i hi => ?_, fun i hi => ?_⟩
  · have e : i = p.1 ∨ i = p.2 := by simpa using hi
    omega
  · have e : i = p.1 ∨ i = p.2 := by simpa using hi
    omega
abbrev sArePairs : Stmt := top 20
theorem sc_arePairs : FnScope ["many", "value", "item"] ["many", "value"] (defScope sArePairs) := ⟨rfl, rfl, rfl, by decide +kernel, rfl, by decide +kernel, by decide +kernel⟩
def spArePairs : Sp := fun vs H Q _ => ∃ (v : V) (n : Int) (ps : List (Int × Int)), vs = [.int n, v] ∧ Is H v (cPairs ps) ∧ PairsOk n ps ∧ ∀ H', Same H H' → Q (.bl true) H'
theorem beqI (i j : Int) : decide (V.int i = V.int j) = decide (i = j) := by
  by_cases h : i = j
  · subst h
    simp
  · have h' : ¬ V.int i = V.int j := fun e => h (by injection e)
    rw [decide_eq_false h', decide_eq_false h]
section
variable {P : Program} {w : World} {K : PySem.W.Frag} {mg : Str → Option Value} {base : Heap}
theorem ok_arePairs (F : Free mg) (D : Dn K mg "are_pairs" sArePairs) (cN : C8.Cal P w K mg base 2 "are_numbers" spAreNumbers []) (cR : C8.Cal P w K mg base 1 "is_rising" spIsRising []) : C8.Cal P w K mg base 3 "are_pairs" spArePairs [] := by
  refine cal_of D sc_arePairs (fun _ _ _ _ _ _ us hl => match us, hl with | [_, _], _ => rfl) (fun vs H Q E h => ?_) (fun f cdv A outer s H vs Q E hr h => ?_)
  · obtain ⟨v, n, ps, rfl, _⟩ := h
    rfl
  · obtain ⟨v, n, ps, rfl, hv, hp, k⟩ := h
    refine ⟨_, pss_cons (ps_if (pt_not (pt_val (pe_callB (call_isT isP_tuple) (by rfl) F.isinstance boot_isi (pa_cons (pv 1) (pa_cons (pe_tTuple F.tuple) pa_nil))))) (pss_one (ps_ret pe_bl)) pss_nil)
      (pss_cons (ps_for PassesOwn.never rfl (pi_tup (pv 1)) (pg_name (i := 2) sc_arePairs.nd rfl (Or.inl rfl))
        (pss_one (ps_if (PW.pt (pw_or (pt_not (pt_val (C8.pe_c cN hr (by decide) (by rfl) (pa_cons (pv 0) (pa_cons (pv 2) pa_nil)))))
          (pw_or (pt_cmpR op_ne (pe_callB callLen (by rfl) F.len PySem.boot_len (pa_cons (pv 2) pa_nil)) pe_int (nomark _))
            (pw_or1 (pt_cmpR op_gt (pe_ix ixT (pv 2) pe_int (fun _ _ => rfl)) (pe_ix ixT (pv 2) pe_int (fun _ _ => rfl)) (nomark _)))))) (pss_one (ps_ret pe_bl)) pss_nil)))
      (pss_one (ps_ret (C8.pe_c cR hr (by decide) (by rfl) (pa_cons (pv 1) pa_nil))))), ?_⟩
    refine ⟨_, rfl, _, _, rfl, hv, _, rfl, ?_⟩
    refine iteF ?_
    obtain ⟨a, xs, rfl, ha, ixs⟩ := hv.tup_inv
    refine ⟨_, rfl, a, rfl, ⟨_, .of ha⟩, for_tup (K := K) (a := a) (xs := xs) (fun i σ' H' => Same H H' ∧ σ'[0]? = some (some (.int n)) ∧ σ'[1]? = some (some (.ref a)) ∧ σ'.length = 3) ⟨Same.refl _, rfl, rfl, rfl⟩ (fun i σ' H' _ p => .of (p.1 _ _ ha)) (fun i x σ' H' hx p => ?_) (fun σ' H' p => ?_)⟩
    · obtain ⟨s1, e0, e1, e2⟩ := p
      match σ', e2, e0, e1 with
      | [_, _, _], _, e0, e1 =>
        cases e0
        cases e1
        obtain ⟨q, hq, iq⟩ := ixs.map_of hx
        have hk := hp.ok q (List.mem_of_getElem? hq)
        obtain ⟨b, rfl, hb⟩ := iq.pair
        refine ⟨_, rfl, _, rfl, _, cPair q, n, rfl, iq.same s1, (by show decide (2 < 1000) = true; decide), fun H2 s2 => ⟨_, rfl, ?_⟩⟩
        rw [nums_pair hk]
        refine iteF ?_
        have hb2 := s2 _ _ (s1 _ _ hb)
        refine ⟨_, rfl, b, _, rfl, .inl hb2, rfl, _, rfl, ?_⟩
        rw [show (!decide (V.int (([V.int q.1, V.int q.2].length : Nat) : Int) = V.int 2)) = false by rw [beqI]; rfl]
        refine iteF ?_
        refine ⟨_, rfl, b, _, 0, _, rfl, rfl, hb2, atI_nat (j := 0) rfl, _, rfl, b, _, 1, _, rfl, rfl, hb2, atI_nat (j := 1) rfl, q.1, q.2, rfl, rfl, _, rfl, ?_⟩
        refine ite2 (fun c => ?_) (fun c => ?_)
        · have := of_decide_eq_true c
          omega
        · exact ⟨s1.trans s2, rfl, rfl, rfl⟩
    · obtain ⟨s1, e0, e1, e2⟩ := p
      match σ', e2, e0, e1 with
      | [_, _, _], _, e0, e1 =>
        cases e0
        cases e1
        refine ⟨_, rfl, _, ps.map cPair, ltD, rfl, .inl (hv.same s1), by rw [List.length_map]; exact hp.len, fun x hx y hy => ?_, fun H2 s2 => ?_⟩
        · obtain ⟨p1, _, rfl⟩ := List.mem_map.mp hx
          obtain ⟨p2, _, rfl⟩ := List.mem_map.mp hy
          exact .inr ⟨_, _, cPair_lot p1, cPair_lot p2, rfl⟩
        · have e : ris ltD (ps.map cPair) = true := by
            refine ris_up ?_
            rw [List.pairwise_map]
            exact hp.up.imp fun h => lexLt_pair _ _ h
          rw [e]
          exact k H2 (s1.trans s2)
end
/-! ### rules_error -/
structure RuFull (r : Rules) : Prop where
  ok : RuOk r
  ps : PairsOk r.1 r.2
abbrev sRulesError : Stmt := top 24
theorem sc_rulesError : FnScope ["value"] ["value"] (defScope sRulesError) := ⟨rfl, rfl, rfl, by decide +kernel, rfl, by decide +kernel, by decide +kernel⟩
def spRulesError : Sp := fun vs H Q _ => ∃ (v : V) (r : Rules), vs = [v] ∧ Is H v (cRules r) ∧ RuFull r ∧ ∀ H', Same H H' → Q .non H'
section
variable {P : Program} {w : World} {K : PySem.W.Frag} {mg : Str → Option Value} {base : Heap}
theorem ok_rulesError (F : Free mg) (N : Nums mg) (D : Dn K mg "rules_error" sRulesError) (cI : C8.Cal P w K mg base 1 "is_integer" spIsInteger []) (cP : C8.Cal P w K mg base 3 "are_pairs" spArePairs []) : C8.Cal P w K mg base 4 "rules_error" spRulesError [] := by
  refine cal_of D sc_rulesError (fun _ _ _ _ _ _ us hl => match us, hl with | [_], _ => rfl) (fun vs H Q E h => ?_) (fun f cdv A outer s H vs Q E hr h => ?_)
  · obtain ⟨v, r, rfl, _⟩ := h
    rfl
  · obtain ⟨v, r, rfl, hv, hR, k⟩ := h
    refine ⟨_, pss_cons (ps_if (PW.pt (pw_or (pt_not (pt_val (pe_callB (call_isT isP_tuple) (by rfl) F.isinstance boot_isi (pa_cons (pv 0) (pa_cons (pe_tTuple F.tuple) pa_nil)))))
        (pw_or1 (pt_cmpR op_ne (pe_callB callLen (by rfl) F.len PySem.boot_len (pa_cons (pv 0) pa_nil)) pe_int (nomark _))))) (pss_one (ps_ret pe_str)) pss_nil)
      (pss_cons (ps_if (pt_not (pt_val (C8.pe_c cI hr (by decide) (by rfl) (pa_cons (pe_ix ixT (pv 0) pe_int (fun _ _ => rfl)) (pa_cons pe_int (pa_cons (C8.pe_gc (by rfl) N.acts) pa_nil)))))) (pss_one (ps_ret pe_str)) pss_nil)
      (pss_one (ps_ret (pe_ifExp (pt_val (C8.pe_c cP hr (by decide) (by rfl) (pa_cons (pe_ix ixT (pv 0) pe_int (fun _ _ => rfl)) (pa_cons (pe_ix ixT (pv 0) pe_int (fun _ _ => rfl)) pa_nil)))) pe_non pe_str)))), ?_⟩
    obtain ⟨a, p, rfl, ha, hp⟩ := hv.rules
    refine ⟨_, rfl, _, cRules r, rfl, hv, _, rfl, ?_⟩
    refine iteF ?_
    refine ⟨_, rfl, a, _, rfl, .inl ha, rfl, _, rfl, ?_⟩
    rw [show (!decide (V.int (([V.int r.1, p].length : Nat) : Int) = V.int 2)) = false by rw [beqI]; rfl]
    refine iteF ?_
    refine ⟨_, rfl, a, _, 0, _, rfl, rfl, ha, atI_nat (j := 0) rfl, _, .int r.1, 1, 6, rfl, .int _, _, rfl, ?_⟩
    rw [show isIntB (.int r.1) 1 6 = true by
      show (decide (1 ≤ r.1) && decide (r.1 ≤ 6)) = true
      rw [decide_eq_true hR.ok.lo, decide_eq_true hR.ok.hi] <;> rfl]
    refine iteF ?_
    refine ⟨_, rfl, a, _, 0, _, rfl, rfl, ha, atI_nat (j := 0) rfl, _, rfl, a, _, 1, _, rfl, rfl, ha, atI_nat (j := 1) rfl, p, r.1, r.2, rfl, hp, hR.ps, fun H1 s1 => ⟨_, rfl, ?_⟩⟩
    exact iteT (k H1 s1)
end
/-! ### tree_error -/
abbrev Tree := List (Option Int)
structure TreeOk (t : Tree) : Prop where
  lo : 1 ≤ t.length
  hi : t.length ≤ 12
  root : t[0]? = some none
  up : ∀ (i : Nat) (o : Option Int), t[i]? = some o → i ≠ 0 → ∃ p : Int, o = some p ∧ 0 ≤ p ∧ p < i
abbrev sTreeError : Stmt := top 33
theorem sc_treeError : FnScope ["value", "number", "item", "is_right"] ["value"] (defScope sTreeError) := ⟨rfl, rfl, rfl, by decide +kernel, rfl, by decide +kernel, by decide +kernel⟩
def spTreeError : Sp := fun vs H Q _ => ∃ (v : V) (t : Tree), vs = [v] ∧ Is H v (cTree t) ∧ TreeOk t ∧ ∀ H', Same H H' → Q .non H'
section
variable {P : Program} {w : World} {K : PySem.W.Frag} {mg : Str → Option Value} {base : Heap}
theorem ok_treeError (F : Free mg) (N : Nums mg) (D : Dn K mg "tree_error" sTreeError) (cI : C8.Cal P w K mg base 1 "is_integer" spIsInteger []) : C8.Cal P w K mg base 2 "tree_error" spTreeError [] := by
  refine cal_of D sc_treeError (fun _ _ _ _ _ _ us hl => match us, hl with | [_], _ => rfl) (fun vs H Q E h => ?_) (fun f cdv A outer s H vs Q E hr h => ?_)
  · obtain ⟨v, t, rfl, _⟩ := h
    rfl
  · obtain ⟨v, t, rfl, hv, hT, k⟩ := h
    refine ⟨_, pss_cons (ps_if (PW.pt (pw_or (pt_not (pt_val (pe_callB (call_isT isP_tuple) (by rfl) F.isinstance boot_isi (pa_cons (pv 0) (pa_cons (pe_tTuple F.tuple) pa_nil)))))
        (pw_or1 (pt_not (pt_chain op_le op_le pe_int (pe_callB callLen (by rfl) F.len PySem.boot_len (pa_cons (pv 0) pa_nil)) (C8.pe_gc (by rfl) N.things)))))) (pss_one (ps_ret pe_str)) pss_nil)
      (pss_cons (ps_for PassesOwn.never rfl (pi_enumT (by rfl) F.enumerate (pa_cons (pv 0) pa_nil)) (pgT rfl (pgs_cons (pg_name (i := 1) sc_treeError.nd rfl (Or.inl rfl)) (pgs_cons (pg_name (i := 2) sc_treeError.nd rfl (Or.inl rfl)) pgs_nil)))
        (pss_cons (ps_set (i := 3) sc_treeError.nd rfl (Or.inl rfl) (pe_ifExp (pt_cmpR op_eq (pv 1) pe_int (nomark _)) (pe_cmp (pc_isN (pv 2))) (C8.pe_c cI hr (by decide) (by rfl) (pa_cons (pv 2) (pa_cons pe_int (pa_cons (pe_op op_sub (pv 1) pe_int) pa_nil))))))
          (pss_one (ps_if (pt_not (pt_val (pv 3))) (pss_one (ps_ret (pv 1))) pss_nil))))
      (pss_one (ps_ret pe_non))), ?_⟩
    obtain ⟨a, xs, rfl, ha, ixs⟩ := hv.tup_inv
    have hl := ixs.length
    rw [List.length_map] at hl
    have hlo := hT.lo
    have hhi := hT.hi
    refine ⟨_, rfl, _, cTree t, rfl, hv, _, rfl, ?_⟩
    refine iteF ?_
    refine ⟨_, rfl, a, xs, rfl, .inl ha, _, _, rfl, rfl, _, rfl, ?_⟩
    rw [decide_eq_true (show (1 : Int) ≤ ((xs.length : Nat) : Int) by omega)]
    refine iteT ?_
    refine ⟨_, _, rfl, rfl, _, rfl, ?_⟩
    rw [decide_eq_true (show ((xs.length : Nat) : Int) ≤ 12 by omega)]
    refine iteF ?_
    refine ⟨_, rfl, a, xs, rfl, .of ha, for_any (J := ItE K a) (n := xs.length) (fun i σ' H' => Same H H' ∧ σ'[0]? = some (some (.ref a)) ∧ σ'.length = 4) ⟨Same.refl _, rfl, rfl⟩ (fun i σ' H' hi p => ?_) (fun σ' H' p => ⟨xs, .of (p.1 _ _ ha), Nat.le_refl _⟩) (fun i x σ' H1 H2 hi p y => ?_) (fun σ' H' p => k H' p.1)⟩
    · obtain ⟨x, hx⟩ := get_lt hi
      exact ⟨xs, x, .of (p.1 _ _ ha), hx⟩
    · obtain ⟨s1, e0, e2⟩ := p
      obtain ⟨T, z, rfl, hT0, rfl, hz⟩ := y
      have hz := hz xs (.of (s1 _ _ ha))
      have s2 := Same.new (o := HO.tup [.int (i : Nat), z]) hT0
      obtain ⟨o, ho, io⟩ := ixs.map_of hz
      match σ', e2, e0 with
      | [_, _, _, _], _, e0 =>
        cases e0
        refine ⟨T, _, rfl, upd_same, rfl, _, _, rfl, _, _, rfl, rfl, ?_⟩
        refine ⟨_, rfl, rfl, _, rfl, ?_⟩
        rw [beqI]
        by_cases c : i = 0
        · subst c
          rw [hT.root] at ho
          cases ho
          obtain rfl := io.non_inv
          refine iteT ?_
          refine ⟨_, rfl, ?_⟩
          refine ⟨_, rfl, _, rfl, ?_⟩
          exact iteF ⟨s1.trans s2, rfl, rfl⟩
        · obtain ⟨p, rfl, h1, h2⟩ := hT.up i o ho c
          obtain rfl := io.int_inv
          rw [decide_eq_false (show ¬ ((i : Nat) : Int) = 0 by omega)]
          refine iteF ?_
          refine ⟨_, rfl, _, rfl, _, _, rfl, rfl, _, .int p, 0, _, rfl, .int p, ?_⟩
          rw [show isIntB (.int p) 0 (((i : Nat) : Int) - 1) = true by
            show (decide (0 ≤ p) && decide (p ≤ ((i : Nat) : Int) - 1)) = true
            rw [decide_eq_true h1, decide_eq_true (show p ≤ ((i : Nat) : Int) - 1 by omega)] <;> rfl]
          refine ⟨_, rfl, _, rfl, ?_⟩
          exact iteF ⟨s1.trans s2, rfl, rfl⟩
end
end HM
namespace HM
open PySem PySem.Spec PyProof.Rows L2
/-! ### around -/
def par (t : Tree) (x : Int) : Option Int := (t[x.toNat]?).join
def upC (t : Tree) : Nat → Int → List Int
  | 0, x => [x]
  | n + 1, x => match par t x with
    | none => [x]
    | some p => x :: upC t n p
def aroundL (t : Tree) (x : Int) : List Int := (upC t 12 x).reverse
def InT (t : Tree) (x : Int) : Prop := 0 ≤ x ∧ x < (t.length : Int)
theorem upC_len (t : Tree) : ∀ (n : Nat) (x : Int), (upC t n x).length ≤ n + 1
  | 0, x => by simp [upC]
  | n + 1, x => by
    unfold upC
    split
    · simp
    · have := upC_len t n (by assumption)
      simp only [List.length_cons]
      omega
theorem aroundL_len (t : Tree) (x : Int) : (aroundL t x).length ≤ 13 := by
  unfold aroundL
  rw [List.length_reverse]
  exact upC_len t 12 x
theorem TreeOk.at {t : Tree} (h : TreeOk t) {x : Int} (hx : InT t x) : ∃ o, t[x.toNat]? = some o ∧ par t x = o := by
  obtain ⟨o, ho⟩ := get_lt (l := t) (i := x.toNat) (by have := hx.1; have := hx.2; omega)
  exact ⟨o, ho, by unfold par; rw [ho]; rfl⟩
theorem TreeOk.par_lt {t : Tree} (h : TreeOk t) {x p : Int} (hx : InT t x) (hp : par t x = some p) : 0 ≤ p ∧ p < x := by
  obtain ⟨o, ho, e⟩ := h.at hx
  have h0 := hx.1
  have h1 := hx.2
  rw [e] at hp
  subst hp
  by_cases c : x.toNat = 0
  · rw [c, h.root] at ho
    cases ho
  · obtain ⟨q, e, a, b⟩ := h.up _ _ ho c
    cases e
    omega
theorem TreeOk.upC_in {t : Tree} (h : TreeOk t) : ∀ (n : Nat) (x : Int), InT t x → ∀ y ∈ upC t n x, InT t y ∧ y ≤ x
  | 0, x, hx, y, hy => by
    have e : y = x := by simpa [upC] using hy
    subst e
    exact ⟨hx, Int.le_refl _⟩
  | n + 1, x, hx, y, hy => by
    unfold upC at hy
    split at hy
    · have e : y = x := by simpa using hy
      subst e
      exact ⟨hx, Int.le_refl _⟩
    · rename_i p hp
      obtain ⟨q1, q2⟩ := h.par_lt hx hp
      rcases List.mem_cons.mp hy with e | e
      · subst e
        exact ⟨hx, Int.le_refl _⟩
      · have hx2 := hx.2
        obtain ⟨r1, r2⟩ := h.upC_in n p ⟨q1, by omega⟩ y e
        exact ⟨r1, by omega⟩
abbrev sAround : Stmt := top 34
theorem sc_around : FnScope ["tree", "thing", "found"] ["tree", "thing"] (defScope sAround) := ⟨rfl, rfl, rfl, by decide +kernel, rfl, by decide +kernel, by decide +kernel⟩
def spAround : Sp := fun vs H Q _ => ∃ (v : V) (t : Tree) (x : Int), vs = [v, .int x] ∧ Is H v (cTree t) ∧ TreeOk t ∧ InT t x ∧ ∀ u H', Same H H' → Is H' u (cLot (aroundL t x)) → Q u H'
def pV : Option Int → V
  | none => .non
  | some i => .int i
theorem is_par {H : Hp} {v : V} {o : Option Int} (h : Is H v (cPar o)) : v = pV o := by
  cases o with
  | none => exact h.non_inv
  | some i => exact h.int_inv
section
variable {P : Program} {w : World} {K : PySem.W.Frag} {mg : Str → Option Value} {base : Heap}
theorem ok_around (F : Free mg) (D : Dn K mg "around" sAround) : C8.Cal P w K mg base 1 "around" spAround [] := by
  refine cal_of D sc_around (fun _ _ _ _ _ _ us hl => match us, hl with | [_, _], _ => rfl) (fun vs H Q E h => ?_) (fun f cdv A outer s H vs Q E hr h => ?_)
  · obtain ⟨v, t, x, rfl, _⟩ := h
    rfl
  · obtain ⟨v, t, x, rfl, hv, hT, hx, k⟩ := h
    refine ⟨_, pss_cons (ps_set (i := 2) sc_around.nd rfl (Or.inl rfl) (pe_lst (pa_cons (pv 1) pa_nil)))
      (pss_cons (ps_while PassesOwn.never (pt_cmp (pc_notN (pe_ix ixT (pv 0) (pe_ix ixL (pv 2) (pe_un un_neg pe_int) (fun _ _ => rfl)) (fun _ _ => rfl))))
        (pss_one (ps_expr (pe_bm PySem.F.plainAttrs_list PySem.F.slot_list_append PySem.F.type_list_append mt_append (pv 2) (pa_cons (pe_ix ixT (pv 0) (pe_ix ixL (pv 2) (pe_un un_neg pe_int) (fun _ _ => rfl)) (fun _ _ => rfl)) pa_nil)))))
      (pss_one (ps_ret (pe_callTy call_tuple_of (by rfl) F.tuple boot_tuple (pa_cons (pe_revL (pv 2)) pa_nil))))), ?_⟩
    obtain ⟨a, xs, rfl, ha, ixs⟩ := hv.tup_inv
    refine ⟨_, rfl, (by show 1 ≤ sizeLine; decide), fun D nD => ?_⟩
    have at_ : ∀ {y : Int}, InT t y → ∀ {H' : Hp}, Same H H' → ∃ u, atI xs y = some u ∧ u = pV (par t y) := by
      intro y hy H' s1
      obtain ⟨o, ho, e⟩ := hT.at hy
      obtain ⟨u, hu, iu⟩ := ixs.map_get ho
      refine ⟨u, ?_, ?_⟩
      · have q := atI_nat hu
        rw [show ((y.toNat : Nat) : Int) = y from Int.toNat_of_nonneg hy.1] at q
        exact q
      · rw [e]
        exact is_par iu
    refine ⟨fun m σ' H' => ∃ (L : List Int) (y : Int) (n : Nat), Same H H' ∧ σ' = [some (.ref a), some (.int x), some (.ref D)] ∧ H' D = some (.lst ((L ++ [y]).map V.int)) ∧ InT t y ∧ m = y.toNat ∧ y.toNat < n ∧ n + L.length = 12 ∧ L ++ upC t n y = upC t 12 x, ⟨x.toNat, [], x, 12, Same.new nD, rfl, upd_same, hx, rfl, by have := hT.hi; have := hx.1; have := hx.2; omega, rfl, rfl⟩, ?_⟩
    rintro m σ' H' ⟨L, y, n, s1, rfl, hD, hy, rfl, hn, hnl, e⟩
    have hD' : H' D = some (.lst (L.map V.int ++ [V.int y])) := by rw [hD, List.map_append]; rfl
    obtain ⟨u, hu1, hu2⟩ := at_ hy s1
    refine ⟨_, rfl, _, rfl, _, rfl, D, _, -1, .int y, rfl, rfl, hD', atI_last _ _, a, xs, y, u, rfl, rfl, s1 _ _ ha, hu1, _, rfl, ?_⟩
    cases n with
    | zero => omega
    | succ n =>
      cases hp : par t y with
      | none =>
        rw [hp] at hu2
        subst hu2
        refine iteF ?_
        have e2 : upC t (n + 1) y = [y] := by
          unfold upC
          rw [hp]
        refine ⟨_, rfl, D, _, rfl, .of hD, fun p hp' => ?_⟩
        have s2 := Same.new (o := HO.lst (((L ++ [y]).map V.int).reverse)) hp'
        refine ⟨p, _, rfl, .inl ⟨.of upd_same, fun q hq => ?_⟩⟩
        have s3 := Same.new (o := HO.tup (((L ++ [y]).map V.int).reverse)) hq
        refine k _ _ ((s1.trans s2).trans s3) (is_lot_mk ?_)
        rw [upd_same]
        unfold aroundL
        rw [← e, e2, List.map_reverse]
      | some p =>
        rw [hp] at hu2
        subst hu2
        refine iteT ?_
        obtain ⟨p1, p2⟩ := hT.par_lt hy hp
        have hy1 := hy.1
        have hy2 := hy.2
        refine ⟨_, fun _ _ h => h, ?_⟩
        refine ⟨_, rfl, .inl ⟨rfl, _, .of hD⟩, _, rfl, _, rfl, _, rfl, D, _, -1, .int y, rfl, rfl, hD', atI_last _ _, a, xs, y, _, rfl, rfl, s1 _ _ ha, hu1, D, _, _, rfl, rfl, hD, ?_, ?_⟩
        · rw [List.length_map, List.length_append]
          refine lt1000 ?_
          simp only [List.length_cons, List.length_nil]
          omega
        · refine ⟨p.toNat, by omega, L ++ [y], p, n, s1.set nD, rfl, ?_, ⟨p1, by omega⟩, rfl, by omega, by rw [List.length_append]; simp only [List.length_cons, List.length_nil]; omega, ?_⟩
          · rw [upd_same, List.map_append (l₂ := [p])]
            rfl
          · rw [← e]
            have e2 : upC t (n + 1) y = y :: upC t n p := by
              show (match par t y with | none => [y] | some p => y :: upC t n p) = _
              rw [hp]
            rw [e2, List.append_assoc]
            rfl
end
end HM
namespace HM
open PySem PySem.Spec PyProof.Rows L2
/-! ### is_hold, are_holds -/
structure HoldOk (r : Rules) (t : Tree) (h : Hold) : Prop where
  who : 0 ≤ h.1 ∧ h.1 < 4
  at_ : InT t h.2.1
  mode : ModeOk r.1 h.2.2
def key (h : Hold) : Int × Int := (h.1, h.2.1)
structure HoldsOk (r : Rules) (t : Tree) (hs : List Hold) : Prop where
  up : (hs.map key).Pairwise ltP
  ok : ∀ h ∈ hs, HoldOk r t h
theorem HoldsOk.len {r : Rules} {t : Tree} {hs : List Hold} (h : HoldsOk r t hs) (hT : TreeOk t) : hs.length ≤ 48 := by
  have hhi := hT.hi
  have q := nodup_bound 48 (hs.map fun x => 12 * x.1 + x.2.1) ?_ ?_ ?_
  · rw [List.length_map] at q
    exact q
  · have e : (hs.map fun x => 12 * x.1 + x.2.1) = (hs.map key).map fun p => 12 * p.1 + p.2 := by
      rw [List.map_map]
      rfl
    rw [e]
    unfold List.Nodup
    rw [List.pairwise_map]
    refine List.Pairwise.imp_of_mem (fun {p q} hp hq hlt => ?_) h.up
    obtain ⟨x, hx, rfl⟩ := List.mem_map.mp hp
    obtain ⟨y, hy, rfl⟩ := List.mem_map.mp hq
    have k1 := (h.ok x hx).at_
    have k2 := (h.ok y hy).at_
    obtain ⟨k1, k3⟩ := k1
    obtain ⟨k2, k4⟩ := k2
    unfold ltP key at hlt
    simp only [key]
    simp only at hlt
    omega
  · intro i hi
    obtain ⟨x, hx, rfl⟩ := List.mem_map.mp hi
    have k1 := (h.ok x hx).at_
    have k2 := (h.ok x hx).who
    have k3 := k1.1
    omega
  · intro i hi
    obtain ⟨x, hx, rfl⟩ := List.mem_map.mp hi
    have k1 := (h.ok x hx).at_
    have k2 := (h.ok x hx).who
    have k3 := k1.2
    omega
mutual
theorem small_lot : ∀ {l : Lot}, l.length < 1000 → small (cLot l) = true
  | l, h => by
    have e : smallAll (l.map PyData.int) = true := small_ints
    show (decide ((l.map PyData.int).length < 1000) && smallAll (l.map PyData.int)) = true
    rw [e, List.length_map, decide_eq_true h] <;> rfl
theorem small_ints : ∀ {l : Lot}, smallAll (l.map PyData.int) = true
  | [] => rfl
  | i :: l => by
    show (true && smallAll (l.map PyData.int)) = true
    rw [small_ints] <;> rfl
end
theorem small_mode {n : Int} {m : Mode} (h : ModeOk n m) (hn : n ≤ 6) : small (cMode m) = true := by
  have := h.own.len
  have := h.means.len
  show (decide (2 < 1000) && (small (cLot m.1) && (small (cLot m.2) && true))) = true
  rw [small_lot (by omega), small_lot (by omega)] <;> rfl
section
variable {X : Cx}
/-- t[:2] of a tuple of three -/
def rHead2 : V → Option Int → Option Int → Hp → VK → Prop := fun x lo hi H Q => ∃ a u v m, x = .ref a ∧ H a = some (.tup [u, v, m]) ∧ lo = none ∧ hi = some 2 ∧ ∀ p, H p = none → Q (.ref p) (upd H p (.tup [u, v]))
theorem sl_head2 : SlR X rHead2 := by
  intro pins s σ H x v vl vu lo hi sl Q I rx hs pl pu h
  obtain ⟨a, u, w, m, e, ha, rfl, rfl, k⟩ := h
  exact sl_tupA pins s σ H x v vl vu _ _ sl Q I rx hs pl pu ⟨a, _, e, .of ha, fun c => absurd (show (2 : Nat) = 3 from c.2) (by decide), fun _ p hp => k p hp⟩
end
abbrev sIsHold : Stmt := top 35
theorem sc_isHold : FnScope ["rules", "tree", "value"] ["rules", "tree", "value"] (defScope sIsHold) := ⟨rfl, rfl, rfl, by decide +kernel, rfl, by decide +kernel, by decide +kernel⟩
def spIsHold : Sp := fun vs H Q _ => ∃ (u v z : V) (r : Rules) (t : Tree) (h : Hold), vs = [u, v, z] ∧ Is H u (cRules r) ∧ Is H v (cTree t) ∧ Is H z (cHold h) ∧ HoldOk r t h ∧ RuOk r ∧ ∀ H', Same H H' → Q (.bl true) H'
abbrev sAreHolds : Stmt := top 36
theorem sc_areHolds : FnScope ["rules", "tree", "value", "item"] ["rules", "tree", "value"] (defScope sAreHolds) := ⟨rfl, rfl, rfl, by decide +kernel, rfl, by decide +kernel, by decide +kernel⟩
def spAreHolds : Sp := fun vs H Q _ => ∃ (u v z : V) (r : Rules) (t : Tree) (hs : List Hold), vs = [u, v, z] ∧ Is H u (cRules r) ∧ Is H v (cTree t) ∧ Is H z (cHolds hs) ∧ HoldsOk r t hs ∧ RuOk r ∧ TreeOk t ∧ ∀ H', Same H H' → Q (.bl true) H'
theorem isInt_in {i lo hi : Int} (h1 : lo ≤ i) (h2 : i ≤ hi) : isIntB (.int i) lo hi = true := by
  show (decide (lo ≤ i) && decide (i ≤ hi)) = true
  rw [decide_eq_true h1, decide_eq_true h2] <;> rfl
section
variable {P : Program} {w : World} {K : PySem.W.Frag} {mg : Str → Option Value} {base : Heap}
theorem ok_isHold (F : Free mg) (N : Nums mg) (D : Dn K mg "is_hold" sIsHold) (cI : C8.Cal P w K mg base 1 "is_integer" spIsInteger []) (cM : C8.Cal P w K mg base 4 "is_mode" spIsMode []) : C8.Cal P w K mg base 5 "is_hold" spIsHold [] := by
  refine cal_of D sc_isHold (fun _ _ _ _ _ _ us hl => match us, hl with | [_, _, _], _ => rfl) (fun vs H Q E h => ?_) (fun f cdv A outer s H vs Q E hr h => ?_)
  · obtain ⟨u, v, z, r, t, h, rfl, _⟩ := h
    rfl
  · obtain ⟨u, v, z, r, t, h, rfl, hu, hv, hz, ho, hR, k⟩ := h
    refine ⟨_, pss_cons (ps_if (PW.pt (pw_or (pt_not (pt_val (pe_callB (call_isT isP_tuple) (by rfl) F.isinstance boot_isi (pa_cons (pv 2) (pa_cons (pe_tTuple F.tuple) pa_nil)))))
        (pw_or1 (pt_cmpR op_ne (pe_callB callLen (by rfl) F.len PySem.boot_len (pa_cons (pv 2) pa_nil)) pe_int (nomark _))))) (pss_one (ps_ret pe_bl)) pss_nil)
      (pss_cons (ps_if (PW.pt (pw_or (pt_not (pt_val (C8.pe_c cI hr (by decide) (by rfl) (pa_cons (pe_ix ixT (pv 2) pe_int (fun _ _ => rfl)) (pa_cons pe_int (pa_cons (pe_op op_sub (C8.pe_gc (by rfl) N.holders) pe_int) pa_nil))))))
          (pw_or1 (pt_not (pt_val (C8.pe_c cI hr (by decide) (by rfl) (pa_cons (pe_ix ixT (pv 2) pe_int (fun _ _ => rfl)) (pa_cons pe_int (pa_cons (pe_op op_sub (pe_callB callLen (by rfl) F.len PySem.boot_len (pa_cons (pv 1) pa_nil)) pe_int) pa_nil)))))))))
        (pss_one (ps_ret pe_bl)) pss_nil)
      (pss_one (ps_ret (C8.pe_c cM hr (by decide) (by rfl) (pa_cons (pv 0) (pa_cons (pe_ix ixT (pv 2) pe_int (fun _ _ => rfl)) pa_nil)))))), ?_⟩
    obtain ⟨a, m, rfl, ha, im⟩ := hz.hold
    obtain ⟨b, ys, rfl, hb, iys⟩ := hv.tup_inv
    have hl := iys.length
    rw [List.length_map] at hl
    have w1 := ho.who
    have w2 := ho.at_.1
    have w3 := ho.at_.2
    refine ⟨_, rfl, _, cHold h, rfl, hz, _, rfl, ?_⟩
    refine iteF ?_
    refine ⟨_, rfl, a, _, rfl, .inl ha, rfl, _, rfl, ?_⟩
    rw [show (!decide (V.int (([V.int h.1, V.int h.2.1, m].length : Nat) : Int) = V.int 3)) = false by rw [beqI]; rfl]
    refine iteF ?_
    refine ⟨_, rfl, a, _, 0, _, rfl, rfl, ha, atI_nat (j := 0) rfl, _, _, rfl, rfl, _, .int h.1, 0, _, rfl, .int _, _, rfl, ?_⟩
    rw [isInt_in w1.1 (show h.1 ≤ 4 - 1 by omega)]
    refine iteF ?_
    refine ⟨_, rfl, a, _, 1, _, rfl, rfl, ha, atI_nat (j := 1) rfl, _, rfl, b, ys, rfl, .inl hb, _, _, rfl, rfl, _, .int h.2.1, 0, _, rfl, .int _, _, rfl, ?_⟩
    rw [isInt_in w2 (show h.2.1 ≤ ((ys.length : Nat) : Int) - 1 by omega)]
    refine iteF ?_
    refine ⟨_, rfl, _, rfl, a, _, 2, _, rfl, rfl, ha, atI_nat (j := 2) rfl, u, m, r, cMode h.2.2, rfl, hu, im, small_mode ho.mode hR.hi, hR.hi, fun H1 s1 => ?_⟩
    rw [(modeB_eq r.1 h.2.2).mpr ho.mode]
    exact k H1 s1
theorem ok_areHolds (F : Free mg) (D : Dn K mg "are_holds" sAreHolds) (cH : C8.Cal P w K mg base 5 "is_hold" spIsHold []) (cR : C8.Cal P w K mg base 1 "is_rising" spIsRising []) : C8.Cal P w K mg base 6 "are_holds" spAreHolds [] := by
  refine cal_of D sc_areHolds (fun _ _ _ _ _ _ us hl => match us, hl with | [_, _, _], _ => rfl) (fun vs H Q E h => ?_) (fun f cdv A outer s H vs Q E hr h => ?_)
  · obtain ⟨u, v, z, r, t, hs, rfl, _⟩ := h
    rfl
  · obtain ⟨u, v, z, r, t, hs, rfl, hu, hv, hz, ho, hR, hT, k⟩ := h
    refine ⟨_, pss_cons (ps_if (PW.pt (pw_or (pt_not (pt_val (pe_callB (call_isT isP_tuple) (by rfl) F.isinstance boot_isi (pa_cons (pv 2) (pa_cons (pe_tTuple F.tuple) pa_nil)))))
        (pw_or1 (pt_not (pt_val (pe_callB (cr_all rfl) (by rfl) F.all boot_all (pa_cons (pe_lc (own := [("item", 3)]) (g := gName 3) (tt := tYes) (te := tCall spIsHold [] C8.E0 (tCons (tVar 0) (tCons (tVar 1) (tCons (tVar 3) tNil)))) rfl sc_areHolds.nd
          (pi_tup (pv 2)) (blkOk_by (N := ["rules", "tree", "value", "item"]) (sc := defScope sAreHolds) (own := [("item", 3)]) (by decide +kernel))
          (fun _ _ _ _ _ => by exact (pg_name (i := 3) sc_areHolds.nd rfl (.inl rfl)))
          (fun _ _ _ _ _ => pts_nil)
          (fun _ _ _ _ _ => by exact (C8.pe_c cH hr (by decide) (by rfl) (pa_cons (pv 0) (pa_cons (pv 1) (pa_cons (pv 3) pa_nil)))))) pa_nil))))))) (pss_one (ps_ret pe_bl)) pss_nil)
      (pss_one (ps_ret (C8.pe_c cR hr (by decide) (by rfl) (pa_cons (pe_lc (own := [("item", 3)]) (g := gName 3) (tt := tYes) (te := tSl rHead2 (tVar 3) tNoPart (tPart (tC (.int 2)))) rfl sc_areHolds.nd
          (pi_tup (pv 2)) (blkOk_by (N := ["rules", "tree", "value", "item"]) (sc := defScope sAreHolds) (own := [("item", 3)]) (by decide +kernel))
          (fun _ _ _ _ _ => by exact (pg_name (i := 3) sc_areHolds.nd rfl (.inl rfl)))
          (fun _ _ _ _ _ => pts_nil)
          (fun _ _ _ _ _ => by exact (pe_slice sl_head2 (pv 3) po_none (po_some pe_int)))) pa_nil)))), ?_⟩
    obtain ⟨a, xs, rfl, ha, ixs⟩ := hz.holds
    have hl := ixs.length
    rw [List.length_map] at hl
    have h48 := ho.len hT
    refine ⟨_, rfl, _, cHolds hs, rfl, hz, _, rfl, ?_⟩
    refine iteF ?_
    refine ⟨_, rfl, a, rfl, ⟨_, .of ha⟩, fun D nD => lc_tup (K := K) (a := a) (xs := xs) (fun i H' => Same H H' ∧ H' D = some (.lst ((List.replicate i true).map V.bl))) ⟨Same.new nD, upd_same⟩ (fun i H' _ p => .of (p.1 _ _ ha)) (fun i x H' hx p => ?_) (fun H' p => ?_)⟩
    · obtain ⟨s1, hD⟩ := p
      obtain ⟨h, hh, ih⟩ := ixs.map_of hx
      have hlt := lt_get hx
      refine ⟨rfl, yes_at ?_⟩
      refine ⟨_, rfl, _, rfl, _, rfl, u, v, x, r, t, h, rfl, hu.same s1, hv.same s1, ih.same s1, ho.ok h (List.mem_of_getElem? hh), hR, fun H2 s2 => ⟨_, s2 _ _ hD, ?_, (s1.trans s2).set nD, ?_⟩⟩
      · rw [List.length_map, List.length_replicate]
        exact lt1000 (by omega)
      · rw [upd_same, List.replicate_succ', List.map_append]
        rfl
    · obtain ⟨s1, hD⟩ := p
      refine ⟨D, _, rfl, .of hD, _, rfl, ?_⟩
      rw [show (List.replicate xs.length true).all id = true by rw [List.all_replicate]; simp]
      refine iteF ?_
      refine ⟨_, rfl, a, rfl, ⟨_, .of (s1 _ _ ha)⟩, fun D nD2 => lc_tup (K := K) (a := a) (xs := xs) (fun i H2 => Same H' H2 ∧ ∃ ys, H2 D = some (.lst ys) ∧ IsAll H2 ys ((hs.take i).map fun h => cPair (key h))) ⟨Same.new nD2, [], upd_same, .nil⟩ (fun i H2 _ p => .of (p.1 _ _ (s1 _ _ ha))) (fun i x H2 hx p => ?_) (fun H2 p => ?_)⟩
      · obtain ⟨s2, ys, hD2, iys⟩ := p
        obtain ⟨h, hh, ih⟩ := ixs.map_of hx
        have hlt := lt_get hx
        obtain ⟨b, m, rfl, hb, _⟩ := ih.hold
        have hly := iys.length
        rw [List.length_map, List.length_take] at hly
        refine ⟨rfl, yes_at ?_⟩
        refine ⟨_, rfl, 2, rfl, b, _, _, m, rfl, s2 _ _ (s1 _ _ hb), rfl, rfl, fun p hp => ?_⟩
        have s3 := Same.new (o := HO.tup [.int h.1, .int h.2.1]) hp
        have hD3 := s3 _ _ hD2
        refine ⟨ys, hD3, lt1000 (by omega), (s2.trans s3).set nD2, _, upd_same, ?_⟩
        rw [take_more hh, List.map_append]
        have nD4 : p ≠ D := fun e => by rw [e, hD2] at hp; cases hp
        have iy : IsAll (upd (upd H2 p (.tup [.int h.1, .int h.2.1])) D (.lst (ys ++ [.ref p]))) ys ((hs.take i).map fun h => cPair (key h)) := by
          refine IsAll.tups (fun c o e => ?_) iys (tupdAll_map (fun h => tupd_pair (key h)) _)
          have n1 : c ≠ D := fun z => by rw [z, hD2] at e; cases e
          rw [upd_ne n1]
          exact s3 _ _ e
        refine iy.append (.one (.tup (xs := [.int h.1, .int h.2.1]) (by rw [upd_ne nD4, upd_same]) (.cons (.int _) (.cons (.int _) .nil))))
      · obtain ⟨s2, ys, hD2, iys⟩ := p
        rw [hl, List.take_length] at iys
        refine ⟨.ref D, _, ltD, rfl, .inr (.lst hD2 iys), by rw [List.length_map]; omega, fun x hx y hy => ?_, fun H3 s3 => ?_⟩
        · obtain ⟨p1, _, rfl⟩ := List.mem_map.mp hx
          obtain ⟨p2, _, rfl⟩ := List.mem_map.mp hy
          exact .inr ⟨_, _, cPair_lot _, cPair_lot _, rfl⟩
        · have e : ris ltD (hs.map fun h => cPair (key h)) = true := by
            refine ris_up ?_
            have q := ho.up
            rw [List.pairwise_map] at q ⊢
            exact q.imp fun h => lexLt_pair _ _ h
          rw [e]
          exact k H3 ((s1.trans s2).trans s3)
end
end HM
namespace HM
open PySem PySem.Spec PyProof.Rows L2
/-! ### tables by holder and thing -/
abbrev Tb := List ((Int × Int) × Mode)
def getT (T : Tb) (k : Int × Int) : Option Mode := (T.find? fun x => decide (x.1 = k)).map (·.2)
def putT (T : Tb) (k : Int × Int) (m : Mode) : Tb :=
  if (T.any fun x => decide (x.1 = k)) = true then T.map (fun x => if x.1 = k then (x.1, m) else x) else T ++ [(k, m)]
def kk (p : Int × Int) : List Key := [.inl p.1, .inl p.2]
theorem kk_inj {p q : Int × Int} : kk p = kk q ↔ p = q := by
  obtain ⟨a, b⟩ := p
  obtain ⟨c, d⟩ := q
  unfold kk
  constructor
  · intro h
    injection h with h1 h2
    injection h2 with h2 _
    injection h1 with h1
    injection h2 with h2
    simp only at h1 h2
    rw [h1, h2]
  · intro h
    injection h with h1 h2
    rw [h1, h2]
theorem kk_dec (p q : Int × Int) : decide (kk p = kk q) = decide (p = q) := by
  by_cases h : p = q
  · subst h
    simp
  · have h' : ¬ kk p = kk q := fun e => h (kk_inj.mp e)
    rw [decide_eq_false h, decide_eq_false h']
inductive TabR (H : Hp) : List (List Key × V) → Tb → Prop
  | nil : TabR H [] []
  | cons {v : V} {p : Int × Int} {m : Mode} {kvs : List (List Key × V)} {T : Tb} : Is H v (cMode m) → TabR H kvs T → TabR H ((kk p, v) :: kvs) ((p, m) :: T)
theorem TabR.tups {H H' : Hp} (e : Tups H H') : ∀ {kvs : List (List Key × V)} {T : Tb}, TabR H kvs T → TabR H' kvs T
  | _, _, .nil => .nil
  | _, _, .cons h t => .cons (h.tups e (tupd_mode _)) (t.tups e)
theorem TabR.length {H : Hp} : ∀ {kvs : List (List Key × V)} {T : Tb}, TabR H kvs T → kvs.length = T.length
  | _, _, .nil => rfl
  | _, _, .cons _ t => by rw [List.length_cons, List.length_cons, t.length]
theorem TabR.app {H : Hp} : ∀ {kvs : List (List Key × V)} {T : Tb} {v : V} {p : Int × Int} {m : Mode}, TabR H kvs T → Is H v (cMode m) → TabR H (kvs ++ [(kk p, v)]) (T ++ [(p, m)])
  | _, _, _, _, _, .nil, i => .cons i .nil
  | _, _, _, _, _, .cons h t, i => .cons h (t.app i)
theorem TabR.any {H : Hp} (k : Int × Int) : ∀ {kvs : List (List Key × V)} {T : Tb}, TabR H kvs T → (kvs.any fun kv => decide (kv.1 = kk k)) = T.any fun x => decide (x.1 = k)
  | _, _, .nil => rfl
  | _, _, .cons h t => by
    rw [List.any_cons, List.any_cons, t.any k]
    show (decide (kk _ = kk k) || _) = (decide (_ = k) || _)
    rw [kk_dec]
theorem TabR.val {H : Hp} (k : Int × Int) : ∀ {kvs : List (List Key × V)} {T : Tb}, TabR H kvs T → (valV kvs (kk k) = none ∧ getT T k = none) ∨ ∃ v m, valV kvs (kk k) = some v ∧ getT T k = some m ∧ Is H v (cMode m)
  | _, _, .nil => .inl ⟨rfl, rfl⟩
  | _, _, .cons (p := p) (m := m) (v := v) (kvs := kvs) (T := T) h t => by
    by_cases c : p = k
    · refine .inr ⟨v, m, valV_pos (p := (kk p, v)) (kk_inj.mpr c), ?_, h⟩
      unfold getT
      rw [List.find?_cons_of_pos (by simpa using c)]
      rfl
    · rw [valV_neg (p := (kk p, v)) (fun e => c (kk_inj.mp e))]
      have e : getT ((p, m) :: T) k = getT T k := by
        unfold getT
        rw [List.find?_cons_of_neg (by simpa using c)]
      rw [e]
      exact t.val k
theorem TabR.map {H : Hp} {k : Int × Int} {v : V} {m : Mode} (i : Is H v (cMode m)) : ∀ {kvs : List (List Key × V)} {T : Tb}, TabR H kvs T → TabR H (kvs.map fun kv => if kv.1 = kk k then (kv.1, v) else kv) (T.map fun x => if x.1 = k then (x.1, m) else x)
  | _, _, .nil => .nil
  | _, _, .cons (p := p) h t => by
    rw [List.map_cons, List.map_cons]
    by_cases c : p = k
    · rw [if_pos (show kk p = kk k from kk_inj.mpr c), if_pos (show p = k from c)]
      exact .cons i (t.map i)
    · rw [if_neg (show ¬ kk p = kk k from fun e => c (kk_inj.mp e)), if_neg (show ¬ p = k from c)]
      exact .cons h (t.map i)
theorem TabR.put {H : Hp} {k : Int × Int} {v : V} {m : Mode} {kvs : List (List Key × V)} {T : Tb} (t : TabR H kvs T) (i : Is H v (cMode m)) : TabR H (putK kvs (kk k) v) (putT T k m) := by
  unfold putK putT
  rw [t.any k]
  split
  · exact t.map i
  · exact t.app i
theorem getT_any (T : Tb) (k : Int × Int) : (T.any fun x => decide (x.1 = k)) = (getT T k).isSome := by
  unfold getT
  induction T with
  | nil => rfl
  | cons p T ih =>
    rw [List.any_cons, ih]
    by_cases c : p.1 = k
    · rw [List.find?_cons_of_pos (by simpa using c)]
      simp [c]
    · rw [List.find?_cons_of_neg (by simpa using c)]
      simp [c]
theorem putT_new {T : Tb} {k : Int × Int} {m : Mode} (h : k ∉ T.map (·.1)) : putT T k m = T ++ [(k, m)] := by
  unfold putT
  rw [if_neg]
  intro e
  obtain ⟨x, hx, q⟩ := List.any_eq_true.mp e
  exact h (List.mem_map.mpr ⟨x, hx, of_decide_eq_true q⟩)
def tabOf (hs : List Hold) : Tb := hs.map fun h => (key h, h.2.2)
theorem tabOf_keys (hs : List Hold) : (tabOf hs).map (·.1) = hs.map key := by
  unfold tabOf
  rw [List.map_map]
  rfl
/-! ### table_of -/
abbrev sTableOf : Stmt := top 37
theorem sc_tableOf : FnScope ["holds", "found", "holder", "thing", "mode"] ["holds"] (defScope sTableOf) := ⟨rfl, rfl, rfl, by decide +kernel, rfl, by decide +kernel, by decide +kernel⟩
def spTableOf : Sp := fun vs H Q _ => ∃ (v : V) (hs : List Hold), vs = [v] ∧ Is H v (cHolds hs) ∧ hs.length < 1000 ∧ (hs.map key).Nodup ∧ ∀ d kvs H', Same H H' → H d = none → H' d = some (.dT kvs) → TabR H' kvs (tabOf hs) → Q (.ref d) H'
section
variable {P : Program} {w : World} {K : PySem.W.Frag} {mg : Str → Option Value} {base : Heap}
theorem ok_tableOf (D : Dn K mg "table_of" sTableOf) : C8.Cal P w K mg base 1 "table_of" spTableOf [] := by
  refine cal_of D sc_tableOf (fun _ _ _ _ _ _ us hl => match us, hl with | [_], _ => rfl) (fun vs H Q E h => ?_) (fun f cdv A outer s H vs Q E hr h => ?_)
  · obtain ⟨v, hs, rfl, _⟩ := h
    rfl
  · obtain ⟨v, hs, rfl, hv, hn, hk, k⟩ := h
    refine ⟨_, pss_cons (ps_set (i := 1) sc_tableOf.nd rfl (Or.inl rfl) pe_dnewT)
      (pss_cons (ps_for PassesOwn.never rfl (pi_tup (pv 0)) (pgT rfl (pgs_cons (pg_name (i := 2) sc_tableOf.nd rfl (Or.inl rfl)) (pgs_cons (pg_name (i := 3) sc_tableOf.nd rfl (Or.inl rfl)) (pgs_cons (pg_name (i := 4) sc_tableOf.nd rfl (Or.inl rfl)) pgs_nil))))
        (pss_one (ps_dput (hu_of hr) (pv 1) (pe_tup (pa_cons (pv 2) (pa_cons (pv 3) pa_nil))) (pv 4) rfl)))
      (pss_one (ps_ret (pv 1)))), ?_⟩
    obtain ⟨a, xs, rfl, ha, ixs⟩ := hv.holds
    have hl := ixs.length
    rw [List.length_map] at hl
    refine fun d nd => ?_
    refine ⟨_, rfl, a, rfl, ⟨_, .of (Same.new nd _ _ ha)⟩, for_tup (K := K) (a := a) (xs := xs) (fun i σ' H' => Same H H' ∧ σ'[0]? = some (some (.ref a)) ∧ σ'[1]? = some (some (.ref d)) ∧ σ'.length = 5 ∧ ∃ kvs, H' d = some (.dT kvs) ∧ TabR H' kvs (tabOf (hs.take i))) ⟨Same.new nd, rfl, rfl, rfl, [], upd_same, .nil⟩ (fun i σ' H' _ p => .of (p.1 _ _ ha)) (fun i x σ' H' hx p => ?_) (fun σ' H' p => ?_)⟩
    · obtain ⟨s1, e0, e1, e2, kvs, hd, ht⟩ := p
      match σ', e2, e0, e1 with
      | [_, _, _, _, _], _, e0, e1 =>
        cases e0
        cases e1
        obtain ⟨h, hh, ih⟩ := ixs.map_of hx
        obtain ⟨b, m, rfl, hb, im⟩ := ih.hold
        have hlt := lt_get hx
        refine ⟨b, _, rfl, s1 _ _ hb, rfl, _, _, rfl, _, _, rfl, _, _, rfl, rfl, ?_⟩
        refine ⟨_, rfl, _, rfl, _, rfl, _, rfl, (by show 2 ≤ sizeLine; decide), fun p hp => ?_⟩
        have s2 := Same.new (o := HO.tup [.int h.1, .int h.2.1]) hp
        have hd2 := s2 _ _ hd
        have hlk : kvs.length < sizeLine := by
          rw [ht.length]
          unfold tabOf
          rw [List.length_map, List.length_take]
          exact lt1000 (by omega)
        refine ⟨d, _, rfl, DPut.t (k := kk (key h)) hd2 upd_same hlk, ?_⟩
        have tp : Tups H' (upd (upd H' p (.tup [.int h.1, .int h.2.1])) d (.dT (putK kvs (kk (key h)) m))) := fun c o e => by
          rw [upd_ne (fun z => by rw [z, hd] at e; cases e)]
          exact s2 _ _ e
        refine ⟨(s1.trans s2).set nd, rfl, rfl, rfl, _, upd_same, ?_⟩
        have e : tabOf (hs.take (i + 1)) = putT (tabOf (hs.take i)) (key h) h.2.2 := by
          rw [putT_new]
          · unfold tabOf
            rw [take_more hh, List.map_append]
            rfl
          · rw [tabOf_keys]
            intro hm
            have q : (hs.take (i + 1)).map key = (hs.take i).map key ++ [key h] := by
              rw [take_more hh, List.map_append]
              rfl
            have q2 : ((hs.take (i + 1)).map key).Nodup := by
              rw [List.map_take]
              exact hk.sublist (List.take_sublist _ _)
            rw [q] at q2
            exact (List.nodup_append.mp q2).2.2 _ hm _ (List.mem_singleton.mpr rfl) rfl
        rw [e]
        exact (ht.tups tp).put ((im.same s1).tups tp (tupd_mode _))
    · obtain ⟨s1, e0, e1, e2, kvs, hd, ht⟩ := p
      match σ', e2, e0, e1 with
      | [_, _, _, _, _], _, e0, e1 =>
        cases e0
        cases e1
        refine ⟨_, rfl, ?_⟩
        rw [hl, List.take_length] at ht
        exact k d kvs H' s1 nd hd ht
end
end HM
namespace HM
open PySem PySem.Spec PyProof.Rows L2
/-! ### fair holds -/
structure Fair (r : Rules) (t : Tree) (hs : List Hold) : Prop where
  ok : HoldsOk r t hs
  anc : ∀ h ∈ hs, ∀ y ∈ aroundL t h.2.1, ∃ h' ∈ hs, h'.1 = h.1 ∧ h'.2.1 = y ∧ ∀ i ∈ h.2.2.2, i ∈ h'.2.2.2
  go : hs.Pairwise fun a b => a.2.1 = b.2.1 → goesB r a.2.2 b.2.2 = true
theorem ltP_irr {p q : Int × Int} (h : ltP p q) : p ≠ q := by
  rintro rfl
  unfold ltP at h
  omega
theorem HoldsOk.nodup {r : Rules} {t : Tree} {hs : List Hold} (h : HoldsOk r t hs) : (hs.map key).Nodup := h.up.imp fun q => ltP_irr q
theorem getT_of : ∀ {hs : List Hold} {h : Hold}, (hs.map key).Nodup → h ∈ hs → getT (tabOf hs) (key h) = some h.2.2
  | [], _, _, hm => by cases hm
  | a :: hs, h, hn, hm => by
    rw [List.map_cons, List.nodup_cons] at hn
    by_cases c : key a = key h
    · have e : a = h := by
        rcases List.mem_cons.mp hm with e | e
        · exact e.symm
        · exact absurd (List.mem_map.mpr ⟨h, e, rfl⟩) (c ▸ hn.1)
      subst e
      unfold getT tabOf
      rw [List.map_cons, List.find?_cons_of_pos (by simp)]
      rfl
    · have hm' : h ∈ hs := by
        rcases List.mem_cons.mp hm with e | e
        · exact absurd (by rw [e]) c
        · exact e
      have ih := getT_of hn.2 hm'
      unfold getT tabOf at ih ⊢
      rw [List.map_cons, List.find?_cons_of_neg (by simpa using c)]
      exact ih
theorem pw_get {α : Type} {R : α → α → Prop} {l : List α} (h : l.Pairwise R) {i j : Nat} {a b : α} (ha : l[i]? = some a) (hb : l[j]? = some b) (hij : i < j) : R a b := by
  obtain ⟨h1, rfl⟩ := List.getElem?_eq_some_iff.mp ha
  obtain ⟨h2, rfl⟩ := List.getElem?_eq_some_iff.mp hb
  exact List.pairwise_iff_getElem.mp h _ _ h1 h2 hij
/-! ### lacking -/
abbrev sLacking : Stmt := top 38
theorem sc_lacking : FnScope ["tree", "holds", "known", "number", "holder", "thing", "mode", "place"] ["tree", "holds"] (defScope sLacking) := ⟨rfl, rfl, rfl, by decide +kernel, rfl, by decide +kernel, by decide +kernel⟩
def spLacking : Sp := fun vs H Q _ => ∃ (u v : V) (r : Rules) (t : Tree) (hs : List Hold), vs = [u, v] ∧ Is H u (cTree t) ∧ Is H v (cHolds hs) ∧ Fair r t hs ∧ RuOk r ∧ TreeOk t ∧ ∀ H', Same H H' → Q .non H'
section
variable {P : Program} {w : World} {K : PySem.W.Frag} {mg : Str → Option Value} {base : Heap}
theorem ok_lacking (F : Free mg) (D : Dn K mg "lacking" sLacking) (cT : C8.Cal P w K mg base 1 "table_of" spTableOf []) (cA : C8.Cal P w K mg base 1 "around" spAround []) (cW : C8.Cal P w K mg base 1 "is_within" spIsWithin []) : C8.Cal P w K mg base 2 "lacking" spLacking [] := by
  refine cal_of D sc_lacking (fun _ _ _ _ _ _ us hl => match us, hl with | [_, _], _ => rfl) (fun vs H Q E h => ?_) (fun f cdv A outer s H vs Q E hr h => ?_)
  · obtain ⟨u, v, r, t, hs, rfl, _⟩ := h
    rfl
  · obtain ⟨u, v, r, t, hs, rfl, hu, hv, hF, hR, hT, k⟩ := h
    refine ⟨_, pss_cons (ps_set (i := 2) sc_lacking.nd rfl (Or.inl rfl) (C8.pe_c cT hr (by decide) (by rfl) (pa_cons (pv 1) pa_nil)))
      (pss_cons (ps_for PassesOwn.never rfl (pi_enumT (by rfl) F.enumerate (pa_cons (pv 1) pa_nil)) (pgT rfl (pgs_cons (pg_name (i := 3) sc_lacking.nd rfl (Or.inl rfl)) (pgs_cons (pgT rfl (pgs_cons (pg_name (i := 4) sc_lacking.nd rfl (Or.inl rfl)) (pgs_cons (pg_name (i := 5) sc_lacking.nd rfl (Or.inl rfl)) (pgs_cons (pg_name (i := 6) sc_lacking.nd rfl (Or.inl rfl)) pgs_nil)))) pgs_nil)))
        (pss_one (ps_for PassesOwn.never rfl (pi_tup (C8.pe_c cA hr (by decide) (by rfl) (pa_cons (pv 0) (pa_cons (pv 5) pa_nil)))) (pg_name (i := 7) sc_lacking.nd rfl (Or.inl rfl))
          (pss_one (ps_if (PW.pt (pw_or (pt_cmp (pc_dnotin (hu_of hr) (pe_tup (pa_cons (pv 4) (pa_cons (pv 7) pa_nil))) (pv 2)))
            (pw_or1 (pt_not (pt_val (C8.pe_c cW hr (by decide) (by rfl) (pa_cons (pe_ix ixT (pv 6) pe_int (fun _ _ => rfl)) (pa_cons (pe_ix ixT (pe_dget (hu_of hr) (pv 2) (pe_tup (pa_cons (pv 4) (pa_cons (pv 7) pa_nil))) (fun _ _ => rfl)) pe_int (fun _ _ => rfl)) pa_nil))))))))
            (pss_one (ps_ret (pe_tup (pa_cons pe_str (pa_cons (pv 3) (pa_cons (pv 7) pa_nil)))))) pss_nil)))))
      (pss_one (ps_ret pe_non))), ?_⟩
    obtain ⟨a, xs, rfl, ha, ixs⟩ := hv.holds
    have hl := ixs.length
    rw [List.length_map] at hl
    have h48 := hF.ok.len hT
    refine ⟨_, rfl, .ref a, hs, rfl, hv, by omega, hF.ok.nodup, fun d kvs H1 s1 nd hd ht => ?_⟩
    refine ⟨_, rfl, a, xs, rfl, .of (s1 _ _ ha), for_any (J := ItE K a) (n := xs.length) (fun i σ' H' => Same H1 H' ∧ σ'[0]? = some (some u) ∧ σ'[2]? = some (some (.ref d)) ∧ σ'.length = 8) ⟨Same.refl _, rfl, rfl, rfl⟩ (fun i σ' H' hi p => ?_) (fun σ' H' p => ⟨xs, .of (p.1 _ _ (s1 _ _ ha)), Nat.le_refl _⟩) (fun i x σ' H2 H3 hi p y => ?_) (fun σ' H' p => k H' (s1.trans p.1))⟩
    · obtain ⟨x, hx⟩ := get_lt hi
      exact ⟨xs, x, .of (p.1 _ _ (s1 _ _ ha)), hx⟩
    · obtain ⟨s2, e0, e1, e2⟩ := p
      obtain ⟨T, z, rfl, hT0, rfl, hz⟩ := y
      have hz := hz xs (.of (s2 _ _ (s1 _ _ ha)))
      have s3 := Same.new (o := HO.tup [.int (i : Nat), z]) hT0
      obtain ⟨h, hh, ih⟩ := ixs.map_of hz
      have hm := List.mem_of_getElem? hh
      obtain ⟨b, m, rfl, hb, im⟩ := ih.hold
      have hok := hF.ok.ok h hm
      have s13 := (s1.trans s2).trans s3
      match σ', e2, e0, e1 with
      | [_, _, _, _, _, _, _, _], _, e0, e1 =>
        cases e0
        cases e1
        refine ⟨T, _, rfl, upd_same, rfl, _, _, rfl, _, _, rfl, ⟨b, _, rfl, s13 _ _ hb, rfl, _, _, rfl, _, _, rfl, _, _, rfl, rfl, rfl, ?_⟩⟩
        refine ⟨_, rfl, _, rfl, u, t, h.2.1, rfl, hu.same s13, hT, hok.at_, fun pl H4 s4 hpl => ?_⟩
        obtain ⟨q, rfl, hq⟩ := hpl.lot
        refine ⟨q, rfl, ⟨_, .of hq⟩, for_tup (K := K) (a := q) (xs := (aroundL t h.2.1).map V.int) (fun j σ' H' => Same H4 H' ∧ ∃ o, σ' = [some u, _, some (.ref d), _, some (.int h.1), some (.int h.2.1), some m, o]) ⟨Same.refl _, _, rfl⟩ (fun j σ' H' _ p => .of (p.1 _ _ hq)) (fun j x σ' H' hx p => ?_) (fun σ' H' p => ?_)⟩
        · obtain ⟨s5, o, rfl⟩ := p
          rw [List.getElem?_map] at hx
          obtain ⟨y, hy, rfl⟩ := Option.map_eq_some_iff.mp hx
          obtain ⟨h', hm', q1, q2, q3⟩ := hF.anc h hm y (List.mem_of_getElem? hy)
          have s15 := (s13.trans s4).trans s5
          have hd' := s5 _ _ (s4 _ _ (s3 _ _ (s2 _ _ hd)))
          have s25 := ((s2.trans s3).trans s4).trans s5
          have ht' := ht.tups s25.tups
          have ek : key h' = (h.1, y) := by
            unfold key
            rw [q1, q2]
          have eg := getT_of hF.ok.nodup hm'
          rw [ek] at eg
          rcases ht'.val (h.1, y) with ⟨_, bad⟩ | ⟨v', m', g1, g2, g3⟩
          · rw [eg] at bad
            cases bad
          · rw [eg] at g2
            cases g2
            refine ⟨_, rfl, _, rfl, (by show 2 ≤ sizeLine; decide), fun p hp => ?_⟩
            have s6 := Same.new (o := HO.tup [.int h.1, .int y]) hp
            refine ⟨_, rfl, d, _, rfl, DGet.t (k := kk (h.1, y)) (s6 _ _ hd') upd_same, ?_⟩
            rw [g1]
            refine ⟨_, rfl, ?_⟩
            refine iteF ?_
            obtain ⟨ma, mb, mc, rfl, hma, hmb, hmc⟩ := im.mode
            refine ⟨_, rfl, ma, _, 1, .ref mc, rfl, rfl, s6 _ _ (s15 _ _ hma), atI_nat (j := 1) rfl, _, rfl, _, rfl, _, rfl, (by show 2 ≤ sizeLine; decide), fun p2 hp2 => ?_⟩
            have s7 := Same.new (o := HO.tup [.int h.1, .int y]) hp2
            refine ⟨d, v', rfl, ?_, ?_⟩
            · rw [← g1]
              exact DGet.t (k := kk (h.1, y)) (s7 _ _ (s6 _ _ hd')) upd_same
            · obtain ⟨na, nb, nc, rfl, hna, hnb, hnc⟩ := g3.mode
              have s67 := s6.trans s7
              refine ⟨na, _, 1, .ref nc, rfl, rfl, s67 _ _ hna, atI_nat (j := 1) rfl, .ref mc, .ref nc, h.2.2.2, h'.2.2.2, rfl, is_lot_mk (s67 _ _ (s15 _ _ hmc)), is_lot_mk (s67 _ _ hnc), ?_, fun H8 s8 => ⟨_, rfl, ?_⟩⟩
              · have := hok.mode.means.len
                have := hR.hi
                omega
              · rw [show withinB h.2.2.2 h'.2.2.2 = true from List.all_eq_true.mpr fun i hi => decide_eq_true (q3 i hi)]
                exact iteF ⟨(s5.trans s67).trans s8, _, rfl⟩
        · obtain ⟨s5, o, rfl⟩ := p
          exact ⟨((s2.trans s3).trans s4).trans s5, rfl, rfl, rfl⟩
end
/-! ### pairs_at -/
def cPr (h : Hold) : PyData := .tuple [.int h.1, cMode h.2.2]
theorem tupd_pr (h : Hold) : tupd (cPr h) = true := by
  show (true && (tupd (cMode h.2.2) && true)) = true
  rw [tupd_mode] <;> rfl
def atL (hs : List Hold) (x : Int) : List Hold := hs.filter fun h => decide (h.2.1 = x)
abbrev sPairsAt : Stmt := top 39
theorem sc_pairsAt : FnScope ["holds", "thing", "holder", "place", "mode"] ["holds", "thing"] (defScope sPairsAt) := ⟨rfl, rfl, rfl, by decide +kernel, rfl, by decide +kernel, by decide +kernel⟩
def spPairsAt : Sp := fun vs H Q _ => ∃ (v : V) (hs : List Hold) (x : Int), vs = [v, .int x] ∧ Is H v (cHolds hs) ∧ hs.length < 1000 ∧ ∀ d H', Same H H' → H d = none → Is H' (.ref d) (.list ((atL hs x).map cPr)) → Q (.ref d) H'
theorem Is.pr {H : Hp} {v : V} {h : Hold} (q : Is H v (cPr h)) : ∃ a m, v = .ref a ∧ H a = some (.tup [.int h.1, m]) ∧ Is H m (cMode h.2.2) := by
  obtain ⟨a, xs, e, h1, h2⟩ := q.tup_inv
  cases h2 with
  | cons x y =>
    cases y with
    | cons y z =>
      cases z
      obtain rfl := x.int_inv
      exact ⟨a, _, e, h1, y⟩
section
variable {P : Program} {w : World} {K : PySem.W.Frag} {mg : Str → Option Value} {base : Heap}
theorem ok_pairsAt (D : Dn K mg "pairs_at" sPairsAt) : C8.Cal P w K mg base 1 "pairs_at" spPairsAt [] := by
  refine cal_of D sc_pairsAt (fun _ _ _ _ _ _ us hl => match us, hl with | [_, _], _ => rfl) (fun vs H Q E h => ?_) (fun f cdv A outer s H vs Q E hr h => ?_)
  · obtain ⟨v, hs, x, rfl, _⟩ := h
    rfl
  · obtain ⟨v, hs, x, rfl, hv, hn, k⟩ := h
    refine ⟨_, pss_one (ps_ret (pe_lc (own := [("holder", 2), ("place", 3), ("mode", 4)]) (g := gT 3 (gCons (gName 2) (gCons (gName 3) (gCons (gName 4) gNil)))) (tt := tTest (tOp rEq (tVar 3) (tVar 1))) (te := tTup (tCons (tVar 2) (tCons (tVar 4) tNil))) rfl sc_pairsAt.nd
        (pi_tup (pv 0)) (blkOk_by (N := ["holds", "thing", "holder", "place", "mode"]) (sc := defScope sPairsAt) (own := [("holder", 2), ("place", 3), ("mode", 4)]) (by decide +kernel))
        (fun _ _ _ _ _ => by exact (pgT rfl (by exact (pgs_cons (by exact (pg_name (i := 2) sc_pairsAt.nd rfl (.inl rfl))) (by exact (pgs_cons (by exact (pg_name (i := 3) sc_pairsAt.nd rfl (.inl rfl))) (by exact (pgs_cons (by exact (pg_name (i := 4) sc_pairsAt.nd rfl (.inl rfl))) pgs_nil))))))))
        (fun _ _ _ _ _ => by exact (pts_one (by exact (pt_cmpR op_eq (pv 3) (pv 1) (nomark _)))))
        (fun _ _ _ _ _ => by exact (pe_tup (pa_cons (pv 2) (pa_cons (pv 4) pa_nil)))))), ?_⟩
    obtain ⟨a, xs, rfl, ha, ixs⟩ := hv.holds
    have hl := ixs.length
    rw [List.length_map] at hl
    refine ⟨_, rfl, a, rfl, ⟨_, .of ha⟩, fun D nD => lc_tup (K := K) (a := a) (xs := xs) (fun i H' => Same H H' ∧ ∃ ys, H' D = some (.lst ys) ∧ IsAll H' ys ((atL (hs.take i) x).map cPr)) ⟨Same.new nD, [], upd_same, .nil⟩ (fun i H' _ p => .of (p.1 _ _ ha)) (fun i z H' hz p => ?_) (fun H' p => ?_)⟩
    · obtain ⟨s1, ys, hD, iys⟩ := p
      obtain ⟨h, hh, ih⟩ := ixs.map_of hz
      have hlt := lt_get hz
      obtain ⟨b, m, rfl, hb, im⟩ := ih.hold
      refine ⟨b, _, rfl, s1 _ _ hb, rfl, _, _, rfl, _, _, rfl, _, _, rfl, rfl, rfl, ?_⟩
      refine ⟨_, rfl, _, rfl, rfl, _, rfl, ?_⟩
      rw [beqI]
      have ef : atL (hs.take (i + 1)) x = atL (hs.take i) x ++ (if h.2.1 = x then [h] else []) := by
        unfold atL
        rw [take_more hh, List.filter_append]
        congr 1
        by_cases c : h.2.1 = x
        · rw [List.filter_cons_of_pos (by simpa using c), if_pos c]
          rfl
        · rw [List.filter_cons_of_neg (by simpa using c), if_neg c]
          rfl
      by_cases c : h.2.1 = x
      · rw [decide_eq_true c]
        refine iteT ?_
        refine ⟨_, rfl, _, rfl, (by show 2 ≤ sizeLine; decide), fun p hp => ?_⟩
        have s2 := Same.new (o := HO.tup [.int h.1, m]) hp
        have hD2 := s2 _ _ hD
        have hly := iys.length
        have hfl : (atL (hs.take i) x).length ≤ i := by
          unfold atL
          refine Nat.le_trans (List.length_filter_le _ _) ?_
          rw [List.length_take]
          omega
        rw [List.length_map] at hly
        refine ⟨ys, hD2, lt1000 (by omega), (s1.trans s2).set nD, _, upd_same, ?_⟩
        have np : p ≠ D := fun e => by rw [e, hD] at hp; cases hp
        have tp : Tups H' (upd (upd H' p (.tup [.int h.1, m])) D (.lst (ys ++ [.ref p]))) := fun c o e => by
          rw [upd_ne (fun z => by rw [z, hD] at e; cases e)]
          exact s2 _ _ e
        rw [ef, if_pos c, List.map_append]
        exact (IsAll.tups tp iys (tupdAll_map tupd_pr _)).append (.one (.tup (xs := [.int h.1, m]) (by rw [upd_ne np, upd_same]) (.cons (.int _) (.cons ((im.same s1).tups tp (tupd_mode _)) .nil))))
      · rw [decide_eq_false c]
        refine iteF ⟨s1, ys, hD, ?_⟩
        rw [ef, if_neg c, List.append_nil]
        exact iys
    · obtain ⟨s1, ys, hD, iys⟩ := p
      rw [hl, List.take_length] at iys
      exact k D H' s1 nD (.lst hD iys)
end
end HM
namespace HM
open PySem PySem.Spec PyProof.Rows L2
/-! ### fault -/
theorem cutV_from (xs : List V) (n : Nat) : cutV xs (some (n : Int)) none = xs.drop n := by
  unfold cutV
  rw [HT.sIx_nat, HT.sIx_none]
  by_cases h : n ≤ xs.length
  · rw [Nat.min_eq_left h]
    exact List.take_of_length_le (by rw [List.length_drop]; omega)
  · rw [Nat.min_eq_right (by omega)]
    rw [List.drop_eq_nil_of_le (Nat.le_refl _), List.drop_eq_nil_of_le (by omega)]
    simp
theorem atL_go {r : Rules} {t : Tree} {hs : List Hold} (h : Fair r t hs) (x : Int) : (atL hs x).Pairwise fun a b => goesB r a.2.2 b.2.2 = true := by
  unfold atL
  have q := h.go.filter (fun h => decide (h.2.1 = x))
  refine List.Pairwise.imp_of_mem (fun {a b} ha hb g => ?_) q
  have ea : a.2.1 = x := of_decide_eq_true (List.mem_filter.mp ha).2
  have eb : b.2.1 = x := of_decide_eq_true (List.mem_filter.mp hb).2
  exact g (ea.trans eb.symm)
theorem atL_mem {hs : List Hold} {x : Int} {h : Hold} (q : h ∈ atL hs x) : h ∈ hs := (List.mem_filter.mp q).1
abbrev sFault : Stmt := top 40
theorem sc_fault : FnScope ["rules", "tree", "holds", "found", "thing", "here", "number", "one", "mode", "other", "second"] ["rules", "tree", "holds"] (defScope sFault) := ⟨rfl, rfl, rfl, by decide +kernel, rfl, by decide +kernel, by decide +kernel⟩
def spFault : Sp := fun vs H Q _ => ∃ (u v z : V) (r : Rules) (t : Tree) (hs : List Hold), vs = [u, v, z] ∧ Is H u (cRules r) ∧ Is H v (cTree t) ∧ Is H z (cHolds hs) ∧ Fair r t hs ∧ RuOk r ∧ TreeOk t ∧ ∀ H', Same H H' → Q .non H'
section
variable {P : Program} {w : World} {K : PySem.W.Frag} {mg : Str → Option Value} {base : Heap}
theorem ok_fault (F : Free mg) (D : Dn K mg "fault" sFault) (cL : C8.Cal P w K mg base 2 "lacking" spLacking []) (cP : C8.Cal P w K mg base 1 "pairs_at" spPairsAt []) (cG : C8.Cal P w K mg base 4 "goes" spGoes []) : C8.Cal P w K mg base 5 "fault" spFault [] := by
  refine cal_of D sc_fault (fun _ _ _ _ _ _ us hl => match us, hl with | [_, _, _], _ => rfl) (fun vs H Q E h => ?_) (fun f cdv A outer s H vs Q E hr h => ?_)
  · obtain ⟨u, v, z, r, t, hs, rfl, _⟩ := h
    rfl
  · obtain ⟨u, v, z, r, t, hs, rfl, hu, hv, hz, hF, hR, hT, k⟩ := h
    refine ⟨_, pss_cons (ps_set (i := 3) sc_fault.nd rfl (Or.inl rfl) (C8.pe_c cL hr (by decide) (by rfl) (pa_cons (pv 1) (pa_cons (pv 2) pa_nil))))
      (pss_cons (ps_if (pt_cmp (pc_notN (pv 3))) (pss_one (ps_ret (pv 3))) pss_nil)
      (pss_cons (ps_for PassesOwn.never rfl (pi_range1 (by rfl) F.range (pa_cons (pe_callB callLen (by rfl) F.len PySem.boot_len (pa_cons (pv 1) pa_nil)) pa_nil)) (pg_name (i := 4) sc_fault.nd rfl (Or.inl rfl))
        (pss_cons (ps_set (i := 5) sc_fault.nd rfl (Or.inl rfl) (C8.pe_c cP hr (by decide) (by rfl) (pa_cons (pv 2) (pa_cons (pv 4) pa_nil))))
        (pss_one (ps_for PassesOwn.never rfl (pi_enum (by rfl) F.enumerate (pa_cons (pv 5) pa_nil)) (pgT rfl (pgs_cons (pg_name (i := 6) sc_fault.nd rfl (Or.inl rfl)) (pgs_cons (pgT rfl (pgs_cons (pg_name (i := 7) sc_fault.nd rfl (Or.inl rfl)) (pgs_cons (pg_name (i := 8) sc_fault.nd rfl (Or.inl rfl)) pgs_nil))) pgs_nil)))
          (pss_one (ps_for PassesOwn.never rfl (pi_list (pe_slice sl_list (pv 5) (po_some (pe_op op_add (pv 6) pe_int)) po_none)) (pgT rfl (pgs_cons (pg_name (i := 9) sc_fault.nd rfl (Or.inl rfl)) (pgs_cons (pg_name (i := 10) sc_fault.nd rfl (Or.inl rfl)) pgs_nil)))
            (pss_one (ps_if (pt_not (pt_val (C8.pe_c cG hr (by decide) (by rfl) (pa_cons (pv 0) (pa_cons (pv 8) (pa_cons (pv 10) pa_nil))))))
              (pss_one (ps_ret (pe_tup (pa_cons pe_str (pa_cons (pv 4) (pa_cons (pv 7) (pa_cons (pv 9) pa_nil))))))) pss_nil))))))))
      (pss_one (ps_ret pe_non)))), ?_⟩
    obtain ⟨b, ys, rfl, hb, iys⟩ := hv.tup_inv
    have hl := iys.length
    rw [List.length_map] at hl
    have h48 := hF.ok.len hT
    have hhi := hT.hi
    refine ⟨_, rfl, _, rfl, .ref b, z, r, t, hs, rfl, hv, hz, hF, hR, hT, fun H1 s1 => ?_⟩
    refine ⟨_, rfl, _, rfl, ?_⟩
    refine iteF ?_
    refine ⟨_, rfl, b, ys, rfl, .inl (s1 _ _ hb), _, rfl, by omega, by omega, for_range (lo := 0) (n := (((ys.length : Nat) : Int) - 0).toNat) (fun i σ' H' => Same H1 H' ∧ σ'[0]? = some (some u) ∧ σ'[2]? = some (some z) ∧ σ'.length = 11) ⟨Same.refl _, rfl, rfl, rfl⟩ (fun i σ' H' hi p => ?_) (fun σ' H' p => k H' (s1.trans p.1))⟩
    obtain ⟨s2, e0, e1, e2⟩ := p
    match σ', e2, e0, e1 with
    | [_, _, _, _, _, _, _, _, _, _, _], _, e0, e1 =>
      cases e0
      cases e1
      have s12 := s1.trans s2
      refine ⟨_, rfl, _, rfl, z, hs, 0 + (i : Int), rfl, hz.same s12, by omega, fun d H2 s3 nd hd => ?_⟩
      obtain ⟨_, zs, e, hd, izs⟩ := hd.lst_inv
      cases e
      have hlz := izs.length
      rw [List.length_map] at hlz
      refine ⟨_, rfl, d, zs, rfl, .of hd, for_any (J := Ite K d) (n := zs.length) (fun j σ' H' => Same H2 H' ∧ σ'[0]? = some (some u) ∧ σ'[2]? = some (some z) ∧ σ'[5]? = some (some (.ref d)) ∧ σ'.length = 11) ⟨Same.refl _, rfl, rfl, rfl, rfl⟩ (fun j σ' H' hj p => ?_) (fun σ' H' p => ⟨zs, .of (p.1 _ _ hd), Nat.le_refl _⟩) (fun j x σ' H3 H4 hj p y => ?_) (fun σ' H' p => ⟨(s2.trans s3).trans p.1, p.2.1, p.2.2.1, p.2.2.2.2⟩)⟩
      · obtain ⟨x, hx⟩ := get_lt hj
        exact ⟨zs, x, .of (p.1 _ _ hd), hx⟩
      · obtain ⟨s4, e0, e1, e3, e2⟩ := p
        obtain ⟨T, q, rfl, hT0, rfl, hq⟩ := y
        have hq := hq zs (.of (s4 _ _ hd))
        have s5 := Same.new (o := HO.tup [.int (j : Nat), q]) hT0
        have s25 := s4.trans s5
        obtain ⟨h1, hh1, ih1⟩ := izs.map_of hq
        have hm1 := atL_mem (List.mem_of_getElem? hh1)
        obtain ⟨c, m, rfl, hc, im⟩ := ih1.pr
        match σ', e2, e0, e1, e3 with
        | [_, _, _, _, _, _, _, _, _, _, _], _, e0, e1, e3 =>
          cases e0
          cases e1
          cases e3
          refine ⟨T, _, rfl, upd_same, rfl, _, _, rfl, _, _, rfl, ⟨c, _, rfl, s25 _ _ hc, rfl, _, _, rfl, _, _, rfl, rfl, rfl, ?_⟩⟩
          refine ⟨_, rfl, _, rfl, _, _, rfl, rfl, _, rfl, d, zs, rfl, .of (s25 _ _ hd), fun p hp => ?_⟩
          have ec : cutV zs (some (((j : Nat) : Int) + 1)) none = zs.drop (j + 1) := cutV_from zs (j + 1)
          rw [ec]
          have s6 := Same.new (o := HO.lst (zs.drop (j + 1))) hp
          refine ⟨p, rfl, ⟨_, .of upd_same⟩, for_list (K := K) (a := p) (xs := zs.drop (j + 1)) (fun l σ' H' => Same (upd (upd H3 T (.tup [.int (j : Nat), .ref c])) p (.lst (zs.drop (j + 1)))) H' ∧ σ'[0]? = some (some u) ∧ σ'[2]? = some (some z) ∧ σ'[5]? = some (some (.ref d)) ∧ σ'[8]? = some (some m) ∧ σ'.length = 11) ⟨Same.refl _, rfl, rfl, rfl, rfl, rfl⟩ (fun l σ' H' _ q => .of (q.1 _ _ upd_same)) (fun l x σ' H' hx q => ?_) (fun σ' H' q => ⟨(s25.trans s6).trans q.1, q.2.1, q.2.2.1, q.2.2.2.1, q.2.2.2.2.2⟩)⟩
          obtain ⟨s7, e0, e1, e3, e4, e2⟩ := q
          rw [List.getElem?_drop] at hx
          obtain ⟨h2, hh2, ih2⟩ := izs.map_of hx
          have hm2 := atL_mem (List.mem_of_getElem? hh2)
          obtain ⟨c2, m2, rfl, hc2, im2⟩ := ih2.pr
          have s27 := (s25.trans s6).trans s7
          match σ', e2, e0, e1, e3, e4 with
          | [_, _, _, _, _, _, _, _, _, _, _], _, e0, e1, e3, e4 =>
            cases e0
            cases e1
            cases e3
            cases e4
            refine ⟨c2, _, rfl, s27 _ _ hc2, rfl, _, _, rfl, _, _, rfl, rfl, ?_⟩
            refine ⟨_, rfl, _, rfl, _, rfl, u, m, m2, r, h1.2.2, h2.2.2, rfl, hu.same ((s12.trans s3).trans s27), im.same s27, im2.same s27, (hF.ok.ok h1 hm1).mode.len hR.hi, (hF.ok.ok h2 hm2).mode.len hR.hi, hR, fun H5 s8 => ⟨_, rfl, ?_⟩⟩
            rw [pw_get (atL_go hF _) hh1 hh2 (by omega)]
            exact iteF ⟨s7.trans s8, rfl, rfl, rfl, rfl, rfl⟩
end
end HM
namespace HM
open PySem PySem.Spec PyProof.Rows L2
/-! ### may -/
/-- the def st, made under the name x, stands under the module's name y -/
structure DnA (K : PySem.W.Frag) (mg : Str → Option Value) (x y : Str) (st : Stmt) : Prop where
  ex : ∃ (f : Addr) (fd : FuncData), FunD K x x (defArgs st) (defBody st) (defScope st) [] [] f fd ∧ mg y = some (.ref f)
theorem Dn.al {K : PySem.W.Frag} {mg : Str → Option Value} {x : Str} {st : Stmt} (h : Dn K mg x st) : DnA K mg x x st := ⟨h.ex⟩
section
variable {P : Program} {w : World} {K : PySem.W.Frag} {mg : Str → Option Value} {base : Heap}
theorem cal_al {x y : Str} {st : Stmt} {N ps : List Str} {k : Nat} {sp : Sp} (D : DnA K mg x y st) (S : FnScope N ps (defScope st))
    (hb : ∀ (kV doc pm : Value) (an : Option Addr) (cdv ct : Value) (us : List Value), us.length = ps.length → bindArgs (PySem.W.fnOf x x (defArgs st) (defBody st) (defScope st) .none kV doc pm an cdv ct) ⟨us, []⟩ = pure (ps.zip us))
    (len : ∀ vs H Q E, sp vs H Q E → vs.length = ps.length)
    (hbody : ∀ (f : Addr) (cdv : Value) (A : Around) (outer : List Env) (s : Shared) (H : Hp) (vs : List V) (Q : VK) (E : XK), Room k (A.deeper (envOfC x (defScope st) s.heap.objs.size f cdv)) → sp vs H Q E →
      ∃ t, PSs (cxOf C8.CX0 P w K mg base N x (defScope st) f cdv A outer s H E).nox (defBody st) t ∧ t { nx := fun _ H' => Q .non H', rt := Q } (start N vs) H) : C8.Cal P w K mg base (k + 1) y sp [] := by
  obtain ⟨f, fd, F, hm⟩ := D.ex
  exact ⟨f, fd, ps, [], F.ok S len fun cdv A outer s H vs Q E hr h => by
    obtain ⟨t, h1, h2⟩ := hbody f cdv A outer s H vs Q E hr h
    exact ⟨t, h1.nox, h2⟩, hm, F.kp, F.bindsN hb, .nil⟩
end
def mayP (t : Tree) (hs : List Hold) (who x a : Int) : Bool := hs.any fun h => decide (h.1 = who) && (decide (h.2.1 ∈ aroundL t x) && decide (a ∈ h.2.2.1))
def mayL (t : Tree) (hs : List Hold) (who x : Int) : Lot := (rangeZ 6).filter (mayP t hs who x)
theorem filter_in6 (p : Int → Bool) : In6 ((rangeZ 6).filter p) := fun i hi => mem_rangeZ.mp (List.mem_filter.mp hi).1
theorem filter_nodup (p : Int → Bool) : ((rangeZ 6).filter p).Nodup := (filter_lot (n := 6) p).nodup
theorem mayL_nil (t : Tree) (who x : Int) : mayL t [] who x = [] := by
  unfold mayL
  rw [List.filter_eq_nil_iff]
  intro a _
  simp [mayP]
theorem mayL_step (t : Tree) (hs : List Hold) (h : Hold) (who x : Int) : mayL t (hs ++ [h]) who x = if h.1 = who ∧ h.2.1 ∈ aroundL t x then bothL (mayL t hs who x) h.2.2.1 else mayL t hs who x := by
  have e : ∀ a, mayP t (hs ++ [h]) who x a = (mayP t hs who x a || (decide (h.1 = who) && (decide (h.2.1 ∈ aroundL t x) && decide (a ∈ h.2.2.1)))) := fun a => by
    unfold mayP
    rw [List.any_append]
    simp
  by_cases c : h.1 = who ∧ h.2.1 ∈ aroundL t x
  · rw [if_pos c]
    unfold mayL bothL
    refine List.filter_congr fun a ha => ?_
    rw [e, decide_eq_true c.1, decide_eq_true c.2, Bool.true_and, Bool.true_and]
    congr 1
    by_cases q : mayP t hs who x a = true
    · rw [q, decide_eq_true (List.mem_filter.mpr ⟨ha, q⟩)]
    · rw [decide_eq_false fun z => q (List.mem_filter.mp z).2]
      simpa using q
  · rw [if_neg c]
    unfold mayL
    refine List.filter_congr fun a ha => ?_
    rw [e]
    by_cases c1 : h.1 = who
    · have c2 : ¬ h.2.1 ∈ aroundL t x := fun z => c ⟨c1, z⟩
      rw [decide_eq_false c2]
      simp
    · rw [decide_eq_false c1]
      simp
abbrev sMay : Stmt := top 41
theorem sc_may : FnScope ["tree", "holds", "holder", "thing", "places", "found", "own", "place", "mode"] ["tree", "holds", "holder", "thing"] (defScope sMay) := ⟨rfl, rfl, rfl, by decide +kernel, rfl, by decide +kernel, by decide +kernel⟩
def spMay : Sp := fun vs H Q _ => ∃ (u v : V) (r : Rules) (t : Tree) (hs : List Hold) (who x : Int), vs = [u, v, .int who, .int x] ∧ Is H u (cTree t) ∧ Is H v (cHolds hs) ∧ HoldsOk r t hs ∧ RuOk r ∧ TreeOk t ∧ InT t x ∧ ∀ y H', Same H H' → Is H' y (cLot (mayL t hs who x)) → Q y H'
section
variable {P : Program} {w : World} {K : PySem.W.Frag} {mg : Str → Option Value} {base : Heap}
theorem ok_may {y : Str} (D : DnA K mg "may" y sMay) (cA : C8.Cal P w K mg base 1 "around" spAround []) (cB : C8.Cal P w K mg base 1 "both" spBoth []) : C8.Cal P w K mg base 2 y spMay [] := by
  refine cal_al D sc_may (fun _ _ _ _ _ _ us hl => match us, hl with | [_, _, _, _], _ => rfl) (fun vs H Q E h => ?_) (fun f cdv A outer s H vs Q E hr h => ?_)
  · obtain ⟨u, v, r, t, hs, who, x, rfl, _⟩ := h
    rfl
  · obtain ⟨u, v, r, t, hs, who, x, rfl, hu, hv, ho, hR, hT, hx, k⟩ := h
    refine ⟨_, pss_cons (ps_par (i := 4) (j := 5) rfl sc_may.nd rfl rfl (by decide) rfl rfl (pa_cons (C8.pe_c cA hr (by decide) (by rfl) (pa_cons (pv 0) (pa_cons (pv 3) pa_nil))) (pa_cons (pe_tup pa_nil) pa_nil)) rfl)
      (pss_cons (ps_for PassesOwn.never rfl (pi_tup (pv 1)) (pgT rfl (pgs_cons (pg_name (i := 6) sc_may.nd rfl (Or.inl rfl)) (pgs_cons (pg_name (i := 7) sc_may.nd rfl (Or.inl rfl)) (pgs_cons (pg_name (i := 8) sc_may.nd rfl (Or.inl rfl)) pgs_nil))))
        (pss_one (ps_if (PW.pt (pw_and (pt_cmpR op_eq (pv 6) (pv 2) (nomark _)) (pw_and1 (pt_cmpR (op_inI hr) (pv 7) (pv 4) (by rfl)))))
          (pss_one (ps_set (i := 5) sc_may.nd rfl (Or.inl rfl) (C8.pe_c cB hr (by decide) (by rfl) (pa_cons (pv 5) (pa_cons (pe_ix ixT (pv 8) pe_int (fun _ _ => rfl)) pa_nil))))) pss_nil)))
      (pss_one (ps_ret (pv 5)))), ?_⟩
    obtain ⟨a, xs, rfl, ha, ixs⟩ := hv.holds
    have hl := ixs.length
    rw [List.length_map] at hl
    refine ⟨_, rfl, _, rfl, u, t, x, rfl, hu, hT, hx, fun pl H1 s1 hpl => ?_⟩
    refine ⟨(by show 0 ≤ sizeLine; decide), fun p hp => ?_⟩
    have s2 := Same.new (o := HO.tup []) hp
    have s12 := s1.trans s2
    refine ⟨_, _, rfl, ?_⟩
    refine ⟨_, rfl, a, rfl, ⟨_, .of (s12 _ _ ha)⟩, for_tup (K := K) (a := a) (xs := xs) (fun i σ' H' => Same (upd H1 p (.tup [])) H' ∧ σ'[2]? = some (some (.int who)) ∧ σ'[4]? = some (some pl) ∧ σ'.length = 9 ∧ ∃ y, σ'[5]? = some (some y) ∧ Is H' y (cLot (mayL t (hs.take i) who x))) ⟨Same.refl _, rfl, rfl, rfl, .ref p, rfl, ?_⟩ (fun i σ' H' _ q => .of (q.1 _ _ (s12 _ _ ha))) (fun i z σ' H' hz q => ?_) (fun σ' H' q => ?_)⟩
    · rw [List.take_zero, mayL_nil]
      exact is_lot_mk upd_same
    · obtain ⟨s3, e0, e1, e2, y, e3, hy⟩ := q
      obtain ⟨h, hh, ih⟩ := ixs.map_of hz
      have hm := List.mem_of_getElem? hh
      have hok := ho.ok h hm
      obtain ⟨b, m, rfl, hb, im⟩ := ih.hold
      obtain ⟨ma, mb, mc, rfl, hma, hmb, hmc⟩ := im.mode
      have s13 := s12.trans s3
      match σ', e2, e0, e1, e3 with
      | [_, _, _, _, _, _, _, _, _], _, e0, e1, e3 =>
        cases e0
        cases e1
        cases e3
        refine ⟨b, _, rfl, s13 _ _ hb, rfl, _, _, rfl, _, _, rfl, _, _, rfl, rfl, ?_⟩
        refine ⟨_, rfl, _, rfl, rfl, _, rfl, ?_⟩
        rw [beqI, take_more hh, mayL_step]
        by_cases c1 : h.1 = who
        · rw [decide_eq_true c1]
          refine iteT ?_
          refine ⟨_, rfl, _, rfl, h.2.1, _, rfl, hpl.same (s2.trans s3), _, rfl, ?_⟩
          by_cases c2 : h.2.1 ∈ aroundL t x
          · rw [decide_eq_true c2, if_pos ⟨c1, c2⟩]
            refine iteT ?_
            refine ⟨_, rfl, _, rfl, ma, _, 0, .ref mb, rfl, rfl, s13 _ _ hma, atI_nat (j := 0) rfl, _, .ref mb, _, h.2.2.1, rfl, hy, is_lot_mk (s13 _ _ hmb), filter_in6 _, hok.mode.own.in6 hR.hi, filter_nodup _, hok.mode.own.nodup, fun y' H4 s4 hy' => ?_⟩
            exact ⟨s3.trans s4, rfl, rfl, rfl, y', rfl, hy'⟩
          · rw [decide_eq_false c2, if_neg fun z => c2 z.2]
            exact iteF ⟨s3, rfl, rfl, rfl, _, rfl, hy⟩
        · rw [decide_eq_false c1, if_neg fun z => c1 z.1]
          exact iteF ⟨s3, rfl, rfl, rfl, _, rfl, hy⟩
    · obtain ⟨s3, e0, e1, e2, y, e3, hy⟩ := q
      rw [hl, List.take_length] at hy
      match σ', e2, e3 with
      | [_, _, _, _, _, _, _, _, _], _, e3 =>
        cases e3
        exact ⟨_, rfl, k y H' (s12.trans s3) hy⟩
end
/-! ### clash_at, clash -/
def NoClash (r : Rules) (t : Tree) (hs : List Hold) (x one other : Int) : Prop := ∀ a ∈ mayL t hs one x, ∀ b ∈ mayL t hs other x, besB r a b = true
abbrev sClashAt : Stmt := top 43
theorem sc_clashAt : FnScope ["rules", "tree", "holds", "thing", "one", "other", "second", "act", "with_act"] ["rules", "tree", "holds", "thing", "one", "other"] (defScope sClashAt) := ⟨rfl, rfl, rfl, by decide +kernel, rfl, by decide +kernel, by decide +kernel⟩
def spClashAt : Sp := fun vs H Q _ => ∃ (u v z : V) (r : Rules) (t : Tree) (hs : List Hold) (x one other : Int), vs = [u, v, z, .int x, .int one, .int other] ∧ Is H u (cRules r) ∧ Is H v (cTree t) ∧ Is H z (cHolds hs) ∧ HoldsOk r t hs ∧ RuOk r ∧ TreeOk t ∧ InT t x ∧ NoClash r t hs x one other ∧ ∀ H', Same H H' → Q .non H'
abbrev sClash : Stmt := top 44
theorem sc_clash : FnScope ["rules", "tree", "holds", "thing", "one", "other", "found"] ["rules", "tree", "holds"] (defScope sClash) := ⟨rfl, rfl, rfl, by decide +kernel, rfl, by decide +kernel, by decide +kernel⟩
def spClash : Sp := fun vs H Q _ => ∃ (u v z : V) (r : Rules) (t : Tree) (hs : List Hold), vs = [u, v, z] ∧ Is H u (cRules r) ∧ Is H v (cTree t) ∧ Is H z (cHolds hs) ∧ HoldsOk r t hs ∧ RuOk r ∧ TreeOk t ∧ (∀ x one other, InT t x → one ≠ other → NoClash r t hs x one other) ∧ ∀ H', Same H H' → Q .non H'
section
variable {P : Program} {w : World} {K : PySem.W.Frag} {mg : Str → Option Value} {base : Heap}
theorem ok_clashAt (D : Dn K mg "clash_at" sClashAt) (cM : C8.Cal P w K mg base 2 "may_holds" spMay []) (cB : C8.Cal P w K mg base 1 "are_beside" spAreBeside []) : C8.Cal P w K mg base 3 "clash_at" spClashAt [] := by
  refine cal_of D sc_clashAt (fun _ _ _ _ _ _ us hl => match us, hl with | [_, _, _, _, _, _], _ => rfl) (fun vs H Q E h => ?_) (fun f cdv A outer s H vs Q E hr h => ?_)
  · obtain ⟨u, v, z, r, t, hs, x, one, other, rfl, _⟩ := h
    rfl
  · obtain ⟨u, v, z, r, t, hs, x, one, other, rfl, hu, hv, hz, ho, hR, hT, hx, hN, k⟩ := h
    refine ⟨_, pss_cons (ps_set (i := 6) sc_clashAt.nd rfl (Or.inl rfl) (C8.pe_c cM hr (by decide) (by rfl) (pa_cons (pv 1) (pa_cons (pv 2) (pa_cons (pv 5) (pa_cons (pv 3) pa_nil))))))
      (pss_cons (ps_for PassesOwn.never rfl (pi_tup (C8.pe_c cM hr (by decide) (by rfl) (pa_cons (pv 1) (pa_cons (pv 2) (pa_cons (pv 4) (pa_cons (pv 3) pa_nil)))))) (pg_name (i := 7) sc_clashAt.nd rfl (Or.inl rfl))
        (pss_one (ps_for PassesOwn.never rfl (pi_tup (pv 6)) (pg_name (i := 8) sc_clashAt.nd rfl (Or.inl rfl))
          (pss_one (ps_if (pt_not (pt_val (C8.pe_c cB hr (by decide) (by rfl) (pa_cons (pv 0) (pa_cons (pv 7) (pa_cons (pv 8) pa_nil))))))
            (pss_one (ps_ret (pe_tup (pa_cons (pv 3) (pa_cons (pv 4) (pa_cons (pv 5) (pa_cons (pv 7) (pa_cons (pv 8) pa_nil)))))))) pss_nil)))))
      (pss_one (ps_ret pe_non))), ?_⟩
    refine ⟨_, rfl, _, rfl, _, rfl, _, rfl, v, z, r, t, hs, other, x, rfl, hv, hz, ho, hR, hT, hx, fun y H1 s1 hy => ?_⟩
    refine ⟨_, rfl, _, rfl, _, rfl, _, rfl, v, z, r, t, hs, one, x, rfl, hv.same s1, hz.same s1, ho, hR, hT, hx, fun y2 H2 s2 hy2 => ?_⟩
    obtain ⟨b, rfl, hb⟩ := hy.lot
    obtain ⟨c, rfl, hc⟩ := hy2.lot
    refine ⟨c, rfl, ⟨_, .of hc⟩, for_tup (K := K) (a := c) (xs := (mayL t hs one x).map V.int) (fun i σ' H' => Same H2 H' ∧ σ'[0]? = some (some u) ∧ σ'[6]? = some (some (.ref b)) ∧ σ'.length = 9) ⟨Same.refl _, rfl, rfl, rfl⟩ (fun i σ' H' _ q => .of (q.1 _ _ hc)) (fun i x1 σ' H' hx1 q => ?_) (fun σ' H' q => k H' ((s1.trans s2).trans q.1))⟩
    obtain ⟨s3, e0, e1, e2⟩ := q
    rw [List.getElem?_map] at hx1
    obtain ⟨a1, ha1, rfl⟩ := Option.map_eq_some_iff.mp hx1
    match σ', e2, e0, e1 with
    | [_, _, _, _, _, _, _, _, _], _, e0, e1 =>
      cases e0
      cases e1
      refine ⟨_, rfl, b, rfl, ⟨_, .of (s3 _ _ (s2 _ _ hb))⟩, for_tup (K := K) (a := b) (xs := (mayL t hs other x).map V.int) (fun j σ' H'' => Same H' H'' ∧ σ'[0]? = some (some u) ∧ σ'[6]? = some (some (.ref b)) ∧ σ'[7]? = some (some (.int a1)) ∧ σ'.length = 9) ⟨Same.refl _, rfl, rfl, rfl, rfl⟩ (fun j σ' H'' _ q => .of (q.1 _ _ (s3 _ _ (s2 _ _ hb)))) (fun j x2 σ' H'' hx2 q => ?_) (fun σ' H'' q => ⟨s3.trans q.1, q.2.1, q.2.2.1, q.2.2.2.2⟩)⟩
      obtain ⟨s4, e0, e1, e3, e2⟩ := q
      rw [List.getElem?_map] at hx2
      obtain ⟨a2, ha2, rfl⟩ := Option.map_eq_some_iff.mp hx2
      match σ', e2, e0, e1, e3 with
      | [_, _, _, _, _, _, _, _, _], _, e0, e1, e3 =>
        cases e0
        cases e1
        cases e3
        refine ⟨_, rfl, _, rfl, _, rfl, u, r, a1, a2, rfl, hu.same (((s1.trans s2).trans s3).trans s4), fun H5 s5 => ⟨_, rfl, ?_⟩⟩
        rw [hN a1 (List.mem_of_getElem? ha1) a2 (List.mem_of_getElem? ha2)]
        exact iteF ⟨s4.trans s5, rfl, rfl, rfl, rfl⟩
theorem ok_clash (F : Free mg) (N : Nums mg) (D : Dn K mg "clash" sClash) (cC : C8.Cal P w K mg base 3 "clash_at" spClashAt []) : C8.Cal P w K mg base 4 "clash" spClash [] := by
  refine cal_of D sc_clash (fun _ _ _ _ _ _ us hl => match us, hl with | [_, _, _], _ => rfl) (fun vs H Q E h => ?_) (fun f cdv A outer s H vs Q E hr h => ?_)
  · obtain ⟨u, v, z, r, t, hs, rfl, _⟩ := h
    rfl
  · obtain ⟨u, v, z, r, t, hs, rfl, hu, hv, hz, ho, hR, hT, hN, k⟩ := h
    refine ⟨_, pss_cons (ps_for PassesOwn.never rfl (pi_range1 (by rfl) F.range (pa_cons (pe_callB callLen (by rfl) F.len PySem.boot_len (pa_cons (pv 1) pa_nil)) pa_nil)) (pg_name (i := 3) sc_clash.nd rfl (Or.inl rfl))
        (pss_one (ps_for PassesOwn.never rfl (pi_range1 (by rfl) F.range (pa_cons (C8.pe_gc (by rfl) N.holders) pa_nil)) (pg_name (i := 4) sc_clash.nd rfl (Or.inl rfl))
          (pss_one (ps_for PassesOwn.never rfl (pi_range2 (by rfl) F.range (pa_cons (pe_op op_add (pv 4) pe_int) (pa_cons (C8.pe_gc (by rfl) N.holders) pa_nil))) (pg_name (i := 5) sc_clash.nd rfl (Or.inl rfl))
            (pss_cons (ps_set (i := 6) sc_clash.nd rfl (Or.inl rfl) (C8.pe_c cC hr (by decide) (by rfl) (pa_cons (pv 0) (pa_cons (pv 1) (pa_cons (pv 2) (pa_cons (pv 3) (pa_cons (pv 4) (pa_cons (pv 5) pa_nil))))))))
              (pss_one (ps_if (pt_cmp (pc_notN (pv 6))) (pss_one (ps_ret (pv 6))) pss_nil))))))))
      (pss_one (ps_ret pe_non)), ?_⟩
    obtain ⟨b, ys, rfl, hb, iys⟩ := hv.tup_inv
    have hl := iys.length
    rw [List.length_map] at hl
    have hhi := hT.hi
    refine ⟨_, rfl, b, ys, rfl, .inl hb, _, rfl, by omega, by omega, for_range (lo := 0) (n := (((ys.length : Nat) : Int) - 0).toNat) (fun i σ' H' => Same H H' ∧ σ'[0]? = some (some u) ∧ σ'[1]? = some (some (.ref b)) ∧ σ'[2]? = some (some z) ∧ σ'.length = 7) ⟨Same.refl _, rfl, rfl, rfl, rfl⟩ (fun i σ' H1 hi q => ?_) (fun σ' H' q => k H' q.1)⟩
    obtain ⟨s1, e0, e1, e3, e2⟩ := q
    match σ', e2, e0, e1, e3 with
    | [_, _, _, _, _, _, _], _, e0, e1, e3 =>
      cases e0
      cases e1
      cases e3
      refine ⟨4, rfl, by decide, by decide, for_range (lo := 0) (n := 4) (fun j σ' H' => Same H H' ∧ σ'[0]? = some (some u) ∧ σ'[1]? = some (some (.ref b)) ∧ σ'[2]? = some (some z) ∧ σ'[3]? = some (some (.int (0 + (i : Int)))) ∧ σ'.length = 7) ⟨s1, rfl, rfl, rfl, rfl, rfl⟩ (fun j σ' H2 hj q => ?_) (fun σ' H' q => ⟨q.1, q.2.1, q.2.2.1, q.2.2.2.1, q.2.2.2.2.2⟩)⟩
      obtain ⟨s2, e0, e1, e3, e4, e2⟩ := q
      match σ', e2, e0, e1, e3, e4 with
      | [_, _, _, _, _, _, _], _, e0, e1, e3, e4 =>
        cases e0
        cases e1
        cases e3
        cases e4
        refine ⟨_, rfl, _, _, rfl, rfl, 0 + (j : Int) + 1, 4, rfl, ⟨by omega, by omega, by decide, by decide⟩, for_range (lo := 0 + (j : Int) + 1) (n := (4 - (0 + (j : Int) + 1)).toNat) (fun l σ' H' => Same H H' ∧ σ'[0]? = some (some u) ∧ σ'[1]? = some (some (.ref b)) ∧ σ'[2]? = some (some z) ∧ σ'[3]? = some (some (.int (0 + (i : Int)))) ∧ σ'[4]? = some (some (.int (0 + (j : Int)))) ∧ σ'.length = 7) ⟨s2, rfl, rfl, rfl, rfl, rfl, rfl⟩ (fun l σ' H3 hl q => ?_) (fun σ' H' q => ⟨q.1, q.2.1, q.2.2.1, q.2.2.2.1, q.2.2.2.2.1, q.2.2.2.2.2.2⟩)⟩
        obtain ⟨s3, e0, e1, e3, e4, e5, e2⟩ := q
        match σ', e2, e0, e1, e3, e4, e5 with
        | [_, _, _, _, _, _, _], _, e0, e1, e3, e4, e5 =>
          cases e0
          cases e1
          cases e3
          cases e4
          cases e5
          have hx : InT t (0 + (i : Int)) := ⟨by omega, by omega⟩
          refine ⟨_, rfl, _, rfl, _, rfl, _, rfl, _, rfl, _, rfl, u, .ref b, z, r, t, hs, _, _, _, rfl, hu.same s3, hv.same s3, hz.same s3, ho, hR, hT, hx, hN _ _ _ hx (by omega), fun H4 s4 => ?_⟩
          refine ⟨_, rfl, _, rfl, ?_⟩
          exact iteF ⟨s3.trans s4, rfl, rfl, rfl, rfl, rfl, rfl⟩
end
end HM
/-! Sets of small ints laid anew: each one has its own slot. -/
namespace HM
open PySem PySem.Spec PyProof.Rows L2
def Small6 (hs : List Int) : Prop := (∀ h ∈ hs, 0 ≤ h ∧ h < 6) ∧ hs.Nodup
theorem Small6.len {hs : List Int} (h : Small6 hs) : hs.length ≤ 6 := nodup_bound 6 hs h.2 (fun i hi => (h.1 i hi).1) (fun i hi => (h.1 i hi).2)
structure Own6 (m : Nat) (done : List Int) (owner : Array (Option Nat)) : Prop where
  sz : owner.size = m + 1
  emp : ∀ j, j ≤ m → ∀ k, oAt owner j = some k → done[k]? = some (j : Int)
  all : ∀ (k : Nat) (h : Int), done[k]? = some h → oAt owner h.toNat = some k
theorem Own6.init (m : Nat) : Own6 m [] (Array.replicate (m + 1) none) where
  sz := by simp
  emp := fun j hj k e => by
    rw [oAt_init hj] at e
    cases e
  all := fun k h e => by simp at e
theorem bits6 {h : Int} (h0 : 0 ≤ h) (h6 : h < 6) : SetTable.bits h = h.toNat := by
  unfold SetTable.bits
  rw [Int.emod_eq_of_lt h0 (by omega)]
theorem Own6.step {m : Nat} (hm : 7 ≤ m) {done : List Int} {owner : Array (Option Nat)} (W : Own6 m done owner) {h : Int} (h0 : 0 ≤ h) (h6 : h < 6) (hn : h ∉ done) :
    stepF m (some (owner, done.length)) h = some (owner.setIfInBounds h.toNat (some done.length), (done ++ [h]).length) ∧ Own6 m (done ++ [h]) (owner.setIfInBounds h.toNat (some done.length)) := by
  have hj : h.toNat ≤ m := by omega
  have hjs : h.toNat < owner.size := by rw [W.sz]; omega
  have hf : oAt owner h.toNat = none := by
    cases e : oAt owner h.toNat with
    | none => rfl
    | some k =>
      have q := W.emp _ hj k e
      rw [Int.toNat_of_nonneg h0] at q
      exact absurd (List.mem_of_getElem? q) hn
  have hmod : h.toNat % (m + 1) = h.toNat := Nat.mod_eq_of_lt (by omega)
  have e1 : SetTable.layClean.free m owner (SetTable.turns m) (SetTable.bits h % (m + 1)) (SetTable.bits h) = some h.toNat := by
    rw [bits6 h0 h6, hmod]
    show SetTable.layClean.free m owner (m + 14 + 1) h.toNat h.toNat = _
    rw [free_succ]
    have hge := runEnd_ge m h.toNat
    rw [find_range (fun k => (oAt owner (h.toNat + k)).isNone) (n := SetTable.runEnd m h.toNat + 1 - h.toNat) (k := 0) (by omega) (by
      show (oAt owner (h.toNat + 0)).isNone = true
      rw [Nat.add_zero, hf] <;> rfl) (fun k' hk' => absurd hk' (Nat.not_lt_zero _))]
    rfl
  have hself := oAt_set_self (some done.length) hjs
  refine ⟨?_, by rw [Array.size_setIfInBounds]; exact W.sz, fun j hj' k e => ?_, fun k h' e => ?_⟩
  · rw [stepF_some e1, List.length_append]
    rfl
  · by_cases c : j = h.toNat
    · subst c
      rw [hself] at e
      cases e
      rw [List.getElem?_append_right (Nat.le_refl _), Nat.sub_self, Int.toNat_of_nonneg h0]
      rfl
    · rw [oAt_set_ne _ c] at e
      have q := W.emp j hj' k e
      rw [List.getElem?_append_left (lt_get q)]
      exact q
  · by_cases c : k < done.length
    · rw [List.getElem?_append_left c] at e
      have q := W.all k h' e
      rw [oAt_set_ne]
      · exact q
      · intro z
        rw [z, hf] at q
        cases q
    · have hk := lt_get e
      rw [List.length_append, List.length_singleton] at hk
      have ek : k = done.length := by omega
      subst ek
      rw [List.getElem?_append_right (Nat.le_refl _), Nat.sub_self] at e
      cases e
      exact hself
theorem fold6 {m : Nat} (hm : 7 ≤ m) : ∀ (rest done : List Int) (owner : Array (Option Nat)), Own6 m done owner → (∀ h ∈ rest, 0 ≤ h ∧ h < 6) → (done ++ rest).Nodup →
    ∃ owner', rest.foldl (stepF m) (some (owner, done.length)) = some (owner', (done ++ rest).length) ∧ Own6 m (done ++ rest) owner'
  | [], done, owner, W, _, _ => ⟨owner, by rw [List.append_nil] <;> rfl, by rw [List.append_nil]; exact W⟩
  | h :: rest, done, owner, W, hb, hn => by
    have hh := hb h List.mem_cons_self
    have hnd : h ∉ done := fun z => (List.nodup_append.mp hn).2.2 h z h List.mem_cons_self rfl
    obtain ⟨e, W'⟩ := W.step hm hh.1 hh.2 hnd
    have ea : done ++ [h] ++ rest = done ++ h :: rest := by rw [List.append_assoc] <;> rfl
    obtain ⟨owner', f, W2⟩ := fold6 hm rest (done ++ [h]) _ W' (fun x hx => hb x (List.mem_cons_of_mem _ hx)) (by rw [ea]; exact hn)
    rw [ea] at f W2
    refine ⟨owner', ?_, W2⟩
    rw [List.foldl_cons, e]
    exact f
theorem layClean6 {m : Nat} (hm : 7 ≤ m) {hs : Array Int} (h : Small6 hs.toList) : ∃ owner, SetTable.layClean m hs = some owner ∧ Own6 m hs.toList owner := by
  obtain ⟨owner, f, W⟩ := fold6 hm hs.toList [] _ (Own6.init m) h.1 (by rw [List.nil_append]; exact h.2)
  rw [List.nil_append] at W
  refine ⟨owner, ?_, W⟩
  rw [layClean_eq]
  have f' : hs.toList.foldl (stepF m) (some (Array.replicate (m + 1) none, 0)) = some (owner, ([] ++ hs.toList).length) := f
  rw [f'] <;> rfl
/-- laid anew: all are there, in the order of the slots -/
theorem laid6 {m : Nat} (hm : 7 ≤ m) {hs : Array Int} (h : Small6 hs.toList) (fi mv : Nat) (led plain : Bool) :
    ∃ t order, SetTable.laid m fi mv led plain hs = some (t, order) ∧ order.toList.Perm (List.range hs.size) ∧ Ris t.place.toList ∧ t.place.size = hs.size ∧ t.mask = m ∧ t.led = led ∧ t.dummies = #[] := by
  obtain ⟨owner, e, W⟩ := layClean6 hm h
  have ris := ris_live (fun j => owner.getD j none) (List.range (m + 1)) (by
    unfold Ris
    first | exact List.pairwise_lt_range | exact List.pairwise_lt_range _)
  have r1 : Ris ((liveOf m owner).map (·.1)) := ris.1
  have nd : ((liveOf m owner).map (·.1)).Nodup := List.Pairwise.imp (fun h => Nat.ne_of_lt h) r1
  have hlen : (liveOf m owner).length = hs.size := by
    have a := nat_nodup_len ((liveOf m owner).map (·.1)) (hs.toList.map Int.toNat) nd fun x hx => by
      obtain ⟨⟨y, k⟩, hq, rfl⟩ := List.mem_map.mp hx
      obtain ⟨b1, b2⟩ := (mem_live W.sz).1 hq
      have q := W.emp y b1 k b2
      exact List.mem_map.mpr ⟨_, List.mem_of_getElem? q, rfl⟩
    have b := nat_nodup_len (List.range hs.size) ((liveOf m owner).map (·.2)) List.nodup_range fun k hk => by
      have hk' : k < hs.toList.length := List.mem_range.mp hk
      obtain ⟨x, hx⟩ := get_lt hk'
      have hb := h.1 x (List.mem_of_getElem? hx)
      exact List.mem_map.mpr ⟨(x.toNat, k), (mem_live W.sz).2 ⟨by omega, W.all k x hx⟩, rfl⟩
    rw [List.length_map, List.length_map] at a
    rw [List.length_map, List.length_range] at b
    have hz : hs.toList.length = hs.size := rfl
    omega
  refine ⟨{ mask := m, place := ((liveOf m owner).map (·.1)).toArray, dummies := #[], finger := fi, led := led, moves := mv, plain := plain }, ((liveOf m owner).map (·.2)).toArray, ?_, ?_, r1, ?_, rfl, rfl, rfl⟩
  · show (SetTable.layClean m hs).bind _ = _
    rw [e]
    rfl
  · refine perm_range hs.size _ ?_ fun k hk => ?_
    · show ((liveOf m owner).map (·.2)).length = hs.size
      rw [List.length_map]
      exact hlen
    · obtain ⟨x, hx⟩ := get_lt (l := hs.toList) (i := k) hk
      have hb := h.1 x (List.mem_of_getElem? hx)
      exact List.mem_map.mpr ⟨(x.toNat, k), (mem_live W.sz).2 ⟨by omega, W.all k x hx⟩, rfl⟩
  · show ((liveOf m owner).map (·.1)).toArray.size = hs.size
    rw [List.size_toArray, List.length_map]
    exact hlen
theorem order_perm {es : Array (Int × Value)} {order : Array Nat} (h : order.toList.Perm (List.range es.size)) : (order.filterMap (es[·]?)).toList.Perm es.toList := by
  rw [Array.toList_filterMap]
  exact (h.filterMap _).trans (by rw [filterMap_getElem?_range])
end HM
/-! Sets of small ints merged. -/
namespace HM
open PySem PySem.Spec PyProof.Rows L2
/-- the set at a, by its rows and its table -/
structure Con (w : World) (h : Heap) (a : Addr) (es : Array (Int × Value)) (ep : Nat) (t : SetTable) : Prop where
  obj : ∃ o, h.get? a = some o ∧ o.ExactSet ∧ o.data = .set es ep t
  good : ∀ e ∈ es.toList, GoodE e
  nd : (es.toList.map keyOf).Nodup
  b6 : ∀ e ∈ es.toList, 0 ≤ keyOf e ∧ keyOf e < 6
  fits : t.fits es.size = true
  ris : Ris t.place.toList
  led : w.params.followText "set-order" = true ∨ t.led = true
section
variable {w : World} {h h' : Heap} {a : Addr} {es es' : Array (Int × Value)} {ep ep' : Nat} {t t' : SetTable}
theorem Con.size (C : Con w h a es ep t) : es.size ≤ 6 := by
  have q := nodup_bound 6 (es.toList.map keyOf) C.nd (fun i hi => ?_) (fun i hi => ?_)
  · rw [List.length_map] at q
    exact q
  · obtain ⟨e, he, rfl⟩ := List.mem_map.mp hi
    exact (C.b6 e he).1
  · obtain ⟨e, he, rfl⟩ := List.mem_map.mp hi
    exact (C.b6 e he).2
def keys (es : Array (Int × Value)) (k : Int) : Bool := decide (k ∈ es.toList.map keyOf)
theorem Con.r (C : Con w h a es ep t) : SetR w h a (keys es) es.size := by
  obtain ⟨o, h1, h2, h3⟩ := C.obj
  exact ⟨o, es, ep, t, h1, h2, h3, C.good, C.nd, fun k => decide_eq_true_iff, by have := C.size; unfold scanBound; omega, C.fits, rfl, C.ris, C.led⟩
theorem con_of {S : Int → Bool} {n : Nat} (R : SetR w h a S n) (hS : ∀ k, S k = true → 0 ≤ k ∧ k < 6) : ∃ es ep t, Con w h a es ep t ∧ es.size = n ∧ ∀ k, S k = keys es k := by
  obtain ⟨o, es, ep, t, h1, h2, h3, g, nd, hm, hb, hf, hn, hr, hl⟩ := R
  refine ⟨es, ep, t, ⟨⟨o, h1, h2, h3⟩, g, nd, fun e he => hS _ ((hm _).2 (List.mem_map.mpr ⟨e, he, rfl⟩)), hf, hr, hl⟩, hn, fun k => ?_⟩
  unfold keys
  rw [Bool.eq_iff_iff, hm, decide_eq_true_iff]
theorem hash6 {k : Int} (h0 : 0 ≤ k) (h6 : k < 6) : hashInt k = k := by
  have e : k = 0 ∨ k = 1 ∨ k = 2 ∨ k = 3 ∨ k = 4 ∨ k = 5 := by omega
  rcases e with rfl | rfl | rfl | rfl | rfl | rfl <;> decide
theorem good_key {e : Int × Value} (g : GoodE e) (h0 : 0 ≤ keyOf e) (h6 : keyOf e < 6) : e.1 = keyOf e := by
  obtain ⟨k, tk, h1, h2⟩ := g
  have ek : keyOf e = k := by
    unfold keyOf
    rw [h1]
  rw [ek] at h0 h6 ⊢
  rw [h2]
  exact hash6 h0 h6
theorem small_hashes {es : Array (Int × Value)} (g : ∀ e ∈ es.toList, GoodE e) (nd : (es.toList.map keyOf).Nodup) (b6 : ∀ e ∈ es.toList, 0 ≤ keyOf e ∧ keyOf e < 6) : Small6 (es.map (·.1)).toList := by
  have e : (es.map (·.1)).toList = es.toList.map keyOf := by
    rw [Array.toList_map]
    exact List.map_congr_left fun e he => good_key (g e he) (b6 e he).1 (b6 e he).2
  rw [e]
  refine ⟨fun x hx => ?_, nd⟩
  obtain ⟨e, he, rfl⟩ := List.mem_map.mp hx
  exact b6 e he
/-- the rows in another order, a new table -/
theorem Con.store (C : Con w h a es ep t) {g : Heap} {es1 : Array (Int × Value)} {t1 : SetTable} {o : Obj} (ho : h.get? a = some o) (hd : o.data = .set es ep t) (pm : es1.toList.Perm es.toList) (hf : t1.fits es1.size = true) (hr : Ris t1.place.toList) (hl : w.params.followText "set-order" = true ∨ t1.led = true) :
    Con w (h.update a (Obj.putSet es1 t1)) a es1 (ep + 1) t1 := by
  obtain ⟨o', h1, h2, h3⟩ := C.obj
  rw [ho] at h1
  cases h1
  exact ⟨⟨_, store_at ho hd, h2, rfl⟩, fun e he => C.good e (pm.mem_iff.mp he), (pm.map keyOf).nodup_iff.mpr C.nd, fun e he => C.b6 e (pm.mem_iff.mp he), hf, hr, hl⟩
theorem Con.at (C : Con w h a es ep t) (k : ∀ o, h.get? a = some o → h'.get? a = some o) : Con w h' a es ep t := by
  obtain ⟨o, h1, h2, h3⟩ := C.obj
  exact ⟨⟨o, k o h1, h2, h3⟩, C.good, C.nd, C.b6, C.fits, C.ris, C.led⟩
theorem fits_new {t : SetTable} {n : Nat} (h1 : t.place.size = n) (h2 : t.dummies = #[]) (h3 : n ≤ t.mask) : t.fits n = true := by
  unfold SetTable.fits SetTable.fill
  rw [h1, h2]
  simp [h3]
theorem fits_mask {t : SetTable} {n : Nat} (h : t.fits n = true) : t.place.size = n ∧ t.fill ≤ t.mask := by
  simpa only [SetTable.fits, Bool.and_eq_true, beq_iff_eq, decide_eq_true_eq] using h
theorem above24 : ((List.range 25).all fun n => decide (8 ≤ SetTable.sizeAbove n) && decide (SetTable.sizeAbove n ≤ 64)) = true := by decide +kernel
theorem above_ok {n : Nat} (h : n ≤ 24) : 8 ≤ SetTable.sizeAbove n ∧ SetTable.sizeAbove n ≤ 64 := by
  have q := List.all_eq_true.mp above24 n (List.mem_range.mpr (by omega))
  rw [Bool.and_eq_true, decide_eq_true_eq, decide_eq_true_eq] at q
  exact q
end
section
variable {P : Program} {w : World} {A : Around} {E : Value → Shared → Prop} {s : Shared} {a b : Addr} {es es2 : Array (Int × Value)} {ep ep2 : Nat} {t t2 : SetTable}
theorem perm_size {es1 es : Array (Int × Value)} (h : es1.toList.Perm es.toList) : es1.size = es.size := by
  rw [← Array.length_toList, h.length_eq, Array.length_toList]
theorem relay6 {wanted : Nat} {Q : Unit → Shared → Prop} (C : Con w s.heap a es ep t) (hw : wanted ≤ 24)
    (hQ : ∀ h' es1 t1, Heap.SameBut a s.heap h' → Con w h' a es1 (ep + 1) t1 → es1.toList.Perm es.toList → 7 ≤ t1.mask → t1.fill = es.size → Q () { s with heap := h' }) :
    wpAny (model P w) A (setRelay a wanted) Q E s := by
  obtain ⟨o, ho, hx, hd⟩ := C.obj
  obtain ⟨b1, b2⟩ := above_ok hw
  unfold setRelay
  refine wpAny_bind (wpAny_setState_of ho hd C.fits ?_)
  dsimp only
  have hbig : ¬ SetTable.sizeAbove wanted > sizeLine := by
    have q : (1000 : Nat) ≤ sizeLine := by decide
    omega
  rw [if_neg hbig]
  obtain ⟨t1, order, e1, e2, e3, e4, e5, e6, e7⟩ := laid6 (m := SetTable.sizeAbove wanted - 1) (by omega) (small_hashes C.good C.nd C.b6) t.finger (t.movedTo (SetTable.sizeAbove wanted - 1)) t.led t.plain
  have er : t.relaid (es.map (·.1)) wanted = some (t1, order) := e1
  rw [er]
  have hsz : (es.map (·.1)).size = es.size := Array.size_map ..
  rw [hsz] at e2 e4
  have pm := order_perm e2
  have hz := perm_size pm
  refine wpAny_bind ?_
  show wpAny _ _ (if (_ != _) = true then _ else _) _ _ _
  rw [if_neg (show ¬ ((order.filterMap (es[·]?)).size != es.size) = true by rw [hz]; simp)]
  refine wpAny_pure ?_
  dsimp only
  have h6 := C.size
  have hline : (order.filterMap (es[·]?)).size ≤ sizeLine := by
    have q : (1000 : Nat) ≤ sizeLine := by decide
    omega
  refine wpAny_storeSet_of ho hd ?_ hline
  refine hQ _ _ t1 (Heap.SameBut.update s.heap a _) (C.store (g := s.heap) ho hd pm (fits_new (e4.trans hz.symm) e7 (by rw [e5, hz]; omega)) e3 (C.led.imp id fun z => by rw [e6]; exact z)) pm (by rw [e5]; omega) ?_
  unfold SetTable.fill
  rw [e4, e7]
  rfl
theorem room6 {more : Nat} {Q : Unit → Shared → Prop} (C : Con w s.heap a es ep t) (hm : more ≤ 6) (hq : t.fill = 0 → 7 ≤ t.mask)
    (hQ : ∀ h' es1 ep1 t1, Heap.SameBut a s.heap h' → Con w h' a es1 ep1 t1 → es1.toList.Perm es.toList → (t1.fill = 0 → 7 ≤ t1.mask) → (t.fill = 0 → t1.fill = 0) → Q () { s with heap := h' }) :
    wpAny (model P w) A (setRoomFor a more) Q E s := by
  obtain ⟨o, ho, hx, hd⟩ := C.obj
  unfold setRoomFor
  refine wpAny_bind (wpAny_setState_of ho hd C.fits ?_)
  dsimp only
  obtain ⟨f1, f2⟩ := fits_mask C.fits
  have h6 := C.size
  cases e : t.roomFor more with
  | none => exact wpAny_pure (hQ s.heap es ep t (Heap.SameBut.refl a s.heap) C (List.Perm.refl _) hq id)
  | some wanted =>
    have ew : wanted = (t.place.size + more) * 2 := by
      unfold SetTable.roomFor at e
      split at e
      · exact (Option.some.inj e).symm
      · cases e
    subst ew
    refine relay6 C (by rw [f1]; omega) fun h' es1 t1 sb C1 pm m7 fl => hQ h' es1 _ t1 sb C1 pm (fun _ => m7) fun z => ?_
    rw [fl]
    have : t.place.size + t.dummies.size = 0 := z
    omega
theorem quiet6 {Q : Bool → Shared → Prop} (C : Con w s.heap a es ep t) (C2 : Con w s.heap b es2 ep2 t2) (h : Q true s) : wpAny (model P w) A (setsQuiet [a, b]) Q E s := by
  have inner : ∀ {c : Addr} {es : Array (Int × Value)} {ep : Nat} {t : SetTable} {β : Type} (f : (Int × Value) → β → Sem (ForInStep β)) (r : β) (hf : ∀ e, GoodE e → f e r = pure (.yield r)) (_ : Con w s.heap c es ep t) {Q' : β → Shared → Prop}, Q' r s → wpAny (model P w) A (forIn es r f) Q' E s := by
    intro c es ep t β f r hf C Q' hq
    refine MeetsSeq2.wpAny_forIn_array f (fun rest b s' => b = r ∧ s' = s ∧ ∀ e ∈ rest, GoodE e) Q' ?_ ?_ es r ⟨rfl, rfl, C.good⟩
    · rintro x rest b s' ⟨rfl, rfl, g⟩
      rw [hf x (g x List.mem_cons_self)]
      exact wpAny_pure ⟨rfl, rfl, fun e he => g e (List.mem_cons_of_mem _ he)⟩
    · rintro b s' ⟨rfl, rfl, _⟩
      exact hq
  obtain ⟨o, ho, hx, hd⟩ := C.obj
  obtain ⟨o2, ho2, hx2, hd2⟩ := C2.obj
  unfold setsQuiet
  refine wpAny_bind ?_
  rw [List.forIn_cons]
  refine wpAny_bind ?_
  refine wpAny_bind (wpAny_setEntries_of ho hd C.fits ?_)
  refine wpAny_bind (inner _ _ (fun e g => ?_) C ?_)
  · obtain ⟨k, tk, h1, _⟩ := g
    obtain ⟨e1, e2⟩ := e
    dsimp only at h1
    subst h1
    rfl
  · dsimp only
    refine wpAny_pure ?_
    dsimp only
    rw [List.forIn_cons]
    refine wpAny_bind ?_
    refine wpAny_bind (wpAny_setEntries_of ho2 hd2 C2.fits ?_)
    refine wpAny_bind (inner _ _ (fun e g => ?_) C2 ?_)
    · obtain ⟨k, tk, h1, _⟩ := g
      obtain ⟨e1, e2⟩ := e
      dsimp only at h1
      subst h1
      rfl
    · dsimp only
      refine wpAny_pure ?_
      dsimp only
      rw [List.forIn_nil]
      exact wpAny_pure (wpAny_pure h)
end
end HM
/-! Sets of small ints merged, and united. -/
namespace HM
open PySem PySem.Spec PyProof.Rows L2
section
variable {P : Program} {w : World} {A : Around} {E : Value → Shared → Prop} {s : Shared} {a b : Addr} {es es2 : Array (Int × Value)} {ep ep2 : Nat} {t t2 : SetTable}
theorem walk_text {Q : Array (Int × Value) → Shared → Prop} (C : Con w s.heap b es2 ep2 t2) (hbt : w.params.followText "set-order" = true)
    (hQ : ∀ xs : Array (Int × Value), xs.toList.Perm es2.toList → Q xs s) : wpAny (model P w) A (setWalk b) Q E s := by
  obtain ⟨o, ho, hx, hd⟩ := C.obj
  unfold setWalk
  refine wpAny_bind (wpAny_setState_of ho hd C.fits ?_)
  dsimp only
  refine wpAny_bind (wpAny_byText ?_)
  rw [hbt]
  refine wp_if_pos rfl ?_
  refine wpAny_bind (wpAny_askSetting ?_)
  exact wpAny_pure (hQ _ (pick_perm _ _))
theorem walk_plain {Q : Array (Int × Value) → Shared → Prop} (C : Con w s.heap b es2 ep2 t2) (hbt : w.params.followText "set-order" = false) (hp : t2.plain = true ∨ es2.size ≤ 1)
    (hQ : Q es2 s) : wpAny (model P w) A (setWalk b) Q E s := by
  obtain ⟨o, ho, hx, hd⟩ := C.obj
  have hl : t2.led = true := C.led.resolve_left (by rw [hbt]; decide)
  unfold setWalk
  refine wpAny_bind (wpAny_setState_of ho hd C.fits ?_)
  dsimp only
  refine wpAny_bind (wpAny_byText ?_)
  rw [hbt]
  refine wp_if_neg (by decide) ?_
  have hdr : (!t2.plain && decide (es2.size > 1)) = false := by
    rcases hp with q | q
    · rw [q]; rfl
    · rw [decide_eq_false (by omega), Bool.and_false]
  show wpAny _ _ (if (!t2.plain && decide (es2.size > 1)) = true then _ else _) _ _ _
  rw [hdr]
  refine wp_if_neg (by decide) ?_
  refine wpAny_bind ?_
  show wpAny _ _ (if (!t2.led && decide (es2.size > 1)) = true then _ else _) _ _ _
  rw [hl]
  refine wp_if_neg (by simp) ?_
  exact wpAny_pure (wpAny_pure hQ)
theorem walk6 {Q : Array (Int × Value) → Shared → Prop} (C : Con w s.heap a es ep t) (C2 : Con w s.heap b es2 ep2 t2) (hab : a ≠ b)
    (hQ : ∀ h' xs ep' t', Heap.SameBut a s.heap h' → Con w h' a es ep' t' → xs.toList.Perm es2.toList → Q xs { s with heap := h' }) :
    wpAny (model P w) A (setWalkUnseen b [a] (some a)) Q E s := by
  obtain ⟨o, ho, hx, hd⟩ := C.obj
  obtain ⟨o2, ho2, hx2, hd2⟩ := C2.obj
  have here : ∀ xs : Array (Int × Value), xs.toList.Perm es2.toList → Q xs s := fun xs pm => hQ s.heap xs ep t (Heap.SameBut.refl a s.heap) C pm
  unfold setWalkUnseen
  refine wpAny_bind (wpAny_setState_of ho2 hd2 C2.fits ?_)
  dsimp only
  refine wpAny_bind (wpAny_byText ?_)
  cases hbt : w.params.followText "set-order" with
  | true =>
    refine wp_if_pos (by simp) ?_
    exact walk_text C2 hbt here
  | false =>
    have hl : t2.led = true := C2.led.resolve_left (by rw [hbt]; decide)
    have hl1 : t.led = true := C.led.resolve_left (by rw [hbt]; decide)
    by_cases hp : t2.plain = true ∨ es2.size ≤ 1
    · refine wp_if_pos ?_ ?_
      · rcases hp with q | q
        · rw [hl, q]; simp
        · simp [q]
      · exact walk_plain C2 hbt hp (here es2 (List.Perm.refl _))
    · have hp1 : t2.plain = false := by
        cases q : t2.plain with
        | false => rfl
        | true => exact absurd (.inl q) hp
      have hp2 : ¬ es2.size ≤ 1 := fun q => hp (.inr q)
      refine wp_if_neg (by rw [hp1]; simp [hp2]) ?_
      refine wpAny_bind (quiet6 C2 C ?_)
      refine wp_if_neg (by decide) ?_
      refine wpAny_bind (wpAny_rule ?_)
      refine wpAny_bind (wpAny_setState_of ho hd C.fits ?_)
      dsimp only
      by_cases c : ((t.led && !t2.led) || (t.plain && !t2.plain)) = true
      · refine wp_if_pos c ?_
        have hline : es.size ≤ sizeLine := by
          have q : (1000 : Nat) ≤ sizeLine := by decide
          have := C.size
          omega
        refine wpAny_bind (wpAny_storeSet_of ho hd ?_ hline)
        refine wpAny_pure (hQ _ es2 _ _ (Heap.SameBut.update s.heap a _) (C.store (g := s.heap) ho hd (List.Perm.refl _) ?_ C.ris (.inr ?_)) (List.Perm.refl _))
        · exact C.fits
        · show (t.led && t2.led) = true
          rw [hl, hl1]
          rfl
      · refine wp_if_neg c ?_
        exact wpAny_pure (here es2 (List.Perm.refl _))
theorem keys_perm {es1 es : Array (Int × Value)} (h : es1.toList.Perm es.toList) (k : Int) : keys es1 k = keys es k := by
  unfold keys
  rw [Bool.eq_iff_iff, decide_eq_true_iff, decide_eq_true_iff]
  exact (h.map keyOf).mem_iff
theorem merge6 {each : Sem Unit} {Q : Unit → Shared → Prop} (C : Con w s.heap a es ep t) (C2 : Con w s.heap b es2 ep2 t2) (hab : a ≠ b) (hm : t.fill = 0 → 7 ≤ t.mask)
    (heach : ∀ (s' : Shared) (Q' : Unit → Shared → Prop), Con w s'.heap b es2 ep2 t2 → Q' () s' → wpAny (model P w) A each Q' E s')
    (hQ : ∀ h' n, Heap.SameBut a s.heap h' → SetR w h' a (fun k => keys es k || keys es2 k) n → n ≤ 12 → (t.fill = 0 → ∃ es' ep' t', Con w h' a es' ep' t' ∧ es'.toList.Perm es2.toList ∧ (t'.fill = 0 → 7 ≤ t'.mask)) → Q () { s with heap := h' }) :
    wpAny (model P w) A (setMerge a b each) Q E s := by
  obtain ⟨o2, ho2, hx2, hd2⟩ := C2.obj
  have h6 := C.size
  have h62 := C2.size
  have fill0 : t.fill = 0 → es.size = 0 := fun z => by
    have q := (fits_mask C.fits).1
    have z' : t.place.size + t.dummies.size = 0 := z
    omega
  have keys0 : ∀ {es : Array (Int × Value)}, es.size = 0 → ∀ k, keys es k = false := fun {es} z k => by
    have e : es = #[] := Array.eq_empty_of_size_eq_zero z
    subst e
    rfl
  unfold setMerge
  refine wp_if_neg (by simpa using hab) ?_
  refine wpAny_bind (wpAny_setState_of ho2 hd2 C2.fits ?_)
  dsimp only
  by_cases e0 : es2.size = 0
  · refine wp_if_pos (by simp [Array.isEmpty, e0]) ?_
    refine wpAny_pure (hQ s.heap es.size (Heap.SameBut.refl a s.heap) (C.r.congr fun k => by rw [keys0 e0, Bool.or_false]) (by omega) fun z => ⟨es, ep, t, C, ?_, hm⟩)
    have e1 : es = #[] := Array.eq_empty_of_size_eq_zero (fill0 z)
    have e2 : es2 = #[] := Array.eq_empty_of_size_eq_zero e0
    rw [e1, e2]
  · refine wp_if_neg (by simp [Array.isEmpty, e0]) ?_
    refine wpAny_bind (room6 C h62 hm fun h1 es1 ep1 t1 sb1 C1 pm1 hm1 hf1 => ?_)
    have C2' : Con w h1 b es2 ep2 t2 := C2.at fun o e => (sb1.2 b (Ne.symm hab)).trans e
    obtain ⟨o1, ho1, hx1, hd1⟩ := C1.obj
    have h61 := C1.size
    refine wpAny_bind (wpAny_setState_of (s := { s with heap := h1 }) ho1 hd1 C1.fits ?_)
    dsimp only
    by_cases c : t1.fill = 0
    · have z1 : es1.size = 0 := by
        have q := (fits_mask C1.fits).1
        have z' : t1.place.size + t1.dummies.size = 0 := c
        omega
      have z0 : es.size = 0 := by rw [← perm_size pm1]; exact z1
      have hline : ∀ xs : Array (Int × Value), xs.size = es2.size → xs.size ≤ sizeLine := fun xs e => by
        have q : (1000 : Nat) ≤ sizeLine := by decide
        omega
      by_cases c2 : (t1.mask == t2.mask && t2.dummies.isEmpty) = true
      · have er : t1.road t2 = .slotForSlot := by
          unfold SetTable.road
          rw [if_neg (by simp [c]), if_pos c2]
        rw [er]
        dsimp only
        rw [Bool.and_eq_true, beq_iff_eq] at c2
        have ed : t2.dummies = #[] := Array.isEmpty_iff.mp c2.2
        obtain ⟨f1, f2⟩ := fits_mask C2.fits
        refine wpAny_storeSet_of (s := { s with heap := h1 }) ho1 hd1 ?_ (hline es2 rfl)
        have sb2 := Heap.SameBut.update h1 a (Obj.putSet es2 { t2 with finger := t1.finger, led := t1.led && t2.led, moves := t1.moves, plain := t1.plain && t2.plain })
        have C3 : Con w (h1.update a (Obj.putSet es2 { t2 with finger := t1.finger, led := t1.led && t2.led, moves := t1.moves, plain := t1.plain && t2.plain })) a es2 (ep1 + 1) { t2 with finger := t1.finger, led := t1.led && t2.led, moves := t1.moves, plain := t1.plain && t2.plain } :=
          ⟨⟨_, store_at ho1 hd1, hx1, rfl⟩, C2.good, C2.nd, C2.b6, C2.fits, C2.ris, by
            cases hbt : w.params.followText "set-order" with
            | true => exact .inl rfl
            | false =>
              refine .inr ?_
              show (t1.led && t2.led) = true
              rw [C1.led.resolve_left (by rw [hbt]; decide), C2.led.resolve_left (by rw [hbt]; decide)]
              rfl⟩
        refine hQ _ es2.size (sb1.trans sb2) (C3.r.congr fun k => by rw [keys0 z0, Bool.false_or]) (by omega) fun _ => ⟨es2, _, _, C3, List.Perm.refl _, fun _ => ?_⟩
        show 7 ≤ t2.mask
        rw [← c2.1]
        exact hm1 c
      · have er : t1.road t2 = .clean := by
          unfold SetTable.road
          rw [if_neg (by simp [c]), if_neg c2]
        rw [er]
        dsimp only
        obtain ⟨t3, order, e1, e2, e3, e4, e5, e6, e7⟩ := laid6 (m := t1.mask) (hm1 c) (small_hashes C2.good C2.nd C2.b6) t1.finger t1.moves (t1.led && t2.led) (t1.plain && t2.plain)
        have hsz : (es2.map (·.1)).size = es2.size := Array.size_map ..
        rw [hsz] at e2 e4
        have pm := order_perm e2
        have hz := perm_size pm
        rw [e1]
        refine wpAny_bind ?_
        show wpAny _ _ (if (_ != _) = true then _ else _) _ _ _
        rw [if_neg (show ¬ ((order.filterMap (es2[·]?)).size != es2.size) = true by rw [hz]; simp)]
        refine wpAny_pure ?_
        dsimp only
        refine wpAny_storeSet_of (s := { s with heap := h1 }) ho1 hd1 ?_ (hline _ hz)
        have sb2 := Heap.SameBut.update h1 a (Obj.putSet (order.filterMap (es2[·]?)) t3)
        have C3 : Con w (h1.update a (Obj.putSet (order.filterMap (es2[·]?)) t3)) a (order.filterMap (es2[·]?)) (ep1 + 1) t3 :=
          ⟨⟨_, store_at ho1 hd1, hx1, rfl⟩, fun e he => C2.good e (pm.mem_iff.mp he), (pm.map keyOf).nodup_iff.mpr C2.nd, fun e he => C2.b6 e (pm.mem_iff.mp he), fits_new (e4.trans hz.symm) e7 (by rw [e5, hz]; have := hm1 c; omega), e3, by
            cases hbt : w.params.followText "set-order" with
            | true => exact .inl rfl
            | false =>
              refine .inr ?_
              rw [e6, C1.led.resolve_left (by rw [hbt]; decide), C2.led.resolve_left (by rw [hbt]; decide)]
              rfl⟩
        refine hQ _ _ (sb1.trans sb2) (C3.r.congr fun k => by rw [keys0 z0, Bool.false_or, keys_perm pm]) (by omega) fun _ => ⟨_, _, _, C3, pm, fun _ => ?_⟩
        rw [e5]
        exact hm1 c
    · have er : t1.road t2 = .oneByOne := by
        unfold SetTable.road
        rw [if_pos (by simpa using c)]
      rw [er]
      dsimp only
      refine wpAny_bind (walk6 (s := { s with heap := h1 }) C1 C2' hab fun h2 xs ep3 t3 sb2 C3 pm2 => ?_)
      have C2'' : Con w h2 b es2 ep2 t2 := C2'.at fun o e => (sb2.2 b (Ne.symm hab)).trans e
      have fin : ∀ {h' : Heap} {n : Nat} {S : Int → Bool}, Heap.SameBut a s.heap h' → SetR w h' a S n → n ≤ 12 → (∀ k, S k = true ↔ keys es k = true ∨ keys es2 k = true) → Q () { s with heap := h' } := fun {h' n S} sb R hn hS =>
        hQ h' n sb (R.congr fun k => by
          rw [Bool.eq_iff_iff, hS, Bool.or_eq_true]) hn fun z => absurd (hf1 z) c
      refine wpAny_bind (wpAny_mono (Q := fun _ s' => Q () s') (E := E) ?_ (fun _ s' h => wpAny_pure h) fun _ _ h => h)
      refine MeetsSeq2.wpAny_forIn_array _ (fun rest _ s' => ∃ h' n S dn, s' = { s with heap := h' } ∧ Heap.SameBut a s.heap h' ∧ SetR w h' a S n ∧ (∀ k, S k = true ↔ keys es k = true ∨ ∃ e ∈ dn, keyOf e = k) ∧ n ≤ es.size + dn.length ∧ xs.toList = dn ++ rest) _ ?_ ?_ xs _ ⟨h2, es1.size, keys es1, [], rfl, sb1.trans sb2, C3.r, fun k => ?_, ?_, rfl⟩
      · rintro e rest u s' ⟨h', n, S, dn, rfl, sb, R, hS, hn, hsplit⟩
        have he : e ∈ es2.toList := pm2.mem_iff.mp (by rw [hsplit]; simp)
        have hlen : dn.length + (rest.length + 1) = es2.size := by
          have q := congrArg List.length hsplit
          rw [List.length_append, List.length_cons, pm2.length_eq, Array.length_toList] at q
          omega
        obtain ⟨k, tk, hk1, hk2⟩ := C2.good e he
        have hkk : keyOf e = k := by unfold keyOf; rw [hk1]
        have hab2 : ∀ {g : Heap}, Heap.SameBut a s.heap g → Con w g b es2 ep2 t2 := fun {g} z => C2.at fun o e => (z.2 b (Ne.symm hab)).trans e
        obtain ⟨e1, e2⟩ := e
        dsimp only at hk1 hk2
        subst hk1
        subst hk2
        dsimp only
        refine wpAny_bind (wpAny_holding (setR_add_hashed (P := P) (w := w) (s := { s with heap := h' }) (k := k) (tk := tk) R (by unfold scanBound; omega) fun h3 sb3 R3 => ?_))
        have C4 : Con w h3 b es2 ep2 t2 := hab2 (sb.trans sb3)
        refine wpAny_bind (heach { s with heap := h3 } _ C4 ?_)
        obtain ⟨o4, ho4, hx4, hd4⟩ := C4.obj
        refine wpAny_bind (wpAny_setState_of (s := { s with heap := h3 }) ho4 hd4 C4.fits ?_)
        dsimp only
        refine wp_if_neg (by simp) ?_
        refine wpAny_pure ⟨h3, _, _, dn ++ [(hashInt k, .int k tk)], rfl, sb.trans sb3, R3, fun j => ?_, ?_, by rw [hsplit]; simp⟩
        · rw [Bool.or_eq_true, decide_eq_true_iff, hS j]
          constructor
          · rintro ((q | ⟨x, hx, q⟩) | q)
            · exact .inl q
            · exact .inr ⟨x, List.mem_append_left _ hx, q⟩
            · exact .inr ⟨_, List.mem_append_right _ List.mem_cons_self, q.symm⟩
          · rintro (q | ⟨x, hx, q⟩)
            · exact .inl (.inl q)
            · rcases List.mem_append.mp hx with z | z
              · exact .inl (.inr ⟨x, z, q⟩)
              · rw [List.mem_singleton] at z
                subst z
                exact .inr q.symm
        · rw [List.length_append]
          split <;> simp <;> omega
      · rintro u s' ⟨h', n, S, dn, rfl, sb, R, hS, hn, hsplit⟩
        rw [List.append_nil] at hsplit
        have hlen : dn.length = es2.size := by rw [← hsplit, pm2.length_eq, Array.length_toList]
        refine fin sb R (by omega) fun k => (hS k).trans ?_
        constructor
        · rintro (q | ⟨e, he, q⟩)
          · exact .inl q
          · refine .inr (decide_eq_true (List.mem_map.mpr ⟨e, pm2.mem_iff.mp (by rw [hsplit]; exact he), q⟩))
        · rintro (q | q)
          · exact .inl q
          · obtain ⟨e, he, q⟩ := List.mem_map.mp (of_decide_eq_true q)
            exact .inr ⟨e, by rw [← hsplit]; exact pm2.mem_iff.mpr he, q⟩
      · rw [keys_perm pm1]
        simp
      · rw [perm_size pm1]
        simp
end
end HM
namespace HM
open PySem PySem.Spec PyProof.Rows L2
theorem entry_set_or : entryFor table "set.__or__" = some Builtin.«frozenset.__or__» :=
  entryFor_alias (id' := "frozenset.__or__") (by kernel_rfl) rfl (by decide +kernel) (by kernel_rfl)
section
variable {P : Program} {w : World} {A : Around} {E : Value → Shared → Prop} {s : Shared} {a b : Addr}
theorem newSet6 {Q : Value → Shared → Prop}
    (h : Q (.ref s.heap.objs.size) { s with heap := s.heap.push { cls := .type "set", dict := none, data := .set #[] 0 (.fresh 0 0 (!w.params.followText "set-order")) } }) :
    wpAny (model P w) A (newSet (.type "set")) Q E s := by
  unfold newSet
  refine wpAny_bind (wpAny_byText ?_)
  dsimp only
  simp only [newObj]
  refine wpAny_bind (wpAny_alloc (wpAny_pure ?_))
  exact h
theorem con_fresh {h : Heap} (w : World) : Con w (h.push { cls := .type "set", dict := none, data := .set #[] 0 (.fresh 0 0 (!w.params.followText "set-order")) }) h.objs.size #[] 0 (.fresh 0 0 (!w.params.followText "set-order")) :=
  ⟨⟨_, Heap.get?_push_size _ rfl, ⟨rfl, rfl, rfl⟩, rfl⟩, (fun e he => by simp at he), (by simp), (fun e he => by simp at he), (by rfl), List.Pairwise.nil, by
    show _ ∨ (!w.params.followText "set-order") = true
    cases w.params.followText "set-order"
    · exact .inr rfl
    · exact .inl rfl⟩
theorem copy6 {es : Array (Int × Value)} {ep : Nat} {t : SetTable} {Q : Value → Shared → Prop} (C : Con w s.heap a es ep t)
    (hQ : ∀ h' es' ep' t', (∀ c o, s.heap.get? c = some o → h'.get? c = some o) → Con w h' s.heap.objs.size es' ep' t' → es'.toList.Perm es.toList → (t'.fill = 0 → 7 ≤ t'.mask) → Q (.ref s.heap.objs.size) { s with heap := h' }) :
    wpAny (model P w) A (Builtin.Frozenset.copyOf a) Q E s := by
  obtain ⟨o, ho, hx, hd⟩ := C.obj
  have hT : s.TypeIs (.ref a) "set" := ⟨o, ho, hx.1⟩
  have hal : a < s.heap.objs.size := Heap.lt_size ho
  unfold Builtin.Frozenset.copyOf Builtin.Frozenset.baseOf
  refine wpAny_bind (wpAny_bind (wpAny_isInstance hT sub_set_self (wpAny_pure ?_)))
  show wpAny _ _ (newSet (.type "set") >>= _) _ _ _
  refine wpAny_bind (newSet6 ?_)
  show wpAny _ _ (setMerge s.heap.objs.size a >>= _) _ _ _
  have k1 : ∀ c o, s.heap.get? c = some o → (s.heap.push { cls := .type "set", dict := none, data := .set #[] 0 (.fresh 0 0 (!w.params.followText "set-order")) }).get? c = some o := fun c o e => Heap.get?_push_of_some _ e
  refine wpAny_bind (merge6 (s := { s with heap := s.heap.push { cls := .type "set", dict := none, data := .set #[] 0 (.fresh 0 0 (!w.params.followText "set-order")) } }) (a := s.heap.objs.size) (b := a) (con_fresh w) (C.at fun o e => k1 a o e) (Nat.ne_of_gt hal) (fun _ => Nat.le_refl _) (fun s' Q' _ q => wpAny_pure q) fun h' n sb R hn hF => ?_)
  obtain ⟨es', ep', t', C', pm, hm⟩ := hF rfl
  refine wpAny_pure (hQ h' es' ep' t' (fun c o e => ?_) C' pm hm)
  exact (sb.2 c (Nat.ne_of_lt (Heap.lt_size e))).trans (k1 c o e)
theorem isSet6 {Q : Bool → Shared → Prop} (hT : s.TypeIs (.ref a) "set") (h : Q true s) : wpAny (model P w) A (Builtin.Frozenset.isAnySet (.ref a)) Q E s := by
  unfold Builtin.Frozenset.isAnySet
  exact wpAny_bind (wpAny_isInstance hT sub_set_self (wpAny_pure h))
theorem or6 {S1 S2 : Int → Bool} {n1 n2 : Nat} {Q : Value → Shared → Prop} (R1 : SetR w s.heap a S1 n1) (R2 : SetR w s.heap b S2 n2) (h1 : ∀ k, S1 k = true → 0 ≤ k ∧ k < 6) (h2 : ∀ k, S2 k = true → 0 ≤ k ∧ k < 6) (hab : a ≠ b)
    (hQ : ∀ h' n, (∀ c o, s.heap.get? c = some o → h'.get? c = some o) → SetR w h' s.heap.objs.size (fun k => S1 k || S2 k) n → n ≤ 12 → Q (.ref s.heap.objs.size) { s with heap := h' }) :
    wpAny (model P w) A (binaryOp .BitOr (.ref a) (.ref b)) Q E s := by
  obtain ⟨es, ep, t, C, hn1, k1⟩ := con_of R1 h1
  obtain ⟨es2, ep2, t2, C2, hn2, k2⟩ := con_of R2 h2
  obtain ⟨o, ho, hx, hd⟩ := C.obj
  obtain ⟨o2, ho2, hx2, hd2⟩ := C2.obj
  have hT : s.TypeIs (.ref a) "set" := ⟨o, ho, hx.1⟩
  have hT2 : s.TypeIs (.ref b) "set" := ⟨o2, ho2, hx2.1⟩
  have hbl : b < s.heap.objs.size := Heap.lt_size ho2
  refine wpAny_binaryOp_same (op := .BitOr) hT hT2 F.fills_set_or F.slot_set_or ?_
  refine wpAny_call_entry F.slot_set_or hT entry_set_or ?_ (F.args_set_or_2 _ _)
  unfold Builtin.«frozenset.__or__»
  show wpAny _ _ ((Builtin.Frozenset.isAnySet (.ref a) <&&> Builtin.Frozenset.isAnySet (.ref b)) >>= _) _ _ _
  refine wpAny_bind (wpAny_bind (isSet6 hT ?_))
  show wpAny _ _ (Builtin.Frozenset.isAnySet (.ref b)) _ _ _
  refine isSet6 hT2 ?_
  refine wp_if_neg (by decide) ?_
  refine wpAny_bind (wpAny_pure ?_)
  refine wpAny_bind ?_
  show wpAny _ _ (Builtin.Frozenset.copyOf a >>= _) _ _ _
  refine wpAny_bind (copy6 C fun h' es' ep' t' kp C' pm hm => ?_)
  have hne : (Value.ref b != Value.ref a) = true := by
    simp only [bne_iff_ne, ne_eq, Value.ref.injEq]
    exact fun e => hab e.symm
  refine wp_if_pos hne ?_
  refine wpAny_bind (wpAny_pure ?_)
  refine wpAny_bind ?_
  refine wpAny_holding ?_
  show wpAny _ _ (Builtin.Frozenset.updateFrom _ s.heap.objs.size (.ref b)) _ _ _
  have C2' : Con w h' b es2 ep2 t2 := C2.at fun o e => kp b o e
  obtain ⟨o3, ho3, hx3, hd3⟩ := C2'.obj
  unfold Builtin.Frozenset.updateFrom
  refine wpAny_bind (isSet6 (s := { s with heap := h' }) ⟨o3, ho3, hx3.1⟩ ?_)
  refine wp_if_pos rfl ?_
  show wpAny _ _ (Builtin.Frozenset.merge _ s.heap.objs.size b) _ _ _
  unfold Builtin.Frozenset.merge
  refine wpAny_bind (wpAny_setEpoch_of (s := { s with heap := h' }) ho3 hd3 C2'.fits ?_)
  refine merge6 (s := { s with heap := h' }) C' C2' (Nat.ne_of_gt hbl) hm (fun s' Q' C4 q => ?_) fun h2 n sb R hn hF => ?_
  · obtain ⟨o4, ho4, hx4, hd4⟩ := C4.obj
    unfold Builtin.Frozenset.unchanged
    refine wpAny_bind (wpAny_setEpoch_of ho4 hd4 C4.fits ?_)
    refine wp_if_neg (by simp) ?_
    exact wpAny_pure q
  · refine wpAny_pure (wpAny_pure ⟨_, rfl, (by intro e; cases e), hQ h2 n (fun c o e => ?_) (R.congr fun k => by rw [k1, k2, keys_perm pm]) hn⟩)
    exact (sb.2 c (Nat.ne_of_lt (Heap.lt_size e))).trans (kp c o e)
end
section
variable {X : Cx}
def rSetOr (w : World) : R2 := fun x y H Q => ∃ a b S1 n1 S2 n2, x = .ref a ∧ y = .ref b ∧ a ≠ b ∧ H a = some (SetO w a S1 n1) ∧ H b = some (SetO w b S2 n2) ∧ (∀ k, S1 k = true → 0 ≤ k ∧ k < 6) ∧ (∀ k, S2 k = true → 0 ≤ k ∧ k < 6) ∧
  ∀ p n, H p = none → n ≤ 12 → Q (.ref p) (upd H p (SetO w p (fun k => S1 k || S2 k) n))
theorem op_setOr : OpR X (binaryOp .BitOr) (rSetOr X.w) := by
  intro pins s σ H x y v u Q I rx ry h
  obtain ⟨a, b, S1, n1, S2, n2, rfl, rfl, hab, ha, hb, h1, h2, q⟩ := h
  cases rx
  cases ry
  refine or6 (setO_get I ha) (setO_get I hb) h1 h2 hab fun h' n kp R hn => ?_
  exact ⟨.ref _, _, I.laid (t' := s.toks) kp (Nat.le_refl _) (setO_new R), rfl, q _ n (I.hok.fresh (Nat.le_refl _)) hn⟩
def rSetT (w : World) : List V → Hp → VK → Prop := fun xs H Q => ∃ (p : Addr) (ns : List Int), xs = [.ref p] ∧ H p = some (.tup (ns.map V.int)) ∧ ns.length ≤ 1000 ∧ ∀ a c, H a = none → c ≤ ns.length → Q (.ref a) (upd H a (SetO w a (fun j => decide (j ∈ ns)) c))
theorem call_setT (hc : X.calm = true) : CallR X (.type "set") (rSetT X.w) := by
  intro pins s σ H xs us Q I r h
  obtain ⟨p, ns, rfl, hp, hl, q⟩ := h
  obtain ⟨u, rfl, rx⟩ := vals1 r
  cases rx
  obtain ⟨its, rv, pt, hz⟩ := I.tuple (.of hp)
  refine call_set_tupI ns (I.ok.hd hc) (show s.heap.IsTuple p its.toArray from pt) (ints_of_vals rv) (by unfold scanBound; omega) fun h' tk c R1 hcn k => ?_
  exact ⟨.ref _, _, I.laid (t' := tk) k (Nat.le_refl _) (setO_new R1), rfl, q _ c (I.hok.fresh (Nat.le_refl _)) hcn⟩
end
/-! ### both -/
theorem up_ext : ∀ {l m : List Int}, l.Pairwise (· < ·) → m.Pairwise (· < ·) → (∀ k, k ∈ l ↔ k ∈ m) → l = m
  | [], [], _, _, _ => rfl
  | [], b :: m, _, _, h => absurd ((h b).2 List.mem_cons_self) (by simp)
  | a :: l, [], _, _, h => absurd ((h a).1 List.mem_cons_self) (by simp)
  | a :: l, b :: m, h1, h2, h => by
    obtain ⟨p1, p2⟩ := List.pairwise_cons.mp h1
    obtain ⟨q1, q2⟩ := List.pairwise_cons.mp h2
    have e : a = b := by
      rcases List.mem_cons.mp ((h a).1 List.mem_cons_self) with z | z
      · exact z
      · rcases List.mem_cons.mp ((h b).2 List.mem_cons_self) with y | y
        · exact y.symm
        · have := q1 a z
          have := p1 b y
          omega
    subst e
    have e2 : l = m := up_ext p2 q2 fun k => by
      constructor
      · intro hk
        rcases List.mem_cons.mp ((h k).1 (List.mem_cons_of_mem _ hk)) with z | z
        · subst z
          exact absurd (p1 k hk) (Int.lt_irrefl _)
        · exact z
      · intro hk
        rcases List.mem_cons.mp ((h k).2 (List.mem_cons_of_mem _ hk)) with z | z
        · subst z
          exact absurd (q1 k hk) (Int.lt_irrefl _)
        · exact z
    rw [e2]
abbrev sBoth : Stmt := top 21
theorem sc_both : FnScope ["one", "other"] ["one", "other"] (defScope sBoth) := ⟨rfl, rfl, rfl, by decide +kernel, rfl, by decide +kernel, by decide +kernel⟩
theorem boot_setT : bootBuiltins "set" = some (.type "set") := by decide +kernel
theorem boot_sortedB : bootBuiltins "sorted" = some (.builtin "sorted") := by decide +kernel
section
variable {P : Program} {w : World} {K : PySem.W.Frag} {mg : Str → Option Value} {base : Heap}
theorem ok_both (F : Free mg) (D : Dn K mg "both" sBoth) : C8.Cal P w K mg base 1 "both" spBoth [] := by
  refine cal_of D sc_both (fun _ _ _ _ _ _ us hl => match us, hl with | [_, _], _ => rfl) (fun vs H Q E h => ?_) (fun f cdv A outer s H vs Q E hr h => ?_)
  · obtain ⟨u, v, a, b, rfl, _⟩ := h
    rfl
  · obtain ⟨u, v, a, b, rfl, hu, hv, a6, b6, na, nb, k⟩ := h
    refine ⟨_, pss_one (ps_ret (pe_callTy call_tuple_of (by rfl) F.tuple boot_tuple (pa_cons (pe_callB (cr_sortedSet rfl) (by rfl) F.sorted boot_sortedB (pa_cons (pe_op op_setOr
      (pe_callTy (call_setT rfl) (by rfl) F.set boot_setT (pa_cons (pv 0) pa_nil)) (pe_callTy (call_setT rfl) (by rfl) F.set boot_setT (pa_cons (pv 1) pa_nil))) pa_nil)) pa_nil))), ?_⟩
    obtain ⟨p, rfl, hp⟩ := hu.lot
    obtain ⟨q, rfl, hq⟩ := hv.lot
    have la := nodup_bound 6 a na (fun i hi => (a6 i hi).1) (fun i hi => (a6 i hi).2)
    have lb := nodup_bound 6 b nb (fun i hi => (b6 i hi).1) (fun i hi => (b6 i hi).2)
    refine ⟨_, rfl, p, a, rfl, hp, by omega, fun c n hc hn => ?_⟩
    have s1 := Same.new (o := SetO w c (fun j => decide (j ∈ a)) n) hc
    refine ⟨_, rfl, q, b, rfl, s1 _ _ hq, by omega, fun d m hd hm => ?_⟩
    have s2 := Same.new (o := SetO w d (fun j => decide (j ∈ b)) m) hd
    have ncd : c ≠ d := ne_of_none upd_same hd
    refine ⟨c, d, _, n, _, m, rfl, rfl, ncd, by rw [upd_ne ncd, upd_same], upd_same, fun i hi => a6 i (of_decide_eq_true hi), fun i hi => b6 i (of_decide_eq_true hi), fun e l he hl => ?_⟩
    have s3 := Same.new (o := SetO w e (fun k => decide (k ∈ a) || decide (k ∈ b)) l) he
    refine ⟨e, _, l, rfl, upd_same, by omega, fun ns g hup hmem hlen hg => ?_⟩
    have s4 := Same.new (o := HO.lst (ns.map V.int)) hg
    refine ⟨g, _, rfl, .inl ⟨.of upd_same, fun r hr2 => ?_⟩⟩
    have s5 := Same.new (o := HO.tup (ns.map V.int)) hr2
    have e1 : ns = bothL a b := by
      refine up_ext hup ((rangeZ_up 6).filter _) fun k => ?_
      rw [hmem]
      unfold bothL
      rw [List.mem_filter, mem_rangeZ, Bool.or_eq_true, decide_eq_true_iff, decide_eq_true_iff]
      constructor
      · intro z
        refine ⟨?_, z⟩
        rcases z with z | z
        · exact a6 k z
        · exact b6 k z
      · exact fun z => z.2
    refine k _ _ ((((s1.trans s2).trans s3).trans s4).trans s5) (is_lot_mk ?_)
    rw [upd_same, e1]
end
end HM
/-! set(list) of ints, sorted. -/
namespace HM
open PySem PySem.Spec PyProof.Rows L2
abbrev nO (w : World) : Obj := { cls := .type "set", dict := none, data := .set #[] 0 (.fresh 0 0 (!w.params.followText "set-order")) }
section
variable {P : Program} {w : World} {A : Around} {E : Value → Shared → Prop} {s : Shared}
/-- what is to be shown of the new set, when all is in it -/
abbrev Full6 (w : World) (s : Shared) (ns : List Int) (h' : Heap) (c : Nat) : Prop := SetR w h' s.heap.objs.size (fun j => decide (j ∈ ns)) c ∧ c ≤ ns.length ∧ ∀ b o, s.heap.get? b = some o → h'.get? b = some o
theorem fill_list {l : Addr} {its : Array Value} {ns : List Int} {odict : Option Addr} {oslots : Array (Option Value)} {nl : Nat} {R : Result → Shared → Prop} (hh : A.handled = none)
    (hl : s.heap.get? l = some { cls := .type "list", dict := odict, data := .seq its nl, slots := oslots }) (hi : IntsAre its.toList ns) (hb : ns.length + 1 < scanBound)
    (hR : ∀ h' tk c, Full6 w s ns h' c → R (.ok (.ret .none)) { s with heap := h', toks := tk }) :
    codeAny (model P w) A (.builtin "set.update.loop" ⟨[.ref s.heap.objs.size, .ref (s.heap.push (nO w)).objs.size], []⟩) R { s with heap := (s.heap.push (nO w)).push { cls := .type "list_iterator", data := .fields #[.ref l, .int 0 0] } } := by
  have hsz : its.size = ns.length := by
    have q := IntsAre.length hi
    rw [Array.length_toList] at q
    exact q
  have hlS : l < s.heap.objs.size := Heap.lt_size hl
  have e1 : (s.heap.push (nO w)).objs.size = s.heap.objs.size + 1 := Heap.size_push ..
  have hL : (s.heap.push (nO w)).IsList l its := ⟨_, Heap.get?_push_of_some _ hl, rfl, nl, rfl⟩
  have g0 : ((s.heap.push (nO w)).push { cls := .type "list_iterator", data := .fields #[.ref l, .int 0 0] }).get? s.heap.objs.size = some (nO w) := Heap.get?_push_of_some _ (Heap.get?_push_size _ rfl)
  have ne1 : l ≠ (s.heap.push (nO w)).objs.size := by
    rw [e1]
    exact Nat.ne_of_lt (Nat.lt_succ_of_lt hlS)
  have hSf : s.heap.objs.size ∉ [(s.heap.push (nO w)).objs.size, l] := fun z => by
    rcases List.mem_cons.mp z with q | q
    · rw [e1] at q
      exact Nat.ne_of_lt (Nat.lt_succ_self _) q
    · exact Nat.ne_of_gt hlS (List.mem_singleton.mp q)
  have hv : ∀ (i : Nat) (v : Value), its[i]? = some v → ∃ k t, ns[i]? = some k ∧ v = .int k t := fun i v q => by
    have hlt : i < ns.length := by
      rw [← hsz]
      exact (Array.getElem?_eq_some_iff.mp q).1
    obtain ⟨t, e⟩ := PyProof.Rows.IntsAre.int_at hi i v (by rw [Array.getElem?_toList]; exact q)
    refine ⟨ns[i], t, List.getElem?_eq_getElem hlt, ?_⟩
    rw [e, List.getD_eq_getElem?_getD, List.getElem?_eq_getElem hlt] <;> rfl
  refine set_update_ints (P := P) (w := w) ((Walks.list (show A.in1.handled = none by simp [hh]) _ l ne1 its).toS) s.heap.objs.size hSf ns hsz hb hv (its.size - 0) 0 _ (by omega) (Nat.zero_le _) ⟨⟨_, Heap.get?_push_size _ rfl, rfl, rfl⟩, hL.push _⟩ ⟨0, Nat.le_refl 0, setR_new_at g0⟩ fun s' c hm hc hS => ?_
  obtain ⟨h', g2, d', tk', os'⟩ := s'
  have eg : g2 = s.gens := hm.gens
  have ed : d' = s.drawn := hm.drawn
  have eo : os' = s.os := hm.os
  subst eg ed eo
  rw [hsz] at hc
  refine hR h' tk' c ⟨hS, hc, fun b o e => ?_⟩
  have hb0 : b < s.heap.objs.size := Heap.lt_size e
  refine hm.heap b o (fun z => ?_) (Heap.get?_push_of_some _ (Heap.get?_push_of_some _ e))
  rcases List.mem_cons.mp z with q | q
  · exact Nat.ne_of_lt hb0 q
  · have q2 := List.mem_singleton.mp q
    rw [e1] at q2
    exact Nat.ne_of_lt (Nat.lt_succ_of_lt hb0) q2
set_option maxRecDepth 100000 in
theorem call_setL0 {l : Addr} {its : Array Value} (ns : List Int) {Q : Value → Shared → Prop} (hh : A.handled = none) (hl : s.heap.IsList l its) (hi : IntsAre its.toList ns) (hb : ns.length + 1 < scanBound)
    (h : ∀ (h' : Heap) (tk c : Nat), Full6 w s ns h' c → Q (.ref s.heap.objs.size) { s with heap := h', toks := tk }) : wpAny (model P w) A (call (.type "set") [.ref l]) Q E s := by
  obtain ⟨cc, ctl, hmro⟩ := F.called_set.mro
  have hmade := F.called_set.made
  have hsubt := F.called_set.sub
  refine wpAny_call (codeAny_of_tree ?_)
  show wpAny _ _ (callAny (.type "set") _) _ _ _
  refine wpAny_pure ⟨Code.quiet_builtin _ (by decide +kernel), codeAny_builtin F.entry_type_call ?_⟩
  rw [Around.under_plain (weight_type_call_type "set" [.ref l] []) rfl]
  have k1 := F.called_set.notType
  have k2 := F.called_set.canCreate
  have k3 := F.typeCall_set_1 (.ref l)
  repeat (any_goals (first | assumption | wp_step))
  refine codeAny_mono (code_set_led1 (.ref l) (E := E) (Q₁ := fun ob z => ob = .ref s.heap.objs.size ∧ z = { s with heap := s.heap.push (nO w) }) ⟨rfl, rfl⟩) fun r z hr => ?_
  cases r with
  | error e => exact hr
  | ok fl =>
    cases fl with
    | ret ob =>
      obtain ⟨rfl, rfl⟩ := hr
      have hS : (s.heap.push (nO w)).get? s.heap.objs.size = some (nO w) := Heap.get?_push_size _ rfl
      have hT : Shared.TypeIs { s with heap := s.heap.push (nO w) } (.ref s.heap.objs.size) "set" := ⟨_, hS, rfl⟩
      have il := F.called_set.init.lookup
      have ib := F.called_set.init.bind (.ref s.heap.objs.size)
      repeat (any_goals (first | assumption | wp_step))
      refine codeAny_mono (codeAny_call_builtin (R := wants (fun r z => r = .none ∧ ∃ h' tk c, z = { s with heap := h', toks := tk } ∧ Full6 w s ns h' c) E) F.called_set.init.plain F.entry_set_init (check_set_init_1 hT ?_)) fun r z hr => ?_
      · obtain ⟨ol, hol, hcl, nl, hdl⟩ := hl
        obtain ⟨ocls, odict, odata, oslots⟩ := ol
        simp only at hcl hdl
        subst hcl hdl
        have hol' : (s.heap.push (nO w)).get? l = some { cls := .type "list", dict := odict, data := .seq its nl, slots := oslots } := Heap.get?_push_of_some _ hol
        have hsl := F.sub_list_set
        have hslf := F.sub_list_frozenset
        have hnd : (Value.type "list" == Value.type "dict") = false := by decide
        have hL : (s.heap.push (nO w)).IsList l its := ⟨_, hol', rfl, nl, rfl⟩
        unfold Builtin.«set.__init__» noKeywords Builtin.Frozenset.updateFrom
        generalize hPI : pyIter = PI
        wp_walk
        subst hPI
        refine wpAny_pyIter_list hL ?_
        refine wpAny_bind (wpAny_runValue ?_)
        refine fill_list (s := s) (by simp [hh]) hol hi hb fun h' tk c full => ?_
        show wpAny _ _ _ _ _ _
        refine wpAny_pure ?_
        show wpAny _ _ (ret Value.none) _ _ _
        exact wpAny_pure ⟨rfl, h', tk, c, rfl, full⟩
      · cases r with
        | error e => exact hr
        | ok fl =>
          cases fl with
          | ret r =>
            obtain ⟨rfl, h', tk, c, rfl, full⟩ := hr
            repeat (any_goals (first | assumption | wp_step))
            exact h _ _ _ full
          | _ => exact hr.elim
    | _ => exact hr.elim
end
theorem setR_size {w : World} {h : Heap} {a : Addr} {ns : List Int} {c n : Nat} (R : SetR w h a (fun j => decide (j ∈ ns)) c) (hb : ∀ i ∈ ns, 0 ≤ i ∧ i < (n : Int)) : c ≤ n := by
  obtain ⟨o, es, ep, t, h1, h2, h3, g, nd, hm, hbd, hf, hn, hr, hl⟩ := R
  have q := nodup_bound n (es.toList.map keyOf) nd (fun i hi => (hb i (of_decide_eq_true ((hm i).2 hi))).1) (fun i hi => (hb i (of_decide_eq_true ((hm i).2 hi))).2)
  rw [List.length_map, Array.length_toList] at q
  omega
section
variable {X : Cx}
/-- set(l) of ints below n -/
def rSetL (w : World) : List V → Hp → VK → Prop := fun xs H Q => ∃ (p : Addr) (ns : List Int) (n : Nat), xs = [.ref p] ∧ H p = some (.lst (ns.map V.int)) ∧ ns.length ≤ 1000 ∧ (∀ i ∈ ns, 0 ≤ i ∧ i < (n : Int)) ∧ ∀ a c, H a = none → c ≤ n → Q (.ref a) (upd H a (SetO w a (fun j => decide (j ∈ ns)) c))
theorem call_setL (hc : X.calm = true) : CallR X (.type "set") (rSetL X.w) := by
  intro pins s σ H xs us Q I r h
  obtain ⟨p, ns, n, rfl, hp, hl, hb, q⟩ := h
  obtain ⟨u, rfl, rx⟩ := vals1 r
  cases rx
  obtain ⟨its, rv, pt, hz⟩ := I.list (.of hp)
  refine call_setL0 ns (I.ok.hd hc) pt.isList (ints_of_vals rv) (by unfold scanBound; omega) fun h' tk c full => ?_
  obtain ⟨R1, hcn, k⟩ := full
  exact ⟨.ref _, _, I.laid (t' := tk) k (Nat.le_refl _) (setO_new R1), rfl, q _ c (I.hok.fresh (Nat.le_refl _)) (setR_size R1 hb)⟩
end
end HM
/-! sorted(d) of a dict with pairs as keys; holds_of. -/
namespace HM
open PySem PySem.Spec PyProof.Rows L2
def pOf (H : Hp) (b : Addr) : Int × Int := match H b with
  | some (.tup [.int i, .int j]) => (i, j)
  | _ => (0, 0)
def IsP2 (H : Hp) (b : Addr) : Prop := H b = some (.tup [.int (pOf H b).1, .int (pOf H b).2])
theorem isP2_of {H : Hp} {b : Addr} {p : Int × Int} (h : H b = some (.tup ((kk p).map kV))) : IsP2 H b ∧ pOf H b = p := by
  have h' : H b = some (.tup [.int p.1, .int p.2]) := h
  have e : pOf H b = p := by
    unfold pOf
    rw [h']
  exact ⟨by unfold IsP2; rw [e]; exact h', e⟩
theorem keys_pOf {H : Hp} : ∀ {kvs : List (List Key × V)} {bs : List Addr} {ps : List (Int × Int)}, IsKeys H kvs bs → kvs.map (·.1) = ps.map kk → bs.map (pOf H) = ps ∧ ∀ b ∈ bs, IsP2 H b
  | [], _, ps, .nil, h => by
    have e : ps = [] := List.map_eq_nil_iff.mp h.symm
    subst e
    exact ⟨rfl, fun b hb => absurd hb (by simp)⟩
  | kv :: kvs, b :: bs, ps, .cons hb t, h => by
    cases ps with
    | nil => cases h
    | cons p ps =>
      rw [List.map_cons, List.map_cons] at h
      injection h with h1 h2
      have hb' : H b = some (.tup (kv.1.map kV)) := hb
      rw [h1] at hb'
      obtain ⟨i1, i2⟩ := isP2_of hb'
      obtain ⟨j1, j2⟩ := keys_pOf t h2
      exact ⟨by rw [List.map_cons, i2, j1], fun c hc => by
        rcases List.mem_cons.mp hc with e | e
        · subst e
          exact i1
        · exact j2 c e⟩
def c12 (p : Int × Int) : Int := 12 * p.1 + p.2
section
variable {X : Cx} {pins : List (Addr × Obj)} {σ : L2.St} {H : Hp} {s : Shared}
theorem p2_ints (I : Inv X pins σ H s) {b : Addr} (h : IsP2 H b) : TS.TupInts s.heap (.ref b) [(pOf H b).1, (pOf H b).2] := by
  have q : SqT X.K H b ([(pOf H b).1, (pOf H b).2].map V.int) := .of h
  exact tupI_raw I q
theorem p2_code (I : Inv X pins σ H s) {b : Addr} (h : IsP2 H b) : TS.code 12 (TS.intsOf s.heap (.ref b)) = c12 (pOf H b) := by
  rw [(p2_ints I h).ints]
  show (pOf H b).1 * 12 ^ 1 + ((pOf H b).2 * 12 ^ 0 + 0) = _
  unfold c12
  omega
end
theorem refs_perm : ∀ {us : List Value} {bs : List Addr}, us.Perm (bs.map Value.ref) → ∃ cs : List Addr, us = cs.map Value.ref ∧ cs.Perm bs := by
  intro us bs h
  refine ⟨us.map fun u => match u with | .ref a => a | _ => 0, ?_, ?_⟩
  · rw [List.map_map]
    have e : us.map id = us.map (Value.ref ∘ fun u => match u with | .ref a => a | _ => 0) := by
      refine List.map_congr_left fun u hu => ?_
      obtain ⟨a, _, rfl⟩ := List.mem_map.mp (h.mem_iff.mp hu)
      rfl
    rw [← e, List.map_id]
  · have q := h.map (fun u => match u with | Value.ref a => a | _ => 0)
    rw [List.map_map] at q
    have e : bs.map ((fun u => match u with | Value.ref a => a | _ => 0) ∘ Value.ref) = bs := by
      have e2 : bs.map ((fun u => match u with | Value.ref a => a | _ => 0) ∘ Value.ref) = bs.map id := List.map_congr_left fun a _ => rfl
      rw [e2, List.map_id]
    rw [e] at q
    exact q
def rSortDT : List V → Hp → VK → Prop := fun xs H Q => ∃ (d : Addr) (kvs : List (List Key × V)) (ps : List (Int × Int)), xs = [.ref d] ∧ H d = some (.dT kvs) ∧ kvs.map (·.1) = ps.map kk ∧ ps.length < 64 ∧ (∀ p ∈ ps, (0 ≤ p.1 ∧ p.1 < 12) ∧ 0 ≤ p.2 ∧ p.2 < 12) ∧
  ∀ (bs : List Addr) (q : Addr), (bs.map (pOf H)).Perm ps → (bs.map (pOf H)).Pairwise (fun x y => c12 x ≤ c12 y) → (∀ b ∈ bs, IsP2 H b) → H q = none → Q (.ref q) (upd H q (.lst (bs.map V.ref)))
theorem call_sortedDT {X : Cx} (hc : X.calm = true) : CallR X (.builtin "sorted") rSortDT := by
  intro pins s σ H xs us Q I r h
  obtain ⟨d, kvs, ps, rfl, hd, hkeys, h64, hrange, q⟩ := h
  obtain ⟨u, rfl, rx⟩ := vals1 r
  cases rx
  obtain ⟨z, hs, ks, pr, o, es, ep, ho, hx, hdt, he, hn⟩ := (show ObjOk X.prog X.w H s.heap d (.dT kvs) from I.hok d _ hd)
  have l1 : es.size = ks.length := size_of_entries he
  have l2 : kvs.length = ks.length := Paired.length pr
  have l3 : kvs.length = ps.length := by
    have e := congrArg List.length hkeys
    rw [List.length_map, List.length_map] at e
    exact e
  have hbig : (1000 : Nat) ≤ sizeLine := by decide
  obtain ⟨kp1, kp2⟩ := keys_pOf (isKeys_of pr) hkeys
  refine Calls.call_function_entry PyProof.Rows.kind_sorted PyProof.Rows.plain_sorted PyProof.Rows.entry_sorted (PyProof.Rows.args_sorted1 _) ?_
  unfold Builtin.«sorted»
  refine wpAny_bind (m := checkCount "sorted" 1 1 _) (wpAny_pure ?_)
  refine wpAny_bind (PySem.W.kdu_collect (A := X.A.in1) (kdl_raw hs hx hdt) (I.ok.hd hc) ho (by omega) fun h' tk acc hk it => ?_)
  have ea : acc.toList = (ks.map fun x => x.2.1).map Value.ref := by
    rw [List.map_map]
    have hl : acc.toList.length = ks.length := by
      rw [Array.length_toList, it.1]
      exact l1
    apply List.ext_getElem?
    intro j
    rw [List.getElem?_map]
    cases hj : acc.toList[j]? with
    | none =>
      have g1 := List.getElem?_eq_none_iff.mp hj
      rw [List.getElem?_eq_none (by omega)]
      rfl
    | some v =>
      obtain ⟨en, hen, hv⟩ := it.2 j v (by rw [← Array.getElem?_toList]; exact hj)
      have qe := entry_at he j
      rw [hen] at qe
      cases hb : ks[j]? with
      | none =>
        rw [hb] at qe
        exact nomatch (show some en = none from qe)
      | some b =>
        rw [hb] at qe
        have e2 : en = entryOfKey (tupleKind (mixKind X.prog X.w)) b := Option.some.inj qe
        rw [hv, e2]
        rfl
  have hal : acc.toList.length < 64 := by
    rw [ea, List.length_map, List.length_map]
    omega
  have I1 : Inv X pins σ H { s with heap := h', toks := tk } := I.kept hk
  refine wpAny_bind (wpAny_newList ?_ (by omega))
  have hoL : (h'.push (seqObj "list" acc.toList.toArray 0)).get? h'.objs.size = some (seqObj "list" acc.toList.toArray 0) := Heap.get?_push_size _ rfl
  have keepP : ∀ b o, h'.get? b = some o → o.cls = .type "tuple" → (h'.push (seqObj "list" acc.toList.toArray 0)).get? b = some o := fun b o e _ => Heap.get?_push_of_some _ e
  have okT : TS.TupsOk h' 2 12 acc.toList := fun v hv => by
    rw [ea] at hv
    obtain ⟨b, hb, rfl⟩ := List.mem_map.mp hv
    have i2 := kp2 b hb
    refine ⟨_, p2_ints I1 i2, rfl, fun m hm => ?_⟩
    have hp : pOf H b ∈ ps := by
      rw [← kp1]
      exact List.mem_map.mpr ⟨b, hb, rfl⟩
    have hr := hrange _ hp
    rcases List.mem_cons.mp hm with e | e
    · rw [e]; exact hr.1
    · rw [List.mem_singleton.mp e]; exact hr.2
  show wpAny _ _ _ _ _ { s with heap := h'.push (seqObj "list" acc.toList.toArray 0), toks := tk }
  refine wpAny_bind (wpAny_holding (wpAny_call_entry PyProof.Rows.slot_list_sort ⟨_, hoL, rfl⟩ PyProof.Rows.entry_list_sort
    (TS.sort_tups (s := { s with heap := h'.push (seqObj "list" acc.toList.toArray 0), toks := tk }) hoL hal (by decide) (okT.keeps keepP) (fun v => TS.code 12 (TS.intsOf h' v)) (fun v hv ns t => ?_) fun out g1 g2 => ⟨_, rfl, ?_⟩) (PyProof.Rows.args_list_sort _)))
  · obtain ⟨ns0, t0, _⟩ := okT v hv
    have e : ns = ns0 := t.ints.symm.trans (t0.keeps keepP).ints
    rw [e]
    show TS.code 12 (TS.intsOf h' v) = TS.code 12 ns0
    rw [t0.ints]
  · obtain ⟨e', he'⟩ := PyProof.Rows.sortedHeap_at (vs := acc.toList) (out := out) hoL
    rw [ea] at g1
    obtain ⟨cs, ec, pc⟩ := refs_perm g1
    have hlen : (cs.map V.ref).length ≤ sizeLine := by
      rw [List.length_map, pc.length_eq, List.length_map]
      omega
    have p2 : ∀ b ∈ cs, IsP2 H b := fun b hb => kp2 b (pc.mem_iff.mp hb)
    refine wpAny_pure ⟨_, rfl, .ref h'.objs.size, upd H h'.objs.size (.lst (cs.map V.ref)), I1.laid (t' := tk) (fun b u e => ?_) (Nat.le_refl _)
      (show ObjOk X.prog X.w _ _ _ (.lst (cs.map V.ref)) from ⟨hlen, out.toList, e', by rw [ec]; exact vals_refs _, by rw [Array.toArray_toList]; exact he'⟩), rfl, q cs _ ?_ ?_ p2 (I1.hok.fresh (Nat.le_refl _))⟩
    · have hb : b < h'.objs.size := Heap.lt_size e
      rw [PyProof.Rows.sortedHeap_old (Nat.ne_of_lt hb) (by rw [size_push']; exact Nat.lt_succ_of_lt hb)]
      exact Heap.get?_push_of_some _ e
    · rw [← kp1]
      exact pc.map _
    · rw [ec] at g2
      rw [List.pairwise_map] at g2 ⊢
      refine List.Pairwise.imp_of_mem (fun {a b} ha hb g => ?_) g2
      have g' : TS.code 12 (TS.intsOf h' (.ref a)) ≤ TS.code 12 (TS.intsOf h' (.ref b)) := g
      rw [p2_code I1 (p2 a ha), p2_code I1 (p2 b hb)] at g'
      exact g'
/-! ### holds_of -/
def KeyIn (p : Int × Int) : Prop := (0 ≤ p.1 ∧ p.1 < 12) ∧ 0 ≤ p.2 ∧ p.2 < 12
theorem TabR.keys {H : Hp} : ∀ {kvs : List (List Key × V)} {T : Tb}, TabR H kvs T → kvs.map (·.1) = (T.map (·.1)).map kk
  | _, _, .nil => rfl
  | _, _, .cons h t => by rw [List.map_cons, List.map_cons, List.map_cons, t.keys]
abbrev sHoldsOf : Stmt := top 46
theorem sc_holdsOf : FnScope ["known", "holder", "thing"] ["known"] (defScope sHoldsOf) := ⟨rfl, rfl, rfl, by decide +kernel, rfl, by decide +kernel, by decide +kernel⟩
def spHoldsOf : Sp := fun vs H Q _ => ∃ (d : Addr) (kvs : List (List Key × V)) (T : Tb), vs = [.ref d] ∧ H d = some (.dT kvs) ∧ TabR H kvs T ∧ (T.map (·.1)).Nodup ∧ T.length < 64 ∧ (∀ p ∈ T.map (·.1), KeyIn p) ∧
  ∀ hs x H', (hs.map key).Pairwise ltP → (hs.map key).Perm (T.map (·.1)) → (∀ h ∈ hs, getT T (key h) = some h.2.2) → Same H H' → Is H' x (cHolds hs) → Q x H'
theorem getT_mem {T : Tb} {k : Int × Int} (h : k ∈ T.map (·.1)) : ∃ m, getT T k = some m := by
  have q := getT_any T k
  obtain ⟨x, hx, rfl⟩ := List.mem_map.mp h
  rw [List.any_eq_true.mpr ⟨x, hx, by simp⟩] at q
  exact Option.isSome_iff_exists.mp q.symm
/-- the holds by the keys -/
def rowOf (T : Tb) (p : Int × Int) : Hold := (p.1, p.2, (getT T p).getD ([], []))
section
variable {P : Program} {w : World} {K : PySem.W.Frag} {mg : Str → Option Value} {base : Heap}
theorem ok_holdsOf (F : Free mg) (D : Dn K mg "holds_of" sHoldsOf) : C8.Cal P w K mg base 1 "holds_of" spHoldsOf [] := by
  refine cal_of D sc_holdsOf (fun _ _ _ _ _ _ us hl => match us, hl with | [_], _ => rfl) (fun vs H Q E h => ?_) (fun f cdv A outer s H vs Q E hr h => ?_)
  · obtain ⟨d, kvs, T, rfl, _⟩ := h
    rfl
  · obtain ⟨d, kvs, T, rfl, hd, ht, hnd, h64, hin, k⟩ := h
    refine ⟨_, pss_one (ps_ret (pe_callTy call_tuple_of (by rfl) F.tuple boot_tuple (pa_cons (pe_lc (own := [("holder", 1), ("thing", 2)]) (g := gT 2 (gCons (gName 1) (gCons (gName 2) gNil))) (tt := tYes) (te := tTup (tCons (tVar 1) (tCons (tVar 2) (tCons (tDGet (tVar 0) (tTup (tCons (tVar 1) (tCons (tVar 2) tNil)))) tNil)))) rfl sc_holdsOf.nd
        (pi_list (pe_callB (call_sortedDT rfl) (by rfl) F.sorted boot_sortedB (pa_cons (pv 0) pa_nil))) (blkOk_by (N := ["known", "holder", "thing"]) (sc := defScope sHoldsOf) (own := [("holder", 1), ("thing", 2)]) (by decide +kernel))
        (fun _ _ _ _ _ => by exact (pgT rfl (by exact (pgs_cons (by exact (pg_name (i := 1) sc_holdsOf.nd rfl (.inl rfl))) (by exact (pgs_cons (by exact (pg_name (i := 2) sc_holdsOf.nd rfl (.inl rfl))) pgs_nil))))))
        (fun _ _ _ _ _ => pts_nil)
        (fun _ _ _ _ _ => by exact (pe_tup (by exact (pa_cons (by exact (pv 1)) (by exact (pa_cons (by exact (pv 2)) (by exact (pa_cons (by exact (pe_dget (hu_of hr) (by exact (pv 0)) (by exact (pe_tup (by exact (pa_cons (by exact (pv 1)) (by exact (pa_cons (by exact (pv 2)) pa_nil)))))) (fun _ _ => rfl))) pa_nil))))))))) pa_nil))), ?_⟩
    have hl0 : (T.map (·.1)).length = T.length := List.length_map ..
    refine ⟨_, rfl, d, kvs, T.map (·.1), rfl, hd, ht.keys, by omega, hin, fun bs q hperm hsort hp2 nq => ?_⟩
    have s0 := Same.new (o := HO.lst (bs.map V.ref)) nq
    have hbl : bs.length = T.length := by
      have e := hperm.length_eq
      rw [List.length_map, hl0] at e
      exact e
    refine ⟨q, rfl, ⟨_, .of upd_same⟩, fun D nD => lc_list (K := K) (a := q) (xs := bs.map V.ref) (fun i H' => Same (upd H q (.lst (bs.map V.ref))) H' ∧ ∃ ys, H' D = some (.lst ys) ∧ IsAll H' ys (((bs.take i).map fun b => rowOf T (pOf H b)).map cHold)) ⟨Same.new nD, [], upd_same, .nil⟩ (fun i H' _ p => .of (p.1 _ _ upd_same)) (fun i x H' hx p => ?_) (fun H' p => ?_)⟩
    · obtain ⟨s1, ys, hD, iys⟩ := p
      rw [List.getElem?_map] at hx
      obtain ⟨b, hb, rfl⟩ := Option.map_eq_some_iff.mp hx
      have hbm := List.mem_of_getElem? hb
      have hlt := lt_get hb
      have s01 := s0.trans s1
      have h2 := s01 _ _ (hp2 b hbm)
      have hk : pOf H b ∈ T.map (·.1) := hperm.mem_iff.mp (List.mem_map.mpr ⟨b, hbm, rfl⟩)
      obtain ⟨m, hm⟩ := getT_mem hk
      rcases (ht.tups s01.tups).val (pOf H b) with ⟨_, bad⟩ | ⟨v, m', g1, g2, g3⟩
      · rw [hm] at bad
        cases bad
      · rw [hm] at g2
        cases g2
        refine ⟨b, _, rfl, h2, rfl, _, _, rfl, _, _, rfl, rfl, rfl, yes_at ?_⟩
        refine ⟨_, rfl, _, rfl, _, rfl, _, rfl, _, rfl, (by show 2 ≤ sizeLine; decide), fun p hp => ?_⟩
        have s2 := Same.new (o := HO.tup [.int (pOf H b).1, .int (pOf H b).2]) hp
        refine ⟨d, v, rfl, ?_, (by show 3 ≤ sizeLine; decide), fun p3 hp3 => ?_⟩
        · rw [← g1]
          exact DGet.t (k := kk (pOf H b)) (s2 _ _ (s01 _ _ hd)) upd_same
        · have s3 := Same.new (o := HO.tup [.int (pOf H b).1, .int (pOf H b).2, v]) hp3
          have s23 := s2.trans s3
          have hD3 := s23 _ _ hD
          have hly := iys.length
          rw [List.length_map, List.length_map, List.length_take] at hly
          refine ⟨ys, hD3, lt1000 (by omega), (s1.trans s23).set nD, _, upd_same, ?_⟩
          have np : p3 ≠ D := fun e => by rw [e, s2 _ _ hD] at hp3; cases hp3
          have tp : Tups H' (upd (upd (upd H' p (.tup [.int (pOf H b).1, .int (pOf H b).2])) p3 (.tup [.int (pOf H b).1, .int (pOf H b).2, v])) D (.lst (ys ++ [.ref p3]))) := fun c o e => by
            rw [upd_ne (fun z => by rw [z, hD] at e; cases e)]
            exact s23 _ _ e
          rw [take_more hb, List.map_append, List.map_append]
          have em : (rowOf T (pOf H b)).2.2 = m := by
            unfold rowOf
            rw [hm]
            rfl
          refine (IsAll.tups tp iys (tupdAll_map tupd_hold _)).append (.one (.tup (xs := [.int (pOf H b).1, .int (pOf H b).2, v]) (by rw [upd_ne np, upd_same]) (.cons (.int _) (.cons (.int _) (.cons ?_ .nil)))))
          rw [em]
          exact g3.tups tp (tupd_mode _)
    · obtain ⟨s1, ys, hD, iys⟩ := p
      rw [List.length_map, List.take_length] at iys
      refine ⟨D, ys, rfl, .inl ⟨.of hD, fun q2 nq2 => ?_⟩⟩
      have s2 := Same.new (o := HO.tup ys) nq2
      have ek : (bs.map fun b => rowOf T (pOf H b)).map key = bs.map (pOf H) := by
        rw [List.map_map]
        rfl
      refine k (bs.map fun b => rowOf T (pOf H b)) _ _ ?_ ?_ (fun h hh => ?_) ((s0.trans s1).trans s2) (.tup upd_same (IsAll.same s2 iys))
      · rw [ek]
        have nd2 : (bs.map (pOf H)).Nodup := hperm.nodup_iff.mpr hnd
        refine List.Pairwise.imp_of_mem (fun {x y} hx hy g => ?_) (hsort.and nd2)
        obtain ⟨g1, g2⟩ := g
        have kx := hin x (hperm.mem_iff.mp hx)
        have ky := hin y (hperm.mem_iff.mp hy)
        unfold KeyIn at kx ky
        unfold c12 at g1
        unfold ltP
        have g3 : ¬ (x.1 = y.1 ∧ x.2 = y.2) := fun z => g2 (Prod.ext z.1 z.2)
        omega
      · rw [ek]
        exact hperm
      · obtain ⟨b, hb, rfl⟩ := List.mem_map.mp hh
        have hk : pOf H b ∈ T.map (·.1) := hperm.mem_iff.mp (List.mem_map.mpr ⟨b, hb, rfl⟩)
        obtain ⟨m, hm⟩ := getT_mem hk
        show getT T (pOf H b) = some ((getT T (pOf H b)).getD ([], []))
        rw [hm]
        rfl
end
end HM
namespace HM
open PySem PySem.Spec PyProof.Rows L2
/-! ### changes: only that it ends -/
abbrev sChanges : Stmt := top 47
theorem sc_changes : FnScope ["one", "other", "unlike", "item", "thing", "holder", "mode"] ["one", "other"] (defScope sChanges) := ⟨rfl, rfl, rfl, by decide +kernel, rfl, by decide +kernel, by decide +kernel⟩
def spChanges : Sp := fun vs H Q _ => ∃ (u v : V) (r : Rules) (t : Tree) (hs gs : List Hold), vs = [u, v] ∧ Is H u (cHolds hs) ∧ Is H v (cHolds gs) ∧ HoldsOk r t hs ∧ HoldsOk r t gs ∧ TreeOk t ∧ ∀ x H', Same H H' → Q x H'
/-- the first part's loop -/
theorem unlike_loop {K : PySem.W.Frag} {a : Addr} {xs : List V} {v : V} {hs gs : List Hold} {H1 : Hp} {D : Addr} {σ : L2.St} {i j : Nat} {Qd : Hp → Prop} (ha : H1 a = some (.tup xs)) (ixs : IsAll H1 xs (hs.map cHold)) (hv : Is H1 v (cHolds gs)) (h48 : hs.length ≤ 48)
    (hi : (wipe σ [i])[j]? = some (some v)) (hne : i ≠ j) (hil : i < σ.length) (nD : H1 D = none) (hd : ∀ H' ys (L : List Hold), Same H1 H' → H' D = some (.lst ys) → IsAll H' ys (L.map cHold) → (∀ h ∈ L, h ∈ hs) → L.length ≤ 48 → Qd H') :
    ∃ W : Nat → Nat → Hp → Prop, (∃ m, W 0 m (upd H1 D (.lst []))) ∧ ∀ k m H, W k m H →
      ((Itt K a).stop k H ∧ Qd H) ∨ ((Itt K a).go k H ∧ ∃ Nx : Hp → Prop, (∀ H', Nx H' → ∃ m', m' < m ∧ W (k + 1) m' H') ∧ ∀ x H', (Itt K a).yld k H x H' → gName i x (wipe σ [i]) H' fun σ2 H2 => wipe σ2 [i] = wipe σ [i] ∧ tTest (tOp (rInS true) (tVar i) (tVar j)) σ2 H2 fun b H3 =>
        if b = true then tVar i σ2 H3 fun y H4 => ∃ acc, H4 D = some (.lst acc) ∧ acc.length < sizeLine ∧ Nx (upd H4 D (.lst (acc ++ [y]))) else Nx H3) := by
  have hl := ixs.length
  rw [List.length_map] at hl
  refine lc_tup (K := K) (a := a) (xs := xs) (fun k H' => Same H1 H' ∧ ∃ (ys : List V) (L : List Hold), H' D = some (.lst ys) ∧ IsAll H' ys (L.map cHold) ∧ (∀ h ∈ L, h ∈ hs) ∧ L.length ≤ k) ⟨Same.new nD, [], [], upd_same, .nil, fun h hh => absurd hh (by simp), Nat.le_refl _⟩ (fun k H' _ p => .of (p.1 _ _ ha)) (fun k z H' hz p => ?_) (fun H' p => ?_)
  · obtain ⟨s1, ys, L, hD, iys, hL, hk⟩ := p
    obtain ⟨h, hh, ih⟩ := ixs.map_of hz
    have hlt := lt_get hz
    have hw : (wipe σ [i]).length = σ.length := by simp [wipe]
    refine ⟨?_, ?_⟩
    · show wipe ((wipe σ [i]).set i (some z)) [i] = _
      simp [wipe]
    refine ⟨z, ?_, v, ?_, ?_⟩
    · rw [List.getElem?_set_self (by rw [hw]; exact hil)]
    · rw [List.getElem?_set_ne hne]
      exact hi
    refine ⟨cHold h, gs.map cHold, ih.same s1, .inl (hv.same s1), shp_hold h, shp_holds gs, _, rfl, ?_⟩
    refine ite2 (fun c => ?_) (fun c => ?_)
    · refine ⟨z, ?_, ys, hD, ?_, s1.set nD, _, L ++ [h], upd_same, ?_, fun x hx => ?_, ?_⟩
      · rw [List.getElem?_set_self (by rw [hw]; exact hil)]
      · have e := iys.length
        rw [List.length_map] at e
        exact lt1000 (by omega)
      · have tp : Tups H' (upd H' D (.lst (ys ++ [z]))) := fun c o e => by
          rw [upd_ne (fun z => by rw [z, hD] at e; cases e)]
          exact e
        rw [List.map_append]
        exact (IsAll.tups tp iys (tupdAll_map tupd_hold _)).append (.one ((ih.same s1).tups tp (tupd_hold _)))
      · rcases List.mem_append.mp hx with q | q
        · exact hL x q
        · rw [List.mem_singleton.mp q]
          exact List.mem_of_getElem? hh
      · rw [List.length_append]
        simp only [List.length_cons, List.length_nil]
        omega
    · exact ⟨s1, ys, L, hD, iys, hL, by omega⟩
  · obtain ⟨s1, ys, L, hD, iys, hL, hk⟩ := p
    exact hd H' ys L s1 hD iys hL (by omega)
section
variable {P : Program} {w : World} {K : PySem.W.Frag} {mg : Str → Option Value} {base : Heap}
theorem ok_changes (F : Free mg) (D : Dn K mg "changes" sChanges) : C8.Cal P w K mg base 1 "changes" spChanges [] := by
  refine cal_of D sc_changes (fun _ _ _ _ _ _ us hl => match us, hl with | [_, _], _ => rfl) (fun vs H Q E h => ?_) (fun f cdv A outer s H vs Q E hr h => ?_)
  · obtain ⟨u, v, r, t, hs, gs, rfl, _⟩ := h
    rfl
  · obtain ⟨u, v, r, t, hs, gs, rfl, hu, hv, ho, hg, hT, k⟩ := h
    refine ⟨_, pss_cons (ps_set (i := 2) sc_changes.nd rfl (Or.inl rfl) (pe_op op_cat
        (pe_lc (own := [("item", 3)]) (g := gName 3) (tt := tTest (tOp (rInS true) (tVar 3) (tVar 1))) (te := tVar 3) rfl sc_changes.nd
          (pi_tup (pv 0)) (blkOk_by (N := ["one", "other", "unlike", "item", "thing", "holder", "mode"]) (sc := defScope sChanges) (own := [("item", 3)]) (by decide +kernel))
          (fun _ _ _ _ _ => by exact (pg_name (i := 3) sc_changes.nd rfl (.inl rfl)))
          (fun _ _ _ _ _ => by exact (pts_one (by exact (pt_cmpR (op_notInS hr) (pv 3) (pv 1) (by rfl)))))
          (fun _ _ _ _ _ => by exact (pv 3)))
        (pe_lc (own := [("item", 3)]) (g := gName 3) (tt := tTest (tOp (rInS true) (tVar 3) (tVar 0))) (te := tVar 3) rfl sc_changes.nd
          (pi_tup (pv 1)) (blkOk_by (N := ["one", "other", "unlike", "item", "thing", "holder", "mode"]) (sc := defScope sChanges) (own := [("item", 3)]) (by decide +kernel))
          (fun _ _ _ _ _ => by exact (pg_name (i := 3) sc_changes.nd rfl (.inl rfl)))
          (fun _ _ _ _ _ => by exact (pts_one (by exact (pt_cmpR (op_notInS hr) (pv 3) (pv 0) (by rfl)))))
          (fun _ _ _ _ _ => by exact (pv 3)))))
      (pss_one (ps_ret (pe_callTy call_tuple_of (by rfl) F.tuple boot_tuple (pa_cons (pe_callB (cr_sortedSet rfl) (by rfl) F.sorted boot_sortedB (pa_cons (pe_callTy (call_setL rfl) (by rfl) F.set boot_setT (pa_cons
        (pe_lc (own := [("holder", 5), ("thing", 4), ("mode", 6)]) (g := gT 3 (gCons (gName 5) (gCons (gName 4) (gCons (gName 6) gNil)))) (tt := tYes) (te := tVar 4) rfl sc_changes.nd
          (pi_list (pv 2)) (blkOk_by (N := ["one", "other", "unlike", "item", "thing", "holder", "mode"]) (sc := defScope sChanges) (own := [("holder", 5), ("thing", 4), ("mode", 6)]) (by decide +kernel))
          (fun _ _ _ _ _ => by exact (pgT rfl (by exact (pgs_cons (by exact (pg_name (i := 5) sc_changes.nd rfl (.inl rfl))) (by exact (pgs_cons (by exact (pg_name (i := 4) sc_changes.nd rfl (.inl rfl))) (by exact (pgs_cons (by exact (pg_name (i := 6) sc_changes.nd rfl (.inl rfl))) pgs_nil))))))))
          (fun _ _ _ _ _ => pts_nil)
          (fun _ _ _ _ _ => by exact (pv 4))) pa_nil)) pa_nil)) pa_nil)))), ?_⟩
    obtain ⟨a, xs, rfl, ha, ixs⟩ := hu.holds
    obtain ⟨b, ys, rfl, hb, iys⟩ := hv.holds
    have l1 := ho.len hT
    have l2 := hg.len hT
    refine ⟨_, rfl, a, rfl, ⟨_, .of ha⟩, fun d nd => unlike_loop (σ := start ["one", "other", "unlike", "item", "thing", "holder", "mode"] [.ref a, .ref b]) (i := 3) (j := 1) ha ixs hv l1 rfl (by decide) (by show 3 < 7; decide) nd fun H1 zs L1 s1 hd1 izs hL1 hl1 => ?_⟩
    refine ⟨_, rfl, b, rfl, ⟨_, .of (s1 _ _ hb)⟩, fun e ne => unlike_loop (σ := start ["one", "other", "unlike", "item", "thing", "holder", "mode"] [.ref a, .ref b]) (i := 3) (j := 0) (s1 _ _ hb) (IsAll.same s1 iys) (hu.same s1) l2 rfl (by decide) (by show 3 < 7; decide) ne fun H2 ws L2 s2 hd2 iws hL2 hl2 => ?_⟩
    have lz := izs.length
    have lw := iws.length
    rw [List.length_map] at lz lw
    refine ⟨d, e, zs, ws, rfl, rfl, s2 _ _ hd1, hd2, le1000 (by omega), fun p hp => ?_⟩
    have s3 := Same.new (o := HO.lst (zs ++ ws)) hp
    have iall : IsAll (upd H2 p (.lst (zs ++ ws))) (zs ++ ws) ((L1 ++ L2).map cHold) := by
      rw [List.map_append]
      exact (IsAll.same (s2.trans s3) izs).append (IsAll.same s3 iws)
    have hin : ∀ h ∈ L1 ++ L2, InT t h.2.1 := fun h hh => by
      rcases List.mem_append.mp hh with q | q
      · exact (ho.ok h (hL1 h q)).at_
      · exact (hg.ok h (hL2 h q)).at_
    have hhi := hT.hi
    refine ⟨_, rfl, p, rfl, ⟨_, .of upd_same⟩, fun g ng => lc_list (K := K) (a := p) (xs := zs ++ ws) (fun i H' => Same (upd H2 p (.lst (zs ++ ws))) H' ∧ H' g = some (.lst ((((L1 ++ L2).take i).map fun h => h.2.1).map V.int))) ⟨Same.new ng, upd_same⟩ (fun i H' _ q => .of (q.1 _ _ upd_same)) (fun i x H' hx q => ?_) (fun H' q => ?_)⟩
    · obtain ⟨s4, hg'⟩ := q
      obtain ⟨h, hh, ih⟩ := iall.map_of hx
      have hlt := lt_get hh
      rw [List.length_append] at hlt
      obtain ⟨c, m, rfl, hc, _⟩ := ih.hold
      refine ⟨c, _, rfl, s4 _ _ hc, rfl, _, _, rfl, _, _, rfl, _, _, rfl, rfl, rfl, yes_at ?_⟩
      refine ⟨_, rfl, _, hg', ?_, s4.set ng, ?_⟩
      · rw [List.length_map, List.length_map, List.length_take]
        exact lt1000 (by omega)
      · rw [upd_same, take_more hh, List.map_append, List.map_append]
        rfl
    · obtain ⟨s4, hg'⟩ := q
      rw [List.length_append, lz, lw, ← List.length_append, List.take_length] at hg'
      refine ⟨g, _, 12, rfl, hg', ?_, fun i hi => ?_, fun q c hq hc => ?_⟩
      · rw [List.length_map, List.length_append]
        omega
      · obtain ⟨h, hh, rfl⟩ := List.mem_map.mp hi
        have z := hin h hh
        have z1 := z.1
        have z2 := z.2
        omega
      · have s5 := Same.new (o := SetO w q (fun j => decide (j ∈ (L1 ++ L2).map fun h => h.2.1)) c) hq
        refine ⟨q, _, c, rfl, upd_same, by omega, fun ns l hup hmem hlen hl => ?_⟩
        have s6 := Same.new (o := HO.lst (ns.map V.int)) hl
        refine ⟨l, _, rfl, .inl ⟨.of upd_same, fun o hoo => ?_⟩⟩
        have s7 := Same.new (o := HO.tup (ns.map V.int)) hoo
        exact k _ _ ((((((s1.trans s2).trans s3).trans s4).trans s5).trans s6).trans s7)
end
end HM
/-! Own exception classes over any built-in one, by an __init__ that is a def. -/
namespace HM
open PySem PySem.Spec PyProof.Rows L2
/-- what the written part says of such a class; initId is the built-in's __init__ -/
structure OxC (K : PySem.W.Frag) (C : Addr) (initId : String) : Prop where
  ex : ∃ (B newId : String) (tl : List Value), ExcBaseFacts B newId initId tl ∧ StoreFacts B tl "object.__setattr__" "object" ∧ PySem.W.excInitIn K C tl newId = true ∧ PySem.W.excOver K C tl = true
  hd : PySem.W.hasDictIn K C = true
  sa : PySem.W.findIn K (.ref C) "__setattr__" = some (some (.builtin "object.__setattr__"))
  exC : PySem.W.subIn K (.ref C) (.type "BaseException") = some true
  tyC : PySem.W.typeIn K (.ref C) = some (.type "type")
  kC : PySem.W.keepIn K (.ref C) = true
section
open Builtin Builtin.ObjectAttr PySem.W
variable {prog : Program} {w : World} {A : Around} {E : Value → Shared → Prop} {R : Result → Shared → Prop} {hp : Heap} {g : Array GenState} {dr : Drawn} {t : Nat} {os : OsState}
variable {K : Frag} {C x : Addr} {B : String} {tl : List Value} {nm : Str} {tk : Tok} {v : Value} {fv : Array Value}
theorem taker_none (ha : findIn K (.ref C) nm = some none) : takerIn K C nm = some none := by
  unfold takerIn
  rw [ha] <;> rfl
theorem sto_first (SF : StoreFacts B tl "object.__setattr__" "object") (XK : K.In hp) (hov : excOver K C tl = true) (hdd : hasDictIn K C = true) (hx : hp.get? x = some { cls := .ref C, data := .fields fv }) (ha : findIn K (.ref C) nm = some none)
    (hq : ∀ h' tk' dx, (∀ b o, b ≠ x → hp.get? b = some o → h'.get? b = some o) → hp.objs.size ≤ dx → dx ≠ x → h'.get? x = some { cls := .ref C, dict := some dx, data := .fields fv } → h'.Ns1 dx (fun y => if y = nm then some v else none) → R (.ok (.ret .none)) ⟨h', g, dr, tk', os⟩) :
    codeAny (model prog w) A (.call (.builtin "object.__setattr__") ⟨[.ref x, .str nm tk, v], []⟩) R ⟨hp, g, dr, t, os⟩ := by
  obtain ⟨cd, hc, hcd⟩ := any_some hdd
  have hne : x ≠ hp.objs.size := Nat.ne_of_lt (Heap.lt_size hx)
  refine osa_openX (od := none) SF XK ⟨hx, rfl, rfl, trivial⟩ hov (taker_none ha) fun b => ?_
  show wpAny _ _ (storeInOwnDict (.ref x) (.ref C) (.str nm tk) nm v b) _ _ _
  have hcls : Looks (model prog w) hp (classData C) cd := looks_clsIn XK hc
  obtain ⟨n1, n2, n3, n4, n5, hd, n6, n7, n8, n9, n10⟩ := cd
  dsimp only at hcd
  subst hcd
  unfold storeInOwnDict ownDictForStores
  repeat (first | with_reducible refine HandSPX.store_in_new ?_ ?_ | with_reducible refine wpAny_loadPart_at hx ?_ | with_reducible refine hcls.at ?_ | wp_step)
  · exact ⟨_, #[], _, (Heap.get?_update_ne _ _ _ _ hne.symm).trans (Heap.get?_push_at rfl rfl), rfl, fun e he => absurd he (by simp), fun _ => rfl⟩
  · intro h' tk' hn' hs
    have hx1 : (hp.push { cls := .type "dict", data := .dict #[] }).get? x = some { cls := .ref C, data := .fields fv } := Heap.get?_push_of_some _ hx
    refine hq h' tk' hp.objs.size (fun c o hb ho => ?_) (Nat.le_refl _) hne.symm ?_ hn'
    · exact (hs.2 c (Nat.ne_of_lt (Heap.lt_size ho))).trans ((Heap.get?_update_ne _ _ _ _ hb).trans (Heap.get?_push_of_some _ ho))
    · exact (hs.2 x hne).trans (Heap.get?_update_self _ hx1 rfl)
theorem sto_more {dx : Addr} {m0 : Str → Option Value} {nl : List Str} (SF : StoreFacts B tl "object.__setattr__" "object") (XK : K.In hp) (hov : excOver K C tl = true) (hdd : hasDictIn K C = true) (hx : hp.get? x = some { cls := .ref C, dict := some dx, data := .fields fv }) (ha : findIn K (.ref C) nm = some none)
    (hns : hp.Ns1 dx m0) (hw : Within m0 nl) (hz : nl.length ≤ 1000)
    (hq : ∀ h' tk', (∀ b o, b ≠ dx → hp.get? b = some o → h'.get? b = some o) → h'.Ns1 dx (fun y => if y = nm then some v else m0 y) → R (.ok (.ret .none)) ⟨h', g, dr, tk', os⟩) :
    codeAny (model prog w) A (.call (.builtin "object.__setattr__") ⟨[.ref x, .str nm tk, v], []⟩) R ⟨hp, g, dr, t, os⟩ := by
  obtain ⟨cd, hc, hcd⟩ := any_some hdd
  obtain ⟨oD, esD, epD, hoD, hdD, _⟩ := hns.count hw
  refine osa_openX (od := some oD) SF XK ⟨hx, rfl, rfl, hoD⟩ hov (taker_none ha) fun b => ?_
  show wpAny _ _ (storeInOwnDict (.ref x) (.ref C) (.str nm tk) nm v b) _ _ _
  have hcls : Looks (model prog w) hp (classData C) cd := looks_clsIn XK hc
  obtain ⟨n1, n2, n3, n4, n5, hd, n6, n7, n8, n9, n10⟩ := cd
  dsimp only at hcd
  subst hcd
  unfold storeInOwnDict ownDictForStores
  repeat (first | with_reducible refine OEX.store_in_old hns hw hz ?_ | with_reducible refine wpAny_loadPart_at hx ?_ | with_reducible refine hcls.at ?_ | wp_step)
  intro h' tk' hn' hs
  exact hq h' tk' (fun c o hb ho => (hs.2 c hb).trans ho) hn'
end
section
variable {X : Cx} {pins : List (Addr × Obj)} {σ : L2.St} {H : Hp} {s : Shared} {a C dx : Addr} {f : Str} {y : V} {u : Value} {fs : List (Str × V)} {Q : Unit → Shared → Prop} {E : Value → Shared → Prop} {A : Around} {initId : String}
/-- self.f = y, the first one -/
theorem xo_first (T : OxC X.K C initId) (I : Inv X pins σ H s) (e : H a = some (exo a C none)) (hno : PySem.W.findIn X.K (.ref C) f = some none) (ry : RelV y u)
    (h : ∀ dx s', H dx = none → dx ≠ a → Inv X pins σ (upd (upd H dx (exd dx [(f, y)])) a (exo a C (some dx))) s' → Q () s') : wpAny (model X.prog X.w) A (setAttr (.ref a) f u) Q E s := by
  obtain ⟨B, newId, tl, _, SF, _, hov⟩ := T.ex
  obtain ⟨t1, ho⟩ := exo_at I.hok e
  obtain ⟨hp, g, dr, t, os⟩ := s
  refine PySem.W.set_plain I.kIn (ox := { cls := .ref C, dict := none, data := .fields #[.ref t1, .none, .none, .none, .bool false, .none] }) (od := none) ⟨ho, rfl, rfl, trivial⟩ T.sa ?_
  refine sto_first SF I.kIn hov T.hd ho hno fun h' tk' dx k dn dne hx hn => ?_
  have nH : H dx = none := I.hok.fresh dn
  have older : ∀ {b : Addr} {o : Obj}, hp.get? b = some o → b ≠ dx := fun {b o} q => Nat.ne_of_lt (Nat.lt_of_lt_of_le (Heap.lt_size q) dn)
  have noA : ∀ {b : Addr}, H b = none → b ≠ a := fun {b} n z => by
    rw [z, e] at n
    cases n
  have stay : ∀ {b : Addr} {o : HO}, H b = some o → exo a C none ≠ o → upd (upd H dx (exd dx [(f, y)])) a (exo a C (some dx)) b = some o := fun {b o} q d => by
    rw [upd_ne (at_ne e q d), upd_ne (ne_of_none q nH)]
    exact q
  have U : Un X.fs [] H (upd (upd H dx (exd dx [(f, y)])) a (exo a C (some dx))) hp h' := {
    keep := fun b o q n _ _ => k b o (noA n) q
    slot := fun b o q n _ _ => ⟨o.slots, k b o (noA n) q⟩
    free := fun b o q n _ => by
      rw [upd_ne (noA n), upd_ne (older q)]
      exact n
    there := fun b o q _ => by
      by_cases hb : b = a
      · exact ⟨_, by rw [hb]; exact hx⟩
      · exact ⟨o, k b o hb q⟩
    tups := fun b xs q => stay q exo_tup
    frzs := fun b o z q => stay q exo_frz
    tbls := fun b ps q => ⟨#[], by rw [stay q exo_tbl]; simp⟩ }
  refine h dx _ nH dne (I.un (t' := tk') U fun b o q => ?_)
  by_cases hb : b = a
  · subst hb
    rw [upd_same] at q
    cases q
    exact exo_ok hx
  · rw [upd_ne hb] at q
    by_cases hd : b = dx
    · subst hd
      rw [upd_same] at q
      cases q
      exact exd_ok hn (relO_put (fs := []) ry fun g => True.intro)
    · rw [upd_ne hd] at q
      refine (I.hok b o q).stay (fun c z hc r => k c z ?_ r) (fun c hc => stay hc exo_own) fun c xs hc => stay hc exo_tup
      rcases hc with hc | hc
      · rw [hc]
        exact hb
      · exact at_ne e hc exo_own
/-- self.f = y, a further one -/
theorem xo_more (T : OxC X.K C initId) (I : Inv X pins σ H s) (e : H a = some (exo a C (some dx))) (ed : H dx = some (exd dx fs)) (hl : fs.length ≤ 900) (hno : PySem.W.findIn X.K (.ref C) f = some none) (ry : RelV y u)
    (h : ∀ s', Inv X pins σ (upd H dx (exd dx ((f, y) :: fs))) s' → Q () s') : wpAny (model X.prog X.w) A (setAttr (.ref a) f u) Q E s := by
  obtain ⟨B, newId, tl, _, SF, _, hov⟩ := T.ex
  obtain ⟨t1, ho⟩ := exo_at I.hok e
  obtain ⟨mA, hns, rel⟩ := exd_at I.hok ed
  have hw := within_of rel
  obtain ⟨hp, g, dr, t, os⟩ := s
  obtain ⟨oD, _, _, hoD, _, _⟩ := hns.count hw
  refine PySem.W.set_plain I.kIn (ox := { cls := .ref C, dict := some dx, data := .fields #[.ref t1, .none, .none, .none, .bool false, .none] }) (od := some oD) ⟨ho, rfl, rfl, hoD⟩ T.sa ?_
  refine sto_more SF I.kIn hov T.hd ho hno hns hw (by rw [List.length_map]; omega) fun h' tk' k hn => ?_
  obtain ⟨o2, es2, ep2, e2, r2⟩ := id hn
  exact h _ (I.write (t' := tk') (x := dx) (e := dx) (o := exd dx ((f, y) :: fs)) (by rw [ed]; exact True.intro) (.inl rfl) k ⟨o2, e2⟩ (exd_ok hn (relO_put ry rel)))
/-- Base.__init__(self): nothing of it is told -/
theorem xo_init {us : List Value} {Q : Value → Shared → Prop} (T : OxC X.K C initId) (I : Inv X pins σ H s) (e : H a = some (exo a C none)) (hl : us.length ≤ sizeLine) (h : ∀ s', Inv X pins σ H s' → Q .none s') :
    wpAny (model X.prog X.w) A (call (.builtin initId) (.ref a :: us)) Q E s := by
  obtain ⟨B, newId, tl, FB, _, hin, _⟩ := T.ex
  obtain ⟨nm, N, qn, bs, bm, hdct, sn, sub, ab, col, dd, k0, k1, k2, k3, k5, hC, hT⟩ := PySem.W.excInit_of I.kIn hin
  obtain ⟨t1, ho⟩ := exo_at I.hok e
  obtain ⟨hp, g, dr, t, os⟩ := s
  refine wpAny_call (PySem.HandSPX.init_base FB hT hC ho hl fun h' t2 k hx => ?_)
  have J := I.write (t' := t) (x := a) (e := a) (o := exo a C none) (by rw [e]; exact True.intro) (.inl rfl) k ⟨_, hx⟩ (exo_ok hx)
  have eu : upd H a (exo a C none) = H := by
    funext b
    by_cases hb : b = a
    · rw [hb, upd_same, e]
    · rw [upd_ne hb]
  rw [eu] at J
  exact h _ J
end
/-! ### readings and rules -/
/-- Base.__init__(self) -/
def tXoI (K : PySem.W.Frag) (initId : String) (ta : TA) : TE := fun σ H Q => ta σ H fun vs H1 => ∃ (a C : Addr) (ws : List V), vs = .ref a :: ws ∧ ws.length ≤ 1000 ∧ OxC K C initId ∧ H1 a = some (exo a C none) ∧ Q .non H1
/-- self.f = e -/
def tXo (K : PySem.W.Frag) (initId : String) (f : Str) (to te : TE) : TS := fun D σ H => te σ H fun y H1 => to σ H1 fun x H2 => ∃ a C : Addr, x = .ref a ∧ OxC K C initId ∧ PySem.W.findIn K (.ref C) f = some none ∧
  ((H2 a = some (exo a C none) ∧ ∀ dx, H2 dx = none → dx ≠ a → D.nx σ (upd (upd H2 dx (exd dx [(f, y)])) a (exo a C (some dx)))) ∨
    ∃ (dx : Addr) (fs : List (Str × V)), H2 a = some (exo a C (some dx)) ∧ H2 dx = some (exd dx fs) ∧ fs.length ≤ 900 ∧ D.nx σ (upd H2 dx (exd dx ((f, y) :: fs))))
section
variable {X : Cx} {o e : Expr} {es : List Expr} {to te : TE} {ta : TA} {f : Str} {p p' p1 p2 pos : Pos} {initId : String}
/-- T.__init__(self) where T is a built-in class of the module's view -/
theorem pe_xoiB {pl : Sem Bool} {T : String} {x : Str} (hg : Gl X x) (hm : X.mg x = none) (hv : bootBuiltins x = some (.type T)) (ty : typeOf (.type T) = pure (.type "type")) (stub : Manifest.isStub T = false) (hh : PySem.W.handedIn (.builtin initId) = true)
    (vV : PySem.W.findCls X.K (.type T) (.type "type") "__init__" = some (.val (.builtin initId))) (ha : PA X (e :: es) ta) (hn : x ≠ "__name__") (hdb : (x == ("__debug__" : Str)) = false)
    (hc : eval (.Call (.Attribute (.Name x p1) "__init__" p2) (e :: es) [] pos) X.env = (do
      let ov ← eval (.Name x p1) X.env
      standAt p2.atName
      let (f, first) ← holding [ov] (getMethod ov "__init__" pl)
      callWith pos f first (backTo pos (starEach (e :: es) X.env)) (backToKw pos (keywordEach [] X.env))) := by rfl)
    (he : starEach (e :: es) X.env = (false, eval e X.env) :: starEach es X.env := by rfl) (hpl : (backTo pos (starEach es X.env)).any (·.1) = false := by rfl) :
    PE X (.Call (.Attribute (.Name x p1) "__init__" p2) (e :: es) [] pos) (tXoI X.K initId ta) := by
  refine ⟨fun pins s σ H Q I h => ?_⟩
  refine PySem.W.methodCall_KW (ld_blt I hg hm hv ?_ hn hdb) hc
  obtain ⟨m, fr⟩ := I.fr
  refine PySem.W.method_type fr I.ok.mod.kin ty stub vV hh ?_
  show wpAny _ _ (callWith pos (Value.builtin initId) [] (backTo pos (starEach (e :: es) X.env)) []) _ _ _
  refine PyProof.Rows.callWith_method1 (thn (ha.run pos pins _ σ H _ (I.tok _) h) fun us s1 ⟨vs, H1, I1, r1, a, C, ws, ev, hl, T, ea, q⟩ => ?_) he hpl
  subst ev
  cases r1 with
  | @cons _ u0 _ ur ra rw' =>
    obtain rfl : u0 = Value.ref a := ra
    have hlen : ur.length ≤ sizeLine := by
      rw [← Paired.length rw', sizeLine_eq]
      omega
    exact xo_init T I1 ea hlen fun s' J => ⟨.non, H1, J, rfl, q⟩
/-- D.__init__(self) where D is an own class that has the built-in's -/
theorem pe_xoiO {pl : Sem Bool} {D : Addr} {mc : Value} {x : Str} (hg : Gl X x) (hm : X.mg x = some (.ref D)) (r : ClX.CRead X.K D mc) (hh : PySem.W.handedIn (.builtin initId) = true)
    (vV : PySem.W.findCls X.K (.ref D) mc "__init__" = some (.val (.builtin initId))) (ha : PA X (e :: es) ta) (hdb : (x == ("__debug__" : Str)) = false)
    (hc : eval (.Call (.Attribute (.Name x p1) "__init__" p2) (e :: es) [] pos) X.env = (do
      let ov ← eval (.Name x p1) X.env
      standAt p2.atName
      let (f, first) ← holding [ov] (getMethod ov "__init__" pl)
      callWith pos f first (backTo pos (starEach (e :: es) X.env)) (backToKw pos (keywordEach [] X.env))) := by rfl)
    (he : starEach (e :: es) X.env = (false, eval e X.env) :: starEach es X.env := by rfl) (hpl : (backTo pos (starEach es X.env)).any (·.1) = false := by rfl) :
    PE X (.Call (.Attribute (.Name x p1) "__init__" p2) (e :: es) [] pos) (tXoI X.K initId ta) := by
  refine ⟨fun pins s σ H Q I h => ?_⟩
  refine PySem.W.methodCall_KW (ld_glob I hg hm ?_ hdb) hc
  refine PySem.W.method_cls I.kIn r.ga (PySem.W.cls_value I.kIn r.rd vV hh ?_)
  show wpAny _ _ (callWith pos (Value.builtin initId) [] (backTo pos (starEach (e :: es) X.env)) []) _ _ _
  refine PyProof.Rows.callWith_method1 (thn (ha.run pos pins _ σ H _ (I.tok _) h) fun us s1 ⟨vs, H1, I1, r1, a, C, ws, ev, hl, T, ea, q⟩ => ?_) he hpl
  subst ev
  cases r1 with
  | @cons _ u0 _ ur ra rw' =>
    obtain rfl : u0 = Value.ref a := ra
    have hlen : ur.length ≤ sizeLine := by
      rw [← Paired.length rw', sizeLine_eq]
      omega
    exact xo_init T I1 ea hlen fun s' J => ⟨.non, H1, J, rfl, q⟩
theorem ps_xo (ho : PE X o to) (he : PE X e te) (hs : swapsWith e (some (.Attribute o f p')) pos.line X.env = pure false := by rfl) : PS X (.Assign [.Attribute o f p'] e pos) (tXo X.K initId f to te) := by
  refine ⟨fun pins s σ H D I h => ?_⟩
  refine plainObj_wpAny_Assign_Attribute (thn (he.run pins s σ H _ I h) fun v s1 ⟨y, H1, I1, r1, q1⟩ => thn (ho.run pins s1 σ H1 _ I1 q1) fun u s2 ⟨x, H2, I2, r2, a, C, ex, T, hno, q⟩ => ?_) hs
  subst ex
  obtain rfl : u = Value.ref a := r2
  rcases q with ⟨ea, q⟩ | ⟨dx, fs, ea, ed, hl, q⟩
  · exact xo_first T I2 ea hno r1 fun dx s' n ne J => ⟨σ, _, J, q dx n ne⟩
  · exact xo_more T I2 ea ed hl hno r1 fun s' J => ⟨σ, _, J, q⟩
/-- C(e, ..), C's own __init__ keeping sp -/
theorem pmk_xo {CX : CXT} {x : Str} {C fI : Addr} {k : Nat} {fd : FuncData} {ps : List Str} {sp : Sp} {ds : List Value} {dvs : List V} (T : OxC X.K C initId) (iC : PySem.W.findIn X.K (.ref C) "__init__" = some (some (.ref fI))) (tI : PySem.W.typeIn X.K (.ref fI) = some (.type "function"))
    (F1 : FnOk X.prog X.w X.K X.mg X.base CX k fI fd ps sp) (hr : Room (k + 1) X.A) (hb : Binds X.K fd ps ds) (hd : Vals dvs ds) (hx : Passes CX X (fun _ _ _ => False)) (hg : Gl X x) (hm : X.mg x = some (.ref C)) (ha : PA X (e :: es) ta)
    (hdb : (x == ("__debug__" : Str)) = false := by decide) (he : starEach (e :: es) X.env = (false, eval e X.env) :: starEach es X.env := by rfl) (hpl : (backTo pos (starEach es X.env)).any (·.1) = false := by rfl) :
    PMk X (.Call (.Name x p) (e :: es) [] pos) (tMkO C sp dvs ta) := by
  intro pins s σ H Q I h
  obtain ⟨B, newId, tl, FB, _, hin, _⟩ := T.ex
  refine wpAny_Call_Name_kw (ld_glob I hg hm ?_ hdb)
  refine PySem.W.callWith_K (h₀ := X.base) I.ok.mod.kin T.kC (thn (ha.run pos pins s σ H _ I h) fun us s1 ⟨vs, H1, I1, r1, hz, q1⟩ => ⟨I1.kIn, ?_⟩) he hpl
  obtain ⟨nm, N, qn, bs, bm, hdct, sn, sub, ab, col, dd, k0, k1, k2, k3, k5, hC, hT⟩ := PySem.W.excInit_of I1.kIn hin
  show wpAny _ _ (call (.ref C) us) _ _ _
  obtain ⟨hp, g, dr, tk, os⟩ := s1
  have up1 : hp.objs.size ≤ hp.objs.size + 1 := Nat.le_succ _
  have nA : H1 (hp.objs.size + 1) = none := I1.hok.fresh up1
  have hq := q1 (hp.objs.size + 1) nA
  generalize hG : (hp.push (PySem.W.kdv_tup us)).push (PySem.HandSPX.excO C hp.objs.size) = G
  have old : ∀ b o, hp.get? b = some o → G.get? b = some o := fun b o e => by
    rw [← hG]
    exact Heap.get?_push_of_some _ (Heap.get?_push_of_some _ e)
  have hget : G.get? (hp.objs.size + 1) = some (PySem.HandSPX.excO C hp.objs.size) := by
    rw [← hG]
    heap_get
  have I2 : Inv X pins σ (upd H1 (hp.objs.size + 1) (exo (hp.objs.size + 1) C none)) ⟨G, g, dr, tk, os⟩ := I1.laid (t' := tk) (a := hp.objs.size + 1) (o := exo (hp.objs.size + 1) C none) (h' := G) old up1 (exo_ok hget)
  have r2 : Vals (V.ref (hp.objs.size + 1) :: (vs ++ dvs)) (Value.ref (hp.objs.size + 1) :: (us ++ ds)) := .cons rfl (r1.append hd)
  have hl : (Value.ref (hp.objs.size + 1) :: us ++ ds).length = ps.length := by
    have e := r2.length
    rw [F1.len _ _ _ _ hq] at e
    exact e.symm
  have hus : us.length ≤ sizeLine := by
    rw [← Paired.length r1, sizeLine_eq]
    omega
  refine wpAny_call (PySem.HandSPX.call_own FB hT hC (PySem.W.looks_findIn I1.kIn iC) (fun self => PySem.W.bind_fn I1.kIn self tI) hus ?_)
  rw [hG]
  refine codeAny_mono (F1.run _ X.stack _ _ ⟨Value.ref (hp.objs.size + 1) :: us, []⟩ (Value.ref (hp.objs.size + 1) :: (us ++ ds)) _ _ (fun _ _ _ => False) (hr.make C us []) (I2.env0.make C us []) (hb _ (Value.ref (hp.objs.size + 1) :: us) I2.kIn hl) r2 hq) fun r s' hq' => ?_
  cases r with
  | error er => exact hx pins σ _ _ er s' I2 hq'
  | ok fl =>
    cases fl with
    | ret u =>
      obtain ⟨v, H2, os2, bare2, un2, hok2, rv, ev, d, fs, ea, ed, hd1, q2⟩ := hq'
      subst ev
      obtain ⟨h2, g2, d2, t2, os'⟩ := s'
      exact ⟨rv, mk_end (raises_own T.exC T.tyC) I1 up1 old un2 hok2 os2 bare2 ea ed hd1 q2⟩
    | next => exact False.elim hq'
    | brk => exact False.elim hq'
    | cont => exact False.elim hq'
end
end HM
/-! A caught exception, seen in the suite and in a def that the suite calls. -/
namespace HM
open PySem PySem.Spec PyProof.Rows L2
/-- what the class must say, so that isinstance asks its instances rightly, and their fields are read -/
structure SeeC (K : PySem.W.Frag) (D : Addr) : Prop where
  cl : (PySem.W.clsIn K D).isSome = true
  hg : PySem.W.findIn K (.ref D) "__getattribute__" = some (some (.builtin "BaseException.__getattribute__"))
  hk : PySem.W.findIn K (.ref D) "__getattr__" = some none
  hs : PySem.W.subIn K (.ref D) (.type "BaseException") = some true
  hd : PySem.W.hasDictIn K D = true
  ha : PySem.W.findIn K (.ref D) "__class__" = some (some (.builtin "object.__class__"))
  hn : PySem.W.specialIn K (.builtin "object.__class__") "__get__" = some (some (.builtin "getset_descriptor.__get__"))
  ht : PySem.W.takesIn K (.builtin "object.__class__") = some true
  hm : PySem.W.mroIn K D (.type "object") = some true
/-- the dict of the caught exception, if any -/
def Dk (H : Hp) (d : Option Addr) : Prop := d = none ∨ ∃ (dd : Addr) (fs : List (Str × V)), d = some dd ∧ H dd = some (.xd fs)
section
variable {X : Cx} {pins : List (Addr × Obj)} {σ : L2.St} {H : Hp} {s : Shared} {a D : Addr} {oe : Obj} {d : Option Addr}
theorem pin_inst (I : Inv X pins σ H s) (hp : (a, oe) ∈ X.pn) (hz : Zc (.ref D) d oe) (hf : ∃ vs, oe.data = .fields vs) (hd : Dk H d) : ∃ od, PySem.W.InstAt s.heap a oe D od ∧ ((d = none ∧ od = none) ∨ ∃ dd fs o, d = some dd ∧ H dd = some (.xd fs) ∧ od = some o ∧ ∀ f, ∃ u, PySem.W.lookIn f o = some u ∧ RelO (fs.lookup f) u) := by
  obtain ⟨ha, _⟩ := I.pin (a, oe) (List.mem_append_left _ hp)
  obtain ⟨vs, hv⟩ := hf
  obtain ⟨h1, h2⟩ := hz
  have nc : PySem.W.notCls oe = true := by
    unfold PySem.W.notCls
    rw [hv] <;> rfl
  rcases hd with rfl | ⟨dd, fs, rfl, e⟩
  · exact ⟨none, ⟨ha, h1, nc, by rw [h2]; trivial⟩, .inl ⟨rfl, rfl⟩⟩
  · have hx : ObjOk X.prog X.w H s.heap dd (.xd fs) := I.hok dd _ e
    obtain ⟨mA, hns, hr⟩ := hx
    obtain ⟨od, ho, hl⟩ := lookIn_ns hns
    exact ⟨some od, ⟨ha, h1, nc, by rw [h2]; exact ho⟩, .inr ⟨dd, fs, od, rfl, e, rfl, fun f => ⟨mA f, hl f, hr f⟩⟩⟩
end
/-- isinstance(e, c), e the caught exception -/
def rIsP (K : PySem.W.Frag) (D a : Addr) (d : Option Addr) : List V → Hp → VK → Prop := fun xs H Q => ∃ (c : V) (cv : Value) (b : Bool), xs = [.ref a, c] ∧ (∀ u, RelV c u → u = cv) ∧ PySem.W.kitOne K (.ref D) cv = some b ∧ Dk H d ∧ Q (.bl b) H
theorem call_isP {X : Cx} {a D : Addr} {oe : Obj} {d : Option Addr} (C : SeeC X.K D) (hp : (a, oe) ∈ X.pn) (hz : Zc (.ref D) d oe) (hf : ∃ vs, oe.data = .fields vs) : CallR X (.builtin "isinstance") (rIsP X.K D a d) := by
  intro pins s σ H xs us Q I r h
  obtain ⟨c, cv, b, rfl, hcv, e, hd, q⟩ := h
  cases r with
  | cons rx rr =>
    cases rr with
    | cons rt rr =>
      cases rr
      cases rx
      have ec := hcv _ rt
      subst ec
      obtain ⟨od, J, _⟩ := pin_inst I hp hz hf hd
      exact PySem.W.kia_one (PySem.W.kitx_exc C.cl C.hg C.hk C.hs C.ha C.hn C.ht C.hm) I.kIn J e (fun z => nomatch z) fun tk => ⟨.bl b, H, I.kept (t' := tk) fun _ _ z => z, rfl, q⟩
/-- e.n, e the caught exception -/
theorem pe_xfP {X : Cx} {a D : Addr} {oe : Obj} {cls : Value} {d : Option Addr} {e : Expr} {te : TE} {pos : Pos} {n : Str} (C : SeeC X.K D) (hno : PySem.W.findIn X.K (.ref D) n = some none)
    (hp : (a, oe) ∈ X.pn) (hz : Zc cls d oe) (hf : ∃ vs, oe.data = .fields vs) (he : PE X e te) (hb : attributeBase e n X.env (eval e X.env) = eval e X.env := by rfl) : PE X (.Attribute e n pos) (tXf a cls d D n te) := by
  refine ⟨fun pins s σ H Q I h => ?_⟩
  refine attr_of hb (thn (he.run pins s σ H _ I h) fun u s1 hh => ?_)
  obtain ⟨x, H1, I1, rx, ex, ec, dd, fs, v, ed, ea, l, q⟩ := hh
  subst ex
  obtain rfl : u = Value.ref a := rx
  subst ec
  obtain ⟨od, J, z⟩ := pin_inst I1 hp hz hf (.inr ⟨dd, fs, ed, ea⟩)
  rcases z with ⟨e1, _⟩ | ⟨dd2, fs2, o, e1, e2, rfl, hl⟩
  · rw [ed] at e1
    cases e1
  · rw [ed] at e1
    cases e1
    rw [ea] at e2
    cases e2
    obtain ⟨u2, l2, r2⟩ := hl n
    obtain ⟨u, hu, ru⟩ := RelO.some_of (v := v) (o := u2) (by rw [← l]; exact r2)
    exact HandSPX.exc_get I1.kIn J C.hg C.hk C.hs (PySem.W.findObj_own C.hd hno rfl (by rw [l2, hu])) (handed_of ru) ⟨v, H1, I1.tok _, ru, q⟩
/-! ### a def that is handed the caught exception -/
structure FnP (P : Program) (w : World) (K : PySem.W.Frag) (mg : Str → Option Value) (base : Heap) (k : Nat) (f : Addr) (fd : FuncData) (ps : List Str) (sp : Addr → Obj → Sp) : Prop where
  len : ∀ a oe vs H Q E, sp a oe vs H Q E → vs.length = ps.length
  run : ∀ (A : Around) (outer : List Env) (s : Shared) (H : Hp) (args : Args) (us : List Value) (vs : List V) (Q : VK) (E : XK) (a : Addr) (oe : Obj), L2H.RoomH k A → L2H.PinOk outer H s (a, oe) → Env0 P w K mg base A outer s H → BindsTo s fd args (ps.zip us) → Vals vs us → sp a oe vs H Q E →
    codeAny (model P w) A (.call (.ref f) args) (CR C8.CX0 outer P w H s Q E) s
section
variable {P : Program} {w : World} {K : PySem.W.Frag} {mg : Str → Option Value} {base : Heap}
theorem fnP_of {x qual : Str} {params : Arguments} {body : List Stmt} {scope : Scope} {f : Addr} {fd : FuncData} {N ps : List Str} {k : Nat} {sp : Addr → Obj → Sp} (F : FunD K x qual params body scope [] [] f fd) (S : FnScope N ps scope)
    (len : ∀ a oe vs H Q E, sp a oe vs H Q E → vs.length = ps.length)
    (hbody : ∀ (cdv : Value) (A : Around) (outer : List Env) (s : Shared) (H : Hp) (vs : List V) (Q : VK) (E : XK) (a : Addr) (oe : Obj), L2H.RoomH k (A.deeper (envOfC qual scope s.heap.objs.size f cdv)) → sp a oe vs H Q E →
      ∃ t, PSs (L2H.cxH C8.CX0 P w K mg base N qual scope f cdv A outer s H E (a, oe)) body t ∧ t { nx := fun _ H' => Q .non H', rt := Q } (start N vs) H) : FnP P w K mg base (k + 1) f fd ps sp := by
  obtain ⟨oc, od, dV, kV, doc, pm, an, cdv, ct, osl, rfl, lk, hcd, _, _⟩ := F.ex
  refine ⟨len, fun A outer s H args us vs Q E a oe hr hpin e0 hb r hsp => ?_⟩
  have hl := len _ _ _ _ _ _ hsp
  have KX : K.In s.heap := e0.mod.kin.keeps fun b o e => (e0.bs b o e).1
  have lim : s.heap.NoLimit := e0.mod.nolimit.keeps fun b o e => (e0.bs b o e).1
  have kinds : ∀ y ∈ ps.zip us, scope.names.lookup y.1 = some .local ∨ (scope.names.lookup y.1 = some .cell ∧ ((cellsFrom (s.heap.objs.size + 1) scope.names []).lookup y.1).isSome = true) := by
    rintro ⟨n, v⟩ hy
    rcases S.par n (List.of_mem_zip hy).1 with q | q
    · exact .inl q
    · exact .inr ⟨q, PySem.W.cellsFrom_some _ _ _ (.inl q)⟩
  refine codeAny_call_function hr.depth (KX _ _ lk) rfl S.co S.gen rfl (PySem.W.codeRec_of KX hcd) (hb _ _ _ _ ?_)
  refine wpAny_newFunctionEnv_cells S.kind kinds fun env he s1 xc => ?_
  subst he
  refine ⟨lim.keeps xc.toInCall.keep, codeAny_func ?_⟩
  obtain ⟨t, ht, hq⟩ := hbody cdv A outer s H vs Q E a oe (hr.deeper _) hsp
  have I : Inv (L2H.cxH C8.CX0 P w K mg base N qual scope f cdv A outer s H E (a, oe)) [] (start N vs) H s1 := L2H.inv_startH S hpin e0 hl r xc
  refine wpAny_mono (ht.run [] s1 (start N vs) H _ I hq) (fun fl s' hs => ?_) fun e s' hs => hs
  cases fl with
  | ret u =>
    obtain ⟨v, σ', H', J, rv, q⟩ := hs
    exact ⟨v, H', J.os, J.bare, J.base, J.hok, rv, q⟩
  | next =>
    obtain ⟨σ', H', J, q⟩ := hs
    exact ⟨.non, H', J.os, J.bare, J.base, J.hok, rfl, q⟩
  | brk =>
    obtain ⟨_, _, _, q⟩ := hs
    exact q.elim
  | cont =>
    obtain ⟨_, _, _, q⟩ := hs
    exact q.elim
end
section
variable {X : Cx} {k : Nat} {f a : Addr} {oe : Obj} {fd : FuncData} {ps : List Str} {sp : Addr → Obj → Sp} {x : Str} {q pos : Pos} {e : Expr} {es : List Expr} {t : TA}
def tCallP (sp : Addr → Obj → Sp) (a : Addr) (oe : Obj) (t : TA) : TE := fun σ H Q => t σ H fun vs H1 => sp a oe vs H1 Q (fun _ _ _ => False)
theorem pe_callP (F : FnP X.prog X.w X.K X.mg X.base k f fd ps sp) (hr : L2H.RoomH k X.A) (hp : (a, oe) ∈ X.pn) (hg : Gl X x) (hm : X.mg x = some (.ref f)) (hk : PySem.W.keepIn X.K (.ref f) = true) (hb : Binds X.K fd ps [])
    (ha : PA X (e :: es) t) (hdb : (x == ("__debug__" : Str)) = false := by decide) (he : starEach (e :: es) X.env = (false, eval e X.env) :: starEach es X.env := by rfl) (hpl : (backTo pos (starEach es X.env)).any (·.1) = false := by rfl) :
    PE X (.Call (.Name x q) (e :: es) [] pos) (tCallP sp a oe t) := by
  refine ⟨fun pins s σ H Q I h => ?_⟩
  refine wpAny_Call_Name_kw (ld_glob I hg hm ?_ hdb)
  refine PySem.W.callWith_K (h₀ := X.base) I.ok.mod.kin hk (thn (ha.run pos pins s σ H _ I h) fun us s1 ⟨vs, H1, I1, r, z⟩ => ⟨I1.kIn, ?_⟩) he hpl
  have hl : us.length = ps.length := by
    rw [← r.length]
    exact F.len _ _ _ _ _ _ z
  have b := hb s1 us I1.kIn (by rw [List.append_nil]; exact hl)
  rw [List.append_nil] at b
  have P1 := I1.pin (a, oe) (List.mem_append_left _ hp)
  have hpin : L2H.PinOk X.stack H1 s1 (a, oe) := ⟨P1.1, P1.2.1, fun hm => (List.mem_cons.mp (I1.stkSub a hm)).elim P1.2.2.1 P1.2.2.2.1, P1.2.2.2.2⟩
  refine wpAny_call (codeAny_mono (F.run X.A X.stack s1 H1 ⟨us, []⟩ us vs Q _ a oe hr hpin I1.env0 b r z) fun r s' hq => ?_)
  cases r with
  | error er => exact hq.elim
  | ok fl =>
    cases fl with
    | ret u => exact I1.after hq
    | next => exact False.elim hq
    | brk => exact False.elim hq
    | cont => exact False.elim hq
end
/-! ### several clauses with a name -/
/-- what the clauses wish of an exception of the body, one after the other -/
def wManyA (K : PySem.W.Frag) (Wout : WX) (D : Ends) : List (Value × Nat × (Addr → Value → Option Addr → TS)) → WX
  | [] => Wout
  | (c, i, ts) :: r => fun cls d σ H => ∃ b, PySem.W.exmOne K cls c = some b ∧
    (b = true → ∀ a, H a = none → ts a cls d { nx := fun σ' H' => D.nx (σ'.set i none) H', rt := D.rt, bk := fun σ' H' => D.bk (σ'.set i none) H', ct := fun σ' H' => D.ct (σ'.set i none) H' } (σ.set i (some (.ref a))) H) ∧ (b = false → wManyA K Wout D r cls d σ H)
inductive HdsA (X : Cx) : List ExceptHandler → List (Value × Nat × (Addr → Value → Option Addr → TS)) → Prop
  | nil : HdsA X [] []
  | cons {x n : Str} {i : Nat} {c : Value} {ts : Addr → Value → Option Addr → TS} {b0 : Stmt} {suite : List Stmt} {np pos' : Pos} {hds : List ExceptHandler} {l : List (Value × Nat × (Addr → Value → Option Addr → TS))} (hi : X.N[i]? = some n) (hln : X.env.kindOf n = some .local) (hc : Names X x c)
      (hsu : ∀ (a : Addr) (oe : Obj) (cls : Value) (d : Option Addr) (pn : List (Addr × Obj)), Zc cls d oe → (∃ vs, oe.data = .fields vs) → PSs (X.suite a ((a, oe) :: pn)) (b0 :: suite) (ts a cls d)) (r : HdsA X hds l) :
      HdsA X (.ExceptHandler (some (.Name x np)) (some n) (b0 :: suite) pos' :: hds) ((c, i, ts) :: l)
section
variable {X : Cx} {body : List Stmt} {h0 : ExceptHandler} {hds : List ExceptHandler} {l : List (Value × Nat × (Addr → Value → Option Addr → TS))} {pos : Pos} {tb : WX → TS} {Wout : WX}
theorem ps_try_manyA (hs : X.stack = X.env :: X.outer) (hf : X.env.frame = some X.env.locals) (hN : X.N.Nodup) (tk : Takes X Wout)
    (hb : ∀ (W : WX) (pn : List (Addr × Obj)) (xe : Value → Shared → Prop), Takes (X.tr pn xe) W → PassesOwn (model X.prog X.w) X.A X.env xe → PSs (X.tr pn xe) body (tb W))
    (hh : HdsA X (h0 :: hds) l) : PS X (.Try body (h0 :: hds) [] [] pos) (fun D σ H => tb (wManyA X.K Wout D l) D σ H) := by
  refine ⟨fun pins s σ H D I h => ?_⟩
  have ok := I.ok
  have fram : X.A.frames = some (X.env :: X.outer) := by rw [ok.frames, hs]
  refine wpAny_Try_except ?_
  refine wpAny_mono ((hb (wManyA X.K Wout D l) (X.pn ++ pins) (fun e s1 => wpAny (model X.prog X.w) X.A (noteFrame e X.env) (fun _ s2 => wpAny (model X.prog X.w) X.A (setFlight e none) (fun _ s3 =>
    wpAny (model X.prog X.w) X.A (handleBy e X.env (h0 :: hds)) (SP X pins D) X.xe s3) X.xe s2) X.xe s1) (fun u s' xx => ?_) PassesOwn.looking).run [] s σ H D (I.toTry _) h) (fun f s1 hsp => ?_) (fun e s1 he => he)
  · obtain ⟨a, B, sI, pins', σ', H', cls, d, rfl, J', nb, up, sky, na, os, ag, w⟩ := xx
    have J : Inv X pins σ' H' sI := J'.ofTry ok
    have sky' : Sky B (X.env :: X.outer) a (Zc cls d) X.env.locals s'.heap := by
      rw [← hs]
      exact sky
    show wpAny (model X.prog X.w) X.A (noteFrame (.ref a) X.env) _ _ _
    refine Sky.land Zc.steady fram hf sky' fun g3 fl3 up3 => ?_
    have J3 : Inv X pins σ' H' { s' with heap := g3 } := J.landed nb fl3.1 (up.trans up3) os ag
    obtain ⟨oe3, vs3, he3, hz3, hd3⟩ := fl3.there
    have nfr : a ∉ frs (X.env :: X.outer) := fun hm => by
      obtain ⟨_, o', e', hnf⟩ := fl3.2.2.1.mem hm
      rw [he3] at e'
      cases e'
      exact hnf _ hd3
    have nL : a ≠ X.env.locals := fun z => nfr (List.mem_filterMap.mpr ⟨X.env, List.mem_cons_self, by rw [hf, z]⟩)
    have nF : a ∉ X.fs := fun hm => by
      obtain ⟨e, he, q⟩ := List.mem_filterMap.mp hm
      exact nfr (List.mem_filterMap.mpr ⟨e, List.mem_cons_of_mem _ he, q⟩)
    have S3 := J3.suite he3 hd3 na nL nF
    have go : ∀ {hs' : List ExceptHandler} {l' : List (Value × Nat × (Addr → Value → Option Addr → TS))}, HdsA X hs' l' → wManyA X.K Wout D l' cls d σ' H' → wpAny (model X.prog X.w) X.A (handleBy (.ref a) X.env hs') (SP X pins D) X.xe { s' with heap := g3 } := by
      intro hs' l' hk
      induction hk with
      | nil =>
        intro w
        refine wpAny_handleBy_nil ?_
        obtain ⟨k1, k2, k3, oe, vs, T, oT, ts', he, hz, hd, h1, hr⟩ := id fl3
        unfold PySem.passOn
        refine wpAny_bind (wpAny_field he hd h1 ?_)
        rw [if_neg (show ¬ ((Value.ref T == Value.none) = true) from by simp)]
        have out : wpAny (model X.prog X.w) X.A (setFlight (.ref a) X.env.frame) (fun _ s4 => wpAny (model X.prog X.w) X.A (throw (.ref a) : Sem Flow) (SP X pins D) X.xe s4) X.xe { s' with heap := g3 } := by
          rw [hf]
          refine HandSPX.setFlight_upZ fl3 fun g4 hh4 up4 => wpAny_throw (tk _ _ ?_)
          exact ⟨a, B, sI, pins, σ', H', cls, d, rfl, J, nb, (up.trans up3).trans up4, .inr (.inr (by rw [hs]; exact hh4)), na, os, ag, w⟩
        first
          | exact wpAny_bind (wpAny_pure (wpAny_bind out))
          | exact wpAny_bind out
      | @cons x n i c ts b0 suite np pos' hds2 l2 hi hln hc hsu r ih =>
        intro w
        obtain ⟨b, hb1, hyes, hno⟩ := w
        refine wpAny_handleBy_cons (codeAny_handlers_test ?_) (by intro q; cases q)
        have LT : PySem.W.Looks (model X.prog X.w) g3 (typeOf (.ref a)) cls := fun A Q E s k q => wpAny_typeOf_ref (k _ _ he3) (by rw [hz3.1]; exact q)
        have LM := PySem.W.exm_one (M := model X.prog X.w) (J3.kIn) LT hb1
        have look : ∀ {Q : Value → Shared → Prop} {E : Value → Shared → Prop}, Q c { s' with heap := g3 } → wpAny (model X.prog X.w) (X.A.mark (some (.ref a))) (eval (.Name x np) X.env) Q E { s' with heap := g3 } := fun {Q E} q => by
          obtain ⟨hg, hdbg, hm | ⟨hm, hv, hnn⟩⟩ := hc
          · exact ld_glob (X := X.suite a ((a, oe3) :: (X.pn ++ pins))) S3 hg hm q hdbg
          · exact ld_blt (X := X.suite a ((a, oe3) :: (X.pn ++ pins))) S3 hg hm hv q hnn hdbg
        refine look (LM.here ?_)
        cases b with
        | true =>
          refine codeAny_handlers_suite_as ?_
          refine HandSPX.lands_againZ fl3 fun g4 fl4 up4 => ?_
          have J4 : Inv X pins σ' H' { s' with heap := g4 } := J.landed nb fl4.1 ((up.trans up3).trans up4) os ag
          obtain ⟨oe4, vs4, he4, hz4, hd4⟩ := fl4.there
          have S4 := J4.suite he4 hd4 na nL nF
          refine store_ok (X := X.suite a ((a, oe4) :: (X.pn ++ pins))) (v := .ref a) S4 hN hi (.inl hln) rfl (fun s5 S5 => ?_) (.inr hln)
          refine wpAny_mono ((hsu a oe4 cls d (X.pn ++ pins) hz4 ⟨_, hd4⟩).run [] s5 _ H' _ S5 (hyes rfl a na)) (fun f s6 hsp => ?_) (fun _ _ z => False.elim z)
          have out : ∀ {σ6 : L2.St} {H6 : Hp} {Q : Shared → Prop}, Inv (X.suite a ((a, oe4) :: (X.pn ++ pins))) [] σ6 H6 s6 → (∀ s7, Inv X pins (σ6.set i none) H6 s7 → Q s7) →
              wpAny (model X.prog X.w) X.A (do bindName X.env n .none; unbindBehindTheSuite X.env n pos') (fun _ s7 => Q s7) X.xe s6 := fun {σ6 H6 Q} S6 hq => gone_ok (S6.unsuite ok) hN hi hln hq
          cases f with
          | next =>
            obtain ⟨σ6, H6, S6, q6⟩ := hsp
            exact out S6 fun s7 J7 => ⟨_, _, J7, q6⟩
          | brk =>
            obtain ⟨σ6, H6, S6, q6⟩ := hsp
            exact out S6 fun s7 J7 => ⟨_, _, J7, q6⟩
          | cont =>
            obtain ⟨σ6, H6, S6, q6⟩ := hsp
            exact out S6 fun s7 J7 => ⟨_, _, J7, q6⟩
          | ret u =>
            obtain ⟨v6, σ6, H6, S6, r6, q6⟩ := hsp
            exact out S6 fun s7 J7 => ⟨_, _, _, J7, r6, q6⟩
        | false =>
          show wpAny _ X.A (handleBy (.ref a) X.env hds2) _ _ _
          exact ih (hno rfl)
    exact go hh w
  · cases f with
    | next =>
      obtain ⟨σ', H', J', q⟩ := hsp
      exact wpAny_execs_nil ⟨σ', H', J'.ofTry ok, q⟩
    | brk =>
      obtain ⟨σ', H', J', q⟩ := hsp
      exact ⟨σ', H', J'.ofTry ok, q⟩
    | cont =>
      obtain ⟨σ', H', J', q⟩ := hsp
      exact ⟨σ', H', J'.ofTry ok, q⟩
    | ret u =>
      obtain ⟨v, σ', H', J', r, q⟩ := hsp
      exact ⟨v, σ', H', J'.ofTry ok, r, q⟩
end
end HM
/-! The errors of the package, made and raised. -/
theorem PySem.HM2.typ_LE : PySem.typeOf (.type "LookupError") = pure (.type "type") := by kernel_rfl
namespace HM
open PySem PySem.Spec PyProof.Rows L2
theorem boot_LookupErr : bootBuiltins "LookupError" = some (.type "LookupError") := by decide +kernel
/-- an own class that only hands on a built-in's __init__ -/
structure OwnBase (K : PySem.W.Frag) (mg : Str → Option Value) (x : Str) (initId : String) : Prop where
  ex : ∃ (D : Addr) (mc : Value), mg x = some (.ref D) ∧ ClX.CRead K D mc ∧ PySem.W.handedIn (.builtin initId) = true ∧ PySem.W.findCls K (.ref D) mc "__init__" = some (.val (.builtin initId))
def spI1 (C : Addr) (f : Str) : Sp := fun vs H Q _ => ∃ (a : Addr) (y : V), vs = [.ref a, y] ∧ H a = some (exo a C none) ∧ ∀ d, H d = none → d ≠ a → Q .non (upd (upd H d (exd d [(f, y)])) a (exo a C (some d)))
def spI2 (C : Addr) (f g : Str) : Sp := fun vs H Q _ => ∃ (a : Addr) (y z : V), vs = [.ref a, y, z] ∧ H a = some (exo a C none) ∧ ∀ d, H d = none → d ≠ a → Q .non (upd (upd (upd H d (exd d [(f, y)])) a (exo a C (some d))) d (exd d [(g, z), (f, y)]))
section
variable {P : Program} {w : World} {K : PySem.W.Frag} {mg : Str → Option Value} {base : Heap}
abbrev iBadMode : Stmt := inClass (top 6) 0
theorem sc_iBadMode : FnScope ["self", "mode"] ["self", "mode"] (defScope iBadMode) := ⟨rfl, rfl, rfl, by decide +kernel, rfl, by decide +kernel, by decide +kernel⟩
theorem ok_iBadMode (hB : OwnBase K mg "HoldError" "ValueError.__init__") {C f : Addr} {fd : FuncData} (T : OxC K C "ValueError.__init__") (hno : PySem.W.findIn K (.ref C) "mode" = some none) (D : FunD K "__init__" "BadMode.__init__" (defArgs iBadMode) (defBody iBadMode) (defScope iBadMode) [] [] f fd) : FnOk P w K mg base C8.CX0 1 f fd ["self", "mode"] (spI1 C "mode") := by
  refine D.ok sc_iBadMode (fun vs H Q E h => ?_) fun cdv A outer s H vs Q E hr h => ?_
  · obtain ⟨a, y, rfl, _⟩ := h
    rfl
  · obtain ⟨a, y, rfl, ha, k⟩ := h
    obtain ⟨DB, mc, hb1, hb2, hb3, hb4⟩ := hB.ex
    refine ⟨_, pss_cons (ps_expr (pe_xoiO (initId := "ValueError.__init__") (by rfl) hb1 hb2 hb3 hb4 (pa_cons (pv 0) pa_nil) (by decide))) (pss_one (ps_xo (initId := "ValueError.__init__") (pv 0) (pv 1))), ?_⟩
    refine ⟨_, rfl, a, C, [], rfl, by decide, T, ha, ?_⟩
    exact ⟨_, rfl, _, rfl, a, C, rfl, T, hno, .inl ⟨ha, fun d hd hda => k d hd hda⟩⟩
abbrev iNoAct : Stmt := inClass (top 11) 0
theorem sc_iNoAct : FnScope ["self", "act"] ["self", "act"] (defScope iNoAct) := ⟨rfl, rfl, rfl, by decide +kernel, rfl, by decide +kernel, by decide +kernel⟩
theorem ok_iNoAct (F : Free mg) (hV : PySem.W.findCls K (.type "LookupError") (.type "type") "__init__" = some (.val (.builtin "LookupError.__init__"))) {C f : Addr} {fd : FuncData} (T : OxC K C "LookupError.__init__") (hno : PySem.W.findIn K (.ref C) "act" = some none) (D : FunD K "__init__" "NoAct.__init__" (defArgs iNoAct) (defBody iNoAct) (defScope iNoAct) [] [] f fd) : FnOk P w K mg base C8.CX0 1 f fd ["self", "act"] (spI1 C "act") := by
  refine D.ok sc_iNoAct (fun vs H Q E h => ?_) fun cdv A outer s H vs Q E hr h => ?_
  · obtain ⟨a, y, rfl, _⟩ := h
    rfl
  · obtain ⟨a, y, rfl, ha, k⟩ := h
    refine ⟨_, pss_cons (ps_expr (pe_xoiB (initId := "LookupError.__init__") (T := "LookupError") (by rfl) F.lookupError boot_LookupErr PySem.HM2.typ_LE (by decide +kernel) (by decide +kernel) hV (pa_cons (pv 0) pa_nil) (by decide) (by decide))) (pss_one (ps_xo (initId := "LookupError.__init__") (pv 0) (pv 1))), ?_⟩
    refine ⟨_, rfl, a, C, [], rfl, by decide, T, ha, ?_⟩
    exact ⟨_, rfl, _, rfl, a, C, rfl, T, hno, .inl ⟨ha, fun d hd hda => k d hd hda⟩⟩
abbrev iNoHold : Stmt := inClass (top 12) 0
theorem sc_iNoHold : FnScope ["self", "holder"] ["self", "holder"] (defScope iNoHold) := ⟨rfl, rfl, rfl, by decide +kernel, rfl, by decide +kernel, by decide +kernel⟩
theorem ok_iNoHold (F : Free mg) (hV : PySem.W.findCls K (.type "LookupError") (.type "type") "__init__" = some (.val (.builtin "LookupError.__init__"))) {C f : Addr} {fd : FuncData} (T : OxC K C "LookupError.__init__") (hno : PySem.W.findIn K (.ref C) "holder" = some none) (D : FunD K "__init__" "NoHold.__init__" (defArgs iNoHold) (defBody iNoHold) (defScope iNoHold) [] [] f fd) : FnOk P w K mg base C8.CX0 1 f fd ["self", "holder"] (spI1 C "holder") := by
  refine D.ok sc_iNoHold (fun vs H Q E h => ?_) fun cdv A outer s H vs Q E hr h => ?_
  · obtain ⟨a, y, rfl, _⟩ := h
    rfl
  · obtain ⟨a, y, rfl, ha, k⟩ := h
    refine ⟨_, pss_cons (ps_expr (pe_xoiB (initId := "LookupError.__init__") (T := "LookupError") (by rfl) F.lookupError boot_LookupErr PySem.HM2.typ_LE (by decide +kernel) (by decide +kernel) hV (pa_cons (pv 0) pa_nil) (by decide) (by decide))) (pss_one (ps_xo (initId := "LookupError.__init__") (pv 0) (pv 1))), ?_⟩
    refine ⟨_, rfl, a, C, [], rfl, by decide, T, ha, ?_⟩
    exact ⟨_, rfl, _, rfl, a, C, rfl, T, hno, .inl ⟨ha, fun d hd hda => k d hd hda⟩⟩
abbrev iNoHolder : Stmt := inClass (top 13) 0
theorem sc_iNoHolder : FnScope ["self", "holder"] ["self", "holder"] (defScope iNoHolder) := ⟨rfl, rfl, rfl, by decide +kernel, rfl, by decide +kernel, by decide +kernel⟩
theorem ok_iNoHolder (F : Free mg) (hV : PySem.W.findCls K (.type "LookupError") (.type "type") "__init__" = some (.val (.builtin "LookupError.__init__"))) {C f : Addr} {fd : FuncData} (T : OxC K C "LookupError.__init__") (hno : PySem.W.findIn K (.ref C) "holder" = some none) (D : FunD K "__init__" "NoHolder.__init__" (defArgs iNoHolder) (defBody iNoHolder) (defScope iNoHolder) [] [] f fd) : FnOk P w K mg base C8.CX0 1 f fd ["self", "holder"] (spI1 C "holder") := by
  refine D.ok sc_iNoHolder (fun vs H Q E h => ?_) fun cdv A outer s H vs Q E hr h => ?_
  · obtain ⟨a, y, rfl, _⟩ := h
    rfl
  · obtain ⟨a, y, rfl, ha, k⟩ := h
    refine ⟨_, pss_cons (ps_expr (pe_xoiB (initId := "LookupError.__init__") (T := "LookupError") (by rfl) F.lookupError boot_LookupErr PySem.HM2.typ_LE (by decide +kernel) (by decide +kernel) hV (pa_cons (pv 0) pa_nil) (by decide) (by decide))) (pss_one (ps_xo (initId := "LookupError.__init__") (pv 0) (pv 1))), ?_⟩
    refine ⟨_, rfl, a, C, [], rfl, by decide, T, ha, ?_⟩
    exact ⟨_, rfl, _, rfl, a, C, rfl, T, hno, .inl ⟨ha, fun d hd hda => k d hd hda⟩⟩
abbrev iNoThing : Stmt := inClass (top 14) 0
theorem sc_iNoThing : FnScope ["self", "thing"] ["self", "thing"] (defScope iNoThing) := ⟨rfl, rfl, rfl, by decide +kernel, rfl, by decide +kernel, by decide +kernel⟩
theorem ok_iNoThing (F : Free mg) (hV : PySem.W.findCls K (.type "LookupError") (.type "type") "__init__" = some (.val (.builtin "LookupError.__init__"))) {C f : Addr} {fd : FuncData} (T : OxC K C "LookupError.__init__") (hno : PySem.W.findIn K (.ref C) "thing" = some none) (D : FunD K "__init__" "NoThing.__init__" (defArgs iNoThing) (defBody iNoThing) (defScope iNoThing) [] [] f fd) : FnOk P w K mg base C8.CX0 1 f fd ["self", "thing"] (spI1 C "thing") := by
  refine D.ok sc_iNoThing (fun vs H Q E h => ?_) fun cdv A outer s H vs Q E hr h => ?_
  · obtain ⟨a, y, rfl, _⟩ := h
    rfl
  · obtain ⟨a, y, rfl, ha, k⟩ := h
    refine ⟨_, pss_cons (ps_expr (pe_xoiB (initId := "LookupError.__init__") (T := "LookupError") (by rfl) F.lookupError boot_LookupErr PySem.HM2.typ_LE (by decide +kernel) (by decide +kernel) hV (pa_cons (pv 0) pa_nil) (by decide) (by decide))) (pss_one (ps_xo (initId := "LookupError.__init__") (pv 0) (pv 1))), ?_⟩
    refine ⟨_, rfl, a, C, [], rfl, by decide, T, ha, ?_⟩
    exact ⟨_, rfl, _, rfl, a, C, rfl, T, hno, .inl ⟨ha, fun d hd hda => k d hd hda⟩⟩

abbrev iBarred : Stmt := inClass (top 8) 0
theorem sc_iBarred : FnScope ["self", "thing", "other"] ["self", "thing", "other"] (defScope iBarred) := ⟨rfl, rfl, rfl, by decide +kernel, rfl, by decide +kernel, by decide +kernel⟩
theorem ok_iBarred (hB : OwnBase K mg "HoldError" "ValueError.__init__") {C f : Addr} {fd : FuncData} (T : OxC K C "ValueError.__init__") (hno : PySem.W.findIn K (.ref C) "thing" = some none) (hno2 : PySem.W.findIn K (.ref C) "other" = some none)
    (D : FunD K "__init__" "Barred.__init__" (defArgs iBarred) (defBody iBarred) (defScope iBarred) [] [] f fd) : FnOk P w K mg base C8.CX0 1 f fd ["self", "thing", "other"] (spI2 C "thing" "other") := by
  refine D.ok sc_iBarred (fun vs H Q E h => ?_) fun cdv A outer s H vs Q E hr h => ?_
  · obtain ⟨a, y, z, rfl, _⟩ := h
    rfl
  · obtain ⟨a, y, z, rfl, ha, k⟩ := h
    obtain ⟨DB, mc, h1, h2, h3, h4⟩ := hB.ex
    refine ⟨_, pss_cons (ps_expr (pe_xoiO (initId := "ValueError.__init__") (by rfl) h1 h2 h3 h4 (pa_cons (pv 0) pa_nil) (by decide))) (pss_cons (ps_xo (initId := "ValueError.__init__") (pv 0) (pv 1)) (pss_one (ps_xo (initId := "ValueError.__init__") (pv 0) (pv 2)))), ?_⟩
    refine ⟨_, rfl, a, C, [], rfl, by decide, T, ha, ?_⟩
    refine ⟨_, rfl, _, rfl, a, C, rfl, T, hno, .inl ⟨ha, fun d hd hda => ?_⟩⟩
    refine ⟨_, rfl, _, rfl, a, C, rfl, T, hno2, .inr ⟨d, _, upd_same, by rw [upd_ne hda, upd_same], (by show 1 ≤ 900; decide), k d hd hda⟩⟩
end
/-! ### raising them -/
structure Rz1 (P : Program) (w : World) (K : PySem.W.Frag) (mg : Str → Option Value) (base : Heap) (x : Str) (C : Addr) (g : Str) : Prop where
  ex : ∃ (initId : String) (fI : Addr) (fd : FuncData), OxC K C initId ∧ PySem.W.findIn K (.ref C) "__init__" = some (some (.ref fI)) ∧ PySem.W.typeIn K (.ref fI) = some (.type "function") ∧ FnOk P w K mg base C8.CX0 1 fI fd ["self", g] (spI1 C g) ∧ Binds K fd ["self", g] [] ∧ mg x = some (.ref C)
structure Rz2 (P : Program) (w : World) (K : PySem.W.Frag) (mg : Str → Option Value) (base : Heap) (x : Str) (C : Addr) (g g2 : Str) : Prop where
  ex : ∃ (initId : String) (fI : Addr) (fd : FuncData), OxC K C initId ∧ PySem.W.findIn K (.ref C) "__init__" = some (some (.ref fI)) ∧ PySem.W.typeIn K (.ref fI) = some (.type "function") ∧ FnOk P w K mg base C8.CX0 1 fI fd ["self", g, g2] (spI2 C g g2) ∧ Binds K fd ["self", g, g2] [] ∧ mg x = some (.ref C)
/-- an exception of the class at C, its dict holding fs -/
def Out (E : XK) (H : Hp) (C : Addr) (fs : List (Str × V)) : Prop := ∀ d H', Same H H' → H d = none → H' d = some (.xd fs) → E (.ref C) (some d) H'
theorem Out.same {E : XK} {H H1 : Hp} {C : Addr} {fs : List (Str × V)} (h : Out E H C fs) (s : Same H H1) : Out E H1 C fs := fun d H' s1 hd hx => h d H' (s.trans s1) (s.free hd) hx
section
variable {X : Cx} {x : Str} {C : Addr} {g g2 : Str} {e e2 : Expr} {te te2 : TE} {p pos : Pos}
theorem mk_heap {H H2 : Hp} {a d : Addr} {fs : List (Str × V)} (h : ∀ b o, H b = some o → b ≠ a → b ≠ d → H2 b = some o) (ha : H a = none) (hd : H d = none) : Same H (upd (del H2 a) d (.xd fs)) := fun b o e => by
  have nd : b ≠ d := ne_of_none e hd
  have na : b ≠ a := ne_of_none e ha
  rw [upd_ne nd, del_ne na]
  exact h b o e na nd
theorem mko1 {Q : XK} {H : Hp} {y : V} (h : Out Q H C [(g, y)]) : [y].length ≤ 1000 ∧ ∀ a, H a = none → spI1 C g (.ref a :: ([y] ++ [])) (upd H a (exo a C none))
    (fun v H2 => v = .non ∧ ∃ (d : Addr) (fs : List (Str × V)), H2 a = some (exo a C (some d)) ∧ H2 d = some (exd d fs) ∧ H d = none ∧ Q (.ref C) (some d) (upd (del H2 a) d (.xd fs))) (fun _ _ _ => False) := by
  refine ⟨(by show 1 ≤ 1000; decide), fun a ha => ⟨a, y, rfl, upd_same, fun d hd hda => ?_⟩⟩
  have hd' : H d = none := by
    rw [upd_ne hda] at hd
    exact hd
  refine ⟨rfl, d, [(g, y)], upd_same, by rw [upd_ne hda, upd_same], hd', h d _ (mk_heap (fun b o e n1 n2 => ?_) ha hd') hd' upd_same⟩
  rw [upd_ne n1, upd_ne n2, upd_ne n1]
  exact e
theorem mko2 {Q : XK} {H : Hp} {y z : V} (h : Out Q H C [(g2, z), (g, y)]) : [y, z].length ≤ 1000 ∧ ∀ a, H a = none → spI2 C g g2 (.ref a :: ([y, z] ++ [])) (upd H a (exo a C none))
    (fun v H2 => v = .non ∧ ∃ (d : Addr) (fs : List (Str × V)), H2 a = some (exo a C (some d)) ∧ H2 d = some (exd d fs) ∧ H d = none ∧ Q (.ref C) (some d) (upd (del H2 a) d (.xd fs))) (fun _ _ _ => False) := by
  refine ⟨(by show 2 ≤ 1000; decide), fun a ha => ⟨a, y, z, rfl, upd_same, fun d hd hda => ?_⟩⟩
  have hd' : H d = none := by
    rw [upd_ne hda] at hd
    exact hd
  refine ⟨rfl, d, [(g2, z), (g, y)], by rw [upd_ne (Ne.symm hda), upd_same], upd_same, hd', h d _ (mk_heap (fun b o e n1 n2 => ?_) ha hd') hd' upd_same⟩
  rw [upd_ne n2, upd_ne n1, upd_ne n2, upd_ne n1]
  exact e
theorem pmk_1 (R : Rz1 X.prog X.w X.K X.mg X.base x C g) (hr : Room 2 X.A) (hg : Gl X x) (ha : PE X e te) (hdb : (x == ("__debug__" : Str)) = false := by decide)
    (he : starEach [e] X.env = (false, eval e X.env) :: starEach [] X.env := by rfl) : PMk X (.Call (.Name x p) [e] [] pos) (tMkO C (spI1 C g) [] (tCons te tNil)) := by
  obtain ⟨initId, fI, fd, T, iC, tI, F, b, hm⟩ := R.ex
  exact pmk_xo T iC tI F hr b .nil C8.pass0 hg hm (pa_cons ha pa_nil he) hdb he rfl
theorem pmk_2 (R : Rz2 X.prog X.w X.K X.mg X.base x C g g2) (hr : Room 2 X.A) (hg : Gl X x) (ha : PE X e te) (ha2 : PE X e2 te2) (hdb : (x == ("__debug__" : Str)) = false := by decide)
    (he : starEach [e, e2] X.env = (false, eval e X.env) :: starEach [e2] X.env := by rfl) (he2 : starEach [e2] X.env = (false, eval e2 X.env) :: starEach [] X.env := by rfl) : PMk X (.Call (.Name x p) [e, e2] [] pos) (tMkO C (spI2 C g g2) [] (tCons te (tCons te2 tNil))) := by
  obtain ⟨initId, fI, fd, T, iC, tI, F, b, hm⟩ := R.ex
  exact pmk_xo T iC tI F hr b .nil C8.pass0 hg hm (pa_cons ha (pa_cons ha2 pa_nil he2) he) hdb he (by rw [he2]; rfl)
end
/-- an own class without an __init__ of its own -/
structure Rz0 (K : PySem.W.Frag) (mg : Str → Option Value) (x : Str) (C : Addr) : Prop where
  ex : ∃ (B newId initId : String) (bmB : List Value), ExcBaseFacts B newId initId bmB ∧ PySem.W.excIn K C bmB newId = true
  gC : mg x = some (.ref C)
  kC : PySem.W.keepIn K (.ref C) = true
  exC : PySem.W.subIn K (.ref C) (.type "BaseException") = some true
  tyC : PySem.W.typeIn K (.ref C) = some (.type "type")
theorem pmk_0 {X : Cx} {x : Str} {C : Addr} {p pos : Pos} (R : Rz0 X.K X.mg x C) (hg : Gl X x) (hdb : (x == ("__debug__" : Str)) = false := by decide) : PMk X (.Call (.Name x p) [] [] pos) (fun _ H Q => Q (.ref C) none H) := by
  obtain ⟨B, newId, initId, bmB, FB, q⟩ := R.ex
  intro pins s σ H Q I h
  refine wpAny_Call_Name_kw (ld_glob I hg R.gC ?_ hdb)
  refine PySem.W.callWith_K0 I.kIn R.kC ?_
  obtain ⟨bm, N, nm, qn, bs, hdct, sn, sub, ab, col, dd, k0, k1, k2, k3, k5, mN, hC, hN, hni, T⟩ := exc_obj I.kIn q
  exact wpAny_call_exc_subT FB T hC hN hni (fun h' e hm => mk_of I hm (raises_own R.exC R.tyC) h (I.hok.gone hm.new)) (Nat.zero_le _)
/-- a statement that is never reached -/
theorem ps_never {X : Cx} {st : Stmt} : PS X st (fun _ _ _ => False) := ⟨fun _ _ _ _ _ _ h => h.elim⟩
end HM
/-! The yard: what it is, its methods' frame, its checks. -/
namespace HM
open PySem PySem.Spec PyProof.Rows L2
/-- a yard at a, its past a list at p -/
def Yd (H : Hp) (C a p : Addr) (r : Rules) (t : Tree) (now : List Hold) (past : List (List Hold)) : Prop :=
  ∃ (dx g : Addr) (ru tr n m : V) (ps : List V), H a = some (.ins C dx [("ground", .ref g), ("now", n), ("past", .ref p), ("moved", m)]) ∧ H g = some (.tup [ru, tr]) ∧ Is H ru (cRules r) ∧ Is H tr (cTree t) ∧ Is H n (cHolds now) ∧ H p = some (.lst ps) ∧ IsAll H ps (past.map cHolds)
theorem Yd.same {H H' : Hp} {C a p : Addr} {r : Rules} {t : Tree} {now : List Hold} {past : List (List Hold)} (h : Yd H C a p r t now past) (s : Same H H') : Yd H' C a p r t now past := by
  obtain ⟨dx, g, ru, tr, n, m, ps, h1, h2, h3, h4, h5, h6, h7⟩ := h
  exact ⟨dx, g, ru, tr, n, m, ps, s _ _ h1, s _ _ h2, h3.same s, h4.same s, h5.same s, s _ _ h6, IsAll.same s h7⟩
/-- the class's written part -/
structure Yc (K : PySem.W.Frag) (C : Addr) : Prop where
  cls : Cls K C
  ground : NoAttr K C "ground"
  now : NoAttr K C "now"
  past : NoAttr K C "past"
  moved : NoAttr K C "moved"
/-- a method st, by its name m and its long name q -/
structure Mt (K : PySem.W.Frag) (C : Addr) (m q : Str) (st : Stmt) : Prop where
  ex : ∃ (f : Addr) (fd : FuncData), Meth K C m f ∧ FunD K m q (defArgs st) (defBody st) (defScope st) [] [] f fd
/-- a property st -/
structure Pt (K : PySem.W.Frag) (C : Addr) (m q : Str) (st : Stmt) : Prop where
  ex : ∃ (p f : Addr) (fd : FuncData), PropOf K C m p f ∧ FunD K m q (defArgs st) (defBody st) (defScope st) [] [] f fd
/-- .. with a promise -/
structure MetG (P : Program) (w : World) (K : PySem.W.Frag) (mg : Str → Option Value) (base : Heap) (CX : CXT) (k : Nat) (C : Addr) (m : Str) (sp : Sp) : Prop where
  ex : ∃ (f : Addr) (fd : FuncData) (ps : List Str), Cls K C ∧ Meth K C m f ∧ FnOk P w K mg base CX k f fd ps sp ∧ Binds K fd ps []
structure PropG (P : Program) (w : World) (K : PySem.W.Frag) (mg : Str → Option Value) (base : Heap) (k : Nat) (C : Addr) (m : Str) (sp : Sp) : Prop where
  ex : ∃ (p f : Addr) (fd : FuncData) (ps : List Str), Cls K C ∧ PropOf K C m p f ∧ FnOk P w K mg base C8.CX0 k f fd ps sp ∧ Binds K fd ps []
section
variable {P : Program} {w : World} {K : PySem.W.Frag} {mg : Str → Option Value} {base : Heap} {CX : CXT} {C : Addr} {m q : Str} {st : Stmt} {N ps : List Str} {k : Nat} {sp : Sp}
theorem metG_of (Y : Yc K C) (D : Mt K C m q st) (S : FnScope N ps (defScope st))
    (hb : ∀ (kV doc pm : Value) (an : Option Addr) (cdv ct : Value) (us : List Value), us.length = ps.length → bindArgs (PySem.W.fnOf m q (defArgs st) (defBody st) (defScope st) .none kV doc pm an cdv ct) ⟨us, []⟩ = pure (ps.zip us))
    (len : ∀ vs H Q E, sp vs H Q E → vs.length = ps.length)
    (hbody : ∀ (f : Addr) (cdv : Value) (A : Around) (outer : List Env) (s : Shared) (H : Hp) (vs : List V) (Q : VK) (E : XK), Room k (A.deeper (envOfC q (defScope st) s.heap.objs.size f cdv)) → sp vs H Q E →
      ∃ t, PSs (cxOf CX P w K mg base N q (defScope st) f cdv A outer s H E) (defBody st) t ∧ t { nx := fun _ H' => Q .non H', rt := Q } (start N vs) H) : MetG P w K mg base CX (k + 1) C m sp := by
  obtain ⟨f, fd, hm, F⟩ := D.ex
  exact ⟨f, fd, ps, Y.cls, hm, F.ok S len fun cdv A outer s H vs Q E hr h => hbody f cdv A outer s H vs Q E hr h, F.bindsN hb⟩
theorem propG_of (Y : Yc K C) (D : Pt K C m q st) (S : FnScope N ps (defScope st))
    (hb : ∀ (kV doc pm : Value) (an : Option Addr) (cdv ct : Value) (us : List Value), us.length = ps.length → bindArgs (PySem.W.fnOf m q (defArgs st) (defBody st) (defScope st) .none kV doc pm an cdv ct) ⟨us, []⟩ = pure (ps.zip us))
    (len : ∀ vs H Q E, sp vs H Q E → vs.length = ps.length)
    (hbody : ∀ (f : Addr) (cdv : Value) (A : Around) (outer : List Env) (s : Shared) (H : Hp) (vs : List V) (Q : VK) (E : XK), Room k (A.deeper (envOfC q (defScope st) s.heap.objs.size f cdv)) → sp vs H Q E →
      ∃ t, PSs (cxOf C8.CX0 P w K mg base N q (defScope st) f cdv A outer s H E) (defBody st) t ∧ t { nx := fun _ H' => Q .non H', rt := Q } (start N vs) H) : PropG P w K mg base (k + 1) C m sp := by
  obtain ⟨p, f, fd, hm, F⟩ := D.ex
  exact ⟨p, f, fd, ps, Y.cls, hm, F.ok S len fun cdv A outer s H vs Q E hr h => hbody f cdv A outer s H vs Q E hr h, F.bindsN hb⟩
end
section
variable {X : Cx} {CX : CXT} {k j : Nat} {C : Addr} {m : Str} {sp : Sp} {E : XK} {pos apos : Pos} {e o : Expr} {es : List Expr} {ta : TE} {t : TA}
theorem pe_mg {pl : Sem Bool} (c : MetG X.prog X.w X.K X.mg X.base CX k C m sp) (hr : Room j X.A) (hk : k ≤ j) (hx : Passes CX X E) (he : PE X o ta) (ha : PA X (e :: es) t)
    (hst : starEach (e :: es) X.env = (false, eval e X.env) :: starEach es X.env := by rfl) (hpl : (backTo pos (starEach es X.env)).any (·.1) = false := by rfl)
    (ht : eval (.Call (.Attribute o m apos) (e :: es) [] pos) X.env = (do
      let ov ← eval o X.env
      standAt apos.atName
      let (f, first) ← holding [ov] (getMethod ov m pl)
      callWith pos f first (backTo pos (starEach (e :: es) X.env)) (backToKw pos (keywordEach [] X.env))) := by rfl) :
    PE X (.Call (.Attribute o m apos) (e :: es) [] pos) (tMeth C m sp [] E ta t) := by
  obtain ⟨f, fd, ps, cl, me, F, b⟩ := c.ex
  exact pe_meth he cl me F (hr.mono hk) b .nil hx ha hst hpl ht
theorem pe_mg0 {pl : Sem Bool} (c : MetG X.prog X.w X.K X.mg X.base CX k C m sp) (hr : Room j X.A) (hk : k ≤ j) (hx : Passes CX X E) (he : PE X o ta)
    (ht : eval (.Call (.Attribute o m apos) [] [] pos) X.env = (do
      let ov ← eval o X.env
      standAt apos.atName
      let (f, first) ← holding [ov] (getMethod ov m pl)
      callWith pos f first (backTo pos (starEach [] X.env)) (backToKw pos (keywordEach [] X.env))) := by rfl) :
    PE X (.Call (.Attribute o m apos) [] [] pos) (tMeth C m sp [] E ta tNil) := by
  obtain ⟨f, fd, ps, cl, me, F, b⟩ := c.ex
  exact pe_meth0 he cl me F (hr.mono hk) b .nil hx ht
theorem pe_pg (c : PropG X.prog X.w X.K X.mg X.base k C m sp) (hr : Room j X.A) (hk : k + 1 ≤ j) (he : PE X o ta) (hab : attributeBase o m X.env (eval o X.env) = eval o X.env := by rfl) : PE X (.Attribute o m pos) (tProp C sp [] C8.E0 ta) := by
  obtain ⟨p, f, fd, ps, cl, pr, F, b⟩ := c.ex
  exact pe_prop he cl pr F (hr.mono hk) b .nil C8.pass0 hab
end
/-! ### properties -/
def spYard (R : Hp → Addr → Addr → Rules → Tree → List Hold → List (List Hold) → VK → Prop) (C : Addr) : Sp := fun vs H Q _ => ∃ (a p : Addr) (r : Rules) (t : Tree) (now : List Hold) (past : List (List Hold)), vs = [.ref a] ∧ Yd H C a p r t now past ∧ R H a p r t now past Q
def spRules (C : Addr) : Sp := spYard (fun H _ _ r _ _ _ Q => ∀ u, Is H u (cRules r) → Q u H) C
def spTree (C : Addr) : Sp := spYard (fun H _ _ _ t _ _ Q => ∀ u, Is H u (cTree t) → Q u H) C
def spHolds (C : Addr) : Sp := spYard (fun H _ _ _ _ now _ Q => ∀ u, Is H u (cHolds now) → Q u H) C
def spVersion (C : Addr) : Sp := spYard (fun H _ _ _ _ _ past Q => Q (.int (past.length : Int)) H) C
abbrev mRules : Stmt := inClass (top 48) 1
abbrev mTree : Stmt := inClass (top 48) 2
abbrev mHolds : Stmt := inClass (top 48) 3
abbrev mVersion : Stmt := inClass (top 48) 4
theorem sc_mRules : FnScope ["self"] ["self"] (defScope mRules) := ⟨rfl, rfl, rfl, by decide +kernel, rfl, by decide +kernel, by decide +kernel⟩
theorem sc_mTree : FnScope ["self"] ["self"] (defScope mTree) := ⟨rfl, rfl, rfl, by decide +kernel, rfl, by decide +kernel, by decide +kernel⟩
theorem sc_mHolds : FnScope ["self"] ["self"] (defScope mHolds) := ⟨rfl, rfl, rfl, by decide +kernel, rfl, by decide +kernel, by decide +kernel⟩
theorem sc_mVersion : FnScope ["self"] ["self"] (defScope mVersion) := ⟨rfl, rfl, rfl, by decide +kernel, rfl, by decide +kernel, by decide +kernel⟩
section
variable {P : Program} {w : World} {K : PySem.W.Frag} {mg : Str → Option Value} {base : Heap} {C : Addr}
theorem ok_mRules (Y : Yc K C) (D : Pt K C "rules" "Yard.rules" mRules) : PropG P w K mg base 1 C "rules" (spRules C) := by
  refine propG_of Y D sc_mRules (fun _ _ _ _ _ _ us hl => match us, hl with | [_], _ => rfl) (fun vs H Q E h => ?_) (fun f cdv A outer s H vs Q E hr h => ?_)
  · obtain ⟨a, p, r, t, now, past, rfl, _⟩ := h
    rfl
  · obtain ⟨a, p, r, t, now, past, rfl, hy, k⟩ := h
    refine ⟨_, pss_one (ps_ret (pe_ix ixT (pe_fld (pv 0) rfl) pe_int (fun _ _ => rfl))), ?_⟩
    obtain ⟨dx, g, ru, tr, n, m, ps, h1, h2, h3, h4, h5, h6, h7⟩ := hy
    exact ⟨_, rfl, a, C, dx, _, _, rfl, h1, Y.cls, Y.ground, rfl, g, _, 0, ru, rfl, rfl, h2, atI_nat (j := 0) rfl, k ru h3⟩
theorem ok_mTree (Y : Yc K C) (D : Pt K C "tree" "Yard.tree" mTree) : PropG P w K mg base 1 C "tree" (spTree C) := by
  refine propG_of Y D sc_mTree (fun _ _ _ _ _ _ us hl => match us, hl with | [_], _ => rfl) (fun vs H Q E h => ?_) (fun f cdv A outer s H vs Q E hr h => ?_)
  · obtain ⟨a, p, r, t, now, past, rfl, _⟩ := h
    rfl
  · obtain ⟨a, p, r, t, now, past, rfl, hy, k⟩ := h
    refine ⟨_, pss_one (ps_ret (pe_ix ixT (pe_fld (pv 0) rfl) pe_int (fun _ _ => rfl))), ?_⟩
    obtain ⟨dx, g, ru, tr, n, m, ps, h1, h2, h3, h4, h5, h6, h7⟩ := hy
    exact ⟨_, rfl, a, C, dx, _, _, rfl, h1, Y.cls, Y.ground, rfl, g, _, 1, tr, rfl, rfl, h2, atI_nat (j := 1) rfl, k tr h4⟩
theorem ok_mHolds (Y : Yc K C) (D : Pt K C "holds" "Yard.holds" mHolds) : PropG P w K mg base 1 C "holds" (spHolds C) := by
  refine propG_of Y D sc_mHolds (fun _ _ _ _ _ _ us hl => match us, hl with | [_], _ => rfl) (fun vs H Q E h => ?_) (fun f cdv A outer s H vs Q E hr h => ?_)
  · obtain ⟨a, p, r, t, now, past, rfl, _⟩ := h
    rfl
  · obtain ⟨a, p, r, t, now, past, rfl, hy, k⟩ := h
    refine ⟨_, pss_one (ps_ret (pe_fld (pv 0) rfl)), ?_⟩
    obtain ⟨dx, g, ru, tr, n, m, ps, h1, h2, h3, h4, h5, h6, h7⟩ := hy
    exact ⟨_, rfl, a, C, dx, _, _, rfl, h1, Y.cls, Y.now, rfl, k n h5⟩
theorem ok_mVersion (F : Free mg) (Y : Yc K C) (D : Pt K C "version" "Yard.version" mVersion) : PropG P w K mg base 1 C "version" (spVersion C) := by
  refine propG_of Y D sc_mVersion (fun _ _ _ _ _ _ us hl => match us, hl with | [_], _ => rfl) (fun vs H Q E h => ?_) (fun f cdv A outer s H vs Q E hr h => ?_)
  · obtain ⟨a, p, r, t, now, past, rfl, _⟩ := h
    rfl
  · obtain ⟨a, p, r, t, now, past, rfl, hy, k⟩ := h
    refine ⟨_, pss_one (ps_ret (pe_callB callLen (by rfl) F.len PySem.boot_len (pa_cons (pe_fld (pv 0) rfl) pa_nil))), ?_⟩
    obtain ⟨dx, g, ru, tr, n, m, ps, h1, h2, h3, h4, h5, h6, h7⟩ := hy
    have hl := h7.length
    rw [List.length_map] at hl
    exact ⟨_, rfl, a, C, dx, _, _, rfl, h1, Y.cls, Y.past, rfl, p, ps, rfl, .inr h6, by rw [hl]; exact k⟩
end
/-! ### the checks -/
/-- the error classes of the yard -/
structure EA where
  badMode : Addr
  barred : Addr
  nothing : Addr
  noAct : Addr
  noHold : Addr
  noHolder : Addr
  noThing : Addr
structure Ers (P : Program) (w : World) (K : PySem.W.Frag) (mg : Str → Option Value) (base : Heap) (A : EA) : Prop where
  badMode : Rz1 P w K mg base "BadMode" A.badMode "mode"
  barred : Rz2 P w K mg base "Barred" A.barred "thing" "other"
  nothing : Rz0 K mg "NothingToUndo" A.nothing
  noAct : Rz1 P w K mg base "NoAct" A.noAct "act"
  noHold : Rz1 P w K mg base "NoHold" A.noHold "holder"
  noHolder : Rz1 P w K mg base "NoHolder" A.noHolder "holder"
  noThing : Rz1 P w K mg base "NoThing" A.noThing "thing"
theorem isInt_inv {d : PyData} {lo hi : Int} (h : isIntB d lo hi = true) : ∃ i, d = .int i ∧ lo ≤ i ∧ i ≤ hi := by
  cases d with
  | int i =>
    have q : (decide (lo ≤ i) && decide (i ≤ hi)) = true := h
    rw [Bool.and_eq_true, decide_eq_true_eq, decide_eq_true_eq] at q
    exact ⟨i, rfl, q⟩
  | _ => cases h
abbrev mCheckDeeds : Stmt := inClass (top 48) 6
abbrev mCheckHolder : Stmt := inClass (top 48) 7
abbrev mCheckThing : Stmt := inClass (top 48) 8
abbrev mCheckAct : Stmt := inClass (top 48) 9
theorem sc_mCheckDeeds : FnScope ["self"] ["self"] (defScope mCheckDeeds) := ⟨rfl, rfl, rfl, by decide +kernel, rfl, by decide +kernel, by decide +kernel⟩
theorem sc_mCheckHolder : FnScope ["self", "holder"] ["self", "holder"] (defScope mCheckHolder) := ⟨rfl, rfl, rfl, by decide +kernel, rfl, by decide +kernel, by decide +kernel⟩
theorem sc_mCheckThing : FnScope ["self", "thing"] ["self", "thing"] (defScope mCheckThing) := ⟨rfl, rfl, rfl, by decide +kernel, rfl, by decide +kernel, by decide +kernel⟩
theorem sc_mCheckAct : FnScope ["self", "act"] ["self", "act"] (defScope mCheckAct) := ⟨rfl, rfl, rfl, by decide +kernel, rfl, by decide +kernel, by decide +kernel⟩
def spCheckDeeds (C : Addr) : Sp := spYard (fun H _ _ _ _ _ past Q => past.length ≤ 24 ∧ Q .non H) C
def spCheckHolder (A : EA) : Sp := fun vs H Q E => ∃ (x v : V) (d : PyData), vs = [x, v] ∧ Is H v d ∧ (if isIntB d 0 3 = true then Q .non H else Out E H A.noHolder [("holder", v)])
def spCheckThing (A : EA) (C : Addr) : Sp := fun vs H Q E => ∃ (a p : Addr) (r : Rules) (t : Tree) (now : List Hold) (past : List (List Hold)) (v : V) (d : PyData), vs = [.ref a, v] ∧ Yd H C a p r t now past ∧ Is H v d ∧ (if isIntB d 0 ((t.length : Int) - 1) = true then Q .non H else Out E H A.noThing [("thing", v)])
def spCheckAct (A : EA) (C : Addr) : Sp := fun vs H Q E => ∃ (a p : Addr) (r : Rules) (t : Tree) (now : List Hold) (past : List (List Hold)) (v : V) (d : PyData), vs = [.ref a, v] ∧ Yd H C a p r t now past ∧ Is H v d ∧ (if isIntB d 0 (r.1 - 1) = true then Q .non H else Out E H A.noAct [("act", v)])
section
variable {P : Program} {w : World} {K : PySem.W.Frag} {mg : Str → Option Value} {base : Heap} {C : Addr} {A : EA}
theorem ok_mCheckDeeds (F : Free mg) (N : Nums mg) (Y : Yc K C) (D : Mt K C "check_deeds" "Yard.check_deeds" mCheckDeeds) : MetG P w K mg base C8.CX0 1 C "check_deeds" (spCheckDeeds C) := by
  refine metG_of Y D sc_mCheckDeeds (fun _ _ _ _ _ _ us hl => match us, hl with | [_], _ => rfl) (fun vs H Q E h => ?_) (fun f cdv A outer s H vs Q E hr h => ?_)
  · obtain ⟨a, p, r, t, now, past, rfl, _⟩ := h
    rfl
  · obtain ⟨a, p, r, t, now, past, rfl, hy, hle, k⟩ := h
    refine ⟨_, pss_one (ps_if (pt_cmpR op_eq (pe_callB callLen (by rfl) F.len PySem.boot_len (pa_cons (pe_fld (pv 0) rfl) pa_nil)) (C8.pe_gc (by rfl) N.deeds) (nomark _)) (pss_one ps_never) pss_nil), ?_⟩
    obtain ⟨dx, g, ru, tr, n, m, ps, h1, h2, h3, h4, h5, h6, h7⟩ := hy
    have hl := h7.length
    rw [List.length_map] at hl
    refine ⟨_, rfl, a, C, dx, _, _, rfl, h1, Y.cls, Y.past, rfl, p, ps, rfl, .inr h6, rfl, _, rfl, ?_⟩
    rw [beqI, decide_eq_false (by omega)]
    exact iteF k
theorem ok_mCheckHolder (F : Free mg) (N : Nums mg) (Y : Yc K C) (R : Ers P w K mg base A) (D : Mt K C "check_holder" "Yard.check_holder" mCheckHolder) (cI : C8.Cal P w K mg base 1 "is_integer" spIsInteger []) : MetG P w K mg base (L2.CX P w) 3 C "check_holder" (spCheckHolder A) := by
  refine metG_of Y D sc_mCheckHolder (fun _ _ _ _ _ _ us hl => match us, hl with | [_, _], _ => rfl) (fun vs H Q E h => ?_) (fun f cdv A' outer s H vs Q E hr h => ?_)
  · obtain ⟨x, v, d, rfl, _⟩ := h
    rfl
  · obtain ⟨x, v, d, rfl, hv, k⟩ := h
    refine ⟨_, pss_one (ps_if (pt_not (pt_val (C8.pe_c cI hr (by decide) (by rfl) (pa_cons (pv 1) (pa_cons pe_int (pa_cons (pe_op op_sub (C8.pe_gc (by rfl) N.holders) pe_int) pa_nil))))))
      (pss_one (ps_raise rfl (takes_of rfl rfl rfl rfl) (pmk_1 R.noHolder hr (by rfl) (pv 1)))) pss_nil), ?_⟩
    refine ⟨_, rfl, _, _, rfl, rfl, v, d, 0, _, rfl, hv, _, rfl, ?_⟩
    by_cases c : isIntB d 0 3 = true
    · rw [if_pos c] at k
      rw [show isIntB d 0 (4 - 1) = true from c]
      exact iteF k
    · rw [if_neg c] at k
      rw [show isIntB d 0 (4 - 1) = false from Bool.eq_false_iff.mpr c]
      refine iteT ?_
      exact ⟨_, rfl, mko1 k⟩
theorem ok_mCheckThing (F : Free mg) (Y : Yc K C) (R : Ers P w K mg base A) (D : Mt K C "check_thing" "Yard.check_thing" mCheckThing) (pT : PropG P w K mg base 1 C "tree" (spTree C)) (cI : C8.Cal P w K mg base 1 "is_integer" spIsInteger []) : MetG P w K mg base (L2.CX P w) 3 C "check_thing" (spCheckThing A C) := by
  refine metG_of Y D sc_mCheckThing (fun _ _ _ _ _ _ us hl => match us, hl with | [_, _], _ => rfl) (fun vs H Q E h => ?_) (fun f cdv A' outer s H vs Q E hr h => ?_)
  · obtain ⟨a, p, r, t, now, past, v, d, rfl, _⟩ := h
    rfl
  · obtain ⟨a, p, r, t, now, past, v, d, rfl, hy, hv, k⟩ := h
    refine ⟨_, pss_one (ps_if (pt_not (pt_val (C8.pe_c cI hr (by decide) (by rfl) (pa_cons (pv 1) (pa_cons pe_int (pa_cons (pe_op op_sub (pe_callB callLen (by rfl) F.len PySem.boot_len (pa_cons (pe_pg pT hr (by decide) (pv 0)) pa_nil)) pe_int) pa_nil))))))
      (pss_one (ps_raise rfl (takes_of rfl rfl rfl rfl) (pmk_1 R.noThing hr (by rfl) (pv 1)))) pss_nil), ?_⟩
    obtain ⟨dx, g, ru, tr, n, m, ps, h1, h2, h3, h4, h5, h6, h7⟩ := id hy
    refine ⟨_, rfl, _, rfl, a, dx, _, rfl, h1, a, p, r, t, now, past, rfl, hy, fun u hu => ?_⟩
    obtain ⟨b, ys, rfl, hb, iys⟩ := hu.tup_inv
    have hl := iys.length
    rw [List.length_map] at hl
    refine ⟨b, ys, rfl, .inl hb, _, _, rfl, rfl, v, d, 0, _, rfl, hv, _, rfl, ?_⟩
    rw [hl]
    by_cases c : isIntB d 0 ((t.length : Int) - 1) = true
    · rw [if_pos c] at k
      rw [c]
      exact iteF k
    · rw [if_neg c] at k
      rw [Bool.not_eq_true] at c
      rw [c]
      refine iteT ?_
      exact ⟨_, rfl, mko1 k⟩
theorem ok_mCheckAct (Y : Yc K C) (R : Ers P w K mg base A) (D : Mt K C "check_act" "Yard.check_act" mCheckAct) (pR : PropG P w K mg base 1 C "rules" (spRules C)) (cI : C8.Cal P w K mg base 1 "is_integer" spIsInteger []) : MetG P w K mg base (L2.CX P w) 3 C "check_act" (spCheckAct A C) := by
  refine metG_of Y D sc_mCheckAct (fun _ _ _ _ _ _ us hl => match us, hl with | [_, _], _ => rfl) (fun vs H Q E h => ?_) (fun f cdv A' outer s H vs Q E hr h => ?_)
  · obtain ⟨a, p, r, t, now, past, v, d, rfl, _⟩ := h
    rfl
  · obtain ⟨a, p, r, t, now, past, v, d, rfl, hy, hv, k⟩ := h
    refine ⟨_, pss_one (ps_if (pt_not (pt_val (C8.pe_c cI hr (by decide) (by rfl) (pa_cons (pv 1) (pa_cons pe_int (pa_cons (pe_op op_sub (pe_ix ixT (pe_pg pR hr (by decide) (pv 0)) pe_int (fun _ _ => rfl)) pe_int) pa_nil))))))
      (pss_one (ps_raise rfl (takes_of rfl rfl rfl rfl) (pmk_1 R.noAct hr (by rfl) (pv 1)))) pss_nil), ?_⟩
    obtain ⟨dx, g, ru, tr, n, m, ps, h1, h2, h3, h4, h5, h6, h7⟩ := id hy
    refine ⟨_, rfl, _, rfl, a, dx, _, rfl, h1, a, p, r, t, now, past, rfl, hy, fun u hu => ?_⟩
    obtain ⟨b, rp, rfl, hb, _⟩ := hu.rules
    refine ⟨b, _, 0, _, rfl, rfl, hb, atI_nat (j := 0) rfl, _, _, rfl, rfl, v, d, 0, _, rfl, hv, _, rfl, ?_⟩
    by_cases c : isIntB d 0 (r.1 - 1) = true
    · rw [if_pos c] at k
      rw [c]
      exact iteF k
    · rw [if_neg c] at k
      rw [Bool.not_eq_true] at c
      rw [c]
      refine iteT ?_
      exact ⟨_, rfl, mko1 k⟩
end
end HM
/-! The plain law: fair holds stay fair, and fair holds have no clash. -/
namespace HM
open PySem PySem.Spec PyProof.Rows L2
/-! ### lots and modes joined -/
theorem mem_bothL {a b : Lot} {k : Int} : k ∈ bothL a b ↔ (0 ≤ k ∧ k < 6) ∧ (k ∈ a ∨ k ∈ b) := by
  unfold bothL
  rw [List.mem_filter, mem_rangeZ, Bool.or_eq_true, decide_eq_true_iff, decide_eq_true_iff]
theorem bothL_len (a b : Lot) : (bothL a b).length ≤ 6 := (filter_lot (n := 6) _).len
theorem bothL_lot {n : Int} {a b : Lot} (ha : LotOk n a) (hb : LotOk n b) : LotOk n (bothL a b) := by
  refine ⟨(rangeZ_up 6).filter _, fun i hi => (mem_bothL.mp hi).1.1, fun i hi => ?_⟩
  rcases (mem_bothL.mp hi).2 with h | h
  · exact ha.hi i h
  · exact hb.hi i h
theorem nil_lot (n : Int) : LotOk n [] := ⟨.nil, fun _ h => absurd h (by simp), fun _ h => absurd h (by simp)⟩
theorem joined_mode {n : Int} {a b : Mode} (ha : ModeOk n a) (hb : ModeOk n b) : ModeOk n (joinedM a b) :=
  ⟨bothL_lot ha.own hb.own, bothL_lot ha.means hb.means, fun i hi => by
    obtain ⟨h1, h2⟩ := mem_bothL.mp hi
    exact mem_bothL.mpr ⟨h1, h2.imp (ha.sub i) (hb.sub i)⟩⟩
theorem nil_mode (n : Int) : ModeOk n ([], []) := ⟨nil_lot n, nil_lot n, fun _ h => absurd h (by simp)⟩
theorem means_mode {n : Int} {m : Mode} (h : ModeOk n m) : ModeOk n ([], m.2) := ⟨nil_lot n, h.means, fun _ h => absurd h (by simp)⟩
theorem goesB_comm (r : Rules) (a b : Mode) : goesB r a b = goesB r b a := Bool.and_comm ..
/-! ### tables -/
theorem getT_put (T : Tb) (k j : Int × Int) (m : Mode) : getT (putT T k m) j = if j = k then some m else getT T j := by
  unfold putT
  split
  · rename_i h
    have key : ∀ U : Tb, getT (U.map fun x => if x.1 = k then (x.1, m) else x) j = if j = k then (getT U k).map (fun _ => m) else getT U j := by
      intro U
      induction U with
      | nil => by_cases c : j = k <;> simp [getT]
      | cons p U ih =>
        rw [List.map_cons]
        unfold getT at ih ⊢
        by_cases c1 : p.1 = k
        · rw [if_pos c1]
          by_cases c2 : j = k
          · subst c2
            rw [if_pos rfl, List.find?_cons_of_pos (by simpa using c1), List.find?_cons_of_pos (by simpa using c1)]
            rfl
          · have c3 : ¬ p.1 = j := fun e => c2 (e.symm.trans c1)
            rw [if_neg c2] at ih ⊢
            rw [List.find?_cons_of_neg (by simpa using c3), List.find?_cons_of_neg (by simpa using c3)]
            exact ih
        · rw [if_neg c1]
          by_cases c2 : j = k
          · subst c2
            rw [if_pos rfl] at ih ⊢
            rw [List.find?_cons_of_neg (by simpa using c1), List.find?_cons_of_neg (by simpa using c1)]
            exact ih
          · rw [if_neg c2] at ih ⊢
            by_cases c3 : p.1 = j
            · rw [List.find?_cons_of_pos (by simpa using c3), List.find?_cons_of_pos (by simpa using c3)]
            · rw [List.find?_cons_of_neg (by simpa using c3), List.find?_cons_of_neg (by simpa using c3)]
              exact ih
    rw [key]
    by_cases c : j = k
    · rw [if_pos c, if_pos c]
      rw [getT_any] at h
      obtain ⟨x, hx⟩ := Option.isSome_iff_exists.mp h
      rw [hx]
      rfl
    · rw [if_neg c, if_neg c]
  · rename_i h
    unfold getT
    rw [List.find?_append]
    by_cases c : j = k
    · subst c
      rw [if_pos rfl]
      have e : T.find? (fun x => decide (x.1 = j)) = none := by
        rw [List.find?_eq_none]
        intro x hx z
        exact h (List.any_eq_true.mpr ⟨x, hx, z⟩)
      rw [e]
      simp
    · rw [if_neg c]
      have e : [(k, m)].find? (fun x => decide (x.1 = j)) = none := by
        rw [List.find?_cons_of_neg (by simpa using fun z : k = j => c z.symm)]
        rfl
      rw [e]
      simp
theorem putT_keys (T : Tb) (k : Int × Int) (m : Mode) : (putT T k m).map (·.1) = if k ∈ T.map (·.1) then T.map (·.1) else T.map (·.1) ++ [k] := by
  unfold putT
  by_cases c : k ∈ T.map (·.1)
  · rw [if_pos c]
    have h : (T.any fun x => decide (x.1 = k)) = true := by
      obtain ⟨x, hx, e⟩ := List.mem_map.mp c
      exact List.any_eq_true.mpr ⟨x, hx, decide_eq_true e⟩
    rw [if_pos h, List.map_map]
    refine List.map_congr_left fun x _ => ?_
    show (if x.1 = k then (x.1, m) else x).1 = x.1
    split <;> rfl
  · rw [if_neg c]
    have h : ¬ (T.any fun x => decide (x.1 = k)) = true := fun z => by
      obtain ⟨x, hx, e⟩ := List.any_eq_true.mp z
      exact c (List.mem_map.mpr ⟨x, hx, of_decide_eq_true e⟩)
    rw [if_neg h, List.map_append]
    rfl
theorem putT_nodup {T : Tb} {k : Int × Int} {m : Mode} (h : (T.map (·.1)).Nodup) : ((putT T k m).map (·.1)).Nodup := by
  rw [putT_keys]
  split
  · exact h
  · rename_i c
    exact List.nodup_append.mpr ⟨h, by simp, fun a ha b hb e => by
      rw [List.mem_singleton] at hb
      subst hb
      subst e
      exact c ha⟩
theorem putT_mem {T : Tb} {k j : Int × Int} {m : Mode} (h : j ∈ (putT T k m).map (·.1)) : j = k ∨ j ∈ T.map (·.1) := by
  rw [putT_keys] at h
  split at h
  · exact .inr h
  · rcases List.mem_append.mp h with q | q
    · exact .inr q
    · exact .inl (List.mem_singleton.mp q)
theorem getT_some {T : Tb} {k : Int × Int} {m : Mode} (h : getT T k = some m) : k ∈ T.map (·.1) := by
  unfold getT at h
  obtain ⟨x, hx, _⟩ := Option.map_eq_some_iff.mp h
  exact List.mem_map.mpr ⟨x, List.mem_of_find?_eq_some hx, of_decide_eq_true (show decide (x.1 = k) = true from (List.find?_some (p := fun x : (Int × Int) × Mode => decide (x.1 = k)) hx))⟩
/-! ### raised modes -/
def oldM (T : Tb) (who y : Int) : Mode := (getT T (who, y)).getD ([], [])
def ownM (x y : Int) (m : Mode) : Mode := if y = x then m else ([], m.2)
def newM (T : Tb) (who x : Int) (m : Mode) (y : Int) : Mode := joinedM (oldM T who y) (ownM x y m)
def raisedL (t : Tree) (T : Tb) (who x : Int) (m : Mode) : List (Int × Mode) := (aroundL t x).map fun y => (y, newM T who x m y)
def putAll (who : Int) (ps : List (Int × Mode)) (T : Tb) : Tb := ps.foldl (fun T p => putT T (who, p.1) p.2) T
theorem putAll_get (who : Int) (μ : Int → Mode) : ∀ (ys : List Int) (T : Tb) (k : Int × Int), getT (putAll who (ys.map fun y => (y, μ y)) T) k = if k.1 = who ∧ k.2 ∈ ys then some (μ k.2) else getT T k
  | [], T, k => by simp [putAll]
  | y :: ys, T, k => by
    have ih := putAll_get who μ ys (putT T (who, y) (μ y)) k
    have e : putAll who ((y :: ys).map fun y => (y, μ y)) T = putAll who (ys.map fun y => (y, μ y)) (putT T (who, y) (μ y)) := rfl
    rw [e, ih, getT_put]
    by_cases c1 : k.1 = who ∧ k.2 ∈ ys
    · rw [if_pos c1, if_pos ⟨c1.1, List.mem_cons_of_mem _ c1.2⟩]
    · rw [if_neg c1]
      by_cases c2 : k = (who, y)
      · subst c2
        rw [if_pos rfl, if_pos ⟨rfl, List.mem_cons_self⟩]
      · rw [if_neg c2, if_neg]
        rintro ⟨z1, z2⟩
        rcases List.mem_cons.mp z2 with z | z
        · exact c2 (Prod.ext z1 z)
        · exact c1 ⟨z1, z⟩
theorem putAll_nodup (who : Int) : ∀ (ps : List (Int × Mode)) {T : Tb}, (T.map (·.1)).Nodup → ((putAll who ps T).map (·.1)).Nodup
  | [], _, h => h
  | p :: ps, _, h => putAll_nodup who ps (putT_nodup h)
theorem putAll_mem (who : Int) : ∀ (ps : List (Int × Mode)) {T : Tb} {k : Int × Int}, k ∈ (putAll who ps T).map (·.1) → (k.1 = who ∧ k.2 ∈ ps.map (·.1)) ∨ k ∈ T.map (·.1)
  | [], _, _, h => .inr h
  | p :: ps, T, k, h => by
    rcases putAll_mem who ps (T := putT T (who, p.1) p.2) h with q | q
    · exact .inl ⟨q.1, by rw [List.map_cons]; exact List.mem_cons_of_mem _ q.2⟩
    · rcases putT_mem q with rfl | q
      · exact .inl ⟨rfl, by rw [List.map_cons]; exact List.mem_cons_self⟩
      · exact .inr q
/-! ### the way up -/
theorem upC_self (t : Tree) (n : Nat) (x : Int) : x ∈ upC t n x := by
  cases n with
  | zero => simp [upC]
  | succ n =>
    unfold upC
    split <;> simp
theorem upC_more {t : Tree} (hT : TreeOk t) : ∀ (n m : Nat) (x : Int), InT t x → x.toNat < n → x.toNat < m → upC t n x = upC t m x
  | 0, _, _, _, h, _ => absurd h (Nat.not_lt_zero _)
  | _, 0, _, _, _, h => absurd h (Nat.not_lt_zero _)
  | n + 1, m + 1, x, hx, h1, h2 => by
    unfold upC
    cases e : par t x with
    | none => rfl
    | some p =>
      obtain ⟨p1, p2⟩ := hT.par_lt hx e
      have hx1 := hx.1
      have hx2 := hx.2
      have ih := upC_more hT n m p ⟨p1, by omega⟩ (by omega) (by omega)
      show x :: upC t n p = x :: upC t m p
      rw [ih]
theorem upC_trans {t : Tree} (hT : TreeOk t) : ∀ (n : Nat) (x : Int), InT t x → x.toNat < n → ∀ y ∈ upC t n x, ∀ z ∈ upC t n y, z ∈ upC t n x
  | 0, _, _, h, _, _, _, _ => absurd h (Nat.not_lt_zero _)
  | n + 1, x, hx, h, y, hy, z, hz => by
    obtain ⟨hyT, hyx⟩ := hT.upC_in (n + 1) x hx y hy
    unfold upC at hy
    cases e : par t x with
    | none =>
      rw [e] at hy
      have e2 : y = x := by simpa using hy
      subst e2
      exact hz
    | some p =>
      rw [e] at hy
      obtain ⟨p1, p2⟩ := hT.par_lt hx e
      have hx1 := hx.1
      have hx2 := hx.2
      have hpT : InT t p := ⟨p1, by omega⟩
      have ex : upC t (n + 1) x = x :: upC t n p := by
        show (match par t x with | none => [x] | some p => x :: upC t n p) = _
        rw [e]
      have hy' : y ∈ x :: upC t n p := hy
      rcases List.mem_cons.mp hy' with e2 | hy2
      · subst e2
        exact hz
      · rw [ex]
        refine List.mem_cons_of_mem _ ?_
        obtain ⟨hyT2, hyp⟩ := hT.upC_in n p hpT y hy2
        have hy0 := hyT2.1
        have e3 : upC t (n + 1) y = upC t n y := upC_more hT (n + 1) n y hyT2 (by omega) (by omega)
        rw [e3] at hz
        exact upC_trans hT n p hpT (by omega) y hy2 z hz
theorem upC_line {t : Tree} (hT : TreeOk t) : ∀ (n : Nat) (x : Int), InT t x → x.toNat < n → ∀ y ∈ upC t n x, ∀ z ∈ upC t n x, z ∈ upC t n y ∨ y ∈ upC t n z
  | 0, _, _, h, _, _, _, _ => absurd h (Nat.not_lt_zero _)
  | n + 1, x, hx, h, y, hy, z, hz => by
    cases e : par t x with
    | none =>
      have ex : upC t (n + 1) x = [x] := by
        show (match par t x with | none => [x] | some p => x :: upC t n p) = _
        rw [e]
      rw [ex] at hy hz
      have e1 : y = x := by simpa using hy
      have e2 : z = x := by simpa using hz
      subst e1
      subst e2
      exact .inl (upC_self _ _ _)
    | some p =>
      obtain ⟨p1, p2⟩ := hT.par_lt hx e
      have hx1 := hx.1
      have hx2 := hx.2
      have hpT : InT t p := ⟨p1, by omega⟩
      have ex : upC t (n + 1) x = x :: upC t n p := by
        show (match par t x with | none => [x] | some p => x :: upC t n p) = _
        rw [e]
      have hy' := hy
      have hz' := hz
      rw [ex] at hy' hz'
      rcases List.mem_cons.mp hy' with e1 | hy2
      · subst e1
        exact .inl hz
      · rcases List.mem_cons.mp hz' with e2 | hz2
        · subst e2
          exact .inr hy
        · obtain ⟨a1, a2⟩ := hT.upC_in n p hpT y hy2
          obtain ⟨b1, b2⟩ := hT.upC_in n p hpT z hz2
          have := a1.1
          have := b1.1
          rw [upC_more hT (n + 1) n y a1 (by omega) (by omega), upC_more hT (n + 1) n z b1 (by omega) (by omega)]
          exact upC_line hT n p hpT (by omega) y hy2 z hz2
section
variable {t : Tree} (hT : TreeOk t)
include hT
theorem around_self {x : Int} : x ∈ aroundL t x := List.mem_reverse.mpr (upC_self _ _ _)
theorem around_in {x y : Int} (hx : InT t x) (hy : y ∈ aroundL t x) : InT t y := (hT.upC_in 12 x hx y (List.mem_reverse.mp hy)).1
theorem in12 {x : Int} (hx : InT t x) : x.toNat < 12 := by
  have := hT.hi
  have := hx.1
  have := hx.2
  omega
theorem around_trans {x y z : Int} (hx : InT t x) (hy : y ∈ aroundL t x) (hz : z ∈ aroundL t y) : z ∈ aroundL t x :=
  List.mem_reverse.mpr (upC_trans hT 12 x hx (in12 hT hx) y (List.mem_reverse.mp hy) z (List.mem_reverse.mp hz))
theorem around_line {x y z : Int} (hx : InT t x) (hy : y ∈ aroundL t x) (hz : z ∈ aroundL t x) : z ∈ aroundL t y ∨ y ∈ aroundL t z :=
  (upC_line hT 12 x hx (in12 hT hx) y (List.mem_reverse.mp hy) z (List.mem_reverse.mp hz)).imp List.mem_reverse.mpr List.mem_reverse.mpr
end
/-! ### who is in the way -/
def bar1 (r : Rules) (now : List Hold) (who : Int) (p : Int × Mode) : Option (Int × Int) := (now.find? fun h => decide (h.2.1 = p.1) && (decide (h.1 ≠ who) && !goesB r p.2 h.2.2)).map fun h => (p.1, h.1)
def barF (r : Rules) (now : List Hold) (who : Int) (ps : List (Int × Mode)) : Option (Int × Int) := ps.findSome? (bar1 r now who)
theorem barF_none {r : Rules} {now : List Hold} {who : Int} {ps : List (Int × Mode)} (h : barF r now who ps = none) : ∀ p ∈ ps, ∀ g ∈ now, g.2.1 = p.1 → g.1 ≠ who → goesB r p.2 g.2.2 = true := by
  intro p hp g hg e1 e2
  have q := List.findSome?_eq_none_iff.mp h p hp
  unfold bar1 at q
  rw [Option.map_eq_none_iff, List.find?_eq_none] at q
  have z := q g hg
  cases c : goesB r p.2 g.2.2 with
  | true => rfl
  | false => exact absurd (by simp [e1, e2, c]) z
/-! ### fair holds, by what is held -/
theorem Fair.all {r : Rules} {t : Tree} {hs : List Hold} (h : Fair r t hs) {a b : Hold} (ha : a ∈ hs) (hb : b ∈ hs) (hne : a.1 ≠ b.1) (e : a.2.1 = b.2.1) : goesB r a.2.2 b.2.2 = true := by
  obtain ⟨i, hi⟩ := List.getElem?_of_mem ha
  obtain ⟨j, hj⟩ := List.getElem?_of_mem hb
  rcases Nat.lt_trichotomy i j with c | c | c
  · exact pw_get h.go hi hj c e
  · subst c
    rw [hi] at hj
    cases hj
    exact absurd rfl hne
  · rw [goesB_comm]
    exact pw_get h.go hj hi c e.symm
theorem fair_of {r : Rules} {t : Tree} {hs : List Hold} (ok : HoldsOk r t hs) (anc : ∀ h ∈ hs, ∀ y ∈ aroundL t h.2.1, ∃ h' ∈ hs, h'.1 = h.1 ∧ h'.2.1 = y ∧ ∀ i ∈ h.2.2.2, i ∈ h'.2.2.2)
    (all : ∀ a ∈ hs, ∀ b ∈ hs, a.1 ≠ b.1 → a.2.1 = b.2.1 → goesB r a.2.2 b.2.2 = true) : Fair r t hs := by
  refine ⟨ok, anc, ?_⟩
  have q := ok.up
  rw [List.pairwise_map] at q
  refine List.Pairwise.imp_of_mem (fun {a b} ha hb hlt e => all a ha b hb (fun z => ?_) e) q
  exact ltP_irr hlt (Prod.ext z e)
theorem key_f {g h : Hold} (e : key g = key h) : g.1 = h.1 := congrArg (fun p : Int × Int => p.1) e
theorem key_s {g h : Hold} (e : key g = key h) : g.2.1 = h.2.1 := congrArg (fun p : Int × Int => p.2) e
theorem getT_tab {hs : List Hold} {k : Int × Int} {m : Mode} (h : getT (tabOf hs) k = some m) : ∃ g ∈ hs, key g = k ∧ g.2.2 = m := by
  unfold getT tabOf at h
  obtain ⟨x, hx, e⟩ := Option.map_eq_some_iff.mp h
  obtain ⟨g, hg, rfl⟩ := List.mem_map.mp (List.mem_of_find?_eq_some hx)
  exact ⟨g, hg, of_decide_eq_true (show decide (key g = k) = true from (List.find?_some (p := fun x : (Int × Int) × Mode => decide (x.1 = k)) hx)), e⟩
/-- the new holds are fair, and the act is granted -/
theorem fair_give {r : Rules} {t : Tree} {now hs : List Hold} {who x : Int} {m : Mode} (hR : RuOk r) (hT : TreeOk t) (hF : Fair r t now) (hw : 0 ≤ who ∧ who < 4) (hx : InT t x) (hm : ModeOk r.1 m)
    (hbar : barF r now who (raisedL t (tabOf now) who x m) = none) (hup : (hs.map key).Pairwise ltP) (hperm : (hs.map key).Perm ((putAll who (raisedL t (tabOf now) who x m) (tabOf now)).map (·.1)))
    (hget : ∀ h ∈ hs, getT (putAll who (raisedL t (tabOf now) who x m) (tabOf now)) (key h) = some h.2.2) : Fair r t hs ∧ ∀ i ∈ m.1, i ∈ mayL t hs who x := by
  have G : ∀ k, getT (putAll who (raisedL t (tabOf now) who x m) (tabOf now)) k = if k.1 = who ∧ k.2 ∈ aroundL t x then some (newM (tabOf now) who x m k.2) else getT (tabOf now) k := fun k => putAll_get who (newM (tabOf now) who x m) (aroundL t x) (tabOf now) k
  have has : ∀ {k : Int × Int} {μ : Mode}, getT (putAll who (raisedL t (tabOf now) who x m) (tabOf now)) k = some μ → ∃ h ∈ hs, key h = k ∧ h.2.2 = μ := fun {k μ} e => by
    obtain ⟨h, hh, e2⟩ := List.mem_map.mp (hperm.mem_iff.mpr (getT_some e))
    refine ⟨h, hh, e2, ?_⟩
    have q := hget h hh
    rw [e2, e] at q
    exact (Option.some.inj q).symm
  have old : ∀ {y : Int}, ModeOk r.1 (oldM (tabOf now) who y) := fun {y} => by
    unfold oldM
    cases e : getT (tabOf now) (who, y) with
    | none => exact nil_mode _
    | some μ =>
      obtain ⟨g, hg, _, e2⟩ := getT_tab e
      show ModeOk r.1 μ
      rw [← e2]
      exact (hF.ok.ok g hg).mode
  have own : ∀ {y : Int}, ModeOk r.1 (ownM x y m) := fun {y} => by
    unfold ownM
    split
    · exact hm
    · exact means_mode hm
  have own2 : ∀ {y : Int}, (ownM x y m).2 = m.2 := fun {y} => by
    unfold ownM
    split <;> rfl
  have row : ∀ h ∈ hs, (h.1 = who ∧ h.2.1 ∈ aroundL t x ∧ h.2.2 = newM (tabOf now) who x m h.2.1) ∨ (¬ (h.1 = who ∧ h.2.1 ∈ aroundL t x) ∧ ∃ g ∈ now, key g = key h ∧ g.2.2 = h.2.2) := fun h hh => by
    have q := hget h hh
    rw [G] at q
    by_cases c : (key h).1 = who ∧ (key h).2 ∈ aroundL t x
    · rw [if_pos c] at q
      exact .inl ⟨c.1, c.2, (Option.some.inj q).symm⟩
    · rw [if_neg c] at q
      exact .inr ⟨c, getT_tab q⟩
  have mem6 : ∀ {μ : Mode} {i : Int}, ModeOk r.1 μ → i ∈ μ.2 → 0 ≤ i ∧ i < 6 := fun {μ i} h hi => h.means.in6 hR.hi i hi
  have ok : HoldsOk r t hs := ⟨hup, fun h hh => by
    rcases row h hh with ⟨e1, e2, e3⟩ | ⟨_, g, hg, e1, e2⟩
    · exact ⟨by rw [e1]; exact hw, around_in hT hx e2, by rw [e3]; exact joined_mode old own⟩
    · have q := hF.ok.ok g hg
      have e3 : g.1 = h.1 := key_f e1
      have e4 : g.2.1 = h.2.1 := key_s e1
      exact ⟨e3 ▸ q.who, e4 ▸ q.at_, e2 ▸ q.mode⟩⟩
  -- what a hold of before has become: its means are among the new ones
  have grow : ∀ g ∈ now, ∃ h ∈ hs, key h = key g ∧ ∀ i ∈ g.2.2.2, i ∈ h.2.2.2 := fun g hg => by
    have e := getT_of hF.ok.nodup hg
    by_cases c : (key g).1 = who ∧ (key g).2 ∈ aroundL t x
    · obtain ⟨h, hh, e1, e2⟩ := has (k := key g) (by rw [G, if_pos c])
      refine ⟨h, hh, e1, fun i hi => ?_⟩
      rw [e2]
      refine mem_bothL.mpr ⟨mem6 (hF.ok.ok g hg).mode hi, .inl ?_⟩
      have ek : (who, (key g).2) = key g := Prod.ext c.1.symm rfl
      unfold oldM
      rw [ek, e]
      exact hi
    · obtain ⟨h, hh, e1, e2⟩ := has (k := key g) (μ := g.2.2) (by rw [G, if_neg c, e])
      exact ⟨h, hh, e1, fun i hi => by rw [e2]; exact hi⟩
  refine ⟨fair_of ok (fun h hh y hy => ?_) (fun a ha b hb hne e => ?_), fun i hi => ?_⟩
  · rcases row h hh with ⟨e1, e2, e3⟩ | ⟨_, g, hg, e1, e2⟩
    · have hy2 := around_trans hT hx e2 hy
      obtain ⟨h', hh', f1, f2⟩ := has (k := (who, y)) (by rw [G, if_pos ⟨rfl, hy2⟩])
      refine ⟨h', hh', (congrArg Prod.fst f1).trans e1.symm, congrArg Prod.snd f1, fun i hi => ?_⟩
      rw [f2]
      rw [e3] at hi
      obtain ⟨b6, q⟩ := mem_bothL.mp hi
      refine mem_bothL.mpr ⟨b6, ?_⟩
      rw [own2] at q ⊢
      refine q.imp_left fun q => ?_
      unfold oldM at q
      cases eo : getT (tabOf now) (who, h.2.1) with
      | none =>
        rw [eo] at q
        exact absurd q (by simp)
      | some μ =>
        rw [eo] at q
        obtain ⟨g, hg, k1, k2⟩ := getT_tab eo
        have k3 : g.2.1 = h.2.1 := congrArg Prod.snd k1
        have k4 : g.1 = who := congrArg Prod.fst k1
        obtain ⟨g', hg', l1, l2, l3⟩ := hF.anc g hg y (by rw [k3]; exact hy)
        have e5 := getT_of hF.ok.nodup hg'
        have ek : key g' = (who, y) := Prod.ext (l1.trans k4) l2
        rw [ek] at e5
        unfold oldM
        rw [e5]
        refine l3 i ?_
        rw [k2]
        exact q
    · have k3 : g.2.1 = h.2.1 := key_s e1
      have k4 : g.1 = h.1 := key_f e1
      obtain ⟨g', hg', l1, l2, l3⟩ := hF.anc g hg y (by rw [k3]; exact hy)
      obtain ⟨h', hh', f1, f2⟩ := grow g' hg'
      refine ⟨h', hh', ?_, (key_s f1).trans l2, fun i hi => f2 i (l3 i (by rw [e2]; exact hi))⟩
      exact ((key_f f1).trans l1).trans k4
  · rcases row a ha with ⟨a1, a2, a3⟩ | ⟨_, g, hg, a1, a2⟩
    · rcases row b hb with ⟨b1, _⟩ | ⟨_, g, hg, b1, b2⟩
      · exact absurd (a1.trans b1.symm) hne
      · have k3 : g.2.1 = b.2.1 := key_s b1
        have k4 : g.1 = b.1 := key_f b1
        have q := barF_none hbar (a.2.1, newM (tabOf now) who x m a.2.1) (List.mem_map.mpr ⟨a.2.1, a2, rfl⟩) g hg (k3.trans e.symm) (fun z => hne (a1.trans (z.symm.trans k4)))
        rw [a3, ← b2]
        exact q
    · have k3 : g.2.1 = a.2.1 := key_s a1
      have k4 : g.1 = a.1 := key_f a1
      rcases row b hb with ⟨b1, b2, b3⟩ | ⟨_, g', hg', b1, b2⟩
      · have q := barF_none hbar (b.2.1, newM (tabOf now) who x m b.2.1) (List.mem_map.mpr ⟨b.2.1, b2, rfl⟩) g hg (k3.trans e) (fun z => hne ((k4.symm.trans z).trans b1.symm))
        rw [goesB_comm, b3, ← a2]
        exact q
      · have l3 : g'.2.1 = b.2.1 := key_s b1
        have l4 : g'.1 = b.1 := key_f b1
        rw [← a2, ← b2]
        exact hF.all hg hg' (fun z => hne ((k4.symm.trans z).trans l4)) ((k3.trans e).trans l3.symm)
  · obtain ⟨h, hh, e1, e2⟩ := has (k := (who, x)) (by rw [G, if_pos ⟨rfl, around_self hT⟩])
    have e3 : h.1 = who := congrArg Prod.fst e1
    have e4 : h.2.1 = x := congrArg Prod.snd e1
    have h6 := hm.own.in6 hR.hi i hi
    refine List.mem_filter.mpr ⟨mem_rangeZ.mpr h6, ?_⟩
    unfold mayP
    refine List.any_eq_true.mpr ⟨h, hh, ?_⟩
    have eo : i ∈ h.2.2.1 := by
      rw [e2]
      refine mem_bothL.mpr ⟨h6, .inr ?_⟩
      unfold ownM
      rw [if_pos rfl]
      exact hi
    rw [decide_eq_true e3, decide_eq_true (show h.2.1 ∈ aroundL t x by rw [e4]; exact around_self hT), decide_eq_true eo]
    rfl
/-- a holder's holds taken away -/
theorem fair_leave {r : Rules} {t : Tree} {now : List Hold} (hF : Fair r t now) (who : Int) : Fair r t (now.filter fun h => !decide (h.1 = who)) := by
  have hsub : (now.filter fun h => !decide (h.1 = who)).Sublist now := List.filter_sublist
  refine ⟨⟨hF.ok.up.sublist (hsub.map key), fun h hh => hF.ok.ok h (hsub.subset hh)⟩, fun h hh y hy => ?_, hF.go.sublist hsub⟩
  obtain ⟨h1, h2⟩ := List.mem_filter.mp hh
  obtain ⟨h', a, b, c, d⟩ := hF.anc h h1 y hy
  refine ⟨h', List.mem_filter.mpr ⟨a, ?_⟩, b, c, d⟩
  rw [b]
  exact h2
theorem fair_nil {r : Rules} {t : Tree} : Fair r t [] := ⟨⟨.nil, fun _ h => absurd h (by simp)⟩, fun _ h => absurd h (by simp), .nil⟩
/-! ### no clash -/
theorem besB_comm (r : Rules) (i j : Int) : besB r i j = besB r j i := by
  unfold besB
  have e1 : lo2 i j = lo2 j i := by
    unfold lo2
    split <;> split <;> omega
  have e2 : hi2 i j = hi2 j i := by
    unfold hi2
    split <;> split <;> omega
  rw [e1, e2]
theorem goes_bes {r : Rules} {a b : Mode} (h : goesB r a b = true) {i j : Int} (hi : i ∈ a.1) (hj : j ∈ b.2) (hj2 : 0 ≤ j ∧ j < r.1) : besB r i j = true := by
  unfold goesB at h
  have h1 : barsB r a b = false := by
    have q := (Bool.and_eq_true_iff.mp h).1
    simpa using q
  unfold barsB at h1
  rw [List.any_eq_false] at h1
  have q := h1 j hj
  cases c : besB r i j with
  | true => rfl
  | false =>
    refine absurd ?_ q
    refine decide_eq_true ?_
    unfold againstL
    refine List.mem_filter.mpr ⟨mem_rangeZ.mpr hj2, ?_⟩
    have z : (a.1.all fun o => besB r j o) = false := List.all_eq_false.mpr ⟨i, hi, by rw [besB_comm, c]; decide⟩
    rw [z]
    rfl
theorem mayL_mem {t : Tree} {hs : List Hold} {who x a : Int} (h : a ∈ mayL t hs who x) : ∃ g ∈ hs, g.1 = who ∧ g.2.1 ∈ aroundL t x ∧ a ∈ g.2.2.1 := by
  obtain ⟨_, q⟩ := List.mem_filter.mp h
  obtain ⟨g, hg, e⟩ := List.any_eq_true.mp q
  rw [Bool.and_eq_true, Bool.and_eq_true, decide_eq_true_iff, decide_eq_true_iff, decide_eq_true_iff] at e
  exact ⟨g, hg, e⟩
theorem fair_clash {r : Rules} {t : Tree} {hs : List Hold} (hT : TreeOk t) (hF : Fair r t hs) {x one other : Int} (hx : InT t x) (hne : one ≠ other) : NoClash r t hs x one other := by
  intro a ha b hb
  obtain ⟨g1, m1, e1, p1, q1⟩ := mayL_mem ha
  obtain ⟨g2, m2, e2, p2, q2⟩ := mayL_mem hb
  have o1 := hF.ok.ok g1 m1
  have o2 := hF.ok.ok g2 m2
  rcases around_line hT hx p1 p2 with c | c
  · -- g2's thing lies around g1's: the first holder holds there too
    obtain ⟨g, hg, f1, f2, f3⟩ := hF.anc g1 m1 g2.2.1 c
    have ha2 := f3 a (o1.mode.sub a q1)
    have hgo := hF.all m2 hg (by rw [e2, f1, e1]; exact fun z => hne z.symm) f2.symm
    have og := (hF.ok.ok g hg).mode.means
    have q := goes_bes hgo q2 ha2 ⟨og.lo a ha2, og.hi a ha2⟩
    rw [besB_comm]
    exact q
  · obtain ⟨g, hg, f1, f2, f3⟩ := hF.anc g2 m2 g1.2.1 c
    have hb2 := f3 b (o2.mode.sub b q2)
    have hgo := hF.all m1 hg (by rw [e1, f1, e2]; exact hne) f2.symm
    have og := (hF.ok.ok g hg).mode.means
    exact goes_bes hgo q1 hb2 ⟨og.lo b hb2, og.hi b hb2⟩
end HM
/-! The yard: raised, bar, go_to. -/
namespace HM
open PySem PySem.Spec PyProof.Rows L2
def cPM (p : Int × Mode) : PyData := .tuple [.int p.1, cMode p.2]
theorem tupd_pm (p : Int × Mode) : tupd (cPM p) = true := by
  show (true && (tupd (cMode p.2) && true)) = true
  rw [tupd_mode] <;> rfl
theorem Is.pm {H : Hp} {v : V} {p : Int × Mode} (q : Is H v (cPM p)) : ∃ a m, v = .ref a ∧ H a = some (.tup [.int p.1, m]) ∧ Is H m (cMode p.2) := by
  obtain ⟨a, xs, e, h1, h2⟩ := q.tup_inv
  cases h2 with
  | cons x y =>
    cases y with
    | cons y z =>
      cases z
      obtain rfl := x.int_inv
      exact ⟨a, _, e, h1, y⟩
theorem m6_nil : M6 ([], []) := ⟨fun _ h => absurd h (by simp), fun _ h => absurd h (by simp), .nil, .nil⟩
theorem oldM_mode {r : Rules} {t : Tree} {now : List Hold} (ho : HoldsOk r t now) (who y : Int) : ModeOk r.1 (oldM (tabOf now) who y) := by
  unfold oldM
  cases e : getT (tabOf now) (who, y) with
  | none => exact nil_mode _
  | some μ =>
    obtain ⟨g, hg, _, e2⟩ := getT_tab e
    show ModeOk r.1 μ
    rw [← e2]
    exact (ho.ok g hg).mode
theorem ownM_mode {n : Int} {m : Mode} (h : ModeOk n m) (x y : Int) : ModeOk n (ownM x y m) := by
  unfold ownM
  split
  · exact h
  · exact means_mode h
theorem PE.weaken {X : Cx} {e : Expr} {t t' : TE} (h : PE X e t) (f : ∀ σ H Q, t' σ H Q → t σ H Q) : PE X e t' := ⟨fun pins s σ H Q I hw => h.run pins s σ H Q I (f σ H Q hw)⟩
abbrev mRaised : Stmt := inClass (top 48) 10
theorem sc_mRaised : FnScope ["self", "holder", "thing", "mode", "known", "found", "place", "own"] ["self", "holder", "thing", "mode"] (defScope mRaised) := ⟨rfl, rfl, rfl, by decide +kernel, rfl, by decide +kernel, by decide +kernel⟩
def spRaised (C : Addr) : Sp := fun vs H Q _ => ∃ (a p : Addr) (r : Rules) (t : Tree) (now : List Hold) (past : List (List Hold)) (who x : Int) (v : V) (m : Mode), vs = [.ref a, .int who, .int x, v] ∧ Yd H C a p r t now past ∧ HoldsOk r t now ∧ RuOk r ∧ TreeOk t ∧ InT t x ∧ Is H v (cMode m) ∧ ModeOk r.1 m ∧
  ∀ d H', Same H H' → H d = none → Is H' (.ref d) (.list ((raisedL t (tabOf now) who x m).map cPM)) → Q (.ref d) H'
/-- the own part: the mode at the thing, only what it means elsewhere -/
def tOwn : TE := fun σ H Q => ∃ (y x : Int) (v : V) (m : Mode), σ[6]? = some (some (.int y)) ∧ σ[2]? = some (some (.int x)) ∧ σ[3]? = some (some v) ∧ Is H v (cMode m) ∧ ∀ ov H', Same H H' → Is H' ov (cMode (ownM x y m)) → Q ov H'
theorem own_read (σ : L2.St) (H : Hp) (Q : VK) (h : tOwn σ H Q) : tIf (tTest (tOp rEq (tVar 6) (tVar 2))) (tVar 3) (tTup (tCons (tTup tNil) (tCons (tOp rIxTup (tVar 3) (tC (.int 1))) tNil))) σ H Q := by
  obtain ⟨y, x, v, m, h6, h2, h3, hv, k⟩ := h
  refine ⟨_, h6, _, h2, rfl, _, rfl, ?_⟩
  rw [beqI]
  by_cases c : y = x
  · rw [decide_eq_true c]
    refine iteT ⟨_, h3, k v H (Same.refl _) ?_⟩
    unfold ownM
    rw [if_pos c]
    exact hv
  · rw [decide_eq_false c]
    refine iteF ?_
    obtain ⟨ma, mb, mc, rfl, hma, hmb, hmc⟩ := hv.mode
    refine ⟨(by show 0 ≤ sizeLine; decide), fun e he => ?_⟩
    have s1 := Same.new (o := HO.tup []) he
    refine ⟨_, h3, ma, _, 1, .ref mc, rfl, rfl, s1 _ _ hma, atI_nat (j := 1) rfl, (by show 2 ≤ sizeLine; decide), fun q hq => ?_⟩
    have s2 := Same.new (o := HO.tup [.ref e, .ref mc]) hq
    refine k _ _ (s1.trans s2) ?_
    unfold ownM
    rw [if_neg c]
    exact is_mode_mk (m := ([], m.2)) upd_same (s2 _ _ upd_same) (s2 _ _ (s1 _ _ hmc))
section
variable {P : Program} {w : World} {K : PySem.W.Frag} {mg : Str → Option Value} {base : Heap} {C : Addr}
theorem ok_mRaised (Y : Yc K C) (D : Mt K C "raised" "Yard.raised" mRaised) (pT : PropG P w K mg base 1 C "tree" (spTree C)) (cT : C8.Cal P w K mg base 1 "table_of" spTableOf []) (cA : C8.Cal P w K mg base 1 "around" spAround []) (cJ : C8.Cal P w K mg base 2 "joined" spJoined []) : MetG P w K mg base C8.CX0 3 C "raised" (spRaised C) := by
  refine metG_of Y D sc_mRaised (fun _ _ _ _ _ _ us hl => match us, hl with | [_, _, _, _], _ => rfl) (fun vs H Q E h => ?_) (fun f cdv A' outer s H vs Q E hr h => ?_)
  · obtain ⟨a, p, r, t, now, past, who, x, v, m, rfl, _⟩ := h
    rfl
  · obtain ⟨a, p, r, t, now, past, who, x, v, m, rfl, hy, ho, hR, hT, hx, hv, hm, k⟩ := h
    refine ⟨_, pss_cons (ps_par (i := 4) (j := 5) rfl sc_mRaised.nd rfl rfl (by decide) rfl rfl (pa_cons (C8.pe_c cT hr (by decide) (by rfl) (pa_cons (pe_fld (pv 0) rfl) pa_nil)) (pa_cons (pe_lst pa_nil) pa_nil)) rfl)
      (pss_cons (ps_for PassesOwn.leaving rfl (pi_tup (C8.pe_c cA hr (by decide) (by rfl) (pa_cons (pe_pg pT hr (by decide) (pv 0)) (pa_cons (pv 2) pa_nil)))) (pg_name (i := 6) sc_mRaised.nd rfl (Or.inl rfl))
        (pss_cons (ps_set (i := 7) sc_mRaised.nd rfl (Or.inl rfl) (PE.weaken (pe_ifExp (pt_cmpR op_eq (pv 6) (pv 2) (nomark _)) (pv 3) (pe_tup (pa_cons (pe_tup pa_nil) (pa_cons (pe_ix ixT (pv 3) pe_int (fun _ _ => rfl)) pa_nil)))) own_read))
        (pss_one (ps_expr (pe_bm PySem.F.plainAttrs_list PySem.F.slot_list_append PySem.F.type_list_append mt_append (pv 5) (pa_cons (pe_tup (pa_cons (pv 6) (pa_cons (C8.pe_c cJ hr (by decide) (by rfl) (pa_cons
          (pe_dget2 (hu_of hr) (pv 4) (pe_tup (pa_cons (pv 1) (pa_cons (pv 6) pa_nil))) (pe_tup (pa_cons (pe_tup pa_nil) (pa_cons (pe_tup pa_nil) pa_nil))) ⟨by rfl, by rfl, by rfl, by rfl⟩) (pa_cons (pv 7) pa_nil))) pa_nil))) pa_nil))))))
      (pss_one (ps_ret (pv 5)))), ?_⟩
    obtain ⟨dx, g, ru, tr, n, mv, ps, h1, h2, h3, h4, h5, h6, h7⟩ := id hy
    have hlen := ho.len hT
    refine ⟨_, rfl, a, C, dx, _, _, rfl, h1, Y.cls, Y.now, rfl, n, now, rfl, h5, by omega, ho.nodup, fun kn kvs H1 s1 nkn hkn htab => ?_⟩
    refine ⟨(by show 0 ≤ sizeLine; decide), fun D nD => ?_⟩
    have s2 := Same.new (o := HO.lst ([] : List V)) nD
    have s12 := s1.trans s2
    refine ⟨_, _, rfl, ?_⟩
    refine ⟨_, rfl, a, dx, _, rfl, s12 _ _ h1, a, p, r, t, now, past, rfl, hy.same s12, fun u hu => ?_⟩
    refine ⟨_, rfl, u, t, x, rfl, hu, hT, hx, fun pl H2 s3 hpl => ?_⟩
    obtain ⟨q, rfl, hq⟩ := hpl.lot
    have s23 := s2.trans s3
    refine ⟨q, rfl, ⟨_, .of hq⟩, for_tup (K := K) (a := q) (xs := (aroundL t x).map V.int) (fun i σ' H' => Same H1 H' ∧ Tups H2 H' ∧ (∃ o o2, σ' = [some (.ref a), some (.int who), some (.int x), some v, some (.ref kn), some (.ref D), o, o2]) ∧ ∃ ys, H' D = some (.lst ys) ∧ IsAll H' ys (((aroundL t x).take i).map fun y => cPM (y, newM (tabOf now) who x m y))) ⟨s23, Tups.refl _, ⟨_, _, rfl⟩, [], s3 _ _ upd_same, .nil⟩ (fun i σ' H' _ z => .of (z.2.1 _ _ hq)) (fun i z σ' H' hz inv => ?_) (fun σ' H' inv => ?_)⟩
    · obtain ⟨w1, w2, ⟨o, o2, rfl⟩, ys, hD, iys⟩ := inv
      rw [List.getElem?_map] at hz
      obtain ⟨y, hy1, rfl⟩ := Option.map_eq_some_iff.mp hz
      have hlt := lt_get hy1
      have h13 := aroundL_len t x
      refine ⟨y, x, v, m, rfl, rfl, rfl, hv.same (s1.trans w1), fun ov H3 w3 hov => ?_⟩
      have hD3 := w3 _ _ hD
      refine ⟨_, rfl, .inl ⟨rfl, _, .of hD3⟩, _, rfl, _, rfl, kn, rfl, .inr ⟨kvs, .inl (w3 _ _ (w1 _ _ hkn))⟩, _, rfl, _, rfl, (by show 2 ≤ sizeLine; decide), fun kp hkp => ?_⟩
      have u1 := Same.new (o := HO.tup [.int who, .int y]) hkp
      refine ⟨(by show 0 ≤ sizeLine; decide), fun e1 he1 => ?_⟩
      have u2 := Same.new (o := HO.tup []) he1
      refine ⟨(by show 0 ≤ sizeLine; decide), fun e2 he2 => ?_⟩
      have u3 := Same.new (o := HO.tup []) he2
      refine ⟨(by show 2 ≤ sizeLine; decide), fun e3 he3 => ?_⟩
      have u4 := Same.new (o := HO.tup [.ref e1, .ref e2]) he3
      have u14 := ((u1.trans u2).trans u3).trans u4
      have w34 := w3.trans u14
      have ht4 := htab.tups (w1.trans w34).tups
      refine ⟨valV kvs (kk (who, y)), DGet.t (k := kk (who, y)) (w34 _ _ (w1 _ _ hkn)) (u4 _ _ (u3 _ _ (u2 _ _ upd_same))), _, rfl, ?_⟩
      have dflt : Is (upd (upd (upd (upd H3 kp (.tup [.int who, .int y])) e1 (.tup [])) e2 (.tup [])) e3 (.tup [.ref e1, .ref e2])) (.ref e3) (cMode ([], [])) := is_mode_mk (m := ([], [])) upd_same (u4 _ _ (u3 _ _ upd_same)) (u4 _ _ upd_same)
      have hold : Is (upd (upd (upd (upd H3 kp (.tup [.int who, .int y])) e1 (.tup [])) e2 (.tup [])) e3 (.tup [.ref e1, .ref e2])) ((valV kvs (kk (who, y))).getD (.ref e3)) (cMode (oldM (tabOf now) who y)) := by
        unfold oldM
        rcases ht4.val (who, y) with ⟨g1, g2⟩ | ⟨v', m', g1, g2, g3⟩
        · rw [g1, g2]
          exact dflt
        · rw [g1, g2]
          exact g3
      refine ⟨_, _, oldM (tabOf now) who y, ownM x y m, rfl, hold, hov.same u14, (oldM_mode ho who y).m6 hR.hi, (ownM_mode hm x y).m6 hR.hi, fun jv H4 u5 hj => ?_⟩
      refine ⟨(by show 2 ≤ sizeLine; decide), fun e5 he5 => ?_⟩
      have u6 := Same.new (o := HO.tup [.int y, jv]) he5
      have w6 := (w34.trans u5).trans u6
      have hD6 := w6 _ _ hD
      have hly := iys.length
      rw [List.length_map, List.length_take] at hly
      refine ⟨D, ys, _, rfl, rfl, hD6, lt1000 (by omega), ?_⟩
      have tp : ∀ {G : Hp}, Same G (upd H4 e5 (.tup [.int y, jv])) → Tups G (upd (upd H4 e5 (.tup [.int y, jv])) D (.lst (ys ++ [.ref e5]))) := fun {G} z c o e => by
        have q := z _ _ e
        rw [upd_ne (fun c2 => by rw [c2, hD6] at q; cases q)]
        exact q
      have ne5 : e5 ≠ D := fun e => by rw [e, u5 _ _ (u14 _ _ hD3)] at he5; cases he5
      refine ⟨(w1.trans w6).set nD, w2.trans (tp w6), ⟨_, _, rfl⟩, _, upd_same, ?_⟩
      rw [take_more hy1, List.map_append]
      exact (IsAll.tups (tp w6) iys (tupdAll_map (fun y => tupd_pm _) _)).append (.one (.tup (xs := [.int y, jv]) (by rw [upd_ne ne5, upd_same]) (.cons (.int _) (.cons (hj.tups (tp u6) (tupd_mode _)) .nil))))
    · obtain ⟨w1, w2, ⟨o, o2, rfl⟩, ys, hD, iys⟩ := inv
      rw [List.length_map, List.take_length] at iys
      refine ⟨_, rfl, k D H' (s1.trans w1) (s1.free nD) (.lst hD ?_)⟩
      unfold raisedL
      rw [List.map_map]
      exact iys
end
/-! ### bar -/
def cBar : Option (Int × Int) → PyData
  | none => .none
  | some p => cPair p
abbrev mBar : Stmt := inClass (top 48) 11
theorem sc_mBar : FnScope ["self", "holder", "pairs", "thing", "mode", "other", "place", "second"] ["self", "holder", "pairs"] (defScope mBar) := ⟨rfl, rfl, rfl, by decide +kernel, rfl, by decide +kernel, by decide +kernel⟩
def spBar (C : Addr) : Sp := fun vs H Q _ => ∃ (a p : Addr) (r : Rules) (t : Tree) (now : List Hold) (past : List (List Hold)) (who : Int) (d : Addr) (ps : List (Int × Mode)), vs = [.ref a, .int who, .ref d] ∧ Yd H C a p r t now past ∧ HoldsOk r t now ∧ RuOk r ∧ TreeOk t ∧ Is H (.ref d) (.list (ps.map cPM)) ∧ (∀ q ∈ ps, ModeOk r.1 q.2) ∧
  ∀ u H', Same H H' → Is H' u (cBar (barF r now who ps)) → Q u H'
theorem find_take {α : Type} {p : α → Bool} {l : List α} {i : Nat} {x : α} (h : l[i]? = some x) (hp : p x = true) (hn : (l.take i).find? p = none) : l.find? p = some x := by
  have e : l = l.take i ++ x :: l.drop (i + 1) := by
    obtain ⟨hi, rfl⟩ := List.getElem?_eq_some_iff.mp h
    simp
  rw [e, List.find?_append, hn, List.find?_cons_of_pos hp]
  rfl
theorem findSome_take {α β : Type} {f : α → Option β} {l : List α} {i : Nat} {x : α} {b : β} (h : l[i]? = some x) (hp : f x = some b) (hn : (l.take i).findSome? f = none) : l.findSome? f = some b := by
  have e : l = l.take i ++ x :: l.drop (i + 1) := by
    obtain ⟨hi, rfl⟩ := List.getElem?_eq_some_iff.mp h
    simp
  rw [e, List.findSome?_append, hn, List.findSome?_cons, hp]
  rfl
section
variable {P : Program} {w : World} {K : PySem.W.Frag} {mg : Str → Option Value} {base : Heap} {C : Addr}
theorem ok_mBar (Y : Yc K C) (D : Mt K C "bar" "Yard.bar" mBar) (pR : PropG P w K mg base 1 C "rules" (spRules C)) (cG : C8.Cal P w K mg base 4 "goes" spGoes []) : MetG P w K mg base C8.CX0 5 C "bar" (spBar C) := by
  refine metG_of Y D sc_mBar (fun _ _ _ _ _ _ us hl => match us, hl with | [_, _, _], _ => rfl) (fun vs H Q E h => ?_) (fun f cdv A' outer s H vs Q E hr h => ?_)
  · obtain ⟨a, p, r, t, now, past, who, d, ps, rfl, _⟩ := h
    rfl
  · obtain ⟨a, p, r, t, now, past, who, d, ps, rfl, hy, ho, hR, hT, hd, hps, k⟩ := h
    refine ⟨_, pss_cons (ps_for PassesOwn.leaving rfl (pi_list (pv 2)) (pgT rfl (pgs_cons (pg_name (i := 3) sc_mBar.nd rfl (Or.inl rfl)) (pgs_cons (pg_name (i := 4) sc_mBar.nd rfl (Or.inl rfl)) pgs_nil)))
        (pss_one (ps_for PassesOwn.leaving rfl (pi_tup (pe_fld (pv 0) rfl)) (pgT rfl (pgs_cons (pg_name (i := 5) sc_mBar.nd rfl (Or.inl rfl)) (pgs_cons (pg_name (i := 6) sc_mBar.nd rfl (Or.inl rfl)) (pgs_cons (pg_name (i := 7) sc_mBar.nd rfl (Or.inl rfl)) pgs_nil))))
          (pss_one (ps_if (PW.pt (pw_and (pt_cmpR op_eq (pv 6) (pv 3) (nomark _)) (pw_and (pt_cmpR op_ne (pv 5) (pv 1) (nomark _)) (pw_and1 (pt_not (pt_val (C8.pe_c cG hr (by decide) (by rfl) (pa_cons (pe_pg pR hr (by decide) (pv 0)) (pa_cons (pv 4) (pa_cons (pv 7) pa_nil))))))))))
            (pss_one (ps_ret (pe_tup (pa_cons (pv 3) (pa_cons (pv 5) pa_nil))))) pss_nil)))))
      (pss_one (ps_ret pe_non)), ?_⟩
    obtain ⟨dx, g, ru, tr, n, mv, pss, h1, h2, h3, h4, h5, h6, h7⟩ := id hy
    obtain ⟨_, zs, e, hd1, izs⟩ := hd.lst_inv
    cases e
    obtain ⟨b, xs, rfl, hb, ixs⟩ := h5.holds
    have hl := ixs.length
    rw [List.length_map] at hl
    have hlz := izs.length
    rw [List.length_map] at hlz
    refine ⟨_, rfl, d, rfl, ⟨_, .of hd1⟩, for_list (K := K) (a := d) (xs := zs) (fun i σ' H' => Same H H' ∧ (ps.take i).findSome? (bar1 r now who) = none ∧ σ'[0]? = some (some (.ref a)) ∧ σ'[1]? = some (some (.int who)) ∧ σ'[2]? = some (some (.ref d)) ∧ σ'.length = 8) ⟨Same.refl _, rfl, rfl, rfl, rfl, rfl⟩ (fun i σ' H' _ z => .of (z.1 _ _ hd1)) (fun i z σ' H' hz inv => ?_) (fun σ' H' inv => ?_)⟩
    · obtain ⟨s1, hn, e0, e1, e3, e2⟩ := inv
      obtain ⟨pm, hpm, ipm⟩ := izs.map_of hz
      obtain ⟨c, mo, rfl, hc, imo⟩ := ipm.pm
      have hmo := hps pm (List.mem_of_getElem? hpm)
      match σ', e2, e0, e1, e3 with
      | [_, _, _, _, _, _, _, _], _, e0, e1, e3 =>
        cases e0
        cases e1
        cases e3
        refine ⟨c, _, rfl, s1 _ _ hc, rfl, _, _, rfl, _, _, rfl, rfl, ?_⟩
        refine ⟨_, rfl, a, C, dx, _, _, rfl, s1 _ _ h1, Y.cls, Y.now, rfl, b, rfl, ⟨_, .of (s1 _ _ hb)⟩, for_tup (K := K) (a := b) (xs := xs) (fun j σ' H'' => Same H' H'' ∧ ((now.take j).find? fun h => decide (h.2.1 = pm.1) && (decide (h.1 ≠ who) && !goesB r pm.2 h.2.2)) = none ∧ σ'[0]? = some (some (.ref a)) ∧ σ'[1]? = some (some (.int who)) ∧ σ'[2]? = some (some (.ref d)) ∧ σ'[3]? = some (some (.int pm.1)) ∧ σ'[4]? = some (some mo) ∧ σ'.length = 8) ⟨Same.refl _, rfl, rfl, rfl, rfl, rfl, rfl, rfl⟩ (fun j σ' H'' _ z => .of (z.1 _ _ (s1 _ _ hb))) (fun j z2 σ' H'' hz2 inv => ?_) (fun σ' H'' inv => ?_)⟩
        · obtain ⟨s2, hn2, e0, e1, e3, e4, e5, e2⟩ := inv
          obtain ⟨h, hh, ih⟩ := ixs.map_of hz2
          obtain ⟨c2, m2, rfl, hc2, im2⟩ := ih.hold
          have hhm := List.mem_of_getElem? hh
          have s12 := s1.trans s2
          match σ', e2, e0, e1, e3, e4, e5 with
          | [_, _, _, _, _, _, _, _], _, e0, e1, e3, e4, e5 =>
            cases e0
            cases e1
            cases e3
            cases e4
            cases e5
            have next : (decide (h.2.1 = pm.1) && (decide (h.1 ≠ who) && !goesB r pm.2 h.2.2)) = false → ((now.take (j + 1)).find? fun h => decide (h.2.1 = pm.1) && (decide (h.1 ≠ who) && !goesB r pm.2 h.2.2)) = none := fun z => by
              rw [take_more hh, List.find?_append, hn2, List.find?_cons_of_neg (by rw [z]; decide)]
              rfl
            refine ⟨c2, _, rfl, s12 _ _ hc2, rfl, _, _, rfl, _, _, rfl, _, _, rfl, rfl, ?_⟩
            refine ⟨_, rfl, _, rfl, rfl, _, rfl, ?_⟩
            rw [beqI]
            by_cases c1 : h.2.1 = pm.1
            · rw [decide_eq_true c1]
              refine iteT ?_
              refine ⟨_, rfl, _, rfl, rfl, _, rfl, ?_⟩
              rw [beqI]
              by_cases c3 : h.1 = who
              · rw [decide_eq_true c3]
                exact iteF ⟨s2, next (by simp [c3]), rfl, rfl, rfl, rfl, rfl, rfl⟩
              · rw [decide_eq_false c3]
                refine iteT ?_
                refine ⟨_, rfl, a, dx, _, rfl, s12 _ _ h1, a, p, r, t, now, past, rfl, hy.same s12, fun u hu => ?_⟩
                refine ⟨_, rfl, _, rfl, u, mo, m2, r, pm.2, h.2.2, rfl, hu, imo.same s12, im2.same s12, hmo.len hR.hi, (ho.ok h hhm).mode.len hR.hi, hR, fun H3 s3 => ⟨_, rfl, ?_⟩⟩
                cases c4 : goesB r pm.2 h.2.2 with
                | true => exact iteF ⟨s2.trans s3, next (by simp [c4]), rfl, rfl, rfl, rfl, rfl, rfl⟩
                | false =>
                  refine iteT ?_
                  refine ⟨_, rfl, _, rfl, (by show 2 ≤ sizeLine; decide), fun e5 he5 => ?_⟩
                  have s4 := Same.new (o := HO.tup [.int pm.1, .int h.1]) he5
                  have e6 : bar1 r now who pm = some (pm.1, h.1) := by
                    unfold bar1
                    rw [find_take hh (by simp [c1, c3, c4]) hn2]
                    rfl
                  have e7 : barF r now who ps = some (pm.1, h.1) := findSome_take hpm e6 hn
                  refine k _ _ ((s12.trans s3).trans s4) ?_
                  rw [e7]
                  exact .tup upd_same (.cons (.int _) (.cons (.int _) .nil))
            · rw [decide_eq_false c1]
              exact iteF ⟨s2, next (by simp [c1]), rfl, rfl, rfl, rfl, rfl, rfl⟩
        · obtain ⟨s2, hn2, e0, e1, e3, e4, e5, e2⟩ := inv
          rw [hl, List.take_length] at hn2
          refine ⟨s1.trans s2, ?_, e0, e1, e3, e2⟩
          rw [take_more hpm, List.findSome?_append, hn]
          have e6 : bar1 r now who pm = none := by
            unfold bar1
            rw [hn2]
            rfl
          rw [List.findSome?_cons, e6]
          rfl
    · obtain ⟨s1, hn, _⟩ := inv
      rw [hlz, List.take_length] at hn
      refine k _ _ s1 ?_
      have e : barF r now who ps = none := hn
      rw [e]
      exact .non
end
/-! ### go_to -/
/-- all stands but what lies at a and p -/
def Kept (a p : Addr) (H H' : Hp) : Prop := ∀ b o, H b = some o → b ≠ a → b ≠ p → H' b = some o
theorem Kept.of {a p : Addr} {H H' : Hp} (s : Same H H') : Kept a p H H' := fun b o e _ _ => s b o e
theorem Kept.pre {a p : Addr} {H H1 H' : Hp} (s : Same H H1) (k : Kept a p H1 H') : Kept a p H H' := fun b o e na np => k b o (s b o e) na np
theorem Kept.tups {a p : Addr} {H H' : Hp} (k : Kept a p H H') (ha : ∀ xs, H a ≠ some (.tup xs)) (hp : ∀ xs, H p ≠ some (.tup xs)) : Tups H H' := fun b xs e => k b _ e (fun z => ha xs (z ▸ e)) fun z => hp xs (z ▸ e)
theorem Yd.noA {H : Hp} {C a p : Addr} {r : Rules} {t : Tree} {now : List Hold} {past : List (List Hold)} (h : Yd H C a p r t now past) : ∀ xs, H a ≠ some (.tup xs) := fun xs e => by
  obtain ⟨dx, g, ru, tr, n, m, ps, h1, h2, h3, h4, h5, h6, h7⟩ := h
  rw [h1] at e
  cases e
theorem Yd.noP {H : Hp} {C a p : Addr} {r : Rules} {t : Tree} {now : List Hold} {past : List (List Hold)} (h : Yd H C a p r t now past) : ∀ xs, H p ≠ some (.tup xs) := fun xs e => by
  obtain ⟨dx, g, ru, tr, n, m, ps, h1, h2, h3, h4, h5, h6, h7⟩ := h
  rw [h6] at e
  cases e
theorem tupd_past (past : List (List Hold)) : tupdAll (past.map cHolds) = true := tupdAll_map tupd_holds past
abbrev mGoTo : Stmt := inClass (top 48) 12
theorem sc_mGoTo : FnScope ["self", "holds"] ["self", "holds"] (defScope mGoTo) := ⟨rfl, rfl, rfl, by decide +kernel, rfl, by decide +kernel, by decide +kernel⟩
def spGoTo (C : Addr) : Sp := fun vs H Q _ => ∃ (a p : Addr) (r : Rules) (t : Tree) (now : List Hold) (past : List (List Hold)) (v : V) (hs : List Hold), vs = [.ref a, v] ∧ Yd H C a p r t now past ∧ Is H v (cHolds hs) ∧ HoldsOk r t now ∧ HoldsOk r t hs ∧ TreeOk t ∧ past.length < 999 ∧
  ∀ H', Yd H' C a p r t hs (past ++ [now]) → Kept a p H H' → Q (.int ((past.length : Int) + 1)) H'
section
variable {P : Program} {w : World} {K : PySem.W.Frag} {mg : Str → Option Value} {base : Heap} {C : Addr}
theorem ok_mGoTo (F : Free mg) (Y : Yc K C) (D : Mt K C "go_to" "Yard.go_to" mGoTo) (cC : C8.Cal P w K mg base 1 "changes" spChanges []) : MetG P w K mg base C8.CX0 2 C "go_to" (spGoTo C) := by
  refine metG_of Y D sc_mGoTo (fun _ _ _ _ _ _ us hl => match us, hl with | [_, _], _ => rfl) (fun vs H Q E h => ?_) (fun f cdv A' outer s H vs Q E hr h => ?_)
  · obtain ⟨a, p, r, t, now, past, v, hs, rfl, _⟩ := h
    rfl
  · obtain ⟨a, p, r, t, now, past, v, hs, rfl, hy, hv, ho, hg, hT, hlt, k⟩ := h
    refine ⟨_, pss_cons (ps_expr (pe_bm PySem.F.plainAttrs_list PySem.F.slot_list_append PySem.F.type_list_append mt_append (pe_fld (pv 0) rfl) (pa_cons (pe_fld (pv 0) rfl) pa_nil)))
      (pss_cons (ps_fld (pv 0) (C8.pe_c cC hr (by decide) (by rfl) (pa_cons (pe_fld (pv 0) rfl) (pa_cons (pv 1) pa_nil))) rfl)
      (pss_cons (ps_fld (pv 0) (pv 1) rfl)
      (pss_one (ps_ret (pe_callB callLen (by rfl) F.len PySem.boot_len (pa_cons (pe_fld (pv 0) rfl) pa_nil)))))), ?_⟩
    have nA := hy.noA
    have nP := hy.noP
    obtain ⟨dx, g, ru, tr, n, mv, ps, h1, h2, h3, h4, h5, h6, h7⟩ := id hy
    have hl := h7.length
    rw [List.length_map] at hl
    have nap : a ≠ p := ne_of h1 h6 (by intro z; cases z)
    have hgT : g ≠ a := fun e => nA _ (e ▸ h2)
    refine ⟨_, rfl, a, C, dx, _, _, rfl, h1, Y.cls, Y.past, rfl, .inl ⟨rfl, _, .of h6⟩, _, rfl, a, C, dx, _, _, rfl, h1, Y.cls, Y.now, rfl, p, ps, n, rfl, rfl, h6, lt1000 (by omega), ?_⟩
    -- behind the append
    have t1 : Tups H (upd H p (.lst (ps ++ [n]))) := fun c o e => by
      rw [upd_ne (fun z => nP _ (z ▸ e))]
      exact e
    have a1 : upd H p (.lst (ps ++ [n])) a = some (.ins C dx [("ground", .ref g), ("now", n), ("past", .ref p), ("moved", mv)]) := by rw [upd_ne nap]; exact h1
    refine ⟨_, rfl, a, C, dx, _, _, rfl, a1, Y.cls, Y.now, rfl, _, rfl, n, v, r, t, now, hs, rfl, h5.tups t1 (tupd_holds _), hv.tups t1 (tupd_holds _), ho, hg, hT, fun x H1 s1 => ?_⟩
    refine ⟨_, rfl, a, C, dx, _, rfl, s1 _ _ a1, Y.cls, Y.moved, (by show 4 < 1000; decide), ?_⟩
    refine ⟨_, rfl, _, rfl, a, C, dx, _, rfl, upd_same, Y.cls, Y.now, (by show 4 < 1000; decide), ?_⟩
    rw [upd_upd]
    have p1 : H1 p = some (.lst (ps ++ [n])) := s1 _ _ upd_same
    have tF : Tups H (upd H1 a (.ins C dx [("ground", .ref g), ("now", v), ("past", .ref p), ("moved", x)])) := fun c o e => by
      rw [upd_ne (fun z => nA _ (z ▸ e))]
      exact s1 _ _ (t1 _ _ e)
    refine ⟨_, rfl, a, C, dx, _, _, rfl, upd_same, Y.cls, Y.past, rfl, p, _, rfl, .inr (by rw [upd_ne (Ne.symm nap)]; exact p1), ?_⟩
    rw [List.length_append, hl]
    refine k _ ⟨dx, g, ru, tr, v, x, ps ++ [n], upd_same, tF _ _ h2, h3.tups tF (tupd_rules _), h4.tups tF (tupd_tree _), hv.tups tF (tupd_holds _), by rw [upd_ne (Ne.symm nap)]; exact p1, ?_⟩ (fun b o e na np => ?_)
    · rw [List.map_append]
      exact (IsAll.tups tF h7 (tupd_past _)).append (.one (h5.tups tF (tupd_holds _)))
    · rw [upd_ne na]
      refine s1 _ _ ?_
      rw [upd_ne np]
      exact e
end
end HM
/-! The yard's deeds. -/
namespace HM
open PySem PySem.Spec PyProof.Rows L2
theorem passX {X : Cx} {W : WX} {E : XK} (tk : Takes X W) (h : ∀ c d σ H, E c d H → W c d σ H) : Passes (L2.CX X.prog X.w) X E := fun pins σ H s e s' I c => passes_call tk h pins σ H s e s' I c
/-- what came of a mode that is wished for -/
def GiveP (A : EA) (C a p : Addr) (r : Rules) (t : Tree) (now : List Hold) (past : List (List Hold)) (who x : Int) (m : Mode) (H : Hp) (Q : VK) (E : XK) : Prop :=
  match barF r now who (raisedL t (tabOf now) who x m) with
  | some q => Out E H A.barred [("other", .int q.2), ("thing", .int q.1)]
  | none => ∀ hs H', Fair r t hs → (∀ i ∈ m.1, i ∈ mayL t hs who x) → Yd H' C a p r t hs (past ++ [now]) → Kept a p H H' → Q (.int ((past.length : Int) + 1)) H'
theorem GiveP.pre {A : EA} {C a p : Addr} {r : Rules} {t : Tree} {now : List Hold} {past : List (List Hold)} {who x : Int} {m : Mode} {H H1 : Hp} {Q : VK} {E : XK} (h : GiveP A C a p r t now past who x m H Q E) (s : Same H H1) : GiveP A C a p r t now past who x m H1 Q E := by
  unfold GiveP at h ⊢
  split at h
  · exact h.same s
  · exact fun hs H' f g y k => h hs H' f g y (Kept.pre s k)
abbrev mGive : Stmt := inClass (top 48) 13
theorem sc_mGive : FnScope ["self", "holder", "thing", "mode", "pairs", "found", "known", "place", "own"] ["self", "holder", "thing", "mode"] (defScope mGive) := ⟨rfl, rfl, rfl, by decide +kernel, rfl, by decide +kernel, by decide +kernel⟩
def spGive (A : EA) (C : Addr) : Sp := fun vs H Q E => ∃ (a p : Addr) (r : Rules) (t : Tree) (now : List Hold) (past : List (List Hold)) (who x : Int) (v : V) (m : Mode), vs = [.ref a, .int who, .int x, v] ∧ Yd H C a p r t now past ∧ Fair r t now ∧ RuOk r ∧ TreeOk t ∧ (0 ≤ who ∧ who < 4) ∧ InT t x ∧ Is H v (cMode m) ∧ ModeOk r.1 m ∧ past.length < 999 ∧ GiveP A C a p r t now past who x m H Q E
theorem raised_modes {r : Rules} {t : Tree} {now : List Hold} (ho : HoldsOk r t now) {who x : Int} {m : Mode} (hm : ModeOk r.1 m) : ∀ q ∈ raisedL t (tabOf now) who x m, ModeOk r.1 q.2 := fun q hq => by
  obtain ⟨y, _, rfl⟩ := List.mem_map.mp hq
  exact joined_mode (oldM_mode ho who y) (ownM_mode hm x y)
section
variable {P : Program} {w : World} {K : PySem.W.Frag} {mg : Str → Option Value} {base : Heap} {C : Addr} {A : EA}
theorem ok_mGive (Y : Yc K C) (R : Ers P w K mg base A) (D : Mt K C "give" "Yard.give" mGive) (cRa : MetG P w K mg base C8.CX0 3 C "raised" (spRaised C)) (cB : MetG P w K mg base C8.CX0 5 C "bar" (spBar C)) (cT : C8.Cal P w K mg base 1 "table_of" spTableOf []) (cH : C8.Cal P w K mg base 1 "holds_of" spHoldsOf []) (cG : MetG P w K mg base C8.CX0 2 C "go_to" (spGoTo C)) : MetG P w K mg base (L2.CX P w) 6 C "give" (spGive A C) := by
  refine metG_of Y D sc_mGive (fun _ _ _ _ _ _ us hl => match us, hl with | [_, _, _, _], _ => rfl) (fun vs H Q E h => ?_) (fun f cdv A' outer s H vs Q E hr h => ?_)
  · obtain ⟨a, p, r, t, now, past, who, x, v, m, rfl, _⟩ := h
    rfl
  · obtain ⟨a, p, r, t, now, past, who, x, v, m, rfl, hy, hF, hR, hT, hw, hx, hv, hm, hp, k⟩ := h
    refine ⟨_, pss_cons (ps_set (i := 4) sc_mGive.nd rfl (Or.inl rfl) (pe_mg (E := C8.E0) cRa hr (by decide) C8.pass0 (pv 0) (pa_cons (pv 1) (pa_cons (pv 2) (pa_cons (pv 3) pa_nil)))))
      (pss_cons (ps_set (i := 5) sc_mGive.nd rfl (Or.inl rfl) (pe_mg (E := C8.E0) cB hr (by decide) C8.pass0 (pv 0) (pa_cons (pv 1) (pa_cons (pv 4) pa_nil))))
      (pss_cons (ps_if (pt_cmp (pc_notN (pv 5))) (pss_one (ps_raise rfl (takes_of rfl rfl rfl rfl) (pmk_2 R.barred (hr.mono (by decide)) (by rfl) (pe_ix ixT (pv 5) pe_int (fun _ _ => rfl)) (pe_ix ixT (pv 5) pe_int (fun _ _ => rfl))))) pss_nil)
      (pss_cons (ps_set (i := 6) sc_mGive.nd rfl (Or.inl rfl) (C8.pe_c cT hr (by decide) (by rfl) (pa_cons (pe_fld (pv 0) rfl) pa_nil)))
      (pss_cons (ps_for PassesOwn.leaving rfl (pi_list (pv 4)) (pgT rfl (pgs_cons (pg_name (i := 7) sc_mGive.nd rfl (Or.inl rfl)) (pgs_cons (pg_name (i := 8) sc_mGive.nd rfl (Or.inl rfl)) pgs_nil)))
        (pss_one (ps_dput (hu_of hr) (pv 6) (pe_tup (pa_cons (pv 1) (pa_cons (pv 7) pa_nil))) (pv 8) rfl)))
      (pss_one (ps_ret (pe_mg (E := C8.E0) cG hr (by decide) C8.pass0 (pv 0) (pa_cons (C8.pe_c cH hr (by decide) (by rfl) (pa_cons (pv 6) pa_nil)) pa_nil)))))))), ?_⟩
    have nA := hy.noA
    have nP := hy.noP
    obtain ⟨dx, g, ru, tr, n, mv, pss, h1, h2, h3, h4, h5, h6, h7⟩ := id hy
    have hlen := hF.ok.len hT
    refine ⟨_, rfl, a, dx, _, rfl, h1, rfl, _, rfl, _, rfl, _, rfl, a, p, r, t, now, past, who, x, v, m, rfl, hy, hF.ok, hR, hT, hx, hv, hm, fun d H1 s1 nd hd => ?_⟩
    refine ⟨_, rfl, a, dx, _, rfl, s1 _ _ h1, rfl, _, rfl, _, rfl, a, p, r, t, now, past, who, d, _, rfl, hy.same s1, hF.ok, hR, hT, hd, raised_modes hF.ok hm, fun u H2 s2 hu => ?_⟩
    have s12 := s1.trans s2
    have k2 := GiveP.pre k s12
    refine ⟨_, rfl, _, rfl, ?_⟩
    unfold GiveP at k2
    cases eb : barF r now who (raisedL t (tabOf now) who x m) with
    | some q =>
      rw [eb] at hu k2
      obtain ⟨b, rfl, hb⟩ := (show Is H2 u (cPair q) from hu).pair
      refine iteT ?_
      exact ⟨_, rfl, b, _, 0, _, rfl, rfl, hb, atI_nat (j := 0) rfl, _, rfl, b, _, 1, _, rfl, rfl, hb, atI_nat (j := 1) rfl, mko2 k2⟩
    | none =>
      rw [eb] at hu k2
      obtain rfl := (show Is H2 u .none from hu).non_inv
      refine iteF ?_
      refine ⟨_, rfl, a, C, dx, _, _, rfl, s12 _ _ h1, Y.cls, Y.now, rfl, n, now, rfl, h5.same s12, by omega, hF.ok.nodup, fun kn kvs H3 s3 nkn hkn htab => ?_⟩
      obtain ⟨_, zs, e, hd1, izs⟩ := hd.lst_inv
      cases e
      have s23 := s2.trans s3
      have s13 := s12.trans s3
      have izs3 := IsAll.same s23 izs
      have hlz := izs3.length
      rw [List.length_map] at hlz
      have h13 := aroundL_len t x
      have hrl : (raisedL t (tabOf now) who x m).length = (aroundL t x).length := List.length_map ..
      have ndk : d ≠ kn := fun e => by
        subst e
        rw [s2 _ _ hd1] at nkn
        cases nkn
      refine ⟨_, rfl, d, rfl, ⟨_, .of (s23 _ _ hd1)⟩, for_list (K := K) (a := d) (xs := zs) (fun i σ' H' => Same H2 H' ∧ H' d = some (.lst zs) ∧ σ'[0]? = some (some (.ref a)) ∧ σ'[1]? = some (some (.int who)) ∧ σ'[6]? = some (some (.ref kn)) ∧ σ'.length = 9 ∧ ∃ kvs', H' kn = some (.dT kvs') ∧ TabR H' kvs' (putAll who ((raisedL t (tabOf now) who x m).take i) (tabOf now)) ∧ kvs'.length ≤ now.length + i) ⟨s3, s23 _ _ hd1, rfl, rfl, rfl, rfl, kvs, hkn, htab, ?_⟩ (fun i σ' H' _ z => .of z.2.1) (fun i z σ' H' hz inv => ?_) (fun σ' H' inv => ?_)⟩
      · have e := htab.length
        unfold tabOf at e
        rw [List.length_map] at e
        omega
      · obtain ⟨w1, hdz, e0, e1, e3, e2, kvs', hk', ht', hkl⟩ := inv
        obtain ⟨pm, hpm, ipm⟩ := (IsAll.same s2 izs).map_of hz
        obtain ⟨c, mo, rfl, hc, imo⟩ := ipm.pm
        have hlt := lt_get hpm
        match σ', e2, e0, e1, e3 with
        | [_, _, _, _, _, _, _, _, _], _, e0, e1, e3 =>
          cases e0
          cases e1
          cases e3
          refine ⟨c, _, rfl, w1 _ _ hc, rfl, _, _, rfl, _, _, rfl, rfl, ?_⟩
          refine ⟨_, rfl, _, rfl, _, rfl, _, rfl, (by show 2 ≤ sizeLine; decide), fun kp hkp => ?_⟩
          have u1 := Same.new (o := HO.tup [.int who, .int pm.1]) hkp
          have hk1 := u1 _ _ hk'
          have tp : Tups H' (upd (upd H' kp (.tup [.int who, .int pm.1])) kn (.dT (putK kvs' (kk (who, pm.1)) mo))) := fun c o e => by
            rw [upd_ne (fun z => by rw [z, hk'] at e; cases e)]
            exact u1 _ _ e
          refine ⟨kn, _, rfl, DPut.t (k := kk (who, pm.1)) hk1 upd_same (lt1000 (by omega)), ?_⟩
          refine ⟨(w1.trans u1).set nkn, by rw [upd_ne ndk]; exact u1 _ _ hdz, rfl, rfl, rfl, rfl, _, upd_same, ?_, ?_⟩
          · have e : putAll who ((raisedL t (tabOf now) who x m).take (i + 1)) (tabOf now) = putT (putAll who ((raisedL t (tabOf now) who x m).take i) (tabOf now)) (who, pm.1) pm.2 := by
              unfold putAll
              rw [take_more hpm, List.foldl_append]
              rfl
            rw [e]
            exact (ht'.tups tp).put ((imo.same w1).tups tp (tupd_mode _))
          · have := length_putK kvs' (kk (who, pm.1)) mo
            omega
      · obtain ⟨w1, hdz, e0, e1, e3, e2, kvs', hk', ht', hkl⟩ := inv
        rw [hlz, List.take_length] at ht'
        have s1' := s12.trans w1
        match σ', e2, e0, e1, e3 with
        | [_, _, _, _, _, _, _, _, _], _, e0, e1, e3 =>
          cases e0
          cases e1
          cases e3
          have nd0 : ((tabOf now).map (·.1)).Nodup := by
            rw [tabOf_keys]
            exact hF.ok.nodup
          have ndT := putAll_nodup who (raisedL t (tabOf now) who x m) nd0
          have hin : ∀ q ∈ (putAll who (raisedL t (tabOf now) who x m) (tabOf now)).map (·.1), (0 ≤ q.1 ∧ q.1 < 4) ∧ InT t q.2 := fun q hq => by
            rcases putAll_mem who _ hq with ⟨c1, c2⟩ | c1
            · rw [c1]
              refine ⟨hw, ?_⟩
              unfold raisedL at c2
              rw [List.map_map] at c2
              obtain ⟨y, hy1, e⟩ := List.mem_map.mp c2
              rw [← e]
              exact around_in hT hx hy1
            · rw [tabOf_keys] at c1
              obtain ⟨h, hh, e⟩ := List.mem_map.mp c1
              rw [← e]
              exact ⟨(hF.ok.ok h hh).who, (hF.ok.ok h hh).at_⟩
          have hhi := hT.hi
          have hl48 : (putAll who (raisedL t (tabOf now) who x m) (tabOf now)).length ≤ 48 := by
            have q := nodup_bound 48 (((putAll who (raisedL t (tabOf now) who x m) (tabOf now)).map (·.1)).map c12) ?_ ?_ ?_
            · rw [List.length_map, List.length_map] at q
              exact q
            · unfold List.Nodup
              rw [List.pairwise_map]
              refine List.Pairwise.imp_of_mem (fun {x y} hx hy hne e => hne ?_) ndT
              obtain ⟨a1, a2, a3⟩ := hin x hx
              obtain ⟨b1, b2, b3⟩ := hin y hy
              unfold c12 at e
              exact Prod.ext (by omega) (by omega)
            · intro i hi
              obtain ⟨y, hy1, rfl⟩ := List.mem_map.mp hi
              obtain ⟨a1, a2, a3⟩ := hin y hy1
              unfold c12
              omega
            · intro i hi
              obtain ⟨y, hy1, rfl⟩ := List.mem_map.mp hi
              obtain ⟨a1, a2, a3⟩ := hin y hy1
              unfold c12
              omega
          refine ⟨_, rfl, a, dx, _, rfl, s1' _ _ h1, rfl, _, rfl, kn, kvs', _, rfl, hk', ht', ndT, by omega, fun q hq => ?_, fun hs hv2 H4 hup hperm hget w2 hhs => ?_⟩
          · obtain ⟨a1, a2, a3⟩ := hin q hq
            exact ⟨⟨a1.1, by omega⟩, a2, by omega⟩
          · obtain ⟨f1, f2⟩ := fair_give hR hT hF hw hx hm eb hup hperm hget
            refine ⟨a, p, r, t, now, past, _, hs, rfl, hy.same (s1'.trans w2), hhs, hF.ok, f1.ok, hT, hp, fun H5 y5 k5 => ?_⟩
            exact k2 hs H5 f1 f2 y5 (Kept.pre (w1.trans w2) k5)
end
end HM
/-! ask, take, leave, undo, may, could, __init__. -/
namespace HM
open PySem PySem.Spec PyProof.Rows L2
/-- the checks of holder and thing, then P -/
def ChkP (A : EA) (t : Tree) (v1 v2 : V) (d1 d2 : PyData) (H : Hp) (E : XK) (P : Int → Int → Prop) : Prop :=
  if isIntB d1 0 3 = true then (if isIntB d2 0 ((t.length : Int) - 1) = true then ∀ who x, d1 = .int who → d2 = .int x → (0 ≤ who ∧ who < 4) → InT t x → P who x else Out E H A.noThing [("thing", v2)]) else Out E H A.noHolder [("holder", v1)]
abbrev mAsk : Stmt := inClass (top 48) 14
abbrev mTake : Stmt := inClass (top 48) 15
abbrev mLeave : Stmt := inClass (top 48) 16
abbrev mUndo : Stmt := inClass (top 48) 17
abbrev mMay : Stmt := inClass (top 48) 18
abbrev mCould : Stmt := inClass (top 48) 19
theorem sc_mAsk : FnScope ["self", "holder", "thing", "act"] ["self", "holder", "thing", "act"] (defScope mAsk) := ⟨rfl, rfl, rfl, by decide +kernel, rfl, by decide +kernel, by decide +kernel⟩
theorem sc_mTake : FnScope ["self", "holder", "thing", "mode"] ["self", "holder", "thing", "mode"] (defScope mTake) := ⟨rfl, rfl, rfl, by decide +kernel, rfl, by decide +kernel, by decide +kernel⟩
theorem sc_mLeave : FnScope ["self", "holder", "rest", "item"] ["self", "holder"] (defScope mLeave) := ⟨rfl, rfl, rfl, by decide +kernel, rfl, by decide +kernel, by decide +kernel⟩
theorem sc_mUndo : FnScope ["self", "before"] ["self"] (defScope mUndo) := ⟨rfl, rfl, rfl, by decide +kernel, rfl, by decide +kernel, by decide +kernel⟩
theorem sc_mMay : FnScope ["self", "holder", "thing"] ["self", "holder", "thing"] (defScope mMay) := ⟨rfl, rfl, rfl, by decide +kernel, rfl, by decide +kernel, by decide +kernel⟩
theorem sc_mCould : FnScope ["self", "holder", "thing", "act"] ["self", "holder", "thing", "act"] (defScope mCould) := ⟨rfl, rfl, rfl, by decide +kernel, rfl, by decide +kernel, by decide +kernel⟩
def AskP (A : EA) (C a p : Addr) (r : Rules) (t : Tree) (now : List Hold) (past : List (List Hold)) (v1 v2 v3 : V) (d1 d2 d3 : PyData) (H : Hp) (Q : VK) (E : XK) : Prop :=
  ChkP A t v1 v2 d1 d2 H E fun who x => if isIntB d3 0 (r.1 - 1) = true then ∀ act, d3 = .int act → 0 ≤ act → act < r.1 → GiveP A C a p r t now past who x ([act], [act]) H Q E else Out E H A.noAct [("act", v3)]
def TakeP (A : EA) (C a p : Addr) (r : Rules) (t : Tree) (now : List Hold) (past : List (List Hold)) (v1 v2 v3 : V) (d1 d2 d3 : PyData) (H : Hp) (Q : VK) (E : XK) : Prop :=
  ChkP A t v1 v2 d1 d2 H E fun who x => if modeB r.1 d3 = true then ∀ m, d3 = cMode m → ModeOk r.1 m → GiveP A C a p r t now past who x m H Q E else Out E H A.badMode [("mode", v3)]
/-- a yard that is fair, and what a deed needs -/
structure YOk (H : Hp) (C a p : Addr) (r : Rules) (t : Tree) (now : List Hold) (past : List (List Hold)) : Prop where
  yd : Yd H C a p r t now past
  fair : Fair r t now
  pasts : ∀ hs ∈ past, Fair r t hs
  ru : RuOk r
  tr : TreeOk t
def spAsk (A : EA) (C : Addr) : Sp := fun vs H Q E => ∃ (a p : Addr) (r : Rules) (t : Tree) (now : List Hold) (past : List (List Hold)) (v1 v2 v3 : V) (d1 d2 d3 : PyData), vs = [.ref a, v1, v2, v3] ∧ YOk H C a p r t now past ∧ past.length ≤ 24 ∧ Is H v1 d1 ∧ Is H v2 d2 ∧ Is H v3 d3 ∧ AskP A C a p r t now past v1 v2 v3 d1 d2 d3 H Q E
def spTake (A : EA) (C : Addr) : Sp := fun vs H Q E => ∃ (a p : Addr) (r : Rules) (t : Tree) (now : List Hold) (past : List (List Hold)) (v1 v2 v3 : V) (d1 d2 d3 : PyData), vs = [.ref a, v1, v2, v3] ∧ YOk H C a p r t now past ∧ past.length ≤ 24 ∧ Is H v1 d1 ∧ Is H v2 d2 ∧ Is H v3 d3 ∧ small d3 = true ∧ TakeP A C a p r t now past v1 v2 v3 d1 d2 d3 H Q E
/-- what came of another deed: an error, or holds that are fair -/
def spLeave (A : EA) (C : Addr) : Sp := fun vs H Q E => ∃ (a p : Addr) (r : Rules) (t : Tree) (now : List Hold) (past : List (List Hold)) (v1 : V) (d1 : PyData), vs = [.ref a, v1] ∧ YOk H C a p r t now past ∧ past.length ≤ 24 ∧ Is H v1 d1 ∧
  Out E H A.noHolder [("holder", v1)] ∧ (∀ i, v1 = .int i → Out E H A.noHold [("holder", .int i)]) ∧ ∀ hs n H', Fair r t hs → Yd H' C a p r t hs (past ++ [now]) → Kept a p H H' → Q (.int n) H'
def spUndo (A : EA) (C : Addr) : Sp := fun vs H Q E => ∃ (a p : Addr) (r : Rules) (t : Tree) (now : List Hold) (past : List (List Hold)), vs = [.ref a] ∧ YOk H C a p r t now past ∧ past.length ≤ 24 ∧
  (∀ H', Same H H' → E (.ref A.nothing) none H') ∧ ∀ hs ps n H', past = ps ++ [hs] → Yd H' C a p r t hs ps → Kept a p H H' → Q (.int n) H'
def spMayM (C : Addr) : Sp := fun vs H Q _ => ∃ (a p : Addr) (r : Rules) (t : Tree) (now : List Hold) (past : List (List Hold)) (who x : Int), vs = [.ref a, .int who, .int x] ∧ YOk H C a p r t now past ∧ (0 ≤ who ∧ who < 4) ∧ InT t x ∧ ∀ u H', Same H H' → Is H' u (cLot (mayL t now who x)) → Q u H'
def spCould (C : Addr) : Sp := fun vs H Q _ => ∃ (a p : Addr) (r : Rules) (t : Tree) (now : List Hold) (past : List (List Hold)) (who x act : Int), vs = [.ref a, .int who, .int x, .int act] ∧ YOk H C a p r t now past ∧ (0 ≤ who ∧ who < 4) ∧ InT t x ∧ (0 ≤ act ∧ act < r.1) ∧
  ∀ u H', Same H H' → Is H' u (cBar (barF r now who (raisedL t (tabOf now) who x ([act], [act])))) → Q u H'
theorem one_mode {n act : Int} (h0 : 0 ≤ act) (h1 : act < n) : ModeOk n ([act], [act]) := by
  have l : LotOk n [act] := ⟨List.pairwise_singleton _ _, fun i hi => by rw [List.mem_singleton.mp hi]; exact h0, fun i hi => by rw [List.mem_singleton.mp hi]; exact h1⟩
  exact ⟨l, l, fun i hi => hi⟩
theorem eqv_past (past : List (List Hold)) : PyData.eqv (.list (past.map cHolds)) (.list []) = past.isEmpty := by
  cases past <;> simp [PyData.eqv, PyData.eqvAll]
theorem shp_past (past : List (List Hold)) : Shp (.list (past.map cHolds)) := by
  refine ⟨?_, ?_⟩
  · have q : ∀ l : List (List Hold), nodictAll (l.map cHolds) = true := fun l => by
      induction l with
      | nil => rfl
      | cons h l ih =>
        show (nodict (cHolds h) && nodictAll (l.map cHolds)) = true
        rw [(shp_holds h).1, ih] <;> rfl
    show nodictAll _ = true
    exact q past
  · have q := depthAll_map depth_holds past
    show PyData.depth (.list _) ≤ 60
    simp only [PyData.depth]
    omega
section
variable {P : Program} {w : World} {K : PySem.W.Frag} {mg : Str → Option Value} {base : Heap} {C : Addr} {A : EA}
theorem ok_mAsk (Y : Yc K C) (D : Mt K C "ask" "Yard.ask" mAsk) (cD : MetG P w K mg base C8.CX0 1 C "check_deeds" (spCheckDeeds C)) (cH : MetG P w K mg base (L2.CX P w) 3 C "check_holder" (spCheckHolder A)) (cT : MetG P w K mg base (L2.CX P w) 3 C "check_thing" (spCheckThing A C)) (cA : MetG P w K mg base (L2.CX P w) 3 C "check_act" (spCheckAct A C)) (cG : MetG P w K mg base (L2.CX P w) 6 C "give" (spGive A C)) : MetG P w K mg base (L2.CX P w) 7 C "ask" (spAsk A C) := by
  refine metG_of Y D sc_mAsk (fun _ _ _ _ _ _ us hl => match us, hl with | [_, _, _, _], _ => rfl) (fun vs H Q E h => ?_) (fun f cdv A' outer s H vs Q E hr h => ?_)
  · obtain ⟨a, p, r, t, now, past, v1, v2, v3, d1, d2, d3, rfl, _⟩ := h
    rfl
  · obtain ⟨a, p, r, t, now, past, v1, v2, v3, d1, d2, d3, rfl, ⟨hy, hF, hP, hR, hT⟩, hp, i1, i2, i3, k⟩ := h
    have px := passX (takes_of (X := cxOf (L2.CX P w) P w K mg base ["self", "holder", "thing", "act"] "Yard.ask" (defScope mAsk) f cdv A' outer s H E) rfl rfl rfl rfl) (fun _ _ _ _ h => h)
    refine ⟨_, pss_cons (ps_expr (pe_mg0 (E := C8.E0) cD hr (by decide) C8.pass0 (pv 0)))
      (pss_cons (ps_expr (pe_mg cH hr (by decide) px (pv 0) (pa_cons (pv 1) pa_nil)))
      (pss_cons (ps_expr (pe_mg cT hr (by decide) px (pv 0) (pa_cons (pv 2) pa_nil)))
      (pss_cons (ps_expr (pe_mg cA hr (by decide) px (pv 0) (pa_cons (pv 3) pa_nil)))
      (pss_one (ps_ret (pe_mg cG hr (by decide) px (pv 0) (pa_cons (pv 1) (pa_cons (pv 2) (pa_cons (pe_tup (pa_cons (pe_tup (pa_cons (pv 3) pa_nil)) (pa_cons (pe_tup (pa_cons (pv 3) pa_nil)) pa_nil))) pa_nil))))))))), ?_⟩
    obtain ⟨dx, g, ru, tr, n, mv, pss, h1, h2, h3, h4, h5, h6, h7⟩ := id hy
    refine ⟨_, rfl, a, dx, _, rfl, h1, rfl, a, p, r, t, now, past, rfl, hy, hp, ?_⟩
    refine ⟨_, rfl, a, dx, _, rfl, h1, rfl, _, rfl, _, v1, d1, rfl, i1, ?_⟩
    unfold AskP ChkP at k
    refine ite2 (fun c1 => ?_) (fun c1 => ?_)
    · rw [if_pos c1] at k
      obtain ⟨who, rfl, w0, w1⟩ := isInt_inv c1
      refine ⟨_, rfl, a, dx, _, rfl, h1, rfl, _, rfl, a, p, r, t, now, past, v2, d2, rfl, hy, i2, ?_⟩
      refine ite2 (fun c2 => ?_) (fun c2 => ?_)
      · rw [if_pos c2] at k
        obtain ⟨x, rfl, x0, x1⟩ := isInt_inv c2
        have hx : InT t x := ⟨x0, by omega⟩
        replace k := k who x rfl rfl ⟨w0, by omega⟩ hx
        dsimp only at k
        refine ⟨_, rfl, a, dx, _, rfl, h1, rfl, _, rfl, a, p, r, t, now, past, v3, d3, rfl, hy, i3, ?_⟩
        refine ite2 (fun c3 => ?_) (fun c3 => ?_)
        · rw [if_pos c3] at k
          obtain ⟨act, rfl, a0, a1⟩ := isInt_inv c3
          have kC := k act rfl a0 (by omega)
          clear k
          obtain rfl := i1.int_inv
          obtain rfl := i2.int_inv
          obtain rfl := i3.int_inv
          refine ⟨_, rfl, a, dx, _, rfl, h1, rfl, _, rfl, _, rfl, _, rfl, (by show 1 ≤ sizeLine; decide), fun e1 he1 => ?_⟩
          have s1 := Same.new (o := HO.tup [.int act]) he1
          refine ⟨_, rfl, (by show 1 ≤ sizeLine; decide), fun e2 he2 => ?_⟩
          have s2 := Same.new (o := HO.tup [.int act]) he2
          refine ⟨(by show 2 ≤ sizeLine; decide), fun e3 he3 => ?_⟩
          have s3 := Same.new (o := HO.tup [.ref e1, .ref e2]) he3
          have s13 := (s1.trans s2).trans s3
          exact ⟨a, p, r, t, now, past, who, x, _, ([act], [act]), rfl, hy.same s13, hF, hR, hT, ⟨w0, by omega⟩, hx, is_mode_mk (m := ([act], [act])) upd_same (s3 _ _ (s2 _ _ upd_same)) (s3 _ _ upd_same), one_mode a0 (by omega), by omega, kC.pre s13⟩
        · rw [if_neg c3] at k
          exact k
      · rw [if_neg c2] at k
        exact k
    · rw [if_neg c1] at k
      exact k
theorem ok_mTake (Y : Yc K C) (R : Ers P w K mg base A) (D : Mt K C "take" "Yard.take" mTake) (pR : PropG P w K mg base 1 C "rules" (spRules C)) (cM : C8.Cal P w K mg base 4 "is_mode" spIsMode []) (cD : MetG P w K mg base C8.CX0 1 C "check_deeds" (spCheckDeeds C)) (cH : MetG P w K mg base (L2.CX P w) 3 C "check_holder" (spCheckHolder A)) (cT : MetG P w K mg base (L2.CX P w) 3 C "check_thing" (spCheckThing A C)) (cG : MetG P w K mg base (L2.CX P w) 6 C "give" (spGive A C)) : MetG P w K mg base (L2.CX P w) 7 C "take" (spTake A C) := by
  refine metG_of Y D sc_mTake (fun _ _ _ _ _ _ us hl => match us, hl with | [_, _, _, _], _ => rfl) (fun vs H Q E h => ?_) (fun f cdv A' outer s H vs Q E hr h => ?_)
  · obtain ⟨a, p, r, t, now, past, v1, v2, v3, d1, d2, d3, rfl, _⟩ := h
    rfl
  · obtain ⟨a, p, r, t, now, past, v1, v2, v3, d1, d2, d3, rfl, ⟨hy, hF, hP, hR, hT⟩, hp, i1, i2, i3, hz, k⟩ := h
    have px := passX (takes_of (X := cxOf (L2.CX P w) P w K mg base ["self", "holder", "thing", "mode"] "Yard.take" (defScope mTake) f cdv A' outer s H E) rfl rfl rfl rfl) (fun _ _ _ _ h => h)
    refine ⟨_, pss_cons (ps_expr (pe_mg0 (E := C8.E0) cD hr (by decide) C8.pass0 (pv 0)))
      (pss_cons (ps_expr (pe_mg cH hr (by decide) px (pv 0) (pa_cons (pv 1) pa_nil)))
      (pss_cons (ps_expr (pe_mg cT hr (by decide) px (pv 0) (pa_cons (pv 2) pa_nil)))
      (pss_cons (ps_if (pt_not (pt_val (C8.pe_c cM hr (by decide) (by rfl) (pa_cons (pe_pg pR hr (by decide) (pv 0)) (pa_cons (pv 3) pa_nil))))) (pss_one (ps_raise rfl (takes_of rfl rfl rfl rfl) (pmk_1 R.badMode (hr.mono (by decide)) (by rfl) (pv 3)))) pss_nil)
      (pss_one (ps_ret (pe_mg cG hr (by decide) px (pv 0) (pa_cons (pv 1) (pa_cons (pv 2) (pa_cons (pv 3) pa_nil))))))))), ?_⟩
    obtain ⟨dx, g, ru, tr, n, mv, pss, h1, h2, h3, h4, h5, h6, h7⟩ := id hy
    refine ⟨_, rfl, a, dx, _, rfl, h1, rfl, a, p, r, t, now, past, rfl, hy, hp, ?_⟩
    refine ⟨_, rfl, a, dx, _, rfl, h1, rfl, _, rfl, _, v1, d1, rfl, i1, ?_⟩
    unfold TakeP ChkP at k
    refine ite2 (fun c1 => ?_) (fun c1 => ?_)
    · rw [if_pos c1] at k
      obtain ⟨who, rfl, w0, w1⟩ := isInt_inv c1
      refine ⟨_, rfl, a, dx, _, rfl, h1, rfl, _, rfl, a, p, r, t, now, past, v2, d2, rfl, hy, i2, ?_⟩
      refine ite2 (fun c2 => ?_) (fun c2 => ?_)
      · rw [if_pos c2] at k
        obtain ⟨x, rfl, x0, x1⟩ := isInt_inv c2
        have hx : InT t x := ⟨x0, by omega⟩
        replace k := k who x rfl rfl ⟨w0, by omega⟩ hx
        dsimp only at k
        obtain rfl := i1.int_inv
        obtain rfl := i2.int_inv
        refine ⟨_, rfl, a, dx, _, rfl, h1, a, p, r, t, now, past, rfl, hy, fun u hu => ?_⟩
        refine ⟨_, rfl, u, v3, r, d3, rfl, hu, i3, hz, hR.hi, fun H1 s1 => ⟨_, rfl, ?_⟩⟩
        cases c3 : modeB r.1 d3 with
        | true =>
          rw [if_pos c3] at k
          refine iteF ?_
          obtain ⟨m, rfl, hm⟩ := modeB_mode c3
          exact ⟨_, rfl, a, dx, _, rfl, s1 _ _ h1, rfl, _, rfl, _, rfl, _, rfl, a, p, r, t, now, past, who, x, v3, m, rfl, hy.same s1, hF, hR, hT, ⟨w0, by omega⟩, hx, i3.same s1, hm, by omega, (k m rfl hm).pre s1⟩
        | false =>
          rw [if_neg (by rw [c3]; decide)] at k
          refine iteT ?_
          exact ⟨_, rfl, mko1 (k.same s1)⟩
      · rw [if_neg c2] at k
        exact k
    · rw [if_neg c1] at k
      exact k
theorem ok_mMay (Y : Yc K C) (D : Mt K C "may" "Yard.may" mMay) (pT : PropG P w K mg base 1 C "tree" (spTree C)) (cM : C8.Cal P w K mg base 2 "may_holds" spMay []) (cH : MetG P w K mg base (L2.CX P w) 3 C "check_holder" (spCheckHolder A)) (cT : MetG P w K mg base (L2.CX P w) 3 C "check_thing" (spCheckThing A C)) : MetG P w K mg base (L2.CX P w) 4 C "may" (spMayM C) := by
  refine metG_of Y D sc_mMay (fun _ _ _ _ _ _ us hl => match us, hl with | [_, _, _], _ => rfl) (fun vs H Q E h => ?_) (fun f cdv A' outer s H vs Q E hr h => ?_)
  · obtain ⟨a, p, r, t, now, past, who, x, rfl, _⟩ := h
    rfl
  · obtain ⟨a, p, r, t, now, past, who, x, rfl, ⟨hy, hF, hP, hR, hT⟩, hw, hx, k⟩ := h
    have px := passX (takes_of (X := cxOf (L2.CX P w) P w K mg base ["self", "holder", "thing"] "Yard.may" (defScope mMay) f cdv A' outer s H E) rfl rfl rfl rfl) (fun _ _ _ _ h => h)
    refine ⟨_, pss_cons (ps_expr (pe_mg cH hr (by decide) px (pv 0) (pa_cons (pv 1) pa_nil)))
      (pss_cons (ps_expr (pe_mg cT hr (by decide) px (pv 0) (pa_cons (pv 2) pa_nil)))
      (pss_one (ps_ret (C8.pe_c cM hr (by decide) (by rfl) (pa_cons (pe_pg pT hr (by decide) (pv 0)) (pa_cons (pe_fld (pv 0) rfl) (pa_cons (pv 1) (pa_cons (pv 2) pa_nil)))))))), ?_⟩
    obtain ⟨dx, g, ru, tr, n, mv, pss, h1, h2, h3, h4, h5, h6, h7⟩ := id hy
    have hx1 := hx.1
    have hx2 := hx.2
    refine ⟨_, rfl, a, dx, _, rfl, h1, rfl, _, rfl, _, _, .int who, rfl, .int _, ?_⟩
    rw [if_pos (isInt_in hw.1 (by omega))]
    refine ⟨_, rfl, a, dx, _, rfl, h1, rfl, _, rfl, a, p, r, t, now, past, _, .int x, rfl, hy, .int _, ?_⟩
    rw [if_pos (isInt_in hx1 (by omega))]
    refine ⟨_, rfl, a, dx, _, rfl, h1, a, p, r, t, now, past, rfl, hy, fun u hu => ?_⟩
    exact ⟨_, rfl, a, C, dx, _, _, rfl, h1, Y.cls, Y.now, rfl, _, rfl, _, rfl, u, n, r, t, now, who, x, rfl, hu, h5, hF.ok, hR, hT, hx, k⟩
theorem ok_mCould (Y : Yc K C) (D : Mt K C "could" "Yard.could" mCould) (cRa : MetG P w K mg base C8.CX0 3 C "raised" (spRaised C)) (cB : MetG P w K mg base C8.CX0 5 C "bar" (spBar C)) (cH : MetG P w K mg base (L2.CX P w) 3 C "check_holder" (spCheckHolder A)) (cT : MetG P w K mg base (L2.CX P w) 3 C "check_thing" (spCheckThing A C)) (cA : MetG P w K mg base (L2.CX P w) 3 C "check_act" (spCheckAct A C)) : MetG P w K mg base (L2.CX P w) 6 C "could" (spCould C) := by
  refine metG_of Y D sc_mCould (fun _ _ _ _ _ _ us hl => match us, hl with | [_, _, _, _], _ => rfl) (fun vs H Q E h => ?_) (fun f cdv A' outer s H vs Q E hr h => ?_)
  · obtain ⟨a, p, r, t, now, past, who, x, act, rfl, _⟩ := h
    rfl
  · obtain ⟨a, p, r, t, now, past, who, x, act, rfl, ⟨hy, hF, hP, hR, hT⟩, hw, hx, ha, k⟩ := h
    have px := passX (takes_of (X := cxOf (L2.CX P w) P w K mg base ["self", "holder", "thing", "act"] "Yard.could" (defScope mCould) f cdv A' outer s H E) rfl rfl rfl rfl) (fun _ _ _ _ h => h)
    refine ⟨_, pss_cons (ps_expr (pe_mg cH hr (by decide) px (pv 0) (pa_cons (pv 1) pa_nil)))
      (pss_cons (ps_expr (pe_mg cT hr (by decide) px (pv 0) (pa_cons (pv 2) pa_nil)))
      (pss_cons (ps_expr (pe_mg cA hr (by decide) px (pv 0) (pa_cons (pv 3) pa_nil)))
      (pss_one (ps_ret (pe_mg (E := C8.E0) cB hr (by decide) C8.pass0 (pv 0) (pa_cons (pv 1) (pa_cons (pe_mg (E := C8.E0) cRa hr (by decide) C8.pass0 (pv 0) (pa_cons (pv 1) (pa_cons (pv 2) (pa_cons (pe_tup (pa_cons (pe_tup (pa_cons (pv 3) pa_nil)) (pa_cons (pe_tup (pa_cons (pv 3) pa_nil)) pa_nil))) pa_nil)))) pa_nil))))))), ?_⟩
    obtain ⟨dx, g, ru, tr, n, mv, pss, h1, h2, h3, h4, h5, h6, h7⟩ := id hy
    have hx1 := hx.1
    have hx2 := hx.2
    refine ⟨_, rfl, a, dx, _, rfl, h1, rfl, _, rfl, _, _, .int who, rfl, .int _, ?_⟩
    rw [if_pos (isInt_in hw.1 (by omega))]
    refine ⟨_, rfl, a, dx, _, rfl, h1, rfl, _, rfl, a, p, r, t, now, past, _, .int x, rfl, hy, .int _, ?_⟩
    rw [if_pos (isInt_in hx1 (by omega))]
    refine ⟨_, rfl, a, dx, _, rfl, h1, rfl, _, rfl, a, p, r, t, now, past, _, .int act, rfl, hy, .int _, ?_⟩
    rw [if_pos (isInt_in ha.1 (by omega))]
    refine ⟨_, rfl, a, dx, _, rfl, h1, rfl, _, rfl, _, rfl, a, dx, _, rfl, h1, rfl, _, rfl, _, rfl, _, rfl, (by show 1 ≤ sizeLine; decide), fun e1 he1 => ?_⟩
    have s1 := Same.new (o := HO.tup [.int act]) he1
    refine ⟨_, rfl, (by show 1 ≤ sizeLine; decide), fun e2 he2 => ?_⟩
    have s2 := Same.new (o := HO.tup [.int act]) he2
    refine ⟨(by show 2 ≤ sizeLine; decide), fun e3 he3 => ?_⟩
    have s3 := Same.new (o := HO.tup [.ref e1, .ref e2]) he3
    have s13 := (s1.trans s2).trans s3
    have hm := one_mode ha.1 ha.2
    refine ⟨a, p, r, t, now, past, who, x, _, ([act], [act]), rfl, hy.same s13, hF.ok, hR, hT, hx, is_mode_mk (m := ([act], [act])) upd_same (s3 _ _ (s2 _ _ upd_same)) (s3 _ _ upd_same), hm, fun d H4 s4 nd hd => ?_⟩
    exact ⟨a, p, r, t, now, past, who, d, _, rfl, hy.same (s13.trans s4), hF.ok, hR, hT, hd, raised_modes hF.ok hm, fun u H5 s5 hu => k u H5 ((s13.trans s4).trans s5) hu⟩
end
end HM
/-! leave, undo. -/
namespace HM
open PySem PySem.Spec PyProof.Rows L2
theorem filt_len {α : Type} (p : α → Bool) (l : List α) (i : Nat) : ((l.take i).filter p).length ≤ i := by
  refine Nat.le_trans (List.length_filter_le _ _) ?_
  rw [List.length_take]
  omega
theorem IsAll.append_inv {H : Hp} : ∀ {ds es : List PyData} {vs : List V}, IsAll H vs (ds ++ es) → ∃ a b, vs = a ++ b ∧ IsAll H a ds ∧ IsAll H b es
  | [], _, vs, h => ⟨[], vs, rfl, .nil, h⟩
  | d :: ds, es, vs, h => by
    cases h with
    | cons x y =>
      obtain ⟨a, b, rfl, h1, h2⟩ := IsAll.append_inv (ds := ds) y
      exact ⟨_ :: a, b, rfl, .cons x h1, h2⟩
theorem IsAll.one_inv {H : Hp} {d : PyData} {vs : List V} (h : IsAll H vs [d]) : ∃ v, vs = [v] ∧ Is H v d := by
  cases h with
  | cons x y =>
    cases y
    exact ⟨_, rfl, x⟩
section
variable {P : Program} {w : World} {K : PySem.W.Frag} {mg : Str → Option Value} {base : Heap} {C : Addr} {A : EA}
theorem ok_mLeave (F : Free mg) (Y : Yc K C) (R : Ers P w K mg base A) (D : Mt K C "leave" "Yard.leave" mLeave) (cD : MetG P w K mg base C8.CX0 1 C "check_deeds" (spCheckDeeds C)) (cH : MetG P w K mg base (L2.CX P w) 3 C "check_holder" (spCheckHolder A)) (cG : MetG P w K mg base C8.CX0 2 C "go_to" (spGoTo C)) : MetG P w K mg base (L2.CX P w) 5 C "leave" (spLeave A C) := by
  refine metG_of Y D sc_mLeave (fun _ _ _ _ _ _ us hl => match us, hl with | [_, _], _ => rfl) (fun vs H Q E h => ?_) (fun f cdv A' outer s H vs Q E hr h => ?_)
  · obtain ⟨a, p, r, t, now, past, v1, d1, rfl, _⟩ := h
    rfl
  · obtain ⟨a, p, r, t, now, past, v1, d1, rfl, ⟨hy, hF, hP, hR, hT⟩, hp, i1, kO, kN, k⟩ := h
    have px := passX (takes_of (X := cxOf (L2.CX P w) P w K mg base ["self", "holder", "rest", "item"] "Yard.leave" (defScope mLeave) f cdv A' outer s H E) rfl rfl rfl rfl) (fun _ _ _ _ h => h)
    refine ⟨_, pss_cons (ps_expr (pe_mg0 (E := C8.E0) cD hr (by decide) C8.pass0 (pv 0)))
      (pss_cons (ps_expr (pe_mg cH hr (by decide) px (pv 0) (pa_cons (pv 1) pa_nil)))
      (pss_cons (ps_set (i := 2) sc_mLeave.nd rfl (Or.inl rfl) (pe_callTy call_tuple_of (by rfl) F.tuple boot_tuple (pa_cons (pe_lc (own := [("item", 3)]) (g := gName 3) (tt := tTest (tOp rNe (tOp rIxTup (tVar 3) (tC (.int 0))) (tVar 1))) (te := tVar 3) rfl sc_mLeave.nd
        (pi_tup (pe_fld (pv 0) rfl)) (blkOk_by (N := ["self", "holder", "rest", "item"]) (sc := defScope mLeave) (own := [("item", 3)]) (by decide +kernel))
        (fun _ _ _ _ _ => by exact (pg_name (i := 3) sc_mLeave.nd rfl (.inl rfl)))
        (fun _ _ _ _ _ => by exact (pts_one (by exact (pt_cmpR op_ne (by exact (pe_ix ixT (by exact (pv 3)) pe_int (fun _ _ => rfl))) (pv 1) (nomark _)))))
        (fun _ _ _ _ _ => by exact (pv 3))) pa_nil)))
      (pss_cons (ps_if (pt_cmpR op_eq (pe_callB callLen (by rfl) F.len PySem.boot_len (pa_cons (pv 2) pa_nil)) (pe_callB callLen (by rfl) F.len PySem.boot_len (pa_cons (pe_fld (pv 0) rfl) pa_nil)) (nomark _)) (pss_one (ps_raise rfl (takes_of rfl rfl rfl rfl) (pmk_1 R.noHold (hr.mono (by decide)) (by rfl) (pv 1)))) pss_nil)
      (pss_one (ps_ret (pe_mg (E := C8.E0) cG hr (by decide) C8.pass0 (pv 0) (pa_cons (pv 2) pa_nil))))))), ?_⟩
    obtain ⟨dx, g, ru, tr, n, mv, pss, h1, h2, h3, h4, h5, h6, h7⟩ := id hy
    refine ⟨_, rfl, a, dx, _, rfl, h1, rfl, a, p, r, t, now, past, rfl, hy, hp, ?_⟩
    refine ⟨_, rfl, a, dx, _, rfl, h1, rfl, _, rfl, _, v1, d1, rfl, i1, ?_⟩
    refine ite2 (fun c1 => ?_) (fun c1 => ?_)
    · obtain ⟨who, rfl, w0, w1⟩ := isInt_inv c1
      obtain rfl := i1.int_inv
      obtain ⟨b, xs, rfl, hb, ixs⟩ := h5.holds
      have hl := ixs.length
      rw [List.length_map] at hl
      have hlen := hF.ok.len hT
      refine ⟨_, rfl, a, C, dx, _, _, rfl, h1, Y.cls, Y.now, rfl, b, rfl, ⟨_, .of hb⟩, fun L nL => lc_tup (K := K) (a := b) (xs := xs) (fun i H' => Same H H' ∧ ∃ ys, H' L = some (.lst ys) ∧ IsAll H' ys (((now.take i).filter fun h => !decide (h.1 = who)).map cHold)) ⟨Same.new nL, [], upd_same, .nil⟩ (fun i H' _ p => .of (p.1 _ _ hb)) (fun i z H' hz p => ?_) (fun H' p => ?_)⟩
      · obtain ⟨s1, ys, hD, iys⟩ := p
        obtain ⟨h, hh, ih⟩ := ixs.map_of hz
        have hlt := lt_get hz
        obtain ⟨c, m, rfl, hc, im⟩ := ih.hold
        have hc1 := s1 _ _ hc
        refine ⟨rfl, ?_⟩
        refine ⟨_, rfl, c, _, 0, .int h.1, rfl, rfl, hc1, atI_nat (j := 0) rfl, _, rfl, rfl, _, rfl, ?_⟩
        rw [beqI]
        have fl := filt_len (fun h : Hold => !decide (h.1 = who)) now i
        have ef : ((now.take (i + 1)).filter fun h => !decide (h.1 = who)) = ((now.take i).filter fun h => !decide (h.1 = who)) ++ (if h.1 = who then [] else [h]) := by
          rw [take_more hh, List.filter_append]
          congr 1
          by_cases c : h.1 = who
          · rw [List.filter_cons_of_neg (by simpa using c), if_pos c]
            rfl
          · rw [List.filter_cons_of_pos (by simpa using c), if_neg c]
            rfl
        by_cases cw : h.1 = who
        · rw [decide_eq_true cw]
          refine iteF ⟨s1, ys, hD, ?_⟩
          rw [ef, if_pos cw, List.append_nil]
          exact iys
        · rw [decide_eq_false cw]
          refine iteT ?_
          have hly := iys.length
          rw [List.length_map] at hly
          refine ⟨_, rfl, ys, hD, lt1000 (by omega), s1.set nL, _, upd_same, ?_⟩
          have tp : Tups H' (upd H' L (.lst (ys ++ [.ref c]))) := fun q o e => by
            rw [upd_ne (fun z => by rw [z, hD] at e; cases e)]
            exact e
          rw [ef, if_neg cw, List.map_append]
          exact (IsAll.tups tp iys (tupdAll_map tupd_hold _)).append (.one ((ih.same s1).tups tp (tupd_hold _)))
      · obtain ⟨s1, ys, hD, iys⟩ := p
        rw [hl, List.take_length] at iys
        have hfy := iys.length
        rw [List.length_map] at hfy
        refine ⟨L, ys, rfl, .inl ⟨.of hD, fun q nq => ?_⟩⟩
        have s2 := Same.new (o := HO.tup ys) nq
        have s12 := s1.trans s2
        refine ⟨_, rfl, q, ys, rfl, .inl upd_same, ?_⟩
        refine ⟨_, rfl, a, C, dx, _, _, rfl, s12 _ _ h1, Y.cls, Y.now, rfl, b, xs, rfl, .inl (s12 _ _ hb), rfl, _, rfl, ?_⟩
        rw [beqI]
        refine ite2 (fun c2 => ?_) (fun c2 => ?_)
        · exact ⟨_, rfl, mko1 ((kN who rfl).same s12)⟩
        · have fl := fair_leave hF who
          refine ⟨_, rfl, a, dx, _, rfl, s12 _ _ h1, rfl, _, rfl, a, p, r, t, now, past, _, (now.filter fun h => !decide (h.1 = who)), rfl, hy.same s12, .tup upd_same (IsAll.same s2 iys), hF.ok, fl.ok, hT, by omega, fun H5 y5 k5 => ?_⟩
          exact k _ _ H5 fl y5 (Kept.pre s12 k5)
    · exact kO
theorem ok_mUndo (F : Free mg) (Y : Yc K C) (R : Ers P w K mg base A) (D : Mt K C "undo" "Yard.undo" mUndo) (cC : C8.Cal P w K mg base 1 "changes" spChanges []) : MetG P w K mg base (L2.CX P w) 2 C "undo" (spUndo A C) := by
  refine metG_of Y D sc_mUndo (fun _ _ _ _ _ _ us hl => match us, hl with | [_], _ => rfl) (fun vs H Q E h => ?_) (fun f cdv A' outer s H vs Q E hr h => ?_)
  · obtain ⟨a, p, r, t, now, past, rfl, _⟩ := h
    rfl
  · obtain ⟨a, p, r, t, now, past, rfl, ⟨hy, hF, hP, hR, hT⟩, hp, kO, k⟩ := h
    refine ⟨_, pss_cons (ps_if (pt_cmpR (op_eqS hr) (pe_fld (pv 0) rfl) (pe_lst pa_nil) (nomark _)) (pss_one (ps_raise rfl (takes_of rfl rfl rfl rfl) (pmk_0 R.nothing (by rfl)))) pss_nil)
      (pss_cons (ps_set (i := 1) sc_mUndo.nd rfl (Or.inl rfl) (pe_bm0 PySem.F.plainAttrs_list PySem.F.slot_list_pop PySem.F.type_list_pop mt_pop (pe_fld (pv 0) rfl)))
      (pss_cons (ps_fld (pv 0) (C8.pe_c cC hr (by decide) (by rfl) (pa_cons (pe_fld (pv 0) rfl) (pa_cons (pv 1) pa_nil))) rfl)
      (pss_cons (ps_fld (pv 0) (pv 1) rfl)
      (pss_one (ps_ret (pe_callB callLen (by rfl) F.len PySem.boot_len (pa_cons (pe_fld (pv 0) rfl) pa_nil))))))), ?_⟩
    have nA := hy.noA
    have nP := hy.noP
    obtain ⟨dx, g, ru, tr, n, mv, ps, h1, h2, h3, h4, h5, h6, h7⟩ := id hy
    have nap : a ≠ p := ne_of h1 h6 (by intro z; cases z)
    refine ⟨_, rfl, a, C, dx, _, _, rfl, h1, Y.cls, Y.past, rfl, (by show 0 ≤ sizeLine; decide), fun e ne => ?_⟩
    have s0 := Same.new (o := HO.lst ([] : List V)) ne
    refine ⟨_, _, .lst (s0 _ _ h6) (IsAll.same s0 h7), .lst upd_same .nil, shp_past past, ⟨rfl, by decide⟩, _, rfl, ?_⟩
    rw [if_neg (by decide), eqv_past]
    have en := ne_of_none h6 ne
    rcases List.eq_nil_or_concat past with rfl | ⟨pp, hs, rfl⟩
    · refine iteT ?_
      exact kO _ s0
    · rw [List.concat_eq_append] at *
      have ei : (pp ++ [hs]).isEmpty = false := by cases pp <;> rfl
      rw [ei]
      refine iteF ?_
      rw [List.map_append] at h7
      obtain ⟨ys, ls, rfl, iys, ils⟩ := IsAll.append_inv h7
      obtain ⟨y, rfl, iy⟩ := IsAll.one_inv ils
      have hl := iys.length
      rw [List.length_map] at hl
      have h60 := s0 _ _ h6
      have h10 := s0 _ _ h1
      refine ⟨_, rfl, a, C, dx, _, _, rfl, h10, Y.cls, Y.past, rfl, .inl ⟨rfl, _, .of h60⟩, p, _, y, rfl, rfl, h60, by simp, ?_⟩
      rw [List.dropLast_concat]
      have t1 : Tups H (upd (upd H e (.lst [])) p (.lst ys)) := fun c o z => by
        rw [upd_ne (fun z2 => nP _ (z2 ▸ z))]
        exact s0 _ _ z
      have a1 : upd (upd H e (.lst [])) p (.lst ys) a = some (.ins C dx [("ground", .ref g), ("now", n), ("past", .ref p), ("moved", mv)]) := by rw [upd_ne nap]; exact h10
      have hs0 := hP hs (by simp)
      refine ⟨_, rfl, a, C, dx, _, _, rfl, a1, Y.cls, Y.now, rfl, _, rfl, n, y, r, t, now, hs, rfl, h5.tups t1 (tupd_holds _), iy.tups t1 (tupd_holds _), hF.ok, hs0.ok, hT, fun x H1 s1 => ?_⟩
      refine ⟨_, rfl, a, C, dx, _, rfl, s1 _ _ a1, Y.cls, Y.moved, (by show 4 < 1000; decide), ?_⟩
      refine ⟨_, rfl, _, rfl, a, C, dx, _, rfl, upd_same, Y.cls, Y.now, (by show 4 < 1000; decide), ?_⟩
      rw [upd_upd]
      have p1 : H1 p = some (.lst ys) := s1 _ _ upd_same
      have tF : Tups H (upd H1 a (.ins C dx [("ground", .ref g), ("now", y), ("past", .ref p), ("moved", x)])) := fun c o z => by
        rw [upd_ne (fun z2 => nA _ (z2 ▸ z))]
        exact s1 _ _ (t1 _ _ z)
      refine ⟨_, rfl, a, C, dx, _, _, rfl, upd_same, Y.cls, Y.past, rfl, p, _, rfl, .inr (by rw [upd_ne (Ne.symm nap)]; exact p1), ?_⟩
      refine k hs pp _ _ rfl ⟨dx, g, ru, tr, y, x, ys, upd_same, tF _ _ h2, h3.tups tF (tupd_rules _), h4.tups tF (tupd_tree _), iy.tups tF (tupd_holds _), by rw [upd_ne (Ne.symm nap)]; exact p1, IsAll.tups tF iys (tupd_past _)⟩ (fun b o z na np => ?_)
      rw [upd_ne na]
      refine s1 _ _ ?_
      rw [upd_ne np]
      exact s0 _ _ z
end
end HM
/-! A yard is made. -/
namespace HM
open PySem PySem.Spec PyProof.Rows L2
abbrev mInit : Stmt := inClass (top 48) 0
theorem sc_mInit : FnScope ["self", "rules", "tree", "error"] ["self", "rules", "tree"] (defScope mInit) := ⟨rfl, rfl, rfl, by decide +kernel, rfl, by decide +kernel, by decide +kernel⟩
def spInit (C : Addr) : Sp := fun vs H Q _ => ∃ (x dx : Addr) (v1 v2 : V) (r : Rules) (t : Tree), vs = [.ref x, v1, v2] ∧ H x = some (.ins C dx []) ∧ Is H v1 (cRules r) ∧ Is H v2 (cTree t) ∧ RuFull r ∧ TreeOk t ∧
  ∀ p H', Yd H' C x p r t [] [] → H p = none → (∀ c o, H c = some o → c ≠ x → H' c = some o) → Q .non H'
/-- the class can be made by its __init__ -/
structure MkD (K : PySem.W.Frag) (mg : Str → Option Value) (x : Str) (C : Addr) (q : Str) (st : Stmt) : Prop where
  ex : ∃ (f : Addr) (fd : FuncData), Mk K C f ∧ FunD K "__init__" q (defArgs st) (defBody st) (defScope st) [] [] f fd ∧ mg x = some (.ref C)
section
variable {P : Program} {w : World} {K : PySem.W.Frag} {mg : Str → Option Value} {base : Heap} {C : Addr}
theorem ok_mInit (Y : Yc K C) (D : MkD K mg "Yard" C "Yard.__init__" mInit) (cR : C8.Cal P w K mg base 4 "rules_error" spRulesError []) (cT : C8.Cal P w K mg base 2 "tree_error" spTreeError []) : C8.Mak P w K mg base 5 "Yard" C (spInit C) [] := by
  obtain ⟨f, fd, M, F, hm⟩ := D.ex
  refine ⟨f, fd, ["self", "rules", "tree"], [], M, F.ok sc_mInit (fun vs H Q E h => ?_) (fun cdv A' outer s H vs Q E hr h => ?_), hm, F.bindsN (fun _ _ _ _ _ _ us hl => match us, hl with | [_, _, _], _ => rfl), .nil⟩
  · obtain ⟨x, dx, v1, v2, r, t, rfl, _⟩ := h
    rfl
  · obtain ⟨x, dx, v1, v2, r, t, rfl, hx, i1, i2, hR, hT, k⟩ := h
    refine ⟨_, pss_cons (ps_set (i := 3) sc_mInit.nd rfl (Or.inl rfl) (C8.pe_c cR hr (by decide) (by rfl) (pa_cons (pv 1) pa_nil)))
      (pss_cons (ps_if (pt_cmp (pc_notN (pv 3))) (pss_one ps_never) pss_nil)
      (pss_cons (ps_set (i := 3) sc_mInit.nd rfl (Or.inl rfl) (C8.pe_c cT hr (by decide) (by rfl) (pa_cons (pv 2) pa_nil)))
      (pss_cons (ps_if (pt_cmp (pc_notN (pv 3))) (pss_one ps_never) pss_nil)
      (pss_cons (ps_fld (pv 0) (pe_tup (pa_cons (pv 1) (pa_cons (pv 2) pa_nil))) rfl)
      (pss_cons (ps_fld (pv 0) (pe_tup pa_nil) rfl)
      (pss_cons (ps_fld (pv 0) (pe_lst pa_nil) rfl)
      (pss_one (ps_fld (pv 0) (pe_tup pa_nil) rfl)))))))), ?_⟩
    refine ⟨_, rfl, v1, r, rfl, i1, hR, fun H1 s1 => ?_⟩
    refine ⟨_, rfl, _, rfl, iteF ?_⟩
    refine ⟨_, rfl, v2, t, rfl, i2.same s1, hT, fun H2 s2 => ?_⟩
    refine ⟨_, rfl, _, rfl, iteF ?_⟩
    have s12 := s1.trans s2
    have hx2 := s12 _ _ hx
    refine ⟨_, rfl, _, rfl, (by show 2 ≤ sizeLine; decide), fun g ng => ?_⟩
    have s3 := Same.new (o := HO.tup [v1, v2]) ng
    have ngx := ne_of_none hx2 ng
    refine ⟨_, rfl, x, C, dx, _, rfl, s3 _ _ hx2, Y.cls, Y.ground, (by show 0 < 1000; decide), ?_⟩
    refine ⟨(by show 0 ≤ sizeLine; decide), fun e1 n1 => ?_⟩
    refine ⟨_, rfl, x, C, dx, [("ground", .ref g)], rfl, ?_, Y.cls, Y.now, (by show 1 < 1000; decide), ?_⟩
    · rw [upd_ne (fun z => by rw [← z, upd_same] at n1; cases n1)]
      exact upd_same
    refine ⟨(by show 0 ≤ sizeLine; decide), fun p np => ?_⟩
    refine ⟨_, rfl, x, C, dx, [("ground", .ref g), ("now", .ref e1)], rfl, ?_, Y.cls, Y.past, (by show 2 < 1000; decide), ?_⟩
    · rw [upd_ne (fun z => by rw [← z, upd_same] at np; cases np)]
      exact upd_same
    refine ⟨(by show 0 ≤ sizeLine; decide), fun e2 n2 => ?_⟩
    refine ⟨_, rfl, x, C, dx, [("ground", .ref g), ("now", .ref e1), ("past", .ref p)], rfl, ?_, Y.cls, Y.moved, (by show 3 < 1000; decide), ?_⟩
    · rw [upd_ne (fun z => by rw [← z, upd_same] at n2; cases n2)]
      exact upd_same
    have x1 : e1 ≠ x := fun z => by rw [z, upd_same] at n1; cases n1
    have x2 : p ≠ x := fun z => by rw [z, upd_same] at np; cases np
    have x3 : e2 ≠ x := fun z => by rw [z, upd_same] at n2; cases n2
    have old : ∀ c o, H c = some o → c ≠ x → (upd (upd (upd (upd (upd (upd (upd (upd H2 g (.tup [v1, v2])) x (.ins C dx [("ground", .ref g)])) e1 (.tup [])) x (.ins C dx [("ground", .ref g), ("now", .ref e1)])) p (.lst [])) x (.ins C dx [("ground", .ref g), ("now", .ref e1), ("past", .ref p)])) e2 (.tup [])) x (.ins C dx [("ground", .ref g), ("now", .ref e1), ("past", .ref p), ("moved", .ref e2)])) c = some o := fun c o e n => by
      have q1 := s3 _ _ (s12 _ _ e)
      rw [upd_ne n]
      refine Same.new n2 _ _ ?_
      rw [upd_ne n]
      refine Same.new np _ _ ?_
      rw [upd_ne n]
      refine Same.new n1 _ _ ?_
      rw [upd_ne n]
      exact q1
    have tp : Tups H (upd (upd (upd (upd (upd (upd (upd (upd H2 g (.tup [v1, v2])) x (.ins C dx [("ground", .ref g)])) e1 (.tup [])) x (.ins C dx [("ground", .ref g), ("now", .ref e1)])) p (.lst [])) x (.ins C dx [("ground", .ref g), ("now", .ref e1), ("past", .ref p)])) e2 (.tup [])) x (.ins C dx [("ground", .ref g), ("now", .ref e1), ("past", .ref p), ("moved", .ref e2)])) := fun c xs e => old c _ e fun z => by rw [z, hx] at e; cases e
    refine k p _ ⟨dx, g, v1, v2, .ref e1, .ref e2, [], upd_same, ?_, i1.tups tp (tupd_rules _), i2.tups tp (tupd_tree _), .tup ?_ .nil, ?_, .nil⟩ ?_ old
    · rw [upd_ne (Ne.symm ngx)]
      refine Same.new n2 _ _ ?_
      rw [upd_ne (Ne.symm ngx)]
      refine Same.new np _ _ ?_
      rw [upd_ne (Ne.symm ngx)]
      refine Same.new n1 _ _ ?_
      rw [upd_ne (Ne.symm ngx), upd_same]
    · rw [upd_ne x1]
      refine Same.new n2 _ _ ?_
      rw [upd_ne x1]
      refine Same.new np _ _ ?_
      rw [upd_ne x1, upd_same]
    · rw [upd_ne x2]
      refine Same.new n2 _ _ ?_
      rw [upd_ne x2, upd_same]
    · cases e : H p with
      | none => rfl
      | some o =>
        by_cases c : p = x
        · exact absurd c x2
        · rw [upd_ne c] at np
          rw [Same.new n1 _ _ (by rw [upd_ne c]; exact s3 _ _ (s12 _ _ e))] at np
          cases np
end
end HM
/-! The bag of numbers: made, drawn from. -/
namespace HM
open PySem PySem.Spec PyProof.Rows L2
theorem boot_intN : bootBuiltins "int" = some (.type "int") := by decide +kernel
theorem boot_absN : bootBuiltins "abs" = some (.builtin "abs") := by decide +kernel
/-- the bag: three whole numbers -/
def Bag (H : Hp) (b : Addr) : Prop := ∃ g s n : Int, H b = some (.lst [.int g, .int s, .int n])
/-- all stands but what lies at b -/
def KB (b : Addr) (H H' : Hp) : Prop := ∀ c o, H c = some o → c ≠ b → H' c = some o
theorem KB.refl (b : Addr) (H : Hp) : KB b H H := fun _ _ e _ => e
theorem KB.trans {b : Addr} {H H1 H2 : Hp} (h : KB b H H1) (k : KB b H1 H2) : KB b H H2 := fun c o e n => k c o (h c o e n) n
theorem KB.of {b : Addr} {H H' : Hp} (s : Same H H') : KB b H H' := fun c o e _ => s c o e
theorem KB.put {b : Addr} {H : Hp} (o : HO) : KB b H (upd H b o) := fun c u e n => by rw [upd_ne n]; exact e
theorem KB.tups {b : Addr} {H H' : Hp} (h : KB b H H') (hb : Bag H b) : Tups H H' := fun c xs e => h c _ e fun z => by
  obtain ⟨g, s, n, q⟩ := hb
  rw [z, q] at e
  cases e
abbrev sBag : Stmt := top 50
theorem sc_bag : FnScope ["_law_script", "_law_great", "_law_small", "_law_cell"] ["_law_script"] (defScope sBag) := ⟨rfl, rfl, rfl, by decide +kernel, rfl, by decide +kernel, by decide +kernel⟩
def spBag (K : PySem.W.Frag) : Sp := fun vs H Q _ => ∃ (a : Addr) (ns : List Int), vs = [.ref a] ∧ SqL K H a (ns.map V.int) ∧ ∀ b H', Same H H' → H b = none → Bag H' b → Q (.ref b) H'
abbrev sDraw : Stmt := top 51
theorem sc_draw : FnScope ["_law_bag_here", "_law_limit", "_law_digit", "_law_mixed"] ["_law_bag_here", "_law_limit"] (defScope sDraw) := ⟨rfl, rfl, rfl, by decide +kernel, rfl, by decide +kernel, by decide +kernel⟩
def spDraw : Sp := fun vs H Q _ => ∃ (b : Addr) (lim : Int), vs = [.ref b, .int lim] ∧ Bag H b ∧ 0 < lim ∧ lim < 1000 ∧ ∀ r H', 0 ≤ r → r < lim → KB b H H' → Bag H' b → (∀ c, H c = none → H' c = none) → Q (.int r) H'
section
variable {P : Program} {w : World} {K : PySem.W.Frag} {mg : Str → Option Value} {base : Heap}
theorem ok_bag (F : Free mg) (D : Dn K mg "_law_bag" sBag) : C8.Cal P w K mg base 1 "_law_bag" (spBag K) [] := by
  refine cal_of D sc_bag (fun _ _ _ _ _ _ us hl => match us, hl with | [_], _ => rfl) (fun vs H Q E h => ?_) (fun f cdv A outer s H vs Q E hr h => ?_)
  · obtain ⟨a, ns, rfl, _⟩ := h
    rfl
  · obtain ⟨a, ns, rfl, ha, k⟩ := h
    refine ⟨_, pss_cons (ps_par (i := 1) (j := 2) rfl sc_bag.nd rfl rfl (by decide) rfl rfl (pa_cons pe_int (pa_cons (pe_op op_add pe_int (pe_op op_mul pe_int (pe_callB call_len_seq (by rfl) F.len PySem.boot_len (pa_cons (pv 0) pa_nil)))) pa_nil)) rfl)
      (pss_cons (ps_for PassesOwn.never rfl (pi_list (pe_slice sl_list (pv 0) po_none (po_some pe_int))) (pg_name (i := 3) sc_bag.nd rfl (Or.inl rfl))
        (pss_one (ps_if (pt_cmpR op_ge (pv 3) (pe_op op_pow pe_int pe_int) (nomark _))
          (pss_one (ps_set (i := 1) sc_bag.nd rfl (Or.inl rfl) (pe_op op_sub (pe_op op_add (pe_op op_mul (pv 1) pe_int) (pv 3)) (pe_op op_pow pe_int pe_int))))
          (pss_cons (ps_set (i := 2) sc_bag.nd rfl (Or.inl rfl) (pe_op op_add (pe_op op_add (pe_op op_mul (pv 2) pe_int) (pe_op op_mul pe_int (pe_callB call_abs (by rfl) F.abs boot_absN (pa_cons (pv 3) pa_nil)))) (pe_callTy call_int1 (by rfl) F.int boot_intN (pa_cons (pe_cmpR op_lt (pv 3) pe_int (nomark _)) pa_nil))))
          (pss_one (ps_set (i := 2) sc_bag.nd rfl (Or.inl rfl) (pe_op op_mod (pe_callTy call_int1 (by rfl) F.int boot_intN (pa_cons (pv 2) pa_nil)) pe_int)))))))
      (pss_one (ps_ret (pe_lst (pa_cons (pv 1) (pa_cons (pv 2) (pa_cons pe_int pa_nil))))))), ?_⟩
    refine ⟨_, rfl, a, _, rfl, .inl ha, _, _, rfl, rfl, .inl ⟨by decide, by decide⟩, _, _, rfl, rfl, _, _, rfl, ?_⟩
    refine ⟨_, rfl, _, rfl, a, _, rfl, ha, fun q nq => ?_⟩
    have s0 := Same.new (o := HO.lst (cutV (ns.map V.int) none (some 63))) nq
    have hc : ∀ v ∈ cutV (ns.map V.int) none (some 63), ∃ i : Int, v = .int i := fun v hv => by
      unfold cutV at hv
      obtain ⟨i, _, e⟩ := List.mem_map.mp (List.mem_of_mem_drop (List.mem_of_mem_take hv))
      exact ⟨i, e.symm⟩
    refine ⟨q, rfl, ⟨_, .inl (.of upd_same)⟩, for_list (K := K) (a := q) (xs := cutV (ns.map V.int) none (some 63)) (fun i σ' H' => H' = upd H q (.lst (cutV (ns.map V.int) none (some 63))) ∧ ∃ (g s : Int) (o : Option V), σ' = [some (.ref a), some (.int g), some (.int s), o]) ⟨rfl, _, _, _, rfl⟩ (fun i σ' H' _ z => .inl (.of (by rw [z.1]; exact upd_same))) (fun i z σ' H' hz inv => ?_) (fun σ' H' inv => ?_)⟩
    · obtain ⟨rfl, g, s, o, rfl⟩ := inv
      obtain ⟨c, rfl⟩ := hc z (List.mem_of_getElem? hz)
      refine ⟨_, rfl, _, _, rfl, rfl, ⟨by decide, by decide, by decide⟩, _, _, rfl, rfl, _, rfl, ?_⟩
      refine ite2 (fun c1 => ?_) (fun c1 => ?_)
      · exact ⟨_, rfl, _, _, rfl, rfl, .inr ⟨by decide, by decide⟩, _, rfl, _, _, rfl, rfl, _, _, rfl, rfl, ⟨by decide, by decide, by decide⟩, _, _, rfl, rfl, rfl, _, _, _, rfl⟩
      · refine ⟨_, rfl, _, _, rfl, rfl, .inr ⟨by decide, by decide⟩, _, rfl, c, rfl, _, _, rfl, rfl, .inl ⟨by decide, by decide⟩, _, _, rfl, rfl, _, rfl, _, _, rfl, rfl, .inr ⟨_, rfl, _, _, rfl, rfl, ?_⟩⟩
        exact ⟨_, rfl, .inl ⟨_, rfl, _, _, rfl, rfl, (by show (0 : Int) < 2305843009213693951; decide), rfl, _, _, _, rfl⟩⟩
    · obtain ⟨rfl, g, s, o, rfl⟩ := inv
      refine ⟨_, rfl, _, rfl, (by show 3 ≤ sizeLine; decide), fun b nb => ?_⟩
      have s1 := Same.new (o := HO.lst [.int g, .int s, .int 0]) nb
      exact k b _ (s0.trans s1) (s0.free nb) ⟨g, s, 0, upd_same⟩
theorem ok_draw (F : Free mg) (D : Dn K mg "_law_draw" sDraw) : C8.Cal P w K mg base 1 "_law_draw" spDraw [] := by
  refine cal_of D sc_draw (fun _ _ _ _ _ _ us hl => match us, hl with | [_, _], _ => rfl) (fun vs H Q E h => ?_) (fun f cdv A outer s H vs Q E hr h => ?_)
  · obtain ⟨b, lim, rfl, _⟩ := h
    rfl
  · obtain ⟨b, lim, rfl, ⟨g, s, n, hb⟩, l0, l1, k⟩ := h
    refine ⟨_, pss_cons (ps_if (pt_cmpR op_gt (pe_ix ixL (pv 0) pe_int (fun _ _ => rfl)) pe_int (nomark _))
        (pss_cons (ps_set (i := 2) sc_draw.nd rfl (Or.inl rfl) (pe_op op_mod (pe_callTy call_int1 (by rfl) F.int boot_intN (pa_cons (pe_ix ixL (pv 0) pe_int (fun _ _ => rfl)) pa_nil)) (pv 1)))
        (pss_cons (ps_asg (pe_op op_fdiv (pe_ix ixL (pv 0) pe_int (fun _ _ => rfl)) (pv 1)) (pg_sub (pv 0) pe_int set_list))
        (pss_one (ps_ret (pv 2))))) pss_nil)
      (pss_cons (ps_asg (pe_op op_add (pe_ix ixL (pv 0) pe_int (fun _ _ => rfl)) pe_int) (pg_sub (pv 0) pe_int set_list))
      (pss_cons (ps_set (i := 3) sc_draw.nd rfl (Or.inl rfl) (pe_op op_add (pe_op op_mul (pe_ix ixL (pv 0) pe_int (fun _ _ => rfl)) pe_int) (pe_op op_mul pe_int (pe_ix ixL (pv 0) pe_int (fun _ _ => rfl)))))
      (pss_cons (ps_asg (pe_op op_mod (pe_callTy call_int1 (by rfl) F.int boot_intN (pa_cons (pv 3) pa_nil)) pe_int) (pg_sub (pv 0) pe_int set_list))
      (pss_one (ps_ret (pe_op op_mod (pe_op op_fdiv (pe_op op_mod (pe_callTy call_int1 (by rfl) F.int boot_intN (pa_cons (pe_op op_mul (pe_ix ixL (pv 0) pe_int (fun _ _ => rfl)) (pe_ix ixL (pv 0) pe_int (fun _ _ => rfl))) pa_nil)) pe_int) pe_int) (pv 1))))))), ?_⟩
    refine ⟨_, rfl, b, _, 0, .int g, rfl, rfl, hb, atI_nat (j := 0) rfl, _, _, rfl, rfl, _, rfl, ?_⟩
    have kb : ∀ (H0 : Hp) (xs : List V) (g s n : Int), H0 b = some (.lst xs) → ∀ c, H0 c = none → upd H0 b (.lst [.int g, .int s, .int n]) c = none := fun H0 xs g s n e c z => by
      rw [upd_ne (fun q => by rw [q, e] at z; cases z)]
      exact z
    have m0 : ∀ x : Int, 0 ≤ x % lim ∧ x % lim < lim := fun x => ⟨Int.emod_nonneg _ (by omega), Int.emod_lt_of_pos _ l0⟩
    have cd : CDiv g lim := ⟨l0, by omega⟩
    refine ite2 (fun c1 => ?_) (fun c1 => ?_)
    · refine ⟨_, rfl, b, _, 0, .int g, rfl, rfl, hb, atI_nat (j := 0) rfl, .inl ⟨_, rfl, _, rfl, _, _, rfl, rfl, l0, ?_⟩⟩
      refine ⟨_, rfl, b, _, 0, .int g, rfl, rfl, hb, atI_nat (j := 0) rfl, _, rfl, _, _, rfl, rfl, cd, ?_⟩
      refine ⟨_, rfl, b, _, 0, 0, rfl, rfl, hb, rfl, ?_⟩
      refine ⟨_, rfl, k _ _ (m0 g).1 (m0 g).2 (KB.put _) ⟨_, _, _, upd_same⟩ (kb _ _ _ _ _ hb)⟩
    · refine ⟨_, rfl, b, _, 2, .int n, rfl, rfl, hb, atI_nat (j := 2) rfl, _, _, rfl, rfl, ?_⟩
      refine ⟨_, rfl, b, _, 2, 2, rfl, rfl, hb, rfl, ?_⟩
      refine ⟨_, rfl, b, _, 1, .int s, rfl, rfl, upd_same, atI_nat (j := 1) rfl, _, _, rfl, rfl, .inr ⟨by decide, by decide⟩, ?_⟩
      refine ⟨_, rfl, b, _, 2, .int (n + 1), rfl, rfl, upd_same, atI_nat (j := 2) rfl, _, _, rfl, rfl, .inl ⟨by decide, by decide⟩, _, _, rfl, rfl, ?_⟩
      refine ⟨_, rfl, .inl ⟨_, rfl, _, _, rfl, rfl, (by show (0 : Int) < 2305843009213693951; decide), ?_⟩⟩
      refine ⟨_, rfl, b, _, 1, 1, rfl, rfl, upd_same, rfl, ?_⟩
      rw [upd_upd]
      have q0 := Int.emod_nonneg (s * 2862933555777941757 + 3037000493 * (n + 1)) (b := 2305843009213693951) (by decide)
      have q1 := Int.emod_lt_of_pos (s * 2862933555777941757 + 3037000493 * (n + 1)) (b := 2305843009213693951) (by decide)
      dsimp only
      generalize (s * 2862933555777941757 + 3037000493 * (n + 1)) % 2305843009213693951 = s2 at q0 q1 ⊢
      refine ⟨_, rfl, b, _, 1, .int s2, rfl, rfl, upd_same, atI_nat (j := 1) rfl, _, rfl, b, _, 1, .int s2, rfl, rfl, upd_same, atI_nat (j := 1) rfl, _, _, rfl, rfl, .inl ⟨by omega, by omega⟩, .inl ⟨_, rfl, ?_⟩⟩
      refine ⟨_, _, rfl, rfl, (by show (0 : Int) < 2305843009213693921; decide), _, _, rfl, rfl, ⟨by decide, by decide⟩, _, rfl, _, _, rfl, rfl, l0, ?_⟩
      exact k _ _ (m0 _).1 (m0 _).2 (KB.put _) ⟨_, _, _, upd_same⟩ (kb _ _ _ _ _ hb)
end
end HM
/-! Drawn: one of a row, rules, trees; the things around. -/
namespace HM
open PySem PySem.Spec PyProof.Rows L2
theorem Bag.ne {H : Hp} {b c : Addr} (h : Bag H b) (n : H c = none) : c ≠ b := fun e => by
  obtain ⟨g, s, k, q⟩ := h
  rw [e, q] at n
  cases n
theorem Bag.same {H H' : Hp} {b : Addr} (h : Bag H b) (s : Same H H') : Bag H' b := by
  obtain ⟨g, s', n, q⟩ := h
  exact ⟨g, s', n, s _ _ q⟩
theorem Bag.put {H : Hp} {b c : Addr} {o : HO} (h : Bag H b) (n : c ≠ b) : Bag (upd H c o) b := by
  obtain ⟨g, s, k, q⟩ := h
  exact ⟨g, s, k, by rw [upd_ne (Ne.symm n)]; exact q⟩
/-- a fresh list may be written -/
theorem KB.set {b c : Addr} {H H' : Hp} {o : HO} (k : KB b H H') (n : H c = none) : KB b H (upd H' c o) := fun d u e nd => by
  rw [upd_ne (fun z => by rw [z, n] at e; cases e)]
  exact k d u e nd
/-- .. and was not there before -/
theorem KB.free {b c : Addr} {H H' : Hp} (k : KB b H H') (n : H' c = none) (nb : c ≠ b) : H c = none := by
  cases e : H c with
  | none => rfl
  | some o => rw [k c o e nb] at n; cases n
abbrev sPick : Stmt := top 52
theorem sc_pick : FnScope ["_law_bag_here", "_law_items"] ["_law_bag_here", "_law_items"] (defScope sPick) := ⟨rfl, rfl, rfl, by decide +kernel, rfl, by decide +kernel, by decide +kernel⟩
def spPick : Sp := fun vs H Q _ => ∃ (b a : Addr) (xs : List V), vs = [.ref b, .ref a] ∧ Bag H b ∧ H a = some (.lst xs) ∧ a ≠ b ∧ 0 < xs.length ∧ xs.length < 1000 ∧ ∀ v ∈ xs, ∀ H', KB b H H' → Bag H' b → (∀ c, H c = none → H' c = none) → Q v H'
abbrev sRulesL : Stmt := top 55
theorem sc_rulesL : FnScope ["_law_bag_here", "_law_acts", "_law_often", "_law_found", "_law_one", "_law_other"] ["_law_bag_here"] (defScope sRulesL) := ⟨rfl, rfl, rfl, by decide +kernel, rfl, by decide +kernel, by decide +kernel⟩
def spRulesL : Sp := fun vs H Q _ => ∃ (b : Addr), vs = [.ref b] ∧ Bag H b ∧ ∀ u r H', RuFull r → Is H' u (cRules r) → KB b H H' → Bag H' b → Q u H'
abbrev sTreeL : Stmt := top 56
theorem sc_treeL : FnScope ["_law_bag_here", "_law_most", "_law_found", "_law_thing"] ["_law_bag_here", "_law_most"] (defScope sTreeL) := ⟨rfl, rfl, rfl, by decide +kernel, rfl, by decide +kernel, by decide +kernel⟩
def spTreeL : Sp := fun vs H Q _ => ∃ (b : Addr), vs = [.ref b, .int 12] ∧ Bag H b ∧ ∀ u t H', TreeOk t → Is H' u (cTree t) → KB b H H' → Bag H' b → Q u H'
abbrev sAroundL : Stmt := top 57
theorem sc_aroundL : FnScope ["_law_tree_here", "_law_thing", "_law_found", "_law_turn"] ["_law_tree_here", "_law_thing"] (defScope sAroundL) := ⟨rfl, rfl, rfl, by decide +kernel, rfl, by decide +kernel, by decide +kernel⟩
section
variable {P : Program} {w : World} {K : PySem.W.Frag} {mg : Str → Option Value} {base : Heap}
theorem ok_pick (F : Free mg) (D : Dn K mg "_law_pick" sPick) (cD : C8.Cal P w K mg base 1 "_law_draw" spDraw []) : C8.Cal P w K mg base 2 "_law_pick" spPick [] := by
  refine cal_of D sc_pick (fun _ _ _ _ _ _ us hl => match us, hl with | [_, _], _ => rfl) (fun vs H Q E h => ?_) (fun f cdv A outer s H vs Q E hr h => ?_)
  · obtain ⟨b, a, xs, rfl, _⟩ := h
    rfl
  · obtain ⟨b, a, xs, rfl, hb, ha, hne, l0, l1, k⟩ := h
    refine ⟨_, pss_one (ps_ret (pe_ix ixL (pv 1) (C8.pe_c cD hr (by decide) (by rfl) (pa_cons (pv 0) (pa_cons (pe_callB callLen (by rfl) F.len PySem.boot_len (pa_cons (pv 1) pa_nil)) pa_nil))) (fun _ _ => rfl))), ?_⟩
    refine ⟨_, rfl, _, rfl, _, rfl, a, xs, rfl, .inr ha, b, _, rfl, hb, by omega, by omega, fun r H' r0 r1 kb hb' nn => ?_⟩
    obtain ⟨x, hx⟩ := get_lt (l := xs) (i := r.toNat) (by omega)
    have q := atI_nat hx
    rw [show ((r.toNat : Nat) : Int) = r from Int.toNat_of_nonneg r0] at q
    exact ⟨a, xs, r, x, rfl, rfl, kb _ _ ha hne, q, k x (List.mem_of_getElem? hx) H' kb hb' nn⟩
theorem ok_treeL (F : Free mg) (D : Dn K mg "_law_tree" sTreeL) (cD : C8.Cal P w K mg base 1 "_law_draw" spDraw []) : C8.Cal P w K mg base 2 "_law_tree" spTreeL [] := by
  refine cal_of D sc_treeL (fun _ _ _ _ _ _ us hl => match us, hl with | [_, _], _ => rfl) (fun vs H Q E h => ?_) (fun f cdv A outer s H vs Q E hr h => ?_)
  · obtain ⟨b, rfl, _⟩ := h
    rfl
  · obtain ⟨b, rfl, hb, k⟩ := h
    refine ⟨_, pss_cons (ps_set (i := 2) sc_treeL.nd rfl (Or.inl rfl) (pe_lst (pa_cons pe_non pa_nil)))
      (pss_cons (ps_for PassesOwn.never rfl (pi_range2 (by rfl) F.range (pa_cons pe_int (pa_cons (pe_op op_add pe_int (C8.pe_c cD hr (by decide) (by rfl) (pa_cons (pv 0) (pa_cons (pv 1) pa_nil)))) pa_nil))) (pg_name (i := 3) sc_treeL.nd rfl (Or.inl rfl))
        (pss_one (ps_expr (pe_bm PySem.F.plainAttrs_list PySem.F.slot_list_append PySem.F.type_list_append mt_append (pv 2) (pa_cons (C8.pe_c cD hr (by decide) (by rfl) (pa_cons (pv 0) (pa_cons (pv 3) pa_nil))) pa_nil)))))
      (pss_one (ps_ret (pe_callTy call_tuple_of (by rfl) F.tuple boot_tuple (pa_cons (pv 2) pa_nil))))), ?_⟩
    refine ⟨(by show 1 ≤ sizeLine; decide), fun L nL => ?_⟩
    have s0 := Same.new (o := HO.lst [V.non]) nL
    have hb0 := hb.same s0
    have nLb := hb.ne nL
    refine ⟨_, rfl, _, rfl, b, 12, rfl, hb0, by decide, by decide, fun d H1 d0 d1 kb hb1 nn => ?_⟩
    refine ⟨_, _, rfl, rfl, 1, 1 + d, rfl, ⟨by decide, by decide, by omega, by omega⟩, ?_⟩
    have e0 : (1 + d - 1).toNat = d.toNat := by omega
    rw [e0]
    refine for_range (lo := 1) (n := d.toNat) (fun i σ' H' => KB b H H' ∧ Bag H' b ∧ (∃ o, σ' = [some (.ref b), some (.int 12), some (.ref L), o]) ∧ ∃ t : Tree, H' L = some (.lst (t.map pV)) ∧ t.length = i + 1 ∧ t[0]? = some none ∧ ∀ (i : Nat) (o : Option Int), t[i]? = some o → i ≠ 0 → ∃ p : Int, o = some p ∧ 0 ≤ p ∧ p < i) ?_ (fun i σ' H' hi inv => ?_) (fun σ' H' inv => ?_)
    · refine ⟨(KB.of s0).trans kb, hb1, ⟨_, rfl⟩, [none], kb _ _ upd_same nLb, rfl, rfl, fun i o e n => ?_⟩
      cases i with
      | zero => exact absurd rfl n
      | succ i => cases e
    · obtain ⟨k1, hb2, ⟨o, rfl⟩, t, hL, hl, hroot, hup⟩ := inv
      refine ⟨_, rfl, .inl ⟨rfl, _, .of hL⟩, _, rfl, _, rfl, b, _, rfl, hb2, by omega, by omega, fun r H3 r0 r1 kb3 hb3 nn3 => ?_⟩
      have hL3 := kb3 _ _ hL nLb
      refine ⟨L, _, _, rfl, rfl, hL3, lt1000 (by rw [List.length_map]; omega), ?_⟩
      refine ⟨(k1.trans kb3).set nL, hb3.put nLb, ⟨_, rfl⟩, t ++ [some r], ?_, by rw [List.length_append, hl] <;> rfl, ?_, fun j o e n => ?_⟩
      · rw [upd_same, List.map_append]
        rfl
      · rw [List.getElem?_append_left (by omega)]
        exact hroot
      · by_cases c : j < t.length
        · rw [List.getElem?_append_left c] at e
          exact hup j o e n
        · rw [List.getElem?_append_right (by omega)] at e
          have c2 : j - t.length = 0 := by
            cases e2 : j - t.length with
            | zero => rfl
            | succ m => rw [e2] at e; cases e
          rw [c2] at e
          cases e
          exact ⟨r, rfl, r0, by omega⟩
    · obtain ⟨k1, hb2, ⟨o, rfl⟩, t, hL, hl, hroot, hup⟩ := inv
      refine ⟨_, rfl, L, _, rfl, .inl ⟨.of hL, fun q nq => ?_⟩⟩
      have s2 := Same.new (o := HO.tup (t.map pV)) nq
      refine k _ t _ ⟨by omega, by omega, hroot, hup⟩ (.tup upd_same ?_) (k1.trans (.of s2)) (hb2.same s2)
      have q : ∀ (t : Tree) (H : Hp), IsAll H (t.map pV) (t.map cPar) := fun t H => by
        induction t with
        | nil => exact .nil
        | cons a t ih =>
          refine .cons ?_ ih
          cases a with
          | none => exact .non
          | some i => exact .int i
      exact q t _
theorem ok_aroundL (F : Free mg) (D : Dn K mg "_law_around" sAroundL) : C8.Cal P w K mg base 1 "_law_around" spAround [] := by
  refine cal_of D sc_aroundL (fun _ _ _ _ _ _ us hl => match us, hl with | [_, _], _ => rfl) (fun vs H Q E h => ?_) (fun f cdv A outer s H vs Q E hr h => ?_)
  · obtain ⟨v, t, x, rfl, _⟩ := h
    rfl
  · obtain ⟨v, t, x, rfl, hv, hT, hx, k⟩ := h
    refine ⟨_, pss_cons (ps_set (i := 2) sc_aroundL.nd rfl (Or.inl rfl) (pe_lst (pa_cons (pv 1) pa_nil)))
      (pss_cons (ps_for PassesOwn.never rfl (pi_range1 (by rfl) F.range (pa_cons (pe_callB callLen (by rfl) F.len PySem.boot_len (pa_cons (pv 0) pa_nil)) pa_nil)) (pg_name (i := 3) sc_aroundL.nd rfl (Or.inl rfl))
        (pss_one (ps_if (pt_cmp (pc_notN (pe_ix ixT (pv 0) (pe_ix ixL (pv 2) pe_int (fun _ _ => rfl)) (fun _ _ => rfl))))
          (pss_one (ps_set (i := 2) sc_aroundL.nd rfl (Or.inl rfl) (pe_op op_cat (pe_lst (pa_cons (pe_ix ixT (pv 0) (pe_ix ixL (pv 2) pe_int (fun _ _ => rfl)) (fun _ _ => rfl)) pa_nil)) (pv 2)))) pss_nil)))
      (pss_one (ps_ret (pe_callTy call_tuple_of (by rfl) F.tuple boot_tuple (pa_cons (pv 2) pa_nil))))), ?_⟩
    obtain ⟨a, xs, rfl, ha, ixs⟩ := hv.tup_inv
    have hlx := ixs.length
    rw [List.length_map] at hlx
    have hhi := hT.hi
    have hx1 := hx.1
    have hx2 := hx.2
    refine ⟨_, rfl, (by show 1 ≤ sizeLine; decide), fun D nD => ?_⟩
    have s0 := Same.new (o := HO.lst [V.int x]) nD
    have at_ : ∀ {y : Int}, InT t y → atI xs y = some (pV (par t y)) := by
      intro y hy
      obtain ⟨o, ho, e⟩ := hT.at hy
      obtain ⟨u, hu, iu⟩ := ixs.map_get ho
      have q := atI_nat hu
      rw [show ((y.toNat : Nat) : Int) = y from Int.toNat_of_nonneg hy.1] at q
      rw [q, e, is_par iu]
    refine ⟨_, rfl, a, xs, rfl, .inl (s0 _ _ ha), _, rfl, by omega, by omega, ?_⟩
    refine for_range (lo := 0) (n := ((xs.length : Int)).toNat) (fun i σ' H' => Same H H' ∧ ∃ (G : Addr) (o : Option V) (M : List Int) (y : Int) (n : Nat), σ' = [some (.ref a), some (.int x), some (.ref G), o] ∧ H' G = some (.lst ((y :: M).map V.int)) ∧ InT t y ∧ y.toNat < n ∧ n + M.length = 12 ∧ y + M.length ≤ x ∧ M.reverse ++ upC t n y = upC t 12 x ∧ (M.length = i ∨ par t y = none)) ⟨s0, D, _, [], x, 12, rfl, upd_same, hx, by omega, rfl, by simp, rfl, .inl rfl⟩ (fun i σ' H' hi inv => ?_) (fun σ' H' inv => ?_)
    · obtain ⟨s1, G, o, M, y, n, rfl, hG, hy, hn, hnl, hym, e, hc⟩ := inv
      have hy1 := hy.1
      have hy2 := hy.2
      refine ⟨_, rfl, _, rfl, G, _, 0, .int y, rfl, rfl, hG, atI_nat (j := 0) rfl, a, xs, y, _, rfl, rfl, s1 _ _ ha, at_ hy, _, rfl, ?_⟩
      cases hp : par t y with
      | none => exact iteF ⟨s1, G, _, M, y, n, rfl, hG, hy, hn, hnl, hym, e, .inr hp⟩
      | some p =>
        refine iteT ?_
        obtain ⟨p1, p2⟩ := hT.par_lt hy hp
        have hxy := at_ hy
        rw [hp] at hxy
        refine ⟨_, rfl, _, rfl, G, _, 0, .int y, rfl, rfl, hG, atI_nat (j := 0) rfl, a, xs, y, _, rfl, rfl, s1 _ _ ha, hxy, (by show 1 ≤ sizeLine; decide), fun q1 hq1 => ?_⟩
        have s2 := Same.new (o := HO.lst [pV (some p)]) hq1
        refine ⟨_, rfl, q1, G, _, _, rfl, rfl, upd_same, s2 _ _ hG, Nat.le_of_lt (lt1000 (by simp only [List.length_map, List.length_cons, List.length_nil]; omega)), fun q2 hq2 => ?_⟩
        have s3 := Same.new (o := HO.lst ([pV (some p)] ++ (y :: M).map V.int)) hq2
        cases n with
        | zero => omega
        | succ n =>
          refine ⟨(s1.trans s2).trans s3, q2, _, y :: M, p, n, rfl, upd_same, ⟨p1, by omega⟩, by omega, by simp only [List.length_cons]; omega, by simp only [List.length_cons]; omega, ?_, ?_⟩
          · rw [← e]
            have e2 : upC t (n + 1) y = y :: upC t n p := by
              show (match par t y with | none => [y] | some p => y :: upC t n p) = _
              rw [hp]
            rw [e2, List.reverse_cons, List.append_assoc]
            rfl
          · rcases hc with c | c
            · exact .inl (by rw [List.length_cons, c])
            · rw [hp] at c
              cases c
    · obtain ⟨s1, G, o, M, y, n, rfl, hG, hy, hn, hnl, hym, e, hc⟩ := inv
      have hy1 := hy.1
      have hp : par t y = none := by
        rcases hc with c | c
        · omega
        · exact c
      refine ⟨_, rfl, G, _, rfl, .inl ⟨.of hG, fun q hq => ?_⟩⟩
      have s3 := Same.new (o := HO.tup ((y :: M).map V.int)) hq
      refine k _ _ (s1.trans s3) (is_lot_mk ?_)
      rw [upd_same]
      cases n with
      | zero => omega
      | succ n =>
        have e2 : upC t (n + 1) y = [y] := by
          show (match par t y with | none => [y] | some p => y :: upC t n p) = _
          rw [hp]
        unfold aroundL
        rw [← e, e2, List.reverse_append, List.reverse_reverse]
        rfl
end
end HM
/-! Small values that are new: displays with draws in them; odd values. -/
namespace HM
open PySem PySem.Spec PyProof.Rows L2
/-- what H' has and H has not -/
def Nw (H H' : Hp) : Hp := fun c => match H c with
  | none => H' c
  | some _ => none
theorem Nw.sub {H H' : Hp} : Same (Nw H H') H' := fun c o e => by
  unfold Nw at e
  split at e
  · exact e
  · cases e
theorem Nw.at_ {H H' : Hp} {c : Addr} (n : H c = none) : Nw H H' c = H' c := by
  unfold Nw
  rw [n]
theorem Nw.inv {H H' : Hp} {c : Addr} {o : HO} (e : Nw H H' c = some o) : H c = none ∧ H' c = some o := by
  unfold Nw at e
  split at e
  · exact ⟨by assumption, e⟩
  · cases e
/-- later: what is new stays -/
theorem Nw.up {H H1 H2 : Hp} (k : ∀ c o, H c = none → H1 c = some o → H2 c = some o) : Same (Nw H H1) (Nw H H2) := fun c o e => by
  obtain ⟨n, q⟩ := Nw.inv e
  rw [Nw.at_ n]
  exact k c o n q
/-- .. and counted from earlier -/
theorem Nw.down {H H1 H2 : Hp} (k : ∀ c, H1 c = none → H c = none) : Same (Nw H1 H2) (Nw H H2) := fun c o e => by
  obtain ⟨n, q⟩ := Nw.inv e
  rw [Nw.at_ (k c n)]
  exact q
theorem KB.nw {b : Addr} {H H1 H2 : Hp} (hb : Bag H b) (k : KB b H1 H2) : Same (Nw H H1) (Nw H H2) := Nw.up fun c o n e => k c o e (hb.ne n)
theorem KB.dom {b : Addr} {H H' : Hp} (hb : Bag H' b) (k : KB b H H') : ∀ c, H' c = none → H c = none := fun c n => k.free n (hb.ne n)
/-- what the frame must keep while values are made: the bag's name first -/
structure Stb (b : Addr) (C : L2.St → Hp → Prop) : Prop where
  bag : ∀ σ H, C σ H → Bag H b
  at0 : ∀ σ H, C σ H → σ[0]? = some (some (.ref b))
  keep : ∀ σ H H', C σ H → KB b H H' → Bag H' b → C σ H'
/-- data that are small, k deep at most: their text is short -/
structure Tin (k : Nat) (d : PyData) : Prop where
  small : small d = true
  leaves : d.leavesShort 60 = true
  show_ : d.showable = true
  weight : d.weight ≤ 200 * 4 ^ k
  depth : d.depth ≤ k + 1
theorem pow4 (k : Nat) : 1 ≤ 4 ^ k := Nat.pos_of_ne_zero (by simp)
theorem tin_int (k : Nat) {i : Int} (h : i.natAbs < 10 ^ 50) : Tin k (.int i) := by
  have h2 : i.natAbs < 2 ^ 170 := Nat.lt_of_lt_of_le h (by decide)
  have h3 : i.natAbs.log2 < 170 := PySem.Flt.log2_lt_of (by decide) h2
  have h4 := pow4 k
  refine ⟨rfl, ?_, ?_, ?_, ?_⟩
  · have e := int_text_length_le10 (k := 50) (by decide) h
    simp only [PyData.leavesShort, decide_eq_true_eq]
    show (Str.ofString (toString i)).length ≤ 60
    rw [PySem.ofString_length]
    omega
  · simp only [PyData.showable, decide_eq_true_eq]
    omega
  · simp only [PyData.weight]
    split <;> omega
  · simp only [PyData.depth]
    omega
theorem tin_non (k : Nat) : Tin k .none := ⟨rfl, rfl, rfl, by simp [PyData.weight], by simp [PyData.depth]⟩
theorem tin_bl (k : Nat) (b : Bool) : Tin k (.bool b) := ⟨rfl, rfl, rfl, by simp [PyData.weight], by simp [PyData.depth]⟩
/-- a short text of plain letters -/
def plainS (x : Str) : Bool := (x.cps.toList.all fun c => decide (c < 16 ^ 8)) && decide (x.cps.size ≤ 10)
theorem tin_str (k : Nat) {x : Str} (h : plainS x = true) : Tin k (.str x) := by
  unfold plainS at h
  rw [Bool.and_eq_true, decide_eq_true_iff] at h
  have h4 := pow4 k
  refine ⟨rfl, ?_, rfl, ?_, by simp [PyData.depth]⟩
  · simp only [PyData.leavesShort]
    exact h.1
  · simp only [PyData.weight]
    omega
theorem tin_all {k : Nat} : ∀ {ds : List PyData}, (∀ d ∈ ds, Tin k d) → smallAll ds = true ∧ PyData.leavesShortAll 60 ds = true ∧ PyData.showableAll ds = true ∧ PyData.weightAll ds ≤ ds.length * (200 * 4 ^ k + 1) ∧ PyData.depthAll ds ≤ k + 1
  | [], _ => ⟨rfl, rfl, rfl, by simp [PyData.weightAll], by simp [PyData.depthAll]⟩
  | d :: ds, h => by
    obtain ⟨a1, a2, a3, a4, a5⟩ := tin_all (ds := ds) fun e he => h e (List.mem_cons_of_mem _ he)
    obtain ⟨b1, b2, b3, b4, b5⟩ := h d List.mem_cons_self
    refine ⟨?_, ?_, ?_, ?_, ?_⟩
    · show (HM.small d && smallAll ds) = true
      rw [b1, a1]
      rfl
    · simp only [PyData.leavesShortAll, b2, a2, Bool.and_self]
    · simp only [PyData.showableAll, b3, a3, Bool.and_self]
    · simp only [PyData.weightAll, List.length_cons, Nat.add_mul]
      omega
    · simp only [PyData.depthAll]
      omega
theorem tin_seq {k : Nat} {ds : List PyData} (h : ∀ d ∈ ds, Tin k d) (hl : ds.length ≤ 2) : Tin (k + 1) (.tuple ds) ∧ Tin (k + 1) (.list ds) := by
  obtain ⟨a1, a2, a3, a4, a5⟩ := tin_all h
  have h4 := pow4 k
  have e4 : 200 * 4 ^ (k + 1) = 800 * 4 ^ k := by rw [Nat.pow_succ]; omega
  have m : ds.length * (200 * 4 ^ k + 1) ≤ 2 * (200 * 4 ^ k + 1) := Nat.mul_le_mul_right _ hl
  refine ⟨⟨?_, ?_, ?_, ?_, ?_⟩, ⟨?_, ?_, ?_, ?_, ?_⟩⟩
  · show (decide (ds.length < 1000) && smallAll ds) = true
    rw [a1, decide_eq_true (by omega)]
    rfl
  · simp only [PyData.leavesShort, a2]
  · simp only [PyData.showable, a3]
  · simp only [PyData.weight]
    omega
  · simp only [PyData.depth]
    omega
  · show (decide (ds.length < 1000) && smallAll ds) = true
    rw [a1, decide_eq_true (by omega)]
    rfl
  · simp only [PyData.leavesShort, a2]
  · simp only [PyData.showable, a3]
  · simp only [PyData.weight]
    omega
  · simp only [PyData.depth]
    omega
/-- some small new value -/
def tSm (b : Addr) (C : L2.St → Hp → Prop) (k : Nat) : TE := fun σ H Q => C σ H ∧ ∀ v d H', KB b H H' → Bag H' b → Tin k d → Is (Nw H H') v d → Q v H'
def tSms (b : Addr) (C : L2.St → Hp → Prop) (k n : Nat) : TA := fun σ H Q => C σ H ∧ ∀ vs ds H', KB b H H' → Bag H' b → vs.length = n → (∀ d ∈ ds, Tin k d) → IsAll (Nw H H') vs ds → Q vs H'
theorem wkE {X : Cx} {e : Expr} {t t' : TE} (h : PE X e t) (f : ∀ σ H Q, t' σ H Q → t σ H Q) : PE X e t' := ⟨fun pins s σ H Q I hw => h.run pins s σ H Q I (f σ H Q hw)⟩
theorem wkA {X : Cx} {es : List Expr} {t t' : TA} (h : PA X es t) (f : ∀ σ H Q, t' σ H Q → t σ H Q) : PA X es t' := ⟨fun pos pins s σ H Q I hw => h.run pos pins s σ H Q I (f σ H Q hw)⟩
section
variable {X : Cx} {b : Addr} {C : L2.St → Hp → Prop} {k : Nat} (S : Stb b C)
include S
theorem psm_c {e : Expr} {v : V} {d : PyData} (h : PE X e (tC v)) (hd : Tin k d) (hi : ∀ H, Is H v d) : PE X e (tSm b C k) := wkE h fun σ H Q ⟨c, q⟩ => q v d H (KB.refl b H) (S.bag σ H c) hd (hi _)
theorem psm_int {i j pos} (hi : i.natAbs < 10 ^ 50 := by decide) : PE X (.Constant (.int i) j pos) (tSm b C k) := psm_c S pe_int (tin_int k hi) fun _ => .int i
theorem psm_bl {x j pos} : PE X (.Constant (.bool x) j pos) (tSm b C k) := psm_c S pe_bl (tin_bl k x) fun _ => .bl x
theorem psm_non {j pos} : PE X (.Constant .none j pos) (tSm b C k) := psm_c S pe_non (tin_non k) fun _ => .non
theorem psm_str {x j pos} (hx : plainS x = true := by decide) : PE X (.Constant (.str x) j pos) (tSm b C k) := psm_c S pe_str (tin_str k hx) fun _ => .str x
theorem psm_neg {i j p pos} (hi : (-i).natAbs < 10 ^ 50 := by decide) : PE X (.UnaryOp .USub (.Constant (.int i) j p) pos) (tSm b C k) := wkE (pe_un un_neg pe_int) fun σ H Q ⟨c, q⟩ => ⟨i, rfl, q (.int (-i)) (.int (-i)) H (KB.refl b H) (S.bag σ H c) (tin_int k hi) (.int _)⟩
theorem psm_nil : PA X [] (tSms b C k 0) := wkA pa_nil fun σ H Q ⟨c, q⟩ => q [] [] H (KB.refl b H) (S.bag σ H c) rfl (fun _ h => absurd h (by simp)) .nil
theorem psm_cons {e : Expr} {es : List Expr} {n : Nat} (h : PE X e (tSm b C k)) (hs : PA X es (tSms b C k n))
    (he : starEach (e :: es) X.env = (false, eval e X.env) :: starEach es X.env := by rfl) : PA X (e :: es) (tSms b C k (n + 1)) := by
  refine wkA (pa_cons h hs he) fun σ H Q ⟨c, q⟩ => ⟨c, fun v d H1 k1 b1 hd hv => ⟨S.keep _ _ _ c k1 b1, fun vs ds H2 k2 b2 hl hds hvs => ?_⟩⟩
  have hb := S.bag _ _ c
  refine q (v :: vs) (d :: ds) H2 (k1.trans k2) b2 (by rw [List.length_cons, hl]) (fun e he => ?_) (.cons (hv.same (k2.nw hb)) (IsAll.same (Nw.down (k1.dom b1)) hvs))
  rcases List.mem_cons.mp he with rfl | he
  · exact hd
  · exact hds e he
theorem psm_tup {es : List Expr} {n : Nat} {x1} {pos} (h : PA X es (tSms b C k n)) (hn : n ≤ 2) : PE X (.Tuple es x1 pos) (tSm b C (k + 1)) := by
  refine wkE (pe_tup h) fun σ H Q ⟨c, q⟩ => ⟨c, fun vs ds H1 k1 b1 hl hds hvs => ⟨Nat.le_of_lt (lt1000 (by omega)), fun p np => ?_⟩⟩
  have hb := S.bag _ _ c
  have s1 := Same.new (o := HO.tup vs) np
  have hl2 := hvs.length
  refine q _ (.tuple ds) _ (k1.trans (.of s1)) (b1.same s1) (tin_seq hds (by omega)).1 (.tup (xs := vs) ?_ (IsAll.same (Nw.up fun c o _ e => s1 c o e) hvs))
  rw [Nw.at_ (k1.free np (b1.ne np))]
  exact upd_same
theorem psm_lst {es : List Expr} {n : Nat} {pos} (h : PA X es (tSms b C k n)) (hn : n ≤ 2) : PE X (.List es pos) (tSm b C (k + 1)) := by
  refine wkE (pe_lst h) fun σ H Q ⟨c, q⟩ => ⟨c, fun vs ds H1 k1 b1 hl hds hvs => ⟨Nat.le_of_lt (lt1000 (by omega)), fun p np => ?_⟩⟩
  have s1 := Same.new (o := HO.lst vs) np
  have hl2 := hvs.length
  refine q _ (.list ds) _ (k1.trans (.of s1)) (b1.same s1) (tin_seq hds (by omega)).2 (.lst (xs := vs) ?_ (IsAll.same (Nw.up fun c o _ e => s1 c o e) hvs))
  rw [Nw.at_ (k1.free np (b1.ne np))]
  exact upd_same
theorem psm_d0 {pos} : PE X (.Dict [] [] pos) (tSm b C k) := by
  refine wkE pe_dnewK fun σ H Q ⟨c, q⟩ p np => ?_
  have s1 := Same.new (o := HO.dK []) np
  refine q _ (.dict []) _ (.of s1) ((S.bag _ _ c).same s1) ⟨rfl, rfl, rfl, by simp [PyData.weight, PyData.weightKv], by simp [PyData.depth, PyData.depthKv]⟩ (.dct0 ?_)
  rw [Nw.at_ np]
  exact upd_same
theorem psm_d1 {x : Str} {i : Int} {j1 j2 p1 p2 pos} (hx : plainS x = true := by decide) (hi : i.natAbs < 10 ^ 50 := by decide) : PE X (.Dict [some (.Constant (.str x) j1 p1)] [.Constant (.int i) j2 p2] pos) (tSm b C k) := by
  refine wkE (pe_disp (pps_cons pe_str pe_int pps_nil) rfl rfl (by simp) (by simp)) fun σ H Q ⟨c, q⟩ p np => ?_
  refine ⟨upd_same, [(.inr x, .int i)], rfl, (by show 1 ≤ 15; decide), ?_⟩
  rw [upd_upd]
  have s1 := Same.new (o := HO.dK [(.inr x, .int i)]) np
  refine q _ (.dict [(.str x, .int i)]) _ (.of s1) ((S.bag _ _ c).same s1) ?_ (.dct1 (x := x) (i := i) ?_)
  · have t1 := tin_str 0 hx
    have t2 := tin_int 0 hi
    have h4 := pow4 k
    have d1 := t1.depth
    have d2 := t2.depth
    have w1 : x.cps.size ≤ 10 := by
      unfold plainS at hx
      rw [Bool.and_eq_true, decide_eq_true_iff] at hx
      exact hx.2
    have w2 : (PyData.int i).weight ≤ 171 := by
      have h3 : i.natAbs.log2 < 170 := PySem.Flt.log2_lt_of (by decide) (Nat.lt_of_lt_of_le hi (by decide))
      simp only [PyData.weight]
      split <;> omega
    refine ⟨rfl, ?_, ?_, ?_, ?_⟩
    · simp only [PyData.leavesShort, PyData.leavesShortKv, Bool.and_true]
      have a := t1.leaves
      have b := t2.leaves
      simp only [PyData.leavesShort] at a b
      rw [a, b] <;> rfl
    · have b := t2.show_
      simp only [PyData.showable] at b
      simp only [PyData.showable, PyData.showableKv, Bool.and_true, Bool.true_and]
      exact b
    · simp only [PyData.weight, PyData.weightKv] at w2 ⊢
      omega
    · simp only [PyData.depth, PyData.depthKv] at d1 d2 ⊢
      omega
  · rw [Nw.at_ np]
    exact upd_same
theorem psm_pow {i j : Int} {k1 k2 p1 p2 pos} (hc : CPow i j) (hi : (i ^ j.toNat).natAbs < 10 ^ 50 := by decide) : PE X (.BinOp (.Constant (.int i) k1 p1) .Pow (.Constant (.int j) k2 p2) pos) (tSm b C k) :=
  wkE (pe_op op_pow pe_int pe_int) fun σ H Q ⟨c, q⟩ => ⟨i, j, rfl, rfl, hc, q _ (.int (i ^ j.toNat)) H (KB.refl b H) (S.bag σ H c) (tin_int k hi) (.int _)⟩
end
/-- a new list of small values -/
def tSmL (b : Addr) (C : L2.St → Hp → Prop) (n : Nat) : TE := fun σ H Q => C σ H ∧ ∀ a vs ds H', KB b H H' → Bag H' b → H a = none → H' a = some (.lst vs) → vs.length = n → (∀ d ∈ ds, Tin 2 d) → IsAll (Nw H H') vs ds → Q (.ref a) H'
theorem psm_lstL {X : Cx} {b : Addr} {C : L2.St → Hp → Prop} {es : List Expr} {n : Nat} {pos} (h : PA X es (tSms b C 2 n)) (hn : n < 1000) : PE X (.List es pos) (tSmL b C n) := by
  refine wkE (pe_lst h) fun σ H Q ⟨c, q⟩ => ⟨c, fun vs ds H1 k1 b1 hl hds hvs => ⟨Nat.le_of_lt (lt1000 (by omega)), fun p np => ?_⟩⟩
  have s1 := Same.new (o := HO.lst vs) np
  exact q _ vs ds _ (k1.trans (.of s1)) (b1.same s1) (k1.free np (b1.ne np)) upd_same hl hds (IsAll.same (Nw.up fun c o _ e => s1 c o e) hvs)
theorem smallAll_mem {H : Hp} {v : V} : ∀ {vs : List V} {ds : List PyData}, IsAll H vs ds → (∀ d ∈ ds, Tin 2 d) → v ∈ vs → ∃ d, Tin 2 d ∧ Is H v d
  | _, _, .nil, _, hv => by cases hv
  | _, _, .cons (d := d) (ds := ds) x y, hs, hv => by
    rcases List.mem_cons.mp hv with rfl | hv
    · exact ⟨_, hs _ List.mem_cons_self, x⟩
    · exact smallAll_mem y (fun e he => hs e (List.mem_cons_of_mem _ he)) hv
theorem smallAll_app {ds es : List PyData} (h : ∀ d ∈ ds, Tin 2 d) (k : ∀ d ∈ es, Tin 2 d) : ∀ d ∈ ds ++ es, Tin 2 d := fun d hd => (List.mem_append.mp hd).elim (h d) (k d)
abbrev sOdd : Stmt := top 53
theorem sc_odd : FnScope ["_law_bag_here", "_law_some"] ["_law_bag_here"] (defScope sOdd) := ⟨rfl, rfl, rfl, by decide +kernel, rfl, by decide +kernel, by decide +kernel⟩
def spOdd : Sp := fun vs H Q _ => ∃ (b : Addr), vs = [.ref b] ∧ Bag H b ∧ ∀ v d H', KB b H H' → Bag H' b → Tin 2 d → Is (Nw H H') v d → Q v H'
/-- only the bag -/
def C0 (b : Addr) : L2.St → Hp → Prop := fun σ H => Bag H b ∧ σ[0]? = some (some (.ref b))
theorem stb0 (b : Addr) : Stb b (C0 b) := ⟨fun _ _ h => h.1, fun _ _ h => h.2, fun _ _ _ h _ hb => ⟨hb, h.2⟩⟩
section
variable {P : Program} {w : World} {K : PySem.W.Frag} {mg : Str → Option Value} {base : Heap}
theorem ok_odd (D : Dn K mg "_law_odd" sOdd) (cP : C8.Cal P w K mg base 2 "_law_pick" spPick []) : C8.Cal P w K mg base 3 "_law_odd" spOdd [] := by
  refine cal_of D sc_odd (fun _ _ _ _ _ _ us hl => match us, hl with | [_], _ => rfl) (fun vs H Q E h => ?_) (fun f cdv A outer s H vs Q E hr h => ?_)
  · obtain ⟨b, rfl, _⟩ := h
    rfl
  · obtain ⟨b, rfl, hb, k⟩ := h
    have S := stb0 b
    refine ⟨_, pss_cons (ps_set (i := 1) sc_odd.nd rfl (Or.inl rfl) (psm_lstL (b := b) (C := C0 b) (n := 21)
        (psm_cons S (psm_non S) (psm_cons S (psm_bl S) (psm_cons S (psm_bl S) (psm_cons S (psm_int S) (psm_cons S (psm_int S) (psm_cons S (psm_neg S) (psm_cons S (psm_int S) (psm_cons S (psm_int S) (psm_cons S (psm_pow S ⟨by decide, by decide, by decide⟩)
        (psm_cons S (psm_str S) (psm_cons S (psm_str S) (psm_cons S (psm_str S) (psm_cons S (psm_tup S (psm_nil S) (by decide)) (psm_cons S (psm_lst S (psm_nil S) (by decide)) (psm_cons S (psm_tup S (psm_cons S (psm_int S) (psm_nil S)) (by decide))
        (psm_cons S (psm_tup S (psm_cons S (psm_int S) (psm_cons S (psm_int S) (psm_nil S))) (by decide)) (psm_cons S (psm_lst S (psm_cons S (psm_int S) (psm_nil S)) (by decide)) (psm_cons S (psm_tup S (psm_cons S (psm_int S) (psm_cons S (psm_bl S) (psm_nil S))) (by decide))
        (psm_cons S (psm_d0 S) (psm_cons S (psm_tup S (psm_cons S (psm_tup S (psm_nil S) (by decide)) (psm_cons S (psm_tup S (psm_nil S) (by decide)) (psm_nil S))) (by decide))
        (psm_cons S (psm_tup S (psm_cons S (psm_tup S (psm_cons S (psm_int S) (psm_nil S)) (by decide)) (psm_cons S (psm_tup S (psm_cons S (psm_int S) (psm_nil S)) (by decide)) (psm_nil S))) (by decide)) (psm_nil S)))))))))))))))))))))) (by decide)))
      (pss_one (ps_ret (C8.pe_c cP hr (by decide) (by rfl) (pa_cons (pv 0) (pa_cons (pe_op op_cat (pv 1) (psm_lstL (b := b) (C := C0 b) (n := 10)
        (psm_cons S (psm_tup S (psm_cons S (psm_lst S (psm_nil S) (by decide)) (psm_nil S)) (by decide))
        (psm_cons S (psm_tup S (psm_cons S (psm_non S) (psm_nil S)) (by decide))
        (psm_cons S (psm_tup S (psm_cons S (psm_tup S (psm_cons S (psm_int S) (psm_cons S (psm_int S) (psm_nil S))) (by decide)) (psm_nil S)) (by decide))
        (psm_cons S (psm_tup S (psm_cons S (psm_int S) (psm_cons S (psm_tup S (psm_nil S) (by decide)) (psm_nil S))) (by decide))
        (psm_cons S (psm_tup S (psm_cons S (psm_int S) (psm_cons S (psm_int S) (psm_nil S))) (by decide))
        (psm_cons S (psm_tup S (psm_cons S (psm_tup S (psm_cons S (psm_int S) (psm_nil S)) (by decide)) (psm_cons S (psm_tup S (psm_nil S) (by decide)) (psm_nil S))) (by decide))
        (psm_cons S (psm_tup S (psm_cons S (psm_non S) (psm_cons S (psm_int S) (psm_nil S))) (by decide))
        (psm_cons S (psm_tup S (psm_cons S (psm_non S) (psm_cons S (psm_int S) (psm_nil S))) (by decide))
        (psm_cons S (psm_d1 S)
        (psm_cons S (psm_tup S (psm_cons S (psm_tup S (psm_cons S (psm_int S) (psm_cons S (psm_int S) (psm_nil S))) (by decide)) (psm_cons S (psm_tup S (psm_cons S (psm_int S) (psm_cons S (psm_int S) (psm_nil S))) (by decide)) (psm_nil S))) (by decide)) (psm_nil S))))))))))) (by decide))) pa_nil))))), ?_⟩
    refine ⟨⟨hb, rfl⟩, fun a1 vs1 ds1 H1 k1 b1 n1 e1 l1 hs1 i1 => ?_⟩
    refine ⟨_, rfl, _, rfl, ⟨b1, rfl⟩, fun a2 vs2 ds2 H2 k2 b2 n2 e2 l2 hs2 i2 => ?_⟩
    have e12 := k2 _ _ e1 (hb.ne n1)
    refine ⟨a1, a2, vs1, vs2, rfl, rfl, e12, e2, Nat.le_of_lt (lt1000 (by omega)), fun p np => ?_⟩
    have s3 := Same.new (o := HO.lst (vs1 ++ vs2)) np
    have b3 := b2.same s3
    refine ⟨b, p, vs1 ++ vs2, rfl, b3, upd_same, b2.ne np, by rw [List.length_append]; omega, by rw [List.length_append]; omega, fun v hv H4 k4 b4 nn => ?_⟩
    have j1 : IsAll (Nw H (upd H2 p (.lst (vs1 ++ vs2)))) vs1 ds1 := IsAll.same (KB.nw hb (k2.trans (.of s3))) i1
    have j2 : IsAll (Nw H (upd H2 p (.lst (vs1 ++ vs2)))) vs2 ds2 := IsAll.same (fun c o e => Nw.up (fun c o _ e => s3 c o e) _ _ (Nw.down (k1.dom b1) _ _ e)) i2
    obtain ⟨d, hd, hi⟩ := smallAll_mem (j1.append j2) (smallAll_app hs1 hs2) hv
    exact k v d H4 (((k1.trans k2).trans (.of s3)).trans k4) b4 hd (hi.same (KB.nw hb k4))
end
end HM
/-! Rules, modes and deeds drawn. -/
namespace HM
open PySem PySem.Spec PyProof.Rows L2
/-- a statement, then the rest, with what holds between told apart -/
def tCut (t u : TS) : TS := fun D σ H => ∃ R : L2.St → Hp → Prop, t { D with nx := R } σ H ∧ ∀ σ' H', R σ' H' → u D σ' H'
theorem pss_cut {X : Cx} {st : Stmt} {rest : List Stmt} {t u : TS} (h1 : PS X st t) (h2 : PSs X rest u) : PSs X (st :: rest) (tCut t u) := by
  refine ⟨fun pins s σ H D I h => ?_⟩
  obtain ⟨R, ht, hu⟩ := h
  refine wpAny_execs_cons (thn (h1.run pins s σ H { D with nx := R } I ht) fun f s1 q => ?_)
  cases f with
  | next =>
    obtain ⟨σ', H', I', q⟩ := q
    exact h2.run pins s1 σ' H' D I' (hu _ _ q)
  | ret v => exact q
  | brk => exact q
  | cont => exact q
theorem nw_lift {b : Addr} {H H1 H2 H3 : Hp} {v : V} {d : PyData} (hb1 : Bag H1 b) (k1 : KB b H H1) (k3 : KB b H2 H3) (h : Is (Nw H1 H2) v d) : Is (Nw H H3) v d := by
  have q : Same (Nw H1 H2) (Nw H H3) := fun c o e => Nw.down (H2 := H3) (k1.dom hb1) _ _ (KB.nw hb1 k3 _ _ e)
  exact h.same q
abbrev sModeL : Stmt := top 58
theorem sc_modeL : FnScope ["_law_bag_here", "_law_acts", "_law_means", "_law_act"] ["_law_bag_here", "_law_acts"] (defScope sModeL) := ⟨rfl, rfl, rfl, by decide +kernel, rfl, by decide +kernel, by decide +kernel⟩
def spModeL : Sp := fun vs H Q _ => ∃ (b : Addr) (n : Int), vs = [.ref b, .int n] ∧ Bag H b ∧ 0 ≤ n ∧ n ≤ 6 ∧ ∀ v d H', KB b H H' → Bag H' b → Tin 2 d → Is (Nw H H') v d → Q v H'
abbrev sDeed : Stmt := top 62
theorem sc_deed : FnScope ["_law_bag_here", "_law_rules_here", "_law_tree_here", "_law_word", "_law_holder", "_law_thing", "_law_what", "_law_way", "_law_some"] ["_law_bag_here", "_law_rules_here", "_law_tree_here"] (defScope sDeed) := ⟨rfl, rfl, rfl, by decide +kernel, rfl, by decide +kernel, by decide +kernel⟩
def isWord (w : Str) : Prop := w = "ask" ∨ w = "take" ∨ w = "leave" ∨ w = "undo"
def spDeed : Sp := fun vs H Q _ => ∃ (b : Addr) (u v : V) (r : Rules) (t : Tree), vs = [.ref b, u, v] ∧ Bag H b ∧ Is H u (cRules r) ∧ Is H v (cTree t) ∧ RuFull r ∧ TreeOk t ∧
  ∀ q wd vh vt vw dh dt dw H', KB b H H' → Bag H' b → H q = none → H' q = some (.tup [.str wd, vh, vt, vw]) → isWord wd → Tin 2 dh → Tin 2 dt → Tin 2 dw → Is (Nw H H') vh dh → Is (Nw H H') vt dt → Is (Nw H H') vw dw → Q (.ref q) H'
theorem tin_small (k : Nat) {i : Int} (h0 : 0 ≤ i) (h1 : i < 1000) : Tin k (.int i) := tin_int k (Nat.lt_of_lt_of_le (show i.natAbs < 1000 from by omega) (by decide))
theorem tin_ints {l : List Int} (h : ∀ i ∈ l, 0 ≤ i ∧ i < 6) (hl : l.length ≤ 6) : Tin 1 (.tuple (l.map .int)) := by
  have w : ∀ i : Int, 0 ≤ i → i < 6 → (PyData.int i).weight ≤ 3 := fun i h0 h1 => by
    have h3 : i.natAbs.log2 < 3 := PySem.Flt.log2_lt_of (by decide) (show i.natAbs < 2 ^ 3 from by omega)
    simp only [PyData.weight]
    split <;> omega
  have wa : ∀ l : List Int, (∀ i ∈ l, 0 ≤ i ∧ i < 6) → PyData.weightAll (l.map .int) ≤ 4 * l.length := fun l => by
    induction l with
    | nil => intro _; simp [PyData.weightAll]
    | cons a l ih =>
      intro h
      have q := ih fun i hi => h i (List.mem_cons_of_mem _ hi)
      have z := w a (h a List.mem_cons_self).1 (h a List.mem_cons_self).2
      simp only [List.map_cons, PyData.weightAll, List.length_cons]
      omega
  obtain ⟨a1, a2, a3, a4, a5⟩ := tin_all (k := 0) (ds := l.map .int) fun d hd => by
    obtain ⟨i, hi, rfl⟩ := List.mem_map.mp hd
    exact tin_small 0 (h i hi).1 (by have := (h i hi).2; omega)
  have q := wa l h
  refine ⟨?_, ?_, ?_, ?_, ?_⟩
  · show (decide ((l.map PyData.int).length < 1000) && smallAll (l.map .int)) = true
    rw [a1, decide_eq_true (by rw [List.length_map]; omega)]
    rfl
  · simp only [PyData.leavesShort, a2]
  · simp only [PyData.showable, a3]
  · simp only [PyData.weight]
    omega
  · simp only [PyData.depth]
    omega
/-- between the deed's statements: the word and three small new values -/
def InvD (b ra ta : Addr) (H : Hp) (o : Option V) (σ' : L2.St) (H' : Hp) : Prop := KB b H H' ∧ Bag H' b ∧ ∃ (wd : Str) (vh vt vw : V) (dh dt dw : PyData) (o2 : Option V), σ' = [some (.ref b), some (.ref ra), some (.ref ta), some (.str wd), some vh, some vt, some vw, o, o2] ∧ isWord wd ∧ (Tin 2 dh ∧ Tin 2 dt ∧ Tin 2 dw) ∧ Is (Nw H H') vh dh ∧ Is (Nw H H') vt dt ∧ Is (Nw H H') vw dw
theorem InvD.kb {b ra ta : Addr} {H H1 H2 : Hp} {o : Option V} {σ : L2.St} (hb : Bag H b) (h : InvD b ra ta H o σ H1) (k : KB b H1 H2) (b2 : Bag H2 b) : InvD b ra ta H o σ H2 := by
  obtain ⟨k1, b1, wd, vh, vt, vw, dh, dt, dw, o2, e, hw, hs, i1, i2, i3⟩ := h
  exact ⟨k1.trans k, b2, wd, vh, vt, vw, dh, dt, dw, o2, e, hw, hs, i1.same (k.nw hb), i2.same (k.nw hb), i3.same (k.nw hb)⟩
def C1 (b ra ta : Addr) (n : Int) (m : V) (xs : List V) : L2.St → Hp → Prop := fun σ H => Bag H b ∧ σ[0]? = some (some (.ref b)) ∧ σ[1]? = some (some (.ref ra)) ∧ σ[2]? = some (some (.ref ta)) ∧ H ra = some (.tup [.int n, m]) ∧ H ta = some (.tup xs)
theorem bag_tup {H : Hp} {b a : Addr} {xs : List V} (hb : Bag H b) (h : H a = some (.tup xs)) : a ≠ b := fun e => by
  obtain ⟨g, s, n, q⟩ := hb
  rw [e, q] at h
  cases h
theorem stb1 (b ra ta : Addr) (n : Int) (m : V) (xs : List V) : Stb b (C1 b ra ta n m xs) := ⟨fun _ _ h => h.1, fun _ _ h => h.2.1, fun _ _ _ ⟨h1, h2, h3, h4, h5, h6⟩ k hb => ⟨hb, h2, h3, h4, k _ _ h5 (bag_tup h1 h5), k _ _ h6 (bag_tup h1 h6)⟩⟩
section
variable {P : Program} {w : World} {K : PySem.W.Frag} {mg : Str → Option Value} {base : Heap}
theorem ok_modeL (F : Free mg) (D : Dn K mg "_law_mode" sModeL) (cD : C8.Cal P w K mg base 1 "_law_draw" spDraw []) : C8.Cal P w K mg base 2 "_law_mode" spModeL [] := by
  refine cal_of D sc_modeL (fun _ _ _ _ _ _ us hl => match us, hl with | [_, _], _ => rfl) (fun vs H Q E h => ?_) (fun f cdv A outer s H vs Q E hr h => ?_)
  · obtain ⟨b, n, rfl, _⟩ := h
    rfl
  · obtain ⟨b, n, rfl, hb, n0, n6, k⟩ := h
    refine ⟨_, pss_cons (ps_set (i := 2) sc_modeL.nd rfl (Or.inl rfl) (pe_callTy call_tuple_of (by rfl) F.tuple boot_tuple (pa_cons (pe_lc (own := [("_law_act", 3)]) (g := gName 3) (tt := tTest (tOp rEq (tCall spDraw [] C8.E0 (tCons (tVar 0) (tCons (tC (.int 3)) tNil))) (tC (.int 0)))) (te := tVar 3) rfl sc_modeL.nd
        (pi_range1 (by rfl) F.range (pa_cons (pv 1) pa_nil)) (blkOk_by (N := ["_law_bag_here", "_law_acts", "_law_means", "_law_act"]) (sc := defScope sModeL) (own := [("_law_act", 3)]) (by decide +kernel))
        (fun _ _ _ _ _ => by exact (pg_name (i := 3) sc_modeL.nd rfl (.inl rfl)))
        (fun _ _ _ _ _ => by exact (pts_one (by exact (pt_cmpR op_eq (by exact (C8.pe_c cD hr (by decide) (by rfl) (pa_cons (pv 0) (pa_cons pe_int pa_nil)))) pe_int (nomark _)))))
        (fun _ _ _ _ _ => by exact (pv 3))) pa_nil)))
      (pss_one (ps_ret (pe_tup (pa_cons (pe_callTy call_tuple_of (by rfl) F.tuple boot_tuple (pa_cons (pe_lc (own := [("_law_act", 3)]) (g := gName 3) (tt := tTest (tOp rEq (tCall spDraw [] C8.E0 (tCons (tVar 0) (tCons (tC (.int 2)) tNil))) (tC (.int 0)))) (te := tVar 3) rfl sc_modeL.nd
        (pi_tup (pv 2)) (blkOk_by (N := ["_law_bag_here", "_law_acts", "_law_means", "_law_act"]) (sc := defScope sModeL) (own := [("_law_act", 3)]) (by decide +kernel))
        (fun _ _ _ _ _ => by exact (pg_name (i := 3) sc_modeL.nd rfl (.inl rfl)))
        (fun _ _ _ _ _ => by exact (pts_one (by exact (pt_cmpR op_eq (by exact (C8.pe_c cD hr (by decide) (by rfl) (pa_cons (pv 0) (pa_cons pe_int pa_nil)))) pe_int (nomark _)))))
        (fun _ _ _ _ _ => by exact (pv 3))) pa_nil)) (pa_cons (pv 2) pa_nil))))), ?_⟩
    refine ⟨_, rfl, n, rfl, by omega, by omega, fun L nL => lc_range (lo := 0) (n := n.toNat) (fun i H' => KB b H H' ∧ Bag H' b ∧ ∃ l : List Int, H' L = some (.lst (l.map V.int)) ∧ l.length ≤ i ∧ ∀ z ∈ l, 0 ≤ z ∧ z < 6) ⟨.of (Same.new nL), hb.same (Same.new nL), [], upd_same, Nat.le_refl _, fun _ h => absurd h (by simp)⟩ (fun i H' hi p => ?_) (fun H' p => ?_)⟩
    · obtain ⟨k1, b1, l, hL, hl, hl6⟩ := p
      have nLb := hb.ne nL
      refine ⟨rfl, ?_⟩
      refine ⟨_, rfl, b, 3, rfl, b1, by decide, by decide, fun d H2 d0 d1 k2 b2 nn => ⟨rfl, _, rfl, ?_⟩⟩
      have hL2 := k2 _ _ hL nLb
      refine ite2 (fun c => ?_) (fun c => ?_)
      · refine ⟨_, rfl, _, hL2, lt1000 (by rw [List.length_map]; omega), (k1.trans k2).set nL, b2.put nLb, l ++ [0 + (i : Int)], by rw [upd_same, List.map_append]; rfl, by rw [List.length_append]; simp only [List.length_cons, List.length_nil]; omega, fun z hz => ?_⟩
        rcases List.mem_append.mp hz with hz | hz
        · exact hl6 z hz
        · rw [List.mem_singleton.mp hz]
          exact ⟨by omega, by omega⟩
      · exact ⟨k1.trans k2, b2, l, hL2, by omega, hl6⟩
    · obtain ⟨k1, b1, l, hL, hl, hl6⟩ := p
      refine ⟨L, _, rfl, .inl ⟨.of hL, fun q nq => ?_⟩⟩
      have s1 := Same.new (o := HO.tup (l.map V.int)) nq
      have k2 := k1.trans (.of s1)
      have b2 := b1.same s1
      refine ⟨_, rfl, q, rfl, ⟨_, .of upd_same⟩, fun G nG => lc_tup (K := K) (a := q) (xs := l.map V.int) (fun i H' => KB b (upd _ q (.tup (l.map V.int))) H' ∧ Bag H' b ∧ ∃ m : List Int, H' G = some (.lst (m.map V.int)) ∧ m.length ≤ i ∧ ∀ z ∈ m, 0 ≤ z ∧ z < 6) ⟨.of (Same.new nG), b2.same (Same.new nG), [], upd_same, Nat.le_refl _, fun _ h => absurd h (by simp)⟩ (fun i H' _ p => .of (p.1 _ _ upd_same (bag_tup b2 upd_same))) (fun i z H' hz p => ?_) (fun H' p => ?_)⟩
      · obtain ⟨k3, b3, m, hG, hm, hm6⟩ := p
        have nGb := b2.ne nG
        rw [List.getElem?_map] at hz
        obtain ⟨z0, hz0, rfl⟩ := Option.map_eq_some_iff.mp hz
        have hlt := lt_get hz0
        refine ⟨rfl, ?_⟩
        refine ⟨_, rfl, b, 2, rfl, b3, by decide, by decide, fun d H2 d0 d1 k4 b4 nn => ⟨rfl, _, rfl, ?_⟩⟩
        have hG2 := k4 _ _ hG nGb
        refine ite2 (fun c => ?_) (fun c => ?_)
        · refine ⟨_, rfl, _, hG2, lt1000 (by rw [List.length_map]; omega), (k3.trans k4).set nG, b4.put nGb, m ++ [z0], by rw [upd_same, List.map_append]; rfl, by rw [List.length_append]; simp only [List.length_cons, List.length_nil]; omega, fun z hz => ?_⟩
          rcases List.mem_append.mp hz with hz | hz
          · exact hm6 z hz
          · rw [List.mem_singleton.mp hz]
            exact hl6 z0 (List.mem_of_getElem? hz0)
        · exact ⟨k3.trans k4, b4, m, hG2, by omega, hm6⟩
      · obtain ⟨k3, b3, m, hG, hm, hm6⟩ := p
        rw [List.length_map] at hm
        refine ⟨G, _, rfl, .inl ⟨.of hG, fun q2 nq2 => ?_⟩⟩
        have s4 := Same.new (o := HO.tup (m.map V.int)) nq2
        refine ⟨_, rfl, (by show 2 ≤ sizeLine; decide), fun q3 nq3 => ?_⟩
        have s5 := Same.new (o := HO.tup [.ref q2, .ref q]) nq3
        have k35 := k3.trans (.of (s4.trans s5))
        have b5 := b3.same (s4.trans s5)
        have hq := k35 _ _ upd_same (bag_tup b2 upd_same)
        have nq2' := k3.free nq2 (b3.ne nq2)
        have f0 : ∀ {c}, (upd H' q2 (.tup (m.map V.int))) c = none → H' c = none := fun {c} e => s4.free e
        have nH2 : H q2 = none := k2.free nq2' (b2.ne nq2')
        have nq3' := k3.free (s4.free nq3) (b3.ne (s4.free nq3))
        have nH3 : H q3 = none := k2.free nq3' (b2.ne nq3')
        have nHq : H q = none := k1.free nq (b1.ne nq)
        refine k _ (.tuple [.tuple (m.map .int), .tuple (l.map .int)]) _ (k2.trans k35) b5 ?_ (.tup (xs := [.ref q2, .ref q]) ?_ (.cons (is_lot_mk (l := m) ?_) (.cons (is_lot_mk (l := l) ?_) .nil)))
        · refine (tin_seq (k := 1) (ds := [.tuple (m.map .int), .tuple (l.map .int)]) (fun d hd => ?_) (Nat.le_refl 2)).1
          rcases List.mem_cons.mp hd with rfl | hd
          · exact tin_ints hm6 (by omega)
          · rw [List.mem_singleton.mp hd]
            exact tin_ints hl6 (by omega)
        · rw [Nw.at_ nH3]
          exact upd_same
        · rw [Nw.at_ nH2]
          exact s5 _ _ upd_same
        · rw [Nw.at_ nHq]
          exact hq
theorem ok_deed (F : Free mg) (D : Dn K mg "_law_deed" sDeed) (cD : C8.Cal P w K mg base 1 "_law_draw" spDraw []) (cP : C8.Cal P w K mg base 2 "_law_pick" spPick []) (cO : C8.Cal P w K mg base 3 "_law_odd" spOdd []) (cM : C8.Cal P w K mg base 2 "_law_mode" spModeL []) : C8.Cal P w K mg base 4 "_law_deed" spDeed [] := by
  refine cal_of D sc_deed (fun _ _ _ _ _ _ us hl => match us, hl with | [_, _, _], _ => rfl) (fun vs H Q E h => ?_) (fun f cdv A outer s H vs Q E hr h => ?_)
  · obtain ⟨b, u, v, r, t, rfl, _⟩ := h
    rfl
  · obtain ⟨b, u, v, r, t, rfl, hb, hu, hv, hR, hT, k⟩ := h
    obtain ⟨ra, m, rfl, hra, _⟩ := hu.rules
    obtain ⟨ta, xs, rfl, hta, ixs⟩ := hv.tup_inv
    have hlx := ixs.length
    rw [List.length_map] at hlx
    have hlo := hT.lo
    have hhi := hT.hi
    have rlo := hR.ok.lo
    have rhi := hR.ok.hi
    have S := stb1 b ra ta r.1 m xs
    have odd : ∀ {p1 p2 p3 : Pos}, PE (cxOf C8.CX0 P w K mg base ["_law_bag_here", "_law_rules_here", "_law_tree_here", "_law_word", "_law_holder", "_law_thing", "_law_what", "_law_way", "_law_some"] "_law_deed" (defScope sDeed) f cdv A outer s H E).nox (.Call (.Name "_law_odd" p1) [.Name "_law_bag_here" p2] [] p3) (tSm b (C1 b ra ta r.1 m xs) 2) := fun {p1 p2 p3} => wkE (C8.pe_c cO hr (by decide) (by rfl) (pa_cons (pv 0) pa_nil)) fun σ H Q ⟨c, k⟩ => ⟨_, c.2.1, b, rfl, c.1, k⟩
    have r0 : ∀ {lv : Nat} {p1 p2 p3 : Pos} {j}, PE (cxOf C8.CX0 P w K mg base ["_law_bag_here", "_law_rules_here", "_law_tree_here", "_law_word", "_law_holder", "_law_thing", "_law_what", "_law_way", "_law_some"] "_law_deed" (defScope sDeed) f cdv A outer s H E).nox (.Subscript (.Name "_law_rules_here" p1) (.Constant (.int 0) j p2) p3) (tSm b (C1 b ra ta r.1 m xs) lv) := fun {lv p1 p2 p3 j} => wkE (pe_ix ixT (pv 1) pe_int (fun _ _ => rfl)) fun σ H Q ⟨c, k⟩ => ⟨_, c.2.2.1, ra, _, 0, .int r.1, rfl, rfl, c.2.2.2.2.1, atI_nat (j := 0) rfl, k _ (.int r.1) H (KB.refl b H) c.1 (tin_small _ (by omega) (by omega)) (.int _)⟩
    have ln : ∀ {p1 p2 p3 : Pos}, PE (cxOf C8.CX0 P w K mg base ["_law_bag_here", "_law_rules_here", "_law_tree_here", "_law_word", "_law_holder", "_law_thing", "_law_what", "_law_way", "_law_some"] "_law_deed" (defScope sDeed) f cdv A outer s H E).nox (.Call (.Name "len" p1) [.Name "_law_tree_here" p2] [] p3) (tSm b (C1 b ra ta r.1 m xs) 2) := fun {p1 p2 p3} => wkE (pe_callB callLen (by rfl) F.len PySem.boot_len (pa_cons (pv 2) pa_nil)) fun σ H Q ⟨c, k⟩ => ⟨_, c.2.2.2.1, ta, xs, rfl, .inl c.2.2.2.2.2, k _ (.int _) H (KB.refl b H) c.1 (tin_small _ (by omega) (by omega)) (.int _)⟩
    refine ⟨_, pss_cut (ps_set (i := 3) sc_deed.nd rfl (Or.inl rfl) (C8.pe_c cP hr (by decide) (by rfl) (pa_cons (pv 0) (pa_cons (pe_lst (pa_cons pe_str (pa_cons pe_str (pa_cons pe_str (pa_cons pe_str (pa_cons pe_str (pa_cons pe_str (pa_cons pe_str (pa_cons pe_str pa_nil))))))))) pa_nil))))
      (pss_cons (ps_par3 (i := 4) (j := 5) (l := 6) rfl sc_deed.nd rfl rfl rfl (by decide) (by decide) (by decide) rfl rfl rfl (pa_cons (C8.pe_c cD hr (by decide) (by rfl) (pa_cons (pv 0) (pa_cons pe_int pa_nil))) (pa_cons (C8.pe_c cD hr (by decide) (by rfl) (pa_cons (pv 0) (pa_cons (pe_callB callLen (by rfl) F.len PySem.boot_len (pa_cons (pv 2) pa_nil)) pa_nil))) (pa_cons (C8.pe_c cD hr (by decide) (by rfl) (pa_cons (pv 0) (pa_cons (pe_ix ixT (pv 1) pe_int (fun _ _ => rfl)) pa_nil))) pa_nil))) rfl)
      (pss_cut (ps_if (pt_cmpR op_eq (pv 3) pe_str (nomark _)) (pss_one (ps_set (i := 6) sc_deed.nd rfl (Or.inl rfl) (C8.pe_c cM hr (by decide) (by rfl) (pa_cons (pv 0) (pa_cons (pe_ix ixT (pv 1) pe_int (fun _ _ => rfl)) pa_nil))))) pss_nil)
      (pss_cons (ps_set (i := 7) sc_deed.nd rfl (Or.inl rfl) (C8.pe_c cD hr (by decide) (by rfl) (pa_cons (pv 0) (pa_cons pe_int pa_nil))))
      (pss_cut (ps_if (PW.pt (pw_and (pt_cmpR op_in_seq (pv 7) (pe_tup (pa_cons pe_int (pa_cons pe_int pa_nil))) (by with_unfolding_all rfl)) (pw_and1 (pt_cmpR op_ne (pv 3) pe_str (nomark _)))))
        (pss_one (ps_set (i := 4) sc_deed.nd rfl (Or.inl rfl) (C8.pe_c cP hr (by decide) (by rfl) (pa_cons (pv 0) (pa_cons (psm_lstL (b := b) (C := C1 b ra ta r.1 m xs) (n := 6) (psm_cons S (psm_int S) (psm_cons S (psm_neg S) (psm_cons S (psm_bl S) (psm_cons S (psm_non S) (psm_cons S (psm_str S) (psm_cons S odd (psm_nil S))))))) (by decide)) pa_nil))))) pss_nil)
      (pss_cut (ps_if (pt_cmpR op_in_seq (pv 7) (pe_tup (pa_cons pe_int (pa_cons pe_int pa_nil))) (by with_unfolding_all rfl))
        (pss_one (ps_set (i := 5) sc_deed.nd rfl (Or.inl rfl) (C8.pe_c cP hr (by decide) (by rfl) (pa_cons (pv 0) (pa_cons (psm_lstL (b := b) (C := C1 b ra ta r.1 m xs) (n := 7) (psm_cons S ln (psm_cons S (psm_neg S) (psm_cons S (psm_bl S) (psm_cons S (psm_non S) (psm_cons S (psm_str S) (psm_cons S (psm_tup S (psm_cons S (psm_int S) (psm_nil S)) (by decide)) (psm_cons S odd (psm_nil S)))))))) (by decide)) pa_nil))))) pss_nil)
      (pss_cut (ps_if (pt_cmpR op_in_seq (pv 7) (pe_tup (pa_cons pe_int (pa_cons pe_int pa_nil))) (by with_unfolding_all rfl))
        (pss_cons (ps_set (i := 8) sc_deed.nd rfl (Or.inl rfl) (psm_lstL (b := b) (C := C1 b ra ta r.1 m xs) (n := 9) (psm_cons S r0 (psm_cons S (psm_neg S) (psm_cons S (psm_bl S) (psm_cons S (psm_non S)
          (psm_cons S (psm_tup S (psm_cons S (psm_tup S (psm_cons S (psm_int S) (psm_nil S)) (by decide)) (psm_cons S (psm_tup S (psm_nil S) (by decide)) (psm_nil S))) (by decide))
          (psm_cons S (psm_tup S (psm_cons S (psm_tup S (psm_cons S r0 (psm_nil S)) (by decide)) (psm_cons S (psm_tup S (psm_cons S r0 (psm_nil S)) (by decide)) (psm_nil S))) (by decide))
          (psm_cons S (psm_tup S (psm_cons S (psm_tup S (psm_nil S) (by decide)) (psm_cons S (psm_lst S (psm_cons S (psm_int S) (psm_nil S)) (by decide)) (psm_nil S))) (by decide))
          (psm_cons S (psm_tup S (psm_cons S (psm_tup S (psm_cons S (psm_int S) (psm_cons S (psm_int S) (psm_nil S))) (by decide)) (psm_cons S (psm_tup S (psm_cons S (psm_int S) (psm_cons S (psm_int S) (psm_nil S))) (by decide)) (psm_nil S))) (by decide))
          (psm_cons S odd (psm_nil S)))))))))) (by decide)))
        (pss_one (ps_set (i := 6) sc_deed.nd rfl (Or.inl rfl) (C8.pe_c cP hr (by decide) (by rfl) (pa_cons (pv 0) (pa_cons (pe_op op_cat (pv 8) (psm_lstL (b := b) (C := C1 b ra ta r.1 m xs) (n := 5)
          (psm_cons S (psm_tup S (psm_cons S (psm_tup S (psm_cons S (psm_bl S) (psm_nil S)) (by decide)) (psm_cons S (psm_tup S (psm_cons S (psm_bl S) (psm_nil S)) (by decide)) (psm_nil S))) (by decide))
          (psm_cons S (psm_tup S (psm_cons S (psm_tup S (psm_nil S) (by decide)) (psm_cons S (psm_tup S (psm_cons S (psm_bl S) (psm_nil S)) (by decide)) (psm_nil S))) (by decide))
          (psm_cons S (psm_tup S (psm_cons S (psm_tup S (psm_cons S (psm_int S) (psm_nil S)) (by decide)) (psm_cons S (psm_tup S (psm_cons S (psm_bl S) (psm_nil S)) (by decide)) (psm_nil S))) (by decide))
          (psm_cons S (psm_tup S (psm_cons S (psm_tup S (psm_cons S (psm_bl S) (psm_nil S)) (by decide)) (psm_cons S (psm_tup S (psm_cons S (psm_int S) (psm_nil S)) (by decide)) (psm_nil S))) (by decide))
          (psm_cons S (psm_tup S (psm_cons S (psm_tup S (psm_cons S (psm_bl S) (psm_nil S)) (by decide)) (psm_cons S (psm_tup S (psm_cons S (psm_bl S) (psm_nil S)) (by decide)) (psm_nil S))) (by decide)) (psm_nil S)))))) (by decide))) pa_nil)))))) pss_nil)
      (pss_one (ps_ret (pe_tup (pa_cons (pv 3) (pa_cons (pv 4) (pa_cons (pv 5) (pa_cons (pv 6) pa_nil))))))))))))), ?_⟩
    have tA : ∀ {H' : Hp}, KB b H H' → H' ra = some (.tup [.int r.1, m]) ∧ H' ta = some (.tup xs) := fun k1 => ⟨k1 _ _ hra (bag_tup hb hra), k1 _ _ hta (bag_tup hb hta)⟩
    refine ⟨fun σ' H' => KB b H H' ∧ Bag H' b ∧ ∃ wd : Str, isWord wd ∧ σ' = [some (.ref b), some (.ref ra), some (.ref ta), some (.str wd), none, none, none, none, none], ⟨_, rfl, (by show 8 ≤ sizeLine; decide), fun a na => ?_⟩, ?_⟩
    · have s1 := Same.new (o := HO.lst [V.str "ask", .str "ask", .str "ask", .str "ask", .str "take", .str "take", .str "leave", .str "undo"]) na
      refine ⟨b, a, _, rfl, hb.same s1, upd_same, hb.ne na, by decide, by decide, fun v hv H2 k2 b2 nn => ?_⟩
      have q : ∃ wd, v = .str wd ∧ isWord wd := by
        simp only [List.mem_cons, List.not_mem_nil, or_false] at hv
        unfold isWord
        rcases hv with rfl | rfl | rfl | rfl | rfl | rfl | rfl | rfl <;> exact ⟨_, rfl, by simp⟩
      obtain ⟨wd, rfl, hw⟩ := q
      exact ⟨(KB.of s1).trans k2, b2, wd, hw, rfl⟩
    rintro σ' H1 ⟨k1, b1, wd, hw, rfl⟩
    refine ⟨_, rfl, b, 4, rfl, b1, by decide, by decide, fun x1 H2 x10 x11 k2 b2 _ => ⟨_, rfl, _, rfl, ta, xs, rfl, .inl (tA (k1.trans k2)).2, b, _, rfl, b2, by omega, by omega, fun x2 H3 x20 x21 k3 b3 _ => ?_⟩⟩
    refine ⟨_, rfl, _, rfl, ra, _, 0, .int r.1, rfl, rfl, (tA ((k1.trans k2).trans k3)).1, atI_nat (j := 0) rfl, b, r.1, rfl, b3, by omega, by omega, fun x3 H4 x30 x31 k4 b4 _ => ⟨_, _, _, rfl, ?_⟩⟩
    have k14 := ((k1.trans k2).trans k3).trans k4
    have I0 : InvD b ra ta H none [some (.ref b), some (.ref ra), some (.ref ta), some (.str wd), some (.int x1), some (.int x2), some (.int x3), none, none] H4 := ⟨k14, b4, wd, _, _, _, .int x1, .int x2, .int x3, none, rfl, hw, ⟨tin_small 2 x10 (by omega), tin_small 2 x20 (by omega), tin_small 2 x30 (by omega)⟩, .int _, .int _, .int _⟩
    have tx1 : Tin 2 (.int x1) := tin_small 2 x10 (by omega)
    have tx2 : Tin 2 (.int x2) := tin_small 2 x20 (by omega)
    clear k14 x30 x31 x20 x21 x10 x11
    refine ⟨InvD b ra ta H none, ⟨_, rfl, rfl, _, rfl, ite2 (fun c => ?_) (fun c => I0)⟩, ?_⟩
    · refine ⟨_, rfl, _, rfl, ra, _, 0, .int r.1, rfl, rfl, (tA I0.1).1, atI_nat (j := 0) rfl, b, r.1, rfl, b4, by omega, by omega, fun v d H5 k5 b5 hd hi => ?_⟩
      exact ⟨I0.1.trans k5, b5, wd, _, _, _, .int x1, .int x2, d, none, rfl, hw, ⟨tx1, tx2, hd⟩, .int _, .int _, nw_lift b4 I0.1 (KB.refl _ _) hi⟩
    clear I0
    intro σ2 H5 I1
    obtain ⟨k5, b5, wd2, vh, vt, vw, dh, dt, dw, o2, rfl, hw2, hs, i1, i2, i3⟩ := I1
    refine ⟨_, rfl, b, 15, rfl, b5, by decide, by decide, fun y H6 y0 y1 k6 b6 _ => ?_⟩
    have I2 : InvD b ra ta H (some (.int y)) [some (.ref b), some (.ref ra), some (.ref ta), some (.str wd2), some vh, some vt, some vw, some (.int y), o2] H6 := ⟨k5.trans k6, b6, wd2, vh, vt, vw, dh, dt, dw, o2, rfl, hw2, hs, i1.same (k6.nw hb), i2.same (k6.nw hb), i3.same (k6.nw hb)⟩
    refine ⟨InvD b ra ta H (some (.int y)), ⟨_, rfl, (by show 2 ≤ sizeLine; decide), fun p np => ⟨p, _, rfl, .inr (.of upd_same), rfl, rfl, _, rfl, ?_⟩⟩, ?_⟩
    · have s7 := Same.new (o := HO.tup [V.int 0, .int 3]) np
      have I3 := I2.kb hb (.of s7) (b6.same s7)
      refine ite2 (fun c => ?_) (fun c => I3)
      refine ⟨_, rfl, rfl, _, rfl, ite2 (fun c => ?_) (fun c => I3)⟩
      have k7 := I3.1
      have b7 := I3.2.1
      refine ⟨_, rfl, ⟨b7, rfl, rfl, rfl, (tA k7).1, (tA k7).2⟩, fun a vs ds H8 k8 b8 n8 e8 l8 hs8 i8 => ⟨b, a, vs, rfl, b8, e8, b7.ne n8, by omega, by omega, fun v hv H9 k9 b9 nn => ?_⟩⟩
      obtain ⟨d, hd, hi⟩ := smallAll_mem i8 hs8 hv
      have I4 := (I3.kb hb k8 b8).kb hb k9 b9
      obtain ⟨g1, g2, wd3, vh3, vt3, vw3, dh3, dt3, dw3, o3, ge, gw, gs, j1, j2, j3⟩ := I4
      cases ge
      exact ⟨g1, g2, wd2, v, vt, vw, d, dt3, dw3, o2, rfl, gw, ⟨hd, gs.2⟩, nw_lift b7 k7 k9 hi, j2, j3⟩
    clear I2
    intro σ3 H7 I1
    obtain ⟨k7, b7, wd3, vh3, vt3, vw3, dh3, dt3, dw3, o3, rfl, hw3, hs3, j1, j2, j3⟩ := id I1
    refine ⟨InvD b ra ta H (some (.int y)), ⟨_, rfl, (by show 2 ≤ sizeLine; decide), fun p np => ⟨p, _, rfl, .inr (.of upd_same), rfl, rfl, _, rfl, ?_⟩⟩, ?_⟩
    · have s7 := Same.new (o := HO.tup [V.int 1, .int 3]) np
      have I3 := I1.kb hb (.of s7) (b7.same s7)
      refine ite2 (fun c => ?_) (fun c => I3)
      have k7 := I3.1
      have b7 := I3.2.1
      refine ⟨_, rfl, ⟨b7, rfl, rfl, rfl, (tA k7).1, (tA k7).2⟩, fun a vs ds H8 k8 b8 n8 e8 l8 hs8 i8 => ⟨b, a, vs, rfl, b8, e8, b7.ne n8, by omega, by omega, fun v hv H9 k9 b9 nn => ?_⟩⟩
      obtain ⟨d, hd, hi⟩ := smallAll_mem i8 hs8 hv
      have I4 := (I3.kb hb k8 b8).kb hb k9 b9
      obtain ⟨g1, g2, wd3, vh3, vt3, vw3, dh3, dt3, dw3, o3, ge, gw, gs, j1, j2, j3⟩ := I4
      cases ge
      exact ⟨g1, g2, _, _, v, _, dh3, d, dw3, _, rfl, gw, ⟨gs.1, hd, gs.2.2⟩, j1, nw_lift b7 k7 k9 hi, j3⟩
    clear I1
    intro σ4 H8 I1
    clear k7 b7 hw3 hs3 j1 j2 j3
    obtain ⟨k7, b7, wd3, vh3, vt3, vw3, dh3, dt3, dw3, o3, rfl, hw3, hs3, j1, j2, j3⟩ := id I1
    refine ⟨InvD b ra ta H (some (.int y)), ⟨_, rfl, (by show 2 ≤ sizeLine; decide), fun p np => ⟨p, _, rfl, .inr (.of upd_same), rfl, rfl, _, rfl, ?_⟩⟩, ?_⟩
    · have s7 := Same.new (o := HO.tup [V.int 2, .int 3]) np
      have I3 := I1.kb hb (.of s7) (b7.same s7)
      refine ite2 (fun c => ?_) (fun c => I3)
      have k7 := I3.1
      have b7 := I3.2.1
      refine ⟨⟨b7, rfl, rfl, rfl, (tA k7).1, (tA k7).2⟩, fun a1 vs1 ds1 H9 k9 b9 n9 e9 l9 hs9 i9 => ?_⟩
      have k79 := k7.trans k9
      refine ⟨_, rfl, _, rfl, ⟨b9, rfl, rfl, rfl, (tA k79).1, (tA k79).2⟩, fun a2 vs2 ds2 H10 k10 b10 n10 e10 l10 hs10 i10 => ?_⟩
      have e12 := k10 _ _ e9 (b7.ne n9)
      refine ⟨a1, a2, vs1, vs2, rfl, rfl, e12, e10, Nat.le_of_lt (lt1000 (by omega)), fun q nq => ?_⟩
      have s11 := Same.new (o := HO.lst (vs1 ++ vs2)) nq
      have b11 := b10.same s11
      refine ⟨b, q, vs1 ++ vs2, rfl, b11, upd_same, b10.ne nq, by rw [List.length_append]; omega, by rw [List.length_append]; omega, fun v hv H12 k12 b12 nn => ?_⟩
      have kz := (KB.of (b := b) s11).trans k12
      have m1 := IsAll.same (fun c o e => Nw.down (H2 := H12) (k7.dom b7) _ _ (KB.nw b7 (k10.trans kz) _ _ e)) i9
      have m2 := IsAll.same (fun c o e => Nw.down (H2 := H12) (k79.dom b9) _ _ (KB.nw b9 kz _ _ e)) i10
      obtain ⟨d, hd, hi⟩ := smallAll_mem (m1.append m2) (smallAll_app hs9 hs10) hv
      have I4 := ((I3.kb hb k9 b9).kb hb k10 b10).kb hb kz b12
      obtain ⟨g1, g2, wd4, vh4, vt4, vw4, dh4, dt4, dw4, o4, ge, gw, gs, j1, j2, j3⟩ := I4
      cases ge
      exact ⟨g1, g2, _, _, _, v, dh4, dt4, d, _, rfl, gw, ⟨gs.1, gs.2.1, hd⟩, j1, j2, hi⟩
    clear I1
    intro σ5 H9 I1
    clear k7 b7 hw3 hs3 j1 j2 j3
    obtain ⟨k7, b7, wd3, vh3, vt3, vw3, dh3, dt3, dw3, o3, rfl, hw3, hs3, j1, j2, j3⟩ := I1
    refine ⟨_, rfl, _, rfl, _, rfl, _, rfl, (by show 4 ≤ sizeLine; decide), fun q nq => ?_⟩
    have s10 := Same.new (o := HO.tup [.str wd3, vh3, vt3, vw3]) nq
    have kz : KB b H9 _ := .of s10
    exact k q wd3 vh3 vt3 vw3 dh3 dt3 dw3 _ (k7.trans kz) (b7.same s10) (k7.free nq (b7.ne nq)) upd_same hw3 hs3.1 hs3.2.1 hs3.2.2 (j1.same (kz.nw hb)) (j2.same (kz.nw hb)) (j3.same (kz.nw hb))
end
end HM
/-! Drawn rules; what a holder may do, by the law's own look. -/
namespace HM
open PySem PySem.Spec PyProof.Rows L2
structure PL (n : Int) (i : Nat) (L : List (Int × Int)) : Prop where
  up : L.Pairwise ltP
  ok : ∀ p ∈ L, 0 ≤ p.1 ∧ p.1 ≤ p.2 ∧ p.2 < n ∧ p.1 < i
  len : L.length ≤ 6 * i
structure PM (i : Int) (k : Nat) (M : List (Int × Int)) : Prop where
  up : M.Pairwise ltP
  ok : ∀ p ∈ M, p.1 = i ∧ i ≤ p.2 ∧ p.2 < i + k
  len : M.length ≤ k
theorem PM.snoc {i : Int} {k : Nat} {M : List (Int × Int)} (h : PM i k M) : PM i (k + 1) (M ++ [(i, i + k)]) := by
  refine ⟨List.pairwise_append.mpr ⟨h.up, List.pairwise_singleton _ _, fun p hp q hq => ?_⟩, fun p hp => ?_, ?_⟩
  · rw [List.mem_singleton.mp hq]
    obtain ⟨a, b, c⟩ := h.ok p hp
    exact .inr ⟨a, c⟩
  · rcases List.mem_append.mp hp with hp | hp
    · obtain ⟨a, b, c⟩ := h.ok p hp
      exact ⟨a, b, by omega⟩
    · rw [List.mem_singleton.mp hp]
      refine ⟨rfl, ?_, ?_⟩ <;> dsimp only <;> omega
  · have := h.len
    rw [List.length_append]
    simp only [List.length_cons, List.length_nil]
    omega
theorem PM.skip {i : Int} {k : Nat} {M : List (Int × Int)} (h : PM i k M) : PM i (k + 1) M := by
  refine ⟨h.up, fun p hp => ?_, by have := h.len; omega⟩
  obtain ⟨a, b, c⟩ := h.ok p hp
  exact ⟨a, b, by omega⟩
theorem PL.app {n : Int} {i : Nat} {L M : List (Int × Int)} (h : PL n i L) (g : PM i (n - i).toNat M) (hi : (i : Int) < n) (hn : n ≤ 6) : PL n (i + 1) (L ++ M) := by
  refine ⟨List.pairwise_append.mpr ⟨h.up, g.up, fun p hp q hq => ?_⟩, fun p hp => ?_, ?_⟩
  · obtain ⟨a, b, c, d⟩ := h.ok p hp
    obtain ⟨a2, b2, c2⟩ := g.ok q hq
    exact .inl (by omega)
  · rcases List.mem_append.mp hp with hp | hp
    · obtain ⟨a, b, c, d⟩ := h.ok p hp
      exact ⟨a, b, c, by omega⟩
    · obtain ⟨a2, b2, c2⟩ := g.ok p hp
      exact ⟨by omega, by omega, by omega, by omega⟩
  · have := h.len
    have := g.len
    rw [List.length_append]
    omega
section
variable {P : Program} {w : World} {K : PySem.W.Frag} {mg : Str → Option Value} {base : Heap}
theorem ok_rulesL (F : Free mg) (D : Dn K mg "_law_rules" sRulesL) (cD : C8.Cal P w K mg base 1 "_law_draw" spDraw []) : C8.Cal P w K mg base 2 "_law_rules" spRulesL [] := by
  refine cal_of D sc_rulesL (fun _ _ _ _ _ _ us hl => match us, hl with | [_], _ => rfl) (fun vs H Q E h => ?_) (fun f cdv A outer s H vs Q E hr h => ?_)
  · obtain ⟨b, rfl, _⟩ := h
    rfl
  · obtain ⟨b, rfl, hb, k⟩ := h
    refine ⟨_, pss_cons (ps_set (i := 1) sc_rulesL.nd rfl (Or.inl rfl) (pe_op op_add pe_int (C8.pe_c cD hr (by decide) (by rfl) (pa_cons (pv 0) (pa_cons pe_int pa_nil)))))
      (pss_cons (ps_asg (pe_tup (pa_cons (pe_op op_add pe_int (C8.pe_c cD hr (by decide) (by rfl) (pa_cons (pv 0) (pa_cons pe_int pa_nil)))) (pa_cons (pe_lst pa_nil) pa_nil))) (pgT rfl (pgs_cons (pg_name (i := 2) sc_rulesL.nd rfl (Or.inr rfl)) (pgs_cons (pg_name (i := 3) sc_rulesL.nd rfl (Or.inl rfl)) pgs_nil))))
      (pss_cons (ps_for PassesOwn.never rfl (pi_range1 (by rfl) F.range (pa_cons (pv 1) pa_nil)) (pg_name (i := 4) sc_rulesL.nd rfl (Or.inr rfl))
        (pss_one (ps_set (i := 3) sc_rulesL.nd rfl (Or.inl rfl) (pe_op op_cat (pv 3) (pe_lc (own := [("_law_other", 5)]) (g := gName 5)
          (tt := tTest (tOp (rI0 fun i j => V.bl (decide (j < i))) (tCall spDraw [] C8.E0 (tCons (tVar 0) (tCons (tOp (rI0 fun i j => V.int (i + j)) (tVar 2) (tC (.int 1))) tNil))) (tC (.int 0)))) (te := tTup (tCons (tVar 4) (tCons (tVar 5) tNil))) rfl sc_rulesL.nd
          (pi_range2 (by rfl) F.range (pa_cons (pv 4) (pa_cons (pv 1) pa_nil))) (blkOk_by (N := ["_law_bag_here", "_law_acts", "_law_often", "_law_found", "_law_one", "_law_other"]) (sc := defScope sRulesL) (own := [("_law_other", 5)]) (by decide +kernel))
          (fun _ _ _ _ _ => by exact (pg_name (i := 5) sc_rulesL.nd rfl (.inl rfl)))
          (fun _ _ _ _ _ => by exact (pts_one (by exact (pt_cmpR op_gt (by exact (C8.pe_c cD hr (by decide) (by rfl) (pa_cons (pv 0) (pa_cons (pe_op op_add (pv 2) pe_int) pa_nil)))) pe_int (nomark _)))))
          (fun _ _ _ _ _ => by exact (pe_tup (pa_cons (pv 4) (pa_cons (pv 5) pa_nil)))))))))
      (pss_one (ps_ret (pe_tup (pa_cons (pv 1) (pa_cons (pe_callTy call_tuple_of (by rfl) F.tuple boot_tuple (pa_cons (pv 3) pa_nil)) pa_nil))))))), ?_⟩
    refine ⟨_, rfl, b, 6, rfl, hb, by decide, by decide, fun d H1 d0 d1 k1 b1 _ => ⟨_, _, rfl, rfl, ?_⟩⟩
    refine ⟨_, rfl, b, 3, rfl, b1, by decide, by decide, fun e H2 e0 e1 k2 b2 _ => ⟨_, _, rfl, rfl, (by show 0 ≤ sizeLine; decide), fun G nG => ⟨(by show 2 ≤ sizeLine; decide), fun q0 nq0 => ⟨q0, _, rfl, upd_same, rfl, _, _, rfl, _, _, rfl, rfl, ?_⟩⟩⟩⟩
    have s3 := (Same.new (o := HO.lst ([] : List V)) nG).trans (Same.new (o := HO.tup [V.int (1 + e), .ref G]) nq0)
    have k3 := (k1.trans k2).trans (.of s3)
    have b3 := b2.same s3
    have nGb := b2.ne nG
    have hG0 := (Same.new (o := HO.tup [V.int (1 + e), .ref G]) nq0) _ _ (upd_same (H := H2) (a := G) (o := HO.lst ([] : List V)))
    refine ⟨_, rfl, _, rfl, by omega, by omega, ?_⟩
    refine for_range (lo := 0) (n := ((1 + d : Int)).toNat) (fun i σ' H' => KB b H H' ∧ Bag H' b ∧ ∃ (G : Addr) (ys : List V) (L : List (Int × Int)) (o4 o5 : Option V), σ' = [some (.ref b), some (.int (1 + d)), some (.int (1 + e)), some (.ref G), o4, o5] ∧ H' G = some (.lst ys) ∧ G ≠ b ∧ IsAll H' ys (L.map cPair) ∧ PL (1 + d) i L) ⟨k3, b3, G, [], [], _, _, rfl, hG0, nGb, .nil, ⟨.nil, fun _ h => absurd h (by simp), Nat.le_refl _⟩⟩ (fun i σ' H' hi inv => ?_) (fun σ' H' inv => ?_)
    · obtain ⟨k4, b4, G, ys, L, o4, o5, rfl, hG, nGb, iys, pl⟩ := inv
      refine ⟨_, rfl, _, rfl, _, rfl, 0 + (i : Int), 1 + d, rfl, ⟨by omega, by omega, by omega, by omega⟩, fun Dl nD => lc_range (lo := 0 + (i : Int)) (n := (1 + d - (0 + (i : Int))).toNat) (fun k H5 => KB b H' H5 ∧ Bag H5 b ∧ ∃ (zs : List V) (M : List (Int × Int)), H5 Dl = some (.lst zs) ∧ IsAll H5 zs (M.map cPair) ∧ PM i k M) ⟨.of (Same.new nD), b4.same (Same.new nD), [], [], upd_same, .nil, ⟨.nil, fun _ h => absurd h (by simp), Nat.le_refl _⟩⟩ (fun j H5 hj inv => ?_) (fun H5 inv => ?_)⟩
      · obtain ⟨k5, b5, zs, M, hD, izs, pm⟩ := inv
        have nDb := b4.ne nD
        refine ⟨rfl, ?_⟩
        refine ⟨_, rfl, _, rfl, _, _, rfl, rfl, b, _, rfl, b5, by omega, by omega, fun c H6 c0 c1 k6 b6 _ => ⟨_, _, rfl, rfl, _, rfl, ?_⟩⟩
        have hD6 := k6 _ _ hD nDb
        have i6 := IsAll.tups (k6.tups b5) izs (tupdAll_map tupd_pair M)
        refine ite2 (fun c => ?_) (fun c => ⟨k5.trans k6, b6, zs, M, hD6, i6, pm.skip⟩)
        refine ⟨_, rfl, _, rfl, (by show 2 ≤ sizeLine; decide), fun q nq => ?_⟩
        have s7 := Same.new (o := HO.tup [.int (0 + (i : Int)), .int (0 + (i : Int) + (j : Int))]) nq
        have hD7 := s7 _ _ hD6
        have hl := i6.length
        rw [List.length_map] at hl
        have hpl := pm.len
        refine ⟨zs, hD7, lt1000 (by omega), ((k5.trans k6).trans (.of s7)).set nD, (b6.same s7).put nDb, _, M ++ [((i : Int), (i : Int) + (j : Int))], upd_same, ?_, pm.snoc⟩
        have nqD : q ≠ Dl := fun e => by rw [e, hD6] at nq; cases nq
        have tp : Tups H6 (upd (upd H6 q (.tup [.int (0 + (i : Int)), .int (0 + (i : Int) + (j : Int))])) Dl (.lst (zs ++ [.ref q]))) := fun c o e => by
          rw [upd_ne (fun z => by rw [z, hD6] at e; cases e)]
          exact s7 _ _ e
        rw [List.map_append]
        refine (IsAll.tups tp i6 (tupdAll_map tupd_pair M)).append (.one (.tup (xs := [.int (0 + (i : Int)), .int (0 + (i : Int) + (j : Int))]) (by rw [upd_ne nqD, upd_same]) ?_))
        rw [show (0 : Int) + (i : Int) = i from by omega]
        exact .cons (.int _) (.cons (.int _) .nil)
      · obtain ⟨k5, b5, zs, M, hD, izs, pm⟩ := inv
        have hG5 := k5 _ _ hG nGb
        have i5 := IsAll.tups (k5.tups b4) iys (tupdAll_map tupd_pair L)
        have hl1 := i5.length
        have hl2 := izs.length
        rw [List.length_map] at hl1 hl2
        have hp1 := pl.len
        have hp2 := pm.len
        refine ⟨G, Dl, ys, zs, rfl, rfl, hG5, hD, Nat.le_of_lt (lt1000 (by omega)), fun p np => ?_⟩
        have s6 := Same.new (o := HO.lst (ys ++ zs)) np
        refine ⟨(k4.trans k5).trans (.of s6), b5.same s6, p, ys ++ zs, L ++ M, _, _, rfl, upd_same, b5.ne np, ?_, ?_⟩
        · rw [List.map_append]
          exact (IsAll.same s6 i5).append (IsAll.same s6 izs)
        · rw [show (1 + d - (0 + (i : Int))).toNat = (1 + d - (i : Int)).toNat from by omega] at pm
          exact pl.app pm (by omega) (by omega)
    · obtain ⟨k4, b4, G, ys, L, o4, o5, rfl, hG, nGb, iys, pl⟩ := inv
      refine ⟨_, rfl, _, rfl, G, ys, rfl, .inl ⟨.of hG, fun p np => ?_⟩⟩
      have s5 := Same.new (o := HO.tup ys) np
      refine ⟨(by show 2 ≤ sizeLine; decide), fun q nq => ?_⟩
      have s6 := Same.new (o := HO.tup [.int (1 + d), .ref p]) nq
      have s56 := s5.trans s6
      refine k _ (1 + d, L) _ ⟨⟨by dsimp only; omega, by dsimp only; omega⟩, ⟨pl.up, fun p hp => ?_, ?_⟩⟩ (.tup (xs := [.int (1 + d), .ref p]) upd_same (.cons (.int _) (.cons (.tup (xs := ys) (s6 _ _ upd_same) (IsAll.same s56 iys)) .nil))) (k4.trans (.of s56)) (b4.same s56)
      · obtain ⟨a, b, c, _⟩ := pl.ok p hp
        exact ⟨a, b, c⟩
      · have := pl.len
        dsimp only
        omega
end
end HM
/-! The law's own look: rights, safety. -/
namespace HM
open PySem PySem.Spec PyProof.Rows L2
theorem boot_listN : bootBuiltins "list" = some (.type "list") := by decide +kernel
abbrev sRights : Stmt := top 63
theorem sc_rights : FnScope ["_law_tree_here", "_law_holds", "_law_holder", "_law_thing", "_law_around_here", "_law_found", "_law_own", "_law_place", "_law_mode_here"] ["_law_tree_here", "_law_holds", "_law_holder", "_law_thing"] (defScope sRights) := ⟨rfl, rfl, rfl, by decide +kernel, rfl, by decide +kernel, by decide +kernel⟩
abbrev sSafe : Stmt := top 64
theorem sc_safe : FnScope ["_law_rules_here", "_law_tree_here", "_law_holds", "_law_thing", "_law_rows", "_law_one", "_law_other", "_law_act", "_law_holder", "_law_with_act"] ["_law_rules_here", "_law_tree_here", "_law_holds"] (defScope sSafe) := ⟨rfl, rfl, rfl, by decide +kernel, rfl, by decide +kernel, by decide +kernel⟩
def spSafe : Sp := fun vs H Q _ => ∃ (u v z : V) (r : Rules) (t : Tree) (hs : List Hold), vs = [u, v, z] ∧ Is H u (cRules r) ∧ Is H v (cTree t) ∧ Is H z (cHolds hs) ∧ HoldsOk r t hs ∧ RuOk r ∧ TreeOk t ∧ (∀ x one other, InT t x → one ≠ other → NoClash r t hs x one other) ∧ ∀ H', Same H H' → Q (.bl true) H'
section
variable {P : Program} {w : World} {K : PySem.W.Frag} {mg : Str → Option Value} {base : Heap}
theorem ok_rights (F : Free mg) (D : Dn K mg "_law_rights" sRights) (cA : C8.Cal P w K mg base 1 "_law_around" spAround []) : C8.Cal P w K mg base 2 "_law_rights" spMay [] := by
  refine cal_of D sc_rights (fun _ _ _ _ _ _ us hl => match us, hl with | [_, _, _, _], _ => rfl) (fun vs H Q E h => ?_) (fun f cdv A outer s H vs Q E hr h => ?_)
  · obtain ⟨u, v, r, t, hs, who, x, rfl, _⟩ := h
    rfl
  · obtain ⟨u, v, r, t, hs, who, x, rfl, hu, hv, ho, hR, hT, hx, k⟩ := h
    refine ⟨_, pss_cons (ps_set (i := 4) sc_rights.nd rfl (Or.inl rfl) (C8.pe_c cA hr (by decide) (by rfl) (pa_cons (pv 0) (pa_cons (pv 3) pa_nil))))
      (pss_cons (ps_set (i := 5) sc_rights.nd rfl (Or.inl rfl) (pe_lst pa_nil))
      (pss_cons (ps_for PassesOwn.never rfl (pi_tup (pv 1)) (pgT rfl (pgs_cons (pg_name (i := 6) sc_rights.nd rfl (Or.inl rfl)) (pgs_cons (pg_name (i := 7) sc_rights.nd rfl (Or.inl rfl)) (pgs_cons (pg_name (i := 8) sc_rights.nd rfl (Or.inl rfl)) pgs_nil))))
        (pss_one (ps_if (PW.pt (pw_and (pt_cmpR op_eq (pv 6) (pv 2) (nomark _)) (pw_and1 (pt_cmpR (op_inI hr) (pv 7) (pv 4) (by rfl)))))
          (pss_one (ps_set (i := 5) sc_rights.nd rfl (Or.inl rfl) (pe_op op_cat (pv 5) (pe_callTy call_list_of (by rfl) F.list boot_listN (pa_cons (pe_ix ixT (pv 8) pe_int (fun _ _ => rfl)) pa_nil))))) pss_nil)))
      (pss_one (ps_ret (pe_callTy call_tuple_of (by rfl) F.tuple boot_tuple (pa_cons (pe_callB (cr_sortedSet rfl) (by rfl) F.sorted boot_sortedB (pa_cons (pe_callTy (call_setL rfl) (by rfl) F.set boot_setT (pa_cons (pv 5) pa_nil)) pa_nil)) pa_nil)))))), ?_⟩
    obtain ⟨a, xs, rfl, ha, ixs⟩ := hv.holds
    have hl := ixs.length
    rw [List.length_map] at hl
    have h48 := ho.len hT
    refine ⟨_, rfl, _, rfl, u, t, x, rfl, hu, hT, hx, fun pl H1 s1 hpl => ?_⟩
    refine ⟨(by show 0 ≤ sizeLine; decide), fun p hp => ?_⟩
    have s2 := Same.new (o := HO.lst ([] : List V)) hp
    have s12 := s1.trans s2
    refine ⟨_, rfl, a, rfl, ⟨_, .of (s12 _ _ ha)⟩, for_tup (K := K) (a := a) (xs := xs) (fun i σ' H' => Same H H' ∧ Is H' pl (cLot (aroundL t x)) ∧ σ'[2]? = some (some (.int who)) ∧ σ'[4]? = some (some pl) ∧ σ'.length = 9 ∧ ∃ (G : Addr) (l : List Int), σ'[5]? = some (some (.ref G)) ∧ H' G = some (.lst (l.map V.int)) ∧ l.length ≤ 6 * i ∧ ∀ c, c ∈ l ↔ mayP t (hs.take i) who x c = true) ⟨s12, hpl.same s2, rfl, rfl, rfl, p, [], rfl, upd_same, Nat.le_refl _, fun c => by simp [mayP]⟩ (fun i σ' H' _ q => .of (q.1 _ _ ha)) (fun i z σ' H' hz q => ?_) (fun σ' H' q => ?_)⟩
    · obtain ⟨s3, hpl3, e0, e1, e2, G, l, e3, hG, hlen, hmem⟩ := q
      obtain ⟨h, hh, ih⟩ := ixs.map_of hz
      have hm := List.mem_of_getElem? hh
      have hok := ho.ok h hm
      have hlt := lt_get hz
      obtain ⟨b, m, rfl, hb, im⟩ := ih.hold
      obtain ⟨ma, mb, mc, rfl, hma, hmb, hmc⟩ := im.mode
      have hol := hok.mode.own.len
      have hn6 := hR.hi
      have em : ∀ c, mayP t (hs.take (i + 1)) who x c = (mayP t (hs.take i) who x c || (decide (h.1 = who) && (decide (h.2.1 ∈ aroundL t x) && decide (c ∈ h.2.2.1)))) := fun c => by
        unfold mayP
        rw [take_more hh, List.any_append]
        simp
      match σ', e2, e0, e1, e3 with
      | [_, _, _, _, _, _, _, _, _], _, e0, e1, e3 =>
        cases e0
        cases e1
        cases e3
        refine ⟨b, _, rfl, s3 _ _ hb, rfl, _, _, rfl, _, _, rfl, _, _, rfl, rfl, ?_⟩
        refine ⟨_, rfl, _, rfl, rfl, _, rfl, ?_⟩
        rw [beqI]
        have skip : ¬ (h.1 = who ∧ h.2.1 ∈ aroundL t x) → ∀ c, c ∈ l ↔ mayP t (hs.take (i + 1)) who x c = true := fun hn c => by
          rw [em, hmem]
          by_cases q1 : h.1 = who
          · have q2 : ¬ h.2.1 ∈ aroundL t x := fun z => hn ⟨q1, z⟩
            simp [q2]
          · simp [q1]
        by_cases c1 : h.1 = who
        · rw [decide_eq_true c1]
          refine iteT ?_
          refine ⟨_, rfl, _, rfl, h.2.1, _, rfl, hpl3, _, rfl, ?_⟩
          by_cases c2 : h.2.1 ∈ aroundL t x
          · rw [decide_eq_true c2]
            refine iteT ?_
            refine ⟨_, rfl, _, rfl, ma, _, 0, .ref mb, rfl, rfl, s3 _ _ hma, atI_nat (j := 0) rfl, mb, _, rfl, .inr (.of (s3 _ _ hmb)), fun g hg => ?_⟩
            have s4 := Same.new (o := HO.lst (h.2.2.1.map V.int)) hg
            refine ⟨G, g, _, _, rfl, rfl, s4 _ _ hG, upd_same, Nat.le_of_lt (lt1000 (by rw [List.length_map, List.length_map]; omega)), fun g2 hg2 => ?_⟩
            have s5 := Same.new (o := HO.lst (l.map V.int ++ h.2.2.1.map V.int)) hg2
            refine ⟨(s3.trans s4).trans s5, hpl3.same (s4.trans s5), rfl, rfl, rfl, g2, l ++ h.2.2.1, rfl, by rw [upd_same, List.map_append], by rw [List.length_append]; omega, fun c => ?_⟩
            rw [em, List.mem_append, hmem]
            simp [c1, c2]
          · rw [decide_eq_false c2]
            exact iteF ⟨s3, hpl3, rfl, rfl, rfl, _, l, rfl, hG, by omega, skip fun z => c2 z.2⟩
        · rw [decide_eq_false c1]
          exact iteF ⟨s3, hpl3, rfl, rfl, rfl, _, l, rfl, hG, by omega, skip fun z => c1 z.1⟩
    · obtain ⟨s3, hpl3, e0, e1, e2, G, l, e3, hG, hlen, hmem⟩ := q
      rw [hl, List.take_length] at hmem
      match σ', e2, e3 with
      | [_, _, _, _, _, _, _, _, _], _, e3 =>
        cases e3
        have h6 : ∀ c ∈ l, 0 ≤ c ∧ c < 6 := fun c hc => by
          have q := (hmem c).1 hc
          unfold mayP at q
          rw [List.any_eq_true] at q
          obtain ⟨h, hh, q⟩ := q
          rw [Bool.and_eq_true, Bool.and_eq_true, decide_eq_true_iff, decide_eq_true_iff, decide_eq_true_iff] at q
          exact (ho.ok h hh).mode.own.in6 hR.hi c q.2.2
        refine ⟨_, rfl, G, l, 6, rfl, hG, by omega, h6, fun g c hg hc => ?_⟩
        have s4 := Same.new (o := SetO w g (fun j => decide (j ∈ l)) c) hg
        refine ⟨g, _, c, rfl, upd_same, by omega, fun ns g2 hup hmm hln hg2 => ?_⟩
        have s5 := Same.new (o := HO.lst (ns.map V.int)) hg2
        refine ⟨g2, _, rfl, .inl ⟨.of upd_same, fun g3 hg3 => ?_⟩⟩
        have s6 := Same.new (o := HO.tup (ns.map V.int)) hg3
        have e : ns = mayL t hs who x := by
          refine up_ext hup ((rangeZ_up 6).filter _) fun k => ?_
          rw [hmm, decide_eq_true_iff, hmem]
          unfold mayL
          rw [List.mem_filter, mem_rangeZ]
          exact ⟨fun z => ⟨h6 k ((hmem k).2 z), z⟩, fun z => z.2⟩
        refine k _ _ (((s3.trans s4).trans s5).trans s6) (is_lot_mk ?_)
        rw [upd_same, e]
end
end HM
/-! No two holders against one another. -/
namespace HM
open PySem PySem.Spec PyProof.Rows L2
theorem shp_nil : Shp (.list []) := ⟨rfl, by decide⟩
def rMinA : List V → Hp → VK → Prop := fun xs H Q => ∃ i j, xs = [.int i, .int j] ∧ Q (.int (if j < i then j else i)) H
def rMaxA : List V → Hp → VK → Prop := fun xs H Q => ∃ i j, xs = [.int i, .int j] ∧ Q (.int (if j > i then j else i)) H
section
variable {P : Program} {w : World} {K : PySem.W.Frag} {mg : Str → Option Value} {base : Heap}
theorem ok_safe (F : Free mg) (D : Dn K mg "_law_is_safe" sSafe) (cR : C8.Cal P w K mg base 2 "_law_rights" spMay []) : C8.Cal P w K mg base 3 "_law_is_safe" spSafe [] := by
  refine cal_of D sc_safe (fun _ _ _ _ _ _ us hl => match us, hl with | [_, _, _], _ => rfl) (fun vs H Q E h => ?_) (fun f cdv A outer s H vs Q E hr h => ?_)
  · obtain ⟨u, v, z, r, t, hs, rfl, _⟩ := h
    rfl
  · obtain ⟨u, v, z, r, t, hs, rfl, hu, hv, hz, ho, hR, hT, hN, k⟩ := h
    refine ⟨_, pss_cons (ps_for PassesOwn.never rfl (pi_range1 (by rfl) F.range (pa_cons (pe_callB callLen (by rfl) F.len PySem.boot_len (pa_cons (pv 1) pa_nil)) pa_nil)) (pg_name (i := 3) sc_safe.nd rfl (Or.inr rfl))
        (pss_cons (ps_setLc (i := 4) (own := [("_law_holder", 8)]) (g := gName 8) (tt := tYes) (te := tCall spMay [] C8.E0 (tCons (tVar 1) (tCons (tVar 2) (tCons (tVar 8) (tCons (tVar 3) tNil))))) rfl sc_safe.nd rfl rfl (sw_true rfl rfl rfl (by decide +kernel))
            (pi_range1 (by rfl) F.range (pa_cons pe_int pa_nil)) (blkOk_by (N := ["_law_rules_here", "_law_tree_here", "_law_holds", "_law_thing", "_law_rows", "_law_one", "_law_other", "_law_act", "_law_holder", "_law_with_act"]) (sc := defScope sSafe) (own := [("_law_holder", 8)]) (by decide +kernel))
            (fun _ _ _ _ _ => by exact (pg_name (i := 8) sc_safe.nd rfl (.inl rfl)))
            (fun _ _ _ _ _ => pts_nil)
            (fun _ _ _ _ _ => by exact (C8.pe_c cR hr (by decide) (by rfl) (pa_cons (pv 1) (pa_cons (pv 2) (pa_cons (pv 8) (pa_cons (pv 3) pa_nil)))))))
        (pss_one (ps_for PassesOwn.never rfl (pi_range1 (by rfl) F.range (pa_cons pe_int pa_nil)) (pg_name (i := 5) sc_safe.nd rfl (Or.inl rfl))
          (pss_one (ps_for PassesOwn.never rfl (pi_range1 (by rfl) F.range (pa_cons (pv 5) pa_nil)) (pg_name (i := 6) sc_safe.nd rfl (Or.inl rfl))
            (pss_one (ps_for PassesOwn.never rfl (pi_tup (pe_ix ixL (pv 4) (pv 5) (fun _ _ => rfl))) (pg_name (i := 7) sc_safe.nd rfl (Or.inr rfl))
              (pss_one (ps_if (pt_cmpR (op_neS hr) (pe_lc (own := [("_law_with_act", 9)]) (g := gName 9)
                  (tt := tTest (tOp (rInS true) (tTup (tCons (tCB rMinA (tCons (tVar 7) (tCons (tVar 9) tNil))) (tCons (tCB rMaxA (tCons (tVar 7) (tCons (tVar 9) tNil))) tNil))) (tOp rIxTup (tVar 0) (tC (.int 1))))) (te := tC (.int 1)) rfl sc_safe.nd
                  (pi_tup (pe_ix ixL (pv 4) (pv 6) (fun _ _ => rfl))) (blkOk_by (N := ["_law_rules_here", "_law_tree_here", "_law_holds", "_law_thing", "_law_rows", "_law_one", "_law_other", "_law_act", "_law_holder", "_law_with_act"]) (sc := defScope sSafe) (own := [("_law_with_act", 9)]) (by decide +kernel))
                  (fun _ _ _ _ _ => by exact (pg_name (i := 9) sc_safe.nd rfl (.inl rfl)))
                  (fun _ _ _ _ _ => by exact (pts_one (by exact (pt_cmpR (op_notInS hr) (by exact (pe_tup (pa_cons (pe_callB (call_min2 rfl) (by rfl) F.min boot_min (pa_cons (pv 7) (pa_cons (pv 9) pa_nil))) (pa_cons (pe_callB (call_max2 rfl) (by rfl) F.max boot_max (pa_cons (pv 7) (pa_cons (pv 9) pa_nil))) pa_nil)))) (by exact (pe_ix ixT (pv 0) pe_int (fun _ _ => rfl))) (by rfl)))))
                  (fun _ _ _ _ _ => by exact pe_int)) (pe_lst pa_nil) (nomark _)) (pss_one (ps_ret pe_bl)) pss_nil))))))))))
      (pss_one (ps_ret pe_bl)), ?_⟩
    obtain ⟨ra, rp, rfl, hra, hrp⟩ := hu.rules
    obtain ⟨ta, xs, rfl, hta, ixs⟩ := id hv.tup_inv
    have hlx := ixs.length
    rw [List.length_map] at hlx
    have hhi := hT.hi
    refine ⟨_, rfl, ta, xs, rfl, .inl hta, _, rfl, by omega, by omega, ?_⟩
    refine for_range (lo := 0) (n := ((xs.length : Int)).toNat) (fun i σ' H' => Same H H' ∧ σ'[0]? = some (some (.ref ra)) ∧ σ'[1]? = some (some (.ref ta)) ∧ σ'[2]? = some (some z) ∧ σ'.length = 10) ⟨Same.refl _, rfl, rfl, rfl, rfl⟩ (fun i σ' H' hi inv => ?_) (fun σ' H' inv => k H' inv.1)
    obtain ⟨s1, e0, e1, e2, e3⟩ := inv
    have hx : InT t (0 + (i : Int)) := ⟨by omega, by omega⟩
    match σ', e3, e0, e1, e2 with
    | [_, _, _, _, _, _, _, _, _, _], _, e0, e1, e2 =>
      cases e0
      cases e1
      cases e2
      refine ⟨_, rfl, by decide, by decide, fun Dl nD => lc_range (lo := 0) (n := 4) (fun j H2 => Same H' H2 ∧ ∃ zs, H2 Dl = some (.lst zs) ∧ IsAll H2 zs ((List.range j).map fun (k : Nat) => cLot (mayL t hs (k : Int) (0 + (i : Int))))) ⟨Same.new nD, [], upd_same, .nil⟩ (fun j H2 hj inv => ?_) (fun H2 inv => ?_)⟩
      · obtain ⟨s2, zs, hD, izs⟩ := inv
        refine ⟨rfl, yes_at ?_⟩
        refine ⟨_, rfl, _, rfl, _, rfl, _, rfl, .ref ta, z, r, t, hs, 0 + (j : Int), 0 + (i : Int), rfl, hv.same (s1.trans s2), hz.same (s1.trans s2), ho, hR, hT, hx, fun y H3 s3 hy => ?_⟩
        have hD3 := s3 _ _ hD
        have hly := izs.length
        rw [List.length_map, List.length_range] at hly
        refine ⟨zs, hD3, lt1000 (by omega), (s2.trans s3).set nD, _, upd_same, ?_⟩
        have tp : Tups H3 (upd H3 Dl (.lst (zs ++ [y]))) := fun c o e => by
          rw [upd_ne (fun z => by rw [z, hD3] at e; cases e)]
          exact e
        rw [List.range_succ, List.map_append]
        refine (IsAll.tups tp (IsAll.same s3 izs) (tupdAll_map (fun _ => tupd_lot _) _)).append (.one ?_)
        rw [show (0 + (j : Int)) = (j : Int) from by omega] at hy
        exact hy.tups tp (tupd_lot _)
      · obtain ⟨s2, zs, hD, izs⟩ := inv
        have row : ∀ k : Nat, k < 4 → ∃ a, zs[k]? = some (.ref a) ∧ H2 a = some (.tup ((mayL t hs k (0 + (i : Int))).map V.int)) := fun k hk => by
          have q : ((List.range 4).map fun (k : Nat) => cLot (mayL t hs (k : Int) (0 + (i : Int))))[k]? = some (cLot (mayL t hs k (0 + (i : Int)))) := by
            rw [List.getElem?_map, List.getElem?_range hk]
            rfl
          obtain ⟨y, hy, iy⟩ := izs.of q
          obtain ⟨a, rfl, ha⟩ := iy.lot
          exact ⟨a, hy, ha⟩
        have s12 := s1.trans s2
        refine ⟨_, rfl, by decide, by decide, ?_⟩
        refine for_range (lo := 0) (n := 4) (fun j σ' H3 => Same H2 H3 ∧ σ'[0]? = some (some (.ref ra)) ∧ σ'[1]? = some (some (.ref ta)) ∧ σ'[2]? = some (some z) ∧ σ'[4]? = some (some (.ref Dl)) ∧ σ'.length = 10) ⟨Same.refl _, rfl, rfl, rfl, rfl, rfl⟩ (fun j σ' H3 hj inv => ?_) (fun σ' H3 inv => ⟨s12.trans inv.1, inv.2.1, inv.2.2.1, inv.2.2.2.1, inv.2.2.2.2.2⟩)
        obtain ⟨s3, e0, e1, e2, e4, e3⟩ := inv
        match σ', e3, e0, e1, e2, e4 with
        | [_, _, _, _, _, _, _, _, _, _], _, e0, e1, e2, e4 =>
          cases e0
          cases e1
          cases e2
          cases e4
          refine ⟨_, rfl, _, rfl, by omega, by omega, ?_⟩
          refine for_range (lo := 0) (n := (0 + (j : Int)).toNat) (fun l σ' H4 => Same H2 H4 ∧ σ'[0]? = some (some (.ref ra)) ∧ σ'[1]? = some (some (.ref ta)) ∧ σ'[2]? = some (some z) ∧ σ'[4]? = some (some (.ref Dl)) ∧ σ'[5]? = some (some (.int (0 + (j : Int)))) ∧ σ'.length = 10) ⟨s3, rfl, rfl, rfl, rfl, rfl, rfl⟩ (fun l σ' H4 hl inv => ?_) (fun σ' H4 inv => ⟨inv.1, inv.2.1, inv.2.2.1, inv.2.2.2.1, inv.2.2.2.2.1, inv.2.2.2.2.2.2⟩)
          obtain ⟨s4, e0, e1, e2, e4, e5, e3⟩ := inv
          obtain ⟨a1, g1, h1⟩ := row j hj
          obtain ⟨a2, g2, h2⟩ := row l (by omega)
          have atJ : atI zs (0 + (j : Int)) = some (.ref a1) := by
            rw [show (0 + (j : Int)) = (j : Int) from by omega]
            exact atI_nat g1
          have atL : atI zs (0 + (l : Int)) = some (.ref a2) := by
            rw [show (0 + (l : Int)) = (l : Int) from by omega]
            exact atI_nat g2
          match σ', e3, e0, e1, e2, e4, e5 with
          | [_, _, _, _, _, _, _, _, _, _], _, e0, e1, e2, e4, e5 =>
            cases e0
            cases e1
            cases e2
            cases e4
            cases e5
            refine ⟨_, rfl, _, rfl, Dl, zs, _, _, rfl, rfl, s4 _ _ hD, atJ, a1, rfl, ⟨_, .of (s4 _ _ h1)⟩, for_tup (K := K) (a := a1) (xs := (mayL t hs j (0 + (i : Int))).map V.int) (fun m σ' H5 => Same H2 H5 ∧ σ'[0]? = some (some (.ref ra)) ∧ σ'[1]? = some (some (.ref ta)) ∧ σ'[2]? = some (some z) ∧ σ'[4]? = some (some (.ref Dl)) ∧ σ'[5]? = some (some (.int (0 + (j : Int)))) ∧ σ'[6]? = some (some (.int (0 + (l : Int)))) ∧ σ'.length = 10) ⟨s4, rfl, rfl, rfl, rfl, rfl, rfl, rfl⟩ (fun m σ' H5 _ q => .of (q.1 _ _ h1)) (fun m y σ' H5 hy inv => ?_) (fun σ' H5 inv => ⟨inv.1, inv.2.1, inv.2.2.1, inv.2.2.2.1, inv.2.2.2.2.1, inv.2.2.2.2.2.1, inv.2.2.2.2.2.2.2⟩)⟩
            obtain ⟨s5, e0, e1, e2, e4, e5, e6, e3⟩ := inv
            rw [List.getElem?_map] at hy
            obtain ⟨c, hc, rfl⟩ := Option.map_eq_some_iff.mp hy
            have hcm := List.mem_of_getElem? hc
            match σ', e3, e0, e1, e2, e4, e5, e6 with
            | [_, _, _, _, _, _, _, _, _, _], _, e0, e1, e2, e4, e5, e6 =>
              cases e0
              cases e1
              cases e2
              cases e4
              cases e5
              cases e6
              refine ⟨_, rfl, _, rfl, Dl, zs, _, _, rfl, rfl, s5 _ _ hD, atL, a2, rfl, ⟨_, .of (s5 _ _ h2)⟩, fun G nG => lc_tup (K := K) (a := a2) (xs := (mayL t hs l (0 + (i : Int))).map V.int) (fun _ H6 => Same H5 H6 ∧ H6 G = some (.lst [])) ⟨Same.new nG, upd_same⟩ (fun _ H6 _ q => .of (q.1 _ _ (s5 _ _ h2))) (fun m2 y2 H6 hy2 inv => ?_) (fun H6 inv => ?_)⟩
              · obtain ⟨s6, hG⟩ := inv
                rw [List.getElem?_map] at hy2
                obtain ⟨c2, hc2, rfl⟩ := Option.map_eq_some_iff.mp hy2
                have hcm2 := List.mem_of_getElem? hc2
                have s26 := (s12.trans s5).trans s6
                refine ⟨rfl, ?_⟩
                refine ⟨_, rfl, _, rfl, c, c2, rfl, _, rfl, _, rfl, c, c2, rfl, (by show 2 ≤ sizeLine; decide), fun p hp => ?_⟩
                have s7 := Same.new (o := HO.tup [.int (lo2 c c2), .int (hi2 c c2)]) hp
                refine ⟨_, rfl, ra, _, 1, rp, rfl, rfl, s7 _ _ (s26 _ _ hra), atI_nat (j := 1) rfl, ?_⟩
                refine ⟨cPair (lo2 c c2, hi2 c c2), r.2.map cPair, .tup upd_same (.cons (.int _) (.cons (.int _) .nil)), .inl (hrp.same (s26.trans s7)), shp_pair _, shp_pairs _, _, rfl, ?_⟩
                rw [if_pos rfl, any_pair]
                have hb := hN (0 + (i : Int)) j l hx (by omega) c hcm c2 hcm2
                unfold besB at hb
                rw [hb]
                exact iteF ⟨s6.trans s7, s7 _ _ hG⟩
              · obtain ⟨s6, hG⟩ := inv
                refine ⟨(by show 0 ≤ sizeLine; decide), fun e he => ?_⟩
                have s7 := Same.new (o := HO.lst ([] : List V)) he
                refine ⟨.list [], .list [], .lst (s7 _ _ hG) .nil, .lst upd_same .nil, shp_nil, shp_nil, _, rfl, ?_⟩
                rw [if_pos rfl]
                have e0 : PyData.eqv (.list []) (.list []) = true := by simp [PyData.eqv, PyData.eqvAll]
                rw [e0]
                exact iteF ⟨(s5.trans s6).trans s7, rfl, rfl, rfl, rfl, rfl, rfl, rfl⟩
end
end HM
/-! A deed is done, its error told. -/
namespace HM
open PySem PySem.Spec PyProof.Rows L2
abbrev sTold : Stmt := top 59
theorem sc_told : FnScope ["_law_error"] ["_law_error"] (defScope sTold) := ⟨rfl, rfl, rfl, by decide +kernel, rfl, by decide +kernel, by decide +kernel⟩
abbrev sDo : Stmt := top 60
theorem sc_do : FnScope ["_law_yard", "_law_deed_here", "_law_word", "_law_holder", "_law_thing", "_law_what"] ["_law_yard", "_law_deed_here"] (defScope sDo) := ⟨rfl, rfl, rfl, by decide +kernel, rfl, by decide +kernel, by decide +kernel⟩
abbrev sDone : Stmt := top 61
theorem sc_done : FnScope ["_law_yard", "_law_deed_here", "_law_error"] ["_law_yard", "_law_deed_here"] (defScope sDone) := ⟨rfl, rfl, rfl, by decide +kernel, rfl, by decide +kernel, by decide +kernel⟩
/-- what the telling of an error asks of the classes -/
structure TldF (K : PySem.W.Frag) (mg : Str → Option Value) (A : EA) (FU : Addr) : Prop where
  sm : SeeC K A.badMode
  sb : SeeC K A.barred
  sn : SeeC K A.nothing
  fm : PySem.W.findIn K (.ref A.badMode) "mode" = some none
  fb1 : PySem.W.findIn K (.ref A.barred) "thing" = some none
  fb2 : PySem.W.findIn K (.ref A.barred) "other" = some none
  gm : mg "BadMode" = some (.ref A.badMode)
  gb : mg "Barred" = some (.ref A.barred)
  gf : mg "Full" = some (.ref FU)
  gn : mg "NothingToUndo" = some (.ref A.nothing)
  kmm : PySem.W.kitOne K (.ref A.badMode) (.ref A.badMode) = some true
  kbm : PySem.W.kitOne K (.ref A.barred) (.ref A.badMode) = some false
  kbb : PySem.W.kitOne K (.ref A.barred) (.ref A.barred) = some true
  knm : PySem.W.kitOne K (.ref A.nothing) (.ref A.badMode) = some false
  knb : PySem.W.kitOne K (.ref A.nothing) (.ref A.barred) = some false
  knf : PySem.W.kitOne K (.ref A.nothing) (.ref FU) = some false
  knn : PySem.W.kitOne K (.ref A.nothing) (.ref A.nothing) = some true
/-- a caught HoldError told: the class D, the dict d -/
def TldP (A : EA) (D : Addr) (d : Option Addr) (H : Hp) (Q : VK) : Prop :=
  (D = A.badMode ∧ ∃ dd v, d = some dd ∧ H dd = some (.xd [("mode", v)]) ∧ ∀ l, H l = none → Q (.ref l) (upd H l (.lst [.str "BadMode", v]))) ∨
  (D = A.barred ∧ ∃ dd v u, d = some dd ∧ H dd = some (.xd [("other", u), ("thing", v)]) ∧ ∀ l, H l = none → Q (.ref l) (upd H l (.lst [.str "Barred", v, u]))) ∨
  (D = A.nothing ∧ d = none ∧ ∀ l, H l = none → Q (.ref l) (upd H l (.lst [.str "NothingToUndo"])))
def spTold (A : EA) : Addr → Obj → Sp := fun a oe vs H Q _ => vs = [.ref a] ∧ ∃ D d, Zc (.ref D) d oe ∧ (∃ ws, oe.data = .fields ws) ∧ TldP A D d H Q
theorem pss_never {X : Cx} {ss : List Stmt} : PSs X ss (fun _ _ _ => False) := ⟨fun _ _ _ _ _ _ h => h.elim⟩
theorem Takes.len {X : Cx} {W : WX} (t : Takes X W) : Takes X (fun c d σ H => σ.length = X.N.length → W c d σ H) := fun u s' ⟨a, B, sI, pins, σ, H, cls, d, e, I, nb, up, sky, na, os, ag, w⟩ =>
  t u s' ⟨a, B, sI, pins, σ, H, cls, d, e, I, nb, up, sky, na, os, ag, w I.len⟩
/-- the def x may let exceptions out -/
structure CalX (P : Program) (w : World) (K : PySem.W.Frag) (mg : Str → Option Value) (base : Heap) (k : Nat) (x : Str) (sp : Sp) : Prop where
  ex : ∃ (f : Addr) (fd : FuncData) (ps : List Str), FnOk P w K mg base (L2.CX P w) k f fd ps sp ∧ mg x = some (.ref f) ∧ PySem.W.keepIn K (.ref f) = true ∧ Binds K fd ps []
/-- .. is handed a caught exception -/
structure CalP (P : Program) (w : World) (K : PySem.W.Frag) (mg : Str → Option Value) (base : Heap) (k : Nat) (x : Str) (sp : Addr → Obj → Sp) : Prop where
  ex : ∃ (f : Addr) (fd : FuncData) (ps : List Str), FnP P w K mg base k f fd ps sp ∧ mg x = some (.ref f) ∧ PySem.W.keepIn K (.ref f) = true ∧ Binds K fd ps []
section
variable {P : Program} {w : World} {K : PySem.W.Frag} {mg : Str → Option Value} {base : Heap} {A : EA} {FU : Addr}
theorem ok_told (F : Free mg) (T : TldF K mg A FU) (D : Dn K mg "_law_error_told" sTold) : CalP P w K mg base 1 "_law_error_told" (spTold A) := by
  obtain ⟨f, fd, DF, hm⟩ := D.ex
  refine ⟨f, fd, ["_law_error"], fnP_of DF sc_told (fun a oe vs H Q E h => by obtain ⟨rfl, _⟩ := h; rfl) (fun cdv A' outer s H vs Q E a oe hr h => ?_), hm, DF.kp, DF.bindsN (fun _ _ _ _ _ _ us hl => match us, hl with | [_], _ => rfl)⟩
  obtain ⟨rfl, D, d, hz, hf, h⟩ := h
  have hp : (a, oe) ∈ (L2H.cxH C8.CX0 P w K mg base ["_law_error"] "_law_error_told" (defScope sTold) f cdv A' outer s H E (a, oe)).pn := List.mem_cons_self
  rcases h with ⟨rfl, dd, v, rfl, hd, k⟩ | ⟨rfl, dd, v, u, rfl, hd, k⟩ | ⟨rfl, rfl, k⟩
  · refine ⟨_, pss_cons (ps_if (pt_val (pe_callB (call_isP T.sm hp hz hf) (by rfl) F.isinstance boot_isi (pa_cons (pv 0) (pa_cons (C8.pe_gc (v := .ref A.badMode) (by rfl) ⟨_, T.gm, rfl⟩) pa_nil)))) (pss_one (ps_ret (pe_lst (pa_cons pe_str (pa_cons (pe_xfP T.sm T.fm hp hz hf (pv 0)) pa_nil))))) pss_nil) pss_never, ?_⟩
    refine ⟨_, rfl, _, _, true, rfl, fun _ h => h, T.kmm, .inr ⟨dd, _, rfl, hd⟩, _, rfl, iteT ?_⟩
    exact ⟨_, rfl, rfl, rfl, dd, _, v, rfl, hd, rfl, (by show 2 ≤ sizeLine; decide), k⟩
  · refine ⟨_, pss_cons (ps_if (pt_val (pe_callB (call_isP T.sb hp hz hf) (by rfl) F.isinstance boot_isi (pa_cons (pv 0) (pa_cons (C8.pe_gc (v := .ref A.badMode) (by rfl) ⟨_, T.gm, rfl⟩) pa_nil)))) (pss_one ps_never) pss_nil)
      (pss_cons (ps_if (pt_val (pe_callB (call_isP T.sb hp hz hf) (by rfl) F.isinstance boot_isi (pa_cons (pv 0) (pa_cons (C8.pe_gc (v := .ref A.barred) (by rfl) ⟨_, T.gb, rfl⟩) pa_nil)))) (pss_one (ps_ret (pe_lst (pa_cons pe_str (pa_cons (pe_xfP T.sb T.fb1 hp hz hf (pv 0)) (pa_cons (pe_xfP T.sb T.fb2 hp hz hf (pv 0)) pa_nil)))))) pss_nil) pss_never), ?_⟩
    refine ⟨_, rfl, _, _, false, rfl, fun _ h => h, T.kbm, .inr ⟨dd, _, rfl, hd⟩, _, rfl, iteF ?_⟩
    refine ⟨_, rfl, _, _, true, rfl, fun _ h => h, T.kbb, .inr ⟨dd, _, rfl, hd⟩, _, rfl, iteT ?_⟩
    exact ⟨_, rfl, rfl, rfl, dd, _, v, rfl, hd, rfl, _, rfl, rfl, rfl, dd, _, u, rfl, hd, rfl, (by show 3 ≤ sizeLine; decide), k⟩
  · refine ⟨_, pss_cons (ps_if (pt_val (pe_callB (call_isP T.sn hp hz hf) (by rfl) F.isinstance boot_isi (pa_cons (pv 0) (pa_cons (C8.pe_gc (v := .ref A.badMode) (by rfl) ⟨_, T.gm, rfl⟩) pa_nil)))) (pss_one ps_never) pss_nil)
      (pss_cons (ps_if (pt_val (pe_callB (call_isP T.sn hp hz hf) (by rfl) F.isinstance boot_isi (pa_cons (pv 0) (pa_cons (C8.pe_gc (v := .ref A.barred) (by rfl) ⟨_, T.gb, rfl⟩) pa_nil)))) (pss_one ps_never) pss_nil)
      (pss_cons (ps_if (pt_val (pe_callB (call_isP T.sn hp hz hf) (by rfl) F.isinstance boot_isi (pa_cons (pv 0) (pa_cons (C8.pe_gc (v := .ref FU) (by rfl) ⟨_, T.gf, rfl⟩) pa_nil)))) (pss_one ps_never) pss_nil)
      (pss_one (ps_ret (pe_ifExp (pt_val (pe_callB (call_isP T.sn hp hz hf) (by rfl) F.isinstance boot_isi (pa_cons (pv 0) (pa_cons (C8.pe_gc (v := .ref A.nothing) (by rfl) ⟨_, T.gn, rfl⟩) pa_nil)))) (pe_lst (pa_cons pe_str pa_nil)) (pe_lst (pa_cons pe_str pa_nil))))))), ?_⟩
    refine ⟨_, rfl, _, _, false, rfl, fun _ h => h, T.knm, .inl rfl, _, rfl, iteF ?_⟩
    refine ⟨_, rfl, _, _, false, rfl, fun _ h => h, T.knb, .inl rfl, _, rfl, iteF ?_⟩
    refine ⟨_, rfl, _, _, false, rfl, fun _ h => h, T.knf, .inl rfl, _, rfl, iteF ?_⟩
    refine ⟨_, rfl, _, _, true, rfl, fun _ h => h, T.knn, .inl rfl, _, rfl, iteT ?_⟩
    exact ⟨(by show 1 ≤ sizeLine; decide), k⟩
end
end HM
/-! A deed is done. -/
namespace HM
open PySem PySem.Spec PyProof.Rows L2
def LeaveP (A : EA) (C a p : Addr) (r : Rules) (t : Tree) (now : List Hold) (past : List (List Hold)) (v1 : V) (H : Hp) (Q : VK) (E : XK) : Prop :=
  Out E H A.noHolder [("holder", v1)] ∧ (∀ i, v1 = .int i → Out E H A.noHold [("holder", .int i)]) ∧ ∀ hs n H', Fair r t hs → Yd H' C a p r t hs (past ++ [now]) → Kept a p H H' → Q (.int n) H'
def UndoP (A : EA) (C a p : Addr) (r : Rules) (t : Tree) (past : List (List Hold)) (H : Hp) (Q : VK) (E : XK) : Prop :=
  (∀ H', Same H H' → E (.ref A.nothing) none H') ∧ ∀ hs ps n H', past = ps ++ [hs] → Yd H' C a p r t hs ps → Kept a p H H' → Q (.int n) H'
def DoP (A : EA) (C a p : Addr) (r : Rules) (t : Tree) (now : List Hold) (past : List (List Hold)) (wd : Str) (v1 v2 v3 : V) (d1 d2 d3 : PyData) (H : Hp) (Q : VK) (E : XK) : Prop :=
  if wd = "ask" then AskP A C a p r t now past v1 v2 v3 d1 d2 d3 H Q E else if wd = "take" then TakeP A C a p r t now past v1 v2 v3 d1 d2 d3 H Q E else if wd = "leave" then LeaveP A C a p r t now past v1 H Q E else UndoP A C a p r t past H Q E
def spDo (A : EA) (C : Addr) : Sp := fun vs H Q E => ∃ (a q p : Addr) (r : Rules) (t : Tree) (now : List Hold) (past : List (List Hold)) (wd : Str) (v1 v2 v3 : V) (d1 d2 d3 : PyData), vs = [.ref a, .ref q] ∧ YOk H C a p r t now past ∧ past.length ≤ 24 ∧ H q = some (.tup [.str wd, v1, v2, v3]) ∧ Is H v1 d1 ∧ Is H v2 d2 ∧ Is H v3 d3 ∧ small d3 = true ∧ DoP A C a p r t now past wd v1 v2 v3 d1 d2 d3 H Q E
theorem beqS (i j : Str) : decide (V.str i = V.str j) = decide (i = j) := by
  by_cases h : i = j
  · subst h
    simp
  · have h' : ¬ V.str i = V.str j := fun e => h (by injection e)
    rw [decide_eq_false h, decide_eq_false h']
section
variable {P : Program} {w : World} {K : PySem.W.Frag} {mg : Str → Option Value} {base : Heap} {C : Addr} {A : EA} {FU : Addr}
theorem ok_do (D : Dn K mg "_law_do" sDo) (cA : MetG P w K mg base (L2.CX P w) 7 C "ask" (spAsk A C)) (cT : MetG P w K mg base (L2.CX P w) 7 C "take" (spTake A C)) (cL : MetG P w K mg base (L2.CX P w) 5 C "leave" (spLeave A C)) (cU : MetG P w K mg base (L2.CX P w) 2 C "undo" (spUndo A C)) : CalX P w K mg base 8 "_law_do" (spDo A C) := by
  obtain ⟨f, fd, DF, hm⟩ := D.ex
  refine ⟨f, fd, ["_law_yard", "_law_deed_here"], DF.ok sc_do (fun vs H Q E h => ?_) (fun cdv A' outer s H vs Q E hr h => ?_), hm, DF.kp, DF.bindsN (fun _ _ _ _ _ _ us hl => match us, hl with | [_, _], _ => rfl)⟩
  · obtain ⟨a, q, p, r, t, now, past, wd, v1, v2, v3, d1, d2, d3, rfl, _⟩ := h
    rfl
  · obtain ⟨a, q, p, r, t, now, past, wd, v1, v2, v3, d1, d2, d3, rfl, hy, hp, hq, i1, i2, i3, hz, k⟩ := h
    have px := passX (takes_of (X := cxOf (L2.CX P w) P w K mg base ["_law_yard", "_law_deed_here", "_law_word", "_law_holder", "_law_thing", "_law_what"] "_law_do" (defScope sDo) f cdv A' outer s H E) rfl rfl rfl rfl) (fun _ _ _ _ h => h)
    refine ⟨_, pss_cons (ps_asg (pv 1) (pgT rfl (pgs_cons (pg_name (i := 2) sc_do.nd rfl (Or.inl rfl)) (pgs_cons (pg_name (i := 3) sc_do.nd rfl (Or.inl rfl)) (pgs_cons (pg_name (i := 4) sc_do.nd rfl (Or.inl rfl)) (pgs_cons (pg_name (i := 5) sc_do.nd rfl (Or.inl rfl)) pgs_nil))))))
      (pss_cons (ps_if (pt_cmpR op_eq (pv 2) pe_str (nomark _)) (pss_one (ps_ret (pe_mg cA hr (by decide) px (pv 0) (pa_cons (pv 3) (pa_cons (pv 4) (pa_cons (pv 5) pa_nil)))))) pss_nil)
      (pss_cons (ps_if (pt_cmpR op_eq (pv 2) pe_str (nomark _)) (pss_one (ps_ret (pe_mg cT hr (by decide) px (pv 0) (pa_cons (pv 3) (pa_cons (pv 4) (pa_cons (pv 5) pa_nil)))))) pss_nil)
      (pss_one (ps_ret (pe_ifExp (pt_cmpR op_eq (pv 2) pe_str (nomark _)) (pe_mg cL hr (by decide) px (pv 0) (pa_cons (pv 3) pa_nil)) (pe_mg0 cU hr (by decide) px (pv 0))))))), ?_⟩
    obtain ⟨dx, g, ru, tr, n, mv, pss, h1, h2, h3, h4, h5, h6, h7⟩ := id hy.yd
    refine ⟨_, rfl, q, _, rfl, hq, rfl, _, _, rfl, ?_⟩
    refine ⟨_, _, rfl, _, _, rfl, _, _, rfl, rfl, ?_⟩
    refine ⟨_, rfl, rfl, _, rfl, ?_⟩
    unfold DoP at k
    rw [beqS]
    refine ite2 (fun c1 => ?_) (fun c1 => ?_)
    · rw [if_pos (of_decide_eq_true c1)] at k
      exact ⟨_, rfl, a, dx, _, rfl, h1, rfl, _, rfl, _, rfl, _, rfl, a, p, r, t, now, past, v1, v2, v3, d1, d2, d3, rfl, hy, hp, i1, i2, i3, k⟩
    · rw [if_neg (fun z => c1 (decide_eq_true z))] at k
      refine ⟨_, rfl, rfl, _, rfl, ?_⟩
      rw [beqS]
      refine ite2 (fun c2 => ?_) (fun c2 => ?_)
      · rw [if_pos (of_decide_eq_true c2)] at k
        exact ⟨_, rfl, a, dx, _, rfl, h1, rfl, _, rfl, _, rfl, _, rfl, a, p, r, t, now, past, v1, v2, v3, d1, d2, d3, rfl, hy, hp, i1, i2, i3, hz, k⟩
      · rw [if_neg (fun z => c2 (decide_eq_true z))] at k
        refine ⟨_, rfl, rfl, _, rfl, ?_⟩
        rw [beqS]
        refine ite2 (fun c3 => ?_) (fun c3 => ?_)
        · rw [if_pos (of_decide_eq_true c3)] at k
          exact ⟨_, rfl, a, dx, _, rfl, h1, rfl, _, rfl, a, p, r, t, now, past, v1, d1, rfl, hy, hp, i1, k⟩
        · rw [if_neg (fun z => c3 (decide_eq_true z))] at k
          exact ⟨_, rfl, a, dx, _, rfl, h1, rfl, a, p, r, t, now, past, rfl, hy, hp, k⟩
end
/-- what the clauses ask of the classes -/
structure DoneF (K : PySem.W.Frag) (mg : Str → Option Value) (A : EA) (HE : Addr) : Prop where
  gh : mg "HoldError" = some (.ref HE)
  g1 : mg "NoHolder" = some (.ref A.noHolder)
  g2 : mg "NoThing" = some (.ref A.noThing)
  g3 : mg "NoAct" = some (.ref A.noAct)
  g4 : mg "NoHold" = some (.ref A.noHold)
  s1 : SeeC K A.noHolder
  s2 : SeeC K A.noThing
  s3 : SeeC K A.noAct
  s4 : SeeC K A.noHold
  f1 : PySem.W.findIn K (.ref A.noHolder) "holder" = some none
  f2 : PySem.W.findIn K (.ref A.noThing) "thing" = some none
  f3 : PySem.W.findIn K (.ref A.noAct) "act" = some none
  f4 : PySem.W.findIn K (.ref A.noHold) "holder" = some none
  em : PySem.W.exmOne K (.ref A.badMode) (.ref HE) = some true
  eb : PySem.W.exmOne K (.ref A.barred) (.ref HE) = some true
  en : PySem.W.exmOne K (.ref A.nothing) (.ref HE) = some true
  e1 : PySem.W.exmOne K (.ref A.noHolder) (.ref HE) = some false
  e11 : PySem.W.exmOne K (.ref A.noHolder) (.ref A.noHolder) = some true
  e2 : PySem.W.exmOne K (.ref A.noThing) (.ref HE) = some false
  e21 : PySem.W.exmOne K (.ref A.noThing) (.ref A.noHolder) = some false
  e22 : PySem.W.exmOne K (.ref A.noThing) (.ref A.noThing) = some true
  e3 : PySem.W.exmOne K (.ref A.noAct) (.ref HE) = some false
  e31 : PySem.W.exmOne K (.ref A.noAct) (.ref A.noHolder) = some false
  e32 : PySem.W.exmOne K (.ref A.noAct) (.ref A.noThing) = some false
  e33 : PySem.W.exmOne K (.ref A.noAct) (.ref A.noAct) = some true
  e4 : PySem.W.exmOne K (.ref A.noHold) (.ref HE) = some false
  e41 : PySem.W.exmOne K (.ref A.noHold) (.ref A.noHolder) = some false
  e42 : PySem.W.exmOne K (.ref A.noHold) (.ref A.noThing) = some false
  e43 : PySem.W.exmOne K (.ref A.noHold) (.ref A.noAct) = some false
  e44 : PySem.W.exmOne K (.ref A.noHold) (.ref A.noHold) = some true
/-- what is told of one's own ask: the count of deeds, or who is in the way -/
def OwnQ (C a p : Addr) (r : Rules) (t : Tree) (now : List Hold) (past : List (List Hold)) (who x act : Int) (H : Hp) (Q : VK) : Prop :=
  match barF r now who (raisedL t (tabOf now) who x ([act], [act])) with
  | some q => ∀ l H', Same H H' → H l = none → H' l = some (.lst [.str "Barred", .int q.1, .int q.2]) → Q (.ref l) H'
  | none => ∀ hs H', Fair r t hs → act ∈ mayL t hs who x → Yd H' C a p r t hs (past ++ [now]) → Kept a p H H' → Q (.int ((past.length : Int) + 1)) H'
/-- what is told of any deed: something, and the yard is fair -/
def AnyQ (C a p : Addr) (r : Rules) (t : Tree) (past : List (List Hold)) (H : Hp) (Q : VK) : Prop :=
  ∀ u hs ps H', Fair r t hs → (∀ g ∈ ps, Fair r t g) → ps.length ≤ past.length + 1 → Yd H' C a p r t hs ps → Kept a p H H' → Q u H'
def spDone (C : Addr) : Sp := fun vs H Q _ => ∃ (a q p : Addr) (r : Rules) (t : Tree) (now : List Hold) (past : List (List Hold)) (wd : Str) (v1 v2 v3 : V) (d1 d2 d3 : PyData), vs = [.ref a, .ref q] ∧ YOk H C a p r t now past ∧ past.length ≤ 24 ∧ H q = some (.tup [.str wd, v1, v2, v3]) ∧ Is H v1 d1 ∧ Is H v2 d2 ∧ Is H v3 d3 ∧ small d3 = true ∧
  ((∃ who x act, wd = "ask" ∧ d1 = .int who ∧ d2 = .int x ∧ d3 = .int act ∧ (0 ≤ who ∧ who < 4) ∧ InT t x ∧ (0 ≤ act ∧ act < r.1) ∧ OwnQ C a p r t now past who x act H Q) ∨ AnyQ C a p r t past H Q)
/-- the clauses -/
def clsL (A : EA) (HE : Addr) : List (Value × Nat × (Addr → Value → Option Addr → TS)) :=
  [(.ref HE, 2, fun a cls d D σ H => ∀ oe, Zc cls d oe → (∃ vs, oe.data = .fields vs) → tCallP (spTold A) a oe (tCons (tVar 2) tNil) σ H D.rt),
   (.ref A.noHolder, 2, fun a cls d => tRet (tLst (tCons (tC (.str "NoHolder")) (tCons (tXf a cls d A.noHolder "holder" (tVar 2)) tNil)))),
   (.ref A.noThing, 2, fun a cls d => tRet (tLst (tCons (tC (.str "NoThing")) (tCons (tXf a cls d A.noThing "thing" (tVar 2)) tNil)))),
   (.ref A.noAct, 2, fun a cls d => tRet (tLst (tCons (tC (.str "NoAct")) (tCons (tXf a cls d A.noAct "act" (tVar 2)) tNil)))),
   (.ref A.noHold, 2, fun a cls d => tRet (tLst (tCons (tC (.str "NoHold")) (tCons (tXf a cls d A.noHold "holder" (tVar 2)) tNil))))]
def EchD (K : PySem.W.Frag) (A : EA) (HE : Addr) (Q : VK) : XK := fun cls d H' => ∀ σ' : L2.St, σ'.length = 3 → wManyA K (fun _ _ _ _ => False) { nx := fun _ H' => Q .non H', rt := Q } (clsL A HE) cls d σ' H'
section
variable {K : PySem.W.Frag} {mg : Str → Option Value} {A : EA} {HE : Addr} {Q : VK} {H : Hp} {v u : V}
theorem tfX {X : Prop} (h : true = false) : X := nomatch h
theorem ftX {X : Prop} (h : false = true) : X := nomatch h
theorem out_noHolder (E0 : DoneF K mg A HE) (R : ∀ l H', Same H H' → H l = none → H' l = some (.lst [.str "NoHolder", v]) → Q (.ref l) H') : Out (EchD K A HE Q) H A.noHolder [("holder", v)] := fun dd H' s1 nd hd σ' hl => by
  match σ', hl with
  | [_, _, _], _ =>
    refine ⟨false, E0.e1, ftX, fun _ => ⟨true, E0.e11, fun _ b nb => ?_, tfX⟩⟩
    refine ⟨_, rfl, rfl, rfl, dd, _, v, rfl, hd, rfl, (by show 2 ≤ sizeLine; decide), fun l nl => ?_⟩
    exact R l _ (s1.trans (Same.new nl)) (s1.free nl) upd_same
theorem out_noThing (E0 : DoneF K mg A HE) (R : ∀ l H', Same H H' → H l = none → H' l = some (.lst [.str "NoThing", v]) → Q (.ref l) H') : Out (EchD K A HE Q) H A.noThing [("thing", v)] := fun dd H' s1 nd hd σ' hl => by
  match σ', hl with
  | [_, _, _], _ =>
    refine ⟨false, E0.e2, ftX, fun _ => ⟨false, E0.e21, ftX, fun _ => ⟨true, E0.e22, fun _ b nb => ?_, tfX⟩⟩⟩
    refine ⟨_, rfl, rfl, rfl, dd, _, v, rfl, hd, rfl, (by show 2 ≤ sizeLine; decide), fun l nl => ?_⟩
    exact R l _ (s1.trans (Same.new nl)) (s1.free nl) upd_same
theorem out_noAct (E0 : DoneF K mg A HE) (R : ∀ l H', Same H H' → H l = none → H' l = some (.lst [.str "NoAct", v]) → Q (.ref l) H') : Out (EchD K A HE Q) H A.noAct [("act", v)] := fun dd H' s1 nd hd σ' hl => by
  match σ', hl with
  | [_, _, _], _ =>
    refine ⟨false, E0.e3, ftX, fun _ => ⟨false, E0.e31, ftX, fun _ => ⟨false, E0.e32, ftX, fun _ => ⟨true, E0.e33, fun _ b nb => ?_, tfX⟩⟩⟩⟩
    refine ⟨_, rfl, rfl, rfl, dd, _, v, rfl, hd, rfl, (by show 2 ≤ sizeLine; decide), fun l nl => ?_⟩
    exact R l _ (s1.trans (Same.new nl)) (s1.free nl) upd_same
theorem out_noHold (E0 : DoneF K mg A HE) (R : ∀ l H', Same H H' → H l = none → H' l = some (.lst [.str "NoHold", v]) → Q (.ref l) H') : Out (EchD K A HE Q) H A.noHold [("holder", v)] := fun dd H' s1 nd hd σ' hl => by
  match σ', hl with
  | [_, _, _], _ =>
    refine ⟨false, E0.e4, ftX, fun _ => ⟨false, E0.e41, ftX, fun _ => ⟨false, E0.e42, ftX, fun _ => ⟨false, E0.e43, ftX, fun _ => ⟨true, E0.e44, fun _ b nb => ?_, tfX⟩⟩⟩⟩⟩
    refine ⟨_, rfl, rfl, rfl, dd, _, v, rfl, hd, rfl, (by show 2 ≤ sizeLine; decide), fun l nl => ?_⟩
    exact R l _ (s1.trans (Same.new nl)) (s1.free nl) upd_same
theorem out_badMode (E0 : DoneF K mg A HE) (R : ∀ l H', Same H H' → H l = none → H' l = some (.lst [.str "BadMode", v]) → Q (.ref l) H') : Out (EchD K A HE Q) H A.badMode [("mode", v)] := fun dd H' s1 nd hd σ' hl => by
  match σ', hl with
  | [_, _, _], _ =>
    refine ⟨true, E0.em, fun _ b nb oe hz hf => ?_, tfX⟩
    exact ⟨_, rfl, rfl, _, _, hz, hf, .inl ⟨rfl, dd, v, rfl, hd, fun l nl => R l _ (s1.trans (Same.new nl)) (s1.free nl) upd_same⟩⟩
theorem out_barred (E0 : DoneF K mg A HE) (R : ∀ l H', Same H H' → H l = none → H' l = some (.lst [.str "Barred", v, u]) → Q (.ref l) H') : Out (EchD K A HE Q) H A.barred [("other", u), ("thing", v)] := fun dd H' s1 nd hd σ' hl => by
  match σ', hl with
  | [_, _, _], _ =>
    refine ⟨true, E0.eb, fun _ b nb oe hz hf => ?_, tfX⟩
    exact ⟨_, rfl, rfl, _, _, hz, hf, .inr (.inl ⟨rfl, dd, v, u, rfl, hd, fun l nl => R l _ (s1.trans (Same.new nl)) (s1.free nl) upd_same⟩)⟩
theorem out_nothing (E0 : DoneF K mg A HE) (R : ∀ l H', Same H H' → Q (.ref l) H') : ∀ H', Same H H' → EchD K A HE Q (.ref A.nothing) none H' := fun H' s1 σ' hl => by
  match σ', hl with
  | [_, _, _], _ =>
    refine ⟨true, E0.en, fun _ b nb oe hz hf => ?_, tfX⟩
    exact ⟨_, rfl, rfl, _, _, hz, hf, .inr (.inr ⟨rfl, rfl, fun l nl => R l _ (s1.trans (Same.new nl))⟩)⟩
end
section
variable {P : Program} {w : World} {K : PySem.W.Frag} {mg : Str → Option Value} {base : Heap} {C : Addr} {A : EA} {HE : Addr}
theorem takesNone {X : Cx} : Takes X (fun _ _ _ _ => False) := fun _ _ ⟨_, _, _, _, _, _, _, _, _, _, _, _, _, _, _, _, w⟩ => w.elim
/-- the deed within the try -/
def tDo (A : EA) (C : Addr) (W : WX) : TS := fun D σ H => ∃ Ech : XK, (∀ cls d σ' H', σ'.length = 3 → Ech cls d H' → W cls d σ' H') ∧ tCall (spDo A C) [] Ech (tCons (tVar 0) (tCons (tVar 1) tNil)) σ H D.rt
theorem ok_done (E0 : DoneF K mg A HE) (D : Dn K mg "_law_done" sDone) (cD : CalX P w K mg base 8 "_law_do" (spDo A C)) (cT : CalP P w K mg base 1 "_law_error_told" (spTold A)) : C8.Cal P w K mg base 9 "_law_done" (spDone C) [] := by
  obtain ⟨fT, fdT, psT, FT, mT, kT, bT⟩ := cT.ex
  obtain ⟨fD, fdD, psD, FD, mD, kD, bD⟩ := cD.ex
  refine cal_of D sc_done (fun _ _ _ _ _ _ us hl => match us, hl with | [_, _], _ => rfl) (fun vs H Q E h => ?_) (fun f cdv A' outer s H vs Q E hr h => ?_)
  · obtain ⟨a, q, p, r, t, now, past, wd, v1, v2, v3, d1, d2, d3, rfl, _⟩ := h
    rfl
  · obtain ⟨a, q, p, r, t, now, past, wd, v1, v2, v3, d1, d2, d3, rfl, hy, hp, hq, i1, i2, i3, hz, k⟩ := h
    refine ⟨_, pss_one (ps_try_manyA (tb := tDo A C) rfl rfl sc_done.nd takesNone (fun W pn xe tk _ => ?_)
      (.cons (x := "HoldError") (n := "_law_error") (i := 2) (c := .ref HE) (ts := fun a cls d D σ H => ∀ oe, Zc cls d oe → (∃ vs, oe.data = .fields vs) → tCallP (spTold A) a oe (tCons (tVar 2) tNil) σ H D.rt) rfl rfl ⟨rfl, by decide, .inl E0.gh⟩ (fun a oe cls d pn hz hf => ?_)
      (.cons (x := "NoHolder") (n := "_law_error") (i := 2) (c := .ref A.noHolder) (ts := fun a cls d => tRet (tLst (tCons (tC (.str "NoHolder")) (tCons (tXf a cls d A.noHolder "holder" (tVar 2)) tNil)))) rfl rfl ⟨rfl, by decide, .inl E0.g1⟩ (fun a oe cls d pn hz hf => pss_one (ps_ret (pe_lst (pa_cons pe_str (pa_cons (pe_xfP E0.s1 E0.f1 List.mem_cons_self hz hf (pv 2)) pa_nil)))))
      (.cons (x := "NoThing") (n := "_law_error") (i := 2) (c := .ref A.noThing) (ts := fun a cls d => tRet (tLst (tCons (tC (.str "NoThing")) (tCons (tXf a cls d A.noThing "thing" (tVar 2)) tNil)))) rfl rfl ⟨rfl, by decide, .inl E0.g2⟩ (fun a oe cls d pn hz hf => pss_one (ps_ret (pe_lst (pa_cons pe_str (pa_cons (pe_xfP E0.s2 E0.f2 List.mem_cons_self hz hf (pv 2)) pa_nil)))))
      (.cons (x := "NoAct") (n := "_law_error") (i := 2) (c := .ref A.noAct) (ts := fun a cls d => tRet (tLst (tCons (tC (.str "NoAct")) (tCons (tXf a cls d A.noAct "act" (tVar 2)) tNil)))) rfl rfl ⟨rfl, by decide, .inl E0.g3⟩ (fun a oe cls d pn hz hf => pss_one (ps_ret (pe_lst (pa_cons pe_str (pa_cons (pe_xfP E0.s3 E0.f3 List.mem_cons_self hz hf (pv 2)) pa_nil)))))
      (.cons (x := "NoHold") (n := "_law_error") (i := 2) (c := .ref A.noHold) (ts := fun a cls d => tRet (tLst (tCons (tC (.str "NoHold")) (tCons (tXf a cls d A.noHold "holder" (tVar 2)) tNil)))) rfl rfl ⟨rfl, by decide, .inl E0.g4⟩ (fun a oe cls d pn hz hf => pss_one (ps_ret (pe_lst (pa_cons pe_str (pa_cons (pe_xfP E0.s4 E0.f4 List.mem_cons_self hz hf (pv 2)) pa_nil)))))
      .nil)))))), ?_⟩
    · refine ⟨fun pins s' σ' H' D' I h' => ?_⟩
      obtain ⟨Ech, hW, hc⟩ := h'
      have px := passX (E := Ech) (Takes.len tk) (fun c d σ H h hl => hW c d σ H hl h)
      refine PSs.run (t := tRet (tCall (spDo A C) [] Ech (tCons (tVar 0) (tCons (tVar 1) tNil)))) ?_ pins s' σ' H' D' I hc
      exact pss_one (ps_ret (pe_call FD hr (by rfl) mD kD bD .nil px (pa_cons (pv 0) (pa_cons (pv 1) pa_nil))))
    · refine ⟨fun pins s' σ' H' D' I h' => ?_⟩
      refine PSs.run (t := tRet (tCallP (spTold A) a oe (tCons (tVar 2) tNil))) ?_ pins s' σ' H' D' I (h' oe hz hf)
      exact pss_one (ps_ret (pe_callP FT (L2H.roomH_mark (hr.mono (by decide)) _) List.mem_cons_self (by rfl) mT kT bT (pa_cons (pv 2) pa_nil)))
    · obtain ⟨hyd, hF, hP, hR, hT⟩ := id hy
      refine ⟨EchD K A HE Q, fun cls d σ' H' hl h => h σ' hl, ?_⟩
      refine ⟨_, rfl, _, rfl, a, q, p, r, t, now, past, wd, v1, v2, v3, d1, d2, d3, rfl, hy, hp, hq, i1, i2, i3, hz, ?_⟩
      rcases k with ⟨who, x, act, rfl, rfl, rfl, rfl, hw, hx, ha, k⟩ | k
      · unfold DoP
        rw [if_pos rfl]
        unfold AskP ChkP
        have hx1 := hx.1
        have hx2 := hx.2
        rw [if_pos (isInt_in hw.1 (by omega)), if_pos (isInt_in hx1 (by omega))]
        intro who' x' e1 e2 _ _
        cases e1
        cases e2
        dsimp only
        rw [if_pos (isInt_in ha.1 (by omega))]
        intro act' e3 _ _
        cases e3
        unfold OwnQ at k
        unfold GiveP
        split
        · rename_i q0 eq0
          rw [eq0] at k
          exact out_barred E0 fun l H' s1 nl hl => k l H' s1 nl hl
        · rename_i eq0
          rw [eq0] at k
          exact fun hs H' f g y kk => k hs H' f (g act List.mem_cons_self) y kk
      · have er : ∀ u H', Same H H' → Q u H' := fun u H' s1 => k u now past H' hF hP (by omega) (hyd.same s1) (Kept.of s1)
        have give : ∀ who x m, GiveP A C a p r t now past who x m H Q (EchD K A HE Q) := fun who x m => by
          unfold GiveP
          split
          · exact out_barred E0 fun l H' s1 _ _ => er _ _ s1
          · refine fun hs H' f g y kk => k _ hs _ H' f (fun g hg => ?_) (by rw [List.length_append] <;> exact Nat.le_refl _) y kk
            rcases List.mem_append.mp hg with z | z
            · exact hP g z
            · rw [List.mem_singleton.mp z]
              exact hF
        have nh := fun v => out_noHolder (Q := Q) (H := H) E0 (v := v) fun l H' s1 _ _ => er _ _ s1
        have nt := fun v => out_noThing (Q := Q) (H := H) E0 (v := v) fun l H' s1 _ _ => er _ _ s1
        have na := fun v => out_noAct (Q := Q) (H := H) E0 (v := v) fun l H' s1 _ _ => er _ _ s1
        have nd := fun v => out_noHold (Q := Q) (H := H) E0 (v := v) fun l H' s1 _ _ => er _ _ s1
        have nm := fun v => out_badMode (Q := Q) (H := H) E0 (v := v) fun l H' s1 _ _ => er _ _ s1
        unfold DoP
        split
        · unfold AskP ChkP
          split
          · split
            · intro who x e1 e2 _ _
              dsimp only
              split
              · exact fun act _ _ _ => give _ _ _
              · exact na _
            · exact nt _
          · exact nh _
        · split
          · unfold TakeP ChkP
            split
            · split
              · intro who x e1 e2 _ _
                dsimp only
                split
                · exact fun m _ _ => give _ _ _
                · exact nm _
              · exact nt _
            · exact nh _
          · split
            · refine ⟨nh _, fun i _ => nd _, fun hs n H' f y kk => k _ hs _ H' f (fun g hg => ?_) (by rw [List.length_append] <;> exact Nat.le_refl _) y kk⟩
              rcases List.mem_append.mp hg with z | z
              · exact hP g z
              · rw [List.mem_singleton.mp z]
                exact hF
            · refine ⟨out_nothing E0 fun l H' s1 => er _ _ s1, fun hs ps n H' e y kk => k _ hs ps H' (hP hs (by rw [e]; simp)) (fun g hg => hP g (by rw [e]; simp [hg])) (by rw [e, List.length_append]; omega) y kk⟩
end
end HM
/-! A lambda of one argument, handed to a method that calls it. -/
namespace HM
open PySem PySem.Spec PyProof.Rows L2 LamX
/-- its one own name is b; the others it has from the def around, or from the module -/
structure LamB (sc scope : Scope) (b : Str) : Prop where
  kind : scope.kind = .function
  co : scope.isCoroutine = false
  gen : scope.isGenerator = false
  loc : ∀ y ∈ scope.names, y.2 = .local → y.1 = b
  nocell : ∀ y ∈ scope.names, y.2 ≠ .cell
  par : scope.names.lookup b = some .local
  free : ∀ y ∈ scope.names, y.2 = .free → sc.names.lookup y.1 = some .cell ∨ sc.names.lookup y.1 = some .free
theorem LamB.there {X : Cx} {scope : Scope} {b : Str} (L : LamB X.env.scope scope b) (ok : X.Ok) : ∀ y ∈ scope.names, y.2 = .free → ∃ c, X.env.cells.lookup y.1 = some c := fun y hy e =>
  (L.free y hy e).elim (fun k => ok.has _ (.inl k)) fun k => ok.has _ (.inr k)
/-- the body's context: the names of the def around, then the own one -/
def lamCxB (X : Cx) (b : Str) (A : Around) (outer : List Env) (s : Shared) (H : Hp) (E : XK) (scope : Scope) (f c' : Addr) : Cx := { lamCx X A outer s H E scope f c' with N := X.N ++ [b] }
section
variable {X : Cx} {pins : List (Addr × Obj)} {σ : L2.St} {H HZ : Hp} {s s1 : Shared}
theorem lamB_start {A : Around} {outer : List Env} {E : XK} {scope : Scope} {f c' : Addr} {h₁ : Heap} {tk : Nat} {b : Str} {v : V} {u : Value} (J : Inv X pins σ H s) (L : LamB X.env.scope scope b) (hb : b ∉ X.N) (e0 : Env0 X.prog X.w X.K X.mg X.base A outer s1 HZ) (hd : A.handled = none)
    (un : Un (frs X.stack) [] H HZ s.heap s1.heap) (rv : L2.RelV v u) (hns : h₁.Ns s1.heap.objs.size fun y => ([(b, u)] : List (Str × Value)).reverse.lookup y) (kp : ∀ c o, s1.heap.get? c = some o → h₁.get? c = some o) :
    Inv (lamCxB X b A outer s1 HZ E scope f c') [] (σ ++ [some v]) HZ { s1 with heap := h₁, toks := tk } := by
  have fr := L.there J.ok
  have outE : ∀ {y c}, (cloFrom X.env.cells scope.names []).lookup y = some c → X.env.cells.lookup y = some c := fun {y c} e => by
    rcases cloFrom_mem (PySem.mem_of_lookup e) with bad | ⟨g1, g2⟩
    · cases bad
    · obtain ⟨c1, hc1⟩ := fr _ g1 rfl
      have hc1 : X.env.cells.lookup y = some c1 := hc1
      have ec : c = c1 := by
        rw [g2, hc1] <;> rfl
      rw [ec]
      exact hc1
  have inE : ∀ {y}, scope.names.lookup y = some .free → ∃ c, (cloFrom X.env.cells scope.names []).lookup y = some c := fun {y} hl => by
    have my : (y, NameKind.free) ∈ scope.names := PySem.mem_of_lookup hl
    exact mem_lookup (cloFrom_has (cells := X.env.cells) (acc := []) my)
  have cellU : ∀ {c : Addr} {x : Option Value}, H c = none → s.heap.IsCell c x → h₁.IsCell c x := fun {c x} n ⟨o, ho, hq⟩ => by
    obtain ⟨sl, q⟩ := un.any ho n (by simp)
    exact ⟨_, kp _ _ q, hq⟩
  have none_ : ∀ c : Addr, c ∉ (lamCxB X b A outer s1 HZ E scope f c').ex := fun c z => absurd (show c ∈ ([] : List Addr) from z) (by simp)
  refine ⟨⟨e0.mod, L.kind, rfl, rfl, Nat.le_refl _, fun y z c e1 e2 => J.ok.inj y z c (outE e1) (outE e2), fun y hy => ?_, fun y c z _ => ?_, fun _ => hd, Around.frames_deeper e0.frames, .inr ⟨rfl, rfl⟩, fun c z => absurd z (none_ c), e0.bs, e0.bsz, fun c _ _ => none_ c,
      fun c z => absurd z (none_ c), e0.funs, e0.frf⟩,
    rfl, e0.bare, Un.kept kp, ⟨_, hns, fun i y x e1 e2 e3 => ?_⟩, fun y c e => ?_, e0.hok.fresh (Nat.le_refl _), fun y c e => ?_, fun q hq => absurd (show q ∈ ([] : List (Addr × Obj)) ++ [] from hq) (by simp), e0.hok.kept kp, ?_⟩
  · have hy : scope.names.lookup y = some .cell ∨ scope.names.lookup y = some .free := hy
    exact hy.elim (fun z => absurd rfl (L.nocell _ (PySem.mem_of_lookup z))) fun z => inE z
  · have z : false = true := z
    cases z
  · have e3 : Vis scope y := e3
    have e1 : (X.N ++ [b])[i]? = some y := e1
    have hlen := J.len
    by_cases ci : i < X.N.length
    · rw [List.getElem?_append_left ci] at e1
      rw [List.getElem?_append_left (by omega)] at e2
      rcases e3 with k | k | k
      · have z := L.loc _ (PySem.mem_of_lookup k) rfl
        dsimp only at z
        exact absurd (List.mem_of_getElem? e1) (by rw [z]; exact hb)
      · exact absurd rfl (L.nocell _ (PySem.mem_of_lookup k))
      · obtain ⟨m, hn, hl⟩ := J.loc
        have vis : Vis X.env.scope y := (L.free _ (PySem.mem_of_lookup k) rfl).elim (fun k => .inr (.inl k)) (fun k => .inr (.inr k))
        obtain ⟨w', r, q⟩ := hl i y x e1 e2 vis
        obtain ⟨c2, h2⟩ := inE k
        refine ⟨w', r, .inr ⟨.inr k, c2, h2, ?_⟩⟩
        have c1 := outE h2
        rcases q with ⟨k', _⟩ | ⟨_, c3, e', z⟩
        · have k' : X.env.scope.names.lookup y = some .local := k'
          rcases L.free _ (PySem.mem_of_lookup k) rfl with k2 | k2 <;> rw [show X.env.scope.names.lookup y = _ from k2] at k' <;> cases k'
        · rw [c1] at e'
          cases e'
          exact cellU (J.freeC y _ c1) z
    · rw [List.getElem?_append_right (by omega)] at e1 e2
      have ei : i - X.N.length = 0 := by
        cases e : i - X.N.length with
        | zero => rfl
        | succ n =>
          rw [e] at e1
          cases e1
      rw [ei] at e1
      rw [hlen, ei] at e2
      cases e1
      cases e2
      exact ⟨u, rv, .inl ⟨L.par, by simp [List.lookup]⟩⟩
  · obtain ⟨w', z⟩ := J.cell y c (outE e)
    exact ⟨w', cellU (J.freeC y c (outE e)) z⟩
  · obtain ⟨x, o, ho, hq⟩ := J.cell y c (outE e)
    exact un.free c o ho (J.freeC y c (outE e)) (by simp)
  · show (σ ++ [some v]).length = (X.N ++ [b]).length
    rw [List.length_append, List.length_append, J.len] <;> rfl
/-- x(e), in the def that got the lambda, entered at s -/
theorem pe_actB {Ng : List Str} {qg : Str} {sg : Scope} {g f c' : Addr} {cdg pm ctv : Value} {params : Arguments} {body e : Expr} {scope : Scope} {k i : Nat} {a b : Str} {tb : TE} {t : TA} {p1 p2 : Pos}
    (J : Inv X pins σ H s) (L : LamB X.env.scope scope b) (hbN : b ∉ X.N) (hf : s.heap.get? f = some (PySem.W.kla_obj "<lambda>" (X.env.qual ++ "<lambda>") params body scope (cloFrom X.env.cells scope.names []) pm c' ctv)) (hfn : H f = none) (hfr : f ∉ frs X.stack)
    (hbind : ∀ u : Value, bindArgs (PySem.W.kla_fn "<lambda>" (X.env.qual ++ "<lambda>") params body scope (cloFrom X.env.cells scope.names []) pm (.ref c') ctv) ⟨[u], []⟩ = pure [(b, u)])
    (hr : Room (k + 1) (X.A.deeper (envOfC qg sg s.heap.objs.size g cdg)))
    (hbody : ∀ (A : Around) (outer : List Env) (s : Shared) (H : Hp), Room k (A.deeper (lamEnv X scope s.heap.objs.size f c')) → PE (lamCxB X b A outer s H C8.E0 scope f c') body tb)
    (hN : Ng[i]? = some a) (hv : Vis sg a) (ha : PA (cxOf C8.CX0 X.prog X.w X.K X.mg X.base Ng qg sg g cdg X.A X.stack s H C8.E0).nox [e] t) (hd : (a == ("__debug__" : Str)) = false := by decide) (hcd : (a == ("__classdict__" : Str)) = false := by decide)
    (he : starEach [e] (cxOf C8.CX0 X.prog X.w X.K X.mg X.base Ng qg sg g cdg X.A X.stack s H C8.E0).nox.env = [(false, eval e (cxOf C8.CX0 X.prog X.w X.K X.mg X.base Ng qg sg g cdg X.A X.stack s H C8.E0).nox.env)] := by rfl) :
    PE (cxOf C8.CX0 X.prog X.w X.K X.mg X.base Ng qg sg g cdg X.A X.stack s H C8.E0).nox (.Call (.Name a p1) [e] [] p2)
      (fun σZ HZ Q => σZ[i]? = some (some (.ref f)) ∧ t σZ HZ fun vs H1 => ∃ v, vs = [v] ∧ H1 c' = some (CodeO c' (X.env.qual ++ "<lambda>")) ∧ tb (σ ++ [some v]) H1 Q) := by
  refine ⟨fun pinsZ sZ σZ HZ Q IZ h => ?_⟩
  obtain ⟨hs, ht⟩ := h
  refine wpAny_Call_Name_kw (thn ((pe_var (pos := p1) (i := i) hN hv hd hcd).run pinsZ sZ σZ HZ (fun v H1 => v = .ref f ∧ H1 = HZ) IZ ⟨.ref f, hs, rfl, rfl⟩) fun u s1 ⟨v, H1, I1, r1, q1⟩ => ?_)
  obtain ⟨ev, eH⟩ := q1
  subst ev
  rw [eH] at I1
  obtain rfl : u = Value.ref f := r1
  have of1 : s1.heap.get? f = some (PySem.W.kla_obj "<lambda>" (X.env.qual ++ "<lambda>") params body scope (cloFrom X.env.cells scope.names []) pm c' ctv) := I1.base.keep f _ hf hfn hfr (fun z => nomatch (show f ∈ ([] : List Addr) from z))
  refine PySem.W.callWith_F (first := []) ⟨_, _, _, _, of1⟩ (thn (ha.run p2 pinsZ s1 σZ HZ _ I1 ht) fun us s2 ⟨vs, H2, I2, r, q⟩ => ?_) he rfl
  obtain ⟨v, rfl, hc, ht2⟩ := q
  have of2 : s2.heap.get? f = some (PySem.W.kla_obj "<lambda>" (X.env.qual ++ "<lambda>") params body scope (cloFrom X.env.cells scope.names []) pm c' ctv) := I2.base.keep f _ hf hfn hfr (fun z => nomatch (show f ∈ ([] : List Addr) from z))
  refine ⟨⟨_, _, _, _, of2⟩, ?_⟩
  obtain ⟨u, rfl, ru⟩ := vals1 r
  have un : Un (frs X.stack) [] H H2 s.heap s2.heap := I2.base
  obtain ⟨⟨oc, ws, tq, hoc, hdc, hvc⟩, _, _⟩ := I2.hok c' _ hc
  have rc : codeAny (model X.prog X.w) (X.A.deeper (envOfC qg sg s.heap.objs.size g cdg)) (.call (.ref f) ⟨[u], []⟩) (CR (L2.CX X.prog X.w) (envOfC qg sg s.heap.objs.size g cdg :: X.stack) X.prog X.w H2 s2 Q C8.E0) s2 := by
    refine PySem.W.kla_callFunE hr.depth of2 rfl L.co L.gen rfl ⟨c', oc, ws, tq, rfl, hoc, hdc, hvc⟩ ?_
    rw [hbind]
    refine wpAny_pure (wpAny_newFunctionEnv (fun y hy => L.nocell y hy) (fun y hy => ?_) (fun h₁ hns hsb => ⟨I2.nolimit.fresh _ hsb, ?_⟩) L.kind)
    · rw [List.mem_singleton.mp hy]
      exact L.par
    show codeAny _ _ (.expr body (lamEnv X scope s2.heap.objs.size f c')) _ _
    have kp : ∀ c o, s2.heap.get? c = some o → h₁.get? c = some o := fun c o e => hsb.extBut c o (Nat.ne_of_lt (Heap.lt_size e)) (Heap.get?_push_of_some _ e)
    have J2 : Inv (lamCxB X b (X.A.deeper (envOfC qg sg s.heap.objs.size g cdg)) (envOfC qg sg s.heap.objs.size g cdg :: X.stack) s2 H2 C8.E0 scope f c') [] (σ ++ [some v]) H2 { s2 with heap := h₁, toks := s2.toks + ([(b, u)] : List (Str × Value)).length } :=
      lamB_start J L hbN I2.env0 hr.hd un ru hns kp
    refine PySem.W.kla_codeExpr (wpAny_mono ((hbody _ _ s2 H2 (hr.deeper _)).run [] _ _ H2 Q J2 ht2) (fun x s' hq => ?_) fun x s' hq => hq)
    obtain ⟨w', H', J', rv, q⟩ := hq
    exact ⟨w', H', J'.os, J'.bare, J'.base, J'.hok, rv, q⟩
  refine wpAny_call (codeAny_mono rc fun r s' hq => ?_)
  cases r with
  | error er =>
    obtain ⟨_, _, _, _, _, _, _, _, _, _, _, _, z⟩ := hq
    exact (show False from z).elim
  | ok fl =>
    cases fl with
    | ret x => exact I2.after hq
    | next => exact False.elim hq
    | brk => exact False.elim hq
    | cont => exact False.elim hq
end
end HM
/-! Yard.tried, called with a lambda. -/
namespace HM
open PySem PySem.Spec PyProof.Rows L2 LamX
abbrev mTried : Stmt := inClass (top 48) 20
theorem sc_mTried : FnScope ["self", "function", "now", "past", "moved"] ["self", "function"] (defScope mTried) := ⟨rfl, rfl, rfl, by decide +kernel, rfl, by decide +kernel, by decide +kernel⟩
/-- the tables stand while only a, an instance, and p, a list, are written -/
theorem tabs_kept {T : List (Addr × Str)} {H H' : Hp} {a p C dx : Addr} {fs : List (Str × V)} {ps : List V} (h : Tabs T H) (ha : H a = some (.ins C dx fs)) (hp : H p = some (.lst ps)) (k : Kept a p H H') : Tabs T H' := fun q hq => by
  obtain ⟨ts, h1, h2, h3⟩ := h q hq
  refine ⟨ts, k _ _ h1 (fun z => ?_) (fun z => ?_), h2, fun pos cv hc => ?_⟩
  · rw [z, ha] at h1
    cases h1
  · rw [z, hp] at h1
    cases h1
  · obtain ⟨c, e, hco⟩ := h3 pos cv hc
    refine ⟨c, e, k _ _ hco (fun z => ?_) (fun z => ?_)⟩
    · rw [z, ha] at hco
      unfold CodeO at hco
      cases hco
    · rw [z, hp] at hco
      unfold CodeO at hco
      cases hco
theorem ExtN.tups {H H' : Hp} (e : ExtN H H') : Tups H H' := fun c xs h => e c _ h fun ps z => by cases z
/-- behind the lambda's deed: all is put back -/
def Rest (C a p : Addr) (T : List (Addr × Str)) (r : Rules) (t : Tree) (now : List Hold) (past : List (List Hold)) (H H1 : Hp) (Q : VK) : VK := fun v H2 => ∃ (now' : List Hold) (past' : List (List Hold)), Yd H2 C a p r t now' past' ∧ Kept a p H1 H2 ∧
  ∀ l H3, Yd H3 C a l r t now past → (∃ o, H1 l = some o) → (∀ xs, H l ≠ some (.lst xs)) → (∀ c o, H2 c = some o → c ≠ a → H3 c = some o) → Tabs T H3 → Q v H3
/-- what a call of yard.tried(lambda held: ..) makes: j the yard's slot; tb the lambda's body, the yard behind the last name -/
def tTried (C : Addr) (T : List (Addr × Str)) (j : Nat) (tb : TE) : TE := fun σ H Q => Tabs T H ∧ ∃ (a p : Addr) (r : Rules) (t : Tree) (now : List Hold) (past : List (List Hold)), σ[j]? = some (some (.ref a)) ∧ Yd H C a p r t now past ∧
  ∀ (H1 : Hp) (R : VK), ExtN H H1 → Tabs T H1 → Yd H1 C a p r t now past → (∀ v H2, Rest C a p T r t now past H H1 Q v H2 → R v H2) → tb (σ ++ [some (.ref a)]) H1 R
section
variable {X : Cx} {C : Addr}
theorem pe_tried {T : List (Addr × Str)} {y b : Str} {j : Nat} {c P : Addr} {k : Nat} {params : Arguments} {body : Expr} {scope : Scope} {tb : TE} {p lpos apos pos : Pos} {pl : Sem Bool} (F : Free X.mg) (Y : Yc X.K C) (D : Mt X.K C "tried" "Yard.tried" mTried) (hj : X.N[j]? = some y) (hvy : Vis X.env.scope y)
    (TB : TabB X.base X.mg c P) (hcode : X.env.code = .ref c) (hmT : (P, X.env.qual ++ "<lambda>") ∈ T) (hu : ∀ p ∈ T, p.1 = P → p.2 = X.env.qual ++ "<lambda>") (hr : Room (k + 2) X.A) (L : LamB X.env.scope scope b) (hbN : b ∉ X.N) (hdef : defaultsOf params X.env = ([], []))
    (hbind : ∀ (q : Str) (cl : List (Str × Addr)) (pm cv ctv u : Value), bindArgs (PySem.W.kla_fn "<lambda>" q params body scope cl pm cv ctv) ⟨[u], []⟩ = pure [(b, u)])
    (hbody : ∀ (A : Around) (outer : List Env) (s : Shared) (H : Hp) (f c' : Addr), Room k (A.deeper (lamEnv X scope s.heap.objs.size f c')) → PE (lamCxB X b A outer s H C8.E0 scope f c') body tb)
    (ht : eval (.Call (.Attribute (.Name y p) "tried" apos) [.Lambda params body scope lpos] [] pos) X.env = (do
      let ov ← eval (.Name y p) X.env
      standAt apos.atName
      let (f, first) ← holding [ov] (getMethod ov "tried" pl)
      callWith pos f first (backTo pos (starEach [.Lambda params body scope lpos] X.env)) (backToKw pos (keywordEach [] X.env))) := by rfl)
    (hd : (y == ("__debug__" : Str)) = false := by decide) (hcd : (y == ("__classdict__" : Str)) = false := by decide) :
    PE X (.Call (.Attribute (.Name y p) "tried" apos) [.Lambda params body scope lpos] [] pos) (tTried C T j tb) := by
  refine ⟨fun pins s σ H Q I h => ?_⟩
  obtain ⟨hT, a, pp, r, t, now, past, hσ, hy, h⟩ := h
  obtain ⟨g, fd, hm, FD⟩ := D.ex
  obtain ⟨oc, od, dV, kV, doc, pm0, an, cdv, ct, osl, rfl, lk, hcg, _, _⟩ := id FD.ex
  have hb := FD.bindsN (ps := ["self", "function"]) (fun _ _ _ _ _ _ us hl => match us, hl with | [_, _], _ => rfl)
  refine PySem.W.methodCall_KW (pl := pl) (thn ((pe_var (pos := p) hj hvy hd hcd).run pins s σ H (fun v H1 => v = .ref a ∧ H1 = H) I ⟨.ref a, hσ, rfl, rfl⟩) fun u s1 ⟨x, H1, I1, rx, ex, eH⟩ => ?_) ht
  subst ex
  rw [eH] at I1
  obtain rfl : u = Value.ref a := rx
  obtain ⟨dx, gg, ru, tr, n, mv, pss, h1, h2, h3, h4, h5, h6, h7⟩ := id hy
  refine getmeth_ok I1 h1 Y.cls hm rfl ?_
  refine PySem.W.callWith_K (first := [.ref a]) (h₀ := X.base) I1.ok.mod.kin hm.kp ?_ (by rfl) (by rfl)
  show wpAny _ _ (spliced ((false, eval (.Lambda params body scope lpos) X.env) :: backTo pos (starEach [] X.env))) _ _ s1
  refine Calls.spliced_cons (lam_make2 I1 TB hcode hmT hu hT hdef (L.there I1.ok) fun f c' pm' ctv H1 s' I2 eN T1 hf hfn hfr hco => ?_)
  refine Calls.spliced_nil ⟨I2.kIn, ?_⟩
  have hy1 : Yd H1 C a pp r t now past := ⟨dx, gg, ru, tr, n, mv, pss, eN _ _ h1 (fun _ z => by cases z), eN _ _ h2 (fun _ z => by cases z), h3.tups (ExtN.tups eN) (tupd_rules _), h4.tups (ExtN.tups eN) (tupd_tree _), h5.tups (ExtN.tups eN) (tupd_holds _), eN _ _ h6 (fun _ z => by cases z), IsAll.tups (ExtN.tups eN) h7 (tupd_past _)⟩
  have rc : codeAny (model X.prog X.w) X.A (.call (.ref g) ⟨[.ref a, .ref f], []⟩) (CR C8.CX0 X.stack X.prog X.w H1 s' Q C8.E0) s' := by
    refine run_ofS (N := ["self", "function", "now", "past", "moved"]) (ps := ["self", "function"]) (us := [.ref a, .ref f]) (vs := [.ref a, .ref f]) lk hcg sc_mTried hr I2.env0 (hb s' [.ref a, .ref f] I2.kIn rfl) (.cons rfl (.cons rfl .nil)) rfl fun hr' => ?_
    have act := fun {p1 p2 p3 : Pos} => pe_actB (g := g) (cdg := cdv) (qg := "Yard.tried") (sg := defScope mTried) (Ng := ["self", "function", "now", "past", "moved"]) (a := "function") (i := 1) (p1 := p1) (p2 := p2) (e := .Name "self" p3) I2 L hbN hf hfn hfr (hbind _ _ _ _ _) hr' (fun A outer s H hr2 => hbody A outer s H f c' hr2) rfl (.inl rfl) (pa_cons (pv 0) pa_nil)
    refine ⟨_, pss_cons (ps_par3 (i := 2) (j := 3) (l := 4) rfl sc_mTried.nd rfl rfl rfl (by decide) (by decide) (by decide) rfl rfl rfl (pa_cons (pe_fld (pv 0) rfl) (pa_cons (pe_callTy call_list_of (by rfl) F.list boot_listN (pa_cons (pe_fld (pv 0) rfl) pa_nil)) (pa_cons (pe_fld (pv 0) rfl) pa_nil))) rfl)
      (pss_one (ps_retFin act (pss_cons (ps_fld (pv 0) (pv 2) rfl) (pss_cons (ps_fld (pv 0) (pv 3) rfl) (pss_one (ps_fld (pv 0) (pv 4) rfl)))))), ?_⟩
    have hn1 := eN _ _ h1 (fun _ z => by cases z)
    have hn6 := eN _ _ h6 (fun _ z => by cases z)
    refine ⟨_, rfl, a, C, dx, _, _, rfl, hn1, Y.cls, Y.now, rfl, _, rfl, a, C, dx, _, _, rfl, hn1, Y.cls, Y.past, rfl, pp, pss, rfl, .inl (.of hn6), fun l nl => ?_⟩
    have sl := Same.new (o := HO.lst pss) nl
    refine ⟨_, rfl, a, C, dx, _, _, rfl, sl _ _ hn1, Y.cls, Y.moved, rfl, _, _, _, rfl, ?_⟩
    refine ⟨rfl, _, rfl, _, rfl, sl _ _ hco, ?_⟩
    have T2 := T1.ext (H' := upd H1 l (.lst pss)) fun c o e => sl c o e
    have hy2 := hy1.same sl
    refine h _ _ (eN.trans (ExtN.of fun c o e => sl c o e)) T2 hy2 fun v H2 hrest => ?_
    obtain ⟨now', past', hy3, kk, fin⟩ := hrest
    have nA2 := hy3.noA
    obtain ⟨dx2, g2, ru2, tr2, n2, mv2, ps2, q1, q2, q3, q4, q5, q6, q7⟩ := hy3
    have la : l ≠ a := fun z => by rw [z, hn1] at nl; cases nl
    have lp : l ≠ pp := fun z => by rw [z, hn6] at nl; cases nl
    refine ⟨_, rfl, _, rfl, a, C, dx2, _, rfl, q1, Y.cls, Y.now, (by show 4 < 1000; decide), ?_⟩
    refine ⟨_, rfl, _, rfl, a, C, dx2, _, rfl, upd_same, Y.cls, Y.past, (by show 4 < 1000; decide), ?_⟩
    refine ⟨_, rfl, _, rfl, a, C, dx2, _, rfl, upd_same, Y.cls, Y.moved, (by show 4 < 1000; decide), ?_⟩
    rw [upd_upd, upd_upd]
    have k3 : ∀ {o : HO} c u, H2 c = some u → c ≠ a → upd H2 a o c = some u := fun {o} c u e n => by
      rw [upd_ne n]
      exact e
    have t13 : Tups H1 (upd H2 a (.ins C dx2 [("ground", .ref g2), ("now", n), ("past", .ref l), ("moved", mv)])) := fun c xs e => by
      have na : c ≠ a := fun z => by rw [z, hn1] at e; cases e
      have np : c ≠ pp := fun z => by rw [z, hn6] at e; cases e
      exact k3 c _ (kk c _ (sl c _ e) na np) na
    have t23 : Tups H2 (upd H2 a (.ins C dx2 [("ground", .ref g2), ("now", n), ("past", .ref l), ("moved", mv)])) := fun c xs e => k3 c _ e fun z => by rw [z, q1] at e; cases e
    refine fin l _ ⟨dx2, g2, ru2, tr2, n, mv, pss, upd_same, k3 _ _ q2 (fun z => nA2 _ (z ▸ q2)), q3.tups t23 (tupd_rules _), q4.tups t23 (tupd_tree _), (h5.tups (ExtN.tups eN) (tupd_holds _)).tups t13 (tupd_holds _), k3 _ _ (kk _ _ upd_same la lp) la, IsAll.tups t13 (IsAll.tups (ExtN.tups eN) h7 (tupd_past _)) (tupd_past _)⟩ ⟨_, upd_same⟩ (fun xs e => ?_) (fun c o e n => k3 c o e n) ?_
    · rw [eN _ _ e (fun _ z => by cases z)] at nl
      cases nl
    · exact tabs_kept T2 (sl _ _ hn1) (sl _ _ hn6) fun c o e na np => k3 c o (kk c o e na np) na
  refine wpAny_call (codeAny_mono rc fun r s2 hq => ?_)
  cases r with
  | error e => exact (show False from hq).elim
  | ok fl =>
    cases fl with
    | ret u => exact I2.after hq
    | next => exact False.elim hq
    | brk => exact False.elim hq
    | cont => exact False.elim hq
end
end HM
/-! repr of data. -/
namespace HM
open PySem PySem.Spec PyProof.Rows L2
/-- sys.modules is a dict of the ground -/
def SysB (base : Heap) : Prop := ∃ (o : Obj) (es : Array DictEntry) (n : Nat), base.get? sysModules = some o ∧ o.data = .dict es n
section
variable {X : Cx} {pins : List (Addr × Obj)} {σ : L2.St} {H : Hp} {s : Shared}
theorem sys_ne (I : Inv X pins σ H s) (hs : SysB X.base) {a : Addr} {o : Obj} {its : Array Value} {n : Nat} (e : s.heap.get? a = some o) (d : o.data = .seq its n) : sysModules ≠ a := fun z => by
  obtain ⟨o2, es, m, k1, k2⟩ := hs
  have q := I.bk _ _ k1
  rw [z, e] at q
  cases q
  rw [d] at k2
  cases k2
mutual
theorem Is.reads (I : Inv X pins σ H s) (hs : SysB X.base) : ∀ {v : V} {d : PyData} (u : Value), Is H v d → RelV v u → ∃ as, Reads s.heap u d as ∧ sysModules ∉ as
  | _, _, _, .non, r => by
    cases r
    exact ⟨_, Reads.none, by simp⟩
  | _, _, _, .bl b, r => by
    cases r
    exact ⟨_, Reads.bool b, by simp⟩
  | _, _, _, .int i, r => by
    obtain ⟨t, rfl⟩ := r
    exact ⟨_, Reads.int i t, by simp⟩
  | _, _, _, .str x, r => by
    obtain ⟨t, rfl⟩ := r
    exact ⟨_, Reads.str x t, by simp⟩
  | _, _, _, .lst h q, r => by
    cases r
    obtain ⟨its, rv, ⟨o, n, ho, hc, _, hd⟩, _⟩ := I.list (.inl (.of h))
    obtain ⟨as, hr, hn⟩ := IsAll.reads I hs its q rv
    exact ⟨_, Reads.list ho hc hd hr, fun z => (List.mem_cons.mp z).elim (sys_ne I hs ho hd) hn⟩
  | _, _, _, .tup h q, r => by
    cases r
    obtain ⟨its, rv, ⟨o, ho, hc, n, hd⟩, _⟩ := I.tuple (.inl (.of h))
    obtain ⟨as, hr, hn⟩ := IsAll.reads I hs its q rv
    exact ⟨_, Reads.tuple ho hc hd hr, hn⟩
  | _, _, _, .dct0 h, r => by
    cases r
    obtain ⟨_, hne, vs, kv, o, es, ep, ho, hx, hd, hk, hp, _⟩ := dk_of I.hok h
    have e : es.toList = [] := by
      cases kv
      generalize es.toList = l at hp
      cases hp
      rfl
    refine ⟨_, Reads.dict (kvs := []) ho hx.1 hd (as := []) (bs := []) (by rw [e]; exact .nil) (by rw [e]; exact .nil), fun z => ?_⟩
    have q := List.mem_singleton.mp (show sysModules ∈ [_] from z)
    rw [← q] at hne
    simp at hne
  | _, _, _, .dct1 (x := x) (i := i) h, r => by
    cases r
    obtain ⟨_, hne, vs, kv, o, es, ep, ho, hx, hd, hk, hp, _⟩ := dk_of I.hok h
    cases kv with
    | cons p1 p2 =>
      cases p2
      obtain ⟨e1, e2⟩ := p1
      have e : ∃ en : DictEntry, es.toList = [en] ∧ (∃ t, en.key = .str x t) ∧ ∃ t, en.val = .int i t := by
        generalize es.toList = l at hp
        cases hp with
        | cons a1 a2 a3 =>
          cases a3
          obtain ⟨t2, e2⟩ := e2
          refine ⟨_, rfl, ?_, t2, a2.trans e2⟩
          rw [← e1] at a1
          rcases keyIs_shape (k := (.inr x : Key)) a1 with ⟨j, t, z, _⟩ | ⟨y, t, z, z2⟩
          · cases z
          · injection z with z
            exact ⟨t, by rw [z2, z]⟩
      obtain ⟨en, e, ⟨t, ek⟩, t2, ev⟩ := e
      refine ⟨_, Reads.dict (kvs := [(.str x, .int i)]) ho hx.1 hd (as := [] ++ []) (bs := [] ++ []) (by rw [e]; simp only [List.map_cons, List.map_nil]; rw [ek]; exact .cons (.str _ _) .nil) (by rw [e]; simp only [List.map_cons, List.map_nil]; rw [ev]; exact .cons (.int _ _) .nil), fun z => ?_⟩
      have q := List.mem_singleton.mp (show sysModules ∈ [_] from z)
      rw [← q] at hne
      simp at hne
theorem IsAll.reads (I : Inv X pins σ H s) (hs : SysB X.base) : ∀ {vs : List V} {ds : List PyData} (us : List Value), IsAll H vs ds → Vals vs us → ∃ as, ReadsAll s.heap us ds as ∧ sysModules ∉ as
  | _, _, _, .nil, r => by
    cases r
    exact ⟨_, ReadsAll.nil, by simp⟩
  | _, _, _, .cons x y, r => by
    cases r with
    | cons r1 r2 =>
      obtain ⟨as, q1, n1⟩ := Is.reads I hs _ x r1
      obtain ⟨bs, q2, n2⟩ := IsAll.reads I hs _ y r2
      exact ⟨_, ReadsAll.cons q1 q2, fun z => (List.mem_append.mp z).elim n1 n2⟩
end
/-- repr of a tuple or a list of data -/
def rRepr : List V → Hp → VK → Prop := fun xs H Q => ∃ (a : Addr) (d : PyData), xs = [.ref a] ∧ Is H (.ref a) d ∧ d.showable = true ∧ d.depth ≤ 60 ∧ d.shown.length ≤ sizeLine ∧ Q (.str d.shown) H
theorem call_repr {k : Nat} (hg : X.A.guards = some []) (hr : Room k X.A) (hs : SysB X.base) : CallR X (.builtin "repr") rRepr := by
  intro pins s σ H xs us Q I r h
  obtain ⟨a, d, rfl, hd, h1, h2, h3, q⟩ := h
  obtain ⟨u, rfl, rx⟩ := vals1 r
  cases rx
  obtain ⟨as, hr2, hn⟩ := Is.reads I hs _ hd rfl
  have hu := hr.un
  refine repr_of_reads' hr2 h1 (fun _ => hn) hg (by omega) (fun _ _ e => e) (fun h' u tk hk => ?_) h3
  exact ⟨.str d.shown, H, I.kept hk, ⟨_, rfl⟩, q⟩
end
/-! ### texts of data -/
end HM
/-! Texts of deeds: whose text is one's own ask's, that is it. -/
namespace HM
open PySem PySem.Spec PyProof.Rows L2
abbrev cl (x : Str) : List Nat := x.cps.toList
theorem split44 : ∀ {x y r r' : List Nat}, 44 ∉ x → 44 ∉ y → x ++ 44 :: r = y ++ 44 :: r' → x = y ∧ r = r'
  | [], [], _, _, _, _, h => ⟨rfl, by simpa using h⟩
  | [], c :: y, _, _, _, hy, h => by
    rw [List.nil_append, List.cons_append] at h
    injection h with h1 _
    exact absurd (by rw [h1]; exact List.mem_cons_self) hy
  | c :: x, [], _, _, hx, _, h => by
    rw [List.nil_append, List.cons_append] at h
    injection h with h1 _
    exact absurd (by rw [← h1]; exact List.mem_cons_self) hx
  | c :: x, e :: y, _, _, hx, hy, h => by
    rw [List.cons_append, List.cons_append] at h
    injection h with h1 h2
    obtain ⟨a, b⟩ := split44 (fun z => hx (List.mem_cons_of_mem _ z)) (fun z => hy (List.mem_cons_of_mem _ z)) h2
    exact ⟨by rw [h1, a], b⟩
theorem int_cl (i : Int) : cl (PyData.shown (.int i)) = (toString i).toList.map Char.toNat := signs_ofString _
theorem int_cl_inj {i j : Int} (h : cl (PyData.shown (.int i)) = cl (PyData.shown (.int j))) : i = j := by
  rw [int_cl, int_cl] at h
  have inj : ∀ (x y : List Char), x.map Char.toNat = y.map Char.toNat → x = y := fun x => by
    induction x with
    | nil => intro y h; cases y with
      | nil => rfl
      | cons _ _ => simp at h
    | cons a x ih => intro y h; cases y with
      | nil => simp at h
      | cons b y =>
        rw [List.map_cons, List.map_cons] at h
        injection h with h1 h2
        rw [ih y h2, Char.toNat_inj.mp h1]
  have e := String.toList_inj.mp (inj _ _ h)
  rw [Int.toString_eq_repr, Int.toString_eq_repr] at e
  exact Int.repr_inj.mp e
theorem int_44 (i : Int) : 44 ∉ cl (PyData.shown (.int i)) := int_text_free 44 (.inl (by decide)) i
theorem nat_hd {i : Int} (h : 0 ≤ i) : ∃ c r, cl (PyData.shown (.int i)) = c :: r ∧ (48 ≤ c ∧ c ≤ 57) := by
  rw [int_cl, Int.toString_eq_repr, Int.repr_eq_if]
  rw [if_pos h, Nat.toList_repr]
  cases e : Nat.toDigits 10 i.toNat with
  | nil =>
    have q := Nat.toDigits_eq_if (b := 10) (n := i.toNat) (by decide)
    rw [e] at q
    split at q
    · cases q
    · simp at q
  | cons c r =>
    refine ⟨c.toNat, r.map Char.toNat, rfl, digit_range (Nat.isDigit_of_mem_toDigits (b := 10) (n := i.toNat) (by decide) (by decide) ?_)⟩
    rw [e]
    exact List.mem_cons_self
theorem fold_pre {g : Nat → List Nat} : ∀ (l : List Nat) (acc : Array Nat), ∃ r, (l.foldl (fun out c => out ++ (g c).toArray) acc).toList = acc.toList ++ r
  | [], acc => ⟨[], by simp⟩
  | c :: l, acc => by
    obtain ⟨r, h⟩ := fold_pre (g := g) l (acc ++ (g c).toArray)
    exact ⟨g c ++ r, by rw [List.foldl_cons, h, Array.toList_append, List.append_assoc]⟩
theorem from_pre : ∀ (ts : List Str) (k : Nat) (acc : Str), ∃ r, cl (textFrom k acc ts) = cl acc ++ r
  | [], k, acc => ⟨[], by rw [List.append_nil]; rfl⟩
  | t :: ts, k, acc => by
    obtain ⟨r, h⟩ := from_pre ts (k + 1) (acc ++ (if k > 0 then ", " else "" : String) ++ t)
    refine ⟨cl (Str.ofString (if k > 0 then ", " else "")) ++ (cl t ++ r), ?_⟩
    show cl (textFrom (k + 1) _ ts) = _
    rw [h]
    show (acc ++ (if k > 0 then ", " else "" : String) ++ t).cps.toList ++ r = _
    rw [cps_toList_append, cps_toList_append, List.append_assoc, List.append_assoc]
theorem shown_hd (d : PyData) : (∃ i, d = .int i) ∨ ∃ c r, cl d.shown = c :: r ∧ ¬ (48 ≤ c ∧ c ≤ 57) := by
  cases d with
  | none => exact .inr ⟨78, [111, 110, 101], by decide +kernel, by decide⟩
  | bool b =>
    cases b
    · exact .inr ⟨70, [97, 108, 115, 101], by decide +kernel, by decide⟩
    · exact .inr ⟨84, [114, 117, 101], by decide +kernel, by decide⟩
  | int i => exact .inl ⟨i, rfl⟩
  | str x =>
    refine .inr ?_
    obtain ⟨r, h⟩ := fold_pre (g := fun c => Builtin.Str.reprChar (PySem.reprQuote x) c) x.cps.toList #[PySem.reprQuote x]
    refine ⟨PySem.reprQuote x, r ++ [PySem.reprQuote x], ?_, ?_⟩
    · simp only [PyData.shown]
      unfold reprText
      show (Array.push (x.cps.foldl (fun out c => out ++ (Builtin.Str.reprChar (PySem.reprQuote x) c).toArray) #[PySem.reprQuote x]) (PySem.reprQuote x)).toList = _
      rw [Array.toList_push, ← Array.foldl_toList, h]
      rfl
    · unfold PySem.reprQuote
      split <;> decide
  | list xs =>
    refine .inr ?_
    obtain ⟨r, h⟩ := from_pre (PyData.shownAll xs) 0 "["
    refine ⟨91, r ++ cl "]", ?_, by decide⟩
    simp only [PyData.shown]
    unfold listText
    show (textFrom 0 "[" (PyData.shownAll xs) ++ ("]" : Str)).cps.toList = _
    rw [cps_toList_append]
    show cl (textFrom 0 "[" (PyData.shownAll xs)) ++ _ = _
    rw [h]
    rfl
  | tuple xs =>
    refine .inr ?_
    simp only [PyData.shown]
    unfold tupleText
    refine ⟨40, cl (Str.join ", " (PyData.shownAll xs)) ++ cl (if (PyData.shownAll xs).length == 1 then ",)" else ")" : String), ?_, by decide⟩
    show (("(" : Str) ++ Str.join ", " (PyData.shownAll xs) ++ _).cps.toList = _
    rw [cps_toList_append, cps_toList_append]
    rfl
  | dict kvs =>
    refine .inr ?_
    simp only [PyData.shown]
    unfold dictText
    refine ⟨123, cl (Str.join ", " (PyData.shownKv kvs)) ++ cl "}", ?_, by decide⟩
    show (("{" : Str) ++ Str.join ", " (PyData.shownKv kvs) ++ _).cps.toList = _
    rw [cps_toList_append, cps_toList_append]
    rfl
/-- the text of four, as codes -/
theorem four_cl (d0 d1 d2 d3 : PyData) : cl (PyData.tuple [d0, d1, d2, d3]).shown = 40 :: (cl d0.shown ++ 44 :: 32 :: (cl d1.shown ++ 44 :: 32 :: (cl d2.shown ++ 44 :: 32 :: (cl d3.shown ++ [41])))) := by
  simp only [PyData.shown, PyData.shownAll]
  unfold tupleText
  show (("(" : Str) ++ (d0.shown ++ ", " ++ (d1.shown ++ ", " ++ (d2.shown ++ ", " ++ d3.shown))) ++ (")" : Str)).cps.toList = _
  simp only [cps_toList_append, List.append_assoc]
  rfl
theorem step_text {d : PyData} {a : Int} {r r' : List Nat} (ha : 0 ≤ a) (h : cl d.shown ++ 44 :: r = cl (PyData.shown (.int a)) ++ 44 :: r') : d = .int a ∧ r = r' := by
  rcases shown_hd d with ⟨i, rfl⟩ | ⟨c, z, e, n⟩
  · obtain ⟨e1, e2⟩ := split44 (int_44 i) (int_44 a) h
    rw [int_cl_inj e1]
    exact ⟨rfl, e2⟩
  · obtain ⟨c2, z2, e2, n2⟩ := nat_hd ha
    rw [e, e2, List.cons_append, List.cons_append] at h
    injection h with h1 _
    rw [h1] at n
    exact absurd n2 n
theorem last_text {d : PyData} {a : Int} (ha : 0 ≤ a) (h : cl d.shown ++ [41] = cl (PyData.shown (.int a)) ++ [41]) : d = .int a := by
  have h := List.append_cancel_right h
  rcases shown_hd d with ⟨i, rfl⟩ | ⟨c, z, e, n⟩
  · rw [int_cl_inj h]
  · obtain ⟨c2, z2, e2, n2⟩ := nat_hd ha
    rw [e, e2] at h
    injection h with h1 _
    rw [h1] at n
    exact absurd n2 n
theorem own_text {wd : Str} {d1 d2 d3 : PyData} {a b c : Int} (hw : isWord wd) (ha : 0 ≤ a) (hb : 0 ≤ b) (hc : 0 ≤ c) (h : (PyData.tuple [.str wd, d1, d2, d3]).shown = (PyData.tuple [.str "ask", .int a, .int b, .int c]).shown) : wd = "ask" ∧ d1 = .int a ∧ d2 = .int b ∧ d3 = .int c := by
  have h := congrArg cl h
  rw [four_cl, four_cl] at h
  have k0 : cl (PyData.shown (.str "ask")) = [39, 97, 115, 107, 39] := by decide +kernel
  have k1 : cl (PyData.shown (.str "take")) = [39, 116, 97, 107, 101, 39] := by decide +kernel
  have k2 : cl (PyData.shown (.str "leave")) = [39, 108, 101, 97, 118, 101, 39] := by decide +kernel
  have k3 : cl (PyData.shown (.str "undo")) = [39, 117, 110, 100, 111, 39] := by decide +kernel
  rw [k0] at h
  rcases hw with rfl | rfl | rfl | rfl
  · rw [k0] at h
    injection h with _ h
    have h := List.append_cancel_left h
    injection h with _ h
    injection h with _ h
    obtain ⟨e1, h⟩ := step_text ha h
    injection h with _ h
    obtain ⟨e2, h⟩ := step_text hb h
    injection h with _ h
    exact ⟨rfl, e1, e2, last_text hc h⟩
  · rw [k1] at h
    simp at h
  · rw [k2] at h
    simp at h
  · rw [k3] at h
    simp at h
end HM
/-! A def that is run where no repr is under way; what stands is right. -/
namespace HM
open PySem PySem.Spec PyProof.Rows L2
theorem boot_repr : bootBuiltins "repr" = some (.builtin "repr") := by decide +kernel
/-- the promise of the function at f, where no repr is under way -/
structure FnG (P : Program) (w : World) (K : PySem.W.Frag) (mg : Str → Option Value) (base : Heap) (k : Nat) (f : Addr) (fd : FuncData) (ps : List Str) (sp : Sp) : Prop where
  len : ∀ vs H Q E, sp vs H Q E → vs.length = ps.length
  run : ∀ (A : Around) (outer : List Env) (s : Shared) (H : Hp) (args : Args) (us : List Value) (vs : List V) (Q : VK) (E : XK), A.guards = some [] → Room k A → Env0 P w K mg base A outer s H → BindsTo s fd args (ps.zip us) → Vals vs us → sp vs H Q E →
    codeAny (model P w) A (.call (.ref f) args) (CR C8.CX0 outer P w H s Q E) s
structure CalG (P : Program) (w : World) (K : PySem.W.Frag) (mg : Str → Option Value) (base : Heap) (k : Nat) (x : Str) (sp : Sp) : Prop where
  ex : ∃ (f : Addr) (fd : FuncData) (ps : List Str), FnG P w K mg base k f fd ps sp ∧ mg x = some (.ref f) ∧ PySem.W.keepIn K (.ref f) = true ∧ Binds K fd ps []
section
variable {P : Program} {w : World} {K : PySem.W.Frag} {mg : Str → Option Value} {base : Heap}
theorem fnG_of {x qual : Str} {params : Arguments} {body : List Stmt} {scope : Scope} {f : Addr} {fd : FuncData} {N ps : List Str} {k : Nat} {sp : Sp} (F : FunD K x qual params body scope [] [] f fd) (S : FnScope N ps scope)
    (len : ∀ vs H Q E, sp vs H Q E → vs.length = ps.length)
    (hbody : ∀ (cdv : Value) (A : Around) (outer : List Env) (s : Shared) (H : Hp) (vs : List V) (Q : VK) (E : XK), (∃ oc, PySem.W.codeIn K cdv qual = true ∧ fd.code = cdv ∧ oc = cdv) → (A.deeper (envOfC qual scope s.heap.objs.size f cdv)).guards = some [] → Room k (A.deeper (envOfC qual scope s.heap.objs.size f cdv)) → sp vs H Q E →
      ∃ t, PSs (cxOf C8.CX0 P w K mg base N qual scope f cdv A outer s H E).nox body t ∧ t { nx := fun _ H' => Q .non H', rt := Q } (start N vs) H) : FnG P w K mg base (k + 1) f fd ps sp := by
  obtain ⟨oc, od, dV, kV, doc, pm, an, cdv, ct, osl, rfl, lk, hcd, _, _⟩ := F.ex
  refine ⟨len, fun A outer s H args us vs Q E hg hr e0 hb r hsp => ?_⟩
  have kin : K.In s.heap := e0.mod.kin.keeps fun b o e => (e0.bs b o e).1
  have nolim : s.heap.NoLimit := e0.mod.nolimit.keeps fun b o e => (e0.bs b o e).1
  have kinds : ∀ y ∈ ps.zip us, scope.names.lookup y.1 = some .local ∨ (scope.names.lookup y.1 = some .cell ∧ ((cellsFrom (s.heap.objs.size + 1) scope.names []).lookup y.1).isSome = true) := by
    rintro ⟨n, v⟩ hy
    rcases S.par n (List.of_mem_zip hy).1 with q | q
    · exact .inl q
    · exact .inr ⟨q, PySem.W.cellsFrom_some _ _ _ (.inl q)⟩
  refine codeAny_call_function hr.depth (kin _ _ lk) rfl S.co S.gen rfl (PySem.W.codeRec_of kin hcd) (hb _ _ _ _ ?_)
  refine wpAny_newFunctionEnv_cells S.kind kinds fun env he s1 xc => ?_
  subst he
  refine ⟨nolim.keeps xc.toInCall.keep, codeAny_func ?_⟩
  obtain ⟨t, ht', hq⟩ := hbody cdv A outer s H vs Q E ⟨_, hcd, rfl, rfl⟩ hg (hr.deeper _) hsp
  have ht := ht'.nox
  have J : Inv (cxOf C8.CX0 P w K mg base N qual scope f cdv A outer s H E) [] (start N vs) H s1 := inv_start S hr.hd e0 (len _ _ _ _ hsp) r xc
  refine wpAny_mono (ht.run [] s1 (start N vs) H _ J hq) (fun fl s' hs => ?_) fun e s' hs => hs
  cases fl with
  | ret u =>
    obtain ⟨v, σ', H', J, rv, q⟩ := hs
    exact ⟨v, H', J.os, J.bare, J.base, J.hok, rv, q⟩
  | next =>
    obtain ⟨σ', H', J, q⟩ := hs
    exact ⟨.non, H', J.os, J.bare, J.base, J.hok, rfl, q⟩
  | brk =>
    obtain ⟨_, _, _, q⟩ := hs
    exact q.elim
  | cont =>
    obtain ⟨_, _, _, q⟩ := hs
    exact q.elim
end
section
variable {X : Cx} {k j : Nat} {sp : Sp} {x : Str} {q pos : Pos} {e : Expr} {es : List Expr} {t : TA}
theorem pe_calG (c : CalG X.prog X.w X.K X.mg X.base k x sp) (hgd : X.A.guards = some []) (hr : Room j X.A) (hk : k ≤ j) (hg : Gl X x) (ha : PA X (e :: es) t) (hdb : (x == ("__debug__" : Str)) = false := by decide)
    (he : starEach (e :: es) X.env = (false, eval e X.env) :: starEach es X.env := by rfl) (hpl : (backTo pos (starEach es X.env)).any (·.1) = false := by rfl) :
    PE X (.Call (.Name x q) (e :: es) [] pos) (tCall sp [] C8.E0 t) := by
  obtain ⟨f, fd, ps, F, hm, kp, hb⟩ := c.ex
  refine ⟨fun pins s σ H Q I h => ?_⟩
  refine wpAny_Call_Name_kw (ld_glob I hg hm ?_ hdb)
  refine PySem.W.callWith_K (h₀ := X.base) I.ok.mod.kin kp (thn (ha.run pos pins s σ H _ I h) fun us s1 ⟨vs, H1, I1, r, z⟩ => ⟨I1.kIn, ?_⟩) he hpl
  have z : sp (vs ++ []) H1 Q C8.E0 := z
  rw [List.append_nil] at z
  have hl : us.length = ps.length := by
    rw [← r.length]
    exact F.len _ _ _ _ z
  have b := hb s1 us I1.kIn (by rw [List.append_nil]; exact hl)
  rw [List.append_nil] at b
  refine wpAny_call (codeAny_mono (F.run X.A X.stack s1 H1 ⟨us, []⟩ us vs Q _ hgd (hr.mono hk) I1.env0 b r z) fun r s' hq => ?_)
  cases r with
  | error er => exact (show False from hq).elim
  | ok fl =>
    cases fl with
    | ret u => exact I1.after hq
    | next => exact False.elim hq
    | brk => exact False.elim hq
    | cont => exact False.elim hq
theorem passNever : Passes (L2.CX X.prog X.w) X C8.E0 := fun pins σ H s e s' I c => by
  obtain ⟨_, _, _, _, _, _, _, _, _, _, _, _, z⟩ := c
  exact (show False from z).elim
end
abbrev sRight : Stmt := top 65
theorem sc_right : FnScope ["_law_bag_here", "_law_yard", "_law_rules_here", "_law_tree_here", "_law_holds", "_law_holder", "_law_thing", "_law_due"] ["_law_bag_here", "_law_yard"] (defScope sRight) := ⟨rfl, rfl, rfl, by decide +kernel, rfl, by decide +kernel, by decide +kernel⟩
def spRight (C : Addr) : Sp := fun vs H Q _ => ∃ (b a p : Addr) (r : Rules) (t : Tree) (now : List Hold) (past : List (List Hold)), vs = [.ref b, .ref a] ∧ Bag H b ∧ YOk H C a p r t now past ∧ b ≠ p ∧ ∀ H', KB b H H' → Bag H' b → (∀ c, c ≠ b → True) → Q (.bl true) H'
theorem Yd.kb {H H' : Hp} {C a p b : Addr} {r : Rules} {t : Tree} {now : List Hold} {past : List (List Hold)} (h : Yd H C a p r t now past) (hb : Bag H b) (hp : b ≠ p) (k : KB b H H') : Yd H' C a p r t now past := by
  have nA : a ≠ b := fun e => by
    obtain ⟨g, s, n, q⟩ := hb
    obtain ⟨dx, gg, ru, tr, nn, mv, ps, h1, _⟩ := h
    rw [e, q] at h1
    cases h1
  have tp := k.tups hb
  obtain ⟨dx, g, ru, tr, n, m, ps, h1, h2, h3, h4, h5, h6, h7⟩ := h
  exact ⟨dx, g, ru, tr, n, m, ps, k _ _ h1 nA, tp _ _ h2, h3.tups tp (tupd_rules _), h4.tups tp (tupd_tree _), h5.tups tp (tupd_holds _), k _ _ h6 (Ne.symm hp), IsAll.tups tp h7 (tupd_past _)⟩
theorem YOk.kb {H H' : Hp} {C a p b : Addr} {r : Rules} {t : Tree} {now : List Hold} {past : List (List Hold)} (h : YOk H C a p r t now past) (hb : Bag H b) (hp : b ≠ p) (k : KB b H H') : YOk H' C a p r t now past := ⟨h.yd.kb hb hp k, h.fair, h.pasts, h.ru, h.tr⟩
theorem YOk.same {H H' : Hp} {C a p : Addr} {r : Rules} {t : Tree} {now : List Hold} {past : List (List Hold)} (h : YOk H C a p r t now past) (s : Same H H') : YOk H' C a p r t now past := ⟨h.yd.same s, h.fair, h.pasts, h.ru, h.tr⟩
section
variable {P : Program} {w : World} {K : PySem.W.Frag} {mg : Str → Option Value} {base : Heap} {C : Addr}
theorem ok_right (F : Free mg) (hS : SysB base) (D : Dn K mg "_law_is_right" sRight) (pR : PropG P w K mg base 1 C "rules" (spRules C)) (pT : PropG P w K mg base 1 C "tree" (spTree C)) (pH : PropG P w K mg base 1 C "holds" (spHolds C))
    (cA : C8.Cal P w K mg base 6 "are_holds" spAreHolds []) (cF : C8.Cal P w K mg base 5 "fault" spFault []) (cC : C8.Cal P w K mg base 4 "clash" spClash []) (cD : C8.Cal P w K mg base 1 "_law_draw" spDraw []) (cR : C8.Cal P w K mg base 2 "_law_rights" spMay []) (cM : C8.Cal P w K mg base 2 "may_holds" spMay [])
    (mM : MetG P w K mg base (L2.CX P w) 4 C "may" (spMayM C)) (cS : C8.Cal P w K mg base 3 "_law_is_safe" spSafe []) : CalG P w K mg base 7 "_law_is_right" (spRight C) := by
  obtain ⟨f, fd, DF, hm⟩ := D.ex
  refine ⟨f, fd, ["_law_bag_here", "_law_yard"], fnG_of DF sc_right (fun vs H Q E h => ?_) (fun cdv A outer s H vs Q E _ hgd hr h => ?_), hm, DF.kp, DF.bindsN (fun _ _ _ _ _ _ us hl => match us, hl with | [_, _], _ => rfl)⟩
  · obtain ⟨b, a, p, r, t, now, past, rfl, _⟩ := h
    rfl
  · obtain ⟨b, a, p, r, t, now, past, rfl, hb, hy, hbp, k⟩ := h
    refine ⟨_, pss_cons (ps_par3 (i := 2) (j := 3) (l := 4) rfl sc_right.nd rfl rfl rfl (by decide) (by decide) (by decide) rfl rfl rfl (pa_cons (pe_pg pR hr (by decide) (pv 1)) (pa_cons (pe_pg pT hr (by decide) (pv 1)) (pa_cons (pe_pg pH hr (by decide) (pv 1)) pa_nil))) rfl)
      (pss_cons (ps_if (PW.pt (pw_or (pt_cmpR op_notBl (C8.pe_c cA hr (by decide) (by rfl) (pa_cons (pv 2) (pa_cons (pv 3) (pa_cons (pv 4) pa_nil)))) pe_bl (nomark _)) (pw_or (pt_cmp (pc_notN (C8.pe_c cF hr (by decide) (by rfl) (pa_cons (pv 2) (pa_cons (pv 3) (pa_cons (pv 4) pa_nil)))))) (pw_or1 (pt_cmp (pc_notN (C8.pe_c cC hr (by decide) (by rfl) (pa_cons (pv 2) (pa_cons (pv 3) (pa_cons (pv 4) pa_nil)))))))))) (pss_one ps_never) pss_nil)
      (pss_cons (ps_par (i := 5) (j := 6) rfl sc_right.nd rfl rfl (by decide) rfl rfl (pa_cons (C8.pe_c cD hr (by decide) (by rfl) (pa_cons (pv 0) (pa_cons pe_int pa_nil))) (pa_cons (C8.pe_c cD hr (by decide) (by rfl) (pa_cons (pv 0) (pa_cons (pe_callB callLen (by rfl) F.len PySem.boot_len (pa_cons (pv 3) pa_nil)) pa_nil))) pa_nil)) rfl)
      (pss_cons (ps_set (i := 7) sc_right.nd rfl (Or.inl rfl) (C8.pe_c cR hr (by decide) (by rfl) (pa_cons (pv 3) (pa_cons (pv 4) (pa_cons (pv 5) (pa_cons (pv 6) pa_nil))))))
      (pss_cons (ps_if (pt_cmpR op_ne (pe_callB (call_repr hgd hr hS) (by rfl) F.repr boot_repr (pa_cons (pe_lst (pa_cons (pe_mg mM hr (by decide) passNever (pv 1) (pa_cons (pv 5) (pa_cons (pv 6) pa_nil))) (pa_cons (C8.pe_c cM hr (by decide) (by rfl) (pa_cons (pv 3) (pa_cons (pv 4) (pa_cons (pv 5) (pa_cons (pv 6) pa_nil))))) pa_nil))) pa_nil)) (pe_callB (call_repr hgd hr hS) (by rfl) F.repr boot_repr (pa_cons (pe_lst (pa_cons (pv 7) (pa_cons (pv 7) pa_nil))) pa_nil)) (nomark _)) (pss_one ps_never) pss_nil)
      (pss_one (ps_ret (C8.pe_c cS hr (by decide) (by rfl) (pa_cons (pv 2) (pa_cons (pv 3) (pa_cons (pv 4) pa_nil)))))))))), ?_⟩
    obtain ⟨hyd, hF, hP, hR, hT⟩ := id hy
    obtain ⟨dx, g, ru, tr, n, mv, ps, h1, h2, h3, h4, h5, h6, h7⟩ := id hyd
    have hC : ∀ x one other, InT t x → one ≠ other → NoClash r t now x one other := fun x one other hx hne => fair_clash hT hF hx hne
    have tlo := hT.lo
    have thi := hT.hi
    refine ⟨_, rfl, a, dx, _, rfl, h1, a, p, r, t, now, past, rfl, hyd, fun u1 i1 => ?_⟩
    refine ⟨_, rfl, a, dx, _, rfl, h1, a, p, r, t, now, past, rfl, hyd, fun u2 i2 => ?_⟩
    refine ⟨_, rfl, a, dx, _, rfl, h1, a, p, r, t, now, past, rfl, hyd, fun u3 i3 => ⟨_, _, _, rfl, ?_⟩⟩
    refine ⟨_, rfl, _, rfl, _, rfl, u1, u2, u3, r, t, now, rfl, i1, i2, i3, hF.ok, hR, hT, fun H1 s1 => ⟨true, true, rfl, rfl, _, rfl, iteF ?_⟩⟩
    refine ⟨_, rfl, _, rfl, _, rfl, u1, u2, u3, r, t, now, rfl, i1.same s1, i2.same s1, i3.same s1, hF, hR, hT, fun H2 s2 => ⟨_, rfl, iteF ?_⟩⟩
    have s12 := s1.trans s2
    refine ⟨_, rfl, _, rfl, _, rfl, u1, u2, u3, r, t, now, rfl, i1.same s12, i2.same s12, i3.same s12, hF.ok, hR, hT, hC, fun H3 s3 => ⟨_, rfl, iteF ?_⟩⟩
    have s13 := s12.trans s3
    have hb3 := hb.same s13
    obtain ⟨ta, xs, rfl, hta, ixs⟩ := i2.tup_inv
    have hlx := ixs.length
    rw [List.length_map] at hlx
    refine ⟨_, rfl, b, 4, rfl, hb3, by decide, by decide, fun who H4 w0 w1 k4 b4 _ => ?_⟩
    have hta4 := k4 _ _ (s13 _ _ hta) (bag_tup hb3 (s13 _ _ hta))
    refine ⟨_, rfl, _, rfl, ta, xs, rfl, .inl hta4, b, _, rfl, b4, by omega, by omega, fun x H5 x0 x1 k5 b5 _ => ⟨_, _, rfl, ?_⟩⟩
    have k45 := k4.trans k5
    have k35 := (KB.of (b := b) s13).trans k45
    have hx : InT t x := ⟨x0, by omega⟩
    have tp5 := k35.tups hb
    have j1 := i1.tups tp5 (tupd_rules _)
    have j2 := i2.tups tp5 (tupd_tree _)
    have j3 := i3.tups tp5 (tupd_holds _)
    have hy5 := hy.kb hb hbp k35
    refine ⟨_, rfl, _, rfl, _, rfl, _, rfl, .ref ta, u3, r, t, now, who, x, rfl, j2, j3, hF.ok, hR, hT, hx, fun due H6 s6 idue => ?_⟩
    have hy6 := hy5.same s6
    obtain ⟨dx6, g6, ru6, tr6, n6, mv6, ps6, e1, _⟩ := id hy6.yd
    refine ⟨_, rfl, a, dx6, _, rfl, e1, rfl, _, rfl, _, rfl, a, p, r, t, now, past, who, x, rfl, hy6, ⟨w0, w1⟩, hx, fun v1 H7 s7 iv1 => ?_⟩
    have s67 := s6.trans s7
    refine ⟨_, rfl, _, rfl, _, rfl, _, rfl, .ref ta, u3, r, t, now, who, x, rfl, j2.same s67, j3.same s67, hF.ok, hR, hT, hx, fun v2 H8 s8 iv2 => ⟨(by show 2 ≤ sizeLine; decide), fun l1 nl1 => ?_⟩⟩
    have s9 := Same.new (o := HO.lst [v1, v2]) nl1
    have dl : (PyData.list [cLot (mayL t now who x), cLot (mayL t now who x)]).showable = true ∧ (PyData.list [cLot (mayL t now who x), cLot (mayL t now who x)]).depth ≤ 60 ∧ (PyData.list [cLot (mayL t now who x), cLot (mayL t now who x)]).shown.length ≤ sizeLine := by
      have q6 : ∀ i ∈ mayL t now who x, 0 ≤ i ∧ i < 6 := filter_in6 _
      have ql : (mayL t now who x).length ≤ 6 := (filter_lot (n := 6) _).len
      have tq : Tin 1 (cLot (mayL t now who x)) := tin_ints q6 ql
      have t2 := (tin_seq (k := 1) (ds := [cLot (mayL t now who x), cLot (mayL t now who x)]) (fun d hd => by
        rcases List.mem_cons.mp hd with rfl | hd
        · exact tq
        · rw [List.mem_singleton.mp hd]
          exact tq) (Nat.le_refl 2)).2
      have hw := t2.weight
      have hd := t2.depth
      have hs := PyData.shown_le 60 (by decide) _ t2.leaves
      refine ⟨t2.show_, by omega, ?_⟩
      have e : sizeLine = 16777216 := by decide
      have m : (60 + 2) * (PyData.list [cLot (mayL t now who x), cLot (mayL t now who x)]).weight ≤ 62 * 3200 := Nat.mul_le_mul_left _ (by simpa using hw)
      omega
    refine ⟨l1, _, rfl, .lst upd_same (.cons (iv1.same (s8.trans s9)) (.cons (iv2.same s9) .nil)), dl.1, dl.2.1, dl.2.2, ?_⟩
    have idue9 := idue.same ((s7.trans s8).trans s9)
    refine ⟨_, rfl, _, rfl, (by show 2 ≤ sizeLine; decide), fun l2 nl2 => ?_⟩
    have s10 := Same.new (o := HO.lst [due, due]) nl2
    refine ⟨l2, _, rfl, .lst upd_same (.cons (idue9.same s10) (.cons (idue9.same s10) .nil)), dl.1, dl.2.1, dl.2.2, rfl, _, rfl, ?_⟩
    have e : (!decide (V.str (PyData.list [cLot (mayL t now who x), cLot (mayL t now who x)]).shown = V.str (PyData.list [cLot (mayL t now who x), cLot (mayL t now who x)]).shown)) = false := by simp
    rw [e]
    refine iteF ?_
    have s610 := ((s67.trans s8).trans s9).trans s10
    refine ⟨_, rfl, _, rfl, _, rfl, u1, .ref ta, u3, r, t, now, rfl, j1.same s610, j2.same s610, j3.same s610, hF.ok, hR, hT, hC, fun H11 s11 => ?_⟩
    exact k _ (k35.trans (.of (s610.trans s11))) ((b5.same s610).same s11) fun _ _ => trivial
end
end HM
/-! The law's walk. -/
namespace HM
open PySem PySem.Spec PyProof.Rows L2 LamX
abbrev sLaw : Stmt := top 66
abbrev nLaw : List Str := ["_law_script", "_law_bag_here", "_law_turn", "_law_rules_here", "_law_tree_here", "_law_yard", "_law_again", "_law_holder", "_law_thing", "_law_act", "_law_told", "_law_own", "_law_there", "_law_deed_here", "_law_done_here", "_law_is_own"]
theorem sc_law : FnScope nLaw ["_law_script"] (defScope sLaw) := ⟨rfl, rfl, rfl, by decide +kernel, rfl, by decide +kernel, by decide +kernel⟩
/-- the name of the lambda in law -/
def lamQ : Str := (envOfC "law" (defScope sLaw) 0 0 .none).qual ++ "<lambda>"
theorem lamQ_eq (n f : Addr) (cdv : Value) : (envOfC "law" (defScope sLaw) n f cdv).qual ++ "<lambda>" = lamQ := rfl
theorem lamT (Pt n f : Addr) (cdv : Value) : (Pt, (envOfC "law" (defScope sLaw) n f cdv).qual ++ "<lambda>") ∈ [(Pt, lamQ)] := by
  rw [lamQ_eq]
  exact List.mem_singleton.mpr rfl
theorem lamU (Pt n f : Addr) (cdv : Value) : ∀ q ∈ [(Pt, lamQ)], q.1 = Pt → q.2 = (envOfC "law" (defScope sLaw) n f cdv).qual ++ "<lambda>" := fun q hq _ => by
  rw [lamQ_eq, List.mem_singleton.mp hq]
theorem lamFree : ∀ y ∈ ([("_law_held", NameKind.local), ("_law_own", .free), ("_law_done", .globalImplicit)] : List (Str × NameKind)), y.2 = .free → (defScope sLaw).names.lookup y.1 = some .cell ∨ (defScope sLaw).names.lookup y.1 = some .free := by decide +kernel
theorem nHeld : ("_law_held" : Str) ∉ nLaw := by decide +kernel
def forBody : Stmt → List Stmt
  | .For _ _ b _ _ => b
  | _ => []
/-- the i-th statement of the inner loop -/
abbrev lawIn (i : Nat) : Stmt := (forBody ((forBody ((defBody sLaw).getD 1 (.Pass ⟨0, 0, 0, 0⟩))).getD 2 (.Pass ⟨0, 0, 0, 0⟩))).getD i (.Pass ⟨0, 0, 0, 0⟩)
theorem tabs_kb {T : List (Addr × Str)} {H H' : Hp} {b : Addr} (h : Tabs T H) (hb : Bag H b) (k : KB b H H') : Tabs T H' := fun q hq => by
  obtain ⟨g, s, n, e0⟩ := hb
  obtain ⟨ts, h1, h2, h3⟩ := h q hq
  refine ⟨ts, k _ _ h1 (fun z => ?_), h2, fun pos cv hc => ?_⟩
  · rw [z, e0] at h1
    cases h1
  · obtain ⟨c, e, hco⟩ := h3 pos cv hc
    refine ⟨c, e, k _ _ hco (fun z => ?_)⟩
    rw [z, e0] at hco
    unfold CodeO at hco
    cases hco
def spLaw (K : PySem.W.Frag) (Pt : Addr) : Sp := fun vs H Q _ => ∃ (sa : Addr) (ns : List Int), vs = [.ref sa] ∧ SqL K H sa (ns.map V.int) ∧ H Pt = some (.tbl #[]) ∧ ∀ H', Q (.bl true) H'
/-- what stands before a deed: the i-th -/
structure InL (C : Addr) (T : List (Addr × Str)) (i : Nat) (σ : L2.St) (H : Hp) (b a p : Addr) (r : Rules) (t : Tree) (now : List Hold) (past : List (List Hold)) (rv tv : V) : Prop where
  len : σ.length = 16
  s1 : σ[1]? = some (some (.ref b))
  s3 : σ[3]? = some (some rv)
  s4 : σ[4]? = some (some tv)
  s5 : σ[5]? = some (some (.ref a))
  bag : Bag H b
  yok : YOk H C a p r t now past
  bp : b ≠ p
  past_ : past.length ≤ i
  ir : Is H rv (cRules r)
  it : Is H tv (cTree t)
  full : RuFull r
  tab : Tabs T H
theorem shp_int (i : Int) : Shp (.int i) := ⟨rfl, by simp [PyData.depth]⟩
def cBarr (q : Int × Int) : PyData := .list [.str "Barred", .int q.1, .int q.2]
theorem shp_barr (q : Int × Int) : Shp (cBarr q) := ⟨by simp [cBarr, nodict, nodictAll]; decide +kernel, by simp [cBarr, PyData.depth, PyData.depthAll]⟩
theorem eqv_barr (q : Int × Int) : PyData.eqv (cBarr q) (cBarr q) = true := by simp [cBarr, PyData.eqv, PyData.eqvAll]
/-- what was told of one's own ask -/
def ThereIs (H : Hp) (B : Option (Int × Int)) (n : Int) (b l2 a : Addr) (v : V) : Prop := match B with
  | none => v = .int n
  | some q => ∃ l, v = .ref l ∧ H l = some (.lst [.str "Barred", .int q.1, .int q.2]) ∧ l ≠ b ∧ l ≠ l2 ∧ l ≠ a
def thereD (B : Option (Int × Int)) (n : Int) : PyData := match B with
  | none => .int n
  | some q => cBarr q
theorem ThereIs.is {H : Hp} {B : Option (Int × Int)} {n : Int} {b l2 a : Addr} {v : V} (h : ThereIs H B n b l2 a v) : Is H v (thereD B n) := by
  cases B with
  | none =>
    obtain rfl : v = .int n := h
    exact .int _
  | some q =>
    obtain ⟨l, rfl, hl, _⟩ := h
    exact .lst hl (.cons (.str _) (.cons (.int _) (.cons (.int _) .nil)))
theorem shp_there (B : Option (Int × Int)) (n : Int) : Shp (thereD B n) := by
  cases B with
  | none => exact shp_int n
  | some q => exact shp_barr q
theorem eqv_there (B : Option (Int × Int)) (n : Int) : PyData.eqv (thereD B n) (thereD B n) = true := by
  cases B with
  | none =>
    show PyData.eqv (.int n) (.int n) = true
    rw [eqv_int]
    simp
  | some q => exact eqv_barr q
/-- behind the trial of one's own ask -/
def AfterT (C : Addr) (T : List (Addr × Str)) (b ra ta a q0 : Addr) (r : Rules) (t : Tree) (now : List Hold) (past : List (List Hold)) (who x act : Int) (u : V) (B : Option (Int × Int)) (σ' : L2.St) (H' : Hp) : Prop :=
  ∃ (l2 : Addr) (th : V) (o0 o2 o6 o13 o14 o15 : Option V), σ' = [o0, some (.ref b), o2, some (.ref ra), some (.ref ta), some (.ref a), o6, some (.int who), some (.int x), some (.int act), some u, some (.ref q0), some th, o13, o14, o15] ∧ Bag H' b ∧ YOk H' C a l2 r t now past ∧ b ≠ l2 ∧ Is H' (.ref ra) (cRules r) ∧ Is H' (.ref ta) (cTree t) ∧ Tabs T H' ∧ H' q0 = some (.tup [.str "ask", .int who, .int x, .int act]) ∧ Is H' u (cBar B) ∧ ThereIs H' B ((past.length : Int) + 1) b l2 a th
theorem ThereIs.same {H H' : Hp} {B : Option (Int × Int)} {n : Int} {b l2 a : Addr} {v : V} (h : ThereIs H B n b l2 a v) (s : Same H H') : ThereIs H' B n b l2 a v := by
  cases B with
  | none => exact h
  | some q =>
    obtain ⟨l, e, hl, n⟩ := h
    exact ⟨l, e, s _ _ hl, n⟩
theorem ThereIs.move {H H' : Hp} {B : Option (Int × Int)} {n : Int} {b l2 a : Addr} {v : V} (h : ThereIs H B n b l2 a v) (s : ∀ c o, H c = some o → c ≠ b → c ≠ l2 → c ≠ a → H' c = some o) : ThereIs H' B n b l2 a v := by
  cases B with
  | none => exact h
  | some q =>
    obtain ⟨l, e, hl, n1, n2, n3⟩ := h
    exact ⟨l, e, s _ _ hl n1 n2 n3, n1, n2, n3⟩
theorem tupd_bar (B : Option (Int × Int)) : tupd (cBar B) = true := by
  cases B with
  | none => rfl
  | some q => exact tupd_pair q
/-- what stands around a deed -/
structure Std (C : Addr) (T : List (Addr × Str)) (b ra ta a q0 l2 : Addr) (r : Rules) (t : Tree) (now : List Hold) (past : List (List Hold)) (who x act : Int) (u : V) (B : Option (Int × Int)) (n : Int) (th : V) (H : Hp) : Prop where
  bag : Bag H b
  yok : YOk H C a l2 r t now past
  bl : b ≠ l2
  ir : Is H (.ref ra) (cRules r)
  it : Is H (.ref ta) (cTree t)
  tab : Tabs T H
  own : H q0 = some (.tup [.str "ask", .int who, .int x, .int act])
  told : Is H u (cBar B)
  there : ThereIs H B n b l2 a th
section
variable {C : Addr} {T : List (Addr × Str)} {b ra ta a q0 l2 : Addr} {r : Rules} {t : Tree} {now : List Hold} {past : List (List Hold)} {who x act : Int} {u : V} {B : Option (Int × Int)} {n : Int} {th : V} {H H' : Hp}
theorem Std.same (h : Std C T b ra ta a q0 l2 r t now past who x act u B n th H) (s : Same H H') : Std C T b ra ta a q0 l2 r t now past who x act u B n th H' := ⟨h.bag.same s, h.yok.same s, h.bl, h.ir.same s, h.it.same s, h.tab.ext s, s _ _ h.own, h.told.same s, h.there.same s⟩
theorem Std.kb (h : Std C T b ra ta a q0 l2 r t now past who x act u B n th H) (k : KB b H H') (hb : Bag H' b) : Std C T b ra ta a q0 l2 r t now past who x act u B n th H' := by
  have tp := k.tups h.bag
  exact ⟨hb, h.yok.kb h.bag h.bl k, h.bl, h.ir.tups tp (tupd_rules _), h.it.tups tp (tupd_tree _), tabs_kb h.tab h.bag k, tp _ _ h.own, h.told.tups tp (tupd_bar _), h.there.move fun c o e n1 _ _ => k c o e n1⟩
theorem Std.kept {now' : List Hold} {past' : List (List Hold)} (h : Std C T b ra ta a q0 l2 r t now past who x act u B n th H) (k : Kept a l2 H H') (hy : Yd H' C a l2 r t now' past') (hf : Fair r t now') (hp : ∀ g ∈ past', Fair r t g) : Std C T b ra ta a q0 l2 r t now' past' who x act u B n th H' := by
  have tp := k.tups h.yok.yd.noA h.yok.yd.noP
  obtain ⟨dx, _, _, _, _, _, _, g1, _, _, _, _, g6, _⟩ := id h.yok.yd
  obtain ⟨g, s, m, e⟩ := h.bag
  refine ⟨⟨g, s, m, k _ _ e (fun z => ?_) h.bl⟩, ⟨hy, hf, hp, h.yok.ru, h.yok.tr⟩, h.bl, h.ir.tups tp (tupd_rules _), h.it.tups tp (tupd_tree _), tabs_kept h.tab g1 g6 k, tp _ _ h.own, h.told.tups tp (tupd_bar _), h.there.move fun c o e _ n2 n3 => k c o e n3 n2⟩
  rw [z, g1] at e
  cases e
end
/-- a deed at q with its data, counted from H0 -/
structure Deed (a l2 b q : Addr) (wd : Str) (v1 v2 v3 : V) (d1 d2 d3 : PyData) (H0 H : Hp) : Prop where
  at_ : H q = some (.tup [.str wd, v1, v2, v3])
  word : isWord wd
  t1 : Tin 2 d1
  t2 : Tin 2 d2
  t3 : Tin 2 d3
  na : H0 a ≠ none
  nl : H0 l2 ≠ none
  nb : H0 b ≠ none
  i1 : Is (Nw H0 H) v1 d1
  i2 : Is (Nw H0 H) v2 d2
  i3 : Is (Nw H0 H) v3 d3
theorem Deed.move {a l2 b q : Addr} {wd : Str} {v1 v2 v3 : V} {d1 d2 d3 : PyData} {H0 H H' : Hp} (h : Deed a l2 b q wd v1 v2 v3 d1 d2 d3 H0 H) (tp : Tups H H') (s : ∀ c o, H c = some o → c ≠ a → c ≠ l2 → c ≠ b → H' c = some o) : Deed a l2 b q wd v1 v2 v3 d1 d2 d3 H0 H' := by
  have k : Same (Nw H0 H) (Nw H0 H') := Nw.up fun c o n e => s c o e (fun z => h.na (by rw [← z]; exact n)) (fun z => h.nl (by rw [← z]; exact n)) (fun z => h.nb (by rw [← z]; exact n))
  exact ⟨tp _ _ h.at_, h.word, h.t1, h.t2, h.t3, h.na, h.nl, h.nb, h.i1.same k, h.i2.same k, h.i3.same k⟩
/-- it is one's own ask -/
def IsOwn (wd : Str) (d1 d2 d3 : PyData) (who x act : Int) : Prop := wd = "ask" ∧ d1 = .int who ∧ d2 = .int x ∧ d3 = .int act
theorem deed_fit {wd : Str} {d1 d2 d3 : PyData} (hw : isWord wd) (t1 : Tin 2 d1) (t2 : Tin 2 d2) (t3 : Tin 2 d3) : (PyData.tuple [.str wd, d1, d2, d3]).showable = true ∧ (PyData.tuple [.str wd, d1, d2, d3]).depth ≤ 60 ∧ (PyData.tuple [.str wd, d1, d2, d3]).shown.length ≤ sizeLine := by
  have t0 : Tin 2 (.str wd) := by
    rcases hw with rfl | rfl | rfl | rfl <;> exact tin_str 2 (by decide +kernel)
  obtain ⟨a1, a2, a3, a4, a5⟩ := tin_all (k := 2) (ds := [.str wd, d1, d2, d3]) fun d hd => by
    simp only [List.mem_cons, List.not_mem_nil, or_false] at hd
    rcases hd with rfl | rfl | rfl | rfl
    · exact t0
    · exact t1
    · exact t2
    · exact t3
  have lv : (PyData.tuple [.str wd, d1, d2, d3]).leavesShort 60 = true := by
    simp only [PyData.leavesShort, a2]
  have hs := PyData.shown_le 60 (by decide) _ lv
  refine ⟨by simp only [PyData.showable, a3], by simp only [PyData.depth]; omega, ?_⟩
  have e : sizeLine = 16777216 := by decide
  have wt : (PyData.tuple [.str wd, d1, d2, d3]).weight ≤ 12804 := by
    simp only [PyData.weight]
    simpa using a4
  have m : (60 + 2) * (PyData.tuple [.str wd, d1, d2, d3]).weight ≤ 62 * 12804 := Nat.mul_le_mul_left _ wt
  omega
section
variable {P : Program} {w : World} {K : PySem.W.Frag} {mg : Str → Option Value} {base : Heap} {C : Addr}
theorem ok_law {c Pt : Addr} {f : Addr} {fd : FuncData} (F : Free mg) (hS : SysB base) (Y : Yc K C) (DF : FunD K "law" "law" (defArgs sLaw) (defBody sLaw) (defScope sLaw) [] [] f fd) (TB : TabB base mg c Pt) (hc : fd.code = .ref c)
    (cB : C8.Cal P w K mg base 1 "_law_bag" (spBag K) []) (cD : C8.Cal P w K mg base 1 "_law_draw" spDraw []) (cRu : C8.Cal P w K mg base 2 "_law_rules" spRulesL []) (cTr : C8.Cal P w K mg base 2 "_law_tree" spTreeL []) (cY : C8.Mak P w K mg base 5 "Yard" C (spInit C) [])
    (mC : MetG P w K mg base (L2.CX P w) 6 C "could" (spCould C)) (mT : Mt K C "tried" "Yard.tried" mTried) (cDo : C8.Cal P w K mg base 9 "_law_done" (spDone C) []) (pV : PropG P w K mg base 1 C "version" (spVersion C)) (cDe : C8.Cal P w K mg base 4 "_law_deed" spDeed [])
    (cRi : CalG P w K mg base 7 "_law_is_right" (spRight C)) (mM : MetG P w K mg base (L2.CX P w) 4 C "may" (spMayM C)) : FnG P w K mg base 13 f fd ["_law_script"] (spLaw K Pt) := by
  refine fnG_of DF sc_law (fun vs H Q E h => ?_) (fun cdv A outer s H vs Q E hcd hgd hr h => ?_)
  · obtain ⟨sa, ns, rfl, _⟩ := h
    rfl
  · obtain ⟨sa, ns, rfl, hs, hPt, k⟩ := h
    obtain ⟨_, _, hcd2, _⟩ := hcd
    have hcdv : cdv = .ref c := hcd2.symm.trans hc
    have tr : PS (cxOf C8.CX0 P w K mg base nLaw "law" (defScope sLaw) f cdv A outer s H E).nox (lawIn 2) (tAsg (tTried C [(Pt, lamQ)] 5 (tCall (spDone C) [] C8.E0 (tCons (tVar 16) (tCons (tVar 11) tNil)))) (gName 12)) := by
      refine ps_set (i := 12) sc_law.nd rfl (Or.inl rfl) ?_
      exact pe_tried (T := [(Pt, lamQ)]) (b := "_law_held") (j := 5) (tb := tCall (spDone C) [] C8.E0 (tCons (tVar 16) (tCons (tVar 11) tNil))) F Y mT rfl (Or.inl rfl) TB hcdv (lamT Pt _ _ _) (lamU Pt _ _ _) (k := 10) (hr.mono (by decide)) ⟨rfl, rfl, rfl, by decide +kernel, by decide +kernel, rfl, lamFree⟩ nHeld rfl (fun _ _ _ _ _ _ => rfl) (fun A' outer' s' H' f' c' hr' => C8.pe_c cDo hr' (by decide) (by rfl) (pa_cons (pv 16) (pa_cons (pv 11) pa_nil)))
    refine ⟨_, pss_cons (ps_set (i := 1) sc_law.nd rfl (Or.inl rfl) (C8.pe_c cB hr (by decide) (by rfl) (pa_cons (pv 0) pa_nil)))
      (pss_cons (ps_for PassesOwn.never rfl (pi_range1 (by rfl) F.range (pa_cons pe_int pa_nil)) (pg_name (i := 2) sc_law.nd rfl (Or.inl rfl))
        (pss_cons (ps_par (i := 3) (j := 4) rfl sc_law.nd rfl rfl (by decide) rfl rfl (pa_cons (C8.pe_c cRu hr (by decide) (by rfl) (pa_cons (pv 1) pa_nil)) (pa_cons (C8.pe_c cTr hr (by decide) (by rfl) (pa_cons (pv 1) (pa_cons pe_int pa_nil))) pa_nil)) rfl)
        (pss_cons (ps_set (i := 5) sc_law.nd rfl (Or.inl rfl) (C8.pe_mk cY hr (by decide) (by rfl) (pa_cons (pv 3) (pa_cons (pv 4) pa_nil))))
        (pss_one (ps_for PassesOwn.never rfl (pi_range1 (by rfl) F.range (pa_cons pe_int pa_nil)) (pg_name (i := 6) sc_law.nd rfl (Or.inl rfl))
          (pss_cons (ps_par3 (i := 7) (j := 8) (l := 9) rfl sc_law.nd rfl rfl rfl (by decide) (by decide) (by decide) rfl rfl rfl (pa_cons (C8.pe_c cD hr (by decide) (by rfl) (pa_cons (pv 1) (pa_cons pe_int pa_nil))) (pa_cons (C8.pe_c cD hr (by decide) (by rfl) (pa_cons (pv 1) (pa_cons (pe_callB callLen (by rfl) F.len PySem.boot_len (pa_cons (pv 4) pa_nil)) pa_nil))) (pa_cons (C8.pe_c cD hr (by decide) (by rfl) (pa_cons (pv 1) (pa_cons (pe_ix ixT (pv 3) pe_int (fun _ _ => rfl)) pa_nil))) pa_nil))) rfl)
          (pss_cons (ps_asg (pe_tup (pa_cons (pe_mg mC hr (by decide) passNever (pv 5) (pa_cons (pv 7) (pa_cons (pv 8) (pa_cons (pv 9) pa_nil)))) (pa_cons (pe_tup (pa_cons pe_str (pa_cons (pv 7) (pa_cons (pv 8) (pa_cons (pv 9) pa_nil))))) pa_nil))) (pgT rfl (pgs_cons (pg_name (i := 10) sc_law.nd rfl (Or.inl rfl)) (pgs_cons (pg_name (i := 11) sc_law.nd rfl (Or.inr rfl)) pgs_nil))))
          (pss_cut tr
          (pss_cut (ps_if (PW.pt (pw_and (pt_cmpR op_lt (pe_pg pV hr (by decide) (pv 5)) pe_int (nomark _)) (pw_and1 (pt_cmpR (op_neS hr) (pv 12) (pe_ifExp (pt_cmp (pc_isN (pv 10))) (pe_op op_add (pe_pg pV hr (by decide) (pv 5)) pe_int) (pe_op op_cat (pe_lst (pa_cons pe_str pa_nil)) (pe_callTy call_list_of (by rfl) F.list boot_listN (pa_cons (pv 10) pa_nil)))) (nomark _))))) (pss_one ps_never) pss_nil)
          (pss_cut (ps_set (i := 13) sc_law.nd rfl (Or.inl rfl) (pe_ifExp (pt_cmpR op_eq (C8.pe_c cD hr (by decide) (by rfl) (pa_cons (pv 1) (pa_cons pe_int pa_nil))) pe_int (nomark _)) (pv 11) (C8.pe_c cDe hr (by decide) (by rfl) (pa_cons (pv 1) (pa_cons (pv 3) (pa_cons (pv 4) pa_nil))))))
          (pss_cut (ps_set (i := 14) sc_law.nd rfl (Or.inl rfl) (C8.pe_c cDo hr (by decide) (by rfl) (pa_cons (pv 5) (pa_cons (pv 13) pa_nil))))
          (pss_cons (ps_set (i := 15) sc_law.nd rfl (Or.inl rfl) (pe_cmpR op_eq (pe_callB (call_repr hgd hr hS) (by rfl) F.repr boot_repr (pa_cons (pv 13) pa_nil)) (pe_callB (call_repr hgd hr hS) (by rfl) F.repr boot_repr (pa_cons (pv 11) pa_nil)) (nomark _)))
          (pss_cons (ps_if (PW.pt (pw_or (PW.pt (pw_and (pt_val (pv 15)) (pw_and1 (pt_cmpR (op_neS hr) (pv 14) (pv 12) (nomark _))))) (pw_or1 (pt_not (pt_val (pe_calG cRi hgd hr (by decide) (by rfl) (pa_cons (pv 1) (pa_cons (pv 5) pa_nil)))))))) (pss_one ps_never) pss_nil)
          (pss_one (ps_if (PW.pt (pw_and (pt_cmp (pc_isN (pv 10))) (pw_and (pt_val (pv 15)) (pw_and (pt_cmpR (op_neS hr) (pv 14) (pe_lst (pa_cons pe_str pa_nil)) (nomark _)) (pw_and1 (pt_cmpR (op_notInS hr) (pv 9) (pe_mg mM hr (by decide) passNever (pv 5) (pa_cons (pv 7) (pa_cons (pv 8) pa_nil))) (by rfl))))))) (pss_one ps_never) pss_nil)))))))))))))))
      (pss_one (ps_ret pe_bl))), ?_⟩
    refine ⟨_, rfl, sa, ns, rfl, hs, fun b H1 s1 nb hb => ?_⟩
    refine ⟨_, rfl, by decide, by decide, ?_⟩
    refine for_range (lo := 0) (n := 3) (fun i σ' H' => σ'.length = 16 ∧ σ'[1]? = some (some (.ref b)) ∧ Bag H' b ∧ Tabs [(Pt, lamQ)] H') ⟨rfl, rfl, hb, fun q hq => by rw [List.mem_singleton.mp hq]; exact TabS.nil (s1 _ _ hPt)⟩ (fun i σ' H' hi inv => ?_) (fun σ' H' inv => k H')
    obtain ⟨e2, e1, hb1, hT1⟩ := inv
    match σ', e2, e1 with
    | [_, _, _, _, _, _, _, _, _, _, _, _, _, _, _, _], _, e1 =>
      cases e1
      refine ⟨_, rfl, b, rfl, hb1, fun rv r H2 hfull hir k2 b2 => ⟨_, rfl, b, rfl, b2, fun tv t H3 hT hit k3 b3 => ⟨_, _, rfl, ?_⟩⟩⟩
      have hir3 := hir.tups (k3.tups b2) (tupd_rules _)
      have hT3 := tabs_kb hT1 hb1 (k2.trans k3)
      refine ⟨_, rfl, _, rfl, fun a dx na ndx hne => ?_⟩
      have n1 : upd H3 dx (.own a) a = none := by
        rw [upd_ne (Ne.symm hne)]
        exact na
      have s4 : Same H3 (upd (upd H3 dx (.own a)) a (.ins C dx [])) := (Same.new ndx).trans (Same.new n1)
      refine ⟨a, dx, rv, tv, r, t, rfl, upd_same, hir3.same s4, hit.same s4, hfull, hT, fun p H4 hy np hk => ⟨rfl, ?_⟩⟩
      have s34 : Same H3 H4 := fun c o e => hk c o (s4 _ _ e) fun z => by rw [z, na] at e; cases e
      have hb4 := b3.same s34
      have hbp : b ≠ p := fun z => by
        have q := b3.same s4
        obtain ⟨g, s0, n0, q⟩ := q
        rw [z, np] at q
        cases q
      refine ⟨_, rfl, by decide, by decide, ?_⟩
      refine for_range (lo := 0) (n := 24) (fun i σ' H' => ∃ (a p : Addr) (r : Rules) (t : Tree) (now : List Hold) (past : List (List Hold)) (rv tv : V), InL C [(Pt, lamQ)] i σ' H' b a p r t now past rv tv) ⟨a, p, r, t, [], [], rv, tv, rfl, rfl, rfl, rfl, rfl, hb4, ⟨hy, fair_nil, fun _ h => absurd h (by simp), hfull.ok, hT⟩, hbp, Nat.le_refl _, hir3.same s34, hit.same s34, hfull, hT3.ext s34⟩ (fun i σ' H' hi inv => ?_) (fun σ' H' inv => ?_)
      · clear hy hk hne na ndx n1 s4 np hbp hb4 s34 hT3 hir3 hir hit hfull hT k2 b2 k3 b3
        obtain ⟨a, p, r, t, now, past, rv, tv, L⟩ := inv
        have hle := L.past_
        match σ', L.len, L.s1, L.s3, L.s4, L.s5 with
        | [_, _, _, _, _, _, _, _, _, _, _, _, _, _, _, _], _, q1, q3, q4, q5 =>
          cases q1
          cases q3
          cases q4
          cases q5
          have hb := L.bag
          have hy := L.yok
          have hbp := L.bp
          have hfull := L.full
          obtain ⟨ra, m, e3, hra, _⟩ := L.ir.rules
          obtain ⟨ta, xs, e4, hta, ixs⟩ := L.it.tup_inv
          subst e3
          subst e4
          have hlx := ixs.length
          rw [List.length_map] at hlx
          have tlo := hy.tr.lo
          have thi := hy.tr.hi
          have rlo := hfull.ok.lo
          have rhi := hfull.ok.hi
          refine ⟨_, rfl, b, 4, rfl, hb, by decide, by decide, fun who H1 w0 w1 k1 b1 _ => ⟨_, rfl, _, rfl, ta, xs, rfl, .inl (k1 _ _ hta (bag_tup hb hta)), b, _, rfl, b1, by omega, by omega, fun x H2 x0 x1 k2 b2 _ => ?_⟩⟩
          have k12 := k1.trans k2
          refine ⟨_, rfl, _, rfl, ra, _, 0, .int r.1, rfl, rfl, k12 _ _ hra (bag_tup hb hra), atI_nat (j := 0) rfl, b, r.1, rfl, b2, by omega, by omega, fun act H3 a0 a1 k3 b3 _ => ⟨_, _, _, rfl, ?_⟩⟩
          have k13 := k12.trans k3
          have hy3 := hy.kb hb hbp k13
          have hx : InT t x := ⟨x0, by omega⟩
          obtain ⟨dx, g, ru, tr, n, mv, ps, g1, _⟩ := id hy3.yd
          refine ⟨_, rfl, a, dx, _, rfl, g1, rfl, _, rfl, _, rfl, _, rfl, a, p, r, t, now, past, who, x, act, rfl, hy3, ⟨w0, w1⟩, hx, ⟨a0, a1⟩, fun u H4 s4 iu => ?_⟩
          refine ⟨_, rfl, _, rfl, _, rfl, (by show 4 ≤ sizeLine; decide), fun q0 nq0 => ⟨(by show 2 ≤ sizeLine; decide), fun q1 nq1 => ⟨q1, _, rfl, upd_same, rfl, _, _, rfl, _, _, rfl, rfl, ?_⟩⟩⟩
          have s5 := Same.new (o := HO.tup [.str "ask", .int who, .int x, .int act]) nq0
          have s6 := Same.new (o := HO.tup [u, .ref q0]) nq1
          have s46 := (s4.trans s5).trans s6
          have iu6 := iu.same (s5.trans s6)
          have hq0 := s6 _ _ (upd_same (H := H4) (a := q0) (o := HO.tup [.str "ask", .int who, .int x, .int act]))
          have hy6 := hy3.same s46
          have b6 := b3.same s46
          have k16 := k13.trans (.of s46)
          have tp6 := k16.tups hb
          have ir6 := L.ir.tups tp6 (tupd_rules _)
          have it6 := L.it.tups tp6 (tupd_tree _)
          have tab6 := tabs_kb L.tab hb k16
          generalize eB : barF r now who (raisedL t (tabOf now) who x ([act], [act])) = B at iu6
          refine ⟨AfterT C [(Pt, lamQ)] b ra ta a q0 r t now past who x act u B, ?_, ?_⟩
          · refine ⟨tab6, a, p, r, t, now, past, rfl, hy6.yd, fun G1 RR eN T1 hy1 hrest => ?_⟩
            have hq1 := eN _ _ hq0 (fun _ z => by cases z)
            have bG : ∃ g s n : Int, G1 b = some (.lst [.int g, .int s, .int n]) := by
              obtain ⟨g, s, n, e⟩ := b6
              exact ⟨g, s, n, eN _ _ e (fun _ z => by cases z)⟩
            have nab : ∀ {G : Hp} {xs : List V}, Yd G C a p r t now past → G b = some (.lst xs) → b ≠ a := fun hyy e z => by
              obtain ⟨_, _, _, _, _, _, _, z1, _⟩ := hyy
              rw [z, z1] at e
              cases e
            -- behind the lambda's deed: what was there is there
            have out : ∀ (v : V) (G2 : Hp) (now' : List Hold) (past' : List (List Hold)), Yd G2 C a p r t now' past' → Kept a p G1 G2 → (∀ l2 G3, (∃ o, G1 l2 = some o) → (∀ c o, G2 c = some o → c ≠ a → G3 c = some o) → b ≠ l2 → ThereIs G3 B ((past.length : Int) + 1) b l2 a v) → RR v G2 := fun v G2 now' past' hy2 kk th => by
              refine hrest v G2 ⟨now', past', hy2, kk, fun l2 G3 hy3' ho nl hk hT3' => ?_⟩
              obtain ⟨gg, ss, nn, eb⟩ := bG
              have eb3 := hk b _ (kk b _ eb (nab hy1 eb) hbp) (nab hy1 eb)
              have hbl : b ≠ l2 := fun z => by
                obtain ⟨g, s, n, e⟩ := b6
                exact nl _ (by rw [← z]; exact e)
              have tpA : Tups (upd (upd H4 q0 (.tup [.str "ask", .int who, .int x, .int act])) q1 (.tup [u, .ref q0])) G3 := fun c xs e => by
                have e1 := eN _ _ e (fun _ z => by cases z)
                have na : c ≠ a := fun z => hy1.noA _ (by rw [← z]; exact e1)
                have np : c ≠ p := fun z => hy1.noP _ (by rw [← z]; exact e1)
                exact hk _ _ (kk _ _ e1 na np) na
              refine ⟨l2, v, _, _, _, _, _, _, rfl, ⟨gg, ss, nn, eb3⟩, ⟨hy3', hy.fair, hy.pasts, hy.ru, hy.tr⟩, hbl, ir6.tups tpA (tupd_rules _), it6.tups tpA (tupd_tree _), hT3', tpA _ _ hq0, iu6.tups tpA ?_, th l2 G3 ho hk hbl⟩
              cases B with
              | none => rfl
              | some q => exact tupd_pair q
            refine ⟨_, rfl, _, rfl, a, q0, p, r, t, now, past, "ask", .int who, .int x, .int act, .int who, .int x, .int act, rfl, ⟨hy1, hy.fair, hy.pasts, hy.ru, hy.tr⟩, by omega, hq1, .int _, .int _, .int _, rfl, .inl ⟨who, x, act, rfl, rfl, rfl, rfl, ⟨w0, w1⟩, hx, ⟨a0, a1⟩, ?_⟩⟩
            unfold OwnQ
            rw [eB]
            cases B with
            | none => exact fun hs G2 f gm y kk => out _ G2 hs (past ++ [now]) y kk fun l2 G3 _ _ _ => rfl
            | some q =>
              refine fun l G2 sG nl hl => out _ G2 now past (hy1.same sG) (Kept.of sG) fun l2 G3 ho hk hbl => ?_
              have nla : l ≠ a := fun z => by
                obtain ⟨_, _, _, _, _, _, _, z1, _⟩ := hy1
                rw [z, z1] at nl
                cases nl
              refine ⟨l, rfl, hk _ _ hl nla, fun z => ?_, fun z => ?_, nla⟩
              · obtain ⟨_, _, _, eb⟩ := bG
                rw [z, eb] at nl
                cases nl
              · obtain ⟨o, eo⟩ := ho
                rw [z, eo] at nl
                cases nl
          · rintro σ' H5 ⟨l2, th, o0, o2, o6, o13, o14, o15, rfl, hb5, hy5, hbl, ir5, it5, tab5, hq5, iu5, hth⟩
            refine ⟨AfterT C [(Pt, lamQ)] b ra ta a q0 r t now past who x act u B, ?_, ?_⟩
            · obtain ⟨dx5, _, _, _, _, _, _, g5, _⟩ := id hy5.yd
              have nx : ∀ H6, Same H5 H6 → AfterT C [(Pt, lamQ)] b ra ta a q0 r t now past who x act u B _ H6 := fun H6 s6 => ⟨l2, th, o0, o2, o6, o13, o14, o15, rfl, hb5.same s6, hy5.same s6, hbl, ir5.same s6, it5.same s6, tab5.ext s6, s6 _ _ hq5, iu5.same s6, hth.same s6⟩
              refine ⟨_, rfl, a, dx5, _, rfl, g5, a, l2, r, t, now, past, rfl, hy5.yd, _, _, rfl, rfl, _, rfl, ite2 (fun c1 => ?_) (fun c1 => nx _ (Same.refl _))⟩
              refine ⟨_, rfl, _, rfl, _, rfl, ?_⟩
              cases B with
              | none =>
                obtain rfl := (show Is H5 u .none from iu5).non_inv
                refine iteT ⟨_, rfl, a, dx5, _, rfl, g5, a, l2, r, t, now, past, rfl, hy5.yd, _, _, rfl, rfl, ?_⟩
                refine ⟨thereD none ((past.length : Int) + 1), thereD none ((past.length : Int) + 1), hth.is, .int _, shp_there _ _, shp_there _ _, _, rfl, ?_⟩
                rw [if_pos rfl, eqv_there]
                exact iteF (nx _ (Same.refl _))
              | some q =>
                obtain ⟨pa, rfl, hpa⟩ := (show Is H5 u (cPair q) from iu5).pair
                refine iteF ⟨(by show 1 ≤ sizeLine; decide), fun l3 n3 => ?_⟩
                have s6 := Same.new (o := HO.lst [V.str "Barred"]) n3
                refine ⟨_, rfl, pa, _, rfl, .inr (.of (s6 _ _ hpa)), fun l4 n4 => ?_⟩
                have s7 := Same.new (o := HO.lst [.int q.1, .int q.2]) n4
                refine ⟨l3, l4, _, _, rfl, rfl, s7 _ _ upd_same, upd_same, (by show 1 + 2 ≤ sizeLine; decide), fun l5 n5 => ?_⟩
                have s8 := Same.new (o := HO.lst ([V.str "Barred"] ++ [.int q.1, .int q.2])) n5
                have s68 := (s6.trans s7).trans s8
                refine ⟨thereD (some q) ((past.length : Int) + 1), thereD (some q) ((past.length : Int) + 1), (hth.same s68).is, .lst upd_same (.cons (.str _) (.cons (.int _) (.cons (.int _) .nil))), shp_there _ _, shp_there _ _, _, rfl, ?_⟩
                rw [if_pos rfl, eqv_there]
                exact iteF (nx _ s68)
            · clear hb5 hy5 hbl ir5 it5 tab5 hq5 iu5 hth
              rintro σ6 H6 ⟨l2, th, o0, o2, o6, o13, o14, o15, rfl, hb6, hy6', hbl, ir6', it6', tab6', hq6, iu6', hth⟩
              have S6 : Std C [(Pt, lamQ)] b ra ta a q0 l2 r t now past who x act u B ((past.length : Int) + 1) th H6 := ⟨hb6, hy6', hbl, ir6', it6', tab6', hq6, iu6', hth⟩
              clear hb6 hy6' ir6' it6' tab6' hq6 iu6' hth
              refine ⟨fun σ' H' => ∃ (o0 o2 o6 o14 o15 : Option V) (q : Addr) (wd : Str) (v1 v2 v3 : V) (d1 d2 d3 : PyData) (H0 : Hp), σ' = [o0, some (.ref b), o2, some (.ref ra), some (.ref ta), some (.ref a), o6, some (.int who), some (.int x), some (.int act), some u, some (.ref q0), some th, some (.ref q), o14, o15] ∧ Std C [(Pt, lamQ)] b ra ta a q0 l2 r t now past who x act u B ((past.length : Int) + 1) th H' ∧ Deed a l2 b q wd v1 v2 v3 d1 d2 d3 H0 H', ?_, ?_⟩
              · refine ⟨_, rfl, b, 2, rfl, S6.bag, by decide, by decide, fun z H7 _ _ k7 b7 _ => ⟨rfl, _, rfl, ?_⟩⟩
                have S7 := S6.kb k7 b7
                obtain ⟨dx7, _, _, _, _, _, _, g1, _, _, _, _, g6, _⟩ := id S7.yok.yd
                have ea : H7 a ≠ none := fun z => by rw [z] at g1; cases g1
                have el : H7 l2 ≠ none := fun z => by rw [z] at g6; cases g6
                have eb : H7 b ≠ none := fun z => by
                  obtain ⟨_, _, _, e⟩ := b7
                  rw [z] at e
                  cases e
                refine ite2 (fun c => ?_) (fun c => ?_)
                · exact ⟨_, rfl, _, _, _, _, _, q0, "ask", .int who, .int x, .int act, .int who, .int x, .int act, H7, rfl, S7, S7.own, .inl rfl, tin_small 2 w0 (by omega), tin_small 2 x0 (by omega), tin_small 2 a0 (by omega), ea, el, eb, .int _, .int _, .int _⟩
                · refine ⟨_, rfl, _, rfl, _, rfl, b, .ref ra, .ref ta, r, t, rfl, S7.bag, S7.ir, S7.it, hfull, S7.yok.tr, fun q wd vh vt vw dh dt dw H8 k8 b8 nq hq hw t1 t2 t3 j1 j2 j3 => ?_⟩
                  exact ⟨_, _, _, _, _, q, wd, vh, vt, vw, dh, dt, dw, H7, rfl, S7.kb k8 b8, hq, hw, t1, t2, t3, ea, el, eb, j1, j2, j3⟩
              · rintro σ7 H7 ⟨o0, o2, o6, o14, o15, q, wd, v1, v2, v3, d1, d2, d3, H0, rfl, S7, D7⟩
                refine ⟨fun σ' H' => ∃ (o0 o2 o6 o15 : Option V) (dv : V) (now2 : List Hold) (past2 : List (List Hold)), σ' = [o0, some (.ref b), o2, some (.ref ra), some (.ref ta), some (.ref a), o6, some (.int who), some (.int x), some (.int act), some u, some (.ref q0), some th, some (.ref q), some dv, o15] ∧ Std C [(Pt, lamQ)] b ra ta a q0 l2 r t now2 past2 who x act u B ((past.length : Int) + 1) th H' ∧ Deed a l2 b q wd v1 v2 v3 d1 d2 d3 H0 H' ∧ past2.length ≤ past.length + 1 ∧
                  (IsOwn wd d1 d2 d3 who x act → Is H' dv (thereD B ((past.length : Int) + 1)) ∧ (B = none → act ∈ mayL t now2 who x)), ?_, ?_⟩
                · refine ⟨_, rfl, _, rfl, a, q, l2, r, t, now, past, wd, v1, v2, v3, d1, d2, d3, rfl, S7.yok, by omega, D7.at_, D7.i1.same Nw.sub, D7.i2.same Nw.sub, D7.i3.same Nw.sub, D7.t3.small, ?_⟩
                  by_cases ow : IsOwn wd d1 d2 d3 who x act
                  · refine .inl ⟨who, x, act, ow.1, ow.2.1, ow.2.2.1, ow.2.2.2, ⟨w0, w1⟩, hx, ⟨a0, a1⟩, ?_⟩
                    unfold OwnQ
                    rw [eB]
                    cases B with
                    | none =>
                      refine fun hs H8 f gm y kk => ⟨_, _, _, _, .int ((past.length : Int) + 1), hs, past ++ [now], rfl, S7.kept kk y f (fun g hg => ?_), D7.move (kk.tups S7.yok.yd.noA S7.yok.yd.noP) (fun c o e n1 n2 _ => kk c o e n1 n2), by rw [List.length_append] <;> exact Nat.le_refl _, fun _ => ⟨.int _, fun _ => gm⟩⟩
                      rcases List.mem_append.mp hg with z | z
                      · exact S7.yok.pasts g z
                      · rw [List.mem_singleton.mp z]
                        exact S7.yok.fair
                    | some qq =>
                      exact fun l H8 s8 nl hl => ⟨_, _, _, _, .ref l, now, past, rfl, S7.same s8, D7.move s8.tups (fun c o e _ _ _ => s8 c o e), by omega, fun _ => ⟨.lst hl (.cons (.str _) (.cons (.int _) (.cons (.int _) .nil))), fun z => by cases z⟩⟩
                  · refine .inr fun v hs ps H8 f gp hl y kk => ?_
                    exact ⟨_, _, _, _, v, hs, ps, rfl, S7.kept kk y f gp, D7.move (kk.tups S7.yok.yd.noA S7.yok.yd.noP) (fun c o e n1 n2 _ => kk c o e n1 n2), hl, fun z => absurd z ow⟩
                · rintro σ8 H8 ⟨p0, p2, p6, p15, dv, now2, past2, rfl, S8, D8, hl2, hown⟩
                  obtain ⟨f1, f2, f3⟩ := deed_fit D8.word D8.t1 D8.t2 D8.t3
                  obtain ⟨g1, g2, g3⟩ := deed_fit (wd := "ask") (d1 := .int who) (d2 := .int x) (d3 := .int act) (.inl rfl) (tin_small 2 w0 (by omega)) (tin_small 2 x0 (by omega)) (tin_small 2 a0 (by omega))
                  refine ⟨_, rfl, q, .tuple [.str wd, d1, d2, d3], rfl, .tup D8.at_ (.cons (.str _) (.cons (D8.i1.same Nw.sub) (.cons (D8.i2.same Nw.sub) (.cons (D8.i3.same Nw.sub) .nil)))), f1, f2, f3, ?_⟩
                  refine ⟨_, rfl, q0, .tuple [.str "ask", .int who, .int x, .int act], rfl, .tup S8.own (.cons (.str _) (.cons (.int _) (.cons (.int _) (.cons (.int _) .nil)))), g1, g2, g3, rfl, ?_⟩
                  obtain ⟨dx8, _, _, _, _, _, _, e8, _⟩ := id S8.yok.yd
                  -- behind the last tests
                  have fin : ∀ (o0 o2 o6 o15 : Option V) H9, Std C [(Pt, lamQ)] b ra ta a q0 l2 r t now2 past2 who x act u B ((past.length : Int) + 1) th H9 → InL C [(Pt, lamQ)] (i + 1) [o0, some (.ref b), o2, some (.ref ra), some (.ref ta), some (.ref a), o6, some (.int who), some (.int x), some (.int act), some u, some (.ref q0), some th, some (.ref q), some dv, o15] H9 b a l2 r t now2 past2 (.ref ra) (.ref ta) := fun o0 o2 o6 o15 H9 S9 => ⟨rfl, rfl, rfl, rfl, rfl, S9.bag, S9.yok, S9.bl, by omega, S9.ir, S9.it, hfull, S9.tab⟩
                  by_cases ow : IsOwn wd d1 d2 d3 who x act
                  · obtain ⟨hdv, hmay⟩ := hown ow
                    have eq1 : decide (V.str (PyData.tuple [.str wd, d1, d2, d3]).shown = V.str (PyData.tuple [.str "ask", .int who, .int x, .int act]).shown) = true := by
                      obtain ⟨rfl, rfl, rfl, rfl⟩ := ow
                      simp
                    rw [eq1]
                    refine ⟨_, rfl, _, rfl, iteT ⟨_, rfl, _, rfl, thereD B ((past.length : Int) + 1), thereD B ((past.length : Int) + 1), hdv, S8.there.is, shp_there _ _, shp_there _ _, _, rfl, ?_⟩⟩
                    rw [if_pos rfl, eqv_there]
                    refine iteF ?_
                    refine ⟨_, rfl, _, rfl, b, a, l2, r, t, now2, past2, rfl, S8.bag, S8.yok, S8.bl, fun H9 k9 b9 _ => ⟨_, rfl, iteF ?_⟩⟩
                    have S9 := S8.kb k9 b9
                    cases B with
                    | some qq =>
                      obtain ⟨pa, rfl, hpa⟩ := (show Is H9 u (cPair qq) from S9.told).pair
                      exact ⟨_, rfl, _, rfl, iteF ⟨a, l2, r, t, now2, past2, _, _, fin _ _ _ _ _ S9⟩⟩
                    | none =>
                      obtain rfl := (show Is H9 u .none from S9.told).non_inv
                      have hdv9 : dv = .int ((past.length : Int) + 1) := (show Is H8 dv (.int ((past.length : Int) + 1)) from hdv).int_inv
                      subst hdv9
                      refine ⟨_, rfl, _, rfl, iteT ⟨_, rfl, _, rfl, iteT ⟨_, rfl, (by show 1 ≤ sizeLine; decide), fun l9 n9 => ?_⟩⟩⟩
                      have s10 := Same.new (o := HO.lst [V.str "Full"]) n9
                      have S10 := S9.same s10
                      refine ⟨.int ((past.length : Int) + 1), .list [.str "Full"], .int _, .lst upd_same (.cons (.str _) .nil), shp_int _, ⟨by simp [nodict, nodictAll]; decide +kernel, by simp [PyData.depth, PyData.depthAll]⟩, _, rfl, ?_⟩
                      have e0 : PyData.eqv (.int ((past.length : Int) + 1)) (.list [.str "Full"]) = false := by simp [PyData.eqv]
                      rw [if_pos rfl, e0]
                      refine iteT ?_
                      obtain ⟨dx9, _, _, _, _, _, _, e9, _⟩ := id S10.yok.yd
                      refine ⟨_, rfl, _, rfl, a, dx9, _, rfl, e9, rfl, _, rfl, _, rfl, a, l2, r, t, now2, past2, who, x, rfl, S10.yok, ⟨w0, w1⟩, hx, fun y H11 s11 iy => ?_⟩
                      refine ⟨.int act, (mayL t now2 who x).map .int, .int _, .inl iy, shp_int _, shp_lot _, _, rfl, ?_⟩
                      rw [if_pos rfl, any_int, decide_eq_true (hmay rfl)]
                      exact iteF ⟨a, l2, r, t, now2, past2, _, _, fin _ _ _ _ _ (S10.same s11)⟩
                  · have eq1 : decide (V.str (PyData.tuple [.str wd, d1, d2, d3]).shown = V.str (PyData.tuple [.str "ask", .int who, .int x, .int act]).shown) = false := by
                      refine decide_eq_false fun z => ow ?_
                      injection z with z
                      exact own_text D8.word w0 x0 a0 z
                    rw [eq1]
                    refine ⟨_, rfl, _, rfl, iteF ?_⟩
                    refine ⟨_, rfl, _, rfl, b, a, l2, r, t, now2, past2, rfl, S8.bag, S8.yok, S8.bl, fun H9 k9 b9 _ => ⟨_, rfl, iteF ?_⟩⟩
                    have S9 := S8.kb k9 b9
                    refine ⟨_, rfl, _, rfl, ite2 (fun c => ?_) (fun c => ⟨a, l2, r, t, now2, past2, _, _, fin _ _ _ _ _ S9⟩)⟩
                    exact ⟨_, rfl, _, rfl, iteF ⟨a, l2, r, t, now2, past2, _, _, fin _ _ _ _ _ S9⟩⟩
      · obtain ⟨a, p, r, t, now, past, rv, tv, L⟩ := inv
        exact ⟨L.len, L.s1, L.bag, L.tab⟩
end
end HM
/-! The end: a law whose one table of code objects is empty, run where no repr is under way. -/
namespace HM
open PySem PySem.Spec PyProof.Rows L2 LamX
section
variable {P : Program} {w : World} {K : PySem.W.Frag} {mg mb : Str → Option Value} {k : Nat} {f sa c T : Addr} {fd : FuncData} {x : Str} {sp : Sp} {s : Shared} {us : List Value} {ns : List Int}
/-- what is known where the law is called -/
structure AtEnd (K : PySem.W.Frag) (mg mb : Str → Option Value) (s : Shared) (sa c T : Addr) (us : List Value) (ns : List Int) : Prop where
  inK : K.In s.heap
  glo : s.heap.Ns mainGlobals mg
  bui : s.heap.Ns builtinsNs mb
  boot : ∀ y : Str, y ≠ "__name__" → mb y = bootBuiltins y
  lim : s.heap.NoLimit
  gens : s.gens = #[]
  tab : s.heap.get? T = some { cls := .none, data := .fields #[] }
  tabK : K.lookup T = none
  code : PySem.W.CodeHd s.heap c T
  seer : s.heap.NoSeer
  main : ∃ (m : Addr) (om : Obj), mg "__builtins__" = some (.ref m) ∧ m ≠ builtinsNs ∧ s.heap.get? m = some om ∧ om.cls = .type "module" ∧ om.dict = some builtinsNs ∧ om.data = .plain
  scr : s.heap.get? sa = some { cls := .type "list", data := .seq us.toArray }
  areI : IntsAre us ns
  fits : ns.length ≤ sizeLine
/-- H tracks the script and the table at most -/
structure Few (P : Program) (w : World) (K : PySem.W.Frag) (s : Shared) (sa T : Addr) (ns : List Int) (H : Hp) : Prop where
  tab : H T = some (.tbl #[])
  kind : ∀ b, H b = none ∨ b = T ∨ ∃ o xs, H b = some (.frz o (.lst xs))
  scr : SqL K H sa (ns.map V.int)
  ok : HOk P w H s.heap
  few : ∀ b, H b ≠ none → b = sa ∨ b = T
  out : H sa ≠ none → K.lookup sa = none
theorem AtEnd.off (Z : AtEnd K mg mb s sa c T us ns) {H : Hp} (W : Few P w K s sa T ns H) {b : Addr} {ob : Obj} (e : s.heap.get? b = some ob) (h1 : ∀ vs n, ob.data ≠ .seq vs n) (h2 : ob.data ≠ .fields #[]) : H b = none := by
  cases q : H b with
  | none => rfl
  | some u =>
    rcases W.few b (by rw [q]; simp) with z | z
    · rw [z, Z.scr] at e
      cases e
      exact (h1 _ _ rfl).elim
    · rw [z, Z.tab] at e
      cases e
      exact (h2 rfl).elim
theorem AtEnd.offD (Z : AtEnd K mg mb s sa c T us ns) {H : Hp} (W : Few P w K s sa T ns H) {b : Addr} {ob : Obj} {es : Array DictEntry} {n : Nat} (e : s.heap.get? b = some ob) (d : ob.data = .dict es n) : H b = none := by
  refine Z.off W e (fun vs m z => ?_) fun z => ?_
  · rw [d] at z
    cases z
  · rw [d] at z
    cases z
theorem AtEnd.nsD (Z : AtEnd K mg mb s sa c T us ns) {H : Hp} (W : Few P w K s sa T ns H) {b : Addr} {m : Str → Option Value} (h : s.heap.Ns b m) : (hidT s.heap H).Ns b m := by
  obtain ⟨o, es, n, e, d, r⟩ := h
  exact ⟨o, es, n, hidT_get e (Z.offD W e d), d, r⟩
theorem AtEnd.inB (Z : AtEnd K mg mb s sa c T us ns) {H : Hp} (W : Few P w K s sa T ns H) : K.In (hidT s.heap H) := fun b o e => by
  refine hidT_get (Z.inK b o e) ?_
  cases q : H b with
  | none => rfl
  | some u =>
    rcases W.few b (by rw [q]; simp) with z | z
    · rw [z] at e q
      rw [W.out (by rw [q]; simp)] at e
      cases e
    · rw [z, Z.tabK] at e
      cases e
theorem AtEnd.sys (Z : AtEnd K mg mb s sa c T us ns) {H : Hp} (W : Few P w K s sa T ns H) : SysB (hidT s.heap H) := by
  obtain ⟨mm, ⟨o, es, n, e, d, _⟩, _⟩ := Z.seer.mods
  exact ⟨o, es, n, hidT_get e (Z.offD W e d), d⟩
theorem AtEnd.tabB (Z : AtEnd K mg mb s sa c T us ns) {H : Hp} (W : Few P w K s sa T ns H) : TabB (hidT s.heap H) mg c T := by
  have nG : ∀ b : Addr, (∃ ob, s.heap.get? b = some ob ∧ (ob.data = .plain ∨ ob.data = .fields #[])) → b ≠ mainGlobals := fun b ⟨ob, e, d⟩ z => by
    obtain ⟨o, es, n, e2, d2, _⟩ := Z.glo
    rw [z, e2] at e
    cases e
    rcases d with d | d
    · rw [d2] at d
      cases d
    · rw [d2] at d
      cases d
  refine ⟨?_, ?_, fun z => nG T ⟨_, Z.tab, .inr rfl⟩ z.symm⟩
  · obtain ⟨o, ws, file, tf, flags, tg, inF, text, tt, e1, r1, r2, r3, r⟩ := Z.code
    refine ⟨o, ws, file, tf, flags, tg, inF, text, tt, hidT_get e1 (Z.off W e1 (fun vs n z => ?_) fun z => ?_), r1, r2, r3, r⟩
    · rw [r2] at z
      cases z
    · rw [r2] at z
      cases z
      simp at r3
  · obtain ⟨m, om, b1, b2, b3, b4, b5, b6⟩ := Z.main
    refine ⟨m, om, b1, b2, nG m ⟨om, b3, .inl b6⟩, fun q => ?_, hidT_get b3 (Z.off W b3 (fun vs n z => ?_) fun z => ?_), b4, b5, b6⟩
    · rw [q, Z.tab] at b3
      cases b3
      cases b6
    · rw [b6] at z
      cases z
    · rw [b6] at z
      cases z
theorem end_few (Z : AtEnd K mg mb s sa c T us ns) {H : Hp} (W : Few P w K s sa T ns H) (hr : Room k callerA) (F : ∀ base : Heap, K.In base → base.Ns mainGlobals mg → TabB base mg c T → SysB base → FnG P w K mg base k f fd [x] sp)
    (bd : ∀ (s : Shared) (u : Value), BindsTo s fd ⟨[u], []⟩ [(x, u)]) (hsp : sp [.ref sa] H (fun v _ => v = .bl true) fun _ _ _ => False) :
    codeAny (model P w) callerA (.call (.ref f) ⟨[.ref sa], []⟩) (fun r s' => r = .ok (.ret (.bool true)) ∧ OldK s.heap s'.heap ∧ s'.os = s.os ∧ AllBare s'.gens) s := by
  have hM : L2.Mod K mg (hidT s.heap H) := ⟨Z.inB W, Z.nsD W Z.glo, ⟨mb, Z.nsD W Z.bui, Z.boot⟩, let ⟨mc, h1, h2⟩ := Z.lim; ⟨mc, Z.nsD W h1, h2⟩⟩
  have e0 : Env0 P w K mg (hidT s.heap H) callerA [] s H := ⟨rfl, hM, fun b o e => of_hidT e, Nat.le_of_eq (hidT_size _ _), trivial, fun b hb => absurd (show b ∈ ([] : List Addr) from hb) (by simp), W.ok, .of_eq Z.gens⟩
  refine codeAny_mono ((F _ (Z.inB W) (Z.nsD W Z.glo) (Z.tabB W) (Z.sys W)).run callerA [] s H ⟨[.ref sa], []⟩ [.ref sa] [.ref sa] _ _ rfl hr e0 (bd s (.ref sa)) (.cons rfl .nil) hsp) fun r s' h => ?_
  cases r with
  | error e => exact False.elim h
  | ok fl =>
    cases fl with
    | next => exact False.elim h
    | brk => exact False.elim h
    | cont => exact False.elim h
    | ret u =>
      obtain ⟨v, H', os, bare, un, hok', r', q⟩ := h
      obtain rfl : v = .bl true := q
      obtain rfl : u = Value.bool true := r'
      have same : ∀ b o, b ≠ T → s.heap.get? b = some o → s'.heap.get? b = some o := fun b o nb e => by
        rcases W.kind b with z | z | ⟨ob, xs, z⟩
        · exact un.keep b o e z (by intro y; exact absurd (show b ∈ ([] : List Addr) from y) (by simp)) (by simp)
        · exact absurd z nb
        · obtain ⟨e1, _⟩ := W.ok b _ z
          obtain ⟨e2, _⟩ := hok' b _ (un.frzs b ob _ z)
          rw [e] at e1
          cases e1
          exact e2
      obtain ⟨more, z⟩ := un.tbls T #[] W.tab
      have grown : s'.heap.get? T = some { cls := .none, data := .fields (#[] ++ more) } := hok' T _ z
      rw [Array.empty_append] at grown
      refine ⟨rfl, ⟨fun b o e => ?_, fun b o e => ?_⟩, os, bare⟩
      · by_cases hb : b = T
        · rw [hb] at e ⊢
          rw [Z.tab] at e
          cases e
          exact .inr (.inl ⟨(Z.code.tab Z.tab).isCodeTable, rfl, #[], more, rfl, by rw [Array.empty_append]; exact grown⟩)
        · exact .inl (same b o hb e)
      · by_cases hb : b = T
        · rw [hb]
          exact ⟨_, grown⟩
        · exact ⟨o, same b o hb e⟩
theorem AtEnd.few (Z : AtEnd K mg mb s sa c T us ns) : ∃ H, Few P w K s sa T ns H := by
  have ne : sa ≠ T := fun z => by
    have q := Z.tab
    rw [← z, Z.scr] at q
    have q' : Data.seq us.toArray _ = Data.fields #[] := congrArg Obj.data (Option.some.inj q)
    cases q'
  have lU := Z.areI.length
  cases hk : K.lookup sa with
  | some o =>
    have e := Z.inK sa o hk
    rw [Z.scr] at e
    cases e
    refine ⟨upd (fun _ => none) T (.tbl #[]), upd_same, fun b => ?_, .inr ⟨_, us.toArray, _, hk, rfl, rfl, rfl, by rw [List.size_toArray, lU]; exact Z.fits, by simpa using vals_ints Z.areI⟩, fun b u z => ?_, fun b z => ?_, fun z => absurd (upd_ne (H := fun _ => none) ne) z⟩
    · by_cases hb : b = T
      · exact .inr (.inl hb)
      · exact .inl (upd_ne hb)
    · by_cases hb : b = T
      · rw [hb, upd_same] at z
        cases z
        rw [hb]
        exact Z.tab
      · rw [upd_ne hb] at z
        cases z
    · by_cases hb : b = T
      · exact .inr hb
      · exact absurd (upd_ne (H := fun _ => none) hb) z
  | none =>
    refine ⟨upd (upd (fun _ => none) T (.tbl #[])) sa (.frz { cls := .type "list", data := .seq us.toArray } (.lst (ns.map V.int))), (upd_ne (Ne.symm ne)).trans upd_same, fun b => ?_, .inl (.inr ⟨_, upd_same⟩), fun b u z => ?_, fun b z => ?_, fun _ => hk⟩
    · by_cases hb : b = sa
      · rw [hb]
        exact .inr (.inr ⟨_, _, upd_same⟩)
      · by_cases hb2 : b = T
        · exact .inr (.inl hb2)
        · exact .inl ((upd_ne hb).trans (upd_ne hb2))
    · by_cases hb : b = sa
      · rw [hb, upd_same] at z
        cases z
        rw [hb]
        exact ⟨Z.scr, by rw [List.length_map]; exact Z.fits, us, _, vals_ints Z.areI, Z.scr⟩
      · rw [upd_ne hb] at z
        by_cases hb2 : b = T
        · rw [hb2, upd_same] at z
          cases z
          rw [hb2]
          exact Z.tab
        · rw [upd_ne hb2] at z
          cases z
    · by_cases hb : b = sa
      · exact .inl hb
      · by_cases hb2 : b = T
        · exact .inr hb2
        · exact absurd ((upd_ne hb).trans (upd_ne hb2)) z
end
/-- what the head tells of the law -/
def LawG (l : PySem.W.OpenLaw) (w : World) (K : PySem.W.Frag) (k : Nat) (x : Str) (mg : Str → Option Value) (f : Addr) (h : Heap) : Prop :=
  ∃ (fd : FuncData) (c T : Addr) (sp : Sp), h.get? T = some { cls := .none, data := .fields #[] } ∧ K.lookup T = none ∧ PySem.W.CodeHd h c T ∧ (∀ (s : Shared) (u : Value), BindsTo s fd ⟨[u], []⟩ [(x, u)]) ∧
    (∀ (H : Hp) (a : Addr) (ns : List Int), H T = some (.tbl #[]) → SqL K H a (ns.map V.int) → sp [.ref a] H (fun v _ => v = .bl true) fun _ _ _ => False) ∧
    ∀ base : Heap, K.In base → base.Ns mainGlobals mg → TabB base mg c T → SysB base → FnG l.prog w K mg base k f fd [x] sp
theorem walk_g {l : PySem.W.OpenLaw} {n k : Nat} {q : Program} {loose : List Str} {XP : (Str → Option Value) → Heap → Prop} {YP : World → Heap → Prop} {d : DefRec} {x : Str} (hn : l.most = some n) (hn2 : n ≤ sizeLine) (hdf : d.params.defaults = []) (hr : Room k callerA) (hi : importsNone q = true)
    (F : ∀ (w : World) (mg : Str → Option Value) (f : Addr) (h : Heap), YP w h → h.Ns mainGlobals mg → mg d.name = some (.ref f) → ∃ K : PySem.W.Frag, K.In h ∧ LawG l w K k x mg f h) :
    PySem.W.WalkO q loose XP YP l.row.toRowW d [] (fun f vs => PySem.call f vs) := by
  refine Att.attach_callB hn hdf fun w s₀ s mg mb f o pm cd doc sa us ns G Y _ _ _ hmg hobj hints hlen _ hg => ?_
  obtain ⟨K, KX, fd, c, T, sp, h1, h2, h3, h4, h5, h6⟩ := F w mg f _ Y G.T.g hmg
  have Z : AtEnd K mg mb s sa c T us ns := ⟨KX, G.T.g, G.T.b, G.T.builtins, G.T.nolimit, hg, h1, h2, h3, G.T.seer hi, G.T.bmain, hobj, hints, Nat.le_trans hlen hn2⟩
  obtain ⟨H, W⟩ := Z.few (P := l.prog) (w := w)
  exact end_few Z W hr h6 h4 (h5 H sa ns W.tab W.scr)
end HM
/-! The join: the head's facts give each def, class and method; the contracts, in order; the law. -/
namespace HM
open PySem PySem.Spec PyProof.Rows L2 LamX
section
variable {h : Heap} {K : PySem.W.Frag} {mg : Str → Option Value}
theorem exAt (S : SaysQ h K) (i : Nat) {e : PySem.W.Frag → Bool} (z : exL[i]? = some e) : e K = true := List.all_eq_true.mp S.e e (List.mem_of_getElem? z)
theorem hasB_ok {C : Addr} {m : Str} {v : String} (z : hasB K C m v = true) : PySem.W.findIn K (.ref C) m = some (some (.builtin v)) := He.eqO_ok z
theorem subB_ok {C : Addr} (z : subB K C = true) : PySem.W.subIn K (.ref C) (.type "BaseException") = some true := of_decide_eq_true z
theorem oxB_ok {C : Addr} {B newId initId : String} {tl : List Value} (FB : ExcBaseFacts B newId initId tl) (SB : StoreFacts B tl "object.__setattr__" "object") (z : oxB K C tl newId = true) : OxC K C initId := by
  obtain ⟨z1, z⟩ := He.ba z
  obtain ⟨z2, z⟩ := He.ba z
  obtain ⟨z3, z⟩ := He.ba z
  obtain ⟨z4, z⟩ := He.ba z
  obtain ⟨z5, z⟩ := He.ba z
  obtain ⟨z6, z7⟩ := He.ba z
  exact ⟨⟨B, newId, tl, FB, SB, z1, z2⟩, z3, hasB_ok z4, subB_ok z5, of_decide_eq_true z6, z7⟩
theorem seeB_ok {C : Addr} (z : seeB K C = true) : SeeC K C := by
  obtain ⟨z1, z⟩ := He.ba z
  obtain ⟨z2, z⟩ := He.ba z
  obtain ⟨z3, z⟩ := He.ba z
  obtain ⟨z4, z⟩ := He.ba z
  obtain ⟨z5, z⟩ := He.ba z
  obtain ⟨z6, z⟩ := He.ba z
  obtain ⟨z7, z⟩ := He.ba z
  obtain ⟨z8, z9⟩ := He.ba z
  exact ⟨z1, hasB_ok z2, He.eqO_ok z3, subB_ok z4, z5, hasB_ok z6, He.eqO_ok z7, of_decide_eq_true z8, of_decide_eq_true z9⟩
theorem propB_ok {C : Addr} {m : Str} (z : propB K C m = true) : PropOf K C m (He.ma K C m) (gp K C m) := by
  obtain ⟨z1, z⟩ := He.ba z
  obtain ⟨z2, z⟩ := He.ba z
  obtain ⟨z3, z4⟩ := He.ba z
  refine ⟨He.eqO_ok z1, He.eqO_ok z2, of_decide_eq_true z3, ?_⟩
  unfold gp
  split at z4
  · rename_i g r q
    rw [q]
    exact ⟨r, rfl⟩
  · cases z4
theorem valB_ok {c mc : Value} {m : Str} {i : String} (z : valB K c mc m i = true) : PySem.W.findCls K c mc m = some (.val (.builtin i)) := by
  unfold valB at z
  split at z
  · rename_i u q
    rw [q, of_decide_eq_true z]
  · cases z
theorem ownB_ok {C : Addr} {x : Str} {i : String} (g : mg x = some (.ref C)) (z : ownB K C i = true) : OwnBase K mg x i := by
  obtain ⟨z1, z⟩ := He.ba z
  obtain ⟨z2, z⟩ := He.ba z
  obtain ⟨z3, z4⟩ := He.ba z
  exact ⟨C, .type "type", g, ⟨z1, He.eqO_ok z2⟩, z3, valB_ok z4⟩
theorem dn_of (X : K.In h) (G : h.Ns mainGlobals mg) (S : SaysQ h K) (i j : Nat) {x : Str} {st : Stmt} (z1 : fnL[i]? = some (dG x x st)) (z2 : faL[j]? = some (.glo x)) : Dn K mg x st := by
  obtain ⟨fd, D⟩ := S.a.def_ i z1
  exact ⟨_, fd, D, He.glo_ok X G (S.a.fact j z2)⟩
theorem mt_of (S : SaysQ h K) (i j : Nat) {m q : Str} {st : Stmt} (z1 : fnL[i]? = some (dM m q st)) (z2 : faL[j]? = some (.meth "Yard" m)) : Mt K (He.ga K "Yard") m q st := by
  obtain ⟨fd, D⟩ := S.a.def_ i z1
  exact ⟨_, fd, He.meth_ok (S.a.fact j z2), D⟩
theorem pt_of (S : SaysQ h K) (i j : Nat) {m q : Str} {st : Stmt} (z1 : fnL[i]? = some (dP m q st)) (z2 : exL[j]? = some fun K => propB K (He.ga K "Yard") m) : Pt K (He.ga K "Yard") m q st := by
  obtain ⟨fd, D⟩ := S.a.def_ i z1
  exact ⟨_, _, fd, propB_ok (exAt S j z2), D⟩
theorem init_of (S : SaysQ h K) (i j : Nat) {c q : Str} {st : Stmt} (z1 : fnL[i]? = some (dI c q st)) (z2 : faL[j]? = some (.meth c "__init__")) :
    ∃ fd, FunD K "__init__" q (defArgs st) (defBody st) (defScope st) [] [] (He.ma K (He.ga K c) "__init__") fd ∧ PySem.W.findIn K (.ref (He.ga K c)) "__init__" = some (some (.ref (He.ma K (He.ga K c) "__init__"))) ∧ PySem.W.typeIn K (.ref (He.ma K (He.ga K c) "__init__")) = some (.type "function") := by
  obtain ⟨fd, D⟩ := S.a.def_ i z1
  have M := He.meth_ok (S.a.fact j z2)
  exact ⟨fd, D, M.at_, beq_iff_eq.mp M.fn⟩

theorem free_of (X : K.In h) (G : h.Ns mainGlobals mg) (S : SaysQ h K) : Free mg := ⟨He.free_ok X G (S.a.fact 0 rfl), He.free_ok X G (S.a.fact 1 rfl), He.free_ok X G (S.a.fact 2 rfl), He.free_ok X G (S.a.fact 3 rfl), He.free_ok X G (S.a.fact 4 rfl), He.free_ok X G (S.a.fact 5 rfl), He.free_ok X G (S.a.fact 6 rfl), He.free_ok X G (S.a.fact 7 rfl), He.free_ok X G (S.a.fact 8 rfl), He.free_ok X G (S.a.fact 9 rfl), He.free_ok X G (S.a.fact 10 rfl), He.free_ok X G (S.a.fact 11 rfl), He.free_ok X G (S.a.fact 12 rfl), He.free_ok X G (S.a.fact 13 rfl), He.free_ok X G (S.a.fact 14 rfl), He.free_ok X G (S.a.fact 15 rfl), He.free_ok X G (S.a.fact 16 rfl), He.free_ok X G (S.a.fact 17 rfl), He.free_ok X G (S.a.fact 18 rfl)⟩
theorem num_of (X : K.In h) (G : h.Ns mainGlobals mg) {x : Str} {i : Int} (c : (He.Fa.int x i).ok K = true) : ∃ u, mg x = some u ∧ RelV (.int i) u := by
  obtain ⟨t, e⟩ := He.int_ok X G c
  exact ⟨_, e, t, rfl⟩
theorem nums_of (X : K.In h) (G : h.Ns mainGlobals mg) (S : SaysQ h K) : Nums mg := ⟨num_of X G (S.a.fact 19 rfl), num_of X G (S.a.fact 20 rfl), num_of X G (S.a.fact 21 rfl), num_of X G (S.a.fact 22 rfl)⟩
theorem yc_of (S : SaysQ h K) : Yc K (He.ga K "Yard") := ⟨He.cls_ok (S.a.fact 76 rfl), (He.noat_ok (S.a.fact 77 rfl)), (He.noat_ok (S.a.fact 78 rfl)), (He.noat_ok (S.a.fact 79 rfl)), (He.noat_ok (S.a.fact 80 rfl))⟩
/-- the errors' classes -/
def eaK (K : PySem.W.Frag) : HM.EA := ⟨He.ga K "BadMode", He.ga K "Barred", He.ga K "NothingToUndo", He.ga K "NoAct", He.ga K "NoHold", He.ga K "NoHolder", He.ga K "NoThing"⟩
theorem tld_of (X : K.In h) (G : h.Ns mainGlobals mg) (S : SaysQ h K) : TldF K mg (eaK K) (He.ga K "Full") := ⟨(seeB_ok (exAt S 6 rfl)), (seeB_ok (exAt S 7 rfl)), (seeB_ok (exAt S 8 rfl)), (He.noat_ok (S.a.fact 81 rfl)), (He.noat_ok (S.a.fact 82 rfl)), (He.noat_ok (S.a.fact 83 rfl)), (He.glo_ok X G (S.a.fact 67 rfl)), (He.glo_ok X G (S.a.fact 68 rfl)), (He.glo_ok X G (S.a.fact 69 rfl)), (He.glo_ok X G (S.a.fact 70 rfl)), (of_decide_eq_true (exAt S 13 rfl)), (of_decide_eq_true (exAt S 14 rfl)), (of_decide_eq_true (exAt S 15 rfl)), (of_decide_eq_true (exAt S 16 rfl)), (of_decide_eq_true (exAt S 17 rfl)), (of_decide_eq_true (exAt S 18 rfl)), (of_decide_eq_true (exAt S 19 rfl))⟩
theorem done_of (X : K.In h) (G : h.Ns mainGlobals mg) (S : SaysQ h K) : DoneF K mg (eaK K) (He.ga K "HoldError") := ⟨(He.glo_ok X G (S.a.fact 66 rfl)), (He.glo_ok X G (S.a.fact 73 rfl)), (He.glo_ok X G (S.a.fact 74 rfl)), (He.glo_ok X G (S.a.fact 71 rfl)), (He.glo_ok X G (S.a.fact 72 rfl)), (seeB_ok (exAt S 9 rfl)), (seeB_ok (exAt S 10 rfl)), (seeB_ok (exAt S 11 rfl)), (seeB_ok (exAt S 12 rfl)), (He.noat_ok (S.a.fact 86 rfl)), (He.noat_ok (S.a.fact 87 rfl)), (He.noat_ok (S.a.fact 84 rfl)), (He.noat_ok (S.a.fact 85 rfl)), (He.exm_ok (S.a.fact 111 rfl)), (He.exm_ok (S.a.fact 112 rfl)), (He.exm_ok (S.a.fact 113 rfl)), (He.exm_ok (S.a.fact 114 rfl)), (He.exm_ok (S.a.fact 115 rfl)), (He.exm_ok (S.a.fact 116 rfl)), (He.exm_ok (S.a.fact 117 rfl)), (He.exm_ok (S.a.fact 118 rfl)), (He.exm_ok (S.a.fact 119 rfl)), (He.exm_ok (S.a.fact 120 rfl)), (He.exm_ok (S.a.fact 121 rfl)), (He.exm_ok (S.a.fact 122 rfl)), (He.exm_ok (S.a.fact 123 rfl)), (He.exm_ok (S.a.fact 124 rfl)), (He.exm_ok (S.a.fact 125 rfl)), (He.exm_ok (S.a.fact 126 rfl)), (He.exm_ok (S.a.fact 127 rfl))⟩
section
variable {P : Program} {w : World} {base : Heap}
theorem rz_BadMode (X : K.In h) (G : h.Ns mainGlobals mg) (S : SaysQ h K) : Rz1 P w K mg base "BadMode" (He.ga K "BadMode") "mode" := by
  obtain ⟨fd, D, z1, z2⟩ := init_of S 63 103 (c := "BadMode") (q := "BadMode.__init__") (st := iBadMode) rfl rfl
  have T := oxB_ok PySem.F.excBase_ValueError PySem.F.store_ValueError (exAt S 0 rfl)
  exact ⟨_, _, fd, T, z1, z2, ok_iBadMode (ownB_ok (He.glo_ok X G (S.a.fact 66 rfl)) (exAt S 24 rfl)) T (He.noat_ok (S.a.fact 81 rfl)) D, D.bindsN (fun _ _ _ _ _ _ us hl => match us, hl with | [_, _], _ => rfl), He.glo_ok X G (S.a.fact 67 rfl)⟩
theorem rz_Barred (X : K.In h) (G : h.Ns mainGlobals mg) (S : SaysQ h K) : Rz2 P w K mg base "Barred" (He.ga K "Barred") "thing" "other" := by
  obtain ⟨fd, D, z1, z2⟩ := init_of S 64 104 (c := "Barred") (q := "Barred.__init__") (st := iBarred) rfl rfl
  have T := oxB_ok PySem.F.excBase_ValueError PySem.F.store_ValueError (exAt S 1 rfl)
  exact ⟨_, _, fd, T, z1, z2, ok_iBarred (ownB_ok (He.glo_ok X G (S.a.fact 66 rfl)) (exAt S 24 rfl)) T (He.noat_ok (S.a.fact 82 rfl)) (He.noat_ok (S.a.fact 83 rfl)) D, D.bindsN (fun _ _ _ _ _ _ us hl => match us, hl with | [_, _, _], _ => rfl), He.glo_ok X G (S.a.fact 68 rfl)⟩
theorem rz_NoAct (X : K.In h) (G : h.Ns mainGlobals mg) (S : SaysQ h K) : Rz1 P w K mg base "NoAct" (He.ga K "NoAct") "act" := by
  obtain ⟨fd, D, z1, z2⟩ := init_of S 65 105 (c := "NoAct") (q := "NoAct.__init__") (st := iNoAct) rfl rfl
  have T := oxB_ok PySem.F.excBase_LookupError PySem.F.store_LookupError (exAt S 2 rfl)
  exact ⟨_, _, fd, T, z1, z2, ok_iNoAct (free_of X G S) (valB_ok (exAt S 25 rfl)) T (He.noat_ok (S.a.fact 84 rfl)) D, D.bindsN (fun _ _ _ _ _ _ us hl => match us, hl with | [_, _], _ => rfl), He.glo_ok X G (S.a.fact 71 rfl)⟩
theorem rz_NoHold (X : K.In h) (G : h.Ns mainGlobals mg) (S : SaysQ h K) : Rz1 P w K mg base "NoHold" (He.ga K "NoHold") "holder" := by
  obtain ⟨fd, D, z1, z2⟩ := init_of S 66 106 (c := "NoHold") (q := "NoHold.__init__") (st := iNoHold) rfl rfl
  have T := oxB_ok PySem.F.excBase_LookupError PySem.F.store_LookupError (exAt S 3 rfl)
  exact ⟨_, _, fd, T, z1, z2, ok_iNoHold (free_of X G S) (valB_ok (exAt S 25 rfl)) T (He.noat_ok (S.a.fact 85 rfl)) D, D.bindsN (fun _ _ _ _ _ _ us hl => match us, hl with | [_, _], _ => rfl), He.glo_ok X G (S.a.fact 72 rfl)⟩
theorem rz_NoHolder (X : K.In h) (G : h.Ns mainGlobals mg) (S : SaysQ h K) : Rz1 P w K mg base "NoHolder" (He.ga K "NoHolder") "holder" := by
  obtain ⟨fd, D, z1, z2⟩ := init_of S 67 107 (c := "NoHolder") (q := "NoHolder.__init__") (st := iNoHolder) rfl rfl
  have T := oxB_ok PySem.F.excBase_LookupError PySem.F.store_LookupError (exAt S 4 rfl)
  exact ⟨_, _, fd, T, z1, z2, ok_iNoHolder (free_of X G S) (valB_ok (exAt S 25 rfl)) T (He.noat_ok (S.a.fact 86 rfl)) D, D.bindsN (fun _ _ _ _ _ _ us hl => match us, hl with | [_, _], _ => rfl), He.glo_ok X G (S.a.fact 73 rfl)⟩
theorem rz_NoThing (X : K.In h) (G : h.Ns mainGlobals mg) (S : SaysQ h K) : Rz1 P w K mg base "NoThing" (He.ga K "NoThing") "thing" := by
  obtain ⟨fd, D, z1, z2⟩ := init_of S 68 108 (c := "NoThing") (q := "NoThing.__init__") (st := iNoThing) rfl rfl
  have T := oxB_ok PySem.F.excBase_LookupError PySem.F.store_LookupError (exAt S 5 rfl)
  exact ⟨_, _, fd, T, z1, z2, ok_iNoThing (free_of X G S) (valB_ok (exAt S 25 rfl)) T (He.noat_ok (S.a.fact 87 rfl)) D, D.bindsN (fun _ _ _ _ _ _ us hl => match us, hl with | [_, _], _ => rfl), He.glo_ok X G (S.a.fact 74 rfl)⟩
theorem rz_nothing (X : K.In h) (G : h.Ns mainGlobals mg) (S : SaysQ h K) : Rz0 K mg "NothingToUndo" (He.ga K "NothingToUndo") := by
  obtain ⟨z1, z2, z3, z4⟩ := He.exc_ok (S.a.fact 110 rfl)
  exact ⟨⟨_, _, _, _, PySem.F.excBase_ValueError, z1⟩, (He.glo_ok X G (S.a.fact 70 rfl)), z2, z3, z4⟩
theorem ers_of (X : K.In h) (G : h.Ns mainGlobals mg) (S : SaysQ h K) : Ers P w K mg base (eaK K) := ⟨rz_BadMode X G S, rz_Barred X G S, rz_nothing X G S, rz_NoAct X G S, rz_NoHold X G S, rz_NoHolder X G S, rz_NoThing X G S⟩
theorem mk_of (X : K.In h) (G : h.Ns mainGlobals mg) (S : SaysQ h K) : MkD K mg "Yard" (He.ga K "Yard") "Yard.__init__" mInit := by
  obtain ⟨fd, D⟩ := S.a.def_ 58 (d := dI "Yard" "Yard.__init__" mInit) rfl
  exact ⟨_, fd, He.mkr_ok (S.a.fact 109 rfl), D, (He.glo_ok X G (S.a.fact 75 rfl))⟩
theorem may_of (X : K.In h) (G : h.Ns mainGlobals mg) (S : SaysQ h K) : DnA K mg "may" "may_holds" sMay := by
  obtain ⟨fd, D⟩ := S.a.def_ 42 (d := dG "may_holds" "may" sMay) rfl
  exact ⟨_, fd, D, (He.glo_ok X G (S.a.fact 65 rfl))⟩
theorem law_of {c Pt f : Addr} {fd : FuncData} (X : K.In h) (G : h.Ns mainGlobals mg) (S : SaysQ h K) (hS : SysB base) (TB : TabB base mg c Pt) (DF : FunD K "law" "law" (defArgs sLaw) (defBody sLaw) (defScope sLaw) [] [] f fd) (hc : fd.code = .ref c) : FnG P w K mg base 13 f fd ["_law_script"] (spLaw K Pt) := by
  have F := free_of X G S
  have N := nums_of X G S
  have Y := yc_of S
  have R := ers_of (P := P) (w := w) (base := base) X G S
  have cI := ok_isInteger (P := P) (w := w) (base := base) F (dn_of X G S 0 23 rfl rfl)
  have cRi := ok_isRising (P := P) (w := w) (base := base) F (dn_of X G S 1 24 rfl rfl)
  have cN := ok_areNumbers (P := P) (w := w) (base := base) F (dn_of X G S 2 25 rfl rfl) cI
  have cL := ok_isLot (P := P) (w := w) (base := base) F (dn_of X G S 3 26 rfl rfl) cN cRi
  have cPa := ok_arePairs (P := P) (w := w) (base := base) F (dn_of X G S 11 34 rfl rfl) cN cRi
  have cBo := ok_both (P := P) (w := w) (base := base) F (dn_of X G S 23 46 rfl rfl)
  have cWi := ok_isWithin (P := P) (w := w) (base := base) F (dn_of X G S 4 27 rfl rfl)
  have cRE := ok_rulesError (P := P) (w := w) (base := base) F N (dn_of X G S 12 35 rfl rfl) cI cPa
  have cBe := ok_areBeside (P := P) (w := w) (base := base) F (dn_of X G S 6 29 rfl rfl)
  have cAg := ok_against (P := P) (w := w) (base := base) F (dn_of X G S 7 30 rfl rfl) cBe
  have cMo := ok_isMode (P := P) (w := w) (base := base) F (dn_of X G S 5 28 rfl rfl) cL cWi
  have cJo := ok_joined (P := P) (w := w) (base := base) (dn_of X G S 10 33 rfl rfl) cBo
  have cBa := ok_bars (P := P) (w := w) (base := base) F (dn_of X G S 8 31 rfl rfl) cAg
  have cGo := ok_goes (P := P) (w := w) (base := base) (dn_of X G S 9 32 rfl rfl) cBa
  have cTE := ok_treeError (P := P) (w := w) (base := base) F N (dn_of X G S 13 36 rfl rfl) cI
  have cAr := ok_around (P := P) (w := w) (base := base) F (dn_of X G S 14 37 rfl rfl)
  have cIH := ok_isHold (P := P) (w := w) (base := base) F N (dn_of X G S 15 38 rfl rfl) cI cMo
  have cAH := ok_areHolds (P := P) (w := w) (base := base) F (dn_of X G S 16 39 rfl rfl) cIH cRi
  have cTO := ok_tableOf (P := P) (w := w) (base := base) (dn_of X G S 17 40 rfl rfl)
  have cLa := ok_lacking (P := P) (w := w) (base := base) F (dn_of X G S 18 41 rfl rfl) cTO cAr cWi
  have cPA := ok_pairsAt (P := P) (w := w) (base := base) (dn_of X G S 19 42 rfl rfl)
  have cFa := ok_fault (P := P) (w := w) (base := base) F (dn_of X G S 20 43 rfl rfl) cLa cPA cGo
  have cMay := ok_may (P := P) (w := w) (base := base) (may_of X G S) cAr cBo
  have cCA := ok_clashAt (P := P) (w := w) (base := base) (dn_of X G S 21 44 rfl rfl) cMay cBe
  have cCl := ok_clash (P := P) (w := w) (base := base) F N (dn_of X G S 22 45 rfl rfl) cCA
  have cHO := ok_holdsOf (P := P) (w := w) (base := base) F (dn_of X G S 24 47 rfl rfl)
  have cCh := ok_changes (P := P) (w := w) (base := base) F (dn_of X G S 25 48 rfl rfl)
  have pR := ok_mRules (P := P) (w := w) (base := base) (mg := mg) Y (pt_of S 59 20 rfl rfl)
  have pT := ok_mTree (P := P) (w := w) (base := base) (mg := mg) Y (pt_of S 60 21 rfl rfl)
  have pH := ok_mHolds (P := P) (w := w) (base := base) (mg := mg) Y (pt_of S 61 22 rfl rfl)
  have pV := ok_mVersion (P := P) (w := w) (base := base) F Y (pt_of S 62 23 rfl rfl)
  have mCD := ok_mCheckDeeds (P := P) (w := w) (base := base) F N Y (mt_of S 43 88 rfl rfl)
  have mCH := ok_mCheckHolder (P := P) (w := w) (base := base) F N Y R (mt_of S 44 89 rfl rfl) cI
  have mCT := ok_mCheckThing (P := P) (w := w) (base := base) F Y R (mt_of S 45 90 rfl rfl) pT cI
  have mCAc := ok_mCheckAct (P := P) (w := w) (base := base) Y R (mt_of S 46 91 rfl rfl) pR cI
  have mRa := ok_mRaised (P := P) (w := w) (base := base) Y (mt_of S 47 92 rfl rfl) pT cTO cAr cJo
  have mBa := ok_mBar (P := P) (w := w) (base := base) Y (mt_of S 48 93 rfl rfl) pR cGo
  have mGo := ok_mGoTo (P := P) (w := w) (base := base) F Y (mt_of S 49 94 rfl rfl) cCh
  have mGi := ok_mGive (P := P) (w := w) (base := base) Y R (mt_of S 50 95 rfl rfl) mRa mBa cTO cHO mGo
  have mAs := ok_mAsk (P := P) (w := w) (base := base) Y (mt_of S 51 96 rfl rfl) mCD mCH mCT mCAc mGi
  have mTa := ok_mTake (P := P) (w := w) (base := base) Y R (mt_of S 52 97 rfl rfl) pR cMo mCD mCH mCT mGi
  have mMa := ok_mMay (P := P) (w := w) (base := base) Y (mt_of S 55 100 rfl rfl) pT cMay mCH mCT
  have mCo := ok_mCould (P := P) (w := w) (base := base) Y (mt_of S 56 101 rfl rfl) mRa mBa mCH mCT mCAc
  have mLe := ok_mLeave (P := P) (w := w) (base := base) F Y R (mt_of S 53 98 rfl rfl) mCD mCH mGo
  have mUn := ok_mUndo (P := P) (w := w) (base := base) F Y R (mt_of S 54 99 rfl rfl) cCh
  have cY := ok_mInit (P := P) (w := w) (base := base) Y (mk_of X G S) cRE cTE
  have lB := ok_bag (P := P) (w := w) (base := base) F (dn_of X G S 26 49 rfl rfl)
  have lD := ok_draw (P := P) (w := w) (base := base) F (dn_of X G S 27 50 rfl rfl)
  have lP := ok_pick (P := P) (w := w) (base := base) F (dn_of X G S 28 51 rfl rfl) lD
  have lT := ok_treeL (P := P) (w := w) (base := base) F (dn_of X G S 31 54 rfl rfl) lD
  have lA := ok_aroundL (P := P) (w := w) (base := base) F (dn_of X G S 32 55 rfl rfl)
  have lO := ok_odd (P := P) (w := w) (base := base) (dn_of X G S 29 52 rfl rfl) lP
  have lM := ok_modeL (P := P) (w := w) (base := base) F (dn_of X G S 33 56 rfl rfl) lD
  have lDe := ok_deed (P := P) (w := w) (base := base) F (dn_of X G S 37 60 rfl rfl) lD lP lO lM
  have lRu := ok_rulesL (P := P) (w := w) (base := base) F (dn_of X G S 30 53 rfl rfl) lD
  have lRi := ok_rights (P := P) (w := w) (base := base) F (dn_of X G S 38 61 rfl rfl) lA
  have lS := ok_safe (P := P) (w := w) (base := base) F (dn_of X G S 39 62 rfl rfl) lRi
  have lTo := ok_told (P := P) (w := w) (base := base) F (tld_of X G S) (dn_of X G S 34 57 rfl rfl)
  have lDo := ok_do (P := P) (w := w) (base := base) (dn_of X G S 35 58 rfl rfl) mAs mTa mLe mUn
  have lDn := ok_done (P := P) (w := w) (base := base) (done_of X G S) (dn_of X G S 36 59 rfl rfl) lDo lTo
  have lR := ok_right (P := P) (w := w) (base := base) F hS (dn_of X G S 40 63 rfl rfl) pR pT pH cAH cFa cCl lD lRi cMay mMa lS
  exact ok_law F hS Y DF TB hc lB lD lRu lT cY mCo (mt_of S 57 102 rfl rfl) lDn pV lDe lR mMa
end
theorem lawG_of (w : World) (X : K.In h) (G : h.Ns mainGlobals mg) (S : SaysQ h K) {f : Addr} (hf : mg "law" = some (.ref f)) : LawG PySem.Challenge.rw_holdmodes_k40_whole_yards_are_fair w K 13 "_law_script" mg f h := by
  obtain ⟨fd, D⟩ := S.a.def_ 41 (d := dG "law" "law" sLaw) rfl
  have D : FunD K "law" "law" (defArgs sLaw) (defBody sLaw) (defScope sLaw) [] [] (He.ga K "law") fd := D
  have ef : f = He.ga K "law" := by
    have z := hf.symm.trans (He.glo_ok X G (S.a.fact 64 rfl))
    cases z
    rfl
  subst ef
  have hc : fd.code = .ref (He.cT K ("law", none)).1 := by
    obtain ⟨oc, od, dV, kV, doc, pm, an, cdv, ct, osl, rfl, lk, hcd, _, _⟩ := D.ex
    obtain ⟨c, rfl⟩ := He.codeIn_ref hcd
    have z := He.codeOf_eq (K := K) (p := ("law", none)) (c := c) lk rfl
    show PySem.Value.ref c = .ref (He.codeOf K ("law", none))
    rw [z]
  have bd := D.bindsA (ps := ["_law_script"]) fun _ _ _ _ _ _ us hl => match us, hl with | [_], _ => rfl
  exact ⟨fd, _, _, spLaw K (He.cT K ("law", none)).2, S.tab, S.out, PySem.W.codeHd_of_K X S.c, fun s u => bd s [u] rfl, fun H a ns z1 z2 => ⟨a, ns, rfl, z2, z1, fun _ => rfl⟩, fun base _ _ TB hS => law_of X G S hS TB D hc⟩
end
end HM
open PySem PySem.W PySem.Calls PyProof.Rows
theorem PySem.Challenge.cw_holdmodes_k40_whole_yards_are_fair_holds : PySem.Challenge.rw_holdmodes_k40_whole_yards_are_fair.Holds := by
  w_on; o_law
  refine HandSHeadRun.head_any (r := HM.rowR) (q := HM.viewQ) (H := HM.hookQ) (ob := HM.obQ) (M := 20000) (loose := HM.looseQ) (d := HandSHeadRun.topDef HM.rowR.prog 66) (kwd := []) HM.obQ_eq
    (by kernel_rfl) (fun s => by kernel_rfl) HM.runQ (by kernel_rfl) (by kernel_rfl) (by kernel_rfl) (by rfl) (by first | assumption | decide +kernel) (by decide +kernel) ⟨rfl, rfl, rfl, rfl, rfl, by decide +kernel⟩ ?hw ?hc
  case hw => w_witness2
  case hc =>
    refine HM.walk_g (l := PySem.Challenge.rw_holdmodes_k40_whole_yards_are_fair) (n := 63) (k := 13) (x := "_law_script") rfl (by decide) (by kernel_rfl) ⟨rfl, by decide, by decide⟩ (by decide +kernel) ?F
    intro w mg f h Z G hm
    obtain ⟨K, X, S⟩ := Z
    have hf : mg ("law" : PySem.Str) = some (.ref f) := by
      have z : (HandSHeadRun.topDef HM.rowR.prog 66).name = ("law" : PySem.Str) := by kernel_rfl
      rw [← z]
      exact hm
    exact ⟨K, X, HM.lawG_of w X G S hf⟩
