import PyProof.Rows.All
import Wide.All
import OpenK.AllK
import Wide.FinOn
import KE.KStateDown
import HandS.ForMost
import HandS.ForExc
import HandS.IsInst
import HandS.TupAny
import HandS.Zip
import HandS.Deep
import HandS.Style
import HandS.HeadHook1
import HandS.HeadHook2
import HandS.HeadHook4
import HandS.ExcField
import KE.KSuper
import KE.KExcPX
import HandS.TupMul
import KE.KRevSl
import HandS.DictComp
import HandS.SetFor
import HandS.GenList
import HandS.GenYield
import KE.GoesEnum
import KE.GoesMore
import HandS.OwnEq
import HandS.SortInts
import HandS.TryOnly
import KE.KFromBytes
import HandS.ExcSuper
import HandS.ExcInit
import HandS.Nested
import HandS.ExcIs
import HandS.ExcOwn
import HandS.WordsExc
import HandS.HotCalls
import KE.KExcIs
import HandS.ExcInitHot
import HandS.Zip0
import HandS.Hot
import HandS.Comp
import HandS.Iter
import HandS.TupLe
import HandS.Text
import HandS.Wide
import KE.SortData
import KE.DataMinMax
import KE.DataCmp
import HandS.Conv
import HandS.Head0
import HandS.Head1
import HandS.Head2
import HandS.HeadEnd
import HandS.HeadHook4
import PySem.Challenge.RW_sametones_k22_tone_rows_at_numbers
set_option Elab.async false
set_option linter.all false
set_option maxRecDepth 100000
set_option maxHeartbeats 4000000
namespace L3
open PySem PySem.Spec PyProof.Rows L2
abbrev FnC : Type := Option (Str × Str × Arguments × FuncBody × Scope × Addr × (List Str × Value × Value) × Addr)
def fnC (K : PySem.W.Frag) (cn : Str) : FnC := match K.lookup (He.ma K (He.ga K cn) "__init__") with
  | some ⟨_, _, .func fd, _⟩ => some (fd.name, fd.qualname, fd.params, fd.body, fd.scope, fd.globals, (fd.closure.map (·.1), fd.defaults, fd.kwdefaults), fd.builtins)
  | _ => none
structure DefC where
  cn : Str
  qual : Str
  params : Arguments
  body : List Stmt
  scope : Scope
def DefC.val (d : DefC) : FnC := some ("__init__", d.qual, d.params, .stmts d.body, d.scope, mainGlobals, (["__class__"], .none, .none), builtinsNs)
structure SaysY (fa : List He.Fa) (fn : List He.DefD) (ex : PySem.W.Frag → Bool) (fc : List DefC) (K : PySem.W.Frag) : Prop where
  d : He.SaysD fa fn K
  more : ex K = true
  c : fc.map (fun d => fnC K d.cn) = fc.map DefC.val
end L3
namespace L3
open PySem PySem.Spec PyProof.Rows L2
def top (i : Nat) : Stmt := PySem.Challenge.pw_sametones_k22_tone_rows_at_numbers.main.body.getD i (.Pass ⟨0, 0, 0, 0⟩)
def dd_law_open : He.DefD := ⟨("_law_open", none), "_law_open", "_law_open", defArgs (top 8), defBody (top 8), defScope (top 8), [], []⟩
def dd_law_pick : He.DefD := ⟨("_law_pick", none), "_law_pick", "_law_pick", defArgs (top 9), defBody (top 9), defScope (top 9), [], []⟩
def dd_law_sign : He.DefD := ⟨("_law_sign", none), "_law_sign", "_law_sign", defArgs (top 12), defBody (top 12), defScope (top 12), [], []⟩
def dd_law_great : He.DefD := ⟨("_law_great", none), "_law_great", "_law_great", defArgs (top 11), defBody (top 11), defScope (top 11), [], []⟩
def dd_law_item : He.DefD := ⟨("_law_item", none), "_law_item", "_law_item", defArgs (top 13), defBody (top 13), defScope (top 13), [], []⟩
def dd_law_square : He.DefD := ⟨("_law_square", none), "_law_square", "_law_square", defArgs (top 21), defBody (top 21), defScope (top 21), [], []⟩
def dd_law_of : He.DefD := ⟨("_law_of", none), "_law_of", "_law_of", defArgs (top 10), defBody (top 10), defScope (top 10), [], []⟩
def dd_law_copy : He.DefD := ⟨("_law_copy", none), "_law_copy", "_law_copy", defArgs (top 16), defBody (top 16), defScope (top 16), [], []⟩
def dd_inner : He.DefD := ⟨("inner", none), "inner", "inner", defArgs (top 1), defBody (top 1), defScope (top 1), [], []⟩
def dd_edge_row : He.DefD := ⟨("edge_row", none), "edge_row", "edge_row", defArgs (top 3), defBody (top 3), defScope (top 3), [], []⟩
def dd_characteristic : He.DefD := ⟨("characteristic", none), "characteristic", "characteristic", defArgs (top 4), defBody (top 4), defScope (top 4), [], []⟩
def dd_tone_row : He.DefD := ⟨("tone_row", none), "tone_row", "tone_row", defArgs (top 6), defBody (top 6), defScope (top 6), [], []⟩
def dd_law_mul : He.DefD := ⟨("_law_mul", none), "_law_mul", "_law_mul", defArgs (top 20), defBody (top 20), defScope (top 20), [], []⟩
def dd_law_known : He.DefD := ⟨("_law_known", none), "_law_known", "_law_known", defArgs (top 22), defBody (top 22), defScope (top 22), [], []⟩
def dd_law_is_int : He.DefD := ⟨("_law_is_int", none), "_law_is_int", "_law_is_int", defArgs (top 14), defBody (top 14), defScope (top 14), [], []⟩
def dd_law_numbers : He.DefD := ⟨("_law_numbers", none), "_law_numbers", "_law_numbers", defArgs (top 15), defBody (top 15), defScope (top 15), [], []⟩
def dd_law_at : He.DefD := ⟨("_law_at", none), "_law_at", "_law_at", defArgs (top 23), defBody (top 23), defScope (top 23), [], []⟩
def dd_law_det : He.DefD := ⟨("_law_det", none), "_law_det", "_law_det", defArgs (top 19), defBody (top 19), defScope (top 19), [], []⟩
def dd_law_right : He.DefD := ⟨("_law_right", none), "_law_right", "_law_right", defArgs (top 24), defBody (top 24), defScope (top 24), [], []⟩
def dd_law_flip : He.DefD := ⟨("_law_flip", none), "_law_flip", "_law_flip", defArgs (top 18), defBody (top 18), defScope (top 18), [], []⟩
def dd_law_tuples : He.DefD := ⟨("_law_tuples", none), "_law_tuples", "_law_tuples", defArgs (top 17), defBody (top 17), defScope (top 17), [], []⟩
def dd_law : He.DefD := ⟨("law", none), "law", "law", defArgs (top 25), defBody (top 25), defScope (top 25), [], []⟩
def fns : List He.DefD := [dd_law_open, dd_law_pick, dd_law_sign, dd_law_great, dd_law_item, dd_law_square, dd_law_of, dd_law_copy, dd_inner, dd_edge_row, dd_characteristic, dd_tone_row, dd_law_mul, dd_law_known, dd_law_is_int, dd_law_numbers, dd_law_at, dd_law_det, dd_law_right, dd_law_flip, dd_law_tuples, dd_law]
def fas : List He.Fa := [.free "len",
  .free "range",
  .free "isinstance",
  .free "int",
  .free "bool",
  .free "str",
  .free "list",
  .free "tuple",
  .free "dict",
  .free "all",
  .free "any",
  .free "sum",
  .free "enumerate",
  .free "zip",
  .free "max",
  .free "min",
  .free "abs",
  .free "sorted",
  .free "reversed",
  .free "set",
  .free "repr",
  .free "divmod",
  .glo "_law_open",
  .glo "_law_pick",
  .glo "_law_sign",
  .glo "_law_great",
  .glo "_law_item",
  .glo "_law_square",
  .glo "_law_of",
  .glo "_law_copy",
  .glo "inner",
  .glo "edge_row",
  .glo "characteristic",
  .glo "tone_row",
  .glo "_law_mul",
  .glo "_law_known",
  .glo "_law_is_int",
  .glo "_law_numbers",
  .glo "_law_at",
  .glo "_law_det",
  .glo "_law_right",
  .glo "_law_flip",
  .glo "_law_tuples",
  .glo "law"]
def exs (K : PySem.W.Frag) : Bool := true
abbrev RO : PySem.W.OpenRow := PySem.W.OpenLaw.row PySem.Challenge.rw_sametones_k22_tone_rows_at_numbers
abbrev hook : PySem.W.Hook := He.hookX 6 fas fns [] [] exs
def look (s : PySem.W.SharedT) : He.AlX := He.obsX 6 fas fns [] [] exs (HandSHeadRun.getT s)
theorem look_eq (s : PySem.W.SharedT) : look s = hook.obs s.abs := He.obsX_eq (HandSHeadRun.getT_eq s)
def loose0 : List Str := ["inner", "edge_row", "characteristic", "tone_row", "_law_open", "_law_pick", "_law_of", "_law_great", "_law_sign", "_law_item", "_law_is_int", "_law_numbers", "_law_copy", "_law_tuples", "_law_flip", "_law_det", "_law_mul", "_law_square", "_law_known", "_law_at", "_law_right"]
def looseN : List Str := loose0
theorem run0 (w : World) : HandSHeadRun.RunEq RO (PySem.W.view RO.prog [25]) hook look 40000 looseN (w.withFollow "special-get-raises" false) := by
  intro os
  kernel_rfl
theorem run1 (w : World) : HandSHeadRun.RunEq RO (PySem.W.view RO.prog [25]) hook look 40000 looseN (w.withFollow "special-get-raises" true) := by
  intro os
  kernel_rfl
theorem runs (w : World) : HandSHeadRun.RunEq RO (PySem.W.view RO.prog [25]) hook look 40000 looseN w := PySem.W.byRow2 "special-get-raises" (P := fun w => HandSHeadRun.RunEq RO (PySem.W.view RO.prog [25]) hook look 40000 looseN w) run0 run1 w
end L3
open PySem PySem.W PySem.Calls PyProof.Rows in
theorem L3.of_open (h : PySem.Challenge.rw_sametones_k22_tone_rows_at_numbers.row.wellSaid = true → PySem.Challenge.rw_sametones_k22_tone_rows_at_numbers.row.Holds) : PySem.Challenge.rw_sametones_k22_tone_rows_at_numbers.Holds := by
  w_on; o_law
  exact h (by assumption)
namespace L3
open PySem PySem.Spec PyProof.Rows L2

inductive D where
  | non | bl (b : Bool) | int (i : Int) | str (x : Str)
  | lst (xs : List D) | tup (xs : List D)
  | obj (cn : Str) (ns : List Str) (xs : List D)
  | frz (xs : List D)
  | dct (ks : List Key) (xs : List D)
  | exn (a dd : Addr) (cn : Str) (ns : List Str) (xs : List D)

mutual
inductive At (K : PySem.W.Frag) (G : Hp) : V → D → Prop
  | non : At K G .non .non
  | bl (b : Bool) : At K G (.bl b) (.bl b)
  | int (i : Int) : At K G (.int i) (.int i)
  | str (x : Str) : At K G (.str x) (.str x)
  | lst {a : Addr} {vs : List V} {ds : List D} : G a = some (.lst vs) → AtL K G vs ds → At K G (.ref a) (.lst ds)
  | tup {a : Addr} {vs : List V} {ds : List D} : SqT K G a vs → AtL K G vs ds → At K G (.ref a) (.tup ds)
  | obj {a dx : Addr} {cn : Str} {ns : List Str} {vs : List V} {ds : List D} : G a = some (.ins (He.ga K cn) dx (ns.zip vs)) → ns.length = vs.length → AtL K G vs ds → At K G (.ref a) (.obj cn ns ds)
  | frz {a : Addr} {vs : List V} {ds : List D} : SqL K G a vs → AtL K G vs ds → At K G (.ref a) (.frz ds)
  | dct {a : Addr} {ks : List Key} {vs : List V} {ds : List D} : G a = some (.dK (ks.zip vs)) → ks.length = vs.length → AtL K G vs ds → At K G (.ref a) (.dct ks ds)
  | exn {a dd : Addr} {cn : Str} {ns : List Str} {vs : List V} {ds : List D} : G dd = some (.xd (ns.zip vs)) → ns.length = vs.length → AtL K G vs ds → At K G (.ref a) (.exn a dd cn ns ds)
inductive AtL (K : PySem.W.Frag) (G : Hp) : List V → List D → Prop
  | nil : AtL K G [] []
  | cons {v : V} {vs : List V} {d : D} {ds : List D} : At K G v d → AtL K G vs ds → AtL K G (v :: vs) (d :: ds)
end

/-- what is known of a grows -/
def Sub (G G' : Hp) : Prop := ∀ a o, G a = some o → G' a = some o
theorem Sub.refl {G : Hp} : Sub G G := fun _ _ h => h
theorem Sub.trans {G G1 G2 : Hp} (x : Sub G G1) (y : Sub G1 G2) : Sub G G2 := fun a o h => y a o (x a o h)
theorem Sub.rd {G G' : Hp} (s : Sub G G') {a : Addr} {u : HO} (r : Rd G a u) : Rd G' a u := by
  rcases r with r | ⟨o, r⟩
  · exact .inl (s _ _ r)
  · exact .inr ⟨o, s _ _ r⟩
theorem Sub.sqL {K : PySem.W.Frag} {G G' : Hp} (s : Sub G G') {a : Addr} {vs : List V} (r : SqL K G a vs) : SqL K G' a vs := by
  rcases r with r | r
  · exact .inl (s.rd r)
  · exact .inr r
theorem Sub.sqT {K : PySem.W.Frag} {G G' : Hp} (s : Sub G G') {a : Addr} {vs : List V} (r : SqT K G a vs) : SqT K G' a vs := by
  rcases r with r | r
  · exact .inl (s.rd r)
  · exact .inr r
mutual
theorem At.mono {K : PySem.W.Frag} {G G' : Hp} (s : Sub G G') : ∀ {v : V} {d : D}, At K G v d → At K G' v d
  | _, _, .non => .non
  | _, _, .bl b => .bl b
  | _, _, .int i => .int i
  | _, _, .str x => .str x
  | _, _, .lst h t => .lst (s _ _ h) (AtL.mono s t)
  | _, _, .tup h t => .tup (s.sqT h) (AtL.mono s t)
  | _, _, .obj h n t => .obj (s _ _ h) n (AtL.mono s t)
  | _, _, .frz h t => .frz (s.sqL h) (AtL.mono s t)
  | _, _, .dct h n t => .dct (s _ _ h) n (AtL.mono s t)
  | _, _, .exn h n t => .exn (s _ _ h) n (AtL.mono s t)
theorem AtL.mono {K : PySem.W.Frag} {G G' : Hp} (s : Sub G G') : ∀ {vs : List V} {ds : List D}, AtL K G vs ds → AtL K G' vs ds
  | _, _, .nil => .nil
  | _, _, .cons h t => .cons (At.mono s h) (AtL.mono s t)
end
section
variable {K : PySem.W.Frag} {G : Hp}
theorem AtL.length : ∀ {vs : List V} {ds : List D}, AtL K G vs ds → vs.length = ds.length
  | _, _, .nil => rfl
  | _, _, .cons _ t => congrArg (· + 1) (AtL.length t)
theorem AtL.get : ∀ {vs : List V} {ds : List D} {i : Nat} {d : D}, AtL K G vs ds → ds[i]? = some d → ∃ v, vs[i]? = some v ∧ At K G v d
  | _, _, _, _, .nil, e => by simp at e
  | _, _, 0, _, .cons h _, e => by
    simp at e
    subst e
    exact ⟨_, rfl, h⟩
  | _, _, i + 1, d, .cons _ t, e => by
    obtain ⟨v, h1, h2⟩ := AtL.get (i := i) (d := d) t (by simpa using e)
    exact ⟨v, by simpa using h1, h2⟩
theorem AtL.append : ∀ {vs us : List V} {ds es : List D}, AtL K G vs ds → AtL K G us es → AtL K G (vs ++ us) (ds ++ es)
  | _, _, _, _, .nil, s => s
  | _, _, _, _, .cons h t, s => .cons h (AtL.append t s)
theorem AtL.set {v : V} {d : D} (h : At K G v d) : ∀ {vs : List V} {ds : List D} (i : Nat), AtL K G vs ds → AtL K G (vs.set i v) (ds.set i d)
  | _, _, _, .nil => .nil
  | _, _, 0, .cons _ t => .cons h t
  | _, _, i + 1, .cons q t => .cons q (AtL.set h i t)
theorem AtL.take : ∀ {vs : List V} {ds : List D} (n : Nat), AtL K G vs ds → AtL K G (vs.take n) (ds.take n)
  | _, _, 0, _ => .nil
  | _, _, _ + 1, .nil => .nil
  | _, _, n + 1, .cons h t => .cons h (AtL.take n t)
theorem AtL.drop : ∀ {vs : List V} {ds : List D} (n : Nat), AtL K G vs ds → AtL K G (vs.drop n) (ds.drop n)
  | _, _, 0, h => h
  | _, _, _ + 1, .nil => .nil
  | _, _, n + 1, .cons _ t => AtL.drop n t
theorem AtL.reverse {vs : List V} {ds : List D} (h : AtL K G vs ds) : AtL K G vs.reverse ds.reverse := by
  induction vs generalizing ds with
  | nil =>
    cases h
    exact .nil
  | cons v vs ih =>
    cases h with
    | cons h t =>
      rw [List.reverse_cons, List.reverse_cons]
      exact (ih t).append (.cons h .nil)
theorem AtL.rep {vs : List V} {ds : List D} (h : AtL K G vs ds) : ∀ k : Nat, AtL K G (List.replicate k vs).flatten (List.replicate k ds).flatten
  | 0 => .nil
  | k + 1 => by
    rw [List.replicate_succ, List.replicate_succ, List.flatten_cons, List.flatten_cons]
    exact h.append (AtL.rep h k)
theorem AtL.one {v : V} {d : D} (h : At K G v d) : AtL K G [v] [d] := .cons h .nil
end

/-- what an owned object holds -/
inductive Cn where
  | l (xs : List D)
  | d (kvs : List (Key × D))
  | o (cn : Str) (fs : List (Str × D))
/-- a slot: nothing known; a value that stands still; an object of our own -/
inductive E where
  | no
  | va (d : D)
  | ow (c : Cn)
abbrev En := List E
abbrev E.od (kvs : List (Key × D)) : E := .ow (.d kvs)
/-- an expression's result: a value that stands still; a new object; the object of a slot -/
inductive R where
  | va (d : D)
  | fr (c : Cn)
  | rf (i : Nat)
abbrev R.fl (xs : List D) : R := .fr (.l xs)

def AtKV (K : PySem.W.Frag) (G : Hp) : List (Key × V) → List (Key × D) → Prop := Paired fun (p : Key × V) (q : Key × D) => p.1 = q.1 ∧ At K G p.2 q.2
def AtF (K : PySem.W.Frag) (G : Hp) : List (Str × V) → List (Str × D) → Prop := Paired fun (p : Str × V) (q : Str × D) => p.1 = q.1 ∧ At K G p.2 q.2
/-- the object at l holds c -/
def AtC (K : PySem.W.Frag) (H G : Hp) (l : Addr) : Cn → Prop
  | .l xs => ∃ vs, H l = some (.lst vs) ∧ AtL K G vs xs
  | .d kvs => ∃ vs, H l = some (.dK vs) ∧ AtKV K G vs kvs
  | .o cn fs => ∃ dx vs, H l = some (.ins (He.ga K cn) dx vs) ∧ AtF K G vs fs
theorem AtF.mono {K : PySem.W.Frag} {G G' : Hp} (s : Sub G G') {vs : List (Str × V)} {ds : List (Str × D)} (h : AtF K G vs ds) : AtF K G' vs ds :=
  Paired.mapP h fun _ _ x => ⟨x.1, x.2.mono s⟩
theorem AtF.zip {K : PySem.W.Frag} {G : Hp} : ∀ {vs : List (Str × V)} {ds : List (Str × D)}, AtF K G vs ds → vs = (ds.map (·.1)).zip (vs.map (·.2)) ∧ AtL K G (vs.map (·.2)) (ds.map (·.2))
  | _, _, .nil => ⟨rfl, .nil⟩
  | _, _, .cons (a := (f, v)) (b := (g, d)) h t => by
    obtain ⟨e, a⟩ := h
    obtain ⟨e2, a2⟩ := AtF.zip t
    have e' : f = g := e
    subst e'
    exact ⟨by rw [List.map_cons, List.map_cons, List.zip_cons_cons, ← e2], .cons a a2⟩
theorem AtKV.zip {K : PySem.W.Frag} {G : Hp} : ∀ {vs : List (Key × V)} {ds : List (Key × D)}, AtKV K G vs ds → vs = (ds.map (·.1)).zip (vs.map (·.2)) ∧ AtL K G (vs.map (·.2)) (ds.map (·.2))
  | _, _, .nil => ⟨rfl, .nil⟩
  | _, _, .cons (a := (f, v)) (b := (g, d)) h t => by
    obtain ⟨e, a⟩ := h
    obtain ⟨e2, a2⟩ := AtKV.zip t
    have e' : f = g := e
    subst e'
    exact ⟨by rw [List.map_cons, List.map_cons, List.zip_cons_cons, ← e2], .cons a a2⟩
theorem AtKV.mono {K : PySem.W.Frag} {G G' : Hp} (s : Sub G G') {vs : List (Key × V)} {ds : List (Key × D)} (h : AtKV K G vs ds) : AtKV K G' vs ds :=
  Paired.mapP h fun _ _ x => ⟨x.1, x.2.mono s⟩
theorem AtC.mono {K : PySem.W.Frag} {H H' G G' : Hp} {l : Addr} (e : ∀ o, H l = some o → H' l = some o) (s : Sub G G') : ∀ {c : Cn}, AtC K H G l c → AtC K H' G' l c
  | .l _, ⟨vs, h, t⟩ => ⟨vs, e _ h, t.mono s⟩
  | .d _, ⟨vs, h, t⟩ => ⟨vs, e _ h, t.mono s⟩
  | .o _ _, ⟨dx, vs, h, t⟩ => ⟨dx, vs, e _ h, t.mono s⟩
theorem AtC.some {K : PySem.W.Frag} {H G : Hp} {l : Addr} : ∀ {c : Cn}, AtC K H G l c → H l ≠ none
  | .l _, ⟨_, h, _⟩ => by rw [h]; exact fun z => nomatch z
  | .d _, ⟨_, h, _⟩ => by rw [h]; exact fun z => nomatch z
  | .o _ _, ⟨_, _, h, _⟩ => by rw [h]; exact fun z => nomatch z

/-- the owned addresses -/
def Ad (σ : L2.St) (δ : En) (l : Addr) : Prop := ∃ (i : Nat) (c : Cn), δ[i]? = some (E.ow c) ∧ σ[i]? = some (some (V.ref l))
/-- the slots are as told -/
structure Rel (K : PySem.W.Frag) (σ : L2.St) (H G : Hp) (δ : En) : Prop where
  len : σ.length = δ.length
  sub : Sub G H
  va : ∀ (i : Nat) (d : D), δ[i]? = some (E.va d) → ∃ v, σ[i]? = some (some v) ∧ At K G v d
  ow : ∀ (i : Nat) (c : Cn), δ[i]? = some (E.ow c) → ∃ l, σ[i]? = some (some (V.ref l)) ∧ G l = none ∧ AtC K H G l c
  dj : ∀ (i j : Nat) (l : Addr) (c c' : Cn), δ[i]? = some (E.ow c) → δ[j]? = some (E.ow c') → σ[i]? = some (some (V.ref l)) → σ[j]? = some (some (V.ref l)) → i = j
/-- what may change: the addresses of A alone -/
structure Fr (A : Addr → Prop) (H G H' G' : Hp) : Prop where
  h : ∀ a o, ¬ A a → H a = some o → H' a = some o
  g : ∀ a o, G a = some o → G' a = some o
  n : ∀ a, ¬ A a → H a ≠ none → G' a = G a
  d : ∀ a, H a ≠ none → H' a ≠ none
theorem Fr.refl {A : Addr → Prop} {H G : Hp} : Fr A H G H G := ⟨fun _ _ _ h => h, fun _ _ h => h, fun _ _ _ => rfl, fun _ h => h⟩
theorem Fr.trans {A B : Addr → Prop} {H G H1 G1 H2 G2 : Hp} (x : Fr A H G H1 G1) (y : Fr B H1 G1 H2 G2) (hb : ∀ a, B a → A a ∨ H a = none) : Fr A H G H2 G2 where
  h := fun a o na e => y.h a o (fun z => (hb a z).elim na fun q => by rw [q] at e; cases e) (x.h a o na e)
  g := fun a o e => y.g a o (x.g a o e)
  n := fun a na e => (y.n a (fun z => (hb a z).elim na e) (x.d a e)).trans (x.n a na e)
  d := fun a e => y.d a (x.d a e)
theorem Fr.mono {A B : Addr → Prop} {H G H1 G1 : Hp} (x : Fr A H G H1 G1) (hb : ∀ a, A a → B a ∨ H a = none) : Fr B H G H1 G1 :=
  Fr.refl.trans x hb
theorem Fr.sub {A : Addr → Prop} {H G H1 G1 : Hp} (x : Fr A H G H1 G1) : Sub G G1 := x.g
theorem Fr.free {A : Addr → Prop} {H G H1 G1 : Hp} (x : Fr A H G H1 G1) {a : Addr} (h : H1 a = none) : H a = none := by
  cases e : H a with
  | none => rfl
  | some o => exact absurd h (x.d a (by rw [e]; exact fun z => nomatch z))
/-- no more is owned -/
def Le (δ' δ : En) : Prop := ∀ (i : Nat) (c : Cn), δ'[i]? = some (E.ow c) → ∃ c', δ[i]? = some (E.ow c')
theorem Le.refl {δ : En} : Le δ δ := fun _ c h => ⟨c, h⟩
theorem Le.trans {δ δ1 δ2 : En} (x : Le δ2 δ1) (y : Le δ1 δ) : Le δ2 δ := fun i c h => by
  obtain ⟨c1, h1⟩ := x i c h
  exact y i c1 h1
theorem Le.ad {δ' δ : En} (x : Le δ' δ) {σ : L2.St} {l : Addr} (h : Ad σ δ' l) : Ad σ δ l := by
  obtain ⟨i, c, h1, h2⟩ := h
  obtain ⟨c', h3⟩ := x i c h1
  exact ⟨i, c', h3, h2⟩
/-- an expression's result -/
def RR (K : PySem.W.Frag) (σ : L2.St) (H0 H G : Hp) : R → V → Prop
  | .va d, v => At K G v d
  | .fr c, v => ∃ l, v = .ref l ∧ H0 l = none ∧ G l = none ∧ AtC K H G l c
  | .rf i, v => σ[i]? = some (some v)
theorem Rel.there {K : PySem.W.Frag} {σ : L2.St} {H G : Hp} {δ : En} (x : Rel K σ H G δ) {l : Addr} (h : Ad σ δ l) : H l ≠ none := by
  obtain ⟨i, c, h1, h2⟩ := h
  obtain ⟨l', h3, _, h4⟩ := x.ow i c h1
  rw [h2] at h3
  cases h3
  exact h4.some
theorem Rel.gnone {K : PySem.W.Frag} {σ : L2.St} {H G : Hp} {δ : En} (x : Rel K σ H G δ) {l : Addr} (h : Ad σ δ l) : G l = none := by
  obtain ⟨i, c, h1, h2⟩ := h
  obtain ⟨l', h3, h4, _⟩ := x.ow i c h1
  rw [h2] at h3
  cases h3
  exact h4
/-- a result stands while others are made -/
theorem RR.on {K : PySem.W.Frag} {σ : L2.St} {H0 H G H' G' : Hp} {δ : En} {v : V} (L : Rel K σ H0 G0 δ) (h0 : Fr (Ad σ δ) H0 G0 H G) {δ1 : En} (le : Le δ1 δ) (f : Fr (Ad σ δ1) H G H' G') : ∀ {r : R}, RR K σ H0 H G r v → RR K σ H0 H' G' r v
  | .va d, h => At.mono f.sub h
  | .fr c, ⟨l, e, n, g, h⟩ => by
    have na : ¬ Ad σ δ1 l := fun z => L.there (le.ad z) n
    exact ⟨l, e, n, (f.n l na h.some).trans g, h.mono (fun o q => f.h l o na q) f.sub⟩
  | .rf i, h => h
theorem RR.base {K : PySem.W.Frag} {σ : L2.St} {H0 H1 H G : Hp} {v : V} (k : ∀ a, H1 a = none → H0 a = none) : ∀ {r : R}, RR K σ H1 H G r v → RR K σ H0 H G r v
  | .va d, h => h
  | .fr c, ⟨l, e, n, g, h⟩ => ⟨l, e, k l n, g, h⟩
  | .rf i, h => h

abbrev DT := En → (R → En → Prop) → Prop
abbrev DTT := En → (Bool → En → Prop) → Prop
abbrev DTA := En → (List R → En → Prop) → Prop
/-- t is sound for T: an expression -/
def Snd (K : PySem.W.Frag) (t : TE) (T : DT) : Prop := ∀ (σ : L2.St) (H G : Hp) (δ : En) (Q : VK) (Q3 : R → En → Prop), Rel K σ H G δ → T δ Q3 →
  (∀ r δ' v H' G', Rel K σ H' G' δ' → Fr (Ad σ δ) H G H' G' → Le δ' δ → RR K σ H H' G' r v → Q3 r δ' → Q v H') → t σ H Q
/-- a test -/
def SndT (K : PySem.W.Frag) (t : TT) (T : DTT) : Prop := ∀ (σ : L2.St) (H G : Hp) (δ : En) (Q : Bool → Hp → Prop) (Q3 : Bool → En → Prop), Rel K σ H G δ → T δ Q3 →
  (∀ b δ' H' G', Rel K σ H' G' δ' → Fr (Ad σ δ) H G H' G' → Le δ' δ → Q3 b δ' → Q b H') → t σ H Q
/-- the results of a list of expressions: new objects are apart -/
inductive RRs (K : PySem.W.Frag) (σ : L2.St) (H0 H G : Hp) : List R → List V → Prop
  | nil : RRs K σ H0 H G [] []
  | cons {r : R} {v : V} {rs : List R} {vs : List V} : RR K σ H0 H G r v → RRs K σ H0 H G rs vs → (∀ c, r = .fr c → ∀ (j : Nat) (c' : Cn), rs[j]? = some (.fr c') → vs[j]? ≠ some v) → RRs K σ H0 H G (r :: rs) (v :: vs)
def SndA (K : PySem.W.Frag) (t : TA) (T : DTA) : Prop := ∀ (σ : L2.St) (H G : Hp) (δ : En) (Q : List V → Hp → Prop) (Q3 : List R → En → Prop), Rel K σ H G δ → T δ Q3 →
  (∀ rs δ' vs H' G', Rel K σ H' G' δ' → Fr (Ad σ δ) H G H' G' → Le δ' δ → RRs K σ H H' G' rs vs → Q3 rs δ' → Q vs H') → t σ H Q
section
variable {K : PySem.W.Frag} {σ : L2.St} {H0 H1 H G : Hp}
theorem RRs.length : ∀ {rs : List R} {vs : List V}, RRs K σ H0 H G rs vs → vs.length = rs.length
  | _, _, .nil => rfl
  | _, _, .cons _ t _ => congrArg (· + 1) (RRs.length t)
theorem RRs.get : ∀ {rs : List R} {vs : List V} {i : Nat} {r : R}, RRs K σ H0 H G rs vs → rs[i]? = some r → ∃ v, vs[i]? = some v ∧ RR K σ H0 H G r v
  | _, _, _, _, .nil, e => by simp at e
  | _, _, 0, _, .cons h _ _, e => by
    simp at e
    subst e
    exact ⟨_, rfl, h⟩
  | _, _, i + 1, r, .cons _ t _, e => by
    obtain ⟨v, h1, h2⟩ := RRs.get (i := i) (r := r) t (by simpa using e)
    exact ⟨v, by simpa using h1, h2⟩
theorem RRs.apart : ∀ {rs : List R} {vs : List V} {i j : Nat} {c c' : Cn} {v : V}, RRs K σ H0 H G rs vs → rs[i]? = some (.fr c) → rs[j]? = some (.fr c') → vs[i]? = some v → vs[j]? = some v → i = j
  | _, _, _, _, _, _, _, .nil, e, _, _, _ => by simp at e
  | _, _, 0, 0, _, _, _, _, _, _, _, _ => rfl
  | _, _, 0, j + 1, _, c', v, .cons h t n, e, e', d, d' => by
    simp at e d e' d'
    subst e d
    exact absurd d' (n _ rfl j c' e')
  | _, _, i + 1, 0, c, _, v, .cons h t n, e, e', d, d' => by
    simp at e d e' d'
    subst e' d'
    exact absurd d (n _ rfl i c e)
  | _, _, i + 1, j + 1, c, c', v, .cons h t n, e, e', d, d' => by
    simp at e d e' d'
    exact congrArg (· + 1) (RRs.apart t e e' d d')
theorem RRs.base (k : ∀ a, H1 a = none → H0 a = none) : ∀ {rs : List R} {vs : List V}, RRs K σ H1 H G rs vs → RRs K σ H0 H G rs vs
  | _, _, .nil => .nil
  | _, _, .cons h t n => .cons (h.base k) (RRs.base k t) n
end
section
variable {K : PySem.W.Frag}
def tv (i : Nat) : DT := fun δ Q => match δ[i]? with
  | some (E.va d) => Q (.va d) δ
  | some (E.ow _) => Q (.rf i) δ
  | _ => False
theorem snd_var {i : Nat} : Snd K (tVar i) (tv i) := fun σ H G δ Q Q3 L h k => by
  unfold tv at h
  split at h
  · rename_i d e
    obtain ⟨v, h1, h2⟩ := L.va i d e
    exact ⟨v, h1, k (.va d) δ v H G L .refl .refl h2 h⟩
  · rename_i c e
    obtain ⟨l, h1, h2, h3⟩ := L.ow i c e
    exact ⟨.ref l, h1, k (.rf i) δ _ H G L .refl .refl h1 h⟩
  · exact h.elim
def tc (d : D) : DT := fun δ Q => Q (.va d) δ
theorem snd_c {v : V} {d : D} (h : ∀ G, At K G v d) : Snd K (tC v) (tc d) := fun σ H G δ Q Q3 L q k => k (.va d) δ v H G L .refl .refl (h G) q
theorem snd_int {i : Int} : Snd K (tC (.int i)) (tc (.int i)) := snd_c fun _ => .int i
theorem snd_bl {b : Bool} : Snd K (tC (.bl b)) (tc (.bl b)) := snd_c fun _ => .bl b
def ta0 : DTA := fun δ Q => Q [] δ
def tac (T : DT) (U : DTA) : DTA := fun δ Q => T δ fun r δ1 => U δ1 fun rs δ2 => Q (r :: rs) δ2
theorem snda_nil : SndA K tNil ta0 := fun σ H G δ Q Q3 L q k => k _ δ [] H G L .refl .refl .nil q
theorem snda_cons {t : TE} {u : TA} {T : DT} {U : DTA} (a : Snd K t T) (b : SndA K u U) : SndA K (tCons t u) (tac T U) := fun σ H G δ Q Q3 L q k => by
  refine a σ H G δ _ _ L q fun r δ1 v H1 G1 L1 f1 le1 rr q1 => ?_
  refine b σ H1 G1 δ1 _ _ L1 q1 fun rs δ2 vs H2 G2 L2 f2 le2 rrs q2 => ?_
  refine k _ δ2 _ H2 G2 L2 (f1.trans f2 fun a h => .inl (le1.ad h)) (le2.trans le1) (.cons (rr.on L f1 le1 f2) (rrs.base fun a h => f1.free h) fun c e j c' e' e2 => ?_) q2
  subst e
  obtain ⟨l, rfl, n, g, hc⟩ := rr
  obtain ⟨v', h1, l', h2, n', _⟩ := rrs.get e'
  rw [e2] at h1
  cases h1
  cases h2
  exact hc.some n'
end
end L3
namespace L3
open PySem PySem.Spec PyProof.Rows L2
theorem tuple_mulE (l : Addr) (n : Nat) (dd : Option Addr) (sl : Array (Option Value)) (x : Int) (u : Tok) (c0 : (decide (x < -(2 ^ 63)) || decide (x ≥ 2 ^ 63)) = false) :
    Meets (Builtin.«tuple.__mul__» ⟨[.ref l, .int x u], []⟩) (fun _ R s => s.heap.get? l = some { cls := .type "tuple", dict := dd, data := .seq #[] n, slots := sl } ∧ R (.ok (.ret (Value.ref l))) s) :=
  .of_wp fun prog w A R s h => by
    obtain ⟨hp, g, d, tk, os⟩ := s
    obtain ⟨hl, h⟩ := h
    have f1 := AutoSeq1.idx_int
    wp_walk using wpAny_loadPart' hl
    refine wpAny_ite_false (decide_eq_false (by rw [c0]; exact Bool.false_ne_true)) ?_
    wp_walk using wpAny_loadPart' hl
    exact ⟨_, rfl, h⟩
def rRepE (K : PySem.W.Frag) : R2 := fun x y H Q => ∃ l k, x = .ref l ∧ y = .int k ∧ SqT K H l [] ∧ -(2 ^ 63) ≤ k ∧ k < 2 ^ 63 ∧ Q (.ref l) H
theorem op_repE {X : Cx} : OpR X (binaryOp .Mult) (rRepE X.K) := by
  intro pins s σ H x y v u Q I rx ry h
  obtain ⟨l, k, rfl, rfl, hT, h1, h2, q⟩ := h
  cases rx
  obtain ⟨t, rfl⟩ := ry
  obtain ⟨its, r, ⟨⟨cls, dd, data, sl⟩, ho, hc, n, hd⟩, hs⟩ := I.tuple hT
  simp only at hc hd
  subst hc hd
  cases r
  have c0 : (decide (k < -(2 ^ 63)) || decide (k ≥ 2 ^ 63)) = false := by
    rw [decide_eq_false (by omega), decide_eq_false (by omega)] <;> rfl
  exact wpAny_binaryOp_repeat_ref (T := "tuple") (U := "int") (by decide) ⟨_, ho, rfl⟩ (fun s' => typeIs_int s' k t) noFill_tuple_mul F.fills_int_mul F.slot_int_rmul repeat_tuple F.slot_int_index.lookup
    (call_meets F.slot_int_rmul (typeIs_int s k t) F.entry_int_rmul (F.args_int_rmul_2 _ _) (int_rmul_tuple k t l _ n dd sl)
      ⟨ho, rfl, ⟨_, ho, rfl⟩, call_meets F.slot_tuple_mul ⟨_, ho, rfl⟩ F.entry_tuple_mul (F.args_tuple_mul_2 _ _) (tuple_mulE l n dd sl k t c0) ⟨ho, .ref l, H, I, rfl, q⟩⟩)
end L3
namespace L3
open PySem PySem.Spec PyProof.Rows L2

/-- the datum that a result shows -/
def Cn.dat : Cn → Option D
  | .l xs => some (.lst xs)
  | .d kvs => some (.dct (kvs.map (·.1)) (kvs.map (·.2)))
  | .o cn fs => some (.obj cn (fs.map (·.1)) (fs.map (·.2)))
def datE : Option E → Option D
  | some (.va d) => some d
  | some (.ow c) => c.dat
  | _ => none
def R.dat (δ : En) : R → Option D
  | .va d => some d
  | .fr c => c.dat
  | .rf i => datE δ[i]?
/-- v is d: its own object in H, the rest in G -/
def Sh (K : PySem.W.Frag) (H G : Hp) (v : V) : D → Prop
  | .non => v = .non
  | .bl b => v = .bl b
  | .int i => v = .int i
  | .str x => v = .str x
  | .lst ds => ∃ a vs, v = .ref a ∧ H a = some (.lst vs) ∧ AtL K G vs ds
  | .tup ds => ∃ a vs, v = .ref a ∧ SqT K G a vs ∧ AtL K G vs ds
  | .obj cn ns ds => ∃ a dx vs, v = .ref a ∧ H a = some (.ins (He.ga K cn) dx (ns.zip vs)) ∧ ns.length = vs.length ∧ AtL K G vs ds
  | .frz ds => ∃ a vs, v = .ref a ∧ SqL K G a vs ∧ AtL K G vs ds
  | .dct ks ds => ∃ a vs, v = .ref a ∧ H a = some (.dK (ks.zip vs)) ∧ ks.length = vs.length ∧ AtL K G vs ds
  | .exn a dd _ ns ds => ∃ vs, v = .ref a ∧ H dd = some (.xd (ns.zip vs)) ∧ ns.length = vs.length ∧ AtL K G vs ds
theorem Sh.of {K : PySem.W.Frag} {H G : Hp} {v : V} {d : D} (s : Sub G H) (h : At K G v d) : Sh K H G v d := by
  cases h with
  | non => rfl
  | bl b => rfl
  | int i => rfl
  | str x => rfl
  | lst h t => exact ⟨_, _, rfl, s _ _ h, t⟩
  | tup h t => exact ⟨_, _, rfl, h, t⟩
  | obj h n t => exact ⟨_, _, _, rfl, s _ _ h, n, t⟩
  | frz h t => exact ⟨_, _, rfl, h, t⟩
  | dct h n t => exact ⟨_, _, rfl, s _ _ h, n, t⟩
  | exn h n t => exact ⟨_, rfl, s _ _ h, n, t⟩
theorem sh_cn {K : PySem.W.Frag} {H G : Hp} {l : Addr} {c : Cn} {d : D} (h : AtC K H G l c) (e : c.dat = some d) : Sh K H G (.ref l) d := by
  cases c with
  | l xs =>
    cases e
    obtain ⟨vs, h1, h2⟩ := h
    exact ⟨l, vs, rfl, h1, h2⟩
  | d kvs =>
    cases e
    obtain ⟨vs, h1, h2⟩ := h
    obtain ⟨e1, h3⟩ := h2.zip
    refine ⟨l, vs.map (·.2), rfl, ?_, ?_, h3⟩
    · rw [← e1]
      exact h1
    · have := h3.length
      rw [List.length_map] at this ⊢
      rw [List.length_map] at this ⊢
      exact this.symm
  | o cn fs =>
    cases e
    obtain ⟨dx, vs, h1, h2⟩ := h
    obtain ⟨e1, h3⟩ := h2.zip
    refine ⟨l, dx, vs.map (·.2), rfl, ?_, ?_, h3⟩
    · rw [← e1]
      exact h1
    · have := h3.length
      rw [List.length_map] at this ⊢
      rw [List.length_map] at this ⊢
      exact this.symm
theorem sh_of {K : PySem.W.Frag} {σ : L2.St} {H0 H G : Hp} {δ : En} {r : R} {v : V} {d : D} (L : Rel K σ H G δ) (rr : RR K σ H0 H G r v) (e : r.dat δ = some d) : Sh K H G v d := by
  cases r with
  | va d' =>
    cases e
    exact Sh.of L.sub rr
  | fr c =>
    obtain ⟨l, rfl, _, g, h⟩ := rr
    exact sh_cn h e
  | rf i =>
    have e2 : datE δ[i]? = some d := e
    unfold datE at e2
    split at e2
    · rename_i d' q
      cases e2
      obtain ⟨v', h1, h2⟩ := L.va i _ q
      rw [show σ[i]? = some (some v) from rr] at h1
      cases h1
      exact Sh.of L.sub h2
    · rename_i c q
      obtain ⟨l, h1, _, h2⟩ := L.ow i _ q
      rw [show σ[i]? = some (some v) from rr] at h1
      cases h1
      exact sh_cn h2 e2
    · cases e2
/-- nothing changes but that more is there -/
abbrev Gr (H G H' G' : Hp) : Prop := Fr (fun _ => False) H G H' G'
theorem Rel.grow {K : PySem.W.Frag} {σ : L2.St} {H G H' G' : Hp} {δ : En} (L : Rel K σ H G δ) (f : Gr H G H' G') (s : Sub G' H') : Rel K σ H' G' δ where
  len := L.len
  sub := s
  va := fun i d e => by
    obtain ⟨v, h1, h2⟩ := L.va i d e
    exact ⟨v, h1, h2.mono f.sub⟩
  ow := fun i c e => by
    obtain ⟨l, h1, h2, h3⟩ := L.ow i c e
    exact ⟨l, h1, (f.n l (fun z => z) h3.some).trans h2, h3.mono (fun o q => f.h l o (fun z => z) q) f.sub⟩
  dj := L.dj
theorem Gr.fr {A : Addr → Prop} {H G H' G' : Hp} (f : Gr H G H' G') : Fr A H G H' G' := f.mono fun _ z => z.elim
/-- a new object that is not yet part of what stands still -/
theorem gr_new {H G : Hp} {p : Addr} {o : HO} (s : Sub G H) (n : H p = none) : Gr H G (upd H p o) G ∧ Sub G (upd H p o) := by
  have ne : ∀ a u, H a = some u → a ≠ p := fun a u h z => by rw [z, n] at h; cases h
  refine ⟨⟨fun a u _ h => by rw [upd_ne (ne a u h)]; exact h, fun _ _ h => h, fun _ _ _ => rfl, fun a h => ?_⟩, fun a u h => by rw [upd_ne (ne a u (s a u h))]; exact s a u h⟩
  unfold upd
  split
  · exact fun z => nomatch z
  · exact h
/-- a new object that stands still from now on -/
theorem gr_keep {H G : Hp} {p : Addr} {o : HO} (s : Sub G H) (n : H p = none) : Gr H G (upd H p o) (upd G p o) ∧ Sub (upd G p o) (upd H p o) := by
  have ne : ∀ a u, H a = some u → a ≠ p := fun a u h z => by rw [z, n] at h; cases h
  refine ⟨⟨fun a u _ h => by rw [upd_ne (ne a u h)]; exact h, fun a u h => by rw [upd_ne (ne a u (s a u h))]; exact h, fun a _ h => ?_, fun a h => ?_⟩, fun a u h => ?_⟩
  · have : a ≠ p := fun z => h (by rw [z]; exact n)
    rw [upd_ne this]
  · unfold upd
    split
    · exact fun z => nomatch z
    · exact h
  · by_cases z : a = p
    · subst z
      rw [upd_same] at h ⊢
      exact h
    · rw [upd_ne z] at h ⊢
      exact s a u h
theorem g_none {H G : Hp} {p : Addr} (s : Sub G H) (n : H p = none) : G p = none := by
  cases e : G p with
  | none => rfl
  | some o =>
    rw [s p o e] at n
    cases n

/-- the end of an operation: its result r is v in a greater heap -/
def End (K : PySem.W.Frag) (H G : Hp) (Q : VK) (Q3 : R → Prop) : Prop := ∀ r v H' G', Gr H G H' G' → Sub G' H' → RR K [] H H' G' r v → (∀ i, r ≠ .rf i) → Q3 r → Q v H'
theorem End.va {K : PySem.W.Frag} {H G : Hp} {Q : VK} {Q3 : R → Prop} (k : End K H G Q Q3) (s : Sub G H) {v : V} {d : D} (h : At K G v d) (q : Q3 (.va d)) : Q v H :=
  k (.va d) v H G .refl s h (fun _ z => nomatch z) q
theorem End.list {K : PySem.W.Frag} {H G : Hp} {Q : VK} {Q3 : R → Prop} (k : End K H G Q Q3) (s : Sub G H) {vs : List V} {ds : List D} (h : AtL K G vs ds) (q : Q3 (.fr (.l ds))) : ∀ p, H p = none → Q (.ref p) (upd H p (.lst vs)) := fun p n => by
  obtain ⟨f, s'⟩ := gr_new (G := G) (o := .lst vs) s n
  exact k (.fr (.l ds)) (.ref p) _ G f s' ⟨p, rfl, n, g_none s n, vs, upd_same, h⟩ (fun _ z => nomatch z) q
theorem End.tuple {K : PySem.W.Frag} {H G : Hp} {Q : VK} {Q3 : R → Prop} (k : End K H G Q Q3) (s : Sub G H) {vs : List V} {ds : List D} (h : AtL K G vs ds) (q : Q3 (.va (.tup ds))) : ∀ p, H p = none → Q (.ref p) (upd H p (.tup vs)) := fun p n => by
  obtain ⟨f, s'⟩ := gr_keep (G := G) (o := .tup vs) s n
  exact k (.va (.tup ds)) (.ref p) _ _ f s' (At.tup (SqT.of upd_same) (h.mono f.sub)) (fun _ z => nomatch z) q
/-- an operation of two values -/
def Snd2 (K : PySem.W.Frag) (r : R2) (F : D → D → (R → Prop) → Prop) : Prop := ∀ (H G : Hp) (x y : V) (d e : D) (Q : VK) (Q3 : R → Prop), Sub G H → Sh K H G x d → Sh K H G y e → F d e Q3 → End K H G Q Q3 → r x y H Q
theorem RR.grow {K : PySem.W.Frag} {σ : L2.St} {H0 H H' G' : Hp} {r : R} {v : V} (nr : ∀ i, r ≠ .rf i) (h : RR K [] H H' G' r v) (k : ∀ a, H a = none → H0 a = none) : RR K σ H0 H' G' r v := by
  cases r with
  | va d => exact h
  | fr c =>
    obtain ⟨l, e, n, g, q⟩ := h
    exact ⟨l, e, k l n, g, q⟩
  | rf i => exact absurd rfl (nr i)
theorem Sh.on {K : PySem.W.Frag} {σ : L2.St} {H0 G0 H G H' G' : Hp} {v : V} {δ δ1 δ' : En} {r : R} {d : D} (L0 : Rel K σ H0 G0 δ) (f0 : Fr (Ad σ δ) H0 G0 H G) (le : Le δ1 δ) (f : Fr (Ad σ δ1) H G H' G') (L : Rel K σ H' G' δ') (rr : RR K σ H0 H G r v) (e : r.dat δ' = some d) : Sh K H' G' v d :=
  sh_of L (rr.on L0 f0 le f) e
def tb2 (F : D → D → (R → Prop) → Prop) (Ta Tb : DT) : DT := fun δ Q => Ta δ fun x δ1 => Tb δ1 fun y δ2 => ∃ d e, x.dat δ2 = some d ∧ y.dat δ2 = some e ∧ F d e fun r => Q r δ2
section
variable {K : PySem.W.Frag} {ta tb : TE} {Ta Tb : DT}
theorem snd_op {r : R2} {F : D → D → (R → Prop) → Prop} (hr : Snd2 K r F) (ha : Snd K ta Ta) (hb : Snd K tb Tb) : Snd K (tOp r ta tb) (tb2 F Ta Tb) := fun σ H G δ Q Q3 L h k => by
  refine ha σ H G δ _ _ L h fun x δ1 v H1 G1 L1 f1 le1 rx h1 => ?_
  refine hb σ H1 G1 δ1 _ _ L1 h1 fun y δ2 u H2 G2 L2 f2 le2 ry h2 => ?_
  obtain ⟨d, e, ed, ee, hF⟩ := h2
  refine hr H2 G2 v u d e _ _ L2.sub (Sh.on L f1 le1 f2 L2 rx ed) (sh_of L2 ry ee) hF fun r' z H3 G3 f3 s3 rz nr q3 => ?_
  have f12 : Fr (Ad σ δ) H G H2 G2 := f1.trans f2 fun a h => .inl (le1.ad h)
  exact k r' δ2 z H3 G3 (L2.grow f3 s3) (f12.trans f3 fun _ z => z.elim) (le2.trans le1) (rz.grow nr fun a h => f12.free h) q3
/-- an operation of one value -/
def Snd1 (K : PySem.W.Frag) (r : V → Hp → VK → Prop) (F : D → (R → Prop) → Prop) : Prop := ∀ (H G : Hp) (x : V) (d : D) (Q : VK) (Q3 : R → Prop), Sub G H → Sh K H G x d → F d Q3 → End K H G Q Q3 → r x H Q
def tb1 (F : D → (R → Prop) → Prop) (Ta : DT) : DT := fun δ Q => Ta δ fun x δ1 => ∃ d, x.dat δ1 = some d ∧ F d fun r => Q r δ1
theorem snd_un {r : V → Hp → VK → Prop} {F : D → (R → Prop) → Prop} (hr : Snd1 K r F) (ha : Snd K ta Ta) : Snd K (tUn r ta) (tb1 F Ta) := fun σ H G δ Q Q3 L h k => by
  refine ha σ H G δ _ _ L h fun x δ1 v H1 G1 L1 f1 le1 rx h1 => ?_
  obtain ⟨d, ed, hF⟩ := h1
  refine hr H1 G1 v d _ _ L1.sub (sh_of L1 rx ed) hF fun r' z H3 G3 f3 s3 rz nr q3 => ?_
  exact k r' δ1 z H3 G3 (L1.grow f3 s3) (f1.trans f3 fun _ z => z.elim) le1 (rz.grow nr fun a h => f1.free h) q3

def rPlus (K : PySem.W.Frag) : R2 := fun x y H Q => rI0 (fun i j => .int (i + j)) x y H Q ∨ (∃ i j, x = .str i ∧ y = .str j ∧ i.length + j.length ≤ sizeLine ∧ Q (.str (i ++ j)) H) ∨ rCat x y H Q ∨ rCatA K x y H Q
theorem op_plus {X : Cx} : OpR X (binaryOp .Add) (rPlus X.K) := op_add.or (op_add_str.or (op_cat.or op_catA))
def plusF : D → D → (R → Prop) → Prop
  | .int i, .int j, Q => Q (.va (.int (i + j)))
  | .str a, .str b, Q => a.length + b.length ≤ sizeLine ∧ Q (.va (.str (a ++ b)))
  | .lst a, .lst b, Q => a.length + b.length ≤ sizeLine ∧ Q (.fr (.l (a ++ b)))
  | .tup a, .tup b, Q => a.length + b.length ≤ sizeLine ∧ Q (.va (.tup (a ++ b)))
  | _, _, _ => False
theorem snd_plus : Snd2 K (rPlus K) plusF := fun H G x y d e Q Q3 s hx hy hF k => by
  unfold plusF at hF
  split at hF
  · obtain rfl := hx
    obtain rfl := hy
    exact .inl ⟨_, _, rfl, rfl, k.va s (.int _) hF⟩
  · obtain rfl := hx
    obtain rfl := hy
    exact .inr (.inl ⟨_, _, rfl, rfl, hF.1, k.va s (.str _) hF.2⟩)
  · obtain ⟨a, vs, rfl, h1, t1⟩ := hx
    obtain ⟨b, us, rfl, h2, t2⟩ := hy
    exact .inr (.inr (.inl ⟨a, b, vs, us, rfl, rfl, h1, h2, by rw [t1.length, t2.length]; exact hF.1, k.list s (t1.append t2) hF.2⟩))
  · obtain ⟨a, vs, rfl, h1, t1⟩ := hx
    obtain ⟨b, us, rfl, h2, t2⟩ := hy
    rename_i xs ys
    refine .inr (.inr (.inr ⟨a, b, vs, us, rfl, rfl, s.sqT h1, s.sqT h2, by rw [t1.length, t2.length]; exact hF.1, fun e => ?_, fun _ e => ?_, fun _ _ => k.tuple s (t1.append t2) hF.2⟩))
    · subst e
      cases t1
      exact k.va s (At.tup h2 t2) hF.2
    · subst e
      cases t2
      have := hF.2
      rw [List.append_nil] at this
      exact k.va s (At.tup h1 t1) this
  · exact hF.elim
def minusF : D → D → (R → Prop) → Prop
  | .int i, .int j, Q => Q (.va (.int (i - j)))
  | _, _, _ => False
theorem snd_minus : Snd2 K (rI0 fun i j => .int (i - j)) minusF := fun H G x y d e Q Q3 s hx hy hF k => by
  unfold minusF at hF
  split at hF
  · obtain rfl := hx
    obtain rfl := hy
    exact ⟨_, _, rfl, rfl, k.va s (.int _) hF⟩
  · exact hF.elim
def rTimes (K : PySem.W.Frag) : R2 := fun x y H Q => rI CMul (fun i j => .int (i * j)) x y H Q ∨ rRep x y H Q ∨ rRepT K x y H Q ∨ rRepE K x y H Q
theorem op_times {X : Cx} : OpR X (binaryOp .Mult) (rTimes X.K) := op_mul.or (op_rep.or (op_repT.or op_repE))
def timesF : D → D → (R → Prop) → Prop
  | .int i, .int j, Q => CMul i j ∧ Q (.va (.int (i * j)))
  | .lst a, .int k, Q => (-(2 ^ 63) ≤ k ∧ k < 2 ^ 63 ∧ a.length * k.toNat ≤ sizeLine) ∧ Q (.fr (.l (List.replicate k.toNat a).flatten))
  | .tup a, .int k, Q => (2 ≤ k ∧ k ≤ 1000 ∧ a.length ≤ 1000) ∧ Q (.va (.tup (List.replicate k.toNat a).flatten))
  | _, _, _ => False
theorem snd_times : Snd2 K (rTimes K) timesF := fun H G x y d e Q Q3 s hx hy hF k => by
  unfold timesF at hF
  split at hF
  · obtain rfl := hx
    obtain rfl := hy
    exact .inl ⟨_, _, rfl, rfl, hF.1, k.va s (.int _) hF.2⟩
  · obtain ⟨a, vs, rfl, h1, t1⟩ := hx
    obtain rfl := hy
    obtain ⟨⟨c1, c2, c3⟩, q⟩ := hF
    exact .inr (.inl ⟨a, _, vs, rfl, rfl, h1, c1, c2, by rw [t1.length]; exact c3, k.list s (t1.rep _) q⟩)
  · obtain ⟨a, vs, rfl, h1, t1⟩ := hx
    obtain rfl := hy
    obtain ⟨⟨c1, c2, c3⟩, q⟩ := hF
    cases t1 with
    | nil =>
      refine .inr (.inr (.inr ⟨a, _, rfl, rfl, s.sqT h1, by omega, by omega, k.va s (At.tup h1 .nil) ?_⟩))
      have : ∀ m : Nat, (List.replicate m ([] : List D)).flatten = [] := fun m => by simp
      rw [this] at q
      exact q
    | cons x y => exact .inr (.inr (.inl ⟨a, _, _, rfl, rfl, s.sqT h1, (fun z => nomatch z), c1, c2, by rw [(AtL.cons x y).length]; exact c3, k.tuple s ((AtL.cons x y).rep _) q⟩))
  · exact hF.elim
def fdivF : D → D → (R → Prop) → Prop
  | .int i, .int j, Q => CDiv i j ∧ Q (.va (.int (i / j)))
  | _, _, _ => False
theorem snd_fdiv : Snd2 K (rI CDiv fun i j => .int (i / j)) fdivF := fun H G x y d e Q Q3 s hx hy hF k => by
  unfold fdivF at hF
  split at hF
  · obtain rfl := hx
    obtain rfl := hy
    exact ⟨_, _, rfl, rfl, hF.1, k.va s (.int _) hF.2⟩
  · exact hF.elim
def modF : D → D → (R → Prop) → Prop
  | .int i, .int j, Q => 0 < j ∧ Q (.va (.int (i % j)))
  | _, _, _ => False
theorem snd_mod : Snd2 K (rI (fun _ j => 0 < j) fun i j => .int (i % j)) modF := fun H G x y d e Q Q3 s hx hy hF k => by
  unfold modF at hF
  split at hF
  · obtain rfl := hx
    obtain rfl := hy
    exact ⟨_, _, rfl, rfl, hF.1, k.va s (.int _) hF.2⟩
  · exact hF.elim
def powF : D → D → (R → Prop) → Prop
  | .int i, .int j, Q => CPow i j ∧ Q (.va (.int (i ^ j.toNat)))
  | _, _, _ => False
theorem snd_pow : Snd2 K (rI CPow fun i j => .int (i ^ j.toNat)) powF := fun H G x y d e Q Q3 s hx hy hF k => by
  unfold powF at hF
  split at hF
  · obtain rfl := hx
    obtain rfl := hy
    exact ⟨_, _, rfl, rfl, hF.1, k.va s (.int _) hF.2⟩
  · exact hF.elim
def negF : D → (R → Prop) → Prop
  | .int i, Q => Q (.va (.int (-i)))
  | _, _ => False
theorem snd_neg : Snd1 K (rU fun i => .int (-i)) negF := fun H G x d Q Q3 s hx hF k => by
  unfold negF at hF
  split at hF
  · obtain rfl := hx
    exact ⟨_, rfl, k.va s (.int _) hF⟩
  · exact hF.elim

def bF (F : D → D → (Bool → Prop) → Prop) : D → D → (R → Prop) → Prop := fun d e Q => F d e fun b => Q (.va (.bl b))
def iF (p : Int → Int → Bool) : D → D → (Bool → Prop) → Prop
  | .int i, .int j, Q => Q (p i j)
  | _, _, _ => False
theorem snd_icmp {p : Int → Int → Bool} : Snd2 K (rI0 fun i j => .bl (p i j)) (bF (iF p)) := fun H G x y d e Q Q3 s hx hy hF k => by
  unfold bF iF at hF
  split at hF
  · obtain rfl := hx
    obtain rfl := hy
    exact ⟨_, _, rfl, rfl, k.va s (.bl _) hF⟩
  · exact hF.elim
mutual
def D.py : D → Option PyData
  | .non => some .none
  | .bl b => some (.bool b)
  | .int i => some (.int i)
  | .str x => some (.str x)
  | .lst xs => (D.pys xs).map .list
  | .tup xs => (D.pys xs).map .tuple
  | .obj _ _ _ => none
  | .frz xs => (D.pys xs).map .list
  | .dct _ _ => none
  | .exn _ _ _ _ _ => none
def D.pys : List D → Option (List PyData)
  | [] => some []
  | d :: ds => (D.py d).bind fun p => (D.pys ds).map fun ps => p :: ps
end
mutual
theorem At.dp {G H : Hp} (s : Sub G H) : ∀ {v : V} {d : D} {p : PyData}, At K G v d → d.py = some p → Dp K H v p
  | _, _, _, .non, e => by
    rw [D.py] at e
    cases e
    exact .non
  | _, _, _, .bl b, e => by
    rw [D.py] at e
    cases e
    exact .bl b
  | _, _, _, .int i, e => by
    rw [D.py] at e
    cases e
    exact .int i
  | _, _, _, .str x, e => by
    rw [D.py] at e
    cases e
    exact .str x
  | _, _, _, .lst h t, e => by
    rw [D.py] at e
    obtain ⟨ps, e1, rfl⟩ := Option.map_eq_some_iff.mp e
    exact .lst (SqL.of (s _ _ h)) (AtL.dp s t e1)
  | _, _, _, .tup h t, e => by
    rw [D.py] at e
    obtain ⟨ps, e1, rfl⟩ := Option.map_eq_some_iff.mp e
    exact .tup (s.sqT h) (AtL.dp s t e1)
  | _, _, _, .obj _ _ _, e => by
    rw [D.py] at e
    cases e
  | _, _, _, .frz h t, e => by
    rw [D.py] at e
    obtain ⟨ps, e1, rfl⟩ := Option.map_eq_some_iff.mp e
    exact .lst (s.sqL h) (AtL.dp s t e1)
  | _, _, _, .dct _ _ _, e => by
    rw [D.py] at e
    cases e
  | _, _, _, .exn _ _ _, e => by
    rw [D.py] at e
    cases e
theorem AtL.dp {G H : Hp} (s : Sub G H) : ∀ {vs : List V} {ds : List D} {ps : List PyData}, AtL K G vs ds → D.pys ds = some ps → DpAll K H vs ps
  | _, _, _, .nil, e => by
    rw [D.pys] at e
    cases e
    exact .nil
  | _, _, _, .cons h t, e => by
    rw [D.pys] at e
    obtain ⟨p, e1, e2⟩ := Option.bind_eq_some_iff.mp e
    obtain ⟨ps, e3, rfl⟩ := Option.map_eq_some_iff.mp e2
    exact .cons (At.dp s h e1) (AtL.dp s t e3)
end
theorem Sh.dp {G H : Hp} (s : Sub G H) {v : V} {d : D} {p : PyData} (h : Sh K H G v d) (e : d.py = some p) : Dp K H v p := by
  cases d with
  | non =>
    obtain rfl := h
    exact At.dp (G := G) s .non e
  | bl b =>
    obtain rfl := h
    exact At.dp (G := G) s (.bl b) e
  | int i =>
    obtain rfl := h
    exact At.dp (G := G) s (.int i) e
  | str x =>
    obtain rfl := h
    exact At.dp (G := G) s (.str x) e
  | lst ds =>
    obtain ⟨a, vs, rfl, h1, t⟩ := h
    rw [D.py] at e
    obtain ⟨ps, e1, rfl⟩ := Option.map_eq_some_iff.mp e
    exact .lst (SqL.of h1) (AtL.dp s t e1)
  | tup ds =>
    obtain ⟨a, vs, rfl, h1, t⟩ := h
    exact At.dp s (At.tup h1 t) e
  | obj cn ns ds =>
    rw [D.py] at e
    cases e
  | frz ds =>
    obtain ⟨a, vs, rfl, h1, t⟩ := h
    exact At.dp s (At.frz h1 t) e
  | dct ks ds =>
    rw [D.py] at e
    cases e
  | exn _ _ _ _ _ =>
    rw [D.py] at e
    cases e
def rEqE (K : PySem.W.Frag) : R2 := fun x y H Q => rEqD K x y H Q ∨ rEqDA x y H Q
def rNeE (K : PySem.W.Frag) : R2 := fun x y H Q => rNeD K x y H Q ∨ rNeDA x y H Q
theorem op_eqE {X : Cx} (hu : X.A.units + 64 < cLine) : OpR X (compareOp .Eq) (rEqE X.K) := (op_eqD hu).or (op_eq_dictA (by omega))
theorem op_neE {X : Cx} (hu : X.A.units + 64 < cLine) : OpR X (compareOp .NotEq) (rNeE X.K) := (op_neD hu).or (op_ne_dictA (by omega))
/-- == of data; of empty dicts -/
def eqF : D → D → (Bool → Prop) → Prop := fun d e Q => (∃ p q, d.py = some p ∧ e.py = some q ∧ SeqAt.shaped p = true ∧ SeqAt.shaped q = true ∧ Q (PyData.eqv p q)) ∨ (d = .dct [] [] ∧ e = .dct [] [] ∧ Q true)
theorem dct0 {H G : Hp} {x : V} (h : Sh K H G x (.dct [] [])) : ∃ a, x = .ref a ∧ H a = some (.dK []) := by
  obtain ⟨a, vs, rfl, h1, h2, h3⟩ := h
  cases h3
  exact ⟨a, rfl, h1⟩
theorem snd_eq : Snd2 K (rEqE K) (bF eqF) := fun H G x y d e Q Q3 s hx hy hF k => by
  rcases hF with ⟨p, q, e1, e2, s1, s2, hq⟩ | ⟨rfl, rfl, hq⟩
  · exact .inl ⟨p, q, hx.dp s e1, hy.dp s e2, s1, s2, k.va s (.bl _) hq⟩
  · obtain ⟨a, rfl, h1⟩ := dct0 hx
    obtain ⟨b, rfl, h2⟩ := dct0 hy
    exact .inr ⟨a, b, [], [], rfl, rfl, h1, h2, rfl, (fun _ z => nomatch z), k.va s (.bl _) hq⟩
def neF : D → D → (Bool → Prop) → Prop := fun d e Q => eqF d e fun b => Q (!b)
theorem snd_ne : Snd2 K (rNeE K) (bF neF) := fun H G x y d e Q Q3 s hx hy hF k => by
  rcases hF with ⟨p, q, e1, e2, s1, s2, hq⟩ | ⟨rfl, rfl, hq⟩
  · exact .inl ⟨p, q, hx.dp s e1, hy.dp s e2, s1, s2, k.va s (.bl _) hq⟩
  · obtain ⟨a, rfl, h1⟩ := dct0 hx
    obtain ⟨b, rfl, h2⟩ := dct0 hy
    exact .inr ⟨a, b, [], [], rfl, rfl, h1, h2, rfl, (fun _ z => nomatch z), k.va s (.bl _) hq⟩
/-- is None -/
def isNone : D → Bool
  | .non => true
  | _ => false
theorem Sh.none {G H : Hp} {v : V} : ∀ {d : D}, Sh K H G v d → decide (v = .non) = isNone d
  | .non, h => by
    obtain rfl := h
    rfl
  | .bl b, h => by
    obtain rfl := h
    rfl
  | .int i, h => by
    obtain rfl := h
    rfl
  | .str x, h => by
    obtain rfl := h
    rfl
  | .lst ds, ⟨_, _, h, _⟩ => by
    obtain rfl := h
    rfl
  | .tup ds, ⟨_, _, h, _⟩ => by
    obtain rfl := h
    rfl
  | .obj _ _ ds, ⟨_, _, _, h, _⟩ => by
    obtain rfl := h
    rfl
  | .frz ds, ⟨_, _, h, _⟩ => by
    obtain rfl := h
    rfl
  | .dct ks ds, ⟨_, _, h, _⟩ => by
    obtain rfl := h
    rfl
  | .exn _ _ _ _ _, ⟨_, h, _⟩ => by
    obtain rfl := h
    rfl
end
end L3
namespace L3
open PySem PySem.Spec PyProof.Rows L2
section
variable {K : PySem.W.Frag}
def tt (T : DT) : DTT := fun δ Q => T δ fun r δ1 => ∃ b, r = .va (.bl b) ∧ Q b δ1
theorem rr_bl {σ : L2.St} {H0 H G : Hp} {v : V} {b : Bool} (h : RR K σ H0 H G (.va (.bl b)) v) : v = .bl b := by
  cases (show At K G v (.bl b) from h)
  rfl
theorem sndt_val {t : TE} {T : DT} (a : Snd K t T) : SndT K (tB t) (tt T) := fun σ H G δ Q Q3 L h k => by
  refine a σ H G δ _ _ L h fun r δ1 v H1 G1 L1 f1 le1 rr q1 => ?_
  obtain ⟨b, rfl, q⟩ := q1
  exact ⟨b, rr_bl rr, k b δ1 H1 G1 L1 f1 le1 q⟩
theorem sndt_test {t : TE} {T : DT} (a : Snd K t T) : SndT K (tTest t) (tt T) := sndt_val a
def truD : D → Option Bool
  | .non => some false
  | .bl b => some b
  | .int i => some (i != 0)
  | .str y => if y.length ≤ sizeLine then some ((y.length : Int) != 0) else none
  | .lst xs => some (!xs.isEmpty)
  | .tup xs => some (!xs.isEmpty)
  | _ => none
def ttru (T : DT) : DTT := fun δ Q => T δ fun r δ1 => ∃ d b, r.dat δ1 = some d ∧ truD d = some b ∧ Q b δ1
theorem isEmpty_eq {α β : Type} {xs : List α} {ys : List β} (h : xs.length = ys.length) : (!xs.isEmpty) = !ys.isEmpty := by
  cases xs <;> cases ys <;> first | rfl | cases h
theorem sndt_truth {t : TE} {T : DT} (a : Snd K t T) : SndT K (fun σ H Q => t σ H fun x H' => ∃ k, TruV K x H' k ∧ Q k H') (ttru T) := fun σ H G δ Q Q3 L h k => by
  refine a σ H G δ _ _ L h fun r δ1 v H1 G1 L1 f1 le1 rr q1 => ?_
  obtain ⟨d, b, e, et, q⟩ := q1
  refine ⟨b, ?_, k b δ1 H1 G1 L1 f1 le1 q⟩
  have sh := sh_of L1 rr e
  cases d with
  | non =>
    obtain rfl := sh
    exact (Option.some.inj et).symm
  | bl c =>
    obtain rfl := sh
    exact (Option.some.inj et).symm
  | int i =>
    obtain rfl := sh
    exact (Option.some.inj et).symm
  | str y =>
    obtain rfl := sh
    have et2 : (if y.length ≤ sizeLine then some ((y.length : Int) != 0) else none) = some b := et
    by_cases z : y.length ≤ sizeLine
    · rw [if_pos z] at et2
      exact ⟨z, (Option.some.inj et2).symm⟩
    · rw [if_neg z] at et2
      cases et2
  | lst xs =>
    obtain ⟨a, vs, rfl, h1, t1⟩ := sh
    exact .inl ⟨vs, SqL.of h1, by rw [isEmpty_eq t1.length]; exact (Option.some.inj et).symm⟩
  | tup xs =>
    obtain ⟨a, vs, rfl, h1, t1⟩ := sh
    exact .inr (.inl ⟨vs, L1.sub.sqT h1, by rw [isEmpty_eq t1.length]; exact (Option.some.inj et).symm⟩)
  | obj cn ns ds => cases et
  | frz xs => cases et
  | dct ks xs => cases et
  | exn _ _ _ _ _ => cases et
def tand (a b : DTT) : DTT := fun δ Q => a δ fun c δ1 => if c = true then b δ1 Q else Q false δ1
def tor (a b : DTT) : DTT := fun δ Q => a δ fun c δ1 => if c = true then Q true δ1 else b δ1 Q
def tnot (a : DTT) : DTT := fun δ Q => a δ fun c δ1 => Q (!c) δ1
theorem sndt_and {t u : TT} {T U : DTT} (a : SndT K t T) (b : SndT K u U) : SndT K (tAnd t u) (tand T U) := fun σ H G δ Q Q3 L h k => by
  refine a σ H G δ _ _ L h fun c δ1 H1 G1 L1 f1 le1 q1 => ?_
  cases c with
  | true => exact b σ H1 G1 δ1 _ _ L1 q1 fun c δ2 H2 G2 L2 f2 le2 q2 => k c δ2 H2 G2 L2 (f1.trans f2 fun a h => .inl (le1.ad h)) (le2.trans le1) q2
  | false => exact k false δ1 H1 G1 L1 f1 le1 q1
theorem sndt_or {t u : TT} {T U : DTT} (a : SndT K t T) (b : SndT K u U) : SndT K (tOr t u) (tor T U) := fun σ H G δ Q Q3 L h k => by
  refine a σ H G δ _ _ L h fun c δ1 H1 G1 L1 f1 le1 q1 => ?_
  cases c with
  | false => exact b σ H1 G1 δ1 _ _ L1 q1 fun c δ2 H2 G2 L2 f2 le2 q2 => k c δ2 H2 G2 L2 (f1.trans f2 fun a h => .inl (le1.ad h)) (le2.trans le1) q2
  | true => exact k true δ1 H1 G1 L1 f1 le1 q1
theorem sndt_not {t : TT} {T : DTT} (a : SndT K t T) : SndT K (tNot t) (tnot T) := fun σ H G δ Q Q3 L h k => by
  exact a σ H G δ _ _ L h fun c δ1 H1 G1 L1 f1 le1 q1 => k (!c) δ1 H1 G1 L1 f1 le1 q1
/-- and, or, not as values: of truth values -/
def tandV (a b : DT) : DT := fun δ Q => a δ fun r δ1 => ∃ c, r = .va (.bl c) ∧ if c = true then b δ1 Q else Q (.va (.bl false)) δ1
def tnotV (a : DT) : DT := fun δ Q => a δ fun r δ1 => ∃ c, r = .va (.bl c) ∧ Q (.va (.bl (!c))) δ1
theorem snd_andV {t u : TE} {T U : DT} (a : Snd K t T) (b : Snd K u U) : Snd K (tAndV t u) (tandV T U) := fun σ H G δ Q Q3 L h k => by
  refine a σ H G δ _ _ L h fun r δ1 v H1 G1 L1 f1 le1 rr q1 => ?_
  obtain ⟨c, rfl, q⟩ := q1
  refine ⟨c, rr_bl rr, ?_⟩
  cases c with
  | true => exact b σ H1 G1 δ1 _ _ L1 q fun r δ2 v H2 G2 L2 f2 le2 rr2 q2 => k r δ2 v H2 G2 L2 (f1.trans f2 fun a h => .inl (le1.ad h)) (le2.trans le1) (rr2.base fun a h => f1.free h) q2
  | false => exact k (.va (.bl false)) δ1 _ H1 G1 L1 f1 le1 (At.bl false) q
theorem snd_notV {t : TE} {T : DT} (a : Snd K t T) : Snd K (tNotV t) (tnotV T) := fun σ H G δ Q Q3 L h k => by
  refine a σ H G δ _ _ L h fun r δ1 v H1 G1 L1 f1 le1 rr q1 => ?_
  obtain ⟨c, rfl, q⟩ := q1
  exact ⟨c, rr_bl rr, k (.va (.bl (!c))) δ1 _ H1 G1 L1 f1 le1 (At.bl (!c)) q⟩
def tif (c : DTT) (a b : DT) : DT := fun δ Q => c δ fun k δ1 => if k = true then a δ1 Q else b δ1 Q
theorem snd_if {t : TT} {u w : TE} {T : DTT} {U W : DT} (c : SndT K t T) (a : Snd K u U) (b : Snd K w W) : Snd K (tIf t u w) (tif T U W) := fun σ H G δ Q Q3 L h k => by
  refine c σ H G δ _ _ L h fun c δ1 H1 G1 L1 f1 le1 q1 => ?_
  cases c with
  | true => exact a σ H1 G1 δ1 _ _ L1 q1 fun r δ2 v H2 G2 L2 f2 le2 rr2 q2 => k r δ2 v H2 G2 L2 (f1.trans f2 fun a h => .inl (le1.ad h)) (le2.trans le1) (rr2.base fun a h => f1.free h) q2
  | false => exact b σ H1 G1 δ1 _ _ L1 q1 fun r δ2 v H2 G2 L2 f2 le2 rr2 q2 => k r δ2 v H2 G2 L2 (f1.trans f2 fun a h => .inl (le1.ad h)) (le2.trans le1) (rr2.base fun a h => f1.free h) q2
theorem rr_int {σ : L2.St} {H0 H G : Hp} {v : V} {b : Int} (h : RR K σ H0 H G (.va (.int b)) v) : v = .int b := by
  cases (show At K G v (.int b) from h)
  rfl
theorem atI_len {α β : Type} {xs : List α} {ys : List β} (h : xs.length = ys.length) {i : Int} {y : β} (e : atI ys i = some y) : ∃ j, ixN xs.length i = some j ∧ ys[j]? = some y ∧ atI xs i = xs[j]? := by
  unfold atI at e ⊢
  rw [h]
  cases q : ixN ys.length i with
  | none =>
    rw [q] at e
    cases e
  | some j =>
    rw [q] at e
    exact ⟨j, rfl, e, rfl⟩
theorem AtL.atI {G : Hp} {vs : List V} {ds : List D} (h : AtL K G vs ds) {i : Int} {d : D} (e : atI ds i = some d) : ∃ v, L2.atI vs i = some v ∧ At K G v d := by
  obtain ⟨j, h1, h2, h3⟩ := atI_len (xs := vs) h.length e
  obtain ⟨v, h4, h5⟩ := h.get h2
  exact ⟨v, h3.trans h4, h5⟩
def ixF : D → D → (R → Prop) → Prop
  | .lst xs, .int i, Q => ∃ d, L2.atI xs i = some d ∧ Q (.va d)
  | .tup xs, .int i, Q => ∃ d, L2.atI xs i = some d ∧ Q (.va d)
  | .str x, .int i, Q => x.length ≤ sizeLine ∧ ∃ c, L2.atI x.cps.toList i = some c ∧ Q (.va (.str ⟨#[c]⟩))
  | _, _, _ => False
theorem snd_ix : Snd2 K (rIx K) ixF := fun H G x y d e Q Q3 s hx hy hF k => by
  unfold ixF at hF
  split at hF
  · obtain ⟨a, vs, rfl, h1, t1⟩ := hx
    obtain rfl := hy
    obtain ⟨d, e, q⟩ := hF
    obtain ⟨v, e2, h2⟩ := t1.atI e
    exact .inl ⟨a, vs, _, v, rfl, rfl, SqL.of h1, e2, k.va s h2 q⟩
  · obtain ⟨a, vs, rfl, h1, t1⟩ := hx
    obtain rfl := hy
    obtain ⟨d, e, q⟩ := hF
    obtain ⟨v, e2, h2⟩ := t1.atI e
    exact .inr (.inl ⟨a, vs, _, v, rfl, rfl, s.sqT h1, e2, k.va s h2 q⟩)
  · obtain rfl := hx
    obtain rfl := hy
    obtain ⟨z, c, e, q⟩ := hF
    exact .inr (.inr ⟨_, _, c, rfl, rfl, z, e, k.va s (.str _) q⟩)
  · exact hF.elim
abbrev DTO := En → (Option Int → En → Prop) → Prop
def tno : DTO := fun δ Q => Q none δ
def tpart (T : DT) : DTO := fun δ Q => T δ fun r δ1 => ∃ i, r = .va (.int i) ∧ Q (some i) δ1
def SndO (K : PySem.W.Frag) (t : TO) (T : DTO) : Prop := ∀ (σ : L2.St) (H G : Hp) (δ : En) (Q : Option Int → Hp → Prop) (Q3 : Option Int → En → Prop), Rel K σ H G δ → T δ Q3 →
  (∀ o δ' H' G', Rel K σ H' G' δ' → Fr (Ad σ δ) H G H' G' → Le δ' δ → Q3 o δ' → Q o H') → t σ H Q
theorem sndo_none : SndO K tNoPart tno := fun σ H G δ Q Q3 L h k => k none δ H G L .refl .refl h
theorem sndo_some {t : TE} {T : DT} (a : Snd K t T) : SndO K (tPart t) (tpart T) := fun σ H G δ Q Q3 L h k => by
  refine a σ H G δ _ _ L h fun r δ1 v H1 G1 L1 f1 le1 rr q1 => ?_
  obtain ⟨i, rfl, q⟩ := q1
  exact ⟨i, rr_int rr, k (some i) δ1 H1 G1 L1 f1 le1 q⟩
def cutL {α : Type} (xs : List α) (lo hi : Option Int) : List α := (xs.drop (HT.sIx xs.length 0 lo)).take (HT.sIx xs.length xs.length hi - HT.sIx xs.length 0 lo)
theorem AtL.cut {G : Hp} {vs : List V} {ds : List D} (h : AtL K G vs ds) (lo hi : Option Int) : AtL K G (cutV vs lo hi) (cutL ds lo hi) := by
  unfold cutV cutL
  rw [h.length]
  exact (h.drop _).take _
theorem cutL_whole {α : Type} {xs : List α} {lo hi : Option Int} (h : HT.sIx xs.length 0 lo = 0 ∧ HT.sIx xs.length xs.length hi = xs.length) : cutL xs lo hi = xs := by
  unfold cutL
  rw [h.1, h.2]
  simp
def rSlU (K : PySem.W.Frag) : V → Option Int → Option Int → Hp → VK → Prop := fun x lo hi H Q => rSlL K x lo hi H Q ∨ rSlA K x lo hi H Q ∨ rSlS x lo hi H Q
theorem sl_any {X : Cx} : SlR X (rSlU X.K) := sl_list.or (sl_tupA.or sl_str)
def slF : D → Option Int → Option Int → (R → Prop) → Prop
  | .lst xs, lo, hi, Q => Q (.fr (.l (cutL xs lo hi)))
  | .frz xs, lo, hi, Q => Q (.fr (.l (cutL xs lo hi)))
  | .tup xs, lo, hi, Q => Q (.va (.tup (cutL xs lo hi)))
  | .str x, lo, hi, Q => x.length ≤ sizeLine ∧ Q (.va (.str (cutS x lo hi)))
  | _, _, _, _ => False
def tslice (T : DT) (Tl Th : DTO) : DT := fun δ Q => T δ fun r δ1 => Tl δ1 fun lo δ2 => Th δ2 fun hi δ3 => ∃ d, r.dat δ3 = some d ∧ slF d lo hi fun r => Q r δ3
theorem snd_slice {t : TE} {T : DT} {tl th : TO} {Tl Th : DTO} (a : Snd K t T) (l : SndO K tl Tl) (h : SndO K th Th) : Snd K (tSl (rSlU K) t tl th) (tslice T Tl Th) := fun σ H G δ Q Q3 L hh k => by
  refine a σ H G δ _ _ L hh fun x δ1 v H1 G1 L1 f1 le1 rx h1 => ?_
  refine l σ H1 G1 δ1 _ _ L1 h1 fun lo δ2 H2 G2 L2 f2 le2 h2 => ?_
  refine h σ H2 G2 δ2 _ _ L2 h2 fun hi δ3 H3 G3 L3 f3 le3 h3 => ?_
  obtain ⟨d, e, hF⟩ := h3
  have f23 : Fr (Ad σ δ1) H1 G1 H3 G3 := f2.trans f3 fun a h => .inl (le2.ad h)
  have f123 : Fr (Ad σ δ) H G H3 G3 := f1.trans f23 fun a h => .inl (le1.ad h)
  have sh : Sh K H3 G3 v d := Sh.on L f1 le1 f23 L3 rx e
  have s := L3.sub
  have kk : End K H3 G3 Q (fun r => Q3 r δ3) := fun r' z H4 G4 f4 s4 rz nr q3 => k r' δ3 z H4 G4 (L3.grow f4 s4) (f123.trans f4 fun _ z => z.elim) (le3.trans (le2.trans le1)) (rz.grow nr fun a h => f123.free h) q3
  cases d with
  | lst xs =>
    obtain ⟨a, vs, rfl, e1, t1⟩ := sh
    exact .inl ⟨a, vs, rfl, SqL.of e1, kk.list s (t1.cut lo hi) hF⟩
  | frz xs =>
    obtain ⟨a, vs, rfl, e1, t1⟩ := sh
    exact .inl ⟨a, vs, rfl, s.sqL e1, kk.list s (t1.cut lo hi) hF⟩
  | tup xs =>
    obtain ⟨a, vs, rfl, e1, t1⟩ := sh
    refine .inr (.inl ⟨a, vs, rfl, s.sqT e1, fun w => ?_, fun _ => kk.tuple s (t1.cut lo hi) hF⟩)
    rw [t1.length] at w
    have hF2 : Q3 (.va (.tup (cutL xs lo hi))) δ3 := hF
    rw [cutL_whole w] at hF2
    exact kk.va s (At.tup e1 t1) hF2
  | str x =>
    obtain rfl := sh
    exact .inr (.inr ⟨_, rfl, hF.1, kk.va s (.str _) hF.2⟩)
  | _ => exact (show False from hF).elim
/-- the datum that a result becomes -/
def datS : Option E → Option D
  | some (.va d) => some d
  | _ => none
def R.still (δ : En) : R → Option D
  | .va d => some d
  | .fr c => c.dat
  | .rf i => datS δ[i]?
/-- an owned object stands still from now on -/
theorem freeze {G H : Hp} {l : Addr} {c : Cn} {d : D} (h : AtC K H G l c) (e : c.dat = some d) (g : G l = none) : ∃ o, H l = some o ∧ Sub G (upd G l o) ∧ At K (upd G l o) (.ref l) d := by
  have s1 : ∀ o, Sub G (upd G l o) := fun u a o h => by
    by_cases z : a = l
    · rw [z, g] at h
      cases h
    · rw [upd_ne z]
      exact h
  cases c with
  | l xs =>
    cases e
    obtain ⟨vs, h1, t1⟩ := h
    exact ⟨_, h1, s1 _, At.lst upd_same (t1.mono (s1 _))⟩
  | d kvs =>
    cases e
    obtain ⟨vs, h1, t1⟩ := h
    obtain ⟨e1, t2⟩ := t1.zip
    refine ⟨_, h1, s1 _, At.dct (vs := vs.map (·.2)) ?_ ?_ (t2.mono (s1 _))⟩
    · rw [upd_same, ← e1]
    · have := t2.length
      rw [List.length_map] at this ⊢
      rw [List.length_map] at this ⊢
      exact this.symm
  | o cn fs =>
    cases e
    obtain ⟨dx, vs, h1, t1⟩ := h
    obtain ⟨e1, t2⟩ := t1.zip
    refine ⟨_, h1, s1 _, At.obj (dx := dx) (vs := vs.map (·.2)) ?_ ?_ (t2.mono (s1 _))⟩
    · rw [upd_same, ← e1]
    · have := t2.length
      rw [List.length_map] at this ⊢
      rw [List.length_map] at this ⊢
      exact this.symm
theorem settle {σ : L2.St} {H0 G0 H G : Hp} {δ0 δ : En} {r : R} {v : V} {d : D} (L0 : Rel K σ H0 G0 δ0) (L : Rel K σ H G δ) (f : Fr (Ad σ δ0) H0 G0 H G) (le : Le δ δ0) (rr : RR K σ H0 H G r v) (e : r.still δ = some d) :
    ∃ G', Rel K σ H G' δ ∧ Fr (Ad σ δ0) H0 G0 H G' ∧ Sub G G' ∧ At K G' v d ∧ ∀ a, G' a ≠ G a → r ≠ .va d ∧ v = .ref a ∧ ∃ c, r = .fr c := by
  cases r with
  | va d' =>
    cases e
    exact ⟨G, L, f, .refl, rr, fun a z => absurd rfl z⟩
  | rf i =>
    have e2 : datS δ[i]? = some d := e
    unfold datS at e2
    split at e2
    · rename_i d' q
      cases e2
      obtain ⟨v', h1, h2⟩ := L.va i _ q
      rw [show σ[i]? = some (some v) from rr] at h1
      cases h1
      exact ⟨G, L, f, .refl, h2, fun a z => absurd rfl z⟩
    · cases e2
  | fr c =>
    obtain ⟨l, rfl, n, g, hc⟩ := rr
    obtain ⟨o, h1, s1, ha⟩ := freeze hc e g
    have nl : ∀ a, Ad σ δ a → a ≠ l := fun a h z => by
      subst z
      exact L0.there (le.ad h) n
    refine ⟨upd G l o, ⟨L.len, fun a u h => ?_, fun i d e => ?_, fun i c e => ?_, L.dj⟩, ⟨f.h, fun a o h => s1 _ _ (f.g a o h), fun a na h => ?_, f.d⟩, s1, ha, fun a z => ⟨fun z => (nomatch z), ?_, _, rfl⟩⟩
    · by_cases z : a = l
      · subst z
        rw [upd_same] at h
        cases h
        exact h1
      · rw [upd_ne z] at h
        exact L.sub a u h
    · obtain ⟨v, h1, h2⟩ := L.va i d e
      exact ⟨v, h1, h2.mono s1⟩
    · obtain ⟨l', h2, h3, h4⟩ := L.ow i c e
      exact ⟨l', h2, by rw [upd_ne (nl l' ⟨i, c, e, h2⟩)]; exact h3, h4.mono (fun _ q => q) s1⟩
    · have : a ≠ l := fun z => h (by rw [z]; exact n)
      rw [upd_ne this]
      exact f.n a na h
    · have : a = l := by
        by_cases q : a = l
        · exact q
        · exact absurd (upd_ne q) z
      rw [this]
def stills (δ : En) : List R → Option (List D)
  | [] => some []
  | r :: rs => (r.still δ).bind fun d => (stills δ rs).map fun ds => d :: ds
theorem settles {σ : L2.St} {H0 G0 H : Hp} {δ0 δ : En} (L0 : Rel K σ H0 G0 δ0) (le : Le δ δ0) : ∀ {rs : List R} {vs : List V} {ds : List D} {G : Hp}, Rel K σ H G δ → Fr (Ad σ δ0) H0 G0 H G → RRs K σ H0 H G rs vs → stills δ rs = some ds →
    ∃ G', Rel K σ H G' δ ∧ Fr (Ad σ δ0) H0 G0 H G' ∧ Sub G G' ∧ AtL K G' vs ds
  | [], _, ds, G, L, f, h, e => by
    cases h
    cases e
    exact ⟨G, L, f, .refl, .nil⟩
  | r :: rs, _, ds, G, L, f, h, e => by
    cases h with
    | @cons _ v _ vs hr ht hn =>
      obtain ⟨d, e1, e2⟩ := Option.bind_eq_some_iff.mp e
      obtain ⟨es, e3, rfl⟩ := Option.map_eq_some_iff.mp e2
      obtain ⟨G1, L1, f1, s1, h1, ch⟩ := settle L0 L f le hr e1
      have ht1 : RRs K σ H0 H G1 rs vs := by
        have key : ∀ {rs : List R} {vs : List V}, RRs K σ H0 H G rs vs → (∀ c, r = .fr c → ∀ (j : Nat) (c' : Cn), rs[j]? = some (.fr c') → vs[j]? ≠ some v) → RRs K σ H0 H G1 rs vs := by
          intro rs vs h
          induction h with
          | nil => intro _; exact .nil
          | @cons r' v' rs' vs' a b c ih =>
            intro n
            refine .cons ?_ (ih fun c e j c' e' => n c e (j + 1) c' (by simpa using e')) c
            cases r' with
            | va d => exact At.mono s1 a
            | rf i => exact a
            | fr c' =>
              obtain ⟨l, rfl, n0, g, q⟩ := a
              refine ⟨l, rfl, n0, ?_, q.mono (fun _ z => z) s1⟩
              by_cases z : G1 l = G l
              · rw [z]
                exact g
              · obtain ⟨_, ev, c, ec⟩ := ch l z
                exact absurd (by rw [ev]; rfl) (n c ec 0 c' rfl)
        exact key ht hn
      obtain ⟨G2, L2, f2, s2, h2⟩ := settles L0 le L1 f1 ht1 e3
      exact ⟨G2, L2, f2, s1.trans s2, .cons (h1.mono s2) h2⟩
def ttup (TA : DTA) : DT := fun δ Q => TA δ fun rs δ1 => ∃ ds, stills δ1 rs = some ds ∧ ds.length ≤ sizeLine ∧ Q (.va (.tup ds)) δ1
def tlst (TA : DTA) : DT := fun δ Q => TA δ fun rs δ1 => ∃ ds, stills δ1 rs = some ds ∧ ds.length ≤ sizeLine ∧ Q (.fr (.l ds)) δ1
theorem snd_tup {t : TA} {T : DTA} (a : SndA K t T) : Snd K (tTup t) (ttup T) := fun σ H G δ Q Q3 L h k => by
  refine a σ H G δ _ _ L h fun rs δ1 vs H1 G1 L1 f1 le1 rr q1 => ?_
  obtain ⟨ds, e, hl, q⟩ := q1
  obtain ⟨G2, L2, f2, s2, h2⟩ := settles L le1 L1 f1 rr e
  refine ⟨by rw [h2.length]; exact hl, fun p n => ?_⟩
  obtain ⟨f3, s3⟩ := gr_keep (o := .tup vs) L2.sub n
  exact k (.va (.tup ds)) δ1 (.ref p) _ _ (L2.grow f3 s3) (f2.trans f3 fun _ z => z.elim) le1 (At.tup (SqT.of upd_same) (h2.mono f3.sub)) q
theorem snd_lst {t : TA} {T : DTA} (a : SndA K t T) : Snd K (tLst t) (tlst T) := fun σ H G δ Q Q3 L h k => by
  refine a σ H G δ _ _ L h fun rs δ1 vs H1 G1 L1 f1 le1 rr q1 => ?_
  obtain ⟨ds, e, hl, q⟩ := q1
  obtain ⟨G2, L2, f2, s2, h2⟩ := settles L le1 L1 f1 rr e
  refine ⟨by rw [h2.length]; exact hl, fun p n => ?_⟩
  obtain ⟨f3, s3⟩ := gr_new (G := G2) (o := .lst vs) L2.sub n
  exact k (.fr (.l ds)) δ1 (.ref p) _ _ (L2.grow f3 s3) (f2.trans f3 fun _ z => z.elim) le1 ⟨p, rfl, f2.free n, g_none L2.sub n, vs, upd_same, h2⟩ q
end
end L3
namespace L3
open PySem PySem.Spec PyProof.Rows L2
section
variable {K : PySem.W.Frag}
inductive ShL (K : PySem.W.Frag) (H G : Hp) : List V → List D → Prop
  | nil : ShL K H G [] []
  | cons {v : V} {vs : List V} {d : D} {ds : List D} : Sh K H G v d → ShL K H G vs ds → ShL K H G (v :: vs) (d :: ds)
def dats (δ : En) : List R → Option (List D)
  | [] => some []
  | r :: rs => (r.dat δ).bind fun d => (dats δ rs).map fun ds => d :: ds
theorem shL_of {σ : L2.St} {H0 H G : Hp} {δ : En} (L : Rel K σ H G δ) : ∀ {rs : List R} {vs : List V} {ds : List D}, RRs K σ H0 H G rs vs → dats δ rs = some ds → ShL K H G vs ds
  | [], _, _, h, e => by
    cases h
    cases e
    exact .nil
  | r :: rs, _, _, h, e => by
    cases h with
    | cons hr ht hn =>
      obtain ⟨d, e1, e2⟩ := Option.bind_eq_some_iff.mp e
      obtain ⟨es, e3, rfl⟩ := Option.map_eq_some_iff.mp e2
      exact .cons (sh_of L hr e1) (shL_of L ht e3)
def SndC (K : PySem.W.Frag) (r : List V → Hp → VK → Prop) (F : List D → (R → Prop) → Prop) : Prop := ∀ (H G : Hp) (vs : List V) (ds : List D) (Q : VK) (Q3 : R → Prop), Sub G H → ShL K H G vs ds → F ds Q3 → End K H G Q Q3 → r vs H Q
def tcb (F : List D → (R → Prop) → Prop) (TA : DTA) : DT := fun δ Q => TA δ fun rs δ1 => ∃ ds, dats δ1 rs = some ds ∧ F ds fun r => Q r δ1
theorem snd_cb {r : List V → Hp → VK → Prop} {F : List D → (R → Prop) → Prop} {t : TA} {T : DTA} (hr : SndC K r F) (a : SndA K t T) : Snd K (tCB r t) (tcb F T) := fun σ H G δ Q Q3 L h k => by
  refine a σ H G δ _ _ L h fun rs δ1 vs H1 G1 L1 f1 le1 rr q1 => ?_
  obtain ⟨ds, e, hF⟩ := q1
  exact hr H1 G1 vs ds _ _ L1.sub (shL_of L1 rr e) hF fun r' z H3 G3 f3 s3 rz nr q3 => k r' δ1 z H3 G3 (L1.grow f3 s3) (f1.trans f3 fun _ z => z.elim) le1 (rz.grow nr fun a h => f1.free h) q3
def lenF : List D → (R → Prop) → Prop
  | [.lst xs], Q => Q (.va (.int xs.length))
  | [.tup xs], Q => Q (.va (.int xs.length))
  | [.frz xs], Q => Q (.va (.int xs.length))
  | [.str x], Q => x.length ≤ sizeLine ∧ Q (.va (.int x.length))
  | _, _ => False
def rLenV (K : PySem.W.Frag) : List V → Hp → VK → Prop := fun xs H Q => ∃ x n, xs = [x] ∧ LenV K x H n ∧ Q (.int n) H
theorem snd_len : SndC K (rLenV K) lenF := fun H G vs ds Q Q3 s h hF k => by
  unfold lenF at hF
  split at hF
  · cases h with
    | cons h t =>
      cases t
      obtain ⟨a, vs, rfl, h1, t1⟩ := h
      exact ⟨_, _, rfl, .inl ⟨vs, SqL.of h1, t1.length.symm⟩, k.va s (.int _) hF⟩
  · cases h with
    | cons h t =>
      cases t
      obtain ⟨a, vs, rfl, h1, t1⟩ := h
      exact ⟨_, _, rfl, .inr ⟨vs, s.sqT h1, t1.length.symm⟩, k.va s (.int _) hF⟩
  · cases h with
    | cons h t =>
      cases t
      obtain ⟨a, vs, rfl, h1, t1⟩ := h
      exact ⟨_, _, rfl, .inl ⟨vs, s.sqL h1, t1.length.symm⟩, k.va s (.int _) hF⟩
  · cases h with
    | cons h t =>
      cases t
      obtain rfl := h
      exact ⟨_, _, rfl, ⟨hF.1, rfl⟩, k.va s (.int _) hF.2⟩
  · exact hF.elim
def listF : List D → (R → Prop) → Prop
  | [.lst xs], Q => Q (.fr (.l xs))
  | [.tup xs], Q => Q (.fr (.l xs))
  | [.frz xs], Q => Q (.fr (.l xs))
  | _, _ => False
def rListV (K : PySem.W.Frag) : List V → Hp → VK → Prop := fun xs H Q => ∃ p ys, xs = [.ref p] ∧ (SqL K H p ys ∨ SqT K H p ys) ∧ ∀ l, H l = none → Q (.ref l) (upd H l (.lst ys))
theorem snd_list : SndC K (rListV K) listF := fun H G vs ds Q Q3 s h hF k => by
  unfold listF at hF
  split at hF
  · cases h with
    | cons h t =>
      cases t
      obtain ⟨a, vs, rfl, h1, t1⟩ := h
      exact ⟨_, _, rfl, .inl (SqL.of h1), k.list s t1 hF⟩
  · cases h with
    | cons h t =>
      cases t
      obtain ⟨a, vs, rfl, h1, t1⟩ := h
      exact ⟨_, _, rfl, .inr (s.sqT h1), k.list s t1 hF⟩
  · cases h with
    | cons h t =>
      cases t
      obtain ⟨a, vs, rfl, h1, t1⟩ := h
      exact ⟨_, _, rfl, .inl (s.sqL h1), k.list s t1 hF⟩
  · exact hF.elim
def tupleF : List D → (R → Prop) → Prop
  | [.lst xs], Q => Q (.va (.tup xs))
  | [.tup xs], Q => Q (.va (.tup xs))
  | _, _ => False
def rTupleV (K : PySem.W.Frag) : List V → Hp → VK → Prop := fun xs H Q => ∃ p ys, xs = [.ref p] ∧ ((SqL K H p ys ∧ ∀ l, H l = none → Q (.ref l) (upd H l (.tup ys))) ∨ (SqT K H p ys ∧ Q (.ref p) H))
theorem snd_tuple : SndC K (rTupleV K) tupleF := fun H G vs ds Q Q3 s h hF k => by
  unfold tupleF at hF
  split at hF
  · cases h with
    | cons h t =>
      cases t
      obtain ⟨a, vs, rfl, h1, t1⟩ := h
      exact ⟨_, _, rfl, .inl ⟨SqL.of h1, k.tuple s t1 hF⟩⟩
  · cases h with
    | cons h t =>
      cases t
      obtain ⟨a, vs, rfl, h1, t1⟩ := h
      exact ⟨_, _, rfl, .inr ⟨s.sqT h1, k.va s (At.tup h1 t1) hF⟩⟩
  · exact hF.elim
def intF : List D → (R → Prop) → Prop
  | [.int i], Q => Q (.va (.int i))
  | [.bl b], Q => Q (.va (.int (if b then 1 else 0)))
  | _, _ => False
def rIntV : List V → Hp → VK → Prop := fun xs H Q => (∃ i, xs = [.int i] ∧ Q (.int i) H) ∨ ∃ k, xs = [.bl k] ∧ Q (.int (if k then 1 else 0)) H
theorem snd_int1 : SndC K rIntV intF := fun H G vs ds Q Q3 s h hF k => by
  unfold intF at hF
  split at hF
  · cases h with
    | cons h t =>
      cases t
      obtain rfl := h
      exact .inl ⟨_, rfl, k.va s (.int _) hF⟩
  · cases h with
    | cons h t =>
      cases t
      obtain rfl := h
      exact .inr ⟨_, rfl, k.va s (.int _) hF⟩
  · exact hF.elim
def min2F : List D → (R → Prop) → Prop
  | [.int i, .int j], Q => Q (.va (.int (if j < i then j else i)))
  | _, _ => False
theorem snd_min2 : SndC K (fun xs H Q => ∃ i j, xs = [.int i, .int j] ∧ Q (.int (if j < i then j else i)) H) min2F := fun H G vs ds Q Q3 s h hF k => by
  unfold min2F at hF
  split at hF
  · cases h with
    | cons h t =>
      cases t with
      | cons h2 t =>
        cases t
        obtain rfl := h
        obtain rfl := h2
        exact ⟨_, _, rfl, k.va s (.int _) hF⟩
  · exact hF.elim
theorem AtL.ints {G : Hp} : ∀ {ns : List Int} {vs : List V}, AtL K G vs (ns.map D.int) → vs = ns.map V.int
  | [], _, h => by
    cases h
    rfl
  | n :: ns, _, h => by
    cases h with
    | cons a t =>
      cases a
      rw [AtL.ints t]
      rfl
theorem AtL.bls {G : Hp} : ∀ {ns : List Bool} {vs : List V}, AtL K G vs (ns.map D.bl) → vs = ns.map V.bl
  | [], _, h => by
    cases h
    rfl
  | n :: ns, _, h => by
    cases h with
    | cons a t =>
      cases a
      rw [AtL.bls t]
      rfl
theorem atl_ints {G : Hp} : ∀ (ns : List Int), AtL K G (ns.map V.int) (ns.map D.int)
  | [] => .nil
  | n :: ns => .cons (.int n) (atl_ints ns)
def sumF : List D → (R → Prop) → Prop
  | [.lst xs], Q => ∃ ns : List Int, xs = ns.map D.int ∧ Q (.va (.int ns.sum))
  | _, _ => False
theorem snd_sum : SndC K (rSum K) sumF := fun H G vs ds Q Q3 s h hF k => by
  unfold sumF at hF
  split at hF
  · cases h with
    | cons h t =>
      cases t
      obtain ⟨a, vs, rfl, h1, t1⟩ := h
      obtain ⟨ns, rfl, q⟩ := hF
      rw [t1.ints] at h1
      exact ⟨a, ns, rfl, SqL.of h1, k.va s (.int _) q⟩
  · exact hF.elim
def allF : List D → (R → Prop) → Prop
  | [.lst xs], Q => ∃ bs : List Bool, xs = bs.map D.bl ∧ Q (.va (.bl (bs.all id)))
  | _, _ => False
theorem snd_all : SndC K (rAll K) allF := fun H G vs ds Q Q3 s h hF k => by
  unfold allF at hF
  split at hF
  · cases h with
    | cons h t =>
      cases t
      obtain ⟨a, vs, rfl, h1, t1⟩ := h
      obtain ⟨ns, rfl, q⟩ := hF
      rw [t1.bls] at h1
      exact ⟨a, ns, rfl, SqL.of h1, k.va s (.bl _) q⟩
  · exact hF.elim
inductive Tn where
  | int | bool | str | list | tuple | dict
inductive Kn where
  | non | bool | int | str | list | tuple | dict
  deriving DecidableEq
def Tn.nm : Tn → String
  | .int => "int" | .bool => "bool" | .str => "str" | .list => "list" | .tuple => "tuple" | .dict => "dict"
def Kn.nm : Kn → String
  | .non => "NoneType" | .int => "int" | .bool => "bool" | .str => "str" | .list => "list" | .tuple => "tuple" | .dict => "dict"
def isT : Tn → Kn → Bool
  | .int, .int => true | .int, .bool => true | .bool, .bool => true | .str, .str => true | .list, .list => true | .tuple, .tuple => true | .dict, .dict => true
  | _, _ => false
theorem kit_isT (n : Tn) (k : Kn) : kitB k.nm n.nm = some (isT n k) := by
  cases n <;> cases k <;> decide +kernel
def Cn.kn : Cn → Option Kn
  | .l _ => some .list
  | .d _ => some .dict
  | .o _ _ => none
def D.kn : D → Option Kn
  | .non => some .non | .bl _ => some .bool | .int _ => some .int | .str _ => some .str | .lst _ => some .list | .tup _ => some .tuple
  | .obj _ _ _ => none | .frz _ => none | .dct _ _ => some .dict | .exn _ _ _ _ _ => none
def knE : Option E → Option Kn
  | some (.va d) => d.kn
  | some (.ow c) => c.kn
  | _ => none
def R.kn (δ : En) : R → Option Kn
  | .va d => d.kn
  | .fr c => c.kn
  | .rf i => knE δ[i]?
theorem tyx_at {H G : Hp} {v : V} {d : D} {k : Kn} (s : Sub G H) (h : At K G v d) (e : d.kn = some k) : TyX K H v (.type k.nm) := by
  cases h with
  | non => cases e; exact .base .non
  | bl b => cases e; exact .base (.bl b)
  | int i => cases e; exact .base (.int i)
  | str x => cases e; exact .base (.str x)
  | lst h t => cases e; exact .base (.lst (s _ _ h))
  | tup h t =>
    cases e
    rcases s.sqT h with (h | ⟨o, h⟩) | ⟨o, its, n, h1, h2, _⟩
    · exact .base (.tup h)
    · exact .fTuple h
    · exact .kTuple h1 h2
  | obj h n t => cases e
  | frz h t => cases e
  | dct h n t => cases e; exact .base (.dK (s _ _ h))
  | exn h n t => cases e
theorem tyx_cn {H G : Hp} {l : Addr} {c : Cn} {k : Kn} (h : AtC K H G l c) (e : c.kn = some k) : TyX K H (.ref l) (.type k.nm) := by
  cases c with
  | l xs =>
    cases e
    obtain ⟨vs, h1, _⟩ := h
    exact .base (.lst h1)
  | d kvs =>
    cases e
    obtain ⟨vs, h1, _⟩ := h
    exact .base (.dK h1)
  | o cn fs => cases e
theorem tyx_rr {σ : L2.St} {H0 H G : Hp} {δ : En} {r : R} {v : V} {k : Kn} (L : Rel K σ H G δ) (rr : RR K σ H0 H G r v) (e : r.kn δ = some k) : TyX K H v (.type k.nm) := by
  cases r with
  | va d => exact tyx_at L.sub rr e
  | fr c =>
    obtain ⟨l, rfl, _, _, h⟩ := rr
    exact tyx_cn h e
  | rf i =>
    have e2 : knE δ[i]? = some k := e
    unfold knE at e2
    split at e2
    · rename_i d q
      obtain ⟨v', h1, h2⟩ := L.va i _ q
      rw [show σ[i]? = some (some v) from rr] at h1
      cases h1
      exact tyx_at L.sub h2 e2
    · rename_i c q
      obtain ⟨l, h1, _, h2⟩ := L.ow i _ q
      rw [show σ[i]? = some (some v) from rr] at h1
      cases h1
      exact tyx_cn h2 e2
    · cases e2
def tisi (n : Tn) (T : DT) : DT := fun δ Q => T δ fun r δ1 => ∃ k, r.kn δ1 = some k ∧ Q (.va (.bl (isT n k))) δ1
theorem snd_isi {t : TE} {T : DT} {nm : String} (n : Tn) (hn : n.nm = nm) (a : Snd K t T) : Snd K (tCB (rIsi K) (tCons t (tCons (tC (.ty nm)) tNil))) (tisi n T) := fun σ H G δ Q Q3 L h k => by
  subst hn
  refine a σ H G δ _ _ L h fun r δ1 v H1 G1 L1 f1 le1 rr q1 => ?_
  obtain ⟨kn, e, q⟩ := q1
  exact ⟨v, _, _, _, _, rfl, .ty _, tyx_rr L1 rr e, kit_ty (kit_isT n kn), k (.va (.bl _)) δ1 _ H1 G1 L1 f1 le1 (At.bl _) q⟩
end
end L3
namespace L3
open PySem PySem.Spec PyProof.Rows L2
section
variable {K : PySem.W.Frag}
/-- a def's promise over data: its arguments as slots, what is wanted of its result and of the slots behind it -/
abbrev DSp := En → (R → En → Prop) → Prop
def up (K : PySem.W.Frag) (n : Nat) (sp : DSp) : Sp := fun vs H Q _ => vs.length = n ∧ ∃ (G : Hp) (δ : En) (Q3 : R → En → Prop), Rel K (vs.map some) H G δ ∧ sp δ Q3 ∧
  ∀ r δ' v H' G', Rel K (vs.map some) H' G' δ' → Fr (Ad (vs.map some) δ) H G H' G' → Le δ' δ → RR K [] H H' G' r v → (∀ i, r ≠ .rf i) → Q3 r δ' → Q v H'
/-- how a result is handed over: own (true) or standing still from now on -/
def passR (δ : En) (i : Nat) : Bool → Option E
  | true => match δ[i]? with
    | some (.ow c) => some (.ow c)
    | some (.va d) => some (.va d)
    | _ => none
  | false => match δ[i]? with
    | some (.va d) => some (.va d)
    | _ => none
def pass1 (δ : En) : R → Bool → Option E
  | .va d, _ => some (.va d)
  | .fr c, true => some (.ow c)
  | .fr c, false => c.dat.map E.va
  | .rf i, m => passR δ i m
def passes (δ : En) : List R → List Bool → Option En
  | [], [] => some []
  | r :: rs, m :: ms => (pass1 δ r m).bind fun e => (passes δ rs ms).map fun es => e :: es
  | _, _ => none
theorem passes_get {δ : En} : ∀ {rs : List R} {ms : List Bool} {es : En}, passes δ rs ms = some es → rs.length = es.length ∧ ∀ (j : Nat) (e : E), es[j]? = some e → ∃ r m, rs[j]? = some r ∧ ms[j]? = some m ∧ pass1 δ r m = some e
  | [], [], _, h => by
    cases h
    exact ⟨rfl, fun j e h => by simp at h⟩
  | r :: rs, m :: ms, _, h => by
    obtain ⟨e, h1, h2⟩ := Option.bind_eq_some_iff.mp h
    obtain ⟨es, h3, rfl⟩ := Option.map_eq_some_iff.mp h2
    obtain ⟨l, ih⟩ := passes_get h3
    refine ⟨by rw [List.length_cons, List.length_cons, l], fun j e' q => ?_⟩
    cases j with
    | zero =>
      simp at q
      subst q
      exact ⟨r, m, rfl, rfl, h1⟩
    | succ j =>
      simp at q
      obtain ⟨r', m', a, b, c⟩ := ih j e' q
      exact ⟨r', m', by simpa using a, by simpa using b, c⟩
  | [], _ :: _, _, h => by cases h
  | _ :: _, [], _, h => by cases h
def rfs : List R → List Nat
  | [] => []
  | .rf i :: rs => i :: rfs rs
  | _ :: rs => rfs rs
theorem rfs_mem : ∀ {rs : List R} {j i : Nat}, rs[j]? = some (R.rf i) → i ∈ rfs rs
  | [], j, i, h => by simp at h
  | .rf k :: rs, 0, i, h => by
    simp at h
    subst h
    exact List.mem_cons_self
  | .va _ :: rs, 0, i, h => by simp at h
  | .fr _ :: rs, 0, i, h => by simp at h
  | .rf k :: rs, j + 1, i, h => List.mem_cons_of_mem _ (rfs_mem (by simpa using h))
  | .va _ :: rs, j + 1, i, h => rfs_mem (rs := rs) (j := j) (by simpa using h)
  | .fr _ :: rs, j + 1, i, h => rfs_mem (rs := rs) (j := j) (by simpa using h)
theorem rfs_inj : ∀ {rs : List R} {j k i : Nat}, (rfs rs).Nodup → rs[j]? = some (R.rf i) → rs[k]? = some (R.rf i) → j = k
  | [], j, k, i, _, h, _ => by simp at h
  | r :: rs, 0, 0, i, _, _, _ => rfl
  | r :: rs, 0, k + 1, i, n, h, h' => by
    simp at h h'
    subst h
    exact absurd (rfs_mem h') (List.nodup_cons.mp n).1
  | r :: rs, j + 1, 0, i, n, h, h' => by
    simp at h h'
    subst h'
    exact absurd (rfs_mem h) (List.nodup_cons.mp n).1
  | r :: rs, j + 1, k + 1, i, n, h, h' => by
    simp at h h'
    have n' : (rfs rs).Nodup := by
      cases r with
      | rf i => exact (List.nodup_cons.mp n).2
      | va d => exact n
      | fr c => exact n
    exact congrArg (· + 1) (rfs_inj n' h h')
def puts (δ : En) : List R → En → En
  | .rf i :: rs, e :: es => (puts δ rs es).set i e
  | _ :: rs, _ :: es => puts δ rs es
  | _, _ => δ
theorem puts_len {δ : En} : ∀ {rs : List R} {es : En}, (puts δ rs es).length = δ.length
  | [], _ => by rw [puts]; all_goals simp
  | .rf i :: rs, e :: es => by rw [puts, List.length_set, puts_len]
  | .va _ :: rs, _ :: es => by rw [puts, puts_len]; all_goals simp
  | .fr _ :: rs, _ :: es => by rw [puts, puts_len]; all_goals simp
  | _ :: _, [] => by rw [puts]; all_goals simp
theorem puts_get {δ : En} : ∀ {rs : List R} {es : En} {i : Nat} {e : E}, rs.length = es.length → (puts δ rs es)[i]? = some e → (∃ j : Nat, rs[j]? = some (R.rf i) ∧ es[j]? = some e) ∨ ((∀ j : Nat, rs[j]? ≠ some (R.rf i)) ∧ δ[i]? = some e)
  | [], [], i, e, _, h => .inr ⟨fun j z => by simp at z, h⟩
  | [], _ :: _, _, _, l, _ => by cases l
  | _ :: _, [], _, _, l, _ => by cases l
  | .rf k :: rs, e' :: es, i, e, l, h => by
    rw [puts] at h
    by_cases z : k = i
    · subst z
      have hk : k < (puts δ rs es).length := by
        have := (List.getElem?_eq_some_iff.mp h).1
        rw [List.length_set] at this
        exact this
      rw [List.getElem?_set_self hk] at h
      exact .inl ⟨0, rfl, h⟩
    · rw [List.getElem?_set_ne z] at h
      rcases puts_get (rs := rs) (es := es) (by simpa using l) h with ⟨j, h1, h2⟩ | ⟨h1, h2⟩
      · exact .inl ⟨j + 1, by simpa using h1, by simpa using h2⟩
      · refine .inr ⟨fun j => ?_, h2⟩
        cases j with
        | zero =>
          intro q
          simp at q
          exact z q
        | succ j =>
          intro q
          exact h1 j (by simpa using q)
  | .va d :: rs, e' :: es, i, e, l, h => by
    have h' : (puts δ rs es)[i]? = some e := by
      rw [puts] at h
      · exact h
      · intro i z; cases z
    rcases puts_get (rs := rs) (es := es) (by simpa using l) h' with ⟨j, h1, h2⟩ | ⟨h1, h2⟩
    · exact .inl ⟨j + 1, by simpa using h1, by simpa using h2⟩
    · refine .inr ⟨fun j => ?_, h2⟩
      cases j with
      | zero =>
        intro q
        simp at q
      | succ j =>
        intro q
        exact h1 j (by simpa using q)
  | .fr d :: rs, e' :: es, i, e, l, h => by
    have h' : (puts δ rs es)[i]? = some e := by
      rw [puts] at h
      · exact h
      · intro i z; cases z
    rcases puts_get (rs := rs) (es := es) (by simpa using l) h' with ⟨j, h1, h2⟩ | ⟨h1, h2⟩
    · exact .inl ⟨j + 1, by simpa using h1, by simpa using h2⟩
    · refine .inr ⟨fun j => ?_, h2⟩
      cases j with
      | zero =>
        intro q
        simp at q
      | succ j =>
        intro q
        exact h1 j (by simpa using q)
open Classical in
/-- the objects at Z stand still from now on -/
theorem freezeZ {σ : L2.St} {H0 G0 H G : Hp} {δ0 δ : En} (L0 : Rel K σ H0 G0 δ0) (L : Rel K σ H G δ) (f : Fr (Ad σ δ0) H0 G0 H G) (le : Le δ δ0) (Z : Addr → Prop) (hz : ∀ a, Z a → H0 a = none ∧ G a = none) :
    ∃ G', Rel K σ H G' δ ∧ Fr (Ad σ δ0) H0 G0 H G' ∧ Sub G G' ∧ (∀ a, ¬ Z a → G' a = G a) ∧ ∀ l c d, Z l → AtC K H G l c → c.dat = some d → At K G' (.ref l) d := by
  have s1 : Sub G (fun a => if Z a then H a else G a) := fun a o h => by
    by_cases z : Z a
    · rw [(hz a z).2] at h
      cases h
    · show (if Z a then H a else G a) = _
      rw [if_neg z]
      exact h
  refine ⟨fun a => if Z a then H a else G a, ⟨L.len, fun a o h => ?_, fun i d e => ?_, fun i c e => ?_, L.dj⟩, ⟨f.h, fun a o h => s1 _ _ (f.g a o h), fun a na h => ?_, f.d⟩, s1, fun a z => if_neg z, fun l c d z h e => ?_⟩
  · have h' : (if Z a then H a else G a) = some o := h
    by_cases z : Z a
    · rw [if_pos z] at h'
      exact h'
    · rw [if_neg z] at h'
      exact L.sub a o h'
  · obtain ⟨v, h1, h2⟩ := L.va i d e
    exact ⟨v, h1, h2.mono s1⟩
  · obtain ⟨l, h2, h3, h4⟩ := L.ow i c e
    have nz : ¬ Z l := fun z => L0.there (le.ad ⟨i, c, e, h2⟩) (hz l z).1
    exact ⟨l, h2, (if_neg nz).trans h3, h4.mono (fun _ q => q) s1⟩
  · have nz : ¬ Z a := fun z => h (hz a z).1
    exact (if_neg nz).trans (f.n a na h)
  · obtain ⟨o, h1, s2, h2⟩ := freeze h e (hz l z).2
    refine h2.mono fun a u q => ?_
    by_cases za : a = l
    · subst za
      rw [upd_same] at q
      show (if Z a then H a else G a) = _
      rw [if_pos z, h1]
      exact q
    · rw [upd_ne za] at q
      exact s1 a u q
/-- the core of a call -/
theorem call_coreG {ms : List Bool} {n : Nat} {σ : L2.St} {H G H1 G1 : Hp} {δ δ1 : En} {rs : List R} {vs : List V} {es : En} (L : Rel K σ H G δ) (L1 : Rel K σ H1 G1 δ1) (f1 : Fr (Ad σ δ) H G H1 G1) (le1 : Le δ1 δ)
    (rr : RRs K σ H H1 G1 rs vs) (nd : (rfs rs).Nodup) (hn : rs.length = n) (he : passes δ1 rs ms = some es) :
    vs.length = n ∧ ∃ G2, Rel K (vs.map some) H1 G2 es ∧ ∀ es' H' G', Rel K (vs.map some) H' G' es' → Fr (Ad (vs.map some) es) H1 G2 H' G' → Le es' es → Rel K σ H' G' (puts δ1 rs es') ∧ Fr (Ad σ δ) H G H' G' ∧ Le (puts δ1 rs es') δ := by
  obtain ⟨hl, hg⟩ := passes_get he
  obtain ⟨G2, L2', f2, s2, gz, hz⟩ := freezeZ L L1 f1 le1 (fun a => ∃ (j : Nat) (c : Cn), rs[j]? = some (R.fr c) ∧ ms[j]? = some false ∧ vs[j]? = some (V.ref a)) fun a ⟨j, c, e1, e2, e3⟩ => by
    obtain ⟨v, h1, l, h2, h3, h4, _⟩ := rr.get e1
    rw [e3] at h1
    cases h1
    cases h2
    exact ⟨h3, h4⟩
  have lv : vs.length = rs.length := rr.length
  have gv : ∀ (j : Nat) (r : R), rs[j]? = some r → ∃ v, vs[j]? = some v ∧ (vs.map some)[j]? = some (some v) ∧ RR K σ H H1 G1 r v := fun j r e => by
    obtain ⟨v, h1, h2⟩ := rr.get e
    exact ⟨v, h1, by rw [List.getElem?_map, h1]; rfl, h2⟩
  -- what an owned argument is
  have own : ∀ (j : Nat) (c : Cn), es[j]? = some (E.ow c) → (rs[j]? = some (R.fr c) ∧ ∃ l, vs[j]? = some (V.ref l) ∧ H l = none ∧ G2 l = none ∧ AtC K H1 G2 l c) ∨ ∃ i l, rs[j]? = some (R.rf i) ∧ δ1[i]? = some (E.ow c) ∧ σ[i]? = some (some (V.ref l)) ∧ vs[j]? = some (V.ref l) ∧ G2 l = none ∧ AtC K H1 G2 l c := fun j c e => by
    obtain ⟨r, m, h1, h2, h3⟩ := hg j _ e
    cases r with
    | va d =>
      have h4 : some (E.va d) = some (E.ow c) := h3
      cases h4
    | fr c' =>
      cases m with
      | true =>
        have h4 : some (E.ow c') = some (E.ow c) := h3
        cases h4
        obtain ⟨v, q1, l, rfl, q2, q3, q4⟩ := rr.get h1
        refine .inl ⟨h1, l, q1, q2, ?_, q4.mono (fun _ z => z) s2⟩
        rw [gz l fun ⟨j', c', a, b, d⟩ => by
          have := rr.apart h1 a q1 d
          subst this
          rw [h2] at b
          cases b]
        exact q3
      | false =>
        have h4 : c'.dat.map E.va = some (E.ow c) := h3
        obtain ⟨_, _, z⟩ := Option.map_eq_some_iff.mp h4
        cases z
    | rf i =>
      have h4 : passR δ1 i m = some (E.ow c) := h3
      have h5 : δ1[i]? = some (E.ow c) := by
        unfold passR at h4
        cases m with
        | true =>
          simp only at h4
          split at h4
          · rename_i c' q
            cases h4
            exact q
          · cases h4
          · cases h4
        | false =>
          simp only at h4
          split at h4
          · cases h4
          · cases h4
      obtain ⟨l, q1, q2, q3⟩ := L2'.ow i c h5
      obtain ⟨v, p1, p2⟩ := rr.get h1
      rw [show σ[i]? = some (some v) from p2] at q1
      cases q1
      exact .inr ⟨i, l, h1, h5, p2, p1, q2, q3⟩
  have owR : ∀ (l : Addr), Ad (vs.map some) es l → (H l = none ∨ Ad σ δ1 l) := fun l ⟨j, c, e, q⟩ => by
    rw [List.getElem?_map] at q
    rcases own j c e with ⟨_, l', h1, h2, _⟩ | ⟨i, l', h1, h2, h3, h4, _⟩
    · rw [h1] at q
      cases q
      exact .inl h2
    · rw [h4] at q
      cases q
      exact .inr ⟨i, c, h2, h3⟩
  have LA : Rel K (vs.map some) H1 G2 es := by
    refine ⟨by rw [List.length_map, lv, hl], L2'.sub, fun j d e => ?_, fun j c e => ?_, fun j j' l c c' e e' q q' => ?_⟩
    · obtain ⟨r, m, h1, h2, h3⟩ := hg j _ e
      obtain ⟨v, q1, q2, q3⟩ := gv j r h1
      refine ⟨v, q2, ?_⟩
      cases r with
      | va d' =>
        have h4 : some (E.va d') = some (E.va d) := h3
        cases h4
        exact At.mono s2 q3
      | fr c =>
        cases m with
        | true =>
          have h4 : some (E.ow c) = some (E.va d) := h3
          cases h4
        | false =>
          have h4 : c.dat.map E.va = some (E.va d) := h3
          obtain ⟨d', z1, z2⟩ := Option.map_eq_some_iff.mp h4
          cases z2
          obtain ⟨l, rfl, _, _, q4⟩ := q3
          exact hz l c d ⟨j, c, h1, h2, q1⟩ q4 z1
      | rf i =>
        have h4 : passR δ1 i m = some (E.va d) := h3
        have h5 : δ1[i]? = some (E.va d) := by
          unfold passR at h4
          cases m with
          | true =>
            simp only at h4
            split at h4
            · cases h4
            · rename_i d' q
              cases h4
              exact q
            · cases h4
          | false =>
            simp only at h4
            split at h4
            · rename_i d' q
              cases h4
              exact q
            · cases h4
        obtain ⟨v', p1, p2⟩ := L2'.va i d h5
        rw [show σ[i]? = some (some v) from q3] at p1
        cases p1
        exact p2
    · rcases own j c e with ⟨_, l, h1, _, h3, h4⟩ | ⟨i, l, h1, h2, h3, h4, h5, h6⟩
      · exact ⟨l, by rw [List.getElem?_map, h1]; rfl, h3, h4⟩
      · exact ⟨l, by rw [List.getElem?_map, h4]; rfl, h5, h6⟩
    · rw [List.getElem?_map] at q q'
      rcases own j c e with ⟨a1, l1, a2, a3, _⟩ | ⟨i, l1, a1, a2, a3, a4, _⟩ <;> rcases own j' c' e' with ⟨b1, l2, b2, b3, _⟩ | ⟨i', l2, b1, b2, b3, b4, _⟩
      · rw [a2] at q
        rw [b2] at q'
        cases q
        cases q'
        exact rr.apart a1 b1 a2 b2
      · rw [a2] at q
        rw [b4] at q'
        cases q
        cases q'
        exact absurd a3 (L.there (le1.ad ⟨i', c', b2, b3⟩))
      · rw [a4] at q
        rw [b2] at q'
        cases q
        cases q'
        exact absurd b3 (L.there (le1.ad ⟨i, c, a2, a3⟩))
      · rw [a4] at q
        rw [b4] at q'
        cases q
        cases q'
        have := L2'.dj i i' l c c' a2 b2 a3 b3
        subst this
        exact rfs_inj nd a1 b1
  refine ⟨lv.trans hn, G2, LA, fun es' H3 G3 L3 f3 le3 => ?_⟩
  have hl3 : rs.length = es'.length := by
    have := L3.len
    rw [List.length_map, lv] at this
    exact this
  have f13 : Fr (Ad σ δ) H G H3 G3 := f2.trans f3 fun a h => (owR a h).elim .inr fun z => .inl (le1.ad z)
  -- a slot that was not handed over keeps its own object
  have apart : ∀ (i : Nat) (c : Cn) (l : Addr), δ1[i]? = some (E.ow c) → σ[i]? = some (some (V.ref l)) → (∀ j : Nat, rs[j]? ≠ some (R.rf i)) → ¬ Ad (vs.map some) es l := fun i c l e q n ⟨j, c', e', q'⟩ => by
    rw [List.getElem?_map] at q'
    rcases own j c' e' with ⟨b1, l2, b2, b3, _⟩ | ⟨i', l2, b1, b2, b3, b4, _⟩
    · rw [b2] at q'
      cases q'
      exact L.there (le1.ad ⟨i, c, e, q⟩) b3
    · rw [b4] at q'
      cases q'
      have := L1.dj i i' l c c' e b2 q b3
      subst this
      exact n j b1
  have sl : ∀ (j i : Nat) (v : V), rs[j]? = some (R.rf i) → (vs.map some)[j]? = some (some v) → σ[i]? = some (some v) := fun j i v e q => by
    obtain ⟨v', p1, p2, p3⟩ := gv j _ e
    rw [p2] at q
    cases q
    exact p3
  refine ⟨⟨by rw [puts_len]; exact L1.len, L3.sub, fun i d e => ?_, fun i c e => ?_, fun i i' l c c' e e' q q' => ?_⟩, f13, (fun i c e => ?_)⟩
  · rcases puts_get hl3 e with ⟨j, h1, h2⟩ | ⟨h1, h2⟩
    · obtain ⟨v, p1, p2⟩ := L3.va j d h2
      exact ⟨v, sl j i v h1 p1, p2⟩
    · obtain ⟨v, p1, p2⟩ := L1.va i d h2
      exact ⟨v, p1, p2.mono (s2.trans f3.sub)⟩
  · rcases puts_get hl3 e with ⟨j, h1, h2⟩ | ⟨h1, h2⟩
    · obtain ⟨l, p1, p2, p3⟩ := L3.ow j c h2
      exact ⟨l, sl j i _ h1 p1, p2, p3⟩
    · obtain ⟨l, p1, p2, p3⟩ := L2'.ow i c h2
      have na := apart i c l h2 p1 h1
      exact ⟨l, p1, (f3.n l na p3.some).trans p2, p3.mono (fun o z => f3.h l o na z) f3.sub⟩
  · rcases puts_get hl3 e with ⟨j, h1, h2⟩ | ⟨h1, h2⟩ <;> rcases puts_get hl3 e' with ⟨j', h1', h2'⟩ | ⟨h1', h2'⟩
    · have a1 : (vs.map some)[j]? = some (some (V.ref l)) := by
        obtain ⟨l', p1, _⟩ := L3.ow j c h2
        have := sl j i _ h1 p1
        rw [q] at this
        cases this
        exact p1
      have a2 : (vs.map some)[j']? = some (some (V.ref l)) := by
        obtain ⟨l', p1, _⟩ := L3.ow j' c' h2'
        have := sl j' i' _ h1' p1
        rw [q'] at this
        cases this
        exact p1
      have := L3.dj j j' l c c' h2 h2' a1 a2
      subst this
      rw [h1] at h1'
      cases h1'
      rfl
    · obtain ⟨l', p1, _⟩ := L3.ow j c h2
      have := sl j i _ h1 p1
      rw [q] at this
      cases this
      obtain ⟨c2, h3⟩ := le3 j c h2
      exact absurd ⟨j, c2, h3, p1⟩ (apart i' c' l h2' q' h1')
    · obtain ⟨l', p1, _⟩ := L3.ow j' c' h2'
      have := sl j' i' _ h1' p1
      rw [q'] at this
      cases this
      obtain ⟨c2, h3⟩ := le3 j' c' h2'
      exact absurd ⟨j', c2, h3, p1⟩ (apart i c l h2 q h1)
    · exact L1.dj i i' l c c' h2 h2' q q'
  · rcases puts_get hl3 e with ⟨j, h1, h2⟩ | ⟨h1, h2⟩
    · obtain ⟨c2, h3⟩ := le3 j c h2
      rcases own j c2 h3 with ⟨b1, _⟩ | ⟨i', l2, b1, b2, _⟩
      · rw [h1] at b1
        cases b1
      · rw [h1] at b1
        cases b1
        exact le1 i c2 b2
    · exact le1 i c h2
theorem call_core {sp : DSp} {ms : List Bool} {n : Nat} {σ : L2.St} {H G H1 G1 : Hp} {δ δ1 : En} {rs : List R} {vs : List V} {es : En} {Q : VK} {W : XK} {Q3 : R → En → Prop} (L : Rel K σ H G δ) (L1 : Rel K σ H1 G1 δ1) (f1 : Fr (Ad σ δ) H G H1 G1) (le1 : Le δ1 δ)
    (rr : RRs K σ H H1 G1 rs vs) (nd : (rfs rs).Nodup) (hn : rs.length = n) (he : passes δ1 rs ms = some es) (hs : sp es Q3)
    (k : ∀ r es' v H' G', Rel K σ H' G' (puts δ1 rs es') → Fr (Ad σ δ) H G H' G' → Le (puts δ1 rs es') δ → RR K σ H H' G' r v → Rel K (vs.map some) H' G' es' → Q3 r es' → Q v H') : up K n sp vs H1 Q W := by
  obtain ⟨h1, G2, LA, h2⟩ := call_coreG L L1 f1 le1 rr nd hn he
  refine ⟨h1, G2, es, _, LA, hs, fun r es' v H3 G3 L3 f3 le3 rr3 nr q3 => ?_⟩
  obtain ⟨a1, a2, a3⟩ := h2 es' H3 G3 L3 f3 le3
  exact k r es' v H3 G3 a1 a2 a3 (rr3.grow nr fun a h => f1.free h) L3 q3
def tcall (sp : DSp) (ms : List Bool) (TA : DTA) : DT := fun δ Q => TA δ fun rs δ1 => (rfs rs).Nodup ∧ ∃ es, passes δ1 rs ms = some es ∧ sp es fun r es' => Q r (puts δ1 rs es')
theorem passes_len {δ : En} : ∀ {rs : List R} {ms : List Bool} {es : En}, passes δ rs ms = some es → rs.length = ms.length
  | [], [], _, _ => rfl
  | r :: rs, m :: ms, _, h => by
    obtain ⟨e, h1, h2⟩ := Option.bind_eq_some_iff.mp h
    obtain ⟨es, h3, rfl⟩ := Option.map_eq_some_iff.mp h2
    rw [List.length_cons, List.length_cons, passes_len h3]
  | [], _ :: _, _, h => by cases h
  | _ :: _, [], _, h => by cases h
theorem snd_call {sp : DSp} {ms : List Bool} {t : TA} {T : DTA} {n : Nat} {W : XK} (hn : ms.length = n) (a : SndA K t T) : Snd K (tCall (up K n sp) [] W t) (tcall sp ms T) := fun σ H G δ Q Q3 L h k => by
  refine a σ H G δ _ _ L h fun rs δ1 vs H1 G1 L1 f1 le1 rr q1 => ?_
  obtain ⟨nd, es, he, hs⟩ := q1
  rw [List.append_nil]
  exact call_core L L1 f1 le1 rr nd ((passes_len he).trans hn) he hs fun r es' v H' G' l f le r _ q => k _ _ v H' G' l f le r q
end
end L3
namespace L3
open PySem PySem.Spec PyProof.Rows L2
/-- a def's entry: where its owned arguments stand, the heap there -/
structure FE where
  P : Nat → Addr → Prop
  HE : Hp
  GE : Hp
structure S3 (K : PySem.W.Frag) (F : FE) (σ : L2.St) (H G : Hp) (δ : En) : Prop where
  L : Rel K σ H G δ
  f : Fr (fun a => ∃ j, F.P j a) F.HE F.GE H G
  own : ∀ (j : Nat) (c : Cn) (l : Addr), δ[j]? = some (E.ow c) → σ[j]? = some (some (V.ref l)) → F.P j l ∨ F.HE l = none
  par : ∀ (j : Nat) (l : Addr), F.P j l → σ[j]? = some (some (V.ref l))
structure Nxt (K : PySem.W.Frag) (F : FE) (as : List Nat) (σ : L2.St) (H G : Hp) (δ : En) (σ' : L2.St) (H' G' : Hp) (δ' : En) : Prop where
  s : S3 K F σ' H' G' δ'
  f : Fr (Ad σ δ) H G H' G'
  ow : ∀ l, Ad σ' δ' l → Ad σ δ l ∨ H l = none
  st : ∀ i : Nat, i ∉ as → σ'[i]? = σ[i]?
  ln : σ'.length = σ.length
section
variable {K : PySem.W.Frag} {F : FE} {as bs : List Nat} {σ σ1 σ2 : L2.St} {H G H1 G1 H2 G2 : Hp} {δ δ1 δ2 : En}
theorem Nxt.refl (s : S3 K F σ H G δ) : Nxt K F as σ H G δ σ H G δ := ⟨s, .refl, fun _ h => .inl h, fun _ _ => rfl, rfl⟩
theorem Nxt.trans (x : Nxt K F as σ H G δ σ1 H1 G1 δ1) (y : Nxt K F bs σ1 H1 G1 δ1 σ2 H2 G2 δ2) : Nxt K F (as ++ bs) σ H G δ σ2 H2 G2 δ2 where
  s := y.s
  f := x.f.trans y.f x.ow
  ow := fun l h => (y.ow l h).elim (x.ow l) fun z => .inr (x.f.free z)
  st := fun i h => (y.st i fun z => h (List.mem_append_right _ z)).trans (x.st i fun z => h (List.mem_append_left _ z))
  ln := y.ln.trans x.ln
theorem Nxt.mono (x : Nxt K F as σ H G δ σ1 H1 G1 δ1) (h : ∀ i, i ∈ as → i ∈ bs) : Nxt K F bs σ H G δ σ1 H1 G1 δ1 := ⟨x.s, x.f, x.ow, fun i n => x.st i fun z => n (h i z), x.ln⟩
/-- behind an expression -/
theorem S3.step (s : S3 K F σ H G δ) (L : Rel K σ H1 G1 δ1) (f : Fr (Ad σ δ) H G H1 G1) (le : Le δ1 δ) : S3 K F σ H1 G1 δ1 where
  L := L
  f := s.f.trans f fun a ⟨j, c, e, q⟩ => (s.own j c a e q).elim (fun z => .inl ⟨j, z⟩) .inr
  own := fun j c l e q => by
    obtain ⟨c', e'⟩ := le j c e
    exact s.own j c' l e' q
  par := s.par
theorem Nxt.step (s : S3 K F σ H G δ) (L : Rel K σ H1 G1 δ1) (f : Fr (Ad σ δ) H G H1 G1) (le : Le δ1 δ) : Nxt K F as σ H G δ σ H1 G1 δ1 := ⟨s.step L f le, f, fun l h => .inl (le.ad h), fun _ _ => rfl, rfl⟩
end
/-- what is wanted behind a statement -/
structure DE where
  nx : En → Prop
  rt : R → En → Prop
  bk : En → Prop := fun _ => False
  ct : En → Prop := fun _ => False
abbrev DS := DE → En → Prop
structure Good (K : PySem.W.Frag) (F : FE) (as : List Nat) (σ : L2.St) (H G : Hp) (δ : En) (D3 : DE) (D : Ends) : Prop where
  nx : ∀ σ' H' G' δ', Nxt K F as σ H G δ σ' H' G' δ' → D3.nx δ' → D.nx σ' H'
  bk : ∀ σ' H' G' δ', Nxt K F as σ H G δ σ' H' G' δ' → D3.bk δ' → D.bk σ' H'
  ct : ∀ σ' H' G' δ', Nxt K F as σ H G δ σ' H' G' δ' → D3.ct δ' → D.ct σ' H'
  rt : ∀ σ' H' G' δ' r v, Nxt K F as σ H G δ σ' H' G' δ' → RR K [] F.HE H' G' r v → (∀ i, r ≠ .rf i) → D3.rt r δ' → D.rt v H'
/-- t is sound for T: a statement that stores the slots as -/
def SndS (K : PySem.W.Frag) (as : List Nat) (t : TS) (T : DS) : Prop := ∀ (F : FE), (∀ i ∈ as, ∀ l, ¬ F.P i l) → ∀ (σ : L2.St) (H G : Hp) (δ : En) (D3 : DE) (D : Ends), S3 K F σ H G δ → T D3 δ → Good K F as σ H G δ D3 D → t D σ H
section
variable {K : PySem.W.Frag}
theorem Good.from {F : FE} {as bs cs : List Nat} {σ σ1 : L2.St} {H G H1 G1 : Hp} {δ δ1 : En} {D3 : DE} {D : Ends} (g : Good K F cs σ H G δ D3 D) (n : Nxt K F as σ H G δ σ1 H1 G1 δ1) (h : ∀ i, i ∈ as ++ bs → i ∈ cs) : Good K F bs σ1 H1 G1 δ1 D3 D :=
  ⟨fun _ _ _ _ m q => g.nx _ _ _ _ ((n.trans m).mono h) q, fun _ _ _ _ m q => g.bk _ _ _ _ ((n.trans m).mono h) q, fun _ _ _ _ m q => g.ct _ _ _ _ ((n.trans m).mono h) q, fun _ _ _ _ _ _ m rr nr q => g.rt _ _ _ _ _ _ ((n.trans m).mono h) rr nr q⟩
def seq (T U : DS) : DS := fun D δ => T { D with nx := U D } δ
def snext : DS := fun D δ => D.nx δ
theorem snds_next : SndS K [] tNext snext := fun F hp σ H G δ D3 D s h g => g.nx _ _ _ _ (.refl s) h
def sexpr (T : DT) : DS := fun D δ => T δ fun _ δ1 => D.nx δ1
theorem snds_expr {t : TE} {T : DT} (a : Snd K t T) : SndS K [] (tDrop t) (sexpr T) := fun F hp σ H G δ D3 D s h g =>
  a σ H G δ _ _ s.L h fun r δ1 v H1 G1 L1 f1 le1 rr q => g.nx _ _ _ _ (.step s L1 f1 le1) q
def sif (c : DTT) (T U : DS) : DS := fun D δ => c δ fun b δ1 => if b = true then T D δ1 else U D δ1
/-- what a def hands back: an owned object of its own is new for its caller -/
def outE : Option E → Option R
  | some (.va d) => some (.va d)
  | some (.ow c) => some (.fr c)
  | _ => none
def R.out (δ : En) : R → Option R
  | .va d => some (.va d)
  | .fr c => some (.fr c)
  | .rf i => outE δ[i]?
/-- e is no owned argument -/
def sret (ps : List Nat) (T : DT) : DS := fun D δ => T δ fun r δ1 => ∃ r', r.out δ1 = some r' ∧ (∀ i, r = .rf i → i ∉ ps) ∧ D.rt r' δ1
theorem rr_base0 {σ : L2.St} {HE H0 H G : Hp} {r : R} {v : V} (nr : ∀ i, r ≠ .rf i) (h : RR K σ H0 H G r v) (k : ∀ a, H0 a = none → HE a = none) : RR K [] HE H G r v := by
  cases r with
  | va d => exact h
  | fr c =>
    obtain ⟨l, e, n, g, q⟩ := h
    exact ⟨l, e, k l n, g, q⟩
  | rf i => exact absurd rfl (nr i)
def SndSP (K : PySem.W.Frag) (ps as : List Nat) (t : TS) (T : DS) : Prop := ∀ (F : FE), (∀ i l, F.P i l → i ∈ ps) → (∀ i ∈ as, ∀ l, ¬ F.P i l) → ∀ (σ : L2.St) (H G : Hp) (δ : En) (D3 : DE) (D : Ends), S3 K F σ H G δ → T D3 δ → Good K F as σ H G δ D3 D → t D σ H
theorem rr_out {σ : L2.St} {HE H0 H G : Hp} {δ : En} {r r' : R} {v : V} (L : Rel K σ H G δ) (rr : RR K σ H0 H G r v) (k : ∀ a, H0 a = none → HE a = none) (e : r.out δ = some r') (own : ∀ i c l, r = .rf i → δ[i]? = some (E.ow c) → σ[i]? = some (some (V.ref l)) → HE l = none) : RR K [] HE H G r' v ∧ ∀ i, r' ≠ .rf i := by
  cases r with
  | va d =>
    cases e
    exact ⟨rr, fun i z => nomatch z⟩
  | fr c =>
    cases e
    exact ⟨rr_base0 (fun i z => nomatch z) rr k, fun i z => nomatch z⟩
  | rf i =>
    have e2 : outE δ[i]? = some r' := e
    unfold outE at e2
    split at e2
    · rename_i d q
      cases e2
      obtain ⟨v', h1, h2⟩ := L.va i _ q
      rw [show σ[i]? = some (some v) from rr] at h1
      cases h1
      exact ⟨h2, fun i z => nomatch z⟩
    · rename_i c q
      cases e2
      obtain ⟨l, h1, h2, h3⟩ := L.ow i _ q
      rw [show σ[i]? = some (some v) from rr] at h1
      cases h1
      exact ⟨⟨l, rfl, own i c l rfl q rr, h2, h3⟩, fun i z => nomatch z⟩
    · cases e2
theorem snds_ret {t : TE} {T : DT} {ps : List Nat} (a : Snd K t T) : SndSP K ps [] (tRet t) (sret ps T) := fun F hps hp σ H G δ D3 D s h g => by
  refine a σ H G δ _ _ s.L h fun r δ1 v H1 G1 L1 f1 le1 rr q => ?_
  obtain ⟨r', e, np, q⟩ := q
  have n : Nxt K F [] σ H G δ σ H1 G1 δ1 := .step s L1 f1 le1
  obtain ⟨h1, h2⟩ := rr_out L1 rr (fun a z => s.f.free z) e fun i c l e1 e2 e3 => (n.s.own i c l e2 e3).elim (fun z => absurd (hps i l z) (np i e1)) id
  exact g.rt _ _ _ _ _ _ n h1 h2 q
theorem SndS.p {ps as : List Nat} {t : TS} {T : DS} (a : SndS K as t T) : SndSP K ps as t T := fun F _ hp => a F hp
theorem sndp_seq {ps as bs : List Nat} {t u : TS} {T U : DS} (a : SndSP K ps as t T) (b : SndSP K ps bs u U) : SndSP K ps (as ++ bs) (tSeq t u) (seq T U) := fun F hps hp σ H G δ D3 D s h g => by
  refine a F hps (fun i hi => hp i (List.mem_append_left _ hi)) σ H G δ _ _ s h ⟨fun σ' H' G' δ' n q => ?_, fun σ' H' G' δ' n q => ?_, fun σ' H' G' δ' n q => ?_, fun σ' H' G' δ' r v n rr nr q => ?_⟩
  · exact b F hps (fun i hi => hp i (List.mem_append_right _ hi)) σ' H' G' δ' _ _ n.s q (g.from n fun _ z => z)
  · exact g.bk _ _ _ _ (n.mono fun _ z => List.mem_append_left _ z) q
  · exact g.ct _ _ _ _ (n.mono fun _ z => List.mem_append_left _ z) q
  · exact g.rt _ _ _ _ _ _ (n.mono fun _ z => List.mem_append_left _ z) rr nr q
theorem sndp_if {ps as bs : List Nat} {c : TT} {t u : TS} {C : DTT} {T U : DS} (hc : SndT K c C) (a : SndSP K ps as t T) (b : SndSP K ps bs u U) : SndSP K ps (as ++ bs) (tIfS c t u) (sif C T U) := fun F hps hp σ H G δ D3 D s h g => by
  refine hc σ H G δ _ _ s.L h fun k δ1 H1 G1 L1 f1 le1 q => ?_
  have n : Nxt K F [] σ H G δ σ H1 G1 δ1 := .step s L1 f1 le1
  cases k with
  | true => exact a F hps (fun i hi => hp i (List.mem_append_left _ hi)) σ H1 G1 δ1 _ _ n.s q (g.from n fun _ z => List.mem_append_left _ z)
  | false => exact b F hps (fun i hi => hp i (List.mem_append_right _ hi)) σ H1 G1 δ1 _ _ n.s q (g.from n fun _ z => List.mem_append_right _ z)
theorem set_get {α : Type} {xs : List α} {i j : Nat} {x y : α} (h : (xs.set i x)[j]? = some y) : (i = j ∧ x = y ∧ i < xs.length) ∨ (i ≠ j ∧ xs[j]? = some y) := by
  by_cases z : i = j
  · subst z
    have hi : i < xs.length := by
      have := (List.getElem?_eq_some_iff.mp h).1
      rw [List.length_set] at this
      exact this
    rw [List.getElem?_set_self hi] at h
    cases h
    exact .inl ⟨rfl, rfl, hi⟩
  · rw [List.getElem?_set_ne z] at h
    exact .inr ⟨z, h⟩
theorem Rel.setV {σ : L2.St} {H G : Hp} {δ : En} {i : Nat} {v : V} {d : D} (L : Rel K σ H G δ) (h : At K G v d) : Rel K (σ.set i (some v)) H G (δ.set i (.va d)) where
  len := by rw [List.length_set, List.length_set]; exact L.len
  sub := L.sub
  va := fun j d' e => by
    rcases set_get e with ⟨rfl, e2, hi⟩ | ⟨ne, e2⟩
    · cases e2
      exact ⟨v, List.getElem?_set_self (by rw [L.len]; exact hi), h⟩
    · obtain ⟨v', h1, h2⟩ := L.va j d' e2
      exact ⟨v', by rw [List.getElem?_set_ne ne]; exact h1, h2⟩
  ow := fun j c e => by
    rcases set_get e with ⟨rfl, e2, hi⟩ | ⟨ne, e2⟩
    · cases e2
    · obtain ⟨l, h1, h2, h3⟩ := L.ow j c e2
      exact ⟨l, by rw [List.getElem?_set_ne ne]; exact h1, h2, h3⟩
  dj := fun j k l c c' e e' q q' => by
    rcases set_get e with ⟨rfl, e2, hi⟩ | ⟨ne, e2⟩
    · cases e2
    · rcases set_get e' with ⟨rfl, e3, hi⟩ | ⟨ne', e3⟩
      · cases e3
      · rw [List.getElem?_set_ne ne] at q
        rw [List.getElem?_set_ne ne'] at q'
        exact L.dj j k l c c' e2 e3 q q'
theorem Rel.setO {σ : L2.St} {H G : Hp} {δ : En} {i : Nat} {l : Addr} {c : Cn} (L : Rel K σ H G δ) (g : G l = none) (h : AtC K H G l c) (n : ¬ Ad σ δ l) : Rel K (σ.set i (some (.ref l))) H G (δ.set i (.ow c)) where
  len := by rw [List.length_set, List.length_set]; exact L.len
  sub := L.sub
  va := fun j d' e => by
    rcases set_get e with ⟨rfl, e2, hi⟩ | ⟨ne, e2⟩
    · cases e2
    · obtain ⟨v', h1, h2⟩ := L.va j d' e2
      exact ⟨v', by rw [List.getElem?_set_ne ne]; exact h1, h2⟩
  ow := fun j c' e => by
    rcases set_get e with ⟨rfl, e2, hi⟩ | ⟨ne, e2⟩
    · cases e2
      exact ⟨l, List.getElem?_set_self (by rw [L.len]; exact hi), g, h⟩
    · obtain ⟨l, h1, h2, h3⟩ := L.ow j c' e2
      exact ⟨l, by rw [List.getElem?_set_ne ne]; exact h1, h2, h3⟩
  dj := fun j k l' c' c'' e e' q q' => by
    rcases set_get e with ⟨rfl, e2, hi⟩ | ⟨ne, e2⟩
    · rcases set_get e' with ⟨rfl, e3, hi'⟩ | ⟨ne', e3⟩
      · rfl
      · rw [List.getElem?_set_self (by rw [L.len]; exact hi)] at q
        rw [List.getElem?_set_ne ne'] at q'
        cases q
        exact absurd ⟨k, c'', e3, q'⟩ n
    · rcases set_get e' with ⟨rfl, e3, hi'⟩ | ⟨ne', e3⟩
      · rw [List.getElem?_set_self (by rw [L.len]; exact hi')] at q'
        rw [List.getElem?_set_ne ne] at q
        cases q'
        exact absurd ⟨j, c', e2, q⟩ n
      · rw [List.getElem?_set_ne ne] at q
        rw [List.getElem?_set_ne ne'] at q'
        exact L.dj j k l' c' c'' e2 e3 q q'
theorem Rel.setN {σ : L2.St} {H G : Hp} {δ : En} {i : Nat} {v : Option V} (L : Rel K σ H G δ) : Rel K (σ.set i v) H G (δ.set i .no) where
  len := by rw [List.length_set, List.length_set]; exact L.len
  sub := L.sub
  va := fun j d' e => by
    rcases set_get e with ⟨rfl, e2, hi⟩ | ⟨ne, e2⟩
    · cases e2
    · obtain ⟨v', h1, h2⟩ := L.va j d' e2
      exact ⟨v', by rw [List.getElem?_set_ne ne]; exact h1, h2⟩
  ow := fun j c' e => by
    rcases set_get e with ⟨rfl, e2, hi⟩ | ⟨ne, e2⟩
    · cases e2
    · obtain ⟨l, h1, h2, h3⟩ := L.ow j c' e2
      exact ⟨l, by rw [List.getElem?_set_ne ne]; exact h1, h2, h3⟩
  dj := fun j k l c c' e e' q q' => by
    rcases set_get e with ⟨rfl, e2, hi⟩ | ⟨ne, e2⟩
    · cases e2
    · rcases set_get e' with ⟨rfl, e3, hi⟩ | ⟨ne', e3⟩
      · cases e3
      · rw [List.getElem?_set_ne ne] at q
        rw [List.getElem?_set_ne ne'] at q'
        exact L.dj j k l c c' e2 e3 q q'
/-- an owned object's new content -/
theorem Rel.setC {σ : L2.St} {H G H' : Hp} {δ : En} {i : Nat} {l : Addr} {c c' : Cn} (L : Rel K σ H G δ) (e : δ[i]? = some (E.ow c)) (q : σ[i]? = some (some (V.ref l))) (k : ∀ a o, a ≠ l → H a = some o → H' a = some o) (h : AtC K H' G l c') : Rel K σ H' G (δ.set i (.ow c')) where
  len := by rw [List.length_set]; exact L.len
  sub := fun a o g => by
    have : a ≠ l := fun z => by
      subst z
      rw [L.gnone ⟨i, c, e, q⟩] at g
      cases g
    exact k a o this (L.sub a o g)
  va := fun j d' e => by
    rcases set_get e with ⟨rfl, e2, hi⟩ | ⟨ne, e2⟩
    · cases e2
    · exact L.va j d' e2
  ow := fun j c2 e' => by
    rcases set_get e' with ⟨rfl, e2, hi⟩ | ⟨ne, e2⟩
    · cases e2
      exact ⟨l, q, L.gnone ⟨i, c, e, q⟩, h⟩
    · obtain ⟨l2, h1, h2, h3⟩ := L.ow j c2 e2
      have nl : l2 ≠ l := fun z => ne (L.dj i j l c c2 e e2 q (by rw [← z]; exact h1))
      exact ⟨l2, h1, h2, h3.mono (fun o z => k l2 o nl z) .refl⟩
  dj := fun j k l' c1 c2 e1 e2 q1 q2 => by
    have up : ∀ j c, (δ.set i (.ow c'))[j]? = some (E.ow c) → ∃ c2, δ[j]? = some (E.ow c2) := fun j c2 e3 => by
      rcases set_get e3 with ⟨rfl, e4, hi⟩ | ⟨ne, e4⟩
      · exact ⟨c, e⟩
      · exact ⟨c2, e4⟩
    obtain ⟨_, h1⟩ := up j c1 e1
    obtain ⟨_, h2⟩ := up k c2 e2
    exact L.dj j k l' _ _ h1 h2 q1 q2
theorem Le.set {δ : En} {i : Nat} {c c' : Cn} (e : δ[i]? = some (E.ow c)) : Le (δ.set i (.ow c')) δ := fun j c2 e2 => by
  rcases set_get e2 with ⟨rfl, _, _⟩ | ⟨_, e3⟩
  · exact ⟨c, e⟩
  · exact ⟨c2, e3⟩
theorem Nxt.setV {F : FE} {σ : L2.St} {H G : Hp} {δ : En} {i : Nat} {v : V} {d : D} (s : S3 K F σ H G δ) (hp : ∀ l, ¬ F.P i l) (h : At K G v d) : Nxt K F [i] σ H G δ (σ.set i (some v)) H G (δ.set i (.va d)) where
  s := ⟨s.L.setV h, s.f, fun j c l e q => by
    rcases set_get e with ⟨rfl, e2, hi⟩ | ⟨ne, e2⟩
    · cases e2
    · rw [List.getElem?_set_ne ne] at q
      exact s.own j c l e2 q, fun j l z => by
    have ne : i ≠ j := fun q => hp l (by rw [q]; exact z)
    rw [List.getElem?_set_ne ne]
    exact s.par j l z⟩
  f := .refl
  ow := fun l ⟨j, c, e, q⟩ => by
    rcases set_get e with ⟨rfl, e2, hi⟩ | ⟨ne, e2⟩
    · cases e2
    · rw [List.getElem?_set_ne ne] at q
      exact .inl ⟨j, c, e2, q⟩
  st := fun j n => List.getElem?_set_ne fun z => n (by rw [z]; exact List.mem_cons_self)
  ln := List.length_set
theorem Nxt.setO {F : FE} {σ : L2.St} {H0 G0 H G : Hp} {δ0 δ : En} {i : Nat} {l : Addr} {c : Cn} (s0 : S3 K F σ H0 G0 δ0) (n : Nxt K F [] σ H0 G0 δ0 σ H G δ) (le : Le δ δ0) (hp : ∀ l, ¬ F.P i l) (h0 : H0 l = none) (g : G l = none) (h : AtC K H G l c) :
    Nxt K F [i] σ H0 G0 δ0 (σ.set i (some (.ref l))) H G (δ.set i (.ow c)) where
  s := ⟨n.s.L.setO g h fun z => s0.L.there (le.ad z) h0, n.s.f, fun j c' l' e q => by
    rcases set_get e with ⟨rfl, e2, hi⟩ | ⟨ne, e2⟩
    · rw [List.getElem?_set_self (by rw [n.s.L.len]; exact hi)] at q
      cases q
      exact .inr (s0.f.free h0)
    · rw [List.getElem?_set_ne ne] at q
      exact n.s.own j c' l' e2 q, fun j l z => by
    have ne : i ≠ j := fun q => hp l (by rw [q]; exact z)
    rw [List.getElem?_set_ne ne]
    exact n.s.par j l z⟩
  f := n.f
  ow := fun l' ⟨j, c', e, q⟩ => by
    rcases set_get e with ⟨rfl, e2, hi⟩ | ⟨ne, e2⟩
    · rw [List.getElem?_set_self (by rw [n.s.L.len]; exact hi)] at q
      cases q
      exact .inr h0
    · rw [List.getElem?_set_ne ne] at q
      exact .inl (le.ad ⟨j, c', e2, q⟩)
  st := fun j n => List.getElem?_set_ne fun z => n (by rw [z]; exact List.mem_cons_self)
  ln := List.length_set
/-- x = e: it stands still from now on -/
def sset (i : Nat) (T : DT) : DS := fun D δ => T δ fun r δ1 => ∃ d, r.still δ1 = some d ∧ D.nx (δ1.set i (.va d))
theorem snds_set {i : Nat} {t : TE} {T : DT} (a : Snd K t T) : SndS K [i] (tAsg t (gName i)) (sset i T) := fun F hp σ H G δ D3 D s h g => by
  refine a σ H G δ _ _ s.L h fun r δ1 v H1 G1 L1 f1 le1 rr q => ?_
  obtain ⟨d, e, q⟩ := q
  obtain ⟨G2, L2, f2, s2, h2, _⟩ := settle s.L L1 f1 le1 rr e
  have n : Nxt K F [] σ H G δ σ H1 G2 δ1 := .step s L2 f2 le1
  exact g.nx _ _ _ _ (n.trans (Nxt.setV n.s (hp i List.mem_cons_self) h2)) q
/-- x = e: an object of our own -/
def ssetO (i : Nat) (T : DT) : DS := fun D δ => T δ fun r δ1 => ∃ c, r = .fr c ∧ D.nx (δ1.set i (.ow c))
theorem snds_setO {i : Nat} {t : TE} {T : DT} (a : Snd K t T) : SndS K [i] (tAsg t (gName i)) (ssetO i T) := fun F hp σ H G δ D3 D s h g => by
  refine a σ H G δ _ _ s.L h fun r δ1 v H1 G1 L1 f1 le1 rr q => ?_
  obtain ⟨c, rfl, q⟩ := q
  obtain ⟨l, rfl, n0, g0, hc⟩ := rr
  exact g.nx _ _ _ _ (Nxt.setO s (.step s L1 f1 le1) le1 (hp i List.mem_cons_self) n0 g0 hc) q
end
end L3
namespace L3
open PySem PySem.Spec PyProof.Rows L2
section
variable {K : PySem.W.Frag}
theorem fr_upd {A : Addr → Prop} {H G : Hp} {l : Addr} {o : HO} (h : A l) : Fr A H G (upd H l o) G where
  h := fun a u n e => by
    have : a ≠ l := fun z => n (by rw [z]; exact h)
    rw [upd_ne this]
    exact e
  g := fun _ _ e => e
  n := fun _ _ _ => rfl
  d := fun a e => by
    unfold upd
    split
    · exact fun z => nomatch z
    · exact e
theorem Rel.upC {σ : L2.St} {H G : Hp} {δ : En} {i : Nat} {l : Addr} {c c' : Cn} {o : HO} (L : Rel K σ H G δ) (e : δ[i]? = some (E.ow c)) (q : σ[i]? = some (some (V.ref l))) (h : AtC K (upd H l o) G l c') :
    Rel K σ (upd H l o) G (δ.set i (.ow c')) ∧ Fr (Ad σ δ) H G (upd H l o) G ∧ Le (δ.set i (.ow c')) δ :=
  ⟨L.setC e q (fun a u n g => by rw [upd_ne n]; exact g) h, fr_upd ⟨i, c, e, q⟩, Le.set e⟩
theorem Rel.owl {σ : L2.St} {H G : Hp} {δ : En} {i : Nat} {v : V} {xs : List D} (L : Rel K σ H G δ) (e : δ[i]? = some (E.ow (.l xs))) (q : σ[i]? = some (some v)) : ∃ l vs, v = .ref l ∧ H l = some (.lst vs) ∧ AtL K G vs xs := by
  obtain ⟨l, h1, _, vs, h2, h3⟩ := L.ow i _ e
  rw [q] at h1
  cases h1
  exact ⟨l, vs, rfl, h2, h3⟩
theorem Le.setV {δ : En} (i : Nat) (d : D) : Le (δ.set i (.va d)) δ := fun j c e => by
  rcases set_get e with ⟨_, z, _⟩ | ⟨_, z⟩
  · cases z
  · exact ⟨c, z⟩
abbrev DG := D → En → (En → Prop) → Prop
abbrev DGs := List D → En → (En → Prop) → Prop
def SndG (K : PySem.W.Frag) (as : List Nat) (g : TG) (T : DG) : Prop := ∀ (F : FE), (∀ i ∈ as, ∀ l, ¬ F.P i l) → ∀ (σ : L2.St) (H G : Hp) (δ : En) (v : V) (d : D) (Q : L2.St → Hp → Prop) (Q3 : En → Prop), S3 K F σ H G δ → At K G v d → T d δ Q3 →
  (∀ σ' H' G' δ', Nxt K F as σ H G δ σ' H' G' δ' → Le δ' δ → Q3 δ' → Q σ' H') → g v σ H Q
def SndGs (K : PySem.W.Frag) (as : List Nat) (g : TGs) (T : DGs) : Prop := ∀ (F : FE), (∀ i ∈ as, ∀ l, ¬ F.P i l) → ∀ (σ : L2.St) (H G : Hp) (δ : En) (vs : List V) (ds : List D) (Q : L2.St → Hp → Prop) (Q3 : En → Prop), S3 K F σ H G δ → AtL K G vs ds → T ds δ Q3 →
  (∀ σ' H' G' δ', Nxt K F as σ H G δ σ' H' G' δ' → Le δ' δ → Q3 δ' → Q σ' H') → g vs σ H Q
def dName (i : Nat) : DG := fun d δ Q => Q (δ.set i (.va d))
theorem sndg_name {i : Nat} : SndG K [i] (gName i) (dName i) := fun F hp σ H G δ v d Q Q3 s h q k => k _ _ _ _ (Nxt.setV s (hp i List.mem_cons_self) h) (Le.setV i d) q
def dTup (n : Nat) (T : DGs) : DG := fun d δ Q => ∃ ds, d = .tup ds ∧ ds.length = n ∧ T ds δ Q
theorem sndg_tup {n : Nat} {as : List Nat} {g : TGs} {T : DGs} (a : SndGs K as g T) : SndG K as (gTup K n g) (dTup n T) := fun F hp σ H G δ v d Q Q3 s h q k => by
  obtain ⟨ds, rfl, hl, q⟩ := q
  cases h with
  | tup h t => exact ⟨_, _, rfl, s.L.sub.sqT h, by rw [t.length]; exact hl, a F hp σ H G δ _ ds Q Q3 s t q k⟩
def dNil : DGs := fun ds δ Q => ds = [] ∧ Q δ
def dCons (T : DG) (U : DGs) : DGs := fun ds δ Q => ∃ d r, ds = d :: r ∧ T d δ fun δ1 => U r δ1 Q
theorem sndgs_nil : SndGs K [] gNil dNil := fun F hp σ H G δ vs ds Q Q3 s h q k => by
  obtain ⟨rfl, q⟩ := q
  cases h
  exact ⟨rfl, k _ _ _ _ (.refl s) .refl q⟩
theorem sndgs_cons {as bs : List Nat} {g : TG} {gs : TGs} {T : DG} {U : DGs} (a : SndG K as g T) (b : SndGs K bs gs U) : SndGs K (as ++ bs) (gCons g gs) (dCons T U) := fun F hp σ H G δ vs ds Q Q3 s h q k => by
  obtain ⟨d, r, rfl, q⟩ := q
  cases h with
  | cons h t =>
    refine ⟨_, _, rfl, a F (fun i hi => hp i (List.mem_append_left _ hi)) σ H G δ _ d _ _ s h q fun σ1 H1 G1 δ1 n le q1 => ?_⟩
    exact b F (fun i hi => hp i (List.mem_append_right _ hi)) σ1 H1 G1 δ1 _ r _ _ n.s (t.mono n.f.sub) q1 fun σ2 H2 G2 δ2 n2 le2 q2 => k _ _ _ _ (n.trans n2) (le2.trans le) q2
/-- xs[i] = .. of a list of our own -/
def dSub (To Ti : DT) : DG := fun d δ Q => To δ fun ro δ1 => Ti δ1 fun ri δ2 => ∃ i xs k j, ro = .rf i ∧ δ2[i]? = some (E.ow (.l xs)) ∧ ri = .va (.int k) ∧ ixN xs.length k = some j ∧ Q (δ2.set i (.ow (.l (xs.set j d))))
theorem sndg_sub {to ti : TE} {To Ti : DT} (a : Snd K to To) (b : Snd K ti Ti) : SndG K [] (gSub to ti rSetL) (dSub To Ti) := fun F hp σ H G δ v d Q Q3 s h q k => by
  refine a σ H G δ _ _ s.L q fun ro δ1 vo H1 G1 L1 f1 le1 rr1 q1 => ?_
  refine b σ H1 G1 δ1 _ _ L1 q1 fun ri δ2 vi H2 G2 L2 f2 le2 rr2 q2 => ?_
  obtain ⟨i, xs, m, j, rfl, e, rfl, ej, q⟩ := q2
  obtain ⟨l, vs, rfl, h2, t2⟩ := L2.owl e rr1
  obtain ⟨L3, f3, le3⟩ := L2.upC (o := .lst (vs.set j v)) (c' := .l (xs.set j d)) e rr1 ⟨_, upd_same, t2.set (h.mono (f1.sub.trans f2.sub)) j⟩
  refine ⟨l, vs, m, j, rfl, rr_int rr2, h2, by rw [t2.length]; exact ej, ?_⟩
  have f12 : Fr (Ad σ δ) H G H2 G2 := f1.trans f2 fun a h => .inl (le1.ad h)
  exact k _ _ _ _ (Nxt.step s L3 (f12.trans f3 fun a h => .inl ((le2.trans le1).ad h)) (le3.trans (le2.trans le1))) (le3.trans (le2.trans le1)) q
/-- target = e -/
def sasg (T : DT) (U : DG) : DS := fun D δ => T δ fun r δ1 => ∃ d, r.still δ1 = some d ∧ U d δ1 D.nx
theorem snds_asg {as : List Nat} {t : TE} {g : TG} {T : DT} {U : DG} (a : Snd K t T) (b : SndG K as g U) : SndS K as (tAsg t g) (sasg T U) := fun F hp σ H G δ D3 D s h g => by
  refine a σ H G δ _ _ s.L h fun r δ1 v H1 G1 L1 f1 le1 rr q => ?_
  obtain ⟨d, e, q⟩ := q
  obtain ⟨G2, L2, f2, s2, h2, _⟩ := settle s.L L1 f1 le1 rr e
  have n : Nxt K F [] σ H G δ σ H1 G2 δ1 := .step s L2 f2 le1
  exact b F hp σ H1 G2 δ1 v d _ _ n.s h2 q fun σ' H' G' δ' n2 _ q2 => g.nx _ _ _ _ (n.trans n2) q2
/-- a, b = x, y with plain names; own: true -/
def storeR (δ : En) : Bool → R → Option E
  | true, .fr c => some (.ow c)
  | true, .va d => some (.va d)
  | true, .rf _ => none
  | false, r => (r.still δ).map E.va
def stores (δ : En) : List Nat → List Bool → List R → Option En
  | [], [], [] => some δ
  | i :: is, m :: ms, r :: rs => (storeR δ m r).bind fun e => (stores δ is ms rs).map fun δ' => δ'.set i e
  | _, _, _ => none
theorem ty_lst {H : Hp} {l : Addr} {vs : List V} (h : H l = some (.lst vs)) : tyV K "list" (.ref l) H := .inl ⟨rfl, _, SqL.of h⟩
/-- xs.m(..) of a list of our own: f tells the new content and the result -/
def tlm (f : List D → List D → (D → List D → Prop) → Prop) (To : DT) (TA : DTA) : DT := fun δ Q => To δ fun ro δ1 => ∃ i xs0, ro = .rf i ∧ δ1[i]? = some (E.ow (.l xs0)) ∧ TA δ1 fun rs δ2 => ∃ xs ds, δ2[i]? = some (E.ow (.l xs)) ∧ stills δ2 rs = some ds ∧
  f xs ds fun d ys => Q (.va d) (δ2.set i (.ow (.l ys)))
def SndM (K : PySem.W.Frag) (r : V → List V → Hp → VK → Prop) (f : List D → List D → (D → List D → Prop) → Prop) : Prop := ∀ (H G : Hp) (l : Addr) (vs us : List V) (xs ds : List D) (Q : VK) (Q3 : D → List D → Prop), Sub G H → H l = some (.lst vs) → AtL K G vs xs → AtL K G us ds → f xs ds Q3 →
  (∀ d ys v ws, At K G v d → AtL K G ws ys → Q3 d ys → Q v (upd H l (.lst ws))) → r (.ref l) us H Q
theorem snd_lm {r : V → List V → Hp → VK → Prop} {f : List D → List D → (D → List D → Prop) → Prop} {to : TE} {t : TA} {To : DT} {T : DTA} (hr : SndM K r f) (a : Snd K to To) (b : SndA K t T) : Snd K (tBM K "list" r to t) (tlm f To T) := fun σ H G δ Q Q3 L h k => by
  refine a σ H G δ _ _ L h fun ro δ1 v H1 G1 L1 f1 le1 rr q => ?_
  obtain ⟨i, xs0, rfl, e0, q⟩ := q
  obtain ⟨l, vs0, rfl, g0, _⟩ := L1.owl e0 rr
  refine ⟨ty_lst g0, ?_⟩
  refine b σ H1 G1 δ1 _ _ L1 q fun rs δ2 us H2 G2 L2 f2 le2 rrs q => ?_
  obtain ⟨xs, ds, e, es, hf⟩ := q
  obtain ⟨G3, L3, f3, s3, h3⟩ := settles L1 le2 L2 f2 rrs es
  obtain ⟨l', vs, e1, g1, t1⟩ := L3.owl e rr
  cases e1
  refine hr H2 G3 l vs us xs ds _ _ L3.sub g1 t1 h3 hf fun d ys v ws hd hy q => ?_
  obtain ⟨L4, f4, le4⟩ := L3.upC (o := .lst ws) (c' := .l ys) e rr ⟨_, upd_same, hy⟩
  have f13 : Fr (Ad σ δ) H G H2 G3 := f1.trans f3 fun a h => .inl (le1.ad h)
  exact k (.va d) _ v _ _ L4 (f13.trans f4 fun a h => .inl ((le2.trans le1).ad h)) (le4.trans (le2.trans le1)) hd q
def appF : List D → List D → (D → List D → Prop) → Prop
  | xs, [d], Q => xs.length < sizeLine ∧ Q .non (xs ++ [d])
  | _, _, _ => False
theorem sndm_append : SndM K rAppend appF := fun H G l vs us xs ds Q Q3 s h t u hf k => by
  unfold appF at hf
  split at hf
  · cases u with
    | cons u1 u2 =>
      cases u2
      exact ⟨l, vs, _, rfl, rfl, h, by rw [t.length]; exact hf.1, k _ _ _ _ .non (t.append (.one u1)) hf.2⟩
  · exact hf.elim
end
end L3
namespace L3
open PySem PySem.Spec PyProof.Rows L2
section
variable {K : PySem.W.Frag}
abbrev DI := En → (List D → List (Nat × Cn) → En → Prop) → Prop
/-- the turns of J tell these items while the slots at cs hold what they hold -/
def ItOk (K : PySem.W.Frag) (J : It) (items : List D) (cs : List (Nat × Cn)) (σ0 : L2.St) (G0 : Hp) : Prop := ∀ (σ : L2.St) (H G : Hp) (δ : En), Rel K σ H G δ → Sub G0 G → (∀ p ∈ cs, δ[p.1]? = some (E.ow p.2) ∧ σ[p.1]? = σ0[p.1]?) →
  (∀ (k : Nat) (x : D), items[k]? = some x → J.go k H ∧ ∀ v H', J.yld k H v H' → ∃ G', Gr H G H' G' ∧ Sub G' H' ∧ At K G' v x) ∧ J.stop items.length H
def SndI (K : PySem.W.Frag) (wi : TI) (S : DI) : Prop := ∀ (σ : L2.St) (H G : Hp) (δ : En) (R : It → Hp → Prop) (Q3 : List D → List (Nat × Cn) → En → Prop), Rel K σ H G δ → S δ Q3 →
  (∀ items cs δ' J H' G', Rel K σ H' G' δ' → Fr (Ad σ δ) H G H' G' → Le δ' δ → ItOk K J items cs σ G' → Q3 items cs δ' → R J H') → wi σ H R
def srcE (i : Nat) : Option E → Option (List D × List (Nat × Cn))
  | some (.ow (.l xs)) => some (xs, [(i, .l xs)])
  | some (.va (.lst xs)) => some (xs, [])
  | _ => none
/-- the list that a result shows, and the slot that it leans on -/
def srcL (δ : En) : R → Option (List D × List (Nat × Cn))
  | .va (.lst xs) => some (xs, [])
  | .va (.frz xs) => some (xs, [])
  | .fr (.l xs) => some (xs, [])
  | .rf i => srcE i δ[i]?
  | _ => none
/-- a list's address, for as long as cs stands -/
def LstAt (K : PySem.W.Frag) (a : Addr) (xs : List D) (cs : List (Nat × Cn)) (σ0 : L2.St) (G0 : Hp) : Prop := ∀ (σ : L2.St) (H G : Hp) (δ : En), Rel K σ H G δ → Sub G0 G → (∀ p ∈ cs, δ[p.1]? = some (E.ow p.2) ∧ σ[p.1]? = σ0[p.1]?) → ∃ vs, SqL K H a vs ∧ AtL K G vs xs
theorem LstAt.sub {a : Addr} {xs : List D} {cs : List (Nat × Cn)} {σ0 : L2.St} {G0 G1 : Hp} (h : LstAt K a xs cs σ0 G0) (s : Sub G0 G1) : LstAt K a xs cs σ0 G1 := fun σ H G δ L s' c => h σ H G δ L (s.trans s') c
theorem srcL_at {σ : L2.St} {H0 G0 H G : Hp} {δ0 δ : En} {r : R} {v : V} {xs : List D} {cs : List (Nat × Cn)} (L0 : Rel K σ H0 G0 δ0) (L : Rel K σ H G δ) (f : Fr (Ad σ δ0) H0 G0 H G) (le : Le δ δ0) (rr : RR K σ H0 H G r v) (e : srcL δ r = some (xs, cs)) :
    ∃ a G', v = .ref a ∧ Rel K σ H G' δ ∧ Fr (Ad σ δ0) H0 G0 H G' ∧ Sub G G' ∧ LstAt K a xs cs σ G' ∧ (∃ vs, SqL K H a vs) ∧ ∀ b, G' b ≠ G b → v = .ref b ∧ ∃ c, r = .fr c := by
  have lst : ∀ {v : V}, At K G v (.lst xs) → ∃ a, v = .ref a ∧ LstAt K a xs [] σ G ∧ ∃ vs, SqL K H a vs := fun h => by
    cases h with
    | lst h1 t => exact ⟨_, rfl, fun σ H G' δ L s _ => ⟨_, SqL.of (L.sub _ _ (s _ _ h1)), t.mono s⟩, _, SqL.of (L.sub _ _ h1)⟩
  cases r with
  | va d =>
    cases d with
    | lst ys =>
      cases e
      obtain ⟨a, rfl, h, h2⟩ := lst rr
      exact ⟨a, G, rfl, L, f, .refl, h, h2, fun b z => absurd rfl z⟩
    | frz ys =>
      cases e
      cases (show At K G v (.frz xs) from rr) with
      | frz h1 t => exact ⟨_, G, rfl, L, f, .refl, fun σ H G' δ L s _ => ⟨_, L.sub.sqL (s.sqL h1), t.mono s⟩, ⟨_, L.sub.sqL h1⟩, fun b z => absurd rfl z⟩
    | _ => cases e
  | fr c =>
    cases c with
    | l ys =>
      cases e
      have e2 : (R.fr (.l xs)).still δ = some (.lst xs) := rfl
      obtain ⟨G', L', f', s', h', ch⟩ := settle L0 L f le rr e2
      cases h' with
      | lst h1 t => exact ⟨_, G', rfl, L', f', s', fun σ H G' δ L s _ => ⟨_, SqL.of (L.sub _ _ (s _ _ h1)), t.mono s⟩, ⟨_, SqL.of (L'.sub _ _ h1)⟩, fun b z => (ch b z).2⟩
    | d kvs => cases e
    | o cn fs => cases e
  | rf i =>
    have e2 : srcE i δ[i]? = some (xs, cs) := e
    unfold srcE at e2
    split at e2
    · rename_i ys q
      cases e2
      obtain ⟨l, vs, rfl, h1, t1⟩ := L.owl q rr
      refine ⟨l, G, rfl, L, f, .refl, fun σ' H' G' δ' L' s' c => ?_, ⟨_, SqL.of h1⟩, fun b z => absurd rfl z⟩
      obtain ⟨c1, c2⟩ := c (i, .l xs) List.mem_cons_self
      obtain ⟨l', vs', e3, h2, t2⟩ := L'.owl c1 (c2.trans rr)
      cases e3
      exact ⟨vs', SqL.of h2, t2⟩
    · rename_i ys q
      cases e2
      obtain ⟨v', h1, h2⟩ := L.va i _ q
      rw [show σ[i]? = some (some v) from rr] at h1
      cases h1
      obtain ⟨a, rfl, h, h3⟩ := lst h2
      exact ⟨a, G, rfl, L, f, .refl, h, h3, fun b z => absurd rfl z⟩
    · cases e2
theorem it_list {a : Addr} {xs : List D} {cs : List (Nat × Cn)} {σ0 : L2.St} {G0 : Hp} (h : LstAt K a xs cs σ0 G0) : ItOk K (Itl K a) xs cs σ0 G0 := fun σ H G δ L s c => by
  obtain ⟨vs, h1, t1⟩ := h σ H G δ L s c
  refine ⟨fun k x e => ?_, vs, h1, by rw [t1.length]; exact Nat.le_refl _⟩
  obtain ⟨v, e2, hv⟩ := t1.get e
  refine ⟨⟨vs, v, h1, e2⟩, fun u H' y => ?_⟩
  obtain ⟨rfl, y⟩ := y
  have := y vs h1
  rw [e2] at this
  cases this
  exact ⟨G, .refl, L.sub, hv⟩
def ilist (T : DT) : DI := fun δ Q => T δ fun r δ1 => ∃ xs cs, srcL δ1 r = some (xs, cs) ∧ Q xs cs δ1
theorem sndi_list {t : TE} {T : DT} (a : Snd K t T) : SndI K (iList K t) (ilist T) := fun σ H G δ R Q3 L h k => by
  refine a σ H G δ _ _ L h fun r δ1 v H1 G1 L1 f1 le1 rr q => ?_
  obtain ⟨xs, cs, e, q⟩ := q
  obtain ⟨a, G2, rfl, L2, f2, s2, la, ex, _⟩ := srcL_at L L1 f1 le1 rr e
  exact ⟨a, rfl, ex, k xs cs δ1 _ H1 G2 L2 f2 le1 (it_list la) q⟩
def itup (T : DT) : DI := fun δ Q => T δ fun r δ1 => ∃ xs, r = .va (.tup xs) ∧ Q xs [] δ1
theorem sndi_tup {t : TE} {T : DT} (a : Snd K t T) : SndI K (iTup K t) (itup T) := fun σ H G δ R Q3 L h k => by
  refine a σ H G δ _ _ L h fun r δ1 v H1 G1 L1 f1 le1 rr q => ?_
  obtain ⟨xs, rfl, q⟩ := q
  cases (show At K G1 v (.tup xs) from rr) with
  | @tup a vs _ h1 t1 =>
    refine ⟨a, rfl, ⟨vs, L1.sub.sqT h1⟩, k xs [] δ1 _ H1 G1 L1 f1 le1 (fun σ H G δ L s c => ?_) q⟩
    refine ⟨fun k x e => ?_, vs, L.sub.sqT (s.sqT h1), by rw [t1.length]; exact Nat.le_refl _⟩
    obtain ⟨v, e2, hv⟩ := t1.get e
    refine ⟨⟨vs, v, L.sub.sqT (s.sqT h1), e2⟩, fun u H' y => ?_⟩
    obtain ⟨rfl, y⟩ := y
    have := y vs (L.sub.sqT (s.sqT h1))
    rw [e2] at this
    cases this
    exact ⟨G, .refl, L.sub, hv.mono s⟩
def rangeD (lo : Int) (n : Nat) : List D := (List.range n).map fun k => D.int (lo + (k : Nat))
theorem rangeD_len {lo : Int} {n : Nat} : (rangeD lo n).length = n := by unfold rangeD; rw [List.length_map, List.length_range]
theorem rangeD_get {lo : Int} {n k : Nat} {x : D} (h : (rangeD lo n)[k]? = some x) : k < n ∧ x = .int (lo + (k : Nat)) := by
  unfold rangeD at h
  rw [List.getElem?_map] at h
  obtain ⟨j, e1, rfl⟩ := Option.map_eq_some_iff.mp h
  obtain ⟨h1, h2⟩ := List.getElem?_eq_some_iff.mp e1
  rw [List.getElem_range] at h2
  subst h2
  exact ⟨by simpa using h1, rfl⟩
theorem it_range {lo : Int} {n : Nat} {σ0 : L2.St} {G0 : Hp} : ItOk K (Itr lo n) (rangeD lo n) [] σ0 G0 := fun σ H G δ L s c => by
  refine ⟨fun k x e => ?_, by show n ≤ _; rw [rangeD_len]; exact Nat.le_refl _⟩
  obtain ⟨h1, rfl⟩ := rangeD_get e
  refine ⟨h1, fun u H' y => ?_⟩
  obtain ⟨rfl, rfl⟩ := y
  exact ⟨G, .refl, L.sub, .int _⟩
def irng1 (T : DT) : DI := fun δ Q => T δ fun r δ1 => ∃ j, r = .va (.int j) ∧ (-(2 ^ 62) ≤ j ∧ j < 2 ^ 62) ∧ Q (rangeD 0 j.toNat) [] δ1
theorem sndi_rng1 {t : TE} {T : DT} (a : Snd K t T) : SndI K (iRng1 (tCons t tNil)) (irng1 T) := fun σ H G δ R Q3 L h k => by
  refine a σ H G δ _ _ L h fun r δ1 v H1 G1 L1 f1 le1 rr q => ?_
  obtain ⟨j, rfl, ⟨b1, b2⟩, q⟩ := q
  have ev := rr_int rr
  subst ev
  exact ⟨j, rfl, b1, b2, k _ [] δ1 _ H1 G1 L1 f1 le1 it_range q⟩
/-- zip of two lists -/
def zipD : List D → List D → List D
  | x :: xs, y :: ys => .tup [x, y] :: zipD xs ys
  | _, _ => []
theorem zipD_get : ∀ {xs ys : List D} {k : Nat} {z : D}, (zipD xs ys)[k]? = some z → ∃ x y, xs[k]? = some x ∧ ys[k]? = some y ∧ z = .tup [x, y]
  | [], ys, k, z, h => by simp [zipD] at h
  | _ :: _, [], k, z, h => by simp [zipD] at h
  | x :: xs, y :: ys, 0, z, h => by
    simp [zipD] at h
    subst h
    exact ⟨x, y, rfl, rfl, rfl⟩
  | x :: xs, y :: ys, k + 1, z, h => by
    simp [zipD] at h
    obtain ⟨a, b, h1, h2, h3⟩ := zipD_get h
    exact ⟨a, b, by simpa using h1, by simpa using h2, h3⟩
theorem zipD_len : ∀ {xs ys : List D}, xs.length ≤ (zipD xs ys).length ∨ ys.length ≤ (zipD xs ys).length
  | [], ys => .inl (by simp)
  | _ :: _, [] => .inr (by simp)
  | x :: xs, y :: ys => (zipD_len (xs := xs) (ys := ys)).elim (fun h => .inl (by simp [zipD]; exact h)) fun h => .inr (by simp [zipD]; exact h)
def izip (T U : DT) : DI := fun δ Q => T δ fun r δ1 => U δ1 fun u δ2 => ∃ xs cs ys cs', srcL δ2 r = some (xs, cs) ∧ srcL δ2 u = some (ys, cs') ∧ Q (zipD xs ys) (cs ++ cs') δ2
theorem sndi_zip {t u : TE} {T U : DT} (a : Snd K t T) (b : Snd K u U) : SndI K (iZip K (tCons t (tCons u tNil))) (izip T U) := fun σ H G δ R Q3 L h k => by
  refine a σ H G δ _ _ L h fun r δ1 v H1 G1 L1 f1 le1 rr q => ?_
  refine b σ H1 G1 δ1 _ _ L1 q fun u δ2 w H2 G2 L2 f2 le2 rr2 q => ?_
  obtain ⟨xs, cs, ys, cs', e1, e2, q⟩ := q
  have f12 : Fr (Ad σ δ) H G H2 G2 := f1.trans f2 fun a h => .inl (le1.ad h)
  obtain ⟨a, G3, rfl, L3, f3, s3, la, ⟨vs0, ex⟩, ch⟩ := srcL_at L L2 f12 (le2.trans le1) (rr.on L f1 le1 f2) e1
  have rr3 : RR K σ H H2 G3 u w := by
    cases u with
    | va d => exact At.mono s3 rr2
    | rf i => exact rr2
    | fr c =>
      obtain ⟨l, rfl, n0, g, q⟩ := rr2
      refine ⟨l, rfl, f1.free n0, ?_, q.mono (fun _ z => z) s3⟩
      by_cases z : G3 l = G2 l
      · rw [z]
        exact g
      · obtain ⟨ev, c, ec⟩ := ch l z
        cases ev
        subst ec
        obtain ⟨l', e3, _, _, hc⟩ := rr
        cases e3
        exact absurd n0 hc.some
  obtain ⟨b, G4, rfl, L4, f4, s4, lb, ⟨us0, ex2⟩, _⟩ := srcL_at L L3 f3 (le2.trans le1) rr3 e2
  refine ⟨a, b, vs0, us0, rfl, ex, ex2, k _ (cs ++ cs') δ2 _ H2 G4 L4 f4 (le2.trans le1) (fun σ H G δ L s c => ?_) q⟩
  obtain ⟨vs, h1, t1⟩ := la.sub s4 σ H G δ L s fun p hp => c p (List.mem_append_left _ hp)
  obtain ⟨us, h2, t2⟩ := lb σ H G δ L s fun p hp => c p (List.mem_append_right _ hp)
  refine ⟨fun k z e => ?_, vs, us, h1, h2, by rw [t1.length, t2.length]; exact zipD_len⟩
  obtain ⟨x, y, e1, e2, rfl⟩ := zipD_get e
  obtain ⟨v, e3, hv⟩ := t1.get e1
  obtain ⟨w, e4, hw⟩ := t2.get e2
  refine ⟨⟨vs, us, v, w, h1, h2, e3, e4⟩, fun u H' z => ?_⟩
  obtain ⟨T, x', y', rfl, hT, rfl, z1, z2⟩ := z
  have q1 := z1 vs h1
  have q2 := z2 us h2
  rw [e3] at q1
  rw [e4] at q2
  cases q1
  cases q2
  obtain ⟨f3, s3⟩ := gr_keep (o := .tup [v, w]) L.sub hT
  exact ⟨_, f3, s3, At.tup (SqT.of upd_same) (.cons (hv.mono f3.sub) (.one (hw.mono f3.sub)))⟩
def sfor (as : List Nat) (S : DI) (Gd : DG) (B : DS) : DS := fun D δ => S δ fun items cs δ1 => (∀ p ∈ cs, p.1 ∉ as) ∧ ∃ I : Nat → En → Prop, I 0 δ1 ∧ (∀ k δ, I k δ → ∀ p ∈ cs, δ[p.1]? = some (E.ow p.2)) ∧
  (∀ k x δ, items[k]? = some x → I k δ → Gd x δ fun δ' => B { D with nx := I (k + 1), ct := I (k + 1), bk := D.nx } δ') ∧ (∀ δ, I items.length δ → D.nx δ)
theorem sndp_for {ps gs bs as : List Nat} {wi : TI} {g : TG} {tb : TS} {S : DI} {Gd : DG} {B : DS} (hi : SndI K wi S) (hg : SndG K gs g Gd) (hb : SndSP K ps bs tb B) (hh : ∀ i, i ∈ gs ++ bs → i ∈ as) : SndSP K ps as (tFor wi g tb) (sfor as S Gd B) := fun F hps hp σ H G δ D3 D s h gd => by
  refine hi σ H G δ _ _ s.L h fun items cs δ1 J H1 G1 L1 f1 le1 it q => ?_
  obtain ⟨nc, I, I0, Ic, It, Ie⟩ := q
  have n0 : Nxt K F [] σ H G δ σ H1 G1 δ1 := .step s L1 f1 le1
  refine ⟨fun i m σ' H' => m = items.length - i ∧ i ≤ items.length ∧ ∃ G' δ', Nxt K F as σ H1 G1 δ1 σ' H' G' δ' ∧ I i δ', ⟨items.length, by simp, Nat.zero_le _, G1, δ1, .refl n0.s, I0⟩, ?_⟩
  rintro i m σ' H' ⟨rfl, hi, G', δ', n, hI⟩
  have ok := it σ' H' G' δ' n.s.L n.f.sub fun p hp => ⟨Ic i δ' hI p hp, n.st p.1 (nc p hp)⟩
  by_cases hlt : i < items.length
  · obtain ⟨hgo, hy⟩ := ok.1 i items[i] (List.getElem?_eq_getElem hlt)
    refine .inr ⟨hgo, fun σ2 H2 => ∃ G2 δ2, Nxt K F as σ H1 G1 δ1 σ2 H2 G2 δ2 ∧ I (i + 1) δ2, fun σ2 H2 ⟨G2, δ2, n2, h2⟩ => ⟨items.length - (i + 1), by omega, rfl, hlt, G2, δ2, n2, h2⟩, fun x H'' y => ?_⟩
    obtain ⟨G'', fg, sg, hx⟩ := hy x H'' y
    have n1 : Nxt K F [] σ' H' G' δ' σ' H'' G'' δ' := .step n.s (n.s.L.grow fg sg) fg.fr .refl
    refine hg F (fun i hi => hp i (hh i (List.mem_append_left _ hi))) σ' H'' G'' δ' x _ _ _ n1.s hx (It i _ δ' (List.getElem?_eq_getElem hlt) hI) fun σ2 H2 G2 δ2 n2 _ q2 => ?_
    have nn : Nxt K F as σ H1 G1 δ1 σ2 H2 G2 δ2 := ((n.trans n1).trans n2).mono fun j hj => by
      simp only [List.append_nil, List.mem_append] at hj
      rcases hj with hj | hj
      · exact hj
      · exact hh j (List.mem_append_left _ hj)
    refine hb F hps (fun i hi => hp i (hh i (List.mem_append_right _ hi))) σ2 H2 G2 δ2 _ _ nn.s q2 ⟨fun σ3 H3 G3 δ3 n3 q3 => ⟨G3, δ3, (nn.trans n3).mono fun j hj => ?_, q3⟩, fun σ3 H3 G3 δ3 n3 q3 => gd.nx _ _ _ _ ((n0.trans (nn.trans n3)).mono fun j hj => ?_) q3, fun σ3 H3 G3 δ3 n3 q3 => ⟨G3, δ3, (nn.trans n3).mono fun j hj => ?_, q3⟩,
      fun σ3 H3 G3 δ3 r v n3 rr nr q3 => gd.rt _ _ _ _ _ _ ((n0.trans (nn.trans n3)).mono fun j hj => ?_) rr nr q3⟩
    all_goals
      simp only [List.nil_append, List.mem_append] at hj
      rcases hj with hj | hj
      · exact hj
      · exact hh j (List.mem_append_right _ hj)
  · have e : i = items.length := by omega
    subst e
    exact .inl ⟨ok.2, gd.nx _ _ _ _ ((n0.trans n).mono fun j hj => by simpa using hj) (Ie δ' hI)⟩
end
end L3
namespace L3
open PySem PySem.Spec PyProof.Rows L2
section
variable {K : PySem.W.Frag}
def wipeE (δ : En) : List Nat → En
  | [] => δ
  | v :: vs => (wipeE δ vs).set v .no
def backE (δo δn : En) : List Nat → En
  | [] => δn
  | v :: vs => (backE δo δn vs).set v (δo.getD v .no)
def noOw (δ : En) (vs : List Nat) : Bool := vs.all fun v => match δ[v]? with
  | some (.ow _) => false
  | _ => true
theorem noOw_at {δ : En} {vs : List Nat} (h : noOw δ vs = true) {v : Nat} (hv : v ∈ vs) (c : Cn) : δ[v]? ≠ some (E.ow c) := fun e => by
  have := List.all_eq_true.mp h v hv
  rw [e] at this
  cases this
theorem wipeE_len {δ : En} : ∀ {vs : List Nat}, (wipeE δ vs).length = δ.length
  | [] => rfl
  | v :: vs => by rw [wipeE, List.length_set, wipeE_len]
theorem backE_len {δo δn : En} : ∀ {vs : List Nat}, (backE δo δn vs).length = δn.length
  | [] => rfl
  | v :: vs => by rw [backE, List.length_set, backE_len]
theorem wipe_at {σ : L2.St} {i : Nat} : ∀ {vs : List Nat}, i ∈ vs → i < σ.length → (wipe σ vs)[i]? = some none
  | v :: vs, h, hi => by
    unfold wipe
    by_cases z : v = i
    · subst z
      rw [List.getElem?_set_self (by rw [wipe_length]; exact hi)]
    · rw [List.getElem?_set_ne z]
      rcases List.mem_cons.mp h with e | h
      · exact absurd e.symm z
      · exact wipe_at h hi
theorem wipe_off {σ : L2.St} {i : Nat} {vs : List Nat} (h : i ∉ vs) : (wipe σ vs)[i]? = σ[i]? := wipe_out h
theorem wipeE_get {δ : En} {i : Nat} {e : E} : ∀ {vs : List Nat}, (wipeE δ vs)[i]? = some e → (i ∈ vs ∧ e = .no) ∨ (i ∉ vs ∧ δ[i]? = some e)
  | [], h => .inr ⟨by simp, h⟩
  | v :: vs, h => by
    rcases set_get h with ⟨rfl, rfl, _⟩ | ⟨ne, h⟩
    · exact .inl ⟨List.mem_cons_self, rfl⟩
    · rcases wipeE_get h with ⟨h1, h2⟩ | ⟨h1, h2⟩
      · exact .inl ⟨List.mem_cons_of_mem _ h1, h2⟩
      · exact .inr ⟨fun z => (List.mem_cons.mp z).elim (fun q => ne q.symm) h1, h2⟩
theorem backE_get {δo δn : En} {i : Nat} {e : E} (hl : δo.length = δn.length) : ∀ {vs : List Nat}, (backE δo δn vs)[i]? = some e → (i ∈ vs ∧ δo[i]? = some e) ∨ (i ∉ vs ∧ δn[i]? = some e)
  | [], h => .inr ⟨by simp, h⟩
  | v :: vs, h => by
    rcases set_get h with ⟨rfl, rfl, hi⟩ | ⟨ne, h⟩
    · rw [backE_len] at hi
      refine .inl ⟨List.mem_cons_self, ?_⟩
      rw [← hl] at hi
      rw [List.getD_eq_getElem?_getD, List.getElem?_eq_getElem hi]
      rfl
    · rcases backE_get hl h with ⟨h1, h2⟩ | ⟨h1, h2⟩
      · exact .inl ⟨List.mem_cons_of_mem _ h1, h2⟩
      · exact .inr ⟨fun z => (List.mem_cons.mp z).elim (fun q => ne q.symm) h1, h2⟩
theorem backE_in {δo δn : En} {i : Nat} (hl : δo.length = δn.length) {vs : List Nat} (hi : i ∈ vs) : (backE δo δn vs)[i]? = δo[i]? := by
  cases e : (backE δo δn vs)[i]? with
  | none =>
    have h1 : δn.length ≤ i := by
      have := List.getElem?_eq_none_iff.mp e
      rw [backE_len] at this
      exact this
    exact (List.getElem?_eq_none_iff.mpr (by rw [hl]; exact h1)).symm
  | some x =>
    rcases backE_get hl e with ⟨_, h2⟩ | ⟨h1, _⟩
    · exact h2.symm
    · exact absurd hi h1
theorem Rel.wipe {σ : L2.St} {H G : Hp} {δ : En} (L : Rel K σ H G δ) (vs : List Nat) : Rel K (wipe σ vs) H G (wipeE δ vs) where
  len := by rw [wipe_length, wipeE_len]; exact L.len
  sub := L.sub
  va := fun i d e => by
    rcases wipeE_get e with ⟨_, z⟩ | ⟨h1, h2⟩
    · cases z
    · rw [wipe_off h1]
      exact L.va i d h2
  ow := fun i c e => by
    rcases wipeE_get e with ⟨_, z⟩ | ⟨h1, h2⟩
    · cases z
    · rw [wipe_off h1]
      exact L.ow i c h2
  dj := fun i j l c c' e e' q q' => by
    rcases wipeE_get e with ⟨_, z⟩ | ⟨h1, h2⟩
    · cases z
    · rcases wipeE_get e' with ⟨_, z⟩ | ⟨h1', h2'⟩
      · cases z
      · rw [wipe_off h1] at q
        rw [wipe_off h1'] at q'
        exact L.dj i j l c c' h2 h2' q q'
theorem ad_wipe {σ : L2.St} {δ : En} {vs : List Nat} {l : Addr} (h : Ad (wipe σ vs) (wipeE δ vs) l) : Ad σ δ l := by
  obtain ⟨i, c, e, q⟩ := h
  rcases wipeE_get e with ⟨_, z⟩ | ⟨h1, h2⟩
  · cases z
  · rw [wipe_off h1] at q
    exact ⟨i, c, h2, q⟩
/-- behind a block -/
theorem Rel.back {σ σ2 : L2.St} {H G H' G' : Hp} {δ δ2 : En} {vs : List Nat} (L : Rel K σ H G δ) (no : noOw δ vs = true) (L2 : Rel K σ2 H' G' δ2) (s : Sub G G') (hσ : ∀ i : Nat, i ∉ vs → σ2[i]? = σ[i]?) (hl : σ2.length = σ.length) : Rel K σ H' G' (backE δ δ2 vs) := by
  have hd : δ.length = δ2.length := by rw [← L.len, ← L2.len, hl]
  refine ⟨by rw [backE_len, ← L2.len, hl], L2.sub, fun i d e => ?_, fun i c e => ?_, fun i j l c c' e e' q q' => ?_⟩
  · rcases backE_get hd e with ⟨h1, h2⟩ | ⟨h1, h2⟩
    · obtain ⟨v, a, b⟩ := L.va i d h2
      exact ⟨v, a, b.mono s⟩
    · rw [← hσ i h1]
      exact L2.va i d h2
  · rcases backE_get hd e with ⟨h1, h2⟩ | ⟨h1, h2⟩
    · exact absurd h2 (noOw_at no h1 c)
    · rw [← hσ i h1]
      exact L2.ow i c h2
  · rcases backE_get hd e with ⟨h1, h2⟩ | ⟨h1, h2⟩
    · exact absurd h2 (noOw_at no h1 c)
    · rcases backE_get hd e' with ⟨h1', h2'⟩ | ⟨h1', h2'⟩
      · exact absurd h2' (noOw_at no h1' c')
      · rw [← hσ i h1] at q
        rw [← hσ j h1'] at q'
        exact L2.dj i j l c c' h2 h2' q q'
/-- an object that no slot owns -/
theorem Rel.other {σ : L2.St} {H G : Hp} {δ : En} {D : Addr} {o : HO} (L : Rel K σ H G δ) (g : G D = none) (n : ¬ Ad σ δ D) : Rel K σ (upd H D o) G δ where
  len := L.len
  sub := fun a u h => by
    have : a ≠ D := fun z => by
      rw [z, g] at h
      cases h
    rw [upd_ne this]
    exact L.sub a u h
  va := L.va
  ow := fun i c e => by
    obtain ⟨l, h1, h2, h3⟩ := L.ow i c e
    have : l ≠ D := fun z => n (by rw [← z]; exact ⟨i, c, e, h1⟩)
    exact ⟨l, h1, h2, h3.mono (fun o q => by rw [upd_ne this]; exact q) .refl⟩
  dj := L.dj
def tcomp (S : DI) (Gd : DG) (C : DTT) (Te : DT) (vs : List Nat) : DT := fun δ Q => S δ fun items cs δ1 => noOw δ1 vs = true ∧ (∀ p ∈ cs, p.1 ∉ vs) ∧ ∃ I : Nat → List D → En → Prop, I 0 [] δ1 ∧ (∀ k acc δ, I k acc δ → ∀ p ∈ cs, δ[p.1]? = some (E.ow p.2)) ∧
  (∀ k x acc δ, items[k]? = some x → I k acc δ → Gd x (wipeE δ vs) fun δ2 => C δ2 fun b δ3 => if b = true then Te δ3 fun r δ4 => ∃ d, r.still δ4 = some d ∧ acc.length < sizeLine ∧ I (k + 1) (acc ++ [d]) (backE δ δ4 vs) else I (k + 1) acc (backE δ δ3 vs)) ∧
  (∀ acc δ, I items.length acc δ → Q (.fr (.l acc)) δ)
theorem snd_comp {gs vs : List Nat} {wi : TI} {g : TG} {tt : TT} {te : TE} {S : DI} {Gd : DG} {C : DTT} {Te : DT} (hi : SndI K wi S) (hg : SndG K gs g Gd) (ht : SndT K tt C) (he : Snd K te Te) (hgs : ∀ i ∈ gs, i ∈ vs) :
    Snd K (tLc wi g tt te vs) (tcomp S Gd C Te vs) := fun σ H G δ Q Q3 L h k => by
  refine hi σ H G δ _ _ L h fun items cs δ1 J H1 G1 L1 f1 le1 it q => ?_
  obtain ⟨no, nc, I, I0, Ic, It, Ie⟩ := q
  intro D hD
  have nD : ∀ δ', Le δ' δ1 → ¬ Ad σ δ' D := fun δ' le z => L1.there (le.ad z) hD
  obtain ⟨fD, sD⟩ := gr_new (G := G1) (o := .lst []) L1.sub hD
  refine ⟨fun i m H' => m = items.length - i ∧ i ≤ items.length ∧ ∃ G' δ' acc va, Rel K σ H' G' δ' ∧ Fr (fun a => Ad σ δ1 a ∨ a = D) (upd H1 D (.lst [])) G1 H' G' ∧ Le δ' δ1 ∧ (∀ v : Nat, v ∈ vs → δ'[v]? = δ1[v]?) ∧ H' D = some (.lst va) ∧ G' D = none ∧ AtL K G' va acc ∧ I i acc δ',
    ⟨items.length, by simp, Nat.zero_le _, G1, δ1, [], [], L1.grow fD sD, .refl, .refl, fun _ _ => rfl, upd_same, g_none L1.sub hD, .nil, I0⟩, ?_⟩
  rintro i m H' ⟨rfl, hi, G', δ', acc, va, L', f', le', dv, hH, hG, ha, hI⟩
  have no' : noOw δ' vs = true := List.all_eq_true.mpr fun v hv => by
    rw [dv v hv]
    exact List.all_eq_true.mp no v hv
  have ok := it σ H' G' δ' L' f'.sub fun p hp => ⟨Ic i acc δ' hI p hp, rfl⟩
  have fD' : Fr (fun a => Ad σ δ1 a ∨ a = D) H1 G1 (upd H1 D (.lst [])) G1 := fD.fr
  by_cases hlt : i < items.length
  · obtain ⟨hgo, hy⟩ := ok.1 i items[i] (List.getElem?_eq_getElem hlt)
    refine .inr ⟨hgo, fun H2 => ∃ G2 δ2 acc va, Rel K σ H2 G2 δ2 ∧ Fr (fun a => Ad σ δ1 a ∨ a = D) (upd H1 D (.lst [])) G1 H2 G2 ∧ Le δ2 δ1 ∧ (∀ v : Nat, v ∈ vs → δ2[v]? = δ1[v]?) ∧ H2 D = some (.lst va) ∧ G2 D = none ∧ AtL K G2 va acc ∧ I (i + 1) acc δ2,
      fun H2 z => ⟨items.length - (i + 1), by omega, rfl, hlt, z⟩, fun x H'' y => ?_⟩
    obtain ⟨G'', fg, sg, hx⟩ := hy x H'' y
    have L'' := L'.grow fg sg
    have Lw := L''.wipe vs
    have s0 : S3 K ⟨fun j l => ∃ c, (wipeE δ' vs)[j]? = some (E.ow c) ∧ (wipe σ vs)[j]? = some (some (V.ref l)), H'', G''⟩ (wipe σ vs) H'' G'' (wipeE δ' vs) := ⟨Lw, .refl, fun j c l e q => .inl ⟨c, e, q⟩, fun j l ⟨c, e, q⟩ => q⟩
    refine hg _ (fun j hj l z => ?_) (wipe σ vs) H'' G'' (wipeE δ' vs) x _ _ _ s0 hx (It i _ acc δ' (List.getElem?_eq_getElem hlt) hI) fun σ2 H2 G2 δ2 n2 le2 q2 => ?_
    · obtain ⟨c, e, q⟩ := z
      rcases wipeE_get e with ⟨_, z⟩ | ⟨z, _⟩
      · cases z
      · exact z (hgs j hj)
    have hσ : ∀ j : Nat, j ∉ vs → σ2[j]? = σ[j]? := fun j hj => (n2.st j fun z => hj (hgs j z)).trans (wipe_off hj)
    have hl2 : σ2.length = σ.length := n2.ln.trans (wipe_length σ vs)
    have fAll : ∀ {A : Addr → Prop} {Ha Ga Hb Gb : Hp}, Fr (fun a => Ad σ δ1 a ∨ a = D) (upd H1 D (.lst [])) G1 Ha Ga → Fr A Ha Ga Hb Gb → (∀ a, A a → Ad σ δ1 a ∨ (upd H1 D (.lst [])) a = none) → Fr (fun a => Ad σ δ1 a ∨ a = D) (upd H1 D (.lst [])) G1 Hb Gb := fun x y z => x.trans y fun a h => (z a h).imp .inl id
    have f2 := fAll f' fg (fun _ z => z.elim)
    have f3 := fAll f2 n2.f fun a z => .inl (le'.ad (ad_wipe z))
    have ow2 : ∀ l, Ad σ2 δ2 l → Ad σ δ1 l ∨ (upd H1 D (.lst [])) l = none := fun l z => (n2.ow l z).elim (fun z => .inl (le'.ad (ad_wipe z))) fun z => .inr (f2.free z)
    have nD2 : ∀ l, Ad σ2 δ2 l → l ≠ D := fun l z e => by
      subst e
      rcases ow2 l z with z | z
      · exact nD δ1 .refl z
      · rw [upd_same] at z
        cases z
    have keepD : ∀ {A : Addr → Prop} {Ha Ga Hb Gb : Hp}, Fr A Ha Ga Hb Gb → ¬ A D → Ha D = some (.lst va) → Ga D = none → Hb D = some (.lst va) ∧ Gb D = none := fun f na h g => ⟨f.h D _ na h, (f.n D na (by rw [h]; exact fun z => nomatch z)).trans g⟩
    obtain ⟨d1, g1⟩ := keepD fg (fun z => z) hH hG
    obtain ⟨d2, g2⟩ := keepD n2.f (fun z => nD δ' le' (ad_wipe z)) d1 g1
    refine ⟨?_, ht σ2 H2 G2 δ2 _ _ n2.s.L q2 fun b δ3 H3 G3 L3 f4 le3 q3 => ?_⟩
    · refine List.ext_getElem? fun j => ?_
      by_cases hj : j ∈ vs
      · by_cases hjl : j < σ.length
        · rw [wipe_at hj hjl, wipe_at hj (by rw [hl2]; exact hjl)]
        · rw [List.getElem?_eq_none (by rw [wipe_length]; omega), List.getElem?_eq_none (by rw [wipe_length]; omega)]
      · rw [wipe_off hj, wipe_off hj, hσ j hj]
    have f5 := fAll f3 f4 ow2
    obtain ⟨d3, g3⟩ := keepD f4 (fun z => nD2 D z rfl) d2 g2
    have bk : ∀ {δn : En} {Hn Gn : Hp}, Rel K σ2 Hn Gn δn → Le δn δ2 → Fr (fun a => Ad σ δ1 a ∨ a = D) (upd H1 D (.lst [])) G1 Hn Gn → Sub G' Gn → Rel K σ Hn Gn (backE δ' δn vs) ∧ Le (backE δ' δn vs) δ1 ∧ ∀ v : Nat, v ∈ vs → (backE δ' δn vs)[v]? = δ1[v]? := fun {δn Hn Gn} Ln len fn sn => by
      have hd : δ'.length = δn.length := by rw [← L'.len, ← Ln.len, hl2]
      refine ⟨L'.back no' Ln sn hσ hl2, fun j c e => ?_, fun v hv => (backE_in hd hv).trans (dv v hv)⟩
      rcases backE_get hd e with ⟨h1, h2⟩ | ⟨h1, h2⟩
      · exact absurd h2 (noOw_at no' h1 c)
      · obtain ⟨c2, h3⟩ := len j c h2
        obtain ⟨c3, h4⟩ := le2 j c2 h3
        rcases wipeE_get h4 with ⟨_, z⟩ | ⟨_, z⟩
        · cases z
        · exact le' j c3 z
    cases b with
    | true =>
      refine he σ2 H3 G3 δ3 _ _ L3 q3 fun r δ4 y H4 G4 L4 f6 le4 rr q4 => ?_
      obtain ⟨d, ed, hlen, q4⟩ := q4
      obtain ⟨G5, L5, f7, s7, hy5, _⟩ := settle L3 L4 f6 le4 rr ed
      have nD3 : ¬ Ad σ2 δ3 D := fun z => nD2 D (le3.ad z) rfl
      obtain ⟨d4, g4⟩ := keepD f7 nD3 d3 g3
      have f8 := fAll f5 f7 fun a z => ow2 a (le3.ad z)
      have sG : Sub G' G5 := (((fg.sub.trans n2.f.sub).trans f4.sub).trans f7.sub)
      obtain ⟨Lb, leb, db⟩ := bk L5 (le4.trans le3) f8 sG
      have hz : va.length < sizeLine := by rw [ha.length]; exact hlen
      refine ⟨va, d4, hz, G5, backE δ' δ4 vs, acc ++ [d], va ++ [y], Lb.other g4 (nD _ leb), f8.trans (fr_upd (A := fun a => a = D) rfl) fun a z => .inl (.inr z), leb, db, upd_same, g4, (ha.mono sG).append (.one hy5), q4⟩
    | false =>
      have sG : Sub G' G3 := ((fg.sub.trans n2.f.sub).trans f4.sub)
      obtain ⟨Lb, leb, db⟩ := bk L3 le3 f5 sG
      exact ⟨G3, backE δ' δ3 vs, acc, va, Lb, f5, leb, db, d3, g3, ha.mono sG, q3⟩
  · have e : i = items.length := by omega
    subst e
    refine .inl ⟨ok.2, k (.fr (.l acc)) δ' _ H' G' L' ((f1.trans fD' fun a z => ?_).trans f' fun a z => ?_) (le'.trans le1) ⟨D, rfl, f1.free hD, hG, va, hH, ha⟩ (Ie acc δ' hI)⟩
    · rcases z with z | rfl
      · exact .inl (le1.ad z)
      · exact .inr (f1.free hD)
    · rcases z with z | rfl
      · exact .inl (le1.ad z)
      · exact .inr (f1.free hD)
end
end L3
namespace L3
open PySem PySem.Spec PyProof.Rows L2
section
variable {K : PySem.W.Frag}
/-- the arguments behind a call: what was owned, as it is now -/
def outs : En → En → En
  | .ow _ :: δ, e :: δ' => e :: outs δ δ'
  | e :: δ, _ :: δ' => e :: outs δ δ'
  | _, _ => []
theorem outs_len : ∀ {δ δ' : En}, δ.length ≤ δ'.length → (outs δ δ').length = δ.length
  | [], _, _ => by simp [outs]
  | .ow _ :: δ, _ :: δ', h => by simp [outs]; exact outs_len (by simpa using h)
  | .va _ :: δ, _ :: δ', h => by simp [outs]; exact outs_len (by simpa using h)
  | .no :: δ, _ :: δ', h => by simp [outs]; exact outs_len (by simpa using h)
  | _ :: _, [], h => by simp at h
theorem outs_get : ∀ {δ δ' : En} {i : Nat} {e : E}, (outs δ δ')[i]? = some e → (∃ c, δ[i]? = some (E.ow c) ∧ δ'[i]? = some e) ∨ (δ[i]? = some e ∧ ∀ c, e ≠ .ow c)
  | [], _, i, e, h => by simp [outs] at h
  | .ow c :: δ, e' :: δ', 0, e, h => by
    simp [outs] at h
    subst h
    exact .inl ⟨c, rfl, rfl⟩
  | .ow c :: δ, e' :: δ', i + 1, e, h => by
    simp [outs] at h
    rcases outs_get h with ⟨c, h1, h2⟩ | ⟨h1, h2⟩
    · exact .inl ⟨c, by simpa using h1, by simpa using h2⟩
    · exact .inr ⟨by simpa using h1, h2⟩
  | .va d :: δ, e' :: δ', 0, e, h => by
    simp [outs] at h
    subst h
    exact .inr ⟨rfl, fun c z => nomatch z⟩
  | .va c :: δ, e' :: δ', i + 1, e, h => by
    simp [outs] at h
    rcases outs_get h with ⟨c, h1, h2⟩ | ⟨h1, h2⟩
    · exact .inl ⟨c, by simpa using h1, by simpa using h2⟩
    · exact .inr ⟨by simpa using h1, h2⟩
  | .no :: δ, e' :: δ', 0, e, h => by
    simp [outs] at h
    subst h
    exact .inr ⟨rfl, fun c z => nomatch z⟩
  | .no :: δ, e' :: δ', i + 1, e, h => by
    simp [outs] at h
    rcases outs_get h with ⟨c, h1, h2⟩ | ⟨h1, h2⟩
    · exact .inl ⟨c, by simpa using h1, by simpa using h2⟩
    · exact .inr ⟨by simpa using h1, h2⟩
  | _ :: _, [], i, e, h => by simp [outs] at h
theorem app_get {α : Type} {xs ys : List α} {i : Nat} {x : α} (h : (xs ++ ys)[i]? = some x) : xs[i]? = some x ∨ x ∈ ys := by
  by_cases z : i < xs.length
  · rw [List.getElem?_append_left z] at h
    exact .inl h
  · rw [List.getElem?_append_right (by omega)] at h
    exact .inr (List.mem_of_getElem? h)
/-- A DEF'S BODY keeps its promise over data -/
theorem body_ok {ps as : List Nat} {t : TS} {T : DS} {N : List Str} {n : Nat} {sp : DSp} (a : SndSP K ps as t T)
    (hsp : ∀ δ Q3, sp δ Q3 → δ.length = n → (∀ (i : Nat) c, δ[i]? = some (E.ow c) → i ∈ ps ∧ i ∉ as) ∧ T { nx := fun δ' => Q3 (.va .non) (outs δ δ'), rt := fun r δ' => Q3 r (outs δ δ') } (δ ++ List.replicate (N.length - n) E.no)) :
    ∀ (vs : List V) (H : Hp) (Q : VK) (W : XK), up K n sp vs H Q W → t { nx := fun _ H' => Q .non H', rt := Q } (start N vs) H := fun vs H Q W h => by
  obtain ⟨hn, G, δ, Q3, L, hs, k⟩ := h
  have hl : δ.length = n := by
    have := L.len
    rw [List.length_map] at this
    omega
  obtain ⟨h1, h2⟩ := hsp δ Q3 hs hl
  have lv : (vs.map some).length = δ.length := L.len
  have gl : ∀ (i : Nat) (x : Option V), (vs.map some)[i]? = some x → (start N vs)[i]? = some x := fun i x e => by
    unfold L2.start
    rw [List.getElem?_append_left (List.getElem?_eq_some_iff.mp e).1]
    exact e
  have gd : ∀ (i : Nat) (e : E), (δ ++ List.replicate (N.length - n) E.no)[i]? = some e → e ≠ .no → δ[i]? = some e := fun i e h ne => by
    rcases app_get h with h | h
    · exact h
    · exact absurd (List.eq_of_mem_replicate h) ne
  have L0 : Rel K (start N vs) H G (δ ++ List.replicate (N.length - n) E.no) := by
    refine ⟨by unfold L2.start; rw [List.length_append, List.length_append, List.length_replicate, List.length_replicate, lv, hn], L.sub, fun i d e => ?_, fun i c e => ?_, fun i j l c c' e e' q q' => ?_⟩
    · obtain ⟨v, q1, q2⟩ := L.va i d (gd i _ e fun z => nomatch z)
      exact ⟨v, gl i _ q1, q2⟩
    · obtain ⟨l, q1, q2⟩ := L.ow i c (gd i _ e fun z => nomatch z)
      exact ⟨l, gl i _ q1, q2⟩
    · have a1 := gd i _ e fun z => nomatch z
      have a2 := gd j _ e' fun z => nomatch z
      obtain ⟨l1, q1, _⟩ := L.ow i c a1
      obtain ⟨l2, q2, _⟩ := L.ow j c' a2
      have b1 := gl i _ q1
      have b2 := gl j _ q2
      rw [q] at b1
      rw [q'] at b2
      cases b1
      cases b2
      exact L.dj i j l c c' a1 a2 q1 q2
  have s0 : S3 K ⟨fun i l => ∃ c, δ[i]? = some (E.ow c) ∧ (vs.map some)[i]? = some (some (V.ref l)), H, G⟩ (start N vs) H G (δ ++ List.replicate (N.length - n) E.no) :=
    ⟨L0, .refl, fun j c l e q => .inl ⟨c, gd j _ e (fun z => nomatch z), by
      have a1 := gd j _ e fun z => nomatch z
      obtain ⟨l1, q1, _⟩ := L.ow j c a1
      have b1 := gl j _ q1
      rw [q] at b1
      cases b1
      exact q1⟩, fun j l ⟨c, e, q⟩ => gl j _ q⟩
  -- the arguments at the end
  have fin : ∀ σ' H' G' δ', Nxt K ⟨fun i l => ∃ c, δ[i]? = some (E.ow c) ∧ (vs.map some)[i]? = some (some (V.ref l)), H, G⟩ as (start N vs) H G (δ ++ List.replicate (N.length - n) E.no) σ' H' G' δ' → Rel K (vs.map some) H' G' (outs δ δ') ∧ Fr (Ad (vs.map some) δ) H G H' G' ∧ Le (outs δ δ') δ := fun σ' H' G' δ' m => by
    have hle : δ.length ≤ δ'.length := by
      have e1 := m.ln
      rw [m.s.L.len, L0.len, List.length_append] at e1
      omega
    have sl : ∀ (i : Nat) c, δ[i]? = some (E.ow c) → ∃ l, (vs.map some)[i]? = some (some (V.ref l)) ∧ σ'[i]? = some (some (V.ref l)) := fun i c e => by
      obtain ⟨l, q1, _⟩ := L.ow i c e
      exact ⟨l, q1, m.s.par i l ⟨c, e, q1⟩⟩
    refine ⟨⟨by rw [outs_len hle]; exact lv, m.s.L.sub, fun i d e => ?_, fun i c e => ?_, fun i j l c c' e e' q q' => ?_⟩, m.s.f.mono fun a ⟨j, c, e, q⟩ => .inl ⟨j, c, e, q⟩, fun i c e => ?_⟩
    · rcases outs_get e with ⟨c, e1, e2⟩ | ⟨e1, _⟩
      · obtain ⟨l, q1, q2⟩ := sl i c e1
        obtain ⟨v, q3, q4⟩ := m.s.L.va i d e2
        rw [q2] at q3
        cases q3
        exact ⟨_, q1, q4⟩
      · obtain ⟨v, q1, q2⟩ := L.va i d e1
        exact ⟨v, q1, q2.mono m.f.sub⟩
    · rcases outs_get e with ⟨c0, e1, e2⟩ | ⟨_, e1⟩
      · obtain ⟨l, q1, q2⟩ := sl i c0 e1
        obtain ⟨l', q3, q4⟩ := m.s.L.ow i c e2
        rw [q2] at q3
        cases q3
        exact ⟨l, q1, q4⟩
      · exact absurd rfl (e1 c)
    · rcases outs_get e with ⟨c0, e1, e2⟩ | ⟨_, e1⟩
      · rcases outs_get e' with ⟨c1, e1', e2'⟩ | ⟨_, e1'⟩
        · obtain ⟨l1, q1, q2⟩ := sl i c0 e1
          obtain ⟨l2, q3, q4⟩ := sl j c1 e1'
          rw [q] at q1
          rw [q'] at q3
          cases q1
          cases q3
          exact m.s.L.dj i j l c c' e2 e2' q2 q4
        · exact absurd rfl (e1' c')
      · exact absurd rfl (e1 c)
    · rcases outs_get e with ⟨c0, e1, _⟩ | ⟨_, e1⟩
      · exact ⟨c0, e1⟩
      · exact absurd rfl (e1 c)
  refine a ⟨fun i l => ∃ c, δ[i]? = some (E.ow c) ∧ (vs.map some)[i]? = some (some (V.ref l)), H, G⟩ (fun i l z => by obtain ⟨c, e, _⟩ := z; exact (h1 i c e).1) (fun i hi l z => by obtain ⟨c, e, _⟩ := z; exact (h1 i c e).2 hi) (start N vs) H G _ _ _ s0 h2 ⟨fun σ' H' G' δ' m q => ?_, fun _ _ _ _ _ q => q, fun _ _ _ _ _ q => q, fun σ' H' G' δ' r v m rr nr q => ?_⟩
  · obtain ⟨L', f', le'⟩ := fin σ' H' G' δ' m
    exact k (.va .non) _ .non H' G' L' f' le' At.non (fun i z => nomatch z) q
  · obtain ⟨L', f', le'⟩ := fin σ' H' G' δ' m
    exact k r _ v H' G' L' f' le' rr nr q
/-- a result that may be stored: how -/
def PutOk (K : PySem.W.Frag) (H0 H G : Hp) (v : V) (e : E) : Prop := (∃ d, e = .va d ∧ At K G v d) ∨ ∃ c l, e = .ow c ∧ v = .ref l ∧ H0 l = none ∧ G l = none ∧ AtC K H G l c
theorem Nxt.put {F : FE} {as : List Nat} {σ0 σ : L2.St} {H0 G0 H G : Hp} {δ0 δ : En} {i : Nat} {v : V} {e : E} (n : Nxt K F as σ0 H0 G0 δ0 σ H G δ) (hp : ∀ l, ¬ F.P i l) (hf : ∀ a, H0 a = none → F.HE a = none) (p : PutOk K H0 H G v e) (na : ∀ l, v = .ref l → (∃ c, e = .ow c) → ¬ Ad σ δ l) :
    Nxt K F (as ++ [i]) σ0 H0 G0 δ0 (σ.set i (some v)) H G (δ.set i e) := by
  rcases p with ⟨d, rfl, h⟩ | ⟨c, l, rfl, rfl, h0, g, h⟩
  · exact n.trans (Nxt.setV n.s hp h)
  · have nl := na l rfl ⟨c, rfl⟩
    refine ⟨⟨n.s.L.setO g h nl, n.s.f, fun j c' l' e q => ?_, fun j l z => ?_⟩, n.f, fun l' z => ?_, fun j hj => ?_, ?_⟩
    · rcases set_get e with ⟨rfl, e2, hi⟩ | ⟨ne, e2⟩
      · rw [List.getElem?_set_self (by rw [n.s.L.len]; exact hi)] at q
        cases q
        exact .inr (hf _ h0)
      · rw [List.getElem?_set_ne ne] at q
        exact n.s.own j c' l' e2 q
    · have ne : i ≠ j := fun q => hp l (by rw [q]; exact z)
      rw [List.getElem?_set_ne ne]
      exact n.s.par j l z
    · obtain ⟨j, c', e, q⟩ := z
      rcases set_get e with ⟨rfl, e2, hi⟩ | ⟨ne, e2⟩
      · rw [List.getElem?_set_self (by rw [n.s.L.len]; exact hi)] at q
        cases q
        exact .inr h0
      · rw [List.getElem?_set_ne ne] at q
        exact n.ow l' ⟨j, c', e2, q⟩
    · have ne : i ≠ j := fun z => hj (List.mem_append_right _ (by rw [z]; exact List.mem_cons_self))
      rw [List.getElem?_set_ne ne]
      exact n.st j fun z => hj (List.mem_append_left _ z)
    · rw [List.length_set]
      exact n.ln
theorem ad_put {σ : L2.St} {δ : En} {i : Nat} {v : V} {e : E} {l : Addr} (hl : σ.length = δ.length) (h : Ad (σ.set i (some v)) (δ.set i e) l) : Ad σ δ l ∨ (v = .ref l ∧ ∃ c, e = .ow c) := by
  obtain ⟨j, c, e1, q⟩ := h
  rcases set_get e1 with ⟨rfl, e2, hi⟩ | ⟨ne, e2⟩
  · rw [List.getElem?_set_self (by rw [hl]; exact hi)] at q
    cases q
    exact .inr ⟨rfl, c, e2⟩
  · rw [List.getElem?_set_ne ne] at q
    exact .inl ⟨j, c, e2, q⟩
/-- the stores of a list of results: own where the list says so -/
def putE (δ : En) : Bool → R → Option E
  | true, .fr c => some (.ow c)
  | true, r => (r.still δ).map E.va
  | false, r => (r.still δ).map E.va
def spar2 (i j : Nat) (m1 m2 : Bool) (TA : DTA) : DS := fun D δ => TA δ fun rs δ1 => ∃ r1 r2 e1 e2, rs = [r1, r2] ∧ putE δ1 m1 r1 = some e1 ∧ putE δ1 m2 r2 = some e2 ∧ D.nx ((δ1.set i e1).set j e2)
/-- results made ready for their stores -/
theorem puts_ok {σ : L2.St} {H0 G0 H G : Hp} {δ0 δ : En} {rs : List R} {vs : List V} (L0 : Rel K σ H0 G0 δ0) (L : Rel K σ H G δ) (f : Fr (Ad σ δ0) H0 G0 H G) (le : Le δ δ0) (rr : RRs K σ H0 H G rs vs) (ms : List Bool) :
    ∃ G', Rel K σ H G' δ ∧ Fr (Ad σ δ0) H0 G0 H G' ∧ ∀ (j : Nat) r m v e, rs[j]? = some r → ms[j]? = some m → vs[j]? = some v → putE δ m r = some e → PutOk K H0 H G' v e ∧ ∀ c, e = .ow c → r = .fr c ∧ m = true := by
  obtain ⟨G', L', f', s', gz, hz⟩ := freezeZ L0 L f le (fun a => ∃ (j : Nat) (c : Cn), rs[j]? = some (R.fr c) ∧ ms[j]? = some false ∧ vs[j]? = some (V.ref a)) fun a ⟨j, c, e1, e2, e3⟩ => by
    obtain ⟨v, h1, l, h2, h3, h4, _⟩ := rr.get e1
    rw [e3] at h1
    cases h1
    cases h2
    exact ⟨h3, h4⟩
  refine ⟨G', L', f', fun j r m v e h1 h2 h3 h4 => ?_⟩
  obtain ⟨v', q1, q2⟩ := rr.get h1
  rw [h3] at q1
  cases q1
  have va : ∀ r, rs[j]? = some r → RR K σ H0 H G r v → (∀ c, r ≠ .fr c) → ∀ d, r.still δ = some d → At K G' v d := fun r hr q nf d e => by
    cases r with
    | va d' =>
      cases e
      exact At.mono s' q
    | fr c => exact absurd rfl (nf c)
    | rf i =>
      have e2 : datS δ[i]? = some d := e
      unfold datS at e2
      split at e2
      · rename_i d' p
        cases e2
        obtain ⟨v', p1, p2⟩ := L'.va i _ p
        rw [show σ[i]? = some (some v) from q] at p1
        cases p1
        exact p2
      · cases e2
  cases r with
  | fr c =>
    obtain ⟨l, rfl, n, g, hc⟩ := q2
    cases m with
    | true =>
      have h5 : some (E.ow c) = some e := h4
      cases h5
      refine ⟨.inr ⟨c, l, rfl, rfl, n, ?_, hc.mono (fun _ z => z) s'⟩, fun c' z => by cases z; exact ⟨rfl, rfl⟩⟩
      rw [gz l fun ⟨j', c', a, b, d⟩ => by
        have := rr.apart h1 a h3 d
        subst this
        rw [h2] at b
        cases b]
      exact g
    | false =>
      have h5 : c.dat.map E.va = some e := h4
      obtain ⟨d, z1, rfl⟩ := Option.map_eq_some_iff.mp h5
      exact ⟨.inl ⟨d, rfl, hz l c d ⟨j, c, h1, h2, h3⟩ hc z1⟩, fun c' z => nomatch z⟩
  | va d =>
    have h5 : e = .va d := by cases m <;> (have h6 : some (E.va d) = some e := h4; cases h6; rfl)
    subst h5
    exact ⟨.inl ⟨d, rfl, va _ h1 q2 (fun c z => nomatch z) d rfl⟩, fun c' z => nomatch z⟩
  | rf i =>
    have h5 : ((R.rf i).still δ).map E.va = some e := by cases m <;> exact h4
    obtain ⟨d, z1, rfl⟩ := Option.map_eq_some_iff.mp h5
    exact ⟨.inl ⟨d, rfl, va _ h1 q2 (fun c z => nomatch z) d z1⟩, fun c' z => nomatch z⟩
theorem snds_par2 {i j : Nat} {t : TA} {TA : DTA} (m1 m2 : Bool) (a : SndA K t TA) : SndS K [i, j] (tPar i j t) (spar2 i j m1 m2 TA) := fun F hp σ H G δ D3 D s h g => by
  refine a σ H G δ _ _ s.L h fun rs δ1 vs H1 G1 L1 f1 le1 rr q => ?_
  obtain ⟨r1, r2, e1, e2, rfl, p1, p2, q⟩ := q
  obtain ⟨v1, hv1, _⟩ := rr.get (i := 0) rfl
  obtain ⟨v2, hv2, _⟩ := rr.get (i := 1) rfl
  have ev : vs = [v1, v2] := by
    have := rr.length
    match vs, this, hv1, hv2 with
    | [_, _], _, a, b =>
      cases a
      cases b
      rfl
  subst ev
  obtain ⟨G2, L2, f2, ok⟩ := puts_ok s.L L1 f1 le1 rr [m1, m2]
  obtain ⟨k1, o1⟩ := ok 0 r1 m1 v1 e1 rfl rfl rfl p1
  obtain ⟨k2, o2⟩ := ok 1 r2 m2 v2 e2 rfl rfl rfl p2
  have n : Nxt K F [] σ H G δ σ H1 G2 δ1 := .step s L2 f2 le1
  have hf : ∀ a, H a = none → F.HE a = none := fun a z => s.f.free z
  have own : ∀ l v e, PutOk K H H1 G2 v e → v = .ref l → (∃ c, e = .ow c) → ¬ Ad σ δ1 l := fun l v e p ev ⟨c, ec⟩ z => by
    rcases p with ⟨d, rfl, _⟩ | ⟨c', l', _, e', h0, _⟩
    · cases ec
    · rw [ev] at e'
      cases e'
      exact s.L.there (le1.ad z) h0
  have n1 := n.put (hp i List.mem_cons_self) hf k1 fun l e w => own l v1 e1 k1 e w
  have n2 := n1.put (hp j (List.mem_cons_of_mem _ List.mem_cons_self)) hf k2 fun l e w z => by
    rcases ad_put L2.len z with z | ⟨z1, c1, z2⟩
    · exact own l v2 e2 k2 e w z
    · obtain ⟨c2, w2⟩ := w
      obtain ⟨a1, _⟩ := o1 c1 z2
      obtain ⟨a2, _⟩ := o2 c2 w2
      have := rr.apart (i := 0) (j := 1) (by rw [a1]; rfl) (by rw [a2]; rfl) (by rw [z1]; rfl) (by rw [e]; rfl)
      cases this
  exact ⟨v1, v2, rfl, g.nx _ _ _ _ (n2.mono fun k hk => by simpa using hk) q⟩
end
end L3
namespace L3
open PySem PySem.Spec PyProof.Rows L2
/-- the built-ins are what they are -/
structure Blt (mg : Str → Option Value) : Prop where
  len : mg "len" = none
  range : mg "range" = none
  isinstance : mg "isinstance" = none
  int : mg "int" = none
  bool : mg "bool" = none
  str : mg "str" = none
  list : mg "list" = none
  tuple : mg "tuple" = none
  dict : mg "dict" = none
  all : mg "all" = none
  any : mg "any" = none
  sum : mg "sum" = none
  enumerate : mg "enumerate" = none
  zip : mg "zip" = none
  max : mg "max" = none
  min : mg "min" = none
  abs : mg "abs" = none
  sorted : mg "sorted" = none
  reversed : mg "reversed" = none
  set : mg "set" = none
  repr : mg "repr" = none
  divmod : mg "divmod" = none
/-- a def at the top keeps its promise -/
structure FP (P : Program) (w : World) (K : PySem.W.Frag) (mg : Str → Option Value) (base : Heap) (x : Str) (k n : Nat) (sp : DSp) : Prop where
  ex : ∃ fd ps, FnOk P w K mg base CX0 k (He.ga K x) fd ps (up K n sp) ∧ Binds K fd ps []
  kp : PySem.W.keepIn K (.ref (He.ga K x)) = true
  at_ : mg x = some (.ref (He.ga K x))
section
variable {X : Cx} {x m cn : Str} {p pos apos : Pos} {e o : Expr} {es : List Expr} {t : TA} {ta : TE} {k n j : Nat} {sp : DSp}
theorem pe_f (h : FP X.prog X.w X.K X.mg X.base x k n sp) (hr : Room k X.A) (hg : Gl X x) (ha : PA X (e :: es) t) (hdb : (x == ("__debug__" : Str)) = false := by decide) (he : starEach (e :: es) X.env = (false, eval e X.env) :: starEach es X.env := by rfl)
    (hpl : (backTo pos (starEach es X.env)).any (·.1) = false := by rfl) : PE X (.Call (.Name x p) (e :: es) [] pos) (tCall (up X.K n sp) [] E0 t) := by
  obtain ⟨fd, ps, F, b⟩ := h.ex
  exact pe_call F hr hg h.at_ h.kp b .nil pass0 ha hdb he hpl
end
end L3
namespace L3
open PySem PySem.Spec PyProof.Rows L2
section
variable {K : PySem.W.Frag}
def zE : Option E → Option D
  | some (.va d) => some d
  | some (.ow c) => c.dat
  | _ => none
def tvz (i : Nat) : DT := fun δ Q => ∃ d, zE δ[i]? = some d ∧ Q (.va d) (δ.set i (.va d))
theorem snd_varz {i : Nat} : Snd K (tVar i) (tvz i) := fun σ H G δ Q Q3 L h k => by
  obtain ⟨d, e, q⟩ := h
  unfold zE at e
  split at e
  · rename_i d' e2
    cases e
    obtain ⟨v, h1, h2⟩ := L.va i d e2
    have hs : δ.set i (.va d) = δ := by
      refine List.ext_getElem? fun j => ?_
      by_cases z : i = j
      · subst z
        rw [List.getElem?_set_self (List.getElem?_eq_some_iff.mp e2).1, e2]
      · rw [List.getElem?_set_ne z]
    rw [hs] at q
    exact ⟨v, h1, k (.va d) δ v H G L .refl .refl h2 q⟩
  · rename_i c e2
    obtain ⟨l, h1, h2, h3⟩ := L.ow i c e2
    obtain ⟨o, h4, s1, ha⟩ := freeze h3 e h2
    have ad : Ad σ δ l := ⟨i, c, e2, h1⟩
    refine ⟨.ref l, h1, k (.va d) (δ.set i (.va d)) (.ref l) H (upd G l o) ⟨by rw [List.length_set]; exact L.len, fun a u g => ?_, fun j d' e3 => ?_, fun j c' e3 => ?_, fun j j' l' c1 c2 e3 e4 q3 q4 => ?_⟩ ⟨fun _ _ _ z => z, s1, fun a na _ => ?_, fun _ z => z⟩ (Le.setV i d) ha q⟩
    · by_cases z : a = l
      · subst z
        rw [upd_same] at g
        cases g
        exact h4
      · rw [upd_ne z] at g
        exact L.sub a u g
    · rcases set_get e3 with ⟨rfl, e5, _⟩ | ⟨ne, e5⟩
      · cases e5
        exact ⟨.ref l, h1, ha⟩
      · obtain ⟨v, q1, q2⟩ := L.va j d' e5
        exact ⟨v, q1, q2.mono s1⟩
    · rcases set_get e3 with ⟨rfl, e5, _⟩ | ⟨ne, e5⟩
      · cases e5
      · obtain ⟨l2, q1, q2, q3⟩ := L.ow j c' e5
        have nl : l2 ≠ l := fun z => ne (L.dj i j l c c' e2 e5 h1 (by rw [← z]; exact q1))
        exact ⟨l2, q1, by rw [upd_ne nl]; exact q2, q3.mono (fun _ z => z) s1⟩
    · rcases set_get e3 with ⟨rfl, e5, _⟩ | ⟨ne, e5⟩
      · cases e5
      · rcases set_get e4 with ⟨rfl, e6, _⟩ | ⟨ne', e6⟩
        · cases e6
        · exact L.dj j j' l' c1 c2 e5 e6 q3 q4
    · have : a ≠ l := fun z => na (by rw [z]; exact ad)
      rw [upd_ne this]
  · cases e
def tyes : DTT := fun δ Q => Q true δ
theorem sndt_yes : SndT K tYes tyes := fun σ H G δ Q Q3 L h k => k true δ H G L .refl .refl h
def valD (kvs : List (Key × D)) (k : Key) : Option D := (kvs.find? fun kv => decide (kv.1 = k)).map (·.2)
def putD (kvs : List (Key × D)) (k : Key) (v : D) : List (Key × D) :=
  if (kvs.any fun kv => decide (kv.1 = k)) = true then kvs.map (fun kv => if kv.1 = k then (kv.1, v) else kv) else kvs ++ [(k, v)]
theorem AtKV.val {G : Hp} {k : Key} : ∀ {vs : List (Key × V)} {ds : List (Key × D)}, AtKV K G vs ds → (∀ d, valD ds k = some d → ∃ v, valV vs k = some v ∧ At K G v d) ∧ (valV vs k).isSome = (valD ds k).isSome
  | _, _, .nil => ⟨fun d h => by simp [valD] at h, rfl⟩
  | _, _, .cons (a := p) (b := q) h t => by
    obtain ⟨e, a⟩ := h
    obtain ⟨ih1, ih2⟩ := AtKV.val (k := k) t
    by_cases z : p.1 = k
    · have z' : q.1 = k := by rw [← e]; exact z
      refine ⟨fun d hd => ?_, ?_⟩
      · simp [valD, List.find?_cons, z'] at hd
        subst hd
        exact ⟨p.2, valV_pos z, a⟩
      · rw [valV_pos z]
        simp [valD, List.find?_cons, z']
    · have z' : ¬ q.1 = k := by rw [← e]; exact z
      refine ⟨fun d hd => ?_, ?_⟩
      · rw [valV_neg z]
        exact ih1 d (by simpa [valD, List.find?_cons, z'] using hd)
      · rw [valV_neg z, ih2]
        simp [valD, List.find?_cons, z']
theorem AtKV.any {G : Hp} {k : Key} : ∀ {vs : List (Key × V)} {ds : List (Key × D)}, AtKV K G vs ds → (vs.any fun kv => decide (kv.1 = k)) = (ds.any fun kv => decide (kv.1 = k))
  | _, _, .nil => rfl
  | _, _, .cons h t => by
    rw [List.any_cons, List.any_cons, AtKV.any t, h.1]
theorem AtKV.mapk {G : Hp} {k : Key} {v : V} {d : D} (h : At K G v d) : ∀ {vs : List (Key × V)} {ds : List (Key × D)}, AtKV K G vs ds → AtKV K G (vs.map fun kv => if kv.1 = k then (kv.1, v) else kv) (ds.map fun kv => if kv.1 = k then (kv.1, d) else kv)
  | _, _, .nil => .nil
  | _, _, .cons (a := p) (b := q) a t => by
    obtain ⟨e, b⟩ := a
    refine .cons ?_ (AtKV.mapk h t)
    show (if p.1 = k then (p.1, v) else p).1 = (if q.1 = k then (q.1, d) else q).1 ∧ At K G (if p.1 = k then (p.1, v) else p).2 (if q.1 = k then (q.1, d) else q).2
    by_cases z : p.1 = k
    · have z' : q.1 = k := by rw [← e]; exact z
      rw [if_pos z, if_pos z']
      exact ⟨e, h⟩
    · have z' : ¬ q.1 = k := by rw [← e]; exact z
      rw [if_neg z, if_neg z']
      exact ⟨e, b⟩
theorem AtKV.app {G : Hp} {p : Key × V} {q : Key × D} (h : p.1 = q.1 ∧ At K G p.2 q.2) : ∀ {vs : List (Key × V)} {ds : List (Key × D)}, AtKV K G vs ds → AtKV K G (vs ++ [p]) (ds ++ [q])
  | _, _, .nil => .cons h .nil
  | _, _, .cons a t => .cons a (AtKV.app h t)
theorem AtKV.put {G : Hp} {k : Key} {v : V} {d : D} (h : At K G v d) {vs : List (Key × V)} {ds : List (Key × D)} (t : AtKV K G vs ds) : AtKV K G (putK vs k v) (putD ds k d) := by
  unfold putK putD
  rw [t.any]
  by_cases z : (ds.any fun kv => decide (kv.1 = k)) = true
  · rw [if_pos z, if_pos z]
    exact t.mapk h
  · rw [if_neg z, if_neg z]
    exact t.app ⟨rfl, h⟩
theorem AtKV.length {G : Hp} : ∀ {vs : List (Key × V)} {ds : List (Key × D)}, AtKV K G vs ds → vs.length = ds.length
  | _, _, .nil => rfl
  | _, _, .cons _ t => congrArg (· + 1) (AtKV.length t)
def R.dct (δ : En) : R → Option (List (Key × D))
  | .fr (.d kvs) => some kvs
  | .rf i => match δ[i]? with
    | some (.ow (.d kvs)) => some kvs
    | _ => none
  | _ => none
end
end L3
namespace L3
open PySem PySem.Spec PyProof.Rows L2
section
variable {Q : R → En → Prop} {QB : Bool → En → Prop} {QA : List R → En → Prop} {δ : En} {d : D} {c : Cn} {T U V : DT} {C C2 : DTT} {TA : DTA} {F : D → D → (R → Prop) → Prop} {F1 : D → (R → Prop) → Prop}
theorem e_tv {i : Nat} (e : δ[i]? = some (.va d)) (k : Q (.va d) δ) : tv i δ Q := by
  unfold tv; rw [e]; exact k
theorem e_tvo {i : Nat} (e : δ[i]? = some (.ow c)) (k : Q (.rf i) δ) : tv i δ Q := by
  unfold tv; rw [e]; exact k
theorem e_tvz {i : Nat} (e : δ[i]? = some (.va d)) (k : Q (.va d) δ) : tvz i δ Q := by
  refine ⟨d, by unfold zE; rw [e], ?_⟩
  have hs : δ.set i (.va d) = δ := by
    refine List.ext_getElem? fun j => ?_
    by_cases z : i = j
    · subst z
      rw [List.getElem?_set_self (List.getElem?_eq_some_iff.mp e).1, e]
    · rw [List.getElem?_set_ne z]
  rw [hs]
  exact k
theorem e_tvzo {i : Nat} {δ' : En} (e : δ[i]? = some (.ow c)) (e2 : c.dat = some d) (e3 : δ.set i (.va d) = δ') (k : Q (.va d) δ') : tvz i δ Q := ⟨d, by unfold zE; rw [e]; exact e2, by rw [e3]; exact k⟩
theorem e_tc (k : Q (.va d) δ) : tc d δ Q := k
theorem e_ta0 (k : QA [] δ) : ta0 δ QA := k
theorem e_tac (k : T δ fun r δ1 => TA δ1 fun rs δ2 => QA (r :: rs) δ2) : tac T TA δ QA := k
theorem e_tb2 (k : T δ fun x δ1 => U δ1 fun y δ2 => ∃ d e, x.dat δ2 = some d ∧ y.dat δ2 = some e ∧ F d e fun r => Q r δ2) : tb2 F T U δ Q := k
theorem e_tb1 (k : T δ fun x δ1 => ∃ d, x.dat δ1 = some d ∧ F1 d fun r => Q r δ1) : tb1 F1 T δ Q := k
theorem e_dat2 {x y : R} {d e : D} {P : D → D → Prop} (e1 : x.dat δ = some d) (e2 : y.dat δ = some e) (k : P d e) : ∃ d e, x.dat δ = some d ∧ y.dat δ = some e ∧ P d e := ⟨d, e, e1, e2, k⟩
theorem e_dat1 {x : R} {d : D} {P : D → Prop} (e1 : x.dat δ = some d) (k : P d) : ∃ d, x.dat δ = some d ∧ P d := ⟨d, e1, k⟩
theorem e_tcb {G : List D → (R → Prop) → Prop} (k : TA δ fun rs δ1 => ∃ ds, dats δ1 rs = some ds ∧ G ds fun r => Q r δ1) : tcb G TA δ Q := k
theorem e_dats {rs : List R} {ds : List D} {P : List D → Prop} (e : dats δ rs = some ds) (k : P ds) : ∃ ds, dats δ rs = some ds ∧ P ds := ⟨ds, e, k⟩
theorem e_ttup (k : TA δ fun rs δ1 => ∃ ds, stills δ1 rs = some ds ∧ ds.length ≤ sizeLine ∧ Q (.va (.tup ds)) δ1) : ttup TA δ Q := k
theorem e_tlst (k : TA δ fun rs δ1 => ∃ ds, stills δ1 rs = some ds ∧ ds.length ≤ sizeLine ∧ Q (.fr (.l ds)) δ1) : tlst TA δ Q := k
theorem e_stills {rs : List R} {ds : List D} {P : List D → Prop} (e : stills δ rs = some ds) (b : ds.length ≤ sizeLine) (k : P ds) : ∃ ds, stills δ rs = some ds ∧ ds.length ≤ sizeLine ∧ P ds := ⟨ds, e, b, k⟩
theorem e_tt (k : T δ fun r δ1 => ∃ b, r = .va (.bl b) ∧ QB b δ1) : tt T δ QB := k
theorem e_bl {b : Bool} {P : Bool → Prop} (k : P b) : ∃ b', R.va (.bl b) = .va (.bl b') ∧ P b' := ⟨b, rfl, k⟩
theorem e_ttru (k : T δ fun r δ1 => ∃ d b, r.dat δ1 = some d ∧ truD d = some b ∧ QB b δ1) : ttru T δ QB := k
theorem e_tru {r : R} {d : D} {b : Bool} {P : Bool → Prop} (e1 : r.dat δ = some d) (e2 : truD d = some b) (k : P b) : ∃ d b, r.dat δ = some d ∧ truD d = some b ∧ P b := ⟨d, b, e1, e2, k⟩
theorem e_tand (k : C δ fun c δ1 => (c = true → C2 δ1 QB) ∧ (c = false → QB false δ1)) : tand C C2 δ QB := by
  have : ∀ c δ1, ((c = true → C2 δ1 QB) ∧ (c = false → QB false δ1)) = if c = true then C2 δ1 QB else QB false δ1 := fun c δ1 => by cases c <;> simp
  simp only [this] at k
  exact k
theorem e_tor (k : C δ fun c δ1 => (c = true → QB true δ1) ∧ (c = false → C2 δ1 QB)) : tor C C2 δ QB := by
  have : ∀ c δ1, ((c = true → QB true δ1) ∧ (c = false → C2 δ1 QB)) = if c = true then QB true δ1 else C2 δ1 QB := fun c δ1 => by cases c <;> simp
  simp only [this] at k
  exact k
theorem e_tnot (k : C δ fun c δ1 => QB (!c) δ1) : tnot C δ QB := k
theorem e_tandV (k : T δ fun r δ1 => ∃ c, r = .va (.bl c) ∧ (c = true → U δ1 Q) ∧ (c = false → Q (.va (.bl false)) δ1)) : tandV T U δ Q := by
  have : ∀ (c : Bool) δ1, ((c = true → U δ1 Q) ∧ (c = false → Q (.va (.bl false)) δ1)) = if c = true then U δ1 Q else Q (.va (.bl false)) δ1 := fun c δ1 => by cases c <;> simp
  simp only [this] at k
  exact k
theorem e_tnotV (k : T δ fun r δ1 => ∃ c, r = .va (.bl c) ∧ Q (.va (.bl (!c))) δ1) : tnotV T δ Q := k
theorem e_tyes (k : QB true δ) : tyes δ QB := k
theorem e_tif (k : C δ fun b δ1 => (b = true → T δ1 Q) ∧ (b = false → U δ1 Q)) : tif C T U δ Q := by
  have : ∀ (c : Bool) δ1, ((c = true → T δ1 Q) ∧ (c = false → U δ1 Q)) = if c = true then T δ1 Q else U δ1 Q := fun c δ1 => by cases c <;> simp
  simp only [this] at k
  exact k
theorem br_t {A B : Prop} (k : A) : ((true : Bool) = true → A) ∧ ((true : Bool) = false → B) := ⟨fun _ => k, fun h => (nomatch h)⟩
theorem br_f {A B : Prop} (k : B) : ((false : Bool) = true → A) ∧ ((false : Bool) = false → B) := ⟨fun h => (nomatch h), fun _ => k⟩
theorem br_n {A B : Prop} {b : Bool} (k : (b = true → B) ∧ (b = false → A)) : ((!b) = true → A) ∧ ((!b) = false → B) := by cases b <;> simp_all
theorem br_p {A B : Prop} {p : Prop} [Decidable p] (k1 : p → A) (k2 : ¬ p → B) : (decide p = true → A) ∧ (decide p = false → B) := ⟨fun h => k1 (of_decide_eq_true h), fun h => k2 (of_decide_eq_false h)⟩
theorem br_b {A B : Prop} {b : Bool} (k1 : b = true → A) (k2 : b = false → B) : (b = true → A) ∧ (b = false → B) := ⟨k1, k2⟩
theorem e_ii {i j : Int} {P : Int → Int → Prop} (k : P i j) : ∃ i' j', R.va (.int i) = .va (.int i') ∧ R.va (.int j) = .va (.int j') ∧ P i' j' := ⟨i, j, rfl, rfl, k⟩
theorem e_i {i : Int} {P : Int → Prop} (k : P i) : ∃ i', R.va (.int i) = .va (.int i') ∧ P i' := ⟨i, rfl, k⟩
theorem e_tno {QO : Option Int → En → Prop} (k : QO none δ) : tno δ QO := k
theorem e_tpart {QO : Option Int → En → Prop} (k : T δ fun r δ1 => ∃ i, r = .va (.int i) ∧ QO (some i) δ1) : tpart T δ QO := k
theorem e_tslice {Tl Th : DTO} (k : T δ fun r δ1 => Tl δ1 fun lo δ2 => Th δ2 fun hi δ3 => ∃ d, r.dat δ3 = some d ∧ slF d lo hi fun r => Q r δ3) : tslice T Tl Th δ Q := k
theorem e_tisi {n : Tn} (k : T δ fun r δ1 => ∃ k b, r.kn δ1 = some k ∧ isT n k = b ∧ Q (.va (.bl b)) δ1) : tisi n T δ Q := by
  simp only [exists_and_left, exists_eq_left'] at k
  exact k
theorem e_kn1 {r : R} {n : Tn} {kk : Kn} {b : Bool} {P : Bool → Prop} (e : r.kn δ = some kk) (e2 : isT n kk = b) (k : P b) : ∃ k b, r.kn δ = some k ∧ isT n k = b ∧ P b := ⟨kk, b, e, e2, k⟩
theorem e_kn2 {r : R} {n m : Tn} {kk : Kn} {b : Bool} {P : Bool → Prop} (e : r.kn δ = some kk) (e2 : (isT n kk || isT m kk) = b) (k : P b) : ∃ k b, r.kn δ = some k ∧ (isT n k || isT m k) = b ∧ P b := ⟨kk, b, e, e2, k⟩
variable {q : R → Prop}
theorem f_plus {i j : Int} (k : q (.va (.int (i + j)))) : plusF (.int i) (.int j) q := k
theorem f_plusL {a b : List D} (h : a.length + b.length ≤ sizeLine) (k : q (.fr (.l (a ++ b)))) : plusF (.lst a) (.lst b) q := ⟨h, k⟩
theorem f_minus {i j : Int} (k : q (.va (.int (i - j)))) : minusF (.int i) (.int j) q := k
theorem f_times {i j : Int} (h : CMul i j) (k : q (.va (.int (i * j)))) : timesF (.int i) (.int j) q := ⟨h, k⟩
theorem f_fdiv {i j : Int} (h : CDiv i j) (k : q (.va (.int (i / j)))) : fdivF (.int i) (.int j) q := ⟨h, k⟩
theorem f_mod {i j : Int} (h : 0 < j) (k : q (.va (.int (i % j)))) : modF (.int i) (.int j) q := ⟨h, k⟩
theorem f_pow {i j : Int} (h : CPow i j) (k : q (.va (.int (i ^ j.toNat)))) : powF (.int i) (.int j) q := ⟨h, k⟩
theorem f_neg {i : Int} (k : q (.va (.int (-i)))) : negF (.int i) q := k
theorem f_cmp {p : Int → Int → Bool} {i j : Int} (k : q (.va (.bl (p i j)))) : bF (iF p) (.int i) (.int j) q := k
theorem f_ixL {xs : List D} {i : Int} {d : D} (e : L2.atI xs i = some d) (k : q (.va d)) : ixF (.lst xs) (.int i) q := ⟨d, e, k⟩
theorem f_ixT {xs : List D} {i : Int} {d : D} (e : L2.atI xs i = some d) (k : q (.va d)) : ixF (.tup xs) (.int i) q := ⟨d, e, k⟩
theorem atI_get {α : Type} {xs : List α} {i : Int} {d : α} (h0 : 0 ≤ i) (h : xs[i.toNat]? = some d) : L2.atI xs i = some d := by
  have hl := (List.getElem?_eq_some_iff.mp h).1
  unfold L2.atI ixN
  rw [if_pos h0, if_pos (by omega)]
  exact h
theorem f_ixI {ns : List Int} {i : Int} (h0 : 0 ≤ i) (h1 : i < (ns.map D.int).length) (k : q (.va (.int (ns.getD i.toNat 0)))) : ixF (.lst (ns.map D.int)) (.int i) q := by
  have h2 : i.toNat < ns.length := by
    rw [List.length_map] at h1
    omega
  refine ⟨_, atI_get h0 (d := .int (ns.getD i.toNat 0)) ?_, k⟩
  rw [List.getElem?_map, List.getD_eq_getElem?_getD, List.getElem?_eq_getElem h2]
  rfl
theorem f_slL {xs : List D} {lo hi : Option Int} (k : q (.fr (.l (cutL xs lo hi)))) : slF (.lst xs) lo hi q := k
theorem f_slZ {xs : List D} {lo hi : Option Int} (k : q (.fr (.l (cutL xs lo hi)))) : slF (.frz xs) lo hi q := k
theorem f_slT {xs : List D} {lo hi : Option Int} (k : q (.va (.tup (cutL xs lo hi)))) : slF (.tup xs) lo hi q := k
theorem f_lenL {xs : List D} (k : q (.va (.int xs.length))) : lenF [.lst xs] q := k
theorem f_lenT {xs : List D} (k : q (.va (.int xs.length))) : lenF [.tup xs] q := k
theorem f_lenZ {xs : List D} (k : q (.va (.int xs.length))) : lenF [.frz xs] q := k
theorem f_lenS {x : Str} (h : x.length ≤ sizeLine) (k : q (.va (.int x.length))) : lenF [.str x] q := ⟨h, k⟩
theorem f_listL {xs : List D} (k : q (.fr (.l xs))) : listF [.lst xs] q := k
theorem f_listT {xs : List D} (k : q (.fr (.l xs))) : listF [.tup xs] q := k
theorem f_listZ {xs : List D} (k : q (.fr (.l xs))) : listF [.frz xs] q := k
theorem f_tupL {xs : List D} (k : q (.va (.tup xs))) : tupleF [.lst xs] q := k
theorem f_tupT {xs : List D} (k : q (.va (.tup xs))) : tupleF [.tup xs] q := k
theorem f_int {i : Int} (k : q (.va (.int i))) : intF [.int i] q := k
theorem f_min2 {i j : Int} (k : q (.va (.int (if j < i then j else i)))) : min2F [.int i, .int j] q := k
theorem f_eq {d e : D} {b : Bool} (h : ∃ p q, d.py = some p ∧ e.py = some q ∧ SeqAt.shaped p = true ∧ SeqAt.shaped q = true ∧ PyData.eqv p q = b) (k : q (.va (.bl b))) : bF eqF d e q := by
  obtain ⟨p, r, e1, e2, s1, s2, rfl⟩ := h
  exact .inl ⟨p, r, e1, e2, s1, s2, k⟩
theorem f_ne {d e : D} {b : Bool} (h : ∃ p q, d.py = some p ∧ e.py = some q ∧ SeqAt.shaped p = true ∧ SeqAt.shaped q = true ∧ PyData.eqv p q = b) (k : q (.va (.bl (!b)))) : bF neF d e q := by
  obtain ⟨p, r, e1, e2, s1, s2, rfl⟩ := h
  exact .inl ⟨p, r, e1, e2, s1, s2, k⟩
theorem eqv_int (i j : Int) : PyData.eqv (.int i) (.int j) = decide (i = j) := by
  unfold PyData.eqv; by_cases h : i = j <;> simp [h]
theorem f_eqD0 (k : q (.va (.bl true))) : bF eqF (.dct [] []) (.dct [] []) q := .inr ⟨rfl, rfl, k⟩
theorem f_neD0 (k : q (.va (.bl false))) : bF neF (.dct [] []) (.dct [] []) q := .inr ⟨rfl, rfl, k⟩
theorem f_eqI {i j : Int} (k : q (.va (.bl (decide (i = j))))) : bF eqF (.int i) (.int j) q := f_eq ⟨_, _, rfl, rfl, rfl, rfl, eqv_int i j⟩ k
theorem f_neI {i j : Int} (k : q (.va (.bl (!decide (i = j))))) : bF neF (.int i) (.int j) q := f_ne ⟨_, _, rfl, rfl, rfl, rfl, eqv_int i j⟩ k
variable {n : En → Prop} {rt : R → En → Prop} {bk ct : En → Prop} {S S2 : DS}
theorem s_seq (k : S ⟨S2 ⟨n, rt, bk, ct⟩, rt, bk, ct⟩ δ) : seq S S2 ⟨n, rt, bk, ct⟩ δ := k
theorem s_next (k : n δ) : snext ⟨n, rt, bk, ct⟩ δ := k
theorem s_expr (k : T δ fun _ δ1 => n δ1) : sexpr T ⟨n, rt, bk, ct⟩ δ := k
theorem s_if (k : C δ fun b δ1 => (b = true → S ⟨n, rt, bk, ct⟩ δ1) ∧ (b = false → S2 ⟨n, rt, bk, ct⟩ δ1)) : sif C S S2 ⟨n, rt, bk, ct⟩ δ := by
  have : ∀ (c : Bool) (A B : Prop), ((c = true → A) ∧ (c = false → B)) = if c = true then A else B := fun c A B => by cases c <;> simp
  simp only [this] at k
  exact k
theorem s_ret {ps : List Nat} (k : T δ fun r δ1 => ∃ r', r.out δ1 = some r' ∧ (∀ i, r = .rf i → i ∉ ps) ∧ rt r' δ1) : sret ps T ⟨n, rt, bk, ct⟩ δ := k
theorem s_out {r r' : R} {ps : List Nat} (e : r.out δ = some r') {P : R → Prop} (h : ∀ i, r = .rf i → i ∉ ps) (k : P r') : ∃ r', r.out δ = some r' ∧ (∀ i, r = .rf i → i ∉ ps) ∧ P r' := ⟨r', e, h, k⟩
theorem no_rf {r : R} {ps : List Nat} (h : (match r with | .rf i => ps.contains i | _ => false) = false) : ∀ i, r = .rf i → i ∉ ps := fun i e z => by
  subst e
  simp at h
  exact h z
theorem s_set {i : Nat} (k : T δ fun r δ1 => ∃ d, r.still δ1 = some d ∧ ∃ δ', δ1.set i (.va d) = δ' ∧ n δ') : sset i T ⟨n, rt, bk, ct⟩ δ := by
  simp only [exists_eq_left'] at k
  exact k
theorem s_norm {δ δ' : En} {P : En → Prop} (e : δ = δ') (k : P δ') : ∃ δ', δ = δ' ∧ P δ' := ⟨δ', e, k⟩
theorem s_still {r : R} {d : D} {P : D → Prop} (e : r.still δ = some d) (k : P d) : ∃ d, r.still δ = some d ∧ P d := ⟨d, e, k⟩
theorem s_setO {i : Nat} (k : T δ fun r δ1 => ∃ c, r = .fr c ∧ ∃ δ', δ1.set i (.ow c) = δ' ∧ n δ') : ssetO i T ⟨n, rt, bk, ct⟩ δ := by
  simp only [exists_eq_left'] at k
  exact k
theorem s_fr {c : Cn} {P : Cn → Prop} (k : P c) : ∃ c', R.fr c = .fr c' ∧ P c' := ⟨c, rfl, k⟩
theorem s_asg {U : DG} (k : T δ fun r δ1 => ∃ d, r.still δ1 = some d ∧ U d δ1 n) : sasg T U ⟨n, rt, bk, ct⟩ δ := k
theorem s_va {d : D} {P : D → Prop} (k : P d) : ∃ d', R.va d = .va d' ∧ P d' := ⟨d, rfl, k⟩
theorem s_par2 {i j : Nat} {m1 m2 : Bool} (k : TA δ fun rs δ1 => ∃ r1 r2 e1 e2, rs = [r1, r2] ∧ putE δ1 m1 r1 = some e1 ∧ putE δ1 m2 r2 = some e2 ∧ ∃ δ', (δ1.set i e1).set j e2 = δ' ∧ n δ') : spar2 i j m1 m2 TA ⟨n, rt, bk, ct⟩ δ := by
  simp only [exists_eq_left'] at k
  exact k
theorem s_put3 {r1 r2 r3 : R} {m1 m2 m3 : Bool} {e1 e2 e3 : E} {P : E → E → E → Prop} (h1 : putE δ m1 r1 = some e1) (h2 : putE δ m2 r2 = some e2) (h3 : putE δ m3 r3 = some e3) (k : P e1 e2 e3) : ∃ r1' r2' r3' e1 e2 e3, [r1, r2, r3] = [r1', r2', r3'] ∧ putE δ m1 r1' = some e1 ∧ putE δ m2 r2' = some e2 ∧ putE δ m3 r3' = some e3 ∧ P e1 e2 e3 := ⟨_, _, _, _, _, _, rfl, h1, h2, h3, k⟩
theorem s_put2 {r1 r2 : R} {m1 m2 : Bool} {e1 e2 : E} {P : E → E → Prop} (h1 : putE δ m1 r1 = some e1) (h2 : putE δ m2 r2 = some e2) (k : P e1 e2) : ∃ r1' r2' e1 e2, [r1, r2] = [r1', r2'] ∧ putE δ m1 r1' = some e1 ∧ putE δ m2 r2' = some e2 ∧ P e1 e2 := ⟨_, _, _, _, rfl, h1, h2, k⟩
variable {N : En → Prop}
theorem g_name {i : Nat} (k : ∃ δ', δ.set i (.va d) = δ' ∧ N δ') : dName i d δ N := by
  simp only [exists_eq_left'] at k
  exact k
theorem g_tup {m : Nat} {U : DGs} {ds : List D} (h : ds.length = m) (k : U ds δ N) : dTup m U (.tup ds) δ N := ⟨ds, rfl, h, k⟩
theorem g_nil (k : N δ) : dNil [] δ N := ⟨rfl, k⟩
theorem g_cons {U : DG} {W : DGs} {d : D} {r : List D} (k : U d δ fun δ1 => W r δ1 N) : dCons U W (d :: r) δ N := ⟨d, r, rfl, k⟩
theorem g_sub {To Ti : DT} (k : To δ fun ro δ1 => Ti δ1 fun ri δ2 => ∃ i xs k j, ro = .rf i ∧ δ2[i]? = some (E.ow (.l xs)) ∧ ri = .va (.int k) ∧ ixN xs.length k = some j ∧ ∃ δ', δ2.set i (.ow (.l (xs.set j d))) = δ' ∧ N δ') : dSub To Ti d δ N := by
  simp only [exists_eq_left'] at k
  exact k
theorem g_at {i j : Nat} {xs : List D} {k : Int} {P : Nat → List D → Nat → Prop} (e : δ[i]? = some (E.ow (.l xs))) (h : ixN xs.length k = some j) (kk : P i xs j) : ∃ i' xs k' j, R.rf i = .rf i' ∧ δ[i']? = some (E.ow (.l xs)) ∧ R.va (.int k) = .va (.int k') ∧ ixN xs.length k' = some j ∧ P i' xs j := ⟨i, xs, k, j, rfl, e, rfl, h, kk⟩
variable {f : List D → List D → (D → List D → Prop) → Prop}
theorem e_tlm (k : T δ fun ro δ1 => ∃ i xs0, ro = .rf i ∧ δ1[i]? = some (E.ow (.l xs0)) ∧ TA δ1 fun rs δ2 => ∃ xs ds, δ2[i]? = some (E.ow (.l xs)) ∧ stills δ2 rs = some ds ∧ f xs ds fun d ys => ∃ δ', δ2.set i (.ow (.l ys)) = δ' ∧ Q (.va d) δ') : tlm f T TA δ Q := by
  simp only [exists_eq_left'] at k
  exact k
theorem e_lm1 {i : Nat} {xs : List D} {P : Nat → Prop} (e : δ[i]? = some (E.ow (.l xs))) (k : P i) : ∃ i' xs0, R.rf i = .rf i' ∧ δ[i']? = some (E.ow (.l xs0)) ∧ P i' := ⟨i, xs, rfl, e, k⟩
theorem e_lm2 {i : Nat} {rs : List R} {xs ds : List D} {P : List D → List D → Prop} (e : δ[i]? = some (E.ow (.l xs))) (e2 : stills δ rs = some ds) (k : P xs ds) : ∃ xs ds, δ[i]? = some (E.ow (.l xs)) ∧ stills δ rs = some ds ∧ P xs ds := ⟨xs, ds, e, e2, k⟩
theorem f_app {xs : List D} {d : D} {q : D → List D → Prop} (h : xs.length < sizeLine) (k : q .non (xs ++ [d])) : appF xs [d] q := ⟨h, k⟩
theorem e_tcall {sp : DSp} {ms : List Bool} (k : TA δ fun rs δ1 => ∃ es, passes δ1 rs ms = some es ∧ (rfs rs).Nodup ∧ sp es fun r es' => ∃ δ', puts δ1 rs es' = δ' ∧ Q r δ') : tcall sp ms TA δ Q := by
  simp only [exists_eq_left'] at k
  unfold tcall
  have : ∀ rs δ1, (∃ es, passes δ1 rs ms = some es ∧ (rfs rs).Nodup ∧ sp es fun r es' => Q r (puts δ1 rs es')) = ((rfs rs).Nodup ∧ ∃ es, passes δ1 rs ms = some es ∧ sp es fun r es' => Q r (puts δ1 rs es')) := fun rs δ1 => propext ⟨fun ⟨es, a, b, c⟩ => ⟨b, es, a, c⟩, fun ⟨b, es, a, c⟩ => ⟨es, a, b, c⟩⟩
  simp only [this] at k
  exact k
theorem e_pass {rs : List R} {ms : List Bool} {es : En} {P : En → Prop} (e : passes δ rs ms = some es) (h : (rfs rs).Nodup) (k : P es) : ∃ es, passes δ rs ms = some es ∧ (rfs rs).Nodup ∧ P es := ⟨es, e, h, k⟩
theorem e_da1 {r0 : R} {d0 : D} {P : List D → Prop} (h0 : r0.dat δ = some d0) (k : P [d0]) : ∃ ds, dats δ [r0] = some ds ∧ P ds := ⟨_, by simp only [dats, h0, Option.bind_some, Option.map_some], k⟩
theorem e_da2 {r0 r1 : R} {d0 d1 : D} {P : List D → Prop} (h0 : r0.dat δ = some d0) (h1 : r1.dat δ = some d1) (k : P [d0, d1]) : ∃ ds, dats δ [r0, r1] = some ds ∧ P ds := ⟨_, by simp only [dats, h0, h1, Option.bind_some, Option.map_some], k⟩
theorem e_da3 {r0 r1 r2 : R} {d0 d1 d2 : D} {P : List D → Prop} (h0 : r0.dat δ = some d0) (h1 : r1.dat δ = some d1) (h2 : r2.dat δ = some d2) (k : P [d0, d1, d2]) : ∃ ds, dats δ [r0, r1, r2] = some ds ∧ P ds := ⟨_, by simp only [dats, h0, h1, h2, Option.bind_some, Option.map_some], k⟩
theorem e_st1 {r0 : R} {d0 : D} {P : List D → Prop} (h0 : r0.still δ = some d0) (k : P [d0]) : ∃ ds, stills δ [r0] = some ds ∧ ds.length ≤ sizeLine ∧ P ds := ⟨[d0], by simp only [stills, h0, Option.bind_some, Option.map_some], (show 1 ≤ sizeLine by decide), k⟩
theorem e_pa1 {r0 : R} {e0 : E} {m0 : Bool} {rs : List R} {P : En → Prop} (h0 : pass1 δ r0 m0 = some e0) (hn : (rfs rs).Nodup) (k : P [e0]) : ∃ es, passes δ [r0] [m0] = some es ∧ (rfs rs).Nodup ∧ P es := ⟨_, by simp only [passes, h0, Option.bind_some, Option.map_some], hn, k⟩
theorem e_st2 {r0 r1 : R} {d0 d1 : D} {P : List D → Prop} (h0 : r0.still δ = some d0) (h1 : r1.still δ = some d1) (k : P [d0, d1]) : ∃ ds, stills δ [r0, r1] = some ds ∧ ds.length ≤ sizeLine ∧ P ds := ⟨[d0, d1], by simp only [stills, h0, h1, Option.bind_some, Option.map_some], (show 2 ≤ sizeLine by decide), k⟩
theorem e_pa2 {r0 r1 : R} {e0 e1 : E} {m0 m1 : Bool} {rs : List R} {P : En → Prop} (h0 : pass1 δ r0 m0 = some e0) (h1 : pass1 δ r1 m1 = some e1) (hn : (rfs rs).Nodup) (k : P [e0, e1]) : ∃ es, passes δ [r0, r1] [m0, m1] = some es ∧ (rfs rs).Nodup ∧ P es := ⟨_, by simp only [passes, h0, h1, Option.bind_some, Option.map_some], hn, k⟩
theorem e_st3 {r0 r1 r2 : R} {d0 d1 d2 : D} {P : List D → Prop} (h0 : r0.still δ = some d0) (h1 : r1.still δ = some d1) (h2 : r2.still δ = some d2) (k : P [d0, d1, d2]) : ∃ ds, stills δ [r0, r1, r2] = some ds ∧ ds.length ≤ sizeLine ∧ P ds := ⟨[d0, d1, d2], by simp only [stills, h0, h1, h2, Option.bind_some, Option.map_some], (show 3 ≤ sizeLine by decide), k⟩
theorem e_pa3 {r0 r1 r2 : R} {e0 e1 e2 : E} {m0 m1 m2 : Bool} {rs : List R} {P : En → Prop} (h0 : pass1 δ r0 m0 = some e0) (h1 : pass1 δ r1 m1 = some e1) (h2 : pass1 δ r2 m2 = some e2) (hn : (rfs rs).Nodup) (k : P [e0, e1, e2]) : ∃ es, passes δ [r0, r1, r2] [m0, m1, m2] = some es ∧ (rfs rs).Nodup ∧ P es := ⟨_, by simp only [passes, h0, h1, h2, Option.bind_some, Option.map_some], hn, k⟩
theorem e_st4 {r0 r1 r2 r3 : R} {d0 d1 d2 d3 : D} {P : List D → Prop} (h0 : r0.still δ = some d0) (h1 : r1.still δ = some d1) (h2 : r2.still δ = some d2) (h3 : r3.still δ = some d3) (k : P [d0, d1, d2, d3]) : ∃ ds, stills δ [r0, r1, r2, r3] = some ds ∧ ds.length ≤ sizeLine ∧ P ds := ⟨[d0, d1, d2, d3], by simp only [stills, h0, h1, h2, h3, Option.bind_some, Option.map_some], (show 4 ≤ sizeLine by decide), k⟩
theorem e_pa4 {r0 r1 r2 r3 : R} {e0 e1 e2 e3 : E} {m0 m1 m2 m3 : Bool} {rs : List R} {P : En → Prop} (h0 : pass1 δ r0 m0 = some e0) (h1 : pass1 δ r1 m1 = some e1) (h2 : pass1 δ r2 m2 = some e2) (h3 : pass1 δ r3 m3 = some e3) (hn : (rfs rs).Nodup) (k : P [e0, e1, e2, e3]) : ∃ es, passes δ [r0, r1, r2, r3] [m0, m1, m2, m3] = some es ∧ (rfs rs).Nodup ∧ P es := ⟨_, by simp only [passes, h0, h1, h2, h3, Option.bind_some, Option.map_some], hn, k⟩
theorem e_st5 {r0 r1 r2 r3 r4 : R} {d0 d1 d2 d3 d4 : D} {P : List D → Prop} (h0 : r0.still δ = some d0) (h1 : r1.still δ = some d1) (h2 : r2.still δ = some d2) (h3 : r3.still δ = some d3) (h4 : r4.still δ = some d4) (k : P [d0, d1, d2, d3, d4]) : ∃ ds, stills δ [r0, r1, r2, r3, r4] = some ds ∧ ds.length ≤ sizeLine ∧ P ds := ⟨[d0, d1, d2, d3, d4], by simp only [stills, h0, h1, h2, h3, h4, Option.bind_some, Option.map_some], (show 5 ≤ sizeLine by decide), k⟩
theorem e_pa5 {r0 r1 r2 r3 r4 : R} {e0 e1 e2 e3 e4 : E} {m0 m1 m2 m3 m4 : Bool} {rs : List R} {P : En → Prop} (h0 : pass1 δ r0 m0 = some e0) (h1 : pass1 δ r1 m1 = some e1) (h2 : pass1 δ r2 m2 = some e2) (h3 : pass1 δ r3 m3 = some e3) (h4 : pass1 δ r4 m4 = some e4) (hn : (rfs rs).Nodup) (k : P [e0, e1, e2, e3, e4]) : ∃ es, passes δ [r0, r1, r2, r3, r4] [m0, m1, m2, m3, m4] = some es ∧ (rfs rs).Nodup ∧ P es := ⟨_, by simp only [passes, h0, h1, h2, h3, h4, Option.bind_some, Option.map_some], hn, k⟩
theorem e_lx1 {r0 : R} {d0 : D} {i : Nat} {xs : List D} {P : List D → List D → Prop} (e : δ[i]? = some (E.ow (.l xs))) (h0 : r0.still δ = some d0) (k : P xs [d0]) : ∃ xs ds, δ[i]? = some (E.ow (.l xs)) ∧ stills δ [r0] = some ds ∧ P xs ds := ⟨_, _, e, by simp only [stills, h0, Option.bind_some, Option.map_some], k⟩
theorem e_lx2 {r0 r1 : R} {d0 d1 : D} {i : Nat} {xs : List D} {P : List D → List D → Prop} (e : δ[i]? = some (E.ow (.l xs))) (h0 : r0.still δ = some d0) (h1 : r1.still δ = some d1) (k : P xs [d0, d1]) : ∃ xs ds, δ[i]? = some (E.ow (.l xs)) ∧ stills δ [r0, r1] = some ds ∧ P xs ds := ⟨_, _, e, by simp only [stills, h0, h1, Option.bind_some, Option.map_some], k⟩
variable {QI : List D → List (Nat × Cn) → En → Prop}
theorem i_list (k : T δ fun r δ1 => ∃ xs cs, srcL δ1 r = some (xs, cs) ∧ QI xs cs δ1) : ilist T δ QI := k
theorem i_src {r : R} {xs : List D} {cs : List (Nat × Cn)} {P : List D → List (Nat × Cn) → Prop} (e : srcL δ r = some (xs, cs)) (k : P xs cs) : ∃ xs cs, srcL δ r = some (xs, cs) ∧ P xs cs := ⟨xs, cs, e, k⟩
theorem i_tup (k : T δ fun r δ1 => ∃ xs, r = .va (.tup xs) ∧ QI xs [] δ1) : itup T δ QI := k
theorem i_tupx {xs : List D} {P : List D → Prop} (k : P xs) : ∃ xs', R.va (.tup xs) = .va (.tup xs') ∧ P xs' := ⟨xs, rfl, k⟩
theorem i_strx {x : Str} {P : Str → Prop} (k : P x) : ∃ x', R.va (.str x) = .va (.str x') ∧ P x' := ⟨x, rfl, k⟩
theorem i_rng1 (k : T δ fun r δ1 => ∃ j, r = .va (.int j) ∧ (-(2 ^ 62) ≤ j ∧ j < 2 ^ 62) ∧ QI (rangeD 0 j.toNat) [] δ1) : irng1 T δ QI := k
theorem i_zip (k : T δ fun r δ1 => U δ1 fun u δ2 => ∃ xs cs ys cs', srcL δ2 r = some (xs, cs) ∧ srcL δ2 u = some (ys, cs') ∧ QI (zipD xs ys) (cs ++ cs') δ2) : izip T U δ QI := k
theorem i_src2 {r u : R} {xs ys : List D} {cs cs' : List (Nat × Cn)} {P : List D → List (Nat × Cn) → List D → List (Nat × Cn) → Prop} (e : srcL δ r = some (xs, cs)) (e2 : srcL δ u = some (ys, cs')) (k : P xs cs ys cs') : ∃ xs cs ys cs', srcL δ r = some (xs, cs) ∧ srcL δ u = some (ys, cs') ∧ P xs cs ys cs' := ⟨xs, cs, ys, cs', e, e2, k⟩
def ForK (as : List Nat) (Gd : DG) (B : DS) (Z : DE) (items : List D) (cs : List (Nat × Cn)) (δ1 : En) : Prop := (∀ p ∈ cs, p.1 ∉ as) ∧ ∃ I : Nat → En → Prop, I 0 δ1 ∧ (∀ k δ, I k δ → ∀ p ∈ cs, δ[p.1]? = some (E.ow p.2)) ∧
  (∀ k x δ, items[k]? = some x → I k δ → Gd x δ fun δ' => B ⟨I (k + 1), Z.rt, Z.nx, I (k + 1)⟩ δ') ∧ (∀ δ, I items.length δ → Z.nx δ)
theorem s_for {as : List Nat} {SI : DI} {Gd : DG} {B : DS} (k : SI δ fun items cs δ1 => ForK as Gd B ⟨n, rt, bk, ct⟩ items cs δ1) : sfor as SI Gd B ⟨n, rt, bk, ct⟩ δ := k
theorem for_by {as : List Nat} {Gd : DG} {B : DS} {items : List D} {cs : List (Nat × Cn)} (I : Nat → En → Prop) (h0 : I 0 δ) (hcs : ∀ p ∈ cs, p.1 ∉ as) (hi : ∀ k δ, I k δ → ∀ p ∈ cs, δ[p.1]? = some (E.ow p.2))
    (ht : ∀ k x δ, items[k]? = some x → I k δ → Gd x δ fun δ' => B ⟨I (k + 1), rt, n, I (k + 1)⟩ δ') (he : ∀ δ, I items.length δ → n δ) : ForK as Gd B ⟨n, rt, bk, ct⟩ items cs δ := ⟨hcs, I, h0, hi, ht, he⟩
def CompK (Gd : DG) (C : DTT) (Te : DT) (vs : List Nat) (Q : R → En → Prop) (items : List D) (cs : List (Nat × Cn)) (δ1 : En) : Prop := noOw δ1 vs = true ∧ (∀ p ∈ cs, p.1 ∉ vs) ∧ ∃ I : Nat → List D → En → Prop, I 0 [] δ1 ∧ (∀ k acc δ, I k acc δ → ∀ p ∈ cs, δ[p.1]? = some (E.ow p.2)) ∧
  (∀ k x acc δ, items[k]? = some x → I k acc δ → Gd x (wipeE δ vs) fun δ2 => C δ2 fun b δ3 => if b = true then Te δ3 fun r δ4 => ∃ d, r.still δ4 = some d ∧ acc.length < sizeLine ∧ I (k + 1) (acc ++ [d]) (backE δ δ4 vs) else I (k + 1) acc (backE δ δ3 vs)) ∧
  (∀ acc δ, I items.length acc δ → Q (.fr (.l acc)) δ)
theorem e_comp {SI : DI} {Gd : DG} {Te : DT} {vs : List Nat} (k : SI δ fun items cs δ1 => CompK Gd C Te vs Q items cs δ1) : tcomp SI Gd C Te vs δ Q := k
theorem comp_by {Gd : DG} {Te : DT} {vs : List Nat} {items : List D} {cs : List (Nat × Cn)} (I : Nat → List D → En → Prop) (h0 : I 0 [] δ) (no : noOw δ vs = true) (hcs : ∀ p ∈ cs, p.1 ∉ vs) (hi : ∀ k acc δ, I k acc δ → ∀ p ∈ cs, δ[p.1]? = some (E.ow p.2))
    (ht : ∀ k x acc δ, items[k]? = some x → I k acc δ → Gd x (wipeE δ vs) fun δ2 => C δ2 fun b δ3 => (b = true → Te δ3 fun r δ4 => ∃ d, r.still δ4 = some d ∧ acc.length < sizeLine ∧ I (k + 1) (acc ++ [d]) (backE δ δ4 vs)) ∧ (b = false → I (k + 1) acc (backE δ δ3 vs)))
    (he : ∀ acc δ, I items.length acc δ → Q (.fr (.l acc)) δ) : CompK Gd C Te vs Q items cs δ := by
  have e : ∀ (c : Bool) (A B : Prop), ((c = true → A) ∧ (c = false → B)) = if c = true then A else B := fun c A B => by cases c <;> simp
  simp only [e] at ht
  exact ⟨no, hcs, I, h0, hi, ht, he⟩
/-- a comprehension without a condition: item k becomes f k, the slots stay -/
theorem comp_map {Gd : DG} {Te : DT} {vs : List Nat} {items : List D} {cs : List (Nat × Cn)} (f : Nat → D) (no : noOw δ vs = true) (hcs : ∀ p ∈ cs, p.1 ∉ vs) (hi : ∀ p ∈ cs, δ[p.1]? = some (E.ow p.2))
    (ht : ∀ k x, items[k]? = some x → Gd x (wipeE δ vs) fun δ2 => Te δ2 fun r δ4 => ∃ d, r.still δ4 = some d ∧ ((List.range k).map f).length < sizeLine ∧ (backE δ δ4 vs = δ ∧ (List.range k).map f ++ [d] = (List.range (k + 1)).map f))
    (he : Q (.fr (.l ((List.range items.length).map f))) δ) : CompK Gd tyes Te vs Q items cs δ := by
  refine comp_by (fun k acc δ' => δ' = δ ∧ acc = (List.range k).map f) ⟨rfl, rfl⟩ no hcs (fun k acc δ' h => by rw [h.1]; exact hi) (fun k x acc δ' e h => ?_) (fun acc δ' h => by rw [h.1, h.2]; exact he)
  obtain ⟨rfl, rfl⟩ := h
  have h2 := ht k x e
  simp only [tyes, forall_const, Bool.true_eq_false, false_implies, and_true, true_implies]
  exact h2
def ownChk : En → Nat → List Nat → List Nat → Bool
  | [], _, _, _ => true
  | .ow _ :: δ, i, ps, as => ps.contains i && !as.contains i && ownChk δ (i + 1) ps as
  | _ :: δ, i, ps, as => ownChk δ (i + 1) ps as
theorem own_by0 : ∀ {δ : En} {j : Nat} {ps as : List Nat}, ownChk δ j ps as = true → ∀ (i : Nat) c, δ[i]? = some (E.ow c) → j + i ∈ ps ∧ j + i ∉ as
  | [], _, _, _, _, i, c, h => by simp at h
  | .ow _ :: δ, j, ps, as, h, 0, c, _ => by
    simp only [ownChk, Bool.and_eq_true, Bool.not_eq_true', List.contains_eq_mem, decide_eq_true_eq, decide_eq_false_iff_not] at h
    exact h.1
  | .ow _ :: δ, j, ps, as, h, i + 1, c, e => by
    simp only [ownChk, Bool.and_eq_true] at h
    have := own_by0 h.2 i c (by simpa using e)
    rw [show j + (i + 1) = j + 1 + i by omega]
    exact this
  | .va _ :: δ, j, ps, as, h, 0, c, e => by simp at e
  | .no :: δ, j, ps, as, h, 0, c, e => by simp at e
  | .va _ :: δ, j, ps, as, h, i + 1, c, e => by
    have := own_by0 (δ := δ) (j := j + 1) h i c (by simpa using e)
    rw [show j + (i + 1) = j + 1 + i by omega]
    exact this
  | .no :: δ, j, ps, as, h, i + 1, c, e => by
    have := own_by0 (δ := δ) (j := j + 1) h i c (by simpa using e)
    rw [show j + (i + 1) = j + 1 + i by omega]
    exact this
theorem own_by {δ : En} {ps as : List Nat} (h : ownChk δ 0 ps as = true) : ∀ (i : Nat) c, δ[i]? = some (E.ow c) → i ∈ ps ∧ i ∉ as := fun i c e => by
  have := own_by0 h i c e
  rw [Nat.zero_add] at this
  exact this
theorem SndSP.mono {K : PySem.W.Frag} {ps as bs : List Nat} {t : TS} {T : DS} (a : SndSP K ps as t T) (h : ∀ i, i ∈ as → i ∈ bs) : SndSP K ps bs t T := fun F hps hp σ H G δ D3 D s q g =>
  a F hps (fun i hi => hp i (h i hi)) σ H G δ D3 D s q ⟨fun _ _ _ _ n z => g.nx _ _ _ _ (n.mono h) z, fun _ _ _ _ n z => g.bk _ _ _ _ (n.mono h) z, fun _ _ _ _ n z => g.ct _ _ _ _ (n.mono h) z, fun _ _ _ _ _ _ n r nr z => g.rt _ _ _ _ _ _ (n.mono h) r nr z⟩
end
end L3
namespace L3
open PySem PySem.Spec PyProof.Rows L2 GenW
section
variable {X : Cx}
theorem GI.get {S : Addr} {ip : List (Addr × Obj)} {ys : List V} {σ : L2.St} {H : Hp} {s : Shared} (h : GI X S ip ys σ H s) : ∃ (acc : Array Value) (c : Nat), Vals ys acc.toList ∧ Inv X ((S, lstObj acc c) :: ip) σ H s := h
end
end L3
namespace L3
open PySem PySem.Spec PyProof.Rows L2 GenW
structure DGE where
  nx : List D → En → Prop
  rt : List D → Prop
  bk : List D → En → Prop := fun _ _ => False
  ct : List D → En → Prop := fun _ _ => False
abbrev DGn := DGE → List D → En → Prop
structure GoodG (K : PySem.W.Frag) (F : FE) (as : List Nat) (σ : L2.St) (H G : Hp) (δ : En) (D3 : DGE) (Z : GEnds) : Prop where
  nx : ∀ σ' H' G' δ' ys ds, Nxt K F as σ H G δ σ' H' G' δ' → AtL K G' ys ds → D3.nx ds δ' → Z.nx ys σ' H'
  bk : ∀ σ' H' G' δ' ys ds, Nxt K F as σ H G δ σ' H' G' δ' → AtL K G' ys ds → D3.bk ds δ' → Z.bk ys σ' H'
  ct : ∀ σ' H' G' δ' ys ds, Nxt K F as σ H G δ σ' H' G' δ' → AtL K G' ys ds → D3.ct ds δ' → Z.ct ys σ' H'
  rt : ∀ σ' H' G' δ' ys ds, Nxt K F as σ H G δ σ' H' G' δ' → AtL K G' ys ds → D3.rt ds → Z.rt ys .non H'
def SndGn (K : PySem.W.Frag) (as : List Nat) (t : TGn) (T : DGn) : Prop := ∀ (F : FE), (∀ i l, ¬ F.P i l) → ∀ (σ : L2.St) (H G : Hp) (δ : En) (D3 : DGE) (Z : GEnds) (ys : List V) (ds : List D), S3 K F σ H G δ → AtL K G ys ds → T D3 ds δ → GoodG K F as σ H G δ D3 Z → t Z ys σ H
section
variable {K : PySem.W.Frag}
theorem GoodG.from {F : FE} {as bs cs : List Nat} {σ σ1 : L2.St} {H G H1 G1 : Hp} {δ δ1 : En} {D3 : DGE} {Z : GEnds} (g : GoodG K F cs σ H G δ D3 Z) (n : Nxt K F as σ H G δ σ1 H1 G1 δ1) (h : ∀ i, i ∈ as ++ bs → i ∈ cs) : GoodG K F bs σ1 H1 G1 δ1 D3 Z :=
  ⟨fun _ _ _ _ _ _ m a q => g.nx _ _ _ _ _ _ ((n.trans m).mono h) a q, fun _ _ _ _ _ _ m a q => g.bk _ _ _ _ _ _ ((n.trans m).mono h) a q, fun _ _ _ _ _ _ m a q => g.ct _ _ _ _ _ _ ((n.trans m).mono h) a q, fun _ _ _ _ _ _ m a q => g.rt _ _ _ _ _ _ ((n.trans m).mono h) a q⟩
theorem SndGn.mono {as bs : List Nat} {t : TGn} {T : DGn} (a : SndGn K as t T) (h : ∀ i, i ∈ as → i ∈ bs) : SndGn K bs t T := fun F hp σ H G δ D3 Z ys ds s ha q g =>
  a F hp σ H G δ D3 Z ys ds s ha q ⟨fun _ _ _ _ _ _ n z e => g.nx _ _ _ _ _ _ (n.mono h) z e, fun _ _ _ _ _ _ n z e => g.bk _ _ _ _ _ _ (n.mono h) z e, fun _ _ _ _ _ _ n z e => g.ct _ _ _ _ _ _ (n.mono h) z e, fun _ _ _ _ _ _ n z e => g.rt _ _ _ _ _ _ (n.mono h) z e⟩
abbrev GSp := En → (List D → Prop) → Prop
end
end L3
namespace L3
open PySem PySem.Spec PyProof.Rows L2
def pk {α : Type} (is : List Nat) (xs : List α) : List α := is.filterMap fun i => xs[i]?
theorem pk_get {α : Type} {is : List Nat} {xs : List α} (h : ∀ i ∈ is, i < xs.length) : (pk is xs).length = is.length ∧ ∀ (j i : Nat), is[j]? = some i → (pk is xs)[j]? = xs[i]? := by
  induction is with
  | nil => exact ⟨rfl, fun j i e => by simp at e⟩
  | cons i0 is ih =>
    obtain ⟨l, g⟩ := ih fun i hi => h i (List.mem_cons_of_mem _ hi)
    have hi0 : i0 < xs.length := h i0 List.mem_cons_self
    have h0 : xs[i0]? = some xs[i0] := List.getElem?_eq_getElem hi0
    have e : pk (i0 :: is) xs = xs[i0] :: pk is xs := by
      unfold pk
      rw [List.filterMap_cons, h0]
    rw [e]
    refine ⟨by rw [List.length_cons, List.length_cons, l], fun j i ej => ?_⟩
    cases j with
    | zero =>
      simp at ej
      subst ej
      rw [h0]
      rfl
    | succ j =>
      rw [List.getElem?_cons_succ]
      exact g j i (by simpa using ej)
theorem Vals.pk {vs : List V} {us : List Value} (r : Vals vs us) : ∀ is : List Nat, Vals (pk is vs) (pk is us)
  | [] => .nil
  | i :: is => by
    unfold L3.pk
    rw [List.filterMap_cons, List.filterMap_cons]
    cases e : vs[i]? with
    | none =>
      rw [Vals.none_of r e]
      exact Vals.pk r is
    | some v =>
      obtain ⟨u, e2, ru⟩ := Vals.get r e
      rw [e2]
      exact .cons ru (Vals.pk r is)
theorem nodup_inj {α : Type} : ∀ {xs : List α} {i j : Nat} {x : α}, xs.Nodup → xs[i]? = some x → xs[j]? = some x → i = j
  | [], i, _, _, _, h, _ => by simp at h
  | _ :: _, 0, 0, _, _, _, _ => rfl
  | y :: ys, 0, j + 1, x, n, h, h' => by
    simp at h h'
    subst h
    exact absurd (List.mem_of_getElem? h') (List.nodup_cons.mp n).1
  | y :: ys, i + 1, 0, x, n, h, h' => by
    simp at h h'
    subst h'
    exact absurd (List.mem_of_getElem? h) (List.nodup_cons.mp n).1
  | y :: ys, i + 1, j + 1, x, n, h, h' => by
    have := nodup_inj (List.nodup_cons.mp n).2 (i := i) (j := j) (by simpa using h) (by simpa using h')
    omega
section
variable {K : PySem.W.Frag} {σ : L2.St} {H0 H1 H G : Hp}
theorem RRs.of : ∀ {rs : List R} {vs : List V}, vs.length = rs.length → (∀ (i : Nat) r v, rs[i]? = some r → vs[i]? = some v → RR K σ H0 H G r v) → (∀ (i j : Nat) c c' v, rs[i]? = some (R.fr c) → rs[j]? = some (R.fr c') → vs[i]? = some v → vs[j]? = some v → i = j) → RRs K σ H0 H G rs vs
  | [], [], _, _, _ => .nil
  | r :: rs, v :: vs, l, h, a => by
    refine .cons (h 0 r v rfl rfl) (RRs.of (by simpa using l) (fun i r v e e2 => h (i + 1) r v (by simpa using e) (by simpa using e2)) fun i j c c' v e1 e2 e3 e4 => ?_) fun c e j c' e2 e3 => ?_
    · have := a (i + 1) (j + 1) c c' v (by simpa using e1) (by simpa using e2) (by simpa using e3) (by simpa using e4)
      omega
    · have := a 0 (j + 1) c c' v (by rw [e]; rfl) (by simpa using e2) rfl (by simpa using e3)
      omega
  | [], _ :: _, l, _, _ => by cases l
  | _ :: _, [], l, _, _ => by cases l
theorem RRs.pk {rs : List R} {vs : List V} (rr : RRs K σ H0 H G rs vs) {is : List Nat} (nd : is.Nodup) (h : ∀ i ∈ is, i < rs.length) : RRs K σ H0 H G (pk is rs) (pk is vs) := by
  have hv : ∀ i ∈ is, i < vs.length := fun i hi => by rw [rr.length]; exact h i hi
  obtain ⟨l1, g1⟩ := pk_get h
  obtain ⟨l2, g2⟩ := pk_get hv
  have at_ : ∀ (j : Nat) {r : R}, (L3.pk is rs)[j]? = some r → ∃ i, is[j]? = some i ∧ rs[i]? = some r := fun j r e => by
    have hj : j < is.length := by rw [← l1]; exact (List.getElem?_eq_some_iff.mp e).1
    have ei : is[j]? = some is[j] := List.getElem?_eq_getElem hj
    exact ⟨_, ei, by rw [← g1 j _ ei]; exact e⟩
  refine RRs.of (by rw [l1, l2]) (fun j r v e e2 => ?_) fun j j' c c' v e1 e2 e3 e4 => ?_
  · obtain ⟨i, ei, er⟩ := at_ j e
    obtain ⟨v', q1, q2⟩ := rr.get er
    rw [g2 j i ei, q1] at e2
    cases e2
    exact q2
  · obtain ⟨i, ei, er⟩ := at_ j e1
    obtain ⟨i', ei', er'⟩ := at_ j' e2
    rw [g2 j i ei] at e3
    rw [g2 j' i' ei'] at e4
    have := rr.apart er er' e3 e4
    subst this
    obtain ⟨hj, ej⟩ := List.getElem?_eq_some_iff.mp ei
    obtain ⟨hj', ej'⟩ := List.getElem?_eq_some_iff.mp ei'
    exact nodup_inj nd ei ei'
theorem RRs.onL {σ : L2.St} {H0 G0 H1 G1 H2 G2 : Hp} {δ δ1 : En} (L : Rel K σ H0 G0 δ) (f1 : Fr (Ad σ δ) H0 G0 H1 G1) (le1 : Le δ1 δ) (f2 : Fr (Ad σ δ1) H1 G1 H2 G2) : ∀ {rs : List R} {vs : List V}, RRs K σ H0 H1 G1 rs vs → RRs K σ H0 H2 G2 rs vs
  | _, _, .nil => .nil
  | _, _, .cons h t n => .cons (h.on L f1 le1 f2) (RRs.onL L f1 le1 f2 t) n
end
section
variable {K : PySem.W.Frag}
theorem rrs_app {σ : L2.St} {H G H1 G1 H2 G2 : Hp} {δ δ1 : En} {rs us : List R} {vs zs : List V} (L : Rel K σ H G δ) (f1 : Fr (Ad σ δ) H G H1 G1) (le1 : Le δ1 δ) (f2 : Fr (Ad σ δ1) H1 G1 H2 G2) (rr : RRs K σ H H1 G1 rs vs) (rrs : RRs K σ H1 H2 G2 us zs) : RRs K σ H H2 G2 (rs ++ us) (vs ++ zs) := by
  have r1 := RRs.onL L f1 le1 f2 rr
  have r2 := rrs.base (fun a h => f1.free h)
  have apart : ∀ (i j : Nat) c c' v, rs[i]? = some (R.fr c) → us[j]? = some (R.fr c') → vs[i]? = some v → zs[j]? = some v → False := fun i j c c' v e1 e2 e3 e4 => by
    obtain ⟨v1, h1, l, rfl, n, g, hc⟩ := rr.get e1
    obtain ⟨v2, h2, l', rfl, n', _⟩ := rrs.get e2
    rw [e3] at h1
    rw [e4] at h2
    cases h1
    cases h2
    exact hc.some n'
  have ll := r1.length
  refine RRs.of (by rw [List.length_append, List.length_append, r1.length, r2.length]) (fun i r v e e2 => ?_) fun i j c c' v e1 e2 e3 e4 => ?_
  · by_cases z : i < rs.length
    · rw [List.getElem?_append_left z] at e
      rw [List.getElem?_append_left (by omega)] at e2
      obtain ⟨v', h1, h2⟩ := r1.get e
      rw [e2] at h1
      cases h1
      exact h2
    · rw [List.getElem?_append_right (by omega)] at e
      rw [List.getElem?_append_right (by omega), ll] at e2
      obtain ⟨v', h1, h2⟩ := r2.get e
      rw [e2] at h1
      cases h1
      exact h2
  · by_cases z : i < rs.length
    · rw [List.getElem?_append_left z] at e1
      rw [List.getElem?_append_left (by omega)] at e3
      by_cases z' : j < rs.length
      · rw [List.getElem?_append_left z'] at e2
        rw [List.getElem?_append_left (by omega)] at e4
        exact r1.apart e1 e2 e3 e4
      · rw [List.getElem?_append_right (by omega)] at e2
        rw [List.getElem?_append_right (by omega), ll] at e4
        exact (apart _ _ _ _ _ e1 e2 e3 e4).elim
    · rw [List.getElem?_append_right (by omega)] at e1
      rw [List.getElem?_append_right (by omega), ll] at e3
      by_cases z' : j < rs.length
      · rw [List.getElem?_append_left z'] at e2
        rw [List.getElem?_append_left (by omega)] at e4
        exact (apart _ _ _ _ _ e2 e1 e4 e3).elim
      · rw [List.getElem?_append_right (by omega)] at e2
        rw [List.getElem?_append_right (by omega), ll] at e4
        have := r2.apart e1 e2 e3 e4
        omega
def tCallP (sp : Sp) (np nk : Nat) (is : List Nat) (W : XK) (t u : TA) : TE := fun σ H Q => t σ H fun vs H1 => vs.length = np ∧ u σ H1 fun zs H2 => zs.length = nk ∧ sp (pk is (vs ++ zs)) H2 Q W
def tcallP (sp : DSp) (ms : List Bool) (np nk : Nat) (is : List Nat) (T U : DTA) : DT := fun δ Q => T δ fun rs δ1 => rs.length = np ∧ U δ1 fun us δ2 => us.length = nk ∧ ∃ es, passes δ2 (pk is (rs ++ us)) ms = some es ∧ (rfs (pk is (rs ++ us))).Nodup ∧ sp es fun r es' => ∃ δ', puts δ2 (pk is (rs ++ us)) es' = δ' ∧ Q r δ'
theorem snd_callP {sp : DSp} {ms : List Bool} {np nk : Nat} {is : List Nat} {t u : TA} {T U : DTA} {n : Nat} {W : XK} (hn : ms.length = n) (ni : is.Nodup) (hi : ∀ i ∈ is, i < np + nk) (a : SndA K t T) (b : SndA K u U) : Snd K (tCallP (up K n sp) np nk is W t u) (tcallP sp ms np nk is T U) := fun σ H G δ Q Q3 L h k => by
  refine a σ H G δ _ _ L h fun rs δ1 vs H1 G1 L1 f1 le1 rr q1 => ?_
  obtain ⟨l1, q1⟩ := q1
  refine ⟨by rw [rr.length]; exact l1, ?_⟩
  refine b σ H1 G1 δ1 _ _ L1 q1 fun us δ2 zs H2 G2 L2 f2 le2 rrs q2 => ?_
  obtain ⟨l2, es, he, nd, hs⟩ := q2
  refine ⟨by rw [rrs.length]; exact l2, ?_⟩
  have f12 : Fr (Ad σ δ) H G H2 G2 := f1.trans f2 fun a h => .inl (le1.ad h)
  have ra := rrs_app L f1 le1 f2 rr rrs
  exact call_core L L2 f12 (le2.trans le1) (ra.pk ni fun i z => by rw [List.length_append, l1, l2]; exact hi i z) nd ((passes_len he).trans hn) he hs fun r es' v H' G' l f le r _ q => by
    obtain ⟨_, rfl, q⟩ := q
    exact k _ _ v H' G' l f le r q
end
/-- a def that is called with keywords: np positional arguments, then these names -/
structure FK (P : Program) (w : World) (K : PySem.W.Frag) (mg : Str → Option Value) (base : Heap) (x : Str) (k n : Nat) (sp : DSp) (np : Nat) (ks : List Str) (is : List Nat) : Prop where
  ex : ∃ fd ps, FnOk P w K mg base CX0 k (He.ga K x) fd ps (up K n sp) ∧ ∀ (s : Shared) (us ws : List Value), K.In s.heap → us.length = np → ws.length = ks.length → BindsTo s fd ⟨us, ks.zip ws⟩ (ps.zip (pk is (us ++ ws)))
  kp : PySem.W.keepIn K (.ref (He.ga K x)) = true
  at_ : mg x = some (.ref (He.ga K x))
section
variable {X : Cx} {CX : CXT} {k n : Nat} {f : Addr} {fd : FuncData} {ps : List Str} {sp : Sp} {E : XK} {x : Str} {p pos : Pos} {e : Expr} {es : List Expr} {t tk : TA} {kws : List Keyword} {ks : List Str}
theorem run_fkp {pins : List (Addr × Obj)} {σ : L2.St} {H : Hp} {s : Shared} {Q : VK} {us ws zs : List Value} {vs : List V} (F : FnOk X.prog X.w X.K X.mg X.base CX k f fd ps sp) (hr : Room k X.A) (hb : BindsTo s fd ⟨us, ks.zip ws⟩ (ps.zip zs)) (hx : Passes CX X E)
    (I : Inv X pins σ H s) (r : Vals vs zs) (h : sp vs H Q E) : wpAny (model X.prog X.w) X.A (call (.ref f) us (ks.zip ws)) (EP X pins σ Q) X.xe s := by
  refine wpAny_call (codeAny_mono (F.run X.A X.stack s H ⟨us, ks.zip ws⟩ zs vs Q E hr I.env0 hb r h) fun r s' hq => ?_)
  cases r with
  | error e => exact hx pins σ H s e s' I hq
  | ok fl =>
    cases fl with
    | ret u => exact I.after hq
    | next => exact False.elim hq
    | brk => exact False.elim hq
    | cont => exact False.elim hq
theorem pe_fk0 {sp : DSp} {nk : Nat} {is : List Nat} (h : FK X.prog X.w X.K X.mg X.base x k n sp 0 ks is) (hr : Room k X.A) (hg : Gl X x) (hkw : PK X kws tk) (hlk : ks.length = nk)
    (hall : (backToKw pos (keywordEach kws X.env)).all (·.1.isSome) = true := by rfl) (hks : (backToKw pos (keywordEach kws X.env)).filterMap (·.1) = ks := by rfl)
    (hdb : (x == ("__debug__" : Str)) = false := by decide)
    (hpl : ((backTo pos (starEach [] X.env)).any (·.1) || (backToKw pos (keywordEach kws X.env)).any (·.1.isNone)) = false := by rfl) :
    PE X (.Call (.Name x p) [] kws pos) (tCallP (up X.K n sp) 0 nk is E0 tNil tk) := by
  obtain ⟨fd, ps, F, hb⟩ := h.ex
  refine ⟨fun pins s σ H Q I hq => ?_⟩
  obtain ⟨_, hq⟩ := hq
  refine wpAny_Call_Name_kw (ld_glob I hg h.at_ ?_ hdb)
  refine PySem.W.callWith_KW0 (h₀ := X.base) I.ok.mod.kin h.kp hall (wpAny_mono (hkw.run pos pins s σ H _ I hq) (fun ws s2 ⟨zs, H2, I2, rz, l2, q2⟩ => ⟨I2.kIn, ?_⟩) fun _ _ z => z) hpl
  rw [hks]
  exact run_fkp F hr (hb s2 [] ws I2.kIn rfl (by rw [← rz.length, hlk]; exact l2)) pass0 I2 (Vals.pk rz is) q2
end
def putFD (f : Str) (d : D) : List (Str × D) → List (Str × D)
  | [] => [(f, d)]
  | (g, x) :: r => if g = f then (g, d) :: r else (g, x) :: putFD f d r
section
variable {K : PySem.W.Frag}
theorem AtF.put {G : Hp} {f : Str} {v : V} {d : D} (h : At K G v d) : ∀ {vs : List (Str × V)} {ds : List (Str × D)}, AtF K G vs ds → AtF K G (putF f v vs) (putFD f d ds)
  | _, _, .nil => .cons ⟨rfl, h⟩ .nil
  | _, _, .cons (a := (g, x)) (b := (g', y)) a t => by
    obtain ⟨e, a⟩ := a
    have e' : g = g' := e
    subst e'
    unfold putF putFD
    by_cases z : g = f
    · rw [if_pos z, if_pos z]
      exact .cons ⟨rfl, h⟩ t
    · rw [if_neg z, if_neg z]
      exact .cons ⟨rfl, a⟩ (AtF.put h t)
theorem AtF.length {G : Hp} {vs : List (Str × V)} {ds : List (Str × D)} (h : AtF K G vs ds) : vs.length = ds.length := Paired.length h
end
def iAny (K : PySem.W.Frag) (t : TE) : TI := fun σ H R => iList K t σ H R ∨ iTup K t σ H R
theorem pi_any {X : Cx} {tg l : Expr} {tl : TE} (hl : PE X l tl) : PI X tg l (iAny X.K tl) := ⟨fun pins s σ H R I h => h.elim (fun h => (pi_list hl).run pins s σ H R I h) fun h => (pi_tup hl).run pins s σ H R I h⟩
def iany (T : DT) : DI := fun δ Q => ilist T δ Q ∨ itup T δ Q
theorem sndi_any {K : PySem.W.Frag} {t : TE} {T : DT} (a : Snd K t T) : SndI K (iAny K t) (iany T) := fun σ H G δ R Q3 L h k => h.elim (fun h => .inl (sndi_list a σ H G δ R Q3 L h k)) fun h => .inr (sndi_tup a σ H G δ R Q3 L h k)
theorem i_anyL {T : DT} {δ : En} {QI : List D → List (Nat × Cn) → En → Prop} (k : ilist T δ QI) : iany T δ QI := .inl k
theorem i_anyT {T : DT} {δ : En} {QI : List D → List (Nat × Cn) → En → Prop} (k : itup T δ QI) : iany T δ QI := .inr k
section
variable {Q : R → En → Prop} {δ : En} {T U : DT} {TA TB : DTA} {n : En → Prop} {rt : R → En → Prop} {bk ct : En → Prop}
theorem p_obj {r : R} {cn : Str} {ns : List Str} {ds : List D} {P : Prop} (e : r.dat δ = some (.obj cn ns ds)) (k : P) : ∃ ns ds, r.dat δ = some (.obj cn ns ds) ∧ P := ⟨ns, ds, e, k⟩
theorem p_fld1 {r : R} {cn f : Str} {ns : List Str} {ds : List D} {d : D} {P : D → Prop} (e : r.dat δ = some (.obj cn ns ds)) (e2 : (ns.zip ds).lookup f = some d) (k : P d) : ∃ ns ds d, r.dat δ = some (.obj cn ns ds) ∧ (ns.zip ds).lookup f = some d ∧ P d := ⟨ns, ds, d, e, e2, k⟩
theorem p_meth1 {r : R} {cn m : Str} {ns : List Str} {ds : List D} {P : Prop} (e : r.dat δ = some (.obj cn ns ds)) (e2 : (ns.zip ds).lookup m = none) (k : P) : ∃ ns ds, r.dat δ = some (.obj cn ns ds) ∧ (ns.zip ds).lookup m = none ∧ P := ⟨ns, ds, e, e2, k⟩
theorem p_pass0 {rs rs' : List R} {ms : List Bool} {es : En} {P : En → Prop} (e : passes δ rs ms = some es) (h : (rfs rs').Nodup) (k : P es) : ∃ es, passes δ rs ms = some es ∧ (rfs rs').Nodup ∧ P es := ⟨es, e, h, k⟩
theorem p_listm1 {cn m : Str} {ns : List Str} {xs : List D} {P : List Str → List D → Prop} (e2 : (ns.zip xs).lookup m = none) (k : P ns xs) : ∃ ns' xs', R.va (.obj cn ns xs) = .va (.obj cn ns' xs') ∧ (ns'.zip xs').lookup m = none ∧ P ns' xs' := ⟨ns, xs, rfl, e2, k⟩
theorem p_callP {sp : DSp} {ms : List Bool} {np nk : Nat} {is : List Nat} (k : TA δ fun rs δ1 => rs.length = np ∧ TB δ1 fun us δ2 => us.length = nk ∧ ∃ es, passes δ2 (pk is (rs ++ us)) ms = some es ∧ (rfs (pk is (rs ++ us))).Nodup ∧ sp es fun r es' => ∃ δ', puts δ2 (pk is (rs ++ us)) es' = δ' ∧ Q r δ') : tcallP sp ms np nk is TA TB δ Q := k
theorem p_self {r : R} {cn : Str} {i : Nat} {fs : List (Str × D)} {d : D} {P : Nat → List (Str × D) → D → Prop} (e : δ[i]? = some (E.ow (.o cn fs))) (e2 : r.still δ = some d) (h : ∀ j, r ≠ .rf j) (hl : fs.length < 1000) (k : P i fs d) :
    ∃ i' fs d, R.rf i = .rf i' ∧ δ[i']? = some (E.ow (.o cn fs)) ∧ r.still δ = some d ∧ (∀ j, r ≠ .rf j) ∧ fs.length < 1000 ∧ P i' fs d := ⟨i, fs, d, rfl, e, e2, h, hl, k⟩
theorem i_zl {r u : R} {xs ys : List D} {cs cs' : List (Nat × Cn)} {P : List D → List (Nat × Cn) → List D → List (Nat × Cn) → Prop} {B : Prop} (e : srcL δ r = some (xs, cs)) (e2 : srcL δ u = some (ys, cs')) (k : P xs cs ys cs') : (∃ xs cs ys cs', srcL δ r = some (xs, cs) ∧ srcL δ u = some (ys, cs') ∧ P xs cs ys cs') ∨ B := .inl ⟨xs, cs, ys, cs', e, e2, k⟩
theorem i_zt {xs ys : List D} {P : List D → List D → Prop} {B : Prop} (k : P xs ys) : B ∨ ∃ xs' ys', R.va (.tup xs) = .va (.tup xs') ∧ R.va (.tup ys) = .va (.tup ys') ∧ P xs' ys' := .inr ⟨xs, ys, rfl, rfl, k⟩
theorem c_len {xs : List R} {m : Nat} {P : Prop} (h : xs.length = m) (k : P) : xs.length = m ∧ P := ⟨h, k⟩
theorem c_pass {is : List Nat} {ms : List Bool} {rs rs' : List R} {sp : DSp} (e : pk is rs = rs') (k : ∃ es, passes δ rs' ms = some es ∧ (rfs rs').Nodup ∧ sp es fun r es' => ∃ δ', puts δ rs' es' = δ' ∧ Q r δ') : ∃ es, passes δ (pk is rs) ms = some es ∧ (rfs (pk is rs)).Nodup ∧ sp es fun r es' => ∃ δ', puts δ (pk is rs) es' = δ' ∧ Q r δ' := by
  subst e
  exact k
theorem c_x0 {ro : R} {xs : List D} {P : Prop} (h : ro.dat δ = some (.lst xs)) (k : P) : ∃ xs0, ro.dat δ = some (.lst xs0) ∧ P := ⟨xs, h, k⟩
theorem p_join0 {a : Str} {P : Str → Prop} (k : P a) : ∃ a', R.va (.str a) = .va (.str a') ∧ P a' := ⟨a, rfl, k⟩
end
theorem lt_put {f : Str} {d : D} : ∀ {fs : List (Str × D)} {k : Nat}, fs.length < k → (putFD f d fs).length < k + 1
  | [], k, h => by simp [putFD]; omega
  | (g, x) :: r, k, h => by
    unfold putFD
    split
    · simp at h ⊢; omega
    · simp at h ⊢
      have := lt_put (f := f) (d := d) (fs := r) (k := k - 1) (by omega)
      omega
end L3
namespace L3
open PySem PySem.Spec PyProof.Rows L2
section
variable {δ : En} {T : DT} {QI : List D → List (Nat × Cn) → En → Prop}
theorem i_el {r : R} {xs : List D} {cs : List (Nat × Cn)} {P : List D → List (Nat × Cn) → Prop} {B : Prop} (e : srcL δ r = some (xs, cs)) (k : P xs cs) : (∃ xs cs, srcL δ r = some (xs, cs) ∧ P xs cs) ∨ B := .inl ⟨xs, cs, e, k⟩
theorem i_et {xs : List D} {P : List D → Prop} {B : Prop} (k : P xs) : B ∨ ∃ xs', R.va (.tup xs) = .va (.tup xs') ∧ P xs' := .inr ⟨xs, rfl, k⟩
end
end L3
namespace L3
open PySem PySem.Spec PyProof.Rows L2
abbrev Row := List (Int × Int)
abbrev Net := List Row
structure GoodRow (size : Nat) (r : Row) : Prop where
  len : r.length = size
  ok : ∀ x : Nat, x < size → ∃ (y : Nat) (s : Int), r[x]? = some ((y : Int), s) ∧ y < size ∧ (s = 1 ∨ s = -1) ∧ r[y]? = some ((x : Int), s)
structure GoodNet (many size : Nat) (n : Net) : Prop where
  len : n.length = many
  m0 : 0 < many
  m1 : many ≤ 8
  s0 : 0 < size
  s1 : size ≤ 1000
  row : ∀ r ∈ n, GoodRow size r
/-- a bag: the numbers, how many are used, the rest of a great one, the mixed number, how often was drawn -/
def bagD (ns : List Int) (i r m c : Int) : List D := [.lst (ns.map D.int), .int i, .int r, .int m, .int c]
def IsBag (xs : List D) : Prop := ∃ (ns : List Int) (i r m c : Int), xs = bagD ns i r m c ∧ ns.length ≤ 63 ∧ 0 ≤ i ∧ 0 ≤ r ∧ 0 ≤ m ∧ m < 2147483629
theorem GoodNet.get {many size : Nat} {n : Net} (h : GoodNet many size n) {i : Nat} (hi : i < many) : ∃ r, n[i]? = some r ∧ GoodRow size r := by
  have : i < n.length := by rw [h.len]; exact hi
  exact ⟨n[i], List.getElem?_eq_getElem this, h.row _ (List.getElem_mem this)⟩
theorem map_some {α β : Type} {f : α → β} {xs : List α} {k : Nat} {y : β} (h : (xs.map f)[k]? = some y) : ∃ x, xs[k]? = some x ∧ y = f x := by
  rw [List.getElem?_map] at h
  obtain ⟨x, h1, h2⟩ := Option.map_eq_some_iff.mp h
  exact ⟨x, h1, h2.symm⟩
theorem f_allT {q : R → Prop} {n : Nat} (k : q (.va (.bl true))) : allF [.lst ((List.range n).map fun _ => D.bl true)] q := by
  refine ⟨List.replicate n true, by rw [List.map_replicate]; refine List.eq_replicate_iff.mpr ⟨by simp, fun b hb => ?_⟩; obtain ⟨_, _, e⟩ := List.mem_map.mp hb; exact e.symm, ?_⟩
  have : (List.replicate n true).all id = true := by simp
  rw [this]
  exact k
theorem m_end2 {δ δ5 : En} {f : Nat → D} {k : Nat} {d : D} (hk : k < sizeLine) (hb : δ5 = δ) (h : d = f k) : ((List.range k).map f).length < sizeLine ∧ (δ5 = δ ∧ (List.range k).map f ++ [d] = (List.range (k + 1)).map f) :=
  ⟨by simpa using hk, hb, by rw [List.range_succ, List.map_append, h]; rfl⟩
structure Naming (size : Nat) (ns : List Int) : Prop where
  len : ns.length = size
  nd : ns.Nodup
  ok : ∀ x ∈ ns, 0 ≤ x ∧ x < (size : Int)
inductive Lk : Nat → D → Prop
  | non {n : Nat} : Lk n .non
  | bl {n : Nat} (b : Bool) : Lk n (.bl b)
  | int {n : Nat} (i : Int) : Lk n (.int i)
  | str {n : Nat} (x : Str) (h : x.cps.all (· < 0x110000) = true) : Lk n (.str x)
  | dct0 {n : Nat} : Lk n (.dct [] [])
  | lst {n : Nat} {xs : List D} : (∀ x ∈ xs, Lk n x) → xs.length ≤ 1000000 → Lk (n + 1) (.lst xs)
  | tup {n : Nat} {xs : List D} : (∀ x ∈ xs, Lk n x) → xs.length ≤ 1000000 → Lk (n + 1) (.tup xs)
end L3
namespace L3
open PySem PySem.Spec PyProof.Rows L2
/-- ints, texts, None, lists and tuples of such, at most n deep -/
inductive Pu : Nat → D → Prop
  | non {n : Nat} : Pu n .non
  | int {n : Nat} (i : Int) : Pu n (.int i)
  | str {n : Nat} (x : Str) (h : x.cps.all (· < 0x110000) = true) : Pu n (.str x)
  | lst {n : Nat} {xs : List D} : (∀ x ∈ xs, Pu n x) → Pu (n + 1) (.lst xs)
  | tup {n : Nat} {xs : List D} : (∀ x ∈ xs, Pu n x) → Pu (n + 1) (.tup xs)
theorem Pu.pys {n : Nat} : ∀ {xs : List D}, (∀ x ∈ xs, ∃ p, x.py = some p ∧ p.canLay0 = true ∧ p.depth ≤ n) → ∃ ps, D.pys xs = some ps ∧ PyData.canLayAll0 ps = true ∧ PyData.depthAll ps ≤ n
  | [], _ => ⟨[], rfl, rfl, Nat.zero_le _⟩
  | x :: xs, h => by
    obtain ⟨p, h1, h2, h3⟩ := h x List.mem_cons_self
    obtain ⟨ps, g1, g2, g3⟩ := Pu.pys (n := n) fun y hy => h y (List.mem_cons_of_mem _ hy)
    refine ⟨p :: ps, ?_, ?_, ?_⟩
    · rw [D.pys, h1, g1]; rfl
    · rw [PyData.canLayAll0, h2, g2]; rfl
    · rw [PyData.depthAll]; omega
theorem Pu.py {n : Nat} {d : D} (h : Pu n d) : ∃ p, d.py = some p ∧ p.canLay0 = true ∧ p.depth ≤ n := by
  induction h with
  | non => exact ⟨.none, rfl, rfl, Nat.zero_le _⟩
  | int i => exact ⟨.int i, rfl, rfl, Nat.zero_le _⟩
  | str x h => exact ⟨.str x, rfl, h, Nat.zero_le _⟩
  | lst _ ih =>
    obtain ⟨ps, h1, h2, h3⟩ := Pu.pys ih
    exact ⟨.list ps, by rw [D.py, h1]; rfl, by rw [PyData.canLay0]; exact h2, by rw [PyData.depth]; omega⟩
  | tup _ ih =>
    obtain ⟨ps, h1, h2, h3⟩ := Pu.pys ih
    exact ⟨.tuple ps, by rw [D.py, h1]; rfl, by rw [PyData.canLay0]; exact h2, by rw [PyData.depth]; omega⟩
theorem pys_cons {x : D} {xs : List D} {ps : List PyData} (h : D.pys (x :: xs) = some ps) : ∃ p qs, ps = p :: qs ∧ x.py = some p ∧ D.pys xs = some qs := by
  rw [D.pys] at h
  obtain ⟨p, h1, h2⟩ := Option.bind_eq_some_iff.mp h
  obtain ⟨qs, h3, h4⟩ := Option.map_eq_some_iff.mp h2
  exact ⟨p, qs, h4.symm, h1, h3⟩
theorem pys_nil {ps : List PyData} (h : D.pys [] = some ps) : ps = [] := by
  rw [D.pys] at h
  exact (Option.some.inj h).symm
theorem eqv_all : ∀ {xs ys : List D} {ps qs : List PyData}, (∀ x ∈ xs, ∀ y ∈ ys, ∀ p q, x.py = some p → y.py = some q → (PyData.eqv p q = true ↔ x = y)) → D.pys xs = some ps → D.pys ys = some qs → (PyData.eqvAll ps qs = true ↔ xs = ys)
  | [], [], ps, qs, _, h1, h2 => by
    rw [pys_nil h1, pys_nil h2]
    simp [PyData.eqvAll]
  | [], y :: ys, ps, qs, _, h1, h2 => by
    obtain ⟨q, qs', rfl, _, _⟩ := pys_cons h2
    rw [pys_nil h1]
    simp [PyData.eqvAll]
  | x :: xs, [], ps, qs, _, h1, h2 => by
    obtain ⟨q, qs', rfl, _, _⟩ := pys_cons h1
    rw [pys_nil h2]
    simp [PyData.eqvAll]
  | x :: xs, y :: ys, ps, qs, h, h1, h2 => by
    obtain ⟨p, ps', rfl, a1, a2⟩ := pys_cons h1
    obtain ⟨q, qs', rfl, b1, b2⟩ := pys_cons h2
    have e1 := h x List.mem_cons_self y List.mem_cons_self p q a1 b1
    have e2 := eqv_all (fun x hx y hy => h x (List.mem_cons_of_mem _ hx) y (List.mem_cons_of_mem _ hy)) a2 b2
    rw [PyData.eqvAll, Bool.and_eq_true, e1, e2, List.cons.injEq]
theorem Pu.eqv {n : Nat} {d : D} (h : Pu n d) : ∀ {m : Nat} {e : D} {p q : PyData}, Pu m e → d.py = some p → e.py = some q → (PyData.eqv p q = true ↔ d = e) := by
  induction h with
  | non =>
    intro m e p q he h1 h2
    cases h1
    cases he with
    | non => cases h2; simp [PyData.eqv]
    | int i => cases h2; simp [PyData.eqv]
    | str x h => cases h2; simp [PyData.eqv]
    | lst h => rw [D.py] at h2; obtain ⟨qs, _, rfl⟩ := Option.map_eq_some_iff.mp h2; simp [PyData.eqv]
    | tup h => rw [D.py] at h2; obtain ⟨qs, _, rfl⟩ := Option.map_eq_some_iff.mp h2; simp [PyData.eqv]
  | int i =>
    intro m e p q he h1 h2
    cases h1
    cases he with
    | non => cases h2; simp [PyData.eqv]
    | int j => cases h2; simp [PyData.eqv]
    | str x h => cases h2; simp [PyData.eqv]
    | lst h => rw [D.py] at h2; obtain ⟨qs, _, rfl⟩ := Option.map_eq_some_iff.mp h2; simp [PyData.eqv]
    | tup h => rw [D.py] at h2; obtain ⟨qs, _, rfl⟩ := Option.map_eq_some_iff.mp h2; simp [PyData.eqv]
  | str x h =>
    intro m e p q he h1 h2
    cases h1
    cases he with
    | non => cases h2; simp [PyData.eqv]
    | int j => cases h2; simp [PyData.eqv]
    | str x h => cases h2; simp [PyData.eqv]
    | lst h => rw [D.py] at h2; obtain ⟨qs, _, rfl⟩ := Option.map_eq_some_iff.mp h2; simp [PyData.eqv]
    | tup h => rw [D.py] at h2; obtain ⟨qs, _, rfl⟩ := Option.map_eq_some_iff.mp h2; simp [PyData.eqv]
  | lst h ih =>
    intro m e p q he h1 h2
    rw [D.py] at h1
    obtain ⟨ps, e1, rfl⟩ := Option.map_eq_some_iff.mp h1
    cases he with
    | non => cases h2; simp [PyData.eqv]
    | int j => cases h2; simp [PyData.eqv]
    | str x h => cases h2; simp [PyData.eqv]
    | lst g =>
      rw [D.py] at h2
      obtain ⟨qs, e2, rfl⟩ := Option.map_eq_some_iff.mp h2
      rw [PyData.eqv, eqv_all (fun x hx y hy p q a b => ih x hx (g y hy) a b) e1 e2, D.lst.injEq]
    | tup h => rw [D.py] at h2; obtain ⟨qs, _, rfl⟩ := Option.map_eq_some_iff.mp h2; simp [PyData.eqv]
  | tup h ih =>
    intro m e p q he h1 h2
    rw [D.py] at h1
    obtain ⟨ps, e1, rfl⟩ := Option.map_eq_some_iff.mp h1
    cases he with
    | non => cases h2; simp [PyData.eqv]
    | int j => cases h2; simp [PyData.eqv]
    | str x h => cases h2; simp [PyData.eqv]
    | lst h => rw [D.py] at h2; obtain ⟨qs, _, rfl⟩ := Option.map_eq_some_iff.mp h2; simp [PyData.eqv]
    | tup g =>
      rw [D.py] at h2
      obtain ⟨qs, e2, rfl⟩ := Option.map_eq_some_iff.mp h2
      rw [PyData.eqv, eqv_all (fun x hx y hy p q a b => ih x hx (g y hy) a b) e1 e2, D.tup.injEq]
theorem Pu.mono {n : Nat} {d : D} (h : Pu n d) : ∀ {m : Nat}, n ≤ m → Pu m d := by
  induction h with
  | non => intro m _; exact .non
  | int i => intro m _; exact .int i
  | str x h => intro m _; exact .str x h
  | lst _ ih =>
    intro m hm
    obtain ⟨m, rfl⟩ : ∃ k, m = k + 1 := ⟨m - 1, by omega⟩
    exact .lst fun x hx => ih x hx (by omega)
  | tup _ ih =>
    intro m hm
    obtain ⟨m, rfl⟩ : ∃ k, m = k + 1 := ⟨m - 1, by omega⟩
    exact .tup fun x hx => ih x hx (by omega)
theorem Pu.shaped {n : Nat} {d : D} (h : Pu n d) (hn : n ≤ 64) : ∃ p, d.py = some p ∧ SeqAt.shaped p = true := by
  obtain ⟨p, h1, h2, h3⟩ := h.py
  exact ⟨p, h1, by unfold SeqAt.shaped; rw [h2]; simp; omega⟩
theorem pu_eq {n m : Nat} {d e : D} {b : Bool} (hd : Pu n d) (he : Pu m e) (hn : n ≤ 64) (hm : m ≤ 64) (h : b = true ↔ d = e) : ∃ p q, d.py = some p ∧ e.py = some q ∧ SeqAt.shaped p = true ∧ SeqAt.shaped q = true ∧ PyData.eqv p q = b := by
  obtain ⟨p, h1, h2⟩ := hd.shaped hn
  obtain ⟨q, g1, g2⟩ := he.shaped hm
  refine ⟨p, q, h1, g1, h2, g2, ?_⟩
  have := hd.eqv he h1 g1
  rw [← h] at this
  cases b <;> cases e : PyData.eqv p q <;> simp_all
variable {q : R → Prop}
theorem f_neP {n m : Nat} {d e : D} {b : Bool} (hd : Pu n d) (he : Pu m e) (hn : n ≤ 64) (hm : m ≤ 64) (h : b = true ↔ d = e) (k : q (.va (.bl (!b)))) : bF neF d e q := f_ne (pu_eq hd he hn hm h) k
theorem Pu.map {α : Type} {n : Nat} {f : α → D} {xs : List α} (h : ∀ x ∈ xs, Pu n (f x)) : Pu (n + 1) (.lst (xs.map f)) := .lst fun y hy => by
  obtain ⟨x, hx, rfl⟩ := List.mem_map.mp hy
  exact h x hx
theorem f_eqB {a b : Bool} (k : q (.va (.bl (a == b)))) : bF eqF (.bl a) (.bl b) q := f_eq ⟨_, _, rfl, rfl, rfl, rfl, by simp only [PyData.eqv]⟩ k
theorem f_neB {a b : Bool} (k : q (.va (.bl (!(a == b))))) : bF neF (.bl a) (.bl b) q := f_ne ⟨_, _, rfl, rfl, rfl, rfl, by simp only [PyData.eqv]⟩ k
theorem f_ett (k : q (.va (.bl true))) : bF eqF (.bl true) (.bl true) q := f_eqB k
theorem f_eff (k : q (.va (.bl true))) : bF eqF (.bl false) (.bl false) q := f_eqB k
theorem f_etf (k : q (.va (.bl false))) : bF eqF (.bl true) (.bl false) q := f_eqB k
theorem f_eft (k : q (.va (.bl false))) : bF eqF (.bl false) (.bl true) q := f_eqB k
theorem f_ntt (k : q (.va (.bl false))) : bF neF (.bl true) (.bl true) q := f_neB k
theorem f_nff (k : q (.va (.bl false))) : bF neF (.bl false) (.bl false) q := f_neB k
theorem f_ntf (k : q (.va (.bl true))) : bF neF (.bl true) (.bl false) q := f_neB k
theorem f_nft (k : q (.va (.bl true))) : bF neF (.bl false) (.bl true) q := f_neB k
end L3
namespace L3
open PySem PySem.Spec PyProof.Rows L2
theorem Lk.mono {n : Nat} {d : D} (h : Lk n d) : ∀ {m : Nat}, n ≤ m → Lk m d := by
  induction h with
  | non => intro m _; exact .non
  | bl b => intro m _; exact .bl b
  | int i => intro m _; exact .int i
  | str x h => intro m _; exact .str x h
  | dct0 => intro m _; exact .dct0
  | lst _ l ih =>
    intro m hm
    obtain ⟨m, rfl⟩ : ∃ k, m = k + 1 := ⟨m - 1, by omega⟩
    exact .lst (fun x hx => ih x hx (by omega)) l
  | tup _ l ih =>
    intro m hm
    obtain ⟨m, rfl⟩ : ∃ k, m = k + 1 := ⟨m - 1, by omega⟩
    exact .tup (fun x hx => ih x hx (by omega)) l
theorem nodup_sub_len {α : Type} [DecidableEq α] : ∀ {l m : List α}, l.Nodup → (∀ x ∈ l, x ∈ m) → l.length ≤ m.length
  | [], _, _, _ => Nat.zero_le _
  | a :: l, m, nd, h => by
    obtain ⟨n1, n2⟩ := List.nodup_cons.mp nd
    have ha := h a List.mem_cons_self
    have := nodup_sub_len (m := m.erase a) n2 fun x hx => by
      refine (List.mem_erase_of_ne ?_).mpr (h x (List.mem_cons_of_mem _ hx))
      rintro rfl
      exact n1 hx
    rw [List.length_erase_of_mem ha] at this
    have hp : 0 < m.length := List.length_pos_of_mem ha
    rw [List.length_cons]
    omega
theorem Naming.all {size : Nat} {ns : List Int} (h : Naming size ns) {i : Nat} (hi : i < size) : ∃ x : Nat, x < size ∧ ns[x]? = some (i : Int) := by
  have hm : (i : Int) ∈ ns := by
    refine Decidable.byContradiction fun hn => ?_
    have := nodup_sub_len (l := (i : Int) :: ns) (m := (List.range size).map fun k : Nat => (k : Int)) (List.nodup_cons.mpr ⟨hn, h.nd⟩) fun x hx => by
      rcases List.mem_cons.mp hx with rfl | hx
      · exact List.mem_map.mpr ⟨i, List.mem_range.mpr hi, rfl⟩
      · obtain ⟨h0, h1⟩ := h.ok x hx
        exact List.mem_map.mpr ⟨x.toNat, List.mem_range.mpr (by omega), by omega⟩
    rw [List.length_cons, h.len, List.length_map, List.length_range] at this
    omega
  obtain ⟨x, hx, e⟩ := List.mem_iff_getElem.mp hm
  exact ⟨x, by rw [← h.len]; exact hx, by rw [List.getElem?_eq_getElem hx, e]⟩
theorem set_at {α : Type} {xs : List α} {i j : Nat} {x : α} (h : i < xs.length) : (xs.set i x)[j]? = if i = j then some x else xs[j]? := by
  rw [List.getElem?_set]
  by_cases e : i = j
  · rw [if_pos e, if_pos e]
    subst e
    simp [h]
  · rw [if_neg e, if_neg e]
theorem map_set {α β : Type} {f : α → β} {xs : List α} {i : Nat} {x : α} : (xs.map f).set i (f x) = (xs.set i x).map f := by
  rw [List.map_set]
theorem ix_nat {n y : Nat} (h : y < n) : ixN n (y : Int) = some y := by
  unfold ixN
  rw [if_pos (by omega), if_pos (by omega), Int.toNat_natCast]
def namedP (ns : List Int) (p : Int × Int) : Int × Int := (ns.getD p.1.toNat 0, p.2)
def namedR (ns : List Int) (r : Row) : Row := (List.range r.length).map fun i : Nat => namedP ns (r.getD (ns.idxOf (i : Int)) (0, 1))
def namedN (ns : List Int) (n : Net) : Net := n.map (namedR ns)
theorem namedR_len {ns : List Int} {r : Row} : (namedR ns r).length = r.length := by simp [namedR]
theorem namedR_get {size : Nat} {ns : List Int} {r : Row} (hn : Naming size ns) (hr : r.length = size) {x i : Nat} {p : Int × Int} (e : ns[x]? = some (i : Int)) (ep : r[x]? = some p) : (namedR ns r)[i]? = some (namedP ns p) := by
  have hm := List.mem_of_getElem? e
  obtain ⟨_, hi⟩ := hn.ok _ hm
  have h1 : ns.idxOf (i : Int) < ns.length := List.idxOf_lt_length_of_mem hm
  have h2 : ns[ns.idxOf (i : Int)]? = some (i : Int) := by rw [List.getElem?_eq_getElem h1, List.getElem_idxOf h1]
  have h3 : ns.idxOf (i : Int) = x := nodup_inj hn.nd h2 e
  unfold namedR
  rw [List.getElem?_map, List.getElem?_range (by omega), Option.map_some, h3, List.getD_eq_getElem?_getD, ep, Option.getD_some]
/-- the one row that has these items -/
theorem named_unique {size : Nat} {ns : List Int} {r acc : Row} (hn : Naming size ns) (hr : r.length = size) (hl : acc.length = size) (h : ∀ (x i : Nat) (p : Int × Int), ns[x]? = some (i : Int) → r[x]? = some p → acc[i]? = some (namedP ns p)) : acc = namedR ns r := by
  refine List.ext_getElem? fun i => ?_
  by_cases hi : i < size
  · obtain ⟨x, hx, e⟩ := hn.all hi
    have ep : r[x]? = some r[x] := List.getElem?_eq_getElem (by omega)
    rw [h x i _ e ep, namedR_get hn hr e ep]
  · rw [List.getElem?_eq_none (by omega), List.getElem?_eq_none (by rw [namedR_len]; omega)]
theorem Naming.get {size : Nat} {ns : List Int} (h : Naming size ns) {x : Nat} (hx : x < size) : ∃ i : Nat, ns[x]? = some (i : Int) ∧ i < size ∧ ns.getD x 0 = (i : Int) := by
  have hx' : x < ns.length := by rw [h.len]; exact hx
  obtain ⟨h0, h1⟩ := h.ok _ (List.getElem_mem hx')
  refine ⟨ns[x].toNat, ?_, by omega, ?_⟩
  · rw [List.getElem?_eq_getElem hx']
    congr 1
    omega
  · rw [List.getD_eq_getElem?_getD, List.getElem?_eq_getElem hx', Option.getD_some]
    omega
theorem good_named {size : Nat} {ns : List Int} {r : Row} (hn : Naming size ns) (g : GoodRow size r) : GoodRow size (namedR ns r) where
  len := by rw [namedR_len, g.len]
  ok := fun i hi => by
    obtain ⟨x, hx, e⟩ := hn.all hi
    obtain ⟨y, s, e1, hy, hs, e2⟩ := g.ok x hx
    obtain ⟨w, ew, hw, dw⟩ := hn.get hy
    obtain ⟨v, ev, _, dv⟩ := hn.get hx
    rw [e] at ev
    cases ev
    refine ⟨w, s, ?_, hw, hs, ?_⟩
    · rw [namedR_get hn g.len e e1]
      unfold namedP
      rw [Int.toNat_natCast, dw]
    · rw [namedR_get hn g.len ew e2]
      unfold namedP
      rw [Int.toNat_natCast, dv]
theorem good_namedN {many size : Nat} {ns : List Int} {n : Net} (hn : Naming size ns) (h : GoodNet many size n) : GoodNet many size (namedN ns n) :=
  ⟨by unfold namedN; rw [List.length_map, h.len], h.m0, h.m1, h.s0, h.s1, fun r hr => by
    obtain ⟨r', hr', rfl⟩ := List.mem_map.mp hr
    exact good_named hn (h.row r' hr')⟩
/-- j steps of the making of a named row -/
def NamedTo (size : Nat) (ns : List Int) (r : Row) (j : Nat) (acc : Row) : Prop := acc.length = size ∧ ∀ (x i : Nat) (p : Int × Int), x < j → ns[x]? = some (i : Int) → r[x]? = some p → acc[i]? = some (namedP ns p)
theorem NamedTo.step {size : Nat} {ns : List Int} {r acc : Row} {j i : Nat} {p : Int × Int} (hn : Naming size ns) (h : NamedTo size ns r j acc) (e : ns[j]? = some (i : Int)) (ep : r[j]? = some p) : NamedTo size ns r (j + 1) (acc.set i (namedP ns p)) := by
  obtain ⟨h1, h2⟩ := h
  have hi : i < size := by have := (hn.ok _ (List.mem_of_getElem? e)).2; omega
  refine ⟨by rw [List.length_set, h1], fun x i' p' hx e' ep' => ?_⟩
  rw [set_at (by omega)]
  by_cases q : i = i'
  · subst q
    have := nodup_inj hn.nd e' e
    subst this
    rw [ep] at ep'
    cases ep'
    rw [if_pos rfl]
  · rw [if_neg q]
    refine h2 x i' p' ?_ e' ep'
    have : x ≠ j := by
      rintro rfl
      rw [e] at e'
      injection e' with e'
      omega
    omega
theorem NamedTo.done {size : Nat} {ns : List Int} {r acc : Row} (hn : Naming size ns) (hr : r.length = size) (h : NamedTo size ns r size acc) : acc = namedR ns r :=
  named_unique hn hr h.1 fun x i p e ep => h.2 x i p (by have := (List.getElem?_eq_some_iff.mp ep).1; omega) e ep
end L3
namespace L3
open PySem PySem.Spec PyProof.Rows L2
def adj (n : Net) (x y : Nat) : Prop := ∃ r ∈ n, ∃ s, r[x]? = some ((y : Int), s)
theorem adj_symm {many size : Nat} {n : Net} (h : GoodNet many size n) {x y : Nat} (a : adj n x y) : adj n y x := by
  obtain ⟨r, hr, s, e⟩ := a
  have hx : x < size := by rw [← (h.row r hr).len]; exact (List.getElem?_eq_some_iff.mp e).1
  obtain ⟨y', s', e1, hy, _, e2⟩ := (h.row r hr).ok x hx
  rw [e] at e1
  have : (y : Int) = y' := by injection e1 with e1; exact congrArg Prod.fst e1
  have : y = y' := by omega
  subst this
  exact ⟨r, hr, s', e2⟩
theorem adj_lt {many size : Nat} {n : Net} (h : GoodNet many size n) {x y : Nat} (a : adj n x y) : x < size ∧ y < size := by
  have g : ∀ {x y}, adj n x y → x < size := fun {x y} a => by
    obtain ⟨r, hr, s, e⟩ := a
    rw [← (h.row r hr).len]
    exact (List.getElem?_eq_some_iff.mp e).1
  exact ⟨g a, g (adj_symm h a)⟩
def Reach (n : Net) (x y : Nat) : Prop := ∀ K : Nat → Prop, K x → (∀ a b, K a → adj n a b → K b) → K y
theorem least {P : Nat → Prop} : ∀ k : Nat, P k → ∃ m, P m ∧ ∀ j, P j → m ≤ j := by
  intro k
  induction k using Nat.strongRecOn with
  | ind k ih =>
    intro hk
    by_cases h : ∃ j, j < k ∧ P j
    · obtain ⟨j, hj, pj⟩ := h
      exact ih j hj pj
    · exact ⟨k, hk, fun j pj => Decidable.byContradiction fun hn => h ⟨j, by omega, pj⟩⟩
theorem reach_refl {n : Net} {x : Nat} : Reach n x x := fun K k _ => k
theorem reach_adj {n : Net} {x y z : Nat} (a : adj n x y) (h : Reach n y z) : Reach n x z := fun K k c => h K (c _ _ k a) c
/-- labels between the least and the own number -/
structure LowOk (M f : Nat → Nat) : Prop where
  lo : ∀ x, M x ≤ f x
  hi : ∀ x, f x ≤ x
def upd (f : Nat → Nat) (x v : Nat) : Nat → Nat := fun y => if y = x then v else f y
theorem LowOk.upd {n : Net} {M f : Nat → Nat} (h : LowOk M f) (hM : ∀ x y, adj n x y → M y = M x) {x y : Nat} (a : adj n x y) (l : f y < f x) : LowOk M (upd f x (f y)) where
  lo := fun z => by
    unfold L3.upd
    split
    · subst z; have := hM _ _ a; have := h.lo y; omega
    · exact h.lo z
  hi := fun z => by
    unfold L3.upd
    split
    · subst z; have := h.hi x; omega
    · exact h.hi z
end L3
namespace L3
open PySem PySem.Spec PyProof.Rows L2
section
variable {Q : R → En → Prop} {δ : En} {T U : DT}
theorem p_obj2 {r u : R} {cn : Str} {ns ns' : List Str} {ds ds' : List D} {P : Prop} (e : r.dat δ = some (.obj cn ns ds)) (e' : u.dat δ = some (.obj cn ns' ds')) (k : P) : ∃ ns ds ns' ds', r.dat δ = some (.obj cn ns ds) ∧ u.dat δ = some (.obj cn ns' ds') ∧ P := ⟨ns, ds, ns', ds', e, e', k⟩
end
end L3
namespace L3
open PySem PySem.Spec PyProof.Rows L2
/-- ways that meet behind a statement -/
theorem seqJ {S S2 : DS} {n : En → Prop} {rt : R → En → Prop} {bk ct : En → Prop} {δ : En} (J : En → Prop) (h1 : ∀ m : En → Prop, (∀ δ, J δ → m δ) → S ⟨m, rt, bk, ct⟩ δ) (h2 : ∀ δ, J δ → S2 ⟨n, rt, bk, ct⟩ δ) : seq S S2 ⟨n, rt, bk, ct⟩ δ := h1 _ h2
end L3
namespace L3
open PySem PySem.Spec PyProof.Rows L2
section
variable {K : PySem.W.Frag}
/-- slot m holds the list M of the lists al; rows tells what they hold (none: lent to another slot) -/
structure Grid (K : PySem.W.Frag) (HE HB : Hp) (σ : L2.St) (H G : Hp) (δ : En) (m : Nat) (M : Addr) (al : List Addr) (rows : List (Option (List D))) : Prop where
  sl : σ[m]? = some (some (V.ref M))
  hM : H M = some (.lst (al.map V.ref))
  gM : G M = none
  fr : ∀ a ∈ M :: al, HE a = none ∧ HB a = none
  nd : (M :: al).Nodup
  ad : ¬ Ad σ δ M
  len : al.length = rows.length
  row : ∀ (i : Nat) a r, al[i]? = some a → rows[i]? = some (some r) → ¬ Ad σ δ a ∧ G a = none ∧ ∃ vs, H a = some (.lst vs) ∧ AtL K G vs r
theorem Grid.nxt {F : FE} {HE HB : Hp} {σ σ' : L2.St} {H G H' G' : Hp} {δ δ' : En} {m : Nat} {M : Addr} {al : List Addr} {rows : List (Option (List D))} {bs : List Nat} (g : Grid K HE HB σ H G δ m M al rows) (n : Nxt K F bs σ H G δ σ' H' G' δ') (hm : m ∉ bs) : Grid K HE HB σ' H' G' δ' m M al rows where
  sl := (n.st m hm).trans g.sl
  hM := n.f.h M _ g.ad g.hM
  gM := (n.f.n M g.ad (by rw [g.hM]; exact fun z => nomatch z)).trans g.gM
  fr := g.fr
  nd := g.nd
  ad := fun z => (n.ow M z).elim g.ad fun h => by rw [g.hM] at h; cases h
  len := g.len
  row := fun i a r e1 e2 => by
    obtain ⟨h1, h2, vs, h3, h4⟩ := g.row i a r e1 e2
    exact ⟨fun z => (n.ow a z).elim h1 (fun h => by rw [h3] at h; cases h), (n.f.n a h1 (by rw [h3]; exact fun z => nomatch z)).trans h2, vs, n.f.h a _ h1 h3, h4.mono n.f.sub⟩
/-- what is wanted behind a statement over a grid -/
structure DEY where
  nx : En → List (List D) → Prop
  rt : R → En → Prop
  bk : En → List (List D) → Prop := fun _ _ => False
  ct : En → List (List D) → Prop := fun _ _ => False
abbrev YS := DEY → En → List (List D) → Prop
/-- a place behind the grid's making: from the base (σ0 ..) -/
structure YX (K : PySem.W.Frag) (F : FE) (as0 : List Nat) (σ0 : L2.St) (H0 G0 : Hp) (δ0 : En) (m : Nat) (bs : List Nat) (σ : L2.St) (G : Hp) (σ' : L2.St) (H' G' : Hp) (δ' : En) (rows : List (List D)) : Prop where
  n : Nxt K F as0 σ0 H0 G0 δ0 σ' H' G' δ'
  g : ∃ M al, Grid K F.HE H0 σ' H' G' δ' m M al (rows.map some)
  sub : Sub G G'
  st : ∀ i : Nat, i ∉ bs → σ'[i]? = σ[i]?
structure GoodY (K : PySem.W.Frag) (F : FE) (as0 : List Nat) (σ0 : L2.St) (H0 G0 : Hp) (δ0 : En) (m : Nat) (bs : List Nat) (σ : L2.St) (G : Hp) (D3 : DEY) (D : Ends) : Prop where
  nx : ∀ σ' H' G' δ' rows, YX K F as0 σ0 H0 G0 δ0 m bs σ G σ' H' G' δ' rows → D3.nx δ' rows → D.nx σ' H'
  bk : ∀ σ' H' G' δ' rows, YX K F as0 σ0 H0 G0 δ0 m bs σ G σ' H' G' δ' rows → D3.bk δ' rows → D.bk σ' H'
  ct : ∀ σ' H' G' δ' rows, YX K F as0 σ0 H0 G0 δ0 m bs σ G σ' H' G' δ' rows → D3.ct δ' rows → D.ct σ' H'
  rt : ∀ σ' H' G' δ' r v, Nxt K F as0 σ0 H0 G0 δ0 σ' H' G' δ' → RR K [] F.HE H' G' r v → (∀ i, r ≠ .rf i) → D3.rt r δ' → D.rt v H'
/-- a statement over a grid -/
def SndY (K : PySem.W.Frag) (ps : List Nat) (m : Nat) (bs : List Nat) (t : TS) (T : YS) : Prop := ∀ (F : FE), (∀ i l, F.P i l → i ∈ ps) → (∀ i ∈ bs, ∀ l, ¬ F.P i l) → ∀ (as0 : List Nat) (σ0 : L2.St) (H0 G0 : Hp) (δ0 : En), (∀ i ∈ bs, i ∈ as0) →
  ∀ (σ : L2.St) (H G : Hp) (δ : En) (rows : List (List D)) (D3 : DEY) (D : Ends), Nxt K F as0 σ0 H0 G0 δ0 σ H G δ → (∃ M al, Grid K F.HE H0 σ H G δ m M al (rows.map some)) → T D3 δ rows → GoodY K F as0 σ0 H0 G0 δ0 m bs σ G D3 D → t D σ H
/-- statements that end without the grid -/
abbrev YP := DE → En → List (List D) → Prop
def SndYP (K : PySem.W.Frag) (ps : List Nat) (m : Nat) (bs : List Nat) (t : TS) (T : YP) : Prop := ∀ (F : FE), (∀ i l, F.P i l → i ∈ ps) → (∀ i ∈ bs, ∀ l, ¬ F.P i l) → ∀ (as0 : List Nat) (σ0 : L2.St) (H0 G0 : Hp) (δ0 : En), (∀ i ∈ bs, i ∈ as0) →
  ∀ (σ : L2.St) (H G : Hp) (δ : En) (rows : List (List D)) (D3 : DE) (D : Ends), Nxt K F as0 σ0 H0 G0 δ0 σ H G δ → (∃ M al, Grid K F.HE H0 σ H G δ m M al (rows.map some)) → T D3 δ rows → Good K F as0 σ0 H0 G0 δ0 D3 D → t D σ H
theorem YX.trans {F : FE} {as0 bs cs ds : List Nat} {σ0 σ σ1 σ2 : L2.St} {H0 G0 G H1 G1 H2 G2 : Hp} {δ0 δ1 δ2 : En} {m : Nat} {r1 r2 : List (List D)} (x : YX K F as0 σ0 H0 G0 δ0 m bs σ G σ1 H1 G1 δ1 r1) (y : YX K F as0 σ0 H0 G0 δ0 m cs σ1 G1 σ2 H2 G2 δ2 r2) (h : ∀ i, i ∈ bs ++ cs → i ∈ ds) : YX K F as0 σ0 H0 G0 δ0 m ds σ G σ2 H2 G2 δ2 r2 :=
  ⟨y.n, y.g, x.sub.trans y.sub, fun i hi => (y.st i fun z => hi (h i (List.mem_append_right _ z))).trans (x.st i fun z => hi (h i (List.mem_append_left _ z)))⟩
theorem GoodY.from {F : FE} {as0 bs cs ds : List Nat} {σ0 σ σ1 : L2.St} {H0 G0 G H1 G1 : Hp} {δ0 δ1 : En} {m : Nat} {r1 : List (List D)} {D3 : DEY} {D : Ends} (g : GoodY K F as0 σ0 H0 G0 δ0 m ds σ G D3 D) (x : YX K F as0 σ0 H0 G0 δ0 m bs σ G σ1 H1 G1 δ1 r1) (h : ∀ i, i ∈ bs ++ cs → i ∈ ds) : GoodY K F as0 σ0 H0 G0 δ0 m cs σ1 G1 D3 D :=
  ⟨fun _ _ _ _ _ y q => g.nx _ _ _ _ _ (x.trans y h) q, fun _ _ _ _ _ y q => g.bk _ _ _ _ _ (x.trans y h) q, fun _ _ _ _ _ y q => g.ct _ _ _ _ _ (x.trans y h) q, g.rt⟩
theorem YX.refl {F : FE} {as0 bs : List Nat} {σ0 σ : L2.St} {H0 G0 H G : Hp} {δ0 δ : En} {m : Nat} {rows : List (List D)} (n : Nxt K F as0 σ0 H0 G0 δ0 σ H G δ) (g : ∃ M al, Grid K F.HE H0 σ H G δ m M al (rows.map some)) : YX K F as0 σ0 H0 G0 δ0 m bs σ G σ H G δ rows := ⟨n, g, .refl, fun _ _ => rfl⟩
/-- behind a plain step -/
theorem YX.plain {F : FE} {as0 bs : List Nat} {σ0 σ σ1 : L2.St} {H0 G0 H G H1 G1 : Hp} {δ0 δ δ1 : En} {m : Nat} {rows : List (List D)} (n : Nxt K F as0 σ0 H0 G0 δ0 σ H G δ) (g : ∃ M al, Grid K F.HE H0 σ H G δ m M al (rows.map some)) (x : Nxt K F bs σ H G δ σ1 H1 G1 δ1) (hm : m ∉ bs) (hb : ∀ i ∈ bs, i ∈ as0) : YX K F as0 σ0 H0 G0 δ0 m bs σ G σ1 H1 G1 δ1 rows := by
  obtain ⟨M, al, g⟩ := g
  exact ⟨(n.trans x).mono fun i hi => (List.mem_append.mp hi).elim id (hb i), ⟨M, al, g.nxt x hm⟩, x.f.sub, x.st⟩
def yplain (T : DS) : YS := fun Z δ rows => T { nx := fun δ' => Z.nx δ' rows, rt := Z.rt, bk := fun δ' => Z.bk δ' rows, ct := fun δ' => Z.ct δ' rows } δ
theorem sndy_plain {ps bs : List Nat} {m : Nat} {t : TS} {T : DS} (a : SndSP K ps bs t T) (hm : m ∉ bs) : SndY K ps m bs t (yplain T) := fun F hps hp as0 σ0 H0 G0 δ0 hb σ H G δ rows D3 D n g h gd =>
  a F hps hp σ H G δ _ _ n.s h ⟨fun _ _ _ _ x q => gd.nx _ _ _ _ _ (.plain n g x hm hb) q, fun _ _ _ _ x q => gd.bk _ _ _ _ _ (.plain n g x hm hb) q, fun _ _ _ _ x q => gd.ct _ _ _ _ _ (.plain n g x hm hb) q,
    fun _ _ _ _ _ _ x rr nr q => gd.rt _ _ _ _ _ _ ((n.trans x).mono fun i hi => (List.mem_append.mp hi).elim id (hb i)) rr nr q⟩
def yseq (T U : YS) : YS := fun Z δ rows => T { Z with nx := U Z } δ rows
theorem sndy_seq {ps bs cs : List Nat} {m : Nat} {t u : TS} {T U : YS} (a : SndY K ps m bs t T) (b : SndY K ps m cs u U) : SndY K ps m (bs ++ cs) (tSeq t u) (yseq T U) := fun F hps hp as0 σ0 H0 G0 δ0 hb σ H G δ rows D3 D n g h gd =>
  a F hps (fun i hi => hp i (List.mem_append_left _ hi)) as0 σ0 H0 G0 δ0 (fun i hi => hb i (List.mem_append_left _ hi)) σ H G δ rows _ _ n g h
    ⟨fun _ _ _ _ _ x q => b F hps (fun i hi => hp i (List.mem_append_right _ hi)) as0 σ0 H0 G0 δ0 (fun i hi => hb i (List.mem_append_right _ hi)) _ _ _ _ _ _ _ x.n x.g q (gd.from x fun _ z => z),
     fun _ _ _ _ _ x q => gd.bk _ _ _ _ _ ⟨x.n, x.g, x.sub, fun i hi => x.st i fun z => hi (List.mem_append_left _ z)⟩ q, fun _ _ _ _ _ x q => gd.ct _ _ _ _ _ ⟨x.n, x.g, x.sub, fun i hi => x.st i fun z => hi (List.mem_append_left _ z)⟩ q, gd.rt⟩
def yif (c : DTT) (T U : YS) : YS := fun Z δ rows => c δ fun b δ1 => if b = true then T Z δ1 rows else U Z δ1 rows
theorem sndy_if {ps bs cs : List Nat} {m : Nat} {c : TT} {t u : TS} {C : DTT} {T U : YS} (hc : SndT K c C) (a : SndY K ps m bs t T) (b : SndY K ps m cs u U) : SndY K ps m (bs ++ cs) (tIfS c t u) (yif C T U) := fun F hps hp as0 σ0 H0 G0 δ0 hb σ H G δ rows D3 D n g h gd => by
  refine hc σ H G δ _ _ n.s.L h fun k δ1 H1 G1 L1 f1 le1 q => ?_
  have x : YX K F as0 σ0 H0 G0 δ0 m [] σ G σ H1 G1 δ1 rows := .plain n g (.step n.s L1 f1 le1) (by simp) (by simp)
  cases k with
  | true => exact a F hps (fun i hi => hp i (List.mem_append_left _ hi)) as0 σ0 H0 G0 δ0 (fun i hi => hb i (List.mem_append_left _ hi)) _ _ _ _ _ _ _ x.n x.g q (gd.from x fun i z => List.mem_append_left _ (by simpa using z))
  | false => exact b F hps (fun i hi => hp i (List.mem_append_right _ hi)) as0 σ0 H0 G0 δ0 (fun i hi => hb i (List.mem_append_right _ hi)) _ _ _ _ _ _ _ x.n x.g q (gd.from x fun i z => List.mem_append_right _ (by simpa using z))
/-- for over a plain source, its turns over the grid -/
def yfor (as : List Nat) (S : DI) (Gd : DG) (B : YS) : YS := fun Z δ rows => S δ fun items cs δ1 => (∀ p ∈ cs, p.1 ∉ as) ∧ ∃ I : Nat → En → List (List D) → Prop, I 0 δ1 rows ∧ (∀ k δ rows, I k δ rows → ∀ p ∈ cs, δ[p.1]? = some (E.ow p.2)) ∧
  (∀ k x δ rows, items[k]? = some x → I k δ rows → Gd x δ fun δ' => B { Z with nx := I (k + 1), ct := I (k + 1), bk := Z.nx } δ' rows) ∧ (∀ δ rows, I items.length δ rows → Z.nx δ rows)
theorem sndy_for {ps gs bs as : List Nat} {m : Nat} {wi : TI} {g : TG} {tb : TS} {S : DI} {Gd : DG} {B : YS} (hi : SndI K wi S) (hg : SndG K gs g Gd) (hb : SndY K ps m bs tb B) (hh : ∀ i, i ∈ gs ++ bs → i ∈ as) (hm : m ∉ gs) : SndY K ps m as (tFor wi g tb) (yfor as S Gd B) := fun F hps hp as0 σ0 H0 G0 δ0 ha σ H G δ rows D3 D n gr h gd => by
  refine hi σ H G δ _ _ n.s.L h fun items cs δ1 J H1 G1 L1 f1 le1 it q => ?_
  obtain ⟨nc, I, I0, Ic, It, Ie⟩ := q
  have x0 : YX K F as0 σ0 H0 G0 δ0 m [] σ G σ H1 G1 δ1 rows := .plain n gr (.step n.s L1 f1 le1) (by simp) (by simp)
  refine ⟨fun i k σ' H' => k = items.length - i ∧ i ≤ items.length ∧ ∃ G' δ' rows', YX K F as0 σ0 H0 G0 δ0 m as σ G1 σ' H' G' δ' rows' ∧ I i δ' rows', ⟨items.length, by simp, Nat.zero_le _, G1, δ1, rows, .refl x0.n x0.g, I0⟩, ?_⟩
  rintro i k σ' H' ⟨rfl, hi, G', δ', rows', x, hI⟩
  have ok := it σ' H' G' δ' x.n.s.L x.sub fun p hp => ⟨Ic i δ' rows' hI p hp, x.st p.1 (nc p hp)⟩
  by_cases hlt : i < items.length
  · obtain ⟨hgo, hy⟩ := ok.1 i items[i] (List.getElem?_eq_getElem hlt)
    refine .inr ⟨hgo, fun σ2 H2 => ∃ G2 δ2 rows2, YX K F as0 σ0 H0 G0 δ0 m as σ G1 σ2 H2 G2 δ2 rows2 ∧ I (i + 1) δ2 rows2, fun σ2 H2 ⟨G2, δ2, rows2, x2, h2⟩ => ⟨items.length - (i + 1), by omega, rfl, hlt, G2, δ2, rows2, x2, h2⟩, fun y H'' yy => ?_⟩
    obtain ⟨G'', fg, sg, hx⟩ := hy y H'' yy
    have n1 : Nxt K F [] σ' H' G' δ' σ' H'' G'' δ' := .step x.n.s (x.n.s.L.grow fg sg) fg.fr .refl
    have x1 : YX K F as0 σ0 H0 G0 δ0 m [] σ' G' σ' H'' G'' δ' rows' := .plain x.n x.g n1 (by simp) (by simp)
    refine hg F (fun i hi => hp i (hh i (List.mem_append_left _ hi))) σ' H'' G'' δ' y _ _ _ n1.s hx (It i _ δ' rows' (List.getElem?_eq_getElem hlt) hI) fun σ2 H2 G2 δ2 n2 _ q2 => ?_
    have x2 : YX K F as0 σ0 H0 G0 δ0 m gs σ' G'' σ2 H2 G2 δ2 rows' := .plain x1.n x1.g n2 hm fun i hi => ha i (hh i (List.mem_append_left _ hi))
    have xx : YX K F as0 σ0 H0 G0 δ0 m as σ G1 σ2 H2 G2 δ2 rows' := (x.trans x1 (ds := as) fun j hj => by simpa using hj).trans x2 fun j hj => (List.mem_append.mp hj).elim id fun z => hh j (List.mem_append_left _ z)
    have up : ∀ {σ3 H3 G3 δ3 r3}, YX K F as0 σ0 H0 G0 δ0 m bs σ2 G2 σ3 H3 G3 δ3 r3 → YX K F as0 σ0 H0 G0 δ0 m as σ G1 σ3 H3 G3 δ3 r3 := fun x3 => xx.trans x3 fun j hj => (List.mem_append.mp hj).elim id fun z => hh j (List.mem_append_right _ z)
    refine hb F hps (fun i hi => hp i (hh i (List.mem_append_right _ hi))) as0 σ0 H0 G0 δ0 (fun i hi => ha i (hh i (List.mem_append_right _ hi))) σ2 H2 G2 δ2 rows' _ _ xx.n xx.g q2
      ⟨fun σ3 H3 G3 δ3 r3 x3 q3 => ⟨G3, δ3, r3, up x3, q3⟩, fun σ3 H3 G3 δ3 r3 x3 q3 => gd.nx _ _ _ _ _ (x0.trans (up x3) fun j hj => by simpa using hj) q3, fun σ3 H3 G3 δ3 r3 x3 q3 => ⟨G3, δ3, r3, up x3, q3⟩, gd.rt⟩
  · have e : i = items.length := by omega
    subst e
    exact .inl ⟨ok.2, gd.nx _ _ _ _ _ (x0.trans x fun j hj => by simpa using hj) (Ie δ' rows' hI)⟩

theorem Grid.back {F : FE} {as0 : List Nat} {σ0 σ : L2.St} {H0 G0 H G : Hp} {δ0 δ : En} {m h : Nat} {M : Addr} {al : List Addr} {rows : List (Option (List D))} {k : Nat} {a : Addr} {r : List D} (n : Nxt K F as0 σ0 H0 G0 δ0 σ H G δ) (g : Grid K F.HE H0 σ H G δ m M al rows) (ea : al[k]? = some a) (er : rows[k]? = some none) (ho : δ[h]? = some (E.ow (.l r))) (hs : σ[h]? = some (some (V.ref a))) (hp : ∀ l, ¬ F.P h l) (hh : h ∈ as0) :
    Nxt K F as0 σ0 H0 G0 δ0 σ H G (δ.set h .no) ∧ Grid K F.HE H0 σ H G (δ.set h .no) m M al (rows.set k (some r)) := by
  have hset : σ.set h (some (V.ref a)) = σ := by
    refine List.ext_getElem? fun j => ?_
    by_cases z : h = j
    · subst z
      rw [List.getElem?_set_self (List.getElem?_eq_some_iff.mp hs).1, hs]
    · rw [List.getElem?_set_ne z]
  have L := n.s.L.setN (i := h) (v := some (V.ref a))
  rw [hset] at L
  obtain ⟨l, q1, q2, vs, q3, q4⟩ := n.s.L.ow h _ ho
  rw [hs] at q1
  cases q1
  have ad' : ∀ l, Ad σ (δ.set h .no) l → Ad σ δ l ∧ l ≠ a := fun l ⟨j, c, e, q⟩ => by
    rcases set_get e with ⟨_, z, _⟩ | ⟨ne, e2⟩
    · cases z
    · refine ⟨⟨j, c, e2, q⟩, fun z => ?_⟩
      subst z
      exact ne (n.s.L.dj h j l _ c ho e2 hs q)
  refine ⟨⟨⟨L, n.s.f, fun j c' l' e q => ?_, n.s.par⟩, n.f, fun l z => n.ow l (ad' l z).1, n.st, n.ln⟩, ⟨g.sl, g.hM, g.gM, g.fr, g.nd, fun z => g.ad (ad' _ z).1, ?_, fun i a' r' e1 e2 => ?_⟩⟩
  · rcases set_get e with ⟨_, z, _⟩ | ⟨ne, e2⟩
    · cases z
    · exact n.s.own j c' l' e2 q
  · rw [List.length_set]
    exact g.len
  · rcases set_get e2 with ⟨rfl, z, _⟩ | ⟨nk, e2⟩
    · cases z
      rw [ea] at e1
      cases e1
      exact ⟨fun z => (ad' _ z).2 rfl, q2, vs, q3, q4⟩
    · obtain ⟨h1, h2, h3⟩ := g.row i a' r' e1 e2
      exact ⟨fun z => h1 (ad' _ z).1, h2, h3⟩
open Classical in
/-- the rows stand still from now on: the grid is a list of our own -/
def ypfree (m : Nat) (T : DS) : YP := fun Z δ rows => T Z (δ.set m (.ow (.l (rows.map D.lst))))
theorem atL_rows {G : Hp} : ∀ {al : List Addr} {rows : List (List D)}, al.length = rows.length → (∀ (i : Nat) a r, al[i]? = some a → rows[i]? = some r → ∃ vs, G a = some (.lst vs) ∧ AtL K G vs r) → AtL K G (al.map V.ref) (rows.map D.lst)
  | [], [], _, _ => .nil
  | a :: al, r :: rows, l, h => by
    obtain ⟨vs, h1, h2⟩ := h 0 a r rfl rfl
    exact .cons (.lst h1 h2) (atL_rows (by simpa using l) fun i a r e1 e2 => h (i + 1) a r (by simpa using e1) (by simpa using e2))
  | [], _ :: _, l, _ => by cases l
  | _ :: _, [], l, _ => by cases l
open Classical in
theorem Grid.free {F : FE} {as0 : List Nat} {σ0 σ : L2.St} {H0 G0 H G : Hp} {δ0 δ : En} {m : Nat} {M : Addr} {al : List Addr} {rows : List (List D)} (n : Nxt K F as0 σ0 H0 G0 δ0 σ H G δ) (g : Grid K F.HE H0 σ H G δ m M al (rows.map some)) (hp : ∀ l, ¬ F.P m l) :
    ∃ G', Nxt K F as0 σ0 H0 G0 δ0 σ H G' (δ.set m (.ow (.l (rows.map D.lst)))) := by
  have lr : al.length = rows.length := by rw [g.len, List.length_map]
  have rw_ : ∀ (i : Nat) a, al[i]? = some a → ∃ r, rows[i]? = some r ∧ ¬ Ad σ δ a ∧ G a = none ∧ ∃ vs, H a = some (.lst vs) ∧ AtL K G vs r := fun i a e => by
    have hi : i < rows.length := by rw [← lr]; exact (List.getElem?_eq_some_iff.mp e).1
    have e2 : rows[i]? = some rows[i] := List.getElem?_eq_getElem hi
    exact ⟨_, e2, g.row i a _ e (by rw [List.getElem?_map, e2]; rfl)⟩
  have key : ∀ a ∈ al, ¬ Ad σ δ a ∧ G a = none ∧ H a ≠ none := fun a ha => by
    obtain ⟨i, hi, rfl⟩ := List.mem_iff_getElem.mp ha
    obtain ⟨r, _, h1, h2, vs, h3, _⟩ := rw_ i _ (List.getElem?_eq_getElem hi)
    exact ⟨h1, h2, by rw [h3]; exact fun z => nomatch z⟩
  let G' : Hp := fun a => if a ∈ al then H a else G a
  have gi : ∀ a, a ∈ al → G' a = H a := fun a h => if_pos h
  have go : ∀ a, a ∉ al → G' a = G a := fun a h => if_neg h
  have s1 : Sub G G' := fun a o h => by
    by_cases z : a ∈ al
    · rw [(key a z).2.1] at h
      cases h
    · rw [go a z]
      exact h
  have s2 : Sub G' H := fun a o h => by
    by_cases z : a ∈ al
    · rw [gi a z] at h
      exact h
    · rw [go a z] at h
      exact n.s.L.sub a o h
  have nM : M ∉ al := (List.nodup_cons.mp g.nd).1
  have L1 : Rel K σ H G' δ := ⟨n.s.L.len, s2, fun i d e => by
      obtain ⟨v, h1, h2⟩ := n.s.L.va i d e
      exact ⟨v, h1, h2.mono s1⟩, fun i c e => by
      obtain ⟨l, h1, h2, h3⟩ := n.s.L.ow i c e
      have nl : l ∉ al := fun z => (key l z).1 ⟨i, c, e, h1⟩
      exact ⟨l, h1, (go l nl).trans h2, h3.mono (fun _ z => z) s1⟩, n.s.L.dj⟩
  have hset : σ.set m (some (V.ref M)) = σ := by
    refine List.ext_getElem? fun j => ?_
    by_cases z : m = j
    · subst z
      rw [List.getElem?_set_self (List.getElem?_eq_some_iff.mp g.sl).1, g.sl]
    · rw [List.getElem?_set_ne z]
  have L2 := L1.setO (i := m) (l := M) (c := .l (rows.map D.lst)) ((go M nM).trans g.gM) ⟨al.map V.ref, g.hM, atL_rows lr fun i a r e1 e2 => by
      obtain ⟨r', e3, _, _, vs, h3, h4⟩ := rw_ i a e1
      rw [e2] at e3
      cases e3
      exact ⟨vs, by rw [gi a (List.mem_of_getElem? e1)]; exact h3, h4.mono s1⟩⟩ g.ad
  rw [hset] at L2
  obtain ⟨heM, hbM⟩ := g.fr M List.mem_cons_self
  have ad' : ∀ l, Ad σ (δ.set m (.ow (.l (rows.map D.lst)))) l → l = M ∨ Ad σ δ l := fun l ⟨j, c, e, q⟩ => by
    rcases set_get e with ⟨rfl, _, _⟩ | ⟨ne, e2⟩
    · rw [g.sl] at q
      cases q
      exact .inl rfl
    · exact .inr ⟨j, c, e2, q⟩
  have frz : ∀ {A : Addr → Prop} {Hb Gb : Hp}, Fr A Hb Gb H G → (∀ a ∈ al, Hb a = none) → Fr A Hb Gb H G' := fun f hb => ⟨f.h, fun a o h => s1 _ _ (f.g a o h), fun a na h => (go a fun z => h (hb a z)).trans (f.n a na h), f.d⟩
  refine ⟨G', ⟨L2, frz n.s.f fun a z => (g.fr a (List.mem_cons_of_mem _ z)).1, fun j c' l' e q => ?_, n.s.par⟩, frz n.f fun a z => (g.fr a (List.mem_cons_of_mem _ z)).2, fun l z => ?_, n.st, n.ln⟩
  · rcases set_get e with ⟨rfl, _, _⟩ | ⟨ne, e2⟩
    · rw [g.sl] at q
      cases q
      exact .inr heM
    · exact n.s.own j c' l' e2 q
  · rcases ad' l z with rfl | z
    · exact .inr hbM
    · exact n.ow l z
theorem sndyp_free {ps bs : List Nat} {m : Nat} {t : TS} {T : DS} (a : SndSP K ps bs t T) (hm : m ∉ ps) : SndYP K ps m bs t (ypfree m T) := fun F hps hp as0 σ0 H0 G0 δ0 hb σ H G δ rows D3 D n g h gd => by
  obtain ⟨M, al, g⟩ := g
  obtain ⟨G', n'⟩ := g.free n fun l z => hm (hps m l z)
  have tr : ∀ {σ1 H1 G1 δ1}, Nxt K F bs σ H G' (δ.set m (.ow (.l (rows.map L3.D.lst)))) σ1 H1 G1 δ1 → Nxt K F as0 σ0 H0 G0 δ0 σ1 H1 G1 δ1 := fun x => (n'.trans x).mono fun i hi => (List.mem_append.mp hi).elim id (hb i)
  exact a F hps hp σ H G' _ _ _ n'.s h ⟨fun _ _ _ _ x q => gd.nx _ _ _ _ (tr x) q, fun _ _ _ _ x q => gd.bk _ _ _ _ (tr x) q, fun _ _ _ _ x q => gd.ct _ _ _ _ (tr x) q, fun _ _ _ _ _ _ x rr nr q => gd.rt _ _ _ _ _ _ (tr x) rr nr q⟩
def ypseq (T : YS) (U : YP) : YP := fun Z δ rows => T { nx := U Z, rt := Z.rt } δ rows
theorem sndyp_seq {ps bs cs : List Nat} {m : Nat} {t u : TS} {T : YS} {U : YP} (a : SndY K ps m bs t T) (b : SndYP K ps m cs u U) : SndYP K ps m (bs ++ cs) (tSeq t u) (ypseq T U) := fun F hps hp as0 σ0 H0 G0 δ0 hb σ H G δ rows D3 D n g h gd =>
  a F hps (fun i hi => hp i (List.mem_append_left _ hi)) as0 σ0 H0 G0 δ0 (fun i hi => hb i (List.mem_append_left _ hi)) σ H G δ rows _ _ n g h
    ⟨fun _ _ _ _ _ x q => b F hps (fun i hi => hp i (List.mem_append_right _ hi)) as0 σ0 H0 G0 δ0 (fun i hi => hb i (List.mem_append_right _ hi)) _ _ _ _ _ _ _ x.n x.g q gd, fun _ _ _ _ _ x q => q.elim, fun _ _ _ _ _ x q => q.elim, fun _ _ _ _ _ _ x rr nr q => gd.rt _ _ _ _ _ _ x rr nr q⟩

theorem Nxt.setN {F : FE} {as : List Nat} {σ0 σ : L2.St} {H0 G0 H G : Hp} {δ0 δ : En} {i : Nat} {v : Option V} (n : Nxt K F as σ0 H0 G0 δ0 σ H G δ) (hp : ∀ l, ¬ F.P i l) : Nxt K F (as ++ [i]) σ0 H0 G0 δ0 (σ.set i v) H G (δ.set i .no) := by
  have back : ∀ (j : Nat) (c : Cn) (l : Addr), (δ.set i E.no)[j]? = some (E.ow c) → (σ.set i v)[j]? = some (some (V.ref l)) → δ[j]? = some (E.ow c) ∧ σ[j]? = some (some (V.ref l)) := fun j c l e q => by
    rcases set_get e with ⟨_, z, _⟩ | ⟨ne, e2⟩
    · cases z
    · rw [List.getElem?_set_ne ne] at q
      exact ⟨e2, q⟩
  refine ⟨⟨n.s.L.setN, n.s.f, fun j c l e q => ?_, fun j l z => ?_⟩, n.f, fun l ⟨j, c, e, q⟩ => ?_, fun j hj => ?_, by rw [List.length_set]; exact n.ln⟩
  · obtain ⟨a, b⟩ := back j c l e q
    exact n.s.own j c l a b
  · have ne : i ≠ j := fun q => hp l (by rw [q]; exact z)
    rw [List.getElem?_set_ne ne]
    exact n.s.par j l z
  · obtain ⟨a, b⟩ := back j c l e q
    exact n.ow l ⟨j, c, a, b⟩
  · have ne : i ≠ j := fun z => hj (List.mem_append_right _ (by rw [z]; exact List.mem_cons_self))
    rw [List.getElem?_set_ne ne]
    exact n.st j fun z => hj (List.mem_append_left _ z)
/-- rows that are new since H1 -/
structure Rws (K : PySem.W.Frag) (H1 H G : Hp) (al : List Addr) (acc : List (List D)) : Prop where
  len : al.length = acc.length
  row : ∀ (i : Nat) a r, al[i]? = some a → acc[i]? = some r → H1 a = none ∧ G a = none ∧ ∃ vs, H a = some (.lst vs) ∧ AtL K G vs r
theorem Rws.at_ {H1 H G : Hp} {al : List Addr} {acc : List (List D)} (x : Rws K H1 H G al acc) {a : Addr} (h : a ∈ al) : H1 a = none ∧ G a = none ∧ H a ≠ none := by
  obtain ⟨i, hi, rfl⟩ := List.mem_iff_getElem.mp h
  have hi' : i < acc.length := by rw [← x.len]; exact hi
  obtain ⟨h1, h2, vs, h3, _⟩ := x.row i _ _ (List.getElem?_eq_getElem hi) (List.getElem?_eq_getElem hi')
  exact ⟨h1, h2, by rw [h3]; exact fun z => nomatch z⟩
theorem Rws.fr {H1 H G H' G' : Hp} {al : List Addr} {acc : List (List D)} {A : Addr → Prop} (x : Rws K H1 H G al acc) (f : Fr A H G H' G') (na : ∀ a ∈ al, ¬ A a) : Rws K H1 H' G' al acc :=
  ⟨x.len, fun i a r e1 e2 => by
    obtain ⟨h1, h2, vs, h3, h4⟩ := x.row i a r e1 e2
    have n := na a (List.mem_of_getElem? e1)
    exact ⟨h1, (f.n a n (by rw [h3]; exact fun z => nomatch z)).trans h2, vs, f.h a _ n h3, h4.mono f.sub⟩⟩
/-- m = [e for ..], e new lists; then u over the grid -/
def sgrid (m : Nat) (S : DI) (Gd : DG) (C : DTT) (Te : DT) (vs : List Nat) (U : YP) : DS := fun Z δ => S δ fun items cs δ1 => m < δ1.length ∧ noOw δ1 vs = true ∧ (∀ p ∈ cs, p.1 ∉ vs) ∧ ∃ I : Nat → List (List D) → En → Prop, I 0 [] δ1 ∧ (∀ k acc δ, I k acc δ → ∀ p ∈ cs, δ[p.1]? = some (E.ow p.2)) ∧
  (∀ k x acc δ, items[k]? = some x → I k acc δ → Gd x (wipeE δ vs) fun δ2 => C δ2 fun b δ3 => if b = true then Te δ3 fun r δ4 => ∃ xs, r = .fr (.l xs) ∧ acc.length < sizeLine ∧ I (k + 1) (acc ++ [xs]) (backE δ δ4 vs) else I (k + 1) acc (backE δ δ3 vs)) ∧
  (∀ acc δ, I items.length acc δ → U Z (δ.set m .no) acc)
theorem sndp_grid {ps gs vs bs : List Nat} {m : Nat} {wi : TI} {g : TG} {tt : TT} {te : TE} {u : TS} {S : DI} {Gd : DG} {C : DTT} {Te : DT} {U : YP} (hi : SndI K wi S) (hg : SndG K gs g Gd) (ht : SndT K tt C) (he : Snd K te Te) (hgs : ∀ i ∈ gs, i ∈ vs) (rest : SndYP K ps m bs u U) :
    SndSP K ps (m :: bs) (tSeq (tAsg (tLc wi g tt te vs) (gName m)) u) (sgrid m S Gd C Te vs U) := fun F hps hp σ H G δ Z De s h gd => by
  refine hi σ H G δ _ _ s.L h fun items cs δ1 J H1 G1 L1 f1 le1 it q => ?_
  obtain ⟨hml, no, nc, I, I0, Ic, It, Ie⟩ := q
  intro M hM
  have nX : ∀ {a : Addr}, H1 a = none → ∀ δ', Le δ' δ1 → ¬ Ad σ δ' a := fun ha δ' le z => L1.there (le.ad z) ha
  obtain ⟨fD, sD⟩ := gr_new (G := G1) (o := .lst []) L1.sub hM
  have l1 : σ.length = δ1.length := L1.len
  refine ⟨fun i k H' => k = items.length - i ∧ i ≤ items.length ∧ ∃ G' δ' acc al, Rel K σ H' G' δ' ∧ Fr (fun a => Ad σ δ1 a ∨ a = M) (L2.upd H1 M (.lst [])) G1 H' G' ∧ Le δ' δ1 ∧ (∀ v : Nat, v ∈ vs → δ'[v]? = δ1[v]?) ∧ H' M = some (.lst (al.map V.ref)) ∧ G' M = none ∧ Rws K H1 H' G' al acc ∧ (M :: al).Nodup ∧ I i acc δ',
    ⟨items.length, by simp, Nat.zero_le _, G1, δ1, [], [], L1.grow fD sD, .refl, .refl, fun _ _ => rfl, upd_same, g_none L1.sub hM, ⟨rfl, fun i a r e => by simp at e⟩, by simp, I0⟩, ?_⟩
  rintro i k H' ⟨rfl, hi, G', δ', acc, al, L', f', le', dv, hH, hG, ra, nd, hI⟩
  have no' : noOw δ' vs = true := List.all_eq_true.mpr fun v hv => by
    rw [dv v hv]
    exact List.all_eq_true.mp no v hv
  have ok := it σ H' G' δ' L' f'.sub fun p hp => ⟨Ic i acc δ' hI p hp, rfl⟩
  have fD' : Fr (fun a => Ad σ δ1 a ∨ a = M) H1 G1 (L2.upd H1 M (.lst [])) G1 := fD.fr
  by_cases hlt : i < items.length
  · obtain ⟨hgo, hy⟩ := ok.1 i items[i] (List.getElem?_eq_getElem hlt)
    refine .inr ⟨hgo, fun H2 => ∃ G2 δ2 acc al, Rel K σ H2 G2 δ2 ∧ Fr (fun a => Ad σ δ1 a ∨ a = M) (L2.upd H1 M (.lst [])) G1 H2 G2 ∧ Le δ2 δ1 ∧ (∀ v : Nat, v ∈ vs → δ2[v]? = δ1[v]?) ∧ H2 M = some (.lst (al.map V.ref)) ∧ G2 M = none ∧ Rws K H1 H2 G2 al acc ∧ (M :: al).Nodup ∧ I (i + 1) acc δ2,
      fun H2 z => ⟨items.length - (i + 1), by omega, rfl, hlt, z⟩, fun x H'' y => ?_⟩
    obtain ⟨G'', fg, sg, hx⟩ := hy x H'' y
    have L'' := L'.grow fg sg
    have Lw := L''.wipe vs
    have s0 : S3 K ⟨fun j l => ∃ c, (wipeE δ' vs)[j]? = some (E.ow c) ∧ (wipe σ vs)[j]? = some (some (V.ref l)), H'', G''⟩ (wipe σ vs) H'' G'' (wipeE δ' vs) := ⟨Lw, .refl, fun j c l e q => .inl ⟨c, e, q⟩, fun j l ⟨c, e, q⟩ => q⟩
    refine hg _ (fun j hj l z => ?_) (wipe σ vs) H'' G'' (wipeE δ' vs) x _ _ _ s0 hx (It i _ acc δ' (List.getElem?_eq_getElem hlt) hI) fun σ2 H2 G2 δ2 n2 le2 q2 => ?_
    · obtain ⟨c, e, q⟩ := z
      rcases wipeE_get e with ⟨_, z⟩ | ⟨z, _⟩
      · cases z
      · exact z (hgs j hj)
    have hσ : ∀ j : Nat, j ∉ vs → σ2[j]? = σ[j]? := fun j hj => (n2.st j fun z => hj (hgs j z)).trans (wipe_off hj)
    have hl2 : σ2.length = σ.length := n2.ln.trans (wipe_length σ vs)
    have fAll : ∀ {A : Addr → Prop} {Ha Ga Hb Gb : Hp}, Fr (fun a => Ad σ δ1 a ∨ a = M) (L2.upd H1 M (.lst [])) G1 Ha Ga → Fr A Ha Ga Hb Gb → (∀ a, A a → Ad σ δ1 a ∨ (L2.upd H1 M (.lst [])) a = none) → Fr (fun a => Ad σ δ1 a ∨ a = M) (L2.upd H1 M (.lst [])) G1 Hb Gb := fun x y z => x.trans y fun a h => (z a h).imp .inl id
    have f2 := fAll f' fg (fun _ z => z.elim)
    have f3 := fAll f2 n2.f fun a z => .inl (le'.ad (ad_wipe z))
    have ow2 : ∀ l, Ad σ2 δ2 l → Ad σ δ1 l ∨ (L2.upd H1 M (.lst [])) l = none := fun l z => (n2.ow l z).elim (fun z => .inl (le'.ad (ad_wipe z))) fun z => .inr (f2.free z)
    have nD2 : ∀ l, Ad σ2 δ2 l → l ≠ M := fun l z e => by
      subst e
      rcases ow2 l z with z | z
      · exact nX hM δ1 .refl z
      · rw [upd_same] at z
        cases z
    have keepD : ∀ {A : Addr → Prop} {Ha Ga Hb Gb : Hp}, Fr A Ha Ga Hb Gb → ¬ A M → Ha M = some (.lst (al.map V.ref)) → Ga M = none → Hb M = some (.lst (al.map V.ref)) ∧ Gb M = none := fun f na h g => ⟨f.h M _ na h, (f.n M na (by rw [h]; exact fun z => nomatch z)).trans g⟩
    obtain ⟨d1, g1⟩ := keepD fg (fun z => z) hH hG
    obtain ⟨d2, g2⟩ := keepD n2.f (fun z => nX hM δ' le' (ad_wipe z)) d1 g1
    have r1 := ra.fr fg fun a _ z => z
    have r2 := r1.fr n2.f fun a ha z => nX (r1.at_ ha).1 δ' le' (ad_wipe z)
    have nA2 : ∀ a ∈ al, ¬ Ad σ2 δ2 a := fun a ha z => (n2.ow a z).elim (fun z => nX (r1.at_ ha).1 δ' le' (ad_wipe z)) fun z => (r1.at_ ha).2.2 z
    refine ⟨?_, ht σ2 H2 G2 δ2 _ _ n2.s.L q2 fun b δ3 H3 G3 L3 f4 le3 q3 => ?_⟩
    · refine List.ext_getElem? fun j => ?_
      by_cases hj : j ∈ vs
      · by_cases hjl : j < σ.length
        · rw [wipe_at hj hjl, wipe_at hj (by rw [hl2]; exact hjl)]
        · rw [List.getElem?_eq_none (by rw [wipe_length]; omega), List.getElem?_eq_none (by rw [wipe_length]; omega)]
      · rw [wipe_off hj, wipe_off hj, hσ j hj]
    have f5 := fAll f3 f4 ow2
    obtain ⟨d3, g3⟩ := keepD f4 (fun z => nD2 M z rfl) d2 g2
    have r3 := r2.fr f4 nA2
    have bk : ∀ {δn : En} {Hn Gn : Hp}, Rel K σ2 Hn Gn δn → Le δn δ2 → Fr (fun a => Ad σ δ1 a ∨ a = M) (L2.upd H1 M (.lst [])) G1 Hn Gn → Sub G' Gn → Rel K σ Hn Gn (backE δ' δn vs) ∧ Le (backE δ' δn vs) δ1 ∧ ∀ v : Nat, v ∈ vs → (backE δ' δn vs)[v]? = δ1[v]? := fun {δn Hn Gn} Ln len fn sn => by
      have hd : δ'.length = δn.length := by rw [← L'.len, ← Ln.len, hl2]
      refine ⟨L'.back no' Ln sn hσ hl2, fun j c e => ?_, fun v hv => (backE_in hd hv).trans (dv v hv)⟩
      rcases backE_get hd e with ⟨h1, h2⟩ | ⟨h1, h2⟩
      · exact absurd h2 (noOw_at no' h1 c)
      · obtain ⟨c2, h3⟩ := len j c h2
        obtain ⟨c3, h4⟩ := le2 j c2 h3
        rcases wipeE_get h4 with ⟨_, z⟩ | ⟨_, z⟩
        · cases z
        · exact le' j c3 z
    cases b with
    | true =>
      refine he σ2 H3 G3 δ3 _ _ L3 q3 fun r δ4 y H4 G4 L4 f6 le4 rr q4 => ?_
      obtain ⟨xs, rfl, hlen, q4⟩ := q4
      obtain ⟨l, rfl, nl, gl, ws, hl4, tl4⟩ := rr
      have nA3 : ∀ a, Ad σ2 δ3 a → Ad σ2 δ2 a := fun a z => le3.ad z
      obtain ⟨d4, g4⟩ := keepD f6 (fun z => nD2 M (nA3 _ z) rfl) d3 g3
      have f8 := fAll f5 f6 fun a z => ow2 a (nA3 a z)
      have sG : Sub G' G4 := (((fg.sub.trans n2.f.sub).trans f4.sub).trans f6.sub)
      obtain ⟨Lb, leb, db⟩ := bk L4 (le4.trans le3) f8 sG
      have r4 := r3.fr f6 fun a ha z => nA2 a ha (nA3 a z)
      have nlM : l ≠ M := fun z => by rw [z, d3] at nl; cases nl
      have nla : l ∉ al := fun z => (r3.at_ z).2.2 nl
      have h1l : H1 l = none := by
        have := f5.free nl
        rw [upd_ne nlM] at this
        exact this
      have fu : Fr (fun a => a = M) H4 G4 (L2.upd H4 M (.lst (al.map V.ref ++ [V.ref l]))) G4 := fr_upd rfl
      have nM := List.nodup_cons.mp nd
      have r5 : Rws K H1 (L2.upd H4 M (.lst (al.map V.ref ++ [V.ref l]))) G4 (al ++ [l]) (acc ++ [xs]) := by
        have r6 := r4.fr fu fun a ha z => nM.1 (by rw [← z]; exact ha)
        refine ⟨by rw [List.length_append, List.length_append, r4.len]; rfl, fun j a r e1 e2 => ?_⟩
        by_cases hj : j < al.length
        · rw [List.getElem?_append_left hj] at e1
          rw [List.getElem?_append_left (by rw [← r4.len]; exact hj)] at e2
          exact r6.row j a r e1 e2
        · rw [List.getElem?_append_right (by omega)] at e1
          rw [List.getElem?_append_right (by rw [← r4.len]; omega), ← r4.len] at e2
          have hj0 : j - al.length = 0 := by
            have := (List.getElem?_eq_some_iff.mp e1).1
            simp at this
            omega
          rw [hj0] at e1 e2
          simp at e1 e2
          subst e1
          subst e2
          exact ⟨h1l, gl, ws, by rw [upd_ne nlM]; exact hl4, tl4⟩
      refine ⟨al.map V.ref, d4, by rw [List.length_map, r4.len]; exact hlen, G4, backE δ' δ4 vs, acc ++ [xs], al ++ [l], Lb.other g4 (nX hM _ leb), f8.trans fu fun a z => .inl (.inr z), leb, db, ?_, g4, r5, ?_, q4⟩
      · rw [upd_same, List.map_append]
        rfl
      · refine List.nodup_cons.mpr ⟨fun z => ?_, List.nodup_append.mpr ⟨nM.2, by simp, fun a ha b hb e => ?_⟩⟩
        · rcases List.mem_append.mp z with z | z
          · exact nM.1 z
          · simp at z
            exact nlM z.symm
        · simp at hb
          subst hb
          subst e
          exact nla ha
    | false =>
      have sG : Sub G' G3 := ((fg.sub.trans n2.f.sub).trans f4.sub)
      obtain ⟨Lb, leb, db⟩ := bk L3 le3 f5 sG
      exact ⟨G3, backE δ' δ3 vs, acc, al, Lb, f5, leb, db, d3, g3, r3, nd, q3⟩
  · have e : i = items.length := by omega
    subst e
    have fF : Fr (Ad σ δ) H G H' G' := (f1.trans fD' fun a z => ?_).trans f' fun a z => ?_
    · refine .inl ⟨ok.2, ?_⟩
      have n0 : Nxt K F [] σ H G δ σ H' G' δ' := .step s L' fF (le'.trans le1)
      have hpm : ∀ l, ¬ F.P m l := hp m List.mem_cons_self
      have n1 : Nxt K F (m :: bs) σ H G δ (σ.set m (some (.ref M))) H' G' (δ'.set m .no) := (n0.setN hpm).mono fun j hj => by
        simp at hj
        subst hj
        exact List.mem_cons_self
      have ad' : ∀ l, Ad (σ.set m (some (.ref M))) (δ'.set m .no) l → Ad σ δ' l := fun l ⟨j, c, e, q⟩ => by
        rcases set_get e with ⟨_, z, _⟩ | ⟨ne, e2⟩
        · cases z
        · rw [List.getElem?_set_ne ne] at q
          exact ⟨j, c, e2, q⟩
      refine rest F hps (fun j hj => hp j (List.mem_cons_of_mem _ hj)) (m :: bs) σ H G δ (fun j hj => List.mem_cons_of_mem _ hj) _ H' G' _ acc Z De n1 ⟨M, al, ⟨?_, hH, hG, fun a ha => ?_, nd, fun z => nX hM δ' le' (ad' _ z), ?_, fun j a r e1 e2 => ?_⟩⟩ (Ie acc δ' hI) gd
      · rw [List.getElem?_set_self (by rw [l1]; exact hml)]
      · have h1 : H1 a = none := by
          rcases List.mem_cons.mp ha with rfl | ha
          · exact hM
          · exact (ra.at_ ha).1
        exact ⟨s.f.free (f1.free h1), f1.free h1⟩
      · rw [List.length_map]
        exact ra.len
      · rw [List.getElem?_map] at e2
        obtain ⟨r', e3, e4⟩ := Option.map_eq_some_iff.mp e2
        cases e4
        obtain ⟨h1, h2, h3⟩ := ra.row j a r e1 e3
        exact ⟨fun z => nX h1 δ' le' (ad' _ z), h2, h3⟩
    · rcases z with z | rfl
      · exact .inl (le1.ad z)
      · exact .inr (f1.free hM)
    · rcases z with z | rfl
      · exact .inl (le1.ad z)
      · exact .inr (f1.free hM)
end
end L3
namespace L3
open PySem PySem.Spec PyProof.Rows L2
section
variable {Q : R → En → Prop} {QB : Bool → En → Prop} {δ : En} {T U : DT} {C : DTT} {rt : R → En → Prop} {bk ct : En → Prop} {n : En → Prop} {rows : List (List D)} {Z : DE}
/-- a grid made by a comprehension -/
def GrK (m : Nat) (Gd : DG) (C : DTT) (Te : DT) (vs : List Nat) (U : List (List D) → En → Prop) (items : List D) (cs : List (Nat × Cn)) (δ1 : En) : Prop := m < δ1.length ∧ noOw δ1 vs = true ∧ (∀ p ∈ cs, p.1 ∉ vs) ∧ ∃ I : Nat → List (List D) → En → Prop, I 0 [] δ1 ∧ (∀ k acc δ, I k acc δ → ∀ p ∈ cs, δ[p.1]? = some (E.ow p.2)) ∧
  (∀ k x acc δ, items[k]? = some x → I k acc δ → Gd x (wipeE δ vs) fun δ2 => C δ2 fun b δ3 => if b = true then Te δ3 fun r δ4 => ∃ xs, r = .fr (.l xs) ∧ acc.length < sizeLine ∧ I (k + 1) (acc ++ [xs]) (backE δ δ4 vs) else I (k + 1) acc (backE δ δ3 vs)) ∧
  (∀ acc δ, I items.length acc δ → ∃ δ', δ.set m .no = δ' ∧ U acc δ')
theorem y_grid {m : Nat} {S : DI} {Gd : DG} {Te : DT} {vs : List Nat} {U : YP} (k : S δ fun items cs δ1 => GrK m Gd C Te vs (fun rows δ => U Z δ rows) items cs δ1) : sgrid m S Gd C Te vs U Z δ := by
  unfold GrK at k
  simp only [exists_eq_left'] at k
  exact k
/-- each item becomes a new list, the slots stay -/
theorem grid_map {m : Nat} {Gd : DG} {Te : DT} {vs : List Nat} {items : List D} {cs : List (Nat × Cn)} {U : List (List D) → En → Prop} (f : Nat → List D) (hm : m < δ.length) (no : noOw δ vs = true) (hcs : ∀ p ∈ cs, p.1 ∉ vs) (hi : ∀ p ∈ cs, δ[p.1]? = some (E.ow p.2))
    (ht : ∀ k x, items[k]? = some x → Gd x (wipeE δ vs) fun δ2 => Te δ2 fun r δ4 => ∃ xs, r = .fr (.l xs) ∧ ((List.range k).map f).length < sizeLine ∧ (backE δ δ4 vs = δ ∧ (List.range k).map f ++ [xs] = (List.range (k + 1)).map f))
    (he : ∃ δ', δ.set m .no = δ' ∧ U ((List.range items.length).map f) δ') : GrK m Gd tyes Te vs U items cs δ := by
  refine ⟨hm, no, hcs, fun k acc δ' => δ' = δ ∧ acc = (List.range k).map f, ⟨rfl, rfl⟩, fun k acc δ' h => by rw [h.1]; exact hi, fun k x acc δ' e h => ?_, fun acc δ' h => by rw [h.1, h.2]; exact he⟩
  obtain ⟨rfl, rfl⟩ := h
  have h2 := ht k x e
  simp only [tyes, if_true]
  exact h2
theorem y_list {xs : List D} {P : List D → Prop} (k : P xs) : ∃ ys, R.fr (.l xs) = .fr (.l ys) ∧ P ys := ⟨xs, rfl, k⟩
theorem y_pseq {A : YS} {B : YP} (k : A ⟨B Z, Z.rt, fun _ _ => False, fun _ _ => False⟩ δ rows) : ypseq A B Z δ rows := k
theorem y_free {m : Nat} {S : DS} (k : ∃ δ', δ.set m (.ow (.l (rows.map D.lst))) = δ' ∧ S Z δ') : ypfree m S Z δ rows := by
  obtain ⟨_, rfl, k⟩ := k
  exact k
variable {yn : En → List (List D) → Prop} {ybk yct : En → List (List D) → Prop}
theorem y_plain {S : DS} (k : S ⟨fun δ' => yn δ' rows, rt, fun δ' => ybk δ' rows, fun δ' => yct δ' rows⟩ δ) : yplain S ⟨yn, rt, ybk, yct⟩ δ rows := k
theorem y_seq {A B : YS} (k : A ⟨B ⟨yn, rt, ybk, yct⟩, rt, ybk, yct⟩ δ rows) : yseq A B ⟨yn, rt, ybk, yct⟩ δ rows := k
theorem y_if {A B : YS} (k : C δ fun b δ1 => (b = true → A ⟨yn, rt, ybk, yct⟩ δ1 rows) ∧ (b = false → B ⟨yn, rt, ybk, yct⟩ δ1 rows)) : yif C A B ⟨yn, rt, ybk, yct⟩ δ rows := by
  have : ∀ (c : Bool) (A B : Prop), ((c = true → A) ∧ (c = false → B)) = if c = true then A else B := fun c A B => by cases c <;> simp
  simp only [this] at k
  exact k
def YForK (as : List Nat) (Gd : DG) (B : YS) (Z : DEY) (rows : List (List D)) (items : List D) (cs : List (Nat × Cn)) (δ1 : En) : Prop := (∀ p ∈ cs, p.1 ∉ as) ∧ ∃ I : Nat → En → List (List D) → Prop, I 0 δ1 rows ∧ (∀ k δ rows, I k δ rows → ∀ p ∈ cs, δ[p.1]? = some (E.ow p.2)) ∧
  (∀ k x δ rows, items[k]? = some x → I k δ rows → Gd x δ fun δ' => B ⟨I (k + 1), Z.rt, Z.nx, I (k + 1)⟩ δ' rows) ∧ (∀ δ rows, I items.length δ rows → Z.nx δ rows)
theorem y_for {as : List Nat} {SI : DI} {Gd : DG} {B : YS} (k : SI δ fun items cs δ1 => YForK as Gd B ⟨yn, rt, ybk, yct⟩ rows items cs δ1) : yfor as SI Gd B ⟨yn, rt, ybk, yct⟩ δ rows := k
theorem yfor_by {as : List Nat} {Gd : DG} {B : YS} {items : List D} {cs : List (Nat × Cn)} (I : Nat → En → List (List D) → Prop) (h0 : I 0 δ rows) (hcs : ∀ p ∈ cs, p.1 ∉ as) (hi : ∀ k δ rows, I k δ rows → ∀ p ∈ cs, δ[p.1]? = some (E.ow p.2))
    (ht : ∀ k x δ rows, items[k]? = some x → I k δ rows → Gd x δ fun δ' => B ⟨I (k + 1), rt, yn, I (k + 1)⟩ δ' rows) (he : ∀ δ rows, I items.length δ rows → yn δ rows) : YForK as Gd B ⟨yn, rt, ybk, yct⟩ rows items cs δ := ⟨hcs, I, h0, hi, ht, he⟩
theorem y_back {h : Nat} {r : List D} {P : List D → Prop} (e : δ[h]? = some (E.ow (.l r))) (k : P r) : ∃ r', δ[h]? = some (E.ow (.l r')) ∧ P r' := ⟨r, e, k⟩
end
end L3
namespace L3
open PySem PySem.Spec PyProof.Rows L2
/-- f(e, .., k = v, ..) of a def without defaults -/
theorem fk_bind {K : PySem.W.Frag} {x qual : Str} {params : Arguments} {body : List Stmt} {scope : Scope} {kws : List (Str × V)} {f : Addr} {fd : FuncData} {ps ks : List Str} {us ws zs : List Value} (F : FunD K x qual params body scope [] kws f fd)
    (h : ∀ (kV doc pm : Value) (an : Option Addr) (cdv ct : Value), bindArgs (PySem.W.fnOf x qual params body scope .none kV doc pm an cdv ct) ⟨us, ks.zip ws⟩ = pure (ps.zip zs)) (s : Shared) : BindsTo s fd ⟨us, ks.zip ws⟩ (ps.zip zs) := by
  obtain ⟨oc, od, dV, kV, doc, pm, an, cdv, ct, osl, rfl, lk, hcd, hD, hK⟩ := F.ex
  rcases hD with ⟨_, rfl⟩ | ⟨e, _⟩
  · exact .of_eq (h kV doc pm an cdv ct)
  · exact absurd rfl e
end L3
namespace L3
open PySem PySem.Spec PyProof.Rows L2
section
variable {K : PySem.W.Frag}
def sortI (ns : List Int) : List Int := ns.mergeSort (fun a b => decide (a ≤ b))
theorem sortI_perm (ns : List Int) : (sortI ns).Perm ns := List.mergeSort_perm _ _
theorem sortI_le (ns : List Int) : (sortI ns).Pairwise (· ≤ ·) := by
  have := List.pairwise_mergeSort (le := fun a b : Int => decide (a ≤ b)) (by simp; omega) (by simp; omega) ns
  simpa [sortI] using this
theorem sortI_uniq {ns ns' : List Int} (p : ns'.Perm ns) (h : ns'.Pairwise (· ≤ ·)) : ns' = sortI ns :=
  (p.trans (sortI_perm ns).symm).eq_of_pairwise (fun a b _ _ x y => Int.le_antisymm x y) h (sortI_le ns)
def putEs (δ : En) : List Bool → List R → Option En
  | [], [] => some []
  | m :: ms, r :: rs => (putE δ m r).bind fun e => (putEs δ ms rs).map fun es => e :: es
  | _, _ => none
def setEs (δ : En) : List Nat → En → En
  | i :: is, e :: es => setEs (δ.set i e) is es
  | _, _ => δ
def sparN (is : List Nat) (ms : List Bool) (TA : DTA) : DS := fun Z δ => TA δ fun rs δ1 => rs.length = is.length ∧ rs.length ≤ sizeLine ∧ ∃ es, putEs δ1 ms rs = some es ∧ Z.nx (setEs δ1 is es)
def gNames (is : List Nat) : TGs := is.foldr (fun i g => gCons (gName i) g) gNil
theorem par_go {F : FE} {σ : L2.St} {H G H2 G2 : Hp} {δ : En} (hf : ∀ a, H a = none → F.HE a = none) : ∀ {is : List Nat} {vs : List V} {es : En} {σk : L2.St} {δk : En} {as : List Nat} {Q : L2.St → Hp → Prop}, Nxt K F as σ H G δ σk H2 G2 δk → vs.length = is.length → es.length = is.length → (∀ i ∈ is, ∀ l, ¬ F.P i l) →
    (∀ (j : Nat) v e, vs[j]? = some v → es[j]? = some e → PutOk K H H2 G2 v e) → (∀ (j : Nat) l c, vs[j]? = some (.ref l) → es[j]? = some (.ow c) → ¬ Ad σk δk l) →
    (∀ (i j : Nat) l c c', vs[i]? = some (V.ref l) → es[i]? = some (.ow c) → vs[j]? = some (V.ref l) → es[j]? = some (.ow c') → i = j) →
    (∀ σ', Nxt K F (as ++ is) σ H G δ σ' H2 G2 (setEs δk is es) → Q σ' H2) → gNames is vs σk H2 Q
  | [], [], [], σk, δk, as, Q, n, _, _, _, _, _, _, k => ⟨rfl, k σk (by rw [List.append_nil]; exact n)⟩
  | i :: is, v :: vs, e :: es, σk, δk, as, Q, n, l1, l2, hp, po, na, ap, k => by
    have p0 := po 0 v e rfl rfl
    have n1 := n.put (hp i List.mem_cons_self) hf p0 fun l ev ⟨c, ec⟩ => na 0 l c (by rw [ev]; rfl) (by rw [ec]; rfl)
    refine ⟨v, vs, rfl, par_go hf n1 (by simpa using l1) (by simpa using l2) (fun j hj => hp j (List.mem_cons_of_mem _ hj)) (fun j v e h1 h2 => po (j + 1) v e (by simpa using h1) (by simpa using h2)) (fun j l c h1 h2 z => ?_) (fun a b l c c' h1 h2 h3 h4 => ?_) fun σ' m => k σ' ?_⟩
    · rcases ad_put n.s.L.len z with z | ⟨z1, c1, z2⟩
      · exact na (j + 1) l c (by simpa using h1) (by simpa using h2) z
      · have := ap 0 (j + 1) l c1 c (by rw [z1]; rfl) (by rw [z2]; rfl) (by simpa using h1) (by simpa using h2)
        cases this
    · have := ap (a + 1) (b + 1) l c c' (by simpa using h1) (by simpa using h2) (by simpa using h3) (by simpa using h4)
      omega
    · rw [List.append_assoc] at m
      exact m
  | [], _ :: _, _, _, _, _, _, _, l, _, _, _, _, _, _ => by cases l
  | [], [], _ :: _, _, _, _, _, _, _, l, _, _, _, _, _ => by cases l
  | _ :: _, [], _, _, _, _, _, _, l, _, _, _, _, _, _ => by cases l
  | _ :: _, _ :: _, [], _, _, _, _, _, _, l, _, _, _, _, _ => by cases l
theorem putEs_get {δ : En} : ∀ {ms : List Bool} {rs : List R} {es : En}, putEs δ ms rs = some es → es.length = rs.length ∧ ∀ (j : Nat) e, es[j]? = some e → ∃ r m, rs[j]? = some r ∧ ms[j]? = some m ∧ putE δ m r = some e
  | [], [], es, h => by
    cases h
    exact ⟨rfl, fun j e z => by simp at z⟩
  | m :: ms, r :: rs, es, h => by
    obtain ⟨e0, h1, h2⟩ := Option.bind_eq_some_iff.mp h
    obtain ⟨es', h3, rfl⟩ := Option.map_eq_some_iff.mp h2
    obtain ⟨l, g⟩ := putEs_get h3
    refine ⟨by rw [List.length_cons, List.length_cons, l], fun j e z => ?_⟩
    cases j with
    | zero =>
      cases z
      exact ⟨r, m, rfl, rfl, h1⟩
    | succ j => exact g j e (by simpa using z)
  | [], _ :: _, _, h => by cases h
  | _ :: _, [], _, h => by cases h
theorem snds_parN {is : List Nat} {n : Nat} {t : TA} {TA : DTA} (ms : List Bool) (a : SndA K t TA) (hn : is.length = n) : SndS K is (tAsg (tTup t) (gTup K n (gNames is))) (sparN is ms TA) := fun F hp σ H G δ D3 Z s h g => by
  refine a σ H G δ _ _ s.L h fun rs δ1 vs H1 G1 L1 f1 le1 rr q => ?_
  obtain ⟨hl, hsz, es, pe, q⟩ := q
  obtain ⟨le, ge⟩ := putEs_get pe
  have lv := rr.length
  refine ⟨by rw [lv]; exact hsz, fun p hpn => ?_⟩
  obtain ⟨G2, M2, f2, ok⟩ := puts_ok s.L L1 f1 le1 rr ms
  obtain ⟨fp, sp⟩ := gr_new (G := G2) (o := .tup vs) M2.sub hpn
  have M3 := M2.grow fp sp
  have n : Nxt K F [] σ H G δ σ (L2.upd H1 p (.tup vs)) G2 δ1 :=   .step s M3 (f2.trans fp fun _ z => False.elim z) le1
  have up : ∀ {v e}, PutOk K H H1 G2 v e → PutOk K H (L2.upd H1 p (.tup vs)) G2 v e := fun {v e} x => by
    rcases x with ⟨d, rfl, h⟩ | ⟨c, l, rfl, rfl, h0, g0, hc⟩
    · exact .inl ⟨d, rfl, h⟩
    · exact .inr ⟨c, l, rfl, rfl, h0, g0, hc.mono (fun o z => fp.h l o (fun z => z) z) .refl⟩
  have key : ∀ (j : Nat) v e, vs[j]? = some v → es[j]? = some e → PutOk K H (L2.upd H1 p (.tup vs)) G2 v e ∧ ∀ c, e = .ow c → rs[j]? = some (.fr c) := fun j v e h1 h2 => by
    obtain ⟨r, m, e1, e2, e3⟩ := ge j e h2
    obtain ⟨k1, k2⟩ := ok j r m v e e1 e2 h1 e3
    exact ⟨up k1, fun c ec => by rw [← (k2 c ec).1]; exact e1⟩
  refine ⟨p, vs, rfl, SqT.of upd_same, by rw [lv, hl, hn], par_go (fun a z => s.f.free z) n (by rw [lv, hl]) (by rw [le, hl]) hp (fun j v e h1 h2 => (key j v e h1 h2).1) (fun j l c h1 h2 z => ?_) (fun i j l c c' h1 h2 h3 h4 => ?_) fun σ' m => g.nx _ _ _ _ m q⟩
  · have hr := (key j _ _ h1 h2).2 c rfl
    obtain ⟨v, q1, l', q2, q3, _⟩ := rr.get hr
    rw [h1] at q1
    cases q1
    cases q2
    exact s.L.there (le1.ad z) q3
  · exact rr.apart ((key i _ _ h1 h2).2 c rfl) ((key j _ _ h3 h4).2 c' rfl) h1 h3
end
section
variable {Q : R → En → Prop} {δ : En} {T U : DT} {TA : DTA} {n : En → Prop} {rt : R → En → Prop} {bk ct : En → Prop} {q : R → Prop} {N : En → Prop} {d : D}
theorem s_parN {is : List Nat} {ms : List Bool} (k : TA δ fun rs δ1 => rs.length = is.length ∧ rs.length ≤ sizeLine ∧ ∃ es, putEs δ1 ms rs = some es ∧ ∃ δ', setEs δ1 is es = δ' ∧ n δ') : sparN is ms TA ⟨n, rt, bk, ct⟩ δ := by
  simp only [exists_eq_left'] at k
  exact k
theorem s_putN {rs : List R} {a b : Nat} {ms : List Bool} {es : En} {P : En → Prop} (h0 : rs.length = a) (h1 : rs.length ≤ b) (h2 : putEs δ ms rs = some es) (k : P es) : rs.length = a ∧ rs.length ≤ b ∧ ∃ es, putEs δ ms rs = some es ∧ P es := ⟨h0, h1, es, h2, k⟩
end
end L3
namespace L3
open PySem PySem.Spec PyProof.Rows L2
def sadj (n : Net) (x y : Nat) (s : Int) : Prop := ∃ r ∈ n, r[x]? = some ((y : Int), s)
theorem adj_s {n : Net} {x y : Nat} : adj n x y ↔ ∃ s, sadj n x y s := ⟨fun ⟨r, hr, s, e⟩ => ⟨s, r, hr, e⟩, fun ⟨s, r, hr, e⟩ => ⟨r, hr, s, e⟩⟩
theorem sadj_adj {n : Net} {x y : Nat} {s : Int} (h : sadj n x y s) : adj n x y := adj_s.mpr ⟨s, h⟩
section
variable {many size : Nat} {n : Net}
theorem sadj_symm (h : GoodNet many size n) {x y : Nat} {s : Int} (a : sadj n x y s) : sadj n y x s := by
  obtain ⟨r, hr, e⟩ := a
  have hx : x < size := by rw [← (h.row r hr).len]; exact (List.getElem?_eq_some_iff.mp e).1
  obtain ⟨y', s', e1, hy, _, e2⟩ := (h.row r hr).ok x hx
  rw [e] at e1
  have q := Option.some.inj e1
  have q1 : (y : Int) = y' := congrArg Prod.fst q
  have q2 : s = s' := congrArg Prod.snd q
  have : y = y' := by omega
  subst this
  subst q2
  exact ⟨r, hr, e2⟩
theorem sadj_sign (h : GoodNet many size n) {x y : Nat} {s : Int} (a : sadj n x y s) : s = 1 ∨ s = -1 := by
  obtain ⟨r, hr, e⟩ := a
  have hx : x < size := by rw [← (h.row r hr).len]; exact (List.getElem?_eq_some_iff.mp e).1
  obtain ⟨y', s', e1, hy, hs, e2⟩ := (h.row r hr).ok x hx
  rw [e] at e1
  have q2 : s = s' := congrArg Prod.snd (Option.some.inj e1)
  rw [q2]
  exact hs
theorem reach_trans {x y z : Nat} (a : Reach n x y) (b : Reach n y z) : Reach n x z := fun K k c => b K (a K k c) c
theorem reach_one {x y : Nat} (a : adj n x y) : Reach n x y := fun K k c => c _ _ k a
theorem reach_symm (h : GoodNet many size n) {x y : Nat} (a : Reach n x y) : Reach n y x := a (fun z => Reach n z x) reach_refl fun p q k pq => reach_adj (adj_symm h pq) k
theorem reach_lt (h : GoodNet many size n) {x y : Nat} (a : Reach n x y) (hx : x < size) : y < size := a (fun z => z < size) hx fun p q _ pq => (adj_lt h pq).2
/-- a sign for each copy that is reached, as the steps say -/
def Pot (n : Net) (x : Nat) (f : Nat → Int) : Prop := f x = 1 ∧ ∀ p q s, Reach n x p → sadj n p q s → f q = f p * s
def Bal (n : Net) (x : Nat) : Prop := ∃ f, Pot n x f
theorem pot_one (h : GoodNet many size n) {x : Nat} {f : Nat → Int} (p : Pot n x f) {y : Nat} (a : Reach n x y) : f y = 1 ∨ f y = -1 := by
  have := a (fun z => Reach n x z ∧ (f z = 1 ∨ f z = -1)) ⟨reach_refl, .inl p.1⟩ fun u v k uv => by
    obtain ⟨s, hs⟩ := adj_s.mp uv
    refine ⟨reach_trans k.1 (reach_one uv), ?_⟩
    rw [p.2 u v s k.1 hs]
    rcases k.2 with e | e <;> rcases sadj_sign h hs with e' | e' <;> rw [e, e'] <;> decide
  exact this.2
theorem bal_on (h : GoodNet many size n) {x y : Nat} (b : Bal n x) (a : Reach n x y) : Bal n y := by
  obtain ⟨f, p⟩ := b
  have e := pot_one h p a
  refine ⟨fun z => f z * f y, ?_, fun u v s k uv => ?_⟩
  · show f y * f y = 1
    rcases e with e | e <;> rw [e] <;> decide
  · show f v * f y = f u * f y * s
    rw [p.2 u v s (reach_trans a k) uv, Int.mul_assoc, Int.mul_assoc, Int.mul_comm s]
def IsHead (n : Net) (z : Nat) : Prop := ∀ y, Reach n z y → z ≤ y
theorem head_of (h : GoodNet many size n) (x : Nat) : ∃ z, Reach n x z ∧ IsHead n z := by
  obtain ⟨m, h1, h2⟩ := least (P := fun z => Reach n x z) x reach_refl
  exact ⟨m, h1, fun y r => h2 y (reach_trans h1 r)⟩
theorem head_eq (h : GoodNet many size n) {x y : Nat} (hx : IsHead n x) (hy : IsHead n y) (r : Reach n x y) : x = y := Nat.le_antisymm (hx y r) (hy x (reach_symm h r))
open Classical in
noncomputable def heads (n : Net) (size : Nat) : List Nat := (List.range size).filter fun z => decide (IsHead n z)
open Classical in
noncomputable def kinN (n : Net) (size : Nat) : Nat := ((heads n size).filter fun z => decide (Bal n z)).length
open Classical in
noncomputable def comp (n : Net) (size x : Nat) : List Nat := (List.range size).filter fun y => decide (Reach n x y)
open Classical in
noncomputable def balB (n : Net) (x : Nat) : Bool := decide (Bal n x)
open Classical in
noncomputable def kins (n : Net) (size : Nat) : List Nat := (heads n size).filter fun z => decide (Bal n z)
theorem mem_kins {z : Nat} : z ∈ kins n size ↔ z < size ∧ IsHead n z ∧ Bal n z := by
  unfold kins heads
  simp only [List.mem_filter, List.mem_range, decide_eq_true_eq, and_assoc]
theorem kins_nodup : (kins n size).Nodup := by
  unfold kins heads
  exact (List.nodup_range.filter _).filter _
theorem kins_len : (kins n size).length = kinN n size := rfl
end
theorem map_nodup {α β : Type} {f : α → β} : ∀ {l : List α}, l.Nodup → (∀ a ∈ l, ∀ b ∈ l, f a = f b → a = b) → (l.map f).Nodup
  | [], _, _ => List.nodup_nil
  | a :: l, nd, h => by
    obtain ⟨n1, n2⟩ := List.nodup_cons.mp nd
    refine List.nodup_cons.mpr ⟨fun z => ?_, map_nodup n2 fun a ha b hb => h a (List.mem_cons_of_mem _ ha) b (List.mem_cons_of_mem _ hb)⟩
    obtain ⟨b, hb, e⟩ := List.mem_map.mp z
    have := h b (List.mem_cons_of_mem _ hb) a List.mem_cons_self e
    subst this
    exact n1 hb
/-- the moves of the one net are those of the other one under new numbers -/
structure Emb (size : Nat) (n n' : Net) (φ : Nat → Nat) : Prop where
  inj : ∀ x y, x < size → y < size → φ x = φ y → x = y
  fwd : ∀ x y s, x < size → sadj n x y s → sadj n' (φ x) (φ y) s
  bwd : ∀ x z s, x < size → sadj n' (φ x) z s → ∃ y, y < size ∧ z = φ y ∧ sadj n x y s
section
variable {many size many' size' : Nat} {n n' : Net} {φ : Nat → Nat}
theorem Emb.reach (e : Emb size n n' φ) (h : GoodNet many size n) {x y : Nat} (hx : x < size) (r : Reach n x y) : Reach n' (φ x) (φ y) := by
  have := r (fun z => z < size ∧ Reach n' (φ x) (φ z)) ⟨hx, reach_refl⟩ fun a b k ab => by
    obtain ⟨s, hs⟩ := adj_s.mp ab
    exact ⟨(adj_lt h ab).2, reach_trans k.2 (reach_one (sadj_adj (e.fwd a b s k.1 hs)))⟩
  exact this.2
theorem Emb.back (e : Emb size n n' φ) {x z : Nat} (hx : x < size) (r : Reach n' (φ x) z) : ∃ y, y < size ∧ z = φ y ∧ Reach n x y := 
  r (fun z => ∃ y, y < size ∧ z = φ y ∧ Reach n x y) ⟨x, hx, rfl, reach_refl⟩ fun a b ⟨y, hy, ey, k⟩ ab => by
    subst ey
    obtain ⟨s, hs⟩ := adj_s.mp ab
    obtain ⟨w, hw, ew, a2⟩ := e.bwd y b s hy hs
    exact ⟨w, hw, ew, reach_trans k (reach_one (sadj_adj a2))⟩
theorem Emb.back2 (e : Emb size n n' φ) {x y : Nat} (hx : x < size) (hy : y < size) (r : Reach n' (φ x) (φ y)) : Reach n x y := by
  obtain ⟨w, hw, ew, k⟩ := e.back hx r
  rw [e.inj y w hy hw ew]
  exact k
open Classical in
theorem Emb.bal (e : Emb size n n' φ) (h : GoodNet many size n) {x : Nat} (hx : x < size) : Bal n x ↔ Bal n' (φ x) := by
  constructor
  · rintro ⟨f, p1, p2⟩
    have val : ∀ y, y < size → (if q : ∃ u, u < size ∧ φ y = φ u then f q.choose else 1) = f y := fun y hy => by
      have q : ∃ u, u < size ∧ φ y = φ u := ⟨y, hy, rfl⟩
      rw [dif_pos q]
      exact congrArg f (e.inj y q.choose hy q.choose_spec.1 q.choose_spec.2).symm
    refine ⟨fun z => if q : ∃ u, u < size ∧ z = φ u then f q.choose else 1, (val x hx).trans p1, fun p q s r a => ?_⟩
    obtain ⟨y, hy, rfl, k⟩ := e.back hx r
    obtain ⟨w, hw, rfl, a2⟩ := e.bwd y q s hy a
    exact (val w hw).trans ((p2 y w s k a2).trans (congrArg (· * s) (val y hy).symm))
  · rintro ⟨f, p1, p2⟩
    refine ⟨fun z => f (φ z), p1, fun p q s r a => ?_⟩
    have hp : p < size := reach_lt h r hx
    exact p2 (φ p) (φ q) s (e.reach h hx r) (e.fwd p q s hp a)
theorem kin_le (h : GoodNet many size n) (h' : GoodNet many' size' n') (e : Emb size n n' φ) (lt : ∀ x, x < size → φ x < size') : kinN n size ≤ kinN n' size' := by
  rw [← kins_len, ← kins_len, ← List.length_map (f := fun z => (head_of h' (φ z)).choose)]
  refine nodup_sub_len (map_nodup kins_nodup fun a ha b hb q => ?_) fun z hz => ?_
  · obtain ⟨a1, a2, a3⟩ := mem_kins.mp ha
    obtain ⟨b1, b2, b3⟩ := mem_kins.mp hb
    have r1 := (head_of h' (φ a)).choose_spec.1
    have r2 := (head_of h' (φ b)).choose_spec.1
    rw [← q] at r2
    exact head_eq h a2 b2 (e.back2 a1 b1 (reach_trans r1 (reach_symm h' r2)))
  · obtain ⟨a, ha, rfl⟩ := List.mem_map.mp hz
    obtain ⟨a1, a2, a3⟩ := mem_kins.mp ha
    obtain ⟨r1, r2⟩ := (head_of h' (φ a)).choose_spec
    exact mem_kins.mpr ⟨reach_lt h' r1 (lt a a1), r2, bal_on h' ((e.bal h a1).mp a3) r1⟩
theorem kin_sum {many1 size1 many2 size2 : Nat} {n1 n2 : Net} {φ ψ : Nat → Nat} (h1 : GoodNet many1 size1 n1) (h2 : GoodNet many2 size2 n2) (h' : GoodNet many' size' n') (e1 : Emb size1 n1 n' φ) (e2 : Emb size2 n2 n' ψ) (lt1 : ∀ x, x < size1 → φ x < size') (lt2 : ∀ x, x < size2 → ψ x < size')
    (cov : ∀ z, z < size' → (∃ x, x < size1 ∧ z = φ x) ∨ ∃ x, x < size2 ∧ z = ψ x) (dj : ∀ x y, x < size1 → y < size2 → φ x ≠ ψ y) : kinN n' size' = kinN n1 size1 + kinN n2 size2 := by
  have cross : ∀ x y, x < size1 → y < size2 → ¬ Reach n' (φ x) (ψ y) := fun x y hx hy r => by
    obtain ⟨w, hw, ew, _⟩ := e1.back hx r
    exact dj w y hw hy ew.symm
  refine Nat.le_antisymm ?_ ?_
  · let g : Nat → Nat ⊕ Nat := fun z => if q : ∃ x, x < size1 ∧ z = φ x then .inl (head_of h1 q.choose).choose else if q : ∃ x, x < size2 ∧ z = ψ x then .inr (head_of h2 q.choose).choose else .inl 0
    have gl : ∀ z, (∃ x, x < size1 ∧ z = φ x) → ∃ x, x < size1 ∧ z = φ x ∧ g z = .inl (head_of h1 x).choose := fun z q => ⟨q.choose, q.choose_spec.1, q.choose_spec.2, by show (if q : ∃ x, x < size1 ∧ z = φ x then _ else _) = _; rw [dif_pos q]⟩
    have gr : ∀ z, ¬ (∃ x, x < size1 ∧ z = φ x) → (∃ x, x < size2 ∧ z = ψ x) → ∃ x, x < size2 ∧ z = ψ x ∧ g z = .inr (head_of h2 x).choose := fun z nq q => ⟨q.choose, q.choose_spec.1, q.choose_spec.2, by
      show (if q : ∃ x, x < size1 ∧ z = φ x then _ else _) = _
      rw [dif_neg nq]
      show (if q : ∃ x, x < size2 ∧ z = ψ x then _ else _) = _
      rw [dif_pos q]⟩
    have cases_ : ∀ z, z < size' → (∃ x, x < size1 ∧ z = φ x ∧ g z = .inl (head_of h1 x).choose) ∨ ∃ x, x < size2 ∧ z = ψ x ∧ g z = .inr (head_of h2 x).choose := fun z hz => by
      by_cases q : ∃ x, x < size1 ∧ z = φ x
      · exact .inl (gl z q)
      · exact .inr (gr z q ((cov z hz).resolve_left q))
    rw [← kins_len, ← List.length_map (f := g)]
    have len : kinN n1 size1 + kinN n2 size2 = ((kins n1 size1).map (Sum.inl (β := Nat)) ++ (kins n2 size2).map Sum.inr).length := by
      rw [List.length_append, List.length_map, List.length_map, kins_len, kins_len]
    rw [len]
    refine nodup_sub_len (map_nodup kins_nodup fun a ha b hb q => ?_) fun z hz => ?_
    · obtain ⟨a1, a2, a3⟩ := mem_kins.mp ha
      obtain ⟨b1, b2, b3⟩ := mem_kins.mp hb
      rcases cases_ a a1 with ⟨x, hx, rfl, ex⟩ | ⟨x, hx, rfl, ex⟩
      · rcases cases_ b b1 with ⟨y, hy, rfl, ey⟩ | ⟨y, hy, rfl, ey⟩
        · rw [ex, ey] at q
          have q := Sum.inl.inj q
          have r1 := (head_of h1 x).choose_spec.1
          have r2 := (head_of h1 y).choose_spec.1
          rw [← q] at r2
          exact head_eq h' a2 b2 (e1.reach h1 hx (reach_trans r1 (reach_symm h1 r2)))
        · rw [ex, ey] at q
          cases q
      · rcases cases_ b b1 with ⟨y, hy, rfl, ey⟩ | ⟨y, hy, rfl, ey⟩
        · rw [ex, ey] at q
          cases q
        · rw [ex, ey] at q
          have q := Sum.inr.inj q
          have r1 := (head_of h2 x).choose_spec.1
          have r2 := (head_of h2 y).choose_spec.1
          rw [← q] at r2
          exact head_eq h' a2 b2 (e2.reach h2 hx (reach_trans r1 (reach_symm h2 r2)))
    · obtain ⟨a, ha, rfl⟩ := List.mem_map.mp hz
      obtain ⟨a1, a2, a3⟩ := mem_kins.mp ha
      rcases cases_ a a1 with ⟨x, hx, rfl, ex⟩ | ⟨x, hx, rfl, ex⟩
      · rw [ex]
        obtain ⟨r1, r2⟩ := (head_of h1 x).choose_spec
        exact List.mem_append_left _ (List.mem_map.mpr ⟨_, mem_kins.mpr ⟨reach_lt h1 r1 hx, r2, bal_on h1 ((e1.bal h1 hx).mpr a3) r1⟩, rfl⟩)
      · rw [ex]
        obtain ⟨r1, r2⟩ := (head_of h2 x).choose_spec
        exact List.mem_append_right _ (List.mem_map.mpr ⟨_, mem_kins.mpr ⟨reach_lt h2 r1 hx, r2, bal_on h2 ((e2.bal h2 hx).mpr a3) r1⟩, rfl⟩)
  · have len : kinN n1 size1 + kinN n2 size2 = ((kins n1 size1).map (fun z => (head_of h' (φ z)).choose) ++ (kins n2 size2).map fun z => (head_of h' (ψ z)).choose).length := by
      rw [List.length_append, List.length_map, List.length_map, kins_len, kins_len]
    rw [len, ← kins_len]
    refine nodup_sub_len (List.nodup_append.mpr ⟨map_nodup kins_nodup fun a ha b hb q => ?_, map_nodup kins_nodup fun a ha b hb q => ?_, fun a ha b hb q => ?_⟩) fun z hz => ?_
    · obtain ⟨a1, a2, a3⟩ := mem_kins.mp ha
      obtain ⟨b1, b2, b3⟩ := mem_kins.mp hb
      have r1 := (head_of h' (φ a)).choose_spec.1
      have r2 := (head_of h' (φ b)).choose_spec.1
      rw [← q] at r2
      exact head_eq h1 a2 b2 (e1.back2 a1 b1 (reach_trans r1 (reach_symm h' r2)))
    · obtain ⟨a1, a2, a3⟩ := mem_kins.mp ha
      obtain ⟨b1, b2, b3⟩ := mem_kins.mp hb
      have r1 := (head_of h' (ψ a)).choose_spec.1
      have r2 := (head_of h' (ψ b)).choose_spec.1
      rw [← q] at r2
      exact head_eq h2 a2 b2 (e2.back2 a1 b1 (reach_trans r1 (reach_symm h' r2)))
    · obtain ⟨x, hx, rfl⟩ := List.mem_map.mp ha
      obtain ⟨y, hy, rfl⟩ := List.mem_map.mp hb
      have r1 := (head_of h' (φ x)).choose_spec.1
      have r2 := (head_of h' (ψ y)).choose_spec.1
      have q' : (head_of h' (φ x)).choose = (head_of h' (ψ y)).choose := q
      rw [← q'] at r2
      exact cross x y (mem_kins.mp hx).1 (mem_kins.mp hy).1 (reach_trans r1 (reach_symm h' r2))
    · rcases List.mem_append.mp hz with hz | hz
      · obtain ⟨a, ha, rfl⟩ := List.mem_map.mp hz
        obtain ⟨a1, a2, a3⟩ := mem_kins.mp ha
        obtain ⟨r1, r2⟩ := (head_of h' (φ a)).choose_spec
        exact mem_kins.mpr ⟨reach_lt h' r1 (lt1 a a1), r2, bal_on h' ((e1.bal h1 a1).mp a3) r1⟩
      · obtain ⟨a, ha, rfl⟩ := List.mem_map.mp hz
        obtain ⟨a1, a2, a3⟩ := mem_kins.mp ha
        obtain ⟨r1, r2⟩ := (head_of h' (ψ a)).choose_spec
        exact mem_kins.mpr ⟨reach_lt h' r1 (lt2 a a1), r2, bal_on h' ((e2.bal h2 a1).mp a3) r1⟩
end
end L3
namespace L3
open PySem PySem.Spec PyProof.Rows L2
/-- the pair (y, x) has the number y * wide + x -/
def prodP (wide : Nat) (p q : Int × Int) : Int × Int := (q.1 * (wide : Int) + p.1, p.2 * q.2)
def prodR (wide : Nat) (r q : Row) : Row := (List.range (q.length * wide)).map fun p => prodP wide (r.getD (p % wide) (0, 1)) (q.getD (p / wide) (0, 1))
def prodN (wide : Nat) (a b : Net) : Net := (List.range a.length).map fun k => prodR wide (a.getD k []) (b.getD k [])
theorem div_lt {p a b : Nat} (h : p < a * b) : p / b < a := Nat.div_lt_of_lt_mul (by rw [Nat.mul_comm]; exact h)
theorem mod_lt' {p a b : Nat} (h : p < a * b) : p % b < b := Nat.mod_lt _ (by
  rcases Nat.eq_zero_or_pos b with e | e
  · rw [e, Nat.mul_zero] at h; omega
  · exact e)
theorem pair_lt {x y a b : Nat} (hx : x < b) (hy : y < a) : y * b + x < a * b := by
  have : (y + 1) * b ≤ a * b := Nat.mul_le_mul_right b hy
  rw [Nat.add_mul] at this
  omega
theorem pair_div {x y b : Nat} (hx : x < b) : (y * b + x) / b = y := by
  rw [Nat.mul_comm, Nat.mul_add_div (by omega), Nat.div_eq_of_lt hx, Nat.add_zero]
theorem pair_mod {x y b : Nat} (hx : x < b) : (y * b + x) % b = x := by
  rw [Nat.mul_comm, Nat.mul_add_mod, Nat.mod_eq_of_lt hx]
theorem pair_eq (p b : Nat) : p / b * b + p % b = p := by rw [Nat.mul_comm]; exact Nat.div_add_mod p b
section
variable {many s1 s2 : Nat} {a b : Net}
theorem prodR_len {wide : Nat} {r q : Row} : (prodR wide r q).length = q.length * wide := by simp [prodR]
theorem prodR_get {wide : Nat} {r q : Row} {p : Nat} {u v : Int × Int} (hp : p < q.length * wide) (h1 : r[p % wide]? = some u) (h2 : q[p / wide]? = some v) : (prodR wide r q)[p]? = some (prodP wide u v) := by
  unfold prodR
  rw [List.getElem?_map, List.getElem?_range hp, Option.map_some, List.getD_eq_getElem?_getD, List.getD_eq_getElem?_getD, h1, h2]
  rfl
theorem good_prodR {r q : Row} (g : GoodRow s1 r) (g' : GoodRow s2 q) : GoodRow (s2 * s1) (prodR s1 r q) where
  len := by rw [prodR_len, g'.len]
  ok := fun p hp => by
    have hx := mod_lt' hp
    have hy := div_lt hp
    obtain ⟨z, s, e1, hz, hs, e2⟩ := g.ok _ hx
    obtain ⟨w, t, e3, hw, ht, e4⟩ := g'.ok _ hy
    have lq := g'.len
    refine ⟨w * s1 + z, s * t, ?_, pair_lt hz hw, ?_, ?_⟩
    · rw [prodR_get (by rw [lq]; exact hp) e1 e3]
      unfold prodP
      simp
    · rcases hs with rfl | rfl <;> rcases ht with rfl | rfl <;> decide
    · have h1 := pair_mod (y := w) hz
      have h2 := pair_div (y := w) hz
      rw [prodR_get (p := w * s1 + z) (by rw [lq]; exact pair_lt hz hw) (by rw [h1]; exact e2) (by rw [h2]; exact e4)]
      unfold prodP
      have := pair_eq p s1
      have e5 : ((p / s1 : Nat) : Int) * (s1 : Int) + ((p % s1 : Nat) : Int) = (p : Int) := by exact_mod_cast this
      simp only [e5]
theorem prodN_get {wide : Nat} {k : Nat} {r q : Row} (h1 : a[k]? = some r) (h2 : b[k]? = some q) : (prodN wide a b)[k]? = some (prodR wide r q) := by
  unfold prodN
  rw [List.getElem?_map, List.getElem?_range (List.getElem?_eq_some_iff.mp h1).1, Option.map_some, List.getD_eq_getElem?_getD, List.getD_eq_getElem?_getD, h1, h2]
  rfl
theorem good_prodN (g : GoodNet many s1 a) (g' : GoodNet many s2 b) (hs : s2 * s1 ≤ 1000) : GoodNet many (s2 * s1) (prodN s1 a b) :=
  ⟨by simp [prodN, g.len], g.m0, g.m1, Nat.mul_pos g'.s0 g.s0, hs, fun r hr => by
    obtain ⟨k, e⟩ := List.mem_iff_getElem?.mp hr
    have hk' : k < many := by
      have := (List.getElem?_eq_some_iff.mp e).1
      simp [prodN, g.len] at this
      exact this
    obtain ⟨q1, e1, g1⟩ := g.get hk'
    obtain ⟨q2, e2, g2⟩ := g'.get hk'
    rw [prodN_get e1 e2] at e
    cases e
    exact good_prodR g1 g2⟩
theorem sadj_k {n : Net} {x y : Nat} {s : Int} : sadj n x y s ↔ ∃ (k : Nat) (r : Row), n[k]? = some r ∧ r[x]? = some ((y : Int), s) := ⟨fun ⟨r, hr, e⟩ => by
    obtain ⟨k, h⟩ := List.mem_iff_getElem?.mp hr
    exact ⟨k, r, h, e⟩, fun ⟨k, r, h, e⟩ => ⟨r, List.mem_of_getElem? h, e⟩⟩
/-- the steps of a product -/
theorem sadj_prod (g : GoodNet many s1 a) (g' : GoodNet many s2 b) {p q : Nat} {s : Int} (hp : p < s2 * s1) : sadj (prodN s1 a b) p q s ↔
    ∃ (k : Nat) (r1 r2 : Row) (z w : Nat) (s' t : Int), a[k]? = some r1 ∧ b[k]? = some r2 ∧ r1[p % s1]? = some ((z : Int), s') ∧ r2[p / s1]? = some ((w : Int), t) ∧ z < s1 ∧ w < s2 ∧ q = w * s1 + z ∧ s = s' * t := by
  rw [sadj_k]
  constructor
  · rintro ⟨k, r, h, e⟩
    have hk : k < many := by
      have := (List.getElem?_eq_some_iff.mp h).1
      simp [prodN, g.len] at this
      exact this
    obtain ⟨q1, e1, g1⟩ := g.get hk
    obtain ⟨q2, e2, g2⟩ := g'.get hk
    rw [prodN_get e1 e2] at h
    cases h
    obtain ⟨z, s', h1, hz, _, _⟩ := g1.ok _ (mod_lt' hp)
    obtain ⟨w, t, h2, hw, _, _⟩ := g2.ok _ (div_lt hp)
    rw [prodR_get (by rw [g2.len]; exact hp) h1 h2] at e
    have e' := Option.some.inj e
    have ea : (w : Int) * (s1 : Int) + (z : Int) = (q : Int) := congrArg Prod.fst e'
    have eb : s' * t = s := congrArg Prod.snd e'
    exact ⟨k, q1, q2, z, w, s', t, e1, e2, h1, h2, hz, hw, by exact_mod_cast ea.symm, eb.symm⟩
  · rintro ⟨k, r1, r2, z, w, s', t, e1, e2, h1, h2, hz, hw, rfl, rfl⟩
    have g2 := g'.row _ (List.mem_of_getElem? e2)
    refine ⟨k, prodR s1 r1 r2, prodN_get e1 e2, ?_⟩
    rw [prodR_get (by rw [g2.len]; exact hp) h1 h2]
    unfold prodP
    simp
/-- both orders -/
theorem emb_swap (g : GoodNet many s1 a) (g' : GoodNet many s2 b) : Emb (s2 * s1) (prodN s1 a b) (prodN s2 b a) (fun p => p % s1 * s2 + p / s1) where
  inj := fun x y hx hy e => by
    have e' : x % s1 * s2 + x / s1 = y % s1 * s2 + y / s1 := e
    have h1 := pair_div (y := x % s1) (div_lt hx)
    have h2 := pair_div (y := y % s1) (div_lt hy)
    have h3 := pair_mod (y := x % s1) (div_lt hx)
    have h4 := pair_mod (y := y % s1) (div_lt hy)
    rw [e'] at h1 h3
    have a1 : x % s1 = y % s1 := h1.symm.trans h2
    have a2 : x / s1 = y / s1 := h3.symm.trans h4
    rw [← pair_eq x s1, ← pair_eq y s1, a1, a2]
  fwd := fun x y s hx h => by
    obtain ⟨k, r1, r2, z, w, s', t, e1, e2, h1, h2, hz, hw, rfl, rfl⟩ := (sadj_prod g g' hx).mp h
    refine (sadj_prod g' g (pair_lt (div_lt hx) (mod_lt' hx))).mpr ⟨k, r2, r1, w, z, t, s', e2, e1, ?_, ?_, hw, hz, ?_, Int.mul_comm _ _⟩
    · rw [pair_mod (div_lt hx)]
      exact h2
    · rw [pair_div (div_lt hx)]
      exact h1
    · show (w * s1 + z) % s1 * s2 + (w * s1 + z) / s1 = z * s2 + w
      rw [pair_mod hz, pair_div hz]
  bwd := fun x q s hx h => by
    obtain ⟨k, r1, r2, z, w, s', t, e1, e2, h1, h2, hz, hw, rfl, rfl⟩ := (sadj_prod g' g (pair_lt (div_lt hx) (mod_lt' hx))).mp h
    rw [pair_mod (div_lt hx)] at h1
    rw [pair_div (div_lt hx)] at h2
    refine ⟨z * s1 + w, pair_lt hw hz, ?_, (sadj_prod g g' hx).mpr ⟨k, r2, r1, w, z, t, s', e2, e1, h2, h1, hw, hz, rfl, Int.mul_comm _ _⟩⟩
    show w * s2 + z = (z * s1 + w) % s1 * s2 + (z * s1 + w) / s1
    rw [pair_mod hw, pair_div hw]
theorem kin_comm (g : GoodNet many s1 a) (g' : GoodNet many s2 b) (hs : s2 * s1 ≤ 1000) : kinN (prodN s1 a b) (s2 * s1) = kinN (prodN s2 b a) (s1 * s2) := by
  have h1 := good_prodN g g' hs
  have h2 := good_prodN g' g (by rw [Nat.mul_comm]; exact hs)
  exact Nat.le_antisymm (kin_le h1 h2 (emb_swap g g') fun x hx => pair_lt (div_lt hx) (mod_lt' hx)) (kin_le h2 h1 (emb_swap g' g) fun x hx => pair_lt (div_lt hx) (mod_lt' hx))
def shiftR (by_ : Nat) (r : Row) : Row := r.map fun p => (p.1 + (by_ : Int), p.2)
def besideN (by_ : Nat) (a c : Net) : Net := (List.range a.length).map fun k => a.getD k [] ++ shiftR by_ (c.getD k [])
variable {s3 : Nat} {c : Net}
theorem besideN_get {by_ k : Nat} {r q : Row} (h1 : a[k]? = some r) (h2 : c[k]? = some q) : (besideN by_ a c)[k]? = some (r ++ shiftR by_ q) := by
  unfold besideN
  rw [List.getElem?_map, List.getElem?_range (List.getElem?_eq_some_iff.mp h1).1, Option.map_some, List.getD_eq_getElem?_getD, List.getD_eq_getElem?_getD, h1, h2]
  rfl
theorem shiftR_get {by_ x : Nat} {q : Row} {y s : Int} (h : q[x]? = some (y, s)) : (shiftR by_ q)[x]? = some (y + (by_ : Int), s) := by
  unfold shiftR
  rw [List.getElem?_map, h]
  rfl
theorem good_besideR {r q : Row} (g : GoodRow s1 r) (g' : GoodRow s3 q) : GoodRow (s1 + s3) (r ++ shiftR s1 q) where
  len := by simp [shiftR, g.len, g'.len]
  ok := fun x hx => by
    have l := g.len
    by_cases h : x < s1
    · obtain ⟨y, s, e1, hy, hs, e2⟩ := g.ok x h
      exact ⟨y, s, by rw [List.getElem?_append_left (by omega)]; exact e1, by omega, hs, by rw [List.getElem?_append_left (by omega)]; exact e2⟩
    · obtain ⟨y, s, e1, hy, hs, e2⟩ := g'.ok (x - s1) (by omega)
      refine ⟨y + s1, s, ?_, by omega, hs, ?_⟩
      · rw [List.getElem?_append_right (by omega), l, shiftR_get e1]
        simp
      · rw [List.getElem?_append_right (by omega), l, Nat.add_sub_cancel, shiftR_get e2]
        congr 2
        omega
theorem good_besideN (g : GoodNet many s1 a) (g' : GoodNet many s3 c) (hs : s1 + s3 ≤ 1000) : GoodNet many (s1 + s3) (besideN s1 a c) :=
  ⟨by simp [besideN, g.len], g.m0, g.m1, by have := g.s0; omega, hs, fun r hr => by
    obtain ⟨k, e⟩ := List.mem_iff_getElem?.mp hr
    have hk : k < many := by
      have := (List.getElem?_eq_some_iff.mp e).1
      simp [besideN, g.len] at this
      exact this
    obtain ⟨q1, e1, g1⟩ := g.get hk
    obtain ⟨q2, e2, g2⟩ := g'.get hk
    rw [besideN_get e1 e2] at e
    cases e
    exact good_besideR g1 g2⟩
/-- an embedding carries over to products on the right -/
theorem emb_prod {s4 : Nat} {d : Net} {φ : Nat → Nat} (g : GoodNet many s1 a) (gd : GoodNet many s4 d) (gb : GoodNet many s2 b) (hk : ∀ (k : Nat) r r', a[k]? = some r → d[k]? = some r' → ∀ x, x < s1 → ∀ (y : Nat) s, r[x]? = some ((y : Int), s) → r'[φ x]? = some ((φ y : Int), s)) (lt : ∀ x, x < s1 → φ x < s4) (inj : ∀ x y, x < s1 → y < s1 → φ x = φ y → x = y) :
    Emb (s2 * s1) (prodN s1 a b) (prodN s4 d b) (fun p => p / s1 * s4 + φ (p % s1)) where
  inj := fun x y hx hy e => by
    have e' : x / s1 * s4 + φ (x % s1) = y / s1 * s4 + φ (y % s1) := e
    have lx := lt _ (mod_lt' hx)
    have ly := lt _ (mod_lt' hy)
    have h1 := pair_div (y := x / s1) lx
    have h2 := pair_div (y := y / s1) ly
    have h3 := pair_mod (y := x / s1) lx
    have h4 := pair_mod (y := y / s1) ly
    rw [e'] at h1 h3
    have a1 : x / s1 = y / s1 := h1.symm.trans h2
    have a2 : x % s1 = y % s1 := inj _ _ (mod_lt' hx) (mod_lt' hy) (h3.symm.trans h4)
    rw [← pair_eq x s1, ← pair_eq y s1, a1, a2]
  fwd := fun x y s hx h => by
    obtain ⟨k, r1, r2, z, w, s', t, e1, e2, h1, h2, hz, hw, rfl, rfl⟩ := (sadj_prod g gb hx).mp h
    have hkm : k < many := by rw [← g.len]; exact (List.getElem?_eq_some_iff.mp e1).1
    obtain ⟨r', e3, g3⟩ := gd.get hkm
    have lx := lt _ (mod_lt' hx)
    refine (sadj_prod gd gb (pair_lt lx (div_lt hx))).mpr ⟨k, r', r2, φ z, w, s', t, e3, e2, ?_, ?_, lt z hz, hw, ?_, rfl⟩
    · rw [pair_mod lx]
      exact hk k r1 r' e1 e3 _ (mod_lt' hx) z s' h1
    · rw [pair_div lx]
      exact h2
    · show (w * s1 + z) / s1 * s4 + φ ((w * s1 + z) % s1) = w * s4 + φ z
      rw [pair_mod hz, pair_div hz]
  bwd := fun x q s hx h => by
    have lx := lt _ (mod_lt' hx)
    obtain ⟨k, r', r2, z, w, s', t, e3, e2, h1, h2, hz, hw, rfl, rfl⟩ := (sadj_prod gd gb (pair_lt lx (div_lt hx))).mp h
    rw [pair_mod lx] at h1
    rw [pair_div lx] at h2
    have hkm : k < many := by rw [← gd.len]; exact (List.getElem?_eq_some_iff.mp e3).1
    obtain ⟨r1, e1, g1⟩ := g.get hkm
    obtain ⟨y, s'', e4, hy, _, _⟩ := g1.ok _ (mod_lt' hx)
    have := hk k r1 r' e1 e3 _ (mod_lt' hx) y s'' e4
    rw [h1] at this
    have q := Option.some.inj this
    have ea : (z : Int) = φ y := congrArg Prod.fst q
    have eb : s' = s'' := congrArg Prod.snd q
    have ez : z = φ y := by omega
    subst ez
    subst eb
    refine ⟨w * s1 + y, pair_lt hy hw, ?_, (sadj_prod g gb hx).mpr ⟨k, r1, r2, y, w, s', t, e1, e2, e4, h2, hy, hw, rfl, rfl⟩⟩
    show w * s4 + φ y = (w * s1 + y) / s1 * s4 + φ ((w * s1 + y) % s1)
    rw [pair_mod hy, pair_div hy]
theorem kin_beside (g : GoodNet many s1 a) (g3 : GoodNet many s3 c) (gb : GoodNet many s2 b) (hs : s2 * (s1 + s3) ≤ 1000) : kinN (prodN (s1 + s3) (besideN s1 a c) b) (s2 * (s1 + s3)) = kinN (prodN s1 a b) (s2 * s1) + kinN (prodN s3 c b) (s2 * s3) := by
  have b0 := gb.s0
  have le1 : s1 + s3 ≤ 1000 := Nat.le_trans (Nat.le_mul_of_pos_left _ b0) hs
  have h1 : s2 * s1 ≤ 1000 := Nat.le_trans (Nat.mul_le_mul_left _ (by omega)) hs
  have h3 : s2 * s3 ≤ 1000 := Nat.le_trans (Nat.mul_le_mul_left _ (by omega)) hs
  have gd := good_besideN g g3 le1
  have kl : ∀ (k : Nat) r r', a[k]? = some r → (besideN s1 a c)[k]? = some r' → ∀ x, x < s1 → ∀ (y : Nat) s, r[x]? = some ((y : Int), s) → r'[x]? = some ((y : Int), s) := fun k r r' e e' x hx y s h => by
    have hk : k < many := by rw [← g.len]; exact (List.getElem?_eq_some_iff.mp e).1
    obtain ⟨q2, e2, g2⟩ := g3.get hk
    rw [besideN_get e e2] at e'
    cases e'
    rw [List.getElem?_append_left (by rw [(g.row r (List.mem_of_getElem? e)).len]; exact hx)]
    exact h
  have kr : ∀ (k : Nat) r r', c[k]? = some r → (besideN s1 a c)[k]? = some r' → ∀ x, x < s3 → ∀ (y : Nat) s, r[x]? = some ((y : Int), s) → r'[s1 + x]? = some (((s1 + y : Nat) : Int), s) := fun k r r' e e' x hx y s h => by
    have hk : k < many := by rw [← g3.len]; exact (List.getElem?_eq_some_iff.mp e).1
    obtain ⟨q1, e1, g1⟩ := g.get hk
    rw [besideN_get e1 e] at e'
    cases e'
    rw [List.getElem?_append_right (by rw [g1.len]; omega), g1.len, Nat.add_sub_cancel_left, shiftR_get h]
    congr 2
    omega
  refine kin_sum (good_prodN g gb h1) (good_prodN g3 gb h3) (good_prodN gd gb hs) (emb_prod (φ := fun x => x) g gd gb kl (fun x hx => by omega) fun x y _ _ e => e) (emb_prod (φ := fun x => s1 + x) g3 gd gb kr (fun x hx => by omega) fun x y _ _ (e : s1 + x = s1 + y) => by omega)
    (fun x hx => pair_lt (by have := mod_lt' hx; omega) (div_lt hx)) (fun x hx => pair_lt (by have := mod_lt' hx; omega) (div_lt hx)) (fun z hz => ?_) fun x y hx hy e => ?_
  · have hm := mod_lt' hz
    have hd := div_lt hz
    by_cases q : z % (s1 + s3) < s1
    · refine .inl ⟨z / (s1 + s3) * s1 + z % (s1 + s3), pair_lt q hd, ?_⟩
      show z = (z / (s1 + s3) * s1 + z % (s1 + s3)) / s1 * (s1 + s3) + (z / (s1 + s3) * s1 + z % (s1 + s3)) % s1
      rw [pair_div q, pair_mod q, pair_eq]
    · have q' : z % (s1 + s3) - s1 < s3 := by omega
      refine .inr ⟨z / (s1 + s3) * s3 + (z % (s1 + s3) - s1), pair_lt q' hd, ?_⟩
      show z = (z / (s1 + s3) * s3 + (z % (s1 + s3) - s1)) / s3 * (s1 + s3) + (s1 + (z / (s1 + s3) * s3 + (z % (s1 + s3) - s1)) % s3)
      rw [pair_div q', pair_mod q', show s1 + (z % (s1 + s3) - s1) = z % (s1 + s3) by omega, pair_eq]
  · have e' : x / s1 * (s1 + s3) + x % s1 = y / s3 * (s1 + s3) + (s1 + y % s3) := e
    have l1 := mod_lt' hx
    have l2 := mod_lt' hy
    have h1 := pair_mod (y := x / s1) (show x % s1 < s1 + s3 by omega)
    have h2 := pair_mod (y := y / s3) (show s1 + y % s3 < s1 + s3 by omega)
    rw [e', h2] at h1
    omega
end
end L3
namespace L3
open PySem PySem.Spec PyProof.Rows L2
def updI (f : Nat → Int) (x : Nat) (v : Int) : Nat → Int := fun y => if y = x then v else f y
theorem updI_at {f : Nat → Int} {x : Nat} {v : Int} : updI f x v x = v := by unfold updI; rw [if_pos rfl]
theorem updI_ne {f : Nat → Int} {x y : Nat} {v : Int} (h : y ≠ x) : updI f x v y = f y := by unfold updI; rw [if_neg h]
/-- on the way through the round of low: the pairs before at_ are done, at at_ the sides before k -/
structure Rnd (n : Net) (size low : Nat) (S0 : Nat → Int) (at_ k : Nat) (met : List Nat) (sg : Nat → Int) (truth : Bool) : Prop where
  nd : met.Nodup
  hd : low ∈ met
  one : sg low = 1
  mem : ∀ q ∈ met, q < size ∧ Reach n low q ∧ (sg q = 1 ∨ sg q = -1)
  off : ∀ q, q ∉ met → sg q = S0 q
  done : ∀ (i j p : Nat) r (q : Nat) t, (i < at_ ∨ (i = at_ ∧ j < k)) → met[i]? = some p → n[j]? = some r → r[p]? = some ((q : Int), t) → q ∈ met ∧ (truth = true → sg q = sg p * t)
  bad : truth = false → ¬ Bal n low
  pot : ∀ f, Pot n low f → ∀ q ∈ met, sg q = f q
section
variable {many size low : Nat} {n : Net} {S0 : Nat → Int}
theorem Rnd.start (hl : low < size) : Rnd n size low S0 0 0 [low] (updI S0 low 1) true where
  nd := by simp
  hd := by simp
  one := updI_at
  mem := fun q hq => by
    simp at hq
    subst hq
    exact ⟨hl, reach_refl, .inl updI_at⟩
  off := fun q hq => updI_ne (by simpa using hq)
  done := fun i j p r q t h => by omega
  bad := fun h => by cases h
  pot := fun f hf q hq => by
    simp at hq
    subst hq
    rw [updI_at]
    exact hf.1.symm
variable {at_ k : Nat} {met : List Nat} {sg : Nat → Int} {truth : Bool}
/-- a copy that is met for the first time -/
theorem Rnd.new (g : GoodNet many size n) (x : Rnd n size low S0 at_ k met sg truth) {p q : Nat} {r : Row} {t : Int} (hp : met[at_]? = some p) (hr : n[k]? = some r) (e : r[p]? = some ((q : Int), t)) (z : sg q = 0) : Rnd n size low S0 at_ (k + 1) (met ++ [q]) (updI sg q (sg p * t)) truth := by
  have pm := List.mem_of_getElem? hp
  obtain ⟨p1, p2, p3⟩ := x.mem p pm
  have a : sadj n p q t := sadj_k.mpr ⟨k, r, hr, e⟩
  have qn : q ∉ met := fun h => by
    rcases (x.mem q h).2.2 with e | e <;> rw [e] at z <;> cases z
  have ne : ∀ y ∈ met, y ≠ q := fun y hy e => qn (by rw [← e]; exact hy)
  have la := (List.getElem?_eq_some_iff.mp hp).1
  refine ⟨?_, List.mem_append_left _ x.hd, ?_, fun y hy => ?_, fun y hy => ?_, fun i j p' r' q' t' h h1 h2 h3 => ?_, x.bad, fun f hf y hy => ?_⟩
  · exact List.nodup_append.mpr ⟨x.nd, by simp, fun c hc b hb => by simp at hb; rw [hb]; exact ne c hc⟩
  · rw [updI_ne (ne low x.hd)]
    exact x.one
  · rcases List.mem_append.mp hy with hy | hy
    · rw [updI_ne (ne y hy)]
      exact x.mem y hy
    · simp at hy
      subst hy
      refine ⟨(adj_lt g (sadj_adj a)).2, reach_trans p2 (reach_one (sadj_adj a)), ?_⟩
      rw [updI_at]
      rcases p3 with e | e <;> rcases sadj_sign g a with e' | e' <;> rw [e, e'] <;> decide
  · have hy1 : y ∉ met := fun h => hy (List.mem_append_left _ h)
    have hy2 : y ≠ q := fun h => hy (by rw [h]; simp)
    rw [updI_ne hy2]
    exact x.off y hy1
  · have hi : i < met.length := by omega
    rw [List.getElem?_append_left hi] at h1
    have pm' := List.mem_of_getElem? h1
    by_cases w : i < at_ ∨ (i = at_ ∧ j < k)
    · obtain ⟨m1, m2⟩ := x.done i j p' r' q' t' w h1 h2 h3
      refine ⟨List.mem_append_left _ m1, fun ht => ?_⟩
      rw [updI_ne (ne q' m1), updI_ne (ne p' pm')]
      exact m2 ht
    · have hia : i = at_ := by omega
      have hjk : j = k := by omega
      subst hia
      subst hjk
      rw [hp] at h1
      cases h1
      rw [hr] at h2
      cases h2
      rw [e] at h3
      have h3 := Option.some.inj h3
      have e1 : (q : Int) = q' := congrArg Prod.fst h3
      have e2 : t = t' := congrArg Prod.snd h3
      have e1 : q = q' := by omega
      subst e1
      subst e2
      refine ⟨by simp, fun _ => ?_⟩
      rw [updI_at, updI_ne (ne p pm)]
  · rcases List.mem_append.mp hy with hy | hy
    · rw [updI_ne (ne y hy)]
      exact x.pot f hf y hy
    · simp at hy
      subst hy
      rw [updI_at, x.pot f hf p pm]
      exact (hf.2 p y t p2 a).symm
theorem Rnd.turn (x : Rnd n size low S0 at_ n.length met sg truth) : Rnd n size low S0 (at_ + 1) 0 met sg truth :=
  ⟨x.nd, x.hd, x.one, x.mem, x.off, fun i j p r q t h h1 h2 h3 => x.done i j p r q t (by
    have := (List.getElem?_eq_some_iff.mp h2).1
    omega) h1 h2 h3, x.bad, x.pot⟩
/-- behind a round -/
structure RndEnd (n : Net) (size low : Nat) (S0 : Nat → Int) (met : List Nat) (sg : Nat → Int) (truth : Bool) : Prop where
  nd : met.Nodup
  mem : ∀ q, q ∈ met ↔ Reach n low q
  lt : ∀ q ∈ met, q < size
  off : ∀ q, ¬ Reach n low q → sg q = S0 q
  one : ∀ q, Reach n low q → sg q = 1 ∨ sg q = -1
  tr : truth = balB n low
  pot : Bal n low → Pot n low sg
theorem Rnd.fin (x : Rnd n size low S0 at_ 0 met sg truth) (h : met.length ≤ at_) : RndEnd n size low S0 met sg truth := by
  have cl : ∀ p q t, p ∈ met → sadj n p q t → q ∈ met ∧ (truth = true → sg q = sg p * t) := fun p q t pm a => by
    obtain ⟨j, r, h1, h2⟩ := sadj_k.mp a
    obtain ⟨i, hi⟩ := List.mem_iff_getElem?.mp pm
    have := (List.getElem?_eq_some_iff.mp hi).1
    exact x.done i j p r q t (.inl (by omega)) hi h1 h2
  have mm : ∀ q, q ∈ met ↔ Reach n low q := fun q => ⟨fun hq => (x.mem q hq).2.1, fun r => r (fun z => z ∈ met) x.hd fun a b k ab => by
    obtain ⟨s, hs⟩ := adj_s.mp ab
    exact (cl a b s k hs).1⟩
  have po : truth = true → Pot n low sg := fun ht => ⟨x.one, fun p q s r a => (cl p q s ((mm p).mpr r) a).2 ht⟩
  refine ⟨x.nd, mm, fun q hq => (x.mem q hq).1, fun q hq => x.off q fun z => hq ((mm q).mp z), fun q hq => (x.mem q ((mm q).mpr hq)).2.2, ?_, fun b => ?_⟩
  · unfold balB
    cases ht : truth with
    | true => exact (@decide_eq_true _ (Classical.propDecidable _) ⟨sg, po ht⟩).symm
    | false => exact (@decide_eq_false _ (Classical.propDecidable _) (x.bad ht)).symm
  · cases ht : truth with
    | true => exact po ht
    | false => exact absurd b (x.bad ht)
theorem comp_sorted (h : ∀ q, q ∈ met ↔ Reach n low q) (nd : met.Nodup) (lt : ∀ q ∈ met, q < size) : sortI (met.map fun q : Nat => (q : Int)) = (comp n size low).map fun q : Nat => (q : Int) := by
  have nc : (comp n size low).Nodup := List.nodup_range.filter _
  have p : (comp n size low).Perm met := (List.perm_ext_iff_of_nodup nc nd).mpr fun q => by
    unfold comp
    simp only [List.mem_filter, List.mem_range, decide_eq_true_eq]
    exact ⟨fun z => (h q).mpr z.2, fun z => ⟨lt q z, (h q).mp z⟩⟩
  refine (sortI_uniq (p.map _) ?_).symm
  refine List.pairwise_map.mpr ?_
  have : (comp n size low).Pairwise (· < ·) := List.Pairwise.filter _ List.pairwise_lt_range
  exact this.imp fun {a b} h => by omega
theorem RndEnd.sorted {met : List Nat} {sg : Nat → Int} {truth : Bool} (x : RndEnd n size low S0 met sg truth) : sortI (met.map fun q : Nat => (q : Int)) = (comp n size low).map fun q : Nat => (q : Int) := comp_sorted x.mem x.nd x.lt
structure Crs (n : Net) (size low : Nat) (sg : Nat → Int) : Prop where
  zero : ∀ q, q < size → (sg q ≠ 0 ↔ ∃ z, z < low ∧ Reach n z q)
  one : ∀ q, q < size → sg q = 0 ∨ sg q = 1 ∨ sg q = -1
  pot : ∀ z, z < low → IsHead n z → Bal n z → Pot n z sg
theorem Crs.start : Crs n size 0 fun _ => 0 := ⟨fun q _ => ⟨fun h => absurd rfl h, fun ⟨z, h, _⟩ => by omega⟩, fun _ _ => .inl rfl, fun z h => by omega⟩
theorem Crs.head (g : GoodNet many size n) {sg : Nat → Int} (x : Crs n size low sg) (hl : low < size) : sg low = 0 ↔ IsHead n low := by
  constructor
  · intro h y r
    refine Decidable.byContradiction fun hn => ?_
    exact (x.zero low hl).mpr ⟨y, by omega, reach_symm g r⟩ h
  · intro h
    refine Decidable.byContradiction fun hn => ?_
    obtain ⟨z, hz, r⟩ := (x.zero low hl).mp hn
    have := h z (reach_symm g r)
    omega
theorem Crs.fresh (g : GoodNet many size n) {sg : Nat → Int} (x : Crs n size low sg) (hl : low < size) (h : sg low = 0) : ∀ q, Reach n low q → sg q = 0 := fun q r => by
  refine Decidable.byContradiction fun hn => ?_
  obtain ⟨z, hz, r2⟩ := (x.zero q (reach_lt g r hl)).mp hn
  exact (x.zero low hl).mpr ⟨z, hz, reach_trans r2 (reach_symm g r)⟩ h
theorem pot_congr {z : Nat} {f f' : Nat → Int} (p : Pot n z f) (h : ∀ q, Reach n z q → f' q = f q) : Pot n z f' :=
  ⟨(h z reach_refl).trans p.1, fun a b s r ab => by rw [h b (reach_trans r (reach_one (sadj_adj ab))), h a r]; exact p.2 a b s r ab⟩
theorem Crs.round (g : GoodNet many size n) {sg sg' : Nat → Int} {met : List Nat} {truth : Bool} (x : Crs n size low sg) (hl : low < size) (h : sg low = 0) (e : RndEnd n size low sg met sg' truth) : Crs n size (low + 1) sg' where
  zero := fun q hq => by
    by_cases r : Reach n low q
    · refine ⟨fun _ => ⟨low, by omega, r⟩, fun _ => ?_⟩
      rcases e.one q r with e | e <;> rw [e] <;> decide
    · rw [e.off q r, x.zero q hq]
      refine ⟨fun ⟨z, hz, r2⟩ => ⟨z, by omega, r2⟩, fun ⟨z, hz, r2⟩ => ⟨z, ?_, r2⟩⟩
      have : z ≠ low := fun e => r (by rw [← e]; exact r2)
      omega
  one := fun q hq => by
    by_cases r : Reach n low q
    · exact .inr (e.one q r)
    · rw [e.off q r]
      exact x.one q hq
  pot := fun z hz hh b => by
    by_cases w : z = low
    · subst w
      exact e.pot b
    · refine pot_congr (x.pot z (by omega) hh b) fun q r => e.off q fun r2 => ?_
      exact w (head_eq g hh ((x.head g hl).mp h) (reach_trans r (reach_symm g r2)))
end
def natsD (l : List Nat) : List D := l.map fun q : Nat => D.int (q : Int)
theorem natsD_len {l : List Nat} : (natsD l).length = l.length := by simp [natsD]
end L3
namespace L3
open PySem PySem.Spec PyProof.Rows L2
/-- f is the least copy that is reached -/
structure Low (n : Net) (f : Nat → Nat) : Prop where
  re : ∀ x, Reach n x (f x)
  min : ∀ x y, Reach n x y → f x ≤ y
section
variable {many size : Nat} {n : Net} {f : Nat → Nat}
theorem Low.le (w : Low n f) (x : Nat) : f x ≤ x := w.min x x reach_refl
theorem Low.same (h : GoodNet many size n) (w : Low n f) {x y : Nat} (r : Reach n x y) : f x = f y := by
  have h1 := w.min x (f y) (reach_trans r (w.re y))
  have h2 := w.min y (f x) (reach_trans (reach_symm h r) (w.re x))
  omega
theorem Low.idem (h : GoodNet many size n) (w : Low n f) (x : Nat) : f (f x) = f x := (w.same h (w.re x)).symm
theorem Low.iff (h : GoodNet many size n) (w : Low n f) {x y : Nat} : Reach n x y ↔ f x = f y := ⟨w.same h, fun e => reach_trans (w.re x) (by rw [e]; exact reach_symm h (w.re y))⟩
theorem Low.adj (h : GoodNet many size n) (w : Low n f) {x y : Nat} (a : adj n x y) : f x = f y := w.same h (reach_one a)
end
def partL (size : Nat) (f : Nat → Nat) (z : Nat) : List Nat := (List.range size).filter fun x => f x == z
def headL (size : Nat) (f : Nat → Nat) : List Nat := (List.range size).filter fun z => f z == z
theorem mem_partL {size : Nat} {f : Nat → Nat} {z x : Nat} : x ∈ partL size f z ↔ x < size ∧ f x = z := by simp [partL]
theorem mem_headL {size : Nat} {f : Nat → Nat} {z : Nat} : z ∈ headL size f ↔ z < size ∧ f z = z := by simp [headL]
theorem partL_nodup {size : Nat} {f : Nat → Nat} {z : Nat} : (partL size f z).Nodup := List.Pairwise.filter _ List.nodup_range
theorem headL_nodup {size : Nat} {f : Nat → Nat} : (headL size f).Nodup := List.Pairwise.filter _ List.nodup_range
theorem filter_one {a : Nat} : ∀ {l : List Nat}, l.Nodup → a ∈ l → l.filter (fun z => a == z) = [a]
  | [], _, h => by cases h
  | b :: l, nd, h => by
    obtain ⟨n1, n2⟩ := List.nodup_cons.mp nd
    by_cases e : a = b
    · subst e
      rw [List.filter_cons_of_pos (by simp)]
      congr 1
      rw [List.filter_eq_nil_iff]
      intro c hc z
      have : a = c := by simpa using z
      exact n1 (by rw [this]; exact hc)
    · rw [List.filter_cons_of_neg (by simpa using e)]
      exact filter_one n2 ((List.mem_cons.mp h).resolve_left e)
theorem Low.mem {many size : Nat} {n : Net} {f : Nat → Nat} (w : Low n f) (g : GoodNet many size n) {x : Nat} (hx : x < size) : f x ∈ headL size f := mem_headL.mpr ⟨Nat.lt_of_le_of_lt (w.le x) hx, w.idem g x⟩
theorem Low.one {many size : Nat} {n : Net} {f : Nat → Nat} (w : Low n f) (g : GoodNet many size n) {x : Nat} (hx : x < size) : (headL size f).filter (fun z => decide (x ∈ partL size f z)) = [f x] := by
  rw [← filter_one headL_nodup (w.mem g hx)]
  refine List.filter_congr fun z _ => ?_
  rw [Bool.eq_iff_iff, decide_eq_true_eq, mem_partL, beq_iff_eq]
  exact ⟨fun h => h.2, fun h => ⟨hx, h⟩⟩
def stp (n : Net) (k x : Nat) : Nat × Int := let p := (n.getD k []).getD x (0, 1); (p.1.toNat, p.2)
def ledN (n : Net) : List Nat → Nat × Int → Nat × Int
  | [], p => p
  | k :: w, p => ledN n w ((stp n k p.1).1, p.2 * (stp n k p.1).2)
section
variable {many size : Nat} {n : Net}
theorem stp_get {k x y : Nat} {r : Row} {s : Int} (hr : n[k]? = some r) (e : r[x]? = some ((y : Int), s)) : stp n k x = (y, s) := by
  have h1 : n.getD k [] = r := by rw [List.getD_eq_getElem?_getD, hr]; rfl
  have h2 : r.getD x (0, 1) = ((y : Int), s) := by rw [List.getD_eq_getElem?_getD, e]; rfl
  unfold stp
  rw [h1, h2]
  rfl
theorem stp_adj (h : GoodNet many size n) {k x : Nat} (hk : k < many) (hx : x < size) : adj n x (stp n k x).1 ∧ (stp n k x).1 < size ∧ ((stp n k x).2 = 1 ∨ (stp n k x).2 = -1) := by
  obtain ⟨r, hr, g⟩ := h.get hk
  obtain ⟨y, s, e, hy, hs, _⟩ := g.ok x hx
  rw [stp_get hr e]
  exact ⟨⟨r, List.mem_of_getElem? hr, s, e⟩, hy, hs⟩
theorem ledN_ok (h : GoodNet many size n) : ∀ {w : List Nat}, (∀ k ∈ w, k < many) → ∀ {p : Nat × Int}, p.1 < size → (ledN n w p).1 < size ∧ Reach n p.1 (ledN n w p).1
  | [], _, p, hp => ⟨hp, reach_refl⟩
  | k :: w, hw, p, hp => by
    obtain ⟨a, l, _⟩ := stp_adj h (hw k List.mem_cons_self) hp
    obtain ⟨h1, h2⟩ := ledN_ok h (w := w) (fun j hj => hw j (List.mem_cons_of_mem _ hj)) (p := ((stp n k p.1).1, p.2 * (stp n k p.1).2)) l
    exact ⟨h1, reach_trans (reach_one a) h2⟩
end
def sumZ (l : List Int) : Int := l.foldr (· + ·) 0
theorem sumZ_nil : sumZ [] = 0 := rfl
theorem sumZ_cons {a : Int} {l : List Int} : sumZ (a :: l) = a + sumZ l := rfl
theorem sumZ_append : ∀ {l m : List Int}, sumZ (l ++ m) = sumZ l + sumZ m
  | [], m => by rw [List.nil_append, sumZ_nil, Int.zero_add]
  | a :: l, m => by rw [List.cons_append, sumZ_cons, sumZ_cons, sumZ_append, Int.add_assoc]
def homeS (n : Net) (w : List Nat) (x : Nat) : Int := if (ledN n w (x, 1)).1 = x then (ledN n w (x, 1)).2 else 0
def retN (n : Net) (size : Nat) (w : List Nat) : Int := sumZ ((List.range size).map (homeS n w))
theorem sumZ_sum {l : List Int} : l.sum = sumZ l := rfl
theorem sumZ_filter {α : Type} {p : α → Bool} {g : α → Int} : ∀ {l : List α}, sumZ ((l.filter p).map g) = sumZ (l.map fun x => if p x = true then g x else 0)
  | [] => rfl
  | a :: l => by
    by_cases h : p a = true
    · rw [List.filter_cons_of_pos h, List.map_cons, List.map_cons, sumZ_cons, sumZ_cons, if_pos h, sumZ_filter]
    · rw [List.filter_cons_of_neg h, List.map_cons, sumZ_cons, if_neg h, Int.zero_add, sumZ_filter]
theorem sumZ_zero {α : Type} {g : α → Int} : ∀ {l : List α}, (∀ x ∈ l, g x = 0) → sumZ (l.map g) = 0
  | [], _ => rfl
  | a :: l, h => by rw [List.map_cons, sumZ_cons, h a List.mem_cons_self, sumZ_zero fun x hx => h x (List.mem_cons_of_mem _ hx)]; rfl
theorem sumZ_add {α : Type} {g h : α → Int} : ∀ {l : List α}, sumZ (l.map fun x => g x + h x) = sumZ (l.map g) + sumZ (l.map h)
  | [] => rfl
  | a :: l => by
    rw [List.map_cons, List.map_cons, List.map_cons, sumZ_cons, sumZ_cons, sumZ_cons, sumZ_add]
    omega
theorem sumZ_one {z : Nat} {v : Int} : ∀ {l : List Nat}, l.Nodup → z ∈ l → sumZ (l.map fun y => if z = y then v else 0) = v
  | [], _, h => by cases h
  | a :: l, nd, h => by
    obtain ⟨n1, n2⟩ := List.nodup_cons.mp nd
    rw [List.map_cons, sumZ_cons]
    by_cases e : z = a
    · subst e
      rw [if_pos rfl, sumZ_zero fun x hx => if_neg fun e => n1 (by rw [e]; exact hx), Int.add_zero]
    · rcases List.mem_cons.mp h with h | h
      · exact absurd h e
      · rw [if_neg e, Int.zero_add, sumZ_one n2 h]
theorem sum_parts {f : Nat → Nat} {g : Nat → Int} {Z : List Nat} (nd : Z.Nodup) : ∀ {l : List Nat}, (∀ x ∈ l, f x ∈ Z) → sumZ (Z.map fun z => sumZ ((l.filter fun x => f x == z).map g)) = sumZ (l.map g)
  | [], _ => sumZ_zero fun x _ => rfl
  | a :: l, h => by
    have e : ∀ z, sumZ (((a :: l).filter fun x => f x == z).map g) = (if f a = z then g a else 0) + sumZ ((l.filter fun x => f x == z).map g) := fun z => by
      by_cases w : f a = z
      · rw [List.filter_cons_of_pos (by simpa using w), List.map_cons, sumZ_cons, if_pos w]
      · rw [List.filter_cons_of_neg (by simpa using w), if_neg w, Int.zero_add]
    rw [show (fun z => sumZ (((a :: l).filter fun x => f x == z).map g)) = fun z => (if f a = z then g a else 0) + sumZ ((l.filter fun x => f x == z).map g) from funext e, sumZ_add, sumZ_one nd (h a List.mem_cons_self), sum_parts nd fun x hx => h x (List.mem_cons_of_mem _ hx), List.map_cons, sumZ_cons]
def partR (folk : List Nat) (r : Row) : Row := folk.map fun x => (((folk.idxOf (r.getD x (0, 1)).1.toNat : Nat) : Int), (r.getD x (0, 1)).2)
def partN (folk : List Nat) (n : Net) : Net := n.map (partR folk)
theorem partR_get {folk : List Nat} {r : Row} {i x y : Nat} {s : Int} (h : folk[i]? = some x) (e : r[x]? = some ((y : Int), s)) : (partR folk r)[i]? = some (((folk.idxOf y : Nat) : Int), s) := by
  unfold partR
  rw [List.getElem?_map, h]
  show some (((folk.idxOf (r.getD x (0, 1)).1.toNat : Nat) : Int), (r.getD x (0, 1)).2) = _
  rw [List.getD_eq_getElem?_getD, e]
  rfl
/-- a list of copies that no step leads out of -/
structure Folk (size : Nat) (n : Net) (folk : List Nat) : Prop where
  nd : folk.Nodup
  lt : ∀ x ∈ folk, x < size
  ne : folk ≠ []
  cl : ∀ x ∈ folk, ∀ y, adj n x y → y ∈ folk
theorem idx_get {folk : List Nat} {y : Nat} (h : y ∈ folk) : folk[folk.idxOf y]? = some y := by
  have := List.idxOf_lt_length_of_mem h
  rw [List.getElem?_eq_getElem this, List.getElem_idxOf]
theorem idx_of {folk : List Nat} {i x : Nat} (nd : folk.Nodup) (h : folk[i]? = some x) : folk.idxOf x = i := by
  have h1 := idx_get (List.mem_of_getElem? h)
  obtain ⟨l1, e1⟩ := List.getElem?_eq_some_iff.mp h
  obtain ⟨l2, e2⟩ := List.getElem?_eq_some_iff.mp h1
  rcases Nat.lt_trichotomy (folk.idxOf x) i with h | h | h
  · exact absurd (e2.trans e1.symm) (List.pairwise_iff_getElem.mp nd _ _ l2 l1 h)
  · exact h
  · exact absurd (e1.trans e2.symm) (List.pairwise_iff_getElem.mp nd _ _ l1 l2 h)
section
variable {many size : Nat} {n : Net} {folk : List Nat}
theorem Folk.row (h : Folk size n folk) {r : Row} (g : GoodRow size r) (hr : r ∈ n) : GoodRow folk.length (partR folk r) where
  len := by simp [partR]
  ok := fun i hi => by
    have hx := List.getElem?_eq_getElem hi
    generalize folk[i] = x at hx
    have xm := List.mem_of_getElem? hx
    obtain ⟨y, s, e1, hy, hs, e2⟩ := g.ok x (h.lt x xm)
    have ym := h.cl x xm y ⟨r, hr, s, e1⟩
    have := List.idxOf_lt_length_of_mem ym
    refine ⟨folk.idxOf y, s, partR_get hx e1, this, hs, ?_⟩
    rw [partR_get (idx_get ym) e2, idx_of h.nd hx]
theorem Folk.net (h : Folk size n folk) (g : GoodNet many size n) : GoodNet many folk.length (partN folk n) where
  len := by unfold partN; rw [List.length_map]; exact g.len
  m0 := g.m0
  m1 := g.m1
  s0 := List.length_pos_iff.mpr h.ne
  s1 := by
    have := nodup_sub_len (m := List.range size) h.nd fun x hx => List.mem_range.mpr (h.lt x hx)
    rw [List.length_range] at this
    exact Nat.le_trans this g.s1
  row := fun r hr => by
    obtain ⟨r', hr', rfl⟩ := List.mem_map.mp hr
    exact h.row (g.row r' hr') hr'
theorem Folk.stp (h : Folk size n folk) (g : GoodNet many size n) {k i x : Nat} (hk : k < many) (hi : folk[i]? = some x) : stp (partN folk n) k i = (folk.idxOf (stp n k x).1, (stp n k x).2) ∧ (stp n k x).1 ∈ folk := by
  obtain ⟨r, hr, gr⟩ := g.get hk
  have xm := List.mem_of_getElem? hi
  obtain ⟨y, s, e1, hy, hs, e2⟩ := gr.ok x (h.lt x xm)
  rw [stp_get hr e1]
  refine ⟨stp_get (r := partR folk r) (by unfold partN; rw [List.getElem?_map, hr]; rfl) (partR_get hi e1), h.cl x xm y ⟨r, List.mem_of_getElem? hr, s, e1⟩⟩
theorem Folk.led (h : Folk size n folk) (g : GoodNet many size n) : ∀ {w : List Nat}, (∀ k ∈ w, k < many) → ∀ {i x : Nat} {s : Int}, folk[i]? = some x → ledN (partN folk n) w (i, s) = (folk.idxOf (ledN n w (x, s)).1, (ledN n w (x, s)).2) ∧ (ledN n w (x, s)).1 ∈ folk
  | [], _, i, x, s, hi => by
    refine ⟨?_, List.mem_of_getElem? hi⟩
    show (i, s) = (folk.idxOf x, s)
    rw [idx_of h.nd hi]
  | k :: w, hw, i, x, s, hi => by
    obtain ⟨e, m⟩ := h.stp g (hw k List.mem_cons_self) hi
    unfold ledN
    rw [show ((i, s) : Nat × Int).1 = i from rfl, e]
    exact h.led g (w := w) (fun j hj => hw j (List.mem_cons_of_mem _ hj)) (idx_get m)
theorem Folk.ret (h : Folk size n folk) (g : GoodNet many size n) {w : List Nat} (hw : ∀ k ∈ w, k < many) : retN (partN folk n) folk.length w = sumZ (folk.map (homeS n w)) := by
  unfold retN
  congr 1
  refine List.ext_getElem? fun i => ?_
  rw [List.getElem?_map, List.getElem?_map]
  by_cases hi : i < folk.length
  · have hx := List.getElem?_eq_getElem hi
    rw [List.getElem?_range hi]
    rw [hx]
    generalize folk[i] = x at hx
    show some (homeS (partN folk n) w i) = some (homeS n w x)
    unfold homeS
    obtain ⟨e, m⟩ := h.led g hw (s := 1) hx
    rw [e]
    by_cases w2 : (ledN n w (x, 1)).1 = x
    · rw [if_pos w2, if_pos (by rw [w2]; exact idx_of h.nd hx)]
    · rw [if_neg w2, if_neg fun e2 => w2 (by
        have := idx_get m
        rw [show folk.idxOf (ledN n w (x, 1)).1 = i from e2, hx] at this
        exact (Option.some.inj this).symm)]
  · rw [List.getElem?_eq_none (by simpa using hi), List.getElem?_eq_none (by simpa using hi)]
    rfl
variable {f : Nat → Nat}
theorem Low.isFolk (w : Low n f) (g : GoodNet many size n) {z : Nat} (hz : z ∈ headL size f) : Folk size n (partL size f z) where
  nd := partL_nodup
  lt := fun x hx => (mem_partL.mp hx).1
  ne := List.ne_nil_of_mem (mem_partL.mpr (mem_headL.mp hz))
  cl := fun x hx y a => mem_partL.mpr ⟨(adj_lt g a).2, by rw [← w.adj g a]; exact (mem_partL.mp hx).2⟩
theorem Low.sum (w : Low n f) (g : GoodNet many size n) {way : List Nat} (hw : ∀ k ∈ way, k < many) : sumZ ((headL size f).map fun z => retN (partN (partL size f z) n) (partL size f z).length way) = retN n size way := by
  rw [List.map_congr_left (g := fun z => sumZ ((partL size f z).map (homeS n way))) fun z hz => (w.isFolk g hz).ret g hw]
  refine sum_parts (f := f) headL_nodup fun x hx => mem_headL.mpr ⟨Nat.lt_of_le_of_lt (w.le x) (List.mem_range.mp hx), w.idem g x⟩
end
end L3
namespace L3
open PySem PySem.Spec PyProof.Rows L2
variable {δ : En} {Q : R → En → Prop} {C : DTT}
end L3
namespace L3
open PySem PySem.Spec PyProof.Rows L2
section
variable {K : PySem.W.Frag}
/-- s is d or stands within d -/
inductive Sb : D → D → Prop
  | refl (d : D) : Sb d d
  | lst {s x : D} {xs : List D} : x ∈ xs → Sb s x → Sb s (.lst xs)
  | tup {s x : D} {xs : List D} : x ∈ xs → Sb s x → Sb s (.tup xs)
  | obj {s x : D} {cn : Str} {ns : List Str} {xs : List D} : x ∈ xs → Sb s x → Sb s (.obj cn ns xs)
  | frz {s x : D} {xs : List D} : x ∈ xs → Sb s x → Sb s (.frz xs)
  | dct {s x : D} {ks : List Key} {xs : List D} : x ∈ xs → Sb s x → Sb s (.dct ks xs)
  | exn {s x : D} {a dd : Addr} {cn : Str} {ns : List Str} {xs : List D} : x ∈ xs → Sb s x → Sb s (.exn a dd cn ns xs)
/-- the object at a holds d -/
inductive Hs (K : PySem.W.Frag) (G : Hp) (a : Addr) : D → Prop
  | lst {vs : List V} {ds : List D} : G a = some (.lst vs) → AtL K G vs ds → Hs K G a (.lst ds)
  | tup {vs : List V} {ds : List D} : Rd G a (.tup vs) → AtL K G vs ds → Hs K G a (.tup ds)
  | obj {dx : Addr} {cn : Str} {ns : List Str} {vs : List V} {ds : List D} : G a = some (.ins (He.ga K cn) dx (ns.zip vs)) → ns.length = vs.length → AtL K G vs ds → Hs K G a (.obj cn ns ds)
  | frz {vs : List V} {ds : List D} : Rd G a (.lst vs) → AtL K G vs ds → Hs K G a (.frz ds)
  | dct {ks : List Key} {vs : List V} {ds : List D} : G a = some (.dK (ks.zip vs)) → ks.length = vs.length → AtL K G vs ds → Hs K G a (.dct ks ds)
  | exn {x : Addr} {cn : Str} {ns : List Str} {vs : List V} {ds : List D} : G a = some (.xd (ns.zip vs)) → ns.length = vs.length → AtL K G vs ds → Hs K G a (.exn x a cn ns ds)
theorem Hs.mono {G G' : Hp} (s : Sub G G') {a : Addr} : ∀ {d : D}, Hs K G a d → Hs K G' a d
  | _, .lst h t => .lst (s _ _ h) (t.mono s)
  | _, .tup h t => .tup (s.rd h) (t.mono s)
  | _, .obj h l t => .obj (s _ _ h) l (t.mono s)
  | _, .frz h t => .frz (s.rd h) (t.mono s)
  | _, .dct h l t => .dct (s _ _ h) l (t.mono s)
  | _, .exn h l t => .exn (s _ _ h) l (t.mono s)
open Classical in
/-- the part of G that holds values of P -/
noncomputable def cut (K : PySem.W.Frag) (G : Hp) (P : D → Prop) : Hp := fun a => if ∃ s, P s ∧ Hs K G a s then G a else none
end
end L3
namespace L3
open PySem PySem.Spec PyProof.Rows L2
section
variable {K : PySem.W.Frag}
/-- slot m holds d in a part N of the heap that is new since HE, HB but for values of P -/
def Scr (K : PySem.W.Frag) (HE HB : Hp) (P : D → Prop) (σ : L2.St) (H G : Hp) (δ : En) (m : Nat) (d : D) : Prop :=
  ∃ (v : V) (N : Hp), σ[m]? = some (some v) ∧ At K N v d ∧ Sub N H ∧ (∀ l, v = .ref l → N l ≠ none ∧ HE l = none ∧ HB l = none ∧ G l = none) ∧ (∀ a, N a ≠ none → ¬ Ad σ δ a) ∧ ∀ a, N a ≠ none → (HE a = none ∧ HB a = none ∧ G a = none) ∨ ∃ s, P s ∧ Hs K N a s
theorem Scr.nxt {F : FE} {HE HB : Hp} {P : D → Prop} {σ σ' : L2.St} {H G H' G' : Hp} {δ δ' : En} {m : Nat} {d : D} {bs : List Nat} (g : Scr K HE HB P σ H G δ m d) (n : Nxt K F bs σ H G δ σ' H' G' δ') (hm : m ∉ bs) : Scr K HE HB P σ' H' G' δ' m d := by
  obtain ⟨v, N, e, hv, sN, top, na, why⟩ := g
  have hH : ∀ a, N a ≠ none → H a ≠ none := fun a h => by
    cases q : N a with
    | none => exact absurd q h
    | some o => rw [sN a o q]; exact fun z => nomatch z
  refine ⟨v, N, (n.st m hm).trans e, hv, fun a o q => n.f.h a o (na a (by rw [q]; exact fun z => nomatch z)) (sN a o q), fun l e => ?_, fun a h z => (n.ow a z).elim (na a h) (hH a h), fun a h => ?_⟩
  · obtain ⟨h0, h1, h2, h3⟩ := top l e
    exact ⟨h0, h1, h2, (n.f.n l (na l h0) (hH l h0)).trans h3⟩
  rcases why a h with ⟨h1, h2, h3⟩ | h4
  · exact .inl ⟨h1, h2, (n.f.n a (na a h) (hH a h)).trans h3⟩
  · exact .inr h4
/-- nothing of our own in sight -/
def hideE : E → E
  | .ow _ => .no
  | e => e
def hide (δ : En) : En := δ.map hideE
theorem hide_len {δ : En} : (hide δ).length = δ.length := by simp [hide]
theorem hide_va {δ : En} {i : Nat} {d : D} (h : (hide δ)[i]? = some (E.va d)) : δ[i]? = some (E.va d) := by
  unfold hide at h
  rw [List.getElem?_map] at h
  cases q : δ[i]? with
  | none => rw [q] at h; cases h
  | some e =>
    rw [q] at h
    cases e with
    | ow c => cases h
    | no => cases h
    | va d' => exact h
theorem hide_ow {δ : En} {i : Nat} {c : Cn} (h : (hide δ)[i]? = some (E.ow c)) : False := by
  unfold hide at h
  rw [List.getElem?_map] at h
  cases q : δ[i]? with
  | none => rw [q] at h; cases h
  | some e =>
    rw [q] at h
    cases e with
    | ow c => cases h
    | no => cases h
    | va d' => cases h
/-- where nothing is owned, an expression changes nothing -/
theorem Rel.quiet {F : FE} {σ : L2.St} {H G G0 H1 G1 : Hp} {δ δh : En} (s : S3 K F σ H G δ) (f : Fr (Ad σ δh) H G0 H1 G1) (no : ∀ (i : Nat) (c : Cn), δh[i]? ≠ some (E.ow c)) : Nxt K F [] σ H G δ σ H1 G δ := by
  have k : ∀ a o, H a = some o → H1 a = some o := fun a o e => f.h a o (fun ⟨i, c, q, _⟩ => no i c q) e
  have f1 : Fr (Ad σ δ) H G H1 G := ⟨fun a o _ e => k a o e, fun _ _ h => h, fun _ _ _ => rfl, f.d⟩
  refine .step s ⟨s.L.len, fun a o e => k a o (s.L.sub a o e), s.L.va, fun i c e => ?_, s.L.dj⟩ f1 .refl
  obtain ⟨l, h1, h2, h3⟩ := s.L.ow i c e
  exact ⟨l, h1, h2, h3.mono (fun o q => k l o q) .refl⟩
/-- our slots and the scratch slot, for a look -/
theorem Scr.look {HE HB : Hp} {P : D → Prop} {σ : L2.St} {H G : Hp} {δ : En} {m : Nat} {d : D} (g : Scr K HE HB P σ H G δ m d) (L : Rel K σ H G δ) : ∃ GU, Rel K σ H GU ((hide δ).set m (.va d)) := by
  obtain ⟨v, N, e, hv, sN, top, na, why⟩ := g
  let GU : Hp := fun a => match G a with
    | some o => some o
    | none => N a
  have s1 : Sub G GU := fun a o h => by
    show (match G a with | some o => some o | none => N a) = some o
    rw [h]
  have s2 : Sub N GU := fun a o h => by
    show (match G a with | some o => some o | none => N a) = some o
    cases q : G a with
    | none => exact h
    | some o' =>
      have := L.sub a o' q
      rw [sN a o h] at this
      exact this.symm
  refine ⟨GU, by rw [List.length_set, hide_len]; exact L.len, fun a o h => ?_, fun i d' q => ?_, fun i c q => ?_, fun i j l c c' q => ?_⟩
  · have h : (match G a with | some o => some o | none => N a) = some o := h
    cases q : G a with
    | none => rw [q] at h; exact sN a o h
    | some o' =>
      rw [q] at h
      cases h
      exact L.sub a o q
  · rcases set_get q with ⟨rfl, z, _⟩ | ⟨ne, q2⟩
    · cases z
      exact ⟨v, e, hv.mono s2⟩
    · obtain ⟨u, h1, h2⟩ := L.va i d' (hide_va q2)
      exact ⟨u, h1, h2.mono s1⟩
  · rcases set_get q with ⟨rfl, z, _⟩ | ⟨ne, q2⟩
    · cases z
    · exact (hide_ow q2).elim
  · rcases set_get q with ⟨rfl, z, _⟩ | ⟨ne, q2⟩
    · cases z
    · exact (hide_ow q2).elim
/-- only the slots ks in sight -/
def keep (δ : En) (ks : List Nat) : En := (List.range δ.length).map fun i => if i ∈ ks then (match δ[i]? with | some (.va d) => .va d | _ => .no) else .no
/-- what the slots ks hold -/
def Holds (δ : En) (ks : List Nat) (s : D) : Prop := ∃ i d, i ∈ ks ∧ δ[i]? = some (E.va d) ∧ Sb s d
theorem Sb.trans {r s d : D} (a : Sb r s) (b : Sb s d) : Sb r d := by
  induction b with
  | refl => exact a
  | lst h _ ih => exact .lst h ih
  | tup h _ ih => exact .tup h ih
  | obj h _ ih => exact .obj h ih
  | frz h _ ih => exact .frz h ih
  | dct h _ ih => exact .dct h ih
  | exn h _ ih => exact .exn h ih
end
end L3
namespace L3
open PySem PySem.Spec PyProof.Rows L2
section
variable {K : PySem.W.Frag}
/-- the two are never one object -/
def Clash (s d : D) : Prop := ∀ (K : PySem.W.Frag) (N : Hp) (a : Addr), Hs K N a s → At K N (.ref a) d → False
/-- an object that nobody knows changes -/
theorem Nxt.spoil {F : FE} {as : List Nat} {σ0 σ : L2.St} {H0 G0 H G : Hp} {δ0 δ : En} {a : Addr} {o : HO} (n : Nxt K F as σ0 H0 G0 δ0 σ H G δ) (na : ¬ Ad σ δ a) (g : G a = none) (he : F.HE a = none) (hb : H0 a = none) : Nxt K F as σ0 H0 G0 δ0 σ (L2.upd H a o) G δ := by
  have keep : ∀ b u, b ≠ a → H b = some u → L2.upd H a o b = some u := fun b u ne e => by rw [upd_ne ne]; exact e
  have L : Rel K σ (L2.upd H a o) G δ := ⟨n.s.L.len, fun b u e => keep b u (fun z => by rw [z, g] at e; cases e) (n.s.L.sub b u e), n.s.L.va, fun i c e => by
    obtain ⟨l, h1, h2, h3⟩ := n.s.L.ow i c e
    have ne : l ≠ a := fun z => na (by rw [← z]; exact ⟨i, c, e, h1⟩)
    exact ⟨l, h1, h2, h3.mono (fun u q => keep l u ne q) .refl⟩, n.s.L.dj⟩
  have fr : ∀ {A : Addr → Prop} {Hb Gb : Hp}, Fr A Hb Gb H G → Hb a = none → Fr A Hb Gb (L2.upd H a o) G := fun f hn => ⟨fun b u nb e => keep b u (fun z => by rw [z, hn] at e; cases e) (f.h b u nb e), f.g, f.n, fun b e => by
    have ne : b ≠ a := fun z => e (by rw [z]; exact hn)
    rw [upd_ne ne]
    exact f.d b e⟩
  exact ⟨⟨L, fr n.s.f he, n.s.own, n.s.par⟩, fr n.f hb, n.ow, n.st, n.ln⟩
end
section
/-- no value is both -/
def Apart (x y : D) : Prop := ∀ (K : PySem.W.Frag) (N : Hp) (v : V), At K N v x → At K N v y → False
end
end L3
namespace L3
open PySem PySem.Spec PyProof.Rows L2
section
variable {K : PySem.W.Frag}
/-- the exception of the class cls, its dict at d, is cn's with the fields ns -/
def XAt (K : PySem.W.Frag) (G : Hp) (cls : Value) (d : Option Addr) (cn : Str) (ns : List Str) (ds : List D) : Prop := cls = .ref (He.ga K cn) ∧ ∃ dd vs, d = some dd ∧ G dd = some (.xd (ns.zip vs)) ∧ ns.length = vs.length ∧ AtL K G vs ds
theorem XAt.mono {G G' : Hp} (s : Sub G G') {cls : Value} {d : Option Addr} {cn : Str} {ns : List Str} {ds : List D} (h : XAt K G cls d cn ns ds) : XAt K G' cls d cn ns ds := by
  obtain ⟨e, dd, vs, e2, h1, h2, h3⟩ := h
  exact ⟨e, dd, vs, e2, s _ _ h1, h2, h3.mono s⟩
abbrev XQ := Str → List Str → List D → En → Prop
def xF : XQ := fun _ _ _ _ => False
/-- a promise of two ends -/
abbrev DSpX := En → (R → En → Prop) → XQ → Prop
/-- the promise as one that lets nothing out -/
def DSpX.in (sp : DSpX) : DSp := fun δ Q3 => sp δ Q3 xF
structure DEX extends DE where
  ex : XQ
abbrev DSX := DEX → En → Prop
def GoodE (K : PySem.W.Frag) (F : FE) (as : List Nat) (W : WX) (σ : L2.St) (H G : Hp) (δ : En) (E3 : XQ) : Prop :=
  ∀ σ' H' G' δ' cls d cn ns ds, Nxt K F as σ H G δ σ' H' G' δ' → XAt K G' cls d cn ns ds → E3 cn ns ds δ' → W cls d σ' H'
theorem GoodE.from {F : FE} {as bs cs : List Nat} {W : WX} {σ σ1 : L2.St} {H G H1 G1 : Hp} {δ δ1 : En} {E3 : XQ} (g : GoodE K F cs W σ H G δ E3) (n : Nxt K F as σ H G δ σ1 H1 G1 δ1) (h : ∀ i, i ∈ as ++ bs → i ∈ cs) : GoodE K F bs W σ1 H1 G1 δ1 E3 :=
  fun _ _ _ _ _ _ _ _ _ m x q => g _ _ _ _ _ _ _ _ _ ((n.trans m).mono h) x q
/-- t is sound for T: a statement that may raise, W what is wanted then -/
def SndX (K : PySem.W.Frag) (ps as : List Nat) (t : WX → TS) (T : DSX) : Prop := ∀ (F : FE), (∀ i l, F.P i l → i ∈ ps) → (∀ i ∈ as, ∀ l, ¬ F.P i l) → ∀ (W : WX) (σ : L2.St) (H G : Hp) (δ : En) (D3 : DEX) (D : Ends), S3 K F σ H G δ → T D3 δ →
  Good K F as σ H G δ D3.toDE D → GoodE K F as W σ H G δ D3.ex → t W D σ H
def xp (T : DS) : DSX := fun D δ => T D.toDE δ
abbrev DTX := En → (R → En → Prop) → XQ → Prop
end
end L3
namespace L3
open PySem PySem.Spec PyProof.Rows L2
section
variable {K : PySem.W.Frag}
/-- what the __init__ of an error class does -/
def spE (K : PySem.W.Frag) (cn : Str) (fs : List Str) : Sp := fun vs H Q _ => ∃ (a : Addr) (ws : List V), vs = .ref a :: ws ∧ ws.length = fs.length ∧ H a = some (exo a (He.ga K cn) none) ∧
  ∀ d, H d = none → d ≠ a → Q .non (L2.upd (L2.upd H d (exd d (fs.zip ws).reverse)) a (exo a (He.ga K cn) (some d)))
end
end L3
namespace L3
open PySem PySem.Spec PyProof.Rows L2
/-- an error class with the fields fs -/
structure EP (P : Program) (w : World) (K : PySem.W.Frag) (mg : Str → Option Value) (base : Heap) (cn : Str) (fs : List Str) : Prop where
  ex : ∃ fd ps, FnOk P w K mg base CX0 1 (He.ma K (He.ga K cn) "__init__") fd ps (spE K cn fs) ∧ Binds K fd ps []
  T : OexC K (He.ga K cn)
  iC : PySem.W.findIn K (.ref (He.ga K cn)) "__init__" = some (some (.ref (He.ma K (He.ga K cn) "__init__")))
  tI : PySem.W.typeIn K (.ref (He.ma K (He.ga K cn) "__init__")) = some (.type "function")
  at_ : mg cn = some (.ref (He.ga K cn))
end L3
namespace L3
open PySem PySem.Spec PyProof.Rows L2
/-- an exception is handled, its context is None; it stays as it is -/
def HotX (X : Cx) : Prop := ∃ (x1 : Addr) (o1 : Obj) (vs1 : Array Value), X.A.handled = some (.ref x1) ∧ o1.data = .fields vs1 ∧ vs1[2]? = some .none ∧
  ∀ (pins : List (Addr × Obj)) (σ : L2.St) (H : Hp) (s : Shared), Inv X pins σ H s → s.heap.get? x1 = some o1 ∧ H x1 = none ∧ x1 ∉ frs X.stack ∧ ∀ b, FpOk X pins H b → x1 ≠ b
section
variable {X : Cx} {pins : List (Addr × Obj)} {σ : L2.St} {H : Hp} {s : Shared}
theorem HotX.at (c : HotX X) (I : Inv X pins σ H s) : ∃ x1, _root_.HotX.HotAt X.A x1 s.heap ∧ (∀ b, FpOk X pins H b → x1 ≠ b) ∧ ∀ b, s.heap.objs.size ≤ b → x1 ≠ b := by
  obtain ⟨x1, o1, vs1, hh, d1, c1, h⟩ := c
  obtain ⟨h1, h2, h3, h4⟩ := h pins σ H s I
  exact ⟨x1, ⟨hh, o1, vs1, h1, d1, c1⟩, h4, fun b hb => Nat.ne_of_lt (Nat.lt_of_lt_of_le (Heap.lt_size h1) hb)⟩
/-- in a comprehension's block -/
theorem HotX.blk (c : HotX X) (I : Inv X pins σ H s) {scope : Scope} {ce : Env} {fp : List Addr} (hf : ∀ b ∈ fp, FpOk X pins H b) : HotX (X.blk s H scope ce fp) := by
  obtain ⟨x1, o1, vs1, hh, d1, c1, h⟩ := c
  obtain ⟨h1, h2, h3, h4⟩ := h pins σ H s I
  have nf : x1 ∉ fp := fun hm => h4 x1 (hf x1 hm) rfl
  refine ⟨x1, o1, vs1, hh, d1, c1, fun pins' σ' H' s' I' => ⟨I'.base.keep x1 o1 h1 h2 h3 nf, I'.base.free x1 o1 h1 h2 nf, h3, fun b fb z => ?_⟩⟩
  rcases fb.2.2.2.1 with q | q
  · exact nf (by rw [z]; exact q)
  · exact absurd (Nat.lt_of_lt_of_le (Heap.lt_size h1) q) (by rw [z]; exact Nat.lt_irrefl _)
end
end L3
namespace L3
open PySem PySem.Spec PyProof.Rows L2
section
variable {δ : En} {n : En → Prop} {rt : R → En → Prop} {bk ct : En → Prop} {ex : XQ} {S S2 : DSX} {C : DTT} {T : DT} {TA : DTA} {Q : R → En → Prop} {E3 : XQ}
theorem x_p {S : DS} (k : S ⟨n, rt, bk, ct⟩ δ) : xp S ⟨⟨n, rt, bk, ct⟩, ex⟩ δ := k
end
end L3
namespace L3
open PySem PySem.Spec PyProof.Rows L2
theorem SndX.mono {K : PySem.W.Frag} {ps as bs : List Nat} {t : WX → TS} {T : DSX} (a : SndX K ps as t T) (h : ∀ i, i ∈ as → i ∈ bs) : SndX K ps bs t T := fun F hps hp W σ H G δ D3 D s q g ge =>
  a F hps (fun i hi => hp i (h i hi)) W σ H G δ D3 D s q ⟨fun _ _ _ _ n => g.nx _ _ _ _ (n.mono h), fun _ _ _ _ n => g.bk _ _ _ _ (n.mono h), fun _ _ _ _ n => g.ct _ _ _ _ (n.mono h), fun _ _ _ _ _ _ n => g.rt _ _ _ _ _ _ (n.mono h)⟩ fun _ _ _ _ _ _ _ _ _ n x q => ge _ _ _ _ _ _ _ _ _ (n.mono h) x q
theorem SaysY.at {fa : List He.Fa} {fn : List He.DefD} {ex : PySem.W.Frag → Bool} {fc : List DefC} {K : PySem.W.Frag} (c : SaysY fa fn ex fc K) (i : Nat) {d : DefC} (e : fc[i]? = some d) : fnC K d.cn = d.val := by
  have h := congrArg (fun z : List FnC => z[i]?) c.c
  simp only [List.getElem?_map, e, Option.map_some, Option.some.injEq] at h
  exact h
end L3
namespace L3
open PySem PySem.Spec PyProof.Rows L2
section
variable {K : PySem.W.Frag}
def showE : E → E
  | .ow (.l xs) => .va (.lst xs)
  | .ow _ => .no
  | e => e
def shown (δ : En) : En := δ.map showE
theorem shown_va {δ : En} {i : Nat} {d : D} (h : (shown δ)[i]? = some (E.va d)) : δ[i]? = some (E.va d) ∨ ∃ xs, δ[i]? = some (E.ow (.l xs)) ∧ d = .lst xs := by
  unfold shown at h
  rw [List.getElem?_map] at h
  cases q : δ[i]? with
  | none => rw [q] at h; cases h
  | some e =>
    rw [q] at h
    cases e with
    | ow c =>
      cases c with
      | l xs =>
        have h : some (E.va (.lst xs)) = some (E.va d) := h
        cases h
        exact .inr ⟨xs, rfl, rfl⟩
      | d kvs => cases h
      | o cn fs => cases h
    | no => cases h
    | va d' => exact .inl h
theorem shown_ow {δ : En} {i : Nat} {c : Cn} (h : (shown δ)[i]? = some (E.ow c)) : False := by
  unfold shown at h
  rw [List.getElem?_map] at h
  cases q : δ[i]? with
  | none => rw [q] at h; cases h
  | some e =>
    rw [q] at h
    cases e with
    | ow c => cases c <;> cases h
    | no => cases h
    | va d' => cases h
theorem lookO_no {δ : En} {m : Nat} {d : D} (i : Nat) (c : Cn) : ((shown δ).set m (.va d))[i]? ≠ some (E.ow c) := fun q => by
  rcases set_get q with ⟨rfl, z, _⟩ | ⟨ne, q2⟩
  · cases z
  · exact shown_ow q2
theorem ixN_zero {n : Nat} (h : 0 < n) : ixN n 0 = some 0 := by
  unfold ixN
  simp
  omega
def Junk (HE HB : Hp) (σ : L2.St) (H G : Hp) (δ : En) (S : List Nat) (r : Nat) : Prop := ∀ s ∈ S, ∃ p ws, σ[s]? = some (some (.ref p)) ∧ ¬ Ad σ δ p ∧ G p = none ∧ HE p = none ∧ HB p = none ∧ H p = some (.lst ws) ∧ 0 < ws.length ∧ ws.length + r < sizeLine
theorem Junk.keep {HE HB : Hp} {σ : L2.St} {H H1 G : Hp} {δ : En} {S : List Nat} {r : Nat} (g : Junk HE HB σ H G δ S r) (k : ∀ b o, H b = some o → H1 b = some o) : Junk HE HB σ H1 G δ S r := fun s hs => by
  obtain ⟨p, ws, h1, h2, h3, h4, h5, h6, h7, h8⟩ := g s hs
  exact ⟨p, ws, h1, h2, h3, h4, h5, k _ _ h6, h7, h8⟩
theorem Junk.put {HE HB : Hp} {σ : L2.St} {H G : Hp} {δ : En} {S : List Nat} {r : Nat} {p : Addr} {ws : List V} (g : Junk HE HB σ H G δ S (r + 1)) (h0 : 0 < ws.length) (h1 : ws.length + r < sizeLine) : Junk HE HB σ (L2.upd H p (.lst ws)) G δ S r := fun s hs => by
  obtain ⟨q, vs, e1, e2, e3, e4, e5, e6, e7, e8⟩ := g s hs
  by_cases z : q = p
  · subst z
    exact ⟨q, ws, e1, e2, e3, e4, e5, upd_same, h0, h1⟩
  · exact ⟨q, vs, e1, e2, e3, e4, e5, by rw [upd_ne z]; exact e6, e7, by omega⟩
theorem AtL.at {G : Hp} : ∀ {vs : List V} {ds : List D} {k : Nat} {d : D}, AtL K G vs ds → ds[k]? = some d → ∃ v, vs[k]? = some v ∧ At K G v d
  | _, _, _, _, .nil, h => by simp at h
  | _, _, 0, _, .cons a t, h => by
    cases h
    exact ⟨_, rfl, a⟩
  | _, _, k + 1, _, .cons a t, h => by
    obtain ⟨v, h1, h2⟩ := AtL.at t (show _ = _ from h)
    exact ⟨v, h1, h2⟩
theorem Grid.put {F : FE} {as0 : List Nat} {σ0 σ : L2.St} {H0 G0 H G : Hp} {δ0 δ : En} {m : Nat} {M : Addr} {al : List Addr} {rows : List (List D)} {k j : Nat} {a : Addr} {row : List D} {vs : List V} {v : V} {d : D} (n : Nxt K F as0 σ0 H0 G0 δ0 σ H G δ) (g : Grid K F.HE H0 σ H G δ m M al (rows.map some)) (ea : al[k]? = some a) (er : rows[k]? = some row)
    (ha : H a = some (.lst vs)) (ta : AtL K G vs row) (hv : At K G v d) : Nxt K F as0 σ0 H0 G0 δ0 σ (L2.upd H a (.lst (vs.set j v))) G δ ∧ Grid K F.HE H0 σ (L2.upd H a (.lst (vs.set j v))) G δ m M al ((rows.set k (row.set j d)).map some) := by
  obtain ⟨na, ga, _⟩ := g.row k a row ea (by rw [List.getElem?_map, er]; rfl)
  obtain ⟨he, hb⟩ := g.fr a (List.mem_cons_of_mem _ (List.mem_of_getElem? ea))
  have nd := List.nodup_cons.mp g.nd
  have neM : M ≠ a := fun z => nd.1 (by rw [z]; exact List.mem_of_getElem? ea)
  refine ⟨n.spoil na ga he hb, ⟨g.sl, by rw [upd_ne neM]; exact g.hM, g.gM, g.fr, g.nd, g.ad, by rw [g.len, List.length_map, List.length_map, List.length_set], fun i a' r' e1 e2 => ?_⟩⟩
  rw [List.getElem?_map] at e2
  by_cases z : k = i
  · subst z
    rw [ea] at e1
    cases e1
    rw [List.getElem?_set_self (List.getElem?_eq_some_iff.mp er).1] at e2
    cases e2
    exact ⟨na, ga, _, upd_same, ta.set hv j⟩
  · rw [List.getElem?_set_ne z] at e2
    obtain ⟨h1, h2, vs', h3, h4⟩ := g.row i a' r' e1 (by rw [List.getElem?_map]; exact e2)
    have ne : a' ≠ a := fun q => z (nodup_inj nd.2 ea (by rw [← q]; exact e1))
    exact ⟨h1, h2, vs', by rw [upd_ne ne]; exact h3, h4⟩
def yput (Tv Ti Tj : DT) : YS := fun Z δ rows => Tv δ fun r δ1 => ∃ d, r.still δ1 = some d ∧ Ti δ1 fun ri δ2 => ∃ i i' row, ri = .va (.int i) ∧ ixN rows.length i = some i' ∧ rows[i']? = some row ∧ Tj δ2 fun rj δ3 => ∃ j j', rj = .va (.int j) ∧ ixN row.length j = some j' ∧ Z.nx δ3 (rows.set i' (row.set j' d))
theorem sndy_put {ps : List Nat} {m : Nat} {tv ti tj : TE} {Tv Ti Tj : DT} (av : Snd K tv Tv) (ai : Snd K ti Ti) (aj : Snd K tj Tj) : SndY K ps m [] (tAsg tv (gSub (tOp (rIx K) (tVar m) ti) tj rSetL)) (yput Tv Ti Tj) := fun F hps hp as0 σ0 H0 G0 δ0 ha σ H G δ rows D3 D n gr h gd => by
  obtain ⟨M, al, g⟩ := gr
  have lr : al.length = rows.length := by rw [g.len, List.length_map]
  refine av σ H G δ _ _ n.s.L h fun r δ1 v H1 G1 L1 f1 le1 rr q => ?_
  obtain ⟨d, e, q⟩ := q
  obtain ⟨G2, Lb, f2, s2, h2, _⟩ := settle n.s.L L1 f1 le1 rr e
  have x1 : Nxt K F [] σ H G δ σ H1 G2 δ1 := .step n.s Lb f2 le1
  have n1 := (n.trans x1).mono (bs := as0) fun i hi => (List.mem_append.mp hi).elim id fun z => nomatch z
  have g1 := g.nxt x1 (by simp)
  refine ⟨.ref M, g1.sl, ?_⟩
  refine ai σ H1 G2 δ1 _ _ Lb q fun ri δ2 vi H2 G3 L3 f3 le3 rri q => ?_
  obtain ⟨i, i', row, rfl, ei', er, q⟩ := q
  have x2 : Nxt K F [] σ H1 G2 δ1 σ H2 G3 δ2 := .step n1.s L3 f3 le3
  have n2 := (n1.trans x2).mono (bs := as0) fun i hi => (List.mem_append.mp hi).elim id fun z => nomatch z
  have g2 := g1.nxt x2 (by simp)
  have ei := rr_int rri
  subst ei
  have hi := (List.getElem?_eq_some_iff.mp er).1
  obtain ⟨a, ea⟩ : ∃ a, al[i']? = some a := ⟨_, List.getElem?_eq_getElem (by omega)⟩
  have eat : L2.atI (al.map V.ref) i = some (.ref a) := by
    unfold L2.atI
    rw [List.length_map, lr, ei']
    show (al.map V.ref)[i']? = _
    rw [List.getElem?_map, ea]
    rfl
  refine .inl ⟨M, al.map V.ref, i, .ref a, rfl, rfl, SqL.of g2.hM, eat, ?_⟩
  refine aj σ H2 G3 δ2 _ _ L3 q fun rj δ3 vj H3 G4 L4 f4 le4 rrj q => ?_
  obtain ⟨j, j', rfl, ej', q⟩ := q
  have x3 : Nxt K F [] σ H2 G3 δ2 σ H3 G4 δ3 := .step n2.s L4 f4 le4
  have n3 := (n2.trans x3).mono (bs := as0) fun i hi => (List.mem_append.mp hi).elim id fun z => nomatch z
  have g3 := g2.nxt x3 (by simp)
  have ej := rr_int rrj
  subst ej
  obtain ⟨na, ga, vs, h3, t3⟩ := g3.row i' a row ea (by rw [List.getElem?_map, er]; rfl)
  refine ⟨a, vs, j, j', rfl, rfl, h3, by rw [t3.length]; exact ej', ?_⟩
  obtain ⟨n4, g4⟩ := Grid.put (j := j') n3 g3 ea er h3 t3 (h2.mono (x2.f.sub.trans x3.f.sub))
  exact gd.nx _ _ _ _ _ ⟨n4, ⟨M, al, g4⟩, x1.f.sub.trans (x2.f.sub.trans x3.f.sub), fun _ _ => rfl⟩ q
end
section
variable {Q : R → En → Prop} {P : D → Prop} {δ : En} {d : D} {Z : DE} {nx : En → Prop} {rt : R → En → Prop} {bk ct : En → Prop} {ex : XQ}
theorem y_put {yn : En → List (List D) → Prop} {ybk yct : En → List (List D) → Prop} {rows : List (List D)} {Tv Ti Tj : DT} (k : Tv δ fun r δ1 => ∃ d, r.still δ1 = some d ∧ Ti δ1 fun ri δ2 => ∃ i i' row, ri = .va (.int i) ∧ ixN rows.length i = some i' ∧ rows[i']? = some row ∧ Tj δ2 fun rj δ3 => ∃ j j', rj = .va (.int j) ∧ ixN row.length j = some j' ∧ yn δ3 (rows.set i' (row.set j' d))) : yput Tv Ti Tj ⟨yn, rt, ybk, yct⟩ δ rows := k
end
end L3
namespace L3
open PySem PySem.Spec PyProof.Rows L2 Builtin
open MeetsSeq MeetsSeq2 MeetsSeq3 SeqRoads2
mutual
def ordB (le : Bool) : PyData → PyData → Option Bool
  | .int i, .int j => some (if le = true then decide (i ≤ j) else decide (i < j))
  | .list xs, .list ys => ordBs le xs ys
  | .tuple xs, .tuple ys => ordBs le xs ys
  | _, _ => none
def ordBs (le : Bool) : List PyData → List PyData → Option Bool
  | [], [] => some le
  | [], _ :: _ => some true
  | _ :: _, [] => some false
  | x :: xs, y :: ys => if PyData.eqv x y = true then ordBs le xs ys else ordB le x y
end


end L3
namespace L3
open PySem PySem.Spec PyProof.Rows L2
def InC (P : Nat → Prop) (x : Str) : Prop := ∀ c ∈ x.cps.toList, P c
section
variable {P : Nat → Prop}
theorem InC.sub {x : Str} (h : InC P x) (i j : Nat) : InC P (Builtin.Str.strSub x i j) := fun c hc => by
  unfold Builtin.Str.strSub at hc
  rw [Array.toList_extract] at hc
  exact h c (List.mem_of_mem_drop (List.mem_of_mem_take hc))
theorem InC.parts {x : Str} (h : InC P x) (cuts : List Nat) (w : Nat) : ∀ p ∈ Builtin.Str.partsBetween x cuts w, InC P p := fun p hp => by
  unfold Builtin.Str.partsBetween at hp
  obtain ⟨⟨i, j⟩, _, rfl⟩ := List.mem_map.mp hp
  exact h.sub i j
theorem InC.split {x : Str} (h : InC P x) (y : Str) : ∀ p ∈ Txt.split x y, InC P p := fun p hp => by
  unfold Txt.split at hp
  split at hp
  · rw [List.mem_singleton.mp hp]
    exact h
  · split at hp
    · rw [List.mem_singleton.mp hp]
      exact h
    · exact h.parts _ _ p hp
theorem InC.cut {x : Str} (h : InC P x) (lo hi : Option Int) : InC P (cutS x lo hi) := fun c hc => by
  unfold cutS at hc
  exact h c (List.mem_of_mem_drop (List.mem_of_mem_take (by simpa using hc)))
theorem InC.app {x y : Str} (h : InC P x) (g : InC P y) : InC P (x ++ y) := fun c hc => by
  have e : (x ++ y).cps.toList = x.cps.toList ++ y.cps.toList := Array.toList_append
  rw [e] at hc
  exact (List.mem_append.mp hc).elim (h c) (g c)
theorem InC.mono {Q : Nat → Prop} {x : Str} (h : InC P x) (g : ∀ c, P c → Q c) : InC Q x := fun c hc => g c (h c hc)
end
end L3
namespace L3
open PySem PySem.Spec PyProof.Rows L2
section
variable {K : PySem.W.Frag}
/-- the program's constants are not tracked -/
def NK (K : PySem.W.Frag) (H : Hp) : Prop := ∀ a, K.lookup a ≠ none → H a = none
/-- the two are never one object -/
def ClashN (s d : D) : Prop := ∀ (K : PySem.W.Frag) (N : Hp) (a : Addr), NK K N → Hs K N a s → At K N (.ref a) d → False
theorem Clash.n {s d : D} (h : Clash s d) : ClashN s d := fun K N a _ => h K N a
/-- no value is both -/
def ApartN (x y : D) : Prop := ∀ (K : PySem.W.Frag) (N : Hp) (v : V), NK K N → At K N v x → At K N v y → False
theorem Apart.n {x y : D} (h : Apart x y) : ApartN x y := fun K N v _ => h K N v
end
end L3
namespace L3
open PySem PySem.Spec PyProof.Rows L2
section
variable {K : PySem.W.Frag}
/-- m, o = ([e for ..], b), e new lists; then u over the grid -/
def sgrid2 (m o : Nat) (S : DI) (Gd : DG) (C : DTT) (Te : DT) (vs : List Nat) (TB : DT) (U : YP) : DS := fun Z δ => S δ fun items cs δ1 => m < δ1.length ∧ m ≠ o ∧ noOw δ1 vs = true ∧ (∀ p ∈ cs, p.1 ∉ vs) ∧ ∃ I : Nat → List (List D) → En → Prop, I 0 [] δ1 ∧ (∀ k acc δ, I k acc δ → ∀ p ∈ cs, δ[p.1]? = some (E.ow p.2)) ∧
  (∀ k x acc δ, items[k]? = some x → I k acc δ → Gd x (wipeE δ vs) fun δ2 => C δ2 fun b δ3 => if b = true then Te δ3 fun r δ4 => ∃ xs, r = .fr (.l xs) ∧ acc.length < sizeLine ∧ I (k + 1) (acc ++ [xs]) (backE δ δ4 vs) else I (k + 1) acc (backE δ δ3 vs)) ∧
  (∀ acc δ, I items.length acc δ → sset o TB { nx := fun δ2 => U Z (δ2.set m .no) acc, rt := Z.rt } δ)
theorem sndp_grid2 {ps gs vs bs : List Nat} {m o : Nat} {wi : TI} {g : TG} {tt : TT} {te tb : TE} {u : TS} {S : DI} {Gd : DG} {C : DTT} {Te TB : DT} {U : YP} (hi : SndI K wi S) (hg : SndG K gs g Gd) (ht : SndT K tt C) (he : Snd K te Te) (hgs : ∀ i ∈ gs, i ∈ vs) (hb : Snd K tb TB) (rest : SndYP K ps m bs u U) :
    SndSP K ps (m :: o :: bs) (tSeq (tPar m o (tCons (tLc wi g tt te vs) (tCons tb tNil))) u) (sgrid2 m o S Gd C Te vs TB U) := fun F hps hp σ H G δ Z De s h gd => by
  refine hi σ H G δ _ _ s.L h fun items cs δ1 J H1 G1 L1 f1 le1 it q => ?_
  obtain ⟨hml, hmo, no, nc, I, I0, Ic, It, Ie⟩ := q
  intro M hM
  have nX : ∀ {a : Addr}, H1 a = none → ∀ δ', Le δ' δ1 → ¬ Ad σ δ' a := fun ha δ' le z => L1.there (le.ad z) ha
  obtain ⟨fD, sD⟩ := gr_new (G := G1) (o := .lst []) L1.sub hM
  have l1 : σ.length = δ1.length := L1.len
  refine ⟨fun i k H' => k = items.length - i ∧ i ≤ items.length ∧ ∃ G' δ' acc al, Rel K σ H' G' δ' ∧ Fr (fun a => Ad σ δ1 a ∨ a = M) (L2.upd H1 M (.lst [])) G1 H' G' ∧ Le δ' δ1 ∧ (∀ v : Nat, v ∈ vs → δ'[v]? = δ1[v]?) ∧ H' M = some (.lst (al.map V.ref)) ∧ G' M = none ∧ Rws K H1 H' G' al acc ∧ (M :: al).Nodup ∧ I i acc δ',
    ⟨items.length, by simp, Nat.zero_le _, G1, δ1, [], [], L1.grow fD sD, .refl, .refl, fun _ _ => rfl, upd_same, g_none L1.sub hM, ⟨rfl, fun i a r e => by simp at e⟩, by simp, I0⟩, ?_⟩
  rintro i k H' ⟨rfl, hi, G', δ', acc, al, L', f', le', dv, hH, hG, ra, nd, hI⟩
  have no' : noOw δ' vs = true := List.all_eq_true.mpr fun v hv => by
    rw [dv v hv]
    exact List.all_eq_true.mp no v hv
  have ok := it σ H' G' δ' L' f'.sub fun p hp => ⟨Ic i acc δ' hI p hp, rfl⟩
  have fD' : Fr (fun a => Ad σ δ1 a ∨ a = M) H1 G1 (L2.upd H1 M (.lst [])) G1 := fD.fr
  by_cases hlt : i < items.length
  · obtain ⟨hgo, hy⟩ := ok.1 i items[i] (List.getElem?_eq_getElem hlt)
    refine .inr ⟨hgo, fun H2 => ∃ G2 δ2 acc al, Rel K σ H2 G2 δ2 ∧ Fr (fun a => Ad σ δ1 a ∨ a = M) (L2.upd H1 M (.lst [])) G1 H2 G2 ∧ Le δ2 δ1 ∧ (∀ v : Nat, v ∈ vs → δ2[v]? = δ1[v]?) ∧ H2 M = some (.lst (al.map V.ref)) ∧ G2 M = none ∧ Rws K H1 H2 G2 al acc ∧ (M :: al).Nodup ∧ I (i + 1) acc δ2,
      fun H2 z => ⟨items.length - (i + 1), by omega, rfl, hlt, z⟩, fun x H'' y => ?_⟩
    obtain ⟨G'', fg, sg, hx⟩ := hy x H'' y
    have L'' := L'.grow fg sg
    have Lw := L''.wipe vs
    have s0 : S3 K ⟨fun j l => ∃ c, (wipeE δ' vs)[j]? = some (E.ow c) ∧ (wipe σ vs)[j]? = some (some (V.ref l)), H'', G''⟩ (wipe σ vs) H'' G'' (wipeE δ' vs) := ⟨Lw, .refl, fun j c l e q => .inl ⟨c, e, q⟩, fun j l ⟨c, e, q⟩ => q⟩
    refine hg _ (fun j hj l z => ?_) (wipe σ vs) H'' G'' (wipeE δ' vs) x _ _ _ s0 hx (It i _ acc δ' (List.getElem?_eq_getElem hlt) hI) fun σ2 H2 G2 δ2 n2 le2 q2 => ?_
    · obtain ⟨c, e, q⟩ := z
      rcases wipeE_get e with ⟨_, z⟩ | ⟨z, _⟩
      · cases z
      · exact z (hgs j hj)
    have hσ : ∀ j : Nat, j ∉ vs → σ2[j]? = σ[j]? := fun j hj => (n2.st j fun z => hj (hgs j z)).trans (wipe_off hj)
    have hl2 : σ2.length = σ.length := n2.ln.trans (wipe_length σ vs)
    have fAll : ∀ {A : Addr → Prop} {Ha Ga Hb Gb : Hp}, Fr (fun a => Ad σ δ1 a ∨ a = M) (L2.upd H1 M (.lst [])) G1 Ha Ga → Fr A Ha Ga Hb Gb → (∀ a, A a → Ad σ δ1 a ∨ (L2.upd H1 M (.lst [])) a = none) → Fr (fun a => Ad σ δ1 a ∨ a = M) (L2.upd H1 M (.lst [])) G1 Hb Gb := fun x y z => x.trans y fun a h => (z a h).imp .inl id
    have f2 := fAll f' fg (fun _ z => z.elim)
    have f3 := fAll f2 n2.f fun a z => .inl (le'.ad (ad_wipe z))
    have ow2 : ∀ l, Ad σ2 δ2 l → Ad σ δ1 l ∨ (L2.upd H1 M (.lst [])) l = none := fun l z => (n2.ow l z).elim (fun z => .inl (le'.ad (ad_wipe z))) fun z => .inr (f2.free z)
    have nD2 : ∀ l, Ad σ2 δ2 l → l ≠ M := fun l z e => by
      subst e
      rcases ow2 l z with z | z
      · exact nX hM δ1 .refl z
      · rw [upd_same] at z
        cases z
    have keepD : ∀ {A : Addr → Prop} {Ha Ga Hb Gb : Hp}, Fr A Ha Ga Hb Gb → ¬ A M → Ha M = some (.lst (al.map V.ref)) → Ga M = none → Hb M = some (.lst (al.map V.ref)) ∧ Gb M = none := fun f na h g => ⟨f.h M _ na h, (f.n M na (by rw [h]; exact fun z => nomatch z)).trans g⟩
    obtain ⟨d1, g1⟩ := keepD fg (fun z => z) hH hG
    obtain ⟨d2, g2⟩ := keepD n2.f (fun z => nX hM δ' le' (ad_wipe z)) d1 g1
    have r1 := ra.fr fg fun a _ z => z
    have r2 := r1.fr n2.f fun a ha z => nX (r1.at_ ha).1 δ' le' (ad_wipe z)
    have nA2 : ∀ a ∈ al, ¬ Ad σ2 δ2 a := fun a ha z => (n2.ow a z).elim (fun z => nX (r1.at_ ha).1 δ' le' (ad_wipe z)) fun z => (r1.at_ ha).2.2 z
    refine ⟨?_, ht σ2 H2 G2 δ2 _ _ n2.s.L q2 fun b δ3 H3 G3 L3 f4 le3 q3 => ?_⟩
    · refine List.ext_getElem? fun j => ?_
      by_cases hj : j ∈ vs
      · by_cases hjl : j < σ.length
        · rw [wipe_at hj hjl, wipe_at hj (by rw [hl2]; exact hjl)]
        · rw [List.getElem?_eq_none (by rw [wipe_length]; omega), List.getElem?_eq_none (by rw [wipe_length]; omega)]
      · rw [wipe_off hj, wipe_off hj, hσ j hj]
    have f5 := fAll f3 f4 ow2
    obtain ⟨d3, g3⟩ := keepD f4 (fun z => nD2 M z rfl) d2 g2
    have r3 := r2.fr f4 nA2
    have bk : ∀ {δn : En} {Hn Gn : Hp}, Rel K σ2 Hn Gn δn → Le δn δ2 → Fr (fun a => Ad σ δ1 a ∨ a = M) (L2.upd H1 M (.lst [])) G1 Hn Gn → Sub G' Gn → Rel K σ Hn Gn (backE δ' δn vs) ∧ Le (backE δ' δn vs) δ1 ∧ ∀ v : Nat, v ∈ vs → (backE δ' δn vs)[v]? = δ1[v]? := fun {δn Hn Gn} Ln len fn sn => by
      have hd : δ'.length = δn.length := by rw [← L'.len, ← Ln.len, hl2]
      refine ⟨L'.back no' Ln sn hσ hl2, fun j c e => ?_, fun v hv => (backE_in hd hv).trans (dv v hv)⟩
      rcases backE_get hd e with ⟨h1, h2⟩ | ⟨h1, h2⟩
      · exact absurd h2 (noOw_at no' h1 c)
      · obtain ⟨c2, h3⟩ := len j c h2
        obtain ⟨c3, h4⟩ := le2 j c2 h3
        rcases wipeE_get h4 with ⟨_, z⟩ | ⟨_, z⟩
        · cases z
        · exact le' j c3 z
    cases b with
    | true =>
      refine he σ2 H3 G3 δ3 _ _ L3 q3 fun r δ4 y H4 G4 L4 f6 le4 rr q4 => ?_
      obtain ⟨xs, rfl, hlen, q4⟩ := q4
      obtain ⟨l, rfl, nl, gl, ws, hl4, tl4⟩ := rr
      have nA3 : ∀ a, Ad σ2 δ3 a → Ad σ2 δ2 a := fun a z => le3.ad z
      obtain ⟨d4, g4⟩ := keepD f6 (fun z => nD2 M (nA3 _ z) rfl) d3 g3
      have f8 := fAll f5 f6 fun a z => ow2 a (nA3 a z)
      have sG : Sub G' G4 := (((fg.sub.trans n2.f.sub).trans f4.sub).trans f6.sub)
      obtain ⟨Lb, leb, db⟩ := bk L4 (le4.trans le3) f8 sG
      have r4 := r3.fr f6 fun a ha z => nA2 a ha (nA3 a z)
      have nlM : l ≠ M := fun z => by rw [z, d3] at nl; cases nl
      have nla : l ∉ al := fun z => (r3.at_ z).2.2 nl
      have h1l : H1 l = none := by
        have := f5.free nl
        rw [upd_ne nlM] at this
        exact this
      have fu : Fr (fun a => a = M) H4 G4 (L2.upd H4 M (.lst (al.map V.ref ++ [V.ref l]))) G4 := fr_upd rfl
      have nM := List.nodup_cons.mp nd
      have r5 : Rws K H1 (L2.upd H4 M (.lst (al.map V.ref ++ [V.ref l]))) G4 (al ++ [l]) (acc ++ [xs]) := by
        have r6 := r4.fr fu fun a ha z => nM.1 (by rw [← z]; exact ha)
        refine ⟨by rw [List.length_append, List.length_append, r4.len]; rfl, fun j a r e1 e2 => ?_⟩
        by_cases hj : j < al.length
        · rw [List.getElem?_append_left hj] at e1
          rw [List.getElem?_append_left (by rw [← r4.len]; exact hj)] at e2
          exact r6.row j a r e1 e2
        · rw [List.getElem?_append_right (by omega)] at e1
          rw [List.getElem?_append_right (by rw [← r4.len]; omega), ← r4.len] at e2
          have hj0 : j - al.length = 0 := by
            have := (List.getElem?_eq_some_iff.mp e1).1
            simp at this
            omega
          rw [hj0] at e1 e2
          simp at e1 e2
          subst e1
          subst e2
          exact ⟨h1l, gl, ws, by rw [upd_ne nlM]; exact hl4, tl4⟩
      refine ⟨al.map V.ref, d4, by rw [List.length_map, r4.len]; exact hlen, G4, backE δ' δ4 vs, acc ++ [xs], al ++ [l], Lb.other g4 (nX hM _ leb), f8.trans fu fun a z => .inl (.inr z), leb, db, ?_, g4, r5, ?_, q4⟩
      · rw [upd_same, List.map_append]
        rfl
      · refine List.nodup_cons.mpr ⟨fun z => ?_, List.nodup_append.mpr ⟨nM.2, by simp, fun a ha b hb e => ?_⟩⟩
        · rcases List.mem_append.mp z with z | z
          · exact nM.1 z
          · simp at z
            exact nlM z.symm
        · simp at hb
          subst hb
          subst e
          exact nla ha
    | false =>
      have sG : Sub G' G3 := ((fg.sub.trans n2.f.sub).trans f4.sub)
      obtain ⟨Lb, leb, db⟩ := bk L3 le3 f5 sG
      exact ⟨G3, backE δ' δ3 vs, acc, al, Lb, f5, leb, db, d3, g3, r3, nd, q3⟩
  · have e : i = items.length := by omega
    subst e
    have fF : Fr (Ad σ δ) H G H' G' := (f1.trans fD' fun a z => ?_).trans f' fun a z => ?_
    · refine .inl ⟨ok.2, ?_⟩
      have n0 : Nxt K F [] σ H G δ σ H' G' δ' := .step s L' fF (le'.trans le1)
      have hpm : ∀ l, ¬ F.P m l := hp m List.mem_cons_self
      have q0 := Ie acc δ' hI
      have goal : tAsg tb (gName o) { De with nx := fun σ2 H2 => u De (σ2.set m (some (.ref M))) H2, rt := De.rt } σ H' := by
        refine snds_set (i := o) hb F (fun i hi => hp i (List.mem_cons_of_mem _ (by rw [List.mem_singleton.mp hi]; exact List.mem_cons_self))) σ H' G' δ' _ _ n0.s q0 ⟨fun σ2 H2 G2 δ2 n2 q2 => ?_, fun _ _ _ _ _ q => q.elim, fun _ _ _ _ _ q => q.elim, fun σ2 H2 G2 δ2 r w n2 rr nr q2 => gd.rt _ _ _ _ _ _ ((n0.trans n2).mono fun i hi => ?_) rr nr q2⟩
        · have n3 := n2.setN (i := m) (v := some (.ref M)) hpm
          have n1 : Nxt K F (m :: o :: bs) σ H G δ (σ2.set m (some (.ref M))) H2 G2 (δ2.set m .no) := (n0.trans n3).mono fun j hj => by
            simp only [List.nil_append, List.mem_append, List.mem_cons, List.not_mem_nil, or_false] at hj
            rcases hj with rfl | rfl
            · exact List.mem_cons_of_mem _ List.mem_cons_self
            · exact List.mem_cons_self
          have ad0 : ∀ l, Ad (σ2.set m (some (.ref M))) (δ2.set m .no) l → Ad σ2 δ2 l := fun l ⟨j, c, e, q⟩ => by
            rcases set_get e with ⟨_, z, _⟩ | ⟨ne, e2⟩
            · cases z
            · rw [List.getElem?_set_ne ne] at q
              exact ⟨j, c, e2, q⟩
          have ad' : ∀ l, Ad (σ2.set m (some (.ref M))) (δ2.set m .no) l → Ad σ δ' l ∨ H' l = none := fun l z => n2.ow l (ad0 l z)
          have nM' : ¬ Ad σ δ' M := nX hM δ' le'
          refine rest F hps (fun j hj => hp j (List.mem_cons_of_mem _ (List.mem_cons_of_mem _ hj))) (m :: o :: bs) σ H G δ (fun j hj => List.mem_cons_of_mem _ (List.mem_cons_of_mem _ hj)) _ H2 G2 _ acc Z De n1 ⟨M, al, ⟨?_, n2.f.h M _ nM' hH, (n2.f.n M nM' (by rw [hH]; exact fun z => nomatch z)).trans hG, fun a ha => ?_, nd, fun z => ?_, ?_, fun j a r e1 e2 => ?_⟩⟩ q2 gd
          · rw [List.getElem?_set_self (by rw [n2.ln, l1]; exact hml)]
          · have h1 : H1 a = none := by
              rcases List.mem_cons.mp ha with rfl | ha
              · exact hM
              · exact (ra.at_ ha).1
            exact ⟨s.f.free (f1.free h1), f1.free h1⟩
          · rcases ad' M z with z | z
            · exact nM' z
            · rw [hH] at z; cases z
          · rw [List.length_map]
            exact ra.len
          · rw [List.getElem?_map] at e2
            obtain ⟨r', e3, e4⟩ := Option.map_eq_some_iff.mp e2
            cases e4
            obtain ⟨h1, h2, vs', h3, h4⟩ := ra.row j a r e1 e3
            have na : ¬ Ad σ δ' a := nX h1 δ' le'
            refine ⟨fun z => ?_, (n2.f.n a na (by rw [h3]; exact fun z => nomatch z)).trans h2, vs', n2.f.h a _ na h3, h4.mono n2.f.sub⟩
            rcases ad' a z with z | z
            · exact na z
            · rw [h3] at z; cases z
        · simp only [List.nil_append, List.mem_singleton] at hi
          rw [hi]
          exact List.mem_cons_of_mem _ List.mem_cons_self
      have e : (fun (w : V) (H2 : Hp) => ∃ v' w', [V.ref M, w] = [v', w'] ∧ u De ((σ.set m (some v')).set o (some w')) H2) = fun w H2 => u De ((σ.set o (some w)).set m (some (.ref M))) H2 := by
        funext w H2
        refine propext ⟨fun ⟨v', w', e, q⟩ => ?_, fun q => ⟨_, _, rfl, ?_⟩⟩
        · cases e
          rw [List.set_comm _ _ hmo] at q
          exact q
        · rw [List.set_comm _ _ hmo]
          exact q
      show tb σ H' fun w H2 => ∃ v' w', [V.ref M, w] = [v', w'] ∧ u De ((σ.set m (some v')).set o (some w')) H2
      rw [e]
      exact goal
    · rcases z with z | rfl
      · exact .inl (le1.ad z)
      · exact .inr (f1.free hM)
    · rcases z with z | rfl
      · exact .inl (le1.ad z)
      · exact .inr (f1.free hM)
end
section
variable {Q : R → En → Prop} {δ : En} {C : DTT} {rt : R → En → Prop} {rows : List (List D)} {Z : DE}
/-- a grid made by a comprehension, told beside another value -/
def GrK2 (m o : Nat) (Gd : DG) (C : DTT) (Te : DT) (vs : List Nat) (TB : DT) (Z : DE) (U : YP) (items : List D) (cs : List (Nat × Cn)) (δ1 : En) : Prop := m < δ1.length ∧ m ≠ o ∧ noOw δ1 vs = true ∧ (∀ p ∈ cs, p.1 ∉ vs) ∧ ∃ I : Nat → List (List D) → En → Prop, I 0 [] δ1 ∧ (∀ k acc δ, I k acc δ → ∀ p ∈ cs, δ[p.1]? = some (E.ow p.2)) ∧
  (∀ k x acc δ, items[k]? = some x → I k acc δ → Gd x (wipeE δ vs) fun δ2 => C δ2 fun b δ3 => if b = true then Te δ3 fun r δ4 => ∃ xs, r = .fr (.l xs) ∧ acc.length < sizeLine ∧ I (k + 1) (acc ++ [xs]) (backE δ δ4 vs) else I (k + 1) acc (backE δ δ3 vs)) ∧
  (∀ acc δ, I items.length acc δ → sset o TB ⟨fun δ2 => ∃ δ3, δ2.set m .no = δ3 ∧ U Z δ3 acc, Z.rt, fun _ => False, fun _ => False⟩ δ)
theorem y_grid2 {m o : Nat} {S : DI} {Gd : DG} {Te TB : DT} {vs : List Nat} {U : YP} (k : S δ fun items cs δ1 => GrK2 m o Gd C Te vs TB Z U items cs δ1) : sgrid2 m o S Gd C Te vs TB U Z δ := by
  unfold GrK2 at k
  simp only [exists_eq_left'] at k
  exact k
theorem grid_map2 {m o : Nat} {Gd : DG} {Te TB : DT} {vs : List Nat} {items : List D} {cs : List (Nat × Cn)} {U : YP} (f : Nat → List D) (hm : m < δ.length) (hmo : m ≠ o) (no : noOw δ vs = true) (hcs : ∀ p ∈ cs, p.1 ∉ vs) (hi : ∀ p ∈ cs, δ[p.1]? = some (E.ow p.2))
    (ht : ∀ k x, items[k]? = some x → Gd x (wipeE δ vs) fun δ2 => Te δ2 fun r δ4 => ∃ xs, r = .fr (.l xs) ∧ ((List.range k).map f).length < sizeLine ∧ (backE δ δ4 vs = δ ∧ (List.range k).map f ++ [xs] = (List.range (k + 1)).map f))
    (he : sset o TB ⟨fun δ2 => ∃ δ3, δ2.set m .no = δ3 ∧ U Z δ3 ((List.range items.length).map f), Z.rt, fun _ => False, fun _ => False⟩ δ) : GrK2 m o Gd tyes Te vs TB Z U items cs δ := by
  refine ⟨hm, hmo, no, hcs, fun k acc δ' => δ' = δ ∧ acc = (List.range k).map f, ⟨rfl, rfl⟩, fun k acc δ' h => by rw [h.1]; exact hi, fun k x acc δ' e h => ?_, fun acc δ' h => by rw [h.1, h.2]; exact he⟩
  obtain ⟨rfl, rfl⟩ := h
  have h2 := ht k x e
  simp only [tyes, if_true]
  exact h2
variable {yn : En → List (List D) → Prop} {ybk yct : En → List (List D) → Prop}
end
end L3
namespace L3
open PySem PySem.Spec PyProof.Rows L2
section
variable {K : PySem.W.Frag}
def timesWF : D → D → (R → Prop) → Prop
  | .int i, .int j, Q => CMulW i j ∧ Q (.va (.int (i * j)))
  | _, _, _ => False
theorem snd_timesW : Snd2 K (rI CMulW fun i j => .int (i * j)) timesWF := fun H G x y d e Q Q3 s hx hy hF k => by
  unfold timesWF at hF
  split at hF
  · obtain rfl := hx
    obtain rfl := hy
    exact ⟨_, _, rfl, rfl, hF.1, k.va s (.int _) hF.2⟩
  · exact hF.elim
end
section
variable {q : R → Prop}
theorem f_timesW {i j : Int} (h : CMulW i j) (k : q (.va (.int (i * j)))) : timesWF (.int i) (.int j) q := ⟨h, k⟩
end
end L3
namespace L3
open PySem PySem.Spec PyProof.Rows L2
def intB : D → Bool
  | .int _ => true
  | _ => false
/-- a drawn value: what looks alike, with few parts -/
def Itm (d : D) : Prop := Lk 2 d ∧ ∀ xs, d = .tup xs → xs.length ≤ 1000
section
variable {many size : Nat} {n : Net}
theorem ledN_lin : ∀ {w : List Nat} {y : Nat} {s : Int}, ledN n w (y, s) = ((ledN n w (y, 1)).1, s * (ledN n w (y, 1)).2)
  | [], y, s => by
    show (y, s) = (y, s * 1)
    rw [Int.mul_one]
  | k :: w, y, s => by
    show ledN n w ((stp n k y).1, s * (stp n k y).2) = ((ledN n w ((stp n k y).1, 1 * (stp n k y).2)).1, s * (ledN n w ((stp n k y).1, 1 * (stp n k y).2)).2)
    rw [ledN_lin (w := w) (s := s * (stp n k y).2), ledN_lin (w := w) (s := 1 * (stp n k y).2), Int.one_mul, Int.mul_assoc]
end
theorem Itm.of {d : D} (h : Lk 2 d) (n : ∀ xs, d ≠ .tup xs) : Itm d := ⟨h, fun xs e => absurd e (n xs)⟩
theorem Itm.list {w : List Nat} (hw : w.length ≤ 400) : Itm (.lst (natsD w)) := ⟨.lst (fun d hd => by
  obtain ⟨k, _, rfl⟩ := List.mem_map.mp hd
  exact .int _) (by rw [natsD_len]; omega), fun xs e => nomatch e⟩
end L3
namespace L3
open PySem PySem.Spec PyProof.Rows L2
section
variable {many size : Nat} {n : Net}
theorem sumZ_at {g : Nat → Int} {a : Nat} {l : List Nat} (nd : l.Nodup) (h : a ∈ l) : sumZ ((l.filter fun x => x == a).map g) = g a := by
  rw [sumZ_filter]
  have e : (fun x => if (x == a) = true then g x else 0) = fun x => if a = x then g a else 0 := by
    funext x
    by_cases z : a = x
    · subst z
      simp
    · have z2 : x ≠ a := fun q => z q.symm
      simp [z, z2]
  rw [e, sumZ_one nd h]
theorem sum_over {f g : Nat → Nat} {G : Nat → Int} (hf : ∀ x, x < size → f x < size ∧ g (f x) = x) (hg : ∀ x, x < size → g x < size ∧ f (g x) = x) : sumZ ((List.range size).map fun x => G (f x)) = sumZ ((List.range size).map G) := by
  rw [← sum_parts (f := f) (Z := List.range size) List.nodup_range fun x hx => List.mem_range.mpr (hf x (List.mem_range.mp hx)).1]
  refine congrArg sumZ (List.map_congr_left fun z hz => ?_)
  have hz := List.mem_range.mp hz
  have e : (List.range size).filter (fun x => f x == z) = (List.range size).filter fun x => x == g z := List.filter_congr fun x hx => by
    have hx := List.mem_range.mp hx
    by_cases q : f x = z
    · have e2 : x = g z := by rw [← q, (hf x hx).2]
      rw [beq_iff_eq.mpr q, beq_iff_eq.mpr e2]
    · have e2 : x ≠ g z := fun e => q (by rw [e, (hg z hz).2])
      rw [beq_eq_false_iff_ne.mpr q, beq_eq_false_iff_ne.mpr e2]
  rw [e, sumZ_at List.nodup_range (List.mem_range.mpr (hg z hz).1), (hg z hz).2]
end
end L3
namespace L3
open PySem PySem.Spec PyProof.Rows L2
def rowI (size : Nat) (g : Nat → Int) : List D := (List.range size).map fun k => .int (g k)
theorem rowI_len {size : Nat} {g : Nat → Int} : (rowI size g).length = size := by simp [rowI]
theorem rowI_at {size k : Nat} {g : Nat → Int} (hk : k < size) : (rowI size g)[k]? = some (.int (g k)) := by
  unfold rowI
  rw [List.getElem?_map, List.getElem?_range hk]
  rfl
theorem rowI_get {size i : Nat} {g : Nat → Int} {y : D} (e : (rowI size g)[i]? = some y) : i < size ∧ y = .int (g i) := by
  have hi := (List.getElem?_eq_some_iff.mp e).1
  rw [rowI_len] at hi
  rw [rowI_at hi] at e
  exact ⟨hi, (Option.some.inj e).symm⟩
theorem rowI_pu {size : Nat} {g : Nat → Int} : Pu 1 (.lst (rowI size g)) := Pu.map fun _ _ => .int _
theorem rowI_congr {size : Nat} {f g : Nat → Int} (h : ∀ x, x < size → f x = g x) : rowI size f = rowI size g := List.map_congr_left fun x hx => by rw [h x (List.mem_range.mp hx)]
theorem zip_rowI {size : Nat} {f g : Nat → Int} {h : Nat → D} : (List.range (zipD (rowI size f) (rowI size g)).length).map h = (List.range size).map h := by
  have h1 : size ≤ (zipD (rowI size f) (rowI size g)).length := by
    rcases zipD_len (xs := rowI size f) (ys := rowI size g) with h | h <;> rw [rowI_len] at h <;> exact h
  have h2 : (zipD (rowI size f) (rowI size g)).length ≤ size := by
    refine Nat.le_of_not_lt fun h => ?_
    obtain ⟨x, _, e, _, _⟩ := zipD_get (List.getElem?_eq_getElem h)
    exact absurd (rowI_get e).1 (by omega)
  have : (zipD (rowI size f) (rowI size g)).length = size := by omega
  rw [this]
end L3
namespace L3
open PySem PySem.Spec PyProof.Rows L2
def leD (x y : D) : Bool := (x.py.bind fun p => y.py.bind fun q => ordB true p q).getD false
/-- data that can be put in order -/
structure OrdL (xs : List D) : Prop where
  ok : ∀ x ∈ xs, ∀ y ∈ xs, ∃ p q b, x.py = some p ∧ y.py = some q ∧ p.canLay0 = true ∧ p.depth ≤ 60 ∧ ordB true p q = some b
  tot : ∀ x ∈ xs, ∀ y ∈ xs, leD x y = true ∨ leD y x = true
  tr : ∀ x ∈ xs, ∀ y ∈ xs, ∀ z ∈ xs, leD x y = true → leD y z = true → leD x z = true
def SrtL (xs : List D) : Prop := xs.Pairwise fun x y => leD x y = true
theorem SrtL.drop {xs : List D} (h : SrtL xs) (n : Nat) : SrtL (xs.drop n) := List.Pairwise.sublist (List.drop_sublist n xs) h
theorem drop_at {α : Type} {xs : List α} {i : Nat} {x : α} (h : xs[i]? = some x) : xs.drop i = x :: xs.drop (i + 1) := by
  obtain ⟨h1, h2⟩ := List.getElem?_eq_some_iff.mp h
  rw [List.drop_eq_getElem_cons h1, h2]
theorem take_at {α : Type} {xs : List α} {i : Nat} {x : α} (h : xs[i]? = some x) : xs.take (i + 1) = xs.take i ++ [x] := by
  rw [List.take_add_one, h]
  rfl
/-- what a merging holds -/
structure Mrg (xs ys zs : List D) (i t : Nat) : Prop where
  hi : i ≤ xs.length
  ht : t ≤ ys.length
  pm : zs.Perm (xs.take i ++ ys.take t)
  srt : SrtL zs
  le : ∀ z ∈ zs, ∀ w ∈ xs.drop i ++ ys.drop t, leD z w = true
theorem Mrg.start {xs ys : List D} : Mrg xs ys [] 0 0 := ⟨Nat.zero_le _, Nat.zero_le _, by simp, .nil, fun z hz => by cases hz⟩
theorem Mrg.right {all xs ys zs : List D} {i t : Nat} {y : D} (m : Mrg xs ys zs i t) (ho : OrdL all) (hx : ∀ x ∈ xs, x ∈ all) (hy : ∀ y ∈ ys, y ∈ all) (sx : SrtL xs) (sy : SrtL ys) (e : ys[t]? = some y) (h : ∀ w ∈ xs.drop i, leD y w = true) : Mrg xs ys (zs ++ [y]) i (t + 1) where
  hi := m.hi
  ht := (List.getElem?_eq_some_iff.mp e).1
  pm := by
    rw [take_at e]
    refine (m.pm.append_right [y]).trans ?_
    rw [List.append_assoc]
  srt := by
    refine List.pairwise_append.mpr ⟨m.srt, List.pairwise_singleton _ _, fun a ha b hb => ?_⟩
    rw [List.mem_singleton.mp hb]
    exact m.le a ha y (List.mem_append_right _ (by rw [drop_at e]; exact List.mem_cons_self))
  le := fun z hz w hw => by
    have sd := sy.drop t
    rw [drop_at e] at sd
    rcases List.mem_append.mp hz with hz | hz
    · refine m.le z hz w ?_
      rcases List.mem_append.mp hw with hw | hw
      · exact List.mem_append_left _ hw
      · exact List.mem_append_right _ (by rw [drop_at e]; exact List.mem_cons_of_mem _ hw)
    · rw [List.mem_singleton.mp hz]
      rcases List.mem_append.mp hw with hw | hw
      · exact h w hw
      · exact (List.pairwise_cons.mp sd).1 w hw
theorem Mrg.fin {xs ys zs : List D} (m : Mrg xs ys zs xs.length ys.length) : zs.Perm (xs ++ ys) := by
  have := m.pm
  rwa [List.take_length, List.take_length] at this
section
variable {many size : Nat} {n : Net}
theorem mem_comp {z q : Nat} : q ∈ comp n size z ↔ q < size ∧ Reach n z q := by
  unfold comp
  simp only [List.mem_filter, List.mem_range, decide_eq_true_eq]
theorem comp_lt {z : Nat} : (comp n size z).Pairwise (· < ·) := List.Pairwise.filter _ List.pairwise_lt_range
end
section
variable {many s1 s2 : Nat} {a b : Net}
/-- the number of the exchanged pair -/
def swp (s1 s2 p : Nat) : Nat := p % s1 * s2 + p / s1
open Classical in
/-- the least pair of the exchanged round -/
noncomputable def swh (s1 s2 : Nat) (a b : Net) (h : ∀ x, ∃ z, Reach (prodN s2 b a) x z ∧ IsHead (prodN s2 b a) z) (z : Nat) : Nat := (h (swp s1 s2 z)).choose
end
end L3
namespace L3
open PySem PySem.Spec PyProof.Rows L2
theorem sumZ_mulL {α : Type} {a : Int} {g : α → Int} : ∀ {l : List α}, sumZ (l.map fun x => a * g x) = a * sumZ (l.map g)
  | [] => by simp [sumZ]
  | x :: l => by rw [List.map_cons, List.map_cons, sumZ_cons, sumZ_cons, sumZ_mulL, Int.mul_add]
theorem sumZ_mulR {α : Type} {a : Int} {g : α → Int} {l : List α} : sumZ (l.map fun x => g x * a) = sumZ (l.map g) * a := by
  rw [Int.mul_comm, ← sumZ_mulL]
  exact congrArg sumZ (List.map_congr_left fun x _ => Int.mul_comm _ _)
theorem sumZ_congr {α : Type} {g h : α → Int} {l : List α} (e : ∀ x ∈ l, g x = h x) : sumZ (l.map g) = sumZ (l.map h) := by rw [List.map_congr_left e]
theorem sumZ_swap {α β : Type} {f : α → β → Int} {m : List β} : ∀ {l : List α}, sumZ (l.map fun x => sumZ (m.map (f x))) = sumZ (m.map fun y => sumZ (l.map fun x => f x y))
  | [] => (sumZ_zero fun _ _ => rfl).symm
  | x :: l => by
    rw [List.map_cons, sumZ_cons, sumZ_swap, ← sumZ_add]
    rfl
/-- fewer equations than unknowns -/
theorem hom_sol : ∀ (m : Nat) (L : List Nat) (M : Nat → Nat → Int), L.Nodup → m < L.length → ∃ c : Nat → Int, (∃ j ∈ L, c j ≠ 0) ∧ ∀ i, i < m → sumZ (L.map fun j => M i j * c j) = 0
  | 0, L, M, nd, h => ⟨fun _ => 1, ⟨L[0], List.getElem_mem h, Int.one_ne_zero⟩, fun i hi => absurd hi (Nat.not_lt_zero _)⟩
  | m + 1, L, M, nd, h => by
    by_cases z : ∀ j ∈ L, M m j = 0
    · obtain ⟨c, hc, hs⟩ := hom_sol m L M nd (by omega)
      refine ⟨c, hc, fun i hi => ?_⟩
      by_cases e : i = m
      · subst e
        exact sumZ_zero fun j hj => by rw [z j hj, Int.zero_mul]
      · exact hs i (by omega)
    · obtain ⟨j0, hj0, hne⟩ : ∃ j0 ∈ L, M m j0 ≠ 0 := Classical.byContradiction fun h => z fun j hj => Classical.byContradiction fun hn => h ⟨j, hj, hn⟩
      obtain ⟨L1, L2, rfl⟩ := List.append_of_mem hj0
      have nd' : (L1 ++ L2).Nodup := nd.sublist (List.Sublist.append_left (List.sublist_cons_self j0 L2) L1)
      have n0 : ∀ j ∈ L1 ++ L2, j ≠ j0 := fun j hj e => by
        subst e
        have := (List.perm_middle (a := j) (l₁ := L1) (l₂ := L2)).nodup nd
        exact (List.nodup_cons.mp this).1 hj
      obtain ⟨c', ⟨j1, hj1, hn1⟩, hs⟩ := hom_sol m (L1 ++ L2) (fun i j => M m j0 * M i j - M i j0 * M m j) nd' (by simp at h ⊢; omega)
      generalize hA : sumZ ((L1 ++ L2).map fun j => M m j * c' j) = A
      refine ⟨fun j => if j = j0 then -A else M m j0 * c' j, ⟨j1, ?_, ?_⟩, fun i hi => ?_⟩
      · rcases List.mem_append.mp hj1 with q | q
        · exact List.mem_append_left _ q
        · exact List.mem_append_right _ (List.mem_cons_of_mem _ q)
      · show (if j1 = j0 then _ else _) ≠ _
        rw [if_neg (n0 j1 hj1)]
        exact Int.mul_ne_zero hne hn1
      · have split : ∀ f : Nat → Int, sumZ ((L1 ++ j0 :: L2).map f) = f j0 + sumZ ((L1 ++ L2).map f) := fun f => by
          rw [List.map_append, List.map_cons, sumZ_append, sumZ_cons, List.map_append, sumZ_append]
          omega
        have oth : sumZ ((L1 ++ L2).map fun j => M i j * (if j = j0 then -A else M m j0 * c' j)) = M m j0 * sumZ ((L1 ++ L2).map fun j => M i j * c' j) := by
          rw [← sumZ_mulL]
          refine sumZ_congr fun j hj => ?_
          rw [if_neg (n0 j hj), Int.mul_left_comm]
        rw [split]
        show M i j0 * (if j0 = j0 then -A else _) + _ = 0
        rw [if_pos rfl, oth]
        by_cases e : i = m
        · subst e
          rw [hA, Int.mul_neg]
          omega
        · have q := hs i (by omega)
          have e2 : sumZ ((L1 ++ L2).map fun j => (M m j0 * M i j - M i j0 * M m j) * c' j) = M m j0 * sumZ ((L1 ++ L2).map fun j => M i j * c' j) + -(M i j0) * A := by
            rw [← hA, ← sumZ_mulL, ← sumZ_mulL, ← sumZ_add]
            refine sumZ_congr fun j _ => ?_
            rw [Int.sub_mul, Int.mul_assoc, Int.mul_assoc, Int.neg_mul]
            rfl
          rw [e2, Int.neg_mul] at q
          rw [Int.mul_neg]
          omega
def Fix (n : Net) (size : Nat) (X : Nat → Int) : Prop := ∀ p q s, p < size → sadj n p q s → X q = X p * s
section
variable {many size many' size' : Nat} {n n' : Net} {X : Nat → Int}
theorem Fix.reach (g : GoodNet many size n) (hX : Fix n size X) {x y : Nat} (hx : x < size) (r : Reach n x y) : y < size ∧ ∃ t, (t = 1 ∨ t = -1) ∧ X y = X x * t :=
  r (fun y => y < size ∧ ∃ t, (t = 1 ∨ t = -1) ∧ X y = X x * t) ⟨hx, 1, .inl rfl, (Int.mul_one _).symm⟩ fun a b ⟨ha, t, ht, e⟩ ab => by
    obtain ⟨s, hs⟩ := adj_s.mp ab
    refine ⟨(adj_lt g ab).2, t * s, ?_, by rw [hX a b s ha hs, e, Int.mul_assoc]⟩
    rcases ht with rfl | rfl <;> rcases sadj_sign g hs with rfl | rfl <;> decide
theorem Fix.bal (g : GoodNet many size n) (hX : Fix n size X) {z : Nat} (hz : z < size) (h0 : X z ≠ 0) : Bal n z := by
  refine ⟨fun p => if X p = X z then 1 else -1, if_pos rfl, fun p q s r a => ?_⟩
  obtain ⟨hp, t, ht, e⟩ := hX.reach g hz r
  have e2 := hX p q s hp a
  show (if X q = X z then (1 : Int) else -1) = (if X p = X z then 1 else -1) * s
  rcases ht with rfl | rfl <;> rcases sadj_sign g a with rfl | rfl <;> simp only [Int.mul_one, Int.mul_neg] at e e2 ⊢ <;> (repeat' split) <;> omega
theorem Fix.zero (g : GoodNet many size n) (hX : Fix n size X) (h : ∀ z ∈ kins n size, X z = 0) : ∀ p, p < size → X p = 0 := fun p hp => by
  obtain ⟨z, r, hz⟩ := head_of g p
  have zs := reach_lt g r hp
  have z0 : X z = 0 := Classical.byContradiction fun hn => hn (h z (mem_kins.mpr ⟨zs, hz, hX.bal g zs hn⟩))
  obtain ⟨_, t, _, e⟩ := hX.reach g zs (reach_symm g r)
  rw [e, z0, Int.zero_mul]
open Classical in
/-- the invariant of one true round -/
noncomputable def baseF (n : Net) (z p : Nat) : Int := if h : Bal n z ∧ Reach n z p then h.1.choose p else 0
theorem baseF_fix (g : GoodNet many size n) {z : Nat} : Fix n size (baseF n z) := fun p q s hp a => by
  unfold baseF
  by_cases r : Bal n z ∧ Reach n z p
  · have r2 : Bal n z ∧ Reach n z q := ⟨r.1, reach_trans r.2 (reach_one (sadj_adj a))⟩
    rw [dif_pos r, dif_pos r2]
    exact r.1.choose_spec.2 p q s r.2 a
  · have r2 : ¬ (Bal n z ∧ Reach n z q) := fun h => r ⟨h.1, reach_trans h.2 (reach_one (sadj_adj (sadj_symm g a)))⟩
    rw [dif_neg r, dif_neg r2, Int.zero_mul]
theorem baseF_at (g : GoodNet many size n) {z w : Nat} (hz : z ∈ kins n size) (hw : w ∈ kins n size) : baseF n z w = if z = w then 1 else 0 := by
  obtain ⟨z1, z2, z3⟩ := mem_kins.mp hz
  obtain ⟨w1, w2, w3⟩ := mem_kins.mp hw
  unfold baseF
  by_cases e : z = w
  · subst e
    rw [dif_pos ⟨z3, reach_refl⟩, if_pos rfl]
    exact z3.choose_spec.1
  · rw [dif_neg fun h => e (head_eq g z2 w2 h.2), if_neg e]
/-- a map of invariants that loses nothing -/
theorem kin_inj (g : GoodNet many size n) (g' : GoodNet many' size' n') (Φ : (Nat → Int) → Nat → Int)
    (hlin : ∀ (L : List Nat) (c : Nat → Int) (B : Nat → Nat → Int) (b : Nat), Φ (fun p => sumZ (L.map fun z => c z * B z p)) b = sumZ (L.map fun z => c z * Φ (B z) b))
    (hfix : ∀ X, Fix n size X → Fix n' size' (Φ X)) (hinj : ∀ X, Fix n size X → (∀ b, b < size' → Φ X b = 0) → ∀ p, p < size → X p = 0) : kinN n size ≤ kinN n' size' := by
  refine Nat.le_of_not_lt fun hlt => ?_
  rw [← kins_len, ← kins_len] at hlt
  obtain ⟨c, ⟨j, hj, cj⟩, hc⟩ := hom_sol (kins n' size').length (kins n size) (fun i z => Φ (baseF n z) ((kins n' size').getD i 0)) kins_nodup hlt
  have fx : Fix n size (fun p => sumZ ((kins n size).map fun z => c z * baseF n z p)) := fun p q s hp a => by
    show sumZ _ = sumZ _ * s
    rw [← sumZ_mulR]
    refine sumZ_congr fun z _ => ?_
    rw [baseF_fix g p q s hp a, Int.mul_assoc]
  have z0 : ∀ b, b < size' → Φ (fun p => sumZ ((kins n size).map fun z => c z * baseF n z p)) b = 0 := (hfix _ fx).zero g' fun b hb => by
    rw [hlin]
    obtain ⟨i, hi, e⟩ := List.mem_iff_getElem.mp hb
    have := hc i hi
    rw [List.getD_eq_getElem?_getD, List.getElem?_eq_getElem hi, e] at this
    rw [← this]
    exact sumZ_congr fun z _ => Int.mul_comm _ _
  have := hinj _ fx z0 j (mem_kins.mp hj).1
  have e : sumZ ((kins n size).map fun z => c z * baseF n z j) = c j := by
    rw [sumZ_congr (h := fun z => if j = z then c j else 0) fun z hz => ?_]
    · exact sumZ_one kins_nodup hj
    · rw [baseF_at g hz hj]
      by_cases q : z = j
      · subst q
        rw [if_pos rfl, if_pos rfl, Int.mul_one]
      · rw [if_neg q, if_neg fun h => q h.symm, Int.mul_zero]
  exact cj (e.symm.trans this)
end
/-- T carries the rows of a to those of b -/
def Carr (sa sb : Nat) (a b : Net) (T : Nat → Nat → Int) : Prop := ∀ (k : Nat) (ra rb : Row), a[k]? = some ra → b[k]? = some rb → ∀ (x x' y y' : Nat) (s t : Int), x < sa → y < sb → ra[x]? = some ((x' : Int), s) → rb[y]? = some ((y' : Int), t) → T y' x' = T y x * (t * s)
section
variable {many sa sb sc : Nat} {a b c : Net} {T S : Nat → Nat → Int} {d : Int}
theorem kin_carr (ga : GoodNet many sa a) (gb : GoodNet many sb b) (gc : GoodNet many sc c) (ha : sc * sa ≤ 1000) (hb : sc * sb ≤ 1000) (hT : Carr sa sb a b T) (d0 : d ≠ 0)
    (hS : ∀ x x', x < sa → x' < sa → sumZ ((List.range sb).map fun y => S x y * T y x') = if x = x' then d else 0) : kinN (prodN sa a c) (sc * sa) ≤ kinN (prodN sb b c) (sc * sb) := by
  have gA := good_prodN ga gc ha
  have gB := good_prodN gb gc hb
  refine kin_inj gA gB (fun X q => sumZ ((List.range sa).map fun x => T (q % sb) x * X (q / sb * sa + x))) (fun L e B q => ?_) (fun X fx q q' s hq a' => ?_) (fun X fx h p hp => ?_)
  · show sumZ ((List.range sa).map fun x => T (q % sb) x * sumZ (L.map fun z => e z * B z (q / sb * sa + x))) = sumZ (L.map fun z => e z * sumZ ((List.range sa).map fun x => T (q % sb) x * B z (q / sb * sa + x)))
    rw [sumZ_congr (h := fun x => sumZ (L.map fun z => e z * (T (q % sb) x * B z (q / sb * sa + x)))) fun x _ => ?_, sumZ_swap]
    · exact sumZ_congr fun z _ => sumZ_mulL
    · rw [← sumZ_mulL]
      exact sumZ_congr fun z _ => Int.mul_left_comm _ _ _
  · obtain ⟨k, r1, r2, y', w, s', t, e1, e2, h1, h2, hy', hw, rfl, rfl⟩ := (sadj_prod gb gc hq).mp a'
    have hk : k < many := by
      have := (List.getElem?_eq_some_iff.mp e1).1
      rw [gb.len] at this
      exact this
    obtain ⟨ra, er, gr⟩ := ga.get hk
    show sumZ ((List.range sa).map fun x => T ((w * sb + y') % sb) x * X ((w * sb + y') / sb * sa + x)) = sumZ ((List.range sa).map fun x => T (q % sb) x * X (q / sb * sa + x)) * (s' * t)
    rw [pair_mod hy', pair_div hy', ← sumZ_mulR]
    have nb : ∀ x, x < sa → ∃ (y : Nat) (u : Int), (ra.getD x (0, 1)).1.toNat = y ∧ ra[x]? = some ((y : Int), u) ∧ y < sa ∧ (u = 1 ∨ u = -1) ∧ ra[y]? = some ((x : Int), u) := fun x hx => by
      obtain ⟨y, u, f1, f2, f3, f4⟩ := gr.ok x hx
      exact ⟨y, u, by rw [List.getD_eq_getElem?_getD, f1]; rfl, f1, f2, f3, f4⟩
    have inv : ∀ x, x < sa → (ra.getD x (0, 1)).1.toNat < sa ∧ (ra.getD (ra.getD x (0, 1)).1.toNat (0, 1)).1.toNat = x := fun x hx => by
      obtain ⟨y, u, f0, f1, f2, f3, f4⟩ := nb x hx
      rw [f0]
      refine ⟨f2, ?_⟩
      rw [List.getD_eq_getElem?_getD, f4]
      rfl
    rw [← sum_over (f := fun x => (ra.getD x (0, 1)).1.toNat) (g := fun x => (ra.getD x (0, 1)).1.toNat) (G := fun x => T y' x * X (w * sa + x)) inv inv]
    refine sumZ_congr fun x hx => ?_
    have hx := List.mem_range.mp hx
    obtain ⟨y, u, f0, f1, f2, f3, f4⟩ := nb x hx
    show T y' (ra.getD x (0, 1)).1.toNat * X (w * sa + (ra.getD x (0, 1)).1.toNat) = _
    rw [f0]
    have hz : q / sb < sc := div_lt hq
    have t1 := hT k ra r1 er e1 x y (q % sb) y' u s' hx (mod_lt' hq) f1 h1
    have x1 := fx (q / sb * sa + x) (w * sa + y) (u * t) (pair_lt hx hz) ((sadj_prod ga gc (pair_lt hx hz)).mpr ⟨k, ra, r2, y, w, u, t, er, e2, by rw [pair_mod hx]; exact f1, by rw [pair_div hx]; exact h2, f2, hw, rfl, rfl⟩)
    rw [t1, x1]
    generalize T (q % sb) x = A
    generalize X (q / sb * sa + x) = B
    rcases f3 with rfl | rfl
    · rw [Int.mul_one, Int.one_mul, Int.mul_assoc, Int.mul_assoc, Int.mul_left_comm s' B t]
    · have e : s' * -1 = -s' := by omega
      have e' : (-1 : Int) * t = -t := by omega
      rw [e, e', Int.mul_neg, Int.mul_neg, Int.neg_mul_neg, Int.mul_assoc, Int.mul_assoc, Int.mul_left_comm s' B t]
  · have hx : p % sa < sa := mod_lt' hp
    have hz : p / sa < sc := div_lt hp
    have z : ∀ y, y < sb → sumZ ((List.range sa).map fun x => T y x * X (p / sa * sa + x)) = 0 := fun y hy => by
      have := h (p / sa * sb + y) (pair_lt hy hz)
      rwa [pair_mod hy, pair_div hy] at this
    have e1 : sumZ ((List.range sb).map fun y => S (p % sa) y * sumZ ((List.range sa).map fun x => T y x * X (p / sa * sa + x))) = 0 := sumZ_zero fun y hy => by rw [z y (List.mem_range.mp hy), Int.mul_zero]
    have e2 : sumZ ((List.range sb).map fun y => S (p % sa) y * sumZ ((List.range sa).map fun x => T y x * X (p / sa * sa + x))) = d * X p := by
      rw [sumZ_congr (h := fun y => sumZ ((List.range sa).map fun x => S (p % sa) y * T y x * X (p / sa * sa + x))) fun y _ => ?_, sumZ_swap]
      · rw [sumZ_congr (h := fun x => if p % sa = x then d * X p else 0) fun x hx' => ?_]
        · exact sumZ_one List.nodup_range (List.mem_range.mpr hx)
        · rw [sumZ_mulR, hS _ _ hx (List.mem_range.mp hx')]
          by_cases q : p % sa = x
          · rw [if_pos q, if_pos q, ← q, pair_eq]
          · rw [if_neg q, if_neg q, Int.zero_mul]
      · rw [← sumZ_mulL]
        exact sumZ_congr fun x _ => (Int.mul_assoc _ _ _).symm
    rw [e1] at e2
    rcases Int.mul_eq_zero.mp e2.symm with q | q
    · exact absurd q d0
    · exact q
end
end L3
namespace L3
open PySem PySem.Spec PyProof.Rows L2
/-- the same kin with every plan -/
structure Alk (many s : Nat) (a b : Net) : Prop where
  ga : GoodNet many s a
  gb : GoodNet many s b
  eq : ∀ s2 c, GoodNet many s2 c → s2 * s ≤ 1000 → kinN (prodN s a c) (s2 * s) = kinN (prodN s b c) (s2 * s)
section
variable {many s w : Nat} {a b c n : Net} {T S : Nat → Nat → Int} {d : Int}
theorem Alk.refl (g : GoodNet many s a) : Alk many s a a := ⟨g, g, fun _ _ _ _ => rfl⟩
theorem Alk.symm (h : Alk many s a b) : Alk many s b a := ⟨h.gb, h.ga, fun s2 c gc hs => (h.eq s2 c gc hs).symm⟩
theorem Alk.trans (h : Alk many s a b) (h' : Alk many s b c) : Alk many s a c := ⟨h.ga, h'.gb, fun s2 c gc hs => (h.eq s2 c gc hs).trans (h'.eq s2 c gc hs)⟩
theorem Alk.own (h : Alk many s a b) (hs : s * s ≤ 1000) : kinN (prodN s a b) (s * s) = kinN (prodN s a a) (s * s) ∧ kinN (prodN s b b) (s * s) = kinN (prodN s a a) (s * s) := by
  have e1 := h.eq s a h.ga hs
  have e2 := h.eq s b h.gb hs
  have e3 := kin_comm h.gb h.ga hs
  rw [e3] at e1
  exact ⟨e1.symm, (e1.trans e2).symm⟩
theorem Carr.swap {sa sb : Nat} (h : Carr sa sb a b T) : Carr sb sa b a fun x y => T y x := fun k rb ra eb ea y y' x x' t s hy hx e1 e2 => by
  have := h k ra rb ea eb x x' y y' s t hx hy e2 e1
  rw [Int.mul_comm s t]
  exact this
theorem Alk.of_carr (ga : GoodNet many s a) (gb : GoodNet many s b) (hT : Carr s s a b T) (d0 : d ≠ 0) (h1 : ∀ x x', x < s → x' < s → sumZ ((List.range s).map fun y => S x y * T y x') = if x = x' then d else 0)
    (h2 : ∀ y y', y < s → y' < s → sumZ ((List.range s).map fun x => S x y * T y' x) = if y = y' then d else 0) : Alk many s a b :=
  ⟨ga, gb, fun s2 c gc hs => Nat.le_antisymm (kin_carr ga gb gc hs hs hT d0 h1) (kin_carr (S := fun y x => S x y) gb ga gc hs hs hT.swap d0 h2)⟩
theorem prodR_assoc {s1 s2 : Nat} {ra rb rc : Row} (h2 : rb.length = s2) : prodR (s2 * s1) (prodR s1 ra rb) rc = prodR s1 ra (prodR s2 rb rc) := by
  unfold prodR
  rw [List.length_map, List.length_range, ← Nat.mul_assoc]
  refine List.map_congr_left fun p hp => ?_
  have hp := List.mem_range.mp hp
  have hx : p % s1 < s1 := mod_lt' hp
  have hq : p / s1 < rc.length * s2 := div_lt hp
  have hy : p / s1 % s2 < s2 := mod_lt' hq
  have hxy : p / s1 % s2 * s1 + p % s1 < s2 * s1 := pair_lt hx hy
  have ep : p = p / s1 / s2 * (s2 * s1) + (p / s1 % s2 * s1 + p % s1) := by
    have e1 := pair_eq p s1
    have e2 := pair_eq (p / s1) s2
    have e3 : (p / s1 / s2 * s2 + p / s1 % s2) * s1 + p % s1 = p := by rw [e2, e1]
    rw [Nat.add_mul, Nat.mul_assoc] at e3
    omega
  have em : p % (s2 * s1) = p / s1 % s2 * s1 + p % s1 := by
    conv => lhs; rw [ep]
    exact pair_mod hxy
  have ed : p / (s2 * s1) = p / s1 / s2 := by
    conv => lhs; rw [ep]
    exact pair_div hxy
  have g1 : ∀ (f : Nat → Int × Int) (m i : Nat), i < m → ((List.range m).map f).getD i (0, 1) = f i := fun f m i hi => by
    rw [List.getD_eq_getElem?_getD, List.getElem?_map, List.getElem?_range hi]
    rfl
  rw [em, ed, h2, g1 _ _ _ hxy, g1 _ _ _ hq, pair_mod hx, pair_div hx]
  unfold prodP
  simp only [Int.natCast_mul, Int.add_mul, Int.mul_assoc, Int.add_assoc]
theorem prodN_getD {wide k : Nat} {a b : Net} (h : k < a.length) : (prodN wide a b).getD k [] = prodR wide (a.getD k []) (b.getD k []) := by
  unfold prodN
  rw [List.getD_eq_getElem?_getD, List.getElem?_map, List.getElem?_range h]
  rfl
theorem prodN_assoc {s1 s2 : Nat} {a b c : Net} (ga : a.length = many) (gb : GoodNet many s2 b) : prodN (s2 * s1) (prodN s1 a b) c = prodN s1 a (prodN s2 b c) := by
  have e : prodN (s2 * s1) (prodN s1 a b) c = (List.range a.length).map fun k => prodR (s2 * s1) ((prodN s1 a b).getD k []) (c.getD k []) := by
    show (List.range (prodN s1 a b).length).map _ = _
    rw [show (prodN s1 a b).length = a.length by simp [prodN]]
  have e2 : prodN s1 a (prodN s2 b c) = (List.range a.length).map fun k => prodR s1 (a.getD k []) ((prodN s2 b c).getD k []) := rfl
  rw [e, e2]
  refine List.map_congr_left fun k hk => ?_
  have hk := List.mem_range.mp hk
  obtain ⟨r, er, gr⟩ := gb.get (i := k) (by omega)
  rw [prodN_getD hk, prodN_getD (by rw [gb.len]; omega)]
  refine prodR_assoc ?_
  rw [List.getD_eq_getElem?_getD, er]
  exact gr.len
theorem Alk.times (h : Alk many s a b) (gn : GoodNet many w n) (hs : s * w ≤ 1000) : Alk many (s * w) (prodN w n a) (prodN w n b) := by
  refine ⟨good_prodN gn h.ga hs, good_prodN gn h.gb hs, fun s2 c gc h2 => ?_⟩
  have w0 := gn.s0
  have h3 : s2 * s * w ≤ 1000 := by rw [Nat.mul_assoc]; exact h2
  have h4 : s2 * s ≤ 1000 := Nat.le_trans (Nat.le_mul_of_pos_right _ w0) h3
  have h5 : w * s2 * s ≤ 1000 := by rw [Nat.mul_assoc, Nat.mul_comm]; exact h3
  have h6 : w * s2 ≤ 1000 := Nat.le_trans (Nat.le_mul_of_pos_right _ h.ga.s0) h5
  have key : ∀ {x : Net}, GoodNet many s x → kinN (prodN (s * w) (prodN w n x) c) (s2 * (s * w)) = kinN (prodN s x (prodN s2 c n)) (w * s2 * s) := fun {x} gx => by
    rw [prodN_assoc gn.len gx, ← Nat.mul_assoc, kin_comm gn (good_prodN gx gc h4) h3, prodN_assoc gx.len gc, Nat.mul_assoc]
  rw [key h.ga, key h.gb]
  exact h.eq _ _ (good_prodN gc gn h6) h5
theorem Alk.beside (h : Alk many s a b) (gn : GoodNet many w n) (hs : s + w ≤ 1000) : Alk many (s + w) (besideN s a n) (besideN s b n) :=
  ⟨good_besideN h.ga gn hs, good_besideN h.gb gn hs, fun s2 c gc h2 => by
    rw [kin_beside h.ga gn gc h2, kin_beside h.gb gn gc h2, h.eq s2 c gc (Nat.le_trans (Nat.mul_le_mul_left _ (Nat.le_add_right _ _)) h2)]⟩
theorem Alk.named {ns : List Int} (g : GoodNet many s a) (hn : Naming s ns) : Alk many s a (namedN ns a) := by
  have gd := good_namedN hn g
  have ix : ∀ {x i : Nat}, ns[x]? = some (i : Int) → ns.idxOf (i : Int) = x := fun {x i} e => by
    have hm := List.mem_of_getElem? e
    have h1 : ns.idxOf (i : Int) < ns.length := List.idxOf_lt_length_of_mem hm
    have h2 : ns[ns.idxOf (i : Int)]? = some (i : Int) := by rw [List.getElem?_eq_getElem h1, List.getElem_idxOf h1]
    exact nodup_inj hn.nd h2 e
  have rw_ : ∀ (k : Nat) r r', a[k]? = some r → (namedN ns a)[k]? = some r' → r.length = s ∧ r' = namedR ns r := fun k r r' e e' => by
    unfold namedN at e'
    rw [List.getElem?_map, e] at e'
    cases e'
    exact ⟨(g.row r (List.mem_of_getElem? e)).len, rfl⟩
  refine ⟨g, gd, fun s2 c gc hs => Nat.le_antisymm ?_ ?_⟩
  · refine kin_le (good_prodN g gc hs) (good_prodN gd gc hs) (emb_prod (φ := fun x => (ns.getD x 0).toNat) g gd gc (fun k r r' e e' x hx y t h => ?_) (fun x hx => ?_) fun x y hx hy e => ?_) fun p hp => ?_
    · obtain ⟨l, rfl⟩ := rw_ k r r' e e'
      obtain ⟨i, ei, _, di⟩ := hn.get hx
      have hy : y < s := by
        obtain ⟨y', _, e1, hy, _⟩ := (g.row r (List.mem_of_getElem? e)).ok x hx
        rw [h] at e1
        have := congrArg Prod.fst (Option.some.inj e1)
        have e2 : (y : Int) = (y' : Int) := this
        omega
      obtain ⟨j, ej, _, dj⟩ := hn.get hy
      show (namedR ns r)[(ns.getD x 0).toNat]? = some ((((ns.getD y 0).toNat : Nat) : Int), t)
      rw [di, dj, Int.toNat_natCast, Int.toNat_natCast, namedR_get hn l ei h]
      unfold namedP
      rw [Int.toNat_natCast, dj]
    · obtain ⟨i, _, hi, di⟩ := hn.get hx
      show (ns.getD x 0).toNat < s
      rw [di, Int.toNat_natCast]
      exact hi
    · obtain ⟨i, ei, _, di⟩ := hn.get hx
      obtain ⟨j, ej, _, dj⟩ := hn.get hy
      have e : (ns.getD x 0).toNat = (ns.getD y 0).toNat := e
      rw [di, dj, Int.toNat_natCast, Int.toNat_natCast] at e
      subst e
      exact nodup_inj hn.nd ei ej
    · obtain ⟨i, _, hi, di⟩ := hn.get (mod_lt' hp)
      show p / s * s + (ns.getD (p % s) 0).toNat < _
      rw [di, Int.toNat_natCast]
      exact pair_lt hi (div_lt hp)
  · have lt : ∀ i, i < s → ns.idxOf (i : Int) < s := fun i hi => by
      obtain ⟨x, hx, e⟩ := hn.all hi
      rw [ix e]
      exact hx
    refine kin_le (good_prodN gd gc hs) (good_prodN g gc hs) (emb_prod (φ := fun i : Nat => ns.idxOf (i : Int)) gd g gc (fun k r' r e' e i hi j t h => ?_) lt fun i j hi hj e => ?_) fun p hp => pair_lt (lt _ (mod_lt' hp)) (div_lt hp)
    · obtain ⟨l, rfl⟩ := rw_ k r r' e e'
      obtain ⟨x, hx, ex⟩ := hn.all hi
      obtain ⟨y, t', e1, hy, _⟩ := (g.row r (List.mem_of_getElem? e)).ok x hx
      obtain ⟨w, ew, _, dw⟩ := hn.get hy
      rw [namedR_get hn l ex e1] at h
      unfold namedP at h
      rw [Int.toNat_natCast, dw] at h
      have h := Option.some.inj h
      have h1 : (w : Int) = (j : Int) := congrArg Prod.fst h
      have h2 : t' = t := congrArg Prod.snd h
      have h3 : w = j := by omega
      subst h2
      subst h3
      show r[ns.idxOf (i : Int)]? = some (((ns.idxOf (w : Int) : Nat) : Int), t')
      rw [ix ex, ix ew]
      exact e1
    · obtain ⟨x, _, ex⟩ := hn.all hi
      obtain ⟨y, _, ey⟩ := hn.all hj
      have e : ns.idxOf (i : Int) = ns.idxOf (j : Int) := e
      rw [ix ex, ix ey] at e
      subst e
      rw [ex] at ey
      have := Option.some.inj ey
      omega
theorem GoodRow.inv {r : Row} {x y : Nat} {t : Int} (g : GoodRow s r) (hx : x < s) (e : r[x]? = some ((y : Int), t)) : y < s ∧ (t = 1 ∨ t = -1) ∧ r[y]? = some ((x : Int), t) := by
  obtain ⟨y', t', e1, h1, h2, h3⟩ := g.ok x hx
  rw [e] at e1
  have e1 := Option.some.inj e1
  have h4 : (y : Int) = (y' : Int) := congrArg Prod.fst e1
  have h5 : t = t' := congrArg Prod.snd e1
  have h6 : y = y' := by omega
  subst h5
  subst h6
  exact ⟨h1, h2, h3⟩
theorem GoodRow.inj {r : Row} {x y z : Nat} {t u : Int} (g : GoodRow s r) (hx : x < s) (hy : y < s) (e : r[x]? = some ((z : Int), t)) (e' : r[y]? = some ((z : Int), u)) : x = y := by
  obtain ⟨_, _, h1⟩ := g.inv hx e
  obtain ⟨_, _, h2⟩ := g.inv hy e'
  rw [h1] at h2
  have : (x : Int) = (y : Int) := congrArg Prod.fst (Option.some.inj h2)
  omega
theorem sum_pick {f : Nat → Int} {z : Nat} (hz : z < s) : sumZ ((List.range s).map fun y => if y = z then f y else 0) = f z := by
  rw [sumZ_congr (h := fun y => if z = y then f z else 0) fun y _ => ?_]
  · exact sumZ_one List.nodup_range (List.mem_range.mpr hz)
  · by_cases e : y = z
    · subst e
      simp
    · rw [if_neg e, if_neg fun h => e h.symm]
def okR (s : Nat) (T : Nat → Nat → Int) (ra rb : Row) : Bool := (List.range s).all fun x => (List.range s).all fun y => T (rb.getD y (0, 1)).1.toNat (ra.getD x (0, 1)).1.toNat == T y x * ((rb.getD y (0, 1)).2 * (ra.getD x (0, 1)).2)
theorem okR_carr {T : Nat → Nat → Int} {ra rb : Row} (h : okR s T ra rb = true) {x x' y y' : Nat} {u t : Int} (hx : x < s) (hy : y < s) (e1 : ra[x]? = some ((x' : Int), u)) (e2 : rb[y]? = some ((y' : Int), t)) : T y' x' = T y x * (t * u) := by
  have := List.all_eq_true.mp (List.all_eq_true.mp h x (List.mem_range.mpr hx)) y (List.mem_range.mpr hy)
  rw [List.getD_eq_getElem?_getD, List.getD_eq_getElem?_getD, e1, e2] at this
  simpa using this
def okI (s : Nat) (S T : Nat → Nat → Int) (d : Int) : Bool := (List.range s).all fun x => (List.range s).all fun x' => (sumZ ((List.range s).map fun y => S x y * T y x') == if x = x' then d else 0) && (sumZ ((List.range s).map fun y => S y x * T x' y) == if x = x' then d else 0)
theorem okI_inv {S T : Nat → Nat → Int} (h : okI s S T d = true) {x x' : Nat} (hx : x < s) (hx' : x' < s) : sumZ ((List.range s).map fun y => S x y * T y x') = (if x = x' then d else 0) ∧ sumZ ((List.range s).map fun y => S y x * T x' y) = if x = x' then d else 0 := by
  have := List.all_eq_true.mp (List.all_eq_true.mp h x (List.mem_range.mpr hx)) x' (List.mem_range.mpr hx')
  rw [Bool.and_eq_true] at this
  exact ⟨by simpa using this.1, by simpa using this.2⟩
/-- sides where both plans have one sign at every copy -/
def rimR (s : Nat) (e : Int) : Row := (List.range s).map fun x : Nat => ((x : Int), e)
theorem rimR_get {e : Int} {x : Nat} (hx : x < s) : (rimR s e)[x]? = some ((x : Int), e) := by
  unfold rimR
  rw [List.getElem?_map, List.getElem?_range hx]
  rfl
theorem Alk.table {A B more : Net} (hc : ∀ (k : Nat) (ra rb : Row), A[k]? = some ra → B[k]? = some rb → okR s T ra rb = true) (hl : A.length = B.length) (hi : okI s S T d = true) (d0 : d ≠ 0) (hm : ∀ r ∈ more, ∃ e, (e = 1 ∨ e = -1) ∧ r = rimR s e) (ga : GoodNet many s (A ++ more)) (gb : GoodNet many s (B ++ more)) : Alk many s (A ++ more) (B ++ more) := by
  refine Alk.of_carr (T := T) (S := S) (d := d) ga gb (fun k ra rb ea eb x x' y y' u v hx hy e1 e2 => ?_) d0 (fun x x' hx hx' => (okI_inv hi hx hx').1) (fun y y' hy hy' => (okI_inv hi hy hy').2)
  by_cases hk : k < A.length
  · rw [List.getElem?_append_left hk] at ea
    rw [List.getElem?_append_left (by omega)] at eb
    exact okR_carr (hc k ra rb ea eb) hx hy e1 e2
  · rw [List.getElem?_append_right (by omega)] at ea
    rw [List.getElem?_append_right (by omega), ← hl, ea] at eb
    cases eb
    obtain ⟨e, he, rfl⟩ := hm ra (List.mem_of_getElem? ea)
    rw [rimR_get hx] at e1
    rw [rimR_get hy] at e2
    cases e1
    cases e2
    rcases he with rfl | rfl <;> omega
end
end L3
namespace L3
open PySem PySem.Spec PyProof.Rows L2
section
variable {many n : Nat} {net : Net}
structure FoldRel (n : Nat) (r w o : Row) : Prop where
  lw : w.length = n + n
  lo : o.length = n
  at_ : ∀ (x x' : Nat) (s : Int), x < n → r[x]? = some ((x' : Int), s) → (w[x]? = some ((x' : Int), s) ∧ w[x + n]? = some (((x' + n : Nat) : Int), s) ∧ o[x]? = some ((x' : Int), s)) ∨ (x' = x ∧ w[x]? = some (((x + n : Nat) : Int), s) ∧ w[x + n]? = some ((x : Int), s) ∧ o[x]? = some ((x : Int), -s))
theorem FoldRel.start {r : Row} (g : GoodRow n r) : FoldRel n r (r ++ shiftR n r) r := by
  have l := g.len
  refine ⟨by simp [shiftR, l], l, fun x x' s hx h => .inl ⟨by rw [List.getElem?_append_left (by omega)]; exact h, ?_, h⟩⟩
  rw [List.getElem?_append_right (by omega), l, Nat.add_sub_cancel, shiftR_get h]
  congr 2
theorem FoldRel.step {r w o : Row} (h : FoldRel n r w o) {x : Nat} {s : Int} (hx : x < n) (e : r[x]? = some ((x : Int), s)) : FoldRel n r ((w.set x (((x + n : Nat) : Int), s)).set (x + n) ((x : Int), s)) (o.set x ((x : Int), -s)) := by
  have lw := h.lw
  have lo := h.lo
  refine ⟨by simp [lw], by simp [lo], fun y y' t hy e' => ?_⟩
  by_cases q : y = x
  · subst q
    rw [e] at e'
    have e' := Option.some.inj e'
    have f1 : (y : Int) = (y' : Int) := congrArg Prod.fst e'
    have f2 : s = t := congrArg Prod.snd e'
    subst f2
    refine .inr ⟨by omega, ?_, ?_, ?_⟩
    · rw [List.getElem?_set_ne (by omega), List.getElem?_set_self (by omega)]
    · rw [List.getElem?_set_self (by rw [List.length_set]; omega)]
    · rw [List.getElem?_set_self (by omega)]
  · have := h.at_ y y' t hy e'
    rw [List.getElem?_set_ne (by omega), List.getElem?_set_ne (by omega), List.getElem?_set_ne (by omega), List.getElem?_set_ne (by omega), List.getElem?_set_ne (by omega)]
    exact this
end
end L3
namespace L3
open PySem PySem.Spec PyProof.Rows L2
def matQ (h w : Nat) (f : Nat → Nat → Int) : List D := (List.range h).map fun y => .lst (rowI w (f y))
theorem matQ_len {h w : Nat} {f : Nat → Nat → Int} : (matQ h w f).length = h := by simp [matQ]
theorem matQ_at {h w k : Nat} {f : Nat → Nat → Int} (hk : k < h) : (matQ h w f)[k]? = some (.lst (rowI w (f k))) := by
  unfold matQ
  rw [List.getElem?_map, List.getElem?_range hk]
  rfl
theorem matQ_get {h w i : Nat} {f : Nat → Nat → Int} {y : D} (e : (matQ h w f)[i]? = some y) : i < h ∧ y = .lst (rowI w (f i)) := by
  have hi := (List.getElem?_eq_some_iff.mp e).1
  rw [matQ_len] at hi
  rw [matQ_at hi] at e
  exact ⟨hi, (Option.some.inj e).symm⟩
open Classical in
theorem balB_iff {n : Net} {z : Nat} : balB n z = true ↔ Bal n z := by
  unfold balB
  exact decide_eq_true_iff
theorem matQ_pu {h w : Nat} {f : Nat → Nat → Int} : Pu 2 (.lst (matQ h w f)) := Pu.map fun _ _ => rowI_pu
end L3
namespace L3
open PySem PySem.Spec PyProof.Rows L2
section
variable {many size : Nat} {n : Net} {folk : List Nat} {f : Nat → Nat}
theorem Folk.emb (h : Folk size n folk) (g : GoodNet many size n) : Emb folk.length (partN folk n) n (fun i => folk.getD i 0) where
  inj := fun i j hi hj e => by
    have ei : folk[i]? = some folk[i] := List.getElem?_eq_getElem hi
    have ej : folk[j]? = some folk[j] := List.getElem?_eq_getElem hj
    have e : folk.getD i 0 = folk.getD j 0 := e
    rw [List.getD_eq_getElem?_getD, List.getD_eq_getElem?_getD, ei, ej] at e
    have e : folk[i] = folk[j] := e
    rw [← e] at ej
    exact nodup_inj h.nd ei ej
  fwd := fun i j s hi a => by
    obtain ⟨k, r', e', ea⟩ := sadj_k.mp a
    have hk : k < many := by
      have := (List.getElem?_eq_some_iff.mp e').1
      unfold partN at this
      rw [List.length_map, g.len] at this
      exact this
    obtain ⟨r, er, gr⟩ := g.get hk
    unfold partN at e'
    rw [List.getElem?_map, er] at e'
    have e' := (Option.some.inj e').symm
    subst e'
    have ei : folk[i]? = some folk[i] := List.getElem?_eq_getElem hi
    have hx := h.lt _ (List.getElem_mem hi)
    obtain ⟨y, t, e1, hy, _, _⟩ := gr.ok _ hx
    rw [partR_get ei e1] at ea
    have ea := Option.some.inj ea
    have h1 : ((folk.idxOf y : Nat) : Int) = (j : Int) := congrArg Prod.fst ea
    have h2 : t = s := congrArg Prod.snd ea
    have h3 : folk.idxOf y = j := by omega
    have ym : y ∈ folk := h.cl _ (List.getElem_mem hi) _ ⟨r, List.mem_of_getElem? er, t, e1⟩
    have ey : folk.getD j 0 = y := by rw [← h3, List.getD_eq_getElem?_getD, idx_get ym]; rfl
    show sadj n (folk.getD i 0) (folk.getD j 0) s
    rw [ey, List.getD_eq_getElem?_getD, ei, ← h2]
    exact ⟨r, List.mem_of_getElem? er, e1⟩
  bwd := fun i z s hi a => by
    have ei : folk[i]? = some folk[i] := List.getElem?_eq_getElem hi
    have a : sadj n (folk.getD i 0) z s := a
    rw [List.getD_eq_getElem?_getD, ei] at a
    obtain ⟨k, r, er, ea⟩ := sadj_k.mp a
    have ea : r[folk[i]]? = some ((z : Int), s) := ea
    have zm : z ∈ folk := h.cl _ (List.getElem_mem hi) _ ⟨r, List.mem_of_getElem? er, s, ea⟩
    have iz : folk.idxOf z < folk.length := List.idxOf_lt_length_of_mem zm
    refine ⟨folk.idxOf z, iz, ?_, ?_⟩
    · show z = folk.getD (folk.idxOf z) 0
      rw [List.getD_eq_getElem?_getD, idx_get zm]
      rfl
    · refine sadj_k.mpr ⟨k, partR folk r, ?_, partR_get ei ea⟩
      unfold partN
      rw [List.getElem?_map, er]
      rfl
theorem Low.bal (w : Low n f) (g : GoodNet many size n) {z : Nat} (hz : z ∈ headL size f) : balB (partN (partL size f z) n) 0 = balB n z := by
  have fo := w.isFolk g hz
  have em := fo.emb g
  have gp := fo.net g
  have zz := mem_headL.mp hz
  have zm : z ∈ partL size f z := mem_partL.mpr zz
  have h0 : 0 < (partL size f z).length := List.length_pos_of_mem zm
  have e0 := em.bal gp h0
  have r : Reach n ((partL size f z).getD 0 0) z := by
    have ej : (partL size f z)[0]? = some (partL size f z)[0] := List.getElem?_eq_getElem h0
    refine (w.iff g).mpr ?_
    rw [List.getD_eq_getElem?_getD, ej, zz.2]
    exact (mem_partL.mp (List.getElem_mem h0)).2
  have e1 : Bal n ((partL size f z).getD 0 0) ↔ Bal n z := ⟨fun b => bal_on g b r, fun b => bal_on g b (reach_symm g r)⟩
  have : (balB (partN (partL size f z) n) 0 = true) ↔ (balB n z = true) := by
    rw [balB_iff, balB_iff]
    exact e0.trans e1
  cases a : balB (partN (partL size f z) n) 0 <;> cases b : balB n z <;> simp_all
end
section
variable {many size : Nat} {n : Net} {f : Nat → Nat}
theorem Low.head (w : Low n f) {z : Nat} : f z = z ↔ IsHead n z := ⟨fun e y r => by
  have := w.min z y r
  omega, fun h => Nat.le_antisymm (w.min z z reach_refl) (h _ (w.re z))⟩
open Classical in
theorem Low.heads (w : Low n f) : headL size f = L3.heads n size := by
  unfold headL L3.heads
  refine List.filter_congr fun z _ => ?_
  rw [Bool.eq_iff_iff, beq_iff_eq, decide_eq_true_iff]
  exact w.head
open Classical in
theorem Low.comp (w : Low n f) (g : GoodNet many size n) {z : Nat} (hz : f z = z) : partL size f z = L3.comp n size z := by
  unfold partL L3.comp
  refine List.filter_congr fun x _ => ?_
  rw [Bool.eq_iff_iff, beq_iff_eq, decide_eq_true_iff, w.iff g, hz]
  exact eq_comm
end
end L3
namespace L3
open PySem PySem.Spec PyProof.Rows L2
/-- a row at a column of numbers -/
def dotN (n : Nat) (r X : Nat → Int) : Int := sumZ ((List.range n).map fun z => r z * X z)
/-- leads in order: each has its spot, nothing ahead of it -/
inductive Ech : Nat → List (Nat × (Nat → Int)) → Prop
  | nil (n : Nat) : Ech n []
  | snoc {n s : Nat} {ls : List (Nat × (Nat → Int))} {l : Nat → Int} : Ech s ls → s < n → l s ≠ 0 → (∀ z, z < s → l z = 0) → Ech n (ls ++ [(s, l)])
theorem Ech.mono {n m : Nat} {ls : List (Nat × (Nat → Int))} (h : Ech n ls) (le : n ≤ m) : Ech m ls := by
  cases h with
  | nil => exact .nil m
  | snoc h1 h2 h3 h4 => exact .snoc h1 (by omega) h3 h4
theorem Ech.lt {n : Nat} {ls : List (Nat × (Nat → Int))} (h : Ech n ls) : ∀ p ∈ ls, p.1 < n := by
  induction h with
  | nil => exact fun p hp => nomatch hp
  | snoc h1 h2 _ _ ih =>
    intro p hp
    rcases List.mem_append.mp hp with hp | hp
    · exact Nat.lt_trans (ih p hp) h2
    · rw [List.mem_singleton.mp hp]
      exact h2
theorem Ech.nodup {n : Nat} {ls : List (Nat × (Nat → Int))} (h : Ech n ls) : (ls.map Prod.fst).Nodup := by
  induction h with
  | nil => simp
  | snoc h1 h2 _ _ ih =>
    rw [List.map_append, List.map_singleton]
    refine List.nodup_append.mpr ⟨ih, by simp, fun a ha b hb e => ?_⟩
    obtain ⟨p, hp, rfl⟩ := List.mem_map.mp ha
    have := h1.lt p hp
    rw [List.mem_singleton.mp hb] at e
    omega
/-- zero at the free columns: zero -/
theorem Ech.zero {N : Nat} {X : Nat → Int} {n : Nat} {ls : List (Nat × (Nat → Int))} (h : Ech n ls) : n ≤ N → (∀ p ∈ ls, dotN N p.2 X = 0) → (∀ z, z < N → n ≤ z → X z = 0) → (∀ z, z < n → z ∉ ls.map Prod.fst → X z = 0) → ∀ z, z < N → X z = 0 := by
  induction h with
  | nil n =>
    intro _ _ hi free z hz
    by_cases c : z < n
    · exact free z c (by simp)
    · exact hi z hz (by omega)
  | @snoc n s ls l h1 h2 h3 h4 ih =>
    intro hn hd hi free
    have above : ∀ z, z < N → s < z → X z = 0 := fun z hz hs => by
      by_cases c : z < n
      · refine free z c fun m => ?_
        obtain ⟨p, hp, e⟩ := List.mem_map.mp m
        rcases List.mem_append.mp hp with hp | hp
        · have := h1.lt p hp
          omega
        · rw [List.mem_singleton.mp hp] at e
          have e : s = z := e
          omega
      · exact hi z hz (by omega)
    have d := hd (s, l) (by simp)
    have es : dotN N l X = l s * X s := by
      unfold dotN
      rw [sumZ_congr (h := fun z => if s = z then l s * X s else 0) fun z hz => ?_]
      · exact sumZ_one List.nodup_range (List.mem_range.mpr (by omega))
      · have hz := List.mem_range.mp hz
        by_cases c : s = z
        · subst c
          rw [if_pos rfl]
        · rw [if_neg c]
          rcases Nat.lt_or_ge z s with h | h
          · rw [h4 z h, Int.zero_mul]
          · rw [above z hz (by omega), Int.mul_zero]
    have xs : X s = 0 := by
      have d : dotN N l X = 0 := d
      rw [es] at d
      rcases Int.mul_eq_zero.mp d with q | q
      · exact absurd q h3
      · exact q
    refine ih (by omega) (fun p hp => hd p (List.mem_append_left _ hp)) (fun z hz hs => ?_) (fun z hz hm => ?_)
    · rcases Nat.lt_or_ge s z with h | h
      · exact above z hz h
      · have : z = s := by omega
        rw [this]
        exact xs
    · refine free z (by omega) fun m => hm ?_
      obtain ⟨p, hp, e⟩ := List.mem_map.mp m
      rcases List.mem_append.mp hp with hp | hp
      · exact List.mem_map.mpr ⟨p, hp, e⟩
      · rw [List.mem_singleton.mp hp] at e
        have e : s = z := e
        omega
theorem filter_both {α : Type} {p : α → Bool} : ∀ {l : List α}, (l.filter p).length + (l.filter fun z => !p z).length = l.length
  | [] => rfl
  | x :: l => by
    have ih := filter_both (p := p) (l := l)
    cases e : p x
    · rw [List.filter_cons_of_neg (by simp [e]), List.filter_cons_of_pos (by simp [e]), List.length_cons, List.length_cons]
      omega
    · rw [List.filter_cons_of_pos e, List.filter_cons_of_neg (by simp [e]), List.length_cons, List.length_cons]
      omega
theorem dot_comb {n : Nat} {x l X : Nat → Int} {u v : Int} : dotN n (fun z => u * x z - v * l z) X = u * dotN n x X - v * dotN n l X := by
  unfold dotN
  rw [← sumZ_mulL, ← sumZ_mulL, Int.sub_eq_add_neg, ← Int.neg_one_mul, ← sumZ_mulL, ← sumZ_add]
  refine sumZ_congr fun z _ => ?_
  rw [Int.sub_mul, Int.mul_assoc, Int.mul_assoc]
  omega
theorem dot_scale {n : Nat} {x X : Nat → Int} {u : Int} : dotN n (fun z => u * x z) X = u * dotN n x X := by
  unfold dotN
  rw [← sumZ_mulL]
  exact sumZ_congr fun z _ => Int.mul_assoc _ _ _
theorem dot_zero {n : Nat} {x X : Nat → Int} (h : ∀ z, z < n → x z = 0) : dotN n x X = 0 := sumZ_zero fun z hz => by rw [h z (List.mem_range.mp hz), Int.zero_mul]
structure ElimAt (N : Nat) (lines : List (Nat → Int)) (spot : Nat) (rest : List (Nat → Int)) (ls : List (Nat × (Nat → Int))) : Prop where
  ech : Ech spot ls
  low : ∀ r ∈ rest, ∀ z, z < spot → r z = 0
  sol : ∀ X, (∀ r ∈ lines, dotN N r X = 0) ↔ (∀ p ∈ ls, dotN N p.2 X = 0) ∧ ∀ r ∈ rest, dotN N r X = 0
section
variable {N spot : Nat} {lines rest rest' : List (Nat → Int)} {ls : List (Nat × (Nat → Int))} {lead : Nat → Int}
theorem ElimAt.step (e : ElimAt N lines spot rest ls) (hl : lead ∈ rest) (h0 : lead spot ≠ 0) (low' : ∀ r ∈ rest', ∀ z, z < spot + 1 → r z = 0) (h : ∀ X, dotN N lead X = 0 → ((∀ r ∈ rest, dotN N r X = 0) ↔ ∀ r ∈ rest', dotN N r X = 0)) : ElimAt N lines (spot + 1) rest' (ls ++ [(spot, lead)]) :=
  ⟨.snoc e.ech (by omega) h0 (e.low lead hl), low', fun X => by
    rw [e.sol X]
    constructor
    · rintro ⟨h1, h2⟩
      have d := h2 lead hl
      refine ⟨fun p hp => ?_, (h X d).mp h2⟩
      rcases List.mem_append.mp hp with hp | hp
      · exact h1 p hp
      · rw [List.mem_singleton.mp hp]
        exact d
    · rintro ⟨h1, h2⟩
      have d : dotN N lead X = 0 := h1 (spot, lead) (by simp)
      exact ⟨fun p hp => h1 p (List.mem_append_left _ hp), (h X d).mpr h2⟩⟩
theorem ElimAt.fin (e : ElimAt N lines N rest ls) : Ech N ls ∧ ∀ X, (∀ r ∈ lines, dotN N r X = 0) ↔ ∀ p ∈ ls, dotN N p.2 X = 0 :=
  ⟨e.ech, fun X => (e.sol X).trans ⟨fun h => h.1, fun h => ⟨h, fun r hr => dot_zero fun z hz => e.low r hr z hz⟩⟩⟩
end
end L3
namespace L3
open PySem PySem.Spec PyProof.Rows L2
theorem rowI_set {n q : Nat} {g h : Nat → Int} {v : Int} (hv : v = h q) (hh : ∀ p, p < n → p ≠ q → h p = g p) : (rowI n g).set q (.int v) = rowI n h := by
  refine List.ext_getElem? fun p => ?_
  by_cases hp : p < n
  · by_cases e : q = p
    · subst e
      rw [List.getElem?_set_self (by rw [rowI_len]; exact hp), rowI_at hp, hv]
    · rw [List.getElem?_set_ne e, rowI_at hp, rowI_at hp, hh p hp fun x => e x.symm]
  · rw [List.getElem?_eq_none (by rw [List.length_set, rowI_len]; omega), List.getElem?_eq_none (by rw [rowI_len]; omega)]
/-- what behind a head comes of the rows x of l: rows that are zero to the spot, bounded, and say the same -/
structure Elim1 (n s : Nat) (lead : Nat → Int) (xs news : List (Nat → Int)) : Prop where
  low : ∀ r ∈ news, ∀ z, z < s + 1 → r z = 0
  sol : ∀ X, dotN n lead X = 0 → ((∀ r ∈ xs, dotN n r X = 0) ↔ ∀ r ∈ news, dotN n r X = 0)
def combF (lead x : Nat → Int) (s z : Nat) : Int := lead s * x z - x s * lead z
section
variable {n s : Nat} {lead x : Nat → Int} {xs news : List (Nat → Int)}
theorem Elim1.nil : Elim1 n s lead [] [] := ⟨fun _ h => (nomatch h), fun X _ => Iff.rfl⟩
theorem comb_low (hl : ∀ z, z < s → lead z = 0) (hx : ∀ z, z < s → x z = 0) (z : Nat) (hz : z < s + 1) : combF lead x s z = 0 := by
  unfold combF
  rcases Nat.lt_or_ge z s with c | c
  · rw [hl z c, hx z c, Int.mul_zero, Int.mul_zero]
    rfl
  · have : z = s := by omega
    subst this
    rw [Int.mul_comm (x z)]
    omega
theorem comb_dot {X : Nat → Int} (d : dotN n lead X = 0) : dotN n (combF lead x s) X = lead s * dotN n x X := by
  show dotN n (fun z => lead s * x z - x s * lead z) X = _
  rw [dot_comb, d, Int.mul_zero, Int.sub_zero]
theorem Elim1.zero (e : Elim1 n s lead xs news) (h0 : lead s ≠ 0) (hz : ∀ z, z < n → combF lead x s z = 0) : Elim1 n s lead (xs ++ [x]) news :=
  ⟨e.low, fun X d => by
    rw [← e.sol X d]
    have q : dotN n x X = 0 := by
      have := comb_dot (x := x) (s := s) d
      rw [dot_zero hz] at this
      rcases Int.mul_eq_zero.mp this.symm with h | h
      · exact absurd h h0
      · exact h
    constructor
    · exact fun h r hr => h r (List.mem_append_left _ hr)
    · intro h r hr
      rcases List.mem_append.mp hr with hr | hr
      · exact h r hr
      · rw [List.mem_singleton.mp hr]
        exact q⟩
theorem Elim1.snoc (e : Elim1 n s lead xs news) (h0 : lead s ≠ 0) (hl : ∀ z, z < s → lead z = 0) (hx : ∀ z, z < s → x z = 0) (hs : s < n) {g : Int} (g0 : 0 < g) (gd : ∀ z, z < n → g ∣ combF lead x s z) : Elim1 n s lead (xs ++ [x]) (news ++ [fun z => combF lead x s z / g]) :=
  ⟨fun r hr z hz => by
    rcases List.mem_append.mp hr with hr | hr
    · exact e.low r hr z hz
    · rw [List.mem_singleton.mp hr]
      show combF lead x s z / g = 0
      rw [comb_low hl hx z hz, Int.zero_ediv],
   fun X d => by
    have q : dotN n x X = 0 ↔ dotN n (fun z => combF lead x s z / g) X = 0 := by
      have e1 := comb_dot (x := x) (s := s) d
      have e2 : dotN n (combF lead x s) X = g * dotN n (fun z => combF lead x s z / g) X := by
        rw [← dot_scale]
        unfold dotN
        refine sumZ_congr fun z hz => ?_
        show _ = (g * (combF lead x s z / g)) * X z
        rw [Int.mul_ediv_cancel' (gd z (List.mem_range.mp hz))]
      rw [e2] at e1
      constructor
      · intro h
        rw [h, Int.mul_zero] at e1
        rcases Int.mul_eq_zero.mp e1 with h | h
        · omega
        · exact h
      · intro h
        rw [h, Int.mul_zero] at e1
        rcases Int.mul_eq_zero.mp e1.symm with h | h
        · exact absurd h h0
        · exact h
    constructor
    · intro h r hr
      rcases List.mem_append.mp hr with hr | hr
      · exact (e.sol X d).mp (fun r hr => h r (List.mem_append_left _ hr)) r hr
      · rw [List.mem_singleton.mp hr]
        exact q.mp (h x (by simp))
    · intro h r hr
      rcases List.mem_append.mp hr with hr | hr
      · exact (e.sol X d).mpr (fun r hr => h r (List.mem_append_left _ hr)) r hr
      · rw [List.mem_singleton.mp hr]
        exact q.mpr (h _ (by simp))⟩
end
def Short (n : Nat) (r : Nat → Int) : Prop := ∃ (p q : Nat) (α β : Int), (∀ z, z < n → r z = (if z = p then α else 0) + (if z = q then β else 0)) ∧ p ≠ q ∧ ((α.natAbs ≤ 1 ∧ β.natAbs ≤ 1) ∨ (α.natAbs ≤ 2 ∧ β = 0))
theorem Short.two {n p q : Nat} {r : Nat → Int} {α β : Int} (e : ∀ z, z < n → r z = (if z = p then α else 0) + (if z = q then β else 0)) (ha : α.natAbs ≤ 1) (hb : β.natAbs ≤ 1) : Short n r := by
  by_cases h : p = q
  · subst h
    refine ⟨p, p + 1, α + β, 0, fun z hz => ?_, by omega, .inr ⟨by omega, rfl⟩⟩
    rw [e z hz]
    split <;> split <;> omega
  · exact ⟨p, q, α, β, e, h, .inl ⟨ha, hb⟩⟩
theorem Short.at_ {n s : Nat} {r : Nat → Int} (h : Short n r) (hs : s < n) (h0 : r s ≠ 0) : ∃ (u : Nat) (α β : Int), u ≠ s ∧ (∀ z, z < n → r z = (if z = s then α else 0) + (if z = u then β else 0)) ∧ r s = α ∧ ((α.natAbs ≤ 1 ∧ β.natAbs ≤ 1) ∨ (α.natAbs ≤ 2 ∧ β = 0)) := by
  obtain ⟨p, q, α, β, e, hne, hb⟩ := h
  have es := e s hs
  by_cases hp : s = p
  · subst hp
    rw [if_pos rfl, if_neg hne] at es
    exact ⟨q, α, β, fun h => hne h.symm, e, by omega, hb⟩
  · rw [if_neg hp] at es
    by_cases hq : s = q
    · subst hq
      rw [if_pos rfl] at es
      refine ⟨p, β, α, fun h => hp h.symm, fun z hz => by rw [e z hz]; omega, by omega, ?_⟩
      rcases hb with hb | hb
      · exact .inl ⟨hb.2, hb.1⟩
      · omega
    · rw [if_neg hq] at es
      omega
/-- rows that share no column -/
def Apt (n : Nat) (r q : Nat → Int) : Prop := ∀ z, z < n → r z ≠ 0 → q z = 0
def Kind (n : Nat) (fs : List (Nat → Int)) : Prop := (∀ f ∈ fs, Short n f) ∨ ((∀ f ∈ fs, ∀ z, z < n → (f z).natAbs ≤ 2) ∧ fs.Pairwise (Apt n))
theorem Kind.filter {n : Nat} {fs : List (Nat → Int)} (h : Kind n fs) (p : (Nat → Int) → Bool) : Kind n (fs.filter p) := by
  rcases h with h | ⟨h1, h2⟩
  · exact .inl fun f hf => h f (List.mem_filter.mp hf).1
  · exact .inr ⟨fun f hf => h1 f (List.mem_filter.mp hf).1, h2.filter p⟩
structure ElimW (n : Nat) (lines : List (Nat → Int)) (spot : Nat) (rest : List (Nat → Int)) (ls : List (Nat × (Nat → Int))) : Prop where
  at_ : ElimAt n lines spot rest ls
  kind : Kind n rest
  cnt : rest.length ≤ lines.length
section
variable {n spot : Nat} {lines rest news : List (Nat → Int)} {ls : List (Nat × (Nat → Int))} {lead : Nat → Int} {tail : List (Nat → Int)}
theorem ElimW.start {p : (Nat → Int) → Bool} (hp : ∀ f ∈ lines, p f = false → ∀ z, z < n → f z = 0) (hb : Kind n lines) : ElimW n lines 0 (lines.filter p) [] :=
  ⟨⟨.nil _, fun _ _ z hz => absurd hz (Nat.not_lt_zero _), fun X => by
    refine ⟨fun h => ⟨fun _ h => (nomatch h), fun r hr => h r (List.mem_filter.mp hr).1⟩, fun h r hr => ?_⟩
    cases e : p r
    · exact dot_zero (hp r hr e)
    · exact h.2 r (List.mem_filter.mpr ⟨hr, e⟩)⟩, hb.filter p, List.length_filter_le _ _⟩
theorem ElimW.step (e : ElimW n lines spot rest ls) (hs : spot < n) (h : rest.filter (fun f => decide (f spot ≠ 0)) = lead :: tail) (w : Elim1 n spot lead tail news) (hc : news.length ≤ tail.length) (hk : (∀ f ∈ news, Short n f) ∨ tail = []) (hk2 : (∀ f ∈ rest, Short n f) ∨ tail = []) : ElimW n lines (spot + 1) (rest.filter (fun f => decide (f spot = 0)) ++ news) (ls ++ [(spot, lead)]) := by
  have mem : ∀ r, r ∈ lead :: tail ↔ r ∈ rest ∧ r spot ≠ 0 := fun r => by rw [← h, List.mem_filter, decide_eq_true_iff]
  obtain ⟨m1, m2⟩ := (mem lead).mp List.mem_cons_self
  refine ⟨e.at_.step m1 m2 (fun r hr z hz => ?_) (fun X d => ?_), ?_, ?_⟩
  · rcases List.mem_append.mp hr with hr | hr
    · obtain ⟨q1, q2⟩ := List.mem_filter.mp hr
      rcases Nat.lt_or_ge z spot with c | c
      · exact e.at_.low r q1 z c
      · have : z = spot := by omega
        rw [this]
        exact of_decide_eq_true q2
    · exact w.low r hr z hz
  · constructor
    · intro k r hr
      rcases List.mem_append.mp hr with hr | hr
      · exact k r (List.mem_filter.mp hr).1
      · exact (w.sol X d).mp (fun r hr => k r ((mem r).mp (List.mem_cons_of_mem _ hr)).1) r hr
    · intro k r hr
      by_cases c : r spot = 0
      · exact k r (List.mem_append_left _ (List.mem_filter.mpr ⟨hr, decide_eq_true c⟩))
      · rcases List.mem_cons.mp ((mem r).mpr ⟨hr, c⟩) with rfl | q
        · exact d
        · exact (w.sol X d).mpr (fun r hr => k r (List.mem_append_right _ hr)) r q
  · have gone : tail = [] → Kind n (rest.filter (fun f => decide (f spot = 0)) ++ news) := fun ht => by
      subst ht
      have : news = [] := List.eq_nil_of_length_eq_zero (by simpa using hc)
      subst this
      rw [List.append_nil]
      exact e.kind.filter _
    rcases hk with hk | hk
    · rcases hk2 with hk2 | hk2
      · refine Or.inl fun f hf => ?_
        rcases List.mem_append.mp hf with hf | hf
        · exact hk2 f (List.mem_filter.mp hf).1
        · exact hk f hf
      · exact gone hk2
    · exact gone hk
  · have := filter_both (l := rest) (p := fun f => decide (f spot = 0))
    have e2 : (rest.filter fun f => !decide (f spot = 0)) = rest.filter (fun f => decide (f spot ≠ 0)) := List.filter_congr fun f _ => by simp
    rw [e2, h] at this
    have c := e.cnt
    simp only [List.length_append, List.length_cons] at this ⊢
    omega
/-- all rows are short, or there is one head at most -/
theorem ElimW.alone (e : ElimW n lines spot rest ls) (hs : spot < n) (h : rest.filter (fun f => decide (f spot ≠ 0)) = lead :: tail) : (∀ f ∈ rest, Short n f) ∨ tail = [] := by
  rcases e.kind with k | ⟨_, k⟩
  · exact .inl k
  · right
    have p := k.filter (fun f => decide (f spot ≠ 0))
    rw [h] at p
    cases tail with
    | nil => rfl
    | cons x t =>
      have := (List.pairwise_cons.mp p).1 x List.mem_cons_self
      have m : ∀ r, r ∈ lead :: x :: t → r spot ≠ 0 := fun r hr => by
        rw [← h] at hr
        exact of_decide_eq_true (List.mem_filter.mp hr).2
      exact absurd (this spot hs (m lead List.mem_cons_self)) (m x (by simp))
end
end L3
namespace L3
open PySem PySem.Spec PyProof.Rows L2
open PySem.W (dataLt alike alikeAll keyToks keyToksAll AllAlike Sortable EachIs minD AlikeAll dataLe)
mutual
def numB : PyData → Bool
  | .int _ => true
  | .list xs => numBs xs
  | .tuple xs => numBs xs
  | _ => false
def numBs : List PyData → Bool
  | [] => true
  | x :: xs => numB x && numBs xs
end
mutual
theorem ord_lt : ∀ p q : PyData, numB p = true → numB q = true → alike p q = true → alike q p = true → ordB false p q = some (dataLt p q) ∧ ordB true p q = some (!dataLt q p)
  | .int i, .int j, _, _, _, _ => by
    rw [ordB, ordB, PySem.W.dataLt_int, PySem.W.dataLt_int]
    constructor
    · simp
    · simp only [if_true, Option.some.injEq]
      by_cases h : i ≤ j
      · rw [decide_eq_true h, decide_eq_false (by omega)]
        rfl
      · rw [decide_eq_false h, decide_eq_true (by omega)]
        rfl
  | .list xs, .list ys, hp, hq, h, h' => by
    rw [ordB, ordB, PySem.W.dataLt_list, PySem.W.dataLt_list]
    exact ords_lt xs ys (by rw [numB] at hp; exact hp) (by rw [numB] at hq; exact hq) (by rw [alike] at h; exact h) (by rw [alike] at h'; exact h')
  | .tuple xs, .tuple ys, hp, hq, h, h' => by
    rw [ordB, ordB, PySem.W.dataLt_tuple, PySem.W.dataLt_tuple]
    exact ords_lt xs ys (by rw [numB] at hp; exact hp) (by rw [numB] at hq; exact hq) (by rw [alike] at h; exact h) (by rw [alike] at h'; exact h')
  | .none, _, hp, _, _, _ => by simp [numB] at hp
  | .bool _, _, hp, _, _, _ => by simp [numB] at hp
  | .str _, _, hp, _, _, _ => by simp [numB] at hp
  | .dict _, _, hp, _, _, _ => by simp [numB] at hp
  | .int _, .none, _, hq, _, _ => by simp [numB] at hq
  | .int _, .bool _, _, hq, _, _ => by simp [numB] at hq
  | .int _, .str _, _, hq, _, _ => by simp [numB] at hq
  | .int _, .dict _, _, hq, _, _ => by simp [numB] at hq
  | .int _, .list _, _, _, h, _ => by simp [alike] at h
  | .int _, .tuple _, _, _, h, _ => by simp [alike] at h
  | .list _, .none, _, hq, _, _ => by simp [numB] at hq
  | .list _, .bool _, _, hq, _, _ => by simp [numB] at hq
  | .list _, .str _, _, hq, _, _ => by simp [numB] at hq
  | .list _, .dict _, _, hq, _, _ => by simp [numB] at hq
  | .list _, .int _, _, _, h, _ => by simp [alike] at h
  | .list _, .tuple _, _, _, h, _ => by simp [alike] at h
  | .tuple _, .none, _, hq, _, _ => by simp [numB] at hq
  | .tuple _, .bool _, _, hq, _, _ => by simp [numB] at hq
  | .tuple _, .str _, _, hq, _, _ => by simp [numB] at hq
  | .tuple _, .dict _, _, hq, _, _ => by simp [numB] at hq
  | .tuple _, .int _, _, _, h, _ => by simp [alike] at h
  | .tuple _, .list _, _, _, h, _ => by simp [alike] at h
theorem ords_lt : ∀ xs ys : List PyData, numBs xs = true → numBs ys = true → alikeAll xs ys = true → alikeAll ys xs = true → ordBs false xs ys = some (PyProof.Rows.lexLt itemOrd (keyToksAll xs) (keyToksAll ys)) ∧ ordBs true xs ys = some (!PyProof.Rows.lexLt itemOrd (keyToksAll ys) (keyToksAll xs))
  | [], [], _, _, _, _ => by
    rw [ordBs, ordBs]
    have e : PyProof.Rows.lexLt itemOrd (keyToksAll []) (keyToksAll []) = false := lex_irrefl _
    rw [e]
    exact ⟨rfl, rfl⟩
  | [], y :: ys, _, _, _, _ => by
    rw [ordBs, ordBs, PySem.W.toks_all_cons]
    constructor <;> rfl
  | x :: xs, [], _, _, _, _ => by
    rw [ordBs, ordBs, PySem.W.toks_all_cons]
    constructor <;> rfl
  | x :: xs, y :: ys, hp, hq, h, h' => by
    rw [numBs, Bool.and_eq_true] at hp hq
    obtain ⟨h1, h2⟩ := PySem.W.alike_all_cons h
    obtain ⟨g1, g2⟩ := PySem.W.alike_all_cons h'
    rw [ordBs, ordBs, PySem.W.dataLt_cons h1, PySem.W.dataLt_cons g1, PySem.W.eqv_comm y x]
    obtain ⟨a1, a2⟩ := ords_lt xs ys hp.2 hq.2 h2 g2
    obtain ⟨b1, b2⟩ := ord_lt x y hp.1 hq.1 h1 g1
    by_cases e : PyData.eqv x y = true
    · simp only [if_pos e]
      exact ⟨a1, a2⟩
    · simp only [if_neg e]
      exact ⟨b1, b2⟩
end
/-- data in a list, to be put in order -/
structure NumL (ds : List D) (ps : List PyData) : Prop where
  py : D.pys ds = some ps
  num : ∀ p ∈ ps, numB p = true
  al : AllAlike ps
  lay : ∀ p ∈ ps, p.canLay0 = true
  dep : ∀ p ∈ ps, p.depth ≤ 16
theorem pys_get : ∀ {ds : List D} {ps : List PyData}, D.pys ds = some ps → ds.length = ps.length ∧ (∀ (i : Nat) d, ds[i]? = some d → ∃ p, ps[i]? = some p ∧ d.py = some p)
  | [], ps, h => by
    cases h
    exact ⟨rfl, fun i d h => by simp at h⟩
  | d :: ds, ps, h => by
    rw [D.pys] at h
    obtain ⟨p, e1, h⟩ := Option.bind_eq_some_iff.mp h
    obtain ⟨qs, e2, rfl⟩ := Option.map_eq_some_iff.mp h
    obtain ⟨l, g⟩ := pys_get e2
    refine ⟨by rw [List.length_cons, List.length_cons, l], fun i e hi => ?_⟩
    cases i with
    | zero =>
      cases hi
      exact ⟨p, rfl, e1⟩
    | succ i => exact g i e hi
theorem dl_trans (a b c : PyData) (h1 : (!dataLt b a) = true) (h2 : (!dataLt c b) = true) : (!dataLt c a) = true := by
  cases e : dataLt c a with
  | false => rfl
  | true =>
    rcases (listOrd itemOrd).negTrans (keyToks c) (keyToks b) (keyToks a) e with h | h
    · have h : dataLt c b = true := h
      rw [h] at h2
      cases h2
    · have h : dataLt b a = true := h
      rw [h] at h1
      cases h1
theorem dl_total (a b : PyData) : ((!dataLt b a) || !dataLt a b) = true := by
  cases e : dataLt b a with
  | false => rfl
  | true =>
    cases e2 : dataLt a b with
    | false => rfl
    | true =>
      have := (listOrd itemOrd).trans (keyToks b) (keyToks a) (keyToks b) e e2
      rw [(listOrd itemOrd).irrefl] at this
      cases this
theorem NumL.at_ {ds : List D} {ps : List PyData} (h : NumL ds ps) {d : D} (hd : d ∈ ds) : ∃ p ∈ ps, d.py = some p := by
  obtain ⟨i, hi⟩ := List.mem_iff_getElem?.mp hd
  obtain ⟨p, e1, e2⟩ := (pys_get h.py).2 i d hi
  exact ⟨p, List.mem_of_getElem? e1, e2⟩
theorem NumL.le {ds : List D} {ps : List PyData} (h : NumL ds ps) {d e : D} {p q : PyData} (hp : p ∈ ps) (hq : q ∈ ps) (e1 : d.py = some p) (e2 : e.py = some q) : leD d e = !dataLt q p := by
  unfold leD
  rw [e1, e2]
  have := (ord_lt p q (h.num p hp) (h.num q hq) (h.al p hp q hq) (h.al q hq p hp)).2
  simp [this]
end L3
namespace L3
open PySem PySem.Spec PyProof.Rows L2
def stepIx (n lo k : Nat) : List Nat := (List.range ((n - lo + k - 1) / k)).map fun j => lo + k * j
def stepL {α : Type} (xs : List α) (lo k : Nat) : List α := (stepIx xs.length lo k).filterMap (xs[·]?)
end L3
namespace L3
open PySem PySem.Spec PyProof.Rows L2
section
variable {K : PySem.W.Frag}
def Hole (K : PySem.W.Frag) (F : FE) (H0 : Hp) (σ : L2.St) (H G : Hp) (δ : En) (m h : Nat) (rows : List (List D)) (i : Nat) : Prop :=
  ∃ M al a, Grid K F.HE H0 σ H G δ m M al ((rows.map some).set i none) ∧ al[i]? = some a ∧ σ[h]? = some (some (V.ref a)) ∧ i < rows.length
theorem Hole.nxt {F : FE} {H0 : Hp} {σ σ' : L2.St} {H G H' G' : Hp} {δ δ' : En} {m h : Nat} {rows : List (List D)} {i : Nat} {bs : List Nat} (g : Hole K F H0 σ H G δ m h rows i) (x : Nxt K F bs σ H G δ σ' H' G' δ') (hm : m ∉ bs) (hh : h ∉ bs) : Hole K F H0 σ' H' G' δ' m h rows i := by
  obtain ⟨M, al, a, g, ea, hs, hi⟩ := g
  exact ⟨M, al, a, g.nxt x hm, ea, (x.st h hh).trans hs, hi⟩
end
end L3
namespace L3
open PySem PySem.Spec PyProof.Rows L2
/-- a state of a walk: the copies that are met, the turns of all -/
abbrev WS := List Nat × (Nat → Int)
def visit (n : Net) (p k : Nat) (w : WS) : WS := if (stp n k p).1 ∈ w.1 then w else (w.1 ++ [(stp n k p).1], updI w.2 (stp n k p).1 (w.2 p * (stp n k p).2))
def sweepK (n : Net) (p : Nat) : Nat → WS → WS
  | 0, w => w
  | k + 1, w => visit n p k (sweepK n p k w)
def bfs (n : Net) (many z : Nat) : Nat → WS
  | 0 => ([z], updI (fun _ => 0) z 1)
  | i + 1 => match (bfs n many z i).1[i]? with
    | none => bfs n many z i
    | some p => sweepK n p many (bfs n many z i)
section
variable {many size : Nat} {n : Net}
theorem stp_ok (g : GoodNet many size n) {k x : Nat} (hk : k < many) (hx : x < size) : (stp n k x).1 < size ∧ ((stp n k x).2 = 1 ∨ (stp n k x).2 = -1) ∧ stp n k (stp n k x).1 = (x, (stp n k x).2) := by
  obtain ⟨r, er, gr⟩ := g.get hk
  obtain ⟨y, s, e1, hy, hs, e2⟩ := gr.ok x hx
  rw [stp_get er e1]
  exact ⟨hy, hs, stp_get er e2⟩
theorem adj_stp (g : GoodNet many size n) {x y : Nat} (h : adj n x y) : ∃ k, k < many ∧ (stp n k x).1 = y := by
  obtain ⟨r, hr, s, e⟩ := h
  obtain ⟨k, ek⟩ := List.mem_iff_getElem?.mp hr
  have hk : k < many := by rw [← g.len]; exact (List.getElem?_eq_some_iff.mp ek).1
  exact ⟨k, hk, by rw [stp_get ek e]⟩
/-- what a state of a walk from z keeps -/
structure Wk (many size : Nat) (n : Net) (z : Nat) (w : WS) : Prop where
  nd : w.1.Nodup
  lt : ∀ q ∈ w.1, q < size
  on : ∀ q ∈ w.1, w.2 q = 1 ∨ w.2 q = -1
  off : ∀ q, q ∉ w.1 → w.2 q = 0
  hd : ∃ l, w.1 = z :: l
  one : w.2 z = 1
  re : ∀ q ∈ w.1, Reach n z q
theorem Wk.start {z : Nat} (hz : z < size) : Wk many size n z ([z], updI (fun _ => 0) z 1) := by
  have e1 : updI (fun _ => 0) z 1 z = 1 := updI_at
  refine ⟨by simp, fun q hq => ?_, fun q hq => ?_, fun q hq => ?_, ⟨[], rfl⟩, e1, fun q hq => ?_⟩
  · rw [List.mem_singleton.mp hq]
    exact hz
  · rw [List.mem_singleton.mp hq]
    exact .inl e1
  · exact updI_ne (f := fun _ => 0) (by simpa using hq)
  · rw [List.mem_singleton.mp hq]
    exact reach_refl
theorem Wk.visit {z p k : Nat} {w : WS} (g : GoodNet many size n) (x : Wk many size n z w) (hp : p ∈ w.1) (hk : k < many) : Wk many size n z (visit n p k w) := by
  obtain ⟨h1, h2, h3⟩ := stp_ok g hk (x.lt p hp)
  have ha := (stp_adj g hk (x.lt p hp)).1
  unfold L3.visit
  generalize (stp n k p).1 = q at *
  by_cases hq : q ∈ w.1
  · rw [if_pos hq]
    exact x
  · rw [if_neg hq]
    have ne : ∀ y ∈ w.1, y ≠ q := fun y hy e => hq (e ▸ hy)
    have zm : z ∈ w.1 := by
      obtain ⟨l, hl⟩ := x.hd
      rw [hl]
      exact List.mem_cons_self
    refine ⟨?_, fun y hy => ?_, fun y hy => ?_, fun y hy => ?_, ?_, ?_, fun y hy => ?_⟩
    · exact List.nodup_append.mpr ⟨x.nd, by simp, fun a ha b hb e => by
        rw [List.mem_singleton.mp hb] at e
        exact ne a ha e⟩
    · rcases List.mem_append.mp hy with hy | hy
      · exact x.lt y hy
      · rw [List.mem_singleton.mp hy]
        exact h1
    · rcases List.mem_append.mp hy with hy | hy
      · show updI w.2 q _ y = 1 ∨ updI w.2 q _ y = -1
        rw [updI_ne (ne y hy)]
        exact x.on y hy
      · rw [List.mem_singleton.mp hy]
        show updI w.2 q _ q = 1 ∨ updI w.2 q _ q = -1
        rw [updI_at]
        rcases x.on p hp with e | e <;> rcases h2 with e' | e' <;> rw [e, e'] <;> decide
    · have h4 : y ∉ w.1 := fun m => hy (List.mem_append_left _ m)
      have h5 : y ≠ q := fun e => hy (by rw [e]; simp)
      show updI w.2 q _ y = 0
      rw [updI_ne h5]
      exact x.off y h4
    · obtain ⟨l, hl⟩ := x.hd
      exact ⟨l ++ [q], by show w.1 ++ [q] = _; rw [hl]; rfl⟩
    · show updI w.2 q _ z = 1
      rw [updI_ne (ne z zm)]
      exact x.one
    · rcases List.mem_append.mp hy with hy | hy
      · exact x.re y hy
      · rw [List.mem_singleton.mp hy]
        exact reach_trans (x.re p hp) (reach_one ha)
theorem visit_pre {p k : Nat} {w : WS} : ∃ l, (visit n p k w).1 = w.1 ++ l := by
  unfold visit
  split
  · exact ⟨[], by simp⟩
  · exact ⟨[_], rfl⟩
theorem visit_mem {p k : Nat} {w : WS} : (stp n k p).1 ∈ (visit n p k w).1 := by
  unfold visit
  split
  · assumption
  · simp
theorem Wk.sweep {z p : Nat} {w : WS} (g : GoodNet many size n) (x : Wk many size n z w) (hp : p ∈ w.1) : ∀ k, k ≤ many → Wk many size n z (sweepK n p k w) ∧ (∃ l, (sweepK n p k w).1 = w.1 ++ l) ∧ ∀ j, j < k → (stp n j p).1 ∈ (sweepK n p k w).1
  | 0, _ => ⟨x, ⟨[], by simp [sweepK]⟩, fun j hj => absurd hj (Nat.not_lt_zero _)⟩
  | k + 1, hk => by
    obtain ⟨h1, ⟨l, h2⟩, h3⟩ := Wk.sweep g x hp k (by omega)
    have hp' : p ∈ (sweepK n p k w).1 := by rw [h2]; exact List.mem_append_left _ hp
    obtain ⟨l', h4⟩ := visit_pre (n := n) (p := p) (k := k) (w := sweepK n p k w)
    refine ⟨h1.visit g hp' (by omega), ⟨l ++ l', ?_⟩, fun j hj => ?_⟩
    · show (L3.visit n p k _).1 = _
      rw [h4, h2, List.append_assoc]
    · show _ ∈ (L3.visit n p k _).1
      rcases Nat.lt_or_ge j k with c | c
      · rw [h4]
        exact List.mem_append_left _ (h3 j c)
      · have : j = k := by omega
        subst this
        exact visit_mem
/-- the walk behind i copies -/
theorem bfs_wk (g : GoodNet many size n) {z : Nat} (hz : z < size) : ∀ i, Wk many size n z (bfs n many z i) ∧ ∀ a p, a < i → (bfs n many z i).1[a]? = some p → ∀ k, k < many → (stp n k p).1 ∈ (bfs n many z i).1
  | 0 => ⟨.start hz, fun a p ha => absurd ha (Nat.not_lt_zero _)⟩
  | i + 1 => by
    obtain ⟨h1, h2⟩ := bfs_wk g hz i
    show Wk many size n z (match (bfs n many z i).1[i]? with | none => bfs n many z i | some p => sweepK n p many (bfs n many z i)) ∧ ∀ a p, a < i + 1 → (match (bfs n many z i).1[i]? with | none => bfs n many z i | some p => sweepK n p many (bfs n many z i)).1[a]? = some p → ∀ k, k < many → (stp n k p).1 ∈ (match (bfs n many z i).1[i]? with | none => bfs n many z i | some p => sweepK n p many (bfs n many z i)).1
    cases e : (bfs n many z i).1[i]? with
    | none =>
      refine ⟨h1, fun a p ha ea => ?_⟩
      rcases Nat.lt_or_ge a i with c | c
      · exact h2 a p c ea
      · have : a = i := by omega
        subst this
        have ea : (bfs n many z a).1[a]? = some p := ea
        rw [e] at ea
        cases ea
    | some p =>
      obtain ⟨s1, ⟨l, s2⟩, s3⟩ := h1.sweep g (List.mem_of_getElem? e) many (Nat.le_refl _)
      refine ⟨s1, fun a q ha ea k hk => ?_⟩
      have hi := (List.getElem?_eq_some_iff.mp e).1
      have ea : (sweepK n p many (bfs n many z i)).1[a]? = some q := ea
      rw [s2, List.getElem?_append_left (by omega)] at ea
      rcases Nat.lt_or_ge a i with c | c
      · show _ ∈ (sweepK n p many (bfs n many z i)).1
        rw [s2]
        exact List.mem_append_left _ (h2 a q c ea k hk)
      · have : a = i := by omega
        subst this
        rw [e] at ea
        cases ea
        exact s3 k hk
theorem Wk.len {z : Nat} {w : WS} (x : Wk many size n z w) : w.1.length ≤ size := by
  have := x.nd.length_le_of_subset (l₂ := List.range size) fun q hq => List.mem_range.mpr (x.lt q hq)
  simpa using this
/-- behind so many copies as there are the walk stands still -/
theorem bfs_still (g : GoodNet many size n) {z : Nat} (hz : z < size) : ∀ d, bfs n many z (size + d) = bfs n many z size
  | 0 => rfl
  | d + 1 => by
    have ih := bfs_still g hz d
    show (match (bfs n many z (size + d)).1[size + d]? with | none => bfs n many z (size + d) | some p => sweepK n p many (bfs n many z (size + d))) = _
    rw [ih, List.getElem?_eq_none (by have := (bfs_wk g hz size).1.len; omega)]
theorem bfs_closed (g : GoodNet many size n) {z p k : Nat} (hz : z < size) (hp : p ∈ (bfs n many z size).1) (hk : k < many) : (stp n k p).1 ∈ (bfs n many z size).1 := by
  obtain ⟨h1, h2⟩ := bfs_wk g hz size
  obtain ⟨a, ha⟩ := List.mem_iff_getElem?.mp hp
  have := (List.getElem?_eq_some_iff.mp ha).1
  have := h1.len
  exact h2 a p (by omega) ha k hk
theorem mem_bfs (g : GoodNet many size n) {z q : Nat} (hz : z < size) : q ∈ (bfs n many z size).1 ↔ Reach n z q := by
  obtain ⟨h1, h2⟩ := bfs_wk g hz size
  refine ⟨h1.re q, fun r => r (fun q => q ∈ (bfs n many z size).1) ?_ fun a b ha ab => ?_⟩
  · obtain ⟨l, hl⟩ := h1.hd
    rw [hl]
    exact List.mem_cons_self
  · obtain ⟨k, hk, e⟩ := adj_stp g ab
    rw [← e]
    exact bfs_closed g hz ha hk
end
/-- n (of m copies) stands in n' at ν, switched by τ -/
structure Wmb (many m : Nat) (n n' : Net) (ν : Nat → Nat) (τ : Nat → Int) : Prop where
  inj : ∀ x y, x < m → y < m → ν x = ν y → x = y
  tau : ∀ x, x < m → τ x = 1 ∨ τ x = -1
  cl : ∀ k x, k < many → x < m → (stp n k x).1 < m
  st : ∀ k x, k < many → x < m → stp n' k (ν x) = (ν (stp n k x).1, (stp n k x).2 * τ x * τ (stp n k x).1)
/-- two states of walks that go together -/
structure Sim (m z : Nat) (ν : Nat → Nat) (τ : Nat → Int) (w w' : WS) : Prop where
  eq : w'.1 = w.1.map ν
  lt : ∀ q ∈ w.1, q < m
  sg : ∀ q, q < m → w'.2 (ν q) = w.2 q * τ q * τ z
section
variable {many m N : Nat} {n n' : Net} {ν : Nat → Nat} {τ : Nat → Int} {z : Nat} {w w' : WS}
theorem sq_one {s : Int} (h : s = 1 ∨ s = -1) : s * s = 1 := by rcases h with rfl | rfl <;> rfl
theorem Wmb.mem (e : Wmb many m n n' ν τ) {q : Nat} (hq : q < m) {l : List Nat} (hl : ∀ x ∈ l, x < m) : ν q ∈ l.map ν ↔ q ∈ l := by
  constructor
  · intro h
    obtain ⟨x, hx, ex⟩ := List.mem_map.mp h
    rw [← e.inj x q (hl x hx) hq ex]
    exact hx
  · exact List.mem_map_of_mem
theorem Sim.visit (e : Wmb many m n n' ν τ) (hz : z < m) (s : Sim m z ν τ w w') {p k : Nat} (hp : p < m) (hk : k < many) : Sim m z ν τ (visit n p k w) (visit n' (ν p) k w') := by
  have hq := e.cl k p hk hp
  have est := e.st k p hk hp
  unfold L3.visit
  rw [est]
  have iff : (ν (stp n k p).1, (stp n k p).2 * τ p * τ (stp n k p).1).1 ∈ w'.1 ↔ (stp n k p).1 ∈ w.1 := by
    rw [s.eq]
    exact e.mem hq s.lt
  by_cases h : (stp n k p).1 ∈ w.1
  · rw [if_pos h, if_pos (iff.mpr h)]
    exact s
  · rw [if_neg h, if_neg fun z => h (iff.mp z)]
    refine ⟨?_, fun q hq' => ?_, fun q hq' => ?_⟩
    · show w'.1 ++ [ν (stp n k p).1] = (w.1 ++ [(stp n k p).1]).map ν
      rw [s.eq, List.map_append]
      rfl
    · rcases List.mem_append.mp hq' with hq' | hq'
      · exact s.lt q hq'
      · rw [List.mem_singleton.mp hq']
        exact hq
    · show updI w'.2 (ν (stp n k p).1) (w'.2 (ν p) * ((stp n k p).2 * τ p * τ (stp n k p).1)) (ν q) = updI w.2 (stp n k p).1 (w.2 p * (stp n k p).2) q * τ q * τ z
      by_cases c : q = (stp n k p).1
      · subst c
        rw [updI_at, updI_at, s.sg p hp]
        have e1 := sq_one (e.tau p hp)
        generalize τ p = a at *
        generalize τ (stp n k p).1 = b
        generalize τ z = c
        generalize (stp n k p).2 = d
        have : w.2 p * a * c * (d * a * b) = w.2 p * d * b * c * (a * a) := by ac_rfl
        rw [this, e1, Int.mul_one]
      · rw [updI_ne c, updI_ne fun x => c (e.inj q _ hq' hq x)]
        exact s.sg q hq'
theorem Sim.sweep (e : Wmb many m n n' ν τ) (hz : z < m) (s : Sim m z ν τ w w') {p : Nat} (hp : p < m) : ∀ k, k ≤ many → Sim m z ν τ (sweepK n p k w) (sweepK n' (ν p) k w')
  | 0, _ => s
  | k + 1, hk => Sim.visit e hz (Sim.sweep e hz s hp k (by omega)) hp (by omega)
theorem Sim.bfs (e : Wmb many m n n' ν τ) (hz : z < m) : ∀ i, Sim m z ν τ (bfs n many z i) (bfs n' many (ν z) i)
  | 0 => ⟨rfl, fun q hq => by rw [List.mem_singleton.mp hq]; exact hz, fun q hq => by
    show updI (fun _ => 0) (ν z) 1 (ν q) = updI (fun _ => 0) z 1 q * τ q * τ z
    by_cases c : q = z
    · subst c
      rw [updI_at, updI_at, Int.one_mul, sq_one (e.tau q hz)]
    · rw [updI_ne c, updI_ne fun x => c (e.inj q z hq hz x), Int.zero_mul, Int.zero_mul]⟩
  | i + 1 => by
    have ih := Sim.bfs e hz i
    show Sim m z ν τ (match (L3.bfs n many z i).1[i]? with | none => L3.bfs n many z i | some p => sweepK n p many (L3.bfs n many z i)) (match (L3.bfs n' many (ν z) i).1[i]? with | none => L3.bfs n' many (ν z) i | some p => sweepK n' p many (L3.bfs n' many (ν z) i))
    rw [ih.eq, List.getElem?_map]
    cases h : (L3.bfs n many z i).1[i]? with
    | none => exact ih
    | some p => exact Sim.sweep e hz ih (ih.lt p (List.mem_of_getElem? h)) many (Nat.le_refl _)
end
theorem flatMap_same {α β : Type} {f g : α → List β} : ∀ {l : List α}, (∀ x ∈ l, f x = g x) → l.flatMap f = l.flatMap g
  | [], _ => rfl
  | x :: l, h => by rw [List.flatMap_cons, List.flatMap_cons, h x List.mem_cons_self, flatMap_same fun y hy => h y (List.mem_cons_of_mem _ hy)]
def stepP (n : Net) (w : WS) (p k : Nat) : Nat × Int := (w.1.idxOf (stp n k p).1, (stp n k p).2 * w.2 p * w.2 (stp n k p).1)
def bitP (s : Int) : Nat := if s = 1 then 0 else 1
def codeW (n : Net) (many : Nat) (w : WS) : List (Nat × Nat) := w.1.flatMap fun p => (List.range many).map fun k => ((stepP n w p k).1, bitP (stepP n w p k).2)
def codeN (n : Net) (many size z : Nat) : List (Nat × Nat) := codeW n many (bfs n many z size)
section
variable {many m N : Nat} {n n' : Net} {ν : Nat → Nat} {τ : Nat → Int} {z : Nat} {w w' : WS}
theorem idx_map (e : Wmb many m n n' ν τ) {q : Nat} (hq : q < m) : ∀ {l : List Nat}, (∀ x ∈ l, x < m) → (l.map ν).idxOf (ν q) = l.idxOf q
  | [], _ => rfl
  | x :: l, h => by
    rw [List.map_cons, List.idxOf_cons, List.idxOf_cons]
    by_cases c : x = q
    · subst c
      simp
    · have c2 : ν x ≠ ν q := fun z => c (e.inj x q (h x List.mem_cons_self) hq z)
      rw [beq_eq_false_iff_ne.mpr c, beq_eq_false_iff_ne.mpr c2, idx_map e hq fun y hy => h y (List.mem_cons_of_mem _ hy)]
theorem stepP_sim (e : Wmb many m n n' ν τ) (hz : z < m) (s : Sim m z ν τ w w') {p k : Nat} (hp : p < m) (hk : k < many) : stepP n' w' (ν p) k = stepP n w p k := by
  have hq := e.cl k p hk hp
  unfold stepP
  rw [e.st k p hk hp]
  refine Prod.ext ?_ ?_
  · show w'.1.idxOf (ν (stp n k p).1) = _
    rw [s.eq]
    exact idx_map e hq s.lt
  · show (stp n k p).2 * τ p * τ (stp n k p).1 * w'.2 (ν p) * w'.2 (ν (stp n k p).1) = (stp n k p).2 * w.2 p * w.2 (stp n k p).1
    rw [s.sg p hp, s.sg _ hq]
    have e1 := sq_one (e.tau p hp)
    have e2 := sq_one (e.tau _ hq)
    have e3 := sq_one (e.tau z hz)
    generalize τ p = a at *
    generalize τ (stp n k p).1 = b at *
    generalize τ z = c at *
    generalize (stp n k p).2 = d
    generalize w.2 p = f
    generalize w.2 (stp n k p).1 = h
    have : d * a * b * (f * a * c) * (h * b * c) = d * f * h * (a * a) * (b * b) * (c * c) := by ac_rfl
    rw [this, e1, e2, e3, Int.mul_one, Int.mul_one, Int.mul_one]
theorem codeW_sim (e : Wmb many m n n' ν τ) (hz : z < m) (s : Sim m z ν τ w w') : codeW n' many w' = codeW n many w := by
  unfold codeW
  rw [s.eq, List.flatMap_map]
  refine flatMap_same fun p hp => ?_
  refine List.map_congr_left fun k hk => ?_
  rw [stepP_sim e hz s (s.lt p hp) (List.mem_range.mp hk)]
theorem code_wmb (e : Wmb many m n n' ν τ) (g : GoodNet many m n) (hN : m ≤ N) (hz : z < m) : codeN n' many N (ν z) = codeN n many m z := by
  unfold codeN
  rw [← bfs_still g hz (N - m), show m + (N - m) = N by omega]
  exact codeW_sim e hz (Sim.bfs e hz N)
end
section
variable {many size : Nat} {n : Net} {z : Nat}
/-- copies in some order, which no step leaves, with turns -/
structure Clw (many size : Nat) (n : Net) (w : WS) : Prop where
  nd : w.1.Nodup
  lt : ∀ q ∈ w.1, q < size
  on : ∀ q ∈ w.1, w.2 q = 1 ∨ w.2 q = -1
  cl : ∀ p ∈ w.1, ∀ k, k < many → (stp n k p).1 ∈ w.1
theorem Clw.len {w : WS} (x : Clw many size n w) : w.1.length ≤ size := by
  have := x.nd.length_le_of_subset (l₂ := List.range size) fun q hq => List.mem_range.mpr (x.lt q hq)
  simpa using this
end
end L3
namespace L3
open PySem PySem.Spec PyProof.Rows L2
open PySem.W (dataLt alike alikeAll keyToks keyToksAll)
abbrev Code := List (Nat × Nat)
abbrev Key2 := Nat × Code
def cpP (p : Nat × Nat) : PyData := .tuple [.int p.1, .int p.2]
def codeP (c : Code) : PyData := .list (c.map cpP)
def kyP (k : Key2) : PyData := .tuple [.int k.1, codeP k.2]
theorem toks_cps : ∀ {c c' : Code}, keyToksAll (c.map cpP) = keyToksAll (c'.map cpP) → c = c'
  | [], [], _ => rfl
  | [], y :: c', h => by
    rw [List.map_cons, PySem.W.toks_all_cons] at h
    have h : ([.inl 0] : List (Int ⊕ List Nat)) = .inl 1 :: _ := h
    cases h
  | x :: c, [], h => by
    rw [List.map_cons, PySem.W.toks_all_cons] at h
    have h : (.inl 1 :: _ : List (Int ⊕ List Nat)) = [.inl 0] := h
    cases h
  | x :: c, y :: c', h => by
    rw [List.map_cons, List.map_cons, PySem.W.toks_all_cons, PySem.W.toks_all_cons] at h
    have h := (List.cons.inj h).2
    have h : (.inl 1 :: .inl (x.1 : Int) :: .inl 1 :: .inl (x.2 : Int) :: .inl 0 :: keyToksAll (c.map cpP) : List (Int ⊕ List Nat)) = .inl 1 :: .inl (y.1 : Int) :: .inl 1 :: .inl (y.2 : Int) :: .inl 0 :: keyToksAll (c'.map cpP) := h
    simp only [List.cons.injEq, Sum.inl.injEq, true_and] at h
    obtain ⟨h1, h2, h3⟩ := h
    rw [toks_cps h3, Prod.ext (show x.1 = y.1 by omega) (show x.2 = y.2 by omega)]
def leP (p q : PyData) : Bool := !dataLt q p
theorem leP_anti {p q : PyData} (h1 : leP p q = true) (h2 : leP q p = true) : keyToks p = keyToks q :=
  (listOrd itemOrd).total _ _ (show dataLt p q = false from by
    unfold leP at h2
    cases e : dataLt p q with
    | false => rfl
    | true => rw [e] at h2; cases h2) (show dataLt q p = false from by
    unfold leP at h1
    cases e : dataLt q p with
    | false => rfl
    | true => rw [e] at h1; cases h1)
def leC (c c' : Code) : Bool := leP (codeP c) (codeP c')
def leK (k k' : Key2) : Bool := leP (kyP k) (kyP k')
theorem leC_trans (a b c : Code) (h1 : leC a b = true) (h2 : leC b c = true) : leC a c = true := dl_trans _ _ _ h1 h2
theorem leC_total (a b : Code) : (leC a b || leC b a) = true := dl_total _ _
theorem leC_anti {a b : Code} (h1 : leC a b = true) (h2 : leC b a = true) : a = b := toks_cps (leP_anti h1 h2)
theorem leC_refl (a : Code) : leC a a = true := by simpa using leC_total a a
/-- the least of codes -/
def LeastC (cs : List Code) (c : Code) : Prop := c ∈ cs ∧ ∀ c' ∈ cs, leC c c' = true
theorem LeastC.uniq {cs : List Code} {a b : Code} (h : LeastC cs a) (h' : LeastC cs b) : a = b := leC_anti (h.2 b h'.1) (h'.2 a h.1)
theorem leastC_ex : ∀ {cs : List Code}, cs ≠ [] → ∃ c, LeastC cs c
  | [], h => absurd rfl h
  | [c], _ => ⟨c, List.mem_cons_self, fun c' h => by rw [List.mem_singleton.mp h]; exact leC_refl c⟩
  | c :: d :: cs, _ => by
    obtain ⟨e, h1, h2⟩ := leastC_ex (cs := d :: cs) (by simp)
    have t := leC_total c e
    rw [Bool.or_eq_true] at t
    rcases t with t | t
    · exact ⟨c, List.mem_cons_self, fun c' h => by
        rcases List.mem_cons.mp h with rfl | h
        · exact leC_refl _
        · exact leC_trans c e c' t (h2 c' h)⟩
    · exact ⟨e, List.mem_cons_of_mem _ h1, fun c' h => by
        rcases List.mem_cons.mp h with rfl | h
        · exact t
        · exact h2 c' h⟩
open Classical in
noncomputable def minC (cs : List Code) : Code := if h : ∃ c, LeastC cs c then h.choose else []
theorem minC_least {cs : List Code} (h : cs ≠ []) : LeastC cs (minC cs) := by
  have e := leastC_ex h
  unfold minC
  rw [dif_pos e]
  exact e.choose_spec
theorem LeastC.min {cs : List Code} {c : Code} (h : LeastC cs c) : c = minC cs := h.uniq (minC_least fun e => by rw [e] at h; exact nomatch h.1)
theorem minC_perm {cs ds : List Code} (p : cs.Perm ds) : minC cs = minC ds := by
  by_cases h : cs = []
  · subst h
    rw [List.nil_perm.mp p]
  · have := minC_least h
    exact LeastC.min ⟨p.mem_iff.mp this.1, fun c' hc' => this.2 c' (p.mem_iff.mpr hc')⟩
def sortK (ks : List Key2) : List Key2 := ks.mergeSort leK
noncomputable def keyN (n : Net) (many size z : Nat) : Key2 := ((comp n size z).length, minC ((comp n size z).map (codeN n many size)))
noncomputable def keysN (n : Net) (many size : Nat) : List Key2 := (heads n size).map (keyN n many size)
section
variable {many size : Nat} {n n' : Net} {ν : Nat → Nat} {τ : Nat → Int}
theorem Wmb.lt' (g' : GoodNet many size n') (e : Wmb many size n n' ν τ) (h : ∀ x, x < size → ν x < size) : ∀ y, y < size → ∃ x, x < size ∧ ν x = y := fun y hy => by
  have nd : ((List.range size).map ν).Nodup := by
    refine List.pairwise_map.mpr (List.Pairwise.imp_of_mem (fun {a b} ha hb hab => ?_) List.nodup_range)
    exact fun q => hab (e.inj a b (List.mem_range.mp ha) (List.mem_range.mp hb) q)
  refine Classical.byContradiction fun hn => ?_
  have nm : y ∉ (List.range size).map ν := fun hm => by
    obtain ⟨x, hx, ex⟩ := List.mem_map.mp hm
    exact hn ⟨x, List.mem_range.mp hx, ex⟩
  have := (List.nodup_cons.mpr ⟨nm, nd⟩).length_le_of_subset (l₂ := List.range size) fun x hx => by
    rcases List.mem_cons.mp hx with rfl | hx
    · exact List.mem_range.mpr hy
    · obtain ⟨a, ha, rfl⟩ := List.mem_map.mp hx
      exact List.mem_range.mpr (h a (List.mem_range.mp ha))
  rw [List.length_cons, List.length_map, List.length_range] at this
  omega
theorem Wmb.reach (g : GoodNet many size n) (g' : GoodNet many size n') (e : Wmb many size n n' ν τ) (h : ∀ x, x < size → ν x < size) {a b : Nat} (ha : a < size) (hb : b < size) : Reach n' (ν a) (ν b) ↔ Reach n a b := by
  rw [← mem_bfs g' (h a ha), ← mem_bfs g ha]
  have s := Sim.bfs e ha size
  rw [s.eq]
  exact e.mem hb s.lt
theorem Wmb.comp (g : GoodNet many size n) (g' : GoodNet many size n') (e : Wmb many size n n' ν τ) (h : ∀ x, x < size → ν x < size) {z : Nat} (hz : z < size) : (comp n' size (ν z)).Perm ((comp n size z).map ν) := by
  refine (List.perm_ext_iff_of_nodup (comp_lt.imp fun h => Nat.ne_of_lt h) ?_).mpr fun q => ?_
  · refine List.pairwise_map.mpr (List.Pairwise.imp_of_mem (fun {a b} ha hb hab => ?_) comp_lt)
    intro q
    have := e.inj a b (mem_comp.mp ha).1 (mem_comp.mp hb).1 q
    omega
  · rw [mem_comp]
    constructor
    · rintro ⟨hq, r⟩
      obtain ⟨x, hx, rfl⟩ := e.lt' g' h q hq
      exact List.mem_map_of_mem (mem_comp.mpr ⟨hx, (e.reach g g' h hz hx).mp r⟩)
    · intro hm
      obtain ⟨x, hx, rfl⟩ := List.mem_map.mp hm
      obtain ⟨h1, h2⟩ := mem_comp.mp hx
      exact ⟨h x h1, (e.reach g g' h hz h1).mpr h2⟩
theorem Wmb.key (g : GoodNet many size n) (g' : GoodNet many size n') (e : Wmb many size n n' ν τ) (h : ∀ x, x < size → ν x < size) {z : Nat} (hz : z < size) : keyN n' many size (ν z) = keyN n many size z := by
  have p := e.comp g g' h hz
  unfold keyN
  rw [p.length_eq, List.length_map]
  refine Prod.ext rfl ?_
  show minC _ = minC _
  rw [minC_perm (p.map _), List.map_map]
  congr 1
  refine List.map_congr_left fun x hx => ?_
  exact code_wmb e g (Nat.le_refl _) (mem_comp.mp hx).1
end
end L3
namespace L3
open PySem PySem.Spec PyProof.Rows L2
def rowC (first : Nat) (ps : List (Nat × Nat)) : Row := ps.map fun p => ((p.1 : Int) + (first : Int), 1 - 2 * (p.2 : Int))
def formR (many k : Nat) : Nat → List Key2 → Row
  | _, [] => []
  | first, ky :: ks => rowC first (stepL ky.2 k many) ++ formR many k (first + ky.1) ks
def formN (many : Nat) (ks : List Key2) : Net := (List.range many).map fun k => formR many k 0 ks
section
variable {many size : Nat} {n : Net}
noncomputable def theForm (n : Net) (many size : Nat) : Net := formN many (sortK (keysN n many size))
end
section
variable {many size : Nat} {n n' n'' : Net} {ν μ : Nat → Nat} {τ σ : Nat → Int}
theorem Wmb.trans (e : Wmb many size n n' ν τ) (h : ∀ x, x < size → ν x < size) (f : Wmb many size n' n'' μ σ) : Wmb many size n n'' (fun x => μ (ν x)) (fun x => τ x * σ (ν x)) where
  inj := fun x y hx hy q => e.inj x y hx hy (f.inj _ _ (h x hx) (h y hy) q)
  tau := fun x hx => by
    show τ x * σ (ν x) = 1 ∨ τ x * σ (ν x) = -1
    rcases e.tau x hx with a | a <;> rcases f.tau _ (h x hx) with b | b <;> rw [a, b] <;> decide
  cl := e.cl
  st := fun k x hk hx => by
    rw [f.st k (ν x) hk (h x hx), e.st k x hk hx]
    refine Prod.ext rfl ?_
    show (stp n k x).2 * τ x * τ (stp n k x).1 * σ (ν x) * σ (ν (stp n k x).1) = (stp n k x).2 * (τ x * σ (ν x)) * (τ (stp n k x).1 * σ (ν (stp n k x).1))
    ac_rfl
end
end L3
namespace L3
open PySem PySem.Spec PyProof.Rows L2
open PySem.W (dataLt alike alikeAll keyToks keyToksAll)
section
variable {many size : Nat} {n n' : Net} {ν : Nat → Nat} {τ : Nat → Int}
theorem Wmb.led (e : Wmb many size n n' ν τ) : ∀ {w : List Nat}, (∀ k ∈ w, k < many) → ∀ {x : Nat} {s : Int}, x < size → ledN n' w (ν x, s) = (ν (ledN n w (x, s)).1, (ledN n w (x, s)).2 * τ x * τ (ledN n w (x, s)).1)
  | [], _, x, s, hx => by
    show (ν x, s) = (ν x, s * τ x * τ x)
    rw [Int.mul_assoc, sq_one (e.tau x hx), Int.mul_one]
  | k :: w, hw, x, s, hx => by
    have hk := hw k List.mem_cons_self
    have hy := e.cl k x hk hx
    show ledN n' w ((stp n' k (ν x)).1, s * (stp n' k (ν x)).2) = (ν (ledN n w ((stp n k x).1, s * (stp n k x).2)).1, (ledN n w ((stp n k x).1, s * (stp n k x).2)).2 * τ x * τ (ledN n w ((stp n k x).1, s * (stp n k x).2)).1)
    rw [e.st k x hk hx]
    show ledN n' w (ν (stp n k x).1, s * ((stp n k x).2 * τ x * τ (stp n k x).1)) = _
    rw [Wmb.led e (fun j hj => hw j (List.mem_cons_of_mem _ hj)) hy]
    rw [ledN_lin (s := s * ((stp n k x).2 * τ x * τ (stp n k x).1)), ledN_lin (s := s * (stp n k x).2)]
    generalize ledN n w ((stp n k x).1, 1) = q
    refine Prod.ext rfl ?_
    show s * ((stp n k x).2 * τ x * τ (stp n k x).1) * q.2 * τ (stp n k x).1 * τ q.1 = s * (stp n k x).2 * q.2 * τ x * τ q.1
    rcases e.tau _ hy with h | h <;> rw [h] <;> simp only [Int.mul_one, Int.mul_neg, Int.neg_mul, Int.neg_neg] <;> ac_rfl
theorem Wmb.home (e : Wmb many size n n' ν τ) (g : GoodNet many size n) {w : List Nat} (hw : ∀ k ∈ w, k < many) {x : Nat} (hx : x < size) : homeS n' w (ν x) = homeS n w x := by
  unfold homeS
  rw [e.led hw hx]
  have hy := (ledN_ok g hw (p := (x, 1)) hx).1
  by_cases h : (ledN n w (x, 1)).1 = x
  · rw [if_pos h, if_pos (by show ν _ = ν x; rw [h])]
    show (ledN n w (x, 1)).2 * τ x * τ (ledN n w (x, 1)).1 = _
    rw [h, Int.mul_assoc, sq_one (e.tau x hx), Int.mul_one]
  · rw [if_neg h, if_neg fun q => h (e.inj _ _ hy hx q)]
theorem sumZ_permF {l m : List Int} (p : l.Perm m) : sumZ l = sumZ m := by
  induction p with
  | nil => rfl
  | cons x _ ih => rw [sumZ_cons, sumZ_cons, ih]
  | swap x y l => rw [sumZ_cons, sumZ_cons, sumZ_cons, sumZ_cons, Int.add_left_comm]
  | trans _ _ h1 h2 => exact h1.trans h2
theorem Wmb.ret (e : Wmb many size n n' ν τ) (g : GoodNet many size n) (g' : GoodNet many size n') (h : ∀ x, x < size → ν x < size) {w : List Nat} (hw : ∀ k ∈ w, k < many) : retN n' size w = retN n size w := by
  have p : (List.range size).Perm ((List.range size).map ν) := by
    refine (List.perm_ext_iff_of_nodup List.nodup_range ?_).mpr fun q => ?_
    · refine List.pairwise_map.mpr (List.Pairwise.imp_of_mem (fun {a b} ha hb hab => ?_) List.nodup_range)
      exact fun q => hab (e.inj a b (List.mem_range.mp ha) (List.mem_range.mp hb) q)
    · constructor
      · intro hq
        obtain ⟨x, hx, rfl⟩ := e.lt' g' h q (List.mem_range.mp hq)
        exact List.mem_map_of_mem (List.mem_range.mpr hx)
      · intro hq
        obtain ⟨x, hx, rfl⟩ := List.mem_map.mp hq
        exact List.mem_range.mpr (h x (List.mem_range.mp hx))
  unfold retN
  rw [sumZ_permF (p.map (homeS n' w)), List.map_map]
  exact sumZ_congr fun x hx => e.home g hw (List.mem_range.mp hx)
end
end L3
namespace L3
open PySem PySem.Spec PyProof.Rows L2
section
variable {many size : Nat} {n n' : Net} {ν : Nat → Nat} {τ : Nat → Int}
/-- the way back -/
theorem Wmb.back (g : GoodNet many size n) (g' : GoodNet many size n') (e : Wmb many size n n' ν τ) (h : ∀ x, x < size → ν x < size) : ∃ μ : Nat → Nat, Wmb many size n' n μ (fun y => τ (μ y)) ∧ (∀ x, x < size → μ x < size) ∧ (∀ x, x < size → μ (ν x) = x) ∧ ∀ y, y < size → ν (μ y) = y := by
  have ex : ∀ y, ∃ x, y < size → x < size ∧ ν x = y := fun y => by
    by_cases hy : y < size
    · obtain ⟨x, hx, e1⟩ := e.lt' g' h y hy
      exact ⟨x, fun _ => ⟨hx, e1⟩⟩
    · exact ⟨0, fun q => absurd q hy⟩
  obtain ⟨μ, hμ⟩ := Classical.axiomOfChoice ex
  have m1 : ∀ x, x < size → μ (ν x) = x := fun x hx => e.inj _ _ (hμ _ (h x hx)).1 hx (hμ _ (h x hx)).2
  refine ⟨μ, ⟨fun x y hx hy q => ?_, fun y hy => e.tau _ (hμ y hy).1, fun k y hk hy => (stp_ok g' hk hy).1, fun k y hk hy => ?_⟩, fun x hx => (hμ x hx).1, m1, fun y hy => (hμ y hy).2⟩
  · have := congrArg ν q
    rw [(hμ x hx).2, (hμ y hy).2] at this
    exact this
  · obtain ⟨hx, ey⟩ := hμ y hy
    have st := e.st k (μ y) hk hx
    rw [ey] at st
    have hz := e.cl k (μ y) hk hx
    rw [st]
    show stp n k (μ y) = (μ (ν (stp n k (μ y)).1), (stp n k (μ y)).2 * τ (μ y) * τ (stp n k (μ y)).1 * τ (μ y) * τ (μ (ν (stp n k (μ y)).1)))
    rw [m1 _ hz]
    refine Prod.ext rfl ?_
    show (stp n k (μ y)).2 = (stp n k (μ y)).2 * τ (μ y) * τ (stp n k (μ y)).1 * τ (μ y) * τ (stp n k (μ y)).1
    rcases e.tau _ hx with h1 | h1 <;> rcases e.tau _ hz with h2 | h2 <;> rw [h1, h2] <;> simp
end
open Classical in
/-- whether two plans have as many copies and one form -/
noncomputable def sameB (many s1 s2 : Nat) (a b : Net) : Bool := decide (s1 = s2 ∧ theForm a many s1 = theForm b many s2)
end L3
namespace L3
open PySem PySem.Spec PyProof.Rows L2
open Classical in
/-- which indices the first j items are -/
noncomputable def metX (size : Nat) (xs : List D) (j : Nat) : List D := (List.range size).map fun x : Nat => D.bl (decide (∃ b, b < j ∧ xs[b]? = some (.int (x : Nat))))
end L3
namespace L3
open PySem PySem.Spec PyProof.Rows L2
section
variable {K : PySem.W.Frag}
theorem atL_rowsY {G : Hp} : ∀ {al : List Addr} {rows : List (List D)}, al.length = rows.length → (∀ (i : Nat) a r, al[i]? = some a → rows[i]? = some r → At K G (.ref a) (.lst r)) → AtL K G (al.map V.ref) (rows.map D.lst)
  | [], [], _, _ => .nil
  | a :: al, r :: rows, h, k => .cons (k 0 a r rfl rfl) (atL_rowsY (by simpa using h) fun i a r e1 e2 => k (i + 1) a r (by simpa using e1) (by simpa using e2))
  | [], _ :: _, h, _ => by cases h
  | _ :: _, [], h, _ => by cases h
/-- the slots for a look -/
def lookY (m : Nat) (δ : En) (rows : List (List D)) : En := (shown δ).set m (.va (.lst (rows.map D.lst)))
theorem Grid.look {HE HB : Hp} {σ : L2.St} {H G : Hp} {δ : En} {m : Nat} {M : Addr} {al : List Addr} {rows : List (List D)} (g : Grid K HE HB σ H G δ m M al (rows.map some)) (L : Rel K σ H G δ) : ∃ GU, Rel K σ H GU (lookY m δ rows) := by
  classical
  let GU : Hp := fun a => match G a with
    | some o => some o
    | none => if Ad σ δ a ∨ a ∈ M :: al then H a else none
  have s1 : Sub G GU := fun a o h => by
    show (match G a with | some o => some o | none => if Ad σ δ a ∨ a ∈ M :: al then H a else none) = some o
    rw [h]
  have lr : al.length = rows.length := by rw [g.len, List.length_map]
  have at_ : ∀ a, G a = none → (Ad σ δ a ∨ a ∈ M :: al) → GU a = H a := fun a e h => by
    show (match G a with | some o => some o | none => if Ad σ δ a ∨ a ∈ M :: al then H a else none) = H a
    rw [e]
    dsimp only
    rw [if_pos h]
  refine ⟨GU, by rw [lookY, List.length_set, shown, List.length_map]; exact L.len, fun a o h => ?_, fun i d' q => ?_, fun i c q => ?_, fun i j l c c' q => ?_⟩
  · have h : (match G a with | some o => some o | none => if Ad σ δ a ∨ a ∈ M :: al then H a else none) = some o := h
    cases q : G a with
    | none =>
      rw [q] at h
      dsimp only at h
      by_cases z : Ad σ δ a ∨ a ∈ M :: al
      · rw [if_pos z] at h
        exact h
      · rw [if_neg z] at h
        cases h
    | some o' =>
      rw [q] at h
      cases h
      exact L.sub a o q
  · rcases set_get q with ⟨rfl, z, _⟩ | ⟨ne, q2⟩
    · cases z
      refine ⟨_, g.sl, .lst (vs := al.map V.ref) ((at_ M g.gM (.inr List.mem_cons_self)).trans g.hM) (atL_rowsY lr fun i a r e1 e2 => ?_)⟩
      obtain ⟨h1, h2, vs, h3, h4⟩ := g.row i a r e1 (by rw [List.getElem?_map, e2]; rfl)
      exact .lst ((at_ a h2 (.inr (List.mem_cons_of_mem _ (List.mem_of_getElem? e1)))).trans h3) (h4.mono s1)
    · rcases shown_va q2 with q3 | ⟨xs, q3, rfl⟩
      · obtain ⟨u, h1, h2⟩ := L.va i d' q3
        exact ⟨u, h1, h2.mono s1⟩
      · obtain ⟨l, h1, h2, vs, h3, h4⟩ := L.ow i _ q3
        exact ⟨.ref l, h1, .lst (vs := vs) ((at_ l h2 (.inl ⟨i, _, q3, h1⟩)).trans h3) (h4.mono s1)⟩
  · rcases set_get q with ⟨rfl, z, _⟩ | ⟨ne, q2⟩
    · cases z
    · exact (shown_ow q2).elim
  · rcases set_get q with ⟨rfl, z, _⟩ | ⟨ne, q2⟩
    · cases z
    · exact (shown_ow q2).elim
theorem lookY_no {δ : En} {m : Nat} {rows : List (List D)} (i : Nat) (c : Cn) : (lookY m δ rows)[i]? ≠ some (E.ow c) := lookO_no i c
/-- m[i][j] = e, a number that is reckoned while the grid is in sight -/
def yputL (m : Nat) (Tv Ti Tj : DT) : YS := fun Z δ rows => Tv (lookY m δ rows) fun r _ => ∃ z, r = .va (.int z) ∧ Ti δ fun ri δ2 => ∃ i i' row, ri = .va (.int i) ∧ ixN rows.length i = some i' ∧ rows[i']? = some row ∧ Tj δ2 fun rj δ3 => ∃ j j', rj = .va (.int j) ∧ ixN row.length j = some j' ∧ Z.nx δ3 (rows.set i' (row.set j' (.int z)))
theorem sndy_putL {ps : List Nat} {m : Nat} {tv ti tj : TE} {Tv Ti Tj : DT} (av : Snd K tv Tv) (ai : Snd K ti Ti) (aj : Snd K tj Tj) : SndY K ps m [] (tAsg tv (gSub (tOp (rIx K) (tVar m) ti) tj rSetL)) (yputL m Tv Ti Tj) := fun F hps hp as0 σ0 H0 G0 δ0 ha σ H G δ rows D3 D n gr h gd => by
  obtain ⟨M, al, g⟩ := gr
  have lr : al.length = rows.length := by rw [g.len, List.length_map]
  obtain ⟨GU, LU⟩ := g.look n.s.L
  refine av σ H GU _ _ _ LU h fun r δ1 v H1 G1 L1 f1 le1 rr q => ?_
  obtain ⟨z, rfl, q⟩ := q
  have ez := rr_int rr
  subst ez
  have x1 := Rel.quiet n.s f1 lookY_no
  have n1 := (n.trans x1).mono (bs := as0) fun i hi => (List.mem_append.mp hi).elim id fun z => nomatch z
  have g1 := g.nxt x1 (by simp)
  refine ⟨.ref M, g1.sl, ?_⟩
  refine ai σ H1 G δ _ _ n1.s.L q fun ri δ2 vi H2 G3 L3 f3 le3 rri q => ?_
  obtain ⟨i, i', row, rfl, ei', er, q⟩ := q
  have x2 : Nxt K F [] σ H1 G δ σ H2 G3 δ2 := .step n1.s L3 f3 le3
  have n2 := (n1.trans x2).mono (bs := as0) fun i hi => (List.mem_append.mp hi).elim id fun z => nomatch z
  have g2 := g1.nxt x2 (by simp)
  have ei := rr_int rri
  subst ei
  have hi := (List.getElem?_eq_some_iff.mp er).1
  obtain ⟨a, ea⟩ : ∃ a, al[i']? = some a := ⟨_, List.getElem?_eq_getElem (by omega)⟩
  have eat : L2.atI (al.map V.ref) i = some (.ref a) := by
    unfold L2.atI
    rw [List.length_map, lr, ei']
    show (al.map V.ref)[i']? = _
    rw [List.getElem?_map, ea]
    rfl
  refine .inl ⟨M, al.map V.ref, i, .ref a, rfl, rfl, SqL.of g2.hM, eat, ?_⟩
  refine aj σ H2 G3 δ2 _ _ L3 q fun rj δ3 vj H3 G4 L4 f4 le4 rrj q => ?_
  obtain ⟨j, j', rfl, ej', q⟩ := q
  have x3 : Nxt K F [] σ H2 G3 δ2 σ H3 G4 δ3 := .step n2.s L4 f4 le4
  have n3 := (n2.trans x3).mono (bs := as0) fun i hi => (List.mem_append.mp hi).elim id fun z => nomatch z
  have g3 := g2.nxt x3 (by simp)
  have ej := rr_int rrj
  subst ej
  obtain ⟨na, ga, vs, h3, t3⟩ := g3.row i' a row ea (by rw [List.getElem?_map, er]; rfl)
  refine ⟨a, vs, j, j', rfl, rfl, h3, by rw [t3.length]; exact ej', ?_⟩
  obtain ⟨n4, g4⟩ := Grid.put (j := j') n3 g3 ea er h3 t3 (.int z)
  exact gd.nx _ _ _ _ _ ⟨n4, ⟨M, al, g4⟩, x1.f.sub.trans (x2.f.sub.trans x3.f.sub), fun _ _ => rfl⟩ q
/-- if c: .., c with the grid in sight -/
def yifL (m : Nat) (c : DTT) (T U : YS) : YS := fun Z δ rows => c (lookY m δ rows) fun b _ => if b = true then T Z δ rows else U Z δ rows
theorem sndy_ifL {ps bs cs : List Nat} {m : Nat} {c : TT} {t u : TS} {C : DTT} {T U : YS} (hc : SndT K c C) (a : SndY K ps m bs t T) (b : SndY K ps m cs u U) : SndY K ps m (bs ++ cs) (tIfS c t u) (yifL m C T U) := fun F hps hp as0 σ0 H0 G0 δ0 hb σ H G δ rows D3 D n g h gd => by
  obtain ⟨M, al, gr⟩ := g
  obtain ⟨GU, LU⟩ := gr.look n.s.L
  refine hc σ H GU _ _ _ LU h fun k δ1 H1 G1 L1 f1 le1 q => ?_
  have x1 := Rel.quiet n.s f1 lookY_no
  have x : YX K F as0 σ0 H0 G0 δ0 m [] σ G σ H1 G δ rows := .plain n ⟨M, al, gr⟩ x1 (by simp) (by simp)
  cases k with
  | true => exact a F hps (fun i hi => hp i (List.mem_append_left _ hi)) as0 σ0 H0 G0 δ0 (fun i hi => hb i (List.mem_append_left _ hi)) _ _ _ _ _ _ _ x.n x.g q (gd.from x fun i z => List.mem_append_left _ (by simpa using z))
  | false => exact b F hps (fun i hi => hp i (List.mem_append_right _ hi)) as0 σ0 H0 G0 δ0 (fun i hi => hb i (List.mem_append_right _ hi)) _ _ _ _ _ _ _ x.n x.g q (gd.from x fun i z => List.mem_append_right _ (by simpa using z))
end
section
variable {Q : R → En → Prop} {δ : En} {n : En → Prop} {rt : R → En → Prop} {bk ct : En → Prop} {yn : En → List (List D) → Prop} {ybk yct : En → List (List D) → Prop} {rows : List (List D)}
theorem y_putL {m : Nat} {Tv Ti Tj : DT} (k : ∃ δk, lookY m δ rows = δk ∧ Tv δk fun r _ => ∃ z, r = .va (.int z) ∧ Ti δ fun ri δ2 => ∃ i i' row, ri = .va (.int i) ∧ ixN rows.length i = some i' ∧ rows[i']? = some row ∧ Tj δ2 fun rj δ3 => ∃ j j', rj = .va (.int j) ∧ ixN row.length j = some j' ∧ yn δ3 (rows.set i' (row.set j' (.int z)))) : yputL m Tv Ti Tj ⟨yn, rt, ybk, yct⟩ δ rows := by
  obtain ⟨_, rfl, k⟩ := k
  exact k
theorem y_ifL {m : Nat} {c : DTT} {T U : YS} (k : ∃ δk, lookY m δ rows = δk ∧ c δk fun b _ => (b = true → T ⟨yn, rt, ybk, yct⟩ δ rows) ∧ (b = false → U ⟨yn, rt, ybk, yct⟩ δ rows)) : yifL m c T U ⟨yn, rt, ybk, yct⟩ δ rows := by
  obtain ⟨_, rfl, k⟩ := k
  have : ∀ (c : Bool) (A B : Prop), ((c = true → A) ∧ (c = false → B)) = if c = true then A else B := fun c A B => by cases c <;> simp
  simp only [this] at k
  exact k
end
end L3
namespace L3
open PySem PySem.Spec PyProof.Rows L2
structure Tie where
  s : Nat
  t : Nat
  w : List Nat
  k : Int
structure GoodTie (many m : Nat) (τ : Tie) : Prop where
  s : τ.s < m
  t : τ.t < m
  w : ∀ l ∈ τ.w, l < many
  k : τ.k ≠ 0
  len : τ.w.length ≤ 1000
structure GoodPiece (many m : Nat) (ts : List Tie) : Prop where
  m0 : 0 < m
  m1 : m ≤ 20
  len : ts.length ≤ 1000
  ok : ∀ τ ∈ ts, GoodTie many m τ
def OnceT (τ : Tie) : Prop := τ.s = τ.t ∧ τ.w = τ.w.reverse
instance {τ : Tie} : Decidable (OnceT τ) := inferInstanceAs (Decidable (_ ∧ _))
theorem rowI_setI {N c : Nat} {g : Nat → Int} {z : Int} : (rowI N g).set c (.int z) = rowI N fun x => if x = c then z else g x := by
  refine List.ext_getElem? fun i => ?_
  by_cases hi : i < N
  · rw [rowI_at hi]
    by_cases e : c = i
    · subst e
      rw [List.getElem?_set_self (by rw [rowI_len]; exact hi), if_pos rfl]
    · rw [List.getElem?_set_ne e, rowI_at hi, if_neg (Ne.symm e)]
  · rw [List.getElem?_eq_none (by rw [List.length_set, rowI_len]; omega), List.getElem?_eq_none (by rw [rowI_len]; omega)]
theorem cut_take {α : Type} {xs : List α} {n : Nat} : cutL xs none (some (n : Int)) = xs.take n := by
  unfold cutL
  rw [show HT.sIx xs.length 0 none = 0 from rfl, List.drop_zero, Nat.sub_zero, HT.sIx_nat]
  by_cases h : n ≤ xs.length
  · rw [Nat.min_eq_left h]
  · rw [Nat.min_eq_right (by omega), List.take_of_length_le (by omega), List.take_of_length_le (by omega)]
theorem cut_drop {α : Type} {xs : List α} {n : Nat} : cutL xs (some (n : Int)) none = xs.drop n := by
  unfold cutL
  rw [show HT.sIx xs.length xs.length none = xs.length from rfl, HT.sIx_nat]
  by_cases h : n ≤ xs.length
  · rw [Nat.min_eq_left h, List.take_of_length_le (by rw [List.length_drop]; omega)]
  · rw [Nat.min_eq_right (by omega), List.drop_of_length_le (by omega), List.drop_of_length_le (by omega), List.take_nil]
theorem GoodTie.mono {many m m' : Nat} {τ : Tie} (g : GoodTie many m τ) (h : m ≤ m') : GoodTie many m' τ := ⟨by have := g.s; omega, by have := g.t; omega, g.w, g.k, g.len⟩
theorem GoodPiece.mono {many m m' : Nat} {ts : List Tie} (g : GoodPiece many m ts) (h : m ≤ m') (h2 : m' ≤ 20) : GoodPiece many m' ts := ⟨by have := g.m0; omega, h2, g.len, fun τ hτ => (g.ok τ hτ).mono h⟩
theorem GoodPiece.snoc {many m : Nat} {ts : List Tie} {τ : Tie} (g : GoodPiece many m ts) (h : GoodTie many m τ) (l : ts.length < 1000) : GoodPiece many m (ts ++ [τ]) := ⟨g.m0, g.m1, by simp; omega, fun σ hσ => (List.mem_append.mp hσ).elim (g.ok σ) fun z => by rw [List.mem_singleton.mp z]; exact h⟩
end L3
namespace L3
open PySem PySem.Spec PyProof.Rows L2
section
variable {K : PySem.W.Frag}
/-- slot m holds a table of numbers that is new through and through -/
def JunkT (HE HB : Hp) (σ : L2.St) (H G : Hp) (δ : En) (m r : Nat) : Prop := ∃ (p : Addr) (al : List Addr), σ[m]? = some (some (.ref p)) ∧ H p = some (.lst (al.map V.ref)) ∧ (∀ a ∈ p :: al, ¬ Ad σ δ a ∧ G a = none ∧ HE a = none ∧ HB a = none) ∧ 0 < al.length ∧ al.length + r < sizeLine ∧
  ∀ a ∈ al, a ≠ p ∧ ∃ is : List Int, H a = some (.lst (is.map V.int)) ∧ 0 < is.length ∧ is.length + r < sizeLine
theorem JunkT.put {HE HB : Hp} {σ : L2.St} {H G : Hp} {δ : En} {m r : Nat} {p : Addr} {al : List Addr} {a : Addr} {is : List Int} (hs : σ[m]? = some (some (.ref p))) (hp : H p = some (.lst (al.map V.ref))) (ok : ∀ a ∈ p :: al, ¬ Ad σ δ a ∧ G a = none ∧ HE a = none ∧ HB a = none) (l0 : 0 < al.length) (l1 : al.length + (r + 1) < sizeLine)
    (row : ∀ a ∈ al, a ≠ p ∧ ∃ is : List Int, H a = some (.lst (is.map V.int)) ∧ 0 < is.length ∧ is.length + (r + 1) < sizeLine) (ha : a ∈ al) (i0 : 0 < is.length) (i1 : is.length + r < sizeLine) : JunkT HE HB σ (L2.upd H a (.lst (is.map V.int))) G δ m r := by
  refine ⟨p, al, hs, ?_, ok, l0, by omega, fun b hb => ⟨(row b hb).1, ?_⟩⟩
  · rw [upd_ne (Ne.symm (row a ha).1)]
    exact hp
  · by_cases e : b = a
    · subst e
      exact ⟨is, upd_same, i0, i1⟩
    · obtain ⟨js, h1, h2, h3⟩ := (row b hb).2
      exact ⟨js, by rw [upd_ne e]; exact h1, h2, by omega⟩
end
end L3
namespace ZM
open PySem PySem.Spec PyProof.Rows L2
def ItH (b : Bool) (h : Heap) (it l : Addr) (i : Nat) : Prop := if b = true then h.IsListIter it l i else h.IsTupleIter it l i
def SqV (K : PySem.W.Frag) (b : Bool) (H : Hp) (a : Addr) (xs : List V) : Prop := if b = true then SqL K H a xs else SqT K H a xs
def SqH (b : Bool) (h : Heap) (l : Addr) (xs : Array Value) : Prop := if b = true then h.IsList l xs else h.IsTuple l xs
theorem ItH.obj {b : Bool} {h : Heap} {it l : Addr} {i : Nat} (x : ItH b h it l i) : ∃ o, h.get? it = some o ∧ ∀ v, o.data ≠ .cell v := by
  cases b
  · obtain ⟨o, e, _, d⟩ := x
    exact ⟨o, e, fun v q => by rw [d] at q; cases q⟩
  · obtain ⟨o, e, _, d⟩ := x
    exact ⟨o, e, fun v q => by rw [d] at q; cases q⟩
theorem ItH.at {b : Bool} {h h' : Heap} {it l : Addr} {i : Nat} (x : ItH b h it l i) (k : ∀ o, h.get? it = some o → h'.get? it = some o) : ItH b h' it l i := by
  cases b
  · exact Heap.IsTupleIter.at (show h.IsTupleIter it l i from x) k
  · exact Heap.IsListIter.at (show h.IsListIter it l i from x) k
section
variable {X : Cx} {pins : List (Addr × Obj)} {σ : L2.St} {H : Hp} {s : Shared} {a : Addr} {b : Bool} {xs ys : List V}
theorem inv_seq (I : Inv X pins σ H s) (h : SqV X.K b H a xs) : ∃ its : List Value, Vals xs its ∧ SqH b s.heap a its.toArray ∧ a < s.heap.objs.size := by
  cases b
  · obtain ⟨its, rv, p, _⟩ := I.tuple (show SqT X.K H a xs from h)
    obtain ⟨o, ho, _⟩ := id p
    exact ⟨its, rv, p, Heap.lt_size ho⟩
  · obtain ⟨its, rv, p, _⟩ := I.list (show SqL X.K H a xs from h)
    exact ⟨its, rv, p.isList, p.lt⟩
theorem inv_inj (I : Inv X pins σ H s) (h : SqV X.K b H a xs) (h' : SqV X.K b H a ys) : xs = ys := by
  cases b
  · exact I.tuple_inj h h'
  · exact I.list_inj h h'
end
theorem draws {prog : Program} {w : World} {A : Around} (b : Bool) (hh : A.handled = none) (it l : Addr) (hne : l ≠ it) (items : Array Value) :
    Draws prog w A it [it, l] items.size (fun i v => items[i]? = some v) (fun i h => ItH b h it l i ∧ SqH b h l items) := by
  cases b
  · exact Draws.tuple hh it l hne items
  · exact Draws.list hh it l hne items
theorem sep {z TI TO i1 i2 a b : Addr} (D : ZipApart z TI TO i1 i2 a b) : ZipSep2 z TI TO i1 i2 [i1, a] [i2, b] where
  TIz := D.TIz
  TOz := D.TOz
  TITO := D.TITO
  TIi1 := D.TIi1
  mem1 := by simp
  zf1 := by simp [D.i1z.symm, D.l1z.symm]
  Tf1 := by simp [D.TOi1, D.l1TO.symm]
  TIi2 := D.TIi2
  mem2 := by simp
  zf2 := by simp [D.i2z.symm, D.l2z.symm]
  Tf2 := by simp [D.TOi2, D.l2TO.symm]
  sep1_2 := by simp [D.i12, D.l2i1.symm]
  sep2_1 := by simp [D.i12.symm, D.l1i2.symm]
/-- what stands at a and b at each turn, the items in new pairs -/
def Itz (K : PySem.W.Frag) (p q : Bool) (a b : Addr) : It :=
  ⟨fun i H => ∃ (xs ys : List V) (x y : V), SqV K p H a xs ∧ SqV K q H b ys ∧ xs[i]? = some x ∧ ys[i]? = some y,
    fun i H v H' => ∃ T x y, v = .ref T ∧ H T = none ∧ H' = upd H T (.tup [x, y]) ∧ (∀ xs, SqV K p H a xs → xs[i]? = some x) ∧ ∀ ys, SqV K q H b ys → ys[i]? = some y,
    fun i H => ∃ xs ys : List V, SqV K p H a xs ∧ SqV K q H b ys ∧ i ≤ xs.length ∧ i ≤ ys.length ∧ (i = xs.length ∨ i = ys.length)⟩
theorem turn {P : Program} {w : World} {K : PySem.W.Frag} {elts : List Expr} {kk : Nat} {tpos : Pos} {p q : Bool} {a b z TI TO i1 i2 : Addr} (D : ZipApart z TI TO i1 i2 a b) :
    Turn P w K (.Tuple elts kk tpos) (Itz K p q a b) [z, TI, TO, i1, i2] z (fun i h => IsZip h z TI TO .none ∧ IsPair h TI (.ref i1) (.ref i2) ∧ (∃ x y, IsPair h TO x y) ∧ ItH p h i1 a i ∧ ItH q h i2 b i) where
  mem := by simp
  obj := fun i h st c hc => by
    obtain ⟨hz, hTI, ⟨x, y, hTO⟩, h1, h2⟩ := st
    have e' : c = z ∨ c = TI ∨ c = TO ∨ c = i1 ∨ c = i2 := by simpa using hc
    rcases e' with rfl | rfl | rfl | rfl | rfl
    · exact ⟨_, hz, fun v q => nomatch q⟩
    · exact ⟨_, hTI, fun v q => nomatch q⟩
    · exact ⟨_, hTO, fun v q => nomatch q⟩
    · exact h1.obj
    · exact h2.obj
  keep := fun i h h' st k => by
    obtain ⟨hz, hTI, ⟨x, y, hTO⟩, h1, h2⟩ := st
    exact ⟨k z (by simp) _ hz, k TI (by simp) _ hTI, ⟨x, y, k TO (by simp) _ hTO⟩, h1.at fun o q => k i1 (by simp) o q, h2.at fun o q => k i2 (by simp) o q⟩
  item := by
    intro X hP hw hK hc i pins s σ H E I hf st hg
    subst hP hw hK
    obtain ⟨hz, hTI, ⟨x0, y0, hTO⟩, h1, h2⟩ := st
    obtain ⟨xs, ys, x, y, hqx, hqy, hx, hy⟩ := hg
    obtain ⟨its, rv, p1, _⟩ := inv_seq I hqx
    obtain ⟨its2, rv2, p2, _⟩ := inv_seq I hqy
    obtain ⟨u, hu, ru⟩ := rv.get hx
    obtain ⟨u2, hu2, ru2⟩ := rv2.get hy
    have hh := I.ok.hd hc
    have hzl : z < s.heap.objs.size := Heap.lt_size hz
    refine wpAny_pyNext_zipD2_item (sep D) (draws p (A := X.A.in1) hh i1 a D.l1i1 its.toArray) (draws q (A := X.A.in1) hh i2 b D.l2i2 its2.toArray) hz hTI hTO ⟨h1, p1⟩ ⟨h2, p2⟩ (by have := (List.getElem?_eq_some_iff.mp hu).1; simpa using this) (by have := (List.getElem?_eq_some_iff.mp hu2).1; simpa using this) fun x1 x2 h' tk e1 e2 z' TO' h1' h2' hT hsz hk => ?_
    have e1' : its[i]? = some x1 := by simpa using e1
    have e2' : its2[i]? = some x2 := by simpa using e2
    rw [hu] at e1'
    rw [hu2] at e2'
    cases e1'
    cases e2'
    refine ⟨_, rfl, wpAny_letOwnedTupleGo_zip (s := { s with heap := h', toks := tk }) z' fun h'' z'' sb => ?_⟩
    have hT2 : h''.get? s.heap.objs.size = some { cls := .type "tuple", data := .seq #[u, u2] } := (sb.2 _ (Nat.ne_of_gt hzl)).trans hT
    have new : ObjOk X.prog X.w (upd H s.heap.objs.size (.tup [x, y])) h'' s.heap.objs.size (.tup [x, y]) :=
      ⟨by show 2 ≤ sizeLine; decide, [u, u2], .cons ru (.cons ru2 .nil), ⟨_, hT2, rfl, _, rfl⟩⟩
    have I1 : Inv X pins σ (upd H s.heap.objs.size (.tup [x, y])) { s with heap := h'', toks := tk } :=
      I.turnedNew (t' := tk) (ch := [z, TI, TO, i1, i2]) (fun c o hb q => (sb.2 c (fun q' => hb (by simp [q']))).trans (hk c o (fun q' => hb (by simp [q'])) (fun q' => hb (by simp [q'])) (fun q' => hb (by simp [q'])) (fun q' => hb (by simp [q'])) q)) hf (Nat.le_refl _) new
    refine ⟨.ref s.heap.objs.size, _, I1, rfl, ⟨_, x, y, rfl, I.hok.fresh (Nat.le_refl _), rfl, fun l hl => by rw [inv_inj I hl hqx]; exact hx, fun l hl => by rw [inv_inj I hl hqy]; exact hy⟩, ⟨z'', ?_, ⟨u, u2, ?_⟩, ?_, ?_⟩, fun c hcm => ?_⟩
    · exact (sb.2 _ D.TIz).trans (hk _ _ D.TIz D.TITO D.TIi1 D.TIi2 hTI)
    · exact (sb.2 _ D.TOz).trans TO'
    · exact h1'.1.at fun o q => (sb.2 _ D.i1z).trans q
    · exact h2'.1.at fun o q => (sb.2 _ D.i2z).trans q
    · have hlt : c < s.heap.objs.size := by
        have e' : c = z ∨ c = TI ∨ c = TO ∨ c = i1 ∨ c = i2 := by simpa using hcm
        rcases e' with rfl | rfl | rfl | rfl | rfl
        · exact hzl
        · exact Heap.lt_size hTI
        · exact Heap.lt_size hTO
        · obtain ⟨_, e1, _⟩ := h1.obj; exact Heap.lt_size e1
        · obtain ⟨_, e2, _⟩ := h2.obj; exact Heap.lt_size e2
      rw [upd_ne (Nat.ne_of_lt hlt)]
      exact (hf c hcm).1
  done := by
    intro X hP hw hK hc i pins s σ H E I hf st hg
    subst hP hw hK
    obtain ⟨hz, hTI, ⟨x0, y0, hTO⟩, h1, h2⟩ := st
    obtain ⟨xs, ys, hqx, hqy, l1, l2, hend⟩ := hg
    obtain ⟨its, rv, p1, _⟩ := inv_seq I hqx
    obtain ⟨its2, rv2, p2, _⟩ := inv_seq I hqy
    have e1 := rv.length
    have e2 := rv2.length
    have hh := I.ok.hd hc
    exact wpAny_pyNext_zipD2_end (sep D) (draws p (A := X.A.in1) hh i1 a D.l1i1 its.toArray) (draws q (A := X.A.in1) hh i2 b D.l2i2 its2.toArray) hz hTI hTO ⟨h1, p1⟩ ⟨h2, p2⟩ (by simp; omega) (by simp; omega) (by simp; omega) fun h' tk hk => ⟨rfl, I.turnedL (t' := tk) (ch := [z, TI, TO, i1, i2]) (fun c o hb q =>
      hk c o (fun q' => hb (by simp [q'])) (fun q' => hb (by simp [q'])) (fun q' => hb (by simp [q'])) (fun q' => hb (by simp [q'])) q) hf⟩
  self := fun A i s Q E st h => wpAny_pyIter_zip st.1 h
def iterO (b : Bool) (l : Addr) : Obj := if b = true then { cls := .type "list_iterator", data := .fields #[.ref l, .int 0 0] } else { cls := .type "tuple_iterator", data := .fields #[.ref l, .int 0 0] }
theorem begins (b : Bool) (l : Addr) (items : Array Value) : Begins (.ref l) (iterO b l) fun h => SqH b h l items := by
  cases b
  · exact begins_tuple l items
  · exact begins_list l items
theorem itH_new {b : Bool} {h : Heap} {it l : Addr} (e : h.get? it = some (iterO b l)) : ItH b h it l 0 := by
  cases b
  · exact ⟨_, e, rfl, rfl⟩
  · exact ⟨_, e, rfl, rfl⟩
def iZipM (K : PySem.W.Frag) (ta : TA) : TI := fun σ H R => ta σ H fun vs H1 => ∃ p q a b xs ys, vs = [.ref a, .ref b] ∧ SqV K p H1 a xs ∧ SqV K q H1 b ys ∧ R (Itz K p q a b) H1
theorem pi_zipM {X : Cx} {e e2 : Expr} {ta : TA} {p pos tpos : Pos} {elts : List Expr} {kk : Nat} (hg : Gl X "zip") (hm : X.mg "zip" = none) (ha : PA X [e, e2] ta)
    (hs : starEach [e, e2] X.env = (false, eval e X.env) :: starEach [e2] X.env := by rfl) (hpl : (backTo pos (starEach [e2] X.env)).any (·.1) = false := by rfl) :
    PI X (.Tuple elts kk tpos) (.Call (.Name "zip" p) [e, e2] [] pos) (iZipM X.K ta) := by
  refine ⟨fun pins s σ H R I h => ?_⟩
  refine Call_ (ld_blt I hg hm PyProof.Rows.boot_zip (PyProof.Rows.callWith_type1 (thn (ha.run pos pins s σ H _ I h) fun us s1 ⟨vs, H1, I1, r1, q1⟩ => ?_) hs hpl))
  obtain ⟨p, q, a, b, xs, ys, ex, hqx, hqy, q1⟩ := q1
  subst ex
  cases r1 with
  | cons r rr =>
    cases rr with
    | cons r' rr =>
      cases rr
      cases r
      cases r'
      have fresh5 : ∀ c, c ∈ [s1.heap.objs.size + 4, s1.heap.objs.size + 2, s1.heap.objs.size + 3, s1.heap.objs.size, s1.heap.objs.size + 1] → FpOk X pins H1 c := fun c hcm => by
        have hle : s1.heap.objs.size ≤ c := by
          simp only [List.mem_cons, List.not_mem_nil, or_false] at hcm
          rcases hcm with rfl | rfl | rfl | rfl | rfl
          all_goals first | exact Nat.le_add_right _ _ | exact Nat.le_refl _
        exact I1.fpOk hle (I1.hok.fresh hle)
      obtain ⟨its, rv, p1, la⟩ := inv_seq I1 hqx
      obtain ⟨its2, rv2, p2, lb⟩ := inv_seq I1 hqy
      refine zip_begins2 (begins p a its.toArray) (begins q b its2.toArray) p1 p2 fun h' hz hTI hTO h1 h2 hsz hk => wpAny_pyIter_zip hz ?_
      have I2 : Inv X pins σ H1 { s1 with heap := h' } := I1.kept (t' := s1.toks) hk
      exact ⟨s1.heap.objs.size + 4, [s1.heap.objs.size + 4, s1.heap.objs.size + 2, s1.heap.objs.size + 3, s1.heap.objs.size, s1.heap.objs.size + 1], _, _, H1, rfl, I2, turn (PySem.W.ktu_apart s1.heap.objs.size a b la lb), ⟨hz, hTI, ⟨_, _, hTO⟩, itH_new h1, itH_new h2⟩, fresh5, q1⟩
end ZM
namespace L3
open PySem PySem.Spec PyProof.Rows L2
section
variable {K : PySem.W.Frag}
/-- the items of a list or a tuple -/
def seqD : D → Option (List D)
  | .lst xs => some xs
  | .tup xs => some xs
  | _ => none
def izipM (T U : DT) : DI := fun δ Q => T δ fun r δ1 => U δ1 fun u δ2 => ∃ d e xs ys, r = .va d ∧ u = .va e ∧ seqD d = some xs ∧ seqD e = some ys ∧ Q (zipD xs ys) [] δ2
theorem seqD_at {G : Hp} {v : V} {d : D} {xs : List D} (h : At K G v d) (e : seqD d = some xs) : ∃ a b vs, v = .ref a ∧ ZM.SqV K b G a vs ∧ AtL K G vs xs := by
  cases h with
  | lst h1 h2 =>
    cases e
    exact ⟨_, true, _, rfl, SqL.of h1, h2⟩
  | tup h1 h2 =>
    cases e
    exact ⟨_, false, _, rfl, h1, h2⟩
  | _ => cases e
theorem sqV_sub {G H : Hp} {a : Addr} {b : Bool} {vs : List V} (h : ZM.SqV K b G a vs) (s : Sub G H) : ZM.SqV K b H a vs := by
  cases b
  · exact s.sqT h
  · exact s.sqL h
theorem zipD_min : ∀ {xs ys : List D}, (zipD xs ys).length ≤ xs.length ∧ (zipD xs ys).length ≤ ys.length ∧ ((zipD xs ys).length = xs.length ∨ (zipD xs ys).length = ys.length)
  | [], _ => ⟨by simp [zipD], by simp [zipD], .inl (by simp [zipD])⟩
  | _ :: _, [] => ⟨by simp [zipD], by simp [zipD], .inr (by simp [zipD])⟩
  | x :: xs, y :: ys => by
    obtain ⟨h1, h2, h3⟩ := zipD_min (xs := xs) (ys := ys)
    simp only [zipD, List.length_cons]
    omega
theorem sndi_zipM {t u : TE} {T U : DT} (a : Snd K t T) (b : Snd K u U) : SndI K (ZM.iZipM K (tCons t (tCons u tNil))) (izipM T U) := fun σ H G δ R Q3 L h k => by
  refine a σ H G δ _ _ L h fun r δ1 v H1 G1 L1 f1 le1 rr q => ?_
  refine b σ H1 G1 δ1 _ _ L1 q fun u δ2 w H2 G2 L2 f2 le2 rr2 q => ?_
  obtain ⟨d, e, xs, ys, rfl, rfl, ed, ee, q⟩ := q
  have f12 : Fr (Ad σ δ) H G H2 G2 := f1.trans f2 fun a h => .inl (le1.ad h)
  obtain ⟨a, p, vs, rfl, h1, t1⟩ := seqD_at (At.mono f2.sub rr) ed
  obtain ⟨b, q', us, rfl, h2, t2⟩ := seqD_at (show At K G2 w e from rr2) ee
  refine ⟨p, q', a, b, vs, us, rfl, sqV_sub h1 L2.sub, sqV_sub h2 L2.sub, k _ [] δ2 _ H2 G2 L2 f12 (le2.trans le1) (fun σ H G δ L s c => ?_) q⟩
  have h1' := sqV_sub (sqV_sub h1 s) L.sub
  have h2' := sqV_sub (sqV_sub h2 s) L.sub
  obtain ⟨m1, m2, m3⟩ := zipD_min (xs := xs) (ys := ys)
  refine ⟨fun k z e => ?_, vs, us, h1', h2', by rw [t1.length]; exact m1, by rw [t2.length]; exact m2, by rw [t1.length, t2.length]; exact m3⟩
  obtain ⟨x, y, e1, e2, rfl⟩ := zipD_get e
  obtain ⟨v, e3, hv⟩ := t1.get e1
  obtain ⟨w, e4, hw⟩ := t2.get e2
  refine ⟨⟨vs, us, v, w, h1', h2', e3, e4⟩, fun u H' z => ?_⟩
  obtain ⟨T, x', y', rfl, hT, rfl, z1, z2⟩ := z
  have q1 := z1 vs h1'
  have q2 := z2 us h2'
  rw [e3] at q1
  rw [e4] at q2
  cases q1
  cases q2
  obtain ⟨f3, s3⟩ := gr_keep (o := .tup [v, w]) L.sub hT
  exact ⟨_, f3, s3, At.tup (SqT.of upd_same) (.cons (hv.mono (s.trans f3.sub)) (.one (hw.mono (s.trans f3.sub))))⟩
end
section
variable {δ : En} {T U : DT} {Q : List D → List (Nat × Cn) → En → Prop}
theorem i_zipM (k : T δ fun r δ1 => U δ1 fun u δ2 => ∃ d e xs ys, r = .va d ∧ u = .va e ∧ seqD d = some xs ∧ seqD e = some ys ∧ Q (zipD xs ys) [] δ2) : izipM T U δ Q := k
end
end L3
namespace L3
open PySem PySem.Spec PyProof.Rows L2
section
variable {K : PySem.W.Frag}
/-- a new list of new lists -/
structure GNew (K : PySem.W.Frag) (H0 H G : Hp) (M : Addr) (al : List Addr) (rows : List (List D)) : Prop where
  n0 : H0 M = none
  gM : G M = none
  hM : H M = some (.lst (al.map V.ref))
  rw_ : Rws K H0 H G al rows
  nd : (M :: al).Nodup
theorem GNew.grow {H0 H1 H G : Hp} {M : Addr} {al : List Addr} {rows : List (List D)} (g : GNew K H1 H G M al rows) (h : ∀ a, H1 a = none → H0 a = none) : GNew K H0 H G M al rows :=
  ⟨h _ g.n0, g.gM, g.hM, ⟨g.rw_.len, fun i a r e1 e2 => let ⟨x, y⟩ := g.rw_.row i a r e1 e2; ⟨h _ x, y⟩⟩, g.nd⟩
abbrev DGr := En → (List (List D) → En → Prop) → Prop
/-- t gives a new grid -/
def SndGr (K : PySem.W.Frag) (t : TE) (T : DGr) : Prop := ∀ (σ : L2.St) (H G : Hp) (δ : En) (Q3 : List (List D) → En → Prop) (Q : VK), Rel K σ H G δ → T δ Q3 →
  (∀ rows δ1 M al H1 G1, Rel K σ H1 G1 δ1 → Fr (Ad σ δ) H G H1 G1 → Le δ1 δ → GNew K H H1 G1 M al rows → Q3 rows δ1 → Q (.ref M) H1) → t σ H Q
/-- [e for ..], e new lists -/
def tgr (S : DI) (Gd : DG) (C : DTT) (Te : DT) (vs : List Nat) : DGr := fun δ Q => S δ fun items cs δ1 => noOw δ1 vs = true ∧ (∀ p ∈ cs, p.1 ∉ vs) ∧ ∃ I : Nat → List (List D) → En → Prop, I 0 [] δ1 ∧ (∀ k acc δ, I k acc δ → ∀ p ∈ cs, δ[p.1]? = some (E.ow p.2)) ∧
  (∀ k x acc δ, items[k]? = some x → I k acc δ → Gd x (wipeE δ vs) fun δ2 => C δ2 fun b δ3 => if b = true then Te δ3 fun r δ4 => ∃ xs, r = .fr (.l xs) ∧ acc.length < sizeLine ∧ I (k + 1) (acc ++ [xs]) (backE δ δ4 vs) else I (k + 1) acc (backE δ δ3 vs)) ∧
  (∀ acc δ, I items.length acc δ → Q acc δ)
theorem sgr_lc {gs vs : List Nat} {wi : TI} {g : TG} {tt : TT} {te : TE} {S : DI} {Gd : DG} {C : DTT} {Te : DT} (hi : SndI K wi S) (hg : SndG K gs g Gd) (ht : SndT K tt C) (he : Snd K te Te) (hgs : ∀ i ∈ gs, i ∈ vs) :
    SndGr K (tLc wi g tt te vs) (tgr S Gd C Te vs) := fun σ H G δ Z Q L h k => by
  refine hi σ H G δ _ _ L h fun items cs δ1 J H1 G1 L1 f1 le1 it q => ?_
  obtain ⟨no, nc, I, I0, Ic, It, Ie⟩ := q
  intro M hM
  have nX : ∀ {a : Addr}, H1 a = none → ∀ δ', Le δ' δ1 → ¬ Ad σ δ' a := fun ha δ' le z => L1.there (le.ad z) ha
  obtain ⟨fD, sD⟩ := gr_new (G := G1) (o := .lst []) L1.sub hM
  have l1 : σ.length = δ1.length := L1.len
  refine ⟨fun i k H' => k = items.length - i ∧ i ≤ items.length ∧ ∃ G' δ' acc al, Rel K σ H' G' δ' ∧ Fr (fun a => Ad σ δ1 a ∨ a = M) (L2.upd H1 M (.lst [])) G1 H' G' ∧ Le δ' δ1 ∧ (∀ v : Nat, v ∈ vs → δ'[v]? = δ1[v]?) ∧ H' M = some (.lst (al.map V.ref)) ∧ G' M = none ∧ Rws K H1 H' G' al acc ∧ (M :: al).Nodup ∧ I i acc δ',
    ⟨items.length, by simp, Nat.zero_le _, G1, δ1, [], [], L1.grow fD sD, .refl, .refl, fun _ _ => rfl, upd_same, g_none L1.sub hM, ⟨rfl, fun i a r e => by simp at e⟩, by simp, I0⟩, ?_⟩
  rintro i k0 H' ⟨rfl, hi, G', δ', acc, al, L', f', le', dv, hH, hG, ra, nd, hI⟩
  have no' : noOw δ' vs = true := List.all_eq_true.mpr fun v hv => by
    rw [dv v hv]
    exact List.all_eq_true.mp no v hv
  have ok := it σ H' G' δ' L' f'.sub fun p hp => ⟨Ic i acc δ' hI p hp, rfl⟩
  have fD' : Fr (fun a => Ad σ δ1 a ∨ a = M) H1 G1 (L2.upd H1 M (.lst [])) G1 := fD.fr
  by_cases hlt : i < items.length
  · obtain ⟨hgo, hy⟩ := ok.1 i items[i] (List.getElem?_eq_getElem hlt)
    refine .inr ⟨hgo, fun H2 => ∃ G2 δ2 acc al, Rel K σ H2 G2 δ2 ∧ Fr (fun a => Ad σ δ1 a ∨ a = M) (L2.upd H1 M (.lst [])) G1 H2 G2 ∧ Le δ2 δ1 ∧ (∀ v : Nat, v ∈ vs → δ2[v]? = δ1[v]?) ∧ H2 M = some (.lst (al.map V.ref)) ∧ G2 M = none ∧ Rws K H1 H2 G2 al acc ∧ (M :: al).Nodup ∧ I (i + 1) acc δ2,
      fun H2 z => ⟨items.length - (i + 1), by omega, rfl, hlt, z⟩, fun x H'' y => ?_⟩
    obtain ⟨G'', fg, sg, hx⟩ := hy x H'' y
    have L'' := L'.grow fg sg
    have Lw := L''.wipe vs
    have s0 : S3 K ⟨fun j l => ∃ c, (wipeE δ' vs)[j]? = some (E.ow c) ∧ (wipe σ vs)[j]? = some (some (V.ref l)), H'', G''⟩ (wipe σ vs) H'' G'' (wipeE δ' vs) := ⟨Lw, .refl, fun j c l e q => .inl ⟨c, e, q⟩, fun j l ⟨c, e, q⟩ => q⟩
    refine hg _ (fun j hj l z => ?_) (wipe σ vs) H'' G'' (wipeE δ' vs) x _ _ _ s0 hx (It i _ acc δ' (List.getElem?_eq_getElem hlt) hI) fun σ2 H2 G2 δ2 n2 le2 q2 => ?_
    · obtain ⟨c, e, q⟩ := z
      rcases wipeE_get e with ⟨_, z⟩ | ⟨z, _⟩
      · cases z
      · exact z (hgs j hj)
    have hσ : ∀ j : Nat, j ∉ vs → σ2[j]? = σ[j]? := fun j hj => (n2.st j fun z => hj (hgs j z)).trans (wipe_off hj)
    have hl2 : σ2.length = σ.length := n2.ln.trans (wipe_length σ vs)
    have fAll : ∀ {A : Addr → Prop} {Ha Ga Hb Gb : Hp}, Fr (fun a => Ad σ δ1 a ∨ a = M) (L2.upd H1 M (.lst [])) G1 Ha Ga → Fr A Ha Ga Hb Gb → (∀ a, A a → Ad σ δ1 a ∨ (L2.upd H1 M (.lst [])) a = none) → Fr (fun a => Ad σ δ1 a ∨ a = M) (L2.upd H1 M (.lst [])) G1 Hb Gb := fun x y z => x.trans y fun a h => (z a h).imp .inl id
    have f2 := fAll f' fg (fun _ z => z.elim)
    have f3 := fAll f2 n2.f fun a z => .inl (le'.ad (ad_wipe z))
    have ow2 : ∀ l, Ad σ2 δ2 l → Ad σ δ1 l ∨ (L2.upd H1 M (.lst [])) l = none := fun l z => (n2.ow l z).elim (fun z => .inl (le'.ad (ad_wipe z))) fun z => .inr (f2.free z)
    have nD2 : ∀ l, Ad σ2 δ2 l → l ≠ M := fun l z e => by
      subst e
      rcases ow2 l z with z | z
      · exact nX hM δ1 .refl z
      · rw [upd_same] at z
        cases z
    have keepD : ∀ {A : Addr → Prop} {Ha Ga Hb Gb : Hp}, Fr A Ha Ga Hb Gb → ¬ A M → Ha M = some (.lst (al.map V.ref)) → Ga M = none → Hb M = some (.lst (al.map V.ref)) ∧ Gb M = none := fun f na h g => ⟨f.h M _ na h, (f.n M na (by rw [h]; exact fun z => nomatch z)).trans g⟩
    obtain ⟨d1, g1⟩ := keepD fg (fun z => z) hH hG
    obtain ⟨d2, g2⟩ := keepD n2.f (fun z => nX hM δ' le' (ad_wipe z)) d1 g1
    have r1 := ra.fr fg fun a _ z => z
    have r2 := r1.fr n2.f fun a ha z => nX (r1.at_ ha).1 δ' le' (ad_wipe z)
    have nA2 : ∀ a ∈ al, ¬ Ad σ2 δ2 a := fun a ha z => (n2.ow a z).elim (fun z => nX (r1.at_ ha).1 δ' le' (ad_wipe z)) fun z => (r1.at_ ha).2.2 z
    refine ⟨?_, ht σ2 H2 G2 δ2 _ _ n2.s.L q2 fun b δ3 H3 G3 L3 f4 le3 q3 => ?_⟩
    · refine List.ext_getElem? fun j => ?_
      by_cases hj : j ∈ vs
      · by_cases hjl : j < σ.length
        · rw [wipe_at hj hjl, wipe_at hj (by rw [hl2]; exact hjl)]
        · rw [List.getElem?_eq_none (by rw [wipe_length]; omega), List.getElem?_eq_none (by rw [wipe_length]; omega)]
      · rw [wipe_off hj, wipe_off hj, hσ j hj]
    have f5 := fAll f3 f4 ow2
    obtain ⟨d3, g3⟩ := keepD f4 (fun z => nD2 M z rfl) d2 g2
    have r3 := r2.fr f4 nA2
    have bk : ∀ {δn : En} {Hn Gn : Hp}, Rel K σ2 Hn Gn δn → Le δn δ2 → Fr (fun a => Ad σ δ1 a ∨ a = M) (L2.upd H1 M (.lst [])) G1 Hn Gn → Sub G' Gn → Rel K σ Hn Gn (backE δ' δn vs) ∧ Le (backE δ' δn vs) δ1 ∧ ∀ v : Nat, v ∈ vs → (backE δ' δn vs)[v]? = δ1[v]? := fun {δn Hn Gn} Ln len fn sn => by
      have hd : δ'.length = δn.length := by rw [← L'.len, ← Ln.len, hl2]
      refine ⟨L'.back no' Ln sn hσ hl2, fun j c e => ?_, fun v hv => (backE_in hd hv).trans (dv v hv)⟩
      rcases backE_get hd e with ⟨h1, h2⟩ | ⟨h1, h2⟩
      · exact absurd h2 (noOw_at no' h1 c)
      · obtain ⟨c2, h3⟩ := len j c h2
        obtain ⟨c3, h4⟩ := le2 j c2 h3
        rcases wipeE_get h4 with ⟨_, z⟩ | ⟨_, z⟩
        · cases z
        · exact le' j c3 z
    cases b with
    | true =>
      refine he σ2 H3 G3 δ3 _ _ L3 q3 fun r δ4 y H4 G4 L4 f6 le4 rr q4 => ?_
      obtain ⟨xs, rfl, hlen, q4⟩ := q4
      obtain ⟨l, rfl, nl, gl, ws, hl4, tl4⟩ := rr
      have nA3 : ∀ a, Ad σ2 δ3 a → Ad σ2 δ2 a := fun a z => le3.ad z
      obtain ⟨d4, g4⟩ := keepD f6 (fun z => nD2 M (nA3 _ z) rfl) d3 g3
      have f8 := fAll f5 f6 fun a z => ow2 a (nA3 a z)
      have sG : Sub G' G4 := (((fg.sub.trans n2.f.sub).trans f4.sub).trans f6.sub)
      obtain ⟨Lb, leb, db⟩ := bk L4 (le4.trans le3) f8 sG
      have r4 := r3.fr f6 fun a ha z => nA2 a ha (nA3 a z)
      have nlM : l ≠ M := fun z => by rw [z, d3] at nl; cases nl
      have nla : l ∉ al := fun z => (r3.at_ z).2.2 nl
      have h1l : H1 l = none := by
        have := f5.free nl
        rw [upd_ne nlM] at this
        exact this
      have fu : Fr (fun a => a = M) H4 G4 (L2.upd H4 M (.lst (al.map V.ref ++ [V.ref l]))) G4 := fr_upd rfl
      have nM := List.nodup_cons.mp nd
      have r5 : Rws K H1 (L2.upd H4 M (.lst (al.map V.ref ++ [V.ref l]))) G4 (al ++ [l]) (acc ++ [xs]) := by
        have r6 := r4.fr fu fun a ha z => nM.1 (by rw [← z]; exact ha)
        refine ⟨by rw [List.length_append, List.length_append, r4.len]; rfl, fun j a r e1 e2 => ?_⟩
        by_cases hj : j < al.length
        · rw [List.getElem?_append_left hj] at e1
          rw [List.getElem?_append_left (by rw [← r4.len]; exact hj)] at e2
          exact r6.row j a r e1 e2
        · rw [List.getElem?_append_right (by omega)] at e1
          rw [List.getElem?_append_right (by rw [← r4.len]; omega), ← r4.len] at e2
          have hj0 : j - al.length = 0 := by
            have := (List.getElem?_eq_some_iff.mp e1).1
            simp at this
            omega
          rw [hj0] at e1 e2
          simp at e1 e2
          subst e1
          subst e2
          exact ⟨h1l, gl, ws, by rw [upd_ne nlM]; exact hl4, tl4⟩
      refine ⟨al.map V.ref, d4, by rw [List.length_map, r4.len]; exact hlen, G4, backE δ' δ4 vs, acc ++ [xs], al ++ [l], Lb.other g4 (nX hM _ leb), f8.trans fu fun a z => .inl (.inr z), leb, db, ?_, g4, r5, ?_, q4⟩
      · rw [upd_same, List.map_append]
        rfl
      · refine List.nodup_cons.mpr ⟨fun z => ?_, List.nodup_append.mpr ⟨nM.2, by simp, fun a ha b hb e => ?_⟩⟩
        · rcases List.mem_append.mp z with z | z
          · exact nM.1 z
          · simp at z
            exact nlM z.symm
        · simp at hb
          subst hb
          subst e
          exact nla ha
    | false =>
      have sG : Sub G' G3 := ((fg.sub.trans n2.f.sub).trans f4.sub)
      obtain ⟨Lb, leb, db⟩ := bk L3 le3 f5 sG
      exact ⟨G3, backE δ' δ3 vs, acc, al, Lb, f5, leb, db, d3, g3, r3, nd, q3⟩
  · have e : i = items.length := by omega
    subst e
    have fF : Fr (Ad σ δ) H G H' G' := (f1.trans fD' fun a z => ?_).trans f' fun a z => ?_
    · refine .inl ⟨ok.2, k acc δ' M al H' G' L' fF (le'.trans le1) ⟨f1.free hM, hG, hH, ⟨ra.len, fun j a r e1 e2 => ?_⟩, nd⟩ (Ie acc δ' hI)⟩
      obtain ⟨q1, q2, q3⟩ := ra.row j a r e1 e2
      exact ⟨f1.free q1, q2, q3⟩
    · rcases z with z | rfl
      · exact .inl (le1.ad z)
      · exact .inr (f1.free hM)
    · rcases z with z | rfl
      · exact .inl (le1.ad z)
      · exact .inr (f1.free hM)
/-- m = t, a new grid; then u over it -/
def sgridG (m : Nat) (T : DGr) (U : YP) : DS := fun Z δ => m < δ.length ∧ T δ fun rows δ1 => U Z (δ1.set m .no) rows
theorem sndp_gridG {ps bs : List Nat} {m : Nat} {t : TE} {u : TS} {T : DGr} {U : YP} (a : SndGr K t T) (rest : SndYP K ps m bs u U) : SndSP K ps (m :: bs) (tSeq (tAsg t (gName m)) u) (sgridG m T U) := fun F hps hp σ H G δ Z De s h gd => by
  obtain ⟨hml, h⟩ := h
  refine a σ H G δ _ _ s.L h fun rows δ' M al H' G' L' fF le' gn q => ?_
  have nX : ∀ {a : Addr}, H a = none → ¬ Ad σ δ' a := fun ha z => s.L.there (le'.ad z) ha
  have n0 : Nxt K F [] σ H G δ σ H' G' δ' := .step s L' fF le'
  have hpm : ∀ l, ¬ F.P m l := hp m List.mem_cons_self
  have n1 : Nxt K F (m :: bs) σ H G δ (σ.set m (some (.ref M))) H' G' (δ'.set m .no) := (n0.setN hpm).mono fun j hj => by
    simp at hj
    subst hj
    exact List.mem_cons_self
  have ad' : ∀ l, Ad (σ.set m (some (.ref M))) (δ'.set m .no) l → Ad σ δ' l := fun l ⟨j, c, e, q⟩ => by
    rcases set_get e with ⟨_, z, _⟩ | ⟨ne, e2⟩
    · cases z
    · rw [List.getElem?_set_ne ne] at q
      exact ⟨j, c, e2, q⟩
  refine rest F hps (fun j hj => hp j (List.mem_cons_of_mem _ hj)) (m :: bs) σ H G δ (fun j hj => List.mem_cons_of_mem _ hj) _ H' G' _ rows Z De n1 ⟨M, al, ⟨?_, gn.hM, gn.gM, fun a ha => ?_, gn.nd, fun z => nX gn.n0 (ad' _ z), ?_, fun j a r e1 e2 => ?_⟩⟩ q gd
  · rw [List.getElem?_set_self (by rw [s.L.len]; exact hml)]
  · have h1 : H a = none := by
      rcases List.mem_cons.mp ha with rfl | ha
      · exact gn.n0
      · exact (gn.rw_.at_ ha).1
    exact ⟨s.f.free h1, h1⟩
  · rw [List.length_map]
    exact gn.rw_.len
  · rw [List.getElem?_map] at e2
    obtain ⟨r', e3, e4⟩ := Option.map_eq_some_iff.mp e2
    cases e4
    obtain ⟨h1, h2, h3⟩ := gn.rw_.row j a r e1 e3
    exact ⟨fun z => nX h1 (ad' _ z), h2, h3⟩
/-- the promise of a def that hands over a new grid -/
abbrev DGp := En → (List (List D) → En → Prop) → Prop
def upN (K : PySem.W.Frag) (n : Nat) (sp : DGp) : Sp := fun vs H Q _ => vs.length = n ∧ ∃ (G : Hp) (δ : En) (Q3 : List (List D) → En → Prop), Rel K (vs.map some) H G δ ∧ sp δ Q3 ∧
  ∀ rows δ' M al H' G', Rel K (vs.map some) H' G' δ' → Fr (Ad (vs.map some) δ) H G H' G' → Le δ' δ → GNew K H H' G' M al rows → Q3 rows δ' → Q (.ref M) H'
def tcallG (sp : DGp) (ms : List Bool) (TA : DTA) : DGr := fun δ Q => TA δ fun rs δ1 => (rfs rs).Nodup ∧ ∃ es, passes δ1 rs ms = some es ∧ sp es fun rows es' => Q rows (puts δ1 rs es')
theorem sgr_call {sp : DGp} {ms : List Bool} {t : TA} {T : DTA} {n : Nat} {W : XK} (hn : ms.length = n) (a : SndA K t T) : SndGr K (tCall (upN K n sp) [] W t) (tcallG sp ms T) := fun σ H G δ Q3 Q L h k => by
  refine a σ H G δ _ _ L h fun rs δ1 vs H1 G1 L1 f1 le1 rr q1 => ?_
  obtain ⟨nd, es, he, hs⟩ := q1
  rw [List.append_nil]
  obtain ⟨h1, G2, LA, h2⟩ := call_coreG L L1 f1 le1 rr nd ((passes_len he).trans hn) he
  refine ⟨h1, G2, es, _, LA, hs, fun rows es' M al H3 G3 L3 f3 le3 gn q3 => ?_⟩
  obtain ⟨a1, a2, a3⟩ := h2 es' H3 G3 L3 f3 le3
  exact k rows _ M al H3 G3 a1 a2 a3 (gn.grow fun a h => f1.free h) q3
/-- a def's body that is `return t`, t a new grid; no argument is our own -/
theorem bodyN_ok {t : TE} {T : DGr} {N : List Str} {n : Nat} {sp : DGp} (a : SndGr K t T)
    (hsp : ∀ δ Q3, sp δ Q3 → δ.length = n → (∀ (i : Nat) c, δ[i]? ≠ some (E.ow c)) ∧ T (δ ++ List.replicate (N.length - n) E.no) fun rows _ => Q3 rows δ) :
    ∀ (vs : List V) (H : Hp) (Q : VK) (W : XK), upN K n sp vs H Q W → tRet t { nx := fun _ H' => Q .non H', rt := Q } (start N vs) H := fun vs H Q W h => by
  obtain ⟨hn, G, δ, Q3, L, hs, k⟩ := h
  have hl : δ.length = n := by
    have := L.len
    rw [List.length_map] at this
    omega
  obtain ⟨h1, h2⟩ := hsp δ Q3 hs hl
  have lv : (vs.map some).length = δ.length := L.len
  have gd : ∀ (i : Nat) (e : E), (δ ++ List.replicate (N.length - n) E.no)[i]? = some e → e ≠ .no → δ[i]? = some e := fun i e h ne => by
    rcases app_get h with h | h
    · exact h
    · exact absurd (List.eq_of_mem_replicate h) ne
  have L0 : Rel K (start N vs) H G (δ ++ List.replicate (N.length - n) E.no) := by
    refine ⟨by unfold L2.start; rw [List.length_append, List.length_append, List.length_replicate, List.length_replicate, lv, hn], L.sub, fun i d e => ?_, fun i c e => ?_, fun i j l c c' e e' q q' => ?_⟩
    · obtain ⟨v, q1, q2⟩ := L.va i d (gd i _ e fun z => nomatch z)
      refine ⟨v, ?_, q2⟩
      unfold L2.start
      rw [List.getElem?_append_left (List.getElem?_eq_some_iff.mp q1).1]
      exact q1
    · exact absurd (gd i _ e fun z => nomatch z) (h1 i c)
    · exact absurd (gd i _ e fun z => nomatch z) (h1 i c)
  refine a _ H G _ _ _ L0 h2 fun rows δ1 M al H1 G1 L1 f1 le1 gn q => ?_
  refine k rows δ M al H1 G1 ⟨L.len, L1.sub, fun i d e => ?_, fun i c e => absurd e (h1 i c), fun i j l c c' e e' q q' => absurd e (h1 i c)⟩ ?_ .refl gn q
  · obtain ⟨v, q1, q2⟩ := L.va i d e
    exact ⟨v, q1, q2.mono f1.sub⟩
  · refine ⟨fun a o na h => f1.h a o (fun ⟨i, c, e, _⟩ => h1 i c (gd i _ e fun z => nomatch z)) h, f1.g, fun a na h => f1.n a (fun ⟨i, c, e, _⟩ => h1 i c (gd i _ e fun z => nomatch z)) h, f1.d⟩
/-- a def at the top that hands over a new grid -/
structure FPN (P : Program) (w : World) (K : PySem.W.Frag) (mg : Str → Option Value) (base : Heap) (x : Str) (k n : Nat) (sp : DGp) : Prop where
  ex : ∃ fd ps, FnOk P w K mg base CX0 k (He.ga K x) fd ps (upN K n sp) ∧ Binds K fd ps []
  kp : PySem.W.keepIn K (.ref (He.ga K x)) = true
  at_ : mg x = some (.ref (He.ga K x))
theorem pe_fN {X : Cx} {x : Str} {p pos : Pos} {e : Expr} {es : List Expr} {t : TA} {k n : Nat} {sp : DGp} (h : FPN X.prog X.w X.K X.mg X.base x k n sp) (hr : Room k X.A) (hg : Gl X x) (ha : PA X (e :: es) t) (hdb : (x == ("__debug__" : Str)) = false := by decide) (he : starEach (e :: es) X.env = (false, eval e X.env) :: starEach es X.env := by rfl)
    (hpl : (backTo pos (starEach es X.env)).any (·.1) = false := by rfl) : PE X (.Call (.Name x p) (e :: es) [] pos) (tCall (upN X.K n sp) [] E0 t) := by
  obtain ⟨fd, ps, F, b⟩ := h.ex
  exact pe_call F hr hg h.at_ h.kp b .nil pass0 ha hdb he hpl
/-- x = e, a new list of numbers that is reckoned while the grid is in sight -/
def ysetOL (m x : Nat) (Tv : DT) : YS := fun Z δ rows => Tv (lookY m δ rows) fun r _ => ∃ ns : List Int, r = .fr (.l (ns.map D.int)) ∧ Z.nx (δ.set x (.ow (.l (ns.map D.int)))) rows
theorem atL_intsN {G G' : Hp} : ∀ {vs : List V} {ns : List Int}, AtL K G vs (ns.map D.int) → AtL K G' vs (ns.map D.int)
  | [], [], _ => .nil
  | _ :: _, _ :: _, .cons h t => by
    cases h
    exact .cons (.int _) (atL_intsN t)
  | [], _ :: _, h => by cases h
  | _ :: _, [], h => by cases h
theorem sndy_setOL {ps : List Nat} {m x : Nat} {tv : TE} {Tv : DT} (av : Snd K tv Tv) (hm : m ≠ x) : SndY K ps m [x] (tAsg tv (gName x)) (ysetOL m x Tv) := fun F hps hp as0 σ0 H0 G0 δ0 hb σ H G δ rows D3 D n gr h gd => by
  obtain ⟨M, al, g⟩ := gr
  obtain ⟨GU, LU⟩ := g.look n.s.L
  refine av σ H GU _ _ _ LU h fun r δ1 v H1 G1 L1 f1 le1 rr q => ?_
  obtain ⟨ns, rfl, q⟩ := q
  obtain ⟨l, rfl, nl, gl, vs, hl, tl⟩ := rr
  have x1 := Rel.quiet n.s f1 lookY_no
  have gl0 : G l = none := g_none n.s.L.sub nl
  have x2 : Nxt K F [x] σ H G δ (σ.set x (some (.ref l))) H1 G (δ.set x (.ow (.l (ns.map L3.D.int)))) := Nxt.setO n.s x1 .refl (hp x List.mem_cons_self) nl gl0 ⟨vs, hl, atL_intsN tl⟩
  exact gd.nx _ _ _ _ _ (.plain n ⟨M, al, g⟩ x2 (by simpa using hm) hb) q
end
section
variable {K : PySem.W.Frag}
def smove (i j : Nat) : DS := fun D δ => ∃ c, δ[j]? = some (E.ow c) ∧ i ≠ j ∧ i < δ.length ∧ D.nx ((δ.set j .no).set i (.ow c))
theorem snds_move {i j : Nat} : SndS K [i, j] (tAsg (tVar j) (gName i)) (smove i j) := fun F hp σ H G δ D3 D s h g => by
  obtain ⟨c, e, ne, hi, q⟩ := h
  obtain ⟨l, h1, h2, h3⟩ := s.L.ow j c e
  refine ⟨.ref l, h1, ?_⟩
  have hset : σ.set j (some (V.ref l)) = σ := by
    refine List.ext_getElem? fun k => ?_
    by_cases z : j = k
    · subst z
      rw [List.getElem?_set_self (List.getElem?_eq_some_iff.mp h1).1, h1]
    · rw [List.getElem?_set_ne z]
  have L1 := s.L.setN (i := j) (v := some (V.ref l))
  rw [hset] at L1
  have na : ¬ Ad σ (δ.set j .no) l := fun ⟨k, c', e', q'⟩ => by
    rcases set_get e' with ⟨_, z, _⟩ | ⟨nk, e2⟩
    · cases z
    · exact nk (s.L.dj j k l c c' e e2 h1 q')
  have L2 := L1.setO (i := i) h2 h3 na
  have up : ∀ (k : Nat) c' l', ((δ.set j .no).set i (.ow c))[k]? = some (E.ow c') → (σ.set i (some (V.ref l)))[k]? = some (some (V.ref l')) → (k = i ∧ l' = l) ∨ (δ[k]? = some (E.ow c') ∧ σ[k]? = some (some (V.ref l'))) := fun k c' l' e' q' => by
    rcases set_get e' with ⟨rfl, z, _⟩ | ⟨nk, e2⟩
    · rw [List.getElem?_set_self (by rw [s.L.len]; exact hi)] at q'
      cases q'
      exact .inl ⟨rfl, rfl⟩
    · rw [List.getElem?_set_ne nk] at q'
      rcases set_get e2 with ⟨_, z, _⟩ | ⟨_, e3⟩
      · cases z
      · exact .inr ⟨e3, q'⟩
  refine g.nx _ _ _ _ ⟨⟨L2, s.f, fun k c' l' e' q' => ?_, fun k l' z => ?_⟩, .refl, fun l' ⟨k, c', e', q'⟩ => ?_, fun k hk => List.getElem?_set_ne fun z => hk (by rw [← z]; exact List.mem_cons_self), List.length_set⟩ q
  · rcases up k c' l' e' q' with ⟨rfl, rfl⟩ | ⟨a, b⟩
    · rcases s.own j c l' e h1 with z | z
      · exact absurd z (hp j (by simp) l')
      · exact .inr z
    · exact s.own k c' l' a b
  · have nk : i ≠ k := fun q => hp i List.mem_cons_self l' (by rw [q]; exact z)
    rw [List.getElem?_set_ne nk]
    exact s.par k l' z
  · rcases up k c' l' e' q' with ⟨rfl, rfl⟩ | ⟨a, b⟩
    · exact .inl ⟨j, c, e, h1⟩
    · exact .inl ⟨k, c', a, b⟩
end
theorem s_move {i j : Nat} {δ : En} {D : DE} (k : ∃ c, δ[j]? = some (E.ow c) ∧ i ≠ j ∧ i < δ.length ∧ ∃ δ', (δ.set j .no).set i (.ow c) = δ' ∧ D.nx δ') : smove i j D δ := by
  simp only [exists_eq_left'] at k
  exact k
section
variable {Q : R → En → Prop} {δ : En} {C : DTT} {Z : DE} {QG : List (List D) → En → Prop} {TA : DTA} {rows : List (List D)} {rt : R → En → Prop} {yn ybk yct : En → List (List D) → Prop}
/-- a new grid by a comprehension -/
def GrN (Gd : DG) (C : DTT) (Te : DT) (vs : List Nat) (Q : List (List D) → En → Prop) (items : List D) (cs : List (Nat × Cn)) (δ1 : En) : Prop := noOw δ1 vs = true ∧ (∀ p ∈ cs, p.1 ∉ vs) ∧ ∃ I : Nat → List (List D) → En → Prop, I 0 [] δ1 ∧ (∀ k acc δ, I k acc δ → ∀ p ∈ cs, δ[p.1]? = some (E.ow p.2)) ∧
  (∀ k x acc δ, items[k]? = some x → I k acc δ → Gd x (wipeE δ vs) fun δ2 => C δ2 fun b δ3 => if b = true then Te δ3 fun r δ4 => ∃ xs, r = .fr (.l xs) ∧ acc.length < sizeLine ∧ I (k + 1) (acc ++ [xs]) (backE δ δ4 vs) else I (k + 1) acc (backE δ δ3 vs)) ∧
  (∀ acc δ, I items.length acc δ → Q acc δ)
theorem n_gr {S : DI} {Gd : DG} {Te : DT} {vs : List Nat} (k : S δ fun items cs δ1 => GrN Gd C Te vs QG items cs δ1) : tgr S Gd C Te vs δ QG := k
/-- each item becomes a new list, the slots stay -/
theorem gr_map {Gd : DG} {Te : DT} {vs : List Nat} {items : List D} {cs : List (Nat × Cn)} (f : Nat → List D) (no : noOw δ vs = true) (hcs : ∀ p ∈ cs, p.1 ∉ vs) (hi : ∀ p ∈ cs, δ[p.1]? = some (E.ow p.2))
    (ht : ∀ k x, items[k]? = some x → Gd x (wipeE δ vs) fun δ2 => Te δ2 fun r δ4 => ∃ xs, r = .fr (.l xs) ∧ ((List.range k).map f).length < sizeLine ∧ (backE δ δ4 vs = δ ∧ (List.range k).map f ++ [xs] = (List.range (k + 1)).map f))
    (he : QG ((List.range items.length).map f) δ) : GrN Gd tyes Te vs QG items cs δ := by
  refine ⟨no, hcs, fun k acc δ' => δ' = δ ∧ acc = (List.range k).map f, ⟨rfl, rfl⟩, fun k acc δ' h => by rw [h.1]; exact hi, fun k x acc δ' e h => ?_, fun acc δ' h => by rw [h.1, h.2]; exact he⟩
  obtain ⟨rfl, rfl⟩ := h
  have h2 := ht k x e
  simp only [tyes, if_true]
  exact h2
theorem n_call {sp : DGp} {ms : List Bool} (k : TA δ fun rs δ1 => ∃ es, passes δ1 rs ms = some es ∧ (rfs rs).Nodup ∧ sp es fun rows es' => ∃ δ', puts δ1 rs es' = δ' ∧ QG rows δ') : tcallG sp ms TA δ QG := by
  have : (fun rs δ1 => ∃ es, passes δ1 rs ms = some es ∧ (rfs rs).Nodup ∧ sp es fun rows es' => ∃ δ', puts δ1 rs es' = δ' ∧ QG rows δ') = fun rs δ1 => (rfs rs).Nodup ∧ ∃ es, passes δ1 rs ms = some es ∧ sp es fun r es' => QG r (puts δ1 rs es') := by
    funext rs δ1
    simp only [exists_eq_left']
    refine propext ⟨fun ⟨es, h1, h2, h3⟩ => ⟨h2, es, h1, h3⟩, fun ⟨h2, es, h1, h3⟩ => ⟨es, h1, h2, h3⟩⟩
  rw [this] at k
  exact k
theorem n_grid {m : Nat} {T : DGr} {U : YP} (k : m < δ.length ∧ T δ fun rows δ1 => ∃ δ', δ1.set m .no = δ' ∧ U Z δ' rows) : sgridG m T U Z δ := by
  simp only [exists_eq_left'] at k
  exact k
theorem y_setOL {m x : Nat} {Tv : DT} (k : ∃ δk, lookY m δ rows = δk ∧ Tv δk fun r _ => ∃ ns : List Int, r = .fr (.l (ns.map D.int)) ∧ ∃ δ', δ.set x (.ow (.l (ns.map D.int))) = δ' ∧ yn δ' rows) : ysetOL m x Tv ⟨yn, rt, ybk, yct⟩ δ rows := by
  obtain ⟨_, rfl, k⟩ := k
  simp only [exists_eq_left'] at k
  exact k
end
/-- a table as a tuple of tuples; as either -/
def tupQ (h w : Nat) (f : Nat → Nat → Int) : D := .tup ((List.range h).map fun y => .tup (rowI w (f y)))
end L3
namespace L3
def skipC (j l : Nat) : Nat := if l < j then l else l + 1
def sgnJ (j : Nat) : Int := if j % 2 = 0 then 1 else -1
def detZ : Nat → (Nat → Nat → Int) → Int
  | 0, _ => 1
  | n + 1, a => sumZ ((List.range (n + 1)).map fun j => sgnJ j * a 0 j * detZ n fun i l => a (i + 1) (skipC j l))
theorem skipC_lt {n j l : Nat} (hl : l < n) : skipC j l < n + 1 := by
  unfold skipC
  split <;> omega
theorem detZ_congr : ∀ {n : Nat} {a b : Nat → Nat → Int}, (∀ i l, i < n → l < n → a i l = b i l) → detZ n a = detZ n b
  | 0, _, _, _ => rfl
  | n + 1, a, b, h => by
    unfold detZ
    refine sumZ_congr fun j hj => ?_
    have hj := List.mem_range.mp hj
    rw [h 0 j (by omega) hj, detZ_congr (a := fun i l => a (i + 1) (skipC j l)) (b := fun i l => b (i + 1) (skipC j l)) fun i l hi hl => h _ _ (by omega) (skipC_lt hl)]
/-- linear in each row -/
theorem detZ_row : ∀ {n r : Nat} {a b c : Nat → Nat → Int} {s t : Int}, r < n → (∀ i l, i ≠ r → a i l = b i l ∧ a i l = c i l) → (∀ l, a r l = s * b r l + t * c r l) → detZ n a = s * detZ n b + t * detZ n c
  | 0, _, _, _, _, _, _, h, _, _ => absurd h (by omega)
  | n + 1, r, a, b, c, s, t, hr, h, e => by
    unfold detZ
    rw [← sumZ_mulL, ← sumZ_mulL, ← sumZ_add]
    refine sumZ_congr fun j hj => ?_
    rcases r with _ | r
    · have e1 : (fun i l => a (i + 1) (skipC j l)) = fun i l => b (i + 1) (skipC j l) := by
        funext i l
        exact (h (i + 1) _ (by omega)).1
      have e2 : (fun i l => a (i + 1) (skipC j l)) = fun i l => c (i + 1) (skipC j l) := by
        funext i l
        exact (h (i + 1) _ (by omega)).2
      rw [← e1, ← e2, e j]
      generalize detZ n (fun i l => a (i + 1) (skipC j l)) = d
      generalize sgnJ j = g
      grind
    · have ih := detZ_row (n := n) (r := r) (a := fun i l => a (i + 1) (skipC j l)) (b := fun i l => b (i + 1) (skipC j l)) (c := fun i l => c (i + 1) (skipC j l)) (s := s) (t := t) (by omega) (fun i l hi => h (i + 1) _ (by omega)) (fun l => e _)
      rw [ih, ← (h 0 j (by omega)).1, ← (h 0 j (by omega)).2]
      generalize detZ n (fun i l => b (i + 1) (skipC j l)) = d1
      generalize detZ n (fun i l => c (i + 1) (skipC j l)) = d2
      generalize sgnJ j = g
      grind
/-- linear in each column -/
theorem detZ_col : ∀ {n r : Nat} {a b c : Nat → Nat → Int} {s t : Int}, r < n → (∀ i l, l ≠ r → a i l = b i l ∧ a i l = c i l) → (∀ i, a i r = s * b i r + t * c i r) → detZ n a = s * detZ n b + t * detZ n c
  | 0, _, _, _, _, _, _, h, _, _ => absurd h (by omega)
  | n + 1, r, a, b, c, s, t, hr, h, e => by
    unfold detZ
    rw [← sumZ_mulL, ← sumZ_mulL, ← sumZ_add]
    refine sumZ_congr fun j hj => ?_
    have hj := List.mem_range.mp hj
    by_cases q : j = r
    · subst q
      have ne : ∀ l, skipC j l ≠ j := fun l => by unfold skipC; split <;> omega
      have e1 : (fun i l => a (i + 1) (skipC j l)) = fun i l => b (i + 1) (skipC j l) := by
        funext i l
        exact (h (i + 1) _ (ne l)).1
      have e2 : (fun i l => a (i + 1) (skipC j l)) = fun i l => c (i + 1) (skipC j l) := by
        funext i l
        exact (h (i + 1) _ (ne l)).2
      rw [← e1, ← e2, e 0]
      generalize detZ n (fun i l => a (i + 1) (skipC j l)) = d
      generalize sgnJ j = g
      grind
    · obtain ⟨r', hr', er⟩ : ∃ r', r' < n ∧ skipC j r' = r := by
        unfold skipC
        rcases Nat.lt_or_ge r j with c1 | c1
        · exact ⟨r, by omega, by rw [if_pos c1]⟩
        · exact ⟨r - 1, by omega, by rw [if_neg (by omega)]; omega⟩
      have inj : ∀ l, l ≠ r' → skipC j l ≠ r := fun l hl => by
        rw [← er]
        unfold skipC
        split <;> split <;> omega
      have ih := detZ_col (n := n) (r := r') (a := fun i l => a (i + 1) (skipC j l)) (b := fun i l => b (i + 1) (skipC j l)) (c := fun i l => c (i + 1) (skipC j l)) (s := s) (t := t) hr' (fun i l hl => h (i + 1) _ (inj l hl)) (fun i => by show a (i + 1) (skipC j r') = _; rw [er]; exact e _)
      rw [ih, ← (h 0 j q).1, ← (h 0 j q).2]
      generalize detZ n (fun i l => b (i + 1) (skipC j l)) = d1
      generalize detZ n (fun i l => c (i + 1) (skipC j l)) = d2
      generalize sgnJ j = g
      grind
def swapC (c l : Nat) : Nat := if l = c then c + 1 else if l = c + 1 then c else l
theorem swapC_perm {n c : Nat} (h : c + 1 < n) : ((List.range n).map (swapC c)).Perm (List.range n) := by
  have inv : ∀ l, swapC c (swapC c l) = l := fun l => by
    unfold swapC
    grind
  have lt : ∀ l, l < n → swapC c l < n := fun l hl => by
    unfold swapC
    grind
  refine (List.perm_ext_iff_of_nodup ?_ List.nodup_range).mpr fun q => ?_
  · refine List.pairwise_map.mpr (List.Pairwise.imp_of_mem (fun {a b} _ _ hab => ?_) List.nodup_range)
    exact fun e => hab (by rw [← inv a, ← inv b, e])
  · constructor
    · intro hq
      obtain ⟨l, hl, rfl⟩ := List.mem_map.mp hq
      exact List.mem_range.mpr (lt l (List.mem_range.mp hl))
    · intro hq
      exact List.mem_map.mpr ⟨swapC c q, List.mem_range.mpr (lt q (List.mem_range.mp hq)), inv q⟩
theorem sgnJ_succ (j : Nat) : sgnJ (j + 1) = - sgnJ j := by
  unfold sgnJ
  rcases Nat.mod_two_eq_zero_or_one j with h | h
  · have h2 : ¬ (j + 1) % 2 = 0 := by omega
    rw [if_neg h2, if_pos h]
  · have h2 : (j + 1) % 2 = 0 := by omega
    have h3 : ¬ j % 2 = 0 := by omega
    rw [if_pos h2, if_neg h3]
    rfl
theorem detZ_swap : ∀ {n c : Nat} {a : Nat → Nat → Int}, c + 1 < n → detZ n (fun i l => a i (swapC c l)) = - detZ n a
  | 0, _, _, h => absurd h (by omega)
  | n + 1, c, a, h => by
    have term : ∀ j, j < n + 1 → sgnJ j * a 0 (swapC c j) * detZ n (fun i l => a (i + 1) (swapC c (skipC j l))) = - (sgnJ (swapC c j) * a 0 (swapC c j) * detZ n fun i l => a (i + 1) (skipC (swapC c j) l)) := fun j hj => by
      by_cases c1 : j = c
      · subst c1
        have e : ∀ l, swapC j (skipC j l) = skipC (j + 1) l := fun l => by
          unfold swapC skipC
          grind
        have s : swapC j j = j + 1 := if_pos rfl
        simp only [e, s, sgnJ_succ]
        generalize detZ n (fun i l => a (i + 1) (skipC (j + 1) l)) = d
        grind
      · by_cases c2 : j = c + 1
        · subst c2
          have e : ∀ l, swapC c (skipC (c + 1) l) = skipC c l := fun l => by
            unfold swapC skipC
            grind
          have s : swapC c (c + 1) = c := by unfold swapC; rw [if_neg (by omega), if_pos rfl]
          simp only [e, s, sgnJ_succ]
          generalize detZ n (fun i l => a (i + 1) (skipC c l)) = d
          grind
        · have s : swapC c j = j := by unfold swapC; rw [if_neg c1, if_neg c2]
          obtain ⟨c', hc', e⟩ : ∃ c', c' + 1 < n ∧ ∀ l, swapC c (skipC j l) = skipC j (swapC c' l) := by
            rcases Nat.lt_or_ge c j with q | q
            · refine ⟨c, by omega, fun l => ?_⟩
              unfold swapC skipC
              grind
            · refine ⟨c - 1, by omega, fun l => ?_⟩
              unfold swapC skipC
              grind
          have ih := detZ_swap (n := n) (c := c') (a := fun i l => a (i + 1) (skipC j l)) hc'
          simp only [e, s]
          rw [ih]
          generalize detZ n (fun i l => a (i + 1) (skipC j l)) = d
          grind
    show sumZ ((List.range (n + 1)).map fun j => sgnJ j * a 0 (swapC c j) * detZ n fun i l => a (i + 1) (swapC c (skipC j l))) = - sumZ ((List.range (n + 1)).map fun j => sgnJ j * a 0 j * detZ n fun i l => a (i + 1) (skipC j l))
    rw [sumZ_congr (h := fun j => -1 * (sgnJ (swapC c j) * a 0 (swapC c j) * detZ n fun i l => a (i + 1) (skipC (swapC c j) l))) fun j hj => by rw [term j (List.mem_range.mp hj)]; grind, sumZ_mulL]
    have p := sumZ_permF ((swapC_perm h).map fun j => sgnJ j * a 0 j * detZ n fun i l => a (i + 1) (skipC j l))
    rw [List.map_map] at p
    have p : sumZ ((List.range (n + 1)).map fun j => sgnJ (swapC c j) * a 0 (swapC c j) * detZ n fun i l => a (i + 1) (skipC (swapC c j) l)) = sumZ ((List.range (n + 1)).map fun j => sgnJ j * a 0 j * detZ n fun i l => a (i + 1) (skipC j l)) := p
    rw [p]
    omega
/-- equal columns -/
theorem detZ_same : ∀ {k n c : Nat} {a : Nat → Nat → Int}, c + k + 1 < n → (∀ i, a i c = a i (c + k + 1)) → detZ n a = 0
  | 0, n, c, a, h, e => by
    have s := detZ_swap (n := n) (c := c) (a := a) (by omega)
    have : (fun i l => a i (swapC c l)) = a := by
      funext i l
      unfold swapC
      split
      · rename_i q
        rw [q]
        exact (e i).symm
      · split
        · rename_i q
          rw [q]
          exact e i
        · rfl
    rw [this] at s
    omega
  | k + 1, n, c, a, h, e => by
    have s := detZ_swap (n := n) (c := c + k + 1) (a := a) (by omega)
    have z := detZ_same (k := k) (n := n) (c := c) (a := fun i l => a i (swapC (c + k + 1) l)) (by omega) fun i => by
      show a i (swapC (c + k + 1) c) = a i (swapC (c + k + 1) (c + k + 1))
      have e1 : swapC (c + k + 1) c = c := by unfold swapC; rw [if_neg (by omega), if_neg (by omega)]
      have e2 : swapC (c + k + 1) (c + k + 1) = c + k + 1 + 1 := if_pos rfl
      rw [e1, e2]
      exact e i
    rw [z] at s
    omega
/-- the table with column c put anew -/
def colN (a : Nat → Nat → Int) (c : Nat) (v : Nat → Int) : Nat → Nat → Int := fun i l => if l = c then v i else a i l
def unitV (m : Nat) : Nat → Int := fun i => if i = m then 1 else 0
/-- the number of item m of column c -/
def cofZ (n : Nat) (a : Nat → Nat → Int) (c m : Nat) : Int := detZ n (colN a c (unitV m))
theorem detZ_cut {n c : Nat} {a : Nat → Nat → Int} {v : Nat → Int} (h : c < n) : ∀ m, detZ n (colN a c fun i => if i < m then v i else 0) = sumZ ((List.range m).map fun i => v i * cofZ n a c i)
  | 0 => by
    have := detZ_col (n := n) (r := c) (a := colN a c fun i => if i < 0 then v i else 0) (b := a) (c := a) (s := 0) (t := 0) h (fun i l hl => by
      have : colN a c (fun i => if i < 0 then v i else 0) i l = a i l := if_neg hl
      exact ⟨this, this⟩) (fun i => by
      show (if c = c then (if i < 0 then v i else 0) else a i c) = 0 * a i c + 0 * a i c
      grind)
    rw [this]
    show _ = (0 : Int)
    grind
  | m + 1 => by
    have := detZ_col (n := n) (r := c) (a := colN a c fun i => if i < m + 1 then v i else 0) (b := colN a c fun i => if i < m then v i else 0) (c := colN a c (unitV m)) (s := 1) (t := v m) h (fun i l hl => by
      have e : ∀ w, colN a c w i l = a i l := fun w => if_neg hl
      exact ⟨by rw [e, e], by rw [e, e]⟩) (fun i => by
      unfold colN unitV
      grind)
    rw [this, detZ_cut h m, List.range_succ, List.map_append, sumZ_append]
    show 1 * sumZ _ + v m * detZ n (colN a c (unitV m)) = sumZ _ + (v m * cofZ n a c m + 0)
    unfold cofZ
    grind
theorem detZ_sum {n c : Nat} {a : Nat → Nat → Int} (h : c < n) : detZ n a = sumZ ((List.range n).map fun i => a i c * cofZ n a c i) := by
  rw [← detZ_cut (v := fun i => a i c) h n]
  refine detZ_congr fun i l hi hl => ?_
  unfold colN
  grind
/-- with the last unit as the last column -/
theorem detZ_last : ∀ {k : Nat} {a : Nat → Nat → Int}, (∀ i, i < k → a i k = 0) → a k k = 1 → detZ (k + 1) a = detZ k a
  | 0, a, _, h => by
    show sumZ [sgnJ 0 * a 0 0 * 1] = 1
    rw [h]
    rfl
  | k + 1, a, h0, h1 => by
    show sumZ ((List.range (k + 2)).map fun j => sgnJ j * a 0 j * detZ (k + 1) fun i l => a (i + 1) (skipC j l)) = sumZ ((List.range (k + 1)).map fun j => sgnJ j * a 0 j * detZ k fun i l => a (i + 1) (skipC j l))
    rw [List.range_succ (n := k + 1), List.map_append, sumZ_append]
    have z : sumZ (List.map (fun j => sgnJ j * a 0 j * detZ (k + 1) fun i l => a (i + 1) (skipC j l)) [k + 1]) = 0 := by
      show sgnJ (k + 1) * a 0 (k + 1) * _ + 0 = 0
      rw [h0 0 (by omega)]
      grind
    rw [z, Int.add_zero]
    refine sumZ_congr fun j hj => ?_
    have hj := List.mem_range.mp hj
    have sk : skipC j k = k + 1 := by unfold skipC; rw [if_neg (by omega)]
    rw [detZ_last (k := k) (a := fun i l => a (i + 1) (skipC j l)) (fun i hi => by show a (i + 1) (skipC j k) = 0; rw [sk]; exact h0 _ (by omega)) (by show a (k + 1) (skipC j k) = 1; rw [sk]; exact h1)]
def Comb (m : Nat) (ρ : Nat → Nat → Int) (w : Nat → Int) : Prop := ∃ d : Nat → Int, ∀ j, w j = sumZ ((List.range m).map fun i => d i * ρ i j)
section
variable {m k : Nat} {ρ : Nat → Nat → Int} {γ : Nat → Nat} {x w w' : Nat → Int} {j : Nat}
theorem Comb.lin (h : Comb m ρ w) (h' : Comb m ρ w') (s t : Int) : Comb m ρ fun j => s * w j + t * w' j := by
  obtain ⟨d, hd⟩ := h
  obtain ⟨d', hd'⟩ := h'
  refine ⟨fun i => s * d i + t * d' i, fun j => ?_⟩
  show s * w j + t * w' j = _
  rw [hd, hd', ← sumZ_mulL, ← sumZ_mulL, ← sumZ_add]
  refine sumZ_congr fun i _ => ?_
  show s * (d i * ρ i j) + t * (d' i * ρ i j) = (s * d i + t * d' i) * ρ i j
  grind
theorem Comb.split (h : Comb (m + 1) ρ w) : ∃ (c : Nat → Int) (d : Int), Comb m ρ c ∧ ∀ j, w j = c j + d * ρ m j := by
  obtain ⟨d, hd⟩ := h
  refine ⟨_, d m, ⟨d, fun j => rfl⟩, fun j => ?_⟩
  rw [hd, List.range_succ, List.map_append, sumZ_append]
  show _ + (d m * ρ m j + 0) = _
  rw [Int.add_zero]
end
theorem detZ_colsum {n c : Nat} {a u : Nat → Nat → Int} {r : Nat → Int} (h : c < n) : ∀ k, detZ n (colN a c fun i => sumZ ((List.range k).map fun m => u i m * r m)) = sumZ ((List.range k).map fun m => r m * detZ n (colN a c fun i => u i m))
  | 0 => by
    have := detZ_col (n := n) (r := c) (a := colN a c fun _ => 0) (b := a) (c := a) (s := 0) (t := 0) h (fun i l hl => by
      have : colN a c (fun _ => 0) i l = a i l := if_neg hl
      exact ⟨this, this⟩) (fun i => by
      show (if c = c then (0 : Int) else a i c) = 0 * a i c + 0 * a i c
      grind)
    show detZ n (colN a c fun _ => 0) = 0
    rw [this]
    grind
  | k + 1 => by
    have := detZ_col (n := n) (r := c) (a := colN a c fun i => sumZ ((List.range (k + 1)).map fun m => u i m * r m)) (b := colN a c fun i => sumZ ((List.range k).map fun m => u i m * r m)) (c := colN a c fun i => u i k) (s := 1) (t := r k) h (fun i l hl => by
      have e : ∀ w, colN a c w i l = a i l := fun w => if_neg hl
      exact ⟨by rw [e, e], by rw [e, e]⟩) (fun i => by
      have e : ∀ w, colN a c w i c = w i := fun w => if_pos rfl
      rw [e, e, e, List.range_succ, List.map_append, sumZ_append]
      show _ + (u i k * r k + 0) = _
      grind)
    rw [this, detZ_colsum h k, List.range_succ, List.map_append, sumZ_append]
    show 1 * sumZ _ + r k * _ = sumZ _ + (r k * _ + 0)
    grind
theorem pigeon {n k : Nat} {f : Nat → Nat} (h : k < n) (hf : ∀ l, l < n → f l < k) : ∃ a b, a < b ∧ b < n ∧ f a = f b := by
  refine Classical.byContradiction fun no => ?_
  have nd : ((List.range n).map f).Nodup := by
    refine List.pairwise_iff_getElem.mpr fun i j hi hj hij e => no ⟨i, j, hij, by simpa using hj, ?_⟩
    simpa using e
  have := nd.length_le_of_subset (l₂ := List.range k) fun x hx => by
    obtain ⟨l, hl, rfl⟩ := List.mem_map.mp hx
    exact List.mem_range.mpr (hf l (List.mem_range.mp hl))
  simp at this
  omega
theorem thin_at {n k : Nat} {u r : Nat → Nat → Int} (h : k < n) : ∀ d L : Nat, L + d = n → ∀ f : Nat → Nat, (∀ l, l < L → f l < k) → detZ n (fun i l => if l < L then u i (f l) else sumZ ((List.range k).map fun m => u i m * r m l)) = 0
  | 0, L, hd, f, hf => by
    obtain ⟨a, b, hab, hb, e⟩ := pigeon h fun l hl => hf l (by omega)
    refine detZ_same (k := b - a - 1) (c := a) (by omega) fun i => ?_
    have eb : a + (b - a - 1) + 1 = b := by omega
    rw [eb, if_pos (by omega), if_pos (by omega), e]
  | d + 1, L, hd, f, hf => by
    have e1 : (fun i l => if l < L then u i (f l) else sumZ ((List.range k).map fun m => u i m * r m l)) = colN (fun i l => if l < L then u i (f l) else sumZ ((List.range k).map fun m => u i m * r m l)) L fun i => sumZ ((List.range k).map fun m => u i m * r m L) := by
      funext i l
      unfold colN
      by_cases q : l = L
      · rw [if_pos q, if_neg (by omega), q]
      · rw [if_neg q]
    rw [e1, detZ_colsum (by omega)]
    refine sumZ_zero fun m hm => ?_
    have z := thin_at (u := u) (r := r) h d (L + 1) (by omega) (fun l => if l < L then f l else m) fun l hl => by
      show (if l < L then f l else m) < k
      split
      · exact hf l (by omega)
      · exact List.mem_range.mp hm
    have e2 : (colN (fun i l => if l < L then u i (f l) else sumZ ((List.range k).map fun m => u i m * r m l)) L fun i => u i m) = fun i l => if l < L + 1 then u i (if l < L then f l else m) else sumZ ((List.range k).map fun m => u i m * r m l) := by
      funext i l
      unfold colN
      by_cases q : l = L
      · rw [if_pos q, if_pos (by omega), if_neg (by omega)]
      · rw [if_neg q]
        by_cases q2 : l < L
        · show (if l < L then u i (f l) else _) = _
          rw [if_pos q2, if_pos (by omega), if_pos q2]
        · show (if l < L then u i (f l) else _) = _
          rw [if_neg q2, if_neg (by omega)]
    rw [e2, z]
    exact Int.mul_zero _
/-- fewer columns than rows make no minor -/
theorem detZ_thin {n k : Nat} {u r : Nat → Nat → Int} (h : k < n) : detZ n (fun i l => sumZ ((List.range k).map fun m => u i m * r m l)) = 0 := by
  have := thin_at (u := u) (r := r) h n 0 (by omega) (fun _ => 0) fun l hl => absurd hl (by omega)
  exact this
end L3
namespace L3
/-- f^k c, over the first n -/
def colP (n : Nat) (f : Nat → Nat → Int) (c : Nat → Int) : Nat → Nat → Int
  | 0 => c
  | k + 1 => fun i => sumZ ((List.range n).map fun j => f i j * colP n f c k j)
def edg (n : Nat) (f : Nat → Nat → Int) : Nat → Int
  | 0 => 1
  | 1 => - f n n
  | k + 2 => - sumZ ((List.range n).map fun j => f n j * colP n f (fun i => f i n) k j)
def cpl (f : Nat → Nat → Int) : Nat → Nat → Int
  | 0, _ => 1
  | n + 1, a => sumZ ((List.range (min a n + 1)).map fun k => edg n f (a - k) * cpl f n k)
theorem sum_bt {α : Type} {g : α → Int} {k m : Nat} {l : List α} (h : ∀ x ∈ l, (g x).natAbs < 2 ^ k) (hl : l.length ≤ 2 ^ m) : (sumZ (l.map g)).natAbs < 2 ^ (k + m) := by
  have key : ∀ l : List α, (∀ x ∈ l, (g x).natAbs < 2 ^ k) → (sumZ (l.map g)).natAbs + l.length ≤ l.length * 2 ^ k := by
    intro l
    induction l with
    | nil => intro _; simp [sumZ]
    | cons x l ih =>
      intro h
      have h1 := h x List.mem_cons_self
      have h2 := ih fun y hy => h y (List.mem_cons_of_mem _ hy)
      rw [List.map_cons, sumZ_cons, List.length_cons, Nat.succ_mul]
      omega
  have h1 := key l h
  have h2 : l.length * 2 ^ k ≤ 2 ^ m * 2 ^ k := Nat.mul_le_mul_right _ hl
  have h3 : 2 ^ (k + m) = 2 ^ m * 2 ^ k := by rw [Nat.pow_add, Nat.mul_comm]
  have h4 : 0 < 2 ^ (k + m) := Nat.two_pow_pos _
  rcases Nat.eq_zero_or_pos l.length with h5 | h5
  · rw [h5] at h1
    omega
  · omega
theorem bt_mono {x : Int} {k m : Nat} (h : x.natAbs < 2 ^ k) (l : k ≤ m) : x.natAbs < 2 ^ m := Nat.lt_of_lt_of_le h (Nat.pow_le_pow_right (by decide) l)
/-- entries below 2^64 -/
def SmT (n : Nat) (f : Nat → Nat → Int) : Prop := ∀ i j, i < n → j < n → (f i j).natAbs < 2 ^ 64
theorem SmT.le {n m : Nat} {f : Nat → Nat → Int} (h : SmT n f) (l : m ≤ n) : SmT m f := fun i j hi hj => h i j (by omega) (by omega)
theorem col_bt {n k : Nat} {f : Nat → Nat → Int} (h : SmT (n + 1) f) (n8 : n ≤ 8) : ∀ {i}, i < n → (colP n f (fun i => f i n) k i).natAbs < 2 ^ (64 + 67 * k) := by
  induction k with
  | zero => exact fun hi => h _ n (by omega) (by omega)
  | succ k ih =>
    intro i hi
    have : 64 + 67 * (k + 1) = (64 + (64 + 67 * k)) + 3 := by omega
    rw [this]
    refine sum_bt (fun j hj => ?_) (by rw [List.length_range]; omega)
    have hj := List.mem_range.mp hj
    exact L2.wide_lt (h i j (by omega) (by omega)) (ih hj)
theorem edg_bt {n k : Nat} {f : Nat → Nat → Int} (h : SmT (n + 1) f) (n8 : n ≤ 8) (hk : k ≤ n + 1) : (edg n f k).natAbs < 2 ^ 700 := by
  rcases k with _ | _ | k
  · show (1 : Int).natAbs < 2 ^ 700
    exact Nat.one_lt_two_pow (by decide)
  · show (- f n n).natAbs < _
    rw [Int.natAbs_neg]
    exact bt_mono (h n n (by omega) (by omega)) (by decide)
  · show (- _).natAbs < _
    rw [Int.natAbs_neg]
    refine bt_mono (sum_bt (k := 64 + (64 + 67 * k)) (m := 3) (fun j hj => ?_) (by rw [List.length_range]; omega)) (by omega)
    have hj := List.mem_range.mp hj
    exact L2.wide_lt (h n j (by omega) (by omega)) (col_bt h n8 hj)
theorem cpl_bt {f : Nat → Nat → Int} : ∀ {n a : Nat}, SmT n f → n ≤ 8 → a ≤ n → (cpl f n a).natAbs < 2 ^ (1 + 704 * n)
  | 0, a, _, _, _ => by
    show (1 : Int).natAbs < _
    decide
  | n + 1, a, h, n8, ha => by
    have : 1 + 704 * (n + 1) = (700 + (1 + 704 * n)) + 4 := by omega
    rw [this]
    refine sum_bt (fun k hk => ?_) (by rw [List.length_range]; omega)
    have hk := List.mem_range.mp hk
    exact L2.wide_lt (edg_bt h (by omega) (by omega)) (cpl_bt (h.le (by omega)) (by omega) (by omega))
theorem wide_ok {i j : Int} {a b : Nat} (ha : i.natAbs < 2 ^ a) (hb : j.natAbs < 2 ^ b) (h0 : 0 < a) (h1 : 0 < b) (h : a + b ≤ 1000000) : L2.CMulW i j := L2.wide_mul ha hb h0 h1 h
theorem sm64 {x : Int} (h : x.natAbs < 2 ^ 64) : -(2 ^ 64) < x ∧ x < 2 ^ 64 := by
  have e : (2 : Nat) ^ 64 = 18446744073709551616 := by decide
  have e2 : (2 : Int) ^ 64 = 18446744073709551616 := by decide
  rw [e] at h
  rw [e2]
  omega
/-- a row of numbers, a list or a tuple -/
def RwD (n : Nat) (f : Nat → Int) (d : D) : Prop := d = .lst (rowI n f) ∨ d = .tup (rowI n f)
/-- a table, of lists or of tuples -/
def TbD (h w : Nat) (f : Nat → Nat → Int) (d : D) : Prop := d = .lst (matQ h w f) ∨ d = tupQ h w f
end L3
namespace L3
/-- a polynomial's value, the highest coefficient first -/
def horn (c : Nat → Int) (x : Int) : Nat → Int
  | 0 => 0
  | n + 1 => horn c x n * x + c n
/-- the product's coefficients -/
def mulC (q : Nat) (f g : Nat → Int) (m k : Nat) : Int := sumZ ((List.range m).map fun i => if i ≤ k ∧ k ≤ i + q then f i * g (k - i) else 0)
def mulP (p q : Nat) (f g : Nat → Int) (k : Nat) : Int := mulC q f g (p + 1) k
theorem mulC_succ {q m k : Nat} {f g : Nat → Int} : mulC q f g (m + 1) k = mulC q f g m k + if m ≤ k ∧ k ≤ m + q then f m * g (k - m) else 0 := by
  unfold mulC
  rw [List.range_succ, List.map_append, sumZ_append, List.map_cons, List.map_nil, sumZ_cons, sumZ_nil, Int.add_zero]
theorem map_range_take {α : Type} {g : Nat → α} {h n : Nat} (l : n ≤ h) : ((List.range h).map g).take n = (List.range n).map g := by
  refine List.ext_getElem? fun i => ?_
  by_cases hi : i < n
  · rw [List.getElem?_take_of_lt hi, List.getElem?_map, List.getElem?_map, List.getElem?_range (by omega), List.getElem?_range hi]
  · rw [List.getElem?_eq_none (by simp; omega), List.getElem?_eq_none (by simp; omega)]
theorem rowI_take {h n : Nat} {g : Nat → Int} (l : n ≤ h) : (rowI h g).take n = rowI n g := map_range_take l
theorem matQ_take {h w n : Nat} {f : Nat → Nat → Int} (l : n ≤ h) : (matQ h w f).take n = matQ n w f := map_range_take l
def tupL (h w : Nat) (f : Nat → Nat → Int) : List D := (List.range h).map fun y => .tup (rowI w (f y))
theorem tupQ_eq {h w : Nat} {f : Nat → Nat → Int} : tupQ h w f = .tup (tupL h w f) := rfl
theorem tupL_len {h w : Nat} {f : Nat → Nat → Int} : (tupL h w f).length = h := by simp [tupL]
theorem tupL_at {h w k : Nat} {f : Nat → Nat → Int} (hk : k < h) : (tupL h w f)[k]? = some (.tup (rowI w (f k))) := by
  unfold tupL
  rw [List.getElem?_map, List.getElem?_range hk]
  rfl
theorem tupL_get {h w i : Nat} {f : Nat → Nat → Int} {y : D} (e : (tupL h w f)[i]? = some y) : i < h ∧ y = .tup (rowI w (f i)) := by
  have hi := (List.getElem?_eq_some_iff.mp e).1
  rw [tupL_len] at hi
  rw [tupL_at hi] at e
  exact ⟨hi, (Option.some.inj e).symm⟩
theorem tupL_take {h w n : Nat} {f : Nat → Nat → Int} (l : n ≤ h) : (tupL h w f).take n = tupL n w f := map_range_take l
def charM (f : Nat → Nat → Int) (x : Int) : Nat → Nat → Int := fun i j => (if i = j then x else 0) - f i j
theorem map_range_drop {α : Type} {g : Nat → α} {h n : Nat} : ((List.range (h + n)).map g).drop n = (List.range h).map fun i => g (i + n) := by
  refine List.ext_getElem? fun i => ?_
  rw [List.getElem?_drop, List.getElem?_map, List.getElem?_map]
  by_cases hi : i < h
  · rw [List.getElem?_range (by omega), List.getElem?_range hi, Nat.add_comm n i]
    rfl
  · rw [List.getElem?_eq_none (by simp; omega), List.getElem?_eq_none (by simp; omega)]
    rfl
theorem matQ_drop1 {n w : Nat} {f : Nat → Nat → Int} : (matQ (n + 1) w f).drop 1 = matQ n w fun i => f (i + 1) := map_range_drop
theorem rowI_skip {n j : Nat} {g : Nat → Int} (h : j < n + 1) : (rowI (n + 1) g).take j ++ (rowI (n + 1) g).drop (j + 1) = rowI n fun l => g (skipC j l) := by
  refine List.ext_getElem? fun i => ?_
  rw [rowI_take (by omega)]
  by_cases hi : i < n
  · rw [rowI_at hi]
    by_cases hj : i < j
    · rw [List.getElem?_append_left (by rw [rowI_len]; exact hj), rowI_at hj]
      unfold skipC
      rw [if_pos hj]
    · rw [List.getElem?_append_right (by rw [rowI_len]; omega), rowI_len, List.getElem?_drop, rowI_at (by omega)]
      unfold skipC
      rw [if_neg hj, show j + 1 + (i - j) = i + 1 from by omega]
  · rw [List.getElem?_eq_none (by simp [rowI_len]; omega), List.getElem?_eq_none (by rw [rowI_len]; omega)]
theorem sm_add2 {x : Int} {j : Nat} (h : x.natAbs < 2 ^ 40) (hj : j ≤ 100) : (x + j).natAbs < 2 ^ 60 := by
  simp only [Nat.reducePow] at *
  omega
theorem sm_add {x : Int} {j : Nat} (h : x.natAbs < 2 ^ 40) (hj : j ≤ 100) : (x + j).natAbs < 2 ^ 64 := by
  simp only [Nat.reducePow] at *
  omega
theorem charM_sm {n : Nat} {f : Nat → Nat → Int} {x : Int} (h : ∀ i j, i < n → j < n → (f i j).natAbs < 2 ^ 60) (hx : x.natAbs < 2 ^ 60) : SmT n (charM f x) := fun i j hi hj => by
  have := h i j hi hj
  unfold charM
  simp only [Nat.reducePow] at *
  split <;> omega
theorem rowI_snoc {k : Nat} {g : Nat → Int} {x : Int} : rowI k g ++ [.int x] = rowI (k + 1) fun i => if i = k then x else g i := by
  unfold rowI
  rw [List.range_succ, List.map_append, List.map_cons, List.map_nil]
  simp only [if_true]
  congr 1
  refine List.map_congr_left fun i hi => ?_
  rw [if_neg (by have := List.mem_range.mp hi; omega)]
theorem matQ_snoc {k w : Nat} {f : Nat → Nat → Int} {g : Nat → Int} : matQ k w f ++ [.lst (rowI w g)] = matQ (k + 1) w fun i => if i = k then g else f i := by
  unfold matQ
  rw [List.range_succ, List.map_append, List.map_cons, List.map_nil]
  simp only [if_true]
  congr 1
  refine List.map_congr_left fun i hi => ?_
  rw [if_neg (by have := List.mem_range.mp hi; omega)]
theorem matQ_setI {h w k : Nat} {f : Nat → Nat → Int} {g : Nat → Int} : (matQ h w f).set k (.lst (rowI w g)) = matQ h w fun i => if i = k then g else f i := by
  refine List.ext_getElem? fun i => ?_
  by_cases hi : i < h
  · by_cases e : k = i
    · subst e
      rw [List.getElem?_set_self (by rw [matQ_len]; exact hi), matQ_at hi, if_pos rfl]
    · rw [List.getElem?_set_ne e, matQ_at hi, matQ_at hi, if_neg (Ne.symm e)]
  · rw [List.getElem?_eq_none (by rw [List.length_set, matQ_len]; omega), List.getElem?_eq_none (by rw [matQ_len]; omega)]
def putT (f : Nat → Nat → Int) (i0 j0 : Nat) (v : Int) : Nat → Nat → Int := fun i j => if i = i0 ∧ j = j0 then v else f i j
def gridR (h w : Nat) (f : Nat → Nat → Int) : List (List D) := (List.range h).map fun y => rowI w (f y)
theorem gridR_len {h w : Nat} {f : Nat → Nat → Int} : (gridR h w f).length = h := by simp [gridR]
theorem gridR_at {h w k : Nat} {f : Nat → Nat → Int} (hk : k < h) : (gridR h w f)[k]? = some (rowI w (f k)) := by
  unfold gridR
  rw [List.getElem?_map, List.getElem?_range hk]
  rfl
theorem gridR_lst {h w : Nat} {f : Nat → Nat → Int} : (gridR h w f).map D.lst = matQ h w f := by
  unfold gridR
  rw [List.map_map]
  rfl
theorem gridR_put {h w i j : Nat} {f : Nat → Nat → Int} {v : Int} : (gridR h w f).set i ((rowI w (f i)).set j (.int v)) = gridR h w (putT f i j v) := by
  refine List.ext_getElem? fun p => ?_
  by_cases hp : p < h
  · rw [gridR_at hp]
    by_cases e : i = p
    · subst e
      rw [List.getElem?_set_self (by rw [gridR_len]; exact hp), rowI_setI]
      congr 1
      refine rowI_congr fun q _ => ?_
      unfold putT
      by_cases e2 : q = j
      · rw [if_pos e2, if_pos ⟨rfl, e2⟩]
      · rw [if_neg e2, if_neg fun z => e2 z.2]
    · rw [List.getElem?_set_ne e, gridR_at hp]
      congr 1
      refine rowI_congr fun q _ => ?_
      unfold putT
      rw [if_neg fun z => e z.1.symm]
  · rw [List.getElem?_eq_none (by rw [List.length_set, gridR_len]; omega), List.getElem?_eq_none (by rw [gridR_len]; omega)]
def linP (r : Int) (k : Nat) : Int := if k = 0 then 1 else -r
def sqrP (v : Int) (k : Nat) : Int := if k = 0 then 1 else if k = 1 then 0 else -v
/-- the first a rows and columns are filled -/
structure Blk (a : Nat) (f : Nat → Nat → Int) (c : Nat → Int) : Prop where
  z : ∀ i j, a ≤ i ∨ a ≤ j → f i j = 0
  c0 : c 0 = 1
  h : ∀ x, horn c x (a + 1) = detZ a (charM f x)
  b : ∀ i j, (f i j).natAbs ≤ 64
/-- row k taken t times to row i, column i taken t times from column k -/
def rowT (f : Nat → Nat → Int) (i k : Nat) (t : Int) : Nat → Nat → Int := fun p => if p = i then (fun j => f i j + t * f k j) else f p
def simT (f : Nat → Nat → Int) (i k : Nat) (t : Int) : Nat → Nat → Int := fun p j => rowT f i k t p j - if j = k then t * rowT f i k t p i else 0
theorem rowT_b {f : Nat → Nat → Int} {i k B : Nat} {t : Int} (h : ∀ p q, (f p q).natAbs ≤ B) (ht : t = 1 ∨ t = -1 ∨ t = 0) (p q : Nat) : (rowT f i k t p q).natAbs ≤ 2 * B := by
  unfold rowT
  have h1 := h i q
  have h2 := h k q
  have h3 := h p q
  by_cases e : p = i
  · rw [if_pos e]
    show (f i q + t * f k q).natAbs ≤ _
    rcases ht with rfl | rfl | rfl <;> omega
  · rw [if_neg e]
    omega
theorem simT_b {f : Nat → Nat → Int} {i k B : Nat} {t : Int} (h : ∀ p q, (f p q).natAbs ≤ B) (ht : t = 1 ∨ t = -1 ∨ t = 0) (p q : Nat) : (simT f i k t p q).natAbs ≤ 4 * B := by
  have h1 := rowT_b (i := i) (k := k) h ht p q
  have h2 := rowT_b (i := i) (k := k) h ht p i
  unfold simT
  split
  · rcases ht with rfl | rfl | rfl <;> omega
  · omega
end L3
namespace L3
theorem horn_congr {c d : Nat → Int} {x : Int} : ∀ {n : Nat}, (∀ k, k < n → c k = d k) → horn c x n = horn d x n
  | 0, _ => rfl
  | n + 1, h => by
    show horn c x n * x + c n = horn d x n * x + d n
    rw [horn_congr fun k hk => h k (by omega), h n (by omega)]
theorem horn_lin {c d : Nat → Int} {s t x : Int} : ∀ {n : Nat}, horn (fun k => s * c k + t * d k) x n = s * horn c x n + t * horn d x n
  | 0 => by show (0 : Int) = s * 0 + t * 0; omega
  | n + 1 => by
    show horn (fun k => s * c k + t * d k) x n * x + (s * c n + t * d n) = s * (horn c x n * x + c n) + t * (horn d x n * x + d n)
    rw [horn_lin]
    grind
theorem horn_zero {x : Int} : ∀ {n : Nat}, horn (fun _ => 0) x n = 0
  | 0 => rfl
  | n + 1 => by
    show horn (fun _ => 0) x n * x + 0 = 0
    rw [horn_zero]
    omega
theorem horn_sum {α : Type} {c : α → Nat → Int} {x : Int} {n : Nat} : ∀ {l : List α}, horn (fun k => sumZ (l.map fun a => c a k)) x n = sumZ (l.map fun a => horn (c a) x n)
  | [] => horn_zero
  | a :: l => by
    have := horn_lin (c := c a) (d := fun k => sumZ (l.map fun a => c a k)) (s := 1) (t := 1) (x := x) (n := n)
    rw [horn_sum] at this
    rw [List.map_cons, sumZ_cons]
    simp only [Int.one_mul] at this
    rw [← this]
    rfl
/-- a coefficient 0 ahead -/
def upP (c : Nat → Int) (k : Nat) : Int := if k = 0 then 0 else c (k - 1)
theorem horn_up {c : Nat → Int} {x : Int} : ∀ {n : Nat}, horn (upP c) x (n + 1) = horn c x n
  | 0 => by show (0 : Int) * x + 0 = 0; omega
  | n + 1 => by
    show horn (upP c) x (n + 1) * x + upP c (n + 1) = horn c x n * x + c n
    rw [horn_up]
    rfl
/-- times x -/
def cutP (n : Nat) (c : Nat → Int) (k : Nat) : Int := if k < n then c k else 0
theorem horn_cut {c : Nat → Int} {x : Int} {n : Nat} : horn (cutP n c) x (n + 1) = horn c x n * x := by
  show horn (cutP n c) x n * x + cutP n c n = _
  rw [horn_congr (c := cutP n c) (d := c) fun k hk => (if_pos hk : cutP n c k = c k), show cutP n c n = 0 from if_neg (by omega), Int.add_zero]
theorem horn_far {c d : Nat → Int} : ∀ {n : Nat} {N : Int}, (∀ x, N ≤ x → horn c x n = horn d x n) → ∀ a, a < n → c a = d a
  | 0, _, _, a, ha => by omega
  | n + 1, N, h, a, ha => by
    have e : ∀ x, N ≤ x → horn c x n * x + c n = horn d x n * x + d n := h
    have last : c n = d n := by
      let x := (max N 0) + (c n - d n).natAbs + 1
      have hx := e x (by omega)
      have : (horn d x n - horn c x n) * x = c n - d n := by grind
      have hd : x ∣ c n - d n := ⟨horn d x n - horn c x n, by grind⟩
      have := Int.eq_zero_of_dvd_of_natAbs_lt_natAbs hd (by omega)
      omega
    rcases Nat.lt_or_ge a n with h1 | h1
    · refine horn_far (N := max N 1) (fun x hx => ?_) a h1
      have := e x (by omega)
      rw [last] at this
      have : horn c x n * x = horn d x n * x := by omega
      exact Int.eq_of_mul_eq_mul_right (by omega) this
    · obtain rfl : a = n := by omega
      exact last
theorem horn_inj {c d : Nat → Int} {n : Nat} (h : ∀ x, horn c x n = horn d x n) : ∀ a, a < n → c a = d a := horn_far (N := 0) fun x _ => h x
theorem horn_shift {g : Nat → Int} {x : Int} {m q : Nat} : ∀ r : Nat, horn (fun k => if m ≤ k ∧ k ≤ m + q then g (k - m) else 0) x (m + (q + 1) + r) = horn g x (q + 1) * x ^ r
  | 0 => by
    have low : ∀ j, j ≤ m → horn (fun k => if m ≤ k ∧ k ≤ m + q then g (k - m) else 0) x j = 0 := fun j hj => by
      rw [horn_congr (d := fun _ => 0) fun k hk => if_neg (by omega), horn_zero]
    have mid : ∀ j, j ≤ q + 1 → horn (fun k => if m ≤ k ∧ k ≤ m + q then g (k - m) else 0) x (m + j) = horn g x j := fun j => by
      induction j with
      | zero => exact fun _ => low m (Nat.le_refl _)
      | succ j ih =>
        intro hj
        show horn _ x (m + j) * x + (if m ≤ m + j ∧ m + j ≤ m + q then g (m + j - m) else 0) = horn g x j * x + g j
        rw [ih (by omega), if_pos (by omega), show m + j - m = j from by omega]
    rw [Nat.add_zero, mid (q + 1) (Nat.le_refl _), Int.pow_zero, Int.mul_one]
  | r + 1 => by
    show horn _ x (m + (q + 1) + r) * x + (if m ≤ m + (q + 1) + r ∧ m + (q + 1) + r ≤ m + q then g (m + (q + 1) + r - m) else 0) = _
    rw [horn_shift r, if_neg (by omega), Int.pow_succ]
    grind
theorem horn_mulC {f g : Nat → Int} {x : Int} {p q : Nat} : ∀ {m r : Nat}, m + r = p + 1 → horn (mulC q f g m) x (p + q + 1) = horn f x m * x ^ r * horn g x (q + 1)
  | 0, r, _ => by
    have : mulC q f g 0 = fun _ => 0 := rfl
    rw [this, horn_zero]
    show (0 : Int) = 0 * _ * _
    grind
  | m + 1, r, h => by
    have e : mulC q f g (m + 1) = fun k => 1 * mulC q f g m k + f m * (if m ≤ k ∧ k ≤ m + q then g (k - m) else 0) := by
      funext k
      rw [mulC_succ, Int.one_mul]
      split
      · rfl
      · omega
    rw [e, horn_lin, horn_mulC (m := m) (r := r + 1) (by omega), show p + q + 1 = m + (q + 1) + r from by omega, horn_shift]
    show _ = (horn f x m * x + f m) * x ^ r * _
    rw [Int.pow_succ]
    grind
theorem horn_mul {f g : Nat → Int} {x : Int} {p q : Nat} : horn (mulP p q f g) x (p + q + 1) = horn f x (p + 1) * horn g x (q + 1) := by
  have := horn_mulC (f := f) (g := g) (x := x) (p := p) (q := q) (m := p + 1) (r := 0) rfl
  rw [Int.pow_zero, Int.mul_one] at this
  exact this
theorem colP_next {n : Nat} {f : Nat → Nat → Int} {c : Nat → Int} : ∀ k, colP n f (fun i => sumZ ((List.range n).map fun j => f i j * c j)) k = colP n f c (k + 1)
  | 0 => rfl
  | k + 1 => by
    funext i
    show sumZ ((List.range n).map fun j => f i j * colP n f _ k j) = sumZ ((List.range n).map fun j => f i j * colP n f c (k + 1) j)
    rw [colP_next k]
theorem col_dual {n : Nat} {f : Nat → Nat → Int} : ∀ {k : Nat} {R C : Nat → Int}, sumZ ((List.range n).map fun j => R j * colP n f C k j) = sumZ ((List.range n).map fun j => C j * colP n (fun i j => f j i) R k j)
  | 0, R, C => sumZ_congr fun j _ => Int.mul_comm _ _
  | k + 1, R, C => by
    rw [← colP_next (f := fun i j => f j i) k, ← col_dual (k := k)]
    have : ∀ j, R j * colP n f C (k + 1) j = sumZ ((List.range n).map fun l => R j * (f j l * colP n f C k l)) := fun j => sumZ_mulL.symm
    rw [sumZ_congr fun j _ => this j, sumZ_swap]
    refine sumZ_congr fun l _ => ?_
    rw [← sumZ_mulR]
    exact sumZ_congr fun j _ => by grind
theorem edg_flip {n : Nat} {f : Nat → Nat → Int} : ∀ k, edg n (fun i j => f j i) k = edg n f k
  | 0 => rfl
  | 1 => rfl
  | k + 2 => by
    show - _ = - _
    rw [col_dual (R := fun j => f n j) (C := fun i => f i n)]
theorem cpl_flip {f : Nat → Nat → Int} : ∀ {n a : Nat}, cpl (fun i j => f j i) n a = cpl f n a
  | 0, _ => rfl
  | n + 1, a => sumZ_congr fun k _ => by rw [edg_flip, cpl_flip]
theorem cpl_zero {f : Nat → Nat → Int} : ∀ {n : Nat}, cpl f n 0 = 1
  | 0 => rfl
  | n + 1 => by
    show sumZ ((List.range (min 0 n + 1)).map fun k => edg n f (0 - k) * cpl f n k) = 1
    rw [Nat.zero_min]
    show edg n f 0 * cpl f n 0 + 0 = 1
    rw [cpl_zero]
    rfl
theorem detZ_rz {n r : Nat} {a : Nat → Nat → Int} (h : r < n) (z : ∀ l, l < n → a r l = 0) : detZ n a = 0 := by
  have e : detZ n a = detZ n (fun i l => if i = r then 0 else a i l) := detZ_congr fun i l hi hl => by
    by_cases e : i = r
    · subst e
      rw [if_pos rfl, z l hl]
    · rw [if_neg e]
  rw [e]
  have := detZ_row (n := n) (r := r) (a := fun i l => if i = r then 0 else a i l) (b := a) (c := a) (s := 0) (t := 0) h (fun i l hi => ⟨if_neg hi, if_neg hi⟩) (fun l => by
    show (if r = r then (0 : Int) else a r l) = _
    rw [if_pos rfl]
    omega)
  rw [this]
  omega
theorem detZ_cz {n c : Nat} {a : Nat → Nat → Int} (h : c < n) (z : ∀ i, i < n → a i c = 0) : detZ n a = 0 := by
  have e : detZ n a = detZ n (colN a c fun _ => 0) := detZ_congr fun i l hi hl => by
    unfold colN
    by_cases e : l = c
    · subst e
      rw [if_pos rfl, z i hi]
    · rw [if_neg e]
  rw [e]
  have := detZ_col (n := n) (r := c) (a := colN a c fun _ => 0) (b := a) (c := a) (s := 0) (t := 0) h (fun i l hl => ⟨if_neg hl, if_neg hl⟩) (fun i => by
    show (if c = c then (0 : Int) else a i c) = _
    rw [if_pos rfl]
    omega)
  rw [this]
  omega
theorem colN_lin {n c : Nat} {a : Nat → Nat → Int} {u v : Nat → Int} {s t : Int} (h : c < n) : detZ n (colN a c fun i => s * u i + t * v i) = s * detZ n (colN a c u) + t * detZ n (colN a c v) :=
  detZ_col h (fun i l hl => by unfold colN; rw [if_neg hl, if_neg hl, if_neg hl]; exact ⟨rfl, rfl⟩) fun i => by unfold colN; rw [if_pos rfl, if_pos rfl, if_pos rfl]
def rowN (a : Nat → Nat → Int) (r : Nat) (v : Nat → Int) : Nat → Nat → Int := fun i l => if i = r then v l else a i l
theorem rowN_lin {n r : Nat} {a : Nat → Nat → Int} {u v : Nat → Int} {s t : Int} (h : r < n) : detZ n (rowN a r fun i => s * u i + t * v i) = s * detZ n (rowN a r u) + t * detZ n (rowN a r v) :=
  detZ_row h (fun i l hi => by unfold rowN; rw [if_neg hi, if_neg hi, if_neg hi]; exact ⟨rfl, rfl⟩) fun l => by unfold rowN; rw [if_pos rfl, if_pos rfl, if_pos rfl]
theorem colN_own {a : Nat → Nat → Int} {c : Nat} : colN a c (fun i => a i c) = a := by
  funext i l
  unfold colN
  by_cases e : l = c
  · rw [if_pos e, e]
  · rw [if_neg e]
theorem rowN_own {a : Nat → Nat → Int} {r : Nat} : rowN a r (a r) = a := by
  funext i l
  unfold rowN
  by_cases e : i = r
  · rw [if_pos e, e]
  · rw [if_neg e]
theorem rowN_sum {n r : Nat} {a : Nat → Nat → Int} {v : Nat → Int} (h : r < n) : detZ n (rowN a r v) = sumZ ((List.range n).map fun l => v l * detZ n (rowN a r (unitV l))) := by
  have cut : ∀ m, detZ n (rowN a r fun l => if l < m then v l else 0) = sumZ ((List.range m).map fun l => v l * detZ n (rowN a r (unitV l))) := fun m => by
    induction m with
    | zero =>
      exact detZ_rz h fun l _ => by
        unfold rowN
        rw [if_pos rfl]
        show (if l < 0 then v l else (0 : Int)) = 0
        rw [if_neg (by omega)]
    | succ m ih =>
      have e : (fun l => if l < m + 1 then v l else 0) = fun l => 1 * (if l < m then v l else 0) + v m * unitV m l := by
        funext l
        unfold unitV
        rcases Nat.lt_trichotomy l m with q | q | q
        · rw [if_pos (by omega), if_pos q, if_neg (by omega)]
          omega
        · subst q
          rw [if_pos (by omega), if_neg (by omega), if_pos rfl]
          omega
        · rw [if_neg (by omega), if_neg (by omega), if_neg (by omega)]
          omega
      rw [e, rowN_lin h, ih, List.range_succ, List.map_append, sumZ_append, List.map_cons, List.map_nil, sumZ_cons, sumZ_nil]
      omega
  rw [← cut n]
  refine detZ_congr fun i l hi hl => ?_
  unfold rowN
  show (if i = r then v l else a i l) = if i = r then (if l < n then v l else 0) else a i l
  rw [if_pos hl]
/-- two rows alike -/
theorem detZ_dup {n r s : Nat} {a : Nat → Nat → Int} (hr : r < n) (hs : s < n) (ne : r ≠ s) (e : ∀ l, l < n → a r l = a s l) : detZ n a = 0 := by
  obtain ⟨k, rfl⟩ : ∃ k, n = k + 1 := ⟨n - 1, by omega⟩
  have key : ∀ i, ∃ m, m < k ∧ (i < k + 1 → skipC s m = if i = s then r else i) := fun i => by
    by_cases h : i < k + 1
    · by_cases q : i = s
      · subst q
        rw [if_pos rfl]
        by_cases h2 : r < i
        · exact ⟨r, by omega, fun _ => by unfold skipC; rw [if_pos h2]⟩
        · exact ⟨r - 1, by omega, fun _ => by unfold skipC; rw [if_neg (by omega)]; omega⟩
      · rw [if_neg q]
        by_cases h2 : i < s
        · exact ⟨i, by omega, fun _ => by unfold skipC; rw [if_pos h2]⟩
        · exact ⟨i - 1, by omega, fun _ => by unfold skipC; rw [if_neg (by omega)]; omega⟩
    · exact ⟨0, by omega, fun z => absurd z h⟩
  rw [← detZ_thin (n := k + 1) (k := k) (u := fun i m => if m = (key i).choose then 1 else 0) (r := fun m l => a (skipC s m) l) (by omega)]
  refine detZ_congr fun i l hi hl => ?_
  obtain ⟨h1, h2⟩ := (key i).choose_spec
  have e2 : ∀ m, (if m = (key i).choose then (1 : Int) else 0) * a (skipC s m) l = if m = (key i).choose then a (skipC s m) l else 0 := fun m => by
    split <;> omega
  rw [sumZ_congr fun m _ => e2 m, sum_pick h1, h2 hi]
  by_cases q : i = s
  · rw [if_pos q, q]
    exact (e l hl).symm
  · rw [if_neg q]
/-- cofactors by columns and by rows -/
theorem cof_row {n m l : Nat} {a : Nat → Nat → Int} (hm : m < n) (hl : l < n) : cofZ n a l m = detZ n (rowN a m (unitV l)) := by
  have h1 : detZ n (colN a l (unitV m)) = detZ n (rowN (colN a l (unitV m)) m (unitV l)) := by
    have e : colN a l (unitV m) = rowN (colN a l (unitV m)) m fun q => 1 * unitV l q + 1 * (if q = l then 0 else a m q) := by
      funext i q
      unfold rowN colN unitV
      grind
    rw [e, rowN_lin hm, ← e]
    rw [detZ_cz (a := rowN (colN a l (unitV m)) m fun q => if q = l then 0 else a m q) hl fun i _ => by unfold rowN colN unitV; grind]
    omega
  have h2 : detZ n (rowN a m (unitV l)) = detZ n (colN (rowN a m (unitV l)) l (unitV m)) := by
    have e : rowN a m (unitV l) = colN (rowN a m (unitV l)) l fun i => 1 * unitV m i + 1 * (if i = m then 0 else a i l) := by
      funext i q
      unfold rowN colN unitV
      grind
    rw [e, colN_lin hl, ← e]
    rw [detZ_rz (a := colN (rowN a m (unitV l)) l fun i => if i = m then 0 else a i l) hm fun q _ => by unfold rowN colN unitV; grind]
    omega
  unfold cofZ
  rw [h1, h2]
  congr 1
  funext i q
  unfold rowN colN unitV
  grind
/-- X adj X -/
theorem adj_mul {n s m : Nat} {a : Nat → Nat → Int} (hs : s < n) (hm : m < n) : sumZ ((List.range n).map fun l => a s l * cofZ n a l m) = if s = m then detZ n a else 0 := by
  have e : ∀ l ∈ List.range n, a s l * cofZ n a l m = a s l * detZ n (rowN a m (unitV l)) := fun l hl => by rw [cof_row hm (List.mem_range.mp hl)]
  rw [sumZ_congr e, ← rowN_sum hm]
  by_cases q : s = m
  · rw [if_pos q, q, rowN_own]
  · rw [if_neg q]
    exact detZ_dup hs hm q fun l _ => by unfold rowN; rw [if_neg q, if_pos rfl]
/-- Cramer -/
theorem cramer {n s : Nat} {a : Nat → Nat → Int} {C : Nat → Int} (hs : s < n) : sumZ ((List.range n).map fun l => a s l * detZ n (colN a l C)) = detZ n a * C s := by
  have e : ∀ l ∈ List.range n, a s l * detZ n (colN a l C) = sumZ ((List.range n).map fun m => C m * (a s l * cofZ n a l m)) := fun l hl => by
    have hl := List.mem_range.mp hl
    have : detZ n (colN a l C) = sumZ ((List.range n).map fun m => C m * cofZ n a l m) := by
      rw [detZ_sum hl]
      refine sumZ_congr fun m _ => ?_
      rw [show colN a l C m l = C m from if_pos rfl]
      congr 1
      unfold cofZ
      congr 1
      funext i q
      unfold colN
      split <;> rfl
    rw [this, ← sumZ_mulL]
    exact sumZ_congr fun m _ => by grind
  rw [sumZ_congr e, sumZ_swap]
  have e2 : ∀ m ∈ List.range n, sumZ ((List.range n).map fun l => C m * (a s l * cofZ n a l m)) = if m = s then detZ n a * C m else 0 := fun m hm => by
    rw [sumZ_mulL, adj_mul hs (List.mem_range.mp hm)]
    by_cases q : s = m
    · rw [if_pos q, if_pos q.symm]
      exact Int.mul_comm _ _
    · rw [if_neg q, if_neg (Ne.symm q)]
      omega
  rw [sumZ_congr e2, sum_pick hs]
theorem detZ_dupC {n c d : Nat} {a : Nat → Nat → Int} (hc : c < n) (hd : d < n) (ne : c ≠ d) (e : ∀ i, a i c = a i d) : detZ n a = 0 := by
  rcases Nat.lt_or_gt_of_ne ne with h | h
  · exact detZ_same (k := d - c - 1) (c := c) (by omega) fun i => by rw [show c + (d - c - 1) + 1 = d from by omega]; exact e i
  · exact detZ_same (k := c - d - 1) (c := d) (by omega) fun i => by rw [show d + (c - d - 1) + 1 = c from by omega]; exact (e i).symm
/-- two columns exchanged -/
theorem detZ_exC {n c d : Nat} {a : Nat → Nat → Int} (hc : c < n) (hd : d < n) (ne : c ≠ d) : detZ n (colN (colN a c fun i => a i d) d fun i => a i c) = - detZ n a := by
  have two : ∀ u v : Nat → Int, detZ n (colN (colN a c u) d v) = detZ n (colN (colN a d v) c u) := fun u v => by
    congr 1
    funext i l
    unfold colN
    grind
  have z : detZ n (colN (colN a c fun i => 1 * a i c + 1 * a i d) d fun i => 1 * a i c + 1 * a i d) = 0 := detZ_dupC hc hd ne fun i => by unfold colN; grind
  rw [colN_lin hd, two, two, colN_lin hc, colN_lin hc, ← two, ← two, ← two, ← two] at z
  have z1 : detZ n (colN (colN a c fun i => a i c) d fun i => a i c) = 0 := detZ_dupC hc hd ne fun i => by unfold colN; grind
  have z2 : detZ n (colN (colN a c fun i => a i d) d fun i => a i d) = 0 := detZ_dupC hc hd ne fun i => by unfold colN; grind
  have z3 : colN (colN a c fun i => a i c) d (fun i => a i d) = a := by
    rw [colN_own, colN_own]
  rw [z1, z2, z3] at z
  omega
/-- the last row is the last unit -/
theorem detZ_lastR {n : Nat} {a : Nat → Nat → Int} : detZ (n + 1) (rowN a n (unitV n)) = detZ n a := by
  rw [← cof_row (by omega) (by omega)]
  show detZ (n + 1) (colN a n (unitV n)) = _
  rw [detZ_last (fun i hi => by unfold colN unitV; grind) (by unfold colN unitV; grind)]
  exact detZ_congr fun i l hi hl => by unfold colN; rw [if_neg (by omega)]
/-- by the last row and the last column -/
theorem detZ_bor {n : Nat} {a : Nat → Nat → Int} : detZ (n + 1) a = a n n * detZ n a - sumZ ((List.range n).map fun l => a n l * detZ n (colN a l fun i => a i n)) := by
  have h0 : detZ (n + 1) a = sumZ ((List.range (n + 1)).map fun l => a n l * detZ (n + 1) (rowN a n (unitV l))) := by
    rw [← rowN_sum (by omega), rowN_own]
  rw [h0, List.range_succ, List.map_append, sumZ_append, List.map_cons, List.map_nil, sumZ_cons, sumZ_nil, detZ_lastR]
  have e : ∀ l ∈ List.range n, a n l * detZ (n + 1) (rowN a n (unitV l)) = -1 * (a n l * detZ n (colN a l fun i => a i n)) := fun l hl => by
    have hl := List.mem_range.mp hl
    have := detZ_exC (n := n + 1) (c := l) (d := n) (a := rowN a n (unitV l)) (by omega) (by omega) (by omega)
    have e2 : colN (colN (rowN a n (unitV l)) l fun i => rowN a n (unitV l) i n) n (fun i => rowN a n (unitV l) i l) = rowN (colN (colN a l fun i => a i n) n fun i => a i l) n (unitV n) := by
      funext i q
      unfold colN rowN unitV
      grind
    rw [e2, detZ_lastR] at this
    have e3 : detZ n (colN (colN a l fun i => a i n) n fun i => a i l) = detZ n (colN a l fun i => a i n) := detZ_congr fun i q hi hq => by
      unfold colN
      rw [if_neg (by omega)]
    rw [e3] at this
    rw [this]
    grind
  rw [sumZ_congr e, sumZ_mulL]
  omega
def PolyN (d : Nat) (g : Int → Int) : Prop := ∃ c : Nat → Int, ∀ x, g x = horn c x (d + 1)
theorem PolyN.lin {d : Nat} {g h : Int → Int} (a : PolyN d g) (b : PolyN d h) (s t : Int) : PolyN d fun x => s * g x + t * h x := by
  obtain ⟨c, hc⟩ := a
  obtain ⟨e, he⟩ := b
  exact ⟨fun k => s * c k + t * e k, fun x => by
    show s * g x + t * h x = _
    rw [horn_lin, hc, he]⟩
theorem PolyN.congr {d : Nat} {g h : Int → Int} (a : PolyN d g) (e : ∀ x, g x = h x) : PolyN d h := by
  obtain ⟨c, hc⟩ := a
  exact ⟨c, fun x => by rw [← e, hc]⟩
theorem PolyN.zero {d : Nat} : PolyN d fun _ => 0 := ⟨fun _ => 0, fun x => horn_zero.symm⟩
theorem PolyN.sum {α : Type} {d : Nat} {g : α → Int → Int} : ∀ {l : List α}, (∀ a, a ∈ l → PolyN d (g a)) → PolyN d fun x => sumZ (l.map fun a => g a x)
  | [], _ => .zero
  | a :: l, h => by
    have := (h a List.mem_cons_self).lin (PolyN.sum fun b hb => h b (List.mem_cons_of_mem _ hb)) 1 1
    refine this.congr fun x => ?_
    rw [List.map_cons, sumZ_cons, Int.one_mul, Int.one_mul]
theorem PolyN.mul1 {d : Nat} {g : Int → Int} (a : PolyN d g) (p q : Int) : PolyN (d + 1) fun x => (p * x + q) * g x := by
  obtain ⟨c, hc⟩ := a
  refine ⟨fun k => p * cutP (d + 1) c k + q * upP c k, fun x => ?_⟩
  show (p * x + q) * g x = _
  rw [horn_lin, horn_cut, horn_up, hc]
  grind
theorem detZ_poly : ∀ {n : Nat} {p q : Nat → Nat → Int}, PolyN n fun x => detZ n fun i l => p i l * x + q i l
  | 0, p, q => ⟨fun _ => 1, fun x => by show (1 : Int) = 0 * x + 1; omega⟩
  | n + 1, p, q => PolyN.sum (g := fun j x => sgnJ j * (p 0 j * x + q 0 j) * detZ n fun i l => p (i + 1) (skipC j l) * x + q (i + 1) (skipC j l)) fun j _ => by
    have := (detZ_poly (n := n) (p := fun i l => p (i + 1) (skipC j l)) (q := fun i l => q (i + 1) (skipC j l))).mul1 (sgnJ j * p 0 j) (sgnJ j * q 0 j)
    refine this.congr fun x => ?_
    grind
/-- the numbers of Cramer for the next column are a polynomial of the right form -/
theorem next_col {n : Nat} {f : Nat → Nat → Int} (ih : ∀ x, horn (cpl f n) x (n + 1) = detZ n (charM f x)) :
    ∃ c : Nat → Nat → Int, (∀ l, l < n → ∀ x, detZ n (colN (charM f x) l fun i => f i n) = horn (c l) x n) ∧
      ∀ l, l < n → ∀ j, j < n → c l j = sumZ ((List.range (j + 1)).map fun k => cpl f n k * colP n f (fun i => f i n) (j - k) l) := by
  have poly : ∀ l, PolyN n fun x => detZ n (colN (charM f x) l fun i => f i n) := fun l => by
    refine (detZ_poly (n := n) (p := fun i q => if q = l then 0 else if i = q then 1 else 0) (q := fun i q => if q = l then f i n else - f i q)).congr fun x => ?_
    congr 1
    funext i q
    unfold colN charM
    grind
  let c0 : Nat → Nat → Int := fun l => (poly l).choose
  have h0 : ∀ l x, detZ n (colN (charM f x) l fun i => f i n) = horn (c0 l) x (n + 1) := fun l x => (poly l).choose_spec x
  have rel : ∀ s, s < n → ∀ k, k < n + 2 → cutP (n + 1) (c0 s) k - upP (fun k => sumZ ((List.range n).map fun l => f s l * c0 l k)) k = f s n * upP (cpl f n) k := fun s hs k hk => by
    have := horn_inj (c := fun k => 1 * cutP (n + 1) (c0 s) k + -1 * upP (fun k => sumZ ((List.range n).map fun l => f s l * c0 l k)) k) (d := fun k => f s n * upP (cpl f n) k + 0 * upP (cpl f n) k) (n := n + 2) (fun x => by
      rw [horn_lin, horn_lin, horn_cut, horn_up, horn_up, horn_sum (c := fun l k => f s l * c0 l k), ih]
      have e : ∀ l ∈ List.range n, horn (fun k => f s l * c0 l k) x (n + 1) = f s l * detZ n (colN (charM f x) l fun i => f i n) := fun l _ => by
        rw [h0]
        have := horn_lin (c := c0 l) (d := c0 l) (s := f s l) (t := 0) (x := x) (n := n + 1)
        rw [Int.zero_mul, Int.add_zero] at this
        rw [← this]
        exact horn_congr fun k _ => by omega
      rw [sumZ_congr e, ← h0]
      have cr := cramer (n := n) (s := s) (a := charM f x) (C := fun i => f i n) hs
      have e2 : ∀ l, charM f x s l * detZ n (colN (charM f x) l fun i => f i n) = (if l = s then x * detZ n (colN (charM f x) l fun i => f i n) else 0) + -1 * (f s l * detZ n (colN (charM f x) l fun i => f i n)) := fun l => by
        unfold charM
        by_cases q : s = l
        · rw [if_pos q, if_pos q.symm]
          grind
        · rw [if_neg q, if_neg (Ne.symm q)]
          grind
      rw [sumZ_congr fun l _ => e2 l, sumZ_add, sumZ_mulL, sum_pick hs] at cr
      grind) k hk
    have this : 1 * cutP (n + 1) (c0 s) k + -1 * upP (fun k => sumZ ((List.range n).map fun l => f s l * c0 l k)) k = f s n * upP (cpl f n) k + 0 * upP (cpl f n) k := this
    omega
  have z0 : ∀ s, s < n → c0 s 0 = 0 := fun s hs => by
    have := rel s hs 0 (by omega)
    unfold cutP upP at this
    rw [if_pos (by omega), if_pos rfl, if_pos rfl] at this
    omega
  have step : ∀ s, s < n → ∀ j, j < n → c0 s (j + 1) = sumZ ((List.range n).map fun l => f s l * c0 l j) + f s n * cpl f n j := fun s hs j hj => by
    have := rel s hs (j + 1) (by omega)
    unfold cutP upP at this
    rw [if_pos (by omega), if_neg (by omega), if_neg (by omega), show j + 1 - 1 = j from rfl] at this
    have this : c0 s (j + 1) - sumZ ((List.range n).map fun l => f s l * c0 l j) = f s n * cpl f n j := this
    omega
  refine ⟨fun l k => c0 l (k + 1), fun l hl x => ?_, fun l hl j => ?_⟩
  · rw [h0, ← horn_up (c := fun k => c0 l (k + 1))]
    refine horn_congr fun k hk => ?_
    · unfold upP
      split
      · rename_i q
        rw [q, z0 l hl]
      · rename_i q
        show c0 l k = c0 l (k - 1 + 1)
        rw [show k - 1 + 1 = k from by omega]
  · induction j generalizing l with
    | zero =>
      intro hj
      show c0 l 1 = cpl f n 0 * f l n + 0
      rw [step l hl 0 hj, sumZ_zero fun q hq => by rw [z0 q (List.mem_range.mp hq)]; omega]
      grind
    | succ j ih2 =>
      intro hj
      show c0 l (j + 1 + 1) = _
      rw [step l hl (j + 1) hj]
      have e : ∀ q ∈ List.range n, f l q * c0 q (j + 1) = sumZ ((List.range (j + 1)).map fun k => f l q * (cpl f n k * colP n f (fun i => f i n) (j - k) q)) := fun q hq => by
        rw [sumZ_mulL]
        congr 1
        exact ih2 q (List.mem_range.mp hq) (by omega)
      rw [sumZ_congr e, sumZ_swap, List.range_succ (n := j + 1), List.map_append, sumZ_append, List.map_cons, List.map_nil, sumZ_cons, sumZ_nil, Nat.sub_self]
      show _ = _ + (cpl f n (j + 1) * f l n + 0)
      rw [Int.add_zero, Int.mul_comm (cpl f n (j + 1))]
      congr 1
      refine sumZ_congr fun k hk => ?_
      have hk := List.mem_range.mp hk
      rw [show j + 1 - k = (j - k) + 1 from by omega]
      show _ = cpl f n k * sumZ ((List.range n).map fun q => f l q * colP n f (fun i => f i n) (j - k) q)
      rw [← sumZ_mulL]
      exact sumZ_congr fun q _ => by grind
theorem cpl_ok {f : Nat → Nat → Int} : ∀ {n : Nat} (x : Int), horn (cpl f n) x (n + 1) = detZ n (charM f x)
  | 0, x => by
    show (0 : Int) * x + 1 = 1
    omega
  | n + 1, x => by
    obtain ⟨c, h1, h2⟩ := next_col (n := n) (f := f) fun x => cpl_ok x
    rw [detZ_bor]
    have e1 : ∀ l ∈ List.range n, charM f x n l * detZ n (colN (charM f x) l fun i => charM f x i n) = f n l * horn (c l) x n := fun l hl => by
      have hl := List.mem_range.mp hl
      rw [← h1 l hl]
      have : detZ n (colN (charM f x) l fun i => charM f x i n) = detZ n (colN (charM f x) l fun i => -1 * f i n + 0 * f i n) := detZ_congr fun i q hi hq => by
        unfold colN charM
        grind
      rw [this, colN_lin hl]
      unfold charM
      rw [if_neg (by omega)]
      grind
    rw [sumZ_congr e1, ← cpl_ok x]
    have e2 : ∀ l ∈ List.range n, f n l * horn (c l) x n = horn (fun k => f n l * c l k) x n := fun l _ => by
      have := horn_lin (c := c l) (d := c l) (s := f n l) (t := 0) (x := x) (n := n)
      rw [Int.zero_mul, Int.add_zero] at this
      rw [← this]
      exact horn_congr fun k _ => by omega
    rw [sumZ_congr e2, ← horn_sum (c := fun l k => f n l * c l k)]
    have e3 : horn (cpl f (n + 1)) x (n + 2) = horn (fun k => 1 * (fun k => 1 * cutP (n + 1) (cpl f n) k + - f n n * upP (cpl f n) k) k + -1 * upP (upP fun k => sumZ ((List.range n).map fun l => f n l * c l k)) k) x (n + 2) := horn_congr fun a ha => by
      show sumZ ((List.range (min a n + 1)).map fun k => edg n f (a - k) * cpl f n k) = _
      show _ = 1 * (1 * cutP (n + 1) (cpl f n) a + - f n n * upP (cpl f n) a) + -1 * upP (upP fun k => sumZ ((List.range n).map fun l => f n l * c l k)) a
      rcases a with _ | _ | m
      · unfold cutP upP
        rw [Nat.zero_min, if_pos (by omega), if_pos rfl, if_pos rfl]
        show 1 * cpl f n 0 + 0 = _
        omega
      · rcases n with _ | n
        · show - f 0 0 * cpl f 0 0 + 0 = 1 * (1 * 0 + - f 0 0 * cpl f 0 0) + -1 * 0
          omega
        · rw [show cutP (n + 1 + 1) (cpl f (n + 1)) (0 + 1) = cpl f (n + 1) 1 from if_pos (by omega), show min (0 + 1) (n + 1) + 1 = 2 from by omega]
          show - f (n + 1) (n + 1) * cpl f (n + 1) 0 + (1 * cpl f (n + 1) 1 + 0) = 1 * (1 * cpl f (n + 1) 1 + - f (n + 1) (n + 1) * cpl f (n + 1) 0) + -1 * 0
          omega
      · have hm : m < n := by omega
        have low : sumZ ((List.range (m + 1)).map fun k => edg n f (m + 2 - k) * cpl f n k) = -1 * sumZ ((List.range n).map fun l => f n l * c l m) := by
          have w : ∀ l ∈ List.range n, f n l * c l m = sumZ ((List.range (m + 1)).map fun k => f n l * (cpl f n k * colP n f (fun i => f i n) (m - k) l)) := fun l hl => by
            rw [sumZ_mulL, h2 l (List.mem_range.mp hl) m hm]
          rw [sumZ_congr w, sumZ_swap, ← sumZ_mulL]
          refine sumZ_congr fun k hk => ?_
          have hk := List.mem_range.mp hk
          rw [show m + 2 - k = (m - k) + 2 from by omega]
          show - sumZ ((List.range n).map fun j => f n j * colP n f (fun i => f i n) (m - k) j) * cpl f n k = _
          have e : ∀ l, f n l * (cpl f n k * colP n f (fun i => f i n) (m - k) l) = f n l * colP n f (fun i => f i n) (m - k) l * cpl f n k := fun l => by grind
          rw [sumZ_congr fun l _ => e l, sumZ_mulR]
          grind
        have up2 : upP (upP fun k => sumZ ((List.range n).map fun l => f n l * c l k)) (m + 2) = sumZ ((List.range n).map fun l => f n l * c l m) := by
          unfold upP
          rw [if_neg (by omega), if_neg (by omega)]
          rfl
        rw [show m + 1 + 1 = m + 2 from rfl, up2]
        have up1 : upP (cpl f n) (m + 2) = cpl f n (m + 1) := by
          unfold upP
          rw [if_neg (by omega)]
          rfl
        rw [up1]
        by_cases h : m + 2 ≤ n
        · rw [show min (m + 2) n + 1 = m + 1 + 1 + 1 from by omega, List.range_succ, List.range_succ, List.map_append, List.map_append, sumZ_append, sumZ_append, low]
          rw [show cutP (n + 1) (cpl f n) (m + 2) = cpl f n (m + 2) from if_pos (by omega)]
          rw [List.map_cons, List.map_nil, sumZ_cons, sumZ_nil, List.map_cons, List.map_nil, sumZ_cons, sumZ_nil, show m + 2 - (m + 1) = 1 from by omega, show m + 2 - (m + 1 + 1) = 0 from by omega]
          show _ + (- f n n * cpl f n (m + 1) + 0) + (1 * cpl f n (m + 2) + 0) = _
          omega
        · rw [show min (m + 2) n + 1 = m + 1 + 1 from by omega, List.range_succ, List.map_append, sumZ_append, low]
          rw [show cutP (n + 1) (cpl f n) (m + 2) = 0 from if_neg (by omega)]
          rw [List.map_cons, List.map_nil, sumZ_cons, sumZ_nil, show m + 2 - (m + 1) = 1 from by omega]
          show _ + (- f n n * cpl f n (m + 1) + 0) = _
          omega
    rw [e3, horn_lin, horn_lin, horn_cut, horn_up, horn_up, horn_up]
    unfold charM
    rw [if_pos rfl]
    grind
theorem Blk.zero : Blk 0 (fun _ _ => 0) (fun _ => 1) := ⟨fun _ _ _ => rfl, rfl, fun x => by show (0 : Int) * x + 1 = 1; omega, fun _ _ => by show (0 : Int).natAbs ≤ 64; decide⟩
theorem mulP_zero {p q : Nat} {f g : Nat → Int} : mulP p q f g 0 = f 0 * g 0 := by
  unfold mulP mulC
  rw [List.range_succ_eq_map, List.map_cons, sumZ_cons, if_pos (by omega), List.map_map, sumZ_zero fun i _ => by
    show (if i + 1 ≤ 0 ∧ 0 ≤ i + 1 + q then f (i + 1) * g (0 - (i + 1)) else 0) = 0
    rw [if_neg (by omega)]]
  show f 0 * g 0 + 0 = _
  omega
theorem charM_put {f : Nat → Nat → Int} {i0 j0 : Nat} {v x : Int} {i j : Nat} (h : ¬(i = i0 ∧ j = j0)) : charM (putT f i0 j0 v) x i j = charM f x i j := by
  unfold charM putT
  rw [if_neg h]
/-- the last column holds the last number alone -/
theorem detZ_lastD {k : Nat} {a : Nat → Nat → Int} (h : ∀ i, i < k → a i k = 0) : detZ (k + 1) a = a k k * detZ k a := by
  have e : detZ (k + 1) a = detZ (k + 1) (colN a k fun i => a k k * unitV k i + 0 * unitV k i) := detZ_congr fun i l hi hl => by
    unfold colN unitV
    by_cases q : l = k
    · rw [if_pos q, q]
      show a i k = a k k * (if i = k then 1 else 0) + 0 * (if i = k then 1 else 0)
      by_cases q2 : i = k
      · rw [if_pos q2, q2]
        omega
      · rw [if_neg q2, h i (by omega)]
        omega
    · rw [if_neg q]
  rw [e, colN_lin (by omega), detZ_last (fun i hi => by unfold colN unitV; grind) (by unfold colN unitV; grind)]
  have e2 : detZ k (colN a k (unitV k)) = detZ k a := detZ_congr fun i l hi hl => by unfold colN; rw [if_neg (by omega)]
  rw [e2]
  omega
theorem Blk.one {a : Nat} {f : Nat → Nat → Int} {c : Nat → Int} {r : Int} (h : Blk a f c) (hr : r.natAbs ≤ 64) : Blk (a + 1) (putT f a a r) (mulP a 1 c (linP r)) where
  z := fun i j hij => by
    unfold putT
    rw [if_neg (by omega)]
    exact h.z i j (by omega)
  c0 := by
    rw [mulP_zero, h.c0]
    rfl
  h := fun x => by
    rw [horn_mul, h.h, detZ_lastD fun i hi => by
      rw [charM_put (by omega)]
      unfold charM
      rw [if_neg (by omega), h.z i a (by omega)]
      rfl]
    have e : detZ a (charM (putT f a a r) x) = detZ a (charM f x) := detZ_congr fun i l hi hl => charM_put (by omega)
    rw [e]
    show _ * ((0 * x + 1) * x + -r) = ((if a = a then x else 0) - (if a = a ∧ a = a then r else f a a)) * _
    rw [if_pos rfl, if_pos ⟨rfl, rfl⟩]
    grind
  b := fun i j => by
    unfold putT
    split
    · exact hr
    · exact h.b i j
theorem Blk.two {a : Nat} {f : Nat → Nat → Int} {c : Nat → Int} {v : Int} (h : Blk a f c) (hv : v.natAbs ≤ 64) : Blk (a + 2) (putT (putT f a (a + 1) v) (a + 1) a 1) (mulP a 2 c (sqrP v)) where
  z := fun i j hij => by
    unfold putT
    rw [if_neg (by omega), if_neg (by omega)]
    exact h.z i j (by omega)
  c0 := by
    rw [mulP_zero, h.c0]
    rfl
  h := fun x => by
    rw [horn_mul, h.h]
    have e : detZ a (charM (putT (putT f a (a + 1) v) (a + 1) a 1) x) = detZ a (charM f x) := detZ_congr fun i l hi hl => (charM_put (by omega)).trans (charM_put (by omega))
    have ent : ∀ i l, charM (putT (putT f a (a + 1) v) (a + 1) a 1) x i l = (if i = l then x else 0) - (if i = a + 1 ∧ l = a then 1 else if i = a ∧ l = a + 1 then v else f i l) := fun i l => rfl
    have z1 : ∀ i, i < a → charM (putT (putT f a (a + 1) v) (a + 1) a 1) x i (a + 1) = 0 := fun i hi => by
      rw [ent, if_neg (by omega), if_neg (by omega), if_neg (by omega), h.z _ _ (by omega)]
      rfl
    have z2 : ∀ i, i < a → charM (putT (putT f a (a + 1) v) (a + 1) a 1) x i a = 0 := fun i hi => by
      rw [ent, if_neg (by omega), if_neg (by omega), if_neg (by omega), h.z _ _ (by omega)]
      rfl
    have aa : charM (putT (putT f a (a + 1) v) (a + 1) a 1) x a a = x := by
      rw [ent, if_pos rfl, if_neg (by omega), if_neg (by omega), h.z _ _ (by omega)]
      omega
    have ab : charM (putT (putT f a (a + 1) v) (a + 1) a 1) x a (a + 1) = -v := by
      rw [ent, if_neg (by omega), if_neg (by omega), if_pos ⟨rfl, rfl⟩]
      omega
    have ba : charM (putT (putT f a (a + 1) v) (a + 1) a 1) x (a + 1) a = -1 := by
      rw [ent, if_neg (by omega), if_pos ⟨rfl, rfl⟩]
      rfl
    have bb : charM (putT (putT f a (a + 1) v) (a + 1) a 1) x (a + 1) (a + 1) = x := by
      rw [ent, if_pos rfl, if_neg (by omega), if_neg (by omega), h.z _ _ (by omega)]
      omega
    have zl : ∀ l, l < a → charM (putT (putT f a (a + 1) v) (a + 1) a 1) x (a + 1) l = 0 := fun l hl => by
      rw [ent, if_neg (by omega), if_neg (by omega), if_neg (by omega), h.z _ _ (by omega)]
      rfl
    revert z1 z2 aa ab ba bb e zl
    generalize charM (putT (putT f a (a + 1) v) (a + 1) a 1) x = M
    intro e z1 z2 aa ab ba bb zl
    rw [show a + 2 = (a + 1) + 1 from rfl, detZ_bor, bb, detZ_lastD z2, aa, e]
    have low : ∀ l ∈ List.range (a + 1), M (a + 1) l * detZ (a + 1) (colN M l fun i => M i (a + 1)) = if l = a then v * detZ a (charM f x) else 0 := fun l hl => by
      have hl := List.mem_range.mp hl
      by_cases q : l = a
      · rw [if_pos q, q, ba, detZ_lastD fun i hi => by unfold colN; rw [if_pos rfl]; exact z1 i hi]
        have e2 : detZ a (colN M a fun i => M i (a + 1)) = detZ a (charM f x) := by
          rw [← e]
          exact detZ_congr fun i l hi hl => by unfold colN; rw [if_neg (by omega)]
        rw [e2, show colN M a (fun i => M i (a + 1)) a a = M a (a + 1) from if_pos rfl, ab]
        grind
      · rw [if_neg q]
        have : M (a + 1) l = 0 := zl l (by omega)
        rw [this]
        omega
    rw [sumZ_congr low, sum_pick (f := fun _ => v * detZ a (charM f x)) (by omega)]
    show _ * (((0 * x + 1) * x + 0) * x + -v) = _
    grind
  b := fun i j => by
    unfold putT
    split
    · decide
    · split
      · exact hv
      · exact h.b i j
theorem simil {n i k : Nat} {f : Nat → Nat → Int} {t x : Int} (hi : i < n) (hk : k < n) (ne : i ≠ k) : detZ n (charM (simT f i k t) x) = detZ n (charM f x) := by
  -- the rows
  have r1 : detZ n (rowN (charM f x) i fun l => 1 * charM f x i l + t * charM f x k l) = detZ n (charM f x) := by
    rw [rowN_lin hi, rowN_own, detZ_dup (a := rowN (charM f x) i (charM f x k)) hi hk ne fun l _ => by unfold rowN; rw [if_pos rfl, if_neg (Ne.symm ne)]]
    omega
  rw [← r1]
  generalize hN : (rowN (charM f x) i fun l => 1 * charM f x i l + t * charM f x k l) = N
  have c1 : detZ n (colN N k fun p => 1 * N p k + -t * N p i) = detZ n N := by
    rw [colN_lin hk, colN_own, detZ_dupC (a := colN N k fun p => N p i) hi hk ne fun p => by unfold colN; rw [if_neg ne, if_pos rfl]]
    omega
  rw [← c1]
  congr 1
  funext p q
  rw [← hN]
  have er : ∀ p j, rowT f i k t p j = if p = i then f i j + t * f k j else f p j := fun p j => by
    unfold rowT
    split <;> rfl
  show (if p = q then x else 0) - (rowT f i k t p q - if q = k then t * rowT f i k t p i else 0) = _
  rw [er, er]
  unfold colN rowN charM
  show _ = if q = k then 1 * (if p = i then 1 * ((if i = k then x else 0) - f i k) + t * ((if k = k then x else 0) - f k k) else (if p = k then x else 0) - f p k) + -t * (if p = i then 1 * ((if i = i then x else 0) - f i i) + t * ((if k = i then x else 0) - f k i) else (if p = i then x else 0) - f p i) else if p = i then 1 * ((if i = q then x else 0) - f i q) + t * ((if k = q then x else 0) - f k q) else (if p = q then x else 0) - f p q
  by_cases h1 : p = i
  · subst h1
    by_cases h2 : q = k
    · subst h2
      grind
    · by_cases h3 : p = q
      · subst h3
        grind
      · grind
  · by_cases h2 : q = k
    · subst h2
      grind
    · grind
end L3
namespace L3
open PySem PySem.Spec PyProof.Rows L2
class Stp (P : Prop) (Q : outParam Prop) : Prop where
  go : Q → P
class Tag (P : Prop) (Q : outParam Prop) : Prop where
  go : Q → P
def B0 (P : Prop) : Prop := P
def B1 (P : Prop) : Prop := P
theorem b0 {P : Prop} (h : P) : B0 P := h
theorem b1 {P : Prop} (h : P) : B1 P := h
section
variable {Q : R → En → Prop} {QB : Bool → En → Prop} {QA : List R → En → Prop} {δ : En} {d : D} {c : Cn} {T U V : DT} {C C2 : DTT} {TA : DTA} {F : D → D → (R → Prop) → Prop} {F1 : D → (R → Prop) → Prop}
variable {q : R → Prop}
variable {n : En → Prop} {rt : R → En → Prop} {bk ct : En → Prop} {S S2 : DS}
instance  : Stp (seq S S2 ⟨n, rt, bk, ct⟩ δ) (S ⟨S2 ⟨n, rt, bk, ct⟩, rt, bk, ct⟩ δ) := ⟨s_seq⟩
end
section
variable {Q : R → En → Prop} {QB : Bool → En → Prop} {QA : List R → En → Prop} {δ : En} {d : D} {c : Cn} {T U V : DT} {C C2 : DTT} {TA : DTA} {F : D → D → (R → Prop) → Prop} {F1 : D → (R → Prop) → Prop}
variable {q : R → Prop}
variable {n : En → Prop} {rt : R → En → Prop} {bk ct : En → Prop} {S S2 : DS}
instance  : Stp (snext ⟨n, rt, bk, ct⟩ δ) (n δ) := ⟨s_next⟩
end
section
variable {Q : R → En → Prop} {QB : Bool → En → Prop} {QA : List R → En → Prop} {δ : En} {d : D} {c : Cn} {T U V : DT} {C C2 : DTT} {TA : DTA} {F : D → D → (R → Prop) → Prop} {F1 : D → (R → Prop) → Prop}
variable {q : R → Prop}
variable {n : En → Prop} {rt : R → En → Prop} {bk ct : En → Prop} {S S2 : DS}
instance  : Stp (sexpr T ⟨n, rt, bk, ct⟩ δ) (T δ fun _ δ1 => n δ1) := ⟨s_expr⟩
end
section
variable {Q : R → En → Prop} {QB : Bool → En → Prop} {QA : List R → En → Prop} {δ : En} {d : D} {c : Cn} {T U V : DT} {C C2 : DTT} {TA : DTA} {F : D → D → (R → Prop) → Prop} {F1 : D → (R → Prop) → Prop}
variable {q : R → Prop}
variable {n : En → Prop} {rt : R → En → Prop} {bk ct : En → Prop} {S S2 : DS}
instance  : Stp (sif C S S2 ⟨n, rt, bk, ct⟩ δ) (C δ fun b δ1 => (b = true → S ⟨n, rt, bk, ct⟩ δ1) ∧ (b = false → S2 ⟨n, rt, bk, ct⟩ δ1)) := ⟨s_if⟩
end
section
variable {Q : R → En → Prop} {QB : Bool → En → Prop} {QA : List R → En → Prop} {δ : En} {d : D} {c : Cn} {T U V : DT} {C C2 : DTT} {TA : DTA} {F : D → D → (R → Prop) → Prop} {F1 : D → (R → Prop) → Prop}
variable {q : R → Prop}
variable {n : En → Prop} {rt : R → En → Prop} {bk ct : En → Prop} {S S2 : DS}
instance {ps : List Nat} : Stp (sret ps T ⟨n, rt, bk, ct⟩ δ) (T δ fun r δ1 => ∃ r', r.out δ1 = some r' ∧ (∀ i, r = .rf i → i ∉ ps) ∧ rt r' δ1) := ⟨s_ret⟩
end
section
variable {Q : R → En → Prop} {QB : Bool → En → Prop} {QA : List R → En → Prop} {δ : En} {d : D} {c : Cn} {T U V : DT} {C C2 : DTT} {TA : DTA} {F : D → D → (R → Prop) → Prop} {F1 : D → (R → Prop) → Prop}
variable {q : R → Prop}
variable {n : En → Prop} {rt : R → En → Prop} {bk ct : En → Prop} {S S2 : DS}
instance {i : Nat} : Stp (sset i T ⟨n, rt, bk, ct⟩ δ) (T δ fun r δ1 => ∃ d, r.still δ1 = some d ∧ ∃ δ', δ1.set i (.va d) = δ' ∧ n δ') := ⟨s_set⟩
end
section
variable {Q : R → En → Prop} {QB : Bool → En → Prop} {QA : List R → En → Prop} {δ : En} {d : D} {c : Cn} {T U V : DT} {C C2 : DTT} {TA : DTA} {F : D → D → (R → Prop) → Prop} {F1 : D → (R → Prop) → Prop}
variable {q : R → Prop}
variable {n : En → Prop} {rt : R → En → Prop} {bk ct : En → Prop} {S S2 : DS}
instance {i : Nat} : Stp (ssetO i T ⟨n, rt, bk, ct⟩ δ) (T δ fun r δ1 => ∃ c, r = .fr c ∧ ∃ δ', δ1.set i (.ow c) = δ' ∧ n δ') := ⟨s_setO⟩
end
section
variable {Q : R → En → Prop} {QB : Bool → En → Prop} {QA : List R → En → Prop} {δ : En} {d : D} {c : Cn} {T U V : DT} {C C2 : DTT} {TA : DTA} {F : D → D → (R → Prop) → Prop} {F1 : D → (R → Prop) → Prop}
variable {q : R → Prop}
variable {n : En → Prop} {rt : R → En → Prop} {bk ct : En → Prop} {S S2 : DS}
instance {U : DG} : Stp (sasg T U ⟨n, rt, bk, ct⟩ δ) (T δ fun r δ1 => ∃ d, r.still δ1 = some d ∧ U d δ1 n) := ⟨s_asg⟩
end
section
variable {Q : R → En → Prop} {QB : Bool → En → Prop} {QA : List R → En → Prop} {δ : En} {d : D} {c : Cn} {T U V : DT} {C C2 : DTT} {TA : DTA} {F : D → D → (R → Prop) → Prop} {F1 : D → (R → Prop) → Prop}
variable {q : R → Prop}
variable {n : En → Prop} {rt : R → En → Prop} {bk ct : En → Prop} {S S2 : DS}
instance {i j : Nat} {m1 m2 : Bool} : Stp (spar2 i j m1 m2 TA ⟨n, rt, bk, ct⟩ δ) (TA δ fun rs δ1 => ∃ r1 r2 e1 e2, rs = [r1, r2] ∧ putE δ1 m1 r1 = some e1 ∧ putE δ1 m2 r2 = some e2 ∧ ∃ δ', (δ1.set i e1).set j e2 = δ' ∧ n δ') := ⟨s_par2⟩
end
section
variable {Q : R → En → Prop} {QB : Bool → En → Prop} {QA : List R → En → Prop} {δ : En} {d : D} {c : Cn} {T U V : DT} {C C2 : DTT} {TA : DTA} {F : D → D → (R → Prop) → Prop} {F1 : D → (R → Prop) → Prop}
instance  : Stp (tc d δ Q) (Q (.va d) δ) := ⟨e_tc⟩
end
section
variable {Q : R → En → Prop} {QB : Bool → En → Prop} {QA : List R → En → Prop} {δ : En} {d : D} {c : Cn} {T U V : DT} {C C2 : DTT} {TA : DTA} {F : D → D → (R → Prop) → Prop} {F1 : D → (R → Prop) → Prop}
instance  : Stp (ta0 δ QA) (QA [] δ) := ⟨e_ta0⟩
end
section
variable {Q : R → En → Prop} {QB : Bool → En → Prop} {QA : List R → En → Prop} {δ : En} {d : D} {c : Cn} {T U V : DT} {C C2 : DTT} {TA : DTA} {F : D → D → (R → Prop) → Prop} {F1 : D → (R → Prop) → Prop}
instance  : Stp (tac T TA δ QA) (T δ fun r δ1 => TA δ1 fun rs δ2 => QA (r :: rs) δ2) := ⟨e_tac⟩
end
section
variable {Q : R → En → Prop} {QB : Bool → En → Prop} {QA : List R → En → Prop} {δ : En} {d : D} {c : Cn} {T U V : DT} {C C2 : DTT} {TA : DTA} {F : D → D → (R → Prop) → Prop} {F1 : D → (R → Prop) → Prop}
instance  : Stp (tb2 F T U δ Q) (T δ fun x δ1 => U δ1 fun y δ2 => ∃ d e, x.dat δ2 = some d ∧ y.dat δ2 = some e ∧ F d e fun r => Q r δ2) := ⟨e_tb2⟩
end
section
variable {Q : R → En → Prop} {QB : Bool → En → Prop} {QA : List R → En → Prop} {δ : En} {d : D} {c : Cn} {T U V : DT} {C C2 : DTT} {TA : DTA} {F : D → D → (R → Prop) → Prop} {F1 : D → (R → Prop) → Prop}
instance  : Stp (tb1 F1 T δ Q) (T δ fun x δ1 => ∃ d, x.dat δ1 = some d ∧ F1 d fun r => Q r δ1) := ⟨e_tb1⟩
end
section
variable {Q : R → En → Prop} {QB : Bool → En → Prop} {QA : List R → En → Prop} {δ : En} {d : D} {c : Cn} {T U V : DT} {C C2 : DTT} {TA : DTA} {F : D → D → (R → Prop) → Prop} {F1 : D → (R → Prop) → Prop}
instance {G : List D → (R → Prop) → Prop} : Stp (tcb G TA δ Q) (TA δ fun rs δ1 => ∃ ds, dats δ1 rs = some ds ∧ G ds fun r => Q r δ1) := ⟨e_tcb⟩
end
section
variable {Q : R → En → Prop} {QB : Bool → En → Prop} {QA : List R → En → Prop} {δ : En} {d : D} {c : Cn} {T U V : DT} {C C2 : DTT} {TA : DTA} {F : D → D → (R → Prop) → Prop} {F1 : D → (R → Prop) → Prop}
instance  : Stp (ttup TA δ Q) (TA δ fun rs δ1 => ∃ ds, stills δ1 rs = some ds ∧ ds.length ≤ sizeLine ∧ Q (.va (.tup ds)) δ1) := ⟨e_ttup⟩
end
section
variable {Q : R → En → Prop} {QB : Bool → En → Prop} {QA : List R → En → Prop} {δ : En} {d : D} {c : Cn} {T U V : DT} {C C2 : DTT} {TA : DTA} {F : D → D → (R → Prop) → Prop} {F1 : D → (R → Prop) → Prop}
instance  : Stp (tlst TA δ Q) (TA δ fun rs δ1 => ∃ ds, stills δ1 rs = some ds ∧ ds.length ≤ sizeLine ∧ Q (.fr (.l ds)) δ1) := ⟨e_tlst⟩
end
section
variable {Q : R → En → Prop} {QB : Bool → En → Prop} {QA : List R → En → Prop} {δ : En} {d : D} {c : Cn} {T U V : DT} {C C2 : DTT} {TA : DTA} {F : D → D → (R → Prop) → Prop} {F1 : D → (R → Prop) → Prop}
instance  : Stp (tt T δ QB) (T δ fun r δ1 => ∃ b, r = .va (.bl b) ∧ QB b δ1) := ⟨e_tt⟩
end
section
variable {Q : R → En → Prop} {QB : Bool → En → Prop} {QA : List R → En → Prop} {δ : En} {d : D} {c : Cn} {T U V : DT} {C C2 : DTT} {TA : DTA} {F : D → D → (R → Prop) → Prop} {F1 : D → (R → Prop) → Prop}
instance  : Stp (ttru T δ QB) (T δ fun r δ1 => ∃ d b, r.dat δ1 = some d ∧ truD d = some b ∧ QB b δ1) := ⟨e_ttru⟩
end
section
variable {Q : R → En → Prop} {QB : Bool → En → Prop} {QA : List R → En → Prop} {δ : En} {d : D} {c : Cn} {T U V : DT} {C C2 : DTT} {TA : DTA} {F : D → D → (R → Prop) → Prop} {F1 : D → (R → Prop) → Prop}
instance  : Stp (tand C C2 δ QB) (C δ fun c δ1 => (c = true → C2 δ1 QB) ∧ (c = false → QB false δ1)) := ⟨e_tand⟩
end
section
variable {Q : R → En → Prop} {QB : Bool → En → Prop} {QA : List R → En → Prop} {δ : En} {d : D} {c : Cn} {T U V : DT} {C C2 : DTT} {TA : DTA} {F : D → D → (R → Prop) → Prop} {F1 : D → (R → Prop) → Prop}
instance  : Stp (tor C C2 δ QB) (C δ fun c δ1 => (c = true → QB true δ1) ∧ (c = false → C2 δ1 QB)) := ⟨e_tor⟩
end
section
variable {Q : R → En → Prop} {QB : Bool → En → Prop} {QA : List R → En → Prop} {δ : En} {d : D} {c : Cn} {T U V : DT} {C C2 : DTT} {TA : DTA} {F : D → D → (R → Prop) → Prop} {F1 : D → (R → Prop) → Prop}
instance  : Stp (tnot C δ QB) (C δ fun c δ1 => QB (!c) δ1) := ⟨e_tnot⟩
end
section
variable {Q : R → En → Prop} {QB : Bool → En → Prop} {QA : List R → En → Prop} {δ : En} {d : D} {c : Cn} {T U V : DT} {C C2 : DTT} {TA : DTA} {F : D → D → (R → Prop) → Prop} {F1 : D → (R → Prop) → Prop}
instance  : Stp (tandV T U δ Q) (T δ fun r δ1 => ∃ c, r = .va (.bl c) ∧ (c = true → U δ1 Q) ∧ (c = false → Q (.va (.bl false)) δ1)) := ⟨e_tandV⟩
end
section
variable {Q : R → En → Prop} {QB : Bool → En → Prop} {QA : List R → En → Prop} {δ : En} {d : D} {c : Cn} {T U V : DT} {C C2 : DTT} {TA : DTA} {F : D → D → (R → Prop) → Prop} {F1 : D → (R → Prop) → Prop}
instance  : Stp (tnotV T δ Q) (T δ fun r δ1 => ∃ c, r = .va (.bl c) ∧ Q (.va (.bl (!c))) δ1) := ⟨e_tnotV⟩
end
section
variable {Q : R → En → Prop} {QB : Bool → En → Prop} {QA : List R → En → Prop} {δ : En} {d : D} {c : Cn} {T U V : DT} {C C2 : DTT} {TA : DTA} {F : D → D → (R → Prop) → Prop} {F1 : D → (R → Prop) → Prop}
instance  : Stp (tif C T U δ Q) (C δ fun b δ1 => (b = true → T δ1 Q) ∧ (b = false → U δ1 Q)) := ⟨e_tif⟩
end
section
variable {Q : R → En → Prop} {QB : Bool → En → Prop} {QA : List R → En → Prop} {δ : En} {d : D} {c : Cn} {T U V : DT} {C C2 : DTT} {TA : DTA} {F : D → D → (R → Prop) → Prop} {F1 : D → (R → Prop) → Prop}
instance {QO : Option Int → En → Prop} : Stp (tno δ QO) (QO none δ) := ⟨e_tno⟩
end
section
variable {Q : R → En → Prop} {QB : Bool → En → Prop} {QA : List R → En → Prop} {δ : En} {d : D} {c : Cn} {T U V : DT} {C C2 : DTT} {TA : DTA} {F : D → D → (R → Prop) → Prop} {F1 : D → (R → Prop) → Prop}
instance {QO : Option Int → En → Prop} : Stp (tpart T δ QO) (T δ fun r δ1 => ∃ i, r = .va (.int i) ∧ QO (some i) δ1) := ⟨e_tpart⟩
end
section
variable {Q : R → En → Prop} {QB : Bool → En → Prop} {QA : List R → En → Prop} {δ : En} {d : D} {c : Cn} {T U V : DT} {C C2 : DTT} {TA : DTA} {F : D → D → (R → Prop) → Prop} {F1 : D → (R → Prop) → Prop}
instance {Tl Th : DTO} : Stp (tslice T Tl Th δ Q) (T δ fun r δ1 => Tl δ1 fun lo δ2 => Th δ2 fun hi δ3 => ∃ d, r.dat δ3 = some d ∧ slF d lo hi fun r => Q r δ3) := ⟨e_tslice⟩
end
section
variable {Q : R → En → Prop} {QB : Bool → En → Prop} {QA : List R → En → Prop} {δ : En} {d : D} {c : Cn} {T U V : DT} {C C2 : DTT} {TA : DTA} {F : D → D → (R → Prop) → Prop} {F1 : D → (R → Prop) → Prop}
instance {n : Tn} : Stp (tisi n T δ Q) (T δ fun r δ1 => ∃ k b, r.kn δ1 = some k ∧ isT n k = b ∧ Q (.va (.bl b)) δ1) := ⟨e_tisi⟩
end
section
variable {Q : R → En → Prop} {QB : Bool → En → Prop} {QA : List R → En → Prop} {δ : En} {d : D} {c : Cn} {T U V : DT} {C C2 : DTT} {TA : DTA} {F : D → D → (R → Prop) → Prop} {F1 : D → (R → Prop) → Prop}
instance {b : Bool} {P : Bool → Prop} : Stp (∃ b', R.va (.bl b) = .va (.bl b') ∧ P b') (P b) := ⟨e_bl⟩
end
section
variable {Q : R → En → Prop} {QB : Bool → En → Prop} {QA : List R → En → Prop} {δ : En} {d : D} {c : Cn} {T U V : DT} {C C2 : DTT} {TA : DTA} {F : D → D → (R → Prop) → Prop} {F1 : D → (R → Prop) → Prop}
instance {i j : Int} {P : Int → Int → Prop} : Stp (∃ i' j', R.va (.int i) = .va (.int i') ∧ R.va (.int j) = .va (.int j') ∧ P i' j') (P i j) := ⟨e_ii⟩
end
section
variable {Q : R → En → Prop} {QB : Bool → En → Prop} {QA : List R → En → Prop} {δ : En} {d : D} {c : Cn} {T U V : DT} {C C2 : DTT} {TA : DTA} {F : D → D → (R → Prop) → Prop} {F1 : D → (R → Prop) → Prop}
instance {i : Int} {P : Int → Prop} : Stp (∃ i', R.va (.int i) = .va (.int i') ∧ P i') (P i) := ⟨e_i⟩
end
section
variable {Q : R → En → Prop} {QB : Bool → En → Prop} {QA : List R → En → Prop} {δ : En} {d : D} {c : Cn} {T U V : DT} {C C2 : DTT} {TA : DTA} {F : D → D → (R → Prop) → Prop} {F1 : D → (R → Prop) → Prop}
variable {q : R → Prop}
variable {n : En → Prop} {rt : R → En → Prop} {bk ct : En → Prop} {S S2 : DS}
instance {c : Cn} {P : Cn → Prop} : Stp (∃ c', R.fr c = .fr c' ∧ P c') (P c) := ⟨s_fr⟩
end
section
variable {Q : R → En → Prop} {QB : Bool → En → Prop} {QA : List R → En → Prop} {δ : En} {d : D} {c : Cn} {T U V : DT} {C C2 : DTT} {TA : DTA} {F : D → D → (R → Prop) → Prop} {F1 : D → (R → Prop) → Prop}
variable {q : R → Prop}
variable {n : En → Prop} {rt : R → En → Prop} {bk ct : En → Prop} {S S2 : DS}
instance {d : D} {P : D → Prop} : Stp (∃ d', R.va d = .va d' ∧ P d') (P d) := ⟨s_va⟩
end
section
variable {Q : R → En → Prop} {QB : Bool → En → Prop} {QA : List R → En → Prop} {δ : En} {d : D} {c : Cn} {T U V : DT} {C C2 : DTT} {TA : DTA} {F : D → D → (R → Prop) → Prop} {F1 : D → (R → Prop) → Prop}
variable {q : R → Prop}
variable {n : En → Prop} {rt : R → En → Prop} {bk ct : En → Prop} {S S2 : DS}
variable {N : En → Prop}
instance {i : Nat} : Stp (dName i d δ N) (∃ δ', δ.set i (.va d) = δ' ∧ N δ') := ⟨g_name⟩
end
section
variable {Q : R → En → Prop} {QB : Bool → En → Prop} {QA : List R → En → Prop} {δ : En} {d : D} {c : Cn} {T U V : DT} {C C2 : DTT} {TA : DTA} {F : D → D → (R → Prop) → Prop} {F1 : D → (R → Prop) → Prop}
variable {q : R → Prop}
variable {n : En → Prop} {rt : R → En → Prop} {bk ct : En → Prop} {S S2 : DS}
variable {N : En → Prop}
instance  : Stp (dNil [] δ N) (N δ) := ⟨g_nil⟩
end
section
variable {Q : R → En → Prop} {QB : Bool → En → Prop} {QA : List R → En → Prop} {δ : En} {d : D} {c : Cn} {T U V : DT} {C C2 : DTT} {TA : DTA} {F : D → D → (R → Prop) → Prop} {F1 : D → (R → Prop) → Prop}
variable {q : R → Prop}
variable {n : En → Prop} {rt : R → En → Prop} {bk ct : En → Prop} {S S2 : DS}
variable {N : En → Prop}
instance {U : DG} {W : DGs} {d : D} {r : List D} : Stp (dCons U W (d :: r) δ N) (U d δ fun δ1 => W r δ1 N) := ⟨g_cons⟩
end
section
variable {Q : R → En → Prop} {QB : Bool → En → Prop} {QA : List R → En → Prop} {δ : En} {d : D} {c : Cn} {T U V : DT} {C C2 : DTT} {TA : DTA} {F : D → D → (R → Prop) → Prop} {F1 : D → (R → Prop) → Prop}
variable {q : R → Prop}
variable {n : En → Prop} {rt : R → En → Prop} {bk ct : En → Prop} {S S2 : DS}
variable {N : En → Prop}
instance {To Ti : DT} : Stp (dSub To Ti d δ N) (To δ fun ro δ1 => Ti δ1 fun ri δ2 => ∃ i xs k j, ro = .rf i ∧ δ2[i]? = some (E.ow (.l xs)) ∧ ri = .va (.int k) ∧ ixN xs.length k = some j ∧ ∃ δ', δ2.set i (.ow (.l (xs.set j d))) = δ' ∧ N δ') := ⟨g_sub⟩
end
section
variable {Q : R → En → Prop} {QB : Bool → En → Prop} {QA : List R → En → Prop} {δ : En} {d : D} {c : Cn} {T U V : DT} {C C2 : DTT} {TA : DTA} {F : D → D → (R → Prop) → Prop} {F1 : D → (R → Prop) → Prop}
variable {q : R → Prop}
instance {i j : Int} : Stp (plusF (.int i) (.int j) q) (q (.va (.int (i + j)))) := ⟨f_plus⟩
end
section
variable {Q : R → En → Prop} {QB : Bool → En → Prop} {QA : List R → En → Prop} {δ : En} {d : D} {c : Cn} {T U V : DT} {C C2 : DTT} {TA : DTA} {F : D → D → (R → Prop) → Prop} {F1 : D → (R → Prop) → Prop}
variable {q : R → Prop}
instance {i j : Int} : Stp (minusF (.int i) (.int j) q) (q (.va (.int (i - j)))) := ⟨f_minus⟩
end
section
variable {Q : R → En → Prop} {QB : Bool → En → Prop} {QA : List R → En → Prop} {δ : En} {d : D} {c : Cn} {T U V : DT} {C C2 : DTT} {TA : DTA} {F : D → D → (R → Prop) → Prop} {F1 : D → (R → Prop) → Prop}
variable {q : R → Prop}
instance {i : Int} : Stp (negF (.int i) q) (q (.va (.int (-i)))) := ⟨f_neg⟩
end
section
variable {Q : R → En → Prop} {QB : Bool → En → Prop} {QA : List R → En → Prop} {δ : En} {d : D} {c : Cn} {T U V : DT} {C C2 : DTT} {TA : DTA} {F : D → D → (R → Prop) → Prop} {F1 : D → (R → Prop) → Prop}
variable {q : R → Prop}
instance {p : Int → Int → Bool} {i j : Int} : Stp (bF (iF p) (.int i) (.int j) q) (q (.va (.bl (p i j)))) := ⟨f_cmp⟩
end
section
variable {Q : R → En → Prop} {QB : Bool → En → Prop} {QA : List R → En → Prop} {δ : En} {d : D} {c : Cn} {T U V : DT} {C C2 : DTT} {TA : DTA} {F : D → D → (R → Prop) → Prop} {F1 : D → (R → Prop) → Prop}
variable {q : R → Prop}
instance {xs : List D} {lo hi : Option Int} : Stp (slF (.lst xs) lo hi q) (q (.fr (.l (cutL xs lo hi)))) := ⟨f_slL⟩
end
section
variable {Q : R → En → Prop} {QB : Bool → En → Prop} {QA : List R → En → Prop} {δ : En} {d : D} {c : Cn} {T U V : DT} {C C2 : DTT} {TA : DTA} {F : D → D → (R → Prop) → Prop} {F1 : D → (R → Prop) → Prop}
variable {q : R → Prop}
instance {xs : List D} {lo hi : Option Int} : Stp (slF (.frz xs) lo hi q) (q (.fr (.l (cutL xs lo hi)))) := ⟨f_slZ⟩
end
section
variable {Q : R → En → Prop} {QB : Bool → En → Prop} {QA : List R → En → Prop} {δ : En} {d : D} {c : Cn} {T U V : DT} {C C2 : DTT} {TA : DTA} {F : D → D → (R → Prop) → Prop} {F1 : D → (R → Prop) → Prop}
variable {q : R → Prop}
instance {xs : List D} {lo hi : Option Int} : Stp (slF (.tup xs) lo hi q) (q (.va (.tup (cutL xs lo hi)))) := ⟨f_slT⟩
end
section
variable {Q : R → En → Prop} {QB : Bool → En → Prop} {QA : List R → En → Prop} {δ : En} {d : D} {c : Cn} {T U V : DT} {C C2 : DTT} {TA : DTA} {F : D → D → (R → Prop) → Prop} {F1 : D → (R → Prop) → Prop}
variable {q : R → Prop}
instance {xs : List D} : Stp (lenF [.lst xs] q) (q (.va (.int xs.length))) := ⟨f_lenL⟩
end
section
variable {Q : R → En → Prop} {QB : Bool → En → Prop} {QA : List R → En → Prop} {δ : En} {d : D} {c : Cn} {T U V : DT} {C C2 : DTT} {TA : DTA} {F : D → D → (R → Prop) → Prop} {F1 : D → (R → Prop) → Prop}
variable {q : R → Prop}
instance {xs : List D} : Stp (lenF [.tup xs] q) (q (.va (.int xs.length))) := ⟨f_lenT⟩
end
section
variable {Q : R → En → Prop} {QB : Bool → En → Prop} {QA : List R → En → Prop} {δ : En} {d : D} {c : Cn} {T U V : DT} {C C2 : DTT} {TA : DTA} {F : D → D → (R → Prop) → Prop} {F1 : D → (R → Prop) → Prop}
variable {q : R → Prop}
instance {xs : List D} : Stp (lenF [.frz xs] q) (q (.va (.int xs.length))) := ⟨f_lenZ⟩
end
section
variable {Q : R → En → Prop} {QB : Bool → En → Prop} {QA : List R → En → Prop} {δ : En} {d : D} {c : Cn} {T U V : DT} {C C2 : DTT} {TA : DTA} {F : D → D → (R → Prop) → Prop} {F1 : D → (R → Prop) → Prop}
variable {q : R → Prop}
instance {xs : List D} : Stp (listF [.lst xs] q) (q (.fr (.l xs))) := ⟨f_listL⟩
end
section
variable {Q : R → En → Prop} {QB : Bool → En → Prop} {QA : List R → En → Prop} {δ : En} {d : D} {c : Cn} {T U V : DT} {C C2 : DTT} {TA : DTA} {F : D → D → (R → Prop) → Prop} {F1 : D → (R → Prop) → Prop}
variable {q : R → Prop}
instance {xs : List D} : Stp (listF [.tup xs] q) (q (.fr (.l xs))) := ⟨f_listT⟩
end
section
variable {Q : R → En → Prop} {QB : Bool → En → Prop} {QA : List R → En → Prop} {δ : En} {d : D} {c : Cn} {T U V : DT} {C C2 : DTT} {TA : DTA} {F : D → D → (R → Prop) → Prop} {F1 : D → (R → Prop) → Prop}
variable {q : R → Prop}
instance {xs : List D} : Stp (listF [.frz xs] q) (q (.fr (.l xs))) := ⟨f_listZ⟩
end
section
variable {Q : R → En → Prop} {QB : Bool → En → Prop} {QA : List R → En → Prop} {δ : En} {d : D} {c : Cn} {T U V : DT} {C C2 : DTT} {TA : DTA} {F : D → D → (R → Prop) → Prop} {F1 : D → (R → Prop) → Prop}
variable {q : R → Prop}
instance {xs : List D} : Stp (tupleF [.lst xs] q) (q (.va (.tup xs))) := ⟨f_tupL⟩
end
section
variable {Q : R → En → Prop} {QB : Bool → En → Prop} {QA : List R → En → Prop} {δ : En} {d : D} {c : Cn} {T U V : DT} {C C2 : DTT} {TA : DTA} {F : D → D → (R → Prop) → Prop} {F1 : D → (R → Prop) → Prop}
variable {q : R → Prop}
instance {xs : List D} : Stp (tupleF [.tup xs] q) (q (.va (.tup xs))) := ⟨f_tupT⟩
end
section
variable {Q : R → En → Prop} {QB : Bool → En → Prop} {QA : List R → En → Prop} {δ : En} {d : D} {c : Cn} {T U V : DT} {C C2 : DTT} {TA : DTA} {F : D → D → (R → Prop) → Prop} {F1 : D → (R → Prop) → Prop}
variable {q : R → Prop}
instance {i : Int} : Stp (intF [.int i] q) (q (.va (.int i))) := ⟨f_int⟩
end
section
variable {Q : R → En → Prop} {QB : Bool → En → Prop} {QA : List R → En → Prop} {δ : En} {d : D} {c : Cn} {T U V : DT} {C C2 : DTT} {TA : DTA} {F : D → D → (R → Prop) → Prop} {F1 : D → (R → Prop) → Prop}
variable {q : R → Prop}
instance {i j : Int} : Stp (min2F [.int i, .int j] q) (q (.va (.int (if j < i then j else i)))) := ⟨f_min2⟩
end
section
variable {Q : R → En → Prop} {QB : Bool → En → Prop} {QA : List R → En → Prop} {δ : En} {d : D} {c : Cn} {T U V : DT} {C C2 : DTT} {TA : DTA} {F : D → D → (R → Prop) → Prop} {F1 : D → (R → Prop) → Prop}
variable {q : R → Prop}
instance {i j : Int} : Stp (bF eqF (.int i) (.int j) q) (q (.va (.bl (decide (i = j))))) := ⟨f_eqI⟩
end
section
variable {Q : R → En → Prop} {QB : Bool → En → Prop} {QA : List R → En → Prop} {δ : En} {d : D} {c : Cn} {T U V : DT} {C C2 : DTT} {TA : DTA} {F : D → D → (R → Prop) → Prop} {F1 : D → (R → Prop) → Prop}
variable {q : R → Prop}
instance {i j : Int} : Stp (bF neF (.int i) (.int j) q) (q (.va (.bl (!decide (i = j))))) := ⟨f_neI⟩
end
section
variable {Q : R → En → Prop} {QB : Bool → En → Prop} {QA : List R → En → Prop} {δ : En} {d : D} {c : Cn} {T U V : DT} {C C2 : DTT} {TA : DTA} {F : D → D → (R → Prop) → Prop} {F1 : D → (R → Prop) → Prop}
variable {q : R → Prop}
variable {n : En → Prop} {rt : R → En → Prop} {bk ct : En → Prop} {S S2 : DS}
variable {N : En → Prop}
variable {f : List D → List D → (D → List D → Prop) → Prop}
instance  : Stp (tlm f T TA δ Q) (T δ fun ro δ1 => ∃ i xs0, ro = .rf i ∧ δ1[i]? = some (E.ow (.l xs0)) ∧ TA δ1 fun rs δ2 => ∃ xs ds, δ2[i]? = some (E.ow (.l xs)) ∧ stills δ2 rs = some ds ∧ f xs ds fun d ys => ∃ δ', δ2.set i (.ow (.l ys)) = δ' ∧ Q (.va d) δ') := ⟨e_tlm⟩
end
section
variable {Q : R → En → Prop} {QB : Bool → En → Prop} {QA : List R → En → Prop} {δ : En} {d : D} {c : Cn} {T U V : DT} {C C2 : DTT} {TA : DTA} {F : D → D → (R → Prop) → Prop} {F1 : D → (R → Prop) → Prop}
variable {q : R → Prop}
variable {n : En → Prop} {rt : R → En → Prop} {bk ct : En → Prop} {S S2 : DS}
variable {N : En → Prop}
variable {f : List D → List D → (D → List D → Prop) → Prop}
instance {sp : DSp} {ms : List Bool} : Stp (tcall sp ms TA δ Q) (TA δ fun rs δ1 => ∃ es, passes δ1 rs ms = some es ∧ (rfs rs).Nodup ∧ sp es fun r es' => ∃ δ', puts δ1 rs es' = δ' ∧ Q r δ') := ⟨e_tcall⟩
end
section
variable {Q : R → En → Prop} {QB : Bool → En → Prop} {QA : List R → En → Prop} {δ : En} {d : D} {c : Cn} {T U V : DT} {C C2 : DTT} {TA : DTA} {F : D → D → (R → Prop) → Prop} {F1 : D → (R → Prop) → Prop}
variable {q : R → Prop}
variable {n : En → Prop} {rt : R → En → Prop} {bk ct : En → Prop} {S S2 : DS}
variable {N : En → Prop}
variable {f : List D → List D → (D → List D → Prop) → Prop}
variable {QI : List D → List (Nat × Cn) → En → Prop}
instance  : Stp (ilist T δ QI) (T δ fun r δ1 => ∃ xs cs, srcL δ1 r = some (xs, cs) ∧ QI xs cs δ1) := ⟨i_list⟩
end
section
variable {Q : R → En → Prop} {QB : Bool → En → Prop} {QA : List R → En → Prop} {δ : En} {d : D} {c : Cn} {T U V : DT} {C C2 : DTT} {TA : DTA} {F : D → D → (R → Prop) → Prop} {F1 : D → (R → Prop) → Prop}
variable {q : R → Prop}
variable {n : En → Prop} {rt : R → En → Prop} {bk ct : En → Prop} {S S2 : DS}
variable {N : En → Prop}
variable {f : List D → List D → (D → List D → Prop) → Prop}
variable {QI : List D → List (Nat × Cn) → En → Prop}
instance  : Stp (itup T δ QI) (T δ fun r δ1 => ∃ xs, r = .va (.tup xs) ∧ QI xs [] δ1) := ⟨i_tup⟩
end
section
variable {Q : R → En → Prop} {QB : Bool → En → Prop} {QA : List R → En → Prop} {δ : En} {d : D} {c : Cn} {T U V : DT} {C C2 : DTT} {TA : DTA} {F : D → D → (R → Prop) → Prop} {F1 : D → (R → Prop) → Prop}
variable {q : R → Prop}
variable {n : En → Prop} {rt : R → En → Prop} {bk ct : En → Prop} {S S2 : DS}
variable {N : En → Prop}
variable {f : List D → List D → (D → List D → Prop) → Prop}
variable {QI : List D → List (Nat × Cn) → En → Prop}
instance {xs : List D} {P : List D → Prop} : Stp (∃ xs', R.va (.tup xs) = .va (.tup xs') ∧ P xs') (P xs) := ⟨i_tupx⟩
end
section
variable {Q : R → En → Prop} {QB : Bool → En → Prop} {QA : List R → En → Prop} {δ : En} {d : D} {c : Cn} {T U V : DT} {C C2 : DTT} {TA : DTA} {F : D → D → (R → Prop) → Prop} {F1 : D → (R → Prop) → Prop}
variable {q : R → Prop}
variable {n : En → Prop} {rt : R → En → Prop} {bk ct : En → Prop} {S S2 : DS}
variable {N : En → Prop}
variable {f : List D → List D → (D → List D → Prop) → Prop}
variable {QI : List D → List (Nat × Cn) → En → Prop}
instance {x : Str} {P : Str → Prop} : Stp (∃ x', R.va (.str x) = .va (.str x') ∧ P x') (P x) := ⟨i_strx⟩
end
section
variable {Q : R → En → Prop} {QB : Bool → En → Prop} {QA : List R → En → Prop} {δ : En} {d : D} {c : Cn} {T U V : DT} {C C2 : DTT} {TA : DTA} {F : D → D → (R → Prop) → Prop} {F1 : D → (R → Prop) → Prop}
variable {q : R → Prop}
variable {n : En → Prop} {rt : R → En → Prop} {bk ct : En → Prop} {S S2 : DS}
variable {N : En → Prop}
variable {f : List D → List D → (D → List D → Prop) → Prop}
variable {QI : List D → List (Nat × Cn) → En → Prop}
instance  : Stp (irng1 T δ QI) (T δ fun r δ1 => ∃ j, r = .va (.int j) ∧ (-(2 ^ 62) ≤ j ∧ j < 2 ^ 62) ∧ QI (rangeD 0 j.toNat) [] δ1) := ⟨i_rng1⟩
end
section
variable {Q : R → En → Prop} {QB : Bool → En → Prop} {QA : List R → En → Prop} {δ : En} {d : D} {c : Cn} {T U V : DT} {C C2 : DTT} {TA : DTA} {F : D → D → (R → Prop) → Prop} {F1 : D → (R → Prop) → Prop}
variable {q : R → Prop}
variable {n : En → Prop} {rt : R → En → Prop} {bk ct : En → Prop} {S S2 : DS}
variable {N : En → Prop}
variable {f : List D → List D → (D → List D → Prop) → Prop}
variable {QI : List D → List (Nat × Cn) → En → Prop}
instance  : Stp (izip T U δ QI) (T δ fun r δ1 => U δ1 fun u δ2 => ∃ xs cs ys cs', srcL δ2 r = some (xs, cs) ∧ srcL δ2 u = some (ys, cs') ∧ QI (zipD xs ys) (cs ++ cs') δ2) := ⟨i_zip⟩
end
section
variable {Q : R → En → Prop} {QB : Bool → En → Prop} {QA : List R → En → Prop} {δ : En} {d : D} {c : Cn} {T U V : DT} {C C2 : DTT} {TA : DTA} {F : D → D → (R → Prop) → Prop} {F1 : D → (R → Prop) → Prop}
variable {q : R → Prop}
variable {n : En → Prop} {rt : R → En → Prop} {bk ct : En → Prop} {S S2 : DS}
variable {N : En → Prop}
variable {f : List D → List D → (D → List D → Prop) → Prop}
variable {QI : List D → List (Nat × Cn) → En → Prop}
instance {as : List Nat} {SI : DI} {Gd : DG} {B : DS} : Stp (sfor as SI Gd B ⟨n, rt, bk, ct⟩ δ) (SI δ fun items cs δ1 => ForK as Gd B ⟨n, rt, bk, ct⟩ items cs δ1) := ⟨s_for⟩
end
section
variable {Q : R → En → Prop} {QB : Bool → En → Prop} {QA : List R → En → Prop} {δ : En} {d : D} {c : Cn} {T U V : DT} {C C2 : DTT} {TA : DTA} {F : D → D → (R → Prop) → Prop} {F1 : D → (R → Prop) → Prop}
variable {q : R → Prop}
variable {n : En → Prop} {rt : R → En → Prop} {bk ct : En → Prop} {S S2 : DS}
variable {N : En → Prop}
variable {f : List D → List D → (D → List D → Prop) → Prop}
variable {QI : List D → List (Nat × Cn) → En → Prop}
instance {SI : DI} {Gd : DG} {Te : DT} {vs : List Nat} : Stp (tcomp SI Gd C Te vs δ Q) (SI δ fun items cs δ1 => CompK Gd C Te vs Q items cs δ1) := ⟨e_comp⟩
end
section
variable {δ : En} {n : En → Prop} {rt : R → En → Prop} {bk ct : En → Prop} {ex : XQ} {S S2 : DSX} {C : DTT} {T : DT} {TA : DTA} {Q : R → En → Prop} {E3 : XQ}
instance {S : DS} : Stp (xp S ⟨⟨n, rt, bk, ct⟩, ex⟩ δ) (S ⟨n, rt, bk, ct⟩ δ) := ⟨x_p⟩
end
section
variable {Q : R → En → Prop} {QB : Bool → En → Prop} {QA : List R → En → Prop} {δ : En} {d : D} {c : Cn} {T U V : DT} {C C2 : DTT} {TA : DTA} {F : D → D → (R → Prop) → Prop} {F1 : D → (R → Prop) → Prop}
variable {q : R → Prop}
instance  : Stp (bF eqF (.dct [] []) (.dct [] []) q) (q (.va (.bl true))) := ⟨f_eqD0⟩
end
section
variable {Q : R → En → Prop} {QB : Bool → En → Prop} {QA : List R → En → Prop} {δ : En} {d : D} {c : Cn} {T U V : DT} {C C2 : DTT} {TA : DTA} {F : D → D → (R → Prop) → Prop} {F1 : D → (R → Prop) → Prop}
variable {q : R → Prop}
instance  : Stp (bF neF (.dct [] []) (.dct [] []) q) (q (.va (.bl false))) := ⟨f_neD0⟩
end
section
variable {Q : R → En → Prop} {δ : En} {T U : DT} {TA : DTA} {n : En → Prop} {rt : R → En → Prop} {bk ct : En → Prop} {q : R → Prop} {N : En → Prop} {d : D}
instance {is : List Nat} {ms : List Bool} : Stp (sparN is ms TA ⟨n, rt, bk, ct⟩ δ) (TA δ fun rs δ1 => rs.length = is.length ∧ rs.length ≤ sizeLine ∧ ∃ es, putEs δ1 ms rs = some es ∧ ∃ δ', setEs δ1 is es = δ' ∧ n δ') := ⟨s_parN⟩
end
section
variable {Q : R → En → Prop} {QB : Bool → En → Prop} {δ : En} {T U : DT} {C : DTT} {rt : R → En → Prop} {bk ct : En → Prop} {n : En → Prop} {rows : List (List D)} {Z : DE}
instance {m : Nat} {S : DI} {Gd : DG} {Te : DT} {vs : List Nat} {U : YP} : Stp (sgrid m S Gd C Te vs U Z δ) (S δ fun items cs δ1 => GrK m Gd C Te vs (fun rows δ => U Z δ rows) items cs δ1) := ⟨y_grid⟩
end
section
variable {Q : R → En → Prop} {δ : En} {C : DTT} {rt : R → En → Prop} {rows : List (List D)} {Z : DE}
instance {m o : Nat} {S : DI} {Gd : DG} {Te TB : DT} {vs : List Nat} {U : YP} : Stp (sgrid2 m o S Gd C Te vs TB U Z δ) (S δ fun items cs δ1 => GrK2 m o Gd C Te vs TB Z U items cs δ1) := ⟨y_grid2⟩
end
section
instance {i j : Nat} {δ : En} {D : DE} : Stp (smove i j D δ) (∃ c, δ[j]? = some (E.ow c) ∧ i ≠ j ∧ i < δ.length ∧ ∃ δ', (δ.set j .no).set i (.ow c) = δ' ∧ D.nx δ') := ⟨s_move⟩
end
section
variable {Q : R → En → Prop} {δ : En} {C : DTT} {Z : DE} {QG : List (List D) → En → Prop} {TA : DTA} {rows : List (List D)} {rt : R → En → Prop} {yn ybk yct : En → List (List D) → Prop}
instance {S : DI} {Gd : DG} {Te : DT} {vs : List Nat} : Stp (tgr S Gd C Te vs δ QG) (S δ fun items cs δ1 => GrN Gd C Te vs QG items cs δ1) := ⟨n_gr⟩
end
section
variable {δ : En} {T U : DT} {Q : List D → List (Nat × Cn) → En → Prop}
instance  : Stp (izipM T U δ Q) (T δ fun r δ1 => U δ1 fun u δ2 => ∃ d e xs ys, r = .va d ∧ u = .va e ∧ seqD d = some xs ∧ seqD e = some ys ∧ Q (zipD xs ys) [] δ2) := ⟨i_zipM⟩
end
section
variable {Q : R → En → Prop} {δ : En} {C : DTT} {Z : DE} {QG : List (List D) → En → Prop} {TA : DTA} {rows : List (List D)} {rt : R → En → Prop} {yn ybk yct : En → List (List D) → Prop}
instance {sp : DGp} {ms : List Bool} : Stp (tcallG sp ms TA δ QG) (TA δ fun rs δ1 => ∃ es, passes δ1 rs ms = some es ∧ (rfs rs).Nodup ∧ sp es fun rows es' => ∃ δ', puts δ1 rs es' = δ' ∧ QG rows δ') := ⟨n_call⟩
end
section
variable {Q : R → En → Prop} {δ : En} {C : DTT} {Z : DE} {QG : List (List D) → En → Prop} {TA : DTA} {rows : List (List D)} {rt : R → En → Prop} {yn ybk yct : En → List (List D) → Prop}
instance {m : Nat} {T : DGr} {U : YP} : Stp (sgridG m T U Z δ) (m < δ.length ∧ T δ fun rows δ1 => ∃ δ', δ1.set m .no = δ' ∧ U Z δ' rows) := ⟨n_grid⟩
end
section
variable {Q : R → En → Prop} {δ : En} {C : DTT} {Z : DE} {QG : List (List D) → En → Prop} {TA : DTA} {rows : List (List D)} {rt : R → En → Prop} {yn ybk yct : En → List (List D) → Prop}
instance {m x : Nat} {Tv : DT} : Stp (ysetOL m x Tv ⟨yn, rt, ybk, yct⟩ δ rows) (∃ δk, lookY m δ rows = δk ∧ Tv δk fun r _ => ∃ ns : List Int, r = .fr (.l (ns.map D.int)) ∧ ∃ δ', δ.set x (.ow (.l (ns.map D.int))) = δ' ∧ yn δ' rows) := ⟨y_setOL⟩
end
section
variable {Q : R → En → Prop} {QB : Bool → En → Prop} {δ : En} {T U : DT} {C : DTT} {rt : R → En → Prop} {bk ct : En → Prop} {n : En → Prop} {rows : List (List D)} {Z : DE}
instance {xs : List D} {P : List D → Prop} : Stp (∃ ys, R.fr (.l xs) = .fr (.l ys) ∧ P ys) (P xs) := ⟨y_list⟩
end
section
variable {Q : R → En → Prop} {QB : Bool → En → Prop} {δ : En} {T U : DT} {C : DTT} {rt : R → En → Prop} {bk ct : En → Prop} {n : En → Prop} {rows : List (List D)} {Z : DE}
instance {A : YS} {B : YP} : Stp (ypseq A B Z δ rows) (A ⟨B Z, Z.rt, fun _ _ => False, fun _ _ => False⟩ δ rows) := ⟨y_pseq⟩
end
section
variable {Q : R → En → Prop} {QB : Bool → En → Prop} {δ : En} {T U : DT} {C : DTT} {rt : R → En → Prop} {bk ct : En → Prop} {n : En → Prop} {rows : List (List D)} {Z : DE}
instance {m : Nat} {S : DS} : Stp (ypfree m S Z δ rows) (∃ δ', δ.set m (.ow (.l (rows.map D.lst))) = δ' ∧ S Z δ') := ⟨y_free⟩
end
section
variable {Q : R → En → Prop} {QB : Bool → En → Prop} {δ : En} {T U : DT} {C : DTT} {rt : R → En → Prop} {bk ct : En → Prop} {n : En → Prop} {rows : List (List D)} {Z : DE}
variable {yn : En → List (List D) → Prop} {ybk yct : En → List (List D) → Prop}
instance {S : DS} : Stp (yplain S ⟨yn, rt, ybk, yct⟩ δ rows) (S ⟨fun δ' => yn δ' rows, rt, fun δ' => ybk δ' rows, fun δ' => yct δ' rows⟩ δ) := ⟨y_plain⟩
end
section
variable {Q : R → En → Prop} {QB : Bool → En → Prop} {δ : En} {T U : DT} {C : DTT} {rt : R → En → Prop} {bk ct : En → Prop} {n : En → Prop} {rows : List (List D)} {Z : DE}
variable {yn : En → List (List D) → Prop} {ybk yct : En → List (List D) → Prop}
instance {A B : YS} : Stp (yseq A B ⟨yn, rt, ybk, yct⟩ δ rows) (A ⟨B ⟨yn, rt, ybk, yct⟩, rt, ybk, yct⟩ δ rows) := ⟨y_seq⟩
end
section
variable {Q : R → En → Prop} {QB : Bool → En → Prop} {δ : En} {T U : DT} {C : DTT} {rt : R → En → Prop} {bk ct : En → Prop} {n : En → Prop} {rows : List (List D)} {Z : DE}
variable {yn : En → List (List D) → Prop} {ybk yct : En → List (List D) → Prop}
instance {A B : YS} : Stp (yif C A B ⟨yn, rt, ybk, yct⟩ δ rows) (C δ fun b δ1 => (b = true → A ⟨yn, rt, ybk, yct⟩ δ1 rows) ∧ (b = false → B ⟨yn, rt, ybk, yct⟩ δ1 rows)) := ⟨y_if⟩
end
section
variable {Q : R → En → Prop} {QB : Bool → En → Prop} {δ : En} {T U : DT} {C : DTT} {rt : R → En → Prop} {bk ct : En → Prop} {n : En → Prop} {rows : List (List D)} {Z : DE}
variable {yn : En → List (List D) → Prop} {ybk yct : En → List (List D) → Prop}
instance {as : List Nat} {SI : DI} {Gd : DG} {B : YS} : Stp (yfor as SI Gd B ⟨yn, rt, ybk, yct⟩ δ rows) (SI δ fun items cs δ1 => YForK as Gd B ⟨yn, rt, ybk, yct⟩ rows items cs δ1) := ⟨y_for⟩
end
section
variable {Q : R → En → Prop} {P : D → Prop} {δ : En} {d : D} {Z : DE} {nx : En → Prop} {rt : R → En → Prop} {bk ct : En → Prop} {ex : XQ}
instance {yn : En → List (List D) → Prop} {ybk yct : En → List (List D) → Prop} {rows : List (List D)} {Tv Ti Tj : DT} : Stp (yput Tv Ti Tj ⟨yn, rt, ybk, yct⟩ δ rows) (Tv δ fun r δ1 => ∃ d, r.still δ1 = some d ∧ Ti δ1 fun ri δ2 => ∃ i i' row, ri = .va (.int i) ∧ ixN rows.length i = some i' ∧ rows[i']? = some row ∧ Tj δ2 fun rj δ3 => ∃ j j', rj = .va (.int j) ∧ ixN row.length j = some j' ∧ yn δ3 (rows.set i' (row.set j' d))) := ⟨y_put⟩
end
section
variable {Q : R → En → Prop} {δ : En} {n : En → Prop} {rt : R → En → Prop} {bk ct : En → Prop} {yn : En → List (List D) → Prop} {ybk yct : En → List (List D) → Prop} {rows : List (List D)}
instance {m : Nat} {Tv Ti Tj : DT} : Stp (yputL m Tv Ti Tj ⟨yn, rt, ybk, yct⟩ δ rows) (∃ δk, lookY m δ rows = δk ∧ Tv δk fun r _ => ∃ z, r = .va (.int z) ∧ Ti δ fun ri δ2 => ∃ i i' row, ri = .va (.int i) ∧ ixN rows.length i = some i' ∧ rows[i']? = some row ∧ Tj δ2 fun rj δ3 => ∃ j j', rj = .va (.int j) ∧ ixN row.length j = some j' ∧ yn δ3 (rows.set i' (row.set j' (.int z)))) := ⟨y_putL⟩
end
section
variable {Q : R → En → Prop} {δ : En} {n : En → Prop} {rt : R → En → Prop} {bk ct : En → Prop} {yn : En → List (List D) → Prop} {ybk yct : En → List (List D) → Prop} {rows : List (List D)}
instance {m : Nat} {c : DTT} {T U : YS} : Stp (yifL m c T U ⟨yn, rt, ybk, yct⟩ δ rows) (∃ δk, lookY m δ rows = δk ∧ c δk fun b _ => (b = true → T ⟨yn, rt, ybk, yct⟩ δ rows) ∧ (b = false → U ⟨yn, rt, ybk, yct⟩ δ rows)) := ⟨y_ifL⟩
end
section
variable {Q : R → En → Prop} {δ : En} {T U : DT} {TA TB : DTA} {n : En → Prop} {rt : R → En → Prop} {bk ct : En → Prop}
instance {sp : DSp} {ms : List Bool} {np nk : Nat} {is : List Nat} : Stp (tcallP sp ms np nk is TA TB δ Q) (TA δ fun rs δ1 => rs.length = np ∧ TB δ1 fun us δ2 => us.length = nk ∧ ∃ es, passes δ2 (pk is (rs ++ us)) ms = some es ∧ (rfs (pk is (rs ++ us))).Nodup ∧ sp es fun r es' => ∃ δ', puts δ2 (pk is (rs ++ us)) es' = δ' ∧ Q r δ') := ⟨p_callP⟩
end
section
variable {q : R → Prop}
instance  : Stp (bF eqF (.bl true) (.bl true) q) (q (.va (.bl true))) := ⟨f_ett⟩
end
section
variable {q : R → Prop}
instance  : Stp (bF eqF (.bl false) (.bl false) q) (q (.va (.bl true))) := ⟨f_eff⟩
end
section
variable {q : R → Prop}
instance  : Stp (bF eqF (.bl true) (.bl false) q) (q (.va (.bl false))) := ⟨f_etf⟩
end
section
variable {q : R → Prop}
instance  : Stp (bF eqF (.bl false) (.bl true) q) (q (.va (.bl false))) := ⟨f_eft⟩
end
section
variable {q : R → Prop}
instance  : Stp (bF neF (.bl true) (.bl true) q) (q (.va (.bl false))) := ⟨f_ntt⟩
end
section
variable {q : R → Prop}
instance  : Stp (bF neF (.bl false) (.bl false) q) (q (.va (.bl false))) := ⟨f_nff⟩
end
section
variable {q : R → Prop}
instance  : Stp (bF neF (.bl true) (.bl false) q) (q (.va (.bl true))) := ⟨f_ntf⟩
end
section
variable {q : R → Prop}
instance  : Stp (bF neF (.bl false) (.bl true) q) (q (.va (.bl true))) := ⟨f_nft⟩
end
section
variable {Q : R → En → Prop} {QB : Bool → En → Prop} {QA : List R → En → Prop} {δ : En} {d : D} {c : Cn} {T U V : DT} {C C2 : DTT} {TA : DTA} {F : D → D → (R → Prop) → Prop} {F1 : D → (R → Prop) → Prop}
instance  : Stp (tyes δ QB) (QB true δ) := ⟨e_tyes⟩
end
section
variable {Q : R → En → Prop} {QB : Bool → En → Prop} {QA : List R → En → Prop} {δ : En} {d : D} {c : Cn} {T U V : DT} {C C2 : DTT} {TA : DTA} {F : D → D → (R → Prop) → Prop} {F1 : D → (R → Prop) → Prop}
instance {A B : Prop} : Stp (((true : Bool) = true → A) ∧ ((true : Bool) = false → B)) (A) := ⟨br_t⟩
end
section
variable {Q : R → En → Prop} {QB : Bool → En → Prop} {QA : List R → En → Prop} {δ : En} {d : D} {c : Cn} {T U V : DT} {C C2 : DTT} {TA : DTA} {F : D → D → (R → Prop) → Prop} {F1 : D → (R → Prop) → Prop}
instance {A B : Prop} : Stp (((false : Bool) = true → A) ∧ ((false : Bool) = false → B)) (B) := ⟨br_f⟩
end
section
variable {Q : R → En → Prop} {QB : Bool → En → Prop} {QA : List R → En → Prop} {δ : En} {d : D} {c : Cn} {T U V : DT} {C C2 : DTT} {TA : DTA} {F : D → D → (R → Prop) → Prop} {F1 : D → (R → Prop) → Prop}
instance {A B : Prop} {b : Bool} : Stp (((!b) = true → A) ∧ ((!b) = false → B)) ((b = true → B) ∧ (b = false → A)) := ⟨br_n⟩
end
section
variable {Q : R → En → Prop} {δ : En} {T U : DT} {TA TB : DTA} {n : En → Prop} {rt : R → En → Prop} {bk ct : En → Prop}
instance {a : Str} {P : Str → Prop} : Stp (∃ a', R.va (.str a) = .va (.str a') ∧ P a') (P a) := ⟨p_join0⟩
end
section
variable {Q : R → En → Prop} {δ : En} {T U : DT} {TA TB : DTA} {n : En → Prop} {rt : R → En → Prop} {bk ct : En → Prop}
instance {r u : R} {P : List D → List (Nat × Cn) → List D → List (Nat × Cn) → Prop} {B : Prop} : Tag ((∃ xs cs ys cs', srcL δ r = some (xs, cs) ∧ srcL δ u = some (ys, cs') ∧ P xs cs ys cs') ∨ B) (B0 (B0 (B0 (B0 (B0 (B0 ((∃ xs cs ys cs', srcL δ r = some (xs, cs) ∧ srcL δ u = some (ys, cs') ∧ P xs cs ys cs') ∨ B))))))) := ⟨id⟩
end
section
variable {δ : En} {T : DT} {QI : List D → List (Nat × Cn) → En → Prop}
instance {r : R} {P : List D → List (Nat × Cn) → Prop} {B : Prop} : Tag ((∃ xs cs, srcL δ r = some (xs, cs) ∧ P xs cs) ∨ B) (B0 (B0 (B0 (B0 (B0 (B1 ((∃ xs cs, srcL δ r = some (xs, cs) ∧ P xs cs) ∨ B))))))) := ⟨id⟩
end
section
variable {Q : R → En → Prop} {QB : Bool → En → Prop} {QA : List R → En → Prop} {δ : En} {d : D} {c : Cn} {T U V : DT} {C C2 : DTT} {TA : DTA} {F : D → D → (R → Prop) → Prop} {F1 : D → (R → Prop) → Prop}
variable {q : R → Prop}
instance {xs : List D} {i : Int} : Tag (ixF (.lst xs) (.int i) q) (B0 (B0 (B0 (B0 (B1 (B0 (ixF (.lst xs) (.int i) q))))))) := ⟨id⟩
end
section
variable {Q : R → En → Prop} {QB : Bool → En → Prop} {QA : List R → En → Prop} {δ : En} {d : D} {c : Cn} {T U V : DT} {C C2 : DTT} {TA : DTA} {F : D → D → (R → Prop) → Prop} {F1 : D → (R → Prop) → Prop}
instance {rs : List R} {P : List D → Prop} : Tag (∃ ds, dats δ rs = some ds ∧ P ds) (B0 (B0 (B0 (B0 (B1 (B1 (∃ ds, dats δ rs = some ds ∧ P ds))))))) := ⟨id⟩
end
section
variable {Q : R → En → Prop} {QB : Bool → En → Prop} {QA : List R → En → Prop} {δ : En} {d : D} {c : Cn} {T U V : DT} {C C2 : DTT} {TA : DTA} {F : D → D → (R → Prop) → Prop} {F1 : D → (R → Prop) → Prop}
instance {rs : List R} {P : List D → Prop} : Tag (∃ ds, stills δ rs = some ds ∧ ds.length ≤ sizeLine ∧ P ds) (B0 (B0 (B0 (B1 (B0 (B0 (∃ ds, stills δ rs = some ds ∧ ds.length ≤ sizeLine ∧ P ds))))))) := ⟨id⟩
end
section
variable {Q : R → En → Prop} {δ : En} {T U : DT} {TA TB : DTA} {n : En → Prop} {rt : R → En → Prop} {bk ct : En → Prop}
instance {rs rs' : List R} {ms : List Bool} {P : En → Prop} : Tag (∃ es, passes δ rs ms = some es ∧ (rfs rs').Nodup ∧ P es) (B0 (B0 (B0 (B1 (B0 (B1 (∃ es, passes δ rs ms = some es ∧ (rfs rs').Nodup ∧ P es))))))) := ⟨id⟩
end
section
variable {Q : R → En → Prop} {QB : Bool → En → Prop} {QA : List R → En → Prop} {δ : En} {d : D} {c : Cn} {T U V : DT} {C C2 : DTT} {TA : DTA} {F : D → D → (R → Prop) → Prop} {F1 : D → (R → Prop) → Prop}
variable {q : R → Prop}
variable {n : En → Prop} {rt : R → En → Prop} {bk ct : En → Prop} {S S2 : DS}
variable {N : En → Prop}
variable {f : List D → List D → (D → List D → Prop) → Prop}
instance {i : Nat} {rs : List R} {P : List D → List D → Prop} : Tag (∃ xs ds, δ[i]? = some (E.ow (.l xs)) ∧ stills δ rs = some ds ∧ P xs ds) (B0 (B0 (B0 (B1 (B1 (B0 (∃ xs ds, δ[i]? = some (E.ow (.l xs)) ∧ stills δ rs = some ds ∧ P xs ds))))))) := ⟨id⟩
end
section
variable {Q : R → En → Prop} {δ : En} {T U : DT} {TA TB : DTA} {n : En → Prop} {rt : R → En → Prop} {bk ct : En → Prop}
instance {xs : List R} {m : Nat} {P : Prop} : Tag (xs.length = m ∧ P) (B0 (B0 (B0 (B1 (B1 (B1 (xs.length = m ∧ P))))))) := ⟨id⟩
end
section
variable {Q : R → En → Prop} {QB : Bool → En → Prop} {QA : List R → En → Prop} {δ : En} {d : D} {c : Cn} {T U V : DT} {C C2 : DTT} {TA : DTA} {F : D → D → (R → Prop) → Prop} {F1 : D → (R → Prop) → Prop}
instance {i : Nat} : Tag (tv i δ Q) (B0 (B0 (B1 (B0 (B0 (B0 (tv i δ Q))))))) := ⟨id⟩
end
section
variable {Q : R → En → Prop} {QB : Bool → En → Prop} {QA : List R → En → Prop} {δ : En} {d : D} {c : Cn} {T U V : DT} {C C2 : DTT} {TA : DTA} {F : D → D → (R → Prop) → Prop} {F1 : D → (R → Prop) → Prop}
instance {i : Nat} : Tag (tvz i δ Q) (B0 (B0 (B1 (B0 (B0 (B1 (tvz i δ Q))))))) := ⟨id⟩
end
section
variable {Q : R → En → Prop} {QB : Bool → En → Prop} {QA : List R → En → Prop} {δ : En} {d : D} {c : Cn} {T U V : DT} {C C2 : DTT} {TA : DTA} {F : D → D → (R → Prop) → Prop} {F1 : D → (R → Prop) → Prop}
instance {x : R} {P : D → Prop} : Tag (∃ d, x.dat δ = some d ∧ P d) (B0 (B0 (B1 (B0 (B1 (B0 (∃ d, x.dat δ = some d ∧ P d))))))) := ⟨id⟩
end
section
variable {Q : R → En → Prop} {QB : Bool → En → Prop} {QA : List R → En → Prop} {δ : En} {d : D} {c : Cn} {T U V : DT} {C C2 : DTT} {TA : DTA} {F : D → D → (R → Prop) → Prop} {F1 : D → (R → Prop) → Prop}
variable {q : R → Prop}
variable {n : En → Prop} {rt : R → En → Prop} {bk ct : En → Prop} {S S2 : DS}
instance {δ : En} {P : En → Prop} : Tag (∃ δ', δ = δ' ∧ P δ') (B0 (B0 (B1 (B0 (B1 (B1 (∃ δ', δ = δ' ∧ P δ'))))))) := ⟨id⟩
end
section
variable {Q : R → En → Prop} {QB : Bool → En → Prop} {QA : List R → En → Prop} {δ : En} {d : D} {c : Cn} {T U V : DT} {C C2 : DTT} {TA : DTA} {F : D → D → (R → Prop) → Prop} {F1 : D → (R → Prop) → Prop}
variable {q : R → Prop}
variable {n : En → Prop} {rt : R → En → Prop} {bk ct : En → Prop} {S S2 : DS}
variable {N : En → Prop}
variable {f : List D → List D → (D → List D → Prop) → Prop}
instance {i : Nat} {P : Nat → Prop} : Tag (∃ i' xs0, R.rf i = .rf i' ∧ δ[i']? = some (E.ow (.l xs0)) ∧ P i') (B0 (B0 (B1 (B1 (B0 (B0 (∃ i' xs0, R.rf i = .rf i' ∧ δ[i']? = some (E.ow (.l xs0)) ∧ P i'))))))) := ⟨id⟩
end
section
variable {Q : R → En → Prop} {QB : Bool → En → Prop} {QA : List R → En → Prop} {δ : En} {d : D} {c : Cn} {T U V : DT} {C C2 : DTT} {TA : DTA} {F : D → D → (R → Prop) → Prop} {F1 : D → (R → Prop) → Prop}
variable {q : R → Prop}
variable {n : En → Prop} {rt : R → En → Prop} {bk ct : En → Prop} {S S2 : DS}
variable {N : En → Prop}
variable {f : List D → List D → (D → List D → Prop) → Prop}
variable {QI : List D → List (Nat × Cn) → En → Prop}
instance {r : R} {P : List D → List (Nat × Cn) → Prop} : Tag (∃ xs cs, srcL δ r = some (xs, cs) ∧ P xs cs) (B0 (B0 (B1 (B1 (B0 (B1 (∃ xs cs, srcL δ r = some (xs, cs) ∧ P xs cs))))))) := ⟨id⟩
end
section
variable {Q : R → En → Prop} {QB : Bool → En → Prop} {QA : List R → En → Prop} {δ : En} {d : D} {c : Cn} {T U V : DT} {C C2 : DTT} {TA : DTA} {F : D → D → (R → Prop) → Prop} {F1 : D → (R → Prop) → Prop}
variable {q : R → Prop}
variable {n : En → Prop} {rt : R → En → Prop} {bk ct : En → Prop} {S S2 : DS}
variable {N : En → Prop}
variable {f : List D → List D → (D → List D → Prop) → Prop}
variable {QI : List D → List (Nat × Cn) → En → Prop}
instance {r u : R} {P : List D → List (Nat × Cn) → List D → List (Nat × Cn) → Prop} : Tag (∃ xs cs ys cs', srcL δ r = some (xs, cs) ∧ srcL δ u = some (ys, cs') ∧ P xs cs ys cs') (B0 (B0 (B1 (B1 (B1 (B0 (∃ xs cs ys cs', srcL δ r = some (xs, cs) ∧ srcL δ u = some (ys, cs') ∧ P xs cs ys cs'))))))) := ⟨id⟩
end
section
variable {Q : R → En → Prop} {QB : Bool → En → Prop} {QA : List R → En → Prop} {δ : En} {d : D} {c : Cn} {T U V : DT} {C C2 : DTT} {TA : DTA} {F : D → D → (R → Prop) → Prop} {F1 : D → (R → Prop) → Prop}
variable {q : R → Prop}
variable {n : En → Prop} {rt : R → En → Prop} {bk ct : En → Prop} {S S2 : DS}
instance {r1 r2 r3 : R} {m1 m2 m3 : Bool} {P : E → E → E → Prop} : Tag (∃ r1' r2' r3' e1 e2 e3, [r1, r2, r3] = [r1', r2', r3'] ∧ putE δ m1 r1' = some e1 ∧ putE δ m2 r2' = some e2 ∧ putE δ m3 r3' = some e3 ∧ P e1 e2 e3) (B0 (B0 (B1 (B1 (B1 (B1 (∃ r1' r2' r3' e1 e2 e3, [r1, r2, r3] = [r1', r2', r3'] ∧ putE δ m1 r1' = some e1 ∧ putE δ m2 r2' = some e2 ∧ putE δ m3 r3' = some e3 ∧ P e1 e2 e3))))))) := ⟨id⟩
end
section
variable {Q : R → En → Prop} {δ : En} {T U : DT} {TA TB : DTA} {n : En → Prop} {rt : R → En → Prop} {bk ct : En → Prop}
instance {r : R} {cn : Str} {P : Prop} : Tag (∃ ns ds, r.dat δ = some (.obj cn ns ds) ∧ P) (B0 (B1 (B0 (B0 (B0 (B0 (∃ ns ds, r.dat δ = some (.obj cn ns ds) ∧ P))))))) := ⟨id⟩
end
section
variable {Q : R → En → Prop} {QB : Bool → En → Prop} {δ : En} {T U : DT} {C : DTT} {rt : R → En → Prop} {bk ct : En → Prop} {n : En → Prop} {rows : List (List D)} {Z : DE}
variable {yn : En → List (List D) → Prop} {ybk yct : En → List (List D) → Prop}
instance {h : Nat} {P : List D → Prop} : Tag (∃ r', δ[h]? = some (E.ow (.l r')) ∧ P r') (B0 (B1 (B0 (B1 (B0 (B1 (∃ r', δ[h]? = some (E.ow (.l r')) ∧ P r'))))))) := ⟨id⟩
end
section
variable {Q : R → En → Prop} {δ : En} {T U : DT}
instance {r u : R} {cn : Str} {P : Prop} : Tag (∃ ns ds ns' ds', r.dat δ = some (.obj cn ns ds) ∧ u.dat δ = some (.obj cn ns' ds') ∧ P) (B0 (B1 (B0 (B1 (B1 (B0 (∃ ns ds ns' ds', r.dat δ = some (.obj cn ns ds) ∧ u.dat δ = some (.obj cn ns' ds') ∧ P))))))) := ⟨id⟩
end
section
variable {Q : R → En → Prop} {δ : En} {T U : DT} {TA TB : DTA} {n : En → Prop} {rt : R → En → Prop} {bk ct : En → Prop}
instance {r : R} {cn f : Str} {P : D → Prop} : Tag (∃ ns ds d, r.dat δ = some (.obj cn ns ds) ∧ (ns.zip ds).lookup f = some d ∧ P d) (B0 (B1 (B0 (B1 (B1 (B1 (∃ ns ds d, r.dat δ = some (.obj cn ns ds) ∧ (ns.zip ds).lookup f = some d ∧ P d))))))) := ⟨id⟩
end
section
variable {Q : R → En → Prop} {δ : En} {T U : DT} {TA TB : DTA} {n : En → Prop} {rt : R → En → Prop} {bk ct : En → Prop}
instance {r : R} {cn m : Str} {P : Prop} : Tag (∃ ns ds, r.dat δ = some (.obj cn ns ds) ∧ (ns.zip ds).lookup m = none ∧ P) (B0 (B1 (B1 (B0 (B0 (B0 (∃ ns ds, r.dat δ = some (.obj cn ns ds) ∧ (ns.zip ds).lookup m = none ∧ P))))))) := ⟨id⟩
end
section
variable {Q : R → En → Prop} {δ : En} {T U : DT} {TA TB : DTA} {n : En → Prop} {rt : R → En → Prop} {bk ct : En → Prop}
instance {r : R} {cn : Str} {i : Nat} {P : Nat → List (Str × D) → D → Prop} : Tag (∃ i' fs d, R.rf i = .rf i' ∧ δ[i']? = some (E.ow (.o cn fs)) ∧ r.still δ = some d ∧ (∀ j, r ≠ .rf j) ∧ fs.length < 1000 ∧ P i' fs d) (B0 (B1 (B1 (B0 (B0 (B1 (∃ i' fs d, R.rf i = .rf i' ∧ δ[i']? = some (E.ow (.o cn fs)) ∧ r.still δ = some d ∧ (∀ j, r ≠ .rf j) ∧ fs.length < 1000 ∧ P i' fs d))))))) := ⟨id⟩
end
section
variable {Q : R → En → Prop} {δ : En} {T U : DT} {TA TB : DTA} {n : En → Prop} {rt : R → En → Prop} {bk ct : En → Prop}
instance {cn m : Str} {ns : List Str} {xs : List D} {P : List Str → List D → Prop} : Tag (∃ ns' xs', R.va (.obj cn ns xs) = .va (.obj cn ns' xs') ∧ (ns'.zip xs').lookup m = none ∧ P ns' xs') (B0 (B1 (B1 (B0 (B1 (B0 (∃ ns' xs', R.va (.obj cn ns xs) = .va (.obj cn ns' xs') ∧ (ns'.zip xs').lookup m = none ∧ P ns' xs'))))))) := ⟨id⟩
end
section
variable {Q : R → En → Prop} {QB : Bool → En → Prop} {QA : List R → En → Prop} {δ : En} {d : D} {c : Cn} {T U V : DT} {C C2 : DTT} {TA : DTA} {F : D → D → (R → Prop) → Prop} {F1 : D → (R → Prop) → Prop}
instance {r : R} {n : Tn} {P : Bool → Prop} : Tag (∃ k b, r.kn δ = some k ∧ isT n k = b ∧ P b) (B0 (B1 (B1 (B0 (B1 (B1 (∃ k b, r.kn δ = some k ∧ isT n k = b ∧ P b))))))) := ⟨id⟩
end
section
variable {Q : R → En → Prop} {QB : Bool → En → Prop} {QA : List R → En → Prop} {δ : En} {d : D} {c : Cn} {T U V : DT} {C C2 : DTT} {TA : DTA} {F : D → D → (R → Prop) → Prop} {F1 : D → (R → Prop) → Prop}
instance {r : R} {n m : Tn} {P : Bool → Prop} : Tag (∃ k b, r.kn δ = some k ∧ (isT n k || isT m k) = b ∧ P b) (B0 (B1 (B1 (B1 (B0 (B0 (∃ k b, r.kn δ = some k ∧ (isT n k || isT m k) = b ∧ P b))))))) := ⟨id⟩
end
section
variable {Q : R → En → Prop} {QB : Bool → En → Prop} {QA : List R → En → Prop} {δ : En} {d : D} {c : Cn} {T U V : DT} {C C2 : DTT} {TA : DTA} {F : D → D → (R → Prop) → Prop} {F1 : D → (R → Prop) → Prop}
variable {q : R → Prop}
variable {n : En → Prop} {rt : R → En → Prop} {bk ct : En → Prop} {S S2 : DS}
instance {r : R} {P : D → Prop} : Tag (∃ d, r.still δ = some d ∧ P d) (B0 (B1 (B1 (B1 (B0 (B1 (∃ d, r.still δ = some d ∧ P d))))))) := ⟨id⟩
end
section
variable {Q : R → En → Prop} {QB : Bool → En → Prop} {QA : List R → En → Prop} {δ : En} {d : D} {c : Cn} {T U V : DT} {C C2 : DTT} {TA : DTA} {F : D → D → (R → Prop) → Prop} {F1 : D → (R → Prop) → Prop}
variable {q : R → Prop}
instance {xs : List D} {i : Int} : Tag (ixF (.tup xs) (.int i) q) (B0 (B1 (B1 (B1 (B1 (B1 (ixF (.tup xs) (.int i) q))))))) := ⟨id⟩
end
section
variable {Q : R → En → Prop} {QB : Bool → En → Prop} {QA : List R → En → Prop} {δ : En} {d : D} {c : Cn} {T U V : DT} {C C2 : DTT} {TA : DTA} {F : D → D → (R → Prop) → Prop} {F1 : D → (R → Prop) → Prop}
variable {q : R → Prop}
variable {n : En → Prop} {rt : R → En → Prop} {bk ct : En → Prop} {S S2 : DS}
variable {N : En → Prop}
instance {m : Nat} {U : DGs} {ds : List D} : Tag (dTup m U (.tup ds) δ N) (B1 (B0 (B0 (B0 (B0 (B0 (dTup m U (.tup ds) δ N))))))) := ⟨id⟩
end
section
variable {Q : R → En → Prop} {δ : En} {T U : DT} {TA TB : DTA} {n : En → Prop} {rt : R → En → Prop} {bk ct : En → Prop}
instance {ro : R} {P : Prop} : Tag (∃ xs0, ro.dat δ = some (.lst xs0) ∧ P) (B1 (B0 (B0 (B0 (B1 (B1 (∃ xs0, ro.dat δ = some (.lst xs0) ∧ P))))))) := ⟨id⟩
end
section
variable {Q : R → En → Prop} {QB : Bool → En → Prop} {QA : List R → En → Prop} {δ : En} {d : D} {c : Cn} {T U V : DT} {C C2 : DTT} {TA : DTA} {F : D → D → (R → Prop) → Prop} {F1 : D → (R → Prop) → Prop}
instance {x y : R} {P : D → D → Prop} : Tag (∃ d e, x.dat δ = some d ∧ y.dat δ = some e ∧ P d e) (B1 (B0 (B0 (B1 (B0 (B0 (∃ d e, x.dat δ = some d ∧ y.dat δ = some e ∧ P d e))))))) := ⟨id⟩
end
section
variable {Q : R → En → Prop} {QB : Bool → En → Prop} {QA : List R → En → Prop} {δ : En} {d : D} {c : Cn} {T U V : DT} {C C2 : DTT} {TA : DTA} {F : D → D → (R → Prop) → Prop} {F1 : D → (R → Prop) → Prop}
variable {q : R → Prop}
variable {n : En → Prop} {rt : R → En → Prop} {bk ct : En → Prop} {S S2 : DS}
instance {r1 r2 : R} {m1 m2 : Bool} {P : E → E → Prop} : Tag (∃ r1' r2' e1 e2, [r1, r2] = [r1', r2'] ∧ putE δ m1 r1' = some e1 ∧ putE δ m2 r2' = some e2 ∧ P e1 e2) (B1 (B0 (B0 (B1 (B0 (B1 (∃ r1' r2' e1 e2, [r1, r2] = [r1', r2'] ∧ putE δ m1 r1' = some e1 ∧ putE δ m2 r2' = some e2 ∧ P e1 e2))))))) := ⟨id⟩
end
section
variable {Q : R → En → Prop} {QB : Bool → En → Prop} {QA : List R → En → Prop} {δ : En} {d : D} {c : Cn} {T U V : DT} {C C2 : DTT} {TA : DTA} {F : D → D → (R → Prop) → Prop} {F1 : D → (R → Prop) → Prop}
instance {r : R} {P : Bool → Prop} : Tag (∃ d b, r.dat δ = some d ∧ truD d = some b ∧ P b) (B1 (B0 (B0 (B1 (B1 (B0 (∃ d b, r.dat δ = some d ∧ truD d = some b ∧ P b))))))) := ⟨id⟩
end
section
variable {Q : R → En → Prop} {QB : Bool → En → Prop} {QA : List R → En → Prop} {δ : En} {d : D} {c : Cn} {T U V : DT} {C C2 : DTT} {TA : DTA} {F : D → D → (R → Prop) → Prop} {F1 : D → (R → Prop) → Prop}
variable {q : R → Prop}
variable {n : En → Prop} {rt : R → En → Prop} {bk ct : En → Prop} {S S2 : DS}
variable {N : En → Prop}
instance {i : Nat} {k : Int} {P : Nat → List D → Nat → Prop} : Tag (∃ i' xs k' j, R.rf i = .rf i' ∧ δ[i']? = some (E.ow (.l xs)) ∧ R.va (.int k) = .va (.int k') ∧ ixN xs.length k' = some j ∧ P i' xs j) (B1 (B0 (B0 (B1 (B1 (B1 (∃ i' xs k' j, R.rf i = .rf i' ∧ δ[i']? = some (E.ow (.l xs)) ∧ R.va (.int k) = .va (.int k') ∧ ixN xs.length k' = some j ∧ P i' xs j))))))) := ⟨id⟩
end
section
variable {Q : R → En → Prop} {QB : Bool → En → Prop} {QA : List R → En → Prop} {δ : En} {d : D} {c : Cn} {T U V : DT} {C C2 : DTT} {TA : DTA} {F : D → D → (R → Prop) → Prop} {F1 : D → (R → Prop) → Prop}
variable {q : R → Prop}
variable {n : En → Prop} {rt : R → En → Prop} {bk ct : En → Prop} {S S2 : DS}
instance {r : R} {ps : List Nat} {P : R → Prop} : Tag (∃ r', r.out δ = some r' ∧ (∀ i, r = .rf i → i ∉ ps) ∧ P r') (B1 (B0 (B1 (B0 (B0 (B0 (∃ r', r.out δ = some r' ∧ (∀ i, r = .rf i → i ∉ ps) ∧ P r'))))))) := ⟨id⟩
end
section
variable {Q : R → En → Prop} {QB : Bool → En → Prop} {QA : List R → En → Prop} {δ : En} {d : D} {c : Cn} {T U V : DT} {C C2 : DTT} {TA : DTA} {F : D → D → (R → Prop) → Prop} {F1 : D → (R → Prop) → Prop}
variable {q : R → Prop}
instance {i j : Int} : Tag (modF (.int i) (.int j) q) (B1 (B0 (B1 (B0 (B0 (B1 (modF (.int i) (.int j) q))))))) := ⟨id⟩
end
section
variable {Q : R → En → Prop} {QB : Bool → En → Prop} {QA : List R → En → Prop} {δ : En} {d : D} {c : Cn} {T U V : DT} {C C2 : DTT} {TA : DTA} {F : D → D → (R → Prop) → Prop} {F1 : D → (R → Prop) → Prop}
variable {q : R → Prop}
instance {i j : Int} : Tag (fdivF (.int i) (.int j) q) (B1 (B0 (B1 (B0 (B1 (B0 (fdivF (.int i) (.int j) q))))))) := ⟨id⟩
end
section
variable {Q : R → En → Prop} {QB : Bool → En → Prop} {QA : List R → En → Prop} {δ : En} {d : D} {c : Cn} {T U V : DT} {C C2 : DTT} {TA : DTA} {F : D → D → (R → Prop) → Prop} {F1 : D → (R → Prop) → Prop}
variable {q : R → Prop}
instance {i j : Int} : Tag (timesF (.int i) (.int j) q) (B1 (B0 (B1 (B0 (B1 (B1 (timesF (.int i) (.int j) q))))))) := ⟨id⟩
end
section
variable {Q : R → En → Prop} {QB : Bool → En → Prop} {QA : List R → En → Prop} {δ : En} {d : D} {c : Cn} {T U V : DT} {C C2 : DTT} {TA : DTA} {F : D → D → (R → Prop) → Prop} {F1 : D → (R → Prop) → Prop}
variable {q : R → Prop}
instance {i j : Int} : Tag (powF (.int i) (.int j) q) (B1 (B0 (B1 (B1 (B0 (B0 (powF (.int i) (.int j) q))))))) := ⟨id⟩
end
end L3
set_option Elab.async false
set_option linter.all false
set_option maxRecDepth 100000
set_option maxHeartbeats 4000000
namespace L3
open PySem PySem.Spec PyProof.Rows L2
def sp_law_open : DSp := fun δ Q => ∃ (ns : List Int), δ = [.va (.frz (ns.map D.int))] ∧ ∀ bg, IsBag bg → Q (.fr (.l bg)) δ

def sp_law_pick : DSp := fun δ Q => ∃ bg n, δ = [.ow (.l bg), .va (.int n)] ∧ IsBag bg ∧ 0 < n ∧ n < 1073741824 ∧ ∀ bg' d, IsBag bg' → 0 ≤ d → d < n → Q (.va (.int d)) [.ow (.l bg'), .va (.int n)]

def sp_law_sign : DSp := fun δ Q => ∃ bg, δ = [.ow (.l bg)] ∧ IsBag bg ∧ ∀ bg' s, IsBag bg' → (s = 1 ∨ s = -1) → Q (.va (.int s)) [.ow (.l bg')]

def sp_law_great : DSp := fun δ Q => ∃ bg, δ = [.ow (.l bg)] ∧ IsBag bg ∧ ∀ bg' d, IsBag bg' → 0 ≤ d → d < 1000000000 → Q (.va (.int d)) [.ow (.l bg')]

def sp_law_item : DSp := fun δ Q => ∃ bg, δ = [.ow (.l bg)] ∧ IsBag bg ∧ ∀ bg' x, IsBag bg' → x.natAbs < 1000000000 → Q (.va (.int x)) [.ow (.l bg')]

def sp_law_square : DSp := fun δ Q => ∃ (bg : List D) (w : Nat), δ = [.ow (.l bg), .va (.int (w : Nat))] ∧ IsBag bg ∧ 0 < w ∧ w ≤ 8 ∧ ∀ bg' (f : Nat → Nat → Int), IsBag bg' → (∀ i j, (f i j).natAbs < 1000000000) → Q (.fr (.l (matQ w w f))) [.ow (.l bg'), .va (.int (w : Nat))]

def sp_law_of : DSp := fun δ Q => ∃ bg e, δ = [.ow (.l bg), e] ∧ IsBag bg ∧ ((∃ xs : List D, (e = .va (.lst xs) ∨ e = .va (.tup xs) ∨ e = .ow (.l xs)) ∧ 0 < xs.length ∧ xs.length < 1073741824 ∧ ∀ bg' x, IsBag bg' → x ∈ xs → Q (.va x) [.ow (.l bg'), e]) ∨
  (∃ x : Str, e = .va (.str x) ∧ 0 < x.length ∧ x.length < 1000000 ∧ ∀ bg' c, IsBag bg' → c ∈ x.cps.toList → Q (.va (.str ⟨#[c]⟩)) [.ow (.l bg'), .va (.str x)]))

def sp_law_copy : DSp := fun δ Q => ∃ (h w : Nat) (f : Nat → Nat → Int), δ = [.va (.lst (matQ h w f))] ∧ h ≤ 1000000 ∧ w ≤ 1000000 ∧ Q (.fr (.l (matQ h w f))) δ
def spN_law_copy : DGp := fun δ Q => ∃ (h w : Nat) (f : Nat → Nat → Int), δ = [.va (.lst (matQ h w f))] ∧ h ≤ 1000000 ∧ w ≤ 1000000 ∧ Q ((List.range h).map fun y => rowI w (f y)) δ

def sp_inner : DSp := fun δ Q => ∃ (n : Nat) (f g : Nat → Int) (d e : D), δ = [.va d, .va e] ∧ RwD n f d ∧ RwD n g e ∧ n ≤ 1000 ∧ (∀ k, k < n → (f k).natAbs < 2 ^ 64) ∧ Q (.va (.int (sumZ ((List.range n).map fun k => f k * g k)))) δ

def sp_edge_row : DSp := fun δ Q => ∃ (w n : Nat) (f : Nat → Nat → Int) (d : D), δ = [.va d, .va (.int (n : Nat))] ∧ TbD w w f d ∧ n < w ∧ w ≤ 8 ∧ SmT w f ∧ Q (.fr (.l (rowI (n + 2) (edg n f)))) δ

def sp_characteristic : DSp := fun δ Q => ∃ (n : Nat) (f : Nat → Nat → Int) (d : D), δ = [.va d] ∧ TbD n n f d ∧ n ≤ 8 ∧ SmT n f ∧ Q (.fr (.l (rowI (n + 1) (cpl f n)))) δ

def sp_tone_row : DSp := fun δ Q => ∃ (n : Nat) (f : Nat → Nat → Int) (d : D), δ = [.va d] ∧ TbD n n f d ∧ n ≤ 8 ∧ SmT n f ∧ Q (.fr (.l (rowI (n + 1) (cpl f n)))) δ

def sp_law_mul : DSp := fun δ Q => ∃ (p q : Nat) (f g : Nat → Int), δ = [.va (.lst (rowI (p + 1) f)), .va (.lst (rowI (q + 1) g))] ∧ p ≤ 100 ∧ q ≤ 100 ∧ (∀ k, (g k).natAbs < 2 ^ 64) ∧ Q (.fr (.l (rowI (p + q + 1) (mulP p q f g)))) δ

def sp_law_known : DSp := fun δ Q => ∃ (bg : List D), δ = [.ow (.l bg)] ∧ IsBag bg ∧ ∀ bg' (n : Nat) (f : Nat → Nat → Int) (c : Nat → Int), IsBag bg' → 0 < n → n ≤ 8 → SmT n f → c 0 = 1 → (∀ x, horn c x (n + 1) = detZ n (charM f x)) → Q (.va (.tup [.lst (matQ n n f), .lst (rowI (n + 1) c)])) [.ow (.l bg')]

def sp_law_is_int : DSp := fun δ Q => ∃ d n, δ = [.va d] ∧ Lk n d ∧ Q (.va (.bl (intB d))) δ

def sp_law_numbers : DSp := fun δ Q => ∃ (N : Nat) (g : Nat → Int), δ = [.va (.lst (rowI N g)), .va (.int (N : Nat))] ∧ N ≤ 1000000 ∧ Q (.va (.bl true)) δ

def sp_law_at : DSp := fun δ Q => ∃ (n : Nat) (c : Nat → Int) (x : Int), δ = [.va (.lst (rowI n c)), .va (.int x)] ∧ n ≤ 1000 ∧ x.natAbs < 2 ^ 64 ∧ Q (.va (.int (horn c x n))) δ

def sp_law_det (N : Nat) : DSp := fun δ Q => ∃ (n : Nat) (f : Nat → Nat → Int), δ = [.va (.lst (matQ n n f))] ∧ n ≤ N ∧ n ≤ 8 ∧ SmT n f ∧ Q (.va (.int (detZ n f))) δ
def pv_law_det : Nat → DSp
  | 0 => fun _ _ => False
  | n + 1 => sp_law_det n

def sp_law_right : DSp := fun δ Q => ∃ (n : Nat) (f : Nat → Nat → Int) (c : Nat → Int) (st : Int), δ = [.va (.lst (rowI (n + 1) c)), .va (.lst (matQ n n f)), .va (.int st)] ∧ n ≤ 8 ∧ (∀ i j, i < n → j < n → (f i j).natAbs < 2 ^ 60) ∧ st.natAbs < 2 ^ 40 ∧ c 0 = 1 ∧ (∀ x, horn c x (n + 1) = detZ n (charM f x)) ∧ Q (.va (.bl true)) δ

def sp_law_flip : DSp := fun δ Q => ∃ (h w : Nat) (f : Nat → Nat → Int), δ = [.va (.lst (matQ h w f))] ∧ 0 < h ∧ h ≤ 1000000 ∧ w ≤ 1000000 ∧ Q (.fr (.l (matQ w h fun y x => f x y))) δ

def sp_law_tuples : DSp := fun δ Q => ∃ (h w : Nat) (f : Nat → Nat → Int), δ = [.va (.lst (matQ h w f))] ∧ h ≤ 1000000 ∧ w ≤ 1000000 ∧ Q (.va (tupQ h w f)) δ

def sp_law : DSp := fun δ Q => ∃ ns : List Int, δ = [.va (.frz (ns.map D.int))] ∧ ns.length ≤ 63 ∧ Q (.va (.bl true)) δ

end L3
set_option Elab.async false
set_option linter.all false
set_option maxRecDepth 100000
set_option maxHeartbeats 4000000
namespace L3
open PySem PySem.Spec PyProof.Rows L2
local macro_rules | `(tactic| walk_at "s") => `(tactic| first | with_reducible refine Stp.go ?_ | ((with_reducible refine Tag.go ?_); (first | ((with_reducible refine b0 ?_); (first | ((with_reducible refine b0 ?_); (first | ((with_reducible refine b0 ?_); (first | ((with_reducible refine b0 ?_); (first | ((with_reducible refine b0 ?_); (first | ((with_reducible refine b0 ?_); (first | (with_reducible refine i_zt ?_) | ((with_reducible apply i_zl); (next => rfl); (next => rfl)))) | ((with_reducible refine b1 ?_); (first | (with_reducible refine i_et ?_) | ((with_reducible apply i_el); (next => rfl)))))) | ((with_reducible refine b1 ?_); (first | ((with_reducible refine b0 ?_); (first | ((with_reducible apply f_ixL); (next => (rfl))) | ((with_reducible apply f_ixI); (next => first | assumption | omega); (next => first | assumption | (simp only [List.length_map] at *; omega))))) | ((with_reducible refine b1 ?_); (first | ((with_reducible apply e_da1); (next => rfl)) | ((with_reducible apply e_da2); (next => rfl); (next => rfl)) | ((with_reducible apply e_da3); (next => rfl); (next => rfl); (next => rfl)) | ((with_reducible apply e_dats); (next => (rfl))))))))) | ((with_reducible refine b1 ?_); (first | ((with_reducible refine b0 ?_); (first | ((with_reducible refine b0 ?_); (first | ((with_reducible apply e_st1); (next => rfl)) | ((with_reducible apply e_st2); (next => rfl); (next => rfl)) | ((with_reducible apply e_st3); (next => rfl); (next => rfl); (next => rfl)) | ((with_reducible apply e_st4); (next => rfl); (next => rfl); (next => rfl); (next => rfl)) | ((with_reducible apply e_st5); (next => rfl); (next => rfl); (next => rfl); (next => rfl); (next => rfl)) | ((with_reducible apply e_stills); (next => (simp only [stills, R.still, Option.bind_some, Option.map_some]; rfl)); (next => first | decide | simp [sizeLine])))) | ((with_reducible refine b1 ?_); (first | ((with_reducible apply e_pa1); (next => rfl); (next => simp [rfs])) | ((with_reducible apply e_pa2); (next => rfl); (next => rfl); (next => simp [rfs])) | ((with_reducible apply e_pa3); (next => rfl); (next => rfl); (next => rfl); (next => simp [rfs])) | ((with_reducible apply e_pa4); (next => rfl); (next => rfl); (next => rfl); (next => rfl); (next => simp [rfs])) | ((with_reducible apply e_pa5); (next => rfl); (next => rfl); (next => rfl); (next => rfl); (next => rfl); (next => simp [rfs])) | ((with_reducible apply e_pass); (next => rfl); (next => simp [rfs])) | ((with_reducible apply p_pass0); (next => rfl); (next => simp [rfs])) | ((with_reducible apply c_pass); (next => (simp only [pk, List.nil_append, List.cons_append, List.filterMap_cons, List.filterMap_nil, List.getElem?_cons_zero, List.getElem?_cons_succ]; rfl))))))) | ((with_reducible refine b1 ?_); (first | ((with_reducible refine b0 ?_); (first | ((with_reducible apply e_lx1); (next => rfl); (next => rfl)) | ((with_reducible apply e_lx2); (next => rfl); (next => rfl); (next => rfl)) | ((with_reducible apply e_lm2); (next => rfl); (next => rfl)))) | ((with_reducible refine b1 ?_); (first | ((with_reducible apply s_putN); (next => rfl); (next => (first | decide | simp [sizeLine])); (next => rfl)) | ((with_reducible apply c_len); (next => rfl)))))))))) | ((with_reducible refine b1 ?_); (first | ((with_reducible refine b0 ?_); (first | ((with_reducible refine b0 ?_); (first | ((with_reducible refine b0 ?_); (first | ((with_reducible apply e_tv); (next => (rfl))) | ((with_reducible apply e_tvo); (next => (rfl))))) | ((with_reducible refine b1 ?_); (first | ((with_reducible apply e_tvz); (next => (rfl))) | ((with_reducible apply e_tvzo); (next => (rfl)); (next => (rfl)); (next => ((try simp only [Int.reduceToNat, List.set_cons_succ, List.set_cons_zero, puts]); rfl))))))) | ((with_reducible refine b1 ?_); (first | ((with_reducible refine b0 ?_); (first | ((with_reducible apply e_dat1); (next => (rfl))))) | ((with_reducible refine b1 ?_); (first | ((with_reducible apply s_norm); (next => ((try simp only [Int.reduceToNat, List.set_cons_succ, List.set_cons_zero, puts]); rfl))))))))) | ((with_reducible refine b1 ?_); (first | ((with_reducible refine b0 ?_); (first | ((with_reducible refine b0 ?_); (first | ((with_reducible apply e_lm1); (next => rfl)))) | ((with_reducible refine b1 ?_); (first | ((with_reducible apply i_src); (next => rfl)))))) | ((with_reducible refine b1 ?_); (first | ((with_reducible refine b0 ?_); (first | ((with_reducible apply i_src2); (next => rfl); (next => rfl)))) | ((with_reducible refine b1 ?_); (first | ((with_reducible apply s_put3); (next => rfl); (next => rfl); (next => rfl)))))))))))) | ((with_reducible refine b1 ?_); (first | ((with_reducible refine b0 ?_); (first | ((with_reducible refine b0 ?_); (first | ((with_reducible refine b0 ?_); (first | ((with_reducible refine b0 ?_); (first | ((with_reducible apply p_obj); (next => rfl)))) | ((with_reducible refine b1 ?_); (first | ((with_reducible apply x_end); (next => rfl); (next => rfl); (next => rfl)))))) | ((with_reducible refine b1 ?_); (first | ((with_reducible refine b0 ?_); (first | ((with_reducible apply x_exf1); (next => rfl)))) | ((with_reducible refine b1 ?_); (first | ((with_reducible apply x_for0); (next => rfl)))))))) | ((with_reducible refine b1 ?_); (first | ((with_reducible refine b0 ?_); (first | ((with_reducible refine b0 ?_); (first | ((with_reducible apply g_lst); (next => (rfl))))) | ((with_reducible refine b1 ?_); (first | ((with_reducible apply y_back); (next => rfl)))))) | ((with_reducible refine b1 ?_); (first | ((with_reducible refine b0 ?_); (first | ((with_reducible apply p_obj2); (next => rfl); (next => rfl)))) | ((with_reducible refine b1 ?_); (first | ((with_reducible apply p_fld1); (next => rfl); (next => rfl)))))))))) | ((with_reducible refine b1 ?_); (first | ((with_reducible refine b0 ?_); (first | ((with_reducible refine b0 ?_); (first | ((with_reducible refine b0 ?_); (first | ((with_reducible apply p_meth1); (next => rfl); (next => rfl)))) | ((with_reducible refine b1 ?_); (first | ((with_reducible apply p_self); (next => rfl); (next => rfl); (next => (intro j h; cases h)); (next => ((repeat refine lt_put ?_); simp))))))) | ((with_reducible refine b1 ?_); (first | ((with_reducible refine b0 ?_); (first | ((with_reducible apply p_listm1); (next => rfl)))) | ((with_reducible refine b1 ?_); (first | ((with_reducible apply e_kn1); (next => (rfl)); (next => (simp only [isT, Bool.or_false, Bool.false_or, Bool.or_true, Bool.true_or]; rfl))))))))) | ((with_reducible refine b1 ?_); (first | ((with_reducible refine b0 ?_); (first | ((with_reducible refine b0 ?_); (first | ((with_reducible apply e_kn2); (next => (rfl)); (next => (simp only [isT, Bool.or_false, Bool.false_or, Bool.or_true, Bool.true_or]; rfl))))) | ((with_reducible refine b1 ?_); (first | ((with_reducible apply s_still); (next => (rfl))))))) | ((with_reducible refine b1 ?_); (first | ((with_reducible refine b0 ?_); (first | ((with_reducible apply s_aug); (next => (rfl))))) | ((with_reducible refine b1 ?_); (first | ((with_reducible apply f_ixT); (next => (rfl))))))))))))))) | ((with_reducible refine b1 ?_); (((with_reducible refine b0 ?_); (first | ((with_reducible refine b0 ?_); (first | ((with_reducible refine b0 ?_); (first | ((with_reducible refine b0 ?_); (first | ((with_reducible refine b0 ?_); (first | ((with_reducible apply g_tup); (next => (rfl))))) | ((with_reducible refine b1 ?_); (first | ((with_reducible apply f_isB); (next => ((try simp only [isNone]); rfl))))))) | ((with_reducible refine b1 ?_); (first | ((with_reducible refine b0 ?_); (first | ((with_reducible apply f_nisB); (next => ((try simp only [isNone, Bool.not_true, Bool.not_false]); rfl))))) | ((with_reducible refine b1 ?_); (first | ((with_reducible apply c_x0); (next => rfl)))))))) | ((with_reducible refine b1 ?_); (first | ((with_reducible refine b0 ?_); (first | ((with_reducible refine b0 ?_); (first | ((with_reducible apply e_dat2); (next => (rfl)); (next => (rfl))))) | ((with_reducible refine b1 ?_); (first | ((with_reducible apply s_put2); (next => (rfl)); (next => (rfl))))))) | ((with_reducible refine b1 ?_); (first | ((with_reducible refine b0 ?_); (first | ((with_reducible apply e_tru); (next => (rfl)); (next => (rfl))))) | ((with_reducible refine b1 ?_); (first | ((with_reducible apply g_at); (next => (rfl)); (next => (rfl))))))))))) | ((with_reducible refine b1 ?_); (first | ((with_reducible refine b0 ?_); (first | ((with_reducible refine b0 ?_); (first | ((with_reducible refine b0 ?_); (first | ((with_reducible apply s_out); (next => (rfl)); (next => (exact no_rf rfl))))) | ((with_reducible refine b1 ?_); (first | ((with_reducible apply f_mod); (next => (first | decide | omega))))))) | ((with_reducible refine b1 ?_); (first | ((with_reducible refine b0 ?_); (first | ((with_reducible apply f_fdiv); (next => ((unfold CDiv; first | decide | omega)))))) | ((with_reducible refine b1 ?_); (first | ((with_reducible apply f_times); (next => ((unfold CMul; first | decide | omega)))))))))) | ((with_reducible refine b1 ?_); (((with_reducible refine b0 ?_); (((with_reducible refine b0 ?_); (first | ((with_reducible apply f_pow); (next => (first | decide | (unfold CPow; omega)))))))))))))))))))
local macro_rules | `(tactic| walk_at "r") => `(tactic| repeat walk_at "s")
local macro_rules | `(tactic| walk_at "a") => `(tactic| repeat' (first | walk_at "s" | with_reducible refine br_p (fun _ => ?_) (fun _ => ?_) | with_reducible refine br_b (fun _ => ?_) (fun _ => ?_)))
local macro_rules | `(tactic| walk_at "b") => `(tactic| with_reducible refine br_p (fun hc => ?_) (fun hc => ?_))
local macro_rules | `(tactic| walk_at "x") => `(tactic| all_goals (try (exfalso; first | contradiction | omega | (simp only [List.length_map, Int.natCast_inj, Bool.false_eq_true, Bool.true_eq_false, Option.isSome_none, Option.isSome_some, decide_eq_true_eq, decide_eq_false_iff_not] at *; first | contradiction | omega))))

def T_law_open : DS := seq (sset 1 (tc (.int 1700233))) (seq (sfor [1, 2] (ilist (tslice (tv 0) (tno) (tpart (tc (.int 63))))) (dName 2) (sset 1 (tb2 modF (tcb intF (tac (tb2 plusF (tb2 plusF (tb2 timesF (tv 1) (tc (.int 60013))) (tb2 modF (tcb intF (tac (tv 2) (ta0))) (tc (.int 2147483587)))) (tc (.int 7717))) (ta0))) (tc (.int 2147483579))))) (sret [] (tlst (tac (tcb listF (tac (tslice (tv 0) (tno) (tpart (tc (.int 63)))) (ta0))) (tac (tc (.int 0)) (tac (tc (.int 0)) (tac (tv 1) (tac (tc (.int 0)) (ta0)))))))))
theorem cut63 (ns : List Int) : cutL (ns.map D.int) none (some 63) = (ns.take 63).map D.int := by
  unfold cutL
  rw [List.map_take, List.length_map]
  have h1 : HT.sIx ns.length 0 none = 0 := rfl
  rw [h1, List.drop_zero, Nat.sub_zero]
  have h2 : HT.sIx ns.length ns.length (some 63) = min 63 ns.length := by
    unfold HT.sIx
    simp
  rw [h2]
  by_cases h : 63 ≤ ns.length
  · rw [Nat.min_eq_left h]
  · rw [Nat.min_eq_right (by omega), List.take_of_length_le (by simp), List.take_of_length_le (by simp; omega)]
theorem pf_law_open : ∀ δ Q3, sp_law_open δ Q3 → δ.length = 1 → (∀ (i : Nat) c, δ[i]? = some (E.ow c) → i ∈ ([] : List Nat) ∧ i ∉ ([1, 2] : List Nat)) ∧ T_law_open { nx := fun δ' => Q3 (.va .non) (outs δ δ'), rt := fun r δ' => Q3 r (outs δ δ') } (δ ++ List.replicate 2 E.no) := by
  rintro δ Q3 ⟨ns, rfl, k⟩ hl
  refine ⟨own_by rfl, ?_⟩
  simp only [List.replicate, List.cons_append, List.nil_append]
  unfold T_law_open
  walk_at "a"
  refine for_by (fun _ δ => ∃ m e, δ = [.va (.frz (ns.map D.int)), .va (.int m), e] ∧ 0 ≤ m ∧ m < 2147483629) ⟨_, _, rfl, by omega, by omega⟩ (fun p hp => nomatch hp) (fun _ _ _ p hp => nomatch hp) ?_ ?_
  · rintro j x δ e ⟨m, e', rfl, m0, m1⟩
    rw [cut63] at e
    obtain ⟨i, _, rfl⟩ := map_some e
    walk_at "a"
    exact ⟨_, _, rfl, Int.emod_nonneg _ (by decide), by omega⟩
  · rintro δ ⟨m, e', rfl, m0, m1⟩
    walk_at "a"
    rw [cut63]
    exact k _ ⟨_, _, _, _, _, rfl, by rw [List.length_take]; omega, by omega, by omega, m0, m1⟩

-- slots [(0, 'script'), (1, 'blend'), (2, 'cell')]; stored [1, 2]

def T_law_pick : DS := seq (sasg (tb2 plusF (tb2 ixF (tv 0) (tc (.int 4))) (tc (.int 1))) (dSub (tv 0) (tc (.int 4)))) (seq (sif (tand (tt (tb2 (bF eqF) (tb2 ixF (tv 0) (tc (.int 2))) (tc (.int 0)))) (tt (tb2 (bF (iF (fun i j => decide (i < j)))) (tb2 ixF (tv 0) (tc (.int 1))) (tcb lenF (tac (tb2 ixF (tv 0) (tc (.int 0))) (ta0)))))) (seq (sset 3 (tcb intF (tac (tb2 ixF (tb2 ixF (tv 0) (tc (.int 0))) (tb2 ixF (tv 0) (tc (.int 1)))) (ta0)))) (seq (sasg (tb2 plusF (tb2 ixF (tv 0) (tc (.int 1))) (tc (.int 1))) (dSub (tv 0) (tc (.int 1)))) (sif (tt (tb2 (bF (iF (fun i j => decide (j ≤ i)))) (tv 3) (tb2 powF (tc (.int 10)) (tc (.int 18))))) (sasg (tv 3) (dSub (tv 0) (tc (.int 2)))) (sasg (tb2 modF (tcb intF (tac (tb2 plusF (tb2 plusF (tb2 timesF (tb2 ixF (tv 0) (tc (.int 3))) (tc (.int 52361))) (tb2 timesF (tb2 modF (tcb intF (tac (tv 3) (ta0))) (tc (.int 2147483563))) (tc (.int 30011)))) (tc (.int 211))) (ta0))) (tc (.int 2147483579))) (dSub (tv 0) (tc (.int 3))))))) (snext)) (seq (sif (tt (tb2 (bF (iF (fun i j => decide (j < i)))) (tb2 ixF (tv 0) (tc (.int 2))) (tc (.int 0)))) (seq (sset 4 (tb2 modF (tcb intF (tac (tb2 ixF (tv 0) (tc (.int 2))) (ta0))) (tv 1))) (seq (sasg (tb2 fdivF (tb2 ixF (tv 0) (tc (.int 2))) (tv 1)) (dSub (tv 0) (tc (.int 2)))) (sret [0] (tv 4)))) (snext)) (seq (sset 2 (tcb intF (tac (tb2 ixF (tv 0) (tc (.int 3))) (ta0)))) (seq (sasg (tb2 modF (tcb intF (tac (tb2 plusF (tb2 plusF (tb2 plusF (tb2 powF (tv 2) (tc (.int 3))) (tb2 timesF (tv 2) (tc (.int 41011)))) (tb2 timesF (tb2 ixF (tv 0) (tc (.int 4))) (tc (.int 1700027)))) (tc (.int 90001))) (ta0))) (tc (.int 2147483579))) (dSub (tv 0) (tc (.int 3)))) (sret [0] (tb2 modF (tcb intF (tac (tb2 plusF (tb2 fdivF (tb2 ixF (tv 0) (tc (.int 3))) (tc (.int 97))) (tb2 timesF (tb2 modF (tcb intF (tac (tb2 ixF (tv 0) (tc (.int 3))) (ta0))) (tc (.int 6841))) (tc (.int 71)))) (ta0))) (tv 1)))))))
theorem pf_law_pick : ∀ δ Q3, sp_law_pick δ Q3 → δ.length = 2 → (∀ (i : Nat) c, δ[i]? = some (E.ow c) → i ∈ ([0] : List Nat) ∧ i ∉ ([2, 3, 4] : List Nat)) ∧ T_law_pick { nx := fun δ' => Q3 (.va .non) (outs δ δ'), rt := fun r δ' => Q3 r (outs δ δ') } (δ ++ List.replicate 3 E.no) := by
  rintro δ Q3 ⟨bg, n, rfl, ⟨ns, i, r, m, c, rfl, h1, h2, h3, h4, h5⟩, n0, n1, k⟩ hl
  refine ⟨own_by rfl, ?_⟩
  simp only [List.replicate, List.cons_append, List.nil_append]
  unfold T_law_pick
  unfold bagD
  walk_at "a"
  all_goals
    refine k _ _ ⟨_, _, _, _, _, rfl, ?_, ?_, ?_, ?_, ?_⟩ ?_ ?_
  all_goals first
    | assumption
    | omega
    | exact Int.ediv_nonneg (by omega) (by omega)
    | exact Int.emod_nonneg _ (by omega)
    | exact Int.emod_lt_of_pos _ (by omega)
    | (simp only [Int.reduceToNat, Int.reducePow] at *; omega)

-- slots [(0, 'bag'), (1, 'limit'), (2, 'blend'), (3, 'cell'), (4, 'digit')]; stored [2, 3, 4]

def T_law_sign : DS := sret [0] (tif (tt (tb2 (bF eqF) (tcall sp_law_pick [true, false] (tac (tv 0) (tac (tc (.int 2)) (ta0)))) (tc (.int 0)))) (tc (.int 1)) (tb1 negF (tc (.int 1))))
theorem pf_law_sign : ∀ δ Q3, sp_law_sign δ Q3 → δ.length = 1 → (∀ (i : Nat) c, δ[i]? = some (E.ow c) → i ∈ ([0] : List Nat) ∧ i ∉ ([] : List Nat)) ∧ T_law_sign { nx := fun δ' => Q3 (.va .non) (outs δ δ'), rt := fun r δ' => Q3 r (outs δ δ') } (δ ++ List.replicate 0 E.no) := by
  rintro δ Q3 ⟨bg, rfl, hb, k⟩ hl
  refine ⟨own_by rfl, ?_⟩
  simp only [List.replicate, List.cons_append, List.nil_append]
  unfold T_law_sign
  walk_at "a"
  refine ⟨bg, _, rfl, hb, by omega, by omega, fun bg1 d hb1 d0 d1 => ?_⟩
  walk_at "a"
  · exact k _ _ hb1 (.inl rfl)
  · exact k _ _ hb1 (.inr rfl)

-- slots [(0, 'bag')]; stored []

def T_law_great : DS := seq (sset 1 (tcall sp_law_pick [true, false] (tac (tv 0) (tac (tb2 powF (tc (.int 10)) (tc (.int 5))) (ta0))))) (sret [0] (tb2 plusF (tb2 timesF (tv 1) (tb2 powF (tc (.int 10)) (tc (.int 4)))) (tcall sp_law_pick [true, false] (tac (tv 0) (tac (tb2 powF (tc (.int 10)) (tc (.int 4))) (ta0))))))
theorem pf_law_great : ∀ δ Q3, sp_law_great δ Q3 → δ.length = 1 → (∀ (i : Nat) c, δ[i]? = some (E.ow c) → i ∈ ([0] : List Nat) ∧ i ∉ ([1] : List Nat)) ∧ T_law_great { nx := fun δ' => Q3 (.va .non) (outs δ δ'), rt := fun r δ' => Q3 r (outs δ δ') } (δ ++ List.replicate 1 E.no) := by
  rintro δ Q3 ⟨bg, rfl, hb, k⟩ hl
  refine ⟨own_by rfl, ?_⟩
  simp only [List.replicate, List.cons_append, List.nil_append]
  unfold T_law_great
  walk_at "a"
  refine ⟨bg, _, rfl, hb, by simp, by simp, fun bg1 d hb1 d0 d1 => ?_⟩
  walk_at "a"
  refine f_times (.inr (by decide)) ?_
  walk_at "a"
  refine ⟨bg1, _, rfl, hb1, by simp, by simp, fun bg2 e hb2 e0 e1 => ?_⟩
  walk_at "a"
  simp only [Int.reduceToNat, Int.reducePow] at *
  exact k _ _ hb2 (by omega) (by omega)

-- slots [(0, 'bag'), (1, 'high')]; stored [1]

def T_law_item : DS := seq (sset 1 (tcall sp_law_pick [true, false] (tac (tv 0) (tac (tc (.int 16)) (ta0))))) (seq (sif (tt (tb2 (bF eqF) (tv 1) (tc (.int 15)))) (sret [0] (tb2 timesF (tcall sp_law_sign [true] (tac (tv 0) (ta0))) (tb2 fdivF (tcall sp_law_great [true] (tac (tv 0) (ta0))) (tc (.int 4))))) (snext)) (sret [0] (tb2 ixF (tlst (tac (tc (.int 0)) (tac (tc (.int 1)) (tac (tb1 negF (tc (.int 1))) (tac (tc (.int 2)) (tac (tc (.int 0)) (tac (tc (.int 3)) (tac (tb1 negF (tc (.int 2))) (tac (tc (.int 1)) (tac (tb1 negF (tc (.int 3))) (tac (tc (.int 0)) (tac (tc (.int 2)) (tac (tb1 negF (tc (.int 1))) (tac (tc (.int 1)) (tac (tc (.int 0)) (tac (tc (.int 3)) (ta0))))))))))))))))) (tv 1))))
theorem pf_law_item : ∀ δ Q3, sp_law_item δ Q3 → δ.length = 1 → (∀ (i : Nat) c, δ[i]? = some (E.ow c) → i ∈ ([0] : List Nat) ∧ i ∉ ([1] : List Nat)) ∧ T_law_item { nx := fun δ' => Q3 (.va .non) (outs δ δ'), rt := fun r δ' => Q3 r (outs δ δ') } (δ ++ List.replicate 1 E.no) := by
  rintro δ Q3 ⟨bg, rfl, hb, k⟩ hl
  refine ⟨own_by rfl, ?_⟩
  simp only [List.replicate, List.cons_append, List.nil_append]
  unfold T_law_item
  walk_at "a"
  refine ⟨bg, _, rfl, hb, by simp, by simp, fun bg1 d hb1 d0 d1 => ?_⟩
  walk_at "a"
  · refine ⟨bg1, rfl, hb1, fun bg2 s hb2 hs => ?_⟩
    walk_at "a"
    refine ⟨bg2, rfl, hb2, fun bg3 g hb3 g0 g1 => ?_⟩
    walk_at "a"
    exact k _ _ hb3 (by rcases hs with rfl | rfl <;> omega)
  · have h15 : d < 15 := by omega
    obtain ⟨x, hx, hb⟩ : ∃ x : Int, L2.atI ([D.int 0, .int 1, .int (-1), .int 2, .int 0, .int 3, .int (-2), .int 1, .int (-3), .int 0, .int 2, .int (-1), .int 1, .int 0, .int 3]) d = some (.int x) ∧ x.natAbs < 1000000000 := by
      have : d = 0 ∨ d = 1 ∨ d = 2 ∨ d = 3 ∨ d = 4 ∨ d = 5 ∨ d = 6 ∨ d = 7 ∨ d = 8 ∨ d = 9 ∨ d = 10 ∨ d = 11 ∨ d = 12 ∨ d = 13 ∨ d = 14 := by omega
      rcases this with rfl | rfl | rfl | rfl | rfl | rfl | rfl | rfl | rfl | rfl | rfl | rfl | rfl | rfl | rfl
      all_goals exact ⟨_, rfl, by decide⟩
    refine f_ixL hx ?_
    walk_at "a"
    exact k _ _ hb1 hb

-- slots [(0, 'bag'), (1, 'way')]; stored [1]

def T_law_square : DS := seq (spar2 2 3 true false (tac (tcomp (irng1 (tv 1)) (dName 4) (tyes) (tcomp (irng1 (tv 1)) (dName 5) (tyes) (tcall sp_law_item [true] (tac (tv 0) (ta0))) [5]) [4]) (tac (tcall sp_law_pick [true, false] (tac (tv 0) (tac (tc (.int 8)) (ta0)))) (ta0)))) (seq (sif (tt (tb2 (bF eqF) (tv 3) (tc (.int 6)))) (sasg (tcb listF (tac (tb2 ixF (tv 2) (tb2 minusF (tv 1) (tc (.int 1)))) (ta0))) (dSub (tv 2) (tc (.int 0)))) (snext)) (seq (sif (tt (tb2 (bF eqF) (tv 3) (tc (.int 7)))) (ssetO 2 (tcomp (irng1 (tv 1)) (dName 4) (tyes) (tcomp (irng1 (tv 1)) (dName 5) (tyes) (tc (.int 0)) [5]) [4])) (snext)) (sret [0] (tv 2))))
theorem pf_law_square : ∀ δ Q3, sp_law_square δ Q3 → δ.length = 2 → (∀ (i : Nat) c, δ[i]? = some (E.ow c) → i ∈ ([0] : List Nat) ∧ i ∉ ([2, 3] : List Nat)) ∧ T_law_square { nx := fun δ' => Q3 (.va .non) (outs δ δ'), rt := fun r δ' => Q3 r (outs δ δ') } (δ ++ List.replicate 4 E.no) := by
  rintro δ Q3 ⟨bg, w, rfl, hb, w0, w8, k⟩ hl
  refine ⟨own_by rfl, ?_⟩
  simp only [List.replicate, List.cons_append, List.nil_append]
  unfold T_law_square
  walk_at "a"
  refine ⟨by omega, ?_⟩
  refine comp_by (fun i acc δ => ∃ (bg' : List D) (f : Nat → Nat → Int), δ = [.ow (.l bg'), .va (.int (w : Nat)), .no, .no, .no, .no] ∧ IsBag bg' ∧ acc = matQ i w f ∧ ∀ i j, (f i j).natAbs < 1000000000) ⟨bg, fun _ _ => 0, rfl, hb, rfl, fun _ _ => (by decide : (0 : Int).natAbs < 1000000000)⟩ rfl (fun p hp => nomatch hp) (fun _ _ _ _ p hp => nomatch hp) (fun i y acc δ e h => ?_) (fun acc δ h => ?_)
  · obtain ⟨bg1, f, rfl, hb1, rfl, hf⟩ := h
    obtain ⟨hi, rfl⟩ := rangeD_get e
    rw [Int.toNat_natCast] at hi
    walk_at "a"
    refine ⟨by omega, ?_⟩
    refine comp_by (fun j acc δ => ∃ (bg' : List D) (g : Nat → Int), δ = [.ow (.l bg'), .va (.int (w : Nat)), .no, .no, .va (.int (0 + (i : Int))), .no] ∧ IsBag bg' ∧ acc = rowI j g ∧ ∀ j, (g j).natAbs < 1000000000) ⟨bg1, fun _ => 0, rfl, hb1, rfl, fun _ => (by decide : (0 : Int).natAbs < 1000000000)⟩ rfl (fun p hp => nomatch hp) (fun _ _ _ _ p hp => nomatch hp) (fun j y acc δ e h => ?_) (fun acc δ h => ?_)
    · obtain ⟨bg2, g, rfl, hb2, rfl, hg⟩ := h
      obtain ⟨hj, rfl⟩ := rangeD_get e
      rw [Int.toNat_natCast] at hj
      walk_at "a"
      refine ⟨bg2, rfl, hb2, fun bg3 x hb3 hx => ?_⟩
      walk_at "a"
      refine ⟨by rw [rowI_len]; unfold sizeLine; omega, bg3, _, rfl, hb3, rowI_snoc, fun q => ?_⟩
      split
      · exact hx
      · exact hg q
    · obtain ⟨bg2, g, rfl, hb2, rfl, hg⟩ := h
      rw [rangeD_len, Int.toNat_natCast]
      walk_at "a"
      refine ⟨by rw [matQ_len]; unfold sizeLine; omega, bg2, _, rfl, hb2, matQ_snoc, fun p q => ?_⟩
      split
      · exact hg q
      · exact hf p q
  · obtain ⟨bg1, f, rfl, hb1, rfl, hf⟩ := h
    rw [rangeD_len, Int.toNat_natCast]
    walk_at "a"
    refine ⟨bg1, _, rfl, hb1, by simp, by simp, fun bg2 d hb2 d0 d1 => ?_⟩
    walk_at "a"
    · refine f_ixL (atI_get (i := (w : Int) - 1) (by omega) (by rw [show ((w : Int) - 1).toNat = w - 1 from by omega]; exact matQ_at (by omega))) ?_
      walk_at "a"
      refine g_at rfl (by rw [matQ_len]; exact ixN_zero w0) ?_
      rw [matQ_setI]
      walk_at "a"
      · exfalso
        omega
      · refine k _ _ hb2 fun p q => ?_
        split
        · exact hf _ q
        · exact hf p q
    · refine ⟨by omega, ?_⟩
      refine comp_map (fun y => .lst (rowI w fun _ => 0)) rfl (fun p hp => nomatch hp) (fun p hp => nomatch hp) (fun i y e => ?_) ?_
      · walk_at "a"
        refine ⟨by omega, ?_⟩
        refine comp_map (fun y => .int 0) rfl (fun p hp => nomatch hp) (fun p hp => nomatch hp) (fun j y e => ?_) ?_
        · walk_at "a"
          exact m_end2 (by obtain ⟨h, _⟩ := rangeD_get e; unfold sizeLine; omega) rfl rfl
        · rw [rangeD_len, Int.toNat_natCast]
          walk_at "a"
          exact m_end2 (by obtain ⟨h, _⟩ := rangeD_get e; unfold sizeLine; omega) rfl rfl
      · rw [rangeD_len, Int.toNat_natCast]
        walk_at "a"
        exact k _ (fun _ _ => 0) hb2 fun _ _ => (by decide : (0 : Int).natAbs < 1000000000)
    · exact k _ _ hb2 hf

-- slots [(0, 'bag'), (1, 'wide'), (2, 'told'), (3, 'way'), (4, 'i'), (5, 'j')]; stored [2, 3]

def T_law_of : DS := sret [0, 1] (tb2 ixF (tv 1) (tcall sp_law_pick [true, false] (tac (tv 0) (tac (tcb lenF (tac (tv 1) (ta0))) (ta0)))))
theorem pf_law_of : ∀ δ Q3, sp_law_of δ Q3 → δ.length = 2 → (∀ (i : Nat) c, δ[i]? = some (E.ow c) → i ∈ ([0, 1] : List Nat) ∧ i ∉ ([] : List Nat)) ∧ T_law_of { nx := fun δ' => Q3 (.va .non) (outs δ δ'), rt := fun r δ' => Q3 r (outs δ δ') } (δ ++ List.replicate 0 E.no) := by
  rintro δ Q3 ⟨bg, e, rfl, hb, ⟨xs, he, h0, h1, k⟩ | ⟨x, rfl, h0, h1, k⟩⟩ hl
  · rcases he with rfl | rfl | rfl
    all_goals
      refine ⟨own_by rfl, ?_⟩
      simp only [List.replicate, List.cons_append, List.nil_append]
      unfold T_law_of
      walk_at "a"
      refine ⟨bg, _, rfl, hb, by omega, by omega, fun bg' d hb' d0 d1 => ?_⟩
      have hd : d.toNat < xs.length := by omega
      walk_at "a"
      first
        | refine f_ixL (atI_get d0 (List.getElem?_eq_getElem hd)) ?_
        | refine f_ixT (atI_get d0 (List.getElem?_eq_getElem hd)) ?_
      walk_at "a"
      exact k _ _ hb' (List.getElem_mem hd)
  · refine ⟨own_by rfl, ?_⟩
    simp only [List.replicate, List.cons_append, List.nil_append]
    unfold T_law_of
    walk_at "a"
    refine f_lenS (by unfold sizeLine; omega) ?_
    walk_at "a"
    refine ⟨bg, _, rfl, hb, by omega, by omega, fun bg' d hb' d0 d1 => ?_⟩
    have hd : d.toNat < x.cps.toList.length := by
      have : x.cps.toList.length = x.length := by simp [Str.length]
      omega
    walk_at "a"
    refine ⟨by unfold sizeLine; omega, _, atI_get d0 (List.getElem?_eq_getElem hd), ?_⟩
    walk_at "a"
    exact k _ _ hb' (List.getElem_mem hd)

-- slots [(0, 'bag'), (1, 'things')]; stored []

def TN_law_copy : DGr := tgr (ilist (tv 0)) (dName 1) (tyes) (tcb listF (tac (tv 1) (ta0))) [1]
def T_law_copy : DS := sret [] (tcomp (ilist (tv 0)) (dName 1) (tyes) (tcb listF (tac (tv 1) (ta0))) [1])
theorem pf_law_copy : ∀ δ Q3, sp_law_copy δ Q3 → δ.length = 1 → (∀ (i : Nat) c, δ[i]? = some (E.ow c) → i ∈ ([] : List Nat) ∧ i ∉ ([] : List Nat)) ∧ T_law_copy { nx := fun δ' => Q3 (.va .non) (outs δ δ'), rt := fun r δ' => Q3 r (outs δ δ') } (δ ++ List.replicate 1 E.no) := by
  rintro δ Q3 ⟨h, w, f, rfl, h1, w1, k⟩ hl
  refine ⟨own_by rfl, ?_⟩
  simp only [List.replicate, List.cons_append, List.nil_append]
  unfold T_law_copy
  walk_at "a"
  refine comp_map (fun y => .lst (rowI w (f y))) rfl (fun p hp => nomatch hp) (fun p hp => nomatch hp) (fun j z e => ?_) ?_
  · obtain ⟨hj, rfl⟩ := matQ_get e
    walk_at "a"
    exact m_end2 (by unfold sizeLine; omega) rfl rfl
  · rw [matQ_len]
    walk_at "a"
    exact k
theorem pfN_law_copy : ∀ δ Q3, spN_law_copy δ Q3 → δ.length = 1 → (∀ (i : Nat) c, δ[i]? ≠ some (E.ow c)) ∧ TN_law_copy (δ ++ List.replicate 1 E.no) fun rows _ => Q3 rows δ := by
  rintro δ Q3 ⟨h, w, f, rfl, h1, w1, k⟩ hl
  refine ⟨fun i c => by rcases i with _ | i <;> simp, ?_⟩
  simp only [List.replicate, List.cons_append, List.nil_append]
  unfold TN_law_copy
  walk_at "a"
  refine gr_map (fun y => rowI w (f y)) rfl (fun p hp => nomatch hp) (fun p hp => nomatch hp) (fun j z e => ?_) ?_
  · obtain ⟨hj, rfl⟩ := matQ_get e
    walk_at "a"
    refine ⟨by rw [List.length_map, List.length_range]; unfold sizeLine; omega, rfl, ?_⟩
    rw [List.range_succ, List.map_append]
    rfl
  · rw [matQ_len]
    exact k

-- slots [(0, 'table'), (1, 'lane')]; stored []

def T_inner : DS := sret [] (tcb sumF (tac (tcomp (izipM (tv 0) (tv 1)) (dTup 2 (dCons (dName 2) (dCons (dName 3) (dNil)))) (tyes) (tb2 timesF (tv 2) (tv 3)) [2, 3]) (ta0)))
theorem pf_inner : ∀ δ Q3, sp_inner δ Q3 → δ.length = 2 → (∀ (i : Nat) c, δ[i]? = some (E.ow c) → i ∈ ([] : List Nat) ∧ i ∉ ([] : List Nat)) ∧ T_inner { nx := fun δ' => Q3 (.va .non) (outs δ δ'), rt := fun r δ' => Q3 r (outs δ δ') } (δ ++ List.replicate 2 E.no) := by
  rintro δ Q3 ⟨n, f, g, d, e, rfl, hd, he, n1, hf, kk⟩ hl
  refine ⟨own_by rfl, ?_⟩
  simp only [List.replicate, List.cons_append, List.nil_append]
  unfold T_inner
  walk_at "a"
  refine ⟨d, e, rowI n f, rowI n g, rfl, rfl, by rcases hd with rfl | rfl <;> rfl, by rcases he with rfl | rfl <;> rfl, ?_⟩
  refine comp_map (fun k => .int (f k * g k)) rfl (fun p hp => nomatch hp) (fun p hp => nomatch hp) (fun j z e => ?_) ?_
  · obtain ⟨x, y, e1, e2, rfl⟩ := zipD_get e
    obtain ⟨hj, rfl⟩ := rowI_get e1
    obtain ⟨_, rfl⟩ := rowI_get e2
    walk_at "a"
    refine f_times (.inl (sm64 (hf j hj))) ?_
    walk_at "a"
    exact m_end2 (by unfold sizeLine; omega) rfl rfl
  · walk_at "a"
    refine ⟨(List.range n).map fun k => f k * g k, by rw [List.map_map, zip_rowI] <;> rfl, ?_⟩
    rw [sumZ_sum]
    walk_at "a"
    exact kk

-- slots [(0, 'one'), (1, 'other'), (2, 'x'), (3, 'y')]; stored []

def T_edge_row : DS := seq (sset 2 (tcomp (iany (tslice (tv 0) (tno) (tpart (tv 1)))) (dName 7) (tyes) (tslice (tv 7) (tno) (tpart (tv 1))) [7])) (seq (sset 3 (tslice (tb2 ixF (tv 0) (tv 1)) (tno) (tpart (tv 1)))) (seq (sset 4 (tcomp (iany (tslice (tv 0) (tno) (tpart (tv 1)))) (dName 7) (tyes) (tb2 ixF (tv 7) (tv 1)) [7])) (seq (ssetO 5 (tlst (tac (tc (.int 1)) (tac (tb1 negF (tb2 ixF (tb2 ixF (tv 0) (tv 1)) (tv 1))) (ta0))))) (seq (sfor [4, 6] (irng1 (tv 1)) (dName 6) (seq (sexpr (tlm appF (tv 5) (tac (tb1 negF (tcall sp_inner [false, false] (tac (tv 3) (tac (tv 4) (ta0))))) (ta0)))) (sset 4 (tcomp (ilist (tv 2)) (dName 7) (tyes) (tcall sp_inner [false, false] (tac (tv 7) (tac (tv 4) (ta0)))) [7])))) (sret [] (tv 5))))))
theorem pf_edge_row : ∀ δ Q3, sp_edge_row δ Q3 → δ.length = 2 → (∀ (i : Nat) c, δ[i]? = some (E.ow c) → i ∈ ([] : List Nat) ∧ i ∉ ([2, 3, 4, 5, 6] : List Nat)) ∧ T_edge_row { nx := fun δ' => Q3 (.va .non) (outs δ δ'), rt := fun r δ' => Q3 r (outs δ δ') } (δ ++ List.replicate 6 E.no) := by
  rintro δ Q3 ⟨w, n, f, d, rfl, hd, hn, w8, hs, k⟩ hl
  refine ⟨own_by rfl, ?_⟩
  simp only [List.replicate, List.cons_append, List.nil_append]
  unfold T_edge_row
  refine seqJ (fun δ => ∃ bs : List D, δ = [.va d, .va (.int (n : Nat)), .va (.lst bs), .no, .no, .no, .no, .no] ∧ bs.length = n ∧ ∀ (i : Nat) z, bs[i]? = some z → RwD n (f i) z) (fun mm hm => ?_) ?_
  · rcases hd with rfl | rfl
    · walk_at "a"
      refine i_anyL ?_
      walk_at "a"
      rw [cut_take, matQ_take (by omega)]
      walk_at "a"
      refine comp_map (fun y => .lst (rowI n (f y))) rfl (fun p hp => nomatch hp) (fun p hp => nomatch hp) (fun j z e => ?_) ?_
      · obtain ⟨hj, rfl⟩ := matQ_get e
        walk_at "a"
        rw [cut_take, rowI_take (by omega)]
        walk_at "a"
        exact m_end2 (by unfold sizeLine; omega) rfl rfl
      · rw [matQ_len]
        walk_at "a"
        refine hm _ ⟨_, rfl, by simp, fun i z e => ?_⟩
        obtain ⟨_, rfl⟩ := matQ_get (f := f) e
        exact .inl rfl
    · rw [tupQ_eq]
      walk_at "a"
      refine i_anyT ?_
      walk_at "a"
      rw [cut_take, tupL_take (by omega)]
      walk_at "a"
      refine comp_map (fun y => .tup (rowI n (f y))) rfl (fun p hp => nomatch hp) (fun p hp => nomatch hp) (fun j z e => ?_) ?_
      · obtain ⟨hj, rfl⟩ := tupL_get e
        walk_at "a"
        rw [cut_take, rowI_take (by omega)]
        walk_at "a"
        exact m_end2 (by unfold sizeLine; omega) rfl rfl
      · rw [tupL_len]
        walk_at "a"
        refine hm _ ⟨_, rfl, by simp, fun i z e => ?_⟩
        obtain ⟨_, rfl⟩ := tupL_get (f := f) e
        exact .inr rfl
  rintro δ ⟨bs, rfl, bl, hbs⟩
  refine seqJ (fun δ => ∃ ed : D, δ = [.va d, .va (.int (n : Nat)), .va (.lst bs), .va ed, .no, .no, .no, .no] ∧ RwD n (f n) ed) (fun mm hm => ?_) ?_
  · rcases hd with rfl | rfl
    · walk_at "a"
      refine f_ixL (atI_get (Int.natCast_nonneg _) (matQ_at hn)) ?_
      walk_at "a"
      rw [cut_take, rowI_take (by omega)]
      walk_at "a"
      exact hm _ ⟨_, rfl, .inl rfl⟩
    · rw [tupQ_eq]
      walk_at "a"
      refine f_ixT (atI_get (Int.natCast_nonneg _) (tupL_at hn)) ?_
      walk_at "a"
      rw [cut_take, rowI_take (by omega)]
      walk_at "a"
      exact hm _ ⟨_, rfl, .inr rfl⟩
  rintro δ ⟨ed, rfl, hed⟩
  refine seqJ (fun δ => δ = [.va d, .va (.int (n : Nat)), .va (.lst bs), .va ed, .va (.lst (rowI n fun i => f i n)), .no, .no, .no]) (fun mm hm => ?_) ?_
  · rcases hd with rfl | rfl
    · walk_at "a"
      refine i_anyL ?_
      walk_at "a"
      rw [cut_take, matQ_take (by omega)]
      walk_at "a"
      refine comp_map (fun y => .int (f y n)) rfl (fun p hp => nomatch hp) (fun p hp => nomatch hp) (fun j z e => ?_) ?_
      · obtain ⟨hj, rfl⟩ := matQ_get e
        walk_at "a"
        refine f_ixL (atI_get (Int.natCast_nonneg _) (rowI_at hn)) ?_
        walk_at "a"
        exact m_end2 (by unfold sizeLine; omega) rfl rfl
      · rw [matQ_len]
        walk_at "a"
        exact hm _ rfl
    · rw [tupQ_eq]
      walk_at "a"
      refine i_anyT ?_
      walk_at "a"
      rw [cut_take, tupL_take (by omega)]
      walk_at "a"
      refine comp_map (fun y => .int (f y n)) rfl (fun p hp => nomatch hp) (fun p hp => nomatch hp) (fun j z e => ?_) ?_
      · obtain ⟨hj, rfl⟩ := tupL_get e
        walk_at "a"
        refine f_ixT (atI_get (Int.natCast_nonneg _) (rowI_at hn)) ?_
        walk_at "a"
        exact m_end2 (by unfold sizeLine; omega) rfl rfl
      · rw [tupL_len]
        walk_at "a"
        exact hm _ rfl
  rintro δ rfl
  refine seqJ (fun δ => δ = [.va d, .va (.int (n : Nat)), .va (.lst bs), .va ed, .va (.lst (rowI n fun i => f i n)), .ow (.l (rowI 2 (edg n f))), .no, .no]) (fun mm hm => ?_) ?_
  · rcases hd with rfl | rfl
    · walk_at "a"
      refine f_ixL (atI_get (Int.natCast_nonneg _) (matQ_at hn)) ?_
      walk_at "a"
      refine f_ixL (atI_get (Int.natCast_nonneg _) (rowI_at hn)) ?_
      walk_at "a"
      exact hm _ rfl
    · rw [tupQ_eq]
      walk_at "a"
      refine f_ixT (atI_get (Int.natCast_nonneg _) (tupL_at hn)) ?_
      walk_at "a"
      refine f_ixT (atI_get (Int.natCast_nonneg _) (rowI_at hn)) ?_
      walk_at "a"
      exact hm _ rfl
  rintro δ rfl
  walk_at "a"
  refine ⟨by omega, ?_⟩
  refine for_by (fun j δ => ∃ e6, δ = [.va d, .va (.int (n : Nat)), .va (.lst bs), .va ed, .va (.lst (rowI n (colP n f (fun i => f i n) j))), .ow (.l (rowI (j + 2) (edg n f))), e6, .no]) ⟨_, rfl⟩ (fun p hp => nomatch hp) (fun _ _ _ p hp => nomatch hp) ?_ ?_
  · rintro j y δ e ⟨e6, rfl⟩
    obtain ⟨hj, rfl⟩ := rangeD_get e
    rw [Int.toNat_natCast] at hj
    walk_at "a"
    refine ⟨n, f n, colP n f (fun i => f i n) j, ed, _, rfl, hed, .inl rfl, by omega, fun k hk => hs n k (by omega) (by omega), ?_⟩
    walk_at "a"
    refine f_app (by rw [rowI_len]; unfold sizeLine; omega) ?_
    walk_at "a"
    refine comp_map (fun i => .int (colP n f (fun i => f i n) (j + 1) i)) rfl (fun p hp => nomatch hp) (fun p hp => nomatch hp) (fun i z e => ?_) ?_
    · have hi := (List.getElem?_eq_some_iff.mp e).1
      walk_at "a"
      refine ⟨n, f i, colP n f (fun i => f i n) j, z, _, rfl, hbs i z e, .inl rfl, by omega, fun k hk => hs i k (by omega) (by omega), ?_⟩
      walk_at "a"
      exact m_end2 (by unfold sizeLine; omega) rfl rfl
    · rw [bl]
      walk_at "a"
      have er : rowI (j + 1 + 2) (edg n f) = rowI (j + 2) (edg n f) ++ [.int (edg n f (j + 2))] := by
        unfold rowI
        rw [show j + 1 + 2 = (j + 2) + 1 from rfl, List.range_succ, List.map_append]
        rfl
      rw [er]
      exact ⟨_, rfl⟩
  · rintro δ ⟨e6, rfl⟩
    rw [rangeD_len, Int.toNat_natCast]
    walk_at "a"
    exact k

-- slots [(0, 'rows'), (1, 'size'), (2, 'block'), (3, 'edge'), (4, 'column'), (5, 'found'), (6, 'power'), (7, 'row')]; stored [2, 3, 4, 5, 6]

def T_characteristic : DS := seq (ssetO 1 (tlst (tac (tc (.int 1)) (ta0)))) (seq (sfor [1, 2, 3, 4, 5] (irng1 (tcb lenF (tac (tv 0) (ta0)))) (dName 2) (seq (sset 3 (tcall sp_edge_row [false, false] (tac (tv 0) (tac (tv 2) (ta0))))) (seq (ssetO 4 (tlst (ta0))) (seq (sfor [5] (irng1 (tb2 plusF (tv 2) (tc (.int 2)))) (dName 5) (sexpr (tlm appF (tv 4) (tac (tcb sumF (tac (tcomp (irng1 (tb2 plusF (tcb min2F (tac (tv 5) (tac (tv 2) (ta0)))) (tc (.int 1)))) (dName 6) (tyes) (tb2 timesWF (tb2 ixF (tv 3) (tb2 minusF (tv 5) (tv 6))) (tb2 ixF (tv 1) (tv 6))) [6]) (ta0))) (ta0))))) (smove 1 4))))) (sret [] (tv 1)))
theorem pf_characteristic : ∀ δ Q3, sp_characteristic δ Q3 → δ.length = 1 → (∀ (i : Nat) c, δ[i]? = some (E.ow c) → i ∈ ([] : List Nat) ∧ i ∉ ([1, 2, 3, 4, 5] : List Nat)) ∧ T_characteristic { nx := fun δ' => Q3 (.va .non) (outs δ δ'), rt := fun r δ' => Q3 r (outs δ δ') } (δ ++ List.replicate 6 E.no) := by
  rintro δ Q3 ⟨n, f, d, rfl, hd, n8, hs, k⟩ hl
  refine ⟨own_by rfl, ?_⟩
  simp only [List.replicate, List.cons_append, List.nil_append]
  unfold T_characteristic
  walk_at "a"
  have hlen : ∀ q, q (R.va (.int (n : Int))) → lenF [d] q := fun q h => by
    rcases hd with rfl | rfl
    · walk_at "a"
      rw [matQ_len]
      exact h
    · rw [tupQ_eq]
      walk_at "a"
      rw [tupL_len]
      exact h
  refine hlen _ ⟨_, rfl, by omega, ?_⟩
  refine for_by (fun j δ => ∃ e2 e3 e4 e5, δ = [.va d, .ow (.l (rowI (j + 1) (cpl f j))), e2, e3, e4, e5, .no]) ⟨_, _, _, _, rfl⟩ (fun p hp => nomatch hp) (fun _ _ _ p hp => nomatch hp) ?_ ?_
  · rintro j y δ e ⟨e2, e3, e4, e5, rfl⟩
    obtain ⟨hj, rfl⟩ := rangeD_get e
    rw [Int.toNat_natCast] at hj
    walk_at "a"
    refine ⟨n, j, f, d, by simp, hd, hj, n8, hs, ?_⟩
    walk_at "a"
    refine ⟨by omega, ?_⟩
    rw [Int.zero_add]
    refine for_by (fun a δ => ∃ e5, δ = [.va d, .ow (.l (rowI (j + 1) (cpl f j))), .va (.int (j : Nat)), .va (.lst (rowI (j + 2) (edg j f))), .ow (.l (rowI a (cpl f (j + 1)))), e5, .no]) ⟨_, rfl⟩ (fun p hp => nomatch hp) (fun _ _ _ p hp => nomatch hp) ?_ ?_
    · rintro a y δ e ⟨e5, rfl⟩
      obtain ⟨ha, rfl⟩ := rangeD_get e
      have ha : a < j + 2 := by omega
      walk_at "a"
      have em : (if (j : Int) < 0 + (a : Nat) then (j : Int) else 0 + (a : Nat)) + 1 = ((min a j + 1 : Nat) : Int) := by split <;> omega
      rw [em]
      refine ⟨by omega, ?_⟩
      refine comp_map (fun k => .int (edg j f (a - k) * cpl f j k)) rfl (fun p hp => nomatch hp) (fun p hp => nomatch hp) (fun k z e => ?_) ?_
      · obtain ⟨hk, rfl⟩ := rangeD_get e
        rw [Int.toNat_natCast] at hk
        walk_at "a"
        refine f_ixL (atI_get (i := 0 + (a : Int) - (0 + (k : Int))) (by omega) (by rw [show (0 + (a : Int) - (0 + (k : Int))).toNat = a - k from by omega]; exact rowI_at (by omega))) ?_
        walk_at "a"
        refine f_ixL (atI_get (i := 0 + (k : Int)) (by omega) (by rw [show (0 + (k : Int)).toNat = k from by omega]; exact rowI_at (by omega))) ?_
        walk_at "a"
        refine f_timesW (wide_ok (edg_bt (hs.le (by omega)) (by omega) (by omega)) (cpl_bt (hs.le (by omega)) (by omega) (by omega)) (by omega) (by omega) (by omega)) ?_
        walk_at "a"
        exact m_end2 (by unfold sizeLine; omega) rfl rfl
      · rw [rangeD_len, Int.toNat_natCast]
        walk_at "a"
        refine ⟨(List.range (min a j + 1)).map fun k => edg j f (a - k) * cpl f j k, by rw [List.map_map] <;> rfl, ?_⟩
        rw [sumZ_sum]
        walk_at "a"
        refine f_app (by rw [rowI_len]; unfold sizeLine; omega) ?_
        walk_at "a"
        have er : rowI (a + 1) (cpl f (j + 1)) = rowI a (cpl f (j + 1)) ++ [.int (cpl f (j + 1) a)] := by
          unfold rowI
          rw [List.range_succ, List.map_append]
          rfl
        rw [er]
        exact ⟨_, rfl⟩
    · rintro δ ⟨e5, rfl⟩
      rw [rangeD_len, show ((j : Int) + 2).toNat = j + 1 + 1 from by omega]
      walk_at "a"
      exact ⟨_, rfl, by decide, by simp, _, rfl, _, _, _, _, rfl⟩
  · rintro δ ⟨e2, e3, e4, e5, rfl⟩
    rw [rangeD_len, Int.toNat_natCast]
    walk_at "a"
    exact k

-- slots [(0, 'rows'), (1, 'told'), (2, 'size'), (3, 'edge'), (4, 'longer'), (5, 'at'), (6, 'k')]; stored [1, 2, 3, 4, 5]

def T_tone_row : DS := sret [] (tcall sp_characteristic [false] (tac (tv 0) (ta0)))
theorem pf_tone_row : ∀ δ Q3, sp_tone_row δ Q3 → δ.length = 1 → (∀ (i : Nat) c, δ[i]? = some (E.ow c) → i ∈ ([] : List Nat) ∧ i ∉ ([] : List Nat)) ∧ T_tone_row { nx := fun δ' => Q3 (.va .non) (outs δ δ'), rt := fun r δ' => Q3 r (outs δ δ') } (δ ++ List.replicate 0 E.no) := by
  rintro δ Q3 ⟨n, f, d, rfl, hd, n8, hs, k⟩ hl
  refine ⟨own_by rfl, ?_⟩
  simp only [List.replicate, List.cons_append, List.nil_append]
  unfold T_tone_row
  walk_at "a"
  refine ⟨n, f, d, rfl, hd, n8, hs, ?_⟩
  walk_at "a"
  exact k

-- slots [(0, 'rows')]; stored []

def T_law_mul : DS := seq (ssetO 2 (tcomp (irng1 (tb2 minusF (tb2 plusF (tcb lenF (tac (tv 0) (ta0))) (tcb lenF (tac (tv 1) (ta0)))) (tc (.int 1)))) (dName 3) (tyes) (tc (.int 0)) [3])) (seq (sfor [3, 4] (irng1 (tcb lenF (tac (tv 0) (ta0)))) (dName 3) (sfor [4] (irng1 (tcb lenF (tac (tv 1) (ta0)))) (dName 4) (sasg (tb2 plusF (tb2 ixF (tv 2) (tb2 plusF (tv 3) (tv 4))) (tb2 timesF (tb2 ixF (tv 0) (tv 3)) (tb2 ixF (tv 1) (tv 4)))) (dSub (tv 2) (tb2 plusF (tv 3) (tv 4)))))) (sret [] (tv 2)))
theorem pf_law_mul : ∀ δ Q3, sp_law_mul δ Q3 → δ.length = 2 → (∀ (i : Nat) c, δ[i]? = some (E.ow c) → i ∈ ([] : List Nat) ∧ i ∉ ([2, 3, 4] : List Nat)) ∧ T_law_mul { nx := fun δ' => Q3 (.va .non) (outs δ δ'), rt := fun r δ' => Q3 r (outs δ δ') } (δ ++ List.replicate 3 E.no) := by
  rintro δ Q3 ⟨p, q, f, g, rfl, p1, q1, hf, k⟩ hl
  refine ⟨own_by rfl, ?_⟩
  simp only [List.replicate, List.cons_append, List.nil_append]
  unfold T_law_mul
  walk_at "a"
  rw [rowI_len, rowI_len]
  have en : (((p + 1 : Nat) : Int) + ((q + 1 : Nat) : Int) - 1) = ((p + q + 1 : Nat) : Int) := by omega
  rw [en]
  refine ⟨by omega, ?_⟩
  refine comp_map (fun _ => .int 0) rfl (fun p hp => nomatch hp) (fun p hp => nomatch hp) (fun j z e => ?_) ?_
  · walk_at "a"
    exact m_end2 (by obtain ⟨h, _⟩ := rangeD_get e; unfold sizeLine; omega) rfl rfl
  · rw [rangeD_len, Int.toNat_natCast]
    walk_at "a"
    rw [rowI_len]
    refine ⟨by omega, ?_⟩
    refine for_by (fun i δ => ∃ e3 e4, δ = [.va (.lst (rowI (p + 1) f)), .va (.lst (rowI (q + 1) g)), .ow (.l (rowI (p + q + 1) (mulC q f g i))), e3, e4]) ⟨_, _, rfl⟩ (fun p hp => nomatch hp) (fun _ _ _ p hp => nomatch hp) ?_ ?_
    · rintro i y δ e ⟨e3, e4, rfl⟩
      obtain ⟨hi, rfl⟩ := rangeD_get e
      rw [Int.toNat_natCast] at hi
      walk_at "a"
      rw [rowI_len]
      refine ⟨by omega, ?_⟩
      refine for_by (fun j δ => ∃ e4, δ = [.va (.lst (rowI (p + 1) f)), .va (.lst (rowI (q + 1) g)), .ow (.l (rowI (p + q + 1) fun k => mulC q f g i k + if i ≤ k ∧ k < i + j then f i * g (k - i) else 0)), .va (.int (i : Nat)), e4]) ⟨e4, ?_⟩ (fun p hp => nomatch hp) (fun _ _ _ p hp => nomatch hp) ?_ ?_
      · have : (fun k => mulC q f g i k + if i ≤ k ∧ k < i + 0 then f i * g (k - i) else 0) = mulC q f g i := by
          funext k
          rw [if_neg (by omega), Int.add_zero]
        rw [this]
        simp only [Int.zero_add]
      · rintro j y δ e ⟨e4, rfl⟩
        obtain ⟨hj, rfl⟩ := rangeD_get e
        rw [Int.toNat_natCast] at hj
        walk_at "a"
        refine f_ixL (atI_get (i := (i : Int) + (0 + (j : Int))) (by omega) (by rw [show ((i : Int) + (0 + (j : Int))).toNat = i + j from by omega]; exact rowI_at (by omega))) ?_
        walk_at "a"
        refine f_ixL (atI_get (Int.natCast_nonneg _) (rowI_at (by omega))) ?_
        walk_at "a"
        refine f_ixL (atI_get (i := 0 + (j : Int)) (by omega) (by rw [show (0 + (j : Int)).toNat = j from by omega]; exact rowI_at (by omega))) ?_
        walk_at "a"
        refine f_times (.inr (sm64 (hf _))) ?_
        walk_at "a"
        refine g_at (k := (i : Int) + (0 + (j : Int))) rfl (by rw [rowI_len, show ((i : Int) + (0 + (j : Int))) = ((i + j : Nat) : Int) from by omega]; exact ix_nat (by omega)) ?_
        refine ⟨_, rfl, .va (.int (0 + (j : Int))), ?_⟩
        rw [rowI_set (h := fun k => mulC q f g i k + if i ≤ k ∧ k < i + (j + 1) then f i * g (k - i) else 0) ?_ fun x hx nx => ?_]
        · rfl
        · rw [if_neg (by omega), if_pos (by omega), show i + j - i = j from by omega, Int.toNat_natCast, Int.add_zero]
        · by_cases h : i ≤ x ∧ x < i + j
          · rw [if_pos h, if_pos (by omega)]
          · rw [if_neg h, if_neg (by omega)]
      · rintro δ ⟨e4, rfl⟩
        rw [rangeD_len, Int.toNat_natCast]
        have : (fun k => mulC q f g i k + if i ≤ k ∧ k < i + (q + 1) then f i * g (k - i) else 0) = mulC q f g (i + 1) := by
          funext k
          rw [mulC_succ]
          by_cases h : i ≤ k ∧ k ≤ i + q
          · rw [if_pos h, if_pos (by omega)]
          · rw [if_neg h, if_neg (by omega)]
        rw [this]
        walk_at "a"
        exact ⟨_, _, rfl⟩
    · rintro δ ⟨e3, e4, rfl⟩
      rw [rangeD_len, Int.toNat_natCast]
      walk_at "a"
      exact k

-- slots [(0, 'first'), (1, 'second'), (2, 'told'), (3, 'i'), (4, 'j')]; stored [2, 3, 4]

def T_law_known : DS := seq (sparN [1, 2, 3] [true, false, false] (tac (tlst (ta0)) (tac (tlst (tac (tc (.int 1)) (ta0))) (tac (tb2 plusF (tc (.int 1)) (tcall sp_law_of [true, true] (tac (tv 0) (tac (tlst (tac (tc (.int 2)) (tac (tc (.int 1)) (tac (tc (.int 3)) (tac (tc (.int 4)) (tac (tc (.int 0)) (tac (tc (.int 5)) (tac (tc (.int 7)) (ta0))))))))) (ta0))))) (ta0))))) (sgrid2 4 5 (irng1 (tv 3)) (dName 7) (tyes) (tcomp (irng1 (tv 3)) (dName 15) (tyes) (tc (.int 0)) [15]) [7] (tc (.int 0)) (ypseq (yfor [2, 5, 6, 10, 11] (irng1 (tv 3)) (dName 6) (yif (tand (tt (tb2 (bF (iF (fun i j => decide (i < j)))) (tb2 plusF (tv 5) (tc (.int 1))) (tv 3))) (tt (tb2 (bF eqF) (tcall sp_law_pick [true, false] (tac (tv 0) (tac (tc (.int 3)) (ta0)))) (tc (.int 2))))) (yseq (yplain (sset 10 (tcall sp_law_of [true, true] (tac (tv 0) (tac (tlst (tac (tc (.int 2)) (tac (tb1 negF (tc (.int 1))) (tac (tc (.int 3)) (tac (tc (.int 1)) (tac (tb1 negF (tc (.int 2))) (tac (tc (.int 5)) (tac (tc (.int 0)) (ta0))))))))) (ta0)))))) (yseq (yput (tv 10) (tv 5) (tb2 plusF (tv 5) (tc (.int 1)))) (yseq (yput (tc (.int 1)) (tb2 plusF (tv 5) (tc (.int 1))) (tv 5)) (yplain (spar2 2 5 false false (tac (tcall sp_law_mul [false, false] (tac (tv 2) (tac (tlst (tac (tc (.int 1)) (tac (tc (.int 0)) (tac (tb1 negF (tv 10)) (ta0))))) (ta0)))) (tac (tb2 plusF (tv 5) (tc (.int 2))) (ta0)))))))) (yif (tt (tb2 (bF (iF (fun i j => decide (i < j)))) (tv 5) (tv 3))) (yseq (yplain (sset 11 (tcall sp_law_of [true, true] (tac (tv 0) (tac (tlst (tac (tc (.int 1)) (tac (tc (.int 0)) (tac (tb1 negF (tc (.int 1))) (tac (tc (.int 2)) (tac (tb1 negF (tc (.int 2))) (tac (tc (.int 3)) (tac (tc (.int 1)) (tac (tc (.int 40)) (ta0)))))))))) (ta0)))))) (yseq (yput (tv 11) (tv 5) (tv 5)) (yplain (spar2 2 5 false false (tac (tcall sp_law_mul [false, false] (tac (tv 2) (tac (tlst (tac (tc (.int 1)) (tac (tb1 negF (tv 11)) (ta0)))) (ta0)))) (tac (tb2 plusF (tv 5) (tc (.int 1))) (ta0))))))) (yplain (snext))))) (ypfree 4 (seq (sfor [4, 6, 7, 8, 9] (irng1 (tif (tt (tb2 (bF (iF (fun i j => decide (j < i)))) (tv 3) (tc (.int 1)))) (tc (.int 6)) (tc (.int 0)))) (dName 6) (seq (sset 7 (tcall sp_law_pick [true, false] (tac (tv 0) (tac (tv 3) (ta0))))) (seq (sset 8 (tb2 modF (tcb intF (tac (tb2 plusF (tb2 plusF (tv 7) (tc (.int 1))) (tcall sp_law_pick [true, false] (tac (tv 0) (tac (tb2 minusF (tv 3) (tc (.int 1))) (ta0))))) (ta0))) (tv 3))) (seq (sset 9 (tcall sp_law_of [true, true] (tac (tv 0) (tac (tlst (tac (tc (.int 1)) (tac (tb1 negF (tc (.int 1))) (tac (tc (.int 0)) (ta0))))) (ta0))))) (seq (sasg (tcomp (izip (tb2 ixF (tv 4) (tv 7)) (tb2 ixF (tv 4) (tv 8))) (dTup 2 (dCons (dName 12) (dCons (dName 13) (dNil)))) (tyes) (tb2 plusF (tv 12) (tb2 timesF (tv 9) (tv 13))) [12, 13]) (dSub (tv 4) (tv 7))) (sgrid 4 (ilist (tv 4)) (dName 14) (tyes) (tcomp (irng1 (tv 3)) (dName 15) (tyes) (tb2 minusF (tb2 ixF (tv 14) (tv 15)) (tif (tt (tb2 (bF eqF) (tv 15) (tv 8))) (tb2 timesF (tv 9) (tb2 ixF (tv 14) (tv 7))) (tc (.int 0)))) [15]) [14] (ypfree 4 (snext)))))))) (sret [0] (ttup (tac (tvz 4) (tac (tv 2) (ta0)))))))))
theorem pf_law_known : ∀ δ Q3, sp_law_known δ Q3 → δ.length = 1 → (∀ (i : Nat) c, δ[i]? = some (E.ow c) → i ∈ ([0] : List Nat) ∧ i ∉ ([1, 2, 3, 4, 5, 6, 7, 8, 9, 10, 11] : List Nat)) ∧ T_law_known { nx := fun δ' => Q3 (.va .non) (outs δ δ'), rt := fun r δ' => Q3 r (outs δ δ') } (δ ++ List.replicate 15 E.no) := by
  rintro δ Q3 ⟨bg, rfl, hb, k⟩ hl
  refine ⟨own_by rfl, ?_⟩
  simp only [List.replicate, List.cons_append, List.nil_append]
  unfold T_law_known
  walk_at "a"
  refine ⟨bg, _, rfl, hb, .inl ⟨_, .inr (.inr rfl), by simp, by simp, fun bg1 x hb1 hx => ?_⟩⟩
  have hx' : ∃ q : Nat, x = .int q ∧ q ≤ 7 := by
    simp only [List.mem_cons, List.not_mem_nil, or_false] at hx
    rcases hx with rfl | rfl | rfl | rfl | rfl | rfl | rfl
    all_goals first | exact ⟨0, rfl, by omega⟩ | exact ⟨1, rfl, by omega⟩ | exact ⟨2, rfl, by omega⟩ | exact ⟨3, rfl, by omega⟩ | exact ⟨4, rfl, by omega⟩ | exact ⟨5, rfl, by omega⟩ | exact ⟨7, rfl, by omega⟩
  obtain ⟨m, rfl, m7⟩ := hx'
  obtain ⟨n, en, n0, n8⟩ : ∃ n : Nat, (1 + (m : Int)) = (n : Int) ∧ 0 < n ∧ n ≤ 8 := ⟨m + 1, by omega, by omega, by omega⟩
  walk_at "a"
  rw [en]
  walk_at "a"
  refine ⟨by omega, ?_⟩
  refine grid_map2 (fun _ => rowI n fun _ => 0) (by show 4 < 16; decide) (by decide) rfl (fun p hp => nomatch hp) (fun p hp => nomatch hp) (fun i y e => ?_) ?_
  · obtain ⟨hi, rfl⟩ := rangeD_get e
    rw [Int.toNat_natCast] at hi
    walk_at "a"
    refine ⟨by omega, ?_⟩
    refine comp_map (fun _ => .int 0) rfl (fun p hp => nomatch hp) (fun p hp => nomatch hp) (fun j y e => ?_) ?_
    · walk_at "a"
      exact m_end2 (by obtain ⟨h, _⟩ := rangeD_get e; unfold sizeLine; omega) rfl rfl
    · rw [rangeD_len, Int.toNat_natCast]
      walk_at "a"
      refine ⟨by simp [sizeLine]; omega, rfl, ?_⟩
      rw [List.range_succ (n := i), List.map_append]
      rfl
  rw [rangeD_len, Int.toNat_natCast]
  walk_at "a"
  refine ⟨by omega, ?_⟩
  refine yfor_by (fun j δ rows => ∃ (bg' : List D) (a : Nat) (f : Nat → Nat → Int) (c : Nat → Int) (e6 e10 e11 : E), δ = [.ow (.l bg'), .ow (.l []), .va (.lst (rowI (a + 1) c)), .va (.int (n : Nat)), .no, .va (.int (a : Nat)), e6, .no, .no, .no, e10, e11, .no, .no, .no, .no] ∧ IsBag bg' ∧ rows = gridR n n f ∧ Blk a f c ∧ a ≤ n ∧ min j n ≤ a) ⟨bg1, 0, fun _ _ => 0, fun _ => 1, _, _, _, rfl, hb1, rfl, .zero, by omega, by omega⟩ (fun p hp => nomatch hp) (fun _ _ _ _ p hp => nomatch hp) ?_ ?_
  · rintro j y δ rows e ⟨bg', a, f, c, e6, e10, e11, rfl, hb', rfl, blk, an, ja⟩
    obtain ⟨hj, rfl⟩ := rangeD_get e
    rw [Int.toNat_natCast] at hj
    walk_at "a"
    · refine ⟨bg', _, rfl, hb', by omega, by omega, fun bg2 d hb2 d0 d1 => ?_⟩
      walk_at "a"
      · refine ⟨bg2, _, rfl, hb2, .inl ⟨_, .inr (.inr rfl), by simp, by simp, fun bg3 x hb3 hx => ?_⟩⟩
        have hx' : ∃ q : Int, x = .int q ∧ q.natAbs ≤ 64 := by
          simp only [List.mem_cons, List.not_mem_nil, or_false] at hx
          rcases hx with rfl | rfl | rfl | rfl | rfl | rfl | rfl
          all_goals exact ⟨_, rfl, by decide⟩
        obtain ⟨v, rfl, hv⟩ := hx'
        have han : a + 1 < n := by omega
        walk_at "a"
        refine ⟨a, a, rowI n (f a), rfl, by rw [gridR_len]; exact ix_nat (by omega), gridR_at (by omega), ?_⟩
        walk_at "a"
        refine ⟨(a : Int) + 1, a + 1, rfl, by rw [rowI_len]; exact ix_nat han, ?_⟩
        rw [gridR_put]
        walk_at "a"
        refine ⟨(a : Int) + 1, a + 1, rowI n (putT f a (a + 1) v (a + 1)), rfl, by rw [gridR_len]; exact ix_nat han, gridR_at han, ?_⟩
        walk_at "a"
        refine ⟨a, a, rfl, by rw [rowI_len]; exact ix_nat (by omega), ?_⟩
        rw [gridR_put]
        walk_at "a"
        refine ⟨a, 2, c, sqrP v, rfl, by omega, by omega, fun k => ?_, ?_⟩
        · unfold sqrP
          simp only [Nat.reducePow]
          split
          · omega
          · split <;> omega
        walk_at "a"
        exact ⟨bg3, a + 2, _, _, _, _, _, rfl, hb3, rfl, blk.two hv, by omega, by omega⟩
      · refine ⟨bg2, _, rfl, hb2, .inl ⟨_, .inr (.inr rfl), by simp, by simp, fun bg3 x hb3 hx => ?_⟩⟩
        have hx' : ∃ q : Int, x = .int q ∧ q.natAbs ≤ 64 := by
          simp only [List.mem_cons, List.not_mem_nil, or_false] at hx
          rcases hx with rfl | rfl | rfl | rfl | rfl | rfl | rfl | rfl
          all_goals exact ⟨_, rfl, by decide⟩
        obtain ⟨r, rfl, hr⟩ := hx'
        have han : a < n := by omega
        walk_at "a"
        refine ⟨a, a, rowI n (f a), rfl, by rw [gridR_len]; exact ix_nat han, gridR_at han, ?_⟩
        walk_at "a"
        refine ⟨a, a, rfl, by rw [rowI_len]; exact ix_nat han, ?_⟩
        rw [gridR_put]
        walk_at "a"
        refine ⟨a, 1, c, linP r, rfl, by omega, by omega, fun k => ?_, ?_⟩
        · unfold linP
          simp only [Nat.reducePow]
          split <;> omega
        walk_at "a"
        exact ⟨bg3, a + 1, _, _, _, _, _, rfl, hb3, rfl, blk.one hr, by omega, by omega⟩
      · exact ⟨bg2, a, f, c, _, _, _, rfl, hb2, rfl, blk, an, by omega⟩
    · refine ⟨bg', _, rfl, hb', .inl ⟨_, .inr (.inr rfl), by simp, by simp, fun bg3 x hb3 hx => ?_⟩⟩
      have hx' : ∃ q : Int, x = .int q ∧ q.natAbs ≤ 64 := by
        simp only [List.mem_cons, List.not_mem_nil, or_false] at hx
        rcases hx with rfl | rfl | rfl | rfl | rfl | rfl | rfl | rfl
        all_goals exact ⟨_, rfl, by decide⟩
      obtain ⟨r, rfl, hr⟩ := hx'
      have han : a < n := by omega
      walk_at "a"
      refine ⟨a, a, rowI n (f a), rfl, by rw [gridR_len]; exact ix_nat han, gridR_at han, ?_⟩
      walk_at "a"
      refine ⟨a, a, rfl, by rw [rowI_len]; exact ix_nat han, ?_⟩
      rw [gridR_put]
      walk_at "a"
      refine ⟨a, 1, c, linP r, rfl, by omega, by omega, fun k => ?_, ?_⟩
      · unfold linP
        simp only [Nat.reducePow]
        split <;> omega
      walk_at "a"
      exact ⟨bg3, a + 1, _, _, _, _, _, rfl, hb3, rfl, blk.one hr, by omega, by omega⟩
    · exact ⟨bg', a, f, c, _, _, _, rfl, hb', rfl, blk, an, by omega⟩
  · rintro δ rows ⟨bg', a, f, c, e6, e10, e11, rfl, hb', rfl, blk, an, ja⟩
    rw [rangeD_len, Int.toNat_natCast] at ja
    obtain rfl : a = n := by omega
    walk_at "a"
    · rw [gridR_lst]
      refine ⟨by omega, ?_⟩
      refine for_by (fun j δ => ∃ (bg' : List D) (g : Nat → Nat → Int) (e6 e7 e8 e9 : E), δ = [.ow (.l bg'), .ow (.l []), .va (.lst (rowI (a + 1) c)), .va (.int (a : Nat)), .ow (.l (matQ a a g)), .va (.int (a : Nat)), e6, e7, e8, e9, e10, e11, .no, .no, .no, .no] ∧ IsBag bg' ∧ (∀ x, detZ a (charM g x) = detZ a (charM f x)) ∧ ∀ p q, (g p q).natAbs ≤ 64 * 4 ^ j) ⟨bg', f, _, _, _, _, rfl, hb', fun _ => rfl, fun p q => by simpa using blk.b p q⟩ (fun p hp => nomatch hp) (fun _ _ _ p hp => nomatch hp) ?_ ?_
      · rintro j y δ e ⟨bg2, g, e6, e7, e8, e9, rfl, hb2, hd, hg⟩
        obtain ⟨hj, rfl⟩ := rangeD_get e
        have hj : j < 6 := hj
        walk_at "a"
        refine ⟨bg2, _, rfl, hb2, by omega, by omega, fun bg3 i hb3 i0 i1 => ?_⟩
        obtain ⟨i, rfl⟩ := Int.eq_ofNat_of_zero_le i0
        have hi : i < a := by omega
        walk_at "a"
        refine ⟨bg3, _, rfl, hb3, by omega, by omega, fun bg4 p hb4 p0 p1 => ?_⟩
        walk_at "a"
        obtain ⟨kk, ek, hk, ne⟩ : ∃ kk : Nat, ((i : Int) + 1 + p) % (a : Int) = (kk : Int) ∧ kk < a ∧ i ≠ kk := by
          by_cases h : (i : Int) + 1 + p < a
          · exact ⟨((i : Int) + 1 + p).toNat, by rw [Int.emod_eq_of_lt (by omega) h]; omega, by omega, by omega⟩
          · refine ⟨((i : Int) + 1 + p - a).toNat, ?_, by omega, by omega⟩
            have e1 : ((i : Int) + 1 + p) % (a : Int) = ((i : Int) + 1 + p - a) % (a : Int) := (Int.sub_emod_right _ _).symm
            rw [e1, Int.emod_eq_of_lt (by omega) (by omega)]
            omega
        rw [ek]
        refine ⟨bg4, _, rfl, hb4, .inl ⟨_, .inr (.inr rfl), by simp, by simp, fun bg5 x hb5 hx => ?_⟩⟩
        have hx' : ∃ q : Int, x = .int q ∧ (q = 1 ∨ q = -1 ∨ q = 0) := by
          simp only [List.mem_cons, List.not_mem_nil, or_false] at hx
          rcases hx with rfl | rfl | rfl
          · exact ⟨_, rfl, .inl rfl⟩
          · exact ⟨_, rfl, .inr (.inl rfl)⟩
          · exact ⟨_, rfl, .inr (.inr rfl)⟩
        obtain ⟨t, rfl, ht⟩ := hx'
        walk_at "a"
        refine f_ixL (atI_get (Int.natCast_nonneg _) (matQ_at hi)) ?_
        walk_at "a"
        refine f_ixL (atI_get (Int.natCast_nonneg _) (matQ_at hk)) ?_
        walk_at "a"
        refine comp_map (fun q => .int (g i q + t * g kk q)) rfl (fun p hp => nomatch hp) (fun p hp => nomatch hp) (fun q z e => ?_) ?_
        · obtain ⟨x, y, e1, e2, rfl⟩ := zipD_get e
          obtain ⟨hq, rfl⟩ := rowI_get e1
          obtain ⟨_, rfl⟩ := rowI_get e2
          walk_at "a"
          exact m_end2 (by unfold sizeLine; omega) rfl rfl
        · rw [zip_rowI, show (List.range a).map (fun q => D.int (g i q + t * g kk q)) = rowI a (fun q => g i q + t * g kk q) from rfl]
          walk_at "a"
          refine g_at rfl (by rw [matQ_len]; exact ix_nat hi) ?_
          rw [matQ_setI, show (fun p => if p = i then (fun q => g i q + t * g kk q) else g p) = rowT g i kk t from rfl]
          walk_at "a"
          refine grid_map (fun p => rowI a (simT g i kk t p)) (by show 4 < 16; decide) rfl (fun p hp => ?_) (fun p hp => ?_) (fun p z e => ?_) ?_
          · simp at hp
            subst hp
            show 4 ∉ [14]
            decide
          · simp at hp
            subst hp
            rfl
          · obtain ⟨hp, rfl⟩ := matQ_get e
            walk_at "a"
            refine ⟨by omega, ?_⟩
            refine comp_map (fun q => .int (simT g i kk t p q)) rfl (fun p hp => nomatch hp) (fun p hp => nomatch hp) (fun q z e => ?_) ?_
            · obtain ⟨hq, rfl⟩ := rangeD_get e
              rw [Int.toNat_natCast] at hq
              rw [Int.zero_add]
              walk_at "a"
              refine f_ixL (atI_get (Int.natCast_nonneg _) (rowI_at hq)) ?_
              walk_at "a"
              · rename_i hqk
                refine f_ixL (atI_get (Int.natCast_nonneg _) (rowI_at hi)) ?_
                walk_at "a"
                exact m_end2 (by unfold sizeLine; omega) rfl (by unfold simT; rw [if_pos (by omega)]; rfl)
              · rename_i hqk
                exact m_end2 (by unfold sizeLine; omega) rfl (by unfold simT; rw [if_neg (by omega)]; rfl)
            · rw [rangeD_len, Int.toNat_natCast]
              walk_at "a"
              refine ⟨by rw [List.length_map, List.length_range]; unfold sizeLine; omega, rfl, ?_⟩
              rw [List.range_succ (n := p), List.map_append]
              rfl
          · rw [matQ_len]
            walk_at "a"
            refine ⟨bg5, simT g i kk t, _, _, _, _, by rw [List.map_map]; rfl, hb5, fun x => (simil hi hk ne).trans (hd x), fun p q => ?_⟩
            have := simT_b (i := i) (k := kk) hg ht p q
            rw [Nat.pow_succ]
            omega
      · rintro δ ⟨bg2, g, e6, e7, e8, e9, rfl, hb2, hd, hg⟩
        walk_at "a"
        refine k bg2 a g c hb2 n0 n8 (fun p q _ _ => ?_) blk.c0 fun x => (blk.h x).trans (hd x).symm
        have := hg p q
        rw [show (rangeD 0 (Int.toNat 6)).length = 6 from rfl] at this
        simp only [Nat.reducePow] at *
        omega
    · rw [gridR_lst]
      refine ⟨by omega, ?_⟩
      refine for_by (fun j δ => δ = [.ow (.l bg'), .ow (.l []), .va (.lst (rowI (a + 1) c)), .va (.int (a : Nat)), .ow (.l (matQ a a f)), .va (.int (a : Nat)), e6, .no, .no, .no, e10, e11, .no, .no, .no, .no]) rfl (fun p hp => nomatch hp) (fun _ _ _ p hp => nomatch hp) (fun j y δ e _ => ?_) ?_
      · obtain ⟨hj, _⟩ := rangeD_get e
        exact absurd hj (by simp)
      · rintro δ rfl
        walk_at "a"
        refine k bg' a f c hb' n0 n8 (fun p q _ _ => ?_) blk.c0 blk.h
        have := blk.b p q
        simp only [Nat.reducePow] at *
        omega

-- slots [(0, 'bag'), (1, 'told'), (2, 'due'), (3, 'wide'), (4, 'lanes'), (5, 'at_row'), (6, 'turn'), (7, 'i'), (8, 'k'), (9, 'factor'), (10, 'c'), (11, 'root'), (12, 'p'), (13, 'q'), (14, 'lane'), (15, 'j')]; stored [1, 2, 3, 4, 5, 6, 7, 8, 9, 10, 11]

def T_law_is_int : DS := sret [] (tandV (tisi .int (tv 0)) (tnotV (tisi .bool (tv 0))))
theorem pf_law_is_int : ∀ δ Q3, sp_law_is_int δ Q3 → δ.length = 1 → (∀ (i : Nat) c, δ[i]? = some (E.ow c) → i ∈ ([] : List Nat) ∧ i ∉ ([] : List Nat)) ∧ T_law_is_int { nx := fun δ' => Q3 (.va .non) (outs δ δ'), rt := fun r δ' => Q3 r (outs δ δ') } (δ ++ List.replicate 0 E.no) := by
  rintro δ Q3 ⟨d, n, rfl, h, k⟩ hl
  refine ⟨own_by rfl, ?_⟩
  simp only [List.replicate, List.cons_append, List.nil_append]
  unfold T_law_is_int
  cases h <;>
  · walk_at "a"
    all_goals exact k

-- slots [(0, 'thing')]; stored []

def T_law_numbers : DS := sret [] (tandV (tisi .list (tv 0)) (tandV (tb2 (bF eqF) (tcb lenF (tac (tv 0) (ta0))) (tv 1)) (tcb allF (tac (tcomp (ilist (tv 0)) (dName 2) (tyes) (tcall sp_law_is_int [false] (tac (tv 2) (ta0))) [2]) (ta0)))))
theorem pf_law_numbers : ∀ δ Q3, sp_law_numbers δ Q3 → δ.length = 2 → (∀ (i : Nat) c, δ[i]? = some (E.ow c) → i ∈ ([] : List Nat) ∧ i ∉ ([] : List Nat)) ∧ T_law_numbers { nx := fun δ' => Q3 (.va .non) (outs δ δ'), rt := fun r δ' => Q3 r (outs δ δ') } (δ ++ List.replicate 1 E.no) := by
  rintro δ Q3 ⟨N, g, rfl, h, k⟩ hl
  refine ⟨own_by rfl, ?_⟩
  simp only [List.replicate, List.cons_append, List.nil_append]
  unfold T_law_numbers
  walk_at "a"
  · refine comp_map (fun _ => .bl true) rfl (fun p hp => nomatch hp) (fun p hp => nomatch hp) (fun i z e => ?_) ?_
    · obtain ⟨hi, rfl⟩ := rowI_get e
      walk_at "a"
      refine ⟨_, 0, rfl, .int _, ?_⟩
      unfold intB
      walk_at "a"
      exact m_end2 (by unfold sizeLine; omega) rfl rfl
    · walk_at "a"
      refine f_allT ?_
      walk_at "a"
      exact k
  · rename_i q
    exact absurd (by rw [rowI_len]) q

-- slots [(0, 'told'), (1, 'wide'), (2, 'thing')]; stored []

def T_law_at : DS := seq (sset 2 (tc (.int 0))) (seq (sfor [2, 3] (ilist (tv 0)) (dName 3) (sset 2 (tb2 plusF (tb2 timesF (tv 2) (tv 1)) (tv 3)))) (sret [] (tv 2)))
theorem pf_law_at : ∀ δ Q3, sp_law_at δ Q3 → δ.length = 2 → (∀ (i : Nat) c, δ[i]? = some (E.ow c) → i ∈ ([] : List Nat) ∧ i ∉ ([2, 3] : List Nat)) ∧ T_law_at { nx := fun δ' => Q3 (.va .non) (outs δ δ'), rt := fun r δ' => Q3 r (outs δ δ') } (δ ++ List.replicate 2 E.no) := by
  rintro δ Q3 ⟨n, c, x, rfl, n1, hx, k⟩ hl
  refine ⟨own_by rfl, ?_⟩
  simp only [List.replicate, List.cons_append, List.nil_append]
  unfold T_law_at
  walk_at "a"
  refine for_by (fun j δ => ∃ e3, δ = [.va (.lst (rowI n c)), .va (.int x), .va (.int (horn c x j)), e3]) ⟨_, rfl⟩ (fun p hp => by simp at hp) (fun _ _ _ p hp => by simp at hp) ?_ ?_
  · rintro j y δ e ⟨e3, rfl⟩
    obtain ⟨hj, rfl⟩ := rowI_get e
    have hx2 := sm64 hx
    simp only [Int.reducePow] at hx2
    walk_at "a"
    exact ⟨_, rfl⟩
  · rintro δ ⟨e3, rfl⟩
    rw [rowI_len]
    walk_at "a"
    exact k

-- slots [(0, 'told'), (1, 'spot'), (2, 'total'), (3, 'thing')]; stored [2, 3]

def T_law_det (s0 : DSp) : DS := seq (sif (tnot (ttru (tv 0))) (sret [] (tc (.int 1))) (snext)) (seq (sset 1 (tc (.int 0))) (seq (sfor [1, 2, 3] (irng1 (tcb lenF (tac (tv 0) (ta0)))) (dName 2) (sif (tt (tb2 (bF neF) (tb2 ixF (tb2 ixF (tv 0) (tc (.int 0))) (tv 2)) (tc (.int 0)))) (seq (sset 3 (tcall s0 [false] (tac (tcomp (ilist (tslice (tv 0) (tpart (tc (.int 1))) (tno))) (dName 4) (tyes) (tb2 plusF (tslice (tv 4) (tno) (tpart (tv 2))) (tslice (tv 4) (tpart (tb2 plusF (tv 2) (tc (.int 1)))) (tno))) [4]) (ta0)))) (sset 1 (tb2 plusF (tv 1) (tb2 timesF (tb2 timesF (tif (tt (tb2 (bF eqF) (tb2 modF (tcb intF (tac (tv 2) (ta0))) (tc (.int 2))) (tc (.int 0)))) (tc (.int 1)) (tb1 negF (tc (.int 1)))) (tb2 ixF (tb2 ixF (tv 0) (tc (.int 0))) (tv 2))) (tv 3))))) (snext))) (sret [] (tv 1))))
theorem pf_law_det : ∀ (N : Nat) δ Q3, sp_law_det N δ Q3 → δ.length = 1 → (∀ (i : Nat) c, δ[i]? = some (E.ow c) → i ∈ ([] : List Nat) ∧ i ∉ ([1, 2, 3] : List Nat)) ∧ T_law_det (pv_law_det N) { nx := fun δ' => Q3 (.va .non) (outs δ δ'), rt := fun r δ' => Q3 r (outs δ δ') } (δ ++ List.replicate 4 E.no) := by
  rintro N δ Q3 ⟨n, f, rfl, nN, n8, hs, k⟩ hl
  refine ⟨own_by rfl, ?_⟩
  simp only [List.replicate, List.cons_append, List.nil_append]
  unfold T_law_det
  rcases n with _ | n
  · rw [show matQ 0 0 f = [] from rfl]
    walk_at "a"
    · exact k
    · rename_i h
      simp at h
  rcases N with _ | N
  · omega
  walk_at "a"
  · rename_i h
    exact absurd (List.isEmpty_iff.mp h) fun z => by
      have := congrArg List.length z
      rw [matQ_len] at this
      simp at this
  rw [matQ_len]
  refine ⟨by omega, ?_⟩
  refine for_by (fun j δ => ∃ e2 e3, δ = [.va (.lst (matQ (n + 1) (n + 1) f)), .va (.int (sumZ ((List.range j).map fun j => sgnJ j * f 0 j * detZ n fun i l => f (i + 1) (skipC j l)))), e2, e3, .no]) ⟨_, _, rfl⟩ (fun p hp => nomatch hp) (fun _ _ _ p hp => nomatch hp) ?_ ?_
  · rintro j y δ e ⟨e2, e3, rfl⟩
    obtain ⟨hj, rfl⟩ := rangeD_get e
    rw [Int.toNat_natCast] at hj
    rw [Int.zero_add]
    have es : sumZ ((List.range (j + 1)).map fun j => sgnJ j * f 0 j * detZ n fun i l => f (i + 1) (skipC j l)) = sumZ ((List.range j).map fun j => sgnJ j * f 0 j * detZ n fun i l => f (i + 1) (skipC j l)) + sgnJ j * f 0 j * detZ n fun i l => f (i + 1) (skipC j l) := by
      rw [List.range_succ, List.map_append, sumZ_append, List.map_cons, List.map_nil, sumZ_cons, sumZ_nil, Int.add_zero]
    rw [es]
    generalize sumZ ((List.range j).map fun j => sgnJ j * f 0 j * detZ n fun i l => f (i + 1) (skipC j l)) = acc
    walk_at "a"
    refine f_ixL (atI_get (i := 0) (by omega) (matQ_at (by omega))) ?_
    walk_at "a"
    refine f_ixL (atI_get (Int.natCast_nonneg _) (rowI_at hj)) ?_
    walk_at "a"
    · rename_i h
      have h : f 0 j = 0 := h
      rw [h, Int.mul_zero, Int.zero_mul, Int.add_zero]
      exact ⟨_, _, rfl⟩
    rw [show cutL (matQ (n + 1) (n + 1) f) (some 1) none = matQ n (n + 1) fun i => f (i + 1) from (cut_drop (n := 1)).trans matQ_drop1]
    refine comp_map (fun i => .lst (rowI n fun l => f (i + 1) (skipC j l))) rfl (fun p hp => nomatch hp) (fun p hp => nomatch hp) (fun i z e => ?_) ?_
    · obtain ⟨hi, rfl⟩ := matQ_get e
      walk_at "a"
      refine f_plusL (by rw [show ((j : Int) + 1) = ((j + 1 : Nat) : Int) from rfl, cut_take, cut_drop, ← List.length_append, rowI_skip hj, rowI_len]; unfold sizeLine; omega) ?_
      rw [cut_take, show ((j : Int) + 1) = ((j + 1 : Nat) : Int) from rfl, cut_drop, rowI_skip hj]
      walk_at "a"
      exact m_end2 (by unfold sizeLine; omega) rfl rfl
    · rw [matQ_len]
      walk_at "a"
      refine ⟨n, fun i l => f (i + 1) (skipC j l), rfl, by omega, by omega, fun i l hi hl => hs _ _ (by omega) (skipC_lt hl), ?_⟩
      walk_at "a"
      all_goals
        rename_i hm
        have hb := hs 0 j (by omega) (by omega)
        refine f_ixL (atI_get (i := 0) (by omega) (matQ_at (by omega))) ?_
        walk_at "a"
        refine f_ixL (atI_get (Int.natCast_nonneg _) (rowI_at hj)) ?_
        walk_at "a"
        refine f_times (.inl (sm64 (by first | (rw [Int.one_mul]; exact hb) | (rw [Int.neg_mul, Int.one_mul, Int.natAbs_neg]; exact hb)))) ?_
        walk_at "a"
        refine ⟨.va (.int (j : Nat)), .va (.int (detZ n fun i l => f (i + 1) (skipC j l))), ?_⟩
      · rw [show sgnJ j = 1 from if_pos (by omega)]
        rfl
      · rw [show sgnJ j = -1 from if_neg (by omega)]
        rfl
  · rintro δ ⟨e2, e3, rfl⟩
    rw [rangeD_len, Int.toNat_natCast]
    walk_at "a"
    exact k

-- slots [(0, 'table'), (1, 'told'), (2, 'j'), (3, 'rest'), (4, 'lane')]; stored [1, 2, 3]

def T_law_right : DS := seq (sset 3 (tcb lenF (tac (tv 1) (ta0)))) (seq (sif (tor (tnot (tt (tcall sp_law_numbers [false, false] (tac (tv 0) (tac (tb2 plusF (tv 3) (tc (.int 1))) (ta0)))))) (tt (tb2 (bF neF) (tb2 ixF (tv 0) (tc (.int 0))) (tc (.int 1))))) (sret [] (tc (.bl false))) (snext)) (seq (sfor [4, 5, 6] (irng1 (tv 3)) (dName 4) (seq (sset 5 (tb2 plusF (tv 2) (tv 4))) (seq (sset 6 (tcomp (irng1 (tv 3)) (dName 7) (tyes) (tcomp (irng1 (tv 3)) (dName 8) (tyes) (tb2 minusF (tif (tt (tb2 (bF eqF) (tv 7) (tv 8))) (tv 5) (tc (.int 0))) (tb2 ixF (tb2 ixF (tv 1) (tv 7)) (tv 8))) [8]) [7])) (sif (tt (tb2 (bF neF) (tcall sp_law_at [false, false] (tac (tv 0) (tac (tv 5) (ta0)))) (tcall (sp_law_det 8) [false] (tac (tv 6) (ta0))))) (sret [] (tc (.bl false))) (snext))))) (sret [] (tc (.bl true)))))
theorem pf_law_right : ∀ δ Q3, sp_law_right δ Q3 → δ.length = 3 → (∀ (i : Nat) c, δ[i]? = some (E.ow c) → i ∈ ([] : List Nat) ∧ i ∉ ([3, 4, 5, 6] : List Nat)) ∧ T_law_right { nx := fun δ' => Q3 (.va .non) (outs δ δ'), rt := fun r δ' => Q3 r (outs δ δ') } (δ ++ List.replicate 6 E.no) := by
  rintro δ Q3 ⟨n, f, c, st, rfl, n8, hs, hst, c0, hc, k⟩ hl
  refine ⟨own_by rfl, ?_⟩
  simp only [List.replicate, List.cons_append, List.nil_append]
  unfold T_law_right
  walk_at "a"
  rw [matQ_len]
  refine ⟨n + 1, c, rfl, by omega, ?_⟩
  walk_at "a"
  refine f_ixL (atI_get (i := 0) (by omega) (rowI_at (by omega))) ?_
  rw [show (0 : Int).toNat = 0 from rfl, c0]
  walk_at "a"
  · refine ⟨by omega, ?_⟩
    refine for_by (fun j δ => ∃ e4 e5 e6, δ = [.va (.lst (rowI (n + 1) c)), .va (.lst (matQ n n f)), .va (.int st), .va (.int (n : Nat)), e4, e5, e6, .no, .no]) ⟨_, _, _, rfl⟩ (fun p hp => nomatch hp) (fun _ _ _ p hp => nomatch hp) ?_ ?_
    · rintro j y δ e ⟨e4, e5, e6, rfl⟩
      obtain ⟨hj, rfl⟩ := rangeD_get e
      rw [Int.toNat_natCast] at hj
      rw [Int.zero_add]
      walk_at "a"
      refine ⟨by omega, ?_⟩
      refine comp_map (fun y => .lst (rowI n fun x => charM f (st + j) y x)) rfl (fun p hp => nomatch hp) (fun p hp => nomatch hp) (fun y z e => ?_) ?_
      · obtain ⟨hy, rfl⟩ := rangeD_get e
        rw [Int.toNat_natCast] at hy
        rw [Int.zero_add]
        walk_at "a"
        refine ⟨by omega, ?_⟩
        refine comp_map (fun x => .int (charM f (st + j) y x)) rfl (fun p hp => nomatch hp) (fun p hp => nomatch hp) (fun x z e => ?_) ?_
        · obtain ⟨hx, rfl⟩ := rangeD_get e
          rw [Int.toNat_natCast] at hx
          rw [Int.zero_add]
          walk_at "a"
          all_goals
            refine f_ixL (atI_get (Int.natCast_nonneg _) (matQ_at hy)) ?_
            walk_at "a"
            refine f_ixL (atI_get (Int.natCast_nonneg _) (rowI_at hx)) ?_
            walk_at "a"
          · rename_i h
            exact m_end2 (by unfold sizeLine; omega) rfl (by unfold charM; rw [if_pos (by omega)]; rfl)
          · rename_i h
            exact m_end2 (by unfold sizeLine; omega) rfl (by unfold charM; rw [if_neg (by omega)]; rfl)
        · rw [rangeD_len, Int.toNat_natCast]
          walk_at "a"
          exact m_end2 (by unfold sizeLine; omega) rfl rfl
      · rw [rangeD_len, Int.toNat_natCast]
        walk_at "a"
        refine ⟨n + 1, c, st + j, rfl, by omega, sm_add hst (by omega), ?_⟩
        walk_at "a"
        refine ⟨n, charM f (st + j), rfl, by omega, by omega, charM_sm hs (sm_add2 hst (by omega)), ?_⟩
        walk_at "a"
        · exact ⟨_, _, _, rfl⟩
        · rename_i h
          exact absurd (hc _) h
    · rintro δ ⟨e4, e5, e6, rfl⟩
      walk_at "a"
      exact k
  · rename_i h
    exact absurd rfl h

-- slots [(0, 'told'), (1, 'table'), (2, 'start'), (3, 'wide'), (4, 'k'), (5, 'spot'), (6, 'moved'), (7, 'i'), (8, 'j')]; stored [3, 4, 5, 6]

def T_law_flip : DS := sret [] (tcomp (irng1 (tcb lenF (tac (tb2 ixF (tv 0) (tc (.int 0))) (ta0)))) (dName 1) (tyes) (tcomp (ilist (tv 0)) (dName 2) (tyes) (tb2 ixF (tv 2) (tv 1)) [2]) [1])
theorem pf_law_flip : ∀ δ Q3, sp_law_flip δ Q3 → δ.length = 1 → (∀ (i : Nat) c, δ[i]? = some (E.ow c) → i ∈ ([] : List Nat) ∧ i ∉ ([] : List Nat)) ∧ T_law_flip { nx := fun δ' => Q3 (.va .non) (outs δ δ'), rt := fun r δ' => Q3 r (outs δ δ') } (δ ++ List.replicate 2 E.no) := by
  rintro δ Q3 ⟨h, w, f, rfl, h0, h1, w1, k⟩ hl
  refine ⟨own_by rfl, ?_⟩
  simp only [List.replicate, List.cons_append, List.nil_append]
  unfold T_law_flip
  walk_at "a"
  refine f_ixL (atI_get (by omega) (matQ_at h0)) ?_
  walk_at "a"
  rw [rowI_len]
  refine ⟨by omega, ?_⟩
  refine comp_map (fun y => .lst (rowI h fun x => f x y)) rfl (by simp) (by simp) (fun j z e => ?_) ?_
  · obtain ⟨hj, rfl⟩ := rangeD_get e
    rw [Int.toNat_natCast] at hj
    rw [Int.zero_add]
    walk_at "a"
    refine comp_map (fun x => .int (f x j)) rfl (by simp) (by simp) (fun i z e => ?_) ?_
    · obtain ⟨hi, rfl⟩ := matQ_get e
      walk_at "a"
      refine f_ixL (atI_get (Int.natCast_nonneg _) (rowI_at hj)) ?_
      walk_at "a"
      exact m_end2 (by unfold sizeLine; omega) rfl rfl
    · rw [matQ_len]
      walk_at "a"
      exact m_end2 (by unfold sizeLine; omega) rfl rfl
  · rw [rangeD_len, Int.toNat_natCast]
    walk_at "a"
    exact k

-- slots [(0, 'table'), (1, 'j'), (2, 'lane')]; stored []

def T_law_tuples : DS := sret [] (tcb tupleF (tac (tcomp (ilist (tv 0)) (dName 1) (tyes) (tcb tupleF (tac (tv 1) (ta0))) [1]) (ta0)))
theorem pf_law_tuples : ∀ δ Q3, sp_law_tuples δ Q3 → δ.length = 1 → (∀ (i : Nat) c, δ[i]? = some (E.ow c) → i ∈ ([] : List Nat) ∧ i ∉ ([] : List Nat)) ∧ T_law_tuples { nx := fun δ' => Q3 (.va .non) (outs δ δ'), rt := fun r δ' => Q3 r (outs δ δ') } (δ ++ List.replicate 1 E.no) := by
  rintro δ Q3 ⟨h, w, f, rfl, h1, w1, k⟩ hl
  refine ⟨own_by rfl, ?_⟩
  simp only [List.replicate, List.cons_append, List.nil_append]
  unfold T_law_tuples
  walk_at "a"
  refine comp_map (fun y => .tup (rowI w (f y))) rfl (fun p hp => nomatch hp) (fun p hp => nomatch hp) (fun j z e => ?_) ?_
  · obtain ⟨hj, rfl⟩ := matQ_get e
    walk_at "a"
    exact m_end2 (by unfold sizeLine; omega) rfl rfl
  · rw [matQ_len]
    walk_at "a"
    exact k

-- slots [(0, 'table'), (1, 'lane')]; stored []

def T_law : DS := seq (ssetO 1 (tcall sp_law_open [false] (tac (tv 0) (ta0)))) (seq (sset 2 (tcall sp_law_square [true, false] (tac (tv 1) (tac (tcall sp_law_of [true, true] (tac (tv 1) (tac (tlst (tac (tc (.int 2)) (tac (tc (.int 3)) (tac (tc (.int 4)) (tac (tc (.int 1)) (tac (tc (.int 3)) (tac (tc (.int 2)) (tac (tc (.int 4)) (tac (tc (.int 5)) (ta0)))))))))) (ta0)))) (ta0))))) (seq (sset 3 (tcall sp_law_of [true, true] (tac (tv 1) (tac (tlst (tac (tc (.int 0)) (tac (tb1 negF (tc (.int 2))) (tac (tc (.int 7)) (tac (tc (.int 1000003)) (tac (tb1 negF (tc (.int 50))) (tac (tc (.int 1)) (ta0)))))))) (ta0))))) (sgridG 4 (tcallG spN_law_copy [false] (tac (tv 2) (ta0))) (ypseq (ysetOL 4 5 (tcall sp_tone_row [false] (tac (tv 4) (ta0)))) (ypseq (yifL 4 (tor (tnot (tt (tcall sp_law_right [false, false, false] (tac (tv 5) (tac (tv 2) (tac (tv 3) (ta0))))))) (tt (tb2 (bF neF) (tv 4) (tv 2)))) (yplain (sret [] (tc (.bl false)))) (yplain (snext))) (ypseq (yplain (sset 6 (tcb listF (tac (tv 5) (ta0))))) (ypseq (yplain (sasg (tc (.int 0)) (dSub (tv 5) (tc (.int 0))))) (ypseq (yplain (sexpr (tlm appF (tv 5) (tac (tc (.int 1)) (ta0))))) (ypseq (yplain (sset 7 (tcall sp_tone_row [false] (tac (tcall sp_law_flip [false] (tac (tv 2) (ta0))) (ta0))))) (ypseq (yplain (sif (tor (tnot (tt (tcall sp_law_numbers [false, false] (tac (tv 7) (tac (tcb lenF (tac (tv 6) (ta0))) (ta0)))))) (tt (tb2 (bF neF) (tv 7) (tv 6)))) (sret [] (tc (.bl false))) (snext))) (ypseq (yplain (sasg (tcall sp_law_known [true] (tac (tv 1) (ta0))) (dTup 2 (dCons (dName 8) (dCons (dName 9) (dNil)))))) (ypseq (yplain (ssetO 5 (tcall sp_tone_row [false] (tac (tcall sp_law_copy [false] (tac (tv 8) (ta0))) (ta0))))) (ypseq (yplain (sif (tor (tnot (tt (tcall sp_law_numbers [false, false] (tac (tvz 5) (tac (tcb lenF (tac (tv 9) (ta0))) (ta0)))))) (tt (tb2 (bF neF) (tv 5) (tv 9)))) (sret [] (tc (.bl false))) (snext))) (ypseq (yplain (sset 7 (tcallP sp_tone_row [false] 0 1 [0] (ta0) (tac (tcall sp_law_tuples [false] (tac (tv 2) (ta0))) (ta0))))) (ypseq (yplain (sif (tor (tnot (tt (tcall sp_law_numbers [false, false] (tac (tv 7) (tac (tcb lenF (tac (tv 6) (ta0))) (ta0)))))) (tt (tb2 (bF neF) (tv 7) (tv 6)))) (sret [] (tc (.bl false))) (snext))) (ypseq (yputL 4 (tb2 plusF (tb2 ixF (tb2 ixF (tv 4) (tc (.int 0))) (tc (.int 0))) (tc (.int 1))) (tc (.int 0)) (tc (.int 0))) (ypfree 4 (sret [] (tcall sp_law_right [false, false, false] (tac (tcall sp_tone_row [false] (tac (tvz 4) (ta0))) (tac (tvz 4) (tac (tb2 plusF (tv 3) (tc (.int 1))) (ta0)))))))))))))))))))))))
theorem pf_law : ∀ δ Q3, sp_law δ Q3 → δ.length = 1 → (∀ (i : Nat) c, δ[i]? = some (E.ow c) → i ∈ ([] : List Nat) ∧ i ∉ ([1, 2, 3, 4, 5, 6, 7, 8, 9] : List Nat)) ∧ T_law { nx := fun δ' => Q3 (.va .non) (outs δ δ'), rt := fun r δ' => Q3 r (outs δ δ') } (δ ++ List.replicate 9 E.no) := by
  rintro δ Q3 ⟨ns, rfl, nl, k⟩ hl
  refine ⟨own_by rfl, ?_⟩
  simp only [List.replicate, List.cons_append, List.nil_append]
  unfold T_law
  walk_at "a"
  refine ⟨ns, rfl, fun bg hb => ?_⟩
  walk_at "a"
  refine ⟨bg, _, rfl, hb, .inl ⟨_, .inr (.inr rfl), by simp, by simp, fun bg1 x hb1 hx => ?_⟩⟩
  have hx' : ∃ q : Nat, x = .int q ∧ 0 < q ∧ q ≤ 5 := by
    simp only [List.mem_cons, List.not_mem_nil, or_false] at hx
    rcases hx with rfl | rfl | rfl | rfl | rfl | rfl | rfl | rfl
    all_goals first | exact ⟨1, rfl, by omega, by omega⟩ | exact ⟨2, rfl, by omega, by omega⟩ | exact ⟨3, rfl, by omega, by omega⟩ | exact ⟨4, rfl, by omega, by omega⟩ | exact ⟨5, rfl, by omega, by omega⟩
  obtain ⟨n, rfl, n0, n5⟩ := hx'
  walk_at "a"
  refine ⟨bg1, n, rfl, hb1, n0, by omega, fun bg2 f hb2 hf => ?_⟩
  walk_at "a"
  refine ⟨bg2, _, rfl, hb2, .inl ⟨_, .inr (.inr rfl), by simp, by simp, fun bg3 x hb3 hx => ?_⟩⟩
  have hx' : ∃ q : Int, x = .int q ∧ q.natAbs < 2000000 := by
    simp only [List.mem_cons, List.not_mem_nil, or_false] at hx
    rcases hx with rfl | rfl | rfl | rfl | rfl | rfl
    all_goals exact ⟨_, rfl, by decide⟩
  obtain ⟨st, rfl, hst⟩ := hx'
  walk_at "a"
  refine ⟨by simp, ?_⟩
  walk_at "a"
  refine ⟨n, n, f, rfl, by omega, by omega, ?_⟩
  walk_at "a"
  have em : ((List.range n).map fun y => rowI n (f y)).map D.lst = matQ n n f := by rw [List.map_map]; rfl
  have hs : SmT n f := fun i j _ _ => by
    have := hf i j
    simp only [Nat.reducePow]
    omega
  have hs2 : ∀ i j, i < n → j < n → (f i j).natAbs < 2 ^ 60 := fun i j _ _ => by
    have := hf i j
    simp only [Nat.reducePow]
    omega
  refine ⟨n, f, _, rfl, .inl (by rw [em]), by omega, hs, ?_⟩
  walk_at "a"
  have ei : ((List.range (n + 1)).map (cpl f n)).map D.int = rowI (n + 1) (cpl f n) := by rw [List.map_map]; rfl
  refine ⟨(List.range (n + 1)).map (cpl f n), by rw [ei], ?_⟩
  rw [ei]
  walk_at "a"
  have hst2 : st.natAbs < 2 ^ 40 := by simp only [Nat.reducePow]; omega
  refine ⟨n, f, cpl f n, st, rfl, by omega, hs2, hst2, cpl_zero, fun x => cpl_ok x, ?_⟩
  walk_at "a"
  rw [em]
  refine f_neP (b := true) matQ_pu matQ_pu (by decide) (by decide) (by simp) ?_
  walk_at "a"
  refine g_at rfl (by rw [rowI_len]; exact ixN_zero (by omega)) ?_
  walk_at "a"
  refine f_app (by rw [List.length_set, rowI_len]; unfold sizeLine; omega) ?_
  walk_at "a"
  refine ⟨n, n, f, rfl, n0, by omega, by omega, ?_⟩
  walk_at "a"
  have ef : rowI (n + 1) (cpl (fun i j => f j i) n) = rowI (n + 1) (cpl f n) := rowI_congr fun x _ => cpl_flip
  refine ⟨n, fun i j => f j i, _, rfl, .inl rfl, by omega, fun i j hi hj => hs j i hj hi, ?_⟩
  rw [ef]
  walk_at "a"
  rw [rowI_len]
  refine ⟨n + 1, _, rfl, by omega, ?_⟩
  walk_at "a"
  refine f_neP (b := true) rowI_pu rowI_pu (by decide) (by decide) (by simp) ?_
  walk_at "a"
  refine ⟨bg3, rfl, hb3, fun bg4 m g c hb4 m0 m8 hg c0 hc => ?_⟩
  walk_at "a"
  refine ⟨m, m, g, rfl, by omega, by omega, ?_⟩
  walk_at "a"
  have ek : rowI (m + 1) (cpl g m) = rowI (m + 1) c := rowI_congr fun x hx => horn_inj (n := m + 1) (fun x => (cpl_ok x).trans (hc x).symm) x hx
  refine ⟨m, g, _, rfl, .inl rfl, by omega, hg, ?_⟩
  rw [ek]
  walk_at "a"
  rw [rowI_len]
  refine ⟨m + 1, _, rfl, by omega, ?_⟩
  walk_at "a"
  refine f_neP (b := true) rowI_pu rowI_pu (by decide) (by decide) (by simp) ?_
  walk_at "a"
  refine ⟨n, n, f, rfl, by omega, by omega, ?_⟩
  walk_at "a"
  refine ⟨n, f, _, rfl, .inr rfl, by omega, hs, ?_⟩
  walk_at "a"
  rw [rowI_len]
  refine ⟨n + 1, _, rfl, by omega, ?_⟩
  walk_at "a"
  refine f_neP (b := true) rowI_pu rowI_pu (by decide) (by decide) (by simp) ?_
  walk_at "a"
  rw [em]
  refine f_ixL (atI_get (i := 0) (by omega) (matQ_at (by omega))) ?_
  walk_at "a"
  refine f_ixL (atI_get (i := 0) (by omega) (rowI_at (by omega))) ?_
  walk_at "a"
  refine ⟨0, 0, rowI n (f 0), rfl, by rw [List.length_map, List.length_range]; exact ixN_zero n0, by rw [List.getElem?_map, List.getElem?_range n0]; rfl, ?_⟩
  walk_at "a"
  refine ⟨0, 0, rfl, by rw [rowI_len]; exact ixN_zero n0, ?_⟩
  walk_at "a"
  have eg : (((List.range n).map fun y => rowI n (f y)).set 0 ((rowI n (f 0)).set 0 (D.int (f 0 0 + 1)))).map D.lst = matQ n n fun i => if i = 0 then (fun j => if j = 0 then f 0 0 + 1 else f 0 j) else f i := by
    rw [rowI_setI, List.map_set, em, matQ_setI]
  have hf' : ∀ i j, ((if i = 0 then (fun j => if j = 0 then f 0 0 + 1 else f 0 j) else f i : Nat → Int) j).natAbs < 1000000001 := fun i j => by
    have h0 := hf 0 0
    have h1 := hf 0 j
    have h2 := hf i j
    split
    · show (if j = 0 then f 0 0 + 1 else f 0 j).natAbs < _
      split <;> omega
    · omega
  refine ⟨n, _, _, rfl, .inl (by rw [eg]), by omega, fun i j _ _ => ?_, ?_⟩
  · have := hf' i j
    simp only [Nat.reducePow]
    omega
  walk_at "a"
  refine ⟨n, _, _, st + 1, by rw [eg], by omega, fun i j _ _ => ?_, by simp only [Nat.reducePow]; omega, cpl_zero, fun x => cpl_ok x, ?_⟩
  · have := hf' i j
    simp only [Nat.reducePow]
    omega
  walk_at "a"
  exact k

-- slots [(0, 'script'), (1, 'bag'), (2, 'table'), (3, 'start'), (4, 'handed'), (5, 'told'), (6, 'kept'), (7, 'again'), (8, 'lanes'), (9, 'due')]; stored [1, 2, 3, 4, 5, 6, 7, 8, 9]

end L3
set_option Elab.async false
set_option linter.all false
set_option maxRecDepth 100000
set_option maxHeartbeats 4000000
namespace L3
open PySem PySem.Spec PyProof.Rows L2
section
variable {P : Program} {w : World} {K : PySem.W.Frag} {mg : Str → Option Value} {base : Heap}
theorem sc_law_open : FnScope ["script", "blend", "cell"] ["script"] (defScope (top 8)) := ⟨rfl, rfl, rfl, by decide +kernel, rfl, by decide +kernel, by decide +kernel⟩
theorem okn_law_open {fd : FuncData} (F : FunD K "_law_open" "_law_open" (defArgs (top 8)) (defBody (top 8)) (defScope (top 8)) [] [] (He.ga K "_law_open") fd) (at_ : mg "_law_open" = some (.ref (He.ga K "_law_open"))) (B : Blt mg)  : FnOk P w K mg base CX0 1 (He.ga K "_law_open") fd ["script"] (up K 1 sp_law_open) := by
  have sc := sc_law_open
  refine F.ok sc (fun _ _ _ _ h => h.1) (fun cdv A outer s H vs Q E hr h => ?_)
  exact ⟨_, PSs.nox (pss_cons (ps_set (i := 1) sc.nd rfl (Or.inl rfl) (pe_int)) (pss_cons (ps_for PassesOwn.never rfl (pi_list (pe_slice sl_any (pv 0) (po_none) (po_some (pe_int)))) (pg_name (i := 2) sc.nd rfl (Or.inl rfl)) (pss_one (ps_set (i := 1) sc.nd rfl (Or.inl rfl) (pe_op op_mod (pe_callTy call_int1 (by rfl) B.int (by decide +kernel) (pa_cons (pe_op op_plus (pe_op op_plus (pe_op op_times (pv 1) (pe_int)) (pe_op op_mod (pe_callTy call_int1 (by rfl) B.int (by decide +kernel) (pa_cons (pv 2) (pa_nil))) (pe_int))) (pe_int)) (pa_nil))) (pe_int))))) (pss_one (ps_ret (pe_lst (pa_cons (pe_callTy call_list_of (by rfl) B.list (by decide +kernel) (pa_cons (pe_slice sl_any (pv 0) (po_none) (po_some (pe_int))) (pa_nil))) (pa_cons (pe_int) (pa_cons (pe_int) (pa_cons (pv 1) (pa_cons (pe_int) (pa_nil))))))))))),
    body_ok (SndSP.mono (bs := [1, 2]) (sndp_seq ((snds_set (snd_int)).p) (sndp_seq (sndp_for (as := [1, 2]) (sndi_list (snd_slice (snd_var) (sndo_none) (sndo_some (snd_int)))) (sndg_name) ((snds_set (snd_op snd_mod (snd_cb snd_int1 (snda_cons (snd_op snd_plus (snd_op snd_plus (snd_op snd_times (snd_var) (snd_int)) (snd_op snd_mod (snd_cb snd_int1 (snda_cons (snd_var) (snda_nil))) (snd_int))) (snd_int)) (snda_nil))) (snd_int))).p) (by decide)) (snds_ret (ps := []) (snd_lst (snda_cons (snd_cb snd_list (snda_cons (snd_slice (snd_var) (sndo_none) (sndo_some (snd_int))) (snda_nil))) (snda_cons (snd_int) (snda_cons (snd_int) (snda_cons (snd_var) (snda_cons (snd_int) (snda_nil)))))))))) (by decide)) pf_law_open vs H Q E h⟩
theorem ok_law_open (F : ∃ fd, FunD K "_law_open" "_law_open" (defArgs (top 8)) (defBody (top 8)) (defScope (top 8)) [] [] (He.ga K "_law_open") fd) (at_ : mg "_law_open" = some (.ref (He.ga K "_law_open"))) (B : Blt mg)  : FP P w K mg base "_law_open" 1 1 sp_law_open := by
  obtain ⟨fd, F⟩ := F
  exact ⟨⟨fd, ["script"], okn_law_open F at_ B , F.bindsN fun _ _ _ _ _ _ us hl => match us, hl with | [_], _ => rfl⟩, F.kp, at_⟩
theorem sc_law_pick : FnScope ["bag", "limit", "blend", "cell", "digit"] ["bag", "limit"] (defScope (top 9)) := ⟨rfl, rfl, rfl, by decide +kernel, rfl, by decide +kernel, by decide +kernel⟩
theorem okn_law_pick {fd : FuncData} (F : FunD K "_law_pick" "_law_pick" (defArgs (top 9)) (defBody (top 9)) (defScope (top 9)) [] [] (He.ga K "_law_pick") fd) (at_ : mg "_law_pick" = some (.ref (He.ga K "_law_pick"))) (B : Blt mg)  : FnOk P w K mg base CX0 1 (He.ga K "_law_pick") fd ["bag", "limit"] (up K 2 sp_law_pick) := by
  have sc := sc_law_pick
  refine F.ok sc (fun _ _ _ _ h => h.1) (fun cdv A outer s H vs Q E hr h => ?_)
  exact ⟨_, PSs.nox (pss_cons (ps_asg (pe_op op_plus (pe_ix ix_seq (pv 0) (pe_int) (fun _ _ => rfl)) (pe_int)) (pg_sub (pv 0) (pe_int) set_list)) (pss_cons (ps_if (PW.pt (pw_and (pt_cmpR (op_eqE hr.units) (pe_ix ix_seq (pv 0) (pe_int) (fun _ _ => rfl)) (pe_int) (nomark _)) (pw_and1 (pt_cmpR op_lt (pe_ix ix_seq (pv 0) (pe_int) (fun _ _ => rfl)) (pe_callB call_len (by rfl) B.len boot_len (pa_cons (pe_ix ix_seq (pv 0) (pe_int) (fun _ _ => rfl)) (pa_nil))) (nomark _))))) (pss_cons (ps_set (i := 3) sc.nd rfl (Or.inl rfl) (pe_callTy call_int1 (by rfl) B.int (by decide +kernel) (pa_cons (pe_ix ix_seq (pe_ix ix_seq (pv 0) (pe_int) (fun _ _ => rfl)) (pe_ix ix_seq (pv 0) (pe_int) (fun _ _ => rfl)) (fun _ _ => rfl)) (pa_nil)))) (pss_cons (ps_asg (pe_op op_plus (pe_ix ix_seq (pv 0) (pe_int) (fun _ _ => rfl)) (pe_int)) (pg_sub (pv 0) (pe_int) set_list)) (pss_one (ps_if (pt_cmpR op_ge (pv 3) (pe_op op_pow (pe_int) (pe_int)) (nomark _)) (pss_one (ps_asg (pv 3) (pg_sub (pv 0) (pe_int) set_list))) (pss_one (ps_asg (pe_op op_mod (pe_callTy call_int1 (by rfl) B.int (by decide +kernel) (pa_cons (pe_op op_plus (pe_op op_plus (pe_op op_times (pe_ix ix_seq (pv 0) (pe_int) (fun _ _ => rfl)) (pe_int)) (pe_op op_times (pe_op op_mod (pe_callTy call_int1 (by rfl) B.int (by decide +kernel) (pa_cons (pv 3) (pa_nil))) (pe_int)) (pe_int))) (pe_int)) (pa_nil))) (pe_int)) (pg_sub (pv 0) (pe_int) set_list))))))) (pss_nil)) (pss_cons (ps_if (pt_cmpR op_gt (pe_ix ix_seq (pv 0) (pe_int) (fun _ _ => rfl)) (pe_int) (nomark _)) (pss_cons (ps_set (i := 4) sc.nd rfl (Or.inl rfl) (pe_op op_mod (pe_callTy call_int1 (by rfl) B.int (by decide +kernel) (pa_cons (pe_ix ix_seq (pv 0) (pe_int) (fun _ _ => rfl)) (pa_nil))) (pv 1))) (pss_cons (ps_asg (pe_op op_fdiv (pe_ix ix_seq (pv 0) (pe_int) (fun _ _ => rfl)) (pv 1)) (pg_sub (pv 0) (pe_int) set_list)) (pss_one (ps_ret (pv 4))))) (pss_nil)) (pss_cons (ps_set (i := 2) sc.nd rfl (Or.inl rfl) (pe_callTy call_int1 (by rfl) B.int (by decide +kernel) (pa_cons (pe_ix ix_seq (pv 0) (pe_int) (fun _ _ => rfl)) (pa_nil)))) (pss_cons (ps_asg (pe_op op_mod (pe_callTy call_int1 (by rfl) B.int (by decide +kernel) (pa_cons (pe_op op_plus (pe_op op_plus (pe_op op_plus (pe_op op_pow (pv 2) (pe_int)) (pe_op op_times (pv 2) (pe_int))) (pe_op op_times (pe_ix ix_seq (pv 0) (pe_int) (fun _ _ => rfl)) (pe_int))) (pe_int)) (pa_nil))) (pe_int)) (pg_sub (pv 0) (pe_int) set_list)) (pss_one (ps_ret (pe_op op_mod (pe_callTy call_int1 (by rfl) B.int (by decide +kernel) (pa_cons (pe_op op_plus (pe_op op_fdiv (pe_ix ix_seq (pv 0) (pe_int) (fun _ _ => rfl)) (pe_int)) (pe_op op_times (pe_op op_mod (pe_callTy call_int1 (by rfl) B.int (by decide +kernel) (pa_cons (pe_ix ix_seq (pv 0) (pe_int) (fun _ _ => rfl)) (pa_nil))) (pe_int)) (pe_int))) (pa_nil))) (pv 1))))))))),
    body_ok (SndSP.mono (bs := [2, 3, 4]) (sndp_seq ((snds_asg (snd_op snd_plus (snd_op snd_ix (snd_var) (snd_int)) (snd_int)) (sndg_sub (snd_var) (snd_int))).p) (sndp_seq (sndp_if (sndt_and (sndt_test (snd_op snd_eq (snd_op snd_ix (snd_var) (snd_int)) (snd_int))) (sndt_test (snd_op (snd_icmp (p := fun i j => decide (i < j))) (snd_op snd_ix (snd_var) (snd_int)) (snd_cb snd_len (snda_cons (snd_op snd_ix (snd_var) (snd_int)) (snda_nil)))))) (sndp_seq ((snds_set (snd_cb snd_int1 (snda_cons (snd_op snd_ix (snd_op snd_ix (snd_var) (snd_int)) (snd_op snd_ix (snd_var) (snd_int))) (snda_nil)))).p) (sndp_seq ((snds_asg (snd_op snd_plus (snd_op snd_ix (snd_var) (snd_int)) (snd_int)) (sndg_sub (snd_var) (snd_int))).p) (sndp_if (sndt_test (snd_op (snd_icmp (p := fun i j => decide (j ≤ i))) (snd_var) (snd_op snd_pow (snd_int) (snd_int)))) ((snds_asg (snd_var) (sndg_sub (snd_var) (snd_int))).p) ((snds_asg (snd_op snd_mod (snd_cb snd_int1 (snda_cons (snd_op snd_plus (snd_op snd_plus (snd_op snd_times (snd_op snd_ix (snd_var) (snd_int)) (snd_int)) (snd_op snd_times (snd_op snd_mod (snd_cb snd_int1 (snda_cons (snd_var) (snda_nil))) (snd_int)) (snd_int))) (snd_int)) (snda_nil))) (snd_int)) (sndg_sub (snd_var) (snd_int))).p)))) (snds_next.p)) (sndp_seq (sndp_if (sndt_test (snd_op (snd_icmp (p := fun i j => decide (j < i))) (snd_op snd_ix (snd_var) (snd_int)) (snd_int))) (sndp_seq ((snds_set (snd_op snd_mod (snd_cb snd_int1 (snda_cons (snd_op snd_ix (snd_var) (snd_int)) (snda_nil))) (snd_var))).p) (sndp_seq ((snds_asg (snd_op snd_fdiv (snd_op snd_ix (snd_var) (snd_int)) (snd_var)) (sndg_sub (snd_var) (snd_int))).p) (snds_ret (ps := [0]) (snd_var)))) (snds_next.p)) (sndp_seq ((snds_set (snd_cb snd_int1 (snda_cons (snd_op snd_ix (snd_var) (snd_int)) (snda_nil)))).p) (sndp_seq ((snds_asg (snd_op snd_mod (snd_cb snd_int1 (snda_cons (snd_op snd_plus (snd_op snd_plus (snd_op snd_plus (snd_op snd_pow (snd_var) (snd_int)) (snd_op snd_times (snd_var) (snd_int))) (snd_op snd_times (snd_op snd_ix (snd_var) (snd_int)) (snd_int))) (snd_int)) (snda_nil))) (snd_int)) (sndg_sub (snd_var) (snd_int))).p) (snds_ret (ps := [0]) (snd_op snd_mod (snd_cb snd_int1 (snda_cons (snd_op snd_plus (snd_op snd_fdiv (snd_op snd_ix (snd_var) (snd_int)) (snd_int)) (snd_op snd_times (snd_op snd_mod (snd_cb snd_int1 (snda_cons (snd_op snd_ix (snd_var) (snd_int)) (snda_nil))) (snd_int)) (snd_int))) (snda_nil))) (snd_var)))))))) (by decide)) pf_law_pick vs H Q E h⟩
theorem ok_law_pick (F : ∃ fd, FunD K "_law_pick" "_law_pick" (defArgs (top 9)) (defBody (top 9)) (defScope (top 9)) [] [] (He.ga K "_law_pick") fd) (at_ : mg "_law_pick" = some (.ref (He.ga K "_law_pick"))) (B : Blt mg)  : FP P w K mg base "_law_pick" 1 2 sp_law_pick := by
  obtain ⟨fd, F⟩ := F
  exact ⟨⟨fd, ["bag", "limit"], okn_law_pick F at_ B , F.bindsN fun _ _ _ _ _ _ us hl => match us, hl with | [_, _], _ => rfl⟩, F.kp, at_⟩
theorem sc_law_sign : FnScope ["bag"] ["bag"] (defScope (top 12)) := ⟨rfl, rfl, rfl, by decide +kernel, rfl, by decide +kernel, by decide +kernel⟩
theorem okn_law_sign {fd : FuncData} (F : FunD K "_law_sign" "_law_sign" (defArgs (top 12)) (defBody (top 12)) (defScope (top 12)) [] [] (He.ga K "_law_sign") fd) (at_ : mg "_law_sign" = some (.ref (He.ga K "_law_sign"))) (B : Blt mg) (g_law_pick : FP P w K mg base "_law_pick" 1 2 sp_law_pick) : FnOk P w K mg base CX0 2 (He.ga K "_law_sign") fd ["bag"] (up K 1 sp_law_sign) := by
  have sc := sc_law_sign
  refine F.ok sc (fun _ _ _ _ h => h.1) (fun cdv A outer s H vs Q E hr h => ?_)
  exact ⟨_, PSs.nox (pss_one (ps_ret (pe_ifExp (pt_cmpR (op_eqE hr.units) (pe_f g_law_pick (Room.mono hr (by decide)) (by rfl) (pa_cons (pv 0) (pa_cons (pe_int) (pa_nil)))) (pe_int) (nomark _)) (pe_int) (pe_un un_neg (pe_int))))),
    body_ok (SndSP.mono (bs := []) (snds_ret (ps := [0]) (snd_if (sndt_test (snd_op snd_eq (snd_call (ms := [true, false]) rfl (snda_cons (snd_var) (snda_cons (snd_int) (snda_nil)))) (snd_int))) (snd_int) (snd_un snd_neg (snd_int)))) (by decide)) pf_law_sign vs H Q E h⟩
theorem ok_law_sign (F : ∃ fd, FunD K "_law_sign" "_law_sign" (defArgs (top 12)) (defBody (top 12)) (defScope (top 12)) [] [] (He.ga K "_law_sign") fd) (at_ : mg "_law_sign" = some (.ref (He.ga K "_law_sign"))) (B : Blt mg) (g_law_pick : FP P w K mg base "_law_pick" 1 2 sp_law_pick) : FP P w K mg base "_law_sign" 2 1 sp_law_sign := by
  obtain ⟨fd, F⟩ := F
  exact ⟨⟨fd, ["bag"], okn_law_sign F at_ B g_law_pick, F.bindsN fun _ _ _ _ _ _ us hl => match us, hl with | [_], _ => rfl⟩, F.kp, at_⟩
theorem sc_law_great : FnScope ["bag", "high"] ["bag"] (defScope (top 11)) := ⟨rfl, rfl, rfl, by decide +kernel, rfl, by decide +kernel, by decide +kernel⟩
theorem okn_law_great {fd : FuncData} (F : FunD K "_law_great" "_law_great" (defArgs (top 11)) (defBody (top 11)) (defScope (top 11)) [] [] (He.ga K "_law_great") fd) (at_ : mg "_law_great" = some (.ref (He.ga K "_law_great"))) (B : Blt mg) (g_law_pick : FP P w K mg base "_law_pick" 1 2 sp_law_pick) : FnOk P w K mg base CX0 2 (He.ga K "_law_great") fd ["bag"] (up K 1 sp_law_great) := by
  have sc := sc_law_great
  refine F.ok sc (fun _ _ _ _ h => h.1) (fun cdv A outer s H vs Q E hr h => ?_)
  exact ⟨_, PSs.nox (pss_cons (ps_set (i := 1) sc.nd rfl (Or.inl rfl) (pe_f g_law_pick (Room.mono hr (by decide)) (by rfl) (pa_cons (pv 0) (pa_cons (pe_op op_pow (pe_int) (pe_int)) (pa_nil))))) (pss_one (ps_ret (pe_op op_plus (pe_op op_times (pv 1) (pe_op op_pow (pe_int) (pe_int))) (pe_f g_law_pick (Room.mono hr (by decide)) (by rfl) (pa_cons (pv 0) (pa_cons (pe_op op_pow (pe_int) (pe_int)) (pa_nil)))))))),
    body_ok (SndSP.mono (bs := [1]) (sndp_seq ((snds_set (snd_call (ms := [true, false]) rfl (snda_cons (snd_var) (snda_cons (snd_op snd_pow (snd_int) (snd_int)) (snda_nil))))).p) (snds_ret (ps := [0]) (snd_op snd_plus (snd_op snd_times (snd_var) (snd_op snd_pow (snd_int) (snd_int))) (snd_call (ms := [true, false]) rfl (snda_cons (snd_var) (snda_cons (snd_op snd_pow (snd_int) (snd_int)) (snda_nil))))))) (by decide)) pf_law_great vs H Q E h⟩
theorem ok_law_great (F : ∃ fd, FunD K "_law_great" "_law_great" (defArgs (top 11)) (defBody (top 11)) (defScope (top 11)) [] [] (He.ga K "_law_great") fd) (at_ : mg "_law_great" = some (.ref (He.ga K "_law_great"))) (B : Blt mg) (g_law_pick : FP P w K mg base "_law_pick" 1 2 sp_law_pick) : FP P w K mg base "_law_great" 2 1 sp_law_great := by
  obtain ⟨fd, F⟩ := F
  exact ⟨⟨fd, ["bag"], okn_law_great F at_ B g_law_pick, F.bindsN fun _ _ _ _ _ _ us hl => match us, hl with | [_], _ => rfl⟩, F.kp, at_⟩
theorem sc_law_item : FnScope ["bag", "way"] ["bag"] (defScope (top 13)) := ⟨rfl, rfl, rfl, by decide +kernel, rfl, by decide +kernel, by decide +kernel⟩
theorem okn_law_item {fd : FuncData} (F : FunD K "_law_item" "_law_item" (defArgs (top 13)) (defBody (top 13)) (defScope (top 13)) [] [] (He.ga K "_law_item") fd) (at_ : mg "_law_item" = some (.ref (He.ga K "_law_item"))) (B : Blt mg) (g_law_pick : FP P w K mg base "_law_pick" 1 2 sp_law_pick) (g_law_sign : FP P w K mg base "_law_sign" 2 1 sp_law_sign) (g_law_great : FP P w K mg base "_law_great" 2 1 sp_law_great) : FnOk P w K mg base CX0 3 (He.ga K "_law_item") fd ["bag"] (up K 1 sp_law_item) := by
  have sc := sc_law_item
  refine F.ok sc (fun _ _ _ _ h => h.1) (fun cdv A outer s H vs Q E hr h => ?_)
  exact ⟨_, PSs.nox (pss_cons (ps_set (i := 1) sc.nd rfl (Or.inl rfl) (pe_f g_law_pick (Room.mono hr (by decide)) (by rfl) (pa_cons (pv 0) (pa_cons (pe_int) (pa_nil))))) (pss_cons (ps_if (pt_cmpR (op_eqE hr.units) (pv 1) (pe_int) (nomark _)) (pss_one (ps_ret (pe_op op_times (pe_f g_law_sign (Room.mono hr (by decide)) (by rfl) (pa_cons (pv 0) (pa_nil))) (pe_op op_fdiv (pe_f g_law_great (Room.mono hr (by decide)) (by rfl) (pa_cons (pv 0) (pa_nil))) (pe_int))))) (pss_nil)) (pss_one (ps_ret (pe_ix ix_seq (pe_lst (pa_cons (pe_int) (pa_cons (pe_int) (pa_cons (pe_un un_neg (pe_int)) (pa_cons (pe_int) (pa_cons (pe_int) (pa_cons (pe_int) (pa_cons (pe_un un_neg (pe_int)) (pa_cons (pe_int) (pa_cons (pe_un un_neg (pe_int)) (pa_cons (pe_int) (pa_cons (pe_int) (pa_cons (pe_un un_neg (pe_int)) (pa_cons (pe_int) (pa_cons (pe_int) (pa_cons (pe_int) (pa_nil))))))))))))))))) (pv 1) (fun _ _ => rfl)))))),
    body_ok (SndSP.mono (bs := [1]) (sndp_seq ((snds_set (snd_call (ms := [true, false]) rfl (snda_cons (snd_var) (snda_cons (snd_int) (snda_nil))))).p) (sndp_seq (sndp_if (sndt_test (snd_op snd_eq (snd_var) (snd_int))) (snds_ret (ps := [0]) (snd_op snd_times (snd_call (ms := [true]) rfl (snda_cons (snd_var) (snda_nil))) (snd_op snd_fdiv (snd_call (ms := [true]) rfl (snda_cons (snd_var) (snda_nil))) (snd_int)))) (snds_next.p)) (snds_ret (ps := [0]) (snd_op snd_ix (snd_lst (snda_cons (snd_int) (snda_cons (snd_int) (snda_cons (snd_un snd_neg (snd_int)) (snda_cons (snd_int) (snda_cons (snd_int) (snda_cons (snd_int) (snda_cons (snd_un snd_neg (snd_int)) (snda_cons (snd_int) (snda_cons (snd_un snd_neg (snd_int)) (snda_cons (snd_int) (snda_cons (snd_int) (snda_cons (snd_un snd_neg (snd_int)) (snda_cons (snd_int) (snda_cons (snd_int) (snda_cons (snd_int) (snda_nil))))))))))))))))) (snd_var))))) (by decide)) pf_law_item vs H Q E h⟩
theorem ok_law_item (F : ∃ fd, FunD K "_law_item" "_law_item" (defArgs (top 13)) (defBody (top 13)) (defScope (top 13)) [] [] (He.ga K "_law_item") fd) (at_ : mg "_law_item" = some (.ref (He.ga K "_law_item"))) (B : Blt mg) (g_law_pick : FP P w K mg base "_law_pick" 1 2 sp_law_pick) (g_law_sign : FP P w K mg base "_law_sign" 2 1 sp_law_sign) (g_law_great : FP P w K mg base "_law_great" 2 1 sp_law_great) : FP P w K mg base "_law_item" 3 1 sp_law_item := by
  obtain ⟨fd, F⟩ := F
  exact ⟨⟨fd, ["bag"], okn_law_item F at_ B g_law_pick g_law_sign g_law_great, F.bindsN fun _ _ _ _ _ _ us hl => match us, hl with | [_], _ => rfl⟩, F.kp, at_⟩
theorem sc_law_square : FnScope ["bag", "wide", "told", "way", "i", "j"] ["bag", "wide"] (defScope (top 21)) := ⟨rfl, rfl, rfl, by decide +kernel, rfl, by decide +kernel, by decide +kernel⟩
theorem okn_law_square {fd : FuncData} (F : FunD K "_law_square" "_law_square" (defArgs (top 21)) (defBody (top 21)) (defScope (top 21)) [] [] (He.ga K "_law_square") fd) (at_ : mg "_law_square" = some (.ref (He.ga K "_law_square"))) (B : Blt mg) (g_law_item : FP P w K mg base "_law_item" 3 1 sp_law_item) (g_law_pick : FP P w K mg base "_law_pick" 1 2 sp_law_pick) : FnOk P w K mg base CX0 4 (He.ga K "_law_square") fd ["bag", "wide"] (up K 2 sp_law_square) := by
  have sc := sc_law_square
  refine F.ok sc (fun _ _ _ _ h => h.1) (fun cdv A outer s H vs Q E hr h => ?_)
  exact ⟨_, PSs.nox (pss_cons (ps_par (i := 2) (j := 3) rfl sc.nd rfl rfl (by decide) rfl rfl (pa_cons (pe_lc (own := [("i", 4)]) (g := gName 4) rfl sc.nd (pi_range1 (by rfl) B.range (pa_cons (pv 1) pa_nil)) (blkOk_by (by kernel_rfl)) (fun _ _ _ _ _ => pg_name (i := 4) sc.nd rfl (Or.inl rfl)) (fun _ _ _ _ _ => pts_nil) (fun _ _ _ _ _ => pe_lc (own := [("j", 5)]) (g := gName 5) rfl sc.nd (pi_range1 (by rfl) B.range (pa_cons (pv 1) pa_nil)) (blkOk_by (by kernel_rfl)) (fun _ _ _ _ _ => pg_name (i := 5) sc.nd rfl (Or.inl rfl)) (fun _ _ _ _ _ => pts_nil) (fun _ _ _ _ _ => pe_f g_law_item (Room.mono hr (by decide)) (by rfl) (pa_cons (pv 0) (pa_nil))))) (pa_cons (pe_f g_law_pick (Room.mono hr (by decide)) (by rfl) (pa_cons (pv 0) (pa_cons (pe_int) (pa_nil)))) (pa_nil))) (by rfl)) (pss_cons (ps_if (pt_cmpR (op_eqE hr.units) (pv 3) (pe_int) (nomark _)) (pss_one (ps_asg (pe_callTy call_list_of (by rfl) B.list (by decide +kernel) (pa_cons (pe_ix ix_seq (pv 2) (pe_op op_sub (pv 1) (pe_int)) (fun _ _ => rfl)) (pa_nil))) (pg_sub (pv 2) (pe_int) set_list))) (pss_nil)) (pss_cons (ps_if (pt_cmpR (op_eqE hr.units) (pv 3) (pe_int) (nomark _)) (pss_one (ps_setLc (i := 2) (own := [("i", 4)]) (g := gName 4) rfl sc.nd rfl rfl (sw_true rfl rfl rfl (by decide +kernel)) (pi_range1 (by rfl) B.range (pa_cons (pv 1) pa_nil)) (blkOk_by (by kernel_rfl)) (fun _ _ _ _ _ => pg_name (i := 4) sc.nd rfl (Or.inl rfl)) (fun _ _ _ _ _ => pts_nil) (fun _ _ _ _ _ => pe_lc (own := [("j", 5)]) (g := gName 5) rfl sc.nd (pi_range1 (by rfl) B.range (pa_cons (pv 1) pa_nil)) (blkOk_by (by kernel_rfl)) (fun _ _ _ _ _ => pg_name (i := 5) sc.nd rfl (Or.inl rfl)) (fun _ _ _ _ _ => pts_nil) (fun _ _ _ _ _ => pe_int)))) (pss_nil)) (pss_one (ps_ret (pv 2)))))),
    body_ok (SndSP.mono (bs := [2, 3]) (sndp_seq ((snds_par2 true false (snda_cons (snd_comp (vs := [4]) (sndi_rng1 (snd_var)) (sndg_name) (sndt_yes) (snd_comp (vs := [5]) (sndi_rng1 (snd_var)) (sndg_name) (sndt_yes) (snd_call (ms := [true]) rfl (snda_cons (snd_var) (snda_nil))) (by decide)) (by decide)) (snda_cons (snd_call (ms := [true, false]) rfl (snda_cons (snd_var) (snda_cons (snd_int) (snda_nil)))) (snda_nil)))).p) (sndp_seq (sndp_if (sndt_test (snd_op snd_eq (snd_var) (snd_int))) ((snds_asg (snd_cb snd_list (snda_cons (snd_op snd_ix (snd_var) (snd_op snd_minus (snd_var) (snd_int))) (snda_nil))) (sndg_sub (snd_var) (snd_int))).p) (snds_next.p)) (sndp_seq (sndp_if (sndt_test (snd_op snd_eq (snd_var) (snd_int))) ((snds_setO (snd_comp (vs := [4]) (sndi_rng1 (snd_var)) (sndg_name) (sndt_yes) (snd_comp (vs := [5]) (sndi_rng1 (snd_var)) (sndg_name) (sndt_yes) (snd_int) (by decide)) (by decide))).p) (snds_next.p)) (snds_ret (ps := [0]) (snd_var))))) (by decide)) pf_law_square vs H Q E h⟩
theorem ok_law_square (F : ∃ fd, FunD K "_law_square" "_law_square" (defArgs (top 21)) (defBody (top 21)) (defScope (top 21)) [] [] (He.ga K "_law_square") fd) (at_ : mg "_law_square" = some (.ref (He.ga K "_law_square"))) (B : Blt mg) (g_law_item : FP P w K mg base "_law_item" 3 1 sp_law_item) (g_law_pick : FP P w K mg base "_law_pick" 1 2 sp_law_pick) : FP P w K mg base "_law_square" 4 2 sp_law_square := by
  obtain ⟨fd, F⟩ := F
  exact ⟨⟨fd, ["bag", "wide"], okn_law_square F at_ B g_law_item g_law_pick, F.bindsN fun _ _ _ _ _ _ us hl => match us, hl with | [_, _], _ => rfl⟩, F.kp, at_⟩
theorem sc_law_of : FnScope ["bag", "things"] ["bag", "things"] (defScope (top 10)) := ⟨rfl, rfl, rfl, by decide +kernel, rfl, by decide +kernel, by decide +kernel⟩
theorem okn_law_of {fd : FuncData} (F : FunD K "_law_of" "_law_of" (defArgs (top 10)) (defBody (top 10)) (defScope (top 10)) [] [] (He.ga K "_law_of") fd) (at_ : mg "_law_of" = some (.ref (He.ga K "_law_of"))) (B : Blt mg) (g_law_pick : FP P w K mg base "_law_pick" 1 2 sp_law_pick) : FnOk P w K mg base CX0 2 (He.ga K "_law_of") fd ["bag", "things"] (up K 2 sp_law_of) := by
  have sc := sc_law_of
  refine F.ok sc (fun _ _ _ _ h => h.1) (fun cdv A outer s H vs Q E hr h => ?_)
  exact ⟨_, PSs.nox (pss_one (ps_ret (pe_ix ix_seq (pv 1) (pe_f g_law_pick (Room.mono hr (by decide)) (by rfl) (pa_cons (pv 0) (pa_cons (pe_callB call_len (by rfl) B.len boot_len (pa_cons (pv 1) (pa_nil))) (pa_nil)))) (fun _ _ => rfl)))),
    body_ok (SndSP.mono (bs := []) (snds_ret (ps := [0, 1]) (snd_op snd_ix (snd_var) (snd_call (ms := [true, false]) rfl (snda_cons (snd_var) (snda_cons (snd_cb snd_len (snda_cons (snd_var) (snda_nil))) (snda_nil)))))) (by decide)) pf_law_of vs H Q E h⟩
theorem ok_law_of (F : ∃ fd, FunD K "_law_of" "_law_of" (defArgs (top 10)) (defBody (top 10)) (defScope (top 10)) [] [] (He.ga K "_law_of") fd) (at_ : mg "_law_of" = some (.ref (He.ga K "_law_of"))) (B : Blt mg) (g_law_pick : FP P w K mg base "_law_pick" 1 2 sp_law_pick) : FP P w K mg base "_law_of" 2 2 sp_law_of := by
  obtain ⟨fd, F⟩ := F
  exact ⟨⟨fd, ["bag", "things"], okn_law_of F at_ B g_law_pick, F.bindsN fun _ _ _ _ _ _ us hl => match us, hl with | [_, _], _ => rfl⟩, F.kp, at_⟩
theorem sc_law_copy : FnScope ["table", "lane"] ["table"] (defScope (top 16)) := ⟨rfl, rfl, rfl, by decide +kernel, rfl, by decide +kernel, by decide +kernel⟩
theorem okn_law_copy {fd : FuncData} (F : FunD K "_law_copy" "_law_copy" (defArgs (top 16)) (defBody (top 16)) (defScope (top 16)) [] [] (He.ga K "_law_copy") fd) (at_ : mg "_law_copy" = some (.ref (He.ga K "_law_copy"))) (B : Blt mg)  : FnOk P w K mg base CX0 1 (He.ga K "_law_copy") fd ["table"] (up K 1 sp_law_copy) := by
  have sc := sc_law_copy
  refine F.ok sc (fun _ _ _ _ h => h.1) (fun cdv A outer s H vs Q E hr h => ?_)
  exact ⟨_, PSs.nox (pss_one (ps_ret (pe_lc (own := [("lane", 1)]) (g := gName 1) rfl sc.nd (pi_list (pv 0)) (blkOk_by (by kernel_rfl)) (fun _ _ _ _ _ => pg_name (i := 1) sc.nd rfl (Or.inl rfl)) (fun _ _ _ _ _ => pts_nil) (fun _ _ _ _ _ => pe_callTy call_list_of (by rfl) B.list (by decide +kernel) (pa_cons (pv 1) (pa_nil)))))),
    body_ok (SndSP.mono (bs := []) (snds_ret (ps := []) (snd_comp (vs := [1]) (sndi_list (snd_var)) (sndg_name) (sndt_yes) (snd_cb snd_list (snda_cons (snd_var) (snda_nil))) (by decide))) (by decide)) pf_law_copy vs H Q E h⟩
theorem ok_law_copy (F : ∃ fd, FunD K "_law_copy" "_law_copy" (defArgs (top 16)) (defBody (top 16)) (defScope (top 16)) [] [] (He.ga K "_law_copy") fd) (at_ : mg "_law_copy" = some (.ref (He.ga K "_law_copy"))) (B : Blt mg)  : FP P w K mg base "_law_copy" 1 1 sp_law_copy := by
  obtain ⟨fd, F⟩ := F
  exact ⟨⟨fd, ["table"], okn_law_copy F at_ B , F.bindsN fun _ _ _ _ _ _ us hl => match us, hl with | [_], _ => rfl⟩, F.kp, at_⟩
theorem oknN_law_copy {fd : FuncData} (F : FunD K "_law_copy" "_law_copy" (defArgs (top 16)) (defBody (top 16)) (defScope (top 16)) [] [] (He.ga K "_law_copy") fd) (at_ : mg "_law_copy" = some (.ref (He.ga K "_law_copy"))) (B : Blt mg)  : FnOk P w K mg base CX0 1 (He.ga K "_law_copy") fd ["table"] (upN K 1 spN_law_copy) := by
  have sc := sc_law_copy
  refine F.ok sc (fun _ _ _ _ h => h.1) (fun cdv A outer s H vs Q E hr h => ?_)
  exact ⟨_, PSs.nox (pss_one (ps_ret (pe_lc (own := [("lane", 1)]) (g := gName 1) rfl sc.nd (pi_list (pv 0)) (blkOk_by (by kernel_rfl)) (fun _ _ _ _ _ => pg_name (i := 1) sc.nd rfl (Or.inl rfl)) (fun _ _ _ _ _ => pts_nil) (fun _ _ _ _ _ => pe_callTy call_list_of (by rfl) B.list (by decide +kernel) (pa_cons (pv 1) (pa_nil)))))), bodyN_ok (sgr_lc (vs := [1]) (sndi_list (snd_var)) (sndg_name) (sndt_yes) (snd_cb snd_list (snda_cons (snd_var) (snda_nil))) (by decide)) pfN_law_copy vs H Q E h⟩
theorem okN_law_copy (F : ∃ fd, FunD K "_law_copy" "_law_copy" (defArgs (top 16)) (defBody (top 16)) (defScope (top 16)) [] [] (He.ga K "_law_copy") fd) (at_ : mg "_law_copy" = some (.ref (He.ga K "_law_copy"))) (B : Blt mg)  : FPN P w K mg base "_law_copy" 1 1 spN_law_copy := by
  obtain ⟨fd, F⟩ := F
  exact ⟨⟨fd, ["table"], oknN_law_copy F at_ B , F.bindsN fun _ _ _ _ _ _ us hl => match us, hl with | [_], _ => rfl⟩, F.kp, at_⟩
theorem sc_inner : FnScope ["one", "other", "x", "y"] ["one", "other"] (defScope (top 1)) := ⟨rfl, rfl, rfl, by decide +kernel, rfl, by decide +kernel, by decide +kernel⟩
theorem okn_inner {fd : FuncData} (F : FunD K "inner" "inner" (defArgs (top 1)) (defBody (top 1)) (defScope (top 1)) [] [] (He.ga K "inner") fd) (at_ : mg "inner" = some (.ref (He.ga K "inner"))) (B : Blt mg)  : FnOk P w K mg base CX0 1 (He.ga K "inner") fd ["one", "other"] (up K 2 sp_inner) := by
  have sc := sc_inner
  refine F.ok sc (fun _ _ _ _ h => h.1) (fun cdv A outer s H vs Q E hr h => ?_)
  exact ⟨_, PSs.nox (pss_one (ps_ret (pe_callB (cr_sum rfl) (by rfl) B.sum (by decide +kernel) (pa_cons (pe_lc (own := [("x", 2), ("y", 3)]) (g := gTup K 2 (gCons (gName 2) (gCons (gName 3) (gNil)))) rfl sc.nd (ZM.pi_zipM (by rfl) B.zip (pa_cons (pv 0) (pa_cons (pv 1) pa_nil))) (blkOk_by (by kernel_rfl)) (fun _ _ _ _ _ => pg_tup rfl (pgs_cons (pg_name (i := 2) sc.nd rfl (Or.inl rfl)) (pgs_cons (pg_name (i := 3) sc.nd rfl (Or.inl rfl)) (pgs_nil)))) (fun _ _ _ _ _ => pts_nil) (fun _ _ _ _ _ => pe_op op_times (pv 2) (pv 3))) (pa_nil))))),
    body_ok (SndSP.mono (bs := []) (snds_ret (ps := []) (snd_cb snd_sum (snda_cons (snd_comp (vs := [2, 3]) (sndi_zipM (snd_var) (snd_var)) (sndg_tup (n := 2) (sndgs_cons (sndg_name) (sndgs_cons (sndg_name) (sndgs_nil)))) (sndt_yes) (snd_op snd_times (snd_var) (snd_var)) (by decide)) (snda_nil)))) (by decide)) pf_inner vs H Q E h⟩
theorem ok_inner (F : ∃ fd, FunD K "inner" "inner" (defArgs (top 1)) (defBody (top 1)) (defScope (top 1)) [] [] (He.ga K "inner") fd) (at_ : mg "inner" = some (.ref (He.ga K "inner"))) (B : Blt mg)  : FP P w K mg base "inner" 1 2 sp_inner := by
  obtain ⟨fd, F⟩ := F
  exact ⟨⟨fd, ["one", "other"], okn_inner F at_ B , F.bindsN fun _ _ _ _ _ _ us hl => match us, hl with | [_, _], _ => rfl⟩, F.kp, at_⟩
theorem sc_edge_row : FnScope ["rows", "size", "block", "edge", "column", "found", "power", "row"] ["rows", "size"] (defScope (top 3)) := ⟨rfl, rfl, rfl, by decide +kernel, rfl, by decide +kernel, by decide +kernel⟩
theorem okn_edge_row {fd : FuncData} (F : FunD K "edge_row" "edge_row" (defArgs (top 3)) (defBody (top 3)) (defScope (top 3)) [] [] (He.ga K "edge_row") fd) (at_ : mg "edge_row" = some (.ref (He.ga K "edge_row"))) (B : Blt mg) (g_inner : FP P w K mg base "inner" 1 2 sp_inner) : FnOk P w K mg base CX0 2 (He.ga K "edge_row") fd ["rows", "size"] (up K 2 sp_edge_row) := by
  have sc := sc_edge_row
  refine F.ok sc (fun _ _ _ _ h => h.1) (fun cdv A outer s H vs Q E hr h => ?_)
  exact ⟨_, PSs.nox (pss_cons (ps_setLc (i := 2) (own := [("row", 7)]) (g := gName 7) rfl sc.nd rfl rfl (sw_true rfl rfl rfl (by decide +kernel)) (pi_any (pe_slice sl_any (pv 0) (po_none) (po_some (pv 1)))) (blkOk_by (by kernel_rfl)) (fun _ _ _ _ _ => pg_name (i := 7) sc.nd rfl (Or.inl rfl)) (fun _ _ _ _ _ => pts_nil) (fun _ _ _ _ _ => pe_slice sl_any (pv 7) (po_none) (po_some (pv 1)))) (pss_cons (ps_set (i := 3) sc.nd rfl (Or.inl rfl) (pe_slice sl_any (pe_ix ix_seq (pv 0) (pv 1) (fun _ _ => rfl)) (po_none) (po_some (pv 1)))) (pss_cons (ps_set (i := 4) sc.nd rfl (Or.inr rfl) (pe_lc (own := [("row", 7)]) (g := gName 7) rfl sc.nd (pi_any (pe_slice sl_any (pv 0) (po_none) (po_some (pv 1)))) (blkOk_by (by kernel_rfl)) (fun _ _ _ _ _ => pg_name (i := 7) sc.nd rfl (Or.inl rfl)) (fun _ _ _ _ _ => pts_nil) (fun _ _ _ _ _ => pe_ix ix_seq (pv 7) (pv 1) (fun _ _ => rfl)))) (pss_cons (ps_set (i := 5) sc.nd rfl (Or.inl rfl) (pe_lst (pa_cons (pe_int) (pa_cons (pe_un un_neg (pe_ix ix_seq (pe_ix ix_seq (pv 0) (pv 1) (fun _ _ => rfl)) (pv 1) (fun _ _ => rfl))) (pa_nil))))) (pss_cons (ps_for PassesOwn.never rfl (pi_range1 (by rfl) B.range (pa_cons (pv 1) pa_nil)) (pg_name (i := 6) sc.nd rfl (Or.inl rfl)) (pss_cons (ps_expr (pe_bm PySem.F.plainAttrs_list PySem.F.slot_list_append PySem.F.type_list_append mt_append (pv 5) (pa_cons (pe_un un_neg (pe_f g_inner (Room.mono hr (by decide)) (by rfl) (pa_cons (pv 3) (pa_cons (pv 4) (pa_nil))))) (pa_nil)))) (pss_one (ps_set (i := 4) sc.nd rfl (Or.inr rfl) (pe_lc (own := [("row", 7)]) (g := gName 7) rfl sc.nd (pi_list (pv 2)) (blkOk_by (by kernel_rfl)) (fun _ _ _ _ _ => pg_name (i := 7) sc.nd rfl (Or.inl rfl)) (fun _ _ _ _ _ => pts_nil) (fun _ _ _ _ _ => pe_f g_inner (Room.mono hr (by decide)) (by rfl) (pa_cons (pv 7) (pa_cons (pv 4) (pa_nil))))))))) (pss_one (ps_ret (pv 5)))))))),
    body_ok (SndSP.mono (bs := [2, 3, 4, 5, 6]) (sndp_seq ((snds_set (snd_comp (vs := [7]) (sndi_any (snd_slice (snd_var) (sndo_none) (sndo_some (snd_var)))) (sndg_name) (sndt_yes) (snd_slice (snd_var) (sndo_none) (sndo_some (snd_var))) (by decide))).p) (sndp_seq ((snds_set (snd_slice (snd_op snd_ix (snd_var) (snd_var)) (sndo_none) (sndo_some (snd_var)))).p) (sndp_seq ((snds_set (snd_comp (vs := [7]) (sndi_any (snd_slice (snd_var) (sndo_none) (sndo_some (snd_var)))) (sndg_name) (sndt_yes) (snd_op snd_ix (snd_var) (snd_var)) (by decide))).p) (sndp_seq ((snds_setO (snd_lst (snda_cons (snd_int) (snda_cons (snd_un snd_neg (snd_op snd_ix (snd_op snd_ix (snd_var) (snd_var)) (snd_var))) (snda_nil))))).p) (sndp_seq (sndp_for (as := [4, 6]) (sndi_rng1 (snd_var)) (sndg_name) (sndp_seq ((snds_expr (snd_lm sndm_append (snd_var) (snda_cons (snd_un snd_neg (snd_call (ms := [false, false]) rfl (snda_cons (snd_var) (snda_cons (snd_var) (snda_nil))))) (snda_nil)))).p) ((snds_set (snd_comp (vs := [7]) (sndi_list (snd_var)) (sndg_name) (sndt_yes) (snd_call (ms := [false, false]) rfl (snda_cons (snd_var) (snda_cons (snd_var) (snda_nil)))) (by decide))).p)) (by decide)) (snds_ret (ps := []) (snd_var))))))) (by decide)) pf_edge_row vs H Q E h⟩
theorem ok_edge_row (F : ∃ fd, FunD K "edge_row" "edge_row" (defArgs (top 3)) (defBody (top 3)) (defScope (top 3)) [] [] (He.ga K "edge_row") fd) (at_ : mg "edge_row" = some (.ref (He.ga K "edge_row"))) (B : Blt mg) (g_inner : FP P w K mg base "inner" 1 2 sp_inner) : FP P w K mg base "edge_row" 2 2 sp_edge_row := by
  obtain ⟨fd, F⟩ := F
  exact ⟨⟨fd, ["rows", "size"], okn_edge_row F at_ B g_inner, F.bindsN fun _ _ _ _ _ _ us hl => match us, hl with | [_, _], _ => rfl⟩, F.kp, at_⟩
theorem sc_characteristic : FnScope ["rows", "told", "size", "edge", "longer", "at", "k"] ["rows"] (defScope (top 4)) := ⟨rfl, rfl, rfl, by decide +kernel, rfl, by decide +kernel, by decide +kernel⟩
theorem okn_characteristic {fd : FuncData} (F : FunD K "characteristic" "characteristic" (defArgs (top 4)) (defBody (top 4)) (defScope (top 4)) [] [] (He.ga K "characteristic") fd) (at_ : mg "characteristic" = some (.ref (He.ga K "characteristic"))) (B : Blt mg) (g_edge_row : FP P w K mg base "edge_row" 2 2 sp_edge_row) : FnOk P w K mg base CX0 3 (He.ga K "characteristic") fd ["rows"] (up K 1 sp_characteristic) := by
  have sc := sc_characteristic
  refine F.ok sc (fun _ _ _ _ h => h.1) (fun cdv A outer s H vs Q E hr h => ?_)
  exact ⟨_, PSs.nox (pss_cons (ps_set (i := 1) sc.nd rfl (Or.inr rfl) (pe_lst (pa_cons (pe_int) (pa_nil)))) (pss_cons (ps_for PassesOwn.never rfl (pi_range1 (by rfl) B.range (pa_cons (pe_callB call_len (by rfl) B.len boot_len (pa_cons (pv 0) (pa_nil))) pa_nil)) (pg_name (i := 2) sc.nd rfl (Or.inl rfl)) (pss_cons (ps_set (i := 3) sc.nd rfl (Or.inr rfl) (pe_f g_edge_row (Room.mono hr (by decide)) (by rfl) (pa_cons (pv 0) (pa_cons (pv 2) (pa_nil))))) (pss_cons (ps_set (i := 4) sc.nd rfl (Or.inl rfl) (pe_lst (pa_nil))) (pss_cons (ps_for PassesOwn.never rfl (pi_range1 (by rfl) B.range (pa_cons (pe_op op_plus (pv 2) (pe_int)) pa_nil)) (pg_name (i := 5) sc.nd rfl (Or.inr rfl)) (pss_one (ps_expr (pe_bm PySem.F.plainAttrs_list PySem.F.slot_list_append PySem.F.type_list_append mt_append (pv 4) (pa_cons (pe_callB (cr_sum rfl) (by rfl) B.sum (by decide +kernel) (pa_cons (pe_lc (own := [("k", 6)]) (g := gName 6) rfl sc.nd (pi_range1 (by rfl) B.range (pa_cons (pe_op op_plus (pe_callB (call_min2 rfl) (by rfl) B.min (by decide +kernel) (pa_cons (pv 5) (pa_cons (pv 2) (pa_nil)))) (pe_int)) pa_nil)) (blkOk_by (by kernel_rfl)) (fun _ _ _ _ _ => pg_name (i := 6) sc.nd rfl (Or.inl rfl)) (fun _ _ _ _ _ => pts_nil) (fun _ _ _ _ _ => pe_op op_mulW (pe_ix ix_seq (pv 3) (pe_op op_sub (pv 5) (pv 6)) (fun _ _ => rfl)) (pe_ix ix_seq (pv 1) (pv 6) (fun _ _ => rfl)))) (pa_nil))) (pa_nil)))))) (pss_one (ps_set (i := 1) sc.nd rfl (Or.inr rfl) (pv 4))))))) (pss_one (ps_ret (pv 1))))),
    body_ok (SndSP.mono (bs := [1, 2, 3, 4, 5]) (sndp_seq ((snds_setO (snd_lst (snda_cons (snd_int) (snda_nil)))).p) (sndp_seq (sndp_for (as := [1, 2, 3, 4, 5]) (sndi_rng1 (snd_cb snd_len (snda_cons (snd_var) (snda_nil)))) (sndg_name) (sndp_seq ((snds_set (snd_call (ms := [false, false]) rfl (snda_cons (snd_var) (snda_cons (snd_var) (snda_nil))))).p) (sndp_seq ((snds_setO (snd_lst (snda_nil))).p) (sndp_seq (sndp_for (as := [5]) (sndi_rng1 (snd_op snd_plus (snd_var) (snd_int))) (sndg_name) ((snds_expr (snd_lm sndm_append (snd_var) (snda_cons (snd_cb snd_sum (snda_cons (snd_comp (vs := [6]) (sndi_rng1 (snd_op snd_plus (snd_cb snd_min2 (snda_cons (snd_var) (snda_cons (snd_var) (snda_nil)))) (snd_int))) (sndg_name) (sndt_yes) (snd_op snd_timesW (snd_op snd_ix (snd_var) (snd_op snd_minus (snd_var) (snd_var))) (snd_op snd_ix (snd_var) (snd_var))) (by decide)) (snda_nil))) (snda_nil)))).p) (by decide)) ((snds_move (i := 1) (j := 4)).p)))) (by decide)) (snds_ret (ps := []) (snd_var)))) (by decide)) pf_characteristic vs H Q E h⟩
theorem ok_characteristic (F : ∃ fd, FunD K "characteristic" "characteristic" (defArgs (top 4)) (defBody (top 4)) (defScope (top 4)) [] [] (He.ga K "characteristic") fd) (at_ : mg "characteristic" = some (.ref (He.ga K "characteristic"))) (B : Blt mg) (g_edge_row : FP P w K mg base "edge_row" 2 2 sp_edge_row) : FP P w K mg base "characteristic" 3 1 sp_characteristic := by
  obtain ⟨fd, F⟩ := F
  exact ⟨⟨fd, ["rows"], okn_characteristic F at_ B g_edge_row, F.bindsN fun _ _ _ _ _ _ us hl => match us, hl with | [_], _ => rfl⟩, F.kp, at_⟩
theorem sc_tone_row : FnScope ["rows"] ["rows"] (defScope (top 6)) := ⟨rfl, rfl, rfl, by decide +kernel, rfl, by decide +kernel, by decide +kernel⟩
theorem okn_tone_row {fd : FuncData} (F : FunD K "tone_row" "tone_row" (defArgs (top 6)) (defBody (top 6)) (defScope (top 6)) [] [] (He.ga K "tone_row") fd) (at_ : mg "tone_row" = some (.ref (He.ga K "tone_row"))) (B : Blt mg) (g_characteristic : FP P w K mg base "characteristic" 3 1 sp_characteristic) : FnOk P w K mg base CX0 4 (He.ga K "tone_row") fd ["rows"] (up K 1 sp_tone_row) := by
  have sc := sc_tone_row
  refine F.ok sc (fun _ _ _ _ h => h.1) (fun cdv A outer s H vs Q E hr h => ?_)
  exact ⟨_, PSs.nox (pss_one (ps_ret (pe_f g_characteristic (Room.mono hr (by decide)) (by rfl) (pa_cons (pv 0) (pa_nil))))),
    body_ok (SndSP.mono (bs := []) (snds_ret (ps := []) (snd_call (ms := [false]) rfl (snda_cons (snd_var) (snda_nil)))) (by decide)) pf_tone_row vs H Q E h⟩
theorem ok_tone_row (F : ∃ fd, FunD K "tone_row" "tone_row" (defArgs (top 6)) (defBody (top 6)) (defScope (top 6)) [] [] (He.ga K "tone_row") fd) (at_ : mg "tone_row" = some (.ref (He.ga K "tone_row"))) (B : Blt mg) (g_characteristic : FP P w K mg base "characteristic" 3 1 sp_characteristic) : FP P w K mg base "tone_row" 4 1 sp_tone_row := by
  obtain ⟨fd, F⟩ := F
  exact ⟨⟨fd, ["rows"], okn_tone_row F at_ B g_characteristic, F.bindsN fun _ _ _ _ _ _ us hl => match us, hl with | [_], _ => rfl⟩, F.kp, at_⟩
theorem okk_tone_row_0_0 (F : ∃ fd, FunD K "tone_row" "tone_row" (defArgs (top 6)) (defBody (top 6)) (defScope (top 6)) [] [] (He.ga K "tone_row") fd) (at_ : mg "tone_row" = some (.ref (He.ga K "tone_row"))) (B : Blt mg) (g_characteristic : FP P w K mg base "characteristic" 3 1 sp_characteristic) : FK P w K mg base "tone_row" 4 1 sp_tone_row 0 ["rows"] [0] := by
  obtain ⟨fd, F⟩ := F
  exact ⟨⟨fd, ["rows"], okn_tone_row F at_ B g_characteristic, fun s us ws _ l1 l2 => fk_bind F (ks := ["rows"]) (us := us) (ws := ws) (zs := pk [0] (us ++ ws)) (fun _ _ _ _ _ _ => match us, l1, ws, l2 with | [], _, [_], _ => rfl) s⟩, F.kp, at_⟩
theorem sc_law_mul : FnScope ["first", "second", "told", "i", "j"] ["first", "second"] (defScope (top 20)) := ⟨rfl, rfl, rfl, by decide +kernel, rfl, by decide +kernel, by decide +kernel⟩
theorem okn_law_mul {fd : FuncData} (F : FunD K "_law_mul" "_law_mul" (defArgs (top 20)) (defBody (top 20)) (defScope (top 20)) [] [] (He.ga K "_law_mul") fd) (at_ : mg "_law_mul" = some (.ref (He.ga K "_law_mul"))) (B : Blt mg)  : FnOk P w K mg base CX0 1 (He.ga K "_law_mul") fd ["first", "second"] (up K 2 sp_law_mul) := by
  have sc := sc_law_mul
  refine F.ok sc (fun _ _ _ _ h => h.1) (fun cdv A outer s H vs Q E hr h => ?_)
  exact ⟨_, PSs.nox (pss_cons (ps_setLc (i := 2) (own := [("i", 3)]) (g := gName 3) rfl sc.nd rfl rfl (sw_true rfl rfl rfl (by decide +kernel)) (pi_range1 (by rfl) B.range (pa_cons (pe_op op_sub (pe_op op_plus (pe_callB call_len (by rfl) B.len boot_len (pa_cons (pv 0) (pa_nil))) (pe_callB call_len (by rfl) B.len boot_len (pa_cons (pv 1) (pa_nil)))) (pe_int)) pa_nil)) (blkOk_by (by kernel_rfl)) (fun _ _ _ _ _ => pg_name (i := 3) sc.nd rfl (Or.inl rfl)) (fun _ _ _ _ _ => pts_nil) (fun _ _ _ _ _ => pe_int)) (pss_cons (ps_for PassesOwn.never rfl (pi_range1 (by rfl) B.range (pa_cons (pe_callB call_len (by rfl) B.len boot_len (pa_cons (pv 0) (pa_nil))) pa_nil)) (pg_name (i := 3) sc.nd rfl (Or.inl rfl)) (pss_one (ps_for PassesOwn.never rfl (pi_range1 (by rfl) B.range (pa_cons (pe_callB call_len (by rfl) B.len boot_len (pa_cons (pv 1) (pa_nil))) pa_nil)) (pg_name (i := 4) sc.nd rfl (Or.inl rfl)) (pss_one (ps_asg (pe_op op_plus (pe_ix ix_seq (pv 2) (pe_op op_plus (pv 3) (pv 4)) (fun _ _ => rfl)) (pe_op op_times (pe_ix ix_seq (pv 0) (pv 3) (fun _ _ => rfl)) (pe_ix ix_seq (pv 1) (pv 4) (fun _ _ => rfl)))) (pg_sub (pv 2) (pe_op op_plus (pv 3) (pv 4)) set_list)))))) (pss_one (ps_ret (pv 2))))),
    body_ok (SndSP.mono (bs := [2, 3, 4]) (sndp_seq ((snds_setO (snd_comp (vs := [3]) (sndi_rng1 (snd_op snd_minus (snd_op snd_plus (snd_cb snd_len (snda_cons (snd_var) (snda_nil))) (snd_cb snd_len (snda_cons (snd_var) (snda_nil)))) (snd_int))) (sndg_name) (sndt_yes) (snd_int) (by decide))).p) (sndp_seq (sndp_for (as := [3, 4]) (sndi_rng1 (snd_cb snd_len (snda_cons (snd_var) (snda_nil)))) (sndg_name) (sndp_for (as := [4]) (sndi_rng1 (snd_cb snd_len (snda_cons (snd_var) (snda_nil)))) (sndg_name) ((snds_asg (snd_op snd_plus (snd_op snd_ix (snd_var) (snd_op snd_plus (snd_var) (snd_var))) (snd_op snd_times (snd_op snd_ix (snd_var) (snd_var)) (snd_op snd_ix (snd_var) (snd_var)))) (sndg_sub (snd_var) (snd_op snd_plus (snd_var) (snd_var)))).p) (by decide)) (by decide)) (snds_ret (ps := []) (snd_var)))) (by decide)) pf_law_mul vs H Q E h⟩
theorem ok_law_mul (F : ∃ fd, FunD K "_law_mul" "_law_mul" (defArgs (top 20)) (defBody (top 20)) (defScope (top 20)) [] [] (He.ga K "_law_mul") fd) (at_ : mg "_law_mul" = some (.ref (He.ga K "_law_mul"))) (B : Blt mg)  : FP P w K mg base "_law_mul" 1 2 sp_law_mul := by
  obtain ⟨fd, F⟩ := F
  exact ⟨⟨fd, ["first", "second"], okn_law_mul F at_ B , F.bindsN fun _ _ _ _ _ _ us hl => match us, hl with | [_, _], _ => rfl⟩, F.kp, at_⟩
theorem sc_law_known : FnScope ["bag", "told", "due", "wide", "lanes", "at_row", "turn", "i", "k", "factor", "c", "root", "p", "q", "lane", "j"] ["bag"] (defScope (top 22)) := ⟨rfl, rfl, rfl, by decide +kernel, rfl, by decide +kernel, by decide +kernel⟩
theorem okn_law_known {fd : FuncData} (F : FunD K "_law_known" "_law_known" (defArgs (top 22)) (defBody (top 22)) (defScope (top 22)) [] [] (He.ga K "_law_known") fd) (at_ : mg "_law_known" = some (.ref (He.ga K "_law_known"))) (B : Blt mg) (g_law_of : FP P w K mg base "_law_of" 2 2 sp_law_of) (g_law_pick : FP P w K mg base "_law_pick" 1 2 sp_law_pick) (g_law_mul : FP P w K mg base "_law_mul" 1 2 sp_law_mul) : FnOk P w K mg base CX0 3 (He.ga K "_law_known") fd ["bag"] (up K 1 sp_law_known) := by
  have sc := sc_law_known
  refine F.ok sc (fun _ _ _ _ h => h.1) (fun cdv A outer s H vs Q E hr h => ?_)
  exact ⟨_, PSs.nox (pss_cons (ps_asg (pe_tup (pa_cons (pe_lst (pa_nil)) (pa_cons (pe_lst (pa_cons (pe_int) (pa_nil))) (pa_cons (pe_op op_plus (pe_int) (pe_f g_law_of (Room.mono hr (by decide)) (by rfl) (pa_cons (pv 0) (pa_cons (pe_lst (pa_cons (pe_int) (pa_cons (pe_int) (pa_cons (pe_int) (pa_cons (pe_int) (pa_cons (pe_int) (pa_cons (pe_int) (pa_cons (pe_int) (pa_nil))))))))) (pa_nil))))) (pa_nil))))) (pg_tup rfl (pgs_cons (pg_name (i := 1) sc.nd rfl (Or.inl rfl)) (pgs_cons (pg_name (i := 2) sc.nd rfl (Or.inl rfl)) (pgs_cons (pg_name (i := 3) sc.nd rfl (Or.inr rfl)) (pgs_nil)))))) (pss_cons (ps_par (i := 4) (j := 5) rfl sc.nd rfl rfl (by decide) rfl rfl (pa_cons (pe_lc (own := [("i", 7)]) (g := gName 7) rfl sc.nd (pi_range1 (by rfl) B.range (pa_cons (pv 3) pa_nil)) (blkOk_by (by kernel_rfl)) (fun _ _ _ _ _ => pg_name (i := 7) sc.nd rfl (Or.inl rfl)) (fun _ _ _ _ _ => pts_nil) (fun _ _ _ _ _ => pe_lc (own := [("j", 15)]) (g := gName 15) rfl sc.nd (pi_range1 (by rfl) B.range (pa_cons (pv 3) pa_nil)) (blkOk_by (by kernel_rfl)) (fun _ _ _ _ _ => pg_name (i := 15) sc.nd rfl (Or.inl rfl)) (fun _ _ _ _ _ => pts_nil) (fun _ _ _ _ _ => pe_int))) (pa_cons (pe_int) pa_nil)) (by rfl)) (pss_cons (ps_for PassesOwn.never rfl (pi_range1 (by rfl) B.range (pa_cons (pv 3) pa_nil)) (pg_name (i := 6) sc.nd rfl (Or.inl rfl)) (pss_one (ps_if (PW.pt (pw_and (pt_cmpR op_lt (pe_op op_plus (pv 5) (pe_int)) (pv 3) (nomark _)) (pw_and1 (pt_cmpR (op_eqE hr.units) (pe_f g_law_pick (Room.mono hr (by decide)) (by rfl) (pa_cons (pv 0) (pa_cons (pe_int) (pa_nil)))) (pe_int) (nomark _))))) (pss_cons (ps_set (i := 10) sc.nd rfl (Or.inl rfl) (pe_f g_law_of (Room.mono hr (by decide)) (by rfl) (pa_cons (pv 0) (pa_cons (pe_lst (pa_cons (pe_int) (pa_cons (pe_un un_neg (pe_int)) (pa_cons (pe_int) (pa_cons (pe_int) (pa_cons (pe_un un_neg (pe_int)) (pa_cons (pe_int) (pa_cons (pe_int) (pa_nil))))))))) (pa_nil))))) (pss_cons (ps_asg (pv 10) (pg_sub (pe_ix ix_seq (pv 4) (pv 5) (fun _ _ => rfl)) (pe_op op_plus (pv 5) (pe_int)) set_list)) (pss_cons (ps_asg (pe_int) (pg_sub (pe_ix ix_seq (pv 4) (pe_op op_plus (pv 5) (pe_int)) (fun _ _ => rfl)) (pv 5) set_list)) (pss_one (ps_par (i := 2) (j := 5) rfl sc.nd rfl rfl (by decide) rfl rfl (pa_cons (pe_f g_law_mul (Room.mono hr (by decide)) (by rfl) (pa_cons (pv 2) (pa_cons (pe_lst (pa_cons (pe_int) (pa_cons (pe_int) (pa_cons (pe_un un_neg (pv 10)) (pa_nil))))) (pa_nil)))) (pa_cons (pe_op op_plus (pv 5) (pe_int)) (pa_nil))) (by rfl)))))) (pss_one (ps_if (pt_cmpR op_lt (pv 5) (pv 3) (nomark _)) (pss_cons (ps_set (i := 11) sc.nd rfl (Or.inl rfl) (pe_f g_law_of (Room.mono hr (by decide)) (by rfl) (pa_cons (pv 0) (pa_cons (pe_lst (pa_cons (pe_int) (pa_cons (pe_int) (pa_cons (pe_un un_neg (pe_int)) (pa_cons (pe_int) (pa_cons (pe_un un_neg (pe_int)) (pa_cons (pe_int) (pa_cons (pe_int) (pa_cons (pe_int) (pa_nil)))))))))) (pa_nil))))) (pss_cons (ps_asg (pv 11) (pg_sub (pe_ix ix_seq (pv 4) (pv 5) (fun _ _ => rfl)) (pv 5) set_list)) (pss_one (ps_par (i := 2) (j := 5) rfl sc.nd rfl rfl (by decide) rfl rfl (pa_cons (pe_f g_law_mul (Room.mono hr (by decide)) (by rfl) (pa_cons (pv 2) (pa_cons (pe_lst (pa_cons (pe_int) (pa_cons (pe_un un_neg (pv 11)) (pa_nil)))) (pa_nil)))) (pa_cons (pe_op op_plus (pv 5) (pe_int)) (pa_nil))) (by rfl))))) (pss_nil)))))) (pss_cons (ps_for PassesOwn.never rfl (pi_range1 (by rfl) B.range (pa_cons (pe_ifExp (pt_cmpR op_gt (pv 3) (pe_int) (nomark _)) (pe_int) (pe_int)) pa_nil)) (pg_name (i := 6) sc.nd rfl (Or.inl rfl)) (pss_cons (ps_set (i := 7) sc.nd rfl (Or.inr rfl) (pe_f g_law_pick (Room.mono hr (by decide)) (by rfl) (pa_cons (pv 0) (pa_cons (pv 3) (pa_nil))))) (pss_cons (ps_set (i := 8) sc.nd rfl (Or.inr rfl) (pe_op op_mod (pe_callTy call_int1 (by rfl) B.int (by decide +kernel) (pa_cons (pe_op op_plus (pe_op op_plus (pv 7) (pe_int)) (pe_f g_law_pick (Room.mono hr (by decide)) (by rfl) (pa_cons (pv 0) (pa_cons (pe_op op_sub (pv 3) (pe_int)) (pa_nil))))) (pa_nil))) (pv 3))) (pss_cons (ps_set (i := 9) sc.nd rfl (Or.inr rfl) (pe_f g_law_of (Room.mono hr (by decide)) (by rfl) (pa_cons (pv 0) (pa_cons (pe_lst (pa_cons (pe_int) (pa_cons (pe_un un_neg (pe_int)) (pa_cons (pe_int) (pa_nil))))) (pa_nil))))) (pss_cons (ps_asg (pe_lc (own := [("p", 12), ("q", 13)]) (g := gTup K 2 (gCons (gName 12) (gCons (gName 13) (gNil)))) rfl sc.nd (pi_zip (by rfl) B.zip (pa_cons (pe_ix ix_seq (pv 4) (pv 7) (fun _ _ => rfl)) (pa_cons (pe_ix ix_seq (pv 4) (pv 8) (fun _ _ => rfl)) pa_nil))) (blkOk_by (by kernel_rfl)) (fun _ _ _ _ _ => pg_tup rfl (pgs_cons (pg_name (i := 12) sc.nd rfl (Or.inl rfl)) (pgs_cons (pg_name (i := 13) sc.nd rfl (Or.inl rfl)) (pgs_nil)))) (fun _ _ _ _ _ => pts_nil) (fun _ _ _ _ _ => pe_op op_plus (pv 12) (pe_op op_times (pv 9) (pv 13)))) (pg_sub (pv 4) (pv 7) set_list)) (pss_cons (ps_setLc (i := 4) (own := [("lane", 14)]) (g := gName 14) rfl sc.nd rfl rfl (sw_true rfl rfl rfl (by decide +kernel)) (pi_list (pv 4)) (blkOk_by (by kernel_rfl)) (fun _ _ _ _ _ => pg_name (i := 14) sc.nd rfl (Or.inr rfl)) (fun _ _ _ _ _ => pts_nil) (fun _ _ _ _ _ => pe_lc (own := [("j", 15)]) (g := gName 15) rfl sc.nd (pi_range1 (by rfl) B.range (pa_cons (pv 3) pa_nil)) (blkOk_by (by kernel_rfl)) (fun _ _ _ _ _ => pg_name (i := 15) sc.nd rfl (Or.inl rfl)) (fun _ _ _ _ _ => pts_nil) (fun _ _ _ _ _ => pe_op op_sub (pe_ix ix_seq (pv 14) (pv 15) (fun _ _ => rfl)) (pe_ifExp (pt_cmpR (op_eqE hr.units) (pv 15) (pv 8) (nomark _)) (pe_op op_times (pv 9) (pe_ix ix_seq (pv 14) (pv 7) (fun _ _ => rfl))) (pe_int))))) (pss_nil))))))) (pss_one (ps_ret (pe_tup (pa_cons (pv 4) (pa_cons (pv 2) (pa_nil)))))))))),
    body_ok (SndSP.mono (bs := [1, 2, 3, 4, 5, 6, 7, 8, 9, 10, 11]) (sndp_seq ((snds_parN (is := [1, 2, 3]) (n := 3) [true, false, false] (snda_cons (snd_lst (snda_nil)) (snda_cons (snd_lst (snda_cons (snd_int) (snda_nil))) (snda_cons (snd_op snd_plus (snd_int) (snd_call (ms := [true, true]) rfl (snda_cons (snd_var) (snda_cons (snd_lst (snda_cons (snd_int) (snda_cons (snd_int) (snda_cons (snd_int) (snda_cons (snd_int) (snda_cons (snd_int) (snda_cons (snd_int) (snda_cons (snd_int) (snda_nil))))))))) (snda_nil))))) (snda_nil)))) rfl).p) (sndp_grid2 (m := 4) (o := 5) (vs := [7]) (sndi_rng1 (snd_var)) (sndg_name) (sndt_yes) (snd_comp (vs := [15]) (sndi_rng1 (snd_var)) (sndg_name) (sndt_yes) (snd_int) (by decide)) (by decide) (snd_int) (sndyp_seq (sndy_for (as := [2, 5, 6, 10, 11]) (sndi_rng1 (snd_var)) (sndg_name) (sndy_if (sndt_and (sndt_test (snd_op (snd_icmp (p := fun i j => decide (i < j))) (snd_op snd_plus (snd_var) (snd_int)) (snd_var))) (sndt_test (snd_op snd_eq (snd_call (ms := [true, false]) rfl (snda_cons (snd_var) (snda_cons (snd_int) (snda_nil)))) (snd_int)))) (sndy_seq (sndy_plain ((snds_set (snd_call (ms := [true, true]) rfl (snda_cons (snd_var) (snda_cons (snd_lst (snda_cons (snd_int) (snda_cons (snd_un snd_neg (snd_int)) (snda_cons (snd_int) (snda_cons (snd_int) (snda_cons (snd_un snd_neg (snd_int)) (snda_cons (snd_int) (snda_cons (snd_int) (snda_nil))))))))) (snda_nil))))).p) (by decide)) (sndy_seq (sndy_put (m := 4) (snd_var) (snd_var) (snd_op snd_plus (snd_var) (snd_int))) (sndy_seq (sndy_put (m := 4) (snd_int) (snd_op snd_plus (snd_var) (snd_int)) (snd_var)) (sndy_plain ((snds_par2 false false (snda_cons (snd_call (ms := [false, false]) rfl (snda_cons (snd_var) (snda_cons (snd_lst (snda_cons (snd_int) (snda_cons (snd_int) (snda_cons (snd_un snd_neg (snd_var)) (snda_nil))))) (snda_nil)))) (snda_cons (snd_op snd_plus (snd_var) (snd_int)) (snda_nil)))).p) (by decide))))) (sndy_if (sndt_test (snd_op (snd_icmp (p := fun i j => decide (i < j))) (snd_var) (snd_var))) (sndy_seq (sndy_plain ((snds_set (snd_call (ms := [true, true]) rfl (snda_cons (snd_var) (snda_cons (snd_lst (snda_cons (snd_int) (snda_cons (snd_int) (snda_cons (snd_un snd_neg (snd_int)) (snda_cons (snd_int) (snda_cons (snd_un snd_neg (snd_int)) (snda_cons (snd_int) (snda_cons (snd_int) (snda_cons (snd_int) (snda_nil)))))))))) (snda_nil))))).p) (by decide)) (sndy_seq (sndy_put (m := 4) (snd_var) (snd_var) (snd_var)) (sndy_plain ((snds_par2 false false (snda_cons (snd_call (ms := [false, false]) rfl (snda_cons (snd_var) (snda_cons (snd_lst (snda_cons (snd_int) (snda_cons (snd_un snd_neg (snd_var)) (snda_nil)))) (snda_nil)))) (snda_cons (snd_op snd_plus (snd_var) (snd_int)) (snda_nil)))).p) (by decide)))) (sndy_plain (snds_next.p) (by decide)))) (by decide) (by decide)) (sndyp_free (sndp_seq (sndp_for (as := [4, 6, 7, 8, 9]) (sndi_rng1 (snd_if (sndt_test (snd_op (snd_icmp (p := fun i j => decide (j < i))) (snd_var) (snd_int))) (snd_int) (snd_int))) (sndg_name) (sndp_seq ((snds_set (snd_call (ms := [true, false]) rfl (snda_cons (snd_var) (snda_cons (snd_var) (snda_nil))))).p) (sndp_seq ((snds_set (snd_op snd_mod (snd_cb snd_int1 (snda_cons (snd_op snd_plus (snd_op snd_plus (snd_var) (snd_int)) (snd_call (ms := [true, false]) rfl (snda_cons (snd_var) (snda_cons (snd_op snd_minus (snd_var) (snd_int)) (snda_nil))))) (snda_nil))) (snd_var))).p) (sndp_seq ((snds_set (snd_call (ms := [true, true]) rfl (snda_cons (snd_var) (snda_cons (snd_lst (snda_cons (snd_int) (snda_cons (snd_un snd_neg (snd_int)) (snda_cons (snd_int) (snda_nil))))) (snda_nil))))).p) (sndp_seq ((snds_asg (snd_comp (vs := [12, 13]) (sndi_zip (snd_op snd_ix (snd_var) (snd_var)) (snd_op snd_ix (snd_var) (snd_var))) (sndg_tup (n := 2) (sndgs_cons (sndg_name) (sndgs_cons (sndg_name) (sndgs_nil)))) (sndt_yes) (snd_op snd_plus (snd_var) (snd_op snd_times (snd_var) (snd_var))) (by decide)) (sndg_sub (snd_var) (snd_var))).p) (sndp_grid (m := 4) (vs := [14]) (sndi_list (snd_var)) (sndg_name) (sndt_yes) (snd_comp (vs := [15]) (sndi_rng1 (snd_var)) (sndg_name) (sndt_yes) (snd_op snd_minus (snd_op snd_ix (snd_var) (snd_var)) (snd_if (sndt_test (snd_op snd_eq (snd_var) (snd_var))) (snd_op snd_times (snd_var) (snd_op snd_ix (snd_var) (snd_var))) (snd_int))) (by decide)) (by decide) (sndyp_free (snds_next.p) (by decide))))))) (by decide)) (snds_ret (ps := [0]) (snd_tup (snda_cons (snd_varz) (snda_cons (snd_var) (snda_nil)))))) (by decide))))) (by decide)) pf_law_known vs H Q E h⟩
theorem ok_law_known (F : ∃ fd, FunD K "_law_known" "_law_known" (defArgs (top 22)) (defBody (top 22)) (defScope (top 22)) [] [] (He.ga K "_law_known") fd) (at_ : mg "_law_known" = some (.ref (He.ga K "_law_known"))) (B : Blt mg) (g_law_of : FP P w K mg base "_law_of" 2 2 sp_law_of) (g_law_pick : FP P w K mg base "_law_pick" 1 2 sp_law_pick) (g_law_mul : FP P w K mg base "_law_mul" 1 2 sp_law_mul) : FP P w K mg base "_law_known" 3 1 sp_law_known := by
  obtain ⟨fd, F⟩ := F
  exact ⟨⟨fd, ["bag"], okn_law_known F at_ B g_law_of g_law_pick g_law_mul, F.bindsN fun _ _ _ _ _ _ us hl => match us, hl with | [_], _ => rfl⟩, F.kp, at_⟩
theorem sc_law_is_int : FnScope ["thing"] ["thing"] (defScope (top 14)) := ⟨rfl, rfl, rfl, by decide +kernel, rfl, by decide +kernel, by decide +kernel⟩
theorem okn_law_is_int {fd : FuncData} (F : FunD K "_law_is_int" "_law_is_int" (defArgs (top 14)) (defBody (top 14)) (defScope (top 14)) [] [] (He.ga K "_law_is_int") fd) (at_ : mg "_law_is_int" = some (.ref (He.ga K "_law_is_int"))) (B : Blt mg)  : FnOk P w K mg base CX0 1 (He.ga K "_law_is_int") fd ["thing"] (up K 1 sp_law_is_int) := by
  have sc := sc_law_is_int
  refine F.ok sc (fun _ _ _ _ h => h.1) (fun cdv A outer s H vs Q E hr h => ?_)
  exact ⟨_, PSs.nox (pss_one (ps_ret (pe_and (pe_callB call_isi (by rfl) B.isinstance (by decide +kernel) (pa_cons (pv 0) (pa_cons (pe_bltn (v := .ty "int") (u := .type "int") (by rfl) B.int (by decide +kernel) rfl) pa_nil))) (pe_one (pe_not (pe_callB call_isi (by rfl) B.isinstance (by decide +kernel) (pa_cons (pv 0) (pa_cons (pe_bltn (v := .ty "bool") (u := .type "bool") (by rfl) B.bool (by decide +kernel) rfl) pa_nil)))))))),
    body_ok (SndSP.mono (bs := []) (snds_ret (ps := []) (snd_andV (snd_isi .int rfl (snd_var)) (snd_notV (snd_isi .bool rfl (snd_var))))) (by decide)) pf_law_is_int vs H Q E h⟩
theorem ok_law_is_int (F : ∃ fd, FunD K "_law_is_int" "_law_is_int" (defArgs (top 14)) (defBody (top 14)) (defScope (top 14)) [] [] (He.ga K "_law_is_int") fd) (at_ : mg "_law_is_int" = some (.ref (He.ga K "_law_is_int"))) (B : Blt mg)  : FP P w K mg base "_law_is_int" 1 1 sp_law_is_int := by
  obtain ⟨fd, F⟩ := F
  exact ⟨⟨fd, ["thing"], okn_law_is_int F at_ B , F.bindsN fun _ _ _ _ _ _ us hl => match us, hl with | [_], _ => rfl⟩, F.kp, at_⟩
theorem sc_law_numbers : FnScope ["told", "wide", "thing"] ["told", "wide"] (defScope (top 15)) := ⟨rfl, rfl, rfl, by decide +kernel, rfl, by decide +kernel, by decide +kernel⟩
theorem okn_law_numbers {fd : FuncData} (F : FunD K "_law_numbers" "_law_numbers" (defArgs (top 15)) (defBody (top 15)) (defScope (top 15)) [] [] (He.ga K "_law_numbers") fd) (at_ : mg "_law_numbers" = some (.ref (He.ga K "_law_numbers"))) (B : Blt mg) (g_law_is_int : FP P w K mg base "_law_is_int" 1 1 sp_law_is_int) : FnOk P w K mg base CX0 2 (He.ga K "_law_numbers") fd ["told", "wide"] (up K 2 sp_law_numbers) := by
  have sc := sc_law_numbers
  refine F.ok sc (fun _ _ _ _ h => h.1) (fun cdv A outer s H vs Q E hr h => ?_)
  exact ⟨_, PSs.nox (pss_one (ps_ret (pe_and (pe_callB call_isi (by rfl) B.isinstance (by decide +kernel) (pa_cons (pv 0) (pa_cons (pe_bltn (v := .ty "list") (u := .type "list") (by rfl) B.list (by decide +kernel) rfl) pa_nil))) (pe_and (pe_cmpR (op_eqE hr.units) (pe_callB call_len (by rfl) B.len boot_len (pa_cons (pv 0) (pa_nil))) (pv 1) (nomark _)) (pe_one (pe_callB (cr_all rfl) (by rfl) B.all (by decide +kernel) (pa_cons (pe_lc (own := [("thing", 2)]) (g := gName 2) rfl sc.nd (pi_list (pv 0)) (blkOk_by (by kernel_rfl)) (fun _ _ _ _ _ => pg_name (i := 2) sc.nd rfl (Or.inl rfl)) (fun _ _ _ _ _ => pts_nil) (fun _ _ _ _ _ => pe_f g_law_is_int (Room.mono hr (by decide)) (by rfl) (pa_cons (pv 2) (pa_nil)))) (pa_nil)))))))),
    body_ok (SndSP.mono (bs := []) (snds_ret (ps := []) (snd_andV (snd_isi .list rfl (snd_var)) (snd_andV (snd_op snd_eq (snd_cb snd_len (snda_cons (snd_var) (snda_nil))) (snd_var)) (snd_cb snd_all (snda_cons (snd_comp (vs := [2]) (sndi_list (snd_var)) (sndg_name) (sndt_yes) (snd_call (ms := [false]) rfl (snda_cons (snd_var) (snda_nil))) (by decide)) (snda_nil)))))) (by decide)) pf_law_numbers vs H Q E h⟩
theorem ok_law_numbers (F : ∃ fd, FunD K "_law_numbers" "_law_numbers" (defArgs (top 15)) (defBody (top 15)) (defScope (top 15)) [] [] (He.ga K "_law_numbers") fd) (at_ : mg "_law_numbers" = some (.ref (He.ga K "_law_numbers"))) (B : Blt mg) (g_law_is_int : FP P w K mg base "_law_is_int" 1 1 sp_law_is_int) : FP P w K mg base "_law_numbers" 2 2 sp_law_numbers := by
  obtain ⟨fd, F⟩ := F
  exact ⟨⟨fd, ["told", "wide"], okn_law_numbers F at_ B g_law_is_int, F.bindsN fun _ _ _ _ _ _ us hl => match us, hl with | [_, _], _ => rfl⟩, F.kp, at_⟩
theorem sc_law_at : FnScope ["told", "spot", "total", "thing"] ["told", "spot"] (defScope (top 23)) := ⟨rfl, rfl, rfl, by decide +kernel, rfl, by decide +kernel, by decide +kernel⟩
theorem okn_law_at {fd : FuncData} (F : FunD K "_law_at" "_law_at" (defArgs (top 23)) (defBody (top 23)) (defScope (top 23)) [] [] (He.ga K "_law_at") fd) (at_ : mg "_law_at" = some (.ref (He.ga K "_law_at"))) (B : Blt mg)  : FnOk P w K mg base CX0 1 (He.ga K "_law_at") fd ["told", "spot"] (up K 2 sp_law_at) := by
  have sc := sc_law_at
  refine F.ok sc (fun _ _ _ _ h => h.1) (fun cdv A outer s H vs Q E hr h => ?_)
  exact ⟨_, PSs.nox (pss_cons (ps_set (i := 2) sc.nd rfl (Or.inl rfl) (pe_int)) (pss_cons (ps_for PassesOwn.never rfl (pi_list (pv 0)) (pg_name (i := 3) sc.nd rfl (Or.inl rfl)) (pss_one (ps_set (i := 2) sc.nd rfl (Or.inl rfl) (pe_op op_plus (pe_op op_times (pv 2) (pv 1)) (pv 3))))) (pss_one (ps_ret (pv 2))))),
    body_ok (SndSP.mono (bs := [2, 3]) (sndp_seq ((snds_set (snd_int)).p) (sndp_seq (sndp_for (as := [2, 3]) (sndi_list (snd_var)) (sndg_name) ((snds_set (snd_op snd_plus (snd_op snd_times (snd_var) (snd_var)) (snd_var))).p) (by decide)) (snds_ret (ps := []) (snd_var)))) (by decide)) pf_law_at vs H Q E h⟩
theorem ok_law_at (F : ∃ fd, FunD K "_law_at" "_law_at" (defArgs (top 23)) (defBody (top 23)) (defScope (top 23)) [] [] (He.ga K "_law_at") fd) (at_ : mg "_law_at" = some (.ref (He.ga K "_law_at"))) (B : Blt mg)  : FP P w K mg base "_law_at" 1 2 sp_law_at := by
  obtain ⟨fd, F⟩ := F
  exact ⟨⟨fd, ["told", "spot"], okn_law_at F at_ B , F.bindsN fun _ _ _ _ _ _ us hl => match us, hl with | [_, _], _ => rfl⟩, F.kp, at_⟩
theorem sc_law_det : FnScope ["table", "told", "j", "rest", "lane"] ["table"] (defScope (top 19)) := ⟨rfl, rfl, rfl, by decide +kernel, rfl, by decide +kernel, by decide +kernel⟩
theorem okr_law_det (F : ∃ fd, FunD K "_law_det" "_law_det" (defArgs (top 19)) (defBody (top 19)) (defScope (top 19)) [] [] (He.ga K "_law_det") fd) (at_ : mg "_law_det" = some (.ref (He.ga K "_law_det"))) (B : Blt mg)  (s0 sp : DSp) (lv : Nat) (g_law_det : FP P w K mg base "_law_det" lv 1 s0) (pf : ∀ δ Q3, sp δ Q3 → δ.length = 1 → (∀ (i : Nat) c, δ[i]? = some (E.ow c) → i ∈ ([] : List Nat) ∧ i ∉ ([1, 2, 3] : List Nat)) ∧ T_law_det s0 { nx := fun δ' => Q3 (.va .non) (outs δ δ'), rt := fun r δ' => Q3 r (outs δ δ') } (δ ++ List.replicate 4 E.no)) : FP P w K mg base "_law_det" (lv + 1) 1 sp := by
  have sc := sc_law_det
  obtain ⟨fd, F⟩ := F
  refine ⟨⟨fd, ["table"], F.ok sc (fun _ _ _ _ h => h.1) (fun cdv A outer s H vs Q E hr h => ?_), F.bindsN fun _ _ _ _ _ _ us hl => match us, hl with | [_], _ => rfl⟩, F.kp, at_⟩
  exact ⟨_, PSs.nox (pss_cons (ps_if (pt_not (pt_truth (pv 0) (fun _ => rfl))) (pss_one (ps_ret (pe_int))) (pss_nil)) (pss_cons (ps_set (i := 1) sc.nd rfl (Or.inl rfl) (pe_int)) (pss_cons (ps_for PassesOwn.never rfl (pi_range1 (by rfl) B.range (pa_cons (pe_callB call_len (by rfl) B.len boot_len (pa_cons (pv 0) (pa_nil))) pa_nil)) (pg_name (i := 2) sc.nd rfl (Or.inr rfl)) (pss_one (ps_if (pt_cmpR (op_neE hr.units) (pe_ix ix_seq (pe_ix ix_seq (pv 0) (pe_int) (fun _ _ => rfl)) (pv 2) (fun _ _ => rfl)) (pe_int) (nomark _)) (pss_cons (ps_set (i := 3) sc.nd rfl (Or.inl rfl) (pe_f g_law_det hr (by rfl) (pa_cons (pe_lc (own := [("lane", 4)]) (g := gName 4) rfl sc.nd (pi_list (pe_slice sl_any (pv 0) (po_some (pe_int)) (po_none))) (blkOk_by (by kernel_rfl)) (fun _ _ _ _ _ => pg_name (i := 4) sc.nd rfl (Or.inl rfl)) (fun _ _ _ _ _ => pts_nil) (fun _ _ _ _ _ => pe_op op_plus (pe_slice sl_any (pv 4) (po_none) (po_some (pv 2))) (pe_slice sl_any (pv 4) (po_some (pe_op op_plus (pv 2) (pe_int))) (po_none)))) (pa_nil)))) (pss_one (ps_set (i := 1) sc.nd rfl (Or.inl rfl) (pe_op op_plus (pv 1) (pe_op op_times (pe_op op_times (pe_ifExp (pt_cmpR (op_eqE hr.units) (pe_op op_mod (pe_callTy call_int1 (by rfl) B.int (by decide +kernel) (pa_cons (pv 2) (pa_nil))) (pe_int)) (pe_int) (nomark _)) (pe_int) (pe_un un_neg (pe_int))) (pe_ix ix_seq (pe_ix ix_seq (pv 0) (pe_int) (fun _ _ => rfl)) (pv 2) (fun _ _ => rfl))) (pv 3)))))) (pss_nil)))) (pss_one (ps_ret (pv 1)))))),
    body_ok (SndSP.mono (bs := [1, 2, 3]) (sndp_seq (sndp_if (sndt_not (sndt_truth (snd_var))) (snds_ret (ps := []) (snd_int)) (snds_next.p)) (sndp_seq ((snds_set (snd_int)).p) (sndp_seq (sndp_for (as := [1, 2, 3]) (sndi_rng1 (snd_cb snd_len (snda_cons (snd_var) (snda_nil)))) (sndg_name) (sndp_if (sndt_test (snd_op snd_ne (snd_op snd_ix (snd_op snd_ix (snd_var) (snd_int)) (snd_var)) (snd_int))) (sndp_seq ((snds_set (snd_call (ms := [false]) rfl (snda_cons (snd_comp (vs := [4]) (sndi_list (snd_slice (snd_var) (sndo_some (snd_int)) (sndo_none))) (sndg_name) (sndt_yes) (snd_op snd_plus (snd_slice (snd_var) (sndo_none) (sndo_some (snd_var))) (snd_slice (snd_var) (sndo_some (snd_op snd_plus (snd_var) (snd_int))) (sndo_none))) (by decide)) (snda_nil)))).p) ((snds_set (snd_op snd_plus (snd_var) (snd_op snd_times (snd_op snd_times (snd_if (sndt_test (snd_op snd_eq (snd_op snd_mod (snd_cb snd_int1 (snda_cons (snd_var) (snda_nil))) (snd_int)) (snd_int))) (snd_int) (snd_un snd_neg (snd_int))) (snd_op snd_ix (snd_op snd_ix (snd_var) (snd_int)) (snd_var))) (snd_var)))).p)) (snds_next.p)) (by decide)) (snds_ret (ps := []) (snd_var))))) (by decide)) pf vs H Q E h⟩
theorem ok_law_det (F : ∃ fd, FunD K "_law_det" "_law_det" (defArgs (top 19)) (defBody (top 19)) (defScope (top 19)) [] [] (He.ga K "_law_det") fd) (at_ : mg "_law_det" = some (.ref (He.ga K "_law_det"))) (B : Blt mg)  : ∀ N, FP P w K mg base "_law_det" (N + 1) 1 (sp_law_det N) := by
  intro N
  have none : FP P w K mg base "_law_det" 0 1 (fun _ _ => False) := by
    obtain ⟨fd, F⟩ := F
    exact ⟨⟨fd, ["table"], ⟨fun _ _ _ _ h => h.1, fun _ _ _ _ _ _ _ _ _ _ _ _ _ h => by obtain ⟨_, _, _, _, _, h, _⟩ := h; exact h.elim⟩, F.bindsN fun _ _ _ _ _ _ us hl => match us, hl with | [_], _ => rfl⟩, F.kp, at_⟩
  induction N with
  | zero => exact okr_law_det F at_ B  _ _ 0 none (pf_law_det 0)
  | succ N ih => exact okr_law_det F at_ B  _ _ (N + 1) ih (pf_law_det (N + 1))
theorem sc_law_right : FnScope ["told", "table", "start", "wide", "k", "spot", "moved", "i", "j"] ["told", "table", "start"] (defScope (top 24)) := ⟨rfl, rfl, rfl, by decide +kernel, rfl, by decide +kernel, by decide +kernel⟩
theorem okn_law_right {fd : FuncData} (F : FunD K "_law_right" "_law_right" (defArgs (top 24)) (defBody (top 24)) (defScope (top 24)) [] [] (He.ga K "_law_right") fd) (at_ : mg "_law_right" = some (.ref (He.ga K "_law_right"))) (B : Blt mg) (g_law_numbers : FP P w K mg base "_law_numbers" 2 2 sp_law_numbers) (g_law_at : FP P w K mg base "_law_at" 1 2 sp_law_at) (g_law_det : FP P w K mg base "_law_det" 9 1 (sp_law_det 8)) : FnOk P w K mg base CX0 10 (He.ga K "_law_right") fd ["told", "table", "start"] (up K 3 sp_law_right) := by
  have sc := sc_law_right
  refine F.ok sc (fun _ _ _ _ h => h.1) (fun cdv A outer s H vs Q E hr h => ?_)
  exact ⟨_, PSs.nox (pss_cons (ps_set (i := 3) sc.nd rfl (Or.inr rfl) (pe_callB call_len (by rfl) B.len boot_len (pa_cons (pv 1) (pa_nil)))) (pss_cons (ps_if (PW.pt (pw_or (pt_not (pt_val (pe_f g_law_numbers (Room.mono hr (by decide)) (by rfl) (pa_cons (pv 0) (pa_cons (pe_op op_plus (pv 3) (pe_int)) (pa_nil)))))) (pw_or1 (pt_cmpR (op_neE hr.units) (pe_ix ix_seq (pv 0) (pe_int) (fun _ _ => rfl)) (pe_int) (nomark _))))) (pss_one (ps_ret (pe_bl))) (pss_nil)) (pss_cons (ps_for PassesOwn.never rfl (pi_range1 (by rfl) B.range (pa_cons (pv 3) pa_nil)) (pg_name (i := 4) sc.nd rfl (Or.inl rfl)) (pss_cons (ps_set (i := 5) sc.nd rfl (Or.inr rfl) (pe_op op_plus (pv 2) (pv 4))) (pss_cons (ps_setLc (i := 6) (own := [("i", 7)]) (g := gName 7) rfl sc.nd rfl rfl (sw_true rfl rfl rfl (by decide +kernel)) (pi_range1 (by rfl) B.range (pa_cons (pv 3) pa_nil)) (blkOk_by (by kernel_rfl)) (fun _ _ _ _ _ => pg_name (i := 7) sc.nd rfl (Or.inr rfl)) (fun _ _ _ _ _ => pts_nil) (fun _ _ _ _ _ => pe_lc (own := [("j", 8)]) (g := gName 8) rfl sc.nd (pi_range1 (by rfl) B.range (pa_cons (pv 3) pa_nil)) (blkOk_by (by kernel_rfl)) (fun _ _ _ _ _ => pg_name (i := 8) sc.nd rfl (Or.inl rfl)) (fun _ _ _ _ _ => pts_nil) (fun _ _ _ _ _ => pe_op op_sub (pe_ifExp (pt_cmpR (op_eqE hr.units) (pv 7) (pv 8) (nomark _)) (pv 5) (pe_int)) (pe_ix ix_seq (pe_ix ix_seq (pv 1) (pv 7) (fun _ _ => rfl)) (pv 8) (fun _ _ => rfl))))) (pss_one (ps_if (pt_cmpR (op_neE hr.units) (pe_f g_law_at (Room.mono hr (by decide)) (by rfl) (pa_cons (pv 0) (pa_cons (pv 5) (pa_nil)))) (pe_f g_law_det (Room.mono hr (by decide)) (by rfl) (pa_cons (pv 6) (pa_nil))) (nomark _)) (pss_one (ps_ret (pe_bl))) (pss_nil)))))) (pss_one (ps_ret (pe_bl)))))),
    body_ok (SndSP.mono (bs := [3, 4, 5, 6]) (sndp_seq ((snds_set (snd_cb snd_len (snda_cons (snd_var) (snda_nil)))).p) (sndp_seq (sndp_if (sndt_or (sndt_not (sndt_val (snd_call (ms := [false, false]) rfl (snda_cons (snd_var) (snda_cons (snd_op snd_plus (snd_var) (snd_int)) (snda_nil)))))) (sndt_test (snd_op snd_ne (snd_op snd_ix (snd_var) (snd_int)) (snd_int)))) (snds_ret (ps := []) (snd_bl)) (snds_next.p)) (sndp_seq (sndp_for (as := [4, 5, 6]) (sndi_rng1 (snd_var)) (sndg_name) (sndp_seq ((snds_set (snd_op snd_plus (snd_var) (snd_var))).p) (sndp_seq ((snds_set (snd_comp (vs := [7]) (sndi_rng1 (snd_var)) (sndg_name) (sndt_yes) (snd_comp (vs := [8]) (sndi_rng1 (snd_var)) (sndg_name) (sndt_yes) (snd_op snd_minus (snd_if (sndt_test (snd_op snd_eq (snd_var) (snd_var))) (snd_var) (snd_int)) (snd_op snd_ix (snd_op snd_ix (snd_var) (snd_var)) (snd_var))) (by decide)) (by decide))).p) (sndp_if (sndt_test (snd_op snd_ne (snd_call (ms := [false, false]) rfl (snda_cons (snd_var) (snda_cons (snd_var) (snda_nil)))) (snd_call (ms := [false]) rfl (snda_cons (snd_var) (snda_nil))))) (snds_ret (ps := []) (snd_bl)) (snds_next.p)))) (by decide)) (snds_ret (ps := []) (snd_bl))))) (by decide)) pf_law_right vs H Q E h⟩
theorem ok_law_right (F : ∃ fd, FunD K "_law_right" "_law_right" (defArgs (top 24)) (defBody (top 24)) (defScope (top 24)) [] [] (He.ga K "_law_right") fd) (at_ : mg "_law_right" = some (.ref (He.ga K "_law_right"))) (B : Blt mg) (g_law_numbers : FP P w K mg base "_law_numbers" 2 2 sp_law_numbers) (g_law_at : FP P w K mg base "_law_at" 1 2 sp_law_at) (g_law_det : FP P w K mg base "_law_det" 9 1 (sp_law_det 8)) : FP P w K mg base "_law_right" 10 3 sp_law_right := by
  obtain ⟨fd, F⟩ := F
  exact ⟨⟨fd, ["told", "table", "start"], okn_law_right F at_ B g_law_numbers g_law_at g_law_det, F.bindsN fun _ _ _ _ _ _ us hl => match us, hl with | [_, _, _], _ => rfl⟩, F.kp, at_⟩
theorem sc_law_flip : FnScope ["table", "j", "lane"] ["table"] (defScope (top 18)) := ⟨rfl, rfl, rfl, by decide +kernel, rfl, by decide +kernel, by decide +kernel⟩
theorem okn_law_flip {fd : FuncData} (F : FunD K "_law_flip" "_law_flip" (defArgs (top 18)) (defBody (top 18)) (defScope (top 18)) [] [] (He.ga K "_law_flip") fd) (at_ : mg "_law_flip" = some (.ref (He.ga K "_law_flip"))) (B : Blt mg)  : FnOk P w K mg base CX0 1 (He.ga K "_law_flip") fd ["table"] (up K 1 sp_law_flip) := by
  have sc := sc_law_flip
  refine F.ok sc (fun _ _ _ _ h => h.1) (fun cdv A outer s H vs Q E hr h => ?_)
  exact ⟨_, PSs.nox (pss_one (ps_ret (pe_lc (own := [("j", 1)]) (g := gName 1) rfl sc.nd (pi_range1 (by rfl) B.range (pa_cons (pe_callB call_len (by rfl) B.len boot_len (pa_cons (pe_ix ix_seq (pv 0) (pe_int) (fun _ _ => rfl)) (pa_nil))) pa_nil)) (blkOk_by (by kernel_rfl)) (fun _ _ _ _ _ => pg_name (i := 1) sc.nd rfl (Or.inr rfl)) (fun _ _ _ _ _ => pts_nil) (fun _ _ _ _ _ => pe_lc (own := [("lane", 2)]) (g := gName 2) rfl sc.nd (pi_list (pv 0)) (blkOk_by (by kernel_rfl)) (fun _ _ _ _ _ => pg_name (i := 2) sc.nd rfl (Or.inl rfl)) (fun _ _ _ _ _ => pts_nil) (fun _ _ _ _ _ => pe_ix ix_seq (pv 2) (pv 1) (fun _ _ => rfl)))))),
    body_ok (SndSP.mono (bs := []) (snds_ret (ps := []) (snd_comp (vs := [1]) (sndi_rng1 (snd_cb snd_len (snda_cons (snd_op snd_ix (snd_var) (snd_int)) (snda_nil)))) (sndg_name) (sndt_yes) (snd_comp (vs := [2]) (sndi_list (snd_var)) (sndg_name) (sndt_yes) (snd_op snd_ix (snd_var) (snd_var)) (by decide)) (by decide))) (by decide)) pf_law_flip vs H Q E h⟩
theorem ok_law_flip (F : ∃ fd, FunD K "_law_flip" "_law_flip" (defArgs (top 18)) (defBody (top 18)) (defScope (top 18)) [] [] (He.ga K "_law_flip") fd) (at_ : mg "_law_flip" = some (.ref (He.ga K "_law_flip"))) (B : Blt mg)  : FP P w K mg base "_law_flip" 1 1 sp_law_flip := by
  obtain ⟨fd, F⟩ := F
  exact ⟨⟨fd, ["table"], okn_law_flip F at_ B , F.bindsN fun _ _ _ _ _ _ us hl => match us, hl with | [_], _ => rfl⟩, F.kp, at_⟩
theorem sc_law_tuples : FnScope ["table", "lane"] ["table"] (defScope (top 17)) := ⟨rfl, rfl, rfl, by decide +kernel, rfl, by decide +kernel, by decide +kernel⟩
theorem okn_law_tuples {fd : FuncData} (F : FunD K "_law_tuples" "_law_tuples" (defArgs (top 17)) (defBody (top 17)) (defScope (top 17)) [] [] (He.ga K "_law_tuples") fd) (at_ : mg "_law_tuples" = some (.ref (He.ga K "_law_tuples"))) (B : Blt mg)  : FnOk P w K mg base CX0 1 (He.ga K "_law_tuples") fd ["table"] (up K 1 sp_law_tuples) := by
  have sc := sc_law_tuples
  refine F.ok sc (fun _ _ _ _ h => h.1) (fun cdv A outer s H vs Q E hr h => ?_)
  exact ⟨_, PSs.nox (pss_one (ps_ret (pe_callTy call_tuple_of (by rfl) B.tuple (by decide +kernel) (pa_cons (pe_lc (own := [("lane", 1)]) (g := gName 1) rfl sc.nd (pi_list (pv 0)) (blkOk_by (by kernel_rfl)) (fun _ _ _ _ _ => pg_name (i := 1) sc.nd rfl (Or.inl rfl)) (fun _ _ _ _ _ => pts_nil) (fun _ _ _ _ _ => pe_callTy call_tuple_of (by rfl) B.tuple (by decide +kernel) (pa_cons (pv 1) (pa_nil)))) (pa_nil))))),
    body_ok (SndSP.mono (bs := []) (snds_ret (ps := []) (snd_cb snd_tuple (snda_cons (snd_comp (vs := [1]) (sndi_list (snd_var)) (sndg_name) (sndt_yes) (snd_cb snd_tuple (snda_cons (snd_var) (snda_nil))) (by decide)) (snda_nil)))) (by decide)) pf_law_tuples vs H Q E h⟩
theorem ok_law_tuples (F : ∃ fd, FunD K "_law_tuples" "_law_tuples" (defArgs (top 17)) (defBody (top 17)) (defScope (top 17)) [] [] (He.ga K "_law_tuples") fd) (at_ : mg "_law_tuples" = some (.ref (He.ga K "_law_tuples"))) (B : Blt mg)  : FP P w K mg base "_law_tuples" 1 1 sp_law_tuples := by
  obtain ⟨fd, F⟩ := F
  exact ⟨⟨fd, ["table"], okn_law_tuples F at_ B , F.bindsN fun _ _ _ _ _ _ us hl => match us, hl with | [_], _ => rfl⟩, F.kp, at_⟩
theorem sc_law : FnScope ["script", "bag", "table", "start", "handed", "told", "kept", "again", "lanes", "due"] ["script"] (defScope (top 25)) := ⟨rfl, rfl, rfl, by decide +kernel, rfl, by decide +kernel, by decide +kernel⟩
theorem okn_law {fd : FuncData} (F : FunD K "law" "law" (defArgs (top 25)) (defBody (top 25)) (defScope (top 25)) [] [] (He.ga K "law") fd) (at_ : mg "law" = some (.ref (He.ga K "law"))) (B : Blt mg) (g_law_open : FP P w K mg base "_law_open" 1 1 sp_law_open) (g_law_of : FP P w K mg base "_law_of" 2 2 sp_law_of) (g_law_square : FP P w K mg base "_law_square" 4 2 sp_law_square) (g_tone_row : FP P w K mg base "tone_row" 4 1 sp_tone_row) (g_law_right : FP P w K mg base "_law_right" 10 3 sp_law_right) (g_law_flip : FP P w K mg base "_law_flip" 1 1 sp_law_flip) (g_law_numbers : FP P w K mg base "_law_numbers" 2 2 sp_law_numbers) (g_law_known : FP P w K mg base "_law_known" 3 1 sp_law_known) (g_law_copy : FP P w K mg base "_law_copy" 1 1 sp_law_copy) (g_law_tuples : FP P w K mg base "_law_tuples" 1 1 sp_law_tuples) (gn_law_copy : FPN P w K mg base "_law_copy" 1 1 spN_law_copy) (q_tone_row_0_0 : FK P w K mg base "tone_row" 4 1 sp_tone_row 0 ["rows"] [0]) : FnOk P w K mg base CX0 11 (He.ga K "law") fd ["script"] (up K 1 sp_law) := by
  have sc := sc_law
  refine F.ok sc (fun _ _ _ _ h => h.1) (fun cdv A outer s H vs Q E hr h => ?_)
  exact ⟨_, PSs.nox (pss_cons (ps_set (i := 1) sc.nd rfl (Or.inl rfl) (pe_f g_law_open (Room.mono hr (by decide)) (by rfl) (pa_cons (pv 0) (pa_nil)))) (pss_cons (ps_set (i := 2) sc.nd rfl (Or.inl rfl) (pe_f g_law_square (Room.mono hr (by decide)) (by rfl) (pa_cons (pv 1) (pa_cons (pe_f g_law_of (Room.mono hr (by decide)) (by rfl) (pa_cons (pv 1) (pa_cons (pe_lst (pa_cons (pe_int) (pa_cons (pe_int) (pa_cons (pe_int) (pa_cons (pe_int) (pa_cons (pe_int) (pa_cons (pe_int) (pa_cons (pe_int) (pa_cons (pe_int) (pa_nil)))))))))) (pa_nil)))) (pa_nil))))) (pss_cons (ps_set (i := 3) sc.nd rfl (Or.inl rfl) (pe_f g_law_of (Room.mono hr (by decide)) (by rfl) (pa_cons (pv 1) (pa_cons (pe_lst (pa_cons (pe_int) (pa_cons (pe_un un_neg (pe_int)) (pa_cons (pe_int) (pa_cons (pe_int) (pa_cons (pe_un un_neg (pe_int)) (pa_cons (pe_int) (pa_nil)))))))) (pa_nil))))) (pss_cons (ps_set (i := 4) sc.nd rfl (Or.inl rfl) (pe_fN gn_law_copy (Room.mono hr (by decide)) (by rfl) (pa_cons (pv 2) (pa_nil)))) (pss_cons (ps_set (i := 5) sc.nd rfl (Or.inl rfl) (pe_f g_tone_row (Room.mono hr (by decide)) (by rfl) (pa_cons (pv 4) (pa_nil)))) (pss_cons (ps_if (PW.pt (pw_or (pt_not (pt_val (pe_f g_law_right (Room.mono hr (by decide)) (by rfl) (pa_cons (pv 5) (pa_cons (pv 2) (pa_cons (pv 3) (pa_nil))))))) (pw_or1 (pt_cmpR (op_neE hr.units) (pv 4) (pv 2) (nomark _))))) (pss_one (ps_ret (pe_bl))) (pss_nil)) (pss_cons (ps_set (i := 6) sc.nd rfl (Or.inl rfl) (pe_callTy call_list_of (by rfl) B.list (by decide +kernel) (pa_cons (pv 5) (pa_nil)))) (pss_cons (ps_asg (pe_int) (pg_sub (pv 5) (pe_int) set_list)) (pss_cons (ps_expr (pe_bm PySem.F.plainAttrs_list PySem.F.slot_list_append PySem.F.type_list_append mt_append (pv 5) (pa_cons (pe_int) (pa_nil)))) (pss_cons (ps_set (i := 7) sc.nd rfl (Or.inl rfl) (pe_f g_tone_row (Room.mono hr (by decide)) (by rfl) (pa_cons (pe_f g_law_flip (Room.mono hr (by decide)) (by rfl) (pa_cons (pv 2) (pa_nil))) (pa_nil)))) (pss_cons (ps_if (PW.pt (pw_or (pt_not (pt_val (pe_f g_law_numbers (Room.mono hr (by decide)) (by rfl) (pa_cons (pv 7) (pa_cons (pe_callB call_len (by rfl) B.len boot_len (pa_cons (pv 6) (pa_nil))) (pa_nil)))))) (pw_or1 (pt_cmpR (op_neE hr.units) (pv 7) (pv 6) (nomark _))))) (pss_one (ps_ret (pe_bl))) (pss_nil)) (pss_cons (ps_asg (pe_f g_law_known (Room.mono hr (by decide)) (by rfl) (pa_cons (pv 1) (pa_nil))) (pg_tup rfl (pgs_cons (pg_name (i := 8) sc.nd rfl (Or.inl rfl)) (pgs_cons (pg_name (i := 9) sc.nd rfl (Or.inl rfl)) (pgs_nil))))) (pss_cons (ps_set (i := 5) sc.nd rfl (Or.inl rfl) (pe_f g_tone_row (Room.mono hr (by decide)) (by rfl) (pa_cons (pe_f g_law_copy (Room.mono hr (by decide)) (by rfl) (pa_cons (pv 8) (pa_nil))) (pa_nil)))) (pss_cons (ps_if (PW.pt (pw_or (pt_not (pt_val (pe_f g_law_numbers (Room.mono hr (by decide)) (by rfl) (pa_cons (pv 5) (pa_cons (pe_callB call_len (by rfl) B.len boot_len (pa_cons (pv 9) (pa_nil))) (pa_nil)))))) (pw_or1 (pt_cmpR (op_neE hr.units) (pv 5) (pv 9) (nomark _))))) (pss_one (ps_ret (pe_bl))) (pss_nil)) (pss_cons (ps_set (i := 7) sc.nd rfl (Or.inl rfl) (pe_fk0 q_tone_row_0_0 (Room.mono hr (by decide)) (by rfl) (pk_cons (pe_f g_law_tuples (Room.mono hr (by decide)) (by rfl) (pa_cons (pv 2) (pa_nil))) (pk_nil)) rfl)) (pss_cons (ps_if (PW.pt (pw_or (pt_not (pt_val (pe_f g_law_numbers (Room.mono hr (by decide)) (by rfl) (pa_cons (pv 7) (pa_cons (pe_callB call_len (by rfl) B.len boot_len (pa_cons (pv 6) (pa_nil))) (pa_nil)))))) (pw_or1 (pt_cmpR (op_neE hr.units) (pv 7) (pv 6) (nomark _))))) (pss_one (ps_ret (pe_bl))) (pss_nil)) (pss_cons (ps_asg (pe_op op_plus (pe_ix ix_seq (pe_ix ix_seq (pv 4) (pe_int) (fun _ _ => rfl)) (pe_int) (fun _ _ => rfl)) (pe_int)) (pg_sub (pe_ix ix_seq (pv 4) (pe_int) (fun _ _ => rfl)) (pe_int) set_list)) (pss_one (ps_ret (pe_f g_law_right (Room.mono hr (by decide)) (by rfl) (pa_cons (pe_f g_tone_row (Room.mono hr (by decide)) (by rfl) (pa_cons (pv 4) (pa_nil))) (pa_cons (pv 4) (pa_cons (pe_op op_plus (pv 3) (pe_int)) (pa_nil)))))))))))))))))))))))),
    body_ok (SndSP.mono (bs := [1, 2, 3, 4, 5, 6, 7, 8, 9]) (sndp_seq ((snds_setO (snd_call (ms := [false]) rfl (snda_cons (snd_var) (snda_nil)))).p) (sndp_seq ((snds_set (snd_call (ms := [true, false]) rfl (snda_cons (snd_var) (snda_cons (snd_call (ms := [true, true]) rfl (snda_cons (snd_var) (snda_cons (snd_lst (snda_cons (snd_int) (snda_cons (snd_int) (snda_cons (snd_int) (snda_cons (snd_int) (snda_cons (snd_int) (snda_cons (snd_int) (snda_cons (snd_int) (snda_cons (snd_int) (snda_nil)))))))))) (snda_nil)))) (snda_nil))))).p) (sndp_seq ((snds_set (snd_call (ms := [true, true]) rfl (snda_cons (snd_var) (snda_cons (snd_lst (snda_cons (snd_int) (snda_cons (snd_un snd_neg (snd_int)) (snda_cons (snd_int) (snda_cons (snd_int) (snda_cons (snd_un snd_neg (snd_int)) (snda_cons (snd_int) (snda_nil)))))))) (snda_nil))))).p) (sndp_gridG (m := 4) (sgr_call (ms := [false]) rfl (snda_cons (snd_var) (snda_nil))) (sndyp_seq (sndy_setOL (m := 4) (x := 5) (snd_call (ms := [false]) rfl (snda_cons (snd_var) (snda_nil))) (by decide)) (sndyp_seq (sndy_ifL (m := 4) (sndt_or (sndt_not (sndt_val (snd_call (ms := [false, false, false]) rfl (snda_cons (snd_var) (snda_cons (snd_var) (snda_cons (snd_var) (snda_nil))))))) (sndt_test (snd_op snd_ne (snd_var) (snd_var)))) (sndy_plain (snds_ret (ps := []) (snd_bl)) (by decide)) (sndy_plain (snds_next.p) (by decide))) (sndyp_seq (sndy_plain ((snds_set (snd_cb snd_list (snda_cons (snd_var) (snda_nil)))).p) (by decide)) (sndyp_seq (sndy_plain ((snds_asg (snd_int) (sndg_sub (snd_var) (snd_int))).p) (by decide)) (sndyp_seq (sndy_plain ((snds_expr (snd_lm sndm_append (snd_var) (snda_cons (snd_int) (snda_nil)))).p) (by decide)) (sndyp_seq (sndy_plain ((snds_set (snd_call (ms := [false]) rfl (snda_cons (snd_call (ms := [false]) rfl (snda_cons (snd_var) (snda_nil))) (snda_nil)))).p) (by decide)) (sndyp_seq (sndy_plain (sndp_if (sndt_or (sndt_not (sndt_val (snd_call (ms := [false, false]) rfl (snda_cons (snd_var) (snda_cons (snd_cb snd_len (snda_cons (snd_var) (snda_nil))) (snda_nil)))))) (sndt_test (snd_op snd_ne (snd_var) (snd_var)))) (snds_ret (ps := []) (snd_bl)) (snds_next.p)) (by decide)) (sndyp_seq (sndy_plain ((snds_asg (snd_call (ms := [true]) rfl (snda_cons (snd_var) (snda_nil))) (sndg_tup (n := 2) (sndgs_cons (sndg_name) (sndgs_cons (sndg_name) (sndgs_nil))))).p) (by decide)) (sndyp_seq (sndy_plain ((snds_setO (snd_call (ms := [false]) rfl (snda_cons (snd_call (ms := [false]) rfl (snda_cons (snd_var) (snda_nil))) (snda_nil)))).p) (by decide)) (sndyp_seq (sndy_plain (sndp_if (sndt_or (sndt_not (sndt_val (snd_call (ms := [false, false]) rfl (snda_cons (snd_varz) (snda_cons (snd_cb snd_len (snda_cons (snd_var) (snda_nil))) (snda_nil)))))) (sndt_test (snd_op snd_ne (snd_var) (snd_var)))) (snds_ret (ps := []) (snd_bl)) (snds_next.p)) (by decide)) (sndyp_seq (sndy_plain ((snds_set (snd_callP (ms := [false]) (np := 0) (nk := 1) (is := [0]) rfl (by decide) (by decide) (snda_nil) (snda_cons (snd_call (ms := [false]) rfl (snda_cons (snd_var) (snda_nil))) (snda_nil)))).p) (by decide)) (sndyp_seq (sndy_plain (sndp_if (sndt_or (sndt_not (sndt_val (snd_call (ms := [false, false]) rfl (snda_cons (snd_var) (snda_cons (snd_cb snd_len (snda_cons (snd_var) (snda_nil))) (snda_nil)))))) (sndt_test (snd_op snd_ne (snd_var) (snd_var)))) (snds_ret (ps := []) (snd_bl)) (snds_next.p)) (by decide)) (sndyp_seq (sndy_putL (m := 4) (snd_op snd_plus (snd_op snd_ix (snd_op snd_ix (snd_var) (snd_int)) (snd_int)) (snd_int)) (snd_int) (snd_int)) (sndyp_free (snds_ret (ps := []) (snd_call (ms := [false, false, false]) rfl (snda_cons (snd_call (ms := [false]) rfl (snda_cons (snd_varz) (snda_nil))) (snda_cons (snd_varz) (snda_cons (snd_op snd_plus (snd_var) (snd_int)) (snda_nil)))))) (by decide))))))))))))))))))) (by decide)) pf_law vs H Q E h⟩
end
end L3
namespace L3
open PySem PySem.Spec PyProof.Rows L2
theorem facts {P : Program} {w : World} {K : PySem.W.Frag} {h : Heap} {mg : Str → Option Value} {f : Addr} (X : K.In h) (G : h.Ns mainGlobals mg) (hfa : mg ("law" : Str) = some (.ref f)) (c : He.SaysD fas fns K) (cx : exs K = true) :
    ∃ fd : FuncData, (∀ (s : Shared) (v : Value), BindsTo s fd ⟨[v], []⟩ [("script", v)]) ∧ ∀ base : Heap, K.In base → base.Ns mainGlobals mg → FnOk P w K mg base CX0 11 f fd ["script"] (up K 1 sp_law) := by
  obtain ⟨fd, F⟩ := c.def_ 21 (d := dd_law) rfl
  have at_law := He.glo_ok X G (c.fact 43 (f := .glo "law") rfl)
  have e := hfa.symm.trans at_law
  cases e
  refine ⟨fd, fun s v => FunD.bindsA (ps := ["script"]) F (fun _ _ _ _ _ _ us hl => match us, hl with | [_], _ => rfl) s [v] rfl, fun base _ _ => ?_⟩
  have B : Blt mg := ⟨He.free_ok X G (c.fact 0 (f := .free "len") rfl), He.free_ok X G (c.fact 1 (f := .free "range") rfl), He.free_ok X G (c.fact 2 (f := .free "isinstance") rfl), He.free_ok X G (c.fact 3 (f := .free "int") rfl), He.free_ok X G (c.fact 4 (f := .free "bool") rfl), He.free_ok X G (c.fact 5 (f := .free "str") rfl), He.free_ok X G (c.fact 6 (f := .free "list") rfl), He.free_ok X G (c.fact 7 (f := .free "tuple") rfl), He.free_ok X G (c.fact 8 (f := .free "dict") rfl), He.free_ok X G (c.fact 9 (f := .free "all") rfl), He.free_ok X G (c.fact 10 (f := .free "any") rfl), He.free_ok X G (c.fact 11 (f := .free "sum") rfl), He.free_ok X G (c.fact 12 (f := .free "enumerate") rfl), He.free_ok X G (c.fact 13 (f := .free "zip") rfl), He.free_ok X G (c.fact 14 (f := .free "max") rfl), He.free_ok X G (c.fact 15 (f := .free "min") rfl), He.free_ok X G (c.fact 16 (f := .free "abs") rfl), He.free_ok X G (c.fact 17 (f := .free "sorted") rfl), He.free_ok X G (c.fact 18 (f := .free "reversed") rfl), He.free_ok X G (c.fact 19 (f := .free "set") rfl), He.free_ok X G (c.fact 20 (f := .free "repr") rfl), He.free_ok X G (c.fact 21 (f := .free "divmod") rfl)⟩
  have F_law_open := c.def_ 0 (d := dd_law_open) rfl
  have at_law_open : mg "_law_open" = some (.ref (He.ga K "_law_open")) := He.glo_ok X G (c.fact 22 (f := .glo "_law_open") rfl)
  have h_law_open := ok_law_open (P := P) (w := w) (base := base) F_law_open at_law_open B 
  have F_law_pick := c.def_ 1 (d := dd_law_pick) rfl
  have at_law_pick : mg "_law_pick" = some (.ref (He.ga K "_law_pick")) := He.glo_ok X G (c.fact 23 (f := .glo "_law_pick") rfl)
  have h_law_pick := ok_law_pick (P := P) (w := w) (base := base) F_law_pick at_law_pick B 
  have F_law_sign := c.def_ 2 (d := dd_law_sign) rfl
  have at_law_sign : mg "_law_sign" = some (.ref (He.ga K "_law_sign")) := He.glo_ok X G (c.fact 24 (f := .glo "_law_sign") rfl)
  have h_law_sign := ok_law_sign (P := P) (w := w) (base := base) F_law_sign at_law_sign B h_law_pick
  have F_law_great := c.def_ 3 (d := dd_law_great) rfl
  have at_law_great : mg "_law_great" = some (.ref (He.ga K "_law_great")) := He.glo_ok X G (c.fact 25 (f := .glo "_law_great") rfl)
  have h_law_great := ok_law_great (P := P) (w := w) (base := base) F_law_great at_law_great B h_law_pick
  have F_law_item := c.def_ 4 (d := dd_law_item) rfl
  have at_law_item : mg "_law_item" = some (.ref (He.ga K "_law_item")) := He.glo_ok X G (c.fact 26 (f := .glo "_law_item") rfl)
  have h_law_item := ok_law_item (P := P) (w := w) (base := base) F_law_item at_law_item B h_law_pick h_law_sign h_law_great
  have F_law_square := c.def_ 5 (d := dd_law_square) rfl
  have at_law_square : mg "_law_square" = some (.ref (He.ga K "_law_square")) := He.glo_ok X G (c.fact 27 (f := .glo "_law_square") rfl)
  have h_law_square := ok_law_square (P := P) (w := w) (base := base) F_law_square at_law_square B h_law_item h_law_pick
  have F_law_of := c.def_ 6 (d := dd_law_of) rfl
  have at_law_of : mg "_law_of" = some (.ref (He.ga K "_law_of")) := He.glo_ok X G (c.fact 28 (f := .glo "_law_of") rfl)
  have h_law_of := ok_law_of (P := P) (w := w) (base := base) F_law_of at_law_of B h_law_pick
  have F_law_copy := c.def_ 7 (d := dd_law_copy) rfl
  have at_law_copy : mg "_law_copy" = some (.ref (He.ga K "_law_copy")) := He.glo_ok X G (c.fact 29 (f := .glo "_law_copy") rfl)
  have h_law_copy := ok_law_copy (P := P) (w := w) (base := base) F_law_copy at_law_copy B 
  have hN_law_copy := okN_law_copy (P := P) (w := w) (base := base) F_law_copy at_law_copy B 
  have F_inner := c.def_ 8 (d := dd_inner) rfl
  have at_inner : mg "inner" = some (.ref (He.ga K "inner")) := He.glo_ok X G (c.fact 30 (f := .glo "inner") rfl)
  have h_inner := ok_inner (P := P) (w := w) (base := base) F_inner at_inner B 
  have F_edge_row := c.def_ 9 (d := dd_edge_row) rfl
  have at_edge_row : mg "edge_row" = some (.ref (He.ga K "edge_row")) := He.glo_ok X G (c.fact 31 (f := .glo "edge_row") rfl)
  have h_edge_row := ok_edge_row (P := P) (w := w) (base := base) F_edge_row at_edge_row B h_inner
  have F_characteristic := c.def_ 10 (d := dd_characteristic) rfl
  have at_characteristic : mg "characteristic" = some (.ref (He.ga K "characteristic")) := He.glo_ok X G (c.fact 32 (f := .glo "characteristic") rfl)
  have h_characteristic := ok_characteristic (P := P) (w := w) (base := base) F_characteristic at_characteristic B h_edge_row
  have F_tone_row := c.def_ 11 (d := dd_tone_row) rfl
  have at_tone_row : mg "tone_row" = some (.ref (He.ga K "tone_row")) := He.glo_ok X G (c.fact 33 (f := .glo "tone_row") rfl)
  have h_tone_row := ok_tone_row (P := P) (w := w) (base := base) F_tone_row at_tone_row B h_characteristic
  have hk_tone_row_0_0 := okk_tone_row_0_0 (P := P) (w := w) (base := base) F_tone_row at_tone_row B h_characteristic
  have F_law_mul := c.def_ 12 (d := dd_law_mul) rfl
  have at_law_mul : mg "_law_mul" = some (.ref (He.ga K "_law_mul")) := He.glo_ok X G (c.fact 34 (f := .glo "_law_mul") rfl)
  have h_law_mul := ok_law_mul (P := P) (w := w) (base := base) F_law_mul at_law_mul B 
  have F_law_known := c.def_ 13 (d := dd_law_known) rfl
  have at_law_known : mg "_law_known" = some (.ref (He.ga K "_law_known")) := He.glo_ok X G (c.fact 35 (f := .glo "_law_known") rfl)
  have h_law_known := ok_law_known (P := P) (w := w) (base := base) F_law_known at_law_known B h_law_of h_law_pick h_law_mul
  have F_law_is_int := c.def_ 14 (d := dd_law_is_int) rfl
  have at_law_is_int : mg "_law_is_int" = some (.ref (He.ga K "_law_is_int")) := He.glo_ok X G (c.fact 36 (f := .glo "_law_is_int") rfl)
  have h_law_is_int := ok_law_is_int (P := P) (w := w) (base := base) F_law_is_int at_law_is_int B 
  have F_law_numbers := c.def_ 15 (d := dd_law_numbers) rfl
  have at_law_numbers : mg "_law_numbers" = some (.ref (He.ga K "_law_numbers")) := He.glo_ok X G (c.fact 37 (f := .glo "_law_numbers") rfl)
  have h_law_numbers := ok_law_numbers (P := P) (w := w) (base := base) F_law_numbers at_law_numbers B h_law_is_int
  have F_law_at := c.def_ 16 (d := dd_law_at) rfl
  have at_law_at : mg "_law_at" = some (.ref (He.ga K "_law_at")) := He.glo_ok X G (c.fact 38 (f := .glo "_law_at") rfl)
  have h_law_at := ok_law_at (P := P) (w := w) (base := base) F_law_at at_law_at B 
  have F_law_det := c.def_ 17 (d := dd_law_det) rfl
  have at_law_det : mg "_law_det" = some (.ref (He.ga K "_law_det")) := He.glo_ok X G (c.fact 39 (f := .glo "_law_det") rfl)
  have h_law_det := ok_law_det (P := P) (w := w) (base := base) F_law_det at_law_det B  8
  have F_law_right := c.def_ 18 (d := dd_law_right) rfl
  have at_law_right : mg "_law_right" = some (.ref (He.ga K "_law_right")) := He.glo_ok X G (c.fact 40 (f := .glo "_law_right") rfl)
  have h_law_right := ok_law_right (P := P) (w := w) (base := base) F_law_right at_law_right B h_law_numbers h_law_at h_law_det
  have F_law_flip := c.def_ 19 (d := dd_law_flip) rfl
  have at_law_flip : mg "_law_flip" = some (.ref (He.ga K "_law_flip")) := He.glo_ok X G (c.fact 41 (f := .glo "_law_flip") rfl)
  have h_law_flip := ok_law_flip (P := P) (w := w) (base := base) F_law_flip at_law_flip B 
  have F_law_tuples := c.def_ 20 (d := dd_law_tuples) rfl
  have at_law_tuples : mg "_law_tuples" = some (.ref (He.ga K "_law_tuples")) := He.glo_ok X G (c.fact 42 (f := .glo "_law_tuples") rfl)
  have h_law_tuples := ok_law_tuples (P := P) (w := w) (base := base) F_law_tuples at_law_tuples B 
  exact okn_law F at_law B h_law_open h_law_of h_law_square h_tone_row h_law_right h_law_flip h_law_numbers h_law_known h_law_copy h_law_tuples hN_law_copy hk_tone_row_0_0
theorem law_start {K : PySem.W.Frag} {H : Hp} {a : Addr} {ns : List Int} (hS : SqL K H a (ns.map V.int)) (hl : ns.length ≤ 63) : up K 1 sp_law [.ref a] H (fun v _ => v = .bl true) fun _ _ _ => False := by
  refine ⟨rfl, H, [.va (.frz (ns.map D.int))], fun r _ => r = .va (.bl true), ⟨rfl, .refl, fun i d e => ?_, fun i c e => ?_, fun i j l c c' e => ?_⟩, ⟨ns, rfl, hl, rfl⟩, fun r δ' v H' G' _ _ _ rr _ q => ?_⟩
  · cases i with
    | zero =>
      cases e
      exact ⟨_, rfl, .frz hS (atl_ints ns)⟩
    | succ i => simp at e
  · cases i with
    | zero => cases e
    | succ i => simp at e
  · cases i with
    | zero => cases e
    | succ i => simp at e
  · subst q
    exact rr_bl rr
end L3
open PySem PySem.W PySem.Calls PyProof.Rows
theorem PySem.Challenge.cw_sametones_k22_tone_rows_at_numbers_holds : PySem.Challenge.rw_sametones_k22_tone_rows_at_numbers.Holds := by
  refine L3.of_open fun said => ?_
  refine HandSHeadRun.head_any (r := L3.RO) (q := view L3.RO.prog [25]) (H := L3.hook) (ob := L3.look) (M := 40000) (loose := L3.looseN) (d := HandSHeadRun.topDef L3.RO.prog 25) (kwd := []) L3.look_eq
    (by kernel_rfl) (fun s => by kernel_rfl) L3.runs (by kernel_rfl) (by kernel_rfl) (by kernel_rfl) (by rfl) (by first | assumption | decide +kernel) (by decide +kernel) ⟨rfl, rfl, rfl, rfl, rfl, by decide +kernel⟩ ?hw ?hc
  case hw => w_witness2
  case hc =>
    refine L2.walk_ofE (l := PySem.Challenge.rw_sametones_k22_tone_rows_at_numbers) (n := 63) (k := 11) (x := "script") (CX := L2.CX0) rfl (by decide) (by kernel_rfl) ⟨rfl, by decide, by decide⟩ ?F (fun _ _ _ _ z => z)
    intro w mg fa h Y G hmg0
    obtain ⟨K, KX, c⟩ := Y
    have hmg : mg ("law" : PySem.Str) = some (.ref fa) := by
      have e : (HandSHeadRun.topDef L3.RO.prog 25).name = ("law" : PySem.Str) := by kernel_rfl
      rw [← e]
      exact hmg0
    have cd : He.SaysD L3.fas L3.fns K := congrArg (fun z : He.AlT => z.1) c.t
    obtain ⟨fd, hb, hF⟩ := L3.facts (P := (PySem.Challenge.rw_sametones_k22_tone_rows_at_numbers).prog) (w := w) KX G hmg cd c.more
    exact ⟨K, fd, L3.up K 1 L3.sp_law, KX, hb, fun H a ns hl _ hS => L3.law_start hS hl, hF⟩


