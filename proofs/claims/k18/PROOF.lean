import PyProof.Rows.All
import Wide.All
import OpenK.AllK
import Wide.FinOn
import KE.KStateDown
import HandS.ForMost
import HandS.ForExc
import HandS.IsInst
import HandS.TupAny
import HandS.Zip
import HandS.Deep
import HandS.Style
import HandS.HeadHook1
import HandS.HeadHook2
import HandS.HeadHook4
import HandS.ExcField
import KE.KSuper
import KE.KExcPX
import HandS.TupMul
import KE.KRevSl
import HandS.DictComp
import HandS.SetFor
import HandS.GenList
import HandS.GenYield
import KE.GoesEnum
import KE.GoesMore
import HandS.OwnEq
import HandS.SortInts
import HandS.TryOnly
import KE.KFromBytes
import HandS.ExcSuper
import HandS.ExcInit
import HandS.Nested
import HandS.ExcIs
import HandS.ExcOwn
import HandS.WordsExc
import HandS.HotCalls
import KE.KExcIs
import HandS.ExcInitHot
import HandS.Zip0
import HandS.Hot
import HandS.Comp
import HandS.Iter
import HandS.TupLe
import HandS.Text
import HandS.Wide
import HandS.Head0
import HandS.Head1
import HandS.Head2
import HandS.HeadEnd
import HandS.HeadHook4
import PySem.Challenge.RW_sametones_k18_whole_kin_beside_eliminati
set_option Elab.async false
set_option linter.all false
set_option maxRecDepth 100000
set_option maxHeartbeats 4000000
namespace L3
open PySem PySem.Spec PyProof.Rows L2
abbrev FnC : Type := Option (Str × Str × Arguments × FuncBody × Scope × Addr × (List Str × Value × Value) × Addr)
def fnC (K : PySem.W.Frag) (cn : Str) : FnC := match K.lookup (He.ma K (He.ga K cn) "__init__") with
  | some ⟨_, _, .func fd, _⟩ => some (fd.name, fd.qualname, fd.params, fd.body, fd.scope, fd.globals, (fd.closure.map (·.1), fd.defaults, fd.kwdefaults), fd.builtins)
  | _ => none
structure DefC where
  cn : Str
  qual : Str
  params : Arguments
  body : List Stmt
  scope : Scope
def DefC.val (d : DefC) : FnC := some ("__init__", d.qual, d.params, .stmts d.body, d.scope, mainGlobals, (["__class__"], .none, .none), builtinsNs)
structure SaysY (fa : List He.Fa) (fn : List He.DefD) (ex : PySem.W.Frag → Bool) (fc : List DefC) (K : PySem.W.Frag) : Prop where
  d : He.SaysD fa fn K
  more : ex K = true
  c : fc.map (fun d => fnC K d.cn) = fc.map DefC.val
end L3
namespace L3
open PySem PySem.Spec PyProof.Rows L2
def top (i : Nat) : Stmt := PySem.Challenge.pw_sametones_k18_whole_kin_beside_eliminati.main.body.getD i (.Pass ⟨0, 0, 0, 0⟩)
def dd_law_bag : He.DefD := ⟨("_law_bag", none), "_law_bag", "_law_bag", defArgs (top 38), defBody (top 38), defScope (top 38), [], []⟩
def dd_law_draw : He.DefD := ⟨("_law_draw", none), "_law_draw", "_law_draw", defArgs (top 39), defBody (top 39), defScope (top 39), [], []⟩
def dd_law_of : He.DefD := ⟨("_law_of", none), "_law_of", "_law_of", defArgs (top 40), defBody (top 40), defScope (top 40), [], []⟩
def dd_law_labels : He.DefD := ⟨("_law_labels", none), "_law_labels", "_law_labels", defArgs (top 43), defBody (top 43), defScope (top 43), [], []⟩
def dd_law_step_row : He.DefD := ⟨("_law_step_row", none), "_law_step_row", "_law_step_row", defArgs (top 44), defBody (top 44), defScope (top 44), [], []⟩
def dd_law_net : He.DefD := ⟨("_law_net", none), "_law_net", "_law_net", defArgs (top 45), defBody (top 45), defScope (top 45), [], []⟩
def dd_law_order : He.DefD := ⟨("_law_order", none), "_law_order", "_law_order", defArgs (top 52), defBody (top 52), defScope (top 52), [], []⟩
def dd_law_turned_net : He.DefD := ⟨("_law_turned_net", none), "_law_turned_net", "_law_turned_net", defArgs (top 50), defBody (top 50), defScope (top 50), [], []⟩
def dd_law_named_net : He.DefD := ⟨("_law_named_net", none), "_law_named_net", "_law_named_net", defArgs (top 51), defBody (top 51), defScope (top 51), [], []⟩
def dd_law_disguise : He.DefD := ⟨("_law_disguise", none), "_law_disguise", "_law_disguise", defArgs (top 53), defBody (top 53), defScope (top 53), [], []⟩
def dd_law_cover : He.DefD := ⟨("_law_cover", none), "_law_cover", "_law_cover", defArgs (top 54), defBody (top 54), defScope (top 54), [], []⟩
def dd_Plan_step : He.DefD := ⟨("Plan", some "step"), "step", "Plan.step", defArgs (inClass (top 36) 1), defBody (inClass (top 36) 1), defScope (inClass (top 36) 1), [], []⟩
def dd_step_row : He.DefD := ⟨("step_row", none), "step_row", "step_row", defArgs (top 9), defBody (top 9), defScope (top 9), [], []⟩
def dd_through : He.DefD := ⟨("through", none), "through", "through", defArgs (top 8), defBody (top 8), defScope (top 8), [], []⟩
def dd_crossed : He.DefD := ⟨("crossed", none), "crossed", "crossed", defArgs (top 10), defBody (top 10), defScope (top 10), [], []⟩
def dd_round_tables : He.DefD := ⟨("round_tables", none), "round_tables", "round_tables", defArgs (top 13), defBody (top 13), defScope (top 13), [], []⟩
def dd_has_step_rows : He.DefD := ⟨("has_step_rows", none), "has_step_rows", "has_step_rows", defArgs (top 33), defBody (top 33), defScope (top 33), [], []⟩
def dd_is_number : He.DefD := ⟨("is_number", none), "is_number", "is_number", defArgs (top 15), defBody (top 15), defScope (top 15), [], []⟩
def dd_is_index : He.DefD := ⟨("is_index", none), "is_index", "is_index", defArgs (top 16), defBody (top 16), defScope (top 16), [], []⟩
def dd_is_sign : He.DefD := ⟨("is_sign", none), "is_sign", "is_sign", defArgs (top 17), defBody (top 17), defScope (top 17), [], []⟩
def dd_is_step : He.DefD := ⟨("is_step", none), "is_step", "is_step", defArgs (top 34), defBody (top 34), defScope (top 34), [], []⟩
def dd_wrong_step : He.DefD := ⟨("wrong_step", none), "wrong_step", "wrong_step", defArgs (top 35), defBody (top 35), defScope (top 35), [], []⟩
def dd_is_side_name : He.DefD := ⟨("is_side_name", none), "is_side_name", "is_side_name", defArgs (top 21), defBody (top 21), defScope (top 21), [], []⟩
def dd_is_sides : He.DefD := ⟨("is_sides", none), "is_sides", "is_sides", defArgs (top 22), defBody (top 22), defScope (top 22), [], []⟩
def dd_Plan_init__ : He.DefD := ⟨("Plan", some "__init__"), "__init__", "Plan.__init__", defArgs (inClass (top 36) 0), defBody (inClass (top 36) 0), defScope (inClass (top 36) 0), [], []⟩
def dd_law_plan : He.DefD := ⟨("_law_plan", none), "_law_plan", "_law_plan", defArgs (top 46), defBody (top 46), defScope (top 46), [], []⟩
def dd_law_led : He.DefD := ⟨("_law_led", none), "_law_led", "_law_led", defArgs (top 47), defBody (top 47), defScope (top 47), [], []⟩
def dd_law_table : He.DefD := ⟨("_law_table", none), "_law_table", "_law_table", defArgs (top 48), defBody (top 48), defScope (top 48), [], []⟩
def dd_law_equations : He.DefD := ⟨("_law_equations", none), "_law_equations", "_law_equations", defArgs (top 55), defBody (top 55), defScope (top 55), [], []⟩
def dd_law_divisor : He.DefD := ⟨("_law_divisor", none), "_law_divisor", "_law_divisor", defArgs (top 56), defBody (top 56), defScope (top 56), [], []⟩
def dd_law_independent : He.DefD := ⟨("_law_independent", none), "_law_independent", "_law_independent", defArgs (top 57), defBody (top 57), defScope (top 57), [], []⟩
def dd_law_like : He.DefD := ⟨("_law_like", none), "_law_like", "_law_like", defArgs (top 41), defBody (top 41), defScope (top 41), [], []⟩
def dd_law_flat : He.DefD := ⟨("_law_flat", none), "_law_flat", "_law_flat", defArgs (top 58), defBody (top 58), defScope (top 58), [], []⟩
def dd_kin : He.DefD := ⟨("kin", none), "kin", "kin", defArgs (top 12), defBody (top 12), defScope (top 12), [], []⟩
def dd_law_whole : He.DefD := ⟨("_law_whole", none), "_law_whole", "_law_whole", defArgs (top 42), defBody (top 42), defScope (top 42), [], []⟩
def dd_law_inner : He.DefD := ⟨("_law_inner", none), "_law_inner", "_law_inner", defArgs (top 49), defBody (top 49), defScope (top 49), [], []⟩
def dd_law_pair_so : He.DefD := ⟨("_law_pair_so", none), "_law_pair_so", "_law_pair_so", defArgs (top 59), defBody (top 59), defScope (top 59), [], []⟩
def dd_law : He.DefD := ⟨("law", none), "law", "law", defArgs (top 60), defBody (top 60), defScope (top 60), [], []⟩
def fns : List He.DefD := [dd_law_bag, dd_law_draw, dd_law_of, dd_law_labels, dd_law_step_row, dd_law_net, dd_law_order, dd_law_turned_net, dd_law_named_net, dd_law_disguise, dd_law_cover, dd_Plan_step, dd_step_row, dd_through, dd_crossed, dd_round_tables, dd_has_step_rows, dd_is_number, dd_is_index, dd_is_sign, dd_is_step, dd_wrong_step, dd_is_side_name, dd_is_sides, dd_Plan_init__, dd_law_plan, dd_law_led, dd_law_table, dd_law_equations, dd_law_divisor, dd_law_independent, dd_law_like, dd_law_flat, dd_kin, dd_law_whole, dd_law_inner, dd_law_pair_so, dd_law]
def fas : List He.Fa := [.free "len",
  .free "range",
  .free "isinstance",
  .free "int",
  .free "bool",
  .free "str",
  .free "list",
  .free "tuple",
  .free "dict",
  .free "all",
  .free "any",
  .free "sum",
  .free "enumerate",
  .free "zip",
  .free "max",
  .free "min",
  .free "abs",
  .free "sorted",
  .free "reversed",
  .free "set",
  .free "repr",
  .free "divmod",
  .cls "Plan",
  .glo "Plan",
  .noat "Plan" "sides",
  .noat "Plan" "copies",
  .noat "Plan" "_steps",
  .int "LONGEST_NAME" (3),
  .str "LETTERS" "abcdefghijklmnopqrstuvwxyz",
  .glo "_law_bag",
  .glo "_law_draw",
  .glo "_law_of",
  .glo "_law_labels",
  .glo "_law_step_row",
  .glo "_law_net",
  .glo "_law_order",
  .glo "_law_turned_net",
  .glo "_law_named_net",
  .glo "_law_disguise",
  .glo "_law_cover",
  .meth "Plan" "step",
  .glo "step_row",
  .glo "through",
  .glo "crossed",
  .glo "round_tables",
  .glo "has_step_rows",
  .glo "is_number",
  .glo "is_index",
  .glo "is_sign",
  .glo "is_step",
  .glo "wrong_step",
  .glo "is_side_name",
  .glo "is_sides",
  .mkr "Plan",
  .glo "_law_plan",
  .glo "_law_led",
  .glo "_law_table",
  .glo "_law_equations",
  .glo "_law_divisor",
  .glo "_law_independent",
  .glo "_law_like",
  .glo "_law_flat",
  .glo "kin",
  .glo "_law_whole",
  .glo "_law_inner",
  .glo "_law_pair_so",
  .glo "law"]
def exs (K : PySem.W.Frag) : Bool := true
abbrev RO : PySem.W.OpenRow := PySem.W.OpenLaw.row PySem.Challenge.rw_sametones_k18_whole_kin_beside_eliminati
abbrev hook : PySem.W.Hook := He.hookX 6 fas fns [] [] exs
def look (s : PySem.W.SharedT) : He.AlX := He.obsX 6 fas fns [] [] exs (HandSHeadRun.getT s)
theorem look_eq (s : PySem.W.SharedT) : look s = hook.obs s.abs := He.obsX_eq (HandSHeadRun.getT_eq s)
def loose0 : List Str := ["_wall", "ToneError", "BadPlan", "InvalidSides", "InvalidSteps", "OtherSides", "through", "step_row", "crossed", "kin", "round_tables", "is_number", "is_index", "is_sign", "LETTERS", "LONGEST_NAME", "is_side_name", "is_sides", "DIGITS", "MOST_DIGITS", "LENGTHS", "plan_text", "number_of", "is_step_line", "PlanLines", "read_plan", "has_step_rows", "is_step", "wrong_step", "Plan"]
def loose1 : List Str := ["_law_bag", "_law_draw", "_law_of", "_law_like", "_law_whole", "_law_labels", "_law_step_row", "_law_net", "_law_plan", "_law_led", "_law_table", "_law_inner", "_law_turned_net", "_law_named_net", "_law_order", "_law_disguise", "_law_cover", "_law_equations", "_law_divisor", "_law_independent", "_law_flat", "_law_pair_so"]
def looseN : List Str := loose0 ++ loose1
theorem run0 (w : World) : HandSHeadRun.RunEq RO (PySem.W.view RO.prog [60]) hook look 40000 looseN (w.withFollow "special-get-raises" false) := by
  intro os
  kernel_rfl
theorem run1 (w : World) : HandSHeadRun.RunEq RO (PySem.W.view RO.prog [60]) hook look 40000 looseN (w.withFollow "special-get-raises" true) := by
  intro os
  kernel_rfl
theorem runs (w : World) : HandSHeadRun.RunEq RO (PySem.W.view RO.prog [60]) hook look 40000 looseN w := PySem.W.byRow2 "special-get-raises" (P := fun w => HandSHeadRun.RunEq RO (PySem.W.view RO.prog [60]) hook look 40000 looseN w) run0 run1 w
end L3
open PySem PySem.W PySem.Calls PyProof.Rows in
theorem L3.of_open (h : PySem.Challenge.rw_sametones_k18_whole_kin_beside_eliminati.row.wellSaid = true → PySem.Challenge.rw_sametones_k18_whole_kin_beside_eliminati.row.Holds) : PySem.Challenge.rw_sametones_k18_whole_kin_beside_eliminati.Holds := by
  w_on; o_law
  exact h (by assumption)
namespace L3
open PySem PySem.Spec PyProof.Rows L2

inductive D where
  | non | bl (b : Bool) | int (i : Int) | str (x : Str)
  | lst (xs : List D) | tup (xs : List D)
  | obj (cn : Str) (ns : List Str) (xs : List D)
  | frz (xs : List D)
  | dct (ks : List Key) (xs : List D)
  | exn (a dd : Addr) (cn : Str) (ns : List Str) (xs : List D)

mutual
inductive At (K : PySem.W.Frag) (G : Hp) : V → D → Prop
  | non : At K G .non .non
  | bl (b : Bool) : At K G (.bl b) (.bl b)
  | int (i : Int) : At K G (.int i) (.int i)
  | str (x : Str) : At K G (.str x) (.str x)
  | lst {a : Addr} {vs : List V} {ds : List D} : G a = some (.lst vs) → AtL K G vs ds → At K G (.ref a) (.lst ds)
  | tup {a : Addr} {vs : List V} {ds : List D} : SqT K G a vs → AtL K G vs ds → At K G (.ref a) (.tup ds)
  | obj {a dx : Addr} {cn : Str} {ns : List Str} {vs : List V} {ds : List D} : G a = some (.ins (He.ga K cn) dx (ns.zip vs)) → ns.length = vs.length → AtL K G vs ds → At K G (.ref a) (.obj cn ns ds)
  | frz {a : Addr} {vs : List V} {ds : List D} : SqL K G a vs → AtL K G vs ds → At K G (.ref a) (.frz ds)
  | dct {a : Addr} {ks : List Key} {vs : List V} {ds : List D} : G a = some (.dK (ks.zip vs)) → ks.length = vs.length → AtL K G vs ds → At K G (.ref a) (.dct ks ds)
  | exn {a dd : Addr} {cn : Str} {ns : List Str} {vs : List V} {ds : List D} : G dd = some (.xd (ns.zip vs)) → ns.length = vs.length → AtL K G vs ds → At K G (.ref a) (.exn a dd cn ns ds)
inductive AtL (K : PySem.W.Frag) (G : Hp) : List V → List D → Prop
  | nil : AtL K G [] []
  | cons {v : V} {vs : List V} {d : D} {ds : List D} : At K G v d → AtL K G vs ds → AtL K G (v :: vs) (d :: ds)
end

/-- what is known of a grows -/
def Sub (G G' : Hp) : Prop := ∀ a o, G a = some o → G' a = some o
theorem Sub.refl {G : Hp} : Sub G G := fun _ _ h => h
theorem Sub.trans {G G1 G2 : Hp} (x : Sub G G1) (y : Sub G1 G2) : Sub G G2 := fun a o h => y a o (x a o h)
theorem Sub.rd {G G' : Hp} (s : Sub G G') {a : Addr} {u : HO} (r : Rd G a u) : Rd G' a u := by
  rcases r with r | ⟨o, r⟩
  · exact .inl (s _ _ r)
  · exact .inr ⟨o, s _ _ r⟩
theorem Sub.sqL {K : PySem.W.Frag} {G G' : Hp} (s : Sub G G') {a : Addr} {vs : List V} (r : SqL K G a vs) : SqL K G' a vs := by
  rcases r with r | r
  · exact .inl (s.rd r)
  · exact .inr r
theorem Sub.sqT {K : PySem.W.Frag} {G G' : Hp} (s : Sub G G') {a : Addr} {vs : List V} (r : SqT K G a vs) : SqT K G' a vs := by
  rcases r with r | r
  · exact .inl (s.rd r)
  · exact .inr r
mutual
theorem At.mono {K : PySem.W.Frag} {G G' : Hp} (s : Sub G G') : ∀ {v : V} {d : D}, At K G v d → At K G' v d
  | _, _, .non => .non
  | _, _, .bl b => .bl b
  | _, _, .int i => .int i
  | _, _, .str x => .str x
  | _, _, .lst h t => .lst (s _ _ h) (AtL.mono s t)
  | _, _, .tup h t => .tup (s.sqT h) (AtL.mono s t)
  | _, _, .obj h n t => .obj (s _ _ h) n (AtL.mono s t)
  | _, _, .frz h t => .frz (s.sqL h) (AtL.mono s t)
  | _, _, .dct h n t => .dct (s _ _ h) n (AtL.mono s t)
  | _, _, .exn h n t => .exn (s _ _ h) n (AtL.mono s t)
theorem AtL.mono {K : PySem.W.Frag} {G G' : Hp} (s : Sub G G') : ∀ {vs : List V} {ds : List D}, AtL K G vs ds → AtL K G' vs ds
  | _, _, .nil => .nil
  | _, _, .cons h t => .cons (At.mono s h) (AtL.mono s t)
end
section
variable {K : PySem.W.Frag} {G : Hp}
theorem AtL.length : ∀ {vs : List V} {ds : List D}, AtL K G vs ds → vs.length = ds.length
  | _, _, .nil => rfl
  | _, _, .cons _ t => congrArg (· + 1) (AtL.length t)
theorem AtL.get : ∀ {vs : List V} {ds : List D} {i : Nat} {d : D}, AtL K G vs ds → ds[i]? = some d → ∃ v, vs[i]? = some v ∧ At K G v d
  | _, _, _, _, .nil, e => by simp at e
  | _, _, 0, _, .cons h _, e => by
    simp at e
    subst e
    exact ⟨_, rfl, h⟩
  | _, _, i + 1, d, .cons _ t, e => by
    obtain ⟨v, h1, h2⟩ := AtL.get (i := i) (d := d) t (by simpa using e)
    exact ⟨v, by simpa using h1, h2⟩
theorem AtL.append : ∀ {vs us : List V} {ds es : List D}, AtL K G vs ds → AtL K G us es → AtL K G (vs ++ us) (ds ++ es)
  | _, _, _, _, .nil, s => s
  | _, _, _, _, .cons h t, s => .cons h (AtL.append t s)
theorem AtL.set {v : V} {d : D} (h : At K G v d) : ∀ {vs : List V} {ds : List D} (i : Nat), AtL K G vs ds → AtL K G (vs.set i v) (ds.set i d)
  | _, _, _, .nil => .nil
  | _, _, 0, .cons _ t => .cons h t
  | _, _, i + 1, .cons q t => .cons q (AtL.set h i t)
theorem AtL.take : ∀ {vs : List V} {ds : List D} (n : Nat), AtL K G vs ds → AtL K G (vs.take n) (ds.take n)
  | _, _, 0, _ => .nil
  | _, _, _ + 1, .nil => .nil
  | _, _, n + 1, .cons h t => .cons h (AtL.take n t)
theorem AtL.drop : ∀ {vs : List V} {ds : List D} (n : Nat), AtL K G vs ds → AtL K G (vs.drop n) (ds.drop n)
  | _, _, 0, h => h
  | _, _, _ + 1, .nil => .nil
  | _, _, n + 1, .cons _ t => AtL.drop n t
theorem AtL.eraseIdx : ∀ {vs : List V} {ds : List D} (n : Nat), AtL K G vs ds → AtL K G (vs.eraseIdx n) (ds.eraseIdx n)
  | _, _, _, .nil => .nil
  | _, _, 0, .cons _ t => t
  | _, _, n + 1, .cons h t => .cons h (AtL.eraseIdx n t)
theorem AtL.reverse {vs : List V} {ds : List D} (h : AtL K G vs ds) : AtL K G vs.reverse ds.reverse := by
  induction vs generalizing ds with
  | nil =>
    cases h
    exact .nil
  | cons v vs ih =>
    cases h with
    | cons h t =>
      rw [List.reverse_cons, List.reverse_cons]
      exact (ih t).append (.cons h .nil)
theorem AtL.rep {vs : List V} {ds : List D} (h : AtL K G vs ds) : ∀ k : Nat, AtL K G (List.replicate k vs).flatten (List.replicate k ds).flatten
  | 0 => .nil
  | k + 1 => by
    rw [List.replicate_succ, List.replicate_succ, List.flatten_cons, List.flatten_cons]
    exact h.append (AtL.rep h k)
theorem AtL.one {v : V} {d : D} (h : At K G v d) : AtL K G [v] [d] := .cons h .nil
end

/-- what an owned object holds -/
inductive Cn where
  | l (xs : List D)
  | d (kvs : List (Key × D))
  | o (cn : Str) (fs : List (Str × D))
/-- a slot: nothing known; a value that stands still; an object of our own -/
inductive E where
  | no
  | va (d : D)
  | ow (c : Cn)
abbrev En := List E
abbrev E.ol (xs : List D) : E := .ow (.l xs)
abbrev E.od (kvs : List (Key × D)) : E := .ow (.d kvs)
/-- an expression's result: a value that stands still; a new object; the object of a slot -/
inductive R where
  | va (d : D)
  | fr (c : Cn)
  | rf (i : Nat)
abbrev R.fl (xs : List D) : R := .fr (.l xs)

def AtKV (K : PySem.W.Frag) (G : Hp) : List (Key × V) → List (Key × D) → Prop := Paired fun (p : Key × V) (q : Key × D) => p.1 = q.1 ∧ At K G p.2 q.2
def AtF (K : PySem.W.Frag) (G : Hp) : List (Str × V) → List (Str × D) → Prop := Paired fun (p : Str × V) (q : Str × D) => p.1 = q.1 ∧ At K G p.2 q.2
/-- the object at l holds c -/
def AtC (K : PySem.W.Frag) (H G : Hp) (l : Addr) : Cn → Prop
  | .l xs => ∃ vs, H l = some (.lst vs) ∧ AtL K G vs xs
  | .d kvs => ∃ vs, H l = some (.dK vs) ∧ AtKV K G vs kvs
  | .o cn fs => ∃ dx vs, H l = some (.ins (He.ga K cn) dx vs) ∧ AtF K G vs fs
theorem AtF.mono {K : PySem.W.Frag} {G G' : Hp} (s : Sub G G') {vs : List (Str × V)} {ds : List (Str × D)} (h : AtF K G vs ds) : AtF K G' vs ds :=
  Paired.mapP h fun _ _ x => ⟨x.1, x.2.mono s⟩
theorem AtF.zip {K : PySem.W.Frag} {G : Hp} : ∀ {vs : List (Str × V)} {ds : List (Str × D)}, AtF K G vs ds → vs = (ds.map (·.1)).zip (vs.map (·.2)) ∧ AtL K G (vs.map (·.2)) (ds.map (·.2))
  | _, _, .nil => ⟨rfl, .nil⟩
  | _, _, .cons (a := (f, v)) (b := (g, d)) h t => by
    obtain ⟨e, a⟩ := h
    obtain ⟨e2, a2⟩ := AtF.zip t
    have e' : f = g := e
    subst e'
    exact ⟨by rw [List.map_cons, List.map_cons, List.zip_cons_cons, ← e2], .cons a a2⟩
theorem AtKV.zip {K : PySem.W.Frag} {G : Hp} : ∀ {vs : List (Key × V)} {ds : List (Key × D)}, AtKV K G vs ds → vs = (ds.map (·.1)).zip (vs.map (·.2)) ∧ AtL K G (vs.map (·.2)) (ds.map (·.2))
  | _, _, .nil => ⟨rfl, .nil⟩
  | _, _, .cons (a := (f, v)) (b := (g, d)) h t => by
    obtain ⟨e, a⟩ := h
    obtain ⟨e2, a2⟩ := AtKV.zip t
    have e' : f = g := e
    subst e'
    exact ⟨by rw [List.map_cons, List.map_cons, List.zip_cons_cons, ← e2], .cons a a2⟩
theorem AtKV.mono {K : PySem.W.Frag} {G G' : Hp} (s : Sub G G') {vs : List (Key × V)} {ds : List (Key × D)} (h : AtKV K G vs ds) : AtKV K G' vs ds :=
  Paired.mapP h fun _ _ x => ⟨x.1, x.2.mono s⟩
theorem AtC.mono {K : PySem.W.Frag} {H H' G G' : Hp} {l : Addr} (e : ∀ o, H l = some o → H' l = some o) (s : Sub G G') : ∀ {c : Cn}, AtC K H G l c → AtC K H' G' l c
  | .l _, ⟨vs, h, t⟩ => ⟨vs, e _ h, t.mono s⟩
  | .d _, ⟨vs, h, t⟩ => ⟨vs, e _ h, t.mono s⟩
  | .o _ _, ⟨dx, vs, h, t⟩ => ⟨dx, vs, e _ h, t.mono s⟩
theorem AtC.some {K : PySem.W.Frag} {H G : Hp} {l : Addr} : ∀ {c : Cn}, AtC K H G l c → H l ≠ none
  | .l _, ⟨_, h, _⟩ => by rw [h]; exact fun z => nomatch z
  | .d _, ⟨_, h, _⟩ => by rw [h]; exact fun z => nomatch z
  | .o _ _, ⟨_, _, h, _⟩ => by rw [h]; exact fun z => nomatch z

/-- the owned addresses -/
def Ad (σ : L2.St) (δ : En) (l : Addr) : Prop := ∃ (i : Nat) (c : Cn), δ[i]? = some (E.ow c) ∧ σ[i]? = some (some (V.ref l))
/-- the slots are as told -/
structure Rel (K : PySem.W.Frag) (σ : L2.St) (H G : Hp) (δ : En) : Prop where
  len : σ.length = δ.length
  sub : Sub G H
  va : ∀ (i : Nat) (d : D), δ[i]? = some (E.va d) → ∃ v, σ[i]? = some (some v) ∧ At K G v d
  ow : ∀ (i : Nat) (c : Cn), δ[i]? = some (E.ow c) → ∃ l, σ[i]? = some (some (V.ref l)) ∧ G l = none ∧ AtC K H G l c
  dj : ∀ (i j : Nat) (l : Addr) (c c' : Cn), δ[i]? = some (E.ow c) → δ[j]? = some (E.ow c') → σ[i]? = some (some (V.ref l)) → σ[j]? = some (some (V.ref l)) → i = j
/-- what may change: the addresses of A alone -/
structure Fr (A : Addr → Prop) (H G H' G' : Hp) : Prop where
  h : ∀ a o, ¬ A a → H a = some o → H' a = some o
  g : ∀ a o, G a = some o → G' a = some o
  n : ∀ a, ¬ A a → H a ≠ none → G' a = G a
  d : ∀ a, H a ≠ none → H' a ≠ none
theorem Fr.refl {A : Addr → Prop} {H G : Hp} : Fr A H G H G := ⟨fun _ _ _ h => h, fun _ _ h => h, fun _ _ _ => rfl, fun _ h => h⟩
theorem Fr.trans {A B : Addr → Prop} {H G H1 G1 H2 G2 : Hp} (x : Fr A H G H1 G1) (y : Fr B H1 G1 H2 G2) (hb : ∀ a, B a → A a ∨ H a = none) : Fr A H G H2 G2 where
  h := fun a o na e => y.h a o (fun z => (hb a z).elim na fun q => by rw [q] at e; cases e) (x.h a o na e)
  g := fun a o e => y.g a o (x.g a o e)
  n := fun a na e => (y.n a (fun z => (hb a z).elim na e) (x.d a e)).trans (x.n a na e)
  d := fun a e => y.d a (x.d a e)
theorem Fr.mono {A B : Addr → Prop} {H G H1 G1 : Hp} (x : Fr A H G H1 G1) (hb : ∀ a, A a → B a ∨ H a = none) : Fr B H G H1 G1 :=
  Fr.refl.trans x hb
theorem Fr.sub {A : Addr → Prop} {H G H1 G1 : Hp} (x : Fr A H G H1 G1) : Sub G G1 := x.g
theorem Fr.free {A : Addr → Prop} {H G H1 G1 : Hp} (x : Fr A H G H1 G1) {a : Addr} (h : H1 a = none) : H a = none := by
  cases e : H a with
  | none => rfl
  | some o => exact absurd h (x.d a (by rw [e]; exact fun z => nomatch z))
/-- no more is owned -/
def Le (δ' δ : En) : Prop := ∀ (i : Nat) (c : Cn), δ'[i]? = some (E.ow c) → ∃ c', δ[i]? = some (E.ow c')
theorem Le.refl {δ : En} : Le δ δ := fun _ c h => ⟨c, h⟩
theorem Le.trans {δ δ1 δ2 : En} (x : Le δ2 δ1) (y : Le δ1 δ) : Le δ2 δ := fun i c h => by
  obtain ⟨c1, h1⟩ := x i c h
  exact y i c1 h1
theorem Le.ad {δ' δ : En} (x : Le δ' δ) {σ : L2.St} {l : Addr} (h : Ad σ δ' l) : Ad σ δ l := by
  obtain ⟨i, c, h1, h2⟩ := h
  obtain ⟨c', h3⟩ := x i c h1
  exact ⟨i, c', h3, h2⟩
/-- an expression's result -/
def RR (K : PySem.W.Frag) (σ : L2.St) (H0 H G : Hp) : R → V → Prop
  | .va d, v => At K G v d
  | .fr c, v => ∃ l, v = .ref l ∧ H0 l = none ∧ G l = none ∧ AtC K H G l c
  | .rf i, v => σ[i]? = some (some v)
theorem Rel.there {K : PySem.W.Frag} {σ : L2.St} {H G : Hp} {δ : En} (x : Rel K σ H G δ) {l : Addr} (h : Ad σ δ l) : H l ≠ none := by
  obtain ⟨i, c, h1, h2⟩ := h
  obtain ⟨l', h3, _, h4⟩ := x.ow i c h1
  rw [h2] at h3
  cases h3
  exact h4.some
theorem Rel.gnone {K : PySem.W.Frag} {σ : L2.St} {H G : Hp} {δ : En} (x : Rel K σ H G δ) {l : Addr} (h : Ad σ δ l) : G l = none := by
  obtain ⟨i, c, h1, h2⟩ := h
  obtain ⟨l', h3, h4, _⟩ := x.ow i c h1
  rw [h2] at h3
  cases h3
  exact h4
/-- a result stands while others are made -/
theorem RR.on {K : PySem.W.Frag} {σ : L2.St} {H0 H G H' G' : Hp} {δ : En} {v : V} (L : Rel K σ H0 G0 δ) (h0 : Fr (Ad σ δ) H0 G0 H G) {δ1 : En} (le : Le δ1 δ) (f : Fr (Ad σ δ1) H G H' G') : ∀ {r : R}, RR K σ H0 H G r v → RR K σ H0 H' G' r v
  | .va d, h => At.mono f.sub h
  | .fr c, ⟨l, e, n, g, h⟩ => by
    have na : ¬ Ad σ δ1 l := fun z => L.there (le.ad z) n
    exact ⟨l, e, n, (f.n l na h.some).trans g, h.mono (fun o q => f.h l o na q) f.sub⟩
  | .rf i, h => h
theorem RR.base {K : PySem.W.Frag} {σ : L2.St} {H0 H1 H G : Hp} {v : V} (k : ∀ a, H1 a = none → H0 a = none) : ∀ {r : R}, RR K σ H1 H G r v → RR K σ H0 H G r v
  | .va d, h => h
  | .fr c, ⟨l, e, n, g, h⟩ => ⟨l, e, k l n, g, h⟩
  | .rf i, h => h

abbrev DT := En → (R → En → Prop) → Prop
abbrev DTT := En → (Bool → En → Prop) → Prop
abbrev DTA := En → (List R → En → Prop) → Prop
/-- t is sound for T: an expression -/
def Snd (K : PySem.W.Frag) (t : TE) (T : DT) : Prop := ∀ (σ : L2.St) (H G : Hp) (δ : En) (Q : VK) (Q3 : R → En → Prop), Rel K σ H G δ → T δ Q3 →
  (∀ r δ' v H' G', Rel K σ H' G' δ' → Fr (Ad σ δ) H G H' G' → Le δ' δ → RR K σ H H' G' r v → Q3 r δ' → Q v H') → t σ H Q
/-- a test -/
def SndT (K : PySem.W.Frag) (t : TT) (T : DTT) : Prop := ∀ (σ : L2.St) (H G : Hp) (δ : En) (Q : Bool → Hp → Prop) (Q3 : Bool → En → Prop), Rel K σ H G δ → T δ Q3 →
  (∀ b δ' H' G', Rel K σ H' G' δ' → Fr (Ad σ δ) H G H' G' → Le δ' δ → Q3 b δ' → Q b H') → t σ H Q
/-- the results of a list of expressions: new objects are apart -/
inductive RRs (K : PySem.W.Frag) (σ : L2.St) (H0 H G : Hp) : List R → List V → Prop
  | nil : RRs K σ H0 H G [] []
  | cons {r : R} {v : V} {rs : List R} {vs : List V} : RR K σ H0 H G r v → RRs K σ H0 H G rs vs → (∀ c, r = .fr c → ∀ (j : Nat) (c' : Cn), rs[j]? = some (.fr c') → vs[j]? ≠ some v) → RRs K σ H0 H G (r :: rs) (v :: vs)
def SndA (K : PySem.W.Frag) (t : TA) (T : DTA) : Prop := ∀ (σ : L2.St) (H G : Hp) (δ : En) (Q : List V → Hp → Prop) (Q3 : List R → En → Prop), Rel K σ H G δ → T δ Q3 →
  (∀ rs δ' vs H' G', Rel K σ H' G' δ' → Fr (Ad σ δ) H G H' G' → Le δ' δ → RRs K σ H H' G' rs vs → Q3 rs δ' → Q vs H') → t σ H Q
section
variable {K : PySem.W.Frag} {σ : L2.St} {H0 H1 H G : Hp}
theorem RRs.length : ∀ {rs : List R} {vs : List V}, RRs K σ H0 H G rs vs → vs.length = rs.length
  | _, _, .nil => rfl
  | _, _, .cons _ t _ => congrArg (· + 1) (RRs.length t)
theorem RRs.get : ∀ {rs : List R} {vs : List V} {i : Nat} {r : R}, RRs K σ H0 H G rs vs → rs[i]? = some r → ∃ v, vs[i]? = some v ∧ RR K σ H0 H G r v
  | _, _, _, _, .nil, e => by simp at e
  | _, _, 0, _, .cons h _ _, e => by
    simp at e
    subst e
    exact ⟨_, rfl, h⟩
  | _, _, i + 1, r, .cons _ t _, e => by
    obtain ⟨v, h1, h2⟩ := RRs.get (i := i) (r := r) t (by simpa using e)
    exact ⟨v, by simpa using h1, h2⟩
theorem RRs.apart : ∀ {rs : List R} {vs : List V} {i j : Nat} {c c' : Cn} {v : V}, RRs K σ H0 H G rs vs → rs[i]? = some (.fr c) → rs[j]? = some (.fr c') → vs[i]? = some v → vs[j]? = some v → i = j
  | _, _, _, _, _, _, _, .nil, e, _, _, _ => by simp at e
  | _, _, 0, 0, _, _, _, _, _, _, _, _ => rfl
  | _, _, 0, j + 1, _, c', v, .cons h t n, e, e', d, d' => by
    simp at e d e' d'
    subst e d
    exact absurd d' (n _ rfl j c' e')
  | _, _, i + 1, 0, c, _, v, .cons h t n, e, e', d, d' => by
    simp at e d e' d'
    subst e' d'
    exact absurd d (n _ rfl i c e)
  | _, _, i + 1, j + 1, c, c', v, .cons h t n, e, e', d, d' => by
    simp at e d e' d'
    exact congrArg (· + 1) (RRs.apart t e e' d d')
theorem RRs.base (k : ∀ a, H1 a = none → H0 a = none) : ∀ {rs : List R} {vs : List V}, RRs K σ H1 H G rs vs → RRs K σ H0 H G rs vs
  | _, _, .nil => .nil
  | _, _, .cons h t n => .cons (h.base k) (RRs.base k t) n
end
section
variable {K : PySem.W.Frag}
def tv (i : Nat) : DT := fun δ Q => match δ[i]? with
  | some (E.va d) => Q (.va d) δ
  | some (E.ow _) => Q (.rf i) δ
  | _ => False
theorem snd_var {i : Nat} : Snd K (tVar i) (tv i) := fun σ H G δ Q Q3 L h k => by
  unfold tv at h
  split at h
  · rename_i d e
    obtain ⟨v, h1, h2⟩ := L.va i d e
    exact ⟨v, h1, k (.va d) δ v H G L .refl .refl h2 h⟩
  · rename_i c e
    obtain ⟨l, h1, h2, h3⟩ := L.ow i c e
    exact ⟨.ref l, h1, k (.rf i) δ _ H G L .refl .refl h1 h⟩
  · exact h.elim
def tc (d : D) : DT := fun δ Q => Q (.va d) δ
theorem snd_c {v : V} {d : D} (h : ∀ G, At K G v d) : Snd K (tC v) (tc d) := fun σ H G δ Q Q3 L q k => k (.va d) δ v H G L .refl .refl (h G) q
theorem snd_int {i : Int} : Snd K (tC (.int i)) (tc (.int i)) := snd_c fun _ => .int i
theorem snd_bl {b : Bool} : Snd K (tC (.bl b)) (tc (.bl b)) := snd_c fun _ => .bl b
theorem snd_non : Snd K (tC .non) (tc .non) := snd_c fun _ => .non
theorem snd_str {x : Str} : Snd K (tC (.str x)) (tc (.str x)) := snd_c fun _ => .str x
def ta0 : DTA := fun δ Q => Q [] δ
def tac (T : DT) (U : DTA) : DTA := fun δ Q => T δ fun r δ1 => U δ1 fun rs δ2 => Q (r :: rs) δ2
theorem snda_nil : SndA K tNil ta0 := fun σ H G δ Q Q3 L q k => k _ δ [] H G L .refl .refl .nil q
theorem snda_cons {t : TE} {u : TA} {T : DT} {U : DTA} (a : Snd K t T) (b : SndA K u U) : SndA K (tCons t u) (tac T U) := fun σ H G δ Q Q3 L q k => by
  refine a σ H G δ _ _ L q fun r δ1 v H1 G1 L1 f1 le1 rr q1 => ?_
  refine b σ H1 G1 δ1 _ _ L1 q1 fun rs δ2 vs H2 G2 L2 f2 le2 rrs q2 => ?_
  refine k _ δ2 _ H2 G2 L2 (f1.trans f2 fun a h => .inl (le1.ad h)) (le2.trans le1) (.cons (rr.on L f1 le1 f2) (rrs.base fun a h => f1.free h) fun c e j c' e' e2 => ?_) q2
  subst e
  obtain ⟨l, rfl, n, g, hc⟩ := rr
  obtain ⟨v', h1, l', h2, n', _⟩ := rrs.get e'
  rw [e2] at h1
  cases h1
  cases h2
  exact hc.some n'
end
end L3
namespace L3
open PySem PySem.Spec PyProof.Rows L2
theorem tuple_mulE (l : Addr) (n : Nat) (dd : Option Addr) (sl : Array (Option Value)) (x : Int) (u : Tok) (c0 : (decide (x < -(2 ^ 63)) || decide (x ≥ 2 ^ 63)) = false) :
    Meets (Builtin.«tuple.__mul__» ⟨[.ref l, .int x u], []⟩) (fun _ R s => s.heap.get? l = some { cls := .type "tuple", dict := dd, data := .seq #[] n, slots := sl } ∧ R (.ok (.ret (Value.ref l))) s) :=
  .of_wp fun prog w A R s h => by
    obtain ⟨hp, g, d, tk, os⟩ := s
    obtain ⟨hl, h⟩ := h
    have f1 := AutoSeq1.idx_int
    wp_walk using wpAny_loadPart' hl
    refine wpAny_ite_false (decide_eq_false (by rw [c0]; exact Bool.false_ne_true)) ?_
    wp_walk using wpAny_loadPart' hl
    exact ⟨_, rfl, h⟩
def rRepE (K : PySem.W.Frag) : R2 := fun x y H Q => ∃ l k, x = .ref l ∧ y = .int k ∧ SqT K H l [] ∧ -(2 ^ 63) ≤ k ∧ k < 2 ^ 63 ∧ Q (.ref l) H
theorem op_repE {X : Cx} : OpR X (binaryOp .Mult) (rRepE X.K) := by
  intro pins s σ H x y v u Q I rx ry h
  obtain ⟨l, k, rfl, rfl, hT, h1, h2, q⟩ := h
  cases rx
  obtain ⟨t, rfl⟩ := ry
  obtain ⟨its, r, ⟨⟨cls, dd, data, sl⟩, ho, hc, n, hd⟩, hs⟩ := I.tuple hT
  simp only at hc hd
  subst hc hd
  cases r
  have c0 : (decide (k < -(2 ^ 63)) || decide (k ≥ 2 ^ 63)) = false := by
    rw [decide_eq_false (by omega), decide_eq_false (by omega)] <;> rfl
  exact wpAny_binaryOp_repeat_ref (T := "tuple") (U := "int") (by decide) ⟨_, ho, rfl⟩ (fun s' => typeIs_int s' k t) noFill_tuple_mul F.fills_int_mul F.slot_int_rmul repeat_tuple F.slot_int_index.lookup
    (call_meets F.slot_int_rmul (typeIs_int s k t) F.entry_int_rmul (F.args_int_rmul_2 _ _) (int_rmul_tuple k t l _ n dd sl)
      ⟨ho, rfl, ⟨_, ho, rfl⟩, call_meets F.slot_tuple_mul ⟨_, ho, rfl⟩ F.entry_tuple_mul (F.args_tuple_mul_2 _ _) (tuple_mulE l n dd sl k t c0) ⟨ho, .ref l, H, I, rfl, q⟩⟩)
theorem AtL.ints0 {K : PySem.W.Frag} {G : Hp} : ∀ {ns : List Int} {vs : List V}, AtL K G vs (ns.map D.int) → vs = ns.map V.int
  | [], _, h => by cases h; rfl
  | n :: ns, _, h => by
    cases h with
    | cons a t =>
      cases a
      rw [AtL.ints0 t]
      rfl
theorem flat_ints : ∀ ns : List Int, (ns.map V.int).all flatV = true
  | [] => rfl
  | _ :: ns => flat_ints ns
theorem in_ints0 {i : Int} : ∀ ns : List Int, inV (.int i) (ns.map V.int) = ns.any fun y => y == i
  | [] => rfl
  | n :: ns => by
    have := in_ints0 (i := i) ns
    unfold inV at this ⊢
    rw [List.map_cons, List.any_cons, List.any_cons, this]
    rfl
theorem AtL.strs0 {K : PySem.W.Frag} {G : Hp} : ∀ {ns : List Str} {vs : List V}, AtL K G vs (ns.map D.str) → vs = ns.map V.str
  | [], _, h => by cases h; rfl
  | n :: ns, _, h => by
    cases h with
    | cons a t =>
      cases a
      rw [AtL.strs0 t]
      rfl
theorem flat_strs0 : ∀ ns : List Str, (ns.map V.str).all flatV = true
  | [] => rfl
  | _ :: ns => flat_strs0 ns
theorem in_strs0 {i : Str} : ∀ ns : List Str, inV (.str i) (ns.map V.str) = ns.any fun y => y == i
  | [] => rfl
  | n :: ns => by
    have := in_strs0 (i := i) ns
    unfold inV at this ⊢
    rw [List.map_cons, List.any_cons, List.any_cons, this]
    rfl
end L3
namespace L3
open PySem PySem.Spec PyProof.Rows L2

/-- the datum that a result shows -/
def Cn.dat : Cn → Option D
  | .l xs => some (.lst xs)
  | .d kvs => some (.dct (kvs.map (·.1)) (kvs.map (·.2)))
  | .o cn fs => some (.obj cn (fs.map (·.1)) (fs.map (·.2)))
def datE : Option E → Option D
  | some (.va d) => some d
  | some (.ow c) => c.dat
  | _ => none
def R.dat (δ : En) : R → Option D
  | .va d => some d
  | .fr c => c.dat
  | .rf i => datE δ[i]?
/-- v is d: its own object in H, the rest in G -/
def Sh (K : PySem.W.Frag) (H G : Hp) (v : V) : D → Prop
  | .non => v = .non
  | .bl b => v = .bl b
  | .int i => v = .int i
  | .str x => v = .str x
  | .lst ds => ∃ a vs, v = .ref a ∧ H a = some (.lst vs) ∧ AtL K G vs ds
  | .tup ds => ∃ a vs, v = .ref a ∧ SqT K G a vs ∧ AtL K G vs ds
  | .obj cn ns ds => ∃ a dx vs, v = .ref a ∧ H a = some (.ins (He.ga K cn) dx (ns.zip vs)) ∧ ns.length = vs.length ∧ AtL K G vs ds
  | .frz ds => ∃ a vs, v = .ref a ∧ SqL K G a vs ∧ AtL K G vs ds
  | .dct ks ds => ∃ a vs, v = .ref a ∧ H a = some (.dK (ks.zip vs)) ∧ ks.length = vs.length ∧ AtL K G vs ds
  | .exn a dd _ ns ds => ∃ vs, v = .ref a ∧ H dd = some (.xd (ns.zip vs)) ∧ ns.length = vs.length ∧ AtL K G vs ds
theorem Sh.of {K : PySem.W.Frag} {H G : Hp} {v : V} {d : D} (s : Sub G H) (h : At K G v d) : Sh K H G v d := by
  cases h with
  | non => rfl
  | bl b => rfl
  | int i => rfl
  | str x => rfl
  | lst h t => exact ⟨_, _, rfl, s _ _ h, t⟩
  | tup h t => exact ⟨_, _, rfl, h, t⟩
  | obj h n t => exact ⟨_, _, _, rfl, s _ _ h, n, t⟩
  | frz h t => exact ⟨_, _, rfl, h, t⟩
  | dct h n t => exact ⟨_, _, rfl, s _ _ h, n, t⟩
  | exn h n t => exact ⟨_, rfl, s _ _ h, n, t⟩
theorem sh_cn {K : PySem.W.Frag} {H G : Hp} {l : Addr} {c : Cn} {d : D} (h : AtC K H G l c) (e : c.dat = some d) : Sh K H G (.ref l) d := by
  cases c with
  | l xs =>
    cases e
    obtain ⟨vs, h1, h2⟩ := h
    exact ⟨l, vs, rfl, h1, h2⟩
  | d kvs =>
    cases e
    obtain ⟨vs, h1, h2⟩ := h
    obtain ⟨e1, h3⟩ := h2.zip
    refine ⟨l, vs.map (·.2), rfl, ?_, ?_, h3⟩
    · rw [← e1]
      exact h1
    · have := h3.length
      rw [List.length_map] at this ⊢
      rw [List.length_map] at this ⊢
      exact this.symm
  | o cn fs =>
    cases e
    obtain ⟨dx, vs, h1, h2⟩ := h
    obtain ⟨e1, h3⟩ := h2.zip
    refine ⟨l, dx, vs.map (·.2), rfl, ?_, ?_, h3⟩
    · rw [← e1]
      exact h1
    · have := h3.length
      rw [List.length_map] at this ⊢
      rw [List.length_map] at this ⊢
      exact this.symm
theorem sh_of {K : PySem.W.Frag} {σ : L2.St} {H0 H G : Hp} {δ : En} {r : R} {v : V} {d : D} (L : Rel K σ H G δ) (rr : RR K σ H0 H G r v) (e : r.dat δ = some d) : Sh K H G v d := by
  cases r with
  | va d' =>
    cases e
    exact Sh.of L.sub rr
  | fr c =>
    obtain ⟨l, rfl, _, g, h⟩ := rr
    exact sh_cn h e
  | rf i =>
    have e2 : datE δ[i]? = some d := e
    unfold datE at e2
    split at e2
    · rename_i d' q
      cases e2
      obtain ⟨v', h1, h2⟩ := L.va i _ q
      rw [show σ[i]? = some (some v) from rr] at h1
      cases h1
      exact Sh.of L.sub h2
    · rename_i c q
      obtain ⟨l, h1, _, h2⟩ := L.ow i _ q
      rw [show σ[i]? = some (some v) from rr] at h1
      cases h1
      exact sh_cn h2 e2
    · cases e2
/-- nothing changes but that more is there -/
abbrev Gr (H G H' G' : Hp) : Prop := Fr (fun _ => False) H G H' G'
theorem Rel.grow {K : PySem.W.Frag} {σ : L2.St} {H G H' G' : Hp} {δ : En} (L : Rel K σ H G δ) (f : Gr H G H' G') (s : Sub G' H') : Rel K σ H' G' δ where
  len := L.len
  sub := s
  va := fun i d e => by
    obtain ⟨v, h1, h2⟩ := L.va i d e
    exact ⟨v, h1, h2.mono f.sub⟩
  ow := fun i c e => by
    obtain ⟨l, h1, h2, h3⟩ := L.ow i c e
    exact ⟨l, h1, (f.n l (fun z => z) h3.some).trans h2, h3.mono (fun o q => f.h l o (fun z => z) q) f.sub⟩
  dj := L.dj
theorem Gr.fr {A : Addr → Prop} {H G H' G' : Hp} (f : Gr H G H' G') : Fr A H G H' G' := f.mono fun _ z => z.elim
/-- a new object that is not yet part of what stands still -/
theorem gr_new {H G : Hp} {p : Addr} {o : HO} (s : Sub G H) (n : H p = none) : Gr H G (upd H p o) G ∧ Sub G (upd H p o) := by
  have ne : ∀ a u, H a = some u → a ≠ p := fun a u h z => by rw [z, n] at h; cases h
  refine ⟨⟨fun a u _ h => by rw [upd_ne (ne a u h)]; exact h, fun _ _ h => h, fun _ _ _ => rfl, fun a h => ?_⟩, fun a u h => by rw [upd_ne (ne a u (s a u h))]; exact s a u h⟩
  unfold upd
  split
  · exact fun z => nomatch z
  · exact h
/-- a new object that stands still from now on -/
theorem gr_keep {H G : Hp} {p : Addr} {o : HO} (s : Sub G H) (n : H p = none) : Gr H G (upd H p o) (upd G p o) ∧ Sub (upd G p o) (upd H p o) := by
  have ne : ∀ a u, H a = some u → a ≠ p := fun a u h z => by rw [z, n] at h; cases h
  refine ⟨⟨fun a u _ h => by rw [upd_ne (ne a u h)]; exact h, fun a u h => by rw [upd_ne (ne a u (s a u h))]; exact h, fun a _ h => ?_, fun a h => ?_⟩, fun a u h => ?_⟩
  · have : a ≠ p := fun z => h (by rw [z]; exact n)
    rw [upd_ne this]
  · unfold upd
    split
    · exact fun z => nomatch z
    · exact h
  · by_cases z : a = p
    · subst z
      rw [upd_same] at h ⊢
      exact h
    · rw [upd_ne z] at h ⊢
      exact s a u h
theorem g_none {H G : Hp} {p : Addr} (s : Sub G H) (n : H p = none) : G p = none := by
  cases e : G p with
  | none => rfl
  | some o =>
    rw [s p o e] at n
    cases n

/-- the end of an operation: its result r is v in a greater heap -/
def End (K : PySem.W.Frag) (H G : Hp) (Q : VK) (Q3 : R → Prop) : Prop := ∀ r v H' G', Gr H G H' G' → Sub G' H' → RR K [] H H' G' r v → (∀ i, r ≠ .rf i) → Q3 r → Q v H'
theorem End.va {K : PySem.W.Frag} {H G : Hp} {Q : VK} {Q3 : R → Prop} (k : End K H G Q Q3) (s : Sub G H) {v : V} {d : D} (h : At K G v d) (q : Q3 (.va d)) : Q v H :=
  k (.va d) v H G .refl s h (fun _ z => nomatch z) q
theorem End.list {K : PySem.W.Frag} {H G : Hp} {Q : VK} {Q3 : R → Prop} (k : End K H G Q Q3) (s : Sub G H) {vs : List V} {ds : List D} (h : AtL K G vs ds) (q : Q3 (.fr (.l ds))) : ∀ p, H p = none → Q (.ref p) (upd H p (.lst vs)) := fun p n => by
  obtain ⟨f, s'⟩ := gr_new (G := G) (o := .lst vs) s n
  exact k (.fr (.l ds)) (.ref p) _ G f s' ⟨p, rfl, n, g_none s n, vs, upd_same, h⟩ (fun _ z => nomatch z) q
theorem End.tuple {K : PySem.W.Frag} {H G : Hp} {Q : VK} {Q3 : R → Prop} (k : End K H G Q Q3) (s : Sub G H) {vs : List V} {ds : List D} (h : AtL K G vs ds) (q : Q3 (.va (.tup ds))) : ∀ p, H p = none → Q (.ref p) (upd H p (.tup vs)) := fun p n => by
  obtain ⟨f, s'⟩ := gr_keep (G := G) (o := .tup vs) s n
  exact k (.va (.tup ds)) (.ref p) _ _ f s' (At.tup (SqT.of upd_same) (h.mono f.sub)) (fun _ z => nomatch z) q
/-- an operation of two values -/
def Snd2 (K : PySem.W.Frag) (r : R2) (F : D → D → (R → Prop) → Prop) : Prop := ∀ (H G : Hp) (x y : V) (d e : D) (Q : VK) (Q3 : R → Prop), Sub G H → Sh K H G x d → Sh K H G y e → F d e Q3 → End K H G Q Q3 → r x y H Q
theorem RR.grow {K : PySem.W.Frag} {σ : L2.St} {H0 H H' G' : Hp} {r : R} {v : V} (nr : ∀ i, r ≠ .rf i) (h : RR K [] H H' G' r v) (k : ∀ a, H a = none → H0 a = none) : RR K σ H0 H' G' r v := by
  cases r with
  | va d => exact h
  | fr c =>
    obtain ⟨l, e, n, g, q⟩ := h
    exact ⟨l, e, k l n, g, q⟩
  | rf i => exact absurd rfl (nr i)
theorem Sh.on {K : PySem.W.Frag} {σ : L2.St} {H0 G0 H G H' G' : Hp} {v : V} {δ δ1 δ' : En} {r : R} {d : D} (L0 : Rel K σ H0 G0 δ) (f0 : Fr (Ad σ δ) H0 G0 H G) (le : Le δ1 δ) (f : Fr (Ad σ δ1) H G H' G') (L : Rel K σ H' G' δ') (rr : RR K σ H0 H G r v) (e : r.dat δ' = some d) : Sh K H' G' v d :=
  sh_of L (rr.on L0 f0 le f) e
def tb2 (F : D → D → (R → Prop) → Prop) (Ta Tb : DT) : DT := fun δ Q => Ta δ fun x δ1 => Tb δ1 fun y δ2 => ∃ d e, x.dat δ2 = some d ∧ y.dat δ2 = some e ∧ F d e fun r => Q r δ2
section
variable {K : PySem.W.Frag} {ta tb : TE} {Ta Tb : DT}
theorem snd_op {r : R2} {F : D → D → (R → Prop) → Prop} (hr : Snd2 K r F) (ha : Snd K ta Ta) (hb : Snd K tb Tb) : Snd K (tOp r ta tb) (tb2 F Ta Tb) := fun σ H G δ Q Q3 L h k => by
  refine ha σ H G δ _ _ L h fun x δ1 v H1 G1 L1 f1 le1 rx h1 => ?_
  refine hb σ H1 G1 δ1 _ _ L1 h1 fun y δ2 u H2 G2 L2 f2 le2 ry h2 => ?_
  obtain ⟨d, e, ed, ee, hF⟩ := h2
  refine hr H2 G2 v u d e _ _ L2.sub (Sh.on L f1 le1 f2 L2 rx ed) (sh_of L2 ry ee) hF fun r' z H3 G3 f3 s3 rz nr q3 => ?_
  have f12 : Fr (Ad σ δ) H G H2 G2 := f1.trans f2 fun a h => .inl (le1.ad h)
  exact k r' δ2 z H3 G3 (L2.grow f3 s3) (f12.trans f3 fun _ z => z.elim) (le2.trans le1) (rz.grow nr fun a h => f12.free h) q3
/-- an operation of one value -/
def Snd1 (K : PySem.W.Frag) (r : V → Hp → VK → Prop) (F : D → (R → Prop) → Prop) : Prop := ∀ (H G : Hp) (x : V) (d : D) (Q : VK) (Q3 : R → Prop), Sub G H → Sh K H G x d → F d Q3 → End K H G Q Q3 → r x H Q
def tb1 (F : D → (R → Prop) → Prop) (Ta : DT) : DT := fun δ Q => Ta δ fun x δ1 => ∃ d, x.dat δ1 = some d ∧ F d fun r => Q r δ1
theorem snd_un {r : V → Hp → VK → Prop} {F : D → (R → Prop) → Prop} (hr : Snd1 K r F) (ha : Snd K ta Ta) : Snd K (tUn r ta) (tb1 F Ta) := fun σ H G δ Q Q3 L h k => by
  refine ha σ H G δ _ _ L h fun x δ1 v H1 G1 L1 f1 le1 rx h1 => ?_
  obtain ⟨d, ed, hF⟩ := h1
  refine hr H1 G1 v d _ _ L1.sub (sh_of L1 rx ed) hF fun r' z H3 G3 f3 s3 rz nr q3 => ?_
  exact k r' δ1 z H3 G3 (L1.grow f3 s3) (f1.trans f3 fun _ z => z.elim) le1 (rz.grow nr fun a h => f1.free h) q3

def rPlus (K : PySem.W.Frag) : R2 := fun x y H Q => rI0 (fun i j => .int (i + j)) x y H Q ∨ (∃ i j, x = .str i ∧ y = .str j ∧ i.length + j.length ≤ sizeLine ∧ Q (.str (i ++ j)) H) ∨ rCat x y H Q ∨ rCatA K x y H Q
theorem op_plus {X : Cx} : OpR X (binaryOp .Add) (rPlus X.K) := op_add.or (op_add_str.or (op_cat.or op_catA))
def plusF : D → D → (R → Prop) → Prop
  | .int i, .int j, Q => Q (.va (.int (i + j)))
  | .str a, .str b, Q => a.length + b.length ≤ sizeLine ∧ Q (.va (.str (a ++ b)))
  | .lst a, .lst b, Q => a.length + b.length ≤ sizeLine ∧ Q (.fr (.l (a ++ b)))
  | .tup a, .tup b, Q => a.length + b.length ≤ sizeLine ∧ Q (.va (.tup (a ++ b)))
  | _, _, _ => False
theorem snd_plus : Snd2 K (rPlus K) plusF := fun H G x y d e Q Q3 s hx hy hF k => by
  unfold plusF at hF
  split at hF
  · obtain rfl := hx
    obtain rfl := hy
    exact .inl ⟨_, _, rfl, rfl, k.va s (.int _) hF⟩
  · obtain rfl := hx
    obtain rfl := hy
    exact .inr (.inl ⟨_, _, rfl, rfl, hF.1, k.va s (.str _) hF.2⟩)
  · obtain ⟨a, vs, rfl, h1, t1⟩ := hx
    obtain ⟨b, us, rfl, h2, t2⟩ := hy
    exact .inr (.inr (.inl ⟨a, b, vs, us, rfl, rfl, h1, h2, by rw [t1.length, t2.length]; exact hF.1, k.list s (t1.append t2) hF.2⟩))
  · obtain ⟨a, vs, rfl, h1, t1⟩ := hx
    obtain ⟨b, us, rfl, h2, t2⟩ := hy
    rename_i xs ys
    refine .inr (.inr (.inr ⟨a, b, vs, us, rfl, rfl, s.sqT h1, s.sqT h2, by rw [t1.length, t2.length]; exact hF.1, fun e => ?_, fun _ e => ?_, fun _ _ => k.tuple s (t1.append t2) hF.2⟩))
    · subst e
      cases t1
      exact k.va s (At.tup h2 t2) hF.2
    · subst e
      cases t2
      have := hF.2
      rw [List.append_nil] at this
      exact k.va s (At.tup h1 t1) this
  · exact hF.elim
def minusF : D → D → (R → Prop) → Prop
  | .int i, .int j, Q => Q (.va (.int (i - j)))
  | _, _, _ => False
theorem snd_minus : Snd2 K (rI0 fun i j => .int (i - j)) minusF := fun H G x y d e Q Q3 s hx hy hF k => by
  unfold minusF at hF
  split at hF
  · obtain rfl := hx
    obtain rfl := hy
    exact ⟨_, _, rfl, rfl, k.va s (.int _) hF⟩
  · exact hF.elim
def rTimes (K : PySem.W.Frag) : R2 := fun x y H Q => rI CMul (fun i j => .int (i * j)) x y H Q ∨ rRep x y H Q ∨ rRepT K x y H Q ∨ rRepE K x y H Q
theorem op_times {X : Cx} : OpR X (binaryOp .Mult) (rTimes X.K) := op_mul.or (op_rep.or (op_repT.or op_repE))
def timesF : D → D → (R → Prop) → Prop
  | .int i, .int j, Q => CMul i j ∧ Q (.va (.int (i * j)))
  | .lst a, .int k, Q => (-(2 ^ 63) ≤ k ∧ k < 2 ^ 63 ∧ a.length * k.toNat ≤ sizeLine) ∧ Q (.fr (.l (List.replicate k.toNat a).flatten))
  | .tup a, .int k, Q => (2 ≤ k ∧ k ≤ 1000 ∧ a.length ≤ 1000) ∧ Q (.va (.tup (List.replicate k.toNat a).flatten))
  | _, _, _ => False
theorem snd_times : Snd2 K (rTimes K) timesF := fun H G x y d e Q Q3 s hx hy hF k => by
  unfold timesF at hF
  split at hF
  · obtain rfl := hx
    obtain rfl := hy
    exact .inl ⟨_, _, rfl, rfl, hF.1, k.va s (.int _) hF.2⟩
  · obtain ⟨a, vs, rfl, h1, t1⟩ := hx
    obtain rfl := hy
    obtain ⟨⟨c1, c2, c3⟩, q⟩ := hF
    exact .inr (.inl ⟨a, _, vs, rfl, rfl, h1, c1, c2, by rw [t1.length]; exact c3, k.list s (t1.rep _) q⟩)
  · obtain ⟨a, vs, rfl, h1, t1⟩ := hx
    obtain rfl := hy
    obtain ⟨⟨c1, c2, c3⟩, q⟩ := hF
    cases t1 with
    | nil =>
      refine .inr (.inr (.inr ⟨a, _, rfl, rfl, s.sqT h1, by omega, by omega, k.va s (At.tup h1 .nil) ?_⟩))
      have : ∀ m : Nat, (List.replicate m ([] : List D)).flatten = [] := fun m => by simp
      rw [this] at q
      exact q
    | cons x y => exact .inr (.inr (.inl ⟨a, _, _, rfl, rfl, s.sqT h1, (fun z => nomatch z), c1, c2, by rw [(AtL.cons x y).length]; exact c3, k.tuple s ((AtL.cons x y).rep _) q⟩))
  · exact hF.elim
def fdivF : D → D → (R → Prop) → Prop
  | .int i, .int j, Q => CDiv i j ∧ Q (.va (.int (i / j)))
  | _, _, _ => False
theorem snd_fdiv : Snd2 K (rI CDiv fun i j => .int (i / j)) fdivF := fun H G x y d e Q Q3 s hx hy hF k => by
  unfold fdivF at hF
  split at hF
  · obtain rfl := hx
    obtain rfl := hy
    exact ⟨_, _, rfl, rfl, hF.1, k.va s (.int _) hF.2⟩
  · exact hF.elim
def modF : D → D → (R → Prop) → Prop
  | .int i, .int j, Q => 0 < j ∧ Q (.va (.int (i % j)))
  | _, _, _ => False
theorem snd_mod : Snd2 K (rI (fun _ j => 0 < j) fun i j => .int (i % j)) modF := fun H G x y d e Q Q3 s hx hy hF k => by
  unfold modF at hF
  split at hF
  · obtain rfl := hx
    obtain rfl := hy
    exact ⟨_, _, rfl, rfl, hF.1, k.va s (.int _) hF.2⟩
  · exact hF.elim
def powF : D → D → (R → Prop) → Prop
  | .int i, .int j, Q => CPow i j ∧ Q (.va (.int (i ^ j.toNat)))
  | _, _, _ => False
theorem snd_pow : Snd2 K (rI CPow fun i j => .int (i ^ j.toNat)) powF := fun H G x y d e Q Q3 s hx hy hF k => by
  unfold powF at hF
  split at hF
  · obtain rfl := hx
    obtain rfl := hy
    exact ⟨_, _, rfl, rfl, hF.1, k.va s (.int _) hF.2⟩
  · exact hF.elim
def negF : D → (R → Prop) → Prop
  | .int i, Q => Q (.va (.int (-i)))
  | _, _ => False
theorem snd_neg : Snd1 K (rU fun i => .int (-i)) negF := fun H G x d Q Q3 s hx hF k => by
  unfold negF at hF
  split at hF
  · obtain rfl := hx
    exact ⟨_, rfl, k.va s (.int _) hF⟩
  · exact hF.elim

def bF (F : D → D → (Bool → Prop) → Prop) : D → D → (R → Prop) → Prop := fun d e Q => F d e fun b => Q (.va (.bl b))
def iF (p : Int → Int → Bool) : D → D → (Bool → Prop) → Prop
  | .int i, .int j, Q => Q (p i j)
  | _, _, _ => False
theorem snd_icmp {p : Int → Int → Bool} : Snd2 K (rI0 fun i j => .bl (p i j)) (bF (iF p)) := fun H G x y d e Q Q3 s hx hy hF k => by
  unfold bF iF at hF
  split at hF
  · obtain rfl := hx
    obtain rfl := hy
    exact ⟨_, _, rfl, rfl, k.va s (.bl _) hF⟩
  · exact hF.elim
mutual
def D.py : D → Option PyData
  | .non => some .none
  | .bl b => some (.bool b)
  | .int i => some (.int i)
  | .str x => some (.str x)
  | .lst xs => (D.pys xs).map .list
  | .tup xs => (D.pys xs).map .tuple
  | .obj _ _ _ => none
  | .frz xs => (D.pys xs).map .list
  | .dct _ _ => none
  | .exn _ _ _ _ _ => none
def D.pys : List D → Option (List PyData)
  | [] => some []
  | d :: ds => (D.py d).bind fun p => (D.pys ds).map fun ps => p :: ps
end
mutual
theorem At.dp {G H : Hp} (s : Sub G H) : ∀ {v : V} {d : D} {p : PyData}, At K G v d → d.py = some p → Dp K H v p
  | _, _, _, .non, e => by
    rw [D.py] at e
    cases e
    exact .non
  | _, _, _, .bl b, e => by
    rw [D.py] at e
    cases e
    exact .bl b
  | _, _, _, .int i, e => by
    rw [D.py] at e
    cases e
    exact .int i
  | _, _, _, .str x, e => by
    rw [D.py] at e
    cases e
    exact .str x
  | _, _, _, .lst h t, e => by
    rw [D.py] at e
    obtain ⟨ps, e1, rfl⟩ := Option.map_eq_some_iff.mp e
    exact .lst (SqL.of (s _ _ h)) (AtL.dp s t e1)
  | _, _, _, .tup h t, e => by
    rw [D.py] at e
    obtain ⟨ps, e1, rfl⟩ := Option.map_eq_some_iff.mp e
    exact .tup (s.sqT h) (AtL.dp s t e1)
  | _, _, _, .obj _ _ _, e => by
    rw [D.py] at e
    cases e
  | _, _, _, .frz h t, e => by
    rw [D.py] at e
    obtain ⟨ps, e1, rfl⟩ := Option.map_eq_some_iff.mp e
    exact .lst (s.sqL h) (AtL.dp s t e1)
  | _, _, _, .dct _ _ _, e => by
    rw [D.py] at e
    cases e
  | _, _, _, .exn _ _ _, e => by
    rw [D.py] at e
    cases e
theorem AtL.dp {G H : Hp} (s : Sub G H) : ∀ {vs : List V} {ds : List D} {ps : List PyData}, AtL K G vs ds → D.pys ds = some ps → DpAll K H vs ps
  | _, _, _, .nil, e => by
    rw [D.pys] at e
    cases e
    exact .nil
  | _, _, _, .cons h t, e => by
    rw [D.pys] at e
    obtain ⟨p, e1, e2⟩ := Option.bind_eq_some_iff.mp e
    obtain ⟨ps, e3, rfl⟩ := Option.map_eq_some_iff.mp e2
    exact .cons (At.dp s h e1) (AtL.dp s t e3)
end
theorem Sh.dp {G H : Hp} (s : Sub G H) {v : V} {d : D} {p : PyData} (h : Sh K H G v d) (e : d.py = some p) : Dp K H v p := by
  cases d with
  | non =>
    obtain rfl := h
    exact At.dp (G := G) s .non e
  | bl b =>
    obtain rfl := h
    exact At.dp (G := G) s (.bl b) e
  | int i =>
    obtain rfl := h
    exact At.dp (G := G) s (.int i) e
  | str x =>
    obtain rfl := h
    exact At.dp (G := G) s (.str x) e
  | lst ds =>
    obtain ⟨a, vs, rfl, h1, t⟩ := h
    rw [D.py] at e
    obtain ⟨ps, e1, rfl⟩ := Option.map_eq_some_iff.mp e
    exact .lst (SqL.of h1) (AtL.dp s t e1)
  | tup ds =>
    obtain ⟨a, vs, rfl, h1, t⟩ := h
    exact At.dp s (At.tup h1 t) e
  | obj cn ns ds =>
    rw [D.py] at e
    cases e
  | frz ds =>
    obtain ⟨a, vs, rfl, h1, t⟩ := h
    exact At.dp s (At.frz h1 t) e
  | dct ks ds =>
    rw [D.py] at e
    cases e
  | exn _ _ _ _ _ =>
    rw [D.py] at e
    cases e
def rEqE (K : PySem.W.Frag) : R2 := fun x y H Q => rEqD K x y H Q ∨ rEqDA x y H Q
def rNeE (K : PySem.W.Frag) : R2 := fun x y H Q => rNeD K x y H Q ∨ rNeDA x y H Q
theorem op_eqE {X : Cx} (hu : X.A.units + 64 < cLine) : OpR X (compareOp .Eq) (rEqE X.K) := (op_eqD hu).or (op_eq_dictA (by omega))
theorem op_neE {X : Cx} (hu : X.A.units + 64 < cLine) : OpR X (compareOp .NotEq) (rNeE X.K) := (op_neD hu).or (op_ne_dictA (by omega))
/-- == of data; of empty dicts -/
def eqF : D → D → (Bool → Prop) → Prop := fun d e Q => (∃ p q, d.py = some p ∧ e.py = some q ∧ SeqAt.shaped p = true ∧ SeqAt.shaped q = true ∧ Q (PyData.eqv p q)) ∨ (d = .dct [] [] ∧ e = .dct [] [] ∧ Q true)
theorem dct0 {H G : Hp} {x : V} (h : Sh K H G x (.dct [] [])) : ∃ a, x = .ref a ∧ H a = some (.dK []) := by
  obtain ⟨a, vs, rfl, h1, h2, h3⟩ := h
  cases h3
  exact ⟨a, rfl, h1⟩
theorem snd_eq : Snd2 K (rEqE K) (bF eqF) := fun H G x y d e Q Q3 s hx hy hF k => by
  rcases hF with ⟨p, q, e1, e2, s1, s2, hq⟩ | ⟨rfl, rfl, hq⟩
  · exact .inl ⟨p, q, hx.dp s e1, hy.dp s e2, s1, s2, k.va s (.bl _) hq⟩
  · obtain ⟨a, rfl, h1⟩ := dct0 hx
    obtain ⟨b, rfl, h2⟩ := dct0 hy
    exact .inr ⟨a, b, [], [], rfl, rfl, h1, h2, rfl, (fun _ z => nomatch z), k.va s (.bl _) hq⟩
def neF : D → D → (Bool → Prop) → Prop := fun d e Q => eqF d e fun b => Q (!b)
theorem snd_ne : Snd2 K (rNeE K) (bF neF) := fun H G x y d e Q Q3 s hx hy hF k => by
  rcases hF with ⟨p, q, e1, e2, s1, s2, hq⟩ | ⟨rfl, rfl, hq⟩
  · exact .inl ⟨p, q, hx.dp s e1, hy.dp s e2, s1, s2, k.va s (.bl _) hq⟩
  · obtain ⟨a, rfl, h1⟩ := dct0 hx
    obtain ⟨b, rfl, h2⟩ := dct0 hy
    exact .inr ⟨a, b, [], [], rfl, rfl, h1, h2, rfl, (fun _ z => nomatch z), k.va s (.bl _) hq⟩
/-- is None -/
def isNone : D → Bool
  | .non => true
  | _ => false
def rIsN : R2 := fun x y H Q => y = .non ∧ Q (.bl (decide (x = .non))) H
def rNotN : R2 := fun x y H Q => y = .non ∧ Q (.bl (!decide (x = .non))) H
theorem Sh.none {G H : Hp} {v : V} : ∀ {d : D}, Sh K H G v d → decide (v = .non) = isNone d
  | .non, h => by
    obtain rfl := h
    rfl
  | .bl b, h => by
    obtain rfl := h
    rfl
  | .int i, h => by
    obtain rfl := h
    rfl
  | .str x, h => by
    obtain rfl := h
    rfl
  | .lst ds, ⟨_, _, h, _⟩ => by
    obtain rfl := h
    rfl
  | .tup ds, ⟨_, _, h, _⟩ => by
    obtain rfl := h
    rfl
  | .obj _ _ ds, ⟨_, _, _, h, _⟩ => by
    obtain rfl := h
    rfl
  | .frz ds, ⟨_, _, h, _⟩ => by
    obtain rfl := h
    rfl
  | .dct ks ds, ⟨_, _, h, _⟩ => by
    obtain rfl := h
    rfl
  | .exn _ _ _ _ _, ⟨_, h, _⟩ => by
    obtain rfl := h
    rfl
def isF : D → D → (Bool → Prop) → Prop
  | d, .non, Q => Q (isNone d)
  | _, _, _ => False
def nisF : D → D → (Bool → Prop) → Prop := fun d e Q => isF d e fun b => Q (!b)
theorem snd_isN : Snd2 K rIsN (bF isF) := fun H G x y d e Q Q3 s hx hy hF k => by
  unfold bF isF at hF
  split at hF
  · obtain rfl := hy
    refine ⟨rfl, ?_⟩
    rw [hx.none]
    exact k.va s (.bl _) hF
  · exact hF.elim
theorem snd_notN : Snd2 K rNotN (bF nisF) := fun H G x y d e Q Q3 s hx hy hF k => by
  unfold bF nisF isF at hF
  split at hF
  · obtain rfl := hy
    refine ⟨rfl, ?_⟩
    rw [hx.none]
    exact k.va s (.bl _) hF
  · exact hF.elim
/-- in a list, in a text -/
def inF : D → D → (Bool → Prop) → Prop
  | .str a, .str b, Q => Q (!(Builtin.Str.occurrences b a 0 b.length 1).isEmpty)
  | d, .lst xs, Q => ∃ p ps, d.py = some p ∧ D.pys xs = some ps ∧ SeqAt.shaped p = true ∧ SeqAt.shaped (.list ps) = true ∧ Q (ps.any fun z => PyData.eqv z p)
  | .int i, .tup xs, Q => ∃ ns : List Int, xs = ns.map D.int ∧ Q (ns.any fun y => y == i)
  | .str i, .tup xs, Q => ∃ ns : List Str, xs = ns.map D.str ∧ Q (ns.any fun y => y == i)
  | _, _, _ => False
def ninF : D → D → (Bool → Prop) → Prop := fun d e Q => inF d e fun b => Q (!b)
def rInU (K : PySem.W.Frag) : R2 := fun x y H Q => (∃ i j, x = .str i ∧ y = .str j ∧ Q (.bl (!(Builtin.Str.occurrences j i 0 j.length 1).isEmpty)) H) ∨ rInD K x y H Q ∨ rIn K false x y H Q
def rNinU (K : PySem.W.Frag) : R2 := fun x y H Q => (∃ i j, x = .str i ∧ y = .str j ∧ Q (.bl (!(!(Builtin.Str.occurrences j i 0 j.length 1).isEmpty))) H) ∨ rNotInD K x y H Q ∨ rIn K true x y H Q
theorem op_inU {X : Cx} (hu : X.A.units + 65 < cLine) : OpR X (compareOp .In) (rInU X.K) := op_in_str.or ((op_inD hu).or op_in_seq)
theorem op_ninU {X : Cx} (hu : X.A.units + 65 < cLine) : OpR X (compareOp .NotIn) (rNinU X.K) := op_notin_str.or ((op_notInD hu).or op_notIn_seq)
theorem snd_in : Snd2 K (rInU K) (bF inF) := fun H G x y d e Q Q3 s hx hy hF k => by
  unfold bF inF at hF
  split at hF
  · obtain rfl := hx
    obtain rfl := hy
    exact .inl ⟨_, _, rfl, rfl, k.va s (.bl _) hF⟩
  · obtain ⟨p, ps, e1, e2, s1, s2, hq⟩ := hF
    exact .inr (.inl ⟨p, ps, hx.dp s e1, hy.dp s (by rw [D.py, e2]; rfl), s1, s2, k.va s (.bl _) hq⟩)
  · obtain ⟨ns, rfl, hq⟩ := hF
    obtain rfl := hx
    obtain ⟨a, vs, rfl, h1, t1⟩ := hy
    have e := AtL.ints0 t1
    subst e
    refine .inr (.inr ⟨a, _, rfl, .inr (s.sqT h1), rfl, flat_ints ns, ?_⟩)
    rw [in_ints0]
    exact k.va s (.bl _) hq
  · obtain ⟨ns, rfl, hq⟩ := hF
    obtain rfl := hx
    obtain ⟨a, vs, rfl, h1, t1⟩ := hy
    have e := AtL.strs0 t1
    subst e
    refine .inr (.inr ⟨a, _, rfl, .inr (s.sqT h1), rfl, flat_strs0 ns, ?_⟩)
    rw [in_strs0]
    exact k.va s (.bl _) hq
  · exact hF.elim
theorem snd_nin : Snd2 K (rNinU K) (bF ninF) := fun H G x y d e Q Q3 s hx hy hF k => by
  unfold bF ninF inF at hF
  split at hF
  · obtain rfl := hx
    obtain rfl := hy
    exact .inl ⟨_, _, rfl, rfl, k.va s (.bl _) hF⟩
  · obtain ⟨p, ps, e1, e2, s1, s2, hq⟩ := hF
    exact .inr (.inl ⟨p, ps, hx.dp s e1, hy.dp s (by rw [D.py, e2]; rfl), s1, s2, k.va s (.bl _) hq⟩)
  · obtain ⟨ns, rfl, hq⟩ := hF
    obtain rfl := hx
    obtain ⟨a, vs, rfl, h1, t1⟩ := hy
    have e := AtL.ints0 t1
    subst e
    refine .inr (.inr ⟨a, _, rfl, .inr (s.sqT h1), rfl, flat_ints ns, ?_⟩)
    rw [in_ints0]
    exact k.va s (.bl _) hq
  · obtain ⟨ns, rfl, hq⟩ := hF
    obtain rfl := hx
    obtain ⟨a, vs, rfl, h1, t1⟩ := hy
    have e := AtL.strs0 t1
    subst e
    refine .inr (.inr ⟨a, _, rfl, .inr (s.sqT h1), rfl, flat_strs0 ns, ?_⟩)
    rw [in_strs0]
    exact k.va s (.bl _) hq
  · exact hF.elim
end
end L3
namespace L3
open PySem PySem.Spec PyProof.Rows L2
section
variable {K : PySem.W.Frag}
def tt (T : DT) : DTT := fun δ Q => T δ fun r δ1 => ∃ b, r = .va (.bl b) ∧ Q b δ1
theorem rr_bl {σ : L2.St} {H0 H G : Hp} {v : V} {b : Bool} (h : RR K σ H0 H G (.va (.bl b)) v) : v = .bl b := by
  cases (show At K G v (.bl b) from h)
  rfl
theorem sndt_val {t : TE} {T : DT} (a : Snd K t T) : SndT K (tB t) (tt T) := fun σ H G δ Q Q3 L h k => by
  refine a σ H G δ _ _ L h fun r δ1 v H1 G1 L1 f1 le1 rr q1 => ?_
  obtain ⟨b, rfl, q⟩ := q1
  exact ⟨b, rr_bl rr, k b δ1 H1 G1 L1 f1 le1 q⟩
theorem sndt_test {t : TE} {T : DT} (a : Snd K t T) : SndT K (tTest t) (tt T) := sndt_val a
def truD : D → Option Bool
  | .non => some false
  | .bl b => some b
  | .int i => some (i != 0)
  | .str y => if y.length ≤ sizeLine then some ((y.length : Int) != 0) else none
  | .lst xs => some (!xs.isEmpty)
  | .tup xs => some (!xs.isEmpty)
  | _ => none
def ttru (T : DT) : DTT := fun δ Q => T δ fun r δ1 => ∃ d b, r.dat δ1 = some d ∧ truD d = some b ∧ Q b δ1
theorem isEmpty_eq {α β : Type} {xs : List α} {ys : List β} (h : xs.length = ys.length) : (!xs.isEmpty) = !ys.isEmpty := by
  cases xs <;> cases ys <;> first | rfl | cases h
theorem sndt_truth {t : TE} {T : DT} (a : Snd K t T) : SndT K (fun σ H Q => t σ H fun x H' => ∃ k, TruV K x H' k ∧ Q k H') (ttru T) := fun σ H G δ Q Q3 L h k => by
  refine a σ H G δ _ _ L h fun r δ1 v H1 G1 L1 f1 le1 rr q1 => ?_
  obtain ⟨d, b, e, et, q⟩ := q1
  refine ⟨b, ?_, k b δ1 H1 G1 L1 f1 le1 q⟩
  have sh := sh_of L1 rr e
  cases d with
  | non =>
    obtain rfl := sh
    exact (Option.some.inj et).symm
  | bl c =>
    obtain rfl := sh
    exact (Option.some.inj et).symm
  | int i =>
    obtain rfl := sh
    exact (Option.some.inj et).symm
  | str y =>
    obtain rfl := sh
    have et2 : (if y.length ≤ sizeLine then some ((y.length : Int) != 0) else none) = some b := et
    by_cases z : y.length ≤ sizeLine
    · rw [if_pos z] at et2
      exact ⟨z, (Option.some.inj et2).symm⟩
    · rw [if_neg z] at et2
      cases et2
  | lst xs =>
    obtain ⟨a, vs, rfl, h1, t1⟩ := sh
    exact .inl ⟨vs, SqL.of h1, by rw [isEmpty_eq t1.length]; exact (Option.some.inj et).symm⟩
  | tup xs =>
    obtain ⟨a, vs, rfl, h1, t1⟩ := sh
    exact .inr (.inl ⟨vs, L1.sub.sqT h1, by rw [isEmpty_eq t1.length]; exact (Option.some.inj et).symm⟩)
  | obj cn ns ds => cases et
  | frz xs => cases et
  | dct ks xs => cases et
  | exn _ _ _ _ _ => cases et
def tand (a b : DTT) : DTT := fun δ Q => a δ fun c δ1 => if c = true then b δ1 Q else Q false δ1
def tor (a b : DTT) : DTT := fun δ Q => a δ fun c δ1 => if c = true then Q true δ1 else b δ1 Q
def tnot (a : DTT) : DTT := fun δ Q => a δ fun c δ1 => Q (!c) δ1
theorem sndt_and {t u : TT} {T U : DTT} (a : SndT K t T) (b : SndT K u U) : SndT K (tAnd t u) (tand T U) := fun σ H G δ Q Q3 L h k => by
  refine a σ H G δ _ _ L h fun c δ1 H1 G1 L1 f1 le1 q1 => ?_
  cases c with
  | true => exact b σ H1 G1 δ1 _ _ L1 q1 fun c δ2 H2 G2 L2 f2 le2 q2 => k c δ2 H2 G2 L2 (f1.trans f2 fun a h => .inl (le1.ad h)) (le2.trans le1) q2
  | false => exact k false δ1 H1 G1 L1 f1 le1 q1
theorem sndt_or {t u : TT} {T U : DTT} (a : SndT K t T) (b : SndT K u U) : SndT K (tOr t u) (tor T U) := fun σ H G δ Q Q3 L h k => by
  refine a σ H G δ _ _ L h fun c δ1 H1 G1 L1 f1 le1 q1 => ?_
  cases c with
  | false => exact b σ H1 G1 δ1 _ _ L1 q1 fun c δ2 H2 G2 L2 f2 le2 q2 => k c δ2 H2 G2 L2 (f1.trans f2 fun a h => .inl (le1.ad h)) (le2.trans le1) q2
  | true => exact k true δ1 H1 G1 L1 f1 le1 q1
theorem sndt_not {t : TT} {T : DTT} (a : SndT K t T) : SndT K (tNot t) (tnot T) := fun σ H G δ Q Q3 L h k => by
  exact a σ H G δ _ _ L h fun c δ1 H1 G1 L1 f1 le1 q1 => k (!c) δ1 H1 G1 L1 f1 le1 q1
/-- and, or, not as values: of truth values -/
def tandV (a b : DT) : DT := fun δ Q => a δ fun r δ1 => ∃ c, r = .va (.bl c) ∧ if c = true then b δ1 Q else Q (.va (.bl false)) δ1
def torV (a b : DT) : DT := fun δ Q => a δ fun r δ1 => ∃ c, r = .va (.bl c) ∧ if c = true then Q (.va (.bl true)) δ1 else b δ1 Q
def tnotV (a : DT) : DT := fun δ Q => a δ fun r δ1 => ∃ c, r = .va (.bl c) ∧ Q (.va (.bl (!c))) δ1
theorem snd_andV {t u : TE} {T U : DT} (a : Snd K t T) (b : Snd K u U) : Snd K (tAndV t u) (tandV T U) := fun σ H G δ Q Q3 L h k => by
  refine a σ H G δ _ _ L h fun r δ1 v H1 G1 L1 f1 le1 rr q1 => ?_
  obtain ⟨c, rfl, q⟩ := q1
  refine ⟨c, rr_bl rr, ?_⟩
  cases c with
  | true => exact b σ H1 G1 δ1 _ _ L1 q fun r δ2 v H2 G2 L2 f2 le2 rr2 q2 => k r δ2 v H2 G2 L2 (f1.trans f2 fun a h => .inl (le1.ad h)) (le2.trans le1) (rr2.base fun a h => f1.free h) q2
  | false => exact k (.va (.bl false)) δ1 _ H1 G1 L1 f1 le1 (At.bl false) q
theorem snd_orV {t u : TE} {T U : DT} (a : Snd K t T) (b : Snd K u U) : Snd K (tOrV t u) (torV T U) := fun σ H G δ Q Q3 L h k => by
  refine a σ H G δ _ _ L h fun r δ1 v H1 G1 L1 f1 le1 rr q1 => ?_
  obtain ⟨c, rfl, q⟩ := q1
  refine ⟨c, rr_bl rr, ?_⟩
  cases c with
  | false => exact b σ H1 G1 δ1 _ _ L1 q fun r δ2 v H2 G2 L2 f2 le2 rr2 q2 => k r δ2 v H2 G2 L2 (f1.trans f2 fun a h => .inl (le1.ad h)) (le2.trans le1) (rr2.base fun a h => f1.free h) q2
  | true => exact k (.va (.bl true)) δ1 _ H1 G1 L1 f1 le1 (At.bl true) q
theorem snd_notV {t : TE} {T : DT} (a : Snd K t T) : Snd K (tNotV t) (tnotV T) := fun σ H G δ Q Q3 L h k => by
  refine a σ H G δ _ _ L h fun r δ1 v H1 G1 L1 f1 le1 rr q1 => ?_
  obtain ⟨c, rfl, q⟩ := q1
  exact ⟨c, rr_bl rr, k (.va (.bl (!c))) δ1 _ H1 G1 L1 f1 le1 (At.bl (!c)) q⟩
def tif (c : DTT) (a b : DT) : DT := fun δ Q => c δ fun k δ1 => if k = true then a δ1 Q else b δ1 Q
theorem snd_if {t : TT} {u w : TE} {T : DTT} {U W : DT} (c : SndT K t T) (a : Snd K u U) (b : Snd K w W) : Snd K (tIf t u w) (tif T U W) := fun σ H G δ Q Q3 L h k => by
  refine c σ H G δ _ _ L h fun c δ1 H1 G1 L1 f1 le1 q1 => ?_
  cases c with
  | true => exact a σ H1 G1 δ1 _ _ L1 q1 fun r δ2 v H2 G2 L2 f2 le2 rr2 q2 => k r δ2 v H2 G2 L2 (f1.trans f2 fun a h => .inl (le1.ad h)) (le2.trans le1) (rr2.base fun a h => f1.free h) q2
  | false => exact b σ H1 G1 δ1 _ _ L1 q1 fun r δ2 v H2 G2 L2 f2 le2 rr2 q2 => k r δ2 v H2 G2 L2 (f1.trans f2 fun a h => .inl (le1.ad h)) (le2.trans le1) (rr2.base fun a h => f1.free h) q2
/-- a op b op' c, of ints -/
def tchain (p p' : Int → Int → Bool) (Ta Tb Tc : DT) : DT := fun δ Q => Ta δ fun x δ1 => Tb δ1 fun y δ2 => ∃ i j, x = .va (.int i) ∧ y = .va (.int j) ∧
  if p i j = true then Tc δ2 fun z δ3 => ∃ g, z = .va (.int g) ∧ Q (.va (.bl (p' j g))) δ3 else Q (.va (.bl false)) δ2
theorem rr_int {σ : L2.St} {H0 H G : Hp} {v : V} {b : Int} (h : RR K σ H0 H G (.va (.int b)) v) : v = .int b := by
  cases (show At K G v (.int b) from h)
  rfl
theorem snd_chain {ta tb tc : TE} {Ta Tb Tc : DT} {p p' : Int → Int → Bool} (ha : Snd K ta Ta) (hb : Snd K tb Tb) (hc : Snd K tc Tc) :
    Snd K (tChain (rI0 fun i j => .bl (p i j)) (rI0 fun i j => .bl (p' i j)) ta tb tc) (tchain p p' Ta Tb Tc) := fun σ H G δ Q Q3 L h k => by
  refine ha σ H G δ _ _ L h fun x δ1 v H1 G1 L1 f1 le1 rx h1 => ?_
  refine hb σ H1 G1 δ1 _ _ L1 h1 fun y δ2 u H2 G2 L2 f2 le2 ry h2 => ?_
  obtain ⟨i, j, rfl, rfl, q⟩ := h2
  have f12 : Fr (Ad σ δ) H G H2 G2 := f1.trans f2 fun a h => .inl (le1.ad h)
  refine ⟨i, j, rr_int rx, rr_int ry, p i j, rfl, ?_⟩
  cases hp : p i j with
  | true =>
    rw [hp, if_pos rfl] at q
    refine hc σ H2 G2 δ2 _ _ L2 q fun z δ3 w H3 G3 L3 f3 le3 rz h3 => ?_
    obtain ⟨g, rfl, q⟩ := h3
    exact ⟨j, g, rr_int ry, rr_int rz, k (.va (.bl (p' j g))) δ3 _ H3 G3 L3 (f12.trans f3 fun a h => .inl ((le2.trans le1).ad h)) (le3.trans (le2.trans le1)) (At.bl _) q⟩
  | false =>
    rw [hp, if_neg Bool.false_ne_true] at q
    exact k (.va (.bl false)) δ2 _ H2 G2 L2 f12 (le2.trans le1) (At.bl _) q
theorem atI_len {α β : Type} {xs : List α} {ys : List β} (h : xs.length = ys.length) {i : Int} {y : β} (e : atI ys i = some y) : ∃ j, ixN xs.length i = some j ∧ ys[j]? = some y ∧ atI xs i = xs[j]? := by
  unfold atI at e ⊢
  rw [h]
  cases q : ixN ys.length i with
  | none =>
    rw [q] at e
    cases e
  | some j =>
    rw [q] at e
    exact ⟨j, rfl, e, rfl⟩
theorem AtL.atI {G : Hp} {vs : List V} {ds : List D} (h : AtL K G vs ds) {i : Int} {d : D} (e : atI ds i = some d) : ∃ v, L2.atI vs i = some v ∧ At K G v d := by
  obtain ⟨j, h1, h2, h3⟩ := atI_len (xs := vs) h.length e
  obtain ⟨v, h4, h5⟩ := h.get h2
  exact ⟨v, h3.trans h4, h5⟩
def ixF : D → D → (R → Prop) → Prop
  | .lst xs, .int i, Q => ∃ d, L2.atI xs i = some d ∧ Q (.va d)
  | .tup xs, .int i, Q => ∃ d, L2.atI xs i = some d ∧ Q (.va d)
  | .str x, .int i, Q => x.length ≤ sizeLine ∧ ∃ c, L2.atI x.cps.toList i = some c ∧ Q (.va (.str ⟨#[c]⟩))
  | _, _, _ => False
theorem snd_ix : Snd2 K (rIx K) ixF := fun H G x y d e Q Q3 s hx hy hF k => by
  unfold ixF at hF
  split at hF
  · obtain ⟨a, vs, rfl, h1, t1⟩ := hx
    obtain rfl := hy
    obtain ⟨d, e, q⟩ := hF
    obtain ⟨v, e2, h2⟩ := t1.atI e
    exact .inl ⟨a, vs, _, v, rfl, rfl, SqL.of h1, e2, k.va s h2 q⟩
  · obtain ⟨a, vs, rfl, h1, t1⟩ := hx
    obtain rfl := hy
    obtain ⟨d, e, q⟩ := hF
    obtain ⟨v, e2, h2⟩ := t1.atI e
    exact .inr (.inl ⟨a, vs, _, v, rfl, rfl, s.sqT h1, e2, k.va s h2 q⟩)
  · obtain rfl := hx
    obtain rfl := hy
    obtain ⟨z, c, e, q⟩ := hF
    exact .inr (.inr ⟨_, _, c, rfl, rfl, z, e, k.va s (.str _) q⟩)
  · exact hF.elim
abbrev DTO := En → (Option Int → En → Prop) → Prop
def tno : DTO := fun δ Q => Q none δ
def tpart (T : DT) : DTO := fun δ Q => T δ fun r δ1 => ∃ i, r = .va (.int i) ∧ Q (some i) δ1
def SndO (K : PySem.W.Frag) (t : TO) (T : DTO) : Prop := ∀ (σ : L2.St) (H G : Hp) (δ : En) (Q : Option Int → Hp → Prop) (Q3 : Option Int → En → Prop), Rel K σ H G δ → T δ Q3 →
  (∀ o δ' H' G', Rel K σ H' G' δ' → Fr (Ad σ δ) H G H' G' → Le δ' δ → Q3 o δ' → Q o H') → t σ H Q
theorem sndo_none : SndO K tNoPart tno := fun σ H G δ Q Q3 L h k => k none δ H G L .refl .refl h
theorem sndo_some {t : TE} {T : DT} (a : Snd K t T) : SndO K (tPart t) (tpart T) := fun σ H G δ Q Q3 L h k => by
  refine a σ H G δ _ _ L h fun r δ1 v H1 G1 L1 f1 le1 rr q1 => ?_
  obtain ⟨i, rfl, q⟩ := q1
  exact ⟨i, rr_int rr, k (some i) δ1 H1 G1 L1 f1 le1 q⟩
def cutL {α : Type} (xs : List α) (lo hi : Option Int) : List α := (xs.drop (HT.sIx xs.length 0 lo)).take (HT.sIx xs.length xs.length hi - HT.sIx xs.length 0 lo)
theorem AtL.cut {G : Hp} {vs : List V} {ds : List D} (h : AtL K G vs ds) (lo hi : Option Int) : AtL K G (cutV vs lo hi) (cutL ds lo hi) := by
  unfold cutV cutL
  rw [h.length]
  exact (h.drop _).take _
theorem cutL_whole {α : Type} {xs : List α} {lo hi : Option Int} (h : HT.sIx xs.length 0 lo = 0 ∧ HT.sIx xs.length xs.length hi = xs.length) : cutL xs lo hi = xs := by
  unfold cutL
  rw [h.1, h.2]
  simp
def rSlU (K : PySem.W.Frag) : V → Option Int → Option Int → Hp → VK → Prop := fun x lo hi H Q => rSlL K x lo hi H Q ∨ rSlA K x lo hi H Q ∨ rSlS x lo hi H Q
theorem sl_any {X : Cx} : SlR X (rSlU X.K) := sl_list.or (sl_tupA.or sl_str)
def slF : D → Option Int → Option Int → (R → Prop) → Prop
  | .lst xs, lo, hi, Q => Q (.fr (.l (cutL xs lo hi)))
  | .frz xs, lo, hi, Q => Q (.fr (.l (cutL xs lo hi)))
  | .tup xs, lo, hi, Q => Q (.va (.tup (cutL xs lo hi)))
  | .str x, lo, hi, Q => x.length ≤ sizeLine ∧ Q (.va (.str (cutS x lo hi)))
  | _, _, _, _ => False
def tslice (T : DT) (Tl Th : DTO) : DT := fun δ Q => T δ fun r δ1 => Tl δ1 fun lo δ2 => Th δ2 fun hi δ3 => ∃ d, r.dat δ3 = some d ∧ slF d lo hi fun r => Q r δ3
theorem snd_slice {t : TE} {T : DT} {tl th : TO} {Tl Th : DTO} (a : Snd K t T) (l : SndO K tl Tl) (h : SndO K th Th) : Snd K (tSl (rSlU K) t tl th) (tslice T Tl Th) := fun σ H G δ Q Q3 L hh k => by
  refine a σ H G δ _ _ L hh fun x δ1 v H1 G1 L1 f1 le1 rx h1 => ?_
  refine l σ H1 G1 δ1 _ _ L1 h1 fun lo δ2 H2 G2 L2 f2 le2 h2 => ?_
  refine h σ H2 G2 δ2 _ _ L2 h2 fun hi δ3 H3 G3 L3 f3 le3 h3 => ?_
  obtain ⟨d, e, hF⟩ := h3
  have f23 : Fr (Ad σ δ1) H1 G1 H3 G3 := f2.trans f3 fun a h => .inl (le2.ad h)
  have f123 : Fr (Ad σ δ) H G H3 G3 := f1.trans f23 fun a h => .inl (le1.ad h)
  have sh : Sh K H3 G3 v d := Sh.on L f1 le1 f23 L3 rx e
  have s := L3.sub
  have kk : End K H3 G3 Q (fun r => Q3 r δ3) := fun r' z H4 G4 f4 s4 rz nr q3 => k r' δ3 z H4 G4 (L3.grow f4 s4) (f123.trans f4 fun _ z => z.elim) (le3.trans (le2.trans le1)) (rz.grow nr fun a h => f123.free h) q3
  cases d with
  | lst xs =>
    obtain ⟨a, vs, rfl, e1, t1⟩ := sh
    exact .inl ⟨a, vs, rfl, SqL.of e1, kk.list s (t1.cut lo hi) hF⟩
  | frz xs =>
    obtain ⟨a, vs, rfl, e1, t1⟩ := sh
    exact .inl ⟨a, vs, rfl, s.sqL e1, kk.list s (t1.cut lo hi) hF⟩
  | tup xs =>
    obtain ⟨a, vs, rfl, e1, t1⟩ := sh
    refine .inr (.inl ⟨a, vs, rfl, s.sqT e1, fun w => ?_, fun _ => kk.tuple s (t1.cut lo hi) hF⟩)
    rw [t1.length] at w
    have hF2 : Q3 (.va (.tup (cutL xs lo hi))) δ3 := hF
    rw [cutL_whole w] at hF2
    exact kk.va s (At.tup e1 t1) hF2
  | str x =>
    obtain rfl := sh
    exact .inr (.inr ⟨_, rfl, hF.1, kk.va s (.str _) hF.2⟩)
  | _ => exact (show False from hF).elim
/-- the datum that a result becomes -/
def datS : Option E → Option D
  | some (.va d) => some d
  | _ => none
def R.still (δ : En) : R → Option D
  | .va d => some d
  | .fr c => c.dat
  | .rf i => datS δ[i]?
/-- an owned object stands still from now on -/
theorem freeze {G H : Hp} {l : Addr} {c : Cn} {d : D} (h : AtC K H G l c) (e : c.dat = some d) (g : G l = none) : ∃ o, H l = some o ∧ Sub G (upd G l o) ∧ At K (upd G l o) (.ref l) d := by
  have s1 : ∀ o, Sub G (upd G l o) := fun u a o h => by
    by_cases z : a = l
    · rw [z, g] at h
      cases h
    · rw [upd_ne z]
      exact h
  cases c with
  | l xs =>
    cases e
    obtain ⟨vs, h1, t1⟩ := h
    exact ⟨_, h1, s1 _, At.lst upd_same (t1.mono (s1 _))⟩
  | d kvs =>
    cases e
    obtain ⟨vs, h1, t1⟩ := h
    obtain ⟨e1, t2⟩ := t1.zip
    refine ⟨_, h1, s1 _, At.dct (vs := vs.map (·.2)) ?_ ?_ (t2.mono (s1 _))⟩
    · rw [upd_same, ← e1]
    · have := t2.length
      rw [List.length_map] at this ⊢
      rw [List.length_map] at this ⊢
      exact this.symm
  | o cn fs =>
    cases e
    obtain ⟨dx, vs, h1, t1⟩ := h
    obtain ⟨e1, t2⟩ := t1.zip
    refine ⟨_, h1, s1 _, At.obj (dx := dx) (vs := vs.map (·.2)) ?_ ?_ (t2.mono (s1 _))⟩
    · rw [upd_same, ← e1]
    · have := t2.length
      rw [List.length_map] at this ⊢
      rw [List.length_map] at this ⊢
      exact this.symm
theorem settle {σ : L2.St} {H0 G0 H G : Hp} {δ0 δ : En} {r : R} {v : V} {d : D} (L0 : Rel K σ H0 G0 δ0) (L : Rel K σ H G δ) (f : Fr (Ad σ δ0) H0 G0 H G) (le : Le δ δ0) (rr : RR K σ H0 H G r v) (e : r.still δ = some d) :
    ∃ G', Rel K σ H G' δ ∧ Fr (Ad σ δ0) H0 G0 H G' ∧ Sub G G' ∧ At K G' v d ∧ ∀ a, G' a ≠ G a → r ≠ .va d ∧ v = .ref a ∧ ∃ c, r = .fr c := by
  cases r with
  | va d' =>
    cases e
    exact ⟨G, L, f, .refl, rr, fun a z => absurd rfl z⟩
  | rf i =>
    have e2 : datS δ[i]? = some d := e
    unfold datS at e2
    split at e2
    · rename_i d' q
      cases e2
      obtain ⟨v', h1, h2⟩ := L.va i _ q
      rw [show σ[i]? = some (some v) from rr] at h1
      cases h1
      exact ⟨G, L, f, .refl, h2, fun a z => absurd rfl z⟩
    · cases e2
  | fr c =>
    obtain ⟨l, rfl, n, g, hc⟩ := rr
    obtain ⟨o, h1, s1, ha⟩ := freeze hc e g
    have nl : ∀ a, Ad σ δ a → a ≠ l := fun a h z => by
      subst z
      exact L0.there (le.ad h) n
    refine ⟨upd G l o, ⟨L.len, fun a u h => ?_, fun i d e => ?_, fun i c e => ?_, L.dj⟩, ⟨f.h, fun a o h => s1 _ _ (f.g a o h), fun a na h => ?_, f.d⟩, s1, ha, fun a z => ⟨fun z => (nomatch z), ?_, _, rfl⟩⟩
    · by_cases z : a = l
      · subst z
        rw [upd_same] at h
        cases h
        exact h1
      · rw [upd_ne z] at h
        exact L.sub a u h
    · obtain ⟨v, h1, h2⟩ := L.va i d e
      exact ⟨v, h1, h2.mono s1⟩
    · obtain ⟨l', h2, h3, h4⟩ := L.ow i c e
      exact ⟨l', h2, by rw [upd_ne (nl l' ⟨i, c, e, h2⟩)]; exact h3, h4.mono (fun _ q => q) s1⟩
    · have : a ≠ l := fun z => h (by rw [z]; exact n)
      rw [upd_ne this]
      exact f.n a na h
    · have : a = l := by
        by_cases q : a = l
        · exact q
        · exact absurd (upd_ne q) z
      rw [this]
def stills (δ : En) : List R → Option (List D)
  | [] => some []
  | r :: rs => (r.still δ).bind fun d => (stills δ rs).map fun ds => d :: ds
theorem settles {σ : L2.St} {H0 G0 H : Hp} {δ0 δ : En} (L0 : Rel K σ H0 G0 δ0) (le : Le δ δ0) : ∀ {rs : List R} {vs : List V} {ds : List D} {G : Hp}, Rel K σ H G δ → Fr (Ad σ δ0) H0 G0 H G → RRs K σ H0 H G rs vs → stills δ rs = some ds →
    ∃ G', Rel K σ H G' δ ∧ Fr (Ad σ δ0) H0 G0 H G' ∧ Sub G G' ∧ AtL K G' vs ds
  | [], _, ds, G, L, f, h, e => by
    cases h
    cases e
    exact ⟨G, L, f, .refl, .nil⟩
  | r :: rs, _, ds, G, L, f, h, e => by
    cases h with
    | @cons _ v _ vs hr ht hn =>
      obtain ⟨d, e1, e2⟩ := Option.bind_eq_some_iff.mp e
      obtain ⟨es, e3, rfl⟩ := Option.map_eq_some_iff.mp e2
      obtain ⟨G1, L1, f1, s1, h1, ch⟩ := settle L0 L f le hr e1
      have ht1 : RRs K σ H0 H G1 rs vs := by
        have key : ∀ {rs : List R} {vs : List V}, RRs K σ H0 H G rs vs → (∀ c, r = .fr c → ∀ (j : Nat) (c' : Cn), rs[j]? = some (.fr c') → vs[j]? ≠ some v) → RRs K σ H0 H G1 rs vs := by
          intro rs vs h
          induction h with
          | nil => intro _; exact .nil
          | @cons r' v' rs' vs' a b c ih =>
            intro n
            refine .cons ?_ (ih fun c e j c' e' => n c e (j + 1) c' (by simpa using e')) c
            cases r' with
            | va d => exact At.mono s1 a
            | rf i => exact a
            | fr c' =>
              obtain ⟨l, rfl, n0, g, q⟩ := a
              refine ⟨l, rfl, n0, ?_, q.mono (fun _ z => z) s1⟩
              by_cases z : G1 l = G l
              · rw [z]
                exact g
              · obtain ⟨_, ev, c, ec⟩ := ch l z
                exact absurd (by rw [ev]; rfl) (n c ec 0 c' rfl)
        exact key ht hn
      obtain ⟨G2, L2, f2, s2, h2⟩ := settles L0 le L1 f1 ht1 e3
      exact ⟨G2, L2, f2, s1.trans s2, .cons (h1.mono s2) h2⟩
def ttup (TA : DTA) : DT := fun δ Q => TA δ fun rs δ1 => ∃ ds, stills δ1 rs = some ds ∧ ds.length ≤ sizeLine ∧ Q (.va (.tup ds)) δ1
def tlst (TA : DTA) : DT := fun δ Q => TA δ fun rs δ1 => ∃ ds, stills δ1 rs = some ds ∧ ds.length ≤ sizeLine ∧ Q (.fr (.l ds)) δ1
theorem snd_tup {t : TA} {T : DTA} (a : SndA K t T) : Snd K (tTup t) (ttup T) := fun σ H G δ Q Q3 L h k => by
  refine a σ H G δ _ _ L h fun rs δ1 vs H1 G1 L1 f1 le1 rr q1 => ?_
  obtain ⟨ds, e, hl, q⟩ := q1
  obtain ⟨G2, L2, f2, s2, h2⟩ := settles L le1 L1 f1 rr e
  refine ⟨by rw [h2.length]; exact hl, fun p n => ?_⟩
  obtain ⟨f3, s3⟩ := gr_keep (o := .tup vs) L2.sub n
  exact k (.va (.tup ds)) δ1 (.ref p) _ _ (L2.grow f3 s3) (f2.trans f3 fun _ z => z.elim) le1 (At.tup (SqT.of upd_same) (h2.mono f3.sub)) q
theorem snd_lst {t : TA} {T : DTA} (a : SndA K t T) : Snd K (tLst t) (tlst T) := fun σ H G δ Q Q3 L h k => by
  refine a σ H G δ _ _ L h fun rs δ1 vs H1 G1 L1 f1 le1 rr q1 => ?_
  obtain ⟨ds, e, hl, q⟩ := q1
  obtain ⟨G2, L2, f2, s2, h2⟩ := settles L le1 L1 f1 rr e
  refine ⟨by rw [h2.length]; exact hl, fun p n => ?_⟩
  obtain ⟨f3, s3⟩ := gr_new (G := G2) (o := .lst vs) L2.sub n
  exact k (.fr (.l ds)) δ1 (.ref p) _ _ (L2.grow f3 s3) (f2.trans f3 fun _ z => z.elim) le1 ⟨p, rfl, f2.free n, g_none L2.sub n, vs, upd_same, h2⟩ q
end
end L3
namespace L3
open PySem PySem.Spec PyProof.Rows L2
section
variable {K : PySem.W.Frag}
inductive ShL (K : PySem.W.Frag) (H G : Hp) : List V → List D → Prop
  | nil : ShL K H G [] []
  | cons {v : V} {vs : List V} {d : D} {ds : List D} : Sh K H G v d → ShL K H G vs ds → ShL K H G (v :: vs) (d :: ds)
def dats (δ : En) : List R → Option (List D)
  | [] => some []
  | r :: rs => (r.dat δ).bind fun d => (dats δ rs).map fun ds => d :: ds
theorem shL_of {σ : L2.St} {H0 H G : Hp} {δ : En} (L : Rel K σ H G δ) : ∀ {rs : List R} {vs : List V} {ds : List D}, RRs K σ H0 H G rs vs → dats δ rs = some ds → ShL K H G vs ds
  | [], _, _, h, e => by
    cases h
    cases e
    exact .nil
  | r :: rs, _, _, h, e => by
    cases h with
    | cons hr ht hn =>
      obtain ⟨d, e1, e2⟩ := Option.bind_eq_some_iff.mp e
      obtain ⟨es, e3, rfl⟩ := Option.map_eq_some_iff.mp e2
      exact .cons (sh_of L hr e1) (shL_of L ht e3)
def SndC (K : PySem.W.Frag) (r : List V → Hp → VK → Prop) (F : List D → (R → Prop) → Prop) : Prop := ∀ (H G : Hp) (vs : List V) (ds : List D) (Q : VK) (Q3 : R → Prop), Sub G H → ShL K H G vs ds → F ds Q3 → End K H G Q Q3 → r vs H Q
def tcb (F : List D → (R → Prop) → Prop) (TA : DTA) : DT := fun δ Q => TA δ fun rs δ1 => ∃ ds, dats δ1 rs = some ds ∧ F ds fun r => Q r δ1
theorem snd_cb {r : List V → Hp → VK → Prop} {F : List D → (R → Prop) → Prop} {t : TA} {T : DTA} (hr : SndC K r F) (a : SndA K t T) : Snd K (tCB r t) (tcb F T) := fun σ H G δ Q Q3 L h k => by
  refine a σ H G δ _ _ L h fun rs δ1 vs H1 G1 L1 f1 le1 rr q1 => ?_
  obtain ⟨ds, e, hF⟩ := q1
  exact hr H1 G1 vs ds _ _ L1.sub (shL_of L1 rr e) hF fun r' z H3 G3 f3 s3 rz nr q3 => k r' δ1 z H3 G3 (L1.grow f3 s3) (f1.trans f3 fun _ z => z.elim) le1 (rz.grow nr fun a h => f1.free h) q3
def lenF : List D → (R → Prop) → Prop
  | [.lst xs], Q => Q (.va (.int xs.length))
  | [.tup xs], Q => Q (.va (.int xs.length))
  | [.frz xs], Q => Q (.va (.int xs.length))
  | [.str x], Q => x.length ≤ sizeLine ∧ Q (.va (.int x.length))
  | _, _ => False
def rLenV (K : PySem.W.Frag) : List V → Hp → VK → Prop := fun xs H Q => ∃ x n, xs = [x] ∧ LenV K x H n ∧ Q (.int n) H
theorem snd_len : SndC K (rLenV K) lenF := fun H G vs ds Q Q3 s h hF k => by
  unfold lenF at hF
  split at hF
  · cases h with
    | cons h t =>
      cases t
      obtain ⟨a, vs, rfl, h1, t1⟩ := h
      exact ⟨_, _, rfl, .inl ⟨vs, SqL.of h1, t1.length.symm⟩, k.va s (.int _) hF⟩
  · cases h with
    | cons h t =>
      cases t
      obtain ⟨a, vs, rfl, h1, t1⟩ := h
      exact ⟨_, _, rfl, .inr ⟨vs, s.sqT h1, t1.length.symm⟩, k.va s (.int _) hF⟩
  · cases h with
    | cons h t =>
      cases t
      obtain ⟨a, vs, rfl, h1, t1⟩ := h
      exact ⟨_, _, rfl, .inl ⟨vs, s.sqL h1, t1.length.symm⟩, k.va s (.int _) hF⟩
  · cases h with
    | cons h t =>
      cases t
      obtain rfl := h
      exact ⟨_, _, rfl, ⟨hF.1, rfl⟩, k.va s (.int _) hF.2⟩
  · exact hF.elim
def listF : List D → (R → Prop) → Prop
  | [.lst xs], Q => Q (.fr (.l xs))
  | [.tup xs], Q => Q (.fr (.l xs))
  | [.frz xs], Q => Q (.fr (.l xs))
  | _, _ => False
def rListV (K : PySem.W.Frag) : List V → Hp → VK → Prop := fun xs H Q => ∃ p ys, xs = [.ref p] ∧ (SqL K H p ys ∨ SqT K H p ys) ∧ ∀ l, H l = none → Q (.ref l) (upd H l (.lst ys))
theorem snd_list : SndC K (rListV K) listF := fun H G vs ds Q Q3 s h hF k => by
  unfold listF at hF
  split at hF
  · cases h with
    | cons h t =>
      cases t
      obtain ⟨a, vs, rfl, h1, t1⟩ := h
      exact ⟨_, _, rfl, .inl (SqL.of h1), k.list s t1 hF⟩
  · cases h with
    | cons h t =>
      cases t
      obtain ⟨a, vs, rfl, h1, t1⟩ := h
      exact ⟨_, _, rfl, .inr (s.sqT h1), k.list s t1 hF⟩
  · cases h with
    | cons h t =>
      cases t
      obtain ⟨a, vs, rfl, h1, t1⟩ := h
      exact ⟨_, _, rfl, .inl (s.sqL h1), k.list s t1 hF⟩
  · exact hF.elim
def tupleF : List D → (R → Prop) → Prop
  | [.lst xs], Q => Q (.va (.tup xs))
  | [.tup xs], Q => Q (.va (.tup xs))
  | _, _ => False
def rTupleV (K : PySem.W.Frag) : List V → Hp → VK → Prop := fun xs H Q => ∃ p ys, xs = [.ref p] ∧ ((SqL K H p ys ∧ ∀ l, H l = none → Q (.ref l) (upd H l (.tup ys))) ∨ (SqT K H p ys ∧ Q (.ref p) H))
theorem snd_tuple : SndC K (rTupleV K) tupleF := fun H G vs ds Q Q3 s h hF k => by
  unfold tupleF at hF
  split at hF
  · cases h with
    | cons h t =>
      cases t
      obtain ⟨a, vs, rfl, h1, t1⟩ := h
      exact ⟨_, _, rfl, .inl ⟨SqL.of h1, k.tuple s t1 hF⟩⟩
  · cases h with
    | cons h t =>
      cases t
      obtain ⟨a, vs, rfl, h1, t1⟩ := h
      exact ⟨_, _, rfl, .inr ⟨s.sqT h1, k.va s (At.tup h1 t1) hF⟩⟩
  · exact hF.elim
def intF : List D → (R → Prop) → Prop
  | [.int i], Q => Q (.va (.int i))
  | [.bl b], Q => Q (.va (.int (if b then 1 else 0)))
  | _, _ => False
def rIntV : List V → Hp → VK → Prop := fun xs H Q => (∃ i, xs = [.int i] ∧ Q (.int i) H) ∨ ∃ k, xs = [.bl k] ∧ Q (.int (if k then 1 else 0)) H
theorem snd_int1 : SndC K rIntV intF := fun H G vs ds Q Q3 s h hF k => by
  unfold intF at hF
  split at hF
  · cases h with
    | cons h t =>
      cases t
      obtain rfl := h
      exact .inl ⟨_, rfl, k.va s (.int _) hF⟩
  · cases h with
    | cons h t =>
      cases t
      obtain rfl := h
      exact .inr ⟨_, rfl, k.va s (.int _) hF⟩
  · exact hF.elim
def absF : List D → (R → Prop) → Prop
  | [.int i], Q => Q (.va (.int (if i < 0 then -i else i)))
  | _, _ => False
theorem snd_abs : SndC K (fun xs H Q => ∃ i, xs = [.int i] ∧ Q (.int (if i < 0 then -i else i)) H) absF := fun H G vs ds Q Q3 s h hF k => by
  unfold absF at hF
  split at hF
  · cases h with
    | cons h t =>
      cases t
      obtain rfl := h
      exact ⟨_, rfl, k.va s (.int _) hF⟩
  · exact hF.elim
theorem AtL.ints {G : Hp} : ∀ {ns : List Int} {vs : List V}, AtL K G vs (ns.map D.int) → vs = ns.map V.int
  | [], _, h => by
    cases h
    rfl
  | n :: ns, _, h => by
    cases h with
    | cons a t =>
      cases a
      rw [AtL.ints t]
      rfl
theorem AtL.bls {G : Hp} : ∀ {ns : List Bool} {vs : List V}, AtL K G vs (ns.map D.bl) → vs = ns.map V.bl
  | [], _, h => by
    cases h
    rfl
  | n :: ns, _, h => by
    cases h with
    | cons a t =>
      cases a
      rw [AtL.bls t]
      rfl
theorem AtL.strs {G : Hp} : ∀ {ns : List Str} {vs : List V}, AtL K G vs (ns.map D.str) → vs = ns.map V.str
  | [], _, h => by
    cases h
    rfl
  | n :: ns, _, h => by
    cases h with
    | cons a t =>
      cases a
      rw [AtL.strs t]
      rfl
theorem atl_ints {G : Hp} : ∀ (ns : List Int), AtL K G (ns.map V.int) (ns.map D.int)
  | [] => .nil
  | n :: ns => .cons (.int n) (atl_ints ns)
def sumF : List D → (R → Prop) → Prop
  | [.lst xs], Q => ∃ ns : List Int, xs = ns.map D.int ∧ Q (.va (.int ns.sum))
  | _, _ => False
theorem snd_sum : SndC K (rSum K) sumF := fun H G vs ds Q Q3 s h hF k => by
  unfold sumF at hF
  split at hF
  · cases h with
    | cons h t =>
      cases t
      obtain ⟨a, vs, rfl, h1, t1⟩ := h
      obtain ⟨ns, rfl, q⟩ := hF
      rw [t1.ints] at h1
      exact ⟨a, ns, rfl, SqL.of h1, k.va s (.int _) q⟩
  · exact hF.elim
def anyF : List D → (R → Prop) → Prop
  | [.lst xs], Q => ∃ bs : List Bool, xs = bs.map D.bl ∧ Q (.va (.bl (bs.any id)))
  | _, _ => False
def allF : List D → (R → Prop) → Prop
  | [.lst xs], Q => ∃ bs : List Bool, xs = bs.map D.bl ∧ Q (.va (.bl (bs.all id)))
  | _, _ => False
theorem snd_any : SndC K (rAny K) anyF := fun H G vs ds Q Q3 s h hF k => by
  unfold anyF at hF
  split at hF
  · cases h with
    | cons h t =>
      cases t
      obtain ⟨a, vs, rfl, h1, t1⟩ := h
      obtain ⟨ns, rfl, q⟩ := hF
      rw [t1.bls] at h1
      exact ⟨a, ns, rfl, SqL.of h1, k.va s (.bl _) q⟩
  · exact hF.elim
theorem snd_all : SndC K (rAll K) allF := fun H G vs ds Q Q3 s h hF k => by
  unfold allF at hF
  split at hF
  · cases h with
    | cons h t =>
      cases t
      obtain ⟨a, vs, rfl, h1, t1⟩ := h
      obtain ⟨ns, rfl, q⟩ := hF
      rw [t1.bls] at h1
      exact ⟨a, ns, rfl, SqL.of h1, k.va s (.bl _) q⟩
  · exact hF.elim
inductive Tn where
  | int | bool | str | list | tuple | dict
inductive Kn where
  | non | bool | int | str | list | tuple | dict
  deriving DecidableEq
def Tn.nm : Tn → String
  | .int => "int" | .bool => "bool" | .str => "str" | .list => "list" | .tuple => "tuple" | .dict => "dict"
def Kn.nm : Kn → String
  | .non => "NoneType" | .int => "int" | .bool => "bool" | .str => "str" | .list => "list" | .tuple => "tuple" | .dict => "dict"
def isT : Tn → Kn → Bool
  | .int, .int => true | .int, .bool => true | .bool, .bool => true | .str, .str => true | .list, .list => true | .tuple, .tuple => true | .dict, .dict => true
  | _, _ => false
theorem kit_isT (n : Tn) (k : Kn) : kitB k.nm n.nm = some (isT n k) := by
  cases n <;> cases k <;> decide +kernel
def Cn.kn : Cn → Option Kn
  | .l _ => some .list
  | .d _ => some .dict
  | .o _ _ => none
def D.kn : D → Option Kn
  | .non => some .non | .bl _ => some .bool | .int _ => some .int | .str _ => some .str | .lst _ => some .list | .tup _ => some .tuple
  | .obj _ _ _ => none | .frz _ => none | .dct _ _ => some .dict | .exn _ _ _ _ _ => none
def knE : Option E → Option Kn
  | some (.va d) => d.kn
  | some (.ow c) => c.kn
  | _ => none
def R.kn (δ : En) : R → Option Kn
  | .va d => d.kn
  | .fr c => c.kn
  | .rf i => knE δ[i]?
theorem tyx_at {H G : Hp} {v : V} {d : D} {k : Kn} (s : Sub G H) (h : At K G v d) (e : d.kn = some k) : TyX K H v (.type k.nm) := by
  cases h with
  | non => cases e; exact .base .non
  | bl b => cases e; exact .base (.bl b)
  | int i => cases e; exact .base (.int i)
  | str x => cases e; exact .base (.str x)
  | lst h t => cases e; exact .base (.lst (s _ _ h))
  | tup h t =>
    cases e
    rcases s.sqT h with (h | ⟨o, h⟩) | ⟨o, its, n, h1, h2, _⟩
    · exact .base (.tup h)
    · exact .fTuple h
    · exact .kTuple h1 h2
  | obj h n t => cases e
  | frz h t => cases e
  | dct h n t => cases e; exact .base (.dK (s _ _ h))
  | exn h n t => cases e
theorem tyx_cn {H G : Hp} {l : Addr} {c : Cn} {k : Kn} (h : AtC K H G l c) (e : c.kn = some k) : TyX K H (.ref l) (.type k.nm) := by
  cases c with
  | l xs =>
    cases e
    obtain ⟨vs, h1, _⟩ := h
    exact .base (.lst h1)
  | d kvs =>
    cases e
    obtain ⟨vs, h1, _⟩ := h
    exact .base (.dK h1)
  | o cn fs => cases e
theorem tyx_rr {σ : L2.St} {H0 H G : Hp} {δ : En} {r : R} {v : V} {k : Kn} (L : Rel K σ H G δ) (rr : RR K σ H0 H G r v) (e : r.kn δ = some k) : TyX K H v (.type k.nm) := by
  cases r with
  | va d => exact tyx_at L.sub rr e
  | fr c =>
    obtain ⟨l, rfl, _, _, h⟩ := rr
    exact tyx_cn h e
  | rf i =>
    have e2 : knE δ[i]? = some k := e
    unfold knE at e2
    split at e2
    · rename_i d q
      obtain ⟨v', h1, h2⟩ := L.va i _ q
      rw [show σ[i]? = some (some v) from rr] at h1
      cases h1
      exact tyx_at L.sub h2 e2
    · rename_i c q
      obtain ⟨l, h1, _, h2⟩ := L.ow i _ q
      rw [show σ[i]? = some (some v) from rr] at h1
      cases h1
      exact tyx_cn h2 e2
    · cases e2
def tisi (n : Tn) (T : DT) : DT := fun δ Q => T δ fun r δ1 => ∃ k, r.kn δ1 = some k ∧ Q (.va (.bl (isT n k))) δ1
theorem snd_isi {t : TE} {T : DT} {nm : String} (n : Tn) (hn : n.nm = nm) (a : Snd K t T) : Snd K (tCB (rIsi K) (tCons t (tCons (tC (.ty nm)) tNil))) (tisi n T) := fun σ H G δ Q Q3 L h k => by
  subst hn
  refine a σ H G δ _ _ L h fun r δ1 v H1 G1 L1 f1 le1 rr q1 => ?_
  obtain ⟨kn, e, q⟩ := q1
  exact ⟨v, _, _, _, _, rfl, .ty _, tyx_rr L1 rr e, kit_ty (kit_isT n kn), k (.va (.bl _)) δ1 _ H1 G1 L1 f1 le1 (At.bl _) q⟩
def tisi2 (n m : Tn) (T : DT) : DT := fun δ Q => T δ fun r δ1 => ∃ k, r.kn δ1 = some k ∧ Q (.va (.bl (isT n k || isT m k))) δ1
theorem snd_isi2 {t : TE} {T : DT} {nm mm : String} (n m : Tn) (hn : n.nm = nm) (hm : m.nm = mm) (a : Snd K t T) :
    Snd K (tCB (rIsiT K) (tCons t (tCons (tTup (tCons (tC (.ty nm)) (tCons (tC (.ty mm)) tNil))) tNil))) (tisi2 n m T) := fun σ H G δ Q Q3 L h k => by
  subst hn
  subst hm
  refine a σ H G δ _ _ L h fun r δ1 v H1 G1 L1 f1 le1 rr q1 => ?_
  obtain ⟨kn, e, q⟩ := q1
  refine ⟨by show 2 ≤ sizeLine; decide, fun p np => ?_⟩
  obtain ⟨f3, s3⟩ := gr_new (G := G1) (o := .tup [V.ty n.nm, V.ty m.nm]) L1.sub np
  have L3 := L1.grow f3 s3
  have rr3 : RR K σ H (upd H1 p (.tup [V.ty n.nm, V.ty m.nm])) G1 r v := by
    cases r with
    | va d => exact rr
    | fr c =>
      obtain ⟨l, rfl, n0, g, hc⟩ := rr
      exact ⟨l, rfl, n0, g, hc.mono (fun o q => f3.h l o (fun z => z) q) .refl⟩
    | rf i => exact rr
  refine ⟨v, p, _, _, _, _, rfl, upd_same, .cons (.ty _) (.cons (.ty _) .nil), tyx_rr L3 rr3 e, ?_, k (.va (.bl (isT n kn || isT m kn))) δ1 _ _ G1 L3 (f1.trans f3 fun _ z => z.elim) le1 (At.bl _) q⟩
  refine kitAny_cons (kit_ty (kit_isT n kn)) (fun e1 => ?_) (fun e1 => by rw [e1]; rfl)
  rw [e1, Bool.false_or]
  refine kitAny_cons (kit_ty (kit_isT m kn)) (fun e2 => ?_) (fun e2 => e2)
  rw [e2]
  exact kitAny_nil
end
end L3
namespace L3
open PySem PySem.Spec PyProof.Rows L2
section
variable {K : PySem.W.Frag}
/-- a def's promise over data: its arguments as slots, what is wanted of its result and of the slots behind it -/
abbrev DSp := En → (R → En → Prop) → Prop
def up (K : PySem.W.Frag) (n : Nat) (sp : DSp) : Sp := fun vs H Q _ => vs.length = n ∧ ∃ (G : Hp) (δ : En) (Q3 : R → En → Prop), Rel K (vs.map some) H G δ ∧ sp δ Q3 ∧
  ∀ r δ' v H' G', Rel K (vs.map some) H' G' δ' → Fr (Ad (vs.map some) δ) H G H' G' → Le δ' δ → RR K [] H H' G' r v → (∀ i, r ≠ .rf i) → Q3 r δ' → Q v H'
/-- how a result is handed over: own (true) or standing still from now on -/
def passR (δ : En) (i : Nat) : Bool → Option E
  | true => match δ[i]? with
    | some (.ow c) => some (.ow c)
    | some (.va d) => some (.va d)
    | _ => none
  | false => match δ[i]? with
    | some (.va d) => some (.va d)
    | _ => none
def pass1 (δ : En) : R → Bool → Option E
  | .va d, _ => some (.va d)
  | .fr c, true => some (.ow c)
  | .fr c, false => c.dat.map E.va
  | .rf i, m => passR δ i m
def passes (δ : En) : List R → List Bool → Option En
  | [], [] => some []
  | r :: rs, m :: ms => (pass1 δ r m).bind fun e => (passes δ rs ms).map fun es => e :: es
  | _, _ => none
theorem passes_get {δ : En} : ∀ {rs : List R} {ms : List Bool} {es : En}, passes δ rs ms = some es → rs.length = es.length ∧ ∀ (j : Nat) (e : E), es[j]? = some e → ∃ r m, rs[j]? = some r ∧ ms[j]? = some m ∧ pass1 δ r m = some e
  | [], [], _, h => by
    cases h
    exact ⟨rfl, fun j e h => by simp at h⟩
  | r :: rs, m :: ms, _, h => by
    obtain ⟨e, h1, h2⟩ := Option.bind_eq_some_iff.mp h
    obtain ⟨es, h3, rfl⟩ := Option.map_eq_some_iff.mp h2
    obtain ⟨l, ih⟩ := passes_get h3
    refine ⟨by rw [List.length_cons, List.length_cons, l], fun j e' q => ?_⟩
    cases j with
    | zero =>
      simp at q
      subst q
      exact ⟨r, m, rfl, rfl, h1⟩
    | succ j =>
      simp at q
      obtain ⟨r', m', a, b, c⟩ := ih j e' q
      exact ⟨r', m', by simpa using a, by simpa using b, c⟩
  | [], _ :: _, _, h => by cases h
  | _ :: _, [], _, h => by cases h
def rfs : List R → List Nat
  | [] => []
  | .rf i :: rs => i :: rfs rs
  | _ :: rs => rfs rs
theorem rfs_mem : ∀ {rs : List R} {j i : Nat}, rs[j]? = some (R.rf i) → i ∈ rfs rs
  | [], j, i, h => by simp at h
  | .rf k :: rs, 0, i, h => by
    simp at h
    subst h
    exact List.mem_cons_self
  | .va _ :: rs, 0, i, h => by simp at h
  | .fr _ :: rs, 0, i, h => by simp at h
  | .rf k :: rs, j + 1, i, h => List.mem_cons_of_mem _ (rfs_mem (by simpa using h))
  | .va _ :: rs, j + 1, i, h => rfs_mem (rs := rs) (j := j) (by simpa using h)
  | .fr _ :: rs, j + 1, i, h => rfs_mem (rs := rs) (j := j) (by simpa using h)
theorem rfs_inj : ∀ {rs : List R} {j k i : Nat}, (rfs rs).Nodup → rs[j]? = some (R.rf i) → rs[k]? = some (R.rf i) → j = k
  | [], j, k, i, _, h, _ => by simp at h
  | r :: rs, 0, 0, i, _, _, _ => rfl
  | r :: rs, 0, k + 1, i, n, h, h' => by
    simp at h h'
    subst h
    exact absurd (rfs_mem h') (List.nodup_cons.mp n).1
  | r :: rs, j + 1, 0, i, n, h, h' => by
    simp at h h'
    subst h'
    exact absurd (rfs_mem h) (List.nodup_cons.mp n).1
  | r :: rs, j + 1, k + 1, i, n, h, h' => by
    simp at h h'
    have n' : (rfs rs).Nodup := by
      cases r with
      | rf i => exact (List.nodup_cons.mp n).2
      | va d => exact n
      | fr c => exact n
    exact congrArg (· + 1) (rfs_inj n' h h')
def puts (δ : En) : List R → En → En
  | .rf i :: rs, e :: es => (puts δ rs es).set i e
  | _ :: rs, _ :: es => puts δ rs es
  | _, _ => δ
theorem puts_len {δ : En} : ∀ {rs : List R} {es : En}, (puts δ rs es).length = δ.length
  | [], _ => by rw [puts]; all_goals simp
  | .rf i :: rs, e :: es => by rw [puts, List.length_set, puts_len]
  | .va _ :: rs, _ :: es => by rw [puts, puts_len]; all_goals simp
  | .fr _ :: rs, _ :: es => by rw [puts, puts_len]; all_goals simp
  | _ :: _, [] => by rw [puts]; all_goals simp
theorem puts_get {δ : En} : ∀ {rs : List R} {es : En} {i : Nat} {e : E}, rs.length = es.length → (puts δ rs es)[i]? = some e → (∃ j : Nat, rs[j]? = some (R.rf i) ∧ es[j]? = some e) ∨ ((∀ j : Nat, rs[j]? ≠ some (R.rf i)) ∧ δ[i]? = some e)
  | [], [], i, e, _, h => .inr ⟨fun j z => by simp at z, h⟩
  | [], _ :: _, _, _, l, _ => by cases l
  | _ :: _, [], _, _, l, _ => by cases l
  | .rf k :: rs, e' :: es, i, e, l, h => by
    rw [puts] at h
    by_cases z : k = i
    · subst z
      have hk : k < (puts δ rs es).length := by
        have := (List.getElem?_eq_some_iff.mp h).1
        rw [List.length_set] at this
        exact this
      rw [List.getElem?_set_self hk] at h
      exact .inl ⟨0, rfl, h⟩
    · rw [List.getElem?_set_ne z] at h
      rcases puts_get (rs := rs) (es := es) (by simpa using l) h with ⟨j, h1, h2⟩ | ⟨h1, h2⟩
      · exact .inl ⟨j + 1, by simpa using h1, by simpa using h2⟩
      · refine .inr ⟨fun j => ?_, h2⟩
        cases j with
        | zero =>
          intro q
          simp at q
          exact z q
        | succ j =>
          intro q
          exact h1 j (by simpa using q)
  | .va d :: rs, e' :: es, i, e, l, h => by
    have h' : (puts δ rs es)[i]? = some e := by
      rw [puts] at h
      · exact h
      · intro i z; cases z
    rcases puts_get (rs := rs) (es := es) (by simpa using l) h' with ⟨j, h1, h2⟩ | ⟨h1, h2⟩
    · exact .inl ⟨j + 1, by simpa using h1, by simpa using h2⟩
    · refine .inr ⟨fun j => ?_, h2⟩
      cases j with
      | zero =>
        intro q
        simp at q
      | succ j =>
        intro q
        exact h1 j (by simpa using q)
  | .fr d :: rs, e' :: es, i, e, l, h => by
    have h' : (puts δ rs es)[i]? = some e := by
      rw [puts] at h
      · exact h
      · intro i z; cases z
    rcases puts_get (rs := rs) (es := es) (by simpa using l) h' with ⟨j, h1, h2⟩ | ⟨h1, h2⟩
    · exact .inl ⟨j + 1, by simpa using h1, by simpa using h2⟩
    · refine .inr ⟨fun j => ?_, h2⟩
      cases j with
      | zero =>
        intro q
        simp at q
      | succ j =>
        intro q
        exact h1 j (by simpa using q)
open Classical in
/-- the objects at Z stand still from now on -/
theorem freezeZ {σ : L2.St} {H0 G0 H G : Hp} {δ0 δ : En} (L0 : Rel K σ H0 G0 δ0) (L : Rel K σ H G δ) (f : Fr (Ad σ δ0) H0 G0 H G) (le : Le δ δ0) (Z : Addr → Prop) (hz : ∀ a, Z a → H0 a = none ∧ G a = none) :
    ∃ G', Rel K σ H G' δ ∧ Fr (Ad σ δ0) H0 G0 H G' ∧ Sub G G' ∧ (∀ a, ¬ Z a → G' a = G a) ∧ ∀ l c d, Z l → AtC K H G l c → c.dat = some d → At K G' (.ref l) d := by
  have s1 : Sub G (fun a => if Z a then H a else G a) := fun a o h => by
    by_cases z : Z a
    · rw [(hz a z).2] at h
      cases h
    · show (if Z a then H a else G a) = _
      rw [if_neg z]
      exact h
  refine ⟨fun a => if Z a then H a else G a, ⟨L.len, fun a o h => ?_, fun i d e => ?_, fun i c e => ?_, L.dj⟩, ⟨f.h, fun a o h => s1 _ _ (f.g a o h), fun a na h => ?_, f.d⟩, s1, fun a z => if_neg z, fun l c d z h e => ?_⟩
  · have h' : (if Z a then H a else G a) = some o := h
    by_cases z : Z a
    · rw [if_pos z] at h'
      exact h'
    · rw [if_neg z] at h'
      exact L.sub a o h'
  · obtain ⟨v, h1, h2⟩ := L.va i d e
    exact ⟨v, h1, h2.mono s1⟩
  · obtain ⟨l, h2, h3, h4⟩ := L.ow i c e
    have nz : ¬ Z l := fun z => L0.there (le.ad ⟨i, c, e, h2⟩) (hz l z).1
    exact ⟨l, h2, (if_neg nz).trans h3, h4.mono (fun _ q => q) s1⟩
  · have nz : ¬ Z a := fun z => h (hz a z).1
    exact (if_neg nz).trans (f.n a na h)
  · obtain ⟨o, h1, s2, h2⟩ := freeze h e (hz l z).2
    refine h2.mono fun a u q => ?_
    by_cases za : a = l
    · subst za
      rw [upd_same] at q
      show (if Z a then H a else G a) = _
      rw [if_pos z, h1]
      exact q
    · rw [upd_ne za] at q
      exact s1 a u q
/-- the core of a call -/
theorem call_coreG {ms : List Bool} {n : Nat} {σ : L2.St} {H G H1 G1 : Hp} {δ δ1 : En} {rs : List R} {vs : List V} {es : En} (L : Rel K σ H G δ) (L1 : Rel K σ H1 G1 δ1) (f1 : Fr (Ad σ δ) H G H1 G1) (le1 : Le δ1 δ)
    (rr : RRs K σ H H1 G1 rs vs) (nd : (rfs rs).Nodup) (hn : rs.length = n) (he : passes δ1 rs ms = some es) :
    vs.length = n ∧ ∃ G2, Rel K (vs.map some) H1 G2 es ∧ ∀ es' H' G', Rel K (vs.map some) H' G' es' → Fr (Ad (vs.map some) es) H1 G2 H' G' → Le es' es → Rel K σ H' G' (puts δ1 rs es') ∧ Fr (Ad σ δ) H G H' G' ∧ Le (puts δ1 rs es') δ := by
  obtain ⟨hl, hg⟩ := passes_get he
  obtain ⟨G2, L2', f2, s2, gz, hz⟩ := freezeZ L L1 f1 le1 (fun a => ∃ (j : Nat) (c : Cn), rs[j]? = some (R.fr c) ∧ ms[j]? = some false ∧ vs[j]? = some (V.ref a)) fun a ⟨j, c, e1, e2, e3⟩ => by
    obtain ⟨v, h1, l, h2, h3, h4, _⟩ := rr.get e1
    rw [e3] at h1
    cases h1
    cases h2
    exact ⟨h3, h4⟩
  have lv : vs.length = rs.length := rr.length
  have gv : ∀ (j : Nat) (r : R), rs[j]? = some r → ∃ v, vs[j]? = some v ∧ (vs.map some)[j]? = some (some v) ∧ RR K σ H H1 G1 r v := fun j r e => by
    obtain ⟨v, h1, h2⟩ := rr.get e
    exact ⟨v, h1, by rw [List.getElem?_map, h1]; rfl, h2⟩
  -- what an owned argument is
  have own : ∀ (j : Nat) (c : Cn), es[j]? = some (E.ow c) → (rs[j]? = some (R.fr c) ∧ ∃ l, vs[j]? = some (V.ref l) ∧ H l = none ∧ G2 l = none ∧ AtC K H1 G2 l c) ∨ ∃ i l, rs[j]? = some (R.rf i) ∧ δ1[i]? = some (E.ow c) ∧ σ[i]? = some (some (V.ref l)) ∧ vs[j]? = some (V.ref l) ∧ G2 l = none ∧ AtC K H1 G2 l c := fun j c e => by
    obtain ⟨r, m, h1, h2, h3⟩ := hg j _ e
    cases r with
    | va d =>
      have h4 : some (E.va d) = some (E.ow c) := h3
      cases h4
    | fr c' =>
      cases m with
      | true =>
        have h4 : some (E.ow c') = some (E.ow c) := h3
        cases h4
        obtain ⟨v, q1, l, rfl, q2, q3, q4⟩ := rr.get h1
        refine .inl ⟨h1, l, q1, q2, ?_, q4.mono (fun _ z => z) s2⟩
        rw [gz l fun ⟨j', c', a, b, d⟩ => by
          have := rr.apart h1 a q1 d
          subst this
          rw [h2] at b
          cases b]
        exact q3
      | false =>
        have h4 : c'.dat.map E.va = some (E.ow c) := h3
        obtain ⟨_, _, z⟩ := Option.map_eq_some_iff.mp h4
        cases z
    | rf i =>
      have h4 : passR δ1 i m = some (E.ow c) := h3
      have h5 : δ1[i]? = some (E.ow c) := by
        unfold passR at h4
        cases m with
        | true =>
          simp only at h4
          split at h4
          · rename_i c' q
            cases h4
            exact q
          · cases h4
          · cases h4
        | false =>
          simp only at h4
          split at h4
          · cases h4
          · cases h4
      obtain ⟨l, q1, q2, q3⟩ := L2'.ow i c h5
      obtain ⟨v, p1, p2⟩ := rr.get h1
      rw [show σ[i]? = some (some v) from p2] at q1
      cases q1
      exact .inr ⟨i, l, h1, h5, p2, p1, q2, q3⟩
  have owR : ∀ (l : Addr), Ad (vs.map some) es l → (H l = none ∨ Ad σ δ1 l) := fun l ⟨j, c, e, q⟩ => by
    rw [List.getElem?_map] at q
    rcases own j c e with ⟨_, l', h1, h2, _⟩ | ⟨i, l', h1, h2, h3, h4, _⟩
    · rw [h1] at q
      cases q
      exact .inl h2
    · rw [h4] at q
      cases q
      exact .inr ⟨i, c, h2, h3⟩
  have LA : Rel K (vs.map some) H1 G2 es := by
    refine ⟨by rw [List.length_map, lv, hl], L2'.sub, fun j d e => ?_, fun j c e => ?_, fun j j' l c c' e e' q q' => ?_⟩
    · obtain ⟨r, m, h1, h2, h3⟩ := hg j _ e
      obtain ⟨v, q1, q2, q3⟩ := gv j r h1
      refine ⟨v, q2, ?_⟩
      cases r with
      | va d' =>
        have h4 : some (E.va d') = some (E.va d) := h3
        cases h4
        exact At.mono s2 q3
      | fr c =>
        cases m with
        | true =>
          have h4 : some (E.ow c) = some (E.va d) := h3
          cases h4
        | false =>
          have h4 : c.dat.map E.va = some (E.va d) := h3
          obtain ⟨d', z1, z2⟩ := Option.map_eq_some_iff.mp h4
          cases z2
          obtain ⟨l, rfl, _, _, q4⟩ := q3
          exact hz l c d ⟨j, c, h1, h2, q1⟩ q4 z1
      | rf i =>
        have h4 : passR δ1 i m = some (E.va d) := h3
        have h5 : δ1[i]? = some (E.va d) := by
          unfold passR at h4
          cases m with
          | true =>
            simp only at h4
            split at h4
            · cases h4
            · rename_i d' q
              cases h4
              exact q
            · cases h4
          | false =>
            simp only at h4
            split at h4
            · rename_i d' q
              cases h4
              exact q
            · cases h4
        obtain ⟨v', p1, p2⟩ := L2'.va i d h5
        rw [show σ[i]? = some (some v) from q3] at p1
        cases p1
        exact p2
    · rcases own j c e with ⟨_, l, h1, _, h3, h4⟩ | ⟨i, l, h1, h2, h3, h4, h5, h6⟩
      · exact ⟨l, by rw [List.getElem?_map, h1]; rfl, h3, h4⟩
      · exact ⟨l, by rw [List.getElem?_map, h4]; rfl, h5, h6⟩
    · rw [List.getElem?_map] at q q'
      rcases own j c e with ⟨a1, l1, a2, a3, _⟩ | ⟨i, l1, a1, a2, a3, a4, _⟩ <;> rcases own j' c' e' with ⟨b1, l2, b2, b3, _⟩ | ⟨i', l2, b1, b2, b3, b4, _⟩
      · rw [a2] at q
        rw [b2] at q'
        cases q
        cases q'
        exact rr.apart a1 b1 a2 b2
      · rw [a2] at q
        rw [b4] at q'
        cases q
        cases q'
        exact absurd a3 (L.there (le1.ad ⟨i', c', b2, b3⟩))
      · rw [a4] at q
        rw [b2] at q'
        cases q
        cases q'
        exact absurd b3 (L.there (le1.ad ⟨i, c, a2, a3⟩))
      · rw [a4] at q
        rw [b4] at q'
        cases q
        cases q'
        have := L2'.dj i i' l c c' a2 b2 a3 b3
        subst this
        exact rfs_inj nd a1 b1
  refine ⟨lv.trans hn, G2, LA, fun es' H3 G3 L3 f3 le3 => ?_⟩
  have hl3 : rs.length = es'.length := by
    have := L3.len
    rw [List.length_map, lv] at this
    exact this
  have f13 : Fr (Ad σ δ) H G H3 G3 := f2.trans f3 fun a h => (owR a h).elim .inr fun z => .inl (le1.ad z)
  -- a slot that was not handed over keeps its own object
  have apart : ∀ (i : Nat) (c : Cn) (l : Addr), δ1[i]? = some (E.ow c) → σ[i]? = some (some (V.ref l)) → (∀ j : Nat, rs[j]? ≠ some (R.rf i)) → ¬ Ad (vs.map some) es l := fun i c l e q n ⟨j, c', e', q'⟩ => by
    rw [List.getElem?_map] at q'
    rcases own j c' e' with ⟨b1, l2, b2, b3, _⟩ | ⟨i', l2, b1, b2, b3, b4, _⟩
    · rw [b2] at q'
      cases q'
      exact L.there (le1.ad ⟨i, c, e, q⟩) b3
    · rw [b4] at q'
      cases q'
      have := L1.dj i i' l c c' e b2 q b3
      subst this
      exact n j b1
  have sl : ∀ (j i : Nat) (v : V), rs[j]? = some (R.rf i) → (vs.map some)[j]? = some (some v) → σ[i]? = some (some v) := fun j i v e q => by
    obtain ⟨v', p1, p2, p3⟩ := gv j _ e
    rw [p2] at q
    cases q
    exact p3
  refine ⟨⟨by rw [puts_len]; exact L1.len, L3.sub, fun i d e => ?_, fun i c e => ?_, fun i i' l c c' e e' q q' => ?_⟩, f13, (fun i c e => ?_)⟩
  · rcases puts_get hl3 e with ⟨j, h1, h2⟩ | ⟨h1, h2⟩
    · obtain ⟨v, p1, p2⟩ := L3.va j d h2
      exact ⟨v, sl j i v h1 p1, p2⟩
    · obtain ⟨v, p1, p2⟩ := L1.va i d h2
      exact ⟨v, p1, p2.mono (s2.trans f3.sub)⟩
  · rcases puts_get hl3 e with ⟨j, h1, h2⟩ | ⟨h1, h2⟩
    · obtain ⟨l, p1, p2, p3⟩ := L3.ow j c h2
      exact ⟨l, sl j i _ h1 p1, p2, p3⟩
    · obtain ⟨l, p1, p2, p3⟩ := L2'.ow i c h2
      have na := apart i c l h2 p1 h1
      exact ⟨l, p1, (f3.n l na p3.some).trans p2, p3.mono (fun o z => f3.h l o na z) f3.sub⟩
  · rcases puts_get hl3 e with ⟨j, h1, h2⟩ | ⟨h1, h2⟩ <;> rcases puts_get hl3 e' with ⟨j', h1', h2'⟩ | ⟨h1', h2'⟩
    · have a1 : (vs.map some)[j]? = some (some (V.ref l)) := by
        obtain ⟨l', p1, _⟩ := L3.ow j c h2
        have := sl j i _ h1 p1
        rw [q] at this
        cases this
        exact p1
      have a2 : (vs.map some)[j']? = some (some (V.ref l)) := by
        obtain ⟨l', p1, _⟩ := L3.ow j' c' h2'
        have := sl j' i' _ h1' p1
        rw [q'] at this
        cases this
        exact p1
      have := L3.dj j j' l c c' h2 h2' a1 a2
      subst this
      rw [h1] at h1'
      cases h1'
      rfl
    · obtain ⟨l', p1, _⟩ := L3.ow j c h2
      have := sl j i _ h1 p1
      rw [q] at this
      cases this
      obtain ⟨c2, h3⟩ := le3 j c h2
      exact absurd ⟨j, c2, h3, p1⟩ (apart i' c' l h2' q' h1')
    · obtain ⟨l', p1, _⟩ := L3.ow j' c' h2'
      have := sl j' i' _ h1' p1
      rw [q'] at this
      cases this
      obtain ⟨c2, h3⟩ := le3 j' c' h2'
      exact absurd ⟨j', c2, h3, p1⟩ (apart i c l h2 q h1)
    · exact L1.dj i i' l c c' h2 h2' q q'
  · rcases puts_get hl3 e with ⟨j, h1, h2⟩ | ⟨h1, h2⟩
    · obtain ⟨c2, h3⟩ := le3 j c h2
      rcases own j c2 h3 with ⟨b1, _⟩ | ⟨i', l2, b1, b2, _⟩
      · rw [h1] at b1
        cases b1
      · rw [h1] at b1
        cases b1
        exact le1 i c2 b2
    · exact le1 i c h2
theorem call_core {sp : DSp} {ms : List Bool} {n : Nat} {σ : L2.St} {H G H1 G1 : Hp} {δ δ1 : En} {rs : List R} {vs : List V} {es : En} {Q : VK} {W : XK} {Q3 : R → En → Prop} (L : Rel K σ H G δ) (L1 : Rel K σ H1 G1 δ1) (f1 : Fr (Ad σ δ) H G H1 G1) (le1 : Le δ1 δ)
    (rr : RRs K σ H H1 G1 rs vs) (nd : (rfs rs).Nodup) (hn : rs.length = n) (he : passes δ1 rs ms = some es) (hs : sp es Q3)
    (k : ∀ r es' v H' G', Rel K σ H' G' (puts δ1 rs es') → Fr (Ad σ δ) H G H' G' → Le (puts δ1 rs es') δ → RR K σ H H' G' r v → Rel K (vs.map some) H' G' es' → Q3 r es' → Q v H') : up K n sp vs H1 Q W := by
  obtain ⟨h1, G2, LA, h2⟩ := call_coreG L L1 f1 le1 rr nd hn he
  refine ⟨h1, G2, es, _, LA, hs, fun r es' v H3 G3 L3 f3 le3 rr3 nr q3 => ?_⟩
  obtain ⟨a1, a2, a3⟩ := h2 es' H3 G3 L3 f3 le3
  exact k r es' v H3 G3 a1 a2 a3 (rr3.grow nr fun a h => f1.free h) L3 q3
def tcall (sp : DSp) (ms : List Bool) (TA : DTA) : DT := fun δ Q => TA δ fun rs δ1 => (rfs rs).Nodup ∧ ∃ es, passes δ1 rs ms = some es ∧ sp es fun r es' => Q r (puts δ1 rs es')
theorem passes_len {δ : En} : ∀ {rs : List R} {ms : List Bool} {es : En}, passes δ rs ms = some es → rs.length = ms.length
  | [], [], _, _ => rfl
  | r :: rs, m :: ms, _, h => by
    obtain ⟨e, h1, h2⟩ := Option.bind_eq_some_iff.mp h
    obtain ⟨es, h3, rfl⟩ := Option.map_eq_some_iff.mp h2
    rw [List.length_cons, List.length_cons, passes_len h3]
  | [], _ :: _, _, h => by cases h
  | _ :: _, [], _, h => by cases h
theorem snd_call {sp : DSp} {ms : List Bool} {t : TA} {T : DTA} {n : Nat} {W : XK} (hn : ms.length = n) (a : SndA K t T) : Snd K (tCall (up K n sp) [] W t) (tcall sp ms T) := fun σ H G δ Q Q3 L h k => by
  refine a σ H G δ _ _ L h fun rs δ1 vs H1 G1 L1 f1 le1 rr q1 => ?_
  obtain ⟨nd, es, he, hs⟩ := q1
  rw [List.append_nil]
  exact call_core L L1 f1 le1 rr nd ((passes_len he).trans hn) he hs fun r es' v H' G' l f le r _ q => k _ _ v H' G' l f le r q
/-- o.m(..) -/
def tmeth (cn m : Str) (sp : DSp) (ms : List Bool) (T : DT) (TA : DTA) : DT := fun δ Q => T δ fun r δ0 => ∃ ns ds, r.dat δ0 = some (.obj cn ns ds) ∧ (ns.zip ds).lookup m = none ∧ TA δ0 fun rs δ1 =>
  (rfs (r :: rs)).Nodup ∧ ∃ es, passes δ1 (r :: rs) ms = some es ∧ sp es fun r' es' => Q r' (puts δ1 (r :: rs) es')
theorem zip_none {α β : Type} {m : Str} : ∀ {ns : List Str} {xs : List α} {ys : List β}, xs.length = ys.length → (ns.zip xs).lookup m = none → (ns.zip ys).lookup m = none
  | [], _, _, _, _ => by rw [List.zip_nil_left]; rfl
  | n :: ns, [], [], _, _ => by rw [List.zip_nil_right]; rfl
  | n :: ns, x :: xs, y :: ys, l, h => by
    rw [List.zip_cons_cons, List.lookup_cons] at h ⊢
    cases e : (m == n) with
    | true =>
      rw [e] at h
      cases h
    | false =>
      rw [e] at h
      exact zip_none (by simpa using l) h
  | n :: ns, [], _ :: _, l, _ => by cases l
  | n :: ns, _ :: _, [], l, _ => by cases l
theorem snd_meth {cn m : Str} {sp : DSp} {ms : List Bool} {t : TE} {T : DT} {u : TA} {U : DTA} {n : Nat} {W : XK} (hn : ms.length = n) (a : Snd K t T) (b : SndA K u U) :
    Snd K (tMeth (He.ga K cn) m (up K n sp) [] W t u) (tmeth cn m sp ms T U) := fun σ H G δ Q Q3 L h k => by
  refine a σ H G δ _ _ L h fun r δ0 v H0 G0 L0 f0 le0 rr0 q0 => ?_
  obtain ⟨ns, ds, ed, el, q0⟩ := q0
  obtain ⟨x, dx, vs, rfl, h1, h2, h3⟩ := sh_of L0 rr0 ed
  refine ⟨x, dx, _, rfl, h1, zip_none (h3.length.symm) el, ?_⟩
  refine b σ H0 G0 δ0 _ _ L0 q0 fun rs δ1 vs H1 G1 L1 f1 le1 rr q1 => ?_
  obtain ⟨nd, es, he, hs⟩ := q1
  rw [List.append_nil]
  have f01 : Fr (Ad σ δ) H G H1 G1 := f0.trans f1 fun a h => .inl (le0.ad h)
  refine call_core L L1 f01 (le1.trans le0) (.cons (rr0.on L f0 le0 f1) (rr.base fun a h => f0.free h) fun c e j c' e' e2 => ?_) nd ((passes_len he).trans hn) he hs fun r es' v H' G' l f le r _ q => k _ _ v H' G' l f le r q
  subst e
  obtain ⟨l, e3, n, g, hc⟩ := rr0
  obtain ⟨v', h4, l', h5, n', _⟩ := rr.get e'
  rw [e2] at h4
  cases h4
  cases e3
  cases h5
  exact hc.some n'
/-- C(..): sp is __init__'s promise, its first slot the new instance -/
def tmake (cn : Str) (sp : DSp) (ms : List Bool) (TA : DTA) : DT := fun δ Q => TA δ fun rs δ1 => (rfs rs).Nodup ∧ ∃ es, passes δ1 (.fr (.o cn []) :: rs) (true :: ms) = some es ∧
  sp es fun r es' => r = .va .non ∧ ∃ cn' fs es'', es' = .ow (.o cn' fs) :: es'' ∧ Q (.fr (.o cn' fs)) (puts δ1 rs es'')
theorem snd_make {cn : Str} {sp : DSp} {ms : List Bool} {t : TA} {T : DTA} {n : Nat} {W : XK} (hn : ms.length + 1 = n) (a : SndA K t T) : Snd K (tMake (He.ga K cn) (up K n sp) [] W t) (tmake cn sp ms T) := fun σ H G δ Q Q3 L h k => by
  refine a σ H G δ _ _ L h fun rs δ1 vs H1 G1 L1 f1 le1 rr q1 => ?_
  obtain ⟨nd, es, he, hs⟩ := q1
  intro x dx nx ndx ne
  rw [List.append_nil]
  obtain ⟨f2, s2⟩ := gr_new (G := G1) (o := .own x) L1.sub ndx
  have nx2 : (upd H1 dx (.own x)) x = none := by rw [upd_ne ne.symm]; exact nx
  obtain ⟨f3, s3⟩ := gr_new (G := G1) (o := .ins (He.ga K cn) dx []) s2 nx2
  have f23 : Gr H1 G1 (upd (upd H1 dx (.own x)) x (.ins (He.ga K cn) dx [])) G1 := f2.trans f3 fun _ z => z.elim
  have L2 := L1.grow f23 s3
  have f12 : Fr (Ad σ δ) H G (upd (upd H1 dx (.own x)) x (.ins (He.ga K cn) dx [])) G1 := f1.trans f23 fun _ z => z.elim
  have hx : H x = none := f1.free nx
  have rr2 : RRs K σ H (upd (upd H1 dx (.own x)) x (.ins (He.ga K cn) dx [])) G1 rs vs := by
    have key : ∀ {rs : List R} {vs : List V}, RRs K σ H H1 G1 rs vs → RRs K σ H (upd (upd H1 dx (.own x)) x (.ins (He.ga K cn) dx [])) G1 rs vs := by
      intro rs vs h
      induction h with
      | nil => exact .nil
      | cons a b c ih => exact .cons (a.on L f1 le1 (f23.fr (A := Ad σ δ1))) ih c
    exact key rr
  refine call_core (rs := .fr (.o cn []) :: rs) (vs := .ref x :: vs) L L2 f12 le1 (.cons ⟨x, rfl, hx, g_none L1.sub nx, dx, [], upd_same, .nil⟩ rr2 fun c _ j c' e' e2 => ?_) nd ((passes_len he).trans (by rw [List.length_cons]; exact hn)) he hs fun r es' v H' G' L' f' le' rr' LA q => ?_
  · obtain ⟨v', h4, l', h5, n', g', hc'⟩ := rr.get e'
    rw [e2] at h4
    cases h4
    cases h5
    exact absurd nx hc'.some
  · obtain ⟨rfl, cn', fs, es'', rfl, q⟩ := q
    have ev : v = .non := by
      cases (show At K G' v .non from rr')
      rfl
    subst ev
    refine ⟨rfl, ?_⟩
    obtain ⟨l, e1, e2, e3⟩ := LA.ow 0 _ rfl
    have el : x = l := by
      have e4 : (some (some (V.ref x)) : Option (Option V)) = some (some (V.ref l)) := e1
      cases e4
      rfl
    subst el
    exact k (.fr (.o cn' fs)) (puts δ1 rs es'') (.ref x) H' G' L' f' le' ⟨x, rfl, hx, e2, e3⟩ q
theorem zip_some {G : Hp} {f : Str} {d : D} : ∀ {ns : List Str} {vs : List V} {ds : List D}, AtL K G vs ds → (ns.zip ds).lookup f = some d → ∃ v, (ns.zip vs).lookup f = some v ∧ At K G v d
  | [], _, _, _, h => by
    rw [List.zip_nil_left] at h
    cases h
  | n :: ns, _, _, .nil, h => by
    rw [List.zip_nil_right] at h
    cases h
  | n :: ns, v :: vs, d' :: ds, .cons a t, h => by
    rw [List.zip_cons_cons, List.lookup_cons] at h ⊢
    cases e : (f == n) with
    | true =>
      rw [e] at h
      cases h
      exact ⟨v, rfl, a⟩
    | false =>
      rw [e] at h
      exact zip_some t h
def tfldc (cn f : Str) (T : DT) : DT := fun δ Q => T δ fun r δ1 => ∃ ns ds d, r.dat δ1 = some (.obj cn ns ds) ∧ (ns.zip ds).lookup f = some d ∧ Q (.va d) δ1
theorem snd_fld {cn f : Str} {t : TE} {T : DT} (c : Cls K (He.ga K cn)) (n : NoAttr K (He.ga K cn) f) (a : Snd K t T) : Snd K (tFld K t f) (tfldc cn f T) := fun σ H G δ Q Q3 L h k => by
  refine a σ H G δ _ _ L h fun r δ1 v H1 G1 L1 f1 le1 rr q1 => ?_
  obtain ⟨ns, ds, d, ed, el, q⟩ := q1
  obtain ⟨x, dx, vs, rfl, h1, h2, h3⟩ := sh_of L1 rr ed
  obtain ⟨v, e1, e2⟩ := zip_some h3 el
  exact ⟨x, _, dx, _, v, rfl, h1, c, n, e1, k (.va d) δ1 v H1 G1 L1 f1 le1 e2 q⟩
end
end L3
namespace L3
open PySem PySem.Spec PyProof.Rows L2
/-- a def's entry: where its owned arguments stand, the heap there -/
structure FE where
  P : Nat → Addr → Prop
  HE : Hp
  GE : Hp
structure S3 (K : PySem.W.Frag) (F : FE) (σ : L2.St) (H G : Hp) (δ : En) : Prop where
  L : Rel K σ H G δ
  f : Fr (fun a => ∃ j, F.P j a) F.HE F.GE H G
  own : ∀ (j : Nat) (c : Cn) (l : Addr), δ[j]? = some (E.ow c) → σ[j]? = some (some (V.ref l)) → F.P j l ∨ F.HE l = none
  par : ∀ (j : Nat) (l : Addr), F.P j l → σ[j]? = some (some (V.ref l))
structure Nxt (K : PySem.W.Frag) (F : FE) (as : List Nat) (σ : L2.St) (H G : Hp) (δ : En) (σ' : L2.St) (H' G' : Hp) (δ' : En) : Prop where
  s : S3 K F σ' H' G' δ'
  f : Fr (Ad σ δ) H G H' G'
  ow : ∀ l, Ad σ' δ' l → Ad σ δ l ∨ H l = none
  st : ∀ i : Nat, i ∉ as → σ'[i]? = σ[i]?
  ln : σ'.length = σ.length
section
variable {K : PySem.W.Frag} {F : FE} {as bs : List Nat} {σ σ1 σ2 : L2.St} {H G H1 G1 H2 G2 : Hp} {δ δ1 δ2 : En}
theorem Nxt.refl (s : S3 K F σ H G δ) : Nxt K F as σ H G δ σ H G δ := ⟨s, .refl, fun _ h => .inl h, fun _ _ => rfl, rfl⟩
theorem Nxt.trans (x : Nxt K F as σ H G δ σ1 H1 G1 δ1) (y : Nxt K F bs σ1 H1 G1 δ1 σ2 H2 G2 δ2) : Nxt K F (as ++ bs) σ H G δ σ2 H2 G2 δ2 where
  s := y.s
  f := x.f.trans y.f x.ow
  ow := fun l h => (y.ow l h).elim (x.ow l) fun z => .inr (x.f.free z)
  st := fun i h => (y.st i fun z => h (List.mem_append_right _ z)).trans (x.st i fun z => h (List.mem_append_left _ z))
  ln := y.ln.trans x.ln
theorem Nxt.mono (x : Nxt K F as σ H G δ σ1 H1 G1 δ1) (h : ∀ i, i ∈ as → i ∈ bs) : Nxt K F bs σ H G δ σ1 H1 G1 δ1 := ⟨x.s, x.f, x.ow, fun i n => x.st i fun z => n (h i z), x.ln⟩
/-- behind an expression -/
theorem S3.step (s : S3 K F σ H G δ) (L : Rel K σ H1 G1 δ1) (f : Fr (Ad σ δ) H G H1 G1) (le : Le δ1 δ) : S3 K F σ H1 G1 δ1 where
  L := L
  f := s.f.trans f fun a ⟨j, c, e, q⟩ => (s.own j c a e q).elim (fun z => .inl ⟨j, z⟩) .inr
  own := fun j c l e q => by
    obtain ⟨c', e'⟩ := le j c e
    exact s.own j c' l e' q
  par := s.par
theorem Nxt.step (s : S3 K F σ H G δ) (L : Rel K σ H1 G1 δ1) (f : Fr (Ad σ δ) H G H1 G1) (le : Le δ1 δ) : Nxt K F as σ H G δ σ H1 G1 δ1 := ⟨s.step L f le, f, fun l h => .inl (le.ad h), fun _ _ => rfl, rfl⟩
end
/-- what is wanted behind a statement -/
structure DE where
  nx : En → Prop
  rt : R → En → Prop
  bk : En → Prop := fun _ => False
  ct : En → Prop := fun _ => False
abbrev DS := DE → En → Prop
structure Good (K : PySem.W.Frag) (F : FE) (as : List Nat) (σ : L2.St) (H G : Hp) (δ : En) (D3 : DE) (D : Ends) : Prop where
  nx : ∀ σ' H' G' δ', Nxt K F as σ H G δ σ' H' G' δ' → D3.nx δ' → D.nx σ' H'
  bk : ∀ σ' H' G' δ', Nxt K F as σ H G δ σ' H' G' δ' → D3.bk δ' → D.bk σ' H'
  ct : ∀ σ' H' G' δ', Nxt K F as σ H G δ σ' H' G' δ' → D3.ct δ' → D.ct σ' H'
  rt : ∀ σ' H' G' δ' r v, Nxt K F as σ H G δ σ' H' G' δ' → RR K [] F.HE H' G' r v → (∀ i, r ≠ .rf i) → D3.rt r δ' → D.rt v H'
/-- t is sound for T: a statement that stores the slots as -/
def SndS (K : PySem.W.Frag) (as : List Nat) (t : TS) (T : DS) : Prop := ∀ (F : FE), (∀ i ∈ as, ∀ l, ¬ F.P i l) → ∀ (σ : L2.St) (H G : Hp) (δ : En) (D3 : DE) (D : Ends), S3 K F σ H G δ → T D3 δ → Good K F as σ H G δ D3 D → t D σ H
section
variable {K : PySem.W.Frag}
theorem Good.from {F : FE} {as bs cs : List Nat} {σ σ1 : L2.St} {H G H1 G1 : Hp} {δ δ1 : En} {D3 : DE} {D : Ends} (g : Good K F cs σ H G δ D3 D) (n : Nxt K F as σ H G δ σ1 H1 G1 δ1) (h : ∀ i, i ∈ as ++ bs → i ∈ cs) : Good K F bs σ1 H1 G1 δ1 D3 D :=
  ⟨fun _ _ _ _ m q => g.nx _ _ _ _ ((n.trans m).mono h) q, fun _ _ _ _ m q => g.bk _ _ _ _ ((n.trans m).mono h) q, fun _ _ _ _ m q => g.ct _ _ _ _ ((n.trans m).mono h) q, fun _ _ _ _ _ _ m rr nr q => g.rt _ _ _ _ _ _ ((n.trans m).mono h) rr nr q⟩
def seq (T U : DS) : DS := fun D δ => T { D with nx := U D } δ
def snext : DS := fun D δ => D.nx δ
theorem snds_next : SndS K [] tNext snext := fun F hp σ H G δ D3 D s h g => g.nx _ _ _ _ (.refl s) h
/-- a way that is not gone -/
def snever : DS := fun _ _ => False
theorem snds_never : SndS K [] tNever snever := fun F hp σ H G δ D3 D s h g => h
def sexpr (T : DT) : DS := fun D δ => T δ fun _ δ1 => D.nx δ1
theorem snds_expr {t : TE} {T : DT} (a : Snd K t T) : SndS K [] (tDrop t) (sexpr T) := fun F hp σ H G δ D3 D s h g =>
  a σ H G δ _ _ s.L h fun r δ1 v H1 G1 L1 f1 le1 rr q => g.nx _ _ _ _ (.step s L1 f1 le1) q
def sif (c : DTT) (T U : DS) : DS := fun D δ => c δ fun b δ1 => if b = true then T D δ1 else U D δ1
/-- what a def hands back: an owned object of its own is new for its caller -/
def outE : Option E → Option R
  | some (.va d) => some (.va d)
  | some (.ow c) => some (.fr c)
  | _ => none
def R.out (δ : En) : R → Option R
  | .va d => some (.va d)
  | .fr c => some (.fr c)
  | .rf i => outE δ[i]?
/-- e is no owned argument -/
def sret (ps : List Nat) (T : DT) : DS := fun D δ => T δ fun r δ1 => ∃ r', r.out δ1 = some r' ∧ (∀ i, r = .rf i → i ∉ ps) ∧ D.rt r' δ1
theorem rr_base0 {σ : L2.St} {HE H0 H G : Hp} {r : R} {v : V} (nr : ∀ i, r ≠ .rf i) (h : RR K σ H0 H G r v) (k : ∀ a, H0 a = none → HE a = none) : RR K [] HE H G r v := by
  cases r with
  | va d => exact h
  | fr c =>
    obtain ⟨l, e, n, g, q⟩ := h
    exact ⟨l, e, k l n, g, q⟩
  | rf i => exact absurd rfl (nr i)
def SndSP (K : PySem.W.Frag) (ps as : List Nat) (t : TS) (T : DS) : Prop := ∀ (F : FE), (∀ i l, F.P i l → i ∈ ps) → (∀ i ∈ as, ∀ l, ¬ F.P i l) → ∀ (σ : L2.St) (H G : Hp) (δ : En) (D3 : DE) (D : Ends), S3 K F σ H G δ → T D3 δ → Good K F as σ H G δ D3 D → t D σ H
theorem rr_out {σ : L2.St} {HE H0 H G : Hp} {δ : En} {r r' : R} {v : V} (L : Rel K σ H G δ) (rr : RR K σ H0 H G r v) (k : ∀ a, H0 a = none → HE a = none) (e : r.out δ = some r') (own : ∀ i c l, r = .rf i → δ[i]? = some (E.ow c) → σ[i]? = some (some (V.ref l)) → HE l = none) : RR K [] HE H G r' v ∧ ∀ i, r' ≠ .rf i := by
  cases r with
  | va d =>
    cases e
    exact ⟨rr, fun i z => nomatch z⟩
  | fr c =>
    cases e
    exact ⟨rr_base0 (fun i z => nomatch z) rr k, fun i z => nomatch z⟩
  | rf i =>
    have e2 : outE δ[i]? = some r' := e
    unfold outE at e2
    split at e2
    · rename_i d q
      cases e2
      obtain ⟨v', h1, h2⟩ := L.va i _ q
      rw [show σ[i]? = some (some v) from rr] at h1
      cases h1
      exact ⟨h2, fun i z => nomatch z⟩
    · rename_i c q
      cases e2
      obtain ⟨l, h1, h2, h3⟩ := L.ow i _ q
      rw [show σ[i]? = some (some v) from rr] at h1
      cases h1
      exact ⟨⟨l, rfl, own i c l rfl q rr, h2, h3⟩, fun i z => nomatch z⟩
    · cases e2
theorem snds_ret {t : TE} {T : DT} {ps : List Nat} (a : Snd K t T) : SndSP K ps [] (tRet t) (sret ps T) := fun F hps hp σ H G δ D3 D s h g => by
  refine a σ H G δ _ _ s.L h fun r δ1 v H1 G1 L1 f1 le1 rr q => ?_
  obtain ⟨r', e, np, q⟩ := q
  have n : Nxt K F [] σ H G δ σ H1 G1 δ1 := .step s L1 f1 le1
  obtain ⟨h1, h2⟩ := rr_out L1 rr (fun a z => s.f.free z) e fun i c l e1 e2 e3 => (n.s.own i c l e2 e3).elim (fun z => absurd (hps i l z) (np i e1)) id
  exact g.rt _ _ _ _ _ _ n h1 h2 q
theorem SndS.p {ps as : List Nat} {t : TS} {T : DS} (a : SndS K as t T) : SndSP K ps as t T := fun F _ hp => a F hp
theorem sndp_seq {ps as bs : List Nat} {t u : TS} {T U : DS} (a : SndSP K ps as t T) (b : SndSP K ps bs u U) : SndSP K ps (as ++ bs) (tSeq t u) (seq T U) := fun F hps hp σ H G δ D3 D s h g => by
  refine a F hps (fun i hi => hp i (List.mem_append_left _ hi)) σ H G δ _ _ s h ⟨fun σ' H' G' δ' n q => ?_, fun σ' H' G' δ' n q => ?_, fun σ' H' G' δ' n q => ?_, fun σ' H' G' δ' r v n rr nr q => ?_⟩
  · exact b F hps (fun i hi => hp i (List.mem_append_right _ hi)) σ' H' G' δ' _ _ n.s q (g.from n fun _ z => z)
  · exact g.bk _ _ _ _ (n.mono fun _ z => List.mem_append_left _ z) q
  · exact g.ct _ _ _ _ (n.mono fun _ z => List.mem_append_left _ z) q
  · exact g.rt _ _ _ _ _ _ (n.mono fun _ z => List.mem_append_left _ z) rr nr q
theorem sndp_if {ps as bs : List Nat} {c : TT} {t u : TS} {C : DTT} {T U : DS} (hc : SndT K c C) (a : SndSP K ps as t T) (b : SndSP K ps bs u U) : SndSP K ps (as ++ bs) (tIfS c t u) (sif C T U) := fun F hps hp σ H G δ D3 D s h g => by
  refine hc σ H G δ _ _ s.L h fun k δ1 H1 G1 L1 f1 le1 q => ?_
  have n : Nxt K F [] σ H G δ σ H1 G1 δ1 := .step s L1 f1 le1
  cases k with
  | true => exact a F hps (fun i hi => hp i (List.mem_append_left _ hi)) σ H1 G1 δ1 _ _ n.s q (g.from n fun _ z => List.mem_append_left _ z)
  | false => exact b F hps (fun i hi => hp i (List.mem_append_right _ hi)) σ H1 G1 δ1 _ _ n.s q (g.from n fun _ z => List.mem_append_right _ z)
theorem set_get {α : Type} {xs : List α} {i j : Nat} {x y : α} (h : (xs.set i x)[j]? = some y) : (i = j ∧ x = y ∧ i < xs.length) ∨ (i ≠ j ∧ xs[j]? = some y) := by
  by_cases z : i = j
  · subst z
    have hi : i < xs.length := by
      have := (List.getElem?_eq_some_iff.mp h).1
      rw [List.length_set] at this
      exact this
    rw [List.getElem?_set_self hi] at h
    cases h
    exact .inl ⟨rfl, rfl, hi⟩
  · rw [List.getElem?_set_ne z] at h
    exact .inr ⟨z, h⟩
theorem Rel.setV {σ : L2.St} {H G : Hp} {δ : En} {i : Nat} {v : V} {d : D} (L : Rel K σ H G δ) (h : At K G v d) : Rel K (σ.set i (some v)) H G (δ.set i (.va d)) where
  len := by rw [List.length_set, List.length_set]; exact L.len
  sub := L.sub
  va := fun j d' e => by
    rcases set_get e with ⟨rfl, e2, hi⟩ | ⟨ne, e2⟩
    · cases e2
      exact ⟨v, List.getElem?_set_self (by rw [L.len]; exact hi), h⟩
    · obtain ⟨v', h1, h2⟩ := L.va j d' e2
      exact ⟨v', by rw [List.getElem?_set_ne ne]; exact h1, h2⟩
  ow := fun j c e => by
    rcases set_get e with ⟨rfl, e2, hi⟩ | ⟨ne, e2⟩
    · cases e2
    · obtain ⟨l, h1, h2, h3⟩ := L.ow j c e2
      exact ⟨l, by rw [List.getElem?_set_ne ne]; exact h1, h2, h3⟩
  dj := fun j k l c c' e e' q q' => by
    rcases set_get e with ⟨rfl, e2, hi⟩ | ⟨ne, e2⟩
    · cases e2
    · rcases set_get e' with ⟨rfl, e3, hi⟩ | ⟨ne', e3⟩
      · cases e3
      · rw [List.getElem?_set_ne ne] at q
        rw [List.getElem?_set_ne ne'] at q'
        exact L.dj j k l c c' e2 e3 q q'
theorem Rel.setO {σ : L2.St} {H G : Hp} {δ : En} {i : Nat} {l : Addr} {c : Cn} (L : Rel K σ H G δ) (g : G l = none) (h : AtC K H G l c) (n : ¬ Ad σ δ l) : Rel K (σ.set i (some (.ref l))) H G (δ.set i (.ow c)) where
  len := by rw [List.length_set, List.length_set]; exact L.len
  sub := L.sub
  va := fun j d' e => by
    rcases set_get e with ⟨rfl, e2, hi⟩ | ⟨ne, e2⟩
    · cases e2
    · obtain ⟨v', h1, h2⟩ := L.va j d' e2
      exact ⟨v', by rw [List.getElem?_set_ne ne]; exact h1, h2⟩
  ow := fun j c' e => by
    rcases set_get e with ⟨rfl, e2, hi⟩ | ⟨ne, e2⟩
    · cases e2
      exact ⟨l, List.getElem?_set_self (by rw [L.len]; exact hi), g, h⟩
    · obtain ⟨l, h1, h2, h3⟩ := L.ow j c' e2
      exact ⟨l, by rw [List.getElem?_set_ne ne]; exact h1, h2, h3⟩
  dj := fun j k l' c' c'' e e' q q' => by
    rcases set_get e with ⟨rfl, e2, hi⟩ | ⟨ne, e2⟩
    · rcases set_get e' with ⟨rfl, e3, hi'⟩ | ⟨ne', e3⟩
      · rfl
      · rw [List.getElem?_set_self (by rw [L.len]; exact hi)] at q
        rw [List.getElem?_set_ne ne'] at q'
        cases q
        exact absurd ⟨k, c'', e3, q'⟩ n
    · rcases set_get e' with ⟨rfl, e3, hi'⟩ | ⟨ne', e3⟩
      · rw [List.getElem?_set_self (by rw [L.len]; exact hi')] at q'
        rw [List.getElem?_set_ne ne] at q
        cases q'
        exact absurd ⟨j, c', e2, q⟩ n
      · rw [List.getElem?_set_ne ne] at q
        rw [List.getElem?_set_ne ne'] at q'
        exact L.dj j k l' c' c'' e2 e3 q q'
theorem Rel.setN {σ : L2.St} {H G : Hp} {δ : En} {i : Nat} {v : Option V} (L : Rel K σ H G δ) : Rel K (σ.set i v) H G (δ.set i .no) where
  len := by rw [List.length_set, List.length_set]; exact L.len
  sub := L.sub
  va := fun j d' e => by
    rcases set_get e with ⟨rfl, e2, hi⟩ | ⟨ne, e2⟩
    · cases e2
    · obtain ⟨v', h1, h2⟩ := L.va j d' e2
      exact ⟨v', by rw [List.getElem?_set_ne ne]; exact h1, h2⟩
  ow := fun j c' e => by
    rcases set_get e with ⟨rfl, e2, hi⟩ | ⟨ne, e2⟩
    · cases e2
    · obtain ⟨l, h1, h2, h3⟩ := L.ow j c' e2
      exact ⟨l, by rw [List.getElem?_set_ne ne]; exact h1, h2, h3⟩
  dj := fun j k l c c' e e' q q' => by
    rcases set_get e with ⟨rfl, e2, hi⟩ | ⟨ne, e2⟩
    · cases e2
    · rcases set_get e' with ⟨rfl, e3, hi⟩ | ⟨ne', e3⟩
      · cases e3
      · rw [List.getElem?_set_ne ne] at q
        rw [List.getElem?_set_ne ne'] at q'
        exact L.dj j k l c c' e2 e3 q q'
/-- an owned object's new content -/
theorem Rel.setC {σ : L2.St} {H G H' : Hp} {δ : En} {i : Nat} {l : Addr} {c c' : Cn} (L : Rel K σ H G δ) (e : δ[i]? = some (E.ow c)) (q : σ[i]? = some (some (V.ref l))) (k : ∀ a o, a ≠ l → H a = some o → H' a = some o) (h : AtC K H' G l c') : Rel K σ H' G (δ.set i (.ow c')) where
  len := by rw [List.length_set]; exact L.len
  sub := fun a o g => by
    have : a ≠ l := fun z => by
      subst z
      rw [L.gnone ⟨i, c, e, q⟩] at g
      cases g
    exact k a o this (L.sub a o g)
  va := fun j d' e => by
    rcases set_get e with ⟨rfl, e2, hi⟩ | ⟨ne, e2⟩
    · cases e2
    · exact L.va j d' e2
  ow := fun j c2 e' => by
    rcases set_get e' with ⟨rfl, e2, hi⟩ | ⟨ne, e2⟩
    · cases e2
      exact ⟨l, q, L.gnone ⟨i, c, e, q⟩, h⟩
    · obtain ⟨l2, h1, h2, h3⟩ := L.ow j c2 e2
      have nl : l2 ≠ l := fun z => ne (L.dj i j l c c2 e e2 q (by rw [← z]; exact h1))
      exact ⟨l2, h1, h2, h3.mono (fun o z => k l2 o nl z) .refl⟩
  dj := fun j k l' c1 c2 e1 e2 q1 q2 => by
    have up : ∀ j c, (δ.set i (.ow c'))[j]? = some (E.ow c) → ∃ c2, δ[j]? = some (E.ow c2) := fun j c2 e3 => by
      rcases set_get e3 with ⟨rfl, e4, hi⟩ | ⟨ne, e4⟩
      · exact ⟨c, e⟩
      · exact ⟨c2, e4⟩
    obtain ⟨_, h1⟩ := up j c1 e1
    obtain ⟨_, h2⟩ := up k c2 e2
    exact L.dj j k l' _ _ h1 h2 q1 q2
theorem Le.set {δ : En} {i : Nat} {c c' : Cn} (e : δ[i]? = some (E.ow c)) : Le (δ.set i (.ow c')) δ := fun j c2 e2 => by
  rcases set_get e2 with ⟨rfl, _, _⟩ | ⟨_, e3⟩
  · exact ⟨c, e⟩
  · exact ⟨c2, e3⟩
theorem Nxt.setV {F : FE} {σ : L2.St} {H G : Hp} {δ : En} {i : Nat} {v : V} {d : D} (s : S3 K F σ H G δ) (hp : ∀ l, ¬ F.P i l) (h : At K G v d) : Nxt K F [i] σ H G δ (σ.set i (some v)) H G (δ.set i (.va d)) where
  s := ⟨s.L.setV h, s.f, fun j c l e q => by
    rcases set_get e with ⟨rfl, e2, hi⟩ | ⟨ne, e2⟩
    · cases e2
    · rw [List.getElem?_set_ne ne] at q
      exact s.own j c l e2 q, fun j l z => by
    have ne : i ≠ j := fun q => hp l (by rw [q]; exact z)
    rw [List.getElem?_set_ne ne]
    exact s.par j l z⟩
  f := .refl
  ow := fun l ⟨j, c, e, q⟩ => by
    rcases set_get e with ⟨rfl, e2, hi⟩ | ⟨ne, e2⟩
    · cases e2
    · rw [List.getElem?_set_ne ne] at q
      exact .inl ⟨j, c, e2, q⟩
  st := fun j n => List.getElem?_set_ne fun z => n (by rw [z]; exact List.mem_cons_self)
  ln := List.length_set
theorem Nxt.setO {F : FE} {σ : L2.St} {H0 G0 H G : Hp} {δ0 δ : En} {i : Nat} {l : Addr} {c : Cn} (s0 : S3 K F σ H0 G0 δ0) (n : Nxt K F [] σ H0 G0 δ0 σ H G δ) (le : Le δ δ0) (hp : ∀ l, ¬ F.P i l) (h0 : H0 l = none) (g : G l = none) (h : AtC K H G l c) :
    Nxt K F [i] σ H0 G0 δ0 (σ.set i (some (.ref l))) H G (δ.set i (.ow c)) where
  s := ⟨n.s.L.setO g h fun z => s0.L.there (le.ad z) h0, n.s.f, fun j c' l' e q => by
    rcases set_get e with ⟨rfl, e2, hi⟩ | ⟨ne, e2⟩
    · rw [List.getElem?_set_self (by rw [n.s.L.len]; exact hi)] at q
      cases q
      exact .inr (s0.f.free h0)
    · rw [List.getElem?_set_ne ne] at q
      exact n.s.own j c' l' e2 q, fun j l z => by
    have ne : i ≠ j := fun q => hp l (by rw [q]; exact z)
    rw [List.getElem?_set_ne ne]
    exact n.s.par j l z⟩
  f := n.f
  ow := fun l' ⟨j, c', e, q⟩ => by
    rcases set_get e with ⟨rfl, e2, hi⟩ | ⟨ne, e2⟩
    · rw [List.getElem?_set_self (by rw [n.s.L.len]; exact hi)] at q
      cases q
      exact .inr h0
    · rw [List.getElem?_set_ne ne] at q
      exact .inl (le.ad ⟨j, c', e2, q⟩)
  st := fun j n => List.getElem?_set_ne fun z => n (by rw [z]; exact List.mem_cons_self)
  ln := List.length_set
/-- x = e: it stands still from now on -/
def sset (i : Nat) (T : DT) : DS := fun D δ => T δ fun r δ1 => ∃ d, r.still δ1 = some d ∧ D.nx (δ1.set i (.va d))
theorem snds_set {i : Nat} {t : TE} {T : DT} (a : Snd K t T) : SndS K [i] (tAsg t (gName i)) (sset i T) := fun F hp σ H G δ D3 D s h g => by
  refine a σ H G δ _ _ s.L h fun r δ1 v H1 G1 L1 f1 le1 rr q => ?_
  obtain ⟨d, e, q⟩ := q
  obtain ⟨G2, L2, f2, s2, h2, _⟩ := settle s.L L1 f1 le1 rr e
  have n : Nxt K F [] σ H G δ σ H1 G2 δ1 := .step s L2 f2 le1
  exact g.nx _ _ _ _ (n.trans (Nxt.setV n.s (hp i List.mem_cons_self) h2)) q
/-- x = e: an object of our own -/
def ssetO (i : Nat) (T : DT) : DS := fun D δ => T δ fun r δ1 => ∃ c, r = .fr c ∧ D.nx (δ1.set i (.ow c))
theorem snds_setO {i : Nat} {t : TE} {T : DT} (a : Snd K t T) : SndS K [i] (tAsg t (gName i)) (ssetO i T) := fun F hp σ H G δ D3 D s h g => by
  refine a σ H G δ _ _ s.L h fun r δ1 v H1 G1 L1 f1 le1 rr q => ?_
  obtain ⟨c, rfl, q⟩ := q
  obtain ⟨l, rfl, n0, g0, hc⟩ := rr
  exact g.nx _ _ _ _ (Nxt.setO s (.step s L1 f1 le1) le1 (hp i List.mem_cons_self) n0 g0 hc) q
end
end L3
namespace L3
open PySem PySem.Spec PyProof.Rows L2
section
variable {K : PySem.W.Frag}
theorem fr_upd {A : Addr → Prop} {H G : Hp} {l : Addr} {o : HO} (h : A l) : Fr A H G (upd H l o) G where
  h := fun a u n e => by
    have : a ≠ l := fun z => n (by rw [z]; exact h)
    rw [upd_ne this]
    exact e
  g := fun _ _ e => e
  n := fun _ _ _ => rfl
  d := fun a e => by
    unfold upd
    split
    · exact fun z => nomatch z
    · exact e
theorem Rel.upC {σ : L2.St} {H G : Hp} {δ : En} {i : Nat} {l : Addr} {c c' : Cn} {o : HO} (L : Rel K σ H G δ) (e : δ[i]? = some (E.ow c)) (q : σ[i]? = some (some (V.ref l))) (h : AtC K (upd H l o) G l c') :
    Rel K σ (upd H l o) G (δ.set i (.ow c')) ∧ Fr (Ad σ δ) H G (upd H l o) G ∧ Le (δ.set i (.ow c')) δ :=
  ⟨L.setC e q (fun a u n g => by rw [upd_ne n]; exact g) h, fr_upd ⟨i, c, e, q⟩, Le.set e⟩
theorem Rel.owl {σ : L2.St} {H G : Hp} {δ : En} {i : Nat} {v : V} {xs : List D} (L : Rel K σ H G δ) (e : δ[i]? = some (E.ow (.l xs))) (q : σ[i]? = some (some v)) : ∃ l vs, v = .ref l ∧ H l = some (.lst vs) ∧ AtL K G vs xs := by
  obtain ⟨l, h1, _, vs, h2, h3⟩ := L.ow i _ e
  rw [q] at h1
  cases h1
  exact ⟨l, vs, rfl, h2, h3⟩
theorem Le.setV {δ : En} (i : Nat) (d : D) : Le (δ.set i (.va d)) δ := fun j c e => by
  rcases set_get e with ⟨_, z, _⟩ | ⟨_, z⟩
  · cases z
  · exact ⟨c, z⟩
abbrev DG := D → En → (En → Prop) → Prop
abbrev DGs := List D → En → (En → Prop) → Prop
def SndG (K : PySem.W.Frag) (as : List Nat) (g : TG) (T : DG) : Prop := ∀ (F : FE), (∀ i ∈ as, ∀ l, ¬ F.P i l) → ∀ (σ : L2.St) (H G : Hp) (δ : En) (v : V) (d : D) (Q : L2.St → Hp → Prop) (Q3 : En → Prop), S3 K F σ H G δ → At K G v d → T d δ Q3 →
  (∀ σ' H' G' δ', Nxt K F as σ H G δ σ' H' G' δ' → Le δ' δ → Q3 δ' → Q σ' H') → g v σ H Q
def SndGs (K : PySem.W.Frag) (as : List Nat) (g : TGs) (T : DGs) : Prop := ∀ (F : FE), (∀ i ∈ as, ∀ l, ¬ F.P i l) → ∀ (σ : L2.St) (H G : Hp) (δ : En) (vs : List V) (ds : List D) (Q : L2.St → Hp → Prop) (Q3 : En → Prop), S3 K F σ H G δ → AtL K G vs ds → T ds δ Q3 →
  (∀ σ' H' G' δ', Nxt K F as σ H G δ σ' H' G' δ' → Le δ' δ → Q3 δ' → Q σ' H') → g vs σ H Q
def dName (i : Nat) : DG := fun d δ Q => Q (δ.set i (.va d))
theorem sndg_name {i : Nat} : SndG K [i] (gName i) (dName i) := fun F hp σ H G δ v d Q Q3 s h q k => k _ _ _ _ (Nxt.setV s (hp i List.mem_cons_self) h) (Le.setV i d) q
def dTup (n : Nat) (T : DGs) : DG := fun d δ Q => ∃ ds, d = .tup ds ∧ ds.length = n ∧ T ds δ Q
theorem sndg_tup {n : Nat} {as : List Nat} {g : TGs} {T : DGs} (a : SndGs K as g T) : SndG K as (gTup K n g) (dTup n T) := fun F hp σ H G δ v d Q Q3 s h q k => by
  obtain ⟨ds, rfl, hl, q⟩ := q
  cases h with
  | tup h t => exact ⟨_, _, rfl, s.L.sub.sqT h, by rw [t.length]; exact hl, a F hp σ H G δ _ ds Q Q3 s t q k⟩
def dNil : DGs := fun ds δ Q => ds = [] ∧ Q δ
def dCons (T : DG) (U : DGs) : DGs := fun ds δ Q => ∃ d r, ds = d :: r ∧ T d δ fun δ1 => U r δ1 Q
theorem sndgs_nil : SndGs K [] gNil dNil := fun F hp σ H G δ vs ds Q Q3 s h q k => by
  obtain ⟨rfl, q⟩ := q
  cases h
  exact ⟨rfl, k _ _ _ _ (.refl s) .refl q⟩
theorem sndgs_cons {as bs : List Nat} {g : TG} {gs : TGs} {T : DG} {U : DGs} (a : SndG K as g T) (b : SndGs K bs gs U) : SndGs K (as ++ bs) (gCons g gs) (dCons T U) := fun F hp σ H G δ vs ds Q Q3 s h q k => by
  obtain ⟨d, r, rfl, q⟩ := q
  cases h with
  | cons h t =>
    refine ⟨_, _, rfl, a F (fun i hi => hp i (List.mem_append_left _ hi)) σ H G δ _ d _ _ s h q fun σ1 H1 G1 δ1 n le q1 => ?_⟩
    exact b F (fun i hi => hp i (List.mem_append_right _ hi)) σ1 H1 G1 δ1 _ r _ _ n.s (t.mono n.f.sub) q1 fun σ2 H2 G2 δ2 n2 le2 q2 => k _ _ _ _ (n.trans n2) (le2.trans le) q2
/-- xs[i] = .. of a list of our own -/
def dSub (To Ti : DT) : DG := fun d δ Q => To δ fun ro δ1 => Ti δ1 fun ri δ2 => ∃ i xs k j, ro = .rf i ∧ δ2[i]? = some (E.ow (.l xs)) ∧ ri = .va (.int k) ∧ ixN xs.length k = some j ∧ Q (δ2.set i (.ow (.l (xs.set j d))))
theorem sndg_sub {to ti : TE} {To Ti : DT} (a : Snd K to To) (b : Snd K ti Ti) : SndG K [] (gSub to ti rSetL) (dSub To Ti) := fun F hp σ H G δ v d Q Q3 s h q k => by
  refine a σ H G δ _ _ s.L q fun ro δ1 vo H1 G1 L1 f1 le1 rr1 q1 => ?_
  refine b σ H1 G1 δ1 _ _ L1 q1 fun ri δ2 vi H2 G2 L2 f2 le2 rr2 q2 => ?_
  obtain ⟨i, xs, m, j, rfl, e, rfl, ej, q⟩ := q2
  obtain ⟨l, vs, rfl, h2, t2⟩ := L2.owl e rr1
  obtain ⟨L3, f3, le3⟩ := L2.upC (o := .lst (vs.set j v)) (c' := .l (xs.set j d)) e rr1 ⟨_, upd_same, t2.set (h.mono (f1.sub.trans f2.sub)) j⟩
  refine ⟨l, vs, m, j, rfl, rr_int rr2, h2, by rw [t2.length]; exact ej, ?_⟩
  have f12 : Fr (Ad σ δ) H G H2 G2 := f1.trans f2 fun a h => .inl (le1.ad h)
  exact k _ _ _ _ (Nxt.step s L3 (f12.trans f3 fun a h => .inl ((le2.trans le1).ad h)) (le3.trans (le2.trans le1))) (le3.trans (le2.trans le1)) q
/-- target = e -/
def sasg (T : DT) (U : DG) : DS := fun D δ => T δ fun r δ1 => ∃ d, r.still δ1 = some d ∧ U d δ1 D.nx
theorem snds_asg {as : List Nat} {t : TE} {g : TG} {T : DT} {U : DG} (a : Snd K t T) (b : SndG K as g U) : SndS K as (tAsg t g) (sasg T U) := fun F hp σ H G δ D3 D s h g => by
  refine a σ H G δ _ _ s.L h fun r δ1 v H1 G1 L1 f1 le1 rr q => ?_
  obtain ⟨d, e, q⟩ := q
  obtain ⟨G2, L2, f2, s2, h2, _⟩ := settle s.L L1 f1 le1 rr e
  have n : Nxt K F [] σ H G δ σ H1 G2 δ1 := .step s L2 f2 le1
  exact b F hp σ H1 G2 δ1 v d _ _ n.s h2 q fun σ' H' G' δ' n2 _ q2 => g.nx _ _ _ _ (n.trans n2) q2
/-- a, b = x, y with plain names; own: true -/
def storeR (δ : En) : Bool → R → Option E
  | true, .fr c => some (.ow c)
  | true, .va d => some (.va d)
  | true, .rf _ => none
  | false, r => (r.still δ).map E.va
def stores (δ : En) : List Nat → List Bool → List R → Option En
  | [], [], [] => some δ
  | i :: is, m :: ms, r :: rs => (storeR δ m r).bind fun e => (stores δ is ms rs).map fun δ' => δ'.set i e
  | _, _, _ => none
/-- i op= e -/
def saug (i : Nat) (F : D → D → (R → Prop) → Prop) (T : DT) : DS := fun D δ => ∃ d0, δ[i]? = some (E.va d0) ∧ T δ fun r δ1 => ∃ e, r.dat δ1 = some e ∧ F d0 e fun r' => ∃ d', r' = .va d' ∧ D.nx (δ1.set i (.va d'))
theorem snds_aug {i : Nat} {ti : TIp} {te : TE} {T : DT} {F : D → D → (R → Prop) → Prop} (hr : Snd2 K ti F) (a : Snd K te T) : SndS K [i] (tAug i te ti) (saug i F T) := fun F hp σ H G δ D3 D s h g => by
  obtain ⟨d0, e0, h⟩ := h
  obtain ⟨x, h1, h2⟩ := s.L.va i d0 e0
  refine ⟨x, h1, ?_⟩
  refine a σ H G δ _ _ s.L h fun r δ1 v H1 G1 L1 f1 le1 rr q => ?_
  obtain ⟨e, ee, hF⟩ := q
  refine hr H1 G1 x v d0 e _ _ L1.sub (Sh.of L1.sub (h2.mono f1.sub)) (sh_of L1 rr ee) hF fun r' z H3 G3 f3 s3 rz nr q3 => ?_
  obtain ⟨d', rfl, q3⟩ := q3
  have n : Nxt K F [] σ H G δ σ H3 G3 δ1 := .step s (L1.grow f3 s3) (f1.trans f3 fun _ z => z.elim) le1
  exact g.nx _ _ _ _ (n.trans (Nxt.setV n.s (hp i List.mem_cons_self) rz)) q3
theorem ty_lst {H : Hp} {l : Addr} {vs : List V} (h : H l = some (.lst vs)) : tyV K "list" (.ref l) H := .inl ⟨rfl, _, SqL.of h⟩
/-- xs.m(..) of a list of our own: f tells the new content and the result -/
def tlm (f : List D → List D → (D → List D → Prop) → Prop) (To : DT) (TA : DTA) : DT := fun δ Q => To δ fun ro δ1 => ∃ i xs0, ro = .rf i ∧ δ1[i]? = some (E.ow (.l xs0)) ∧ TA δ1 fun rs δ2 => ∃ xs ds, δ2[i]? = some (E.ow (.l xs)) ∧ stills δ2 rs = some ds ∧
  f xs ds fun d ys => Q (.va d) (δ2.set i (.ow (.l ys)))
def SndM (K : PySem.W.Frag) (r : V → List V → Hp → VK → Prop) (f : List D → List D → (D → List D → Prop) → Prop) : Prop := ∀ (H G : Hp) (l : Addr) (vs us : List V) (xs ds : List D) (Q : VK) (Q3 : D → List D → Prop), Sub G H → H l = some (.lst vs) → AtL K G vs xs → AtL K G us ds → f xs ds Q3 →
  (∀ d ys v ws, At K G v d → AtL K G ws ys → Q3 d ys → Q v (upd H l (.lst ws))) → r (.ref l) us H Q
theorem snd_lm {r : V → List V → Hp → VK → Prop} {f : List D → List D → (D → List D → Prop) → Prop} {to : TE} {t : TA} {To : DT} {T : DTA} (hr : SndM K r f) (a : Snd K to To) (b : SndA K t T) : Snd K (tBM K "list" r to t) (tlm f To T) := fun σ H G δ Q Q3 L h k => by
  refine a σ H G δ _ _ L h fun ro δ1 v H1 G1 L1 f1 le1 rr q => ?_
  obtain ⟨i, xs0, rfl, e0, q⟩ := q
  obtain ⟨l, vs0, rfl, g0, _⟩ := L1.owl e0 rr
  refine ⟨ty_lst g0, ?_⟩
  refine b σ H1 G1 δ1 _ _ L1 q fun rs δ2 us H2 G2 L2 f2 le2 rrs q => ?_
  obtain ⟨xs, ds, e, es, hf⟩ := q
  obtain ⟨G3, L3, f3, s3, h3⟩ := settles L1 le2 L2 f2 rrs es
  obtain ⟨l', vs, e1, g1, t1⟩ := L3.owl e rr
  cases e1
  refine hr H2 G3 l vs us xs ds _ _ L3.sub g1 t1 h3 hf fun d ys v ws hd hy q => ?_
  obtain ⟨L4, f4, le4⟩ := L3.upC (o := .lst ws) (c' := .l ys) e rr ⟨_, upd_same, hy⟩
  have f13 : Fr (Ad σ δ) H G H2 G3 := f1.trans f3 fun a h => .inl (le1.ad h)
  exact k (.va d) _ v _ _ L4 (f13.trans f4 fun a h => .inl ((le2.trans le1).ad h)) (le4.trans (le2.trans le1)) hd q
def appF : List D → List D → (D → List D → Prop) → Prop
  | xs, [d], Q => xs.length < sizeLine ∧ Q .non (xs ++ [d])
  | _, _, _ => False
theorem sndm_append : SndM K rAppend appF := fun H G l vs us xs ds Q Q3 s h t u hf k => by
  unfold appF at hf
  split at hf
  · cases u with
    | cons u1 u2 =>
      cases u2
      exact ⟨l, vs, _, rfl, rfl, h, by rw [t.length]; exact hf.1, k _ _ _ _ .non (t.append (.one u1)) hf.2⟩
  · exact hf.elim
/-- xs.extend(ys): ys read where it stands -/
def textend (To Te : DT) : DT := fun δ Q => To δ fun ro δ1 => ∃ i xs0, ro = .rf i ∧ δ1[i]? = some (E.ow (.l xs0)) ∧ Te δ1 fun r δ2 => ∃ xs ys, δ2[i]? = some (E.ow (.l xs)) ∧ r.dat δ2 = some (.lst ys) ∧ (∀ j, r = .rf j → j ≠ i) ∧ xs.length + ys.length ≤ sizeLine ∧ Q (.va .non) (δ2.set i (.ow (.l (xs ++ ys))))
theorem snd_extend {to te : TE} {To Te : DT} (a : Snd K to To) (b : Snd K te Te) : Snd K (tBM K "list" rExtend to (tCons te tNil)) (textend To Te) := fun σ H G δ Q Q3 L h k => by
  refine a σ H G δ _ _ L h fun ro δ1 v H1 G1 L1 f1 le1 rr q => ?_
  obtain ⟨i, xs0, rfl, e0, q⟩ := q
  obtain ⟨l, vs0, rfl, g0, _⟩ := L1.owl e0 rr
  refine ⟨ty_lst g0, ?_⟩
  refine b σ H1 G1 δ1 _ _ L1 q fun r δ2 u H2 G2 L2 f2 le2 rr2 q => ?_
  obtain ⟨xs, ys, e, ed, nj, hl, q⟩ := q
  obtain ⟨l', vs, e1, g1, t1⟩ := L2.owl e rr
  cases e1
  obtain ⟨p, us, rfl, g2, t2⟩ := sh_of L2 rr2 ed
  obtain ⟨L4, f4, le4⟩ := L2.upC (o := .lst (vs ++ us)) (c' := .l (xs ++ ys)) e rr ⟨_, upd_same, t1.append t2⟩
  have f12 : Fr (Ad σ δ) H G H2 G2 := f1.trans f2 fun a h => .inl (le1.ad h)
  exact ⟨l, p, vs, us, rfl, rfl, g1, g2, by rw [t1.length, t2.length]; exact hl, k (.va .non) _ _ _ _ L4 (f12.trans f4 fun a h => .inl ((le2.trans le1).ad h)) (le4.trans (le2.trans le1)) At.non q⟩
def popF : List D → List D → (D → List D → Prop) → Prop
  | xs, [], Q => ∃ d, xs[xs.length - 1]? = some d ∧ Q d xs.dropLast
  | xs, [.int i], Q => ∃ k d, (-(2 ^ 63) ≤ i ∧ i < 2 ^ 63) ∧ seqIndex? i xs.length = some k ∧ xs[k]? = some d ∧ Q d (xs.eraseIdx k)
  | _, _, _ => False
theorem AtL.dropLast {G : Hp} {vs : List V} {ds : List D} (h : AtL K G vs ds) : AtL K G vs.dropLast ds.dropLast := by
  rw [List.dropLast_eq_take, List.dropLast_eq_take, h.length]
  exact h.take _
theorem sndm_pop1 : SndM K rPopAt (fun xs ds Q => ds ≠ [] ∧ popF xs ds Q) := fun H G l vs us xs ds Q Q3 s h t u hf k => by
  obtain ⟨ne, hf⟩ := hf
  unfold popF at hf
  split at hf
  · exact absurd rfl ne
  · cases u with
    | cons u1 u2 =>
      cases u2
      cases u1
      obtain ⟨j, d, ⟨b1, b2⟩, e1, e2, q⟩ := hf
      obtain ⟨v, e3, hv⟩ := t.get e2
      exact ⟨l, vs, _, j, v, rfl, rfl, h, b1, b2, by rw [t.length]; exact e1, e3, k _ _ _ _ hv (t.eraseIdx j) q⟩
  · exact hf.elim
end
end L3
namespace L3
open PySem PySem.Spec PyProof.Rows L2
section
variable {K : PySem.W.Frag}
abbrev DI := En → (List D → List (Nat × Cn) → En → Prop) → Prop
/-- the turns of J tell these items while the slots at cs hold what they hold -/
def ItOk (K : PySem.W.Frag) (J : It) (items : List D) (cs : List (Nat × Cn)) (σ0 : L2.St) (G0 : Hp) : Prop := ∀ (σ : L2.St) (H G : Hp) (δ : En), Rel K σ H G δ → Sub G0 G → (∀ p ∈ cs, δ[p.1]? = some (E.ow p.2) ∧ σ[p.1]? = σ0[p.1]?) →
  (∀ (k : Nat) (x : D), items[k]? = some x → J.go k H ∧ ∀ v H', J.yld k H v H' → ∃ G', Gr H G H' G' ∧ Sub G' H' ∧ At K G' v x) ∧ J.stop items.length H
def SndI (K : PySem.W.Frag) (wi : TI) (S : DI) : Prop := ∀ (σ : L2.St) (H G : Hp) (δ : En) (R : It → Hp → Prop) (Q3 : List D → List (Nat × Cn) → En → Prop), Rel K σ H G δ → S δ Q3 →
  (∀ items cs δ' J H' G', Rel K σ H' G' δ' → Fr (Ad σ δ) H G H' G' → Le δ' δ → ItOk K J items cs σ G' → Q3 items cs δ' → R J H') → wi σ H R
def srcE (i : Nat) : Option E → Option (List D × List (Nat × Cn))
  | some (.ow (.l xs)) => some (xs, [(i, .l xs)])
  | some (.va (.lst xs)) => some (xs, [])
  | _ => none
/-- the list that a result shows, and the slot that it leans on -/
def srcL (δ : En) : R → Option (List D × List (Nat × Cn))
  | .va (.lst xs) => some (xs, [])
  | .va (.frz xs) => some (xs, [])
  | .fr (.l xs) => some (xs, [])
  | .rf i => srcE i δ[i]?
  | _ => none
/-- a list's address, for as long as cs stands -/
def LstAt (K : PySem.W.Frag) (a : Addr) (xs : List D) (cs : List (Nat × Cn)) (σ0 : L2.St) (G0 : Hp) : Prop := ∀ (σ : L2.St) (H G : Hp) (δ : En), Rel K σ H G δ → Sub G0 G → (∀ p ∈ cs, δ[p.1]? = some (E.ow p.2) ∧ σ[p.1]? = σ0[p.1]?) → ∃ vs, SqL K H a vs ∧ AtL K G vs xs
theorem LstAt.sub {a : Addr} {xs : List D} {cs : List (Nat × Cn)} {σ0 : L2.St} {G0 G1 : Hp} (h : LstAt K a xs cs σ0 G0) (s : Sub G0 G1) : LstAt K a xs cs σ0 G1 := fun σ H G δ L s' c => h σ H G δ L (s.trans s') c
theorem srcL_at {σ : L2.St} {H0 G0 H G : Hp} {δ0 δ : En} {r : R} {v : V} {xs : List D} {cs : List (Nat × Cn)} (L0 : Rel K σ H0 G0 δ0) (L : Rel K σ H G δ) (f : Fr (Ad σ δ0) H0 G0 H G) (le : Le δ δ0) (rr : RR K σ H0 H G r v) (e : srcL δ r = some (xs, cs)) :
    ∃ a G', v = .ref a ∧ Rel K σ H G' δ ∧ Fr (Ad σ δ0) H0 G0 H G' ∧ Sub G G' ∧ LstAt K a xs cs σ G' ∧ (∃ vs, SqL K H a vs) ∧ ∀ b, G' b ≠ G b → v = .ref b ∧ ∃ c, r = .fr c := by
  have lst : ∀ {v : V}, At K G v (.lst xs) → ∃ a, v = .ref a ∧ LstAt K a xs [] σ G ∧ ∃ vs, SqL K H a vs := fun h => by
    cases h with
    | lst h1 t => exact ⟨_, rfl, fun σ H G' δ L s _ => ⟨_, SqL.of (L.sub _ _ (s _ _ h1)), t.mono s⟩, _, SqL.of (L.sub _ _ h1)⟩
  cases r with
  | va d =>
    cases d with
    | lst ys =>
      cases e
      obtain ⟨a, rfl, h, h2⟩ := lst rr
      exact ⟨a, G, rfl, L, f, .refl, h, h2, fun b z => absurd rfl z⟩
    | frz ys =>
      cases e
      cases (show At K G v (.frz xs) from rr) with
      | frz h1 t => exact ⟨_, G, rfl, L, f, .refl, fun σ H G' δ L s _ => ⟨_, L.sub.sqL (s.sqL h1), t.mono s⟩, ⟨_, L.sub.sqL h1⟩, fun b z => absurd rfl z⟩
    | _ => cases e
  | fr c =>
    cases c with
    | l ys =>
      cases e
      have e2 : (R.fr (.l xs)).still δ = some (.lst xs) := rfl
      obtain ⟨G', L', f', s', h', ch⟩ := settle L0 L f le rr e2
      cases h' with
      | lst h1 t => exact ⟨_, G', rfl, L', f', s', fun σ H G' δ L s _ => ⟨_, SqL.of (L.sub _ _ (s _ _ h1)), t.mono s⟩, ⟨_, SqL.of (L'.sub _ _ h1)⟩, fun b z => (ch b z).2⟩
    | d kvs => cases e
    | o cn fs => cases e
  | rf i =>
    have e2 : srcE i δ[i]? = some (xs, cs) := e
    unfold srcE at e2
    split at e2
    · rename_i ys q
      cases e2
      obtain ⟨l, vs, rfl, h1, t1⟩ := L.owl q rr
      refine ⟨l, G, rfl, L, f, .refl, fun σ' H' G' δ' L' s' c => ?_, ⟨_, SqL.of h1⟩, fun b z => absurd rfl z⟩
      obtain ⟨c1, c2⟩ := c (i, .l xs) List.mem_cons_self
      obtain ⟨l', vs', e3, h2, t2⟩ := L'.owl c1 (c2.trans rr)
      cases e3
      exact ⟨vs', SqL.of h2, t2⟩
    · rename_i ys q
      cases e2
      obtain ⟨v', h1, h2⟩ := L.va i _ q
      rw [show σ[i]? = some (some v) from rr] at h1
      cases h1
      obtain ⟨a, rfl, h, h3⟩ := lst h2
      exact ⟨a, G, rfl, L, f, .refl, h, h3, fun b z => absurd rfl z⟩
    · cases e2
theorem it_list {a : Addr} {xs : List D} {cs : List (Nat × Cn)} {σ0 : L2.St} {G0 : Hp} (h : LstAt K a xs cs σ0 G0) : ItOk K (Itl K a) xs cs σ0 G0 := fun σ H G δ L s c => by
  obtain ⟨vs, h1, t1⟩ := h σ H G δ L s c
  refine ⟨fun k x e => ?_, vs, h1, by rw [t1.length]; exact Nat.le_refl _⟩
  obtain ⟨v, e2, hv⟩ := t1.get e
  refine ⟨⟨vs, v, h1, e2⟩, fun u H' y => ?_⟩
  obtain ⟨rfl, y⟩ := y
  have := y vs h1
  rw [e2] at this
  cases this
  exact ⟨G, .refl, L.sub, hv⟩
def ilist (T : DT) : DI := fun δ Q => T δ fun r δ1 => ∃ xs cs, srcL δ1 r = some (xs, cs) ∧ Q xs cs δ1
theorem sndi_list {t : TE} {T : DT} (a : Snd K t T) : SndI K (iList K t) (ilist T) := fun σ H G δ R Q3 L h k => by
  refine a σ H G δ _ _ L h fun r δ1 v H1 G1 L1 f1 le1 rr q => ?_
  obtain ⟨xs, cs, e, q⟩ := q
  obtain ⟨a, G2, rfl, L2, f2, s2, la, ex, _⟩ := srcL_at L L1 f1 le1 rr e
  exact ⟨a, rfl, ex, k xs cs δ1 _ H1 G2 L2 f2 le1 (it_list la) q⟩
def itup (T : DT) : DI := fun δ Q => T δ fun r δ1 => ∃ xs, r = .va (.tup xs) ∧ Q xs [] δ1
theorem sndi_tup {t : TE} {T : DT} (a : Snd K t T) : SndI K (iTup K t) (itup T) := fun σ H G δ R Q3 L h k => by
  refine a σ H G δ _ _ L h fun r δ1 v H1 G1 L1 f1 le1 rr q => ?_
  obtain ⟨xs, rfl, q⟩ := q
  cases (show At K G1 v (.tup xs) from rr) with
  | @tup a vs _ h1 t1 =>
    refine ⟨a, rfl, ⟨vs, L1.sub.sqT h1⟩, k xs [] δ1 _ H1 G1 L1 f1 le1 (fun σ H G δ L s c => ?_) q⟩
    refine ⟨fun k x e => ?_, vs, L.sub.sqT (s.sqT h1), by rw [t1.length]; exact Nat.le_refl _⟩
    obtain ⟨v, e2, hv⟩ := t1.get e
    refine ⟨⟨vs, v, L.sub.sqT (s.sqT h1), e2⟩, fun u H' y => ?_⟩
    obtain ⟨rfl, y⟩ := y
    have := y vs (L.sub.sqT (s.sqT h1))
    rw [e2] at this
    cases this
    exact ⟨G, .refl, L.sub, hv.mono s⟩
def istr (T : DT) : DI := fun δ Q => T δ fun r δ1 => ∃ x : Str, r = .va (.str x) ∧ Q (x.cps.toList.map fun c => D.str ⟨#[c]⟩) [] δ1
theorem sndi_str {t : TE} {T : DT} (a : Snd K t T) : SndI K (iStr t) (istr T) := fun σ H G δ R Q3 L h k => by
  refine a σ H G δ _ _ L h fun r δ1 v H1 G1 L1 f1 le1 rr q => ?_
  obtain ⟨x, rfl, q⟩ := q
  have ev : v = .str x := by
    cases (show At K G1 v (.str x) from rr)
    rfl
  refine ⟨x, ev, k _ [] δ1 _ H1 G1 L1 f1 le1 (fun σ H G δ L s c => ?_) q⟩
  refine ⟨fun k y e => ?_, by show x.cps.size ≤ _; rw [List.length_map]; simp⟩
  rw [List.getElem?_map] at e
  obtain ⟨c, e1, rfl⟩ := Option.map_eq_some_iff.mp e
  have e2 : x.cps[k]? = some c := by rw [← e1]; simp
  refine ⟨(Array.getElem?_eq_some_iff.mp e2).1, fun u H' y => ?_⟩
  obtain ⟨rfl, c', e3, rfl⟩ := y
  rw [e2] at e3
  cases e3
  exact ⟨G, .refl, L.sub, .str _⟩
def rangeD (lo : Int) (n : Nat) : List D := (List.range n).map fun k => D.int (lo + (k : Nat))
theorem rangeD_len {lo : Int} {n : Nat} : (rangeD lo n).length = n := by unfold rangeD; rw [List.length_map, List.length_range]
theorem rangeD_get {lo : Int} {n k : Nat} {x : D} (h : (rangeD lo n)[k]? = some x) : k < n ∧ x = .int (lo + (k : Nat)) := by
  unfold rangeD at h
  rw [List.getElem?_map] at h
  obtain ⟨j, e1, rfl⟩ := Option.map_eq_some_iff.mp h
  obtain ⟨h1, h2⟩ := List.getElem?_eq_some_iff.mp e1
  rw [List.getElem_range] at h2
  subst h2
  exact ⟨by simpa using h1, rfl⟩
theorem it_range {lo : Int} {n : Nat} {σ0 : L2.St} {G0 : Hp} : ItOk K (Itr lo n) (rangeD lo n) [] σ0 G0 := fun σ H G δ L s c => by
  refine ⟨fun k x e => ?_, by show n ≤ _; rw [rangeD_len]; exact Nat.le_refl _⟩
  obtain ⟨h1, rfl⟩ := rangeD_get e
  refine ⟨h1, fun u H' y => ?_⟩
  obtain ⟨rfl, rfl⟩ := y
  exact ⟨G, .refl, L.sub, .int _⟩
def irng1 (T : DT) : DI := fun δ Q => T δ fun r δ1 => ∃ j, r = .va (.int j) ∧ (-(2 ^ 62) ≤ j ∧ j < 2 ^ 62) ∧ Q (rangeD 0 j.toNat) [] δ1
theorem sndi_rng1 {t : TE} {T : DT} (a : Snd K t T) : SndI K (iRng1 (tCons t tNil)) (irng1 T) := fun σ H G δ R Q3 L h k => by
  refine a σ H G δ _ _ L h fun r δ1 v H1 G1 L1 f1 le1 rr q => ?_
  obtain ⟨j, rfl, ⟨b1, b2⟩, q⟩ := q
  have ev := rr_int rr
  subst ev
  exact ⟨j, rfl, b1, b2, k _ [] δ1 _ H1 G1 L1 f1 le1 it_range q⟩
/-- enumerate -/
def enumD : Nat → List D → List D
  | _, [] => []
  | n, x :: xs => .tup [.int (n : Nat), x] :: enumD (n + 1) xs
theorem enumD_len : ∀ {n : Nat} {xs : List D}, (enumD n xs).length = xs.length
  | _, [] => rfl
  | n, x :: xs => congrArg (· + 1) (enumD_len (n := n + 1) (xs := xs))
theorem enumD_get : ∀ {n : Nat} {xs : List D} {k : Nat} {y : D}, (enumD n xs)[k]? = some y → ∃ x, xs[k]? = some x ∧ y = .tup [.int ((n + k : Nat)), x]
  | n, [], k, y, h => by simp [enumD] at h
  | n, x :: xs, 0, y, h => by
    simp [enumD] at h
    subst h
    exact ⟨x, rfl, by simp⟩
  | n, x :: xs, k + 1, y, h => by
    simp [enumD] at h
    obtain ⟨z, h1, h2⟩ := enumD_get h
    exact ⟨z, by simpa using h1, by rw [h2]; congr 3; omega⟩
def ienum (T : DT) : DI := fun δ Q => T δ fun r δ1 => ∃ xs cs, srcL δ1 r = some (xs, cs) ∧ Q (enumD 0 xs) cs δ1
theorem sndi_enum {t : TE} {T : DT} (a : Snd K t T) : SndI K (iEnum K (tCons t tNil)) (ienum T) := fun σ H G δ R Q3 L h k => by
  refine a σ H G δ _ _ L h fun r δ1 v H1 G1 L1 f1 le1 rr q => ?_
  obtain ⟨xs, cs, e, q⟩ := q
  obtain ⟨a, G2, rfl, L2, f2, s2, la, ⟨vs0, ex⟩, _⟩ := srcL_at L L1 f1 le1 rr e
  refine ⟨a, vs0, rfl, ex, k _ cs δ1 _ H1 G2 L2 f2 le1 (fun σ H G δ L s c => ?_) q⟩
  obtain ⟨vs, h1, t1⟩ := la σ H G δ L s c
  refine ⟨fun k x e => ?_, vs, h1, by rw [enumD_len, t1.length]; exact Nat.le_refl _⟩
  obtain ⟨y, e1, rfl⟩ := enumD_get e
  obtain ⟨v, e2, hv⟩ := t1.get e1
  refine ⟨⟨vs, v, h1, e2⟩, fun u H' z => ?_⟩
  obtain ⟨T, x, rfl, hT, rfl, z⟩ := z
  have := z vs h1
  rw [e2] at this
  cases this
  obtain ⟨f3, s3⟩ := gr_keep (o := .tup [V.int (k : Nat), v]) L.sub hT
  refine ⟨_, f3, s3, At.tup (SqT.of upd_same) (.cons ?_ (.one (hv.mono f3.sub)))⟩
  rw [Nat.zero_add]
  exact .int _
/-- zip of two lists -/
def zipD : List D → List D → List D
  | x :: xs, y :: ys => .tup [x, y] :: zipD xs ys
  | _, _ => []
theorem zipD_get : ∀ {xs ys : List D} {k : Nat} {z : D}, (zipD xs ys)[k]? = some z → ∃ x y, xs[k]? = some x ∧ ys[k]? = some y ∧ z = .tup [x, y]
  | [], ys, k, z, h => by simp [zipD] at h
  | _ :: _, [], k, z, h => by simp [zipD] at h
  | x :: xs, y :: ys, 0, z, h => by
    simp [zipD] at h
    subst h
    exact ⟨x, y, rfl, rfl, rfl⟩
  | x :: xs, y :: ys, k + 1, z, h => by
    simp [zipD] at h
    obtain ⟨a, b, h1, h2, h3⟩ := zipD_get h
    exact ⟨a, b, by simpa using h1, by simpa using h2, h3⟩
theorem zipD_len : ∀ {xs ys : List D}, xs.length ≤ (zipD xs ys).length ∨ ys.length ≤ (zipD xs ys).length
  | [], ys => .inl (by simp)
  | _ :: _, [] => .inr (by simp)
  | x :: xs, y :: ys => (zipD_len (xs := xs) (ys := ys)).elim (fun h => .inl (by simp [zipD]; exact h)) fun h => .inr (by simp [zipD]; exact h)
def izip (T U : DT) : DI := fun δ Q => T δ fun r δ1 => U δ1 fun u δ2 => ∃ xs cs ys cs', srcL δ2 r = some (xs, cs) ∧ srcL δ2 u = some (ys, cs') ∧ Q (zipD xs ys) (cs ++ cs') δ2
theorem sndi_zip {t u : TE} {T U : DT} (a : Snd K t T) (b : Snd K u U) : SndI K (iZip K (tCons t (tCons u tNil))) (izip T U) := fun σ H G δ R Q3 L h k => by
  refine a σ H G δ _ _ L h fun r δ1 v H1 G1 L1 f1 le1 rr q => ?_
  refine b σ H1 G1 δ1 _ _ L1 q fun u δ2 w H2 G2 L2 f2 le2 rr2 q => ?_
  obtain ⟨xs, cs, ys, cs', e1, e2, q⟩ := q
  have f12 : Fr (Ad σ δ) H G H2 G2 := f1.trans f2 fun a h => .inl (le1.ad h)
  obtain ⟨a, G3, rfl, L3, f3, s3, la, ⟨vs0, ex⟩, ch⟩ := srcL_at L L2 f12 (le2.trans le1) (rr.on L f1 le1 f2) e1
  have rr3 : RR K σ H H2 G3 u w := by
    cases u with
    | va d => exact At.mono s3 rr2
    | rf i => exact rr2
    | fr c =>
      obtain ⟨l, rfl, n0, g, q⟩ := rr2
      refine ⟨l, rfl, f1.free n0, ?_, q.mono (fun _ z => z) s3⟩
      by_cases z : G3 l = G2 l
      · rw [z]
        exact g
      · obtain ⟨ev, c, ec⟩ := ch l z
        cases ev
        subst ec
        obtain ⟨l', e3, _, _, hc⟩ := rr
        cases e3
        exact absurd n0 hc.some
  obtain ⟨b, G4, rfl, L4, f4, s4, lb, ⟨us0, ex2⟩, _⟩ := srcL_at L L3 f3 (le2.trans le1) rr3 e2
  refine ⟨a, b, vs0, us0, rfl, ex, ex2, k _ (cs ++ cs') δ2 _ H2 G4 L4 f4 (le2.trans le1) (fun σ H G δ L s c => ?_) q⟩
  obtain ⟨vs, h1, t1⟩ := la.sub s4 σ H G δ L s fun p hp => c p (List.mem_append_left _ hp)
  obtain ⟨us, h2, t2⟩ := lb σ H G δ L s fun p hp => c p (List.mem_append_right _ hp)
  refine ⟨fun k z e => ?_, vs, us, h1, h2, by rw [t1.length, t2.length]; exact zipD_len⟩
  obtain ⟨x, y, e1, e2, rfl⟩ := zipD_get e
  obtain ⟨v, e3, hv⟩ := t1.get e1
  obtain ⟨w, e4, hw⟩ := t2.get e2
  refine ⟨⟨vs, us, v, w, h1, h2, e3, e4⟩, fun u H' z => ?_⟩
  obtain ⟨T, x', y', rfl, hT, rfl, z1, z2⟩ := z
  have q1 := z1 vs h1
  have q2 := z2 us h2
  rw [e3] at q1
  rw [e4] at q2
  cases q1
  cases q2
  obtain ⟨f3, s3⟩ := gr_keep (o := .tup [v, w]) L.sub hT
  exact ⟨_, f3, s3, At.tup (SqT.of upd_same) (.cons (hv.mono f3.sub) (.one (hw.mono f3.sub)))⟩
def sfor (as : List Nat) (S : DI) (Gd : DG) (B : DS) : DS := fun D δ => S δ fun items cs δ1 => (∀ p ∈ cs, p.1 ∉ as) ∧ ∃ I : Nat → En → Prop, I 0 δ1 ∧ (∀ k δ, I k δ → ∀ p ∈ cs, δ[p.1]? = some (E.ow p.2)) ∧
  (∀ k x δ, items[k]? = some x → I k δ → Gd x δ fun δ' => B { D with nx := I (k + 1), ct := I (k + 1), bk := D.nx } δ') ∧ (∀ δ, I items.length δ → D.nx δ)
theorem sndp_for {ps gs bs as : List Nat} {wi : TI} {g : TG} {tb : TS} {S : DI} {Gd : DG} {B : DS} (hi : SndI K wi S) (hg : SndG K gs g Gd) (hb : SndSP K ps bs tb B) (hh : ∀ i, i ∈ gs ++ bs → i ∈ as) : SndSP K ps as (tFor wi g tb) (sfor as S Gd B) := fun F hps hp σ H G δ D3 D s h gd => by
  refine hi σ H G δ _ _ s.L h fun items cs δ1 J H1 G1 L1 f1 le1 it q => ?_
  obtain ⟨nc, I, I0, Ic, It, Ie⟩ := q
  have n0 : Nxt K F [] σ H G δ σ H1 G1 δ1 := .step s L1 f1 le1
  refine ⟨fun i m σ' H' => m = items.length - i ∧ i ≤ items.length ∧ ∃ G' δ', Nxt K F as σ H1 G1 δ1 σ' H' G' δ' ∧ I i δ', ⟨items.length, by simp, Nat.zero_le _, G1, δ1, .refl n0.s, I0⟩, ?_⟩
  rintro i m σ' H' ⟨rfl, hi, G', δ', n, hI⟩
  have ok := it σ' H' G' δ' n.s.L n.f.sub fun p hp => ⟨Ic i δ' hI p hp, n.st p.1 (nc p hp)⟩
  by_cases hlt : i < items.length
  · obtain ⟨hgo, hy⟩ := ok.1 i items[i] (List.getElem?_eq_getElem hlt)
    refine .inr ⟨hgo, fun σ2 H2 => ∃ G2 δ2, Nxt K F as σ H1 G1 δ1 σ2 H2 G2 δ2 ∧ I (i + 1) δ2, fun σ2 H2 ⟨G2, δ2, n2, h2⟩ => ⟨items.length - (i + 1), by omega, rfl, hlt, G2, δ2, n2, h2⟩, fun x H'' y => ?_⟩
    obtain ⟨G'', fg, sg, hx⟩ := hy x H'' y
    have n1 : Nxt K F [] σ' H' G' δ' σ' H'' G'' δ' := .step n.s (n.s.L.grow fg sg) fg.fr .refl
    refine hg F (fun i hi => hp i (hh i (List.mem_append_left _ hi))) σ' H'' G'' δ' x _ _ _ n1.s hx (It i _ δ' (List.getElem?_eq_getElem hlt) hI) fun σ2 H2 G2 δ2 n2 _ q2 => ?_
    have nn : Nxt K F as σ H1 G1 δ1 σ2 H2 G2 δ2 := ((n.trans n1).trans n2).mono fun j hj => by
      simp only [List.append_nil, List.mem_append] at hj
      rcases hj with hj | hj
      · exact hj
      · exact hh j (List.mem_append_left _ hj)
    refine hb F hps (fun i hi => hp i (hh i (List.mem_append_right _ hi))) σ2 H2 G2 δ2 _ _ nn.s q2 ⟨fun σ3 H3 G3 δ3 n3 q3 => ⟨G3, δ3, (nn.trans n3).mono fun j hj => ?_, q3⟩, fun σ3 H3 G3 δ3 n3 q3 => gd.nx _ _ _ _ ((n0.trans (nn.trans n3)).mono fun j hj => ?_) q3, fun σ3 H3 G3 δ3 n3 q3 => ⟨G3, δ3, (nn.trans n3).mono fun j hj => ?_, q3⟩,
      fun σ3 H3 G3 δ3 r v n3 rr nr q3 => gd.rt _ _ _ _ _ _ ((n0.trans (nn.trans n3)).mono fun j hj => ?_) rr nr q3⟩
    all_goals
      simp only [List.nil_append, List.mem_append] at hj
      rcases hj with hj | hj
      · exact hj
      · exact hh j (List.mem_append_right _ hj)
  · have e : i = items.length := by omega
    subst e
    exact .inl ⟨ok.2, gd.nx _ _ _ _ ((n0.trans n).mono fun j hj => by simpa using hj) (Ie δ' hI)⟩
def swhile (C : DTT) (B : DS) : DS := fun D δ => ∃ (I : En → Prop) (μ : En → Nat), I δ ∧ ∀ δ, I δ → C δ fun b δ1 => if b = true then B { D with nx := fun δ2 => I δ2 ∧ μ δ2 < μ δ, ct := fun δ2 => I δ2 ∧ μ δ2 < μ δ, bk := D.nx } δ1 else D.nx δ1
theorem sndp_while {ps bs : List Nat} {c : TT} {tb : TS} {C : DTT} {B : DS} (hc : SndT K c C) (hb : SndSP K ps bs tb B) : SndSP K ps bs (tWhile c tb) (swhile C B) := fun F hps hp σ H G δ D3 D s h gd => by
  obtain ⟨I, μ, I0, It⟩ := h
  refine ⟨fun m σ' H' => ∃ G' δ', m = μ δ' ∧ Nxt K F bs σ H G δ σ' H' G' δ' ∧ I δ', ⟨_, G, δ, rfl, .refl s, I0⟩, ?_⟩
  rintro m σ' H' ⟨G', δ', rfl, n, hI⟩
  refine hc σ' H' G' δ' _ _ n.s.L (It δ' hI) fun b δ1 H1 G1 L1 f1 le1 q => ?_
  have n1 : Nxt K F [] σ' H' G' δ' σ' H1 G1 δ1 := .step n.s L1 f1 le1
  have nn : Nxt K F bs σ H G δ σ' H1 G1 δ1 := (n.trans n1).mono fun j hj => by simpa using hj
  cases b with
  | true =>
    refine ⟨fun σ2 H2 => ∃ G2 δ2, Nxt K F bs σ H G δ σ2 H2 G2 δ2 ∧ I δ2 ∧ μ δ2 < μ δ', fun σ2 H2 ⟨G2, δ2, n2, h2, h3⟩ => ⟨μ δ2, h3, G2, δ2, rfl, n2, h2⟩, ?_⟩
    refine hb F hps hp σ' H1 G1 δ1 _ _ nn.s q ⟨fun σ3 H3 G3 δ3 n3 q3 => ⟨G3, δ3, (nn.trans n3).mono fun j hj => ?_, q3⟩, fun σ3 H3 G3 δ3 n3 q3 => gd.nx _ _ _ _ ((nn.trans n3).mono fun j hj => ?_) q3, fun σ3 H3 G3 δ3 n3 q3 => ⟨G3, δ3, (nn.trans n3).mono fun j hj => ?_, q3⟩,
      fun σ3 H3 G3 δ3 r v n3 rr nr q3 => gd.rt _ _ _ _ _ _ ((nn.trans n3).mono fun j hj => ?_) rr nr q3⟩
    all_goals
      rcases List.mem_append.mp hj with hj | hj <;> exact hj
  | false => exact gd.nx _ _ _ _ nn q
end
end L3
namespace L3
open PySem PySem.Spec PyProof.Rows L2
section
variable {K : PySem.W.Frag}
def wipeE (δ : En) : List Nat → En
  | [] => δ
  | v :: vs => (wipeE δ vs).set v .no
def backE (δo δn : En) : List Nat → En
  | [] => δn
  | v :: vs => (backE δo δn vs).set v (δo.getD v .no)
def noOw (δ : En) (vs : List Nat) : Bool := vs.all fun v => match δ[v]? with
  | some (.ow _) => false
  | _ => true
theorem noOw_at {δ : En} {vs : List Nat} (h : noOw δ vs = true) {v : Nat} (hv : v ∈ vs) (c : Cn) : δ[v]? ≠ some (E.ow c) := fun e => by
  have := List.all_eq_true.mp h v hv
  rw [e] at this
  cases this
theorem wipeE_len {δ : En} : ∀ {vs : List Nat}, (wipeE δ vs).length = δ.length
  | [] => rfl
  | v :: vs => by rw [wipeE, List.length_set, wipeE_len]
theorem backE_len {δo δn : En} : ∀ {vs : List Nat}, (backE δo δn vs).length = δn.length
  | [] => rfl
  | v :: vs => by rw [backE, List.length_set, backE_len]
theorem wipe_at {σ : L2.St} {i : Nat} : ∀ {vs : List Nat}, i ∈ vs → i < σ.length → (wipe σ vs)[i]? = some none
  | v :: vs, h, hi => by
    unfold wipe
    by_cases z : v = i
    · subst z
      rw [List.getElem?_set_self (by rw [wipe_length]; exact hi)]
    · rw [List.getElem?_set_ne z]
      rcases List.mem_cons.mp h with e | h
      · exact absurd e.symm z
      · exact wipe_at h hi
theorem wipe_off {σ : L2.St} {i : Nat} {vs : List Nat} (h : i ∉ vs) : (wipe σ vs)[i]? = σ[i]? := wipe_out h
theorem wipeE_get {δ : En} {i : Nat} {e : E} : ∀ {vs : List Nat}, (wipeE δ vs)[i]? = some e → (i ∈ vs ∧ e = .no) ∨ (i ∉ vs ∧ δ[i]? = some e)
  | [], h => .inr ⟨by simp, h⟩
  | v :: vs, h => by
    rcases set_get h with ⟨rfl, rfl, _⟩ | ⟨ne, h⟩
    · exact .inl ⟨List.mem_cons_self, rfl⟩
    · rcases wipeE_get h with ⟨h1, h2⟩ | ⟨h1, h2⟩
      · exact .inl ⟨List.mem_cons_of_mem _ h1, h2⟩
      · exact .inr ⟨fun z => (List.mem_cons.mp z).elim (fun q => ne q.symm) h1, h2⟩
theorem backE_get {δo δn : En} {i : Nat} {e : E} (hl : δo.length = δn.length) : ∀ {vs : List Nat}, (backE δo δn vs)[i]? = some e → (i ∈ vs ∧ δo[i]? = some e) ∨ (i ∉ vs ∧ δn[i]? = some e)
  | [], h => .inr ⟨by simp, h⟩
  | v :: vs, h => by
    rcases set_get h with ⟨rfl, rfl, hi⟩ | ⟨ne, h⟩
    · rw [backE_len] at hi
      refine .inl ⟨List.mem_cons_self, ?_⟩
      rw [← hl] at hi
      rw [List.getD_eq_getElem?_getD, List.getElem?_eq_getElem hi]
      rfl
    · rcases backE_get hl h with ⟨h1, h2⟩ | ⟨h1, h2⟩
      · exact .inl ⟨List.mem_cons_of_mem _ h1, h2⟩
      · exact .inr ⟨fun z => (List.mem_cons.mp z).elim (fun q => ne q.symm) h1, h2⟩
theorem backE_in {δo δn : En} {i : Nat} (hl : δo.length = δn.length) {vs : List Nat} (hi : i ∈ vs) : (backE δo δn vs)[i]? = δo[i]? := by
  cases e : (backE δo δn vs)[i]? with
  | none =>
    have h1 : δn.length ≤ i := by
      have := List.getElem?_eq_none_iff.mp e
      rw [backE_len] at this
      exact this
    exact (List.getElem?_eq_none_iff.mpr (by rw [hl]; exact h1)).symm
  | some x =>
    rcases backE_get hl e with ⟨_, h2⟩ | ⟨h1, _⟩
    · exact h2.symm
    · exact absurd hi h1
theorem Rel.wipe {σ : L2.St} {H G : Hp} {δ : En} (L : Rel K σ H G δ) (vs : List Nat) : Rel K (wipe σ vs) H G (wipeE δ vs) where
  len := by rw [wipe_length, wipeE_len]; exact L.len
  sub := L.sub
  va := fun i d e => by
    rcases wipeE_get e with ⟨_, z⟩ | ⟨h1, h2⟩
    · cases z
    · rw [wipe_off h1]
      exact L.va i d h2
  ow := fun i c e => by
    rcases wipeE_get e with ⟨_, z⟩ | ⟨h1, h2⟩
    · cases z
    · rw [wipe_off h1]
      exact L.ow i c h2
  dj := fun i j l c c' e e' q q' => by
    rcases wipeE_get e with ⟨_, z⟩ | ⟨h1, h2⟩
    · cases z
    · rcases wipeE_get e' with ⟨_, z⟩ | ⟨h1', h2'⟩
      · cases z
      · rw [wipe_off h1] at q
        rw [wipe_off h1'] at q'
        exact L.dj i j l c c' h2 h2' q q'
theorem ad_wipe {σ : L2.St} {δ : En} {vs : List Nat} {l : Addr} (h : Ad (wipe σ vs) (wipeE δ vs) l) : Ad σ δ l := by
  obtain ⟨i, c, e, q⟩ := h
  rcases wipeE_get e with ⟨_, z⟩ | ⟨h1, h2⟩
  · cases z
  · rw [wipe_off h1] at q
    exact ⟨i, c, h2, q⟩
/-- behind a block -/
theorem Rel.back {σ σ2 : L2.St} {H G H' G' : Hp} {δ δ2 : En} {vs : List Nat} (L : Rel K σ H G δ) (no : noOw δ vs = true) (L2 : Rel K σ2 H' G' δ2) (s : Sub G G') (hσ : ∀ i : Nat, i ∉ vs → σ2[i]? = σ[i]?) (hl : σ2.length = σ.length) : Rel K σ H' G' (backE δ δ2 vs) := by
  have hd : δ.length = δ2.length := by rw [← L.len, ← L2.len, hl]
  refine ⟨by rw [backE_len, ← L2.len, hl], L2.sub, fun i d e => ?_, fun i c e => ?_, fun i j l c c' e e' q q' => ?_⟩
  · rcases backE_get hd e with ⟨h1, h2⟩ | ⟨h1, h2⟩
    · obtain ⟨v, a, b⟩ := L.va i d h2
      exact ⟨v, a, b.mono s⟩
    · rw [← hσ i h1]
      exact L2.va i d h2
  · rcases backE_get hd e with ⟨h1, h2⟩ | ⟨h1, h2⟩
    · exact absurd h2 (noOw_at no h1 c)
    · rw [← hσ i h1]
      exact L2.ow i c h2
  · rcases backE_get hd e with ⟨h1, h2⟩ | ⟨h1, h2⟩
    · exact absurd h2 (noOw_at no h1 c)
    · rcases backE_get hd e' with ⟨h1', h2'⟩ | ⟨h1', h2'⟩
      · exact absurd h2' (noOw_at no h1' c')
      · rw [← hσ i h1] at q
        rw [← hσ j h1'] at q'
        exact L2.dj i j l c c' h2 h2' q q'
/-- an object that no slot owns -/
theorem Rel.other {σ : L2.St} {H G : Hp} {δ : En} {D : Addr} {o : HO} (L : Rel K σ H G δ) (g : G D = none) (n : ¬ Ad σ δ D) : Rel K σ (upd H D o) G δ where
  len := L.len
  sub := fun a u h => by
    have : a ≠ D := fun z => by
      rw [z, g] at h
      cases h
    rw [upd_ne this]
    exact L.sub a u h
  va := L.va
  ow := fun i c e => by
    obtain ⟨l, h1, h2, h3⟩ := L.ow i c e
    have : l ≠ D := fun z => n (by rw [← z]; exact ⟨i, c, e, h1⟩)
    exact ⟨l, h1, h2, h3.mono (fun o q => by rw [upd_ne this]; exact q) .refl⟩
  dj := L.dj
def tcomp (S : DI) (Gd : DG) (C : DTT) (Te : DT) (vs : List Nat) : DT := fun δ Q => S δ fun items cs δ1 => noOw δ1 vs = true ∧ (∀ p ∈ cs, p.1 ∉ vs) ∧ ∃ I : Nat → List D → En → Prop, I 0 [] δ1 ∧ (∀ k acc δ, I k acc δ → ∀ p ∈ cs, δ[p.1]? = some (E.ow p.2)) ∧
  (∀ k x acc δ, items[k]? = some x → I k acc δ → Gd x (wipeE δ vs) fun δ2 => C δ2 fun b δ3 => if b = true then Te δ3 fun r δ4 => ∃ d, r.still δ4 = some d ∧ acc.length < sizeLine ∧ I (k + 1) (acc ++ [d]) (backE δ δ4 vs) else I (k + 1) acc (backE δ δ3 vs)) ∧
  (∀ acc δ, I items.length acc δ → Q (.fr (.l acc)) δ)
theorem snd_comp {gs vs : List Nat} {wi : TI} {g : TG} {tt : TT} {te : TE} {S : DI} {Gd : DG} {C : DTT} {Te : DT} (hi : SndI K wi S) (hg : SndG K gs g Gd) (ht : SndT K tt C) (he : Snd K te Te) (hgs : ∀ i ∈ gs, i ∈ vs) :
    Snd K (tLc wi g tt te vs) (tcomp S Gd C Te vs) := fun σ H G δ Q Q3 L h k => by
  refine hi σ H G δ _ _ L h fun items cs δ1 J H1 G1 L1 f1 le1 it q => ?_
  obtain ⟨no, nc, I, I0, Ic, It, Ie⟩ := q
  intro D hD
  have nD : ∀ δ', Le δ' δ1 → ¬ Ad σ δ' D := fun δ' le z => L1.there (le.ad z) hD
  obtain ⟨fD, sD⟩ := gr_new (G := G1) (o := .lst []) L1.sub hD
  refine ⟨fun i m H' => m = items.length - i ∧ i ≤ items.length ∧ ∃ G' δ' acc va, Rel K σ H' G' δ' ∧ Fr (fun a => Ad σ δ1 a ∨ a = D) (upd H1 D (.lst [])) G1 H' G' ∧ Le δ' δ1 ∧ (∀ v : Nat, v ∈ vs → δ'[v]? = δ1[v]?) ∧ H' D = some (.lst va) ∧ G' D = none ∧ AtL K G' va acc ∧ I i acc δ',
    ⟨items.length, by simp, Nat.zero_le _, G1, δ1, [], [], L1.grow fD sD, .refl, .refl, fun _ _ => rfl, upd_same, g_none L1.sub hD, .nil, I0⟩, ?_⟩
  rintro i m H' ⟨rfl, hi, G', δ', acc, va, L', f', le', dv, hH, hG, ha, hI⟩
  have no' : noOw δ' vs = true := List.all_eq_true.mpr fun v hv => by
    rw [dv v hv]
    exact List.all_eq_true.mp no v hv
  have ok := it σ H' G' δ' L' f'.sub fun p hp => ⟨Ic i acc δ' hI p hp, rfl⟩
  have fD' : Fr (fun a => Ad σ δ1 a ∨ a = D) H1 G1 (upd H1 D (.lst [])) G1 := fD.fr
  by_cases hlt : i < items.length
  · obtain ⟨hgo, hy⟩ := ok.1 i items[i] (List.getElem?_eq_getElem hlt)
    refine .inr ⟨hgo, fun H2 => ∃ G2 δ2 acc va, Rel K σ H2 G2 δ2 ∧ Fr (fun a => Ad σ δ1 a ∨ a = D) (upd H1 D (.lst [])) G1 H2 G2 ∧ Le δ2 δ1 ∧ (∀ v : Nat, v ∈ vs → δ2[v]? = δ1[v]?) ∧ H2 D = some (.lst va) ∧ G2 D = none ∧ AtL K G2 va acc ∧ I (i + 1) acc δ2,
      fun H2 z => ⟨items.length - (i + 1), by omega, rfl, hlt, z⟩, fun x H'' y => ?_⟩
    obtain ⟨G'', fg, sg, hx⟩ := hy x H'' y
    have L'' := L'.grow fg sg
    have Lw := L''.wipe vs
    have s0 : S3 K ⟨fun j l => ∃ c, (wipeE δ' vs)[j]? = some (E.ow c) ∧ (wipe σ vs)[j]? = some (some (V.ref l)), H'', G''⟩ (wipe σ vs) H'' G'' (wipeE δ' vs) := ⟨Lw, .refl, fun j c l e q => .inl ⟨c, e, q⟩, fun j l ⟨c, e, q⟩ => q⟩
    refine hg _ (fun j hj l z => ?_) (wipe σ vs) H'' G'' (wipeE δ' vs) x _ _ _ s0 hx (It i _ acc δ' (List.getElem?_eq_getElem hlt) hI) fun σ2 H2 G2 δ2 n2 le2 q2 => ?_
    · obtain ⟨c, e, q⟩ := z
      rcases wipeE_get e with ⟨_, z⟩ | ⟨z, _⟩
      · cases z
      · exact z (hgs j hj)
    have hσ : ∀ j : Nat, j ∉ vs → σ2[j]? = σ[j]? := fun j hj => (n2.st j fun z => hj (hgs j z)).trans (wipe_off hj)
    have hl2 : σ2.length = σ.length := n2.ln.trans (wipe_length σ vs)
    have fAll : ∀ {A : Addr → Prop} {Ha Ga Hb Gb : Hp}, Fr (fun a => Ad σ δ1 a ∨ a = D) (upd H1 D (.lst [])) G1 Ha Ga → Fr A Ha Ga Hb Gb → (∀ a, A a → Ad σ δ1 a ∨ (upd H1 D (.lst [])) a = none) → Fr (fun a => Ad σ δ1 a ∨ a = D) (upd H1 D (.lst [])) G1 Hb Gb := fun x y z => x.trans y fun a h => (z a h).imp .inl id
    have f2 := fAll f' fg (fun _ z => z.elim)
    have f3 := fAll f2 n2.f fun a z => .inl (le'.ad (ad_wipe z))
    have ow2 : ∀ l, Ad σ2 δ2 l → Ad σ δ1 l ∨ (upd H1 D (.lst [])) l = none := fun l z => (n2.ow l z).elim (fun z => .inl (le'.ad (ad_wipe z))) fun z => .inr (f2.free z)
    have nD2 : ∀ l, Ad σ2 δ2 l → l ≠ D := fun l z e => by
      subst e
      rcases ow2 l z with z | z
      · exact nD δ1 .refl z
      · rw [upd_same] at z
        cases z
    have keepD : ∀ {A : Addr → Prop} {Ha Ga Hb Gb : Hp}, Fr A Ha Ga Hb Gb → ¬ A D → Ha D = some (.lst va) → Ga D = none → Hb D = some (.lst va) ∧ Gb D = none := fun f na h g => ⟨f.h D _ na h, (f.n D na (by rw [h]; exact fun z => nomatch z)).trans g⟩
    obtain ⟨d1, g1⟩ := keepD fg (fun z => z) hH hG
    obtain ⟨d2, g2⟩ := keepD n2.f (fun z => nD δ' le' (ad_wipe z)) d1 g1
    refine ⟨?_, ht σ2 H2 G2 δ2 _ _ n2.s.L q2 fun b δ3 H3 G3 L3 f4 le3 q3 => ?_⟩
    · refine List.ext_getElem? fun j => ?_
      by_cases hj : j ∈ vs
      · by_cases hjl : j < σ.length
        · rw [wipe_at hj hjl, wipe_at hj (by rw [hl2]; exact hjl)]
        · rw [List.getElem?_eq_none (by rw [wipe_length]; omega), List.getElem?_eq_none (by rw [wipe_length]; omega)]
      · rw [wipe_off hj, wipe_off hj, hσ j hj]
    have f5 := fAll f3 f4 ow2
    obtain ⟨d3, g3⟩ := keepD f4 (fun z => nD2 D z rfl) d2 g2
    have bk : ∀ {δn : En} {Hn Gn : Hp}, Rel K σ2 Hn Gn δn → Le δn δ2 → Fr (fun a => Ad σ δ1 a ∨ a = D) (upd H1 D (.lst [])) G1 Hn Gn → Sub G' Gn → Rel K σ Hn Gn (backE δ' δn vs) ∧ Le (backE δ' δn vs) δ1 ∧ ∀ v : Nat, v ∈ vs → (backE δ' δn vs)[v]? = δ1[v]? := fun {δn Hn Gn} Ln len fn sn => by
      have hd : δ'.length = δn.length := by rw [← L'.len, ← Ln.len, hl2]
      refine ⟨L'.back no' Ln sn hσ hl2, fun j c e => ?_, fun v hv => (backE_in hd hv).trans (dv v hv)⟩
      rcases backE_get hd e with ⟨h1, h2⟩ | ⟨h1, h2⟩
      · exact absurd h2 (noOw_at no' h1 c)
      · obtain ⟨c2, h3⟩ := len j c h2
        obtain ⟨c3, h4⟩ := le2 j c2 h3
        rcases wipeE_get h4 with ⟨_, z⟩ | ⟨_, z⟩
        · cases z
        · exact le' j c3 z
    cases b with
    | true =>
      refine he σ2 H3 G3 δ3 _ _ L3 q3 fun r δ4 y H4 G4 L4 f6 le4 rr q4 => ?_
      obtain ⟨d, ed, hlen, q4⟩ := q4
      obtain ⟨G5, L5, f7, s7, hy5, _⟩ := settle L3 L4 f6 le4 rr ed
      have nD3 : ¬ Ad σ2 δ3 D := fun z => nD2 D (le3.ad z) rfl
      obtain ⟨d4, g4⟩ := keepD f7 nD3 d3 g3
      have f8 := fAll f5 f7 fun a z => ow2 a (le3.ad z)
      have sG : Sub G' G5 := (((fg.sub.trans n2.f.sub).trans f4.sub).trans f7.sub)
      obtain ⟨Lb, leb, db⟩ := bk L5 (le4.trans le3) f8 sG
      have hz : va.length < sizeLine := by rw [ha.length]; exact hlen
      refine ⟨va, d4, hz, G5, backE δ' δ4 vs, acc ++ [d], va ++ [y], Lb.other g4 (nD _ leb), f8.trans (fr_upd (A := fun a => a = D) rfl) fun a z => .inl (.inr z), leb, db, upd_same, g4, (ha.mono sG).append (.one hy5), q4⟩
    | false =>
      have sG : Sub G' G3 := ((fg.sub.trans n2.f.sub).trans f4.sub)
      obtain ⟨Lb, leb, db⟩ := bk L3 le3 f5 sG
      exact ⟨G3, backE δ' δ3 vs, acc, va, Lb, f5, leb, db, d3, g3, ha.mono sG, q3⟩
  · have e : i = items.length := by omega
    subst e
    refine .inl ⟨ok.2, k (.fr (.l acc)) δ' _ H' G' L' ((f1.trans fD' fun a z => ?_).trans f' fun a z => ?_) (le'.trans le1) ⟨D, rfl, f1.free hD, hG, va, hH, ha⟩ (Ie acc δ' hI)⟩
    · rcases z with z | rfl
      · exact .inl (le1.ad z)
      · exact .inr (f1.free hD)
    · rcases z with z | rfl
      · exact .inl (le1.ad z)
      · exact .inr (f1.free hD)
end
end L3
namespace L3
open PySem PySem.Spec PyProof.Rows L2
section
variable {K : PySem.W.Frag}
/-- the arguments behind a call: what was owned, as it is now -/
def outs : En → En → En
  | .ow _ :: δ, e :: δ' => e :: outs δ δ'
  | e :: δ, _ :: δ' => e :: outs δ δ'
  | _, _ => []
theorem outs_len : ∀ {δ δ' : En}, δ.length ≤ δ'.length → (outs δ δ').length = δ.length
  | [], _, _ => by simp [outs]
  | .ow _ :: δ, _ :: δ', h => by simp [outs]; exact outs_len (by simpa using h)
  | .va _ :: δ, _ :: δ', h => by simp [outs]; exact outs_len (by simpa using h)
  | .no :: δ, _ :: δ', h => by simp [outs]; exact outs_len (by simpa using h)
  | _ :: _, [], h => by simp at h
theorem outs_get : ∀ {δ δ' : En} {i : Nat} {e : E}, (outs δ δ')[i]? = some e → (∃ c, δ[i]? = some (E.ow c) ∧ δ'[i]? = some e) ∨ (δ[i]? = some e ∧ ∀ c, e ≠ .ow c)
  | [], _, i, e, h => by simp [outs] at h
  | .ow c :: δ, e' :: δ', 0, e, h => by
    simp [outs] at h
    subst h
    exact .inl ⟨c, rfl, rfl⟩
  | .ow c :: δ, e' :: δ', i + 1, e, h => by
    simp [outs] at h
    rcases outs_get h with ⟨c, h1, h2⟩ | ⟨h1, h2⟩
    · exact .inl ⟨c, by simpa using h1, by simpa using h2⟩
    · exact .inr ⟨by simpa using h1, h2⟩
  | .va d :: δ, e' :: δ', 0, e, h => by
    simp [outs] at h
    subst h
    exact .inr ⟨rfl, fun c z => nomatch z⟩
  | .va c :: δ, e' :: δ', i + 1, e, h => by
    simp [outs] at h
    rcases outs_get h with ⟨c, h1, h2⟩ | ⟨h1, h2⟩
    · exact .inl ⟨c, by simpa using h1, by simpa using h2⟩
    · exact .inr ⟨by simpa using h1, h2⟩
  | .no :: δ, e' :: δ', 0, e, h => by
    simp [outs] at h
    subst h
    exact .inr ⟨rfl, fun c z => nomatch z⟩
  | .no :: δ, e' :: δ', i + 1, e, h => by
    simp [outs] at h
    rcases outs_get h with ⟨c, h1, h2⟩ | ⟨h1, h2⟩
    · exact .inl ⟨c, by simpa using h1, by simpa using h2⟩
    · exact .inr ⟨by simpa using h1, h2⟩
  | _ :: _, [], i, e, h => by simp [outs] at h
theorem app_get {α : Type} {xs ys : List α} {i : Nat} {x : α} (h : (xs ++ ys)[i]? = some x) : xs[i]? = some x ∨ x ∈ ys := by
  by_cases z : i < xs.length
  · rw [List.getElem?_append_left z] at h
    exact .inl h
  · rw [List.getElem?_append_right (by omega)] at h
    exact .inr (List.mem_of_getElem? h)
/-- A DEF'S BODY keeps its promise over data -/
theorem body_ok {ps as : List Nat} {t : TS} {T : DS} {N : List Str} {n : Nat} {sp : DSp} (a : SndSP K ps as t T)
    (hsp : ∀ δ Q3, sp δ Q3 → δ.length = n → (∀ (i : Nat) c, δ[i]? = some (E.ow c) → i ∈ ps ∧ i ∉ as) ∧ T { nx := fun δ' => Q3 (.va .non) (outs δ δ'), rt := fun r δ' => Q3 r (outs δ δ') } (δ ++ List.replicate (N.length - n) E.no)) :
    ∀ (vs : List V) (H : Hp) (Q : VK) (W : XK), up K n sp vs H Q W → t { nx := fun _ H' => Q .non H', rt := Q } (start N vs) H := fun vs H Q W h => by
  obtain ⟨hn, G, δ, Q3, L, hs, k⟩ := h
  have hl : δ.length = n := by
    have := L.len
    rw [List.length_map] at this
    omega
  obtain ⟨h1, h2⟩ := hsp δ Q3 hs hl
  have lv : (vs.map some).length = δ.length := L.len
  have gl : ∀ (i : Nat) (x : Option V), (vs.map some)[i]? = some x → (start N vs)[i]? = some x := fun i x e => by
    unfold L2.start
    rw [List.getElem?_append_left (List.getElem?_eq_some_iff.mp e).1]
    exact e
  have gd : ∀ (i : Nat) (e : E), (δ ++ List.replicate (N.length - n) E.no)[i]? = some e → e ≠ .no → δ[i]? = some e := fun i e h ne => by
    rcases app_get h with h | h
    · exact h
    · exact absurd (List.eq_of_mem_replicate h) ne
  have L0 : Rel K (start N vs) H G (δ ++ List.replicate (N.length - n) E.no) := by
    refine ⟨by unfold L2.start; rw [List.length_append, List.length_append, List.length_replicate, List.length_replicate, lv, hn], L.sub, fun i d e => ?_, fun i c e => ?_, fun i j l c c' e e' q q' => ?_⟩
    · obtain ⟨v, q1, q2⟩ := L.va i d (gd i _ e fun z => nomatch z)
      exact ⟨v, gl i _ q1, q2⟩
    · obtain ⟨l, q1, q2⟩ := L.ow i c (gd i _ e fun z => nomatch z)
      exact ⟨l, gl i _ q1, q2⟩
    · have a1 := gd i _ e fun z => nomatch z
      have a2 := gd j _ e' fun z => nomatch z
      obtain ⟨l1, q1, _⟩ := L.ow i c a1
      obtain ⟨l2, q2, _⟩ := L.ow j c' a2
      have b1 := gl i _ q1
      have b2 := gl j _ q2
      rw [q] at b1
      rw [q'] at b2
      cases b1
      cases b2
      exact L.dj i j l c c' a1 a2 q1 q2
  have s0 : S3 K ⟨fun i l => ∃ c, δ[i]? = some (E.ow c) ∧ (vs.map some)[i]? = some (some (V.ref l)), H, G⟩ (start N vs) H G (δ ++ List.replicate (N.length - n) E.no) :=
    ⟨L0, .refl, fun j c l e q => .inl ⟨c, gd j _ e (fun z => nomatch z), by
      have a1 := gd j _ e fun z => nomatch z
      obtain ⟨l1, q1, _⟩ := L.ow j c a1
      have b1 := gl j _ q1
      rw [q] at b1
      cases b1
      exact q1⟩, fun j l ⟨c, e, q⟩ => gl j _ q⟩
  -- the arguments at the end
  have fin : ∀ σ' H' G' δ', Nxt K ⟨fun i l => ∃ c, δ[i]? = some (E.ow c) ∧ (vs.map some)[i]? = some (some (V.ref l)), H, G⟩ as (start N vs) H G (δ ++ List.replicate (N.length - n) E.no) σ' H' G' δ' → Rel K (vs.map some) H' G' (outs δ δ') ∧ Fr (Ad (vs.map some) δ) H G H' G' ∧ Le (outs δ δ') δ := fun σ' H' G' δ' m => by
    have hle : δ.length ≤ δ'.length := by
      have e1 := m.ln
      rw [m.s.L.len, L0.len, List.length_append] at e1
      omega
    have sl : ∀ (i : Nat) c, δ[i]? = some (E.ow c) → ∃ l, (vs.map some)[i]? = some (some (V.ref l)) ∧ σ'[i]? = some (some (V.ref l)) := fun i c e => by
      obtain ⟨l, q1, _⟩ := L.ow i c e
      exact ⟨l, q1, m.s.par i l ⟨c, e, q1⟩⟩
    refine ⟨⟨by rw [outs_len hle]; exact lv, m.s.L.sub, fun i d e => ?_, fun i c e => ?_, fun i j l c c' e e' q q' => ?_⟩, m.s.f.mono fun a ⟨j, c, e, q⟩ => .inl ⟨j, c, e, q⟩, fun i c e => ?_⟩
    · rcases outs_get e with ⟨c, e1, e2⟩ | ⟨e1, _⟩
      · obtain ⟨l, q1, q2⟩ := sl i c e1
        obtain ⟨v, q3, q4⟩ := m.s.L.va i d e2
        rw [q2] at q3
        cases q3
        exact ⟨_, q1, q4⟩
      · obtain ⟨v, q1, q2⟩ := L.va i d e1
        exact ⟨v, q1, q2.mono m.f.sub⟩
    · rcases outs_get e with ⟨c0, e1, e2⟩ | ⟨_, e1⟩
      · obtain ⟨l, q1, q2⟩ := sl i c0 e1
        obtain ⟨l', q3, q4⟩ := m.s.L.ow i c e2
        rw [q2] at q3
        cases q3
        exact ⟨l, q1, q4⟩
      · exact absurd rfl (e1 c)
    · rcases outs_get e with ⟨c0, e1, e2⟩ | ⟨_, e1⟩
      · rcases outs_get e' with ⟨c1, e1', e2'⟩ | ⟨_, e1'⟩
        · obtain ⟨l1, q1, q2⟩ := sl i c0 e1
          obtain ⟨l2, q3, q4⟩ := sl j c1 e1'
          rw [q] at q1
          rw [q'] at q3
          cases q1
          cases q3
          exact m.s.L.dj i j l c c' e2 e2' q2 q4
        · exact absurd rfl (e1' c')
      · exact absurd rfl (e1 c)
    · rcases outs_get e with ⟨c0, e1, _⟩ | ⟨_, e1⟩
      · exact ⟨c0, e1⟩
      · exact absurd rfl (e1 c)
  refine a ⟨fun i l => ∃ c, δ[i]? = some (E.ow c) ∧ (vs.map some)[i]? = some (some (V.ref l)), H, G⟩ (fun i l z => by obtain ⟨c, e, _⟩ := z; exact (h1 i c e).1) (fun i hi l z => by obtain ⟨c, e, _⟩ := z; exact (h1 i c e).2 hi) (start N vs) H G _ _ _ s0 h2 ⟨fun σ' H' G' δ' m q => ?_, fun _ _ _ _ _ q => q, fun _ _ _ _ _ q => q, fun σ' H' G' δ' r v m rr nr q => ?_⟩
  · obtain ⟨L', f', le'⟩ := fin σ' H' G' δ' m
    exact k (.va .non) _ .non H' G' L' f' le' At.non (fun i z => nomatch z) q
  · obtain ⟨L', f', le'⟩ := fin σ' H' G' δ' m
    exact k r _ v H' G' L' f' le' rr nr q
/-- a result that may be stored: how -/
def PutOk (K : PySem.W.Frag) (H0 H G : Hp) (v : V) (e : E) : Prop := (∃ d, e = .va d ∧ At K G v d) ∨ ∃ c l, e = .ow c ∧ v = .ref l ∧ H0 l = none ∧ G l = none ∧ AtC K H G l c
theorem Nxt.put {F : FE} {as : List Nat} {σ0 σ : L2.St} {H0 G0 H G : Hp} {δ0 δ : En} {i : Nat} {v : V} {e : E} (n : Nxt K F as σ0 H0 G0 δ0 σ H G δ) (hp : ∀ l, ¬ F.P i l) (hf : ∀ a, H0 a = none → F.HE a = none) (p : PutOk K H0 H G v e) (na : ∀ l, v = .ref l → (∃ c, e = .ow c) → ¬ Ad σ δ l) :
    Nxt K F (as ++ [i]) σ0 H0 G0 δ0 (σ.set i (some v)) H G (δ.set i e) := by
  rcases p with ⟨d, rfl, h⟩ | ⟨c, l, rfl, rfl, h0, g, h⟩
  · exact n.trans (Nxt.setV n.s hp h)
  · have nl := na l rfl ⟨c, rfl⟩
    refine ⟨⟨n.s.L.setO g h nl, n.s.f, fun j c' l' e q => ?_, fun j l z => ?_⟩, n.f, fun l' z => ?_, fun j hj => ?_, ?_⟩
    · rcases set_get e with ⟨rfl, e2, hi⟩ | ⟨ne, e2⟩
      · rw [List.getElem?_set_self (by rw [n.s.L.len]; exact hi)] at q
        cases q
        exact .inr (hf _ h0)
      · rw [List.getElem?_set_ne ne] at q
        exact n.s.own j c' l' e2 q
    · have ne : i ≠ j := fun q => hp l (by rw [q]; exact z)
      rw [List.getElem?_set_ne ne]
      exact n.s.par j l z
    · obtain ⟨j, c', e, q⟩ := z
      rcases set_get e with ⟨rfl, e2, hi⟩ | ⟨ne, e2⟩
      · rw [List.getElem?_set_self (by rw [n.s.L.len]; exact hi)] at q
        cases q
        exact .inr h0
      · rw [List.getElem?_set_ne ne] at q
        exact n.ow l' ⟨j, c', e2, q⟩
    · have ne : i ≠ j := fun z => hj (List.mem_append_right _ (by rw [z]; exact List.mem_cons_self))
      rw [List.getElem?_set_ne ne]
      exact n.st j fun z => hj (List.mem_append_left _ z)
    · rw [List.length_set]
      exact n.ln
theorem ad_put {σ : L2.St} {δ : En} {i : Nat} {v : V} {e : E} {l : Addr} (hl : σ.length = δ.length) (h : Ad (σ.set i (some v)) (δ.set i e) l) : Ad σ δ l ∨ (v = .ref l ∧ ∃ c, e = .ow c) := by
  obtain ⟨j, c, e1, q⟩ := h
  rcases set_get e1 with ⟨rfl, e2, hi⟩ | ⟨ne, e2⟩
  · rw [List.getElem?_set_self (by rw [hl]; exact hi)] at q
    cases q
    exact .inr ⟨rfl, c, e2⟩
  · rw [List.getElem?_set_ne ne] at q
    exact .inl ⟨j, c, e2, q⟩
/-- the stores of a list of results: own where the list says so -/
def putE (δ : En) : Bool → R → Option E
  | true, .fr c => some (.ow c)
  | true, r => (r.still δ).map E.va
  | false, r => (r.still δ).map E.va
def spar2 (i j : Nat) (m1 m2 : Bool) (TA : DTA) : DS := fun D δ => TA δ fun rs δ1 => ∃ r1 r2 e1 e2, rs = [r1, r2] ∧ putE δ1 m1 r1 = some e1 ∧ putE δ1 m2 r2 = some e2 ∧ D.nx ((δ1.set i e1).set j e2)
/-- results made ready for their stores -/
theorem puts_ok {σ : L2.St} {H0 G0 H G : Hp} {δ0 δ : En} {rs : List R} {vs : List V} (L0 : Rel K σ H0 G0 δ0) (L : Rel K σ H G δ) (f : Fr (Ad σ δ0) H0 G0 H G) (le : Le δ δ0) (rr : RRs K σ H0 H G rs vs) (ms : List Bool) :
    ∃ G', Rel K σ H G' δ ∧ Fr (Ad σ δ0) H0 G0 H G' ∧ ∀ (j : Nat) r m v e, rs[j]? = some r → ms[j]? = some m → vs[j]? = some v → putE δ m r = some e → PutOk K H0 H G' v e ∧ ∀ c, e = .ow c → r = .fr c ∧ m = true := by
  obtain ⟨G', L', f', s', gz, hz⟩ := freezeZ L0 L f le (fun a => ∃ (j : Nat) (c : Cn), rs[j]? = some (R.fr c) ∧ ms[j]? = some false ∧ vs[j]? = some (V.ref a)) fun a ⟨j, c, e1, e2, e3⟩ => by
    obtain ⟨v, h1, l, h2, h3, h4, _⟩ := rr.get e1
    rw [e3] at h1
    cases h1
    cases h2
    exact ⟨h3, h4⟩
  refine ⟨G', L', f', fun j r m v e h1 h2 h3 h4 => ?_⟩
  obtain ⟨v', q1, q2⟩ := rr.get h1
  rw [h3] at q1
  cases q1
  have va : ∀ r, rs[j]? = some r → RR K σ H0 H G r v → (∀ c, r ≠ .fr c) → ∀ d, r.still δ = some d → At K G' v d := fun r hr q nf d e => by
    cases r with
    | va d' =>
      cases e
      exact At.mono s' q
    | fr c => exact absurd rfl (nf c)
    | rf i =>
      have e2 : datS δ[i]? = some d := e
      unfold datS at e2
      split at e2
      · rename_i d' p
        cases e2
        obtain ⟨v', p1, p2⟩ := L'.va i _ p
        rw [show σ[i]? = some (some v) from q] at p1
        cases p1
        exact p2
      · cases e2
  cases r with
  | fr c =>
    obtain ⟨l, rfl, n, g, hc⟩ := q2
    cases m with
    | true =>
      have h5 : some (E.ow c) = some e := h4
      cases h5
      refine ⟨.inr ⟨c, l, rfl, rfl, n, ?_, hc.mono (fun _ z => z) s'⟩, fun c' z => by cases z; exact ⟨rfl, rfl⟩⟩
      rw [gz l fun ⟨j', c', a, b, d⟩ => by
        have := rr.apart h1 a h3 d
        subst this
        rw [h2] at b
        cases b]
      exact g
    | false =>
      have h5 : c.dat.map E.va = some e := h4
      obtain ⟨d, z1, rfl⟩ := Option.map_eq_some_iff.mp h5
      exact ⟨.inl ⟨d, rfl, hz l c d ⟨j, c, h1, h2, h3⟩ hc z1⟩, fun c' z => nomatch z⟩
  | va d =>
    have h5 : e = .va d := by cases m <;> (have h6 : some (E.va d) = some e := h4; cases h6; rfl)
    subst h5
    exact ⟨.inl ⟨d, rfl, va _ h1 q2 (fun c z => nomatch z) d rfl⟩, fun c' z => nomatch z⟩
  | rf i =>
    have h5 : ((R.rf i).still δ).map E.va = some e := by cases m <;> exact h4
    obtain ⟨d, z1, rfl⟩ := Option.map_eq_some_iff.mp h5
    exact ⟨.inl ⟨d, rfl, va _ h1 q2 (fun c z => nomatch z) d z1⟩, fun c' z => nomatch z⟩
theorem snds_par2 {i j : Nat} {t : TA} {TA : DTA} (m1 m2 : Bool) (a : SndA K t TA) : SndS K [i, j] (tPar i j t) (spar2 i j m1 m2 TA) := fun F hp σ H G δ D3 D s h g => by
  refine a σ H G δ _ _ s.L h fun rs δ1 vs H1 G1 L1 f1 le1 rr q => ?_
  obtain ⟨r1, r2, e1, e2, rfl, p1, p2, q⟩ := q
  obtain ⟨v1, hv1, _⟩ := rr.get (i := 0) rfl
  obtain ⟨v2, hv2, _⟩ := rr.get (i := 1) rfl
  have ev : vs = [v1, v2] := by
    have := rr.length
    match vs, this, hv1, hv2 with
    | [_, _], _, a, b =>
      cases a
      cases b
      rfl
  subst ev
  obtain ⟨G2, L2, f2, ok⟩ := puts_ok s.L L1 f1 le1 rr [m1, m2]
  obtain ⟨k1, o1⟩ := ok 0 r1 m1 v1 e1 rfl rfl rfl p1
  obtain ⟨k2, o2⟩ := ok 1 r2 m2 v2 e2 rfl rfl rfl p2
  have n : Nxt K F [] σ H G δ σ H1 G2 δ1 := .step s L2 f2 le1
  have hf : ∀ a, H a = none → F.HE a = none := fun a z => s.f.free z
  have own : ∀ l v e, PutOk K H H1 G2 v e → v = .ref l → (∃ c, e = .ow c) → ¬ Ad σ δ1 l := fun l v e p ev ⟨c, ec⟩ z => by
    rcases p with ⟨d, rfl, _⟩ | ⟨c', l', _, e', h0, _⟩
    · cases ec
    · rw [ev] at e'
      cases e'
      exact s.L.there (le1.ad z) h0
  have n1 := n.put (hp i List.mem_cons_self) hf k1 fun l e w => own l v1 e1 k1 e w
  have n2 := n1.put (hp j (List.mem_cons_of_mem _ List.mem_cons_self)) hf k2 fun l e w z => by
    rcases ad_put L2.len z with z | ⟨z1, c1, z2⟩
    · exact own l v2 e2 k2 e w z
    · obtain ⟨c2, w2⟩ := w
      obtain ⟨a1, _⟩ := o1 c1 z2
      obtain ⟨a2, _⟩ := o2 c2 w2
      have := rr.apart (i := 0) (j := 1) (by rw [a1]; rfl) (by rw [a2]; rfl) (by rw [z1]; rfl) (by rw [e]; rfl)
      cases this
  exact ⟨v1, v2, rfl, g.nx _ _ _ _ (n2.mono fun k hk => by simpa using hk) q⟩
end
end L3
namespace L3
open PySem PySem.Spec PyProof.Rows L2
/-- the built-ins are what they are -/
structure Blt (mg : Str → Option Value) : Prop where
  len : mg "len" = none
  range : mg "range" = none
  isinstance : mg "isinstance" = none
  int : mg "int" = none
  bool : mg "bool" = none
  str : mg "str" = none
  list : mg "list" = none
  tuple : mg "tuple" = none
  dict : mg "dict" = none
  all : mg "all" = none
  any : mg "any" = none
  sum : mg "sum" = none
  enumerate : mg "enumerate" = none
  zip : mg "zip" = none
  max : mg "max" = none
  min : mg "min" = none
  abs : mg "abs" = none
  sorted : mg "sorted" = none
  reversed : mg "reversed" = none
  set : mg "set" = none
  repr : mg "repr" = none
  divmod : mg "divmod" = none
/-- a def at the top keeps its promise -/
structure FP (P : Program) (w : World) (K : PySem.W.Frag) (mg : Str → Option Value) (base : Heap) (x : Str) (k n : Nat) (sp : DSp) : Prop where
  ex : ∃ fd ps, FnOk P w K mg base CX0 k (He.ga K x) fd ps (up K n sp) ∧ Binds K fd ps []
  kp : PySem.W.keepIn K (.ref (He.ga K x)) = true
  at_ : mg x = some (.ref (He.ga K x))
/-- a method -/
structure MP (P : Program) (w : World) (K : PySem.W.Frag) (mg : Str → Option Value) (base : Heap) (cn m : Str) (k n : Nat) (sp : DSp) : Prop where
  ex : ∃ fd ps, FnOk P w K mg base CX0 k (He.ma K (He.ga K cn) m) fd ps (up K n sp) ∧ Binds K fd ps []
  me : Meth K (He.ga K cn) m (He.ma K (He.ga K cn) m)
  cl : Cls K (He.ga K cn)
/-- a class that is made by its __init__ -/
structure KP (P : Program) (w : World) (K : PySem.W.Frag) (mg : Str → Option Value) (base : Heap) (cn : Str) (k n : Nat) (sp : DSp) : Prop where
  ex : ∃ fd ps, FnOk P w K mg base CX0 k (He.ma K (He.ga K cn) "__init__") fd ps (up K n sp) ∧ Binds K fd ps []
  mkc : Mk K (He.ga K cn) (He.ma K (He.ga K cn) "__init__")
  at_ : mg cn = some (.ref (He.ga K cn))
theorem Room.u65 {k : Nat} {A : Around} (r : Room k A) : A.units + 65 < cLine := by have := r.un; omega
section
variable {X : Cx} {x m cn : Str} {p pos apos : Pos} {e o : Expr} {es : List Expr} {t : TA} {ta : TE} {k n j : Nat} {sp : DSp}
theorem pe_f (h : FP X.prog X.w X.K X.mg X.base x k n sp) (hr : Room k X.A) (hg : Gl X x) (ha : PA X (e :: es) t) (hdb : (x == ("__debug__" : Str)) = false := by decide) (he : starEach (e :: es) X.env = (false, eval e X.env) :: starEach es X.env := by rfl)
    (hpl : (backTo pos (starEach es X.env)).any (·.1) = false := by rfl) : PE X (.Call (.Name x p) (e :: es) [] pos) (tCall (up X.K n sp) [] E0 t) := by
  obtain ⟨fd, ps, F, b⟩ := h.ex
  exact pe_call F hr hg h.at_ h.kp b .nil pass0 ha hdb he hpl
theorem pe_new (h : KP X.prog X.w X.K X.mg X.base cn k n sp) (hr : Room (k + 1) X.A) (hg : Gl X cn) (ha : PA X (e :: es) t) (hdb : (cn == ("__debug__" : Str)) = false := by decide) (he : starEach (e :: es) X.env = (false, eval e X.env) :: starEach es X.env := by rfl)
    (hpl : (backTo pos (starEach es X.env)).any (·.1) = false := by rfl) : PE X (.Call (.Name cn p) (e :: es) [] pos) (tMake (He.ga X.K cn) (up X.K n sp) [] E0 t) := by
  obtain ⟨fd, ps, F, b⟩ := h.ex
  exact pe_make h.mkc F hr hg h.at_ b .nil pass0 ha hdb he hpl
theorem pe_m {pl : Sem Bool} (h : MP X.prog X.w X.K X.mg X.base cn m k n sp) (hr : Room k X.A) (he : PE X o ta) (ha : PA X (e :: es) t)
    (hst : starEach (e :: es) X.env = (false, eval e X.env) :: starEach es X.env := by rfl) (hpl : (backTo pos (starEach es X.env)).any (·.1) = false := by rfl)
    (ht : eval (.Call (.Attribute o m apos) (e :: es) [] pos) X.env = (do
      let ov ← eval o X.env
      standAt apos.atName
      let (f, first) ← holding [ov] (getMethod ov m pl)
      callWith pos f first (backTo pos (starEach (e :: es) X.env)) (backToKw pos (keywordEach [] X.env))) := by rfl) :
    PE X (.Call (.Attribute o m apos) (e :: es) [] pos) (tMeth (He.ga X.K cn) m (up X.K n sp) [] E0 ta t) := by
  obtain ⟨fd, ps, F, b⟩ := h.ex
  exact pe_meth (pl := pl) he h.cl h.me F hr b .nil pass0 ha hst hpl ht
theorem pe_gs {z : Str} (h : ∃ t, X.mg x = some (.str z t)) (hg : Gl X x) (hd : (x == ("__debug__" : Str)) = false := by decide) : PE X (.Name x pos) (tC (.str z)) := by
  obtain ⟨t, h⟩ := h
  exact pe_glob hg h ⟨t, rfl⟩ hd
theorem pe_gi {i : Int} (h : ∃ t, X.mg x = some (.int i t)) (hg : Gl X x) (hd : (x == ("__debug__" : Str)) = false := by decide) : PE X (.Name x pos) (tC (.int i)) := by
  obtain ⟨t, h⟩ := h
  exact pe_glob hg h ⟨t, rfl⟩ hd
end
end L3
namespace L3
open PySem PySem.Spec PyProof.Rows L2
section
variable {K : PySem.W.Frag}
def zE : Option E → Option D
  | some (.va d) => some d
  | some (.ow c) => c.dat
  | _ => none
def tvz (i : Nat) : DT := fun δ Q => ∃ d, zE δ[i]? = some d ∧ Q (.va d) (δ.set i (.va d))
theorem snd_varz {i : Nat} : Snd K (tVar i) (tvz i) := fun σ H G δ Q Q3 L h k => by
  obtain ⟨d, e, q⟩ := h
  unfold zE at e
  split at e
  · rename_i d' e2
    cases e
    obtain ⟨v, h1, h2⟩ := L.va i d e2
    have hs : δ.set i (.va d) = δ := by
      refine List.ext_getElem? fun j => ?_
      by_cases z : i = j
      · subst z
        rw [List.getElem?_set_self (List.getElem?_eq_some_iff.mp e2).1, e2]
      · rw [List.getElem?_set_ne z]
    rw [hs] at q
    exact ⟨v, h1, k (.va d) δ v H G L .refl .refl h2 q⟩
  · rename_i c e2
    obtain ⟨l, h1, h2, h3⟩ := L.ow i c e2
    obtain ⟨o, h4, s1, ha⟩ := freeze h3 e h2
    have ad : Ad σ δ l := ⟨i, c, e2, h1⟩
    refine ⟨.ref l, h1, k (.va d) (δ.set i (.va d)) (.ref l) H (upd G l o) ⟨by rw [List.length_set]; exact L.len, fun a u g => ?_, fun j d' e3 => ?_, fun j c' e3 => ?_, fun j j' l' c1 c2 e3 e4 q3 q4 => ?_⟩ ⟨fun _ _ _ z => z, s1, fun a na _ => ?_, fun _ z => z⟩ (Le.setV i d) ha q⟩
    · by_cases z : a = l
      · subst z
        rw [upd_same] at g
        cases g
        exact h4
      · rw [upd_ne z] at g
        exact L.sub a u g
    · rcases set_get e3 with ⟨rfl, e5, _⟩ | ⟨ne, e5⟩
      · cases e5
        exact ⟨.ref l, h1, ha⟩
      · obtain ⟨v, q1, q2⟩ := L.va j d' e5
        exact ⟨v, q1, q2.mono s1⟩
    · rcases set_get e3 with ⟨rfl, e5, _⟩ | ⟨ne, e5⟩
      · cases e5
      · obtain ⟨l2, q1, q2, q3⟩ := L.ow j c' e5
        have nl : l2 ≠ l := fun z => ne (L.dj i j l c c' e2 e5 h1 (by rw [← z]; exact q1))
        exact ⟨l2, q1, by rw [upd_ne nl]; exact q2, q3.mono (fun _ z => z) s1⟩
    · rcases set_get e3 with ⟨rfl, e5, _⟩ | ⟨ne, e5⟩
      · cases e5
      · rcases set_get e4 with ⟨rfl, e6, _⟩ | ⟨ne', e6⟩
        · cases e6
        · exact L.dj j j' l' c1 c2 e5 e6 q3 q4
    · have : a ≠ l := fun z => na (by rw [z]; exact ad)
      rw [upd_ne this]
  · cases e
def tyes : DTT := fun δ Q => Q true δ
theorem sndt_yes : SndT K tYes tyes := fun σ H G δ Q Q3 L h k => k true δ H G L .refl .refl h
def popF1 : List D → List D → (D → List D → Prop) → Prop := fun xs ds Q => ds ≠ [] ∧ popF xs ds Q
def ipaddF : D → D → (R → Prop) → Prop
  | .int i, .int j, Q => Q (.va (.int (i + j)))
  | _, _, _ => False
theorem snd_ipadd : Snd2 K (ipI fun i j => i + j) ipaddF := fun H G x y d e Q Q3 s hx hy hF k => by
  unfold ipaddF at hF
  split at hF
  · obtain rfl := hx
    obtain rfl := hy
    exact ⟨_, _, rfl, rfl, k.va s (.int _) hF⟩
  · exact hF.elim
def keyD : D → Option Key
  | .int i => some (.inl i)
  | .str x => some (.inr x)
  | _ => none
def valD (kvs : List (Key × D)) (k : Key) : Option D := (kvs.find? fun kv => decide (kv.1 = k)).map (·.2)
def putD (kvs : List (Key × D)) (k : Key) (v : D) : List (Key × D) :=
  if (kvs.any fun kv => decide (kv.1 = k)) = true then kvs.map (fun kv => if kv.1 = k then (kv.1, v) else kv) else kvs ++ [(k, v)]
theorem AtKV.val {G : Hp} {k : Key} : ∀ {vs : List (Key × V)} {ds : List (Key × D)}, AtKV K G vs ds → (∀ d, valD ds k = some d → ∃ v, valV vs k = some v ∧ At K G v d) ∧ (valV vs k).isSome = (valD ds k).isSome
  | _, _, .nil => ⟨fun d h => by simp [valD] at h, rfl⟩
  | _, _, .cons (a := p) (b := q) h t => by
    obtain ⟨e, a⟩ := h
    obtain ⟨ih1, ih2⟩ := AtKV.val (k := k) t
    by_cases z : p.1 = k
    · have z' : q.1 = k := by rw [← e]; exact z
      refine ⟨fun d hd => ?_, ?_⟩
      · simp [valD, List.find?_cons, z'] at hd
        subst hd
        exact ⟨p.2, valV_pos z, a⟩
      · rw [valV_pos z]
        simp [valD, List.find?_cons, z']
    · have z' : ¬ q.1 = k := by rw [← e]; exact z
      refine ⟨fun d hd => ?_, ?_⟩
      · rw [valV_neg z]
        exact ih1 d (by simpa [valD, List.find?_cons, z'] using hd)
      · rw [valV_neg z, ih2]
        simp [valD, List.find?_cons, z']
theorem AtKV.any {G : Hp} {k : Key} : ∀ {vs : List (Key × V)} {ds : List (Key × D)}, AtKV K G vs ds → (vs.any fun kv => decide (kv.1 = k)) = (ds.any fun kv => decide (kv.1 = k))
  | _, _, .nil => rfl
  | _, _, .cons h t => by
    rw [List.any_cons, List.any_cons, AtKV.any t, h.1]
theorem AtKV.mapk {G : Hp} {k : Key} {v : V} {d : D} (h : At K G v d) : ∀ {vs : List (Key × V)} {ds : List (Key × D)}, AtKV K G vs ds → AtKV K G (vs.map fun kv => if kv.1 = k then (kv.1, v) else kv) (ds.map fun kv => if kv.1 = k then (kv.1, d) else kv)
  | _, _, .nil => .nil
  | _, _, .cons (a := p) (b := q) a t => by
    obtain ⟨e, b⟩ := a
    refine .cons ?_ (AtKV.mapk h t)
    show (if p.1 = k then (p.1, v) else p).1 = (if q.1 = k then (q.1, d) else q).1 ∧ At K G (if p.1 = k then (p.1, v) else p).2 (if q.1 = k then (q.1, d) else q).2
    by_cases z : p.1 = k
    · have z' : q.1 = k := by rw [← e]; exact z
      rw [if_pos z, if_pos z']
      exact ⟨e, h⟩
    · have z' : ¬ q.1 = k := by rw [← e]; exact z
      rw [if_neg z, if_neg z']
      exact ⟨e, b⟩
theorem AtKV.app {G : Hp} {p : Key × V} {q : Key × D} (h : p.1 = q.1 ∧ At K G p.2 q.2) : ∀ {vs : List (Key × V)} {ds : List (Key × D)}, AtKV K G vs ds → AtKV K G (vs ++ [p]) (ds ++ [q])
  | _, _, .nil => .cons h .nil
  | _, _, .cons a t => .cons a (AtKV.app h t)
theorem AtKV.put {G : Hp} {k : Key} {v : V} {d : D} (h : At K G v d) {vs : List (Key × V)} {ds : List (Key × D)} (t : AtKV K G vs ds) : AtKV K G (putK vs k v) (putD ds k d) := by
  unfold putK putD
  rw [t.any]
  by_cases z : (ds.any fun kv => decide (kv.1 = k)) = true
  · rw [if_pos z, if_pos z]
    exact t.mapk h
  · rw [if_neg z, if_neg z]
    exact t.app ⟨rfl, h⟩
theorem AtKV.length {G : Hp} : ∀ {vs : List (Key × V)} {ds : List (Key × D)}, AtKV K G vs ds → vs.length = ds.length
  | _, _, .nil => rfl
  | _, _, .cons _ t => congrArg (· + 1) (AtKV.length t)
def R.dct (δ : En) : R → Option (List (Key × D))
  | .fr (.d kvs) => some kvs
  | .rf i => match δ[i]? with
    | some (.ow (.d kvs)) => some kvs
    | _ => none
  | _ => none
theorem dct_at {σ : L2.St} {H0 H G : Hp} {δ : En} {r : R} {v : V} {kvs : List (Key × D)} (L : Rel K σ H G δ) (rr : RR K σ H0 H G r v) (e : r.dct δ = some kvs) : ∃ a vs, v = .ref a ∧ H a = some (.dK vs) ∧ AtKV K G vs kvs := by
  cases r with
  | va d => cases e
  | fr c =>
    cases c with
    | l xs => cases e
    | o cn fs => cases e
    | d ks =>
      cases e
      obtain ⟨l, rfl, _, _, vs, h1, h2⟩ := rr
      exact ⟨l, vs, rfl, h1, h2⟩
  | rf i =>
    have e2 : (match δ[i]? with | some (E.ow (.d kvs)) => some kvs | _ => none) = some kvs := e
    split at e2
    · rename_i ks q
      cases e2
      obtain ⟨l, h1, _, vs, h2, h3⟩ := L.ow i _ q
      rw [show σ[i]? = some (some v) from rr] at h1
      cases h1
      exact ⟨l, vs, rfl, h2, h3⟩
    · cases e2
theorem sh_key {H G : Hp} {v : V} {d : D} {k : Key} (h : Sh K H G v d) (e : keyD d = some k) : v = kV k := by
  cases d with
  | int i =>
    cases e
    exact h
  | str x =>
    cases e
    exact h
  | _ => cases e
def tdnew : DT := fun δ Q => Q (.fr (.d [])) δ
theorem snd_dnew : Snd K tDNewK tdnew := fun σ H G δ Q Q3 L h k => by
  intro p hp
  obtain ⟨f, s⟩ := gr_new (G := G) (o := .dK []) L.sub hp
  exact k (.fr (.d [])) δ (.ref p) _ G (L.grow f s) f.fr .refl ⟨p, rfl, hp, g_none L.sub hp, [], upd_same, .nil⟩ h
def tdin (Ty Td : DT) : DT := fun δ Q => Ty δ fun y δ1 => Td δ1 fun x δ2 => ∃ d k kvs, y.dat δ2 = some d ∧ keyD d = some k ∧ x.dct δ2 = some kvs ∧ Q (.va (.bl (valD kvs k).isSome)) δ2
theorem snd_din {ty td : TE} {Ty Td : DT} (a : Snd K ty Ty) (b : Snd K td Td) : Snd K (tDIn ty td) (tdin Ty Td) := fun σ H G δ Q Q3 L h k => by
  refine a σ H G δ _ _ L h fun y δ1 vy H1 G1 L1 f1 le1 r1 q => ?_
  refine b σ H1 G1 δ1 _ _ L1 q fun x δ2 vx H2 G2 L2 f2 le2 r2 q => ?_
  obtain ⟨d, ky, kvs, e1, e2, e3, q⟩ := q
  have ev := sh_key (Sh.on L f1 le1 f2 L2 r1 e1) e2
  subst ev
  obtain ⟨p, vs, rfl, h1, t1⟩ := dct_at L2 r2 e3
  refine ⟨p, _, rfl, DGet.k h1, ?_⟩
  rw [t1.val.2]
  exact k (.va (.bl _)) δ2 _ H2 G2 L2 (f1.trans f2 fun a h => .inl (le1.ad h)) (le2.trans le1) (At.bl _) q
/-- d[k] = e of a dict of our own -/
def sdput (Td Ty Tv : DT) : DS := fun D δ => Tv δ fun r δ1 => Td δ1 fun x δ2 => Ty δ2 fun y δ3 => ∃ i kvs d k z, x = .rf i ∧ δ3[i]? = some (E.ow (.d kvs)) ∧ y.dat δ3 = some d ∧ keyD d = some k ∧ r = .va z ∧ kvs.length < sizeLine ∧ D.nx (δ3.set i (.ow (.d (putD kvs k z))))
theorem snds_dput {ty td tv : TE} {Ty Td Tv : DT} (a : Snd K td Td) (b : Snd K ty Ty) (c : Snd K tv Tv) : SndS K [] (sDPut td ty tv) (sdput Td Ty Tv) := fun F hp σ H G δ D3 D s h g => by
  refine c σ H G δ _ _ s.L h fun r δ1 v H1 G1 L1 f1 le1 r1 q => ?_
  refine a σ H1 G1 δ1 _ _ L1 q fun x δ2 vx H2 G2 L2 f2 le2 r2 q => ?_
  refine b σ H2 G2 δ2 _ _ L2 q fun y δ3 vy H3 G3 L3 f3 le3 r3 q => ?_
  obtain ⟨i, kvs, d, ky, z, rfl, e0, e1, e2, rfl, hl, q⟩ := q
  have ev := sh_key (sh_of L3 r3 e1) e2
  subst ev
  obtain ⟨l, h1, h2, vs, h3, t3⟩ := L3.ow i _ e0
  rw [show σ[i]? = some (some vx) from r2] at h1
  cases h1
  have hz : At K G3 v z := At.mono (f2.sub.trans f3.sub) r1
  obtain ⟨L4, f4, le4⟩ := L3.upC (o := .dK (putK vs ky v)) (c' := .d (putD kvs ky z)) e0 r2 ⟨_, upd_same, t3.put hz⟩
  refine ⟨l, _, rfl, DPut.k h3 (by rw [t3.length]; exact hl), ?_⟩
  have f12 : Fr (Ad σ δ) H G H2 G2 := f1.trans f2 fun a h => .inl (le1.ad h)
  have f13 : Fr (Ad σ δ) H G H3 G3 := f12.trans f3 fun a h => .inl ((le2.trans le1).ad h)
  exact g.nx _ _ _ _ (Nxt.step s L4 (f13.trans f4 fun a h => .inl ((le3.trans (le2.trans le1)).ad h)) (le4.trans (le3.trans (le2.trans le1)))) q
/-- s.join(xs) of a list of texts -/
def tjoin (To Te : DT) : DT := fun δ Q => To δ fun ro δ1 => ∃ a, ro = .va (.str a) ∧ Te δ1 fun r δ2 => ∃ ys : List Str, (r.dat δ2 = some (.lst (ys.map D.str)) ∨ r.dat δ2 = some (.tup (ys.map D.str))) ∧ (ys.map (·.length)).sum + ys.length * a.length ≤ 16777216 ∧ Q (.va (.str (Txt.join a ys))) δ2
def rJoin (K : PySem.W.Frag) : V → List V → Hp → VK → Prop := fun x xs H Q => ∃ a p, ∃ ys : List Str, x = .str a ∧ xs = [.ref p] ∧ (SqL K H p (ys.map V.str) ∨ SqT K H p (ys.map V.str)) ∧ (ys.map (·.length)).sum + ys.length * a.length ≤ 16777216 ∧ Q (.str (Txt.join a ys)) H
theorem snd_join {to te : TE} {To Te : DT} (a : Snd K to To) (b : Snd K te Te) : Snd K (tBM K "str" (rJoin K) to (tCons te tNil)) (tjoin To Te) := fun σ H G δ Q Q3 L h k => by
  refine a σ H G δ _ _ L h fun ro δ1 v H1 G1 L1 f1 le1 rr q => ?_
  obtain ⟨s, rfl, q⟩ := q
  have ev : v = .str s := by
    cases (show At K G1 v (.str s) from rr)
    rfl
  subst ev
  refine ⟨rfl, ?_⟩
  refine b σ H1 G1 δ1 _ _ L1 q fun r δ2 u H2 G2 L2 f2 le2 rr2 q => ?_
  obtain ⟨ys, e, hl, q⟩ := q
  rcases e with e | e
  · obtain ⟨l, vs, rfl, h1, t1⟩ := sh_of L2 rr2 e
    rw [t1.strs] at h1
    exact ⟨s, l, ys, rfl, rfl, .inl (SqL.of h1), hl, k (.va (.str _)) δ2 _ H2 G2 L2 (f1.trans f2 fun a h => .inl (le1.ad h)) (le2.trans le1) (At.str _) q⟩
  · obtain ⟨l, vs, rfl, h1, t1⟩ := sh_of L2 rr2 e
    rw [t1.strs] at h1
    exact ⟨s, l, ys, rfl, rfl, .inr (L2.sub.sqT h1), hl, k (.va (.str _)) δ2 _ H2 G2 L2 (f1.trans f2 fun a h => .inl (le1.ad h)) (le2.trans le1) (At.str _) q⟩
end
end L3
namespace L3
open PySem PySem.Spec PyProof.Rows L2
section
variable {Q : R → En → Prop} {QB : Bool → En → Prop} {QA : List R → En → Prop} {δ : En} {d : D} {c : Cn} {T U V : DT} {C C2 : DTT} {TA : DTA} {F : D → D → (R → Prop) → Prop} {F1 : D → (R → Prop) → Prop}
theorem e_tv {i : Nat} (e : δ[i]? = some (.va d)) (k : Q (.va d) δ) : tv i δ Q := by
  unfold tv; rw [e]; exact k
theorem e_tvo {i : Nat} (e : δ[i]? = some (.ow c)) (k : Q (.rf i) δ) : tv i δ Q := by
  unfold tv; rw [e]; exact k
theorem e_tvz {i : Nat} (e : δ[i]? = some (.va d)) (k : Q (.va d) δ) : tvz i δ Q := by
  refine ⟨d, by unfold zE; rw [e], ?_⟩
  have hs : δ.set i (.va d) = δ := by
    refine List.ext_getElem? fun j => ?_
    by_cases z : i = j
    · subst z
      rw [List.getElem?_set_self (List.getElem?_eq_some_iff.mp e).1, e]
    · rw [List.getElem?_set_ne z]
  rw [hs]
  exact k
theorem e_tvzo {i : Nat} {δ' : En} (e : δ[i]? = some (.ow c)) (e2 : c.dat = some d) (e3 : δ.set i (.va d) = δ') (k : Q (.va d) δ') : tvz i δ Q := ⟨d, by unfold zE; rw [e]; exact e2, by rw [e3]; exact k⟩
theorem e_tc (k : Q (.va d) δ) : tc d δ Q := k
theorem e_ta0 (k : QA [] δ) : ta0 δ QA := k
theorem e_tac (k : T δ fun r δ1 => TA δ1 fun rs δ2 => QA (r :: rs) δ2) : tac T TA δ QA := k
theorem e_tb2 (k : T δ fun x δ1 => U δ1 fun y δ2 => ∃ d e, x.dat δ2 = some d ∧ y.dat δ2 = some e ∧ F d e fun r => Q r δ2) : tb2 F T U δ Q := k
theorem e_tb1 (k : T δ fun x δ1 => ∃ d, x.dat δ1 = some d ∧ F1 d fun r => Q r δ1) : tb1 F1 T δ Q := k
theorem e_dat2 {x y : R} {d e : D} {P : D → D → Prop} (e1 : x.dat δ = some d) (e2 : y.dat δ = some e) (k : P d e) : ∃ d e, x.dat δ = some d ∧ y.dat δ = some e ∧ P d e := ⟨d, e, e1, e2, k⟩
theorem e_dat1 {x : R} {d : D} {P : D → Prop} (e1 : x.dat δ = some d) (k : P d) : ∃ d, x.dat δ = some d ∧ P d := ⟨d, e1, k⟩
theorem e_tcb {G : List D → (R → Prop) → Prop} (k : TA δ fun rs δ1 => ∃ ds, dats δ1 rs = some ds ∧ G ds fun r => Q r δ1) : tcb G TA δ Q := k
theorem e_dats {rs : List R} {ds : List D} {P : List D → Prop} (e : dats δ rs = some ds) (k : P ds) : ∃ ds, dats δ rs = some ds ∧ P ds := ⟨ds, e, k⟩
theorem e_ttup (k : TA δ fun rs δ1 => ∃ ds, stills δ1 rs = some ds ∧ ds.length ≤ sizeLine ∧ Q (.va (.tup ds)) δ1) : ttup TA δ Q := k
theorem e_tlst (k : TA δ fun rs δ1 => ∃ ds, stills δ1 rs = some ds ∧ ds.length ≤ sizeLine ∧ Q (.fr (.l ds)) δ1) : tlst TA δ Q := k
theorem e_stills {rs : List R} {ds : List D} {P : List D → Prop} (e : stills δ rs = some ds) (b : ds.length ≤ sizeLine) (k : P ds) : ∃ ds, stills δ rs = some ds ∧ ds.length ≤ sizeLine ∧ P ds := ⟨ds, e, b, k⟩
theorem e_tt (k : T δ fun r δ1 => ∃ b, r = .va (.bl b) ∧ QB b δ1) : tt T δ QB := k
theorem e_bl {b : Bool} {P : Bool → Prop} (k : P b) : ∃ b', R.va (.bl b) = .va (.bl b') ∧ P b' := ⟨b, rfl, k⟩
theorem e_ttru (k : T δ fun r δ1 => ∃ d b, r.dat δ1 = some d ∧ truD d = some b ∧ QB b δ1) : ttru T δ QB := k
theorem e_tru {r : R} {d : D} {b : Bool} {P : Bool → Prop} (e1 : r.dat δ = some d) (e2 : truD d = some b) (k : P b) : ∃ d b, r.dat δ = some d ∧ truD d = some b ∧ P b := ⟨d, b, e1, e2, k⟩
theorem e_tand (k : C δ fun c δ1 => (c = true → C2 δ1 QB) ∧ (c = false → QB false δ1)) : tand C C2 δ QB := by
  have : ∀ c δ1, ((c = true → C2 δ1 QB) ∧ (c = false → QB false δ1)) = if c = true then C2 δ1 QB else QB false δ1 := fun c δ1 => by cases c <;> simp
  simp only [this] at k
  exact k
theorem e_tor (k : C δ fun c δ1 => (c = true → QB true δ1) ∧ (c = false → C2 δ1 QB)) : tor C C2 δ QB := by
  have : ∀ c δ1, ((c = true → QB true δ1) ∧ (c = false → C2 δ1 QB)) = if c = true then QB true δ1 else C2 δ1 QB := fun c δ1 => by cases c <;> simp
  simp only [this] at k
  exact k
theorem e_tnot (k : C δ fun c δ1 => QB (!c) δ1) : tnot C δ QB := k
theorem e_tandV (k : T δ fun r δ1 => ∃ c, r = .va (.bl c) ∧ (c = true → U δ1 Q) ∧ (c = false → Q (.va (.bl false)) δ1)) : tandV T U δ Q := by
  have : ∀ (c : Bool) δ1, ((c = true → U δ1 Q) ∧ (c = false → Q (.va (.bl false)) δ1)) = if c = true then U δ1 Q else Q (.va (.bl false)) δ1 := fun c δ1 => by cases c <;> simp
  simp only [this] at k
  exact k
theorem e_torV (k : T δ fun r δ1 => ∃ c, r = .va (.bl c) ∧ (c = true → Q (.va (.bl true)) δ1) ∧ (c = false → U δ1 Q)) : torV T U δ Q := by
  have : ∀ (c : Bool) δ1, ((c = true → Q (.va (.bl true)) δ1) ∧ (c = false → U δ1 Q)) = if c = true then Q (.va (.bl true)) δ1 else U δ1 Q := fun c δ1 => by cases c <;> simp
  simp only [this] at k
  exact k
theorem e_tnotV (k : T δ fun r δ1 => ∃ c, r = .va (.bl c) ∧ Q (.va (.bl (!c))) δ1) : tnotV T δ Q := k
theorem e_tyes (k : QB true δ) : tyes δ QB := k
theorem e_tif (k : C δ fun b δ1 => (b = true → T δ1 Q) ∧ (b = false → U δ1 Q)) : tif C T U δ Q := by
  have : ∀ (c : Bool) δ1, ((c = true → T δ1 Q) ∧ (c = false → U δ1 Q)) = if c = true then T δ1 Q else U δ1 Q := fun c δ1 => by cases c <;> simp
  simp only [this] at k
  exact k
theorem br_t {A B : Prop} (k : A) : ((true : Bool) = true → A) ∧ ((true : Bool) = false → B) := ⟨fun _ => k, fun h => (nomatch h)⟩
theorem br_f {A B : Prop} (k : B) : ((false : Bool) = true → A) ∧ ((false : Bool) = false → B) := ⟨fun h => (nomatch h), fun _ => k⟩
theorem br_n {A B : Prop} {b : Bool} (k : (b = true → B) ∧ (b = false → A)) : ((!b) = true → A) ∧ ((!b) = false → B) := by cases b <;> simp_all
theorem br_p {A B : Prop} {p : Prop} [Decidable p] (k1 : p → A) (k2 : ¬ p → B) : (decide p = true → A) ∧ (decide p = false → B) := ⟨fun h => k1 (of_decide_eq_true h), fun h => k2 (of_decide_eq_false h)⟩
theorem br_b {A B : Prop} {b : Bool} (k1 : b = true → A) (k2 : b = false → B) : (b = true → A) ∧ (b = false → B) := ⟨k1, k2⟩
theorem e_tchain {p p' : Int → Int → Bool} (k : T δ fun x δ1 => U δ1 fun y δ2 => ∃ i j, x = .va (.int i) ∧ y = .va (.int j) ∧ (p i j = true → V δ2 fun z δ3 => ∃ k, z = .va (.int k) ∧ Q (.va (.bl (p' j k))) δ3) ∧ (p i j = false → Q (.va (.bl false)) δ2)) : tchain p p' T U V δ Q := by
  refine (?_ : tchain p p' T U V δ Q)
  unfold tchain
  have : ∀ (c : Bool) (A B : Prop), ((c = true → A) ∧ (c = false → B)) = if c = true then A else B := fun c A B => by cases c <;> simp
  simp only [this] at k
  exact k
theorem e_ii {i j : Int} {P : Int → Int → Prop} (k : P i j) : ∃ i' j', R.va (.int i) = .va (.int i') ∧ R.va (.int j) = .va (.int j') ∧ P i' j' := ⟨i, j, rfl, rfl, k⟩
theorem e_i {i : Int} {P : Int → Prop} (k : P i) : ∃ i', R.va (.int i) = .va (.int i') ∧ P i' := ⟨i, rfl, k⟩
theorem e_tno {QO : Option Int → En → Prop} (k : QO none δ) : tno δ QO := k
theorem e_tpart {QO : Option Int → En → Prop} (k : T δ fun r δ1 => ∃ i, r = .va (.int i) ∧ QO (some i) δ1) : tpart T δ QO := k
theorem e_tslice {Tl Th : DTO} (k : T δ fun r δ1 => Tl δ1 fun lo δ2 => Th δ2 fun hi δ3 => ∃ d, r.dat δ3 = some d ∧ slF d lo hi fun r => Q r δ3) : tslice T Tl Th δ Q := k
theorem e_tisi {n : Tn} (k : T δ fun r δ1 => ∃ k b, r.kn δ1 = some k ∧ isT n k = b ∧ Q (.va (.bl b)) δ1) : tisi n T δ Q := by
  simp only [exists_and_left, exists_eq_left'] at k
  exact k
theorem e_tisi2 {n m : Tn} (k : T δ fun r δ1 => ∃ k b, r.kn δ1 = some k ∧ (isT n k || isT m k) = b ∧ Q (.va (.bl b)) δ1) : tisi2 n m T δ Q := by
  simp only [exists_and_left, exists_eq_left'] at k
  exact k
theorem e_kn1 {r : R} {n : Tn} {kk : Kn} {b : Bool} {P : Bool → Prop} (e : r.kn δ = some kk) (e2 : isT n kk = b) (k : P b) : ∃ k b, r.kn δ = some k ∧ isT n k = b ∧ P b := ⟨kk, b, e, e2, k⟩
theorem e_kn2 {r : R} {n m : Tn} {kk : Kn} {b : Bool} {P : Bool → Prop} (e : r.kn δ = some kk) (e2 : (isT n kk || isT m kk) = b) (k : P b) : ∃ k b, r.kn δ = some k ∧ (isT n k || isT m k) = b ∧ P b := ⟨kk, b, e, e2, k⟩
variable {q : R → Prop}
theorem f_plus {i j : Int} (k : q (.va (.int (i + j)))) : plusF (.int i) (.int j) q := k
theorem f_minus {i j : Int} (k : q (.va (.int (i - j)))) : minusF (.int i) (.int j) q := k
theorem f_times {i j : Int} (h : CMul i j) (k : q (.va (.int (i * j)))) : timesF (.int i) (.int j) q := ⟨h, k⟩
theorem f_rep {a : List D} {n : Int} (h : -(2 ^ 63) ≤ n ∧ n < 2 ^ 63 ∧ a.length * n.toNat ≤ sizeLine) (k : q (.fr (.l (List.replicate n.toNat a).flatten))) : timesF (.lst a) (.int n) q := ⟨h, k⟩
theorem f_fdiv {i j : Int} (h : CDiv i j) (k : q (.va (.int (i / j)))) : fdivF (.int i) (.int j) q := ⟨h, k⟩
theorem f_mod {i j : Int} (h : 0 < j) (k : q (.va (.int (i % j)))) : modF (.int i) (.int j) q := ⟨h, k⟩
theorem f_pow {i j : Int} (h : CPow i j) (k : q (.va (.int (i ^ j.toNat)))) : powF (.int i) (.int j) q := ⟨h, k⟩
theorem f_neg {i : Int} (k : q (.va (.int (-i)))) : negF (.int i) q := k
theorem f_cmp {p : Int → Int → Bool} {i j : Int} (k : q (.va (.bl (p i j)))) : bF (iF p) (.int i) (.int j) q := k
theorem f_is {d : D} (k : q (.va (.bl (isNone d)))) : bF isF d .non q := by
  unfold bF isF; exact k
theorem f_nis {d : D} (k : q (.va (.bl (!isNone d)))) : bF nisF d .non q := by
  unfold bF nisF isF; exact k
theorem f_isB {d : D} {b : Bool} (h : isNone d = b) (k : q (.va (.bl b))) : bF isF d .non q := by
  subst h; exact f_is k
theorem f_nisB {d : D} {b : Bool} (h : (!isNone d) = b) (k : q (.va (.bl b))) : bF nisF d .non q := by
  subst h; exact f_nis k
theorem f_ixL {xs : List D} {i : Int} {d : D} (e : L2.atI xs i = some d) (k : q (.va d)) : ixF (.lst xs) (.int i) q := ⟨d, e, k⟩
theorem f_ixT {xs : List D} {i : Int} {d : D} (e : L2.atI xs i = some d) (k : q (.va d)) : ixF (.tup xs) (.int i) q := ⟨d, e, k⟩
theorem atI_get {α : Type} {xs : List α} {i : Int} {d : α} (h0 : 0 ≤ i) (h : xs[i.toNat]? = some d) : L2.atI xs i = some d := by
  have hl := (List.getElem?_eq_some_iff.mp h).1
  unfold L2.atI ixN
  rw [if_pos h0, if_pos (by omega)]
  exact h
theorem f_ixI {ns : List Int} {i : Int} (h0 : 0 ≤ i) (h1 : i < (ns.map D.int).length) (k : q (.va (.int (ns.getD i.toNat 0)))) : ixF (.lst (ns.map D.int)) (.int i) q := by
  have h2 : i.toNat < ns.length := by
    rw [List.length_map] at h1
    omega
  refine ⟨_, atI_get h0 (d := .int (ns.getD i.toNat 0)) ?_, k⟩
  rw [List.getElem?_map, List.getD_eq_getElem?_getD, List.getElem?_eq_getElem h2]
  rfl
theorem f_slL {xs : List D} {lo hi : Option Int} (k : q (.fr (.l (cutL xs lo hi)))) : slF (.lst xs) lo hi q := k
theorem f_slZ {xs : List D} {lo hi : Option Int} (k : q (.fr (.l (cutL xs lo hi)))) : slF (.frz xs) lo hi q := k
theorem f_slT {xs : List D} {lo hi : Option Int} (k : q (.va (.tup (cutL xs lo hi)))) : slF (.tup xs) lo hi q := k
theorem f_lenL {xs : List D} (k : q (.va (.int xs.length))) : lenF [.lst xs] q := k
theorem f_lenT {xs : List D} (k : q (.va (.int xs.length))) : lenF [.tup xs] q := k
theorem f_lenZ {xs : List D} (k : q (.va (.int xs.length))) : lenF [.frz xs] q := k
theorem f_lenS {x : Str} (h : x.length ≤ sizeLine) (k : q (.va (.int x.length))) : lenF [.str x] q := ⟨h, k⟩
theorem f_listL {xs : List D} (k : q (.fr (.l xs))) : listF [.lst xs] q := k
theorem f_listT {xs : List D} (k : q (.fr (.l xs))) : listF [.tup xs] q := k
theorem f_listZ {xs : List D} (k : q (.fr (.l xs))) : listF [.frz xs] q := k
theorem f_tupL {xs : List D} (k : q (.va (.tup xs))) : tupleF [.lst xs] q := k
theorem f_tupT {xs : List D} (k : q (.va (.tup xs))) : tupleF [.tup xs] q := k
theorem f_int {i : Int} (k : q (.va (.int i))) : intF [.int i] q := k
theorem f_eq {d e : D} {b : Bool} (h : ∃ p q, d.py = some p ∧ e.py = some q ∧ SeqAt.shaped p = true ∧ SeqAt.shaped q = true ∧ PyData.eqv p q = b) (k : q (.va (.bl b))) : bF eqF d e q := by
  obtain ⟨p, r, e1, e2, s1, s2, rfl⟩ := h
  exact .inl ⟨p, r, e1, e2, s1, s2, k⟩
theorem f_ne {d e : D} {b : Bool} (h : ∃ p q, d.py = some p ∧ e.py = some q ∧ SeqAt.shaped p = true ∧ SeqAt.shaped q = true ∧ PyData.eqv p q = b) (k : q (.va (.bl (!b)))) : bF neF d e q := by
  obtain ⟨p, r, e1, e2, s1, s2, rfl⟩ := h
  exact .inl ⟨p, r, e1, e2, s1, s2, k⟩
theorem eqv_int (i j : Int) : PyData.eqv (.int i) (.int j) = decide (i = j) := by
  unfold PyData.eqv; by_cases h : i = j <;> simp [h]
theorem f_eqD0 (k : q (.va (.bl true))) : bF eqF (.dct [] []) (.dct [] []) q := .inr ⟨rfl, rfl, k⟩
theorem f_neD0 (k : q (.va (.bl false))) : bF neF (.dct [] []) (.dct [] []) q := .inr ⟨rfl, rfl, k⟩
theorem f_eqI {i j : Int} (k : q (.va (.bl (decide (i = j))))) : bF eqF (.int i) (.int j) q := f_eq ⟨_, _, rfl, rfl, rfl, rfl, eqv_int i j⟩ k
theorem f_neI {i j : Int} (k : q (.va (.bl (!decide (i = j))))) : bF neF (.int i) (.int j) q := f_ne ⟨_, _, rfl, rfl, rfl, rfl, eqv_int i j⟩ k
variable {n : En → Prop} {rt : R → En → Prop} {bk ct : En → Prop} {S S2 : DS}
theorem s_seq (k : S ⟨S2 ⟨n, rt, bk, ct⟩, rt, bk, ct⟩ δ) : seq S S2 ⟨n, rt, bk, ct⟩ δ := k
theorem s_next (k : n δ) : snext ⟨n, rt, bk, ct⟩ δ := k
theorem s_expr (k : T δ fun _ δ1 => n δ1) : sexpr T ⟨n, rt, bk, ct⟩ δ := k
theorem s_if (k : C δ fun b δ1 => (b = true → S ⟨n, rt, bk, ct⟩ δ1) ∧ (b = false → S2 ⟨n, rt, bk, ct⟩ δ1)) : sif C S S2 ⟨n, rt, bk, ct⟩ δ := by
  have : ∀ (c : Bool) (A B : Prop), ((c = true → A) ∧ (c = false → B)) = if c = true then A else B := fun c A B => by cases c <;> simp
  simp only [this] at k
  exact k
theorem s_ret {ps : List Nat} (k : T δ fun r δ1 => ∃ r', r.out δ1 = some r' ∧ (∀ i, r = .rf i → i ∉ ps) ∧ rt r' δ1) : sret ps T ⟨n, rt, bk, ct⟩ δ := k
theorem s_out {r r' : R} {ps : List Nat} (e : r.out δ = some r') {P : R → Prop} (h : ∀ i, r = .rf i → i ∉ ps) (k : P r') : ∃ r', r.out δ = some r' ∧ (∀ i, r = .rf i → i ∉ ps) ∧ P r' := ⟨r', e, h, k⟩
theorem no_rf {r : R} {ps : List Nat} (h : (match r with | .rf i => ps.contains i | _ => false) = false) : ∀ i, r = .rf i → i ∉ ps := fun i e z => by
  subst e
  simp at h
  exact h z
theorem s_set {i : Nat} (k : T δ fun r δ1 => ∃ d, r.still δ1 = some d ∧ ∃ δ', δ1.set i (.va d) = δ' ∧ n δ') : sset i T ⟨n, rt, bk, ct⟩ δ := by
  simp only [exists_eq_left'] at k
  exact k
theorem s_norm {δ δ' : En} {P : En → Prop} (e : δ = δ') (k : P δ') : ∃ δ', δ = δ' ∧ P δ' := ⟨δ', e, k⟩
theorem s_still {r : R} {d : D} {P : D → Prop} (e : r.still δ = some d) (k : P d) : ∃ d, r.still δ = some d ∧ P d := ⟨d, e, k⟩
theorem s_setO {i : Nat} (k : T δ fun r δ1 => ∃ c, r = .fr c ∧ ∃ δ', δ1.set i (.ow c) = δ' ∧ n δ') : ssetO i T ⟨n, rt, bk, ct⟩ δ := by
  simp only [exists_eq_left'] at k
  exact k
theorem s_fr {c : Cn} {P : Cn → Prop} (k : P c) : ∃ c', R.fr c = .fr c' ∧ P c' := ⟨c, rfl, k⟩
theorem s_asg {U : DG} (k : T δ fun r δ1 => ∃ d, r.still δ1 = some d ∧ U d δ1 n) : sasg T U ⟨n, rt, bk, ct⟩ δ := k
theorem s_aug {i : Nat} {d0 : D} (e : δ[i]? = some (E.va d0)) (k : T δ fun r δ1 => ∃ e, r.dat δ1 = some e ∧ F d0 e fun r' => ∃ d', r' = .va d' ∧ ∃ δ', δ1.set i (.va d') = δ' ∧ n δ') : saug i F T ⟨n, rt, bk, ct⟩ δ := by
  simp only [exists_eq_left'] at k
  exact ⟨d0, e, k⟩
theorem s_va {d : D} {P : D → Prop} (k : P d) : ∃ d', R.va d = .va d' ∧ P d' := ⟨d, rfl, k⟩
theorem s_iadd {i j : Int} (k : q (.va (.int (i + j)))) : ipaddF (.int i) (.int j) q := k
theorem s_par2 {i j : Nat} {m1 m2 : Bool} (k : TA δ fun rs δ1 => ∃ r1 r2 e1 e2, rs = [r1, r2] ∧ putE δ1 m1 r1 = some e1 ∧ putE δ1 m2 r2 = some e2 ∧ ∃ δ', (δ1.set i e1).set j e2 = δ' ∧ n δ') : spar2 i j m1 m2 TA ⟨n, rt, bk, ct⟩ δ := by
  simp only [exists_eq_left'] at k
  exact k
theorem s_put3 {r1 r2 r3 : R} {m1 m2 m3 : Bool} {e1 e2 e3 : E} {P : E → E → E → Prop} (h1 : putE δ m1 r1 = some e1) (h2 : putE δ m2 r2 = some e2) (h3 : putE δ m3 r3 = some e3) (k : P e1 e2 e3) : ∃ r1' r2' r3' e1 e2 e3, [r1, r2, r3] = [r1', r2', r3'] ∧ putE δ m1 r1' = some e1 ∧ putE δ m2 r2' = some e2 ∧ putE δ m3 r3' = some e3 ∧ P e1 e2 e3 := ⟨_, _, _, _, _, _, rfl, h1, h2, h3, k⟩
theorem s_put2 {r1 r2 : R} {m1 m2 : Bool} {e1 e2 : E} {P : E → E → Prop} (h1 : putE δ m1 r1 = some e1) (h2 : putE δ m2 r2 = some e2) (k : P e1 e2) : ∃ r1' r2' e1 e2, [r1, r2] = [r1', r2'] ∧ putE δ m1 r1' = some e1 ∧ putE δ m2 r2' = some e2 ∧ P e1 e2 := ⟨_, _, _, _, rfl, h1, h2, k⟩
variable {N : En → Prop}
theorem g_name {i : Nat} (k : ∃ δ', δ.set i (.va d) = δ' ∧ N δ') : dName i d δ N := by
  simp only [exists_eq_left'] at k
  exact k
theorem g_tup {m : Nat} {U : DGs} {ds : List D} (h : ds.length = m) (k : U ds δ N) : dTup m U (.tup ds) δ N := ⟨ds, rfl, h, k⟩
theorem g_nil (k : N δ) : dNil [] δ N := ⟨rfl, k⟩
theorem g_cons {U : DG} {W : DGs} {d : D} {r : List D} (k : U d δ fun δ1 => W r δ1 N) : dCons U W (d :: r) δ N := ⟨d, r, rfl, k⟩
theorem g_sub {To Ti : DT} (k : To δ fun ro δ1 => Ti δ1 fun ri δ2 => ∃ i xs k j, ro = .rf i ∧ δ2[i]? = some (E.ow (.l xs)) ∧ ri = .va (.int k) ∧ ixN xs.length k = some j ∧ ∃ δ', δ2.set i (.ow (.l (xs.set j d))) = δ' ∧ N δ') : dSub To Ti d δ N := by
  simp only [exists_eq_left'] at k
  exact k
theorem g_at {i j : Nat} {xs : List D} {k : Int} {P : Nat → List D → Nat → Prop} (e : δ[i]? = some (E.ow (.l xs))) (h : ixN xs.length k = some j) (kk : P i xs j) : ∃ i' xs k' j, R.rf i = .rf i' ∧ δ[i']? = some (E.ow (.l xs)) ∧ R.va (.int k) = .va (.int k') ∧ ixN xs.length k' = some j ∧ P i' xs j := ⟨i, xs, k, j, rfl, e, rfl, h, kk⟩
variable {f : List D → List D → (D → List D → Prop) → Prop}
theorem e_tlm (k : T δ fun ro δ1 => ∃ i xs0, ro = .rf i ∧ δ1[i]? = some (E.ow (.l xs0)) ∧ TA δ1 fun rs δ2 => ∃ xs ds, δ2[i]? = some (E.ow (.l xs)) ∧ stills δ2 rs = some ds ∧ f xs ds fun d ys => ∃ δ', δ2.set i (.ow (.l ys)) = δ' ∧ Q (.va d) δ') : tlm f T TA δ Q := by
  simp only [exists_eq_left'] at k
  exact k
theorem e_lm1 {i : Nat} {xs : List D} {P : Nat → Prop} (e : δ[i]? = some (E.ow (.l xs))) (k : P i) : ∃ i' xs0, R.rf i = .rf i' ∧ δ[i']? = some (E.ow (.l xs0)) ∧ P i' := ⟨i, xs, rfl, e, k⟩
theorem e_lm2 {i : Nat} {rs : List R} {xs ds : List D} {P : List D → List D → Prop} (e : δ[i]? = some (E.ow (.l xs))) (e2 : stills δ rs = some ds) (k : P xs ds) : ∃ xs ds, δ[i]? = some (E.ow (.l xs)) ∧ stills δ rs = some ds ∧ P xs ds := ⟨xs, ds, e, e2, k⟩
theorem f_app {xs : List D} {d : D} {q : D → List D → Prop} (h : xs.length < sizeLine) (k : q .non (xs ++ [d])) : appF xs [d] q := ⟨h, k⟩
theorem e_textend (k : T δ fun ro δ1 => ∃ i xs0, ro = .rf i ∧ δ1[i]? = some (E.ow (.l xs0)) ∧ U δ1 fun r δ2 => ∃ xs ys, δ2[i]? = some (E.ow (.l xs)) ∧ r.dat δ2 = some (.lst ys) ∧ (∀ j, r = .rf j → j ≠ i) ∧ xs.length + ys.length ≤ sizeLine ∧ ∃ δ', δ2.set i (.ow (.l (xs ++ ys))) = δ' ∧ Q (.va .non) δ') : textend T U δ Q := by
  simp only [exists_eq_left'] at k
  exact k
theorem e_tcall {sp : DSp} {ms : List Bool} (k : TA δ fun rs δ1 => ∃ es, passes δ1 rs ms = some es ∧ (rfs rs).Nodup ∧ sp es fun r es' => ∃ δ', puts δ1 rs es' = δ' ∧ Q r δ') : tcall sp ms TA δ Q := by
  simp only [exists_eq_left'] at k
  unfold tcall
  have : ∀ rs δ1, (∃ es, passes δ1 rs ms = some es ∧ (rfs rs).Nodup ∧ sp es fun r es' => Q r (puts δ1 rs es')) = ((rfs rs).Nodup ∧ ∃ es, passes δ1 rs ms = some es ∧ sp es fun r es' => Q r (puts δ1 rs es')) := fun rs δ1 => propext ⟨fun ⟨es, a, b, c⟩ => ⟨b, es, a, c⟩, fun ⟨b, es, a, c⟩ => ⟨es, a, b, c⟩⟩
  simp only [this] at k
  exact k
theorem e_pass {rs : List R} {ms : List Bool} {es : En} {P : En → Prop} (e : passes δ rs ms = some es) (h : (rfs rs).Nodup) (k : P es) : ∃ es, passes δ rs ms = some es ∧ (rfs rs).Nodup ∧ P es := ⟨es, e, h, k⟩
theorem e_da1 {r0 : R} {d0 : D} {P : List D → Prop} (h0 : r0.dat δ = some d0) (k : P [d0]) : ∃ ds, dats δ [r0] = some ds ∧ P ds := ⟨_, by simp only [dats, h0, Option.bind_some, Option.map_some], k⟩
theorem e_da2 {r0 r1 : R} {d0 d1 : D} {P : List D → Prop} (h0 : r0.dat δ = some d0) (h1 : r1.dat δ = some d1) (k : P [d0, d1]) : ∃ ds, dats δ [r0, r1] = some ds ∧ P ds := ⟨_, by simp only [dats, h0, h1, Option.bind_some, Option.map_some], k⟩
theorem e_da3 {r0 r1 r2 : R} {d0 d1 d2 : D} {P : List D → Prop} (h0 : r0.dat δ = some d0) (h1 : r1.dat δ = some d1) (h2 : r2.dat δ = some d2) (k : P [d0, d1, d2]) : ∃ ds, dats δ [r0, r1, r2] = some ds ∧ P ds := ⟨_, by simp only [dats, h0, h1, h2, Option.bind_some, Option.map_some], k⟩
theorem e_st1 {r0 : R} {d0 : D} {P : List D → Prop} (h0 : r0.still δ = some d0) (k : P [d0]) : ∃ ds, stills δ [r0] = some ds ∧ ds.length ≤ sizeLine ∧ P ds := ⟨[d0], by simp only [stills, h0, Option.bind_some, Option.map_some], (show 1 ≤ sizeLine by decide), k⟩
theorem e_pa1 {r0 : R} {e0 : E} {m0 : Bool} {rs : List R} {P : En → Prop} (h0 : pass1 δ r0 m0 = some e0) (hn : (rfs rs).Nodup) (k : P [e0]) : ∃ es, passes δ [r0] [m0] = some es ∧ (rfs rs).Nodup ∧ P es := ⟨_, by simp only [passes, h0, Option.bind_some, Option.map_some], hn, k⟩
theorem e_st2 {r0 r1 : R} {d0 d1 : D} {P : List D → Prop} (h0 : r0.still δ = some d0) (h1 : r1.still δ = some d1) (k : P [d0, d1]) : ∃ ds, stills δ [r0, r1] = some ds ∧ ds.length ≤ sizeLine ∧ P ds := ⟨[d0, d1], by simp only [stills, h0, h1, Option.bind_some, Option.map_some], (show 2 ≤ sizeLine by decide), k⟩
theorem e_pa2 {r0 r1 : R} {e0 e1 : E} {m0 m1 : Bool} {rs : List R} {P : En → Prop} (h0 : pass1 δ r0 m0 = some e0) (h1 : pass1 δ r1 m1 = some e1) (hn : (rfs rs).Nodup) (k : P [e0, e1]) : ∃ es, passes δ [r0, r1] [m0, m1] = some es ∧ (rfs rs).Nodup ∧ P es := ⟨_, by simp only [passes, h0, h1, Option.bind_some, Option.map_some], hn, k⟩
theorem e_st3 {r0 r1 r2 : R} {d0 d1 d2 : D} {P : List D → Prop} (h0 : r0.still δ = some d0) (h1 : r1.still δ = some d1) (h2 : r2.still δ = some d2) (k : P [d0, d1, d2]) : ∃ ds, stills δ [r0, r1, r2] = some ds ∧ ds.length ≤ sizeLine ∧ P ds := ⟨[d0, d1, d2], by simp only [stills, h0, h1, h2, Option.bind_some, Option.map_some], (show 3 ≤ sizeLine by decide), k⟩
theorem e_pa3 {r0 r1 r2 : R} {e0 e1 e2 : E} {m0 m1 m2 : Bool} {rs : List R} {P : En → Prop} (h0 : pass1 δ r0 m0 = some e0) (h1 : pass1 δ r1 m1 = some e1) (h2 : pass1 δ r2 m2 = some e2) (hn : (rfs rs).Nodup) (k : P [e0, e1, e2]) : ∃ es, passes δ [r0, r1, r2] [m0, m1, m2] = some es ∧ (rfs rs).Nodup ∧ P es := ⟨_, by simp only [passes, h0, h1, h2, Option.bind_some, Option.map_some], hn, k⟩
theorem e_st4 {r0 r1 r2 r3 : R} {d0 d1 d2 d3 : D} {P : List D → Prop} (h0 : r0.still δ = some d0) (h1 : r1.still δ = some d1) (h2 : r2.still δ = some d2) (h3 : r3.still δ = some d3) (k : P [d0, d1, d2, d3]) : ∃ ds, stills δ [r0, r1, r2, r3] = some ds ∧ ds.length ≤ sizeLine ∧ P ds := ⟨[d0, d1, d2, d3], by simp only [stills, h0, h1, h2, h3, Option.bind_some, Option.map_some], (show 4 ≤ sizeLine by decide), k⟩
theorem e_pa4 {r0 r1 r2 r3 : R} {e0 e1 e2 e3 : E} {m0 m1 m2 m3 : Bool} {rs : List R} {P : En → Prop} (h0 : pass1 δ r0 m0 = some e0) (h1 : pass1 δ r1 m1 = some e1) (h2 : pass1 δ r2 m2 = some e2) (h3 : pass1 δ r3 m3 = some e3) (hn : (rfs rs).Nodup) (k : P [e0, e1, e2, e3]) : ∃ es, passes δ [r0, r1, r2, r3] [m0, m1, m2, m3] = some es ∧ (rfs rs).Nodup ∧ P es := ⟨_, by simp only [passes, h0, h1, h2, h3, Option.bind_some, Option.map_some], hn, k⟩
theorem e_st5 {r0 r1 r2 r3 r4 : R} {d0 d1 d2 d3 d4 : D} {P : List D → Prop} (h0 : r0.still δ = some d0) (h1 : r1.still δ = some d1) (h2 : r2.still δ = some d2) (h3 : r3.still δ = some d3) (h4 : r4.still δ = some d4) (k : P [d0, d1, d2, d3, d4]) : ∃ ds, stills δ [r0, r1, r2, r3, r4] = some ds ∧ ds.length ≤ sizeLine ∧ P ds := ⟨[d0, d1, d2, d3, d4], by simp only [stills, h0, h1, h2, h3, h4, Option.bind_some, Option.map_some], (show 5 ≤ sizeLine by decide), k⟩
theorem e_pa5 {r0 r1 r2 r3 r4 : R} {e0 e1 e2 e3 e4 : E} {m0 m1 m2 m3 m4 : Bool} {rs : List R} {P : En → Prop} (h0 : pass1 δ r0 m0 = some e0) (h1 : pass1 δ r1 m1 = some e1) (h2 : pass1 δ r2 m2 = some e2) (h3 : pass1 δ r3 m3 = some e3) (h4 : pass1 δ r4 m4 = some e4) (hn : (rfs rs).Nodup) (k : P [e0, e1, e2, e3, e4]) : ∃ es, passes δ [r0, r1, r2, r3, r4] [m0, m1, m2, m3, m4] = some es ∧ (rfs rs).Nodup ∧ P es := ⟨_, by simp only [passes, h0, h1, h2, h3, h4, Option.bind_some, Option.map_some], hn, k⟩
theorem e_lx1 {r0 : R} {d0 : D} {i : Nat} {xs : List D} {P : List D → List D → Prop} (e : δ[i]? = some (E.ow (.l xs))) (h0 : r0.still δ = some d0) (k : P xs [d0]) : ∃ xs ds, δ[i]? = some (E.ow (.l xs)) ∧ stills δ [r0] = some ds ∧ P xs ds := ⟨_, _, e, by simp only [stills, h0, Option.bind_some, Option.map_some], k⟩
theorem e_lx2 {r0 r1 : R} {d0 d1 : D} {i : Nat} {xs : List D} {P : List D → List D → Prop} (e : δ[i]? = some (E.ow (.l xs))) (h0 : r0.still δ = some d0) (h1 : r1.still δ = some d1) (k : P xs [d0, d1]) : ∃ xs ds, δ[i]? = some (E.ow (.l xs)) ∧ stills δ [r0, r1] = some ds ∧ P xs ds := ⟨_, _, e, by simp only [stills, h0, h1, Option.bind_some, Option.map_some], k⟩
variable {QI : List D → List (Nat × Cn) → En → Prop}
theorem i_list (k : T δ fun r δ1 => ∃ xs cs, srcL δ1 r = some (xs, cs) ∧ QI xs cs δ1) : ilist T δ QI := k
theorem i_src {r : R} {xs : List D} {cs : List (Nat × Cn)} {P : List D → List (Nat × Cn) → Prop} (e : srcL δ r = some (xs, cs)) (k : P xs cs) : ∃ xs cs, srcL δ r = some (xs, cs) ∧ P xs cs := ⟨xs, cs, e, k⟩
theorem i_tup (k : T δ fun r δ1 => ∃ xs, r = .va (.tup xs) ∧ QI xs [] δ1) : itup T δ QI := k
theorem i_tupx {xs : List D} {P : List D → Prop} (k : P xs) : ∃ xs', R.va (.tup xs) = .va (.tup xs') ∧ P xs' := ⟨xs, rfl, k⟩
theorem i_str (k : T δ fun r δ1 => ∃ x : Str, r = .va (.str x) ∧ QI (x.cps.toList.map fun c => D.str ⟨#[c]⟩) [] δ1) : istr T δ QI := k
theorem i_strx {x : Str} {P : Str → Prop} (k : P x) : ∃ x', R.va (.str x) = .va (.str x') ∧ P x' := ⟨x, rfl, k⟩
theorem i_rng1 (k : T δ fun r δ1 => ∃ j, r = .va (.int j) ∧ (-(2 ^ 62) ≤ j ∧ j < 2 ^ 62) ∧ QI (rangeD 0 j.toNat) [] δ1) : irng1 T δ QI := k
theorem i_enum (k : T δ fun r δ1 => ∃ xs cs, srcL δ1 r = some (xs, cs) ∧ QI (enumD 0 xs) cs δ1) : ienum T δ QI := k
theorem i_zip (k : T δ fun r δ1 => U δ1 fun u δ2 => ∃ xs cs ys cs', srcL δ2 r = some (xs, cs) ∧ srcL δ2 u = some (ys, cs') ∧ QI (zipD xs ys) (cs ++ cs') δ2) : izip T U δ QI := k
theorem i_src2 {r u : R} {xs ys : List D} {cs cs' : List (Nat × Cn)} {P : List D → List (Nat × Cn) → List D → List (Nat × Cn) → Prop} (e : srcL δ r = some (xs, cs)) (e2 : srcL δ u = some (ys, cs')) (k : P xs cs ys cs') : ∃ xs cs ys cs', srcL δ r = some (xs, cs) ∧ srcL δ u = some (ys, cs') ∧ P xs cs ys cs' := ⟨xs, cs, ys, cs', e, e2, k⟩
def ForK (as : List Nat) (Gd : DG) (B : DS) (Z : DE) (items : List D) (cs : List (Nat × Cn)) (δ1 : En) : Prop := (∀ p ∈ cs, p.1 ∉ as) ∧ ∃ I : Nat → En → Prop, I 0 δ1 ∧ (∀ k δ, I k δ → ∀ p ∈ cs, δ[p.1]? = some (E.ow p.2)) ∧
  (∀ k x δ, items[k]? = some x → I k δ → Gd x δ fun δ' => B ⟨I (k + 1), Z.rt, Z.nx, I (k + 1)⟩ δ') ∧ (∀ δ, I items.length δ → Z.nx δ)
theorem s_for {as : List Nat} {SI : DI} {Gd : DG} {B : DS} (k : SI δ fun items cs δ1 => ForK as Gd B ⟨n, rt, bk, ct⟩ items cs δ1) : sfor as SI Gd B ⟨n, rt, bk, ct⟩ δ := k
theorem for_by {as : List Nat} {Gd : DG} {B : DS} {items : List D} {cs : List (Nat × Cn)} (I : Nat → En → Prop) (h0 : I 0 δ) (hcs : ∀ p ∈ cs, p.1 ∉ as) (hi : ∀ k δ, I k δ → ∀ p ∈ cs, δ[p.1]? = some (E.ow p.2))
    (ht : ∀ k x δ, items[k]? = some x → I k δ → Gd x δ fun δ' => B ⟨I (k + 1), rt, n, I (k + 1)⟩ δ') (he : ∀ δ, I items.length δ → n δ) : ForK as Gd B ⟨n, rt, bk, ct⟩ items cs δ := ⟨hcs, I, h0, hi, ht, he⟩
theorem s_while {B : DS} (I : En → Prop) (μ : En → Nat) (h0 : I δ) (ht : ∀ δ, I δ → C δ fun b δ1 => (b = true → B ⟨fun δ2 => I δ2 ∧ μ δ2 < μ δ, rt, n, fun δ2 => I δ2 ∧ μ δ2 < μ δ⟩ δ1) ∧ (b = false → n δ1)) : swhile C B ⟨n, rt, bk, ct⟩ δ := by
  refine ⟨I, μ, h0, fun δ hI => ?_⟩
  have := ht δ hI
  have e : ∀ (c : Bool) (A B : Prop), ((c = true → A) ∧ (c = false → B)) = if c = true then A else B := fun c A B => by cases c <;> simp
  simp only [e] at this
  exact this
def CompK (Gd : DG) (C : DTT) (Te : DT) (vs : List Nat) (Q : R → En → Prop) (items : List D) (cs : List (Nat × Cn)) (δ1 : En) : Prop := noOw δ1 vs = true ∧ (∀ p ∈ cs, p.1 ∉ vs) ∧ ∃ I : Nat → List D → En → Prop, I 0 [] δ1 ∧ (∀ k acc δ, I k acc δ → ∀ p ∈ cs, δ[p.1]? = some (E.ow p.2)) ∧
  (∀ k x acc δ, items[k]? = some x → I k acc δ → Gd x (wipeE δ vs) fun δ2 => C δ2 fun b δ3 => if b = true then Te δ3 fun r δ4 => ∃ d, r.still δ4 = some d ∧ acc.length < sizeLine ∧ I (k + 1) (acc ++ [d]) (backE δ δ4 vs) else I (k + 1) acc (backE δ δ3 vs)) ∧
  (∀ acc δ, I items.length acc δ → Q (.fr (.l acc)) δ)
theorem e_comp {SI : DI} {Gd : DG} {Te : DT} {vs : List Nat} (k : SI δ fun items cs δ1 => CompK Gd C Te vs Q items cs δ1) : tcomp SI Gd C Te vs δ Q := k
theorem comp_by {Gd : DG} {Te : DT} {vs : List Nat} {items : List D} {cs : List (Nat × Cn)} (I : Nat → List D → En → Prop) (h0 : I 0 [] δ) (no : noOw δ vs = true) (hcs : ∀ p ∈ cs, p.1 ∉ vs) (hi : ∀ k acc δ, I k acc δ → ∀ p ∈ cs, δ[p.1]? = some (E.ow p.2))
    (ht : ∀ k x acc δ, items[k]? = some x → I k acc δ → Gd x (wipeE δ vs) fun δ2 => C δ2 fun b δ3 => (b = true → Te δ3 fun r δ4 => ∃ d, r.still δ4 = some d ∧ acc.length < sizeLine ∧ I (k + 1) (acc ++ [d]) (backE δ δ4 vs)) ∧ (b = false → I (k + 1) acc (backE δ δ3 vs)))
    (he : ∀ acc δ, I items.length acc δ → Q (.fr (.l acc)) δ) : CompK Gd C Te vs Q items cs δ := by
  have e : ∀ (c : Bool) (A B : Prop), ((c = true → A) ∧ (c = false → B)) = if c = true then A else B := fun c A B => by cases c <;> simp
  simp only [e] at ht
  exact ⟨no, hcs, I, h0, hi, ht, he⟩
/-- a comprehension without a condition: item k becomes f k, the slots stay -/
theorem comp_map {Gd : DG} {Te : DT} {vs : List Nat} {items : List D} {cs : List (Nat × Cn)} (f : Nat → D) (no : noOw δ vs = true) (hcs : ∀ p ∈ cs, p.1 ∉ vs) (hi : ∀ p ∈ cs, δ[p.1]? = some (E.ow p.2))
    (ht : ∀ k x, items[k]? = some x → Gd x (wipeE δ vs) fun δ2 => Te δ2 fun r δ4 => ∃ d, r.still δ4 = some d ∧ ((List.range k).map f).length < sizeLine ∧ (backE δ δ4 vs = δ ∧ (List.range k).map f ++ [d] = (List.range (k + 1)).map f))
    (he : Q (.fr (.l ((List.range items.length).map f))) δ) : CompK Gd tyes Te vs Q items cs δ := by
  refine comp_by (fun k acc δ' => δ' = δ ∧ acc = (List.range k).map f) ⟨rfl, rfl⟩ no hcs (fun k acc δ' h => by rw [h.1]; exact hi) (fun k x acc δ' e h => ?_) (fun acc δ' h => by rw [h.1, h.2]; exact he)
  obtain ⟨rfl, rfl⟩ := h
  have h2 := ht k x e
  simp only [tyes, forall_const, Bool.true_eq_false, false_implies, and_true, true_implies]
  exact h2
theorem m_end {f : Nat → D} {k : Nat} {d : D} {r : R} {δ4 δ5 : En} (e : r.still δ4 = some d) (hk : k < sizeLine) (hb : δ5 = δ) (h : d = f k) : ∃ d, r.still δ4 = some d ∧ ((List.range k).map f).length < sizeLine ∧ (δ5 = δ ∧ (List.range k).map f ++ [d] = (List.range (k + 1)).map f) :=
  ⟨d, e, by simpa using hk, hb, by rw [List.range_succ, List.map_append, h]; rfl⟩
def ownChk : En → Nat → List Nat → List Nat → Bool
  | [], _, _, _ => true
  | .ow _ :: δ, i, ps, as => ps.contains i && !as.contains i && ownChk δ (i + 1) ps as
  | _ :: δ, i, ps, as => ownChk δ (i + 1) ps as
theorem own_by0 : ∀ {δ : En} {j : Nat} {ps as : List Nat}, ownChk δ j ps as = true → ∀ (i : Nat) c, δ[i]? = some (E.ow c) → j + i ∈ ps ∧ j + i ∉ as
  | [], _, _, _, _, i, c, h => by simp at h
  | .ow _ :: δ, j, ps, as, h, 0, c, _ => by
    simp only [ownChk, Bool.and_eq_true, Bool.not_eq_true', List.contains_eq_mem, decide_eq_true_eq, decide_eq_false_iff_not] at h
    exact h.1
  | .ow _ :: δ, j, ps, as, h, i + 1, c, e => by
    simp only [ownChk, Bool.and_eq_true] at h
    have := own_by0 h.2 i c (by simpa using e)
    rw [show j + (i + 1) = j + 1 + i by omega]
    exact this
  | .va _ :: δ, j, ps, as, h, 0, c, e => by simp at e
  | .no :: δ, j, ps, as, h, 0, c, e => by simp at e
  | .va _ :: δ, j, ps, as, h, i + 1, c, e => by
    have := own_by0 (δ := δ) (j := j + 1) h i c (by simpa using e)
    rw [show j + (i + 1) = j + 1 + i by omega]
    exact this
  | .no :: δ, j, ps, as, h, i + 1, c, e => by
    have := own_by0 (δ := δ) (j := j + 1) h i c (by simpa using e)
    rw [show j + (i + 1) = j + 1 + i by omega]
    exact this
theorem own_by {δ : En} {ps as : List Nat} (h : ownChk δ 0 ps as = true) : ∀ (i : Nat) c, δ[i]? = some (E.ow c) → i ∈ ps ∧ i ∉ as := fun i c e => by
  have := own_by0 h i c e
  rw [Nat.zero_add] at this
  exact this
theorem SndSP.mono {K : PySem.W.Frag} {ps as bs : List Nat} {t : TS} {T : DS} (a : SndSP K ps as t T) (h : ∀ i, i ∈ as → i ∈ bs) : SndSP K ps bs t T := fun F hps hp σ H G δ D3 D s q g =>
  a F hps (fun i hi => hp i (h i hi)) σ H G δ D3 D s q ⟨fun _ _ _ _ n z => g.nx _ _ _ _ (n.mono h) z, fun _ _ _ _ n z => g.bk _ _ _ _ (n.mono h) z, fun _ _ _ _ n z => g.ct _ _ _ _ (n.mono h) z, fun _ _ _ _ _ _ n r nr z => g.rt _ _ _ _ _ _ (n.mono h) r nr z⟩
end
end L3
namespace L3
open PySem PySem.Spec PyProof.Rows L2 GenW
section
variable {X : Cx}
theorem GI.get {S : Addr} {ip : List (Addr × Obj)} {ys : List V} {σ : L2.St} {H : Hp} {s : Shared} (h : GI X S ip ys σ H s) : ∃ (acc : Array Value) (c : Nat), Vals ys acc.toList ∧ Inv X ((S, lstObj acc c) :: ip) σ H s := h
end
end L3
namespace L3
open PySem PySem.Spec PyProof.Rows L2 GenW
structure DGE where
  nx : List D → En → Prop
  rt : List D → Prop
  bk : List D → En → Prop := fun _ _ => False
  ct : List D → En → Prop := fun _ _ => False
abbrev DGn := DGE → List D → En → Prop
structure GoodG (K : PySem.W.Frag) (F : FE) (as : List Nat) (σ : L2.St) (H G : Hp) (δ : En) (D3 : DGE) (Z : GEnds) : Prop where
  nx : ∀ σ' H' G' δ' ys ds, Nxt K F as σ H G δ σ' H' G' δ' → AtL K G' ys ds → D3.nx ds δ' → Z.nx ys σ' H'
  bk : ∀ σ' H' G' δ' ys ds, Nxt K F as σ H G δ σ' H' G' δ' → AtL K G' ys ds → D3.bk ds δ' → Z.bk ys σ' H'
  ct : ∀ σ' H' G' δ' ys ds, Nxt K F as σ H G δ σ' H' G' δ' → AtL K G' ys ds → D3.ct ds δ' → Z.ct ys σ' H'
  rt : ∀ σ' H' G' δ' ys ds, Nxt K F as σ H G δ σ' H' G' δ' → AtL K G' ys ds → D3.rt ds → Z.rt ys .non H'
def SndGn (K : PySem.W.Frag) (as : List Nat) (t : TGn) (T : DGn) : Prop := ∀ (F : FE), (∀ i l, ¬ F.P i l) → ∀ (σ : L2.St) (H G : Hp) (δ : En) (D3 : DGE) (Z : GEnds) (ys : List V) (ds : List D), S3 K F σ H G δ → AtL K G ys ds → T D3 ds δ → GoodG K F as σ H G δ D3 Z → t Z ys σ H
section
variable {K : PySem.W.Frag}
theorem GoodG.from {F : FE} {as bs cs : List Nat} {σ σ1 : L2.St} {H G H1 G1 : Hp} {δ δ1 : En} {D3 : DGE} {Z : GEnds} (g : GoodG K F cs σ H G δ D3 Z) (n : Nxt K F as σ H G δ σ1 H1 G1 δ1) (h : ∀ i, i ∈ as ++ bs → i ∈ cs) : GoodG K F bs σ1 H1 G1 δ1 D3 Z :=
  ⟨fun _ _ _ _ _ _ m a q => g.nx _ _ _ _ _ _ ((n.trans m).mono h) a q, fun _ _ _ _ _ _ m a q => g.bk _ _ _ _ _ _ ((n.trans m).mono h) a q, fun _ _ _ _ _ _ m a q => g.ct _ _ _ _ _ _ ((n.trans m).mono h) a q, fun _ _ _ _ _ _ m a q => g.rt _ _ _ _ _ _ ((n.trans m).mono h) a q⟩
theorem SndGn.mono {as bs : List Nat} {t : TGn} {T : DGn} (a : SndGn K as t T) (h : ∀ i, i ∈ as → i ∈ bs) : SndGn K bs t T := fun F hp σ H G δ D3 Z ys ds s ha q g =>
  a F hp σ H G δ D3 Z ys ds s ha q ⟨fun _ _ _ _ _ _ n z e => g.nx _ _ _ _ _ _ (n.mono h) z e, fun _ _ _ _ _ _ n z e => g.bk _ _ _ _ _ _ (n.mono h) z e, fun _ _ _ _ _ _ n z e => g.ct _ _ _ _ _ _ (n.mono h) z e, fun _ _ _ _ _ _ n z e => g.rt _ _ _ _ _ _ (n.mono h) z e⟩
abbrev GSp := En → (List D → Prop) → Prop
end
end L3
namespace L3
open PySem PySem.Spec PyProof.Rows L2
def pk {α : Type} (is : List Nat) (xs : List α) : List α := is.filterMap fun i => xs[i]?
theorem pk_get {α : Type} {is : List Nat} {xs : List α} (h : ∀ i ∈ is, i < xs.length) : (pk is xs).length = is.length ∧ ∀ (j i : Nat), is[j]? = some i → (pk is xs)[j]? = xs[i]? := by
  induction is with
  | nil => exact ⟨rfl, fun j i e => by simp at e⟩
  | cons i0 is ih =>
    obtain ⟨l, g⟩ := ih fun i hi => h i (List.mem_cons_of_mem _ hi)
    have hi0 : i0 < xs.length := h i0 List.mem_cons_self
    have h0 : xs[i0]? = some xs[i0] := List.getElem?_eq_getElem hi0
    have e : pk (i0 :: is) xs = xs[i0] :: pk is xs := by
      unfold pk
      rw [List.filterMap_cons, h0]
    rw [e]
    refine ⟨by rw [List.length_cons, List.length_cons, l], fun j i ej => ?_⟩
    cases j with
    | zero =>
      simp at ej
      subst ej
      rw [h0]
      rfl
    | succ j =>
      rw [List.getElem?_cons_succ]
      exact g j i (by simpa using ej)
theorem Vals.pk {vs : List V} {us : List Value} (r : Vals vs us) : ∀ is : List Nat, Vals (pk is vs) (pk is us)
  | [] => .nil
  | i :: is => by
    unfold L3.pk
    rw [List.filterMap_cons, List.filterMap_cons]
    cases e : vs[i]? with
    | none =>
      rw [Vals.none_of r e]
      exact Vals.pk r is
    | some v =>
      obtain ⟨u, e2, ru⟩ := Vals.get r e
      rw [e2]
      exact .cons ru (Vals.pk r is)
theorem nodup_inj {α : Type} : ∀ {xs : List α} {i j : Nat} {x : α}, xs.Nodup → xs[i]? = some x → xs[j]? = some x → i = j
  | [], i, _, _, _, h, _ => by simp at h
  | _ :: _, 0, 0, _, _, _, _ => rfl
  | y :: ys, 0, j + 1, x, n, h, h' => by
    simp at h h'
    subst h
    exact absurd (List.mem_of_getElem? h') (List.nodup_cons.mp n).1
  | y :: ys, i + 1, 0, x, n, h, h' => by
    simp at h h'
    subst h'
    exact absurd (List.mem_of_getElem? h) (List.nodup_cons.mp n).1
  | y :: ys, i + 1, j + 1, x, n, h, h' => by
    have := nodup_inj (List.nodup_cons.mp n).2 (i := i) (j := j) (by simpa using h) (by simpa using h')
    omega
section
variable {K : PySem.W.Frag} {σ : L2.St} {H0 H1 H G : Hp}
theorem RRs.of : ∀ {rs : List R} {vs : List V}, vs.length = rs.length → (∀ (i : Nat) r v, rs[i]? = some r → vs[i]? = some v → RR K σ H0 H G r v) → (∀ (i j : Nat) c c' v, rs[i]? = some (R.fr c) → rs[j]? = some (R.fr c') → vs[i]? = some v → vs[j]? = some v → i = j) → RRs K σ H0 H G rs vs
  | [], [], _, _, _ => .nil
  | r :: rs, v :: vs, l, h, a => by
    refine .cons (h 0 r v rfl rfl) (RRs.of (by simpa using l) (fun i r v e e2 => h (i + 1) r v (by simpa using e) (by simpa using e2)) fun i j c c' v e1 e2 e3 e4 => ?_) fun c e j c' e2 e3 => ?_
    · have := a (i + 1) (j + 1) c c' v (by simpa using e1) (by simpa using e2) (by simpa using e3) (by simpa using e4)
      omega
    · have := a 0 (j + 1) c c' v (by rw [e]; rfl) (by simpa using e2) rfl (by simpa using e3)
      omega
  | [], _ :: _, l, _, _ => by cases l
  | _ :: _, [], l, _, _ => by cases l
theorem RRs.pk {rs : List R} {vs : List V} (rr : RRs K σ H0 H G rs vs) {is : List Nat} (nd : is.Nodup) (h : ∀ i ∈ is, i < rs.length) : RRs K σ H0 H G (pk is rs) (pk is vs) := by
  have hv : ∀ i ∈ is, i < vs.length := fun i hi => by rw [rr.length]; exact h i hi
  obtain ⟨l1, g1⟩ := pk_get h
  obtain ⟨l2, g2⟩ := pk_get hv
  have at_ : ∀ (j : Nat) {r : R}, (L3.pk is rs)[j]? = some r → ∃ i, is[j]? = some i ∧ rs[i]? = some r := fun j r e => by
    have hj : j < is.length := by rw [← l1]; exact (List.getElem?_eq_some_iff.mp e).1
    have ei : is[j]? = some is[j] := List.getElem?_eq_getElem hj
    exact ⟨_, ei, by rw [← g1 j _ ei]; exact e⟩
  refine RRs.of (by rw [l1, l2]) (fun j r v e e2 => ?_) fun j j' c c' v e1 e2 e3 e4 => ?_
  · obtain ⟨i, ei, er⟩ := at_ j e
    obtain ⟨v', q1, q2⟩ := rr.get er
    rw [g2 j i ei, q1] at e2
    cases e2
    exact q2
  · obtain ⟨i, ei, er⟩ := at_ j e1
    obtain ⟨i', ei', er'⟩ := at_ j' e2
    rw [g2 j i ei] at e3
    rw [g2 j' i' ei'] at e4
    have := rr.apart er er' e3 e4
    subst this
    obtain ⟨hj, ej⟩ := List.getElem?_eq_some_iff.mp ei
    obtain ⟨hj', ej'⟩ := List.getElem?_eq_some_iff.mp ei'
    exact nodup_inj nd ei ei'
theorem RRs.onL {σ : L2.St} {H0 G0 H1 G1 H2 G2 : Hp} {δ δ1 : En} (L : Rel K σ H0 G0 δ) (f1 : Fr (Ad σ δ) H0 G0 H1 G1) (le1 : Le δ1 δ) (f2 : Fr (Ad σ δ1) H1 G1 H2 G2) : ∀ {rs : List R} {vs : List V}, RRs K σ H0 H1 G1 rs vs → RRs K σ H0 H2 G2 rs vs
  | _, _, .nil => .nil
  | _, _, .cons h t n => .cons (h.on L f1 le1 f2) (RRs.onL L f1 le1 f2 t) n
end
section
variable {K : PySem.W.Frag}
theorem rrs_app {σ : L2.St} {H G H1 G1 H2 G2 : Hp} {δ δ1 : En} {rs us : List R} {vs zs : List V} (L : Rel K σ H G δ) (f1 : Fr (Ad σ δ) H G H1 G1) (le1 : Le δ1 δ) (f2 : Fr (Ad σ δ1) H1 G1 H2 G2) (rr : RRs K σ H H1 G1 rs vs) (rrs : RRs K σ H1 H2 G2 us zs) : RRs K σ H H2 G2 (rs ++ us) (vs ++ zs) := by
  have r1 := RRs.onL L f1 le1 f2 rr
  have r2 := rrs.base (fun a h => f1.free h)
  have apart : ∀ (i j : Nat) c c' v, rs[i]? = some (R.fr c) → us[j]? = some (R.fr c') → vs[i]? = some v → zs[j]? = some v → False := fun i j c c' v e1 e2 e3 e4 => by
    obtain ⟨v1, h1, l, rfl, n, g, hc⟩ := rr.get e1
    obtain ⟨v2, h2, l', rfl, n', _⟩ := rrs.get e2
    rw [e3] at h1
    rw [e4] at h2
    cases h1
    cases h2
    exact hc.some n'
  have ll := r1.length
  refine RRs.of (by rw [List.length_append, List.length_append, r1.length, r2.length]) (fun i r v e e2 => ?_) fun i j c c' v e1 e2 e3 e4 => ?_
  · by_cases z : i < rs.length
    · rw [List.getElem?_append_left z] at e
      rw [List.getElem?_append_left (by omega)] at e2
      obtain ⟨v', h1, h2⟩ := r1.get e
      rw [e2] at h1
      cases h1
      exact h2
    · rw [List.getElem?_append_right (by omega)] at e
      rw [List.getElem?_append_right (by omega), ll] at e2
      obtain ⟨v', h1, h2⟩ := r2.get e
      rw [e2] at h1
      cases h1
      exact h2
  · by_cases z : i < rs.length
    · rw [List.getElem?_append_left z] at e1
      rw [List.getElem?_append_left (by omega)] at e3
      by_cases z' : j < rs.length
      · rw [List.getElem?_append_left z'] at e2
        rw [List.getElem?_append_left (by omega)] at e4
        exact r1.apart e1 e2 e3 e4
      · rw [List.getElem?_append_right (by omega)] at e2
        rw [List.getElem?_append_right (by omega), ll] at e4
        exact (apart _ _ _ _ _ e1 e2 e3 e4).elim
    · rw [List.getElem?_append_right (by omega)] at e1
      rw [List.getElem?_append_right (by omega), ll] at e3
      by_cases z' : j < rs.length
      · rw [List.getElem?_append_left z'] at e2
        rw [List.getElem?_append_left (by omega)] at e4
        exact (apart _ _ _ _ _ e2 e1 e4 e3).elim
      · rw [List.getElem?_append_right (by omega)] at e2
        rw [List.getElem?_append_right (by omega), ll] at e4
        have := r2.apart e1 e2 e3 e4
        omega
def tCallP (sp : Sp) (np nk : Nat) (is : List Nat) (W : XK) (t u : TA) : TE := fun σ H Q => t σ H fun vs H1 => vs.length = np ∧ u σ H1 fun zs H2 => zs.length = nk ∧ sp (pk is (vs ++ zs)) H2 Q W
def tcallP (sp : DSp) (ms : List Bool) (np nk : Nat) (is : List Nat) (T U : DTA) : DT := fun δ Q => T δ fun rs δ1 => rs.length = np ∧ U δ1 fun us δ2 => us.length = nk ∧ ∃ es, passes δ2 (pk is (rs ++ us)) ms = some es ∧ (rfs (pk is (rs ++ us))).Nodup ∧ sp es fun r es' => ∃ δ', puts δ2 (pk is (rs ++ us)) es' = δ' ∧ Q r δ'
theorem snd_callP {sp : DSp} {ms : List Bool} {np nk : Nat} {is : List Nat} {t u : TA} {T U : DTA} {n : Nat} {W : XK} (hn : ms.length = n) (ni : is.Nodup) (hi : ∀ i ∈ is, i < np + nk) (a : SndA K t T) (b : SndA K u U) : Snd K (tCallP (up K n sp) np nk is W t u) (tcallP sp ms np nk is T U) := fun σ H G δ Q Q3 L h k => by
  refine a σ H G δ _ _ L h fun rs δ1 vs H1 G1 L1 f1 le1 rr q1 => ?_
  obtain ⟨l1, q1⟩ := q1
  refine ⟨by rw [rr.length]; exact l1, ?_⟩
  refine b σ H1 G1 δ1 _ _ L1 q1 fun us δ2 zs H2 G2 L2 f2 le2 rrs q2 => ?_
  obtain ⟨l2, es, he, nd, hs⟩ := q2
  refine ⟨by rw [rrs.length]; exact l2, ?_⟩
  have f12 : Fr (Ad σ δ) H G H2 G2 := f1.trans f2 fun a h => .inl (le1.ad h)
  have ra := rrs_app L f1 le1 f2 rr rrs
  exact call_core L L2 f12 (le2.trans le1) (ra.pk ni fun i z => by rw [List.length_append, l1, l2]; exact hi i z) nd ((passes_len he).trans hn) he hs fun r es' v H' G' l f le r _ q => by
    obtain ⟨_, rfl, q⟩ := q
    exact k _ _ v H' G' l f le r q
end
/-- a def that is called with keywords: np positional arguments, then these names -/
structure FK (P : Program) (w : World) (K : PySem.W.Frag) (mg : Str → Option Value) (base : Heap) (x : Str) (k n : Nat) (sp : DSp) (np : Nat) (ks : List Str) (is : List Nat) : Prop where
  ex : ∃ fd ps, FnOk P w K mg base CX0 k (He.ga K x) fd ps (up K n sp) ∧ ∀ (s : Shared) (us ws : List Value), K.In s.heap → us.length = np → ws.length = ks.length → BindsTo s fd ⟨us, ks.zip ws⟩ (ps.zip (pk is (us ++ ws)))
  kp : PySem.W.keepIn K (.ref (He.ga K x)) = true
  at_ : mg x = some (.ref (He.ga K x))
section
variable {X : Cx} {CX : CXT} {k n : Nat} {f : Addr} {fd : FuncData} {ps : List Str} {sp : Sp} {E : XK} {x : Str} {p pos : Pos} {e : Expr} {es : List Expr} {t tk : TA} {kws : List Keyword} {ks : List Str}
theorem run_fkp {pins : List (Addr × Obj)} {σ : L2.St} {H : Hp} {s : Shared} {Q : VK} {us ws zs : List Value} {vs : List V} (F : FnOk X.prog X.w X.K X.mg X.base CX k f fd ps sp) (hr : Room k X.A) (hb : BindsTo s fd ⟨us, ks.zip ws⟩ (ps.zip zs)) (hx : Passes CX X E)
    (I : Inv X pins σ H s) (r : Vals vs zs) (h : sp vs H Q E) : wpAny (model X.prog X.w) X.A (call (.ref f) us (ks.zip ws)) (EP X pins σ Q) X.xe s := by
  refine wpAny_call (codeAny_mono (F.run X.A X.stack s H ⟨us, ks.zip ws⟩ zs vs Q E hr I.env0 hb r h) fun r s' hq => ?_)
  cases r with
  | error e => exact hx pins σ H s e s' I hq
  | ok fl =>
    cases fl with
    | ret u => exact I.after hq
    | next => exact False.elim hq
    | brk => exact False.elim hq
    | cont => exact False.elim hq
theorem pe_fk0 {sp : DSp} {nk : Nat} {is : List Nat} (h : FK X.prog X.w X.K X.mg X.base x k n sp 0 ks is) (hr : Room k X.A) (hg : Gl X x) (hkw : PK X kws tk) (hlk : ks.length = nk)
    (hall : (backToKw pos (keywordEach kws X.env)).all (·.1.isSome) = true := by rfl) (hks : (backToKw pos (keywordEach kws X.env)).filterMap (·.1) = ks := by rfl)
    (hdb : (x == ("__debug__" : Str)) = false := by decide)
    (hpl : ((backTo pos (starEach [] X.env)).any (·.1) || (backToKw pos (keywordEach kws X.env)).any (·.1.isNone)) = false := by rfl) :
    PE X (.Call (.Name x p) [] kws pos) (tCallP (up X.K n sp) 0 nk is E0 tNil tk) := by
  obtain ⟨fd, ps, F, hb⟩ := h.ex
  refine ⟨fun pins s σ H Q I hq => ?_⟩
  obtain ⟨_, hq⟩ := hq
  refine wpAny_Call_Name_kw (ld_glob I hg h.at_ ?_ hdb)
  refine PySem.W.callWith_KW0 (h₀ := X.base) I.ok.mod.kin h.kp hall (wpAny_mono (hkw.run pos pins s σ H _ I hq) (fun ws s2 ⟨zs, H2, I2, rz, l2, q2⟩ => ⟨I2.kIn, ?_⟩) fun _ _ z => z) hpl
  rw [hks]
  exact run_fkp F hr (hb s2 [] ws I2.kIn rfl (by rw [← rz.length, hlk]; exact l2)) pass0 I2 (Vals.pk rz is) q2
end
def putFD (f : Str) (d : D) : List (Str × D) → List (Str × D)
  | [] => [(f, d)]
  | (g, x) :: r => if g = f then (g, d) :: r else (g, x) :: putFD f d r
section
variable {K : PySem.W.Frag}
theorem AtF.put {G : Hp} {f : Str} {v : V} {d : D} (h : At K G v d) : ∀ {vs : List (Str × V)} {ds : List (Str × D)}, AtF K G vs ds → AtF K G (putF f v vs) (putFD f d ds)
  | _, _, .nil => .cons ⟨rfl, h⟩ .nil
  | _, _, .cons (a := (g, x)) (b := (g', y)) a t => by
    obtain ⟨e, a⟩ := a
    have e' : g = g' := e
    subst e'
    unfold putF putFD
    by_cases z : g = f
    · rw [if_pos z, if_pos z]
      exact .cons ⟨rfl, h⟩ t
    · rw [if_neg z, if_neg z]
      exact .cons ⟨rfl, a⟩ (AtF.put h t)
theorem AtF.length {G : Hp} {vs : List (Str × V)} {ds : List (Str × D)} (h : AtF K G vs ds) : vs.length = ds.length := Paired.length h
def ssetf (cn f : Str) (To Tv : DT) : DS := fun D δ => Tv δ fun r δ1 => To δ1 fun ro δ2 => ∃ i fs d, ro = .rf i ∧ δ2[i]? = some (E.ow (.o cn fs)) ∧ r.still δ2 = some d ∧ (∀ j, r ≠ .rf j) ∧ fs.length < 1000 ∧ ∃ δ', δ2.set i (.ow (.o cn (putFD f d fs))) = δ' ∧ D.nx δ'
theorem snds_setf {cn f : Str} {to tv : TE} {To Tv : DT} (c : Cls K (He.ga K cn)) (n : NoAttr K (He.ga K cn) f) (a : Snd K to To) (b : Snd K tv Tv) : SndS K [] (sFld K to tv f) (ssetf cn f To Tv) := fun F hp σ H G δ D3 Z s h g => by
  refine b σ H G δ _ _ s.L h fun r δ1 v H1 G1 L1 f1 le1 rr q => ?_
  refine a σ H1 G1 δ1 _ _ L1 q fun ro δ2 u H2 G2 L2 f2 le2 rro q => ?_
  obtain ⟨i, fs, d, rfl, e, es, nr, hl, _, rfl, q⟩ := q
  have f12 : Fr (Ad σ δ) H G H2 G2 := f1.trans f2 fun a h => .inl (le1.ad h)
  have rr2 : RR K σ H H2 G2 r v := rr.on s.L f1 le1 f2
  obtain ⟨G3, L3, f3, s3, h3, _⟩ := settle s.L L2 f12 (le2.trans le1) rr2 es
  obtain ⟨l, q1, q2, dx, vs, q3, q4⟩ := L3.ow i _ e
  rw [show σ[i]? = some (some u) from rro] at q1
  cases q1
  refine ⟨l, _, dx, vs, rfl, q3, c, n, by rw [q4.length]; exact hl, ?_⟩
  have n1 : Nxt K F [] σ H G δ σ H2 G3 δ2 := .step s L3 f3 (le2.trans le1)
  obtain ⟨L4, f4, le4⟩ := L3.upC (o := .ins (He.ga K cn) dx (putF f v vs)) (c' := .o cn (putFD f d fs)) e rro ⟨dx, _, upd_same, q4.put h3⟩
  exact g.nx _ _ _ _ (n1.trans (.step n1.s L4 f4 le4)) q
/-- a class with these fields -/
structure ClsF (K : PySem.W.Frag) (cn : Str) (fs : List Str) : Prop where
  c : Cls K (He.ga K cn)
  n : ∀ f ∈ fs, NoAttr K (He.ga K cn) f
end
section
variable {K : PySem.W.Frag}
def izipA (T U : DT) : DI := fun δ Q => T δ fun r δ1 => U δ1 fun u δ2 => (∃ xs cs ys cs', srcL δ2 r = some (xs, cs) ∧ srcL δ2 u = some (ys, cs') ∧ Q (zipD xs ys) (cs ++ cs') δ2) ∨ ∃ xs ys, r = .va (.tup xs) ∧ u = .va (.tup ys) ∧ Q (zipD xs ys) [] δ2
theorem sndi_zipA {t u : TE} {T U : DT} (a : Snd K t T) (b : Snd K u U) : SndI K (RZ.iZipA K (tCons t (tCons u tNil))) (izipA T U) := fun σ H G δ R Q3 L h k => by
  refine a σ H G δ _ _ L h fun r δ1 v H1 G1 L1 f1 le1 rr q => ?_
  refine b σ H1 G1 δ1 _ _ L1 q fun u δ2 w H2 G2 L2 f2 le2 rr2 q => ?_
  rcases q with ⟨xs, cs, ys, cs', e1, e2, q⟩ | ⟨xs, ys, rfl, rfl, q⟩
  · have f12 : Fr (Ad σ δ) H G H2 G2 := f1.trans f2 fun a h => .inl (le1.ad h)
    obtain ⟨a, G3, rfl, L3, f3, s3, la, ⟨vs0, ex⟩, ch⟩ := srcL_at L L2 f12 (le2.trans le1) (rr.on L f1 le1 f2) e1
    have rr3 : RR K σ H H2 G3 u w := by
      cases u with
      | va d => exact At.mono s3 rr2
      | rf i => exact rr2
      | fr c =>
        obtain ⟨l, rfl, n0, g, q⟩ := rr2
        refine ⟨l, rfl, f1.free n0, ?_, q.mono (fun _ z => z) s3⟩
        by_cases z : G3 l = G2 l
        · rw [z]
          exact g
        · obtain ⟨ev, c, ec⟩ := ch l z
          cases ev
          subst ec
          obtain ⟨l', e3, _, _, hc⟩ := rr
          cases e3
          exact absurd n0 hc.some
    obtain ⟨b, G4, rfl, L4, f4, s4, lb, ⟨us0, ex2⟩, _⟩ := srcL_at L L3 f3 (le2.trans le1) rr3 e2
    refine ⟨a, b, vs0, us0, rfl, .inl ⟨ex, ex2, k _ (cs ++ cs') δ2 _ H2 G4 L4 f4 (le2.trans le1) (fun σ H G δ L s c => ?_) q⟩⟩
    obtain ⟨vs, h1, t1⟩ := la.sub s4 σ H G δ L s fun p hp => c p (List.mem_append_left _ hp)
    obtain ⟨us, h2, t2⟩ := lb σ H G δ L s fun p hp => c p (List.mem_append_right _ hp)
    refine ⟨fun k z e => ?_, vs, us, h1, h2, by rw [t1.length, t2.length]; exact zipD_len⟩
    obtain ⟨x, y, e1, e2, rfl⟩ := zipD_get e
    obtain ⟨v, e3, hv⟩ := t1.get e1
    obtain ⟨w, e4, hw⟩ := t2.get e2
    refine ⟨⟨vs, us, v, w, h1, h2, e3, e4⟩, fun u H' z => ?_⟩
    obtain ⟨T, x', y', rfl, hT, rfl, z1, z2⟩ := z
    have q1 := z1 vs h1
    have q2 := z2 us h2
    rw [e3] at q1
    rw [e4] at q2
    cases q1
    cases q2
    obtain ⟨f3, s3⟩ := gr_keep (o := .tup [v, w]) L.sub hT
    exact ⟨_, f3, s3, At.tup (SqT.of upd_same) (.cons (hv.mono f3.sub) (.one (hw.mono f3.sub)))⟩
  · have f12 : Fr (Ad σ δ) H G H2 G2 := f1.trans f2 fun a h => .inl (le1.ad h)
    cases (show At K G1 v (.tup xs) from rr) with
    | @tup a vs _ h1 t1 =>
      cases (show At K G2 w (.tup ys) from rr2) with
      | @tup b us _ h2 t2 =>
        have h1' := f2.sub.sqT h1
        refine ⟨a, b, vs, us, rfl, .inr ⟨L2.sub.sqT h1', L2.sub.sqT h2, k _ [] δ2 _ H2 G2 L2 f12 (le2.trans le1) (fun σ H G δ L s c => ?_) q⟩⟩
        have g1 := L.sub.sqT (s.sqT h1')
        have g2 := L.sub.sqT (s.sqT h2)
        refine ⟨fun k z e => ?_, vs, us, g1, g2, by rw [t1.length, t2.length]; exact zipD_len⟩
        obtain ⟨x, y, e1, e2, rfl⟩ := zipD_get e
        obtain ⟨v, e3, hv⟩ := t1.get e1
        obtain ⟨w, e4, hw⟩ := t2.get e2
        refine ⟨⟨vs, us, v, w, g1, g2, e3, e4⟩, fun u H' z => ?_⟩
        obtain ⟨T, x', y', rfl, hT, rfl, z1, z2⟩ := z
        have q1 := z1 vs g1
        have q2 := z2 us g2
        rw [e3] at q1
        rw [e4] at q2
        cases q1
        cases q2
        obtain ⟨f3, s3⟩ := gr_keep (o := .tup [v, w]) L.sub hT
        exact ⟨_, f3, s3, At.tup (SqT.of upd_same) (.cons ((hv.mono (f2.sub.trans s)).mono f3.sub) (.one ((hw.mono s).mono f3.sub)))⟩
end
section
variable {Q : R → En → Prop} {δ : En} {T U : DT} {TA TB : DTA} {n : En → Prop} {rt : R → En → Prop} {bk ct : En → Prop}
theorem p_obj {r : R} {cn : Str} {ns : List Str} {ds : List D} {P : Prop} (e : r.dat δ = some (.obj cn ns ds)) (k : P) : ∃ ns ds, r.dat δ = some (.obj cn ns ds) ∧ P := ⟨ns, ds, e, k⟩
theorem p_fld {cn f : Str} (k : T δ fun r δ1 => ∃ ns ds d, r.dat δ1 = some (.obj cn ns ds) ∧ (ns.zip ds).lookup f = some d ∧ Q (.va d) δ1) : tfldc cn f T δ Q := k
theorem p_fld1 {r : R} {cn f : Str} {ns : List Str} {ds : List D} {d : D} {P : D → Prop} (e : r.dat δ = some (.obj cn ns ds)) (e2 : (ns.zip ds).lookup f = some d) (k : P d) : ∃ ns ds d, r.dat δ = some (.obj cn ns ds) ∧ (ns.zip ds).lookup f = some d ∧ P d := ⟨ns, ds, d, e, e2, k⟩
theorem p_meth {cn m : Str} {sp : DSp} {ms : List Bool} (k : T δ fun r δ0 => ∃ ns ds, r.dat δ0 = some (.obj cn ns ds) ∧ (ns.zip ds).lookup m = none ∧ TA δ0 fun rs δ1 => ∃ es, passes δ1 (r :: rs) ms = some es ∧ (rfs (r :: rs)).Nodup ∧ sp es fun r' es' => ∃ δ', puts δ1 (r :: rs) es' = δ' ∧ Q r' δ') : tmeth cn m sp ms T TA δ Q := by
  simp only [exists_eq_left'] at k
  unfold tmeth
  have : ∀ (r : R) rs δ1, (∃ es, passes δ1 (r :: rs) ms = some es ∧ (rfs (r :: rs)).Nodup ∧ sp es fun r' es' => Q r' (puts δ1 (r :: rs) es')) = ((rfs (r :: rs)).Nodup ∧ ∃ es, passes δ1 (r :: rs) ms = some es ∧ sp es fun r' es' => Q r' (puts δ1 (r :: rs) es')) := fun r rs δ1 => propext ⟨fun ⟨es, a, b, c⟩ => ⟨b, es, a, c⟩, fun ⟨b, es, a, c⟩ => ⟨es, a, b, c⟩⟩
  simp only [this] at k
  exact k
theorem p_meth1 {r : R} {cn m : Str} {ns : List Str} {ds : List D} {P : Prop} (e : r.dat δ = some (.obj cn ns ds)) (e2 : (ns.zip ds).lookup m = none) (k : P) : ∃ ns ds, r.dat δ = some (.obj cn ns ds) ∧ (ns.zip ds).lookup m = none ∧ P := ⟨ns, ds, e, e2, k⟩
theorem p_make {cn : Str} {sp : DSp} {ms : List Bool} (k : TA δ fun rs δ1 => ∃ es, passes δ1 (.fr (.o cn []) :: rs) (true :: ms) = some es ∧ (rfs rs).Nodup ∧ sp es fun r es' => r = .va .non ∧ ∃ cn' fs es'', es' = .ow (.o cn' fs) :: es'' ∧ ∃ δ', puts δ1 rs es'' = δ' ∧ Q (.fr (.o cn' fs)) δ') : tmake cn sp ms TA δ Q := by
  simp only [exists_eq_left'] at k
  unfold tmake
  have : ∀ (rs : List R) δ1 (P : En → Prop), (∃ es, passes δ1 (.fr (.o cn []) :: rs) (true :: ms) = some es ∧ (rfs rs).Nodup ∧ P es) = ((rfs rs).Nodup ∧ ∃ es, passes δ1 (.fr (.o cn []) :: rs) (true :: ms) = some es ∧ P es) := fun rs δ1 P => propext ⟨fun ⟨es, a, b, c⟩ => ⟨b, es, a, c⟩, fun ⟨b, es, a, c⟩ => ⟨es, a, b, c⟩⟩
  simp only [this] at k
  exact k
theorem p_pass0 {rs rs' : List R} {ms : List Bool} {es : En} {P : En → Prop} (e : passes δ rs ms = some es) (h : (rfs rs').Nodup) (k : P es) : ∃ es, passes δ rs ms = some es ∧ (rfs rs').Nodup ∧ P es := ⟨es, e, h, k⟩
theorem p_listm1 {cn m : Str} {ns : List Str} {xs : List D} {P : List Str → List D → Prop} (e2 : (ns.zip xs).lookup m = none) (k : P ns xs) : ∃ ns' xs', R.va (.obj cn ns xs) = .va (.obj cn ns' xs') ∧ (ns'.zip xs').lookup m = none ∧ P ns' xs' := ⟨ns, xs, rfl, e2, k⟩
theorem p_callP {sp : DSp} {ms : List Bool} {np nk : Nat} {is : List Nat} (k : TA δ fun rs δ1 => rs.length = np ∧ TB δ1 fun us δ2 => us.length = nk ∧ ∃ es, passes δ2 (pk is (rs ++ us)) ms = some es ∧ (rfs (pk is (rs ++ us))).Nodup ∧ sp es fun r es' => ∃ δ', puts δ2 (pk is (rs ++ us)) es' = δ' ∧ Q r δ') : tcallP sp ms np nk is TA TB δ Q := k
theorem p_setf {cn f : Str} (k : U δ fun r δ1 => T δ1 fun ro δ2 => ∃ i fs d, ro = .rf i ∧ δ2[i]? = some (E.ow (.o cn fs)) ∧ r.still δ2 = some d ∧ (∀ j, r ≠ .rf j) ∧ fs.length < 1000 ∧ ∃ δ', δ2.set i (.ow (.o cn (putFD f d fs))) = δ' ∧ n δ') : ssetf cn f T U ⟨n, rt, bk, ct⟩ δ := k
theorem p_self {r : R} {cn : Str} {i : Nat} {fs : List (Str × D)} {d : D} {P : Nat → List (Str × D) → D → Prop} (e : δ[i]? = some (E.ow (.o cn fs))) (e2 : r.still δ = some d) (h : ∀ j, r ≠ .rf j) (hl : fs.length < 1000) (k : P i fs d) :
    ∃ i' fs d, R.rf i = .rf i' ∧ δ[i']? = some (E.ow (.o cn fs)) ∧ r.still δ = some d ∧ (∀ j, r ≠ .rf j) ∧ fs.length < 1000 ∧ P i' fs d := ⟨i, fs, d, rfl, e, e2, h, hl, k⟩
theorem i_zipA {QI : List D → List (Nat × Cn) → En → Prop} (k : T δ fun r δ1 => U δ1 fun u δ2 => (∃ xs cs ys cs', srcL δ2 r = some (xs, cs) ∧ srcL δ2 u = some (ys, cs') ∧ QI (zipD xs ys) (cs ++ cs') δ2) ∨ ∃ xs ys, r = .va (.tup xs) ∧ u = .va (.tup ys) ∧ QI (zipD xs ys) [] δ2) : izipA T U δ QI := k
theorem i_zl {r u : R} {xs ys : List D} {cs cs' : List (Nat × Cn)} {P : List D → List (Nat × Cn) → List D → List (Nat × Cn) → Prop} {B : Prop} (e : srcL δ r = some (xs, cs)) (e2 : srcL δ u = some (ys, cs')) (k : P xs cs ys cs') : (∃ xs cs ys cs', srcL δ r = some (xs, cs) ∧ srcL δ u = some (ys, cs') ∧ P xs cs ys cs') ∨ B := .inl ⟨xs, cs, ys, cs', e, e2, k⟩
theorem i_zt {xs ys : List D} {P : List D → List D → Prop} {B : Prop} (k : P xs ys) : B ∨ ∃ xs' ys', R.va (.tup xs) = .va (.tup xs') ∧ R.va (.tup ys) = .va (.tup ys') ∧ P xs' ys' := .inr ⟨xs, ys, rfl, rfl, k⟩
theorem c_len {xs : List R} {m : Nat} {P : Prop} (h : xs.length = m) (k : P) : xs.length = m ∧ P := ⟨h, k⟩
theorem c_pass {is : List Nat} {ms : List Bool} {rs rs' : List R} {sp : DSp} (e : pk is rs = rs') (k : ∃ es, passes δ rs' ms = some es ∧ (rfs rs').Nodup ∧ sp es fun r es' => ∃ δ', puts δ rs' es' = δ' ∧ Q r δ') : ∃ es, passes δ (pk is rs) ms = some es ∧ (rfs (pk is rs)).Nodup ∧ sp es fun r es' => ∃ δ', puts δ (pk is rs) es' = δ' ∧ Q r δ' := by
  subst e
  exact k
theorem c_x0 {ro : R} {xs : List D} {P : Prop} (h : ro.dat δ = some (.lst xs)) (k : P) : ∃ xs0, ro.dat δ = some (.lst xs0) ∧ P := ⟨xs, h, k⟩
theorem d_new (k : Q (.fr (.d [])) δ) : tdnew δ Q := k
theorem d_in (k : T δ fun y δ1 => U δ1 fun x δ2 => ∃ d k kvs, y.dat δ2 = some d ∧ keyD d = some k ∧ x.dct δ2 = some kvs ∧ Q (.va (.bl (valD kvs k).isSome)) δ2) : tdin T U δ Q := k
theorem d_put {V : DT} (k : V δ fun r δ1 => T δ1 fun x δ2 => U δ2 fun y δ3 => ∃ i kvs d k z, x = .rf i ∧ δ3[i]? = some (E.ow (.d kvs)) ∧ y.dat δ3 = some d ∧ keyD d = some k ∧ r = .va z ∧ kvs.length < sizeLine ∧ ∃ δ', δ3.set i (.ow (.d (putD kvs k z))) = δ' ∧ n δ') : sdput T U V ⟨n, rt, bk, ct⟩ δ := by
  simp only [exists_eq_left'] at k
  exact k
theorem e_tjoin (k : T δ fun ro δ1 => ∃ a, ro = .va (.str a) ∧ U δ1 fun r δ2 => ∃ ys : List Str, (r.dat δ2 = some (.lst (ys.map D.str)) ∨ r.dat δ2 = some (.tup (ys.map D.str))) ∧ (ys.map (·.length)).sum + ys.length * a.length ≤ 16777216 ∧ Q (.va (.str (Txt.join a ys))) δ2) : tjoin T U δ Q := k
theorem p_join0 {a : Str} {P : Str → Prop} (k : P a) : ∃ a', R.va (.str a) = .va (.str a') ∧ P a' := ⟨a, rfl, k⟩
end
theorem lt_put {f : Str} {d : D} : ∀ {fs : List (Str × D)} {k : Nat}, fs.length < k → (putFD f d fs).length < k + 1
  | [], k, h => by simp [putFD]; omega
  | (g, x) :: r, k, h => by
    unfold putFD
    split
    · simp at h ⊢; omega
    · simp at h ⊢
      have := lt_put (f := f) (d := d) (fs := r) (k := k - 1) (by omega)
      omega
end L3
namespace L3
open PySem PySem.Spec PyProof.Rows L2
section
variable {δ : En} {T : DT} {QI : List D → List (Nat × Cn) → En → Prop}
theorem i_el {r : R} {xs : List D} {cs : List (Nat × Cn)} {P : List D → List (Nat × Cn) → Prop} {B : Prop} (e : srcL δ r = some (xs, cs)) (k : P xs cs) : (∃ xs cs, srcL δ r = some (xs, cs) ∧ P xs cs) ∨ B := .inl ⟨xs, cs, e, k⟩
theorem i_et {xs : List D} {P : List D → Prop} {B : Prop} (k : P xs) : B ∨ ∃ xs', R.va (.tup xs) = .va (.tup xs') ∧ P xs' := .inr ⟨xs, rfl, k⟩
end
end L3
namespace L3
open PySem PySem.Spec PyProof.Rows L2
abbrev Row := List (Int × Int)
abbrev Net := List Row
def pairD (p : Int × Int) : D := .tup [.int p.1, .int p.2]
def rowD (r : Row) : D := .lst (r.map pairD)
def netD (n : Net) : D := .lst (n.map rowD)
def strsT (ls : List Str) : D := .tup (ls.map D.str)
def planF (ls : List Str) (size : Nat) (n : Net) : List (Str × D) := [("sides", strsT ls), ("copies", .int size), ("_steps", netD n)]
def planD (ls : List Str) (size : Nat) (n : Net) : D := .obj "Plan" ["sides", "copies", "_steps"] [strsT ls, .int size, netD n]
structure GoodRow (size : Nat) (r : Row) : Prop where
  len : r.length = size
  ok : ∀ x : Nat, x < size → ∃ (y : Nat) (s : Int), r[x]? = some ((y : Int), s) ∧ y < size ∧ (s = 1 ∨ s = -1) ∧ r[y]? = some ((x : Int), s)
structure GoodNet (many size : Nat) (n : Net) : Prop where
  len : n.length = many
  m0 : 0 < many
  m1 : many ≤ 8
  s0 : 0 < size
  s1 : size ≤ 1000
  row : ∀ r ∈ n, GoodRow size r
def letters : Str := "abcdefghijklmnopqrstuvwxyz"
structure GoodName (x : Str) : Prop where
  l0 : 1 ≤ x.length
  l1 : x.length ≤ 3
  ok : ∀ c ∈ x.cps.toList, c ∈ letters.cps.toList
structure GoodSides (ls : List Str) : Prop where
  m0 : 0 < ls.length
  m1 : ls.length ≤ 8
  nd : ls.Nodup
  ok : ∀ x ∈ ls, GoodName x
/-- a bag: the numbers, how many are used, the rest of a great one, the mixed number, how often was drawn -/
def bagD (ns : List Int) (i r m c : Int) : List D := [.lst (ns.map D.int), .int i, .int r, .int m, .int c]
def IsBag (xs : List D) : Prop := ∃ (ns : List Int) (i r m c : Int), xs = bagD ns i r m c ∧ ns.length ≤ 63 ∧ 0 ≤ i ∧ 0 ≤ r ∧ 0 ≤ m ∧ m < 2147483629
theorem GoodNet.get {many size : Nat} {n : Net} (h : GoodNet many size n) {i : Nat} (hi : i < many) : ∃ r, n[i]? = some r ∧ GoodRow size r := by
  have : i < n.length := by rw [h.len]; exact hi
  exact ⟨n[i], List.getElem?_eq_getElem this, h.row _ (List.getElem_mem this)⟩
theorem map_at {α β : Type} {f : α → β} {xs : List α} {i : Int} {x : α} (h0 : 0 ≤ i) (h : xs[i.toNat]? = some x) : L2.atI (xs.map f) i = some (f x) := atI_get h0 (by rw [List.getElem?_map, h]; rfl)
theorem map_some {α β : Type} {f : α → β} {xs : List α} {k : Nat} {y : β} (h : (xs.map f)[k]? = some y) : ∃ x, xs[k]? = some x ∧ y = f x := by
  rw [List.getElem?_map] at h
  obtain ⟨x, h1, h2⟩ := Option.map_eq_some_iff.mp h
  exact ⟨x, h1, h2.symm⟩
theorem f_allT {q : R → Prop} {n : Nat} (k : q (.va (.bl true))) : allF [.lst ((List.range n).map fun _ => D.bl true)] q := by
  refine ⟨List.replicate n true, by rw [List.map_replicate]; refine List.eq_replicate_iff.mpr ⟨by simp, fun b hb => ?_⟩; obtain ⟨_, _, e⟩ := List.mem_map.mp hb; exact e.symm, ?_⟩
  have : (List.replicate n true).all id = true := by simp
  rw [this]
  exact k
theorem occ_letters : ∀ c ∈ letters.cps.toList, (!(Builtin.Str.occurrences letters ⟨#[c]⟩ 0 letters.length 1).isEmpty) = true := by decide +kernel
theorem vd_none {kvs : List (Key × D)} {k : Key} (h : ∀ p ∈ kvs, p.1 ≠ k) : valD kvs k = none := by
  unfold valD
  rw [List.find?_eq_none.mpr fun p hp => by simpa using h p hp]
  rfl
theorem pd_new {kvs : List (Key × D)} {k : Key} {v : D} (h : ∀ p ∈ kvs, p.1 ≠ k) : putD kvs k v = kvs ++ [(k, v)] := by
  unfold putD
  rw [if_neg]
  intro z
  obtain ⟨p, hp, e⟩ := List.any_eq_true.mp z
  exact h p hp (by simpa using e)
theorem f_inS {q : R → Prop} {a b : Str} {v : Bool} (h : (!(Builtin.Str.occurrences b a 0 b.length 1).isEmpty) = v) (k : q (.va (.bl v))) : bF inF (.str a) (.str b) q := by
  subst h
  exact k
theorem map_range_getD {α β : Type} {f : α → β} {xs : List α} {d : α} : (List.range xs.length).map (fun j => f (xs.getD j d)) = xs.map f := by
  refine List.ext_getElem? fun i => ?_
  rw [List.getElem?_map, List.getElem?_map]
  by_cases h : i < xs.length
  · rw [List.getElem?_range h, List.getElem?_eq_getElem h]
    simp [List.getD_eq_getElem?_getD, List.getElem?_eq_getElem h]
  · rw [List.getElem?_eq_none (by simpa using h), List.getElem?_eq_none (by simpa using h)]
    rfl
theorem m_end2 {δ δ5 : En} {f : Nat → D} {k : Nat} {d : D} (hk : k < sizeLine) (hb : δ5 = δ) (h : d = f k) : ((List.range k).map f).length < sizeLine ∧ (δ5 = δ ∧ (List.range k).map f ++ [d] = (List.range (k + 1)).map f) :=
  ⟨by simpa using hk, hb, by rw [List.range_succ, List.map_append, h]; rfl⟩
theorem rowD_eq (r : Row) : rowD r = .lst (r.map pairD) := rfl
theorem netD_eq (n : Net) : netD n = .lst (n.map rowD) := rfl
structure Naming (size : Nat) (ns : List Int) : Prop where
  len : ns.length = size
  nd : ns.Nodup
  ok : ∀ x ∈ ns, 0 ≤ x ∧ x < (size : Int)
inductive Lk : Nat → D → Prop
  | non {n : Nat} : Lk n .non
  | bl {n : Nat} (b : Bool) : Lk n (.bl b)
  | int {n : Nat} (i : Int) : Lk n (.int i)
  | str {n : Nat} (x : Str) (h : x.cps.all (· < 0x110000) = true) : Lk n (.str x)
  | dct0 {n : Nat} : Lk n (.dct [] [])
  | lst {n : Nat} {xs : List D} : (∀ x ∈ xs, Lk n x) → xs.length ≤ 1000000 → Lk (n + 1) (.lst xs)
  | tup {n : Nat} {xs : List D} : (∀ x ∈ xs, Lk n x) → xs.length ≤ 1000000 → Lk (n + 1) (.tup xs)
def NoO (e : E) : Prop := ∀ c, e ≠ .ow c
theorem noO_no : NoO .no := fun c h => by cases h
theorem noO_va {d : D} : NoO (.va d) := fun c h => by cases h
end L3
namespace L3
open PySem PySem.Spec PyProof.Rows L2
/-- ints, texts, None, lists and tuples of such, at most n deep -/
inductive Pu : Nat → D → Prop
  | non {n : Nat} : Pu n .non
  | int {n : Nat} (i : Int) : Pu n (.int i)
  | str {n : Nat} (x : Str) (h : x.cps.all (· < 0x110000) = true) : Pu n (.str x)
  | lst {n : Nat} {xs : List D} : (∀ x ∈ xs, Pu n x) → Pu (n + 1) (.lst xs)
  | tup {n : Nat} {xs : List D} : (∀ x ∈ xs, Pu n x) → Pu (n + 1) (.tup xs)
theorem Pu.pys {n : Nat} : ∀ {xs : List D}, (∀ x ∈ xs, ∃ p, x.py = some p ∧ p.canLay0 = true ∧ p.depth ≤ n) → ∃ ps, D.pys xs = some ps ∧ PyData.canLayAll0 ps = true ∧ PyData.depthAll ps ≤ n
  | [], _ => ⟨[], rfl, rfl, Nat.zero_le _⟩
  | x :: xs, h => by
    obtain ⟨p, h1, h2, h3⟩ := h x List.mem_cons_self
    obtain ⟨ps, g1, g2, g3⟩ := Pu.pys (n := n) fun y hy => h y (List.mem_cons_of_mem _ hy)
    refine ⟨p :: ps, ?_, ?_, ?_⟩
    · rw [D.pys, h1, g1]; rfl
    · rw [PyData.canLayAll0, h2, g2]; rfl
    · rw [PyData.depthAll]; omega
theorem Pu.py {n : Nat} {d : D} (h : Pu n d) : ∃ p, d.py = some p ∧ p.canLay0 = true ∧ p.depth ≤ n := by
  induction h with
  | non => exact ⟨.none, rfl, rfl, Nat.zero_le _⟩
  | int i => exact ⟨.int i, rfl, rfl, Nat.zero_le _⟩
  | str x h => exact ⟨.str x, rfl, h, Nat.zero_le _⟩
  | lst _ ih =>
    obtain ⟨ps, h1, h2, h3⟩ := Pu.pys ih
    exact ⟨.list ps, by rw [D.py, h1]; rfl, by rw [PyData.canLay0]; exact h2, by rw [PyData.depth]; omega⟩
  | tup _ ih =>
    obtain ⟨ps, h1, h2, h3⟩ := Pu.pys ih
    exact ⟨.tuple ps, by rw [D.py, h1]; rfl, by rw [PyData.canLay0]; exact h2, by rw [PyData.depth]; omega⟩
theorem pys_cons {x : D} {xs : List D} {ps : List PyData} (h : D.pys (x :: xs) = some ps) : ∃ p qs, ps = p :: qs ∧ x.py = some p ∧ D.pys xs = some qs := by
  rw [D.pys] at h
  obtain ⟨p, h1, h2⟩ := Option.bind_eq_some_iff.mp h
  obtain ⟨qs, h3, h4⟩ := Option.map_eq_some_iff.mp h2
  exact ⟨p, qs, h4.symm, h1, h3⟩
theorem pys_nil {ps : List PyData} (h : D.pys [] = some ps) : ps = [] := by
  rw [D.pys] at h
  exact (Option.some.inj h).symm
theorem eqv_all : ∀ {xs ys : List D} {ps qs : List PyData}, (∀ x ∈ xs, ∀ y ∈ ys, ∀ p q, x.py = some p → y.py = some q → (PyData.eqv p q = true ↔ x = y)) → D.pys xs = some ps → D.pys ys = some qs → (PyData.eqvAll ps qs = true ↔ xs = ys)
  | [], [], ps, qs, _, h1, h2 => by
    rw [pys_nil h1, pys_nil h2]
    simp [PyData.eqvAll]
  | [], y :: ys, ps, qs, _, h1, h2 => by
    obtain ⟨q, qs', rfl, _, _⟩ := pys_cons h2
    rw [pys_nil h1]
    simp [PyData.eqvAll]
  | x :: xs, [], ps, qs, _, h1, h2 => by
    obtain ⟨q, qs', rfl, _, _⟩ := pys_cons h1
    rw [pys_nil h2]
    simp [PyData.eqvAll]
  | x :: xs, y :: ys, ps, qs, h, h1, h2 => by
    obtain ⟨p, ps', rfl, a1, a2⟩ := pys_cons h1
    obtain ⟨q, qs', rfl, b1, b2⟩ := pys_cons h2
    have e1 := h x List.mem_cons_self y List.mem_cons_self p q a1 b1
    have e2 := eqv_all (fun x hx y hy => h x (List.mem_cons_of_mem _ hx) y (List.mem_cons_of_mem _ hy)) a2 b2
    rw [PyData.eqvAll, Bool.and_eq_true, e1, e2, List.cons.injEq]
theorem Pu.eqv {n : Nat} {d : D} (h : Pu n d) : ∀ {m : Nat} {e : D} {p q : PyData}, Pu m e → d.py = some p → e.py = some q → (PyData.eqv p q = true ↔ d = e) := by
  induction h with
  | non =>
    intro m e p q he h1 h2
    cases h1
    cases he with
    | non => cases h2; simp [PyData.eqv]
    | int i => cases h2; simp [PyData.eqv]
    | str x h => cases h2; simp [PyData.eqv]
    | lst h => rw [D.py] at h2; obtain ⟨qs, _, rfl⟩ := Option.map_eq_some_iff.mp h2; simp [PyData.eqv]
    | tup h => rw [D.py] at h2; obtain ⟨qs, _, rfl⟩ := Option.map_eq_some_iff.mp h2; simp [PyData.eqv]
  | int i =>
    intro m e p q he h1 h2
    cases h1
    cases he with
    | non => cases h2; simp [PyData.eqv]
    | int j => cases h2; simp [PyData.eqv]
    | str x h => cases h2; simp [PyData.eqv]
    | lst h => rw [D.py] at h2; obtain ⟨qs, _, rfl⟩ := Option.map_eq_some_iff.mp h2; simp [PyData.eqv]
    | tup h => rw [D.py] at h2; obtain ⟨qs, _, rfl⟩ := Option.map_eq_some_iff.mp h2; simp [PyData.eqv]
  | str x h =>
    intro m e p q he h1 h2
    cases h1
    cases he with
    | non => cases h2; simp [PyData.eqv]
    | int j => cases h2; simp [PyData.eqv]
    | str x h => cases h2; simp [PyData.eqv]
    | lst h => rw [D.py] at h2; obtain ⟨qs, _, rfl⟩ := Option.map_eq_some_iff.mp h2; simp [PyData.eqv]
    | tup h => rw [D.py] at h2; obtain ⟨qs, _, rfl⟩ := Option.map_eq_some_iff.mp h2; simp [PyData.eqv]
  | lst h ih =>
    intro m e p q he h1 h2
    rw [D.py] at h1
    obtain ⟨ps, e1, rfl⟩ := Option.map_eq_some_iff.mp h1
    cases he with
    | non => cases h2; simp [PyData.eqv]
    | int j => cases h2; simp [PyData.eqv]
    | str x h => cases h2; simp [PyData.eqv]
    | lst g =>
      rw [D.py] at h2
      obtain ⟨qs, e2, rfl⟩ := Option.map_eq_some_iff.mp h2
      rw [PyData.eqv, eqv_all (fun x hx y hy p q a b => ih x hx (g y hy) a b) e1 e2, D.lst.injEq]
    | tup h => rw [D.py] at h2; obtain ⟨qs, _, rfl⟩ := Option.map_eq_some_iff.mp h2; simp [PyData.eqv]
  | tup h ih =>
    intro m e p q he h1 h2
    rw [D.py] at h1
    obtain ⟨ps, e1, rfl⟩ := Option.map_eq_some_iff.mp h1
    cases he with
    | non => cases h2; simp [PyData.eqv]
    | int j => cases h2; simp [PyData.eqv]
    | str x h => cases h2; simp [PyData.eqv]
    | lst h => rw [D.py] at h2; obtain ⟨qs, _, rfl⟩ := Option.map_eq_some_iff.mp h2; simp [PyData.eqv]
    | tup g =>
      rw [D.py] at h2
      obtain ⟨qs, e2, rfl⟩ := Option.map_eq_some_iff.mp h2
      rw [PyData.eqv, eqv_all (fun x hx y hy p q a b => ih x hx (g y hy) a b) e1 e2, D.tup.injEq]
theorem Pu.mono {n : Nat} {d : D} (h : Pu n d) : ∀ {m : Nat}, n ≤ m → Pu m d := by
  induction h with
  | non => intro m _; exact .non
  | int i => intro m _; exact .int i
  | str x h => intro m _; exact .str x h
  | lst _ ih =>
    intro m hm
    obtain ⟨m, rfl⟩ : ∃ k, m = k + 1 := ⟨m - 1, by omega⟩
    exact .lst fun x hx => ih x hx (by omega)
  | tup _ ih =>
    intro m hm
    obtain ⟨m, rfl⟩ : ∃ k, m = k + 1 := ⟨m - 1, by omega⟩
    exact .tup fun x hx => ih x hx (by omega)
theorem Pu.shaped {n : Nat} {d : D} (h : Pu n d) (hn : n ≤ 64) : ∃ p, d.py = some p ∧ SeqAt.shaped p = true := by
  obtain ⟨p, h1, h2, h3⟩ := h.py
  exact ⟨p, h1, by unfold SeqAt.shaped; rw [h2]; simp; omega⟩
theorem pu_eq {n m : Nat} {d e : D} {b : Bool} (hd : Pu n d) (he : Pu m e) (hn : n ≤ 64) (hm : m ≤ 64) (h : b = true ↔ d = e) : ∃ p q, d.py = some p ∧ e.py = some q ∧ SeqAt.shaped p = true ∧ SeqAt.shaped q = true ∧ PyData.eqv p q = b := by
  obtain ⟨p, h1, h2⟩ := hd.shaped hn
  obtain ⟨q, g1, g2⟩ := he.shaped hm
  refine ⟨p, q, h1, g1, h2, g2, ?_⟩
  have := hd.eqv he h1 g1
  rw [← h] at this
  cases b <;> cases e : PyData.eqv p q <;> simp_all
variable {q : R → Prop}
theorem f_eqP {n m : Nat} {d e : D} {b : Bool} (hd : Pu n d) (he : Pu m e) (hn : n ≤ 64) (hm : m ≤ 64) (h : b = true ↔ d = e) (k : q (.va (.bl b))) : bF eqF d e q := f_eq (pu_eq hd he hn hm h) k
theorem f_neP {n m : Nat} {d e : D} {b : Bool} (hd : Pu n d) (he : Pu m e) (hn : n ≤ 64) (hm : m ≤ 64) (h : b = true ↔ d = e) (k : q (.va (.bl (!b)))) : bF neF d e q := f_ne (pu_eq hd he hn hm h) k
theorem Pu.map {α : Type} {n : Nat} {f : α → D} {xs : List α} (h : ∀ x ∈ xs, Pu n (f x)) : Pu (n + 1) (.lst (xs.map f)) := .lst fun y hy => by
  obtain ⟨x, hx, rfl⟩ := List.mem_map.mp hy
  exact h x hx
theorem Pu.mapT {α : Type} {n : Nat} {f : α → D} {xs : List α} (h : ∀ x ∈ xs, Pu n (f x)) : Pu (n + 1) (.tup (xs.map f)) := .tup fun y hy => by
  obtain ⟨x, hx, rfl⟩ := List.mem_map.mp hy
  exact h x hx
theorem pu_pair (p : Int × Int) : Pu 1 (pairD p) := .tup fun x hx => by
  rcases List.mem_cons.mp hx with rfl | hx
  · exact .int _
  · rcases List.mem_cons.mp hx with rfl | hx
    · exact .int _
    · cases hx
theorem pu_ints (ns : List Int) : Pu 1 (.lst (ns.map D.int)) := Pu.map fun i _ => .int i
theorem f_eqB {a b : Bool} (k : q (.va (.bl (a == b)))) : bF eqF (.bl a) (.bl b) q := f_eq ⟨_, _, rfl, rfl, rfl, rfl, by simp only [PyData.eqv]⟩ k
theorem f_neB {a b : Bool} (k : q (.va (.bl (!(a == b))))) : bF neF (.bl a) (.bl b) q := f_ne ⟨_, _, rfl, rfl, rfl, rfl, by simp only [PyData.eqv]⟩ k
theorem f_ett (k : q (.va (.bl true))) : bF eqF (.bl true) (.bl true) q := f_eqB k
theorem f_eff (k : q (.va (.bl true))) : bF eqF (.bl false) (.bl false) q := f_eqB k
theorem f_etf (k : q (.va (.bl false))) : bF eqF (.bl true) (.bl false) q := f_eqB k
theorem f_eft (k : q (.va (.bl false))) : bF eqF (.bl false) (.bl true) q := f_eqB k
theorem f_ntt (k : q (.va (.bl false))) : bF neF (.bl true) (.bl true) q := f_neB k
theorem f_nff (k : q (.va (.bl false))) : bF neF (.bl false) (.bl false) q := f_neB k
theorem f_ntf (k : q (.va (.bl true))) : bF neF (.bl true) (.bl false) q := f_neB k
theorem f_nft (k : q (.va (.bl true))) : bF neF (.bl false) (.bl true) q := f_neB k
end L3
namespace L3
open PySem PySem.Spec PyProof.Rows L2
theorem Lk.mono {n : Nat} {d : D} (h : Lk n d) : ∀ {m : Nat}, n ≤ m → Lk m d := by
  induction h with
  | non => intro m _; exact .non
  | bl b => intro m _; exact .bl b
  | int i => intro m _; exact .int i
  | str x h => intro m _; exact .str x h
  | dct0 => intro m _; exact .dct0
  | lst _ l ih =>
    intro m hm
    obtain ⟨m, rfl⟩ : ∃ k, m = k + 1 := ⟨m - 1, by omega⟩
    exact .lst (fun x hx => ih x hx (by omega)) l
  | tup _ l ih =>
    intro m hm
    obtain ⟨m, rfl⟩ : ∃ k, m = k + 1 := ⟨m - 1, by omega⟩
    exact .tup (fun x hx => ih x hx (by omega)) l
theorem letters_ok : ∀ c ∈ letters.cps.toList, c < 0x110000 := by decide +kernel
theorem GoodName.sok {x : Str} (h : GoodName x) : x.cps.all (· < 0x110000) = true := by
  rw [← Array.all_toList]
  exact List.all_eq_true.mpr fun c hc => by simpa using letters_ok c (h.ok c hc)
def turnedR (t : Nat → Int) (r : Row) : Row := (List.range r.length).map fun x => ((r.getD x (0, 1)).1, (r.getD x (0, 1)).2 * t x * t (r.getD x (0, 1)).1.toNat)
def turnedN (t : Nat → Int) (n : Net) : Net := n.map (turnedR t)
theorem turnedR_get {t : Nat → Int} {r : Row} {x : Nat} {p : Int × Int} (h : r[x]? = some p) : (turnedR t r)[x]? = some (p.1, p.2 * t x * t p.1.toNat) := by
  have hx := (List.getElem?_eq_some_iff.mp h).1
  unfold turnedR
  rw [List.getElem?_map, List.getElem?_range hx]
  simp only [Option.map_some, List.getD_eq_getElem?_getD, h, Option.getD_some]
theorem good_turned {t : Nat → Int} (ht : ∀ x, t x = 1 ∨ t x = -1) {size : Nat} {r : Row} (h : GoodRow size r) : GoodRow size (turnedR t r) where
  len := by unfold turnedR; rw [List.length_map, List.length_range, h.len]
  ok := fun x hx => by
    obtain ⟨y, s, e1, hy, hs, e2⟩ := h.ok x hx
    refine ⟨y, s * t x * t y, turnedR_get e1, hy, ?_, ?_⟩
    · rcases hs with rfl | rfl <;> rcases ht x with e | e <;> rcases ht y with e' | e' <;> rw [e, e'] <;> decide
    · have := turnedR_get (t := t) e2
      rw [this]
      simp only [Int.toNat_natCast]
      rw [Int.mul_assoc, Int.mul_comm (t y), ← Int.mul_assoc]
theorem good_turnedN {t : Nat → Int} (ht : ∀ x, t x = 1 ∨ t x = -1) {many size : Nat} {n : Net} (h : GoodNet many size n) : GoodNet many size (turnedN t n) :=
  ⟨by unfold turnedN; rw [List.length_map, h.len], h.m0, h.m1, h.s0, h.s1, fun r hr => by
    obtain ⟨r', hr', rfl⟩ := List.mem_map.mp hr
    exact good_turned ht (h.row r' hr')⟩
theorem nodup_sub_len {α : Type} [DecidableEq α] : ∀ {l m : List α}, l.Nodup → (∀ x ∈ l, x ∈ m) → l.length ≤ m.length
  | [], _, _, _ => Nat.zero_le _
  | a :: l, m, nd, h => by
    obtain ⟨n1, n2⟩ := List.nodup_cons.mp nd
    have ha := h a List.mem_cons_self
    have := nodup_sub_len (m := m.erase a) n2 fun x hx => by
      refine (List.mem_erase_of_ne ?_).mpr (h x (List.mem_cons_of_mem _ hx))
      rintro rfl
      exact n1 hx
    rw [List.length_erase_of_mem ha] at this
    have hp : 0 < m.length := List.length_pos_of_mem ha
    rw [List.length_cons]
    omega
theorem Naming.all {size : Nat} {ns : List Int} (h : Naming size ns) {i : Nat} (hi : i < size) : ∃ x : Nat, x < size ∧ ns[x]? = some (i : Int) := by
  have hm : (i : Int) ∈ ns := by
    refine Decidable.byContradiction fun hn => ?_
    have := nodup_sub_len (l := (i : Int) :: ns) (m := (List.range size).map fun k : Nat => (k : Int)) (List.nodup_cons.mpr ⟨hn, h.nd⟩) fun x hx => by
      rcases List.mem_cons.mp hx with rfl | hx
      · exact List.mem_map.mpr ⟨i, List.mem_range.mpr hi, rfl⟩
      · obtain ⟨h0, h1⟩ := h.ok x hx
        exact List.mem_map.mpr ⟨x.toNat, List.mem_range.mpr (by omega), by omega⟩
    rw [List.length_cons, h.len, List.length_map, List.length_range] at this
    omega
  obtain ⟨x, hx, e⟩ := List.mem_iff_getElem.mp hm
  exact ⟨x, by rw [← h.len]; exact hx, by rw [List.getElem?_eq_getElem hx, e]⟩
theorem set_at {α : Type} {xs : List α} {i j : Nat} {x : α} (h : i < xs.length) : (xs.set i x)[j]? = if i = j then some x else xs[j]? := by
  rw [List.getElem?_set]
  by_cases e : i = j
  · rw [if_pos e, if_pos e]
    subst e
    simp [h]
  · rw [if_neg e, if_neg e]
theorem good_rim {size x : Nat} {r : Row} {s : Int} (h : GoodRow size r) (hx : x < size) (e : r[x]? = some ((x : Int), 1)) (hs : s = 1 ∨ s = -1) : GoodRow size (r.set x ((x : Int), s)) where
  len := by rw [List.length_set, h.len]
  ok := fun z hz => by
    have hl : x < r.length := by rw [h.len]; exact hx
    by_cases q : x = z
    · subst q
      exact ⟨x, s, by rw [set_at hl, if_pos rfl], hx, hs, by rw [set_at hl, if_pos rfl]⟩
    · obtain ⟨y, t, e1, hy, ht, e2⟩ := h.ok z hz
      have : x ≠ y := fun q2 => by
        subst q2
        rw [e] at e2
        injection e2 with e2
        injection e2 with e2
        exact q (by omega)
      exact ⟨y, t, by rw [set_at hl, if_neg q]; exact e1, hy, ht, by rw [set_at hl, if_neg this]; exact e2⟩
theorem good_seam {size x y : Nat} {r : Row} {s : Int} (h : GoodRow size r) (hx : x < size) (hy : y < size) (ne : x ≠ y) (e : r[x]? = some ((x : Int), 1)) (e' : r[y]? = some ((y : Int), 1)) (hs : s = 1 ∨ s = -1) : GoodRow size ((r.set x ((y : Int), s)).set y ((x : Int), s)) where
  len := by rw [List.length_set, List.length_set, h.len]
  ok := fun z hz => by
    have hl : x < r.length := by rw [h.len]; exact hx
    have hl2 : y < (r.set x ((y : Int), s)).length := by rw [List.length_set, h.len]; exact hy
    by_cases q : x = z
    · subst q
      exact ⟨y, s, by rw [set_at hl2, if_neg (Ne.symm ne), set_at hl, if_pos rfl], hy, hs, by rw [set_at hl2, if_pos rfl]⟩
    · by_cases q' : y = z
      · subst q'
        exact ⟨x, s, by rw [set_at hl2, if_pos rfl], hx, hs, by rw [set_at hl2, if_neg (Ne.symm ne), set_at hl, if_pos rfl]⟩
      · obtain ⟨w, t, e1, hw, ht, e2⟩ := h.ok z hz
        have n1 : x ≠ w := fun q2 => by
          subst q2
          rw [e] at e2
          injection e2 with e2
          injection e2 with e2
          exact q (by omega)
        have n2 : y ≠ w := fun q2 => by
          subst q2
          rw [e'] at e2
          injection e2 with e2
          injection e2 with e2
          exact q' (by omega)
        exact ⟨w, t, by rw [set_at hl2, if_neg q', set_at hl, if_neg q]; exact e1, hw, ht, by rw [set_at hl2, if_neg n2, set_at hl, if_neg n1]; exact e2⟩
theorem good_id {size : Nat} : GoodRow size ((List.range size).map fun x : Nat => ((x : Int), (1 : Int))) where
  len := by simp
  ok := fun x hx => ⟨x, 1, by rw [List.getElem?_map, List.getElem?_range hx]; rfl, hx, .inl rfl, by rw [List.getElem?_map, List.getElem?_range hx]; rfl⟩
theorem er_map {α β : Type} {f : α → β} : ∀ {xs : List α} {i : Nat}, (xs.map f).eraseIdx i = (xs.eraseIdx i).map f
  | [], _ => by simp
  | x :: xs, 0 => by simp
  | x :: xs, i + 1 => by simp [er_map]
theorem f_popI {ns : List Int} {i : Int} {Q : D → List D → Prop} (h0 : 0 ≤ i) (h1 : i < ns.length) (hs : ns.length ≤ 1000000) (k : Q (.int (ns.getD i.toNat 0)) ((ns.eraseIdx i.toNat).map D.int)) : popF1 (ns.map D.int) [.int i] Q := by
  have hi : i.toNat < ns.length := by omega
  refine ⟨by simp, i.toNat, .int (ns.getD i.toNat 0), ⟨by omega, by omega⟩, ?_, ?_, ?_⟩
  · exact (ixN_seq (by unfold ixN; rw [if_pos h0, if_pos (by rw [List.length_map]; exact h1)])).1
  · rw [List.getElem?_map, List.getD_eq_getElem?_getD, List.getElem?_eq_getElem hi]; rfl
  · rw [er_map]
    exact k
theorem pu_nil {n : Nat} : Pu (n + 1) (.lst []) := .lst (fun x h => by cases h)
theorem nil_iff {ns : List Int} : decide (ns = []) = true ↔ D.lst (ns.map D.int) = .lst [] := by
  rw [decide_eq_true_eq, D.lst.injEq, List.map_eq_nil_iff]
theorem mem_eraseIdx {α : Type} : ∀ {xs : List α} {i : Nat} {x : α}, x ∈ xs.eraseIdx i → x ∈ xs
  | [], _, _, h => by simp at h
  | y :: ys, 0, x, h => List.mem_cons_of_mem _ h
  | y :: ys, i + 1, x, h => by
    rw [List.eraseIdx_cons_succ] at h
    rcases List.mem_cons.mp h with rfl | h
    · exact List.mem_cons_self
    · exact List.mem_cons_of_mem _ (mem_eraseIdx h)
theorem nodup_eraseIdx {α : Type} : ∀ {xs : List α} {i : Nat}, xs.Nodup → (xs.eraseIdx i).Nodup ∧ ∀ x, xs[i]? = some x → x ∉ xs.eraseIdx i
  | [], _, _ => ⟨by simp, fun x h => by simp at h⟩
  | y :: ys, 0, h => by
    obtain ⟨h1, h2⟩ := List.nodup_cons.mp h
    exact ⟨h2, fun x e => by simp at e; subst e; exact h1⟩
  | y :: ys, i + 1, h => by
    obtain ⟨h1, h2⟩ := List.nodup_cons.mp h
    obtain ⟨g1, g2⟩ := nodup_eraseIdx (i := i) h2
    rw [List.eraseIdx_cons_succ]
    refine ⟨List.nodup_cons.mpr ⟨fun z => h1 (mem_eraseIdx z), g1⟩, fun x e z => ?_⟩
    have e' : ys[i]? = some x := by simpa using e
    rcases List.mem_cons.mp z with rfl | z
    · exact h1 (List.mem_of_getElem? e')
    · exact g2 x e' z
theorem map_set {α β : Type} {f : α → β} {xs : List α} {i : Nat} {x : α} : (xs.map f).set i (f x) = (xs.set i x).map f := by
  rw [List.map_set]
theorem ints_nodup {n : Nat} : ((List.range n).map fun k : Nat => (k : Int)).Nodup := List.Pairwise.map _ (fun a b (h : a ≠ b) => by omega) List.nodup_range
theorem rowset {r : Row} {x : Nat} {a b : Int} : (r.map pairD).set x (.tup [.int a, .int b]) = (r.set x (a, b)).map pairD := map_set (f := pairD) (x := (a, b))
theorem ix_nat {n y : Nat} (h : y < n) : ixN n (y : Int) = some y := by
  unfold ixN
  rw [if_pos (by omega), if_pos (by omega), Int.toNat_natCast]
def namedP (ns : List Int) (p : Int × Int) : Int × Int := (ns.getD p.1.toNat 0, p.2)
def namedR (ns : List Int) (r : Row) : Row := (List.range r.length).map fun i : Nat => namedP ns (r.getD (ns.idxOf (i : Int)) (0, 1))
def namedN (ns : List Int) (n : Net) : Net := n.map (namedR ns)
theorem namedR_len {ns : List Int} {r : Row} : (namedR ns r).length = r.length := by simp [namedR]
theorem namedR_get {size : Nat} {ns : List Int} {r : Row} (hn : Naming size ns) (hr : r.length = size) {x i : Nat} {p : Int × Int} (e : ns[x]? = some (i : Int)) (ep : r[x]? = some p) : (namedR ns r)[i]? = some (namedP ns p) := by
  have hm := List.mem_of_getElem? e
  obtain ⟨_, hi⟩ := hn.ok _ hm
  have h1 : ns.idxOf (i : Int) < ns.length := List.idxOf_lt_length_of_mem hm
  have h2 : ns[ns.idxOf (i : Int)]? = some (i : Int) := by rw [List.getElem?_eq_getElem h1, List.getElem_idxOf h1]
  have h3 : ns.idxOf (i : Int) = x := nodup_inj hn.nd h2 e
  unfold namedR
  rw [List.getElem?_map, List.getElem?_range (by omega), Option.map_some, h3, List.getD_eq_getElem?_getD, ep, Option.getD_some]
/-- the one row that has these items -/
theorem named_unique {size : Nat} {ns : List Int} {r acc : Row} (hn : Naming size ns) (hr : r.length = size) (hl : acc.length = size) (h : ∀ (x i : Nat) (p : Int × Int), ns[x]? = some (i : Int) → r[x]? = some p → acc[i]? = some (namedP ns p)) : acc = namedR ns r := by
  refine List.ext_getElem? fun i => ?_
  by_cases hi : i < size
  · obtain ⟨x, hx, e⟩ := hn.all hi
    have ep : r[x]? = some r[x] := List.getElem?_eq_getElem (by omega)
    rw [h x i _ e ep, namedR_get hn hr e ep]
  · rw [List.getElem?_eq_none (by omega), List.getElem?_eq_none (by rw [namedR_len]; omega)]
theorem Naming.get {size : Nat} {ns : List Int} (h : Naming size ns) {x : Nat} (hx : x < size) : ∃ i : Nat, ns[x]? = some (i : Int) ∧ i < size ∧ ns.getD x 0 = (i : Int) := by
  have hx' : x < ns.length := by rw [h.len]; exact hx
  obtain ⟨h0, h1⟩ := h.ok _ (List.getElem_mem hx')
  refine ⟨ns[x].toNat, ?_, by omega, ?_⟩
  · rw [List.getElem?_eq_getElem hx']
    congr 1
    omega
  · rw [List.getD_eq_getElem?_getD, List.getElem?_eq_getElem hx', Option.getD_some]
    omega
theorem good_named {size : Nat} {ns : List Int} {r : Row} (hn : Naming size ns) (g : GoodRow size r) : GoodRow size (namedR ns r) where
  len := by rw [namedR_len, g.len]
  ok := fun i hi => by
    obtain ⟨x, hx, e⟩ := hn.all hi
    obtain ⟨y, s, e1, hy, hs, e2⟩ := g.ok x hx
    obtain ⟨w, ew, hw, dw⟩ := hn.get hy
    obtain ⟨v, ev, _, dv⟩ := hn.get hx
    rw [e] at ev
    cases ev
    refine ⟨w, s, ?_, hw, hs, ?_⟩
    · rw [namedR_get hn g.len e e1]
      unfold namedP
      rw [Int.toNat_natCast, dw]
    · rw [namedR_get hn g.len ew e2]
      unfold namedP
      rw [Int.toNat_natCast, dv]
theorem good_namedN {many size : Nat} {ns : List Int} {n : Net} (hn : Naming size ns) (h : GoodNet many size n) : GoodNet many size (namedN ns n) :=
  ⟨by unfold namedN; rw [List.length_map, h.len], h.m0, h.m1, h.s0, h.s1, fun r hr => by
    obtain ⟨r', hr', rfl⟩ := List.mem_map.mp hr
    exact good_named hn (h.row r' hr')⟩
/-- j steps of the making of a named row -/
def NamedTo (size : Nat) (ns : List Int) (r : Row) (j : Nat) (acc : Row) : Prop := acc.length = size ∧ ∀ (x i : Nat) (p : Int × Int), x < j → ns[x]? = some (i : Int) → r[x]? = some p → acc[i]? = some (namedP ns p)
theorem NamedTo.step {size : Nat} {ns : List Int} {r acc : Row} {j i : Nat} {p : Int × Int} (hn : Naming size ns) (h : NamedTo size ns r j acc) (e : ns[j]? = some (i : Int)) (ep : r[j]? = some p) : NamedTo size ns r (j + 1) (acc.set i (namedP ns p)) := by
  obtain ⟨h1, h2⟩ := h
  have hi : i < size := by have := (hn.ok _ (List.mem_of_getElem? e)).2; omega
  refine ⟨by rw [List.length_set, h1], fun x i' p' hx e' ep' => ?_⟩
  rw [set_at (by omega)]
  by_cases q : i = i'
  · subst q
    have := nodup_inj hn.nd e' e
    subst this
    rw [ep] at ep'
    cases ep'
    rw [if_pos rfl]
  · rw [if_neg q]
    refine h2 x i' p' ?_ e' ep'
    have : x ≠ j := by
      rintro rfl
      rw [e] at e'
      injection e' with e'
      omega
    omega
theorem NamedTo.done {size : Nat} {ns : List Int} {r acc : Row} (hn : Naming size ns) (hr : r.length = size) (h : NamedTo size ns r size acc) : acc = namedR ns r :=
  named_unique hn hr h.1 fun x i p e ep => h.2 x i p (by have := (List.getElem?_eq_some_iff.mp ep).1; omega) e ep
theorem row_ext {size : Nat} {r r' : Row} (l : r.length = size) (l' : r'.length = size) (h : ∀ x, x < size → r[x]? = r'[x]?) : r = r' := by
  refine List.ext_getElem? fun i => ?_
  by_cases hi : i < size
  · exact h i hi
  · rw [List.getElem?_eq_none (by omega), List.getElem?_eq_none (by omega)]
theorem turnedR_len {t : Nat → Int} {r : Row} : (turnedR t r).length = r.length := by simp [turnedR]
theorem turnedR_congr {t t' : Nat → Int} {size : Nat} {r : Row} (g : GoodRow size r) (h : ∀ x, x < size → t x = t' x) : turnedR t r = turnedR t' r := by
  refine row_ext (size := size) (by rw [turnedR_len, g.len]) (by rw [turnedR_len, g.len]) fun x hx => ?_
  obtain ⟨y, s, e1, hy, hs, e2⟩ := g.ok x hx
  rw [turnedR_get e1, turnedR_get e1]
  simp only [Int.toNat_natCast]
  rw [h x hx, h y hy]
theorem turnedN_congr {t t' : Nat → Int} {many size : Nat} {n : Net} (g : GoodNet many size n) (h : ∀ x, x < size → t x = t' x) : turnedN t n = turnedN t' n := by
  unfold turnedN
  exact List.map_congr_left fun r hr => turnedR_congr (g.row r hr) h
def okS (x : Str) : Prop := x.cps.all (· < 0x110000) = true
theorem pys_strs : ∀ {ls : List Str}, D.pys (ls.map D.str) = some (ls.map PyData.str)
  | [] => rfl
  | n :: ns => by
    rw [List.map_cons, D.pys, pys_strs]
    rfl
theorem any_strs {x : Str} : ∀ {ls : List Str}, ((ls.map PyData.str).any fun z => PyData.eqv z (.str x)) = decide (x ∈ ls)
  | [] => by simp
  | y :: ys => by
    rw [List.map_cons, List.any_cons, any_strs]
    simp only [PyData.eqv, List.mem_cons]
    by_cases h : x = y
    · subst h; simp
    · have : ¬ y = x := fun z => h z.symm
      simp [h, this]
theorem in_str {x : Str} {ls : List Str} {P : Bool → Prop} (hx : okS x) (hl : ∀ y ∈ ls, okS y) (k : P (decide (x ∈ ls))) : inF (.str x) (.lst (ls.map D.str)) P := by
  obtain ⟨p, hp1, hp2⟩ := (Pu.map (n := 0) (f := D.str) (xs := ls) fun y hy => .str y (hl y hy)).shaped (by omega)
  rw [D.py, pys_strs] at hp1
  cases hp1
  obtain ⟨p', hq1, hq2⟩ := (Pu.str (n := 0) x hx).shaped (by omega)
  cases hq1
  refine ⟨.str x, _, rfl, pys_strs, hq2, hp2, ?_⟩
  rw [any_strs]
  exact k
theorem f_inStr {q : R → Prop} {x : Str} {ls : List Str} (hx : okS x) (hl : ∀ y ∈ ls, okS y) (k : q (.va (.bl (decide (x ∈ ls))))) : bF inF (.str x) (.lst (ls.map D.str)) q := in_str (P := fun b => q (.va (.bl b))) hx hl k
theorem f_ninStr {q : R → Prop} {x : Str} {ls : List Str} (hx : okS x) (hl : ∀ y ∈ ls, okS y) (k : q (.va (.bl (!decide (x ∈ ls))))) : bF ninF (.str x) (.lst (ls.map D.str)) q := in_str (P := fun b => q (.va (.bl (!b)))) hx hl k
/-- a name by its letters -/
def goodB (x : Str) : Bool := decide (1 ≤ x.length) && decide (x.length ≤ 3) && x.cps.toList.all fun c => decide (c ∈ letters.cps.toList)
theorem good_of {x : Str} (h : goodB x = true) : GoodName x := by
  unfold goodB at h
  simp only [Bool.and_eq_true, decide_eq_true_eq, List.all_eq_true] at h
  exact ⟨h.1.1, h.1.2, h.2⟩
theorem joinL_ones : ∀ cs : List Nat, TL.joinL [] (cs.map fun c => [c]) = cs
  | [] => rfl
  | [c] => rfl
  | c :: d :: r => by
    show [c] ++ ([] ++ TL.joinL [] ((d :: r).map fun c => [c])) = _
    rw [joinL_ones (d :: r)]
    rfl
theorem join_letters (cs : List Nat) : (Txt.join (Str.ofString "") (cs.map fun c => (⟨#[c]⟩ : Str))).cps.toList = cs := by
  have e := TL.tl_join (Str.ofString "") (cs.map fun c => (⟨#[c]⟩ : Str))
  rw [TL.join_eq]
  refine e.trans ?_
  rw [List.map_map]
  exact joinL_ones cs
theorem good_join {cs : List Nat} (h0 : 0 < cs.length) (h1 : cs.length ≤ 3) (h : ∀ c ∈ cs, c ∈ letters.cps.toList) : GoodName (Txt.join (Str.ofString "") (cs.map fun c => (⟨#[c]⟩ : Str))) := by
  have e := join_letters cs
  have l : (Txt.join (Str.ofString "") (cs.map fun c => (⟨#[c]⟩ : Str))).length = cs.length := by
    have := congrArg List.length e
    simpa [Str.length] using this
  exact ⟨by omega, by omega, fun c hc => h c (by rw [e] at hc; exact hc)⟩
end L3
namespace L3
open PySem PySem.Spec PyProof.Rows L2
def adj (n : Net) (x y : Nat) : Prop := ∃ r ∈ n, ∃ s, r[x]? = some ((y : Int), s)
theorem adj_symm {many size : Nat} {n : Net} (h : GoodNet many size n) {x y : Nat} (a : adj n x y) : adj n y x := by
  obtain ⟨r, hr, s, e⟩ := a
  have hx : x < size := by rw [← (h.row r hr).len]; exact (List.getElem?_eq_some_iff.mp e).1
  obtain ⟨y', s', e1, hy, _, e2⟩ := (h.row r hr).ok x hx
  rw [e] at e1
  have : (y : Int) = y' := by injection e1 with e1; exact congrArg Prod.fst e1
  have : y = y' := by omega
  subst this
  exact ⟨r, hr, s', e2⟩
theorem adj_lt {many size : Nat} {n : Net} (h : GoodNet many size n) {x y : Nat} (a : adj n x y) : x < size ∧ y < size := by
  have g : ∀ {x y}, adj n x y → x < size := fun {x y} a => by
    obtain ⟨r, hr, s, e⟩ := a
    rw [← (h.row r hr).len]
    exact (List.getElem?_eq_some_iff.mp e).1
  exact ⟨g a, g (adj_symm h a)⟩
def Reach (n : Net) (x y : Nat) : Prop := ∀ K : Nat → Prop, K x → (∀ a b, K a → adj n a b → K b) → K y
theorem least {P : Nat → Prop} : ∀ k : Nat, P k → ∃ m, P m ∧ ∀ j, P j → m ≤ j := by
  intro k
  induction k using Nat.strongRecOn with
  | ind k ih =>
    intro hk
    by_cases h : ∃ j, j < k ∧ P j
    · obtain ⟨j, hj, pj⟩ := h
      exact ih j hj pj
    · exact ⟨k, hk, fun j pj => Decidable.byContradiction fun hn => h ⟨j, by omega, pj⟩⟩
theorem reach_refl {n : Net} {x : Nat} : Reach n x x := fun K k _ => k
theorem reach_adj {n : Net} {x y z : Nat} (a : adj n x y) (h : Reach n y z) : Reach n x z := fun K k c => h K (c _ _ k a) c
/-- labels between the least and the own number -/
structure LowOk (M f : Nat → Nat) : Prop where
  lo : ∀ x, M x ≤ f x
  hi : ∀ x, f x ≤ x
def upd (f : Nat → Nat) (x v : Nat) : Nat → Nat := fun y => if y = x then v else f y
theorem LowOk.upd {n : Net} {M f : Nat → Nat} (h : LowOk M f) (hM : ∀ x y, adj n x y → M y = M x) {x y : Nat} (a : adj n x y) (l : f y < f x) : LowOk M (upd f x (f y)) where
  lo := fun z => by
    unfold L3.upd
    split
    · subst z; have := hM _ _ a; have := h.lo y; omega
    · exact h.lo z
  hi := fun z => by
    unfold L3.upd
    split
    · subst z; have := h.hi x; omega
    · exact h.hi z
end L3
namespace L3
open PySem PySem.Spec PyProof.Rows L2
section
variable {Q : R → En → Prop} {δ : En} {T U : DT}
theorem p_obj2 {r u : R} {cn : Str} {ns ns' : List Str} {ds ds' : List D} {P : Prop} (e : r.dat δ = some (.obj cn ns ds)) (e' : u.dat δ = some (.obj cn ns' ds')) (k : P) : ∃ ns ds ns' ds', r.dat δ = some (.obj cn ns ds) ∧ u.dat δ = some (.obj cn ns' ds') ∧ P := ⟨ns, ds, ns', ds', e, e', k⟩
end
end L3
namespace L3
open PySem PySem.Spec PyProof.Rows L2
/-- ways that meet behind a statement -/
theorem seqJ {S S2 : DS} {n : En → Prop} {rt : R → En → Prop} {bk ct : En → Prop} {δ : En} (J : En → Prop) (h1 : ∀ m : En → Prop, (∀ δ, J δ → m δ) → S ⟨m, rt, bk, ct⟩ δ) (h2 : ∀ δ, J δ → S2 ⟨n, rt, bk, ct⟩ δ) : seq S S2 ⟨n, rt, bk, ct⟩ δ := h1 _ h2
end L3
namespace L3
open PySem PySem.Spec PyProof.Rows L2
section
variable {K : PySem.W.Frag}
/-- slot m holds the list M of the lists al; rows tells what they hold (none: lent to another slot) -/
structure Grid (K : PySem.W.Frag) (HE HB : Hp) (σ : L2.St) (H G : Hp) (δ : En) (m : Nat) (M : Addr) (al : List Addr) (rows : List (Option (List D))) : Prop where
  sl : σ[m]? = some (some (V.ref M))
  hM : H M = some (.lst (al.map V.ref))
  gM : G M = none
  fr : ∀ a ∈ M :: al, HE a = none ∧ HB a = none
  nd : (M :: al).Nodup
  ad : ¬ Ad σ δ M
  len : al.length = rows.length
  row : ∀ (i : Nat) a r, al[i]? = some a → rows[i]? = some (some r) → ¬ Ad σ δ a ∧ G a = none ∧ ∃ vs, H a = some (.lst vs) ∧ AtL K G vs r
theorem Grid.nxt {F : FE} {HE HB : Hp} {σ σ' : L2.St} {H G H' G' : Hp} {δ δ' : En} {m : Nat} {M : Addr} {al : List Addr} {rows : List (Option (List D))} {bs : List Nat} (g : Grid K HE HB σ H G δ m M al rows) (n : Nxt K F bs σ H G δ σ' H' G' δ') (hm : m ∉ bs) : Grid K HE HB σ' H' G' δ' m M al rows where
  sl := (n.st m hm).trans g.sl
  hM := n.f.h M _ g.ad g.hM
  gM := (n.f.n M g.ad (by rw [g.hM]; exact fun z => nomatch z)).trans g.gM
  fr := g.fr
  nd := g.nd
  ad := fun z => (n.ow M z).elim g.ad fun h => by rw [g.hM] at h; cases h
  len := g.len
  row := fun i a r e1 e2 => by
    obtain ⟨h1, h2, vs, h3, h4⟩ := g.row i a r e1 e2
    exact ⟨fun z => (n.ow a z).elim h1 (fun h => by rw [h3] at h; cases h), (n.f.n a h1 (by rw [h3]; exact fun z => nomatch z)).trans h2, vs, n.f.h a _ h1 h3, h4.mono n.f.sub⟩
/-- what is wanted behind a statement over a grid -/
structure DEY where
  nx : En → List (List D) → Prop
  rt : R → En → Prop
  bk : En → List (List D) → Prop := fun _ _ => False
  ct : En → List (List D) → Prop := fun _ _ => False
abbrev YS := DEY → En → List (List D) → Prop
/-- a place behind the grid's making: from the base (σ0 ..) -/
structure YX (K : PySem.W.Frag) (F : FE) (as0 : List Nat) (σ0 : L2.St) (H0 G0 : Hp) (δ0 : En) (m : Nat) (bs : List Nat) (σ : L2.St) (G : Hp) (σ' : L2.St) (H' G' : Hp) (δ' : En) (rows : List (List D)) : Prop where
  n : Nxt K F as0 σ0 H0 G0 δ0 σ' H' G' δ'
  g : ∃ M al, Grid K F.HE H0 σ' H' G' δ' m M al (rows.map some)
  sub : Sub G G'
  st : ∀ i : Nat, i ∉ bs → σ'[i]? = σ[i]?
structure GoodY (K : PySem.W.Frag) (F : FE) (as0 : List Nat) (σ0 : L2.St) (H0 G0 : Hp) (δ0 : En) (m : Nat) (bs : List Nat) (σ : L2.St) (G : Hp) (D3 : DEY) (D : Ends) : Prop where
  nx : ∀ σ' H' G' δ' rows, YX K F as0 σ0 H0 G0 δ0 m bs σ G σ' H' G' δ' rows → D3.nx δ' rows → D.nx σ' H'
  bk : ∀ σ' H' G' δ' rows, YX K F as0 σ0 H0 G0 δ0 m bs σ G σ' H' G' δ' rows → D3.bk δ' rows → D.bk σ' H'
  ct : ∀ σ' H' G' δ' rows, YX K F as0 σ0 H0 G0 δ0 m bs σ G σ' H' G' δ' rows → D3.ct δ' rows → D.ct σ' H'
  rt : ∀ σ' H' G' δ' r v, Nxt K F as0 σ0 H0 G0 δ0 σ' H' G' δ' → RR K [] F.HE H' G' r v → (∀ i, r ≠ .rf i) → D3.rt r δ' → D.rt v H'
/-- a statement over a grid -/
def SndY (K : PySem.W.Frag) (ps : List Nat) (m : Nat) (bs : List Nat) (t : TS) (T : YS) : Prop := ∀ (F : FE), (∀ i l, F.P i l → i ∈ ps) → (∀ i ∈ bs, ∀ l, ¬ F.P i l) → ∀ (as0 : List Nat) (σ0 : L2.St) (H0 G0 : Hp) (δ0 : En), (∀ i ∈ bs, i ∈ as0) →
  ∀ (σ : L2.St) (H G : Hp) (δ : En) (rows : List (List D)) (D3 : DEY) (D : Ends), Nxt K F as0 σ0 H0 G0 δ0 σ H G δ → (∃ M al, Grid K F.HE H0 σ H G δ m M al (rows.map some)) → T D3 δ rows → GoodY K F as0 σ0 H0 G0 δ0 m bs σ G D3 D → t D σ H
/-- statements that end without the grid -/
abbrev YP := DE → En → List (List D) → Prop
def SndYP (K : PySem.W.Frag) (ps : List Nat) (m : Nat) (bs : List Nat) (t : TS) (T : YP) : Prop := ∀ (F : FE), (∀ i l, F.P i l → i ∈ ps) → (∀ i ∈ bs, ∀ l, ¬ F.P i l) → ∀ (as0 : List Nat) (σ0 : L2.St) (H0 G0 : Hp) (δ0 : En), (∀ i ∈ bs, i ∈ as0) →
  ∀ (σ : L2.St) (H G : Hp) (δ : En) (rows : List (List D)) (D3 : DE) (D : Ends), Nxt K F as0 σ0 H0 G0 δ0 σ H G δ → (∃ M al, Grid K F.HE H0 σ H G δ m M al (rows.map some)) → T D3 δ rows → Good K F as0 σ0 H0 G0 δ0 D3 D → t D σ H
theorem YX.trans {F : FE} {as0 bs cs ds : List Nat} {σ0 σ σ1 σ2 : L2.St} {H0 G0 G H1 G1 H2 G2 : Hp} {δ0 δ1 δ2 : En} {m : Nat} {r1 r2 : List (List D)} (x : YX K F as0 σ0 H0 G0 δ0 m bs σ G σ1 H1 G1 δ1 r1) (y : YX K F as0 σ0 H0 G0 δ0 m cs σ1 G1 σ2 H2 G2 δ2 r2) (h : ∀ i, i ∈ bs ++ cs → i ∈ ds) : YX K F as0 σ0 H0 G0 δ0 m ds σ G σ2 H2 G2 δ2 r2 :=
  ⟨y.n, y.g, x.sub.trans y.sub, fun i hi => (y.st i fun z => hi (h i (List.mem_append_right _ z))).trans (x.st i fun z => hi (h i (List.mem_append_left _ z)))⟩
theorem GoodY.from {F : FE} {as0 bs cs ds : List Nat} {σ0 σ σ1 : L2.St} {H0 G0 G H1 G1 : Hp} {δ0 δ1 : En} {m : Nat} {r1 : List (List D)} {D3 : DEY} {D : Ends} (g : GoodY K F as0 σ0 H0 G0 δ0 m ds σ G D3 D) (x : YX K F as0 σ0 H0 G0 δ0 m bs σ G σ1 H1 G1 δ1 r1) (h : ∀ i, i ∈ bs ++ cs → i ∈ ds) : GoodY K F as0 σ0 H0 G0 δ0 m cs σ1 G1 D3 D :=
  ⟨fun _ _ _ _ _ y q => g.nx _ _ _ _ _ (x.trans y h) q, fun _ _ _ _ _ y q => g.bk _ _ _ _ _ (x.trans y h) q, fun _ _ _ _ _ y q => g.ct _ _ _ _ _ (x.trans y h) q, g.rt⟩
theorem YX.refl {F : FE} {as0 bs : List Nat} {σ0 σ : L2.St} {H0 G0 H G : Hp} {δ0 δ : En} {m : Nat} {rows : List (List D)} (n : Nxt K F as0 σ0 H0 G0 δ0 σ H G δ) (g : ∃ M al, Grid K F.HE H0 σ H G δ m M al (rows.map some)) : YX K F as0 σ0 H0 G0 δ0 m bs σ G σ H G δ rows := ⟨n, g, .refl, fun _ _ => rfl⟩
/-- behind a plain step -/
theorem YX.plain {F : FE} {as0 bs : List Nat} {σ0 σ σ1 : L2.St} {H0 G0 H G H1 G1 : Hp} {δ0 δ δ1 : En} {m : Nat} {rows : List (List D)} (n : Nxt K F as0 σ0 H0 G0 δ0 σ H G δ) (g : ∃ M al, Grid K F.HE H0 σ H G δ m M al (rows.map some)) (x : Nxt K F bs σ H G δ σ1 H1 G1 δ1) (hm : m ∉ bs) (hb : ∀ i ∈ bs, i ∈ as0) : YX K F as0 σ0 H0 G0 δ0 m bs σ G σ1 H1 G1 δ1 rows := by
  obtain ⟨M, al, g⟩ := g
  exact ⟨(n.trans x).mono fun i hi => (List.mem_append.mp hi).elim id (hb i), ⟨M, al, g.nxt x hm⟩, x.f.sub, x.st⟩
def yplain (T : DS) : YS := fun Z δ rows => T { nx := fun δ' => Z.nx δ' rows, rt := Z.rt, bk := fun δ' => Z.bk δ' rows, ct := fun δ' => Z.ct δ' rows } δ
theorem sndy_plain {ps bs : List Nat} {m : Nat} {t : TS} {T : DS} (a : SndSP K ps bs t T) (hm : m ∉ bs) : SndY K ps m bs t (yplain T) := fun F hps hp as0 σ0 H0 G0 δ0 hb σ H G δ rows D3 D n g h gd =>
  a F hps hp σ H G δ _ _ n.s h ⟨fun _ _ _ _ x q => gd.nx _ _ _ _ _ (.plain n g x hm hb) q, fun _ _ _ _ x q => gd.bk _ _ _ _ _ (.plain n g x hm hb) q, fun _ _ _ _ x q => gd.ct _ _ _ _ _ (.plain n g x hm hb) q,
    fun _ _ _ _ _ _ x rr nr q => gd.rt _ _ _ _ _ _ ((n.trans x).mono fun i hi => (List.mem_append.mp hi).elim id (hb i)) rr nr q⟩
def yseq (T U : YS) : YS := fun Z δ rows => T { Z with nx := U Z } δ rows
theorem sndy_seq {ps bs cs : List Nat} {m : Nat} {t u : TS} {T U : YS} (a : SndY K ps m bs t T) (b : SndY K ps m cs u U) : SndY K ps m (bs ++ cs) (tSeq t u) (yseq T U) := fun F hps hp as0 σ0 H0 G0 δ0 hb σ H G δ rows D3 D n g h gd =>
  a F hps (fun i hi => hp i (List.mem_append_left _ hi)) as0 σ0 H0 G0 δ0 (fun i hi => hb i (List.mem_append_left _ hi)) σ H G δ rows _ _ n g h
    ⟨fun _ _ _ _ _ x q => b F hps (fun i hi => hp i (List.mem_append_right _ hi)) as0 σ0 H0 G0 δ0 (fun i hi => hb i (List.mem_append_right _ hi)) _ _ _ _ _ _ _ x.n x.g q (gd.from x fun _ z => z),
     fun _ _ _ _ _ x q => gd.bk _ _ _ _ _ ⟨x.n, x.g, x.sub, fun i hi => x.st i fun z => hi (List.mem_append_left _ z)⟩ q, fun _ _ _ _ _ x q => gd.ct _ _ _ _ _ ⟨x.n, x.g, x.sub, fun i hi => x.st i fun z => hi (List.mem_append_left _ z)⟩ q, gd.rt⟩
/-- for over a plain source, its turns over the grid -/
def yfor (as : List Nat) (S : DI) (Gd : DG) (B : YS) : YS := fun Z δ rows => S δ fun items cs δ1 => (∀ p ∈ cs, p.1 ∉ as) ∧ ∃ I : Nat → En → List (List D) → Prop, I 0 δ1 rows ∧ (∀ k δ rows, I k δ rows → ∀ p ∈ cs, δ[p.1]? = some (E.ow p.2)) ∧
  (∀ k x δ rows, items[k]? = some x → I k δ rows → Gd x δ fun δ' => B { Z with nx := I (k + 1), ct := I (k + 1), bk := Z.nx } δ' rows) ∧ (∀ δ rows, I items.length δ rows → Z.nx δ rows)
theorem sndy_for {ps gs bs as : List Nat} {m : Nat} {wi : TI} {g : TG} {tb : TS} {S : DI} {Gd : DG} {B : YS} (hi : SndI K wi S) (hg : SndG K gs g Gd) (hb : SndY K ps m bs tb B) (hh : ∀ i, i ∈ gs ++ bs → i ∈ as) (hm : m ∉ gs) : SndY K ps m as (tFor wi g tb) (yfor as S Gd B) := fun F hps hp as0 σ0 H0 G0 δ0 ha σ H G δ rows D3 D n gr h gd => by
  refine hi σ H G δ _ _ n.s.L h fun items cs δ1 J H1 G1 L1 f1 le1 it q => ?_
  obtain ⟨nc, I, I0, Ic, It, Ie⟩ := q
  have x0 : YX K F as0 σ0 H0 G0 δ0 m [] σ G σ H1 G1 δ1 rows := .plain n gr (.step n.s L1 f1 le1) (by simp) (by simp)
  refine ⟨fun i k σ' H' => k = items.length - i ∧ i ≤ items.length ∧ ∃ G' δ' rows', YX K F as0 σ0 H0 G0 δ0 m as σ G1 σ' H' G' δ' rows' ∧ I i δ' rows', ⟨items.length, by simp, Nat.zero_le _, G1, δ1, rows, .refl x0.n x0.g, I0⟩, ?_⟩
  rintro i k σ' H' ⟨rfl, hi, G', δ', rows', x, hI⟩
  have ok := it σ' H' G' δ' x.n.s.L x.sub fun p hp => ⟨Ic i δ' rows' hI p hp, x.st p.1 (nc p hp)⟩
  by_cases hlt : i < items.length
  · obtain ⟨hgo, hy⟩ := ok.1 i items[i] (List.getElem?_eq_getElem hlt)
    refine .inr ⟨hgo, fun σ2 H2 => ∃ G2 δ2 rows2, YX K F as0 σ0 H0 G0 δ0 m as σ G1 σ2 H2 G2 δ2 rows2 ∧ I (i + 1) δ2 rows2, fun σ2 H2 ⟨G2, δ2, rows2, x2, h2⟩ => ⟨items.length - (i + 1), by omega, rfl, hlt, G2, δ2, rows2, x2, h2⟩, fun y H'' yy => ?_⟩
    obtain ⟨G'', fg, sg, hx⟩ := hy y H'' yy
    have n1 : Nxt K F [] σ' H' G' δ' σ' H'' G'' δ' := .step x.n.s (x.n.s.L.grow fg sg) fg.fr .refl
    have x1 : YX K F as0 σ0 H0 G0 δ0 m [] σ' G' σ' H'' G'' δ' rows' := .plain x.n x.g n1 (by simp) (by simp)
    refine hg F (fun i hi => hp i (hh i (List.mem_append_left _ hi))) σ' H'' G'' δ' y _ _ _ n1.s hx (It i _ δ' rows' (List.getElem?_eq_getElem hlt) hI) fun σ2 H2 G2 δ2 n2 _ q2 => ?_
    have x2 : YX K F as0 σ0 H0 G0 δ0 m gs σ' G'' σ2 H2 G2 δ2 rows' := .plain x1.n x1.g n2 hm fun i hi => ha i (hh i (List.mem_append_left _ hi))
    have xx : YX K F as0 σ0 H0 G0 δ0 m as σ G1 σ2 H2 G2 δ2 rows' := (x.trans x1 (ds := as) fun j hj => by simpa using hj).trans x2 fun j hj => (List.mem_append.mp hj).elim id fun z => hh j (List.mem_append_left _ z)
    have up : ∀ {σ3 H3 G3 δ3 r3}, YX K F as0 σ0 H0 G0 δ0 m bs σ2 G2 σ3 H3 G3 δ3 r3 → YX K F as0 σ0 H0 G0 δ0 m as σ G1 σ3 H3 G3 δ3 r3 := fun x3 => xx.trans x3 fun j hj => (List.mem_append.mp hj).elim id fun z => hh j (List.mem_append_right _ z)
    refine hb F hps (fun i hi => hp i (hh i (List.mem_append_right _ hi))) as0 σ0 H0 G0 δ0 (fun i hi => ha i (hh i (List.mem_append_right _ hi))) σ2 H2 G2 δ2 rows' _ _ xx.n xx.g q2
      ⟨fun σ3 H3 G3 δ3 r3 x3 q3 => ⟨G3, δ3, r3, up x3, q3⟩, fun σ3 H3 G3 δ3 r3 x3 q3 => gd.nx _ _ _ _ _ (x0.trans (up x3) fun j hj => by simpa using hj) q3, fun σ3 H3 G3 δ3 r3 x3 q3 => ⟨G3, δ3, r3, up x3, q3⟩, gd.rt⟩
  · have e : i = items.length := by omega
    subst e
    exact .inl ⟨ok.2, gd.nx _ _ _ _ _ (x0.trans x fun j hj => by simpa using hj) (Ie δ' rows' hI)⟩

/-- a row lent to the slot h, and back -/
theorem Grid.lend {F : FE} {as0 : List Nat} {σ0 σ : L2.St} {H0 G0 H G : Hp} {δ0 δ : En} {m h : Nat} {M : Addr} {al : List Addr} {rows : List (Option (List D))} {k : Nat} {a : Addr} {r : List D} (n : Nxt K F as0 σ0 H0 G0 δ0 σ H G δ) (g : Grid K F.HE H0 σ H G δ m M al rows) (ea : al[k]? = some a) (er : rows[k]? = some (some r)) (hh : h ∈ as0) (hp : ∀ l, ¬ F.P h l) (hm : m ≠ h) :
    Nxt K F as0 σ0 H0 G0 δ0 (σ.set h (some (.ref a))) H G (δ.set h (.ow (.l r))) ∧ Grid K F.HE H0 (σ.set h (some (.ref a))) H G (δ.set h (.ow (.l r))) m M al (rows.set k none) := by
  obtain ⟨na, ga, vs, ha, ta⟩ := g.row k a r ea er
  obtain ⟨he, hb⟩ := g.fr a (List.mem_cons_of_mem _ (List.mem_of_getElem? ea))
  have ad' : ∀ l, Ad (σ.set h (some (.ref a))) (δ.set h (.ow (.l r))) l → l = a ∨ Ad σ δ l := fun l z => by
    rcases ad_put n.s.L.len z with z | ⟨z, _⟩
    · exact .inr z
    · cases z
      exact .inl rfl
  have nd := List.nodup_cons.mp g.nd
  refine ⟨⟨⟨n.s.L.setO ga ⟨vs, ha, ta⟩ na, n.s.f, fun j c' l' e q => ?_, fun j l z => ?_⟩, n.f, fun l z => ?_, fun j hj => ?_, ?_⟩, ⟨?_, g.hM, g.gM, g.fr, g.nd, fun z => ?_, ?_, fun i a' r' e1 e2 => ?_⟩⟩
  · rcases set_get e with ⟨rfl, e2, hi⟩ | ⟨ne, e2⟩
    · rw [List.getElem?_set_self (by rw [n.s.L.len]; exact hi)] at q
      cases q
      exact .inr he
    · rw [List.getElem?_set_ne ne] at q
      exact n.s.own j c' l' e2 q
  · have ne : h ≠ j := fun q => hp l (by rw [q]; exact z)
    rw [List.getElem?_set_ne ne]
    exact n.s.par j l z
  · rcases ad' l z with rfl | z
    · exact .inr hb
    · exact n.ow l z
  · have ne : h ≠ j := fun z => hj (by rw [← z]; exact hh)
    rw [List.getElem?_set_ne ne]
    exact n.st j hj
  · rw [List.length_set]
    exact n.ln
  · rw [List.getElem?_set_ne (Ne.symm hm)]
    exact g.sl
  · rcases ad' _ z with rfl | z
    · exact nd.1 (List.mem_of_getElem? ea)
    · exact g.ad z
  · rw [List.length_set]
    exact g.len
  · have nk : k ≠ i := fun z => by
      subst z
      rcases set_get e2 with ⟨_, z, _⟩ | ⟨z, _⟩
      · cases z
      · exact z rfl
    rw [List.getElem?_set_ne nk] at e2
    obtain ⟨h1, h2, h3⟩ := g.row i a' r' e1 e2
    refine ⟨fun z => ?_, h2, h3⟩
    rcases ad' _ z with rfl | z
    · exact nk (nodup_inj nd.2 ea e1)
    · exact h1 z
theorem Grid.back {F : FE} {as0 : List Nat} {σ0 σ : L2.St} {H0 G0 H G : Hp} {δ0 δ : En} {m h : Nat} {M : Addr} {al : List Addr} {rows : List (Option (List D))} {k : Nat} {a : Addr} {r : List D} (n : Nxt K F as0 σ0 H0 G0 δ0 σ H G δ) (g : Grid K F.HE H0 σ H G δ m M al rows) (ea : al[k]? = some a) (er : rows[k]? = some none) (ho : δ[h]? = some (E.ow (.l r))) (hs : σ[h]? = some (some (V.ref a))) (hp : ∀ l, ¬ F.P h l) (hh : h ∈ as0) :
    Nxt K F as0 σ0 H0 G0 δ0 σ H G (δ.set h .no) ∧ Grid K F.HE H0 σ H G (δ.set h .no) m M al (rows.set k (some r)) := by
  have hset : σ.set h (some (V.ref a)) = σ := by
    refine List.ext_getElem? fun j => ?_
    by_cases z : h = j
    · subst z
      rw [List.getElem?_set_self (List.getElem?_eq_some_iff.mp hs).1, hs]
    · rw [List.getElem?_set_ne z]
  have L := n.s.L.setN (i := h) (v := some (V.ref a))
  rw [hset] at L
  obtain ⟨l, q1, q2, vs, q3, q4⟩ := n.s.L.ow h _ ho
  rw [hs] at q1
  cases q1
  have ad' : ∀ l, Ad σ (δ.set h .no) l → Ad σ δ l ∧ l ≠ a := fun l ⟨j, c, e, q⟩ => by
    rcases set_get e with ⟨_, z, _⟩ | ⟨ne, e2⟩
    · cases z
    · refine ⟨⟨j, c, e2, q⟩, fun z => ?_⟩
      subst z
      exact ne (n.s.L.dj h j l _ c ho e2 hs q)
  refine ⟨⟨⟨L, n.s.f, fun j c' l' e q => ?_, n.s.par⟩, n.f, fun l z => n.ow l (ad' l z).1, n.st, n.ln⟩, ⟨g.sl, g.hM, g.gM, g.fr, g.nd, fun z => g.ad (ad' _ z).1, ?_, fun i a' r' e1 e2 => ?_⟩⟩
  · rcases set_get e with ⟨_, z, _⟩ | ⟨ne, e2⟩
    · cases z
    · exact n.s.own j c' l' e2 q
  · rw [List.length_set]
    exact g.len
  · rcases set_get e2 with ⟨rfl, z, _⟩ | ⟨nk, e2⟩
    · cases z
      rw [ea] at e1
      cases e1
      exact ⟨fun z => (ad' _ z).2 rfl, q2, vs, q3, q4⟩
    · obtain ⟨h1, h2, h3⟩ := g.row i a' r' e1 e2
      exact ⟨fun z => h1 (ad' _ z).1, h2, h3⟩
theorem map_set_some {α : Type} {xs : List α} {k : Nat} {x : α} : ((xs.map some).set k none).set k (some x) = (xs.set k x).map some := by
  rw [List.set_set, List.map_set]
open Classical in
/-- the rows stand still from now on: the grid is a list of our own -/
def ypfree (m : Nat) (T : DS) : YP := fun Z δ rows => T Z (δ.set m (.ow (.l (rows.map D.lst))))
theorem atL_rows {G : Hp} : ∀ {al : List Addr} {rows : List (List D)}, al.length = rows.length → (∀ (i : Nat) a r, al[i]? = some a → rows[i]? = some r → ∃ vs, G a = some (.lst vs) ∧ AtL K G vs r) → AtL K G (al.map V.ref) (rows.map D.lst)
  | [], [], _, _ => .nil
  | a :: al, r :: rows, l, h => by
    obtain ⟨vs, h1, h2⟩ := h 0 a r rfl rfl
    exact .cons (.lst h1 h2) (atL_rows (by simpa using l) fun i a r e1 e2 => h (i + 1) a r (by simpa using e1) (by simpa using e2))
  | [], _ :: _, l, _ => by cases l
  | _ :: _, [], l, _ => by cases l
open Classical in
theorem Grid.free {F : FE} {as0 : List Nat} {σ0 σ : L2.St} {H0 G0 H G : Hp} {δ0 δ : En} {m : Nat} {M : Addr} {al : List Addr} {rows : List (List D)} (n : Nxt K F as0 σ0 H0 G0 δ0 σ H G δ) (g : Grid K F.HE H0 σ H G δ m M al (rows.map some)) (hp : ∀ l, ¬ F.P m l) :
    ∃ G', Nxt K F as0 σ0 H0 G0 δ0 σ H G' (δ.set m (.ow (.l (rows.map D.lst)))) := by
  have lr : al.length = rows.length := by rw [g.len, List.length_map]
  have rw_ : ∀ (i : Nat) a, al[i]? = some a → ∃ r, rows[i]? = some r ∧ ¬ Ad σ δ a ∧ G a = none ∧ ∃ vs, H a = some (.lst vs) ∧ AtL K G vs r := fun i a e => by
    have hi : i < rows.length := by rw [← lr]; exact (List.getElem?_eq_some_iff.mp e).1
    have e2 : rows[i]? = some rows[i] := List.getElem?_eq_getElem hi
    exact ⟨_, e2, g.row i a _ e (by rw [List.getElem?_map, e2]; rfl)⟩
  have key : ∀ a ∈ al, ¬ Ad σ δ a ∧ G a = none ∧ H a ≠ none := fun a ha => by
    obtain ⟨i, hi, rfl⟩ := List.mem_iff_getElem.mp ha
    obtain ⟨r, _, h1, h2, vs, h3, _⟩ := rw_ i _ (List.getElem?_eq_getElem hi)
    exact ⟨h1, h2, by rw [h3]; exact fun z => nomatch z⟩
  let G' : Hp := fun a => if a ∈ al then H a else G a
  have gi : ∀ a, a ∈ al → G' a = H a := fun a h => if_pos h
  have go : ∀ a, a ∉ al → G' a = G a := fun a h => if_neg h
  have s1 : Sub G G' := fun a o h => by
    by_cases z : a ∈ al
    · rw [(key a z).2.1] at h
      cases h
    · rw [go a z]
      exact h
  have s2 : Sub G' H := fun a o h => by
    by_cases z : a ∈ al
    · rw [gi a z] at h
      exact h
    · rw [go a z] at h
      exact n.s.L.sub a o h
  have nM : M ∉ al := (List.nodup_cons.mp g.nd).1
  have L1 : Rel K σ H G' δ := ⟨n.s.L.len, s2, fun i d e => by
      obtain ⟨v, h1, h2⟩ := n.s.L.va i d e
      exact ⟨v, h1, h2.mono s1⟩, fun i c e => by
      obtain ⟨l, h1, h2, h3⟩ := n.s.L.ow i c e
      have nl : l ∉ al := fun z => (key l z).1 ⟨i, c, e, h1⟩
      exact ⟨l, h1, (go l nl).trans h2, h3.mono (fun _ z => z) s1⟩, n.s.L.dj⟩
  have hset : σ.set m (some (V.ref M)) = σ := by
    refine List.ext_getElem? fun j => ?_
    by_cases z : m = j
    · subst z
      rw [List.getElem?_set_self (List.getElem?_eq_some_iff.mp g.sl).1, g.sl]
    · rw [List.getElem?_set_ne z]
  have L2 := L1.setO (i := m) (l := M) (c := .l (rows.map D.lst)) ((go M nM).trans g.gM) ⟨al.map V.ref, g.hM, atL_rows lr fun i a r e1 e2 => by
      obtain ⟨r', e3, _, _, vs, h3, h4⟩ := rw_ i a e1
      rw [e2] at e3
      cases e3
      exact ⟨vs, by rw [gi a (List.mem_of_getElem? e1)]; exact h3, h4.mono s1⟩⟩ g.ad
  rw [hset] at L2
  obtain ⟨heM, hbM⟩ := g.fr M List.mem_cons_self
  have ad' : ∀ l, Ad σ (δ.set m (.ow (.l (rows.map D.lst)))) l → l = M ∨ Ad σ δ l := fun l ⟨j, c, e, q⟩ => by
    rcases set_get e with ⟨rfl, _, _⟩ | ⟨ne, e2⟩
    · rw [g.sl] at q
      cases q
      exact .inl rfl
    · exact .inr ⟨j, c, e2, q⟩
  have frz : ∀ {A : Addr → Prop} {Hb Gb : Hp}, Fr A Hb Gb H G → (∀ a ∈ al, Hb a = none) → Fr A Hb Gb H G' := fun f hb => ⟨f.h, fun a o h => s1 _ _ (f.g a o h), fun a na h => (go a fun z => h (hb a z)).trans (f.n a na h), f.d⟩
  refine ⟨G', ⟨L2, frz n.s.f fun a z => (g.fr a (List.mem_cons_of_mem _ z)).1, fun j c' l' e q => ?_, n.s.par⟩, frz n.f fun a z => (g.fr a (List.mem_cons_of_mem _ z)).2, fun l z => ?_, n.st, n.ln⟩
  · rcases set_get e with ⟨rfl, _, _⟩ | ⟨ne, e2⟩
    · rw [g.sl] at q
      cases q
      exact .inr heM
    · exact n.s.own j c' l' e2 q
  · rcases ad' l z with rfl | z
    · exact .inr hbM
    · exact n.ow l z
theorem sndyp_free {ps bs : List Nat} {m : Nat} {t : TS} {T : DS} (a : SndSP K ps bs t T) (hm : m ∉ ps) : SndYP K ps m bs t (ypfree m T) := fun F hps hp as0 σ0 H0 G0 δ0 hb σ H G δ rows D3 D n g h gd => by
  obtain ⟨M, al, g⟩ := g
  obtain ⟨G', n'⟩ := g.free n fun l z => hm (hps m l z)
  have tr : ∀ {σ1 H1 G1 δ1}, Nxt K F bs σ H G' (δ.set m (.ow (.l (rows.map L3.D.lst)))) σ1 H1 G1 δ1 → Nxt K F as0 σ0 H0 G0 δ0 σ1 H1 G1 δ1 := fun x => (n'.trans x).mono fun i hi => (List.mem_append.mp hi).elim id (hb i)
  exact a F hps hp σ H G' _ _ _ n'.s h ⟨fun _ _ _ _ x q => gd.nx _ _ _ _ (tr x) q, fun _ _ _ _ x q => gd.bk _ _ _ _ (tr x) q, fun _ _ _ _ x q => gd.ct _ _ _ _ (tr x) q, fun _ _ _ _ _ _ x rr nr q => gd.rt _ _ _ _ _ _ (tr x) rr nr q⟩
def ypseq (T : YS) (U : YP) : YP := fun Z δ rows => T { nx := U Z, rt := Z.rt } δ rows
theorem sndyp_seq {ps bs cs : List Nat} {m : Nat} {t u : TS} {T : YS} {U : YP} (a : SndY K ps m bs t T) (b : SndYP K ps m cs u U) : SndYP K ps m (bs ++ cs) (tSeq t u) (ypseq T U) := fun F hps hp as0 σ0 H0 G0 δ0 hb σ H G δ rows D3 D n g h gd =>
  a F hps (fun i hi => hp i (List.mem_append_left _ hi)) as0 σ0 H0 G0 δ0 (fun i hi => hb i (List.mem_append_left _ hi)) σ H G δ rows _ _ n g h
    ⟨fun _ _ _ _ _ x q => b F hps (fun i hi => hp i (List.mem_append_right _ hi)) as0 σ0 H0 G0 δ0 (fun i hi => hb i (List.mem_append_right _ hi)) _ _ _ _ _ _ _ x.n x.g q gd, fun _ _ _ _ _ x q => q.elim, fun _ _ _ _ _ x q => q.elim, fun _ _ _ _ _ _ x rr nr q => gd.rt _ _ _ _ _ _ x rr nr q⟩

theorem Nxt.setN {F : FE} {as : List Nat} {σ0 σ : L2.St} {H0 G0 H G : Hp} {δ0 δ : En} {i : Nat} {v : Option V} (n : Nxt K F as σ0 H0 G0 δ0 σ H G δ) (hp : ∀ l, ¬ F.P i l) : Nxt K F (as ++ [i]) σ0 H0 G0 δ0 (σ.set i v) H G (δ.set i .no) := by
  have back : ∀ (j : Nat) (c : Cn) (l : Addr), (δ.set i E.no)[j]? = some (E.ow c) → (σ.set i v)[j]? = some (some (V.ref l)) → δ[j]? = some (E.ow c) ∧ σ[j]? = some (some (V.ref l)) := fun j c l e q => by
    rcases set_get e with ⟨_, z, _⟩ | ⟨ne, e2⟩
    · cases z
    · rw [List.getElem?_set_ne ne] at q
      exact ⟨e2, q⟩
  refine ⟨⟨n.s.L.setN, n.s.f, fun j c l e q => ?_, fun j l z => ?_⟩, n.f, fun l ⟨j, c, e, q⟩ => ?_, fun j hj => ?_, by rw [List.length_set]; exact n.ln⟩
  · obtain ⟨a, b⟩ := back j c l e q
    exact n.s.own j c l a b
  · have ne : i ≠ j := fun q => hp l (by rw [q]; exact z)
    rw [List.getElem?_set_ne ne]
    exact n.s.par j l z
  · obtain ⟨a, b⟩ := back j c l e q
    exact n.ow l ⟨j, c, a, b⟩
  · have ne : i ≠ j := fun z => hj (List.mem_append_right _ (by rw [z]; exact List.mem_cons_self))
    rw [List.getElem?_set_ne ne]
    exact n.st j fun z => hj (List.mem_append_left _ z)
/-- rows that are new since H1 -/
structure Rws (K : PySem.W.Frag) (H1 H G : Hp) (al : List Addr) (acc : List (List D)) : Prop where
  len : al.length = acc.length
  row : ∀ (i : Nat) a r, al[i]? = some a → acc[i]? = some r → H1 a = none ∧ G a = none ∧ ∃ vs, H a = some (.lst vs) ∧ AtL K G vs r
theorem Rws.at_ {H1 H G : Hp} {al : List Addr} {acc : List (List D)} (x : Rws K H1 H G al acc) {a : Addr} (h : a ∈ al) : H1 a = none ∧ G a = none ∧ H a ≠ none := by
  obtain ⟨i, hi, rfl⟩ := List.mem_iff_getElem.mp h
  have hi' : i < acc.length := by rw [← x.len]; exact hi
  obtain ⟨h1, h2, vs, h3, _⟩ := x.row i _ _ (List.getElem?_eq_getElem hi) (List.getElem?_eq_getElem hi')
  exact ⟨h1, h2, by rw [h3]; exact fun z => nomatch z⟩
theorem Rws.fr {H1 H G H' G' : Hp} {al : List Addr} {acc : List (List D)} {A : Addr → Prop} (x : Rws K H1 H G al acc) (f : Fr A H G H' G') (na : ∀ a ∈ al, ¬ A a) : Rws K H1 H' G' al acc :=
  ⟨x.len, fun i a r e1 e2 => by
    obtain ⟨h1, h2, vs, h3, h4⟩ := x.row i a r e1 e2
    have n := na a (List.mem_of_getElem? e1)
    exact ⟨h1, (f.n a n (by rw [h3]; exact fun z => nomatch z)).trans h2, vs, f.h a _ n h3, h4.mono f.sub⟩⟩
/-- m = [e for ..], e new lists; then u over the grid -/
def sgrid (m : Nat) (S : DI) (Gd : DG) (C : DTT) (Te : DT) (vs : List Nat) (U : YP) : DS := fun Z δ => S δ fun items cs δ1 => m < δ1.length ∧ noOw δ1 vs = true ∧ (∀ p ∈ cs, p.1 ∉ vs) ∧ ∃ I : Nat → List (List D) → En → Prop, I 0 [] δ1 ∧ (∀ k acc δ, I k acc δ → ∀ p ∈ cs, δ[p.1]? = some (E.ow p.2)) ∧
  (∀ k x acc δ, items[k]? = some x → I k acc δ → Gd x (wipeE δ vs) fun δ2 => C δ2 fun b δ3 => if b = true then Te δ3 fun r δ4 => ∃ xs, r = .fr (.l xs) ∧ acc.length < sizeLine ∧ I (k + 1) (acc ++ [xs]) (backE δ δ4 vs) else I (k + 1) acc (backE δ δ3 vs)) ∧
  (∀ acc δ, I items.length acc δ → U Z (δ.set m .no) acc)
theorem sndp_grid {ps gs vs bs : List Nat} {m : Nat} {wi : TI} {g : TG} {tt : TT} {te : TE} {u : TS} {S : DI} {Gd : DG} {C : DTT} {Te : DT} {U : YP} (hi : SndI K wi S) (hg : SndG K gs g Gd) (ht : SndT K tt C) (he : Snd K te Te) (hgs : ∀ i ∈ gs, i ∈ vs) (rest : SndYP K ps m bs u U) :
    SndSP K ps (m :: bs) (tSeq (tAsg (tLc wi g tt te vs) (gName m)) u) (sgrid m S Gd C Te vs U) := fun F hps hp σ H G δ Z De s h gd => by
  refine hi σ H G δ _ _ s.L h fun items cs δ1 J H1 G1 L1 f1 le1 it q => ?_
  obtain ⟨hml, no, nc, I, I0, Ic, It, Ie⟩ := q
  intro M hM
  have nX : ∀ {a : Addr}, H1 a = none → ∀ δ', Le δ' δ1 → ¬ Ad σ δ' a := fun ha δ' le z => L1.there (le.ad z) ha
  obtain ⟨fD, sD⟩ := gr_new (G := G1) (o := .lst []) L1.sub hM
  have l1 : σ.length = δ1.length := L1.len
  refine ⟨fun i k H' => k = items.length - i ∧ i ≤ items.length ∧ ∃ G' δ' acc al, Rel K σ H' G' δ' ∧ Fr (fun a => Ad σ δ1 a ∨ a = M) (L2.upd H1 M (.lst [])) G1 H' G' ∧ Le δ' δ1 ∧ (∀ v : Nat, v ∈ vs → δ'[v]? = δ1[v]?) ∧ H' M = some (.lst (al.map V.ref)) ∧ G' M = none ∧ Rws K H1 H' G' al acc ∧ (M :: al).Nodup ∧ I i acc δ',
    ⟨items.length, by simp, Nat.zero_le _, G1, δ1, [], [], L1.grow fD sD, .refl, .refl, fun _ _ => rfl, upd_same, g_none L1.sub hM, ⟨rfl, fun i a r e => by simp at e⟩, by simp, I0⟩, ?_⟩
  rintro i k H' ⟨rfl, hi, G', δ', acc, al, L', f', le', dv, hH, hG, ra, nd, hI⟩
  have no' : noOw δ' vs = true := List.all_eq_true.mpr fun v hv => by
    rw [dv v hv]
    exact List.all_eq_true.mp no v hv
  have ok := it σ H' G' δ' L' f'.sub fun p hp => ⟨Ic i acc δ' hI p hp, rfl⟩
  have fD' : Fr (fun a => Ad σ δ1 a ∨ a = M) H1 G1 (L2.upd H1 M (.lst [])) G1 := fD.fr
  by_cases hlt : i < items.length
  · obtain ⟨hgo, hy⟩ := ok.1 i items[i] (List.getElem?_eq_getElem hlt)
    refine .inr ⟨hgo, fun H2 => ∃ G2 δ2 acc al, Rel K σ H2 G2 δ2 ∧ Fr (fun a => Ad σ δ1 a ∨ a = M) (L2.upd H1 M (.lst [])) G1 H2 G2 ∧ Le δ2 δ1 ∧ (∀ v : Nat, v ∈ vs → δ2[v]? = δ1[v]?) ∧ H2 M = some (.lst (al.map V.ref)) ∧ G2 M = none ∧ Rws K H1 H2 G2 al acc ∧ (M :: al).Nodup ∧ I (i + 1) acc δ2,
      fun H2 z => ⟨items.length - (i + 1), by omega, rfl, hlt, z⟩, fun x H'' y => ?_⟩
    obtain ⟨G'', fg, sg, hx⟩ := hy x H'' y
    have L'' := L'.grow fg sg
    have Lw := L''.wipe vs
    have s0 : S3 K ⟨fun j l => ∃ c, (wipeE δ' vs)[j]? = some (E.ow c) ∧ (wipe σ vs)[j]? = some (some (V.ref l)), H'', G''⟩ (wipe σ vs) H'' G'' (wipeE δ' vs) := ⟨Lw, .refl, fun j c l e q => .inl ⟨c, e, q⟩, fun j l ⟨c, e, q⟩ => q⟩
    refine hg _ (fun j hj l z => ?_) (wipe σ vs) H'' G'' (wipeE δ' vs) x _ _ _ s0 hx (It i _ acc δ' (List.getElem?_eq_getElem hlt) hI) fun σ2 H2 G2 δ2 n2 le2 q2 => ?_
    · obtain ⟨c, e, q⟩ := z
      rcases wipeE_get e with ⟨_, z⟩ | ⟨z, _⟩
      · cases z
      · exact z (hgs j hj)
    have hσ : ∀ j : Nat, j ∉ vs → σ2[j]? = σ[j]? := fun j hj => (n2.st j fun z => hj (hgs j z)).trans (wipe_off hj)
    have hl2 : σ2.length = σ.length := n2.ln.trans (wipe_length σ vs)
    have fAll : ∀ {A : Addr → Prop} {Ha Ga Hb Gb : Hp}, Fr (fun a => Ad σ δ1 a ∨ a = M) (L2.upd H1 M (.lst [])) G1 Ha Ga → Fr A Ha Ga Hb Gb → (∀ a, A a → Ad σ δ1 a ∨ (L2.upd H1 M (.lst [])) a = none) → Fr (fun a => Ad σ δ1 a ∨ a = M) (L2.upd H1 M (.lst [])) G1 Hb Gb := fun x y z => x.trans y fun a h => (z a h).imp .inl id
    have f2 := fAll f' fg (fun _ z => z.elim)
    have f3 := fAll f2 n2.f fun a z => .inl (le'.ad (ad_wipe z))
    have ow2 : ∀ l, Ad σ2 δ2 l → Ad σ δ1 l ∨ (L2.upd H1 M (.lst [])) l = none := fun l z => (n2.ow l z).elim (fun z => .inl (le'.ad (ad_wipe z))) fun z => .inr (f2.free z)
    have nD2 : ∀ l, Ad σ2 δ2 l → l ≠ M := fun l z e => by
      subst e
      rcases ow2 l z with z | z
      · exact nX hM δ1 .refl z
      · rw [upd_same] at z
        cases z
    have keepD : ∀ {A : Addr → Prop} {Ha Ga Hb Gb : Hp}, Fr A Ha Ga Hb Gb → ¬ A M → Ha M = some (.lst (al.map V.ref)) → Ga M = none → Hb M = some (.lst (al.map V.ref)) ∧ Gb M = none := fun f na h g => ⟨f.h M _ na h, (f.n M na (by rw [h]; exact fun z => nomatch z)).trans g⟩
    obtain ⟨d1, g1⟩ := keepD fg (fun z => z) hH hG
    obtain ⟨d2, g2⟩ := keepD n2.f (fun z => nX hM δ' le' (ad_wipe z)) d1 g1
    have r1 := ra.fr fg fun a _ z => z
    have r2 := r1.fr n2.f fun a ha z => nX (r1.at_ ha).1 δ' le' (ad_wipe z)
    have nA2 : ∀ a ∈ al, ¬ Ad σ2 δ2 a := fun a ha z => (n2.ow a z).elim (fun z => nX (r1.at_ ha).1 δ' le' (ad_wipe z)) fun z => (r1.at_ ha).2.2 z
    refine ⟨?_, ht σ2 H2 G2 δ2 _ _ n2.s.L q2 fun b δ3 H3 G3 L3 f4 le3 q3 => ?_⟩
    · refine List.ext_getElem? fun j => ?_
      by_cases hj : j ∈ vs
      · by_cases hjl : j < σ.length
        · rw [wipe_at hj hjl, wipe_at hj (by rw [hl2]; exact hjl)]
        · rw [List.getElem?_eq_none (by rw [wipe_length]; omega), List.getElem?_eq_none (by rw [wipe_length]; omega)]
      · rw [wipe_off hj, wipe_off hj, hσ j hj]
    have f5 := fAll f3 f4 ow2
    obtain ⟨d3, g3⟩ := keepD f4 (fun z => nD2 M z rfl) d2 g2
    have r3 := r2.fr f4 nA2
    have bk : ∀ {δn : En} {Hn Gn : Hp}, Rel K σ2 Hn Gn δn → Le δn δ2 → Fr (fun a => Ad σ δ1 a ∨ a = M) (L2.upd H1 M (.lst [])) G1 Hn Gn → Sub G' Gn → Rel K σ Hn Gn (backE δ' δn vs) ∧ Le (backE δ' δn vs) δ1 ∧ ∀ v : Nat, v ∈ vs → (backE δ' δn vs)[v]? = δ1[v]? := fun {δn Hn Gn} Ln len fn sn => by
      have hd : δ'.length = δn.length := by rw [← L'.len, ← Ln.len, hl2]
      refine ⟨L'.back no' Ln sn hσ hl2, fun j c e => ?_, fun v hv => (backE_in hd hv).trans (dv v hv)⟩
      rcases backE_get hd e with ⟨h1, h2⟩ | ⟨h1, h2⟩
      · exact absurd h2 (noOw_at no' h1 c)
      · obtain ⟨c2, h3⟩ := len j c h2
        obtain ⟨c3, h4⟩ := le2 j c2 h3
        rcases wipeE_get h4 with ⟨_, z⟩ | ⟨_, z⟩
        · cases z
        · exact le' j c3 z
    cases b with
    | true =>
      refine he σ2 H3 G3 δ3 _ _ L3 q3 fun r δ4 y H4 G4 L4 f6 le4 rr q4 => ?_
      obtain ⟨xs, rfl, hlen, q4⟩ := q4
      obtain ⟨l, rfl, nl, gl, ws, hl4, tl4⟩ := rr
      have nA3 : ∀ a, Ad σ2 δ3 a → Ad σ2 δ2 a := fun a z => le3.ad z
      obtain ⟨d4, g4⟩ := keepD f6 (fun z => nD2 M (nA3 _ z) rfl) d3 g3
      have f8 := fAll f5 f6 fun a z => ow2 a (nA3 a z)
      have sG : Sub G' G4 := (((fg.sub.trans n2.f.sub).trans f4.sub).trans f6.sub)
      obtain ⟨Lb, leb, db⟩ := bk L4 (le4.trans le3) f8 sG
      have r4 := r3.fr f6 fun a ha z => nA2 a ha (nA3 a z)
      have nlM : l ≠ M := fun z => by rw [z, d3] at nl; cases nl
      have nla : l ∉ al := fun z => (r3.at_ z).2.2 nl
      have h1l : H1 l = none := by
        have := f5.free nl
        rw [upd_ne nlM] at this
        exact this
      have fu : Fr (fun a => a = M) H4 G4 (L2.upd H4 M (.lst (al.map V.ref ++ [V.ref l]))) G4 := fr_upd rfl
      have nM := List.nodup_cons.mp nd
      have r5 : Rws K H1 (L2.upd H4 M (.lst (al.map V.ref ++ [V.ref l]))) G4 (al ++ [l]) (acc ++ [xs]) := by
        have r6 := r4.fr fu fun a ha z => nM.1 (by rw [← z]; exact ha)
        refine ⟨by rw [List.length_append, List.length_append, r4.len]; rfl, fun j a r e1 e2 => ?_⟩
        by_cases hj : j < al.length
        · rw [List.getElem?_append_left hj] at e1
          rw [List.getElem?_append_left (by rw [← r4.len]; exact hj)] at e2
          exact r6.row j a r e1 e2
        · rw [List.getElem?_append_right (by omega)] at e1
          rw [List.getElem?_append_right (by rw [← r4.len]; omega), ← r4.len] at e2
          have hj0 : j - al.length = 0 := by
            have := (List.getElem?_eq_some_iff.mp e1).1
            simp at this
            omega
          rw [hj0] at e1 e2
          simp at e1 e2
          subst e1
          subst e2
          exact ⟨h1l, gl, ws, by rw [upd_ne nlM]; exact hl4, tl4⟩
      refine ⟨al.map V.ref, d4, by rw [List.length_map, r4.len]; exact hlen, G4, backE δ' δ4 vs, acc ++ [xs], al ++ [l], Lb.other g4 (nX hM _ leb), f8.trans fu fun a z => .inl (.inr z), leb, db, ?_, g4, r5, ?_, q4⟩
      · rw [upd_same, List.map_append]
        rfl
      · refine List.nodup_cons.mpr ⟨fun z => ?_, List.nodup_append.mpr ⟨nM.2, by simp, fun a ha b hb e => ?_⟩⟩
        · rcases List.mem_append.mp z with z | z
          · exact nM.1 z
          · simp at z
            exact nlM z.symm
        · simp at hb
          subst hb
          subst e
          exact nla ha
    | false =>
      have sG : Sub G' G3 := ((fg.sub.trans n2.f.sub).trans f4.sub)
      obtain ⟨Lb, leb, db⟩ := bk L3 le3 f5 sG
      exact ⟨G3, backE δ' δ3 vs, acc, al, Lb, f5, leb, db, d3, g3, r3, nd, q3⟩
  · have e : i = items.length := by omega
    subst e
    have fF : Fr (Ad σ δ) H G H' G' := (f1.trans fD' fun a z => ?_).trans f' fun a z => ?_
    · refine .inl ⟨ok.2, ?_⟩
      have n0 : Nxt K F [] σ H G δ σ H' G' δ' := .step s L' fF (le'.trans le1)
      have hpm : ∀ l, ¬ F.P m l := hp m List.mem_cons_self
      have n1 : Nxt K F (m :: bs) σ H G δ (σ.set m (some (.ref M))) H' G' (δ'.set m .no) := (n0.setN hpm).mono fun j hj => by
        simp at hj
        subst hj
        exact List.mem_cons_self
      have ad' : ∀ l, Ad (σ.set m (some (.ref M))) (δ'.set m .no) l → Ad σ δ' l := fun l ⟨j, c, e, q⟩ => by
        rcases set_get e with ⟨_, z, _⟩ | ⟨ne, e2⟩
        · cases z
        · rw [List.getElem?_set_ne ne] at q
          exact ⟨j, c, e2, q⟩
      refine rest F hps (fun j hj => hp j (List.mem_cons_of_mem _ hj)) (m :: bs) σ H G δ (fun j hj => List.mem_cons_of_mem _ hj) _ H' G' _ acc Z De n1 ⟨M, al, ⟨?_, hH, hG, fun a ha => ?_, nd, fun z => nX hM δ' le' (ad' _ z), ?_, fun j a r e1 e2 => ?_⟩⟩ (Ie acc δ' hI) gd
      · rw [List.getElem?_set_self (by rw [l1]; exact hml)]
      · have h1 : H1 a = none := by
          rcases List.mem_cons.mp ha with rfl | ha
          · exact hM
          · exact (ra.at_ ha).1
        exact ⟨s.f.free (f1.free h1), f1.free h1⟩
      · rw [List.length_map]
        exact ra.len
      · rw [List.getElem?_map] at e2
        obtain ⟨r', e3, e4⟩ := Option.map_eq_some_iff.mp e2
        cases e4
        obtain ⟨h1, h2, h3⟩ := ra.row j a r e1 e3
        exact ⟨fun z => nX h1 δ' le' (ad' _ z), h2, h3⟩
    · rcases z with z | rfl
      · exact .inl (le1.ad z)
      · exact .inr (f1.free hM)
    · rcases z with z | rfl
      · exact .inl (le1.ad z)
      · exact .inr (f1.free hM)
end
end L3
namespace L3
open PySem PySem.Spec PyProof.Rows L2
section
variable {Q : R → En → Prop} {QB : Bool → En → Prop} {δ : En} {T U : DT} {C : DTT} {rt : R → En → Prop} {bk ct : En → Prop} {n : En → Prop} {rows : List (List D)} {Z : DE}
/-- a grid made by a comprehension -/
def GrK (m : Nat) (Gd : DG) (C : DTT) (Te : DT) (vs : List Nat) (U : List (List D) → En → Prop) (items : List D) (cs : List (Nat × Cn)) (δ1 : En) : Prop := m < δ1.length ∧ noOw δ1 vs = true ∧ (∀ p ∈ cs, p.1 ∉ vs) ∧ ∃ I : Nat → List (List D) → En → Prop, I 0 [] δ1 ∧ (∀ k acc δ, I k acc δ → ∀ p ∈ cs, δ[p.1]? = some (E.ow p.2)) ∧
  (∀ k x acc δ, items[k]? = some x → I k acc δ → Gd x (wipeE δ vs) fun δ2 => C δ2 fun b δ3 => if b = true then Te δ3 fun r δ4 => ∃ xs, r = .fr (.l xs) ∧ acc.length < sizeLine ∧ I (k + 1) (acc ++ [xs]) (backE δ δ4 vs) else I (k + 1) acc (backE δ δ3 vs)) ∧
  (∀ acc δ, I items.length acc δ → ∃ δ', δ.set m .no = δ' ∧ U acc δ')
theorem y_grid {m : Nat} {S : DI} {Gd : DG} {Te : DT} {vs : List Nat} {U : YP} (k : S δ fun items cs δ1 => GrK m Gd C Te vs (fun rows δ => U Z δ rows) items cs δ1) : sgrid m S Gd C Te vs U Z δ := by
  unfold GrK at k
  simp only [exists_eq_left'] at k
  exact k
/-- each item becomes a new list, the slots stay -/
theorem grid_map {m : Nat} {Gd : DG} {Te : DT} {vs : List Nat} {items : List D} {cs : List (Nat × Cn)} {U : List (List D) → En → Prop} (f : Nat → List D) (hm : m < δ.length) (no : noOw δ vs = true) (hcs : ∀ p ∈ cs, p.1 ∉ vs) (hi : ∀ p ∈ cs, δ[p.1]? = some (E.ow p.2))
    (ht : ∀ k x, items[k]? = some x → Gd x (wipeE δ vs) fun δ2 => Te δ2 fun r δ4 => ∃ xs, r = .fr (.l xs) ∧ ((List.range k).map f).length < sizeLine ∧ (backE δ δ4 vs = δ ∧ (List.range k).map f ++ [xs] = (List.range (k + 1)).map f))
    (he : ∃ δ', δ.set m .no = δ' ∧ U ((List.range items.length).map f) δ') : GrK m Gd tyes Te vs U items cs δ := by
  refine ⟨hm, no, hcs, fun k acc δ' => δ' = δ ∧ acc = (List.range k).map f, ⟨rfl, rfl⟩, fun k acc δ' h => by rw [h.1]; exact hi, fun k x acc δ' e h => ?_, fun acc δ' h => by rw [h.1, h.2]; exact he⟩
  obtain ⟨rfl, rfl⟩ := h
  have h2 := ht k x e
  simp only [tyes, if_true]
  exact h2
theorem y_list {xs : List D} {P : List D → Prop} (k : P xs) : ∃ ys, R.fr (.l xs) = .fr (.l ys) ∧ P ys := ⟨xs, rfl, k⟩
theorem y_pseq {A : YS} {B : YP} (k : A ⟨B Z, Z.rt, fun _ _ => False, fun _ _ => False⟩ δ rows) : ypseq A B Z δ rows := k
theorem y_free {m : Nat} {S : DS} (k : ∃ δ', δ.set m (.ow (.l (rows.map D.lst))) = δ' ∧ S Z δ') : ypfree m S Z δ rows := by
  obtain ⟨_, rfl, k⟩ := k
  exact k
variable {yn : En → List (List D) → Prop} {ybk yct : En → List (List D) → Prop}
theorem y_plain {S : DS} (k : S ⟨fun δ' => yn δ' rows, rt, fun δ' => ybk δ' rows, fun δ' => yct δ' rows⟩ δ) : yplain S ⟨yn, rt, ybk, yct⟩ δ rows := k
theorem y_seq {A B : YS} (k : A ⟨B ⟨yn, rt, ybk, yct⟩, rt, ybk, yct⟩ δ rows) : yseq A B ⟨yn, rt, ybk, yct⟩ δ rows := k
def YForK (as : List Nat) (Gd : DG) (B : YS) (Z : DEY) (rows : List (List D)) (items : List D) (cs : List (Nat × Cn)) (δ1 : En) : Prop := (∀ p ∈ cs, p.1 ∉ as) ∧ ∃ I : Nat → En → List (List D) → Prop, I 0 δ1 rows ∧ (∀ k δ rows, I k δ rows → ∀ p ∈ cs, δ[p.1]? = some (E.ow p.2)) ∧
  (∀ k x δ rows, items[k]? = some x → I k δ rows → Gd x δ fun δ' => B ⟨I (k + 1), Z.rt, Z.nx, I (k + 1)⟩ δ' rows) ∧ (∀ δ rows, I items.length δ rows → Z.nx δ rows)
theorem y_for {as : List Nat} {SI : DI} {Gd : DG} {B : YS} (k : SI δ fun items cs δ1 => YForK as Gd B ⟨yn, rt, ybk, yct⟩ rows items cs δ1) : yfor as SI Gd B ⟨yn, rt, ybk, yct⟩ δ rows := k
theorem yfor_by {as : List Nat} {Gd : DG} {B : YS} {items : List D} {cs : List (Nat × Cn)} (I : Nat → En → List (List D) → Prop) (h0 : I 0 δ rows) (hcs : ∀ p ∈ cs, p.1 ∉ as) (hi : ∀ k δ rows, I k δ rows → ∀ p ∈ cs, δ[p.1]? = some (E.ow p.2))
    (ht : ∀ k x δ rows, items[k]? = some x → I k δ rows → Gd x δ fun δ' => B ⟨I (k + 1), rt, yn, I (k + 1)⟩ δ' rows) (he : ∀ δ rows, I items.length δ rows → yn δ rows) : YForK as Gd B ⟨yn, rt, ybk, yct⟩ rows items cs δ := ⟨hcs, I, h0, hi, ht, he⟩
theorem y_back {h : Nat} {r : List D} {P : List D → Prop} (e : δ[h]? = some (E.ow (.l r))) (k : P r) : ∃ r', δ[h]? = some (E.ow (.l r')) ∧ P r' := ⟨r, e, k⟩
end
end L3
namespace L3
open PySem PySem.Spec PyProof.Rows L2
/-- f(e, .., k = v, ..) of a def without defaults -/
theorem fk_bind {K : PySem.W.Frag} {x qual : Str} {params : Arguments} {body : List Stmt} {scope : Scope} {kws : List (Str × V)} {f : Addr} {fd : FuncData} {ps ks : List Str} {us ws zs : List Value} (F : FunD K x qual params body scope [] kws f fd)
    (h : ∀ (kV doc pm : Value) (an : Option Addr) (cdv ct : Value), bindArgs (PySem.W.fnOf x qual params body scope .none kV doc pm an cdv ct) ⟨us, ks.zip ws⟩ = pure (ps.zip zs)) (s : Shared) : BindsTo s fd ⟨us, ks.zip ws⟩ (ps.zip zs) := by
  obtain ⟨oc, od, dV, kV, doc, pm, an, cdv, ct, osl, rfl, lk, hcd, hD, hK⟩ := F.ex
  rcases hD with ⟨_, rfl⟩ | ⟨e, _⟩
  · exact .of_eq (h kV doc pm an cdv ct)
  · exact absurd rfl e
end L3
namespace L3
open PySem PySem.Spec PyProof.Rows L2
section
variable {K : PySem.W.Frag}
def divmodF : List D → (R → Prop) → Prop
  | [.int i, .int j], Q => CDiv i j ∧ Q (.va (.tup [.int (i / j), .int (i % j)]))
  | _, _ => False
theorem snd_divmod : SndC K (fun xs H Q => ∃ i j, xs = [.int i, .int j] ∧ CDiv i j ∧ ∀ p, H p = none → Q (.ref p) (L2.upd H p (.tup [.int (i / j), .int (i % j)]))) divmodF := fun H G vs ds Q Q3 s h hF k => by
  unfold divmodF at hF
  split at hF
  · cases h with
    | cons h t =>
      cases t with
      | cons h2 t =>
        cases t
        obtain rfl := h
        obtain rfl := h2
        exact ⟨_, _, rfl, hF.1, k.tuple s (.cons (.int _) (.cons (.int _) .nil)) hF.2⟩
  · exact hF.elim
def sortI (ns : List Int) : List Int := ns.mergeSort (fun a b => decide (a ≤ b))
theorem sortI_perm (ns : List Int) : (sortI ns).Perm ns := List.mergeSort_perm _ _
theorem sortI_le (ns : List Int) : (sortI ns).Pairwise (· ≤ ·) := by
  have := List.pairwise_mergeSort (le := fun a b : Int => decide (a ≤ b)) (by simp; omega) (by simp; omega) ns
  simpa [sortI] using this
theorem sortI_uniq {ns ns' : List Int} (p : ns'.Perm ns) (h : ns'.Pairwise (· ≤ ·)) : ns' = sortI ns :=
  (p.trans (sortI_perm ns).symm).eq_of_pairwise (fun a b _ _ x y => Int.le_antisymm x y) h (sortI_le ns)
def sortedF : List D → (R → Prop) → Prop := fun ds Q => ∃ ns : List Int, ds = [.lst (ns.map D.int)] ∧ Q (.fr (.l ((sortI ns).map D.int)))
theorem snd_sorted : SndC K (rSortedI K) sortedF := fun H G vs ds Q Q3 s h hF k => by
  obtain ⟨ns, rfl, q⟩ := hF
  cases h with
  | cons h t =>
    cases t
    obtain ⟨a, vs, rfl, h1, t1⟩ := h
    rw [t1.ints] at h1
    refine ⟨a, ns, rfl, SqL.of h1, fun ns' p hp hs hn => ?_⟩
    rw [sortI_uniq hp hs]
    exact k.list s (atl_ints (sortI ns)) q p hn
end
section
variable {Q : R → En → Prop} {δ : En} {T U : DT} {TA : DTA} {n : En → Prop} {rt : R → En → Prop} {bk ct : En → Prop} {q : R → Prop} {N : En → Prop} {d : D}
theorem f_divmod {i j : Int} (h : CDiv i j) (k : q (.va (.tup [.int (i / j), .int (i % j)]))) : divmodF [.int i, .int j] q := ⟨h, k⟩
theorem f_sorted {ns : List Int} (k : q (.fr (.l ((sortI ns).map D.int)))) : sortedF [.lst (ns.map D.int)] q := ⟨ns, rfl, k⟩
end
end L3
namespace L3
open PySem PySem.Spec PyProof.Rows L2
def sadj (n : Net) (x y : Nat) (s : Int) : Prop := ∃ r ∈ n, r[x]? = some ((y : Int), s)
theorem adj_s {n : Net} {x y : Nat} : adj n x y ↔ ∃ s, sadj n x y s := ⟨fun ⟨r, hr, s, e⟩ => ⟨s, r, hr, e⟩, fun ⟨s, r, hr, e⟩ => ⟨r, hr, s, e⟩⟩
theorem sadj_adj {n : Net} {x y : Nat} {s : Int} (h : sadj n x y s) : adj n x y := adj_s.mpr ⟨s, h⟩
section
variable {many size : Nat} {n : Net}
theorem sadj_symm (h : GoodNet many size n) {x y : Nat} {s : Int} (a : sadj n x y s) : sadj n y x s := by
  obtain ⟨r, hr, e⟩ := a
  have hx : x < size := by rw [← (h.row r hr).len]; exact (List.getElem?_eq_some_iff.mp e).1
  obtain ⟨y', s', e1, hy, _, e2⟩ := (h.row r hr).ok x hx
  rw [e] at e1
  have q := Option.some.inj e1
  have q1 : (y : Int) = y' := congrArg Prod.fst q
  have q2 : s = s' := congrArg Prod.snd q
  have : y = y' := by omega
  subst this
  subst q2
  exact ⟨r, hr, e2⟩
theorem sadj_sign (h : GoodNet many size n) {x y : Nat} {s : Int} (a : sadj n x y s) : s = 1 ∨ s = -1 := by
  obtain ⟨r, hr, e⟩ := a
  have hx : x < size := by rw [← (h.row r hr).len]; exact (List.getElem?_eq_some_iff.mp e).1
  obtain ⟨y', s', e1, hy, hs, e2⟩ := (h.row r hr).ok x hx
  rw [e] at e1
  have q2 : s = s' := congrArg Prod.snd (Option.some.inj e1)
  rw [q2]
  exact hs
theorem reach_trans {x y z : Nat} (a : Reach n x y) (b : Reach n y z) : Reach n x z := fun K k c => b K (a K k c) c
theorem reach_one {x y : Nat} (a : adj n x y) : Reach n x y := fun K k c => c _ _ k a
theorem reach_symm (h : GoodNet many size n) {x y : Nat} (a : Reach n x y) : Reach n y x := a (fun z => Reach n z x) reach_refl fun p q k pq => reach_adj (adj_symm h pq) k
theorem reach_lt (h : GoodNet many size n) {x y : Nat} (a : Reach n x y) (hx : x < size) : y < size := a (fun z => z < size) hx fun p q _ pq => (adj_lt h pq).2
/-- a sign for each copy that is reached, as the steps say -/
def Pot (n : Net) (x : Nat) (f : Nat → Int) : Prop := f x = 1 ∧ ∀ p q s, Reach n x p → sadj n p q s → f q = f p * s
def Bal (n : Net) (x : Nat) : Prop := ∃ f, Pot n x f
theorem pot_one (h : GoodNet many size n) {x : Nat} {f : Nat → Int} (p : Pot n x f) {y : Nat} (a : Reach n x y) : f y = 1 ∨ f y = -1 := by
  have := a (fun z => Reach n x z ∧ (f z = 1 ∨ f z = -1)) ⟨reach_refl, .inl p.1⟩ fun u v k uv => by
    obtain ⟨s, hs⟩ := adj_s.mp uv
    refine ⟨reach_trans k.1 (reach_one uv), ?_⟩
    rw [p.2 u v s k.1 hs]
    rcases k.2 with e | e <;> rcases sadj_sign h hs with e' | e' <;> rw [e, e'] <;> decide
  exact this.2
theorem bal_on (h : GoodNet many size n) {x y : Nat} (b : Bal n x) (a : Reach n x y) : Bal n y := by
  obtain ⟨f, p⟩ := b
  have e := pot_one h p a
  refine ⟨fun z => f z * f y, ?_, fun u v s k uv => ?_⟩
  · show f y * f y = 1
    rcases e with e | e <;> rw [e] <;> decide
  · show f v * f y = f u * f y * s
    rw [p.2 u v s (reach_trans a k) uv, Int.mul_assoc, Int.mul_assoc, Int.mul_comm s]
def IsHead (n : Net) (z : Nat) : Prop := ∀ y, Reach n z y → z ≤ y
theorem head_of (h : GoodNet many size n) (x : Nat) : ∃ z, Reach n x z ∧ IsHead n z := by
  obtain ⟨m, h1, h2⟩ := least (P := fun z => Reach n x z) x reach_refl
  exact ⟨m, h1, fun y r => h2 y (reach_trans h1 r)⟩
theorem head_eq (h : GoodNet many size n) {x y : Nat} (hx : IsHead n x) (hy : IsHead n y) (r : Reach n x y) : x = y := Nat.le_antisymm (hx y r) (hy x (reach_symm h r))
open Classical in
noncomputable def heads (n : Net) (size : Nat) : List Nat := (List.range size).filter fun z => decide (IsHead n z)
open Classical in
noncomputable def kinN (n : Net) (size : Nat) : Nat := ((heads n size).filter fun z => decide (Bal n z)).length
open Classical in
noncomputable def comp (n : Net) (size x : Nat) : List Nat := (List.range size).filter fun y => decide (Reach n x y)
open Classical in
noncomputable def balB (n : Net) (x : Nat) : Bool := decide (Bal n x)
open Classical in
noncomputable def kins (n : Net) (size : Nat) : List Nat := (heads n size).filter fun z => decide (Bal n z)
theorem mem_kins {z : Nat} : z ∈ kins n size ↔ z < size ∧ IsHead n z ∧ Bal n z := by
  unfold kins heads
  simp only [List.mem_filter, List.mem_range, decide_eq_true_eq, and_assoc]
theorem kins_nodup : (kins n size).Nodup := by
  unfold kins heads
  exact (List.nodup_range.filter _).filter _
theorem kins_len : (kins n size).length = kinN n size := rfl
end
theorem map_nodup {α β : Type} {f : α → β} : ∀ {l : List α}, l.Nodup → (∀ a ∈ l, ∀ b ∈ l, f a = f b → a = b) → (l.map f).Nodup
  | [], _, _ => List.nodup_nil
  | a :: l, nd, h => by
    obtain ⟨n1, n2⟩ := List.nodup_cons.mp nd
    refine List.nodup_cons.mpr ⟨fun z => ?_, map_nodup n2 fun a ha b hb => h a (List.mem_cons_of_mem _ ha) b (List.mem_cons_of_mem _ hb)⟩
    obtain ⟨b, hb, e⟩ := List.mem_map.mp z
    have := h b (List.mem_cons_of_mem _ hb) a List.mem_cons_self e
    subst this
    exact n1 hb
/-- the moves of the one net are those of the other one under new numbers -/
structure Emb (size : Nat) (n n' : Net) (φ : Nat → Nat) : Prop where
  inj : ∀ x y, x < size → y < size → φ x = φ y → x = y
  fwd : ∀ x y s, x < size → sadj n x y s → sadj n' (φ x) (φ y) s
  bwd : ∀ x z s, x < size → sadj n' (φ x) z s → ∃ y, y < size ∧ z = φ y ∧ sadj n x y s
section
variable {many size many' size' : Nat} {n n' : Net} {φ : Nat → Nat}
theorem Emb.reach (e : Emb size n n' φ) (h : GoodNet many size n) {x y : Nat} (hx : x < size) (r : Reach n x y) : Reach n' (φ x) (φ y) := by
  have := r (fun z => z < size ∧ Reach n' (φ x) (φ z)) ⟨hx, reach_refl⟩ fun a b k ab => by
    obtain ⟨s, hs⟩ := adj_s.mp ab
    exact ⟨(adj_lt h ab).2, reach_trans k.2 (reach_one (sadj_adj (e.fwd a b s k.1 hs)))⟩
  exact this.2
theorem Emb.back (e : Emb size n n' φ) {x z : Nat} (hx : x < size) (r : Reach n' (φ x) z) : ∃ y, y < size ∧ z = φ y ∧ Reach n x y := 
  r (fun z => ∃ y, y < size ∧ z = φ y ∧ Reach n x y) ⟨x, hx, rfl, reach_refl⟩ fun a b ⟨y, hy, ey, k⟩ ab => by
    subst ey
    obtain ⟨s, hs⟩ := adj_s.mp ab
    obtain ⟨w, hw, ew, a2⟩ := e.bwd y b s hy hs
    exact ⟨w, hw, ew, reach_trans k (reach_one (sadj_adj a2))⟩
theorem Emb.back2 (e : Emb size n n' φ) {x y : Nat} (hx : x < size) (hy : y < size) (r : Reach n' (φ x) (φ y)) : Reach n x y := by
  obtain ⟨w, hw, ew, k⟩ := e.back hx r
  rw [e.inj y w hy hw ew]
  exact k
open Classical in
theorem Emb.bal (e : Emb size n n' φ) (h : GoodNet many size n) {x : Nat} (hx : x < size) : Bal n x ↔ Bal n' (φ x) := by
  constructor
  · rintro ⟨f, p1, p2⟩
    have val : ∀ y, y < size → (if q : ∃ u, u < size ∧ φ y = φ u then f q.choose else 1) = f y := fun y hy => by
      have q : ∃ u, u < size ∧ φ y = φ u := ⟨y, hy, rfl⟩
      rw [dif_pos q]
      exact congrArg f (e.inj y q.choose hy q.choose_spec.1 q.choose_spec.2).symm
    refine ⟨fun z => if q : ∃ u, u < size ∧ z = φ u then f q.choose else 1, (val x hx).trans p1, fun p q s r a => ?_⟩
    obtain ⟨y, hy, rfl, k⟩ := e.back hx r
    obtain ⟨w, hw, rfl, a2⟩ := e.bwd y q s hy a
    exact (val w hw).trans ((p2 y w s k a2).trans (congrArg (· * s) (val y hy).symm))
  · rintro ⟨f, p1, p2⟩
    refine ⟨fun z => f (φ z), p1, fun p q s r a => ?_⟩
    have hp : p < size := reach_lt h r hx
    exact p2 (φ p) (φ q) s (e.reach h hx r) (e.fwd p q s hp a)
theorem kin_le (h : GoodNet many size n) (h' : GoodNet many' size' n') (e : Emb size n n' φ) (lt : ∀ x, x < size → φ x < size') : kinN n size ≤ kinN n' size' := by
  rw [← kins_len, ← kins_len, ← List.length_map (f := fun z => (head_of h' (φ z)).choose)]
  refine nodup_sub_len (map_nodup kins_nodup fun a ha b hb q => ?_) fun z hz => ?_
  · obtain ⟨a1, a2, a3⟩ := mem_kins.mp ha
    obtain ⟨b1, b2, b3⟩ := mem_kins.mp hb
    have r1 := (head_of h' (φ a)).choose_spec.1
    have r2 := (head_of h' (φ b)).choose_spec.1
    rw [← q] at r2
    exact head_eq h a2 b2 (e.back2 a1 b1 (reach_trans r1 (reach_symm h' r2)))
  · obtain ⟨a, ha, rfl⟩ := List.mem_map.mp hz
    obtain ⟨a1, a2, a3⟩ := mem_kins.mp ha
    obtain ⟨r1, r2⟩ := (head_of h' (φ a)).choose_spec
    exact mem_kins.mpr ⟨reach_lt h' r1 (lt a a1), r2, bal_on h' ((e.bal h a1).mp a3) r1⟩
end
end L3
namespace L3
open PySem PySem.Spec PyProof.Rows L2
/-- the pair (y, x) has the number y * wide + x -/
def prodP (wide : Nat) (p q : Int × Int) : Int × Int := (q.1 * (wide : Int) + p.1, p.2 * q.2)
def prodR (wide : Nat) (r q : Row) : Row := (List.range (q.length * wide)).map fun p => prodP wide (r.getD (p % wide) (0, 1)) (q.getD (p / wide) (0, 1))
def prodN (wide : Nat) (a b : Net) : Net := (List.range a.length).map fun k => prodR wide (a.getD k []) (b.getD k [])
theorem div_lt {p a b : Nat} (h : p < a * b) : p / b < a := Nat.div_lt_of_lt_mul (by rw [Nat.mul_comm]; exact h)
theorem mod_lt' {p a b : Nat} (h : p < a * b) : p % b < b := Nat.mod_lt _ (by
  rcases Nat.eq_zero_or_pos b with e | e
  · rw [e, Nat.mul_zero] at h; omega
  · exact e)
theorem pair_lt {x y a b : Nat} (hx : x < b) (hy : y < a) : y * b + x < a * b := by
  have : (y + 1) * b ≤ a * b := Nat.mul_le_mul_right b hy
  rw [Nat.add_mul] at this
  omega
theorem pair_div {x y b : Nat} (hx : x < b) : (y * b + x) / b = y := by
  rw [Nat.mul_comm, Nat.mul_add_div (by omega), Nat.div_eq_of_lt hx, Nat.add_zero]
theorem pair_mod {x y b : Nat} (hx : x < b) : (y * b + x) % b = x := by
  rw [Nat.mul_comm, Nat.mul_add_mod, Nat.mod_eq_of_lt hx]
theorem pair_eq (p b : Nat) : p / b * b + p % b = p := by rw [Nat.mul_comm]; exact Nat.div_add_mod p b
section
variable {many s1 s2 : Nat} {a b : Net}
theorem prodR_len {wide : Nat} {r q : Row} : (prodR wide r q).length = q.length * wide := by simp [prodR]
theorem prodR_get {wide : Nat} {r q : Row} {p : Nat} {u v : Int × Int} (hp : p < q.length * wide) (h1 : r[p % wide]? = some u) (h2 : q[p / wide]? = some v) : (prodR wide r q)[p]? = some (prodP wide u v) := by
  unfold prodR
  rw [List.getElem?_map, List.getElem?_range hp, Option.map_some, List.getD_eq_getElem?_getD, List.getD_eq_getElem?_getD, h1, h2]
  rfl
theorem good_prodR {r q : Row} (g : GoodRow s1 r) (g' : GoodRow s2 q) : GoodRow (s2 * s1) (prodR s1 r q) where
  len := by rw [prodR_len, g'.len]
  ok := fun p hp => by
    have hx := mod_lt' hp
    have hy := div_lt hp
    obtain ⟨z, s, e1, hz, hs, e2⟩ := g.ok _ hx
    obtain ⟨w, t, e3, hw, ht, e4⟩ := g'.ok _ hy
    have lq := g'.len
    refine ⟨w * s1 + z, s * t, ?_, pair_lt hz hw, ?_, ?_⟩
    · rw [prodR_get (by rw [lq]; exact hp) e1 e3]
      unfold prodP
      simp
    · rcases hs with rfl | rfl <;> rcases ht with rfl | rfl <;> decide
    · have h1 := pair_mod (y := w) hz
      have h2 := pair_div (y := w) hz
      rw [prodR_get (p := w * s1 + z) (by rw [lq]; exact pair_lt hz hw) (by rw [h1]; exact e2) (by rw [h2]; exact e4)]
      unfold prodP
      have := pair_eq p s1
      have e5 : ((p / s1 : Nat) : Int) * (s1 : Int) + ((p % s1 : Nat) : Int) = (p : Int) := by exact_mod_cast this
      simp only [e5]
theorem prodN_get {wide : Nat} {k : Nat} {r q : Row} (h1 : a[k]? = some r) (h2 : b[k]? = some q) : (prodN wide a b)[k]? = some (prodR wide r q) := by
  unfold prodN
  rw [List.getElem?_map, List.getElem?_range (List.getElem?_eq_some_iff.mp h1).1, Option.map_some, List.getD_eq_getElem?_getD, List.getD_eq_getElem?_getD, h1, h2]
  rfl
theorem good_prodN (g : GoodNet many s1 a) (g' : GoodNet many s2 b) (hs : s2 * s1 ≤ 1000) : GoodNet many (s2 * s1) (prodN s1 a b) :=
  ⟨by simp [prodN, g.len], g.m0, g.m1, Nat.mul_pos g'.s0 g.s0, hs, fun r hr => by
    obtain ⟨k, e⟩ := List.mem_iff_getElem?.mp hr
    have hk' : k < many := by
      have := (List.getElem?_eq_some_iff.mp e).1
      simp [prodN, g.len] at this
      exact this
    obtain ⟨q1, e1, g1⟩ := g.get hk'
    obtain ⟨q2, e2, g2⟩ := g'.get hk'
    rw [prodN_get e1 e2] at e
    cases e
    exact good_prodR g1 g2⟩
theorem sadj_k {n : Net} {x y : Nat} {s : Int} : sadj n x y s ↔ ∃ (k : Nat) (r : Row), n[k]? = some r ∧ r[x]? = some ((y : Int), s) := ⟨fun ⟨r, hr, e⟩ => by
    obtain ⟨k, h⟩ := List.mem_iff_getElem?.mp hr
    exact ⟨k, r, h, e⟩, fun ⟨k, r, h, e⟩ => ⟨r, List.mem_of_getElem? h, e⟩⟩
/-- the steps of a product -/
theorem sadj_prod (g : GoodNet many s1 a) (g' : GoodNet many s2 b) {p q : Nat} {s : Int} (hp : p < s2 * s1) : sadj (prodN s1 a b) p q s ↔
    ∃ (k : Nat) (r1 r2 : Row) (z w : Nat) (s' t : Int), a[k]? = some r1 ∧ b[k]? = some r2 ∧ r1[p % s1]? = some ((z : Int), s') ∧ r2[p / s1]? = some ((w : Int), t) ∧ z < s1 ∧ w < s2 ∧ q = w * s1 + z ∧ s = s' * t := by
  rw [sadj_k]
  constructor
  · rintro ⟨k, r, h, e⟩
    have hk : k < many := by
      have := (List.getElem?_eq_some_iff.mp h).1
      simp [prodN, g.len] at this
      exact this
    obtain ⟨q1, e1, g1⟩ := g.get hk
    obtain ⟨q2, e2, g2⟩ := g'.get hk
    rw [prodN_get e1 e2] at h
    cases h
    obtain ⟨z, s', h1, hz, _, _⟩ := g1.ok _ (mod_lt' hp)
    obtain ⟨w, t, h2, hw, _, _⟩ := g2.ok _ (div_lt hp)
    rw [prodR_get (by rw [g2.len]; exact hp) h1 h2] at e
    have e' := Option.some.inj e
    have ea : (w : Int) * (s1 : Int) + (z : Int) = (q : Int) := congrArg Prod.fst e'
    have eb : s' * t = s := congrArg Prod.snd e'
    exact ⟨k, q1, q2, z, w, s', t, e1, e2, h1, h2, hz, hw, by exact_mod_cast ea.symm, eb.symm⟩
  · rintro ⟨k, r1, r2, z, w, s', t, e1, e2, h1, h2, hz, hw, rfl, rfl⟩
    have g2 := g'.row _ (List.mem_of_getElem? e2)
    refine ⟨k, prodR s1 r1 r2, prodN_get e1 e2, ?_⟩
    rw [prodR_get (by rw [g2.len]; exact hp) h1 h2]
    unfold prodP
    simp
/-- both orders -/
theorem emb_swap (g : GoodNet many s1 a) (g' : GoodNet many s2 b) : Emb (s2 * s1) (prodN s1 a b) (prodN s2 b a) (fun p => p % s1 * s2 + p / s1) where
  inj := fun x y hx hy e => by
    have e' : x % s1 * s2 + x / s1 = y % s1 * s2 + y / s1 := e
    have h1 := pair_div (y := x % s1) (div_lt hx)
    have h2 := pair_div (y := y % s1) (div_lt hy)
    have h3 := pair_mod (y := x % s1) (div_lt hx)
    have h4 := pair_mod (y := y % s1) (div_lt hy)
    rw [e'] at h1 h3
    have a1 : x % s1 = y % s1 := h1.symm.trans h2
    have a2 : x / s1 = y / s1 := h3.symm.trans h4
    rw [← pair_eq x s1, ← pair_eq y s1, a1, a2]
  fwd := fun x y s hx h => by
    obtain ⟨k, r1, r2, z, w, s', t, e1, e2, h1, h2, hz, hw, rfl, rfl⟩ := (sadj_prod g g' hx).mp h
    refine (sadj_prod g' g (pair_lt (div_lt hx) (mod_lt' hx))).mpr ⟨k, r2, r1, w, z, t, s', e2, e1, ?_, ?_, hw, hz, ?_, Int.mul_comm _ _⟩
    · rw [pair_mod (div_lt hx)]
      exact h2
    · rw [pair_div (div_lt hx)]
      exact h1
    · show (w * s1 + z) % s1 * s2 + (w * s1 + z) / s1 = z * s2 + w
      rw [pair_mod hz, pair_div hz]
  bwd := fun x q s hx h => by
    obtain ⟨k, r1, r2, z, w, s', t, e1, e2, h1, h2, hz, hw, rfl, rfl⟩ := (sadj_prod g' g (pair_lt (div_lt hx) (mod_lt' hx))).mp h
    rw [pair_mod (div_lt hx)] at h1
    rw [pair_div (div_lt hx)] at h2
    refine ⟨z * s1 + w, pair_lt hw hz, ?_, (sadj_prod g g' hx).mpr ⟨k, r2, r1, w, z, t, s', e2, e1, h2, h1, hw, hz, rfl, Int.mul_comm _ _⟩⟩
    show w * s2 + z = (z * s1 + w) % s1 * s2 + (z * s1 + w) / s1
    rw [pair_mod hw, pair_div hw]
theorem kin_comm (g : GoodNet many s1 a) (g' : GoodNet many s2 b) (hs : s2 * s1 ≤ 1000) : kinN (prodN s1 a b) (s2 * s1) = kinN (prodN s2 b a) (s1 * s2) := by
  have h1 := good_prodN g g' hs
  have h2 := good_prodN g' g (by rw [Nat.mul_comm]; exact hs)
  exact Nat.le_antisymm (kin_le h1 h2 (emb_swap g g') fun x hx => pair_lt (div_lt hx) (mod_lt' hx)) (kin_le h2 h1 (emb_swap g' g) fun x hx => pair_lt (div_lt hx) (mod_lt' hx))
def shiftR (by_ : Nat) (r : Row) : Row := r.map fun p => (p.1 + (by_ : Int), p.2)
variable {s3 : Nat} {c : Net}
theorem shiftR_get {by_ x : Nat} {q : Row} {y s : Int} (h : q[x]? = some (y, s)) : (shiftR by_ q)[x]? = some (y + (by_ : Int), s) := by
  unfold shiftR
  rw [List.getElem?_map, h]
  rfl
/-- an embedding carries over to products on the right -/
theorem emb_prod {s4 : Nat} {d : Net} {φ : Nat → Nat} (g : GoodNet many s1 a) (gd : GoodNet many s4 d) (gb : GoodNet many s2 b) (hk : ∀ (k : Nat) r r', a[k]? = some r → d[k]? = some r' → ∀ x, x < s1 → ∀ (y : Nat) s, r[x]? = some ((y : Int), s) → r'[φ x]? = some ((φ y : Int), s)) (lt : ∀ x, x < s1 → φ x < s4) (inj : ∀ x y, x < s1 → y < s1 → φ x = φ y → x = y) :
    Emb (s2 * s1) (prodN s1 a b) (prodN s4 d b) (fun p => p / s1 * s4 + φ (p % s1)) where
  inj := fun x y hx hy e => by
    have e' : x / s1 * s4 + φ (x % s1) = y / s1 * s4 + φ (y % s1) := e
    have lx := lt _ (mod_lt' hx)
    have ly := lt _ (mod_lt' hy)
    have h1 := pair_div (y := x / s1) lx
    have h2 := pair_div (y := y / s1) ly
    have h3 := pair_mod (y := x / s1) lx
    have h4 := pair_mod (y := y / s1) ly
    rw [e'] at h1 h3
    have a1 : x / s1 = y / s1 := h1.symm.trans h2
    have a2 : x % s1 = y % s1 := inj _ _ (mod_lt' hx) (mod_lt' hy) (h3.symm.trans h4)
    rw [← pair_eq x s1, ← pair_eq y s1, a1, a2]
  fwd := fun x y s hx h => by
    obtain ⟨k, r1, r2, z, w, s', t, e1, e2, h1, h2, hz, hw, rfl, rfl⟩ := (sadj_prod g gb hx).mp h
    have hkm : k < many := by rw [← g.len]; exact (List.getElem?_eq_some_iff.mp e1).1
    obtain ⟨r', e3, g3⟩ := gd.get hkm
    have lx := lt _ (mod_lt' hx)
    refine (sadj_prod gd gb (pair_lt lx (div_lt hx))).mpr ⟨k, r', r2, φ z, w, s', t, e3, e2, ?_, ?_, lt z hz, hw, ?_, rfl⟩
    · rw [pair_mod lx]
      exact hk k r1 r' e1 e3 _ (mod_lt' hx) z s' h1
    · rw [pair_div lx]
      exact h2
    · show (w * s1 + z) / s1 * s4 + φ ((w * s1 + z) % s1) = w * s4 + φ z
      rw [pair_mod hz, pair_div hz]
  bwd := fun x q s hx h => by
    have lx := lt _ (mod_lt' hx)
    obtain ⟨k, r', r2, z, w, s', t, e3, e2, h1, h2, hz, hw, rfl, rfl⟩ := (sadj_prod gd gb (pair_lt lx (div_lt hx))).mp h
    rw [pair_mod lx] at h1
    rw [pair_div lx] at h2
    have hkm : k < many := by rw [← gd.len]; exact (List.getElem?_eq_some_iff.mp e3).1
    obtain ⟨r1, e1, g1⟩ := g.get hkm
    obtain ⟨y, s'', e4, hy, _, _⟩ := g1.ok _ (mod_lt' hx)
    have := hk k r1 r' e1 e3 _ (mod_lt' hx) y s'' e4
    rw [h1] at this
    have q := Option.some.inj this
    have ea : (z : Int) = φ y := congrArg Prod.fst q
    have eb : s' = s'' := congrArg Prod.snd q
    have ez : z = φ y := by omega
    subst ez
    subst eb
    refine ⟨w * s1 + y, pair_lt hy hw, ?_, (sadj_prod g gb hx).mpr ⟨k, r1, r2, y, w, s', t, e1, e2, e4, h2, hy, hw, rfl, rfl⟩⟩
    show w * s4 + φ y = (w * s1 + y) / s1 * s4 + φ ((w * s1 + y) % s1)
    rw [pair_mod hy, pair_div hy]
end
end L3
namespace L3
open PySem PySem.Spec PyProof.Rows L2
def updI (f : Nat → Int) (x : Nat) (v : Int) : Nat → Int := fun y => if y = x then v else f y
theorem updI_at {f : Nat → Int} {x : Nat} {v : Int} : updI f x v x = v := by unfold updI; rw [if_pos rfl]
theorem updI_ne {f : Nat → Int} {x y : Nat} {v : Int} (h : y ≠ x) : updI f x v y = f y := by unfold updI; rw [if_neg h]
def sgI (size : Nat) (f : Nat → Int) : List Int := (List.range size).map f
theorem sgI_len {size : Nat} {f : Nat → Int} : (sgI size f).length = size := by simp [sgI]
theorem sgI_get {size : Nat} {f : Nat → Int} {x : Nat} (h : x < size) : (sgI size f)[x]? = some (f x) := by
  unfold sgI
  rw [List.getElem?_map, List.getElem?_range h]
  rfl
theorem sgI_at {size : Nat} {f : Nat → Int} {x : Nat} (h : x < size) : L2.atI ((sgI size f).map D.int) (x : Int) = some (.int (f x)) := map_at (by omega) (sgI_get h)
theorem sgI_set {size : Nat} {f : Nat → Int} {x : Nat} {v : Int} : ((sgI size f).map D.int).set x (.int v) = (sgI size (updI f x v)).map D.int := by
  rw [show D.int v = D.int v from rfl, map_set (f := D.int) (x := v)]
  congr 1
  unfold sgI
  refine List.ext_getElem? fun i => ?_
  rw [List.getElem?_set, List.getElem?_map, List.getElem?_map, List.length_map, List.length_range]
  by_cases hi : i < size
  · rw [List.getElem?_range hi]
    by_cases e : x = i
    · subst e
      simp [hi, updI]
    · simp [e, updI, Ne.symm e]
  · rw [List.getElem?_eq_none (by simpa using hi)]
    by_cases e : x = i
    · subst e
      simp [hi]
    · simp [e]
/-- on the way through the round of low: the pairs before at_ are done, at at_ the sides before k -/
structure Rnd (n : Net) (size low : Nat) (S0 : Nat → Int) (at_ k : Nat) (met : List Nat) (sg : Nat → Int) (truth : Bool) : Prop where
  nd : met.Nodup
  hd : low ∈ met
  one : sg low = 1
  mem : ∀ q ∈ met, q < size ∧ Reach n low q ∧ (sg q = 1 ∨ sg q = -1)
  off : ∀ q, q ∉ met → sg q = S0 q
  done : ∀ (i j p : Nat) r (q : Nat) t, (i < at_ ∨ (i = at_ ∧ j < k)) → met[i]? = some p → n[j]? = some r → r[p]? = some ((q : Int), t) → q ∈ met ∧ (truth = true → sg q = sg p * t)
  bad : truth = false → ¬ Bal n low
  pot : ∀ f, Pot n low f → ∀ q ∈ met, sg q = f q
section
variable {many size low : Nat} {n : Net} {S0 : Nat → Int}
theorem Rnd.start (hl : low < size) : Rnd n size low S0 0 0 [low] (updI S0 low 1) true where
  nd := by simp
  hd := by simp
  one := updI_at
  mem := fun q hq => by
    simp at hq
    subst hq
    exact ⟨hl, reach_refl, .inl updI_at⟩
  off := fun q hq => updI_ne (by simpa using hq)
  done := fun i j p r q t h => by omega
  bad := fun h => by cases h
  pot := fun f hf q hq => by
    simp at hq
    subst hq
    rw [updI_at]
    exact hf.1.symm
variable {at_ k : Nat} {met : List Nat} {sg : Nat → Int} {truth : Bool}
theorem Rnd.size_ (x : Rnd n size low S0 at_ k met sg truth) : met.length ≤ size := by
  have := nodup_sub_len (m := List.range size) x.nd fun q hq => List.mem_range.mpr (x.mem q hq).1
  rwa [List.length_range] at this
/-- a copy that is met for the first time -/
theorem Rnd.new (g : GoodNet many size n) (x : Rnd n size low S0 at_ k met sg truth) {p q : Nat} {r : Row} {t : Int} (hp : met[at_]? = some p) (hr : n[k]? = some r) (e : r[p]? = some ((q : Int), t)) (z : sg q = 0) : Rnd n size low S0 at_ (k + 1) (met ++ [q]) (updI sg q (sg p * t)) truth := by
  have pm := List.mem_of_getElem? hp
  obtain ⟨p1, p2, p3⟩ := x.mem p pm
  have a : sadj n p q t := sadj_k.mpr ⟨k, r, hr, e⟩
  have qn : q ∉ met := fun h => by
    rcases (x.mem q h).2.2 with e | e <;> rw [e] at z <;> cases z
  have ne : ∀ y ∈ met, y ≠ q := fun y hy e => qn (by rw [← e]; exact hy)
  have la := (List.getElem?_eq_some_iff.mp hp).1
  refine ⟨?_, List.mem_append_left _ x.hd, ?_, fun y hy => ?_, fun y hy => ?_, fun i j p' r' q' t' h h1 h2 h3 => ?_, x.bad, fun f hf y hy => ?_⟩
  · exact List.nodup_append.mpr ⟨x.nd, by simp, fun c hc b hb => by simp at hb; rw [hb]; exact ne c hc⟩
  · rw [updI_ne (ne low x.hd)]
    exact x.one
  · rcases List.mem_append.mp hy with hy | hy
    · rw [updI_ne (ne y hy)]
      exact x.mem y hy
    · simp at hy
      subst hy
      refine ⟨(adj_lt g (sadj_adj a)).2, reach_trans p2 (reach_one (sadj_adj a)), ?_⟩
      rw [updI_at]
      rcases p3 with e | e <;> rcases sadj_sign g a with e' | e' <;> rw [e, e'] <;> decide
  · have hy1 : y ∉ met := fun h => hy (List.mem_append_left _ h)
    have hy2 : y ≠ q := fun h => hy (by rw [h]; simp)
    rw [updI_ne hy2]
    exact x.off y hy1
  · have hi : i < met.length := by omega
    rw [List.getElem?_append_left hi] at h1
    have pm' := List.mem_of_getElem? h1
    by_cases w : i < at_ ∨ (i = at_ ∧ j < k)
    · obtain ⟨m1, m2⟩ := x.done i j p' r' q' t' w h1 h2 h3
      refine ⟨List.mem_append_left _ m1, fun ht => ?_⟩
      rw [updI_ne (ne q' m1), updI_ne (ne p' pm')]
      exact m2 ht
    · have hia : i = at_ := by omega
      have hjk : j = k := by omega
      subst hia
      subst hjk
      rw [hp] at h1
      cases h1
      rw [hr] at h2
      cases h2
      rw [e] at h3
      have h3 := Option.some.inj h3
      have e1 : (q : Int) = q' := congrArg Prod.fst h3
      have e2 : t = t' := congrArg Prod.snd h3
      have e1 : q = q' := by omega
      subst e1
      subst e2
      refine ⟨by simp, fun _ => ?_⟩
      rw [updI_at, updI_ne (ne p pm)]
  · rcases List.mem_append.mp hy with hy | hy
    · rw [updI_ne (ne y hy)]
      exact x.pot f hf y hy
    · simp at hy
      subst hy
      rw [updI_at, x.pot f hf p pm]
      exact (hf.2 p y t p2 a).symm
theorem Rnd.inMet (x : Rnd n size low S0 at_ k met sg truth) (hS : ∀ q, Reach n low q → S0 q = 0) {p q : Nat} {t : Int} (pm : p ∈ met) (a : sadj n p q t) (z : sg q ≠ 0) : q ∈ met := by
  refine Decidable.byContradiction fun h => z ?_
  rw [x.off q h]
  exact hS q (reach_trans (x.mem p pm).2.1 (reach_one (sadj_adj a)))
theorem Rnd.old (x : Rnd n size low S0 at_ k met sg truth) (hS : ∀ q, Reach n low q → S0 q = 0) {p q : Nat} {r : Row} {t : Int} (hp : met[at_]? = some p) (hr : n[k]? = some r) (e : r[p]? = some ((q : Int), t)) (z : sg q ≠ 0) :
    Rnd n size low S0 at_ (k + 1) met sg (truth && decide (sg q = sg p * t)) := by
  have pm := List.mem_of_getElem? hp
  have a : sadj n p q t := sadj_k.mpr ⟨k, r, hr, e⟩
  have qm := x.inMet hS pm a z
  refine ⟨x.nd, x.hd, x.one, x.mem, x.off, fun i j p' r' q' t' h h1 h2 h3 => ?_, fun hf => ?_, x.pot⟩
  · by_cases w : i < at_ ∨ (i = at_ ∧ j < k)
    · obtain ⟨m1, m2⟩ := x.done i j p' r' q' t' w h1 h2 h3
      exact ⟨m1, fun ht => m2 (Bool.and_eq_true_iff.mp ht).1⟩
    · have hia : i = at_ := by omega
      have hjk : j = k := by omega
      subst hia
      subst hjk
      rw [hp] at h1
      cases h1
      rw [hr] at h2
      cases h2
      rw [e] at h3
      have h3 := Option.some.inj h3
      have e1 : (q : Int) = q' := congrArg Prod.fst h3
      have e2 : t = t' := congrArg Prod.snd h3
      have e1 : q = q' := by omega
      subst e1
      subst e2
      exact ⟨qm, fun ht => of_decide_eq_true (Bool.and_eq_true_iff.mp ht).2⟩
  · rcases Bool.and_eq_false_iff.mp hf with h | h
    · exact x.bad h
    · rintro ⟨f, pf⟩
      refine of_decide_eq_false h ?_
      rw [x.pot f pf q qm, x.pot f pf p pm]
      exact pf.2 p q t (x.mem p pm).2.1 a
theorem Rnd.turn (x : Rnd n size low S0 at_ n.length met sg truth) : Rnd n size low S0 (at_ + 1) 0 met sg truth :=
  ⟨x.nd, x.hd, x.one, x.mem, x.off, fun i j p r q t h h1 h2 h3 => x.done i j p r q t (by
    have := (List.getElem?_eq_some_iff.mp h2).1
    omega) h1 h2 h3, x.bad, x.pot⟩
/-- behind a round -/
structure RndEnd (n : Net) (size low : Nat) (S0 : Nat → Int) (met : List Nat) (sg : Nat → Int) (truth : Bool) : Prop where
  nd : met.Nodup
  mem : ∀ q, q ∈ met ↔ Reach n low q
  lt : ∀ q ∈ met, q < size
  off : ∀ q, ¬ Reach n low q → sg q = S0 q
  one : ∀ q, Reach n low q → sg q = 1 ∨ sg q = -1
  tr : truth = balB n low
  pot : Bal n low → Pot n low sg
theorem Rnd.fin (x : Rnd n size low S0 at_ 0 met sg truth) (h : met.length ≤ at_) : RndEnd n size low S0 met sg truth := by
  have cl : ∀ p q t, p ∈ met → sadj n p q t → q ∈ met ∧ (truth = true → sg q = sg p * t) := fun p q t pm a => by
    obtain ⟨j, r, h1, h2⟩ := sadj_k.mp a
    obtain ⟨i, hi⟩ := List.mem_iff_getElem?.mp pm
    have := (List.getElem?_eq_some_iff.mp hi).1
    exact x.done i j p r q t (.inl (by omega)) hi h1 h2
  have mm : ∀ q, q ∈ met ↔ Reach n low q := fun q => ⟨fun hq => (x.mem q hq).2.1, fun r => r (fun z => z ∈ met) x.hd fun a b k ab => by
    obtain ⟨s, hs⟩ := adj_s.mp ab
    exact (cl a b s k hs).1⟩
  have po : truth = true → Pot n low sg := fun ht => ⟨x.one, fun p q s r a => (cl p q s ((mm p).mpr r) a).2 ht⟩
  refine ⟨x.nd, mm, fun q hq => (x.mem q hq).1, fun q hq => x.off q fun z => hq ((mm q).mp z), fun q hq => (x.mem q ((mm q).mpr hq)).2.2, ?_, fun b => ?_⟩
  · unfold balB
    cases ht : truth with
    | true => exact (@decide_eq_true _ (Classical.propDecidable _) ⟨sg, po ht⟩).symm
    | false => exact (@decide_eq_false _ (Classical.propDecidable _) (x.bad ht)).symm
  · cases ht : truth with
    | true => exact po ht
    | false => exact absurd b (x.bad ht)
theorem comp_sorted (h : ∀ q, q ∈ met ↔ Reach n low q) (nd : met.Nodup) (lt : ∀ q ∈ met, q < size) : sortI (met.map fun q : Nat => (q : Int)) = (comp n size low).map fun q : Nat => (q : Int) := by
  have nc : (comp n size low).Nodup := List.nodup_range.filter _
  have p : (comp n size low).Perm met := (List.perm_ext_iff_of_nodup nc nd).mpr fun q => by
    unfold comp
    simp only [List.mem_filter, List.mem_range, decide_eq_true_eq]
    exact ⟨fun z => (h q).mpr z.2, fun z => ⟨lt q z, (h q).mp z⟩⟩
  refine (sortI_uniq (p.map _) ?_).symm
  refine List.pairwise_map.mpr ?_
  have : (comp n size low).Pairwise (· < ·) := List.Pairwise.filter _ List.pairwise_lt_range
  exact this.imp fun {a b} h => by omega
theorem RndEnd.sorted {met : List Nat} {sg : Nat → Int} {truth : Bool} (x : RndEnd n size low S0 met sg truth) : sortI (met.map fun q : Nat => (q : Int)) = (comp n size low).map fun q : Nat => (q : Int) := comp_sorted x.mem x.nd x.lt
structure Crs (n : Net) (size low : Nat) (sg : Nat → Int) : Prop where
  zero : ∀ q, q < size → (sg q ≠ 0 ↔ ∃ z, z < low ∧ Reach n z q)
  one : ∀ q, q < size → sg q = 0 ∨ sg q = 1 ∨ sg q = -1
  pot : ∀ z, z < low → IsHead n z → Bal n z → Pot n z sg
theorem Crs.start : Crs n size 0 fun _ => 0 := ⟨fun q _ => ⟨fun h => absurd rfl h, fun ⟨z, h, _⟩ => by omega⟩, fun _ _ => .inl rfl, fun z h => by omega⟩
theorem Crs.head (g : GoodNet many size n) {sg : Nat → Int} (x : Crs n size low sg) (hl : low < size) : sg low = 0 ↔ IsHead n low := by
  constructor
  · intro h y r
    refine Decidable.byContradiction fun hn => ?_
    exact (x.zero low hl).mpr ⟨y, by omega, reach_symm g r⟩ h
  · intro h
    refine Decidable.byContradiction fun hn => ?_
    obtain ⟨z, hz, r⟩ := (x.zero low hl).mp hn
    have := h z (reach_symm g r)
    omega
theorem Crs.fresh (g : GoodNet many size n) {sg : Nat → Int} (x : Crs n size low sg) (hl : low < size) (h : sg low = 0) : ∀ q, Reach n low q → sg q = 0 := fun q r => by
  refine Decidable.byContradiction fun hn => ?_
  obtain ⟨z, hz, r2⟩ := (x.zero q (reach_lt g r hl)).mp hn
  exact (x.zero low hl).mpr ⟨z, hz, reach_trans r2 (reach_symm g r)⟩ h
theorem pot_congr {z : Nat} {f f' : Nat → Int} (p : Pot n z f) (h : ∀ q, Reach n z q → f' q = f q) : Pot n z f' :=
  ⟨(h z reach_refl).trans p.1, fun a b s r ab => by rw [h b (reach_trans r (reach_one (sadj_adj ab))), h a r]; exact p.2 a b s r ab⟩
theorem Crs.round (g : GoodNet many size n) {sg sg' : Nat → Int} {met : List Nat} {truth : Bool} (x : Crs n size low sg) (hl : low < size) (h : sg low = 0) (e : RndEnd n size low sg met sg' truth) : Crs n size (low + 1) sg' where
  zero := fun q hq => by
    by_cases r : Reach n low q
    · refine ⟨fun _ => ⟨low, by omega, r⟩, fun _ => ?_⟩
      rcases e.one q r with e | e <;> rw [e] <;> decide
    · rw [e.off q r, x.zero q hq]
      refine ⟨fun ⟨z, hz, r2⟩ => ⟨z, by omega, r2⟩, fun ⟨z, hz, r2⟩ => ⟨z, ?_, r2⟩⟩
      have : z ≠ low := fun e => r (by rw [← e]; exact r2)
      omega
  one := fun q hq => by
    by_cases r : Reach n low q
    · exact .inr (e.one q r)
    · rw [e.off q r]
      exact x.one q hq
  pot := fun z hz hh b => by
    by_cases w : z = low
    · subst w
      exact e.pot b
    · refine pot_congr (x.pot z (by omega) hh b) fun q r => e.off q fun r2 => ?_
      exact w (head_eq g hh ((x.head g hl).mp h) (reach_trans r (reach_symm g r2)))
theorem Crs.skip (g : GoodNet many size n) {sg : Nat → Int} (x : Crs n size low sg) (hl : low < size) (h : sg low ≠ 0) : Crs n size (low + 1) sg where
  zero := fun q hq => by
    rw [x.zero q hq]
    obtain ⟨z0, hz0, r0⟩ := (x.zero low hl).mp h
    refine ⟨fun ⟨z, hz, r⟩ => ⟨z, by omega, r⟩, fun ⟨z, hz, r⟩ => ?_⟩
    by_cases w : z = low
    · subst w
      exact ⟨z0, hz0, reach_trans r0 r⟩
    · exact ⟨z, by omega, r⟩
  one := x.one
  pot := fun z hz hh b => by
    by_cases w : z = low
    · subst w
      exact absurd ((x.head g hl).mpr hh) h
    · exact x.pot z (by omega) hh b
theorem heads_yes {low : Nat} (h : IsHead n low) : heads n (low + 1) = heads n low ++ [low] := by
  unfold heads
  rw [List.range_succ, List.filter_append]
  simp [h]
theorem heads_no {low : Nat} (h : ¬ IsHead n low) : heads n (low + 1) = heads n low := by
  unfold heads
  rw [List.range_succ, List.filter_append]
  simp [h]
end
def natsD (l : List Nat) : List D := l.map fun q : Nat => D.int (q : Int)
theorem natsD_eq (l : List Nat) : natsD l = (l.map fun q : Nat => (q : Int)).map D.int := by unfold natsD; rw [List.map_map]; rfl
theorem natsD_len {l : List Nat} : (natsD l).length = l.length := by simp [natsD]
theorem natsD_snoc {l : List Nat} {q : Nat} : natsD l ++ [.int (q : Int)] = natsD (l ++ [q]) := by simp [natsD]
noncomputable def roundD (n : Net) (size z : Nat) : D := .tup [.bl (balB n z), .lst (natsD (comp n size z))]
theorem heads_take {n : Net} {size j z : Nat} (e : (heads n size)[j]? = some z) : (heads n size).take (j + 1) = (heads n size).take j ++ [z] := by
  rw [List.take_add_one, e]
  rfl
theorem heads_len {n : Net} {size : Nat} : (heads n size).length ≤ size := Nat.le_trans (List.length_filter_le _ _) (by simp)
theorem pu_sides {ls : List Str} (h : GoodSides ls) : Pu 1 (strsT ls) := Pu.mapT fun x hx => .str x (h.ok x hx).sok
end L3
namespace L3
open PySem PySem.Spec PyProof.Rows L2
/-- f is the least copy that is reached -/
structure Low (n : Net) (f : Nat → Nat) : Prop where
  re : ∀ x, Reach n x (f x)
  min : ∀ x y, Reach n x y → f x ≤ y
section
variable {many size : Nat} {n : Net} {f : Nat → Nat}
theorem Low.le (w : Low n f) (x : Nat) : f x ≤ x := w.min x x reach_refl
theorem Low.same (h : GoodNet many size n) (w : Low n f) {x y : Nat} (r : Reach n x y) : f x = f y := by
  have h1 := w.min x (f y) (reach_trans r (w.re y))
  have h2 := w.min y (f x) (reach_trans (reach_symm h r) (w.re x))
  omega
theorem Low.idem (h : GoodNet many size n) (w : Low n f) (x : Nat) : f (f x) = f x := (w.same h (w.re x)).symm
theorem Low.iff (h : GoodNet many size n) (w : Low n f) {x y : Nat} : Reach n x y ↔ f x = f y := ⟨w.same h, fun e => reach_trans (w.re x) (by rw [e]; exact reach_symm h (w.re y))⟩
theorem Low.adj (h : GoodNet many size n) (w : Low n f) {x y : Nat} (a : adj n x y) : f x = f y := w.same h (reach_one a)
end
def partL (size : Nat) (f : Nat → Nat) (z : Nat) : List Nat := (List.range size).filter fun x => f x == z
def headL (size : Nat) (f : Nat → Nat) : List Nat := (List.range size).filter fun z => f z == z
theorem mem_partL {size : Nat} {f : Nat → Nat} {z x : Nat} : x ∈ partL size f z ↔ x < size ∧ f x = z := by simp [partL]
theorem mem_headL {size : Nat} {f : Nat → Nat} {z : Nat} : z ∈ headL size f ↔ z < size ∧ f z = z := by simp [headL]
theorem partL_nodup {size : Nat} {f : Nat → Nat} {z : Nat} : (partL size f z).Nodup := List.Pairwise.filter _ List.nodup_range
theorem headL_nodup {size : Nat} {f : Nat → Nat} : (headL size f).Nodup := List.Pairwise.filter _ List.nodup_range
theorem filter_one {a : Nat} : ∀ {l : List Nat}, l.Nodup → a ∈ l → l.filter (fun z => a == z) = [a]
  | [], _, h => by cases h
  | b :: l, nd, h => by
    obtain ⟨n1, n2⟩ := List.nodup_cons.mp nd
    by_cases e : a = b
    · subst e
      rw [List.filter_cons_of_pos (by simp)]
      congr 1
      rw [List.filter_eq_nil_iff]
      intro c hc z
      have : a = c := by simpa using z
      exact n1 (by rw [this]; exact hc)
    · rw [List.filter_cons_of_neg (by simpa using e)]
      exact filter_one n2 ((List.mem_cons.mp h).resolve_left e)
theorem Low.mem {many size : Nat} {n : Net} {f : Nat → Nat} (w : Low n f) (g : GoodNet many size n) {x : Nat} (hx : x < size) : f x ∈ headL size f := mem_headL.mpr ⟨Nat.lt_of_le_of_lt (w.le x) hx, w.idem g x⟩
theorem Low.one {many size : Nat} {n : Net} {f : Nat → Nat} (w : Low n f) (g : GoodNet many size n) {x : Nat} (hx : x < size) : (headL size f).filter (fun z => decide (x ∈ partL size f z)) = [f x] := by
  rw [← filter_one headL_nodup (w.mem g hx)]
  refine List.filter_congr fun z _ => ?_
  rw [Bool.eq_iff_iff, decide_eq_true_eq, mem_partL, beq_iff_eq]
  exact ⟨fun h => h.2, fun h => ⟨hx, h⟩⟩
def stp (n : Net) (k x : Nat) : Nat × Int := let p := (n.getD k []).getD x (0, 1); (p.1.toNat, p.2)
def ledN (n : Net) : List Nat → Nat × Int → Nat × Int
  | [], p => p
  | k :: w, p => ledN n w ((stp n k p.1).1, p.2 * (stp n k p.1).2)
theorem ledN_snoc {n : Net} {k : Nat} : ∀ {w : List Nat} {p : Nat × Int}, ledN n (w ++ [k]) p = ((stp n k (ledN n w p).1).1, (ledN n w p).2 * (stp n k (ledN n w p).1).2)
  | [], _ => rfl
  | _ :: w, _ => ledN_snoc (w := w)
section
variable {many size : Nat} {n : Net}
theorem stp_get {k x y : Nat} {r : Row} {s : Int} (hr : n[k]? = some r) (e : r[x]? = some ((y : Int), s)) : stp n k x = (y, s) := by
  have h1 : n.getD k [] = r := by rw [List.getD_eq_getElem?_getD, hr]; rfl
  have h2 : r.getD x (0, 1) = ((y : Int), s) := by rw [List.getD_eq_getElem?_getD, e]; rfl
  unfold stp
  rw [h1, h2]
  rfl
theorem stp_adj (h : GoodNet many size n) {k x : Nat} (hk : k < many) (hx : x < size) : adj n x (stp n k x).1 ∧ (stp n k x).1 < size ∧ ((stp n k x).2 = 1 ∨ (stp n k x).2 = -1) := by
  obtain ⟨r, hr, g⟩ := h.get hk
  obtain ⟨y, s, e, hy, hs, _⟩ := g.ok x hx
  rw [stp_get hr e]
  exact ⟨⟨r, List.mem_of_getElem? hr, s, e⟩, hy, hs⟩
theorem ledN_ok (h : GoodNet many size n) : ∀ {w : List Nat}, (∀ k ∈ w, k < many) → ∀ {p : Nat × Int}, p.1 < size → (ledN n w p).1 < size ∧ Reach n p.1 (ledN n w p).1
  | [], _, p, hp => ⟨hp, reach_refl⟩
  | k :: w, hw, p, hp => by
    obtain ⟨a, l, _⟩ := stp_adj h (hw k List.mem_cons_self) hp
    obtain ⟨h1, h2⟩ := ledN_ok h (w := w) (fun j hj => hw j (List.mem_cons_of_mem _ hj)) (p := ((stp n k p.1).1, p.2 * (stp n k p.1).2)) l
    exact ⟨h1, reach_trans (reach_one a) h2⟩
end
def ledP (n : Net) (w : List Nat) (x : Nat) : D := .tup [.int ((ledN n w (x, 1)).1 : Nat), .int (ledN n w (x, 1)).2]
def sumZ (l : List Int) : Int := l.foldr (· + ·) 0
theorem sumZ_nil : sumZ [] = 0 := rfl
theorem sumZ_cons {a : Int} {l : List Int} : sumZ (a :: l) = a + sumZ l := rfl
theorem sumZ_append : ∀ {l m : List Int}, sumZ (l ++ m) = sumZ l + sumZ m
  | [], m => by rw [List.nil_append, sumZ_nil, Int.zero_add]
  | a :: l, m => by rw [List.cons_append, sumZ_cons, sumZ_cons, sumZ_append, Int.add_assoc]
def homeS (n : Net) (w : List Nat) (x : Nat) : Int := if (ledN n w (x, 1)).1 = x then (ledN n w (x, 1)).2 else 0
def retN (n : Net) (size : Nat) (w : List Nat) : Int := sumZ ((List.range size).map (homeS n w))
theorem sumZ_sum {l : List Int} : l.sum = sumZ l := rfl
theorem sumZ_filter {α : Type} {p : α → Bool} {g : α → Int} : ∀ {l : List α}, sumZ ((l.filter p).map g) = sumZ (l.map fun x => if p x = true then g x else 0)
  | [] => rfl
  | a :: l => by
    by_cases h : p a = true
    · rw [List.filter_cons_of_pos h, List.map_cons, List.map_cons, sumZ_cons, sumZ_cons, if_pos h, sumZ_filter]
    · rw [List.filter_cons_of_neg h, List.map_cons, sumZ_cons, if_neg h, Int.zero_add, sumZ_filter]
theorem sumZ_zero {α : Type} {g : α → Int} : ∀ {l : List α}, (∀ x ∈ l, g x = 0) → sumZ (l.map g) = 0
  | [], _ => rfl
  | a :: l, h => by rw [List.map_cons, sumZ_cons, h a List.mem_cons_self, sumZ_zero fun x hx => h x (List.mem_cons_of_mem _ hx)]; rfl
theorem sumZ_add {α : Type} {g h : α → Int} : ∀ {l : List α}, sumZ (l.map fun x => g x + h x) = sumZ (l.map g) + sumZ (l.map h)
  | [] => rfl
  | a :: l => by
    rw [List.map_cons, List.map_cons, List.map_cons, sumZ_cons, sumZ_cons, sumZ_cons, sumZ_add]
    omega
theorem sumZ_one {z : Nat} {v : Int} : ∀ {l : List Nat}, l.Nodup → z ∈ l → sumZ (l.map fun y => if z = y then v else 0) = v
  | [], _, h => by cases h
  | a :: l, nd, h => by
    obtain ⟨n1, n2⟩ := List.nodup_cons.mp nd
    rw [List.map_cons, sumZ_cons]
    by_cases e : z = a
    · subst e
      rw [if_pos rfl, sumZ_zero fun x hx => if_neg fun e => n1 (by rw [e]; exact hx), Int.add_zero]
    · rcases List.mem_cons.mp h with h | h
      · exact absurd h e
      · rw [if_neg e, Int.zero_add, sumZ_one n2 h]
theorem sum_parts {f : Nat → Nat} {g : Nat → Int} {Z : List Nat} (nd : Z.Nodup) : ∀ {l : List Nat}, (∀ x ∈ l, f x ∈ Z) → sumZ (Z.map fun z => sumZ ((l.filter fun x => f x == z).map g)) = sumZ (l.map g)
  | [], _ => sumZ_zero fun x _ => rfl
  | a :: l, h => by
    have e : ∀ z, sumZ (((a :: l).filter fun x => f x == z).map g) = (if f a = z then g a else 0) + sumZ ((l.filter fun x => f x == z).map g) := fun z => by
      by_cases w : f a = z
      · rw [List.filter_cons_of_pos (by simpa using w), List.map_cons, sumZ_cons, if_pos w]
      · rw [List.filter_cons_of_neg (by simpa using w), if_neg w, Int.zero_add]
    rw [show (fun z => sumZ (((a :: l).filter fun x => f x == z).map g)) = fun z => (if f a = z then g a else 0) + sumZ ((l.filter fun x => f x == z).map g) from funext e, sumZ_add, sumZ_one nd (h a List.mem_cons_self), sum_parts nd fun x hx => h x (List.mem_cons_of_mem _ hx), List.map_cons, sumZ_cons]
def partR (folk : List Nat) (r : Row) : Row := folk.map fun x => (((folk.idxOf (r.getD x (0, 1)).1.toNat : Nat) : Int), (r.getD x (0, 1)).2)
def partN (folk : List Nat) (n : Net) : Net := n.map (partR folk)
theorem partR_get {folk : List Nat} {r : Row} {i x y : Nat} {s : Int} (h : folk[i]? = some x) (e : r[x]? = some ((y : Int), s)) : (partR folk r)[i]? = some (((folk.idxOf y : Nat) : Int), s) := by
  unfold partR
  rw [List.getElem?_map, h]
  show some (((folk.idxOf (r.getD x (0, 1)).1.toNat : Nat) : Int), (r.getD x (0, 1)).2) = _
  rw [List.getD_eq_getElem?_getD, e]
  rfl
/-- a list of copies that no step leads out of -/
structure Folk (size : Nat) (n : Net) (folk : List Nat) : Prop where
  nd : folk.Nodup
  lt : ∀ x ∈ folk, x < size
  ne : folk ≠ []
  cl : ∀ x ∈ folk, ∀ y, adj n x y → y ∈ folk
theorem idx_get {folk : List Nat} {y : Nat} (h : y ∈ folk) : folk[folk.idxOf y]? = some y := by
  have := List.idxOf_lt_length_of_mem h
  rw [List.getElem?_eq_getElem this, List.getElem_idxOf]
theorem idx_of {folk : List Nat} {i x : Nat} (nd : folk.Nodup) (h : folk[i]? = some x) : folk.idxOf x = i := by
  have h1 := idx_get (List.mem_of_getElem? h)
  obtain ⟨l1, e1⟩ := List.getElem?_eq_some_iff.mp h
  obtain ⟨l2, e2⟩ := List.getElem?_eq_some_iff.mp h1
  rcases Nat.lt_trichotomy (folk.idxOf x) i with h | h | h
  · exact absurd (e2.trans e1.symm) (List.pairwise_iff_getElem.mp nd _ _ l2 l1 h)
  · exact h
  · exact absurd (e1.trans e2.symm) (List.pairwise_iff_getElem.mp nd _ _ l1 l2 h)
section
variable {many size : Nat} {n : Net} {folk : List Nat}
theorem Folk.row (h : Folk size n folk) {r : Row} (g : GoodRow size r) (hr : r ∈ n) : GoodRow folk.length (partR folk r) where
  len := by simp [partR]
  ok := fun i hi => by
    have hx := List.getElem?_eq_getElem hi
    generalize folk[i] = x at hx
    have xm := List.mem_of_getElem? hx
    obtain ⟨y, s, e1, hy, hs, e2⟩ := g.ok x (h.lt x xm)
    have ym := h.cl x xm y ⟨r, hr, s, e1⟩
    have := List.idxOf_lt_length_of_mem ym
    refine ⟨folk.idxOf y, s, partR_get hx e1, this, hs, ?_⟩
    rw [partR_get (idx_get ym) e2, idx_of h.nd hx]
theorem Folk.net (h : Folk size n folk) (g : GoodNet many size n) : GoodNet many folk.length (partN folk n) where
  len := by unfold partN; rw [List.length_map]; exact g.len
  m0 := g.m0
  m1 := g.m1
  s0 := List.length_pos_iff.mpr h.ne
  s1 := by
    have := nodup_sub_len (m := List.range size) h.nd fun x hx => List.mem_range.mpr (h.lt x hx)
    rw [List.length_range] at this
    exact Nat.le_trans this g.s1
  row := fun r hr => by
    obtain ⟨r', hr', rfl⟩ := List.mem_map.mp hr
    exact h.row (g.row r' hr') hr'
theorem Folk.stp (h : Folk size n folk) (g : GoodNet many size n) {k i x : Nat} (hk : k < many) (hi : folk[i]? = some x) : stp (partN folk n) k i = (folk.idxOf (stp n k x).1, (stp n k x).2) ∧ (stp n k x).1 ∈ folk := by
  obtain ⟨r, hr, gr⟩ := g.get hk
  have xm := List.mem_of_getElem? hi
  obtain ⟨y, s, e1, hy, hs, e2⟩ := gr.ok x (h.lt x xm)
  rw [stp_get hr e1]
  refine ⟨stp_get (r := partR folk r) (by unfold partN; rw [List.getElem?_map, hr]; rfl) (partR_get hi e1), h.cl x xm y ⟨r, List.mem_of_getElem? hr, s, e1⟩⟩
theorem Folk.led (h : Folk size n folk) (g : GoodNet many size n) : ∀ {w : List Nat}, (∀ k ∈ w, k < many) → ∀ {i x : Nat} {s : Int}, folk[i]? = some x → ledN (partN folk n) w (i, s) = (folk.idxOf (ledN n w (x, s)).1, (ledN n w (x, s)).2) ∧ (ledN n w (x, s)).1 ∈ folk
  | [], _, i, x, s, hi => by
    refine ⟨?_, List.mem_of_getElem? hi⟩
    show (i, s) = (folk.idxOf x, s)
    rw [idx_of h.nd hi]
  | k :: w, hw, i, x, s, hi => by
    obtain ⟨e, m⟩ := h.stp g (hw k List.mem_cons_self) hi
    unfold ledN
    rw [show ((i, s) : Nat × Int).1 = i from rfl, e]
    exact h.led g (w := w) (fun j hj => hw j (List.mem_cons_of_mem _ hj)) (idx_get m)
theorem Folk.ret (h : Folk size n folk) (g : GoodNet many size n) {w : List Nat} (hw : ∀ k ∈ w, k < many) : retN (partN folk n) folk.length w = sumZ (folk.map (homeS n w)) := by
  unfold retN
  congr 1
  refine List.ext_getElem? fun i => ?_
  rw [List.getElem?_map, List.getElem?_map]
  by_cases hi : i < folk.length
  · have hx := List.getElem?_eq_getElem hi
    rw [List.getElem?_range hi]
    rw [hx]
    generalize folk[i] = x at hx
    show some (homeS (partN folk n) w i) = some (homeS n w x)
    unfold homeS
    obtain ⟨e, m⟩ := h.led g hw (s := 1) hx
    rw [e]
    by_cases w2 : (ledN n w (x, 1)).1 = x
    · rw [if_pos w2, if_pos (by rw [w2]; exact idx_of h.nd hx)]
    · rw [if_neg w2, if_neg fun e2 => w2 (by
        have := idx_get m
        rw [show folk.idxOf (ledN n w (x, 1)).1 = i from e2, hx] at this
        exact (Option.some.inj this).symm)]
  · rw [List.getElem?_eq_none (by simpa using hi), List.getElem?_eq_none (by simpa using hi)]
    rfl
variable {f : Nat → Nat}
theorem Low.isFolk (w : Low n f) (g : GoodNet many size n) {z : Nat} (hz : z ∈ headL size f) : Folk size n (partL size f z) where
  nd := partL_nodup
  lt := fun x hx => (mem_partL.mp hx).1
  ne := List.ne_nil_of_mem (mem_partL.mpr (mem_headL.mp hz))
  cl := fun x hx y a => mem_partL.mpr ⟨(adj_lt g a).2, by rw [← w.adj g a]; exact (mem_partL.mp hx).2⟩
theorem Low.sum (w : Low n f) (g : GoodNet many size n) {way : List Nat} (hw : ∀ k ∈ way, k < many) : sumZ ((headL size f).map fun z => retN (partN (partL size f z) n) (partL size f z).length way) = retN n size way := by
  rw [List.map_congr_left (g := fun z => sumZ ((partL size f z).map (homeS n way))) fun z hz => (w.isFolk g hz).ret g hw]
  refine sum_parts (f := f) headL_nodup fun x hx => mem_headL.mpr ⟨Nat.lt_of_le_of_lt (w.le x) (List.mem_range.mp hx), w.idem g x⟩
end
end L3
namespace L3
open PySem PySem.Spec PyProof.Rows L2
variable {δ : En} {Q : R → En → Prop} {C : DTT}
end L3
namespace L3
open PySem PySem.Spec PyProof.Rows L2
section
variable {K : PySem.W.Frag}
/-- s is d or stands within d -/
inductive Sb : D → D → Prop
  | refl (d : D) : Sb d d
  | lst {s x : D} {xs : List D} : x ∈ xs → Sb s x → Sb s (.lst xs)
  | tup {s x : D} {xs : List D} : x ∈ xs → Sb s x → Sb s (.tup xs)
  | obj {s x : D} {cn : Str} {ns : List Str} {xs : List D} : x ∈ xs → Sb s x → Sb s (.obj cn ns xs)
  | frz {s x : D} {xs : List D} : x ∈ xs → Sb s x → Sb s (.frz xs)
  | dct {s x : D} {ks : List Key} {xs : List D} : x ∈ xs → Sb s x → Sb s (.dct ks xs)
  | exn {s x : D} {a dd : Addr} {cn : Str} {ns : List Str} {xs : List D} : x ∈ xs → Sb s x → Sb s (.exn a dd cn ns xs)
/-- the object at a holds d -/
inductive Hs (K : PySem.W.Frag) (G : Hp) (a : Addr) : D → Prop
  | lst {vs : List V} {ds : List D} : G a = some (.lst vs) → AtL K G vs ds → Hs K G a (.lst ds)
  | tup {vs : List V} {ds : List D} : Rd G a (.tup vs) → AtL K G vs ds → Hs K G a (.tup ds)
  | obj {dx : Addr} {cn : Str} {ns : List Str} {vs : List V} {ds : List D} : G a = some (.ins (He.ga K cn) dx (ns.zip vs)) → ns.length = vs.length → AtL K G vs ds → Hs K G a (.obj cn ns ds)
  | frz {vs : List V} {ds : List D} : Rd G a (.lst vs) → AtL K G vs ds → Hs K G a (.frz ds)
  | dct {ks : List Key} {vs : List V} {ds : List D} : G a = some (.dK (ks.zip vs)) → ks.length = vs.length → AtL K G vs ds → Hs K G a (.dct ks ds)
  | exn {x : Addr} {cn : Str} {ns : List Str} {vs : List V} {ds : List D} : G a = some (.xd (ns.zip vs)) → ns.length = vs.length → AtL K G vs ds → Hs K G a (.exn x a cn ns ds)
theorem Hs.mono {G G' : Hp} (s : Sub G G') {a : Addr} : ∀ {d : D}, Hs K G a d → Hs K G' a d
  | _, .lst h t => .lst (s _ _ h) (t.mono s)
  | _, .tup h t => .tup (s.rd h) (t.mono s)
  | _, .obj h l t => .obj (s _ _ h) l (t.mono s)
  | _, .frz h t => .frz (s.rd h) (t.mono s)
  | _, .dct h l t => .dct (s _ _ h) l (t.mono s)
  | _, .exn h l t => .exn (s _ _ h) l (t.mono s)
open Classical in
/-- the part of G that holds values of P -/
noncomputable def cut (K : PySem.W.Frag) (G : Hp) (P : D → Prop) : Hp := fun a => if ∃ s, P s ∧ Hs K G a s then G a else none
end
end L3
namespace L3
open PySem PySem.Spec PyProof.Rows L2
section
variable {K : PySem.W.Frag}
/-- slot m holds d in a part N of the heap that is new since HE, HB but for values of P -/
def Scr (K : PySem.W.Frag) (HE HB : Hp) (P : D → Prop) (σ : L2.St) (H G : Hp) (δ : En) (m : Nat) (d : D) : Prop :=
  ∃ (v : V) (N : Hp), σ[m]? = some (some v) ∧ At K N v d ∧ Sub N H ∧ (∀ l, v = .ref l → N l ≠ none ∧ HE l = none ∧ HB l = none ∧ G l = none) ∧ (∀ a, N a ≠ none → ¬ Ad σ δ a) ∧ ∀ a, N a ≠ none → (HE a = none ∧ HB a = none ∧ G a = none) ∨ ∃ s, P s ∧ Hs K N a s
theorem Scr.nxt {F : FE} {HE HB : Hp} {P : D → Prop} {σ σ' : L2.St} {H G H' G' : Hp} {δ δ' : En} {m : Nat} {d : D} {bs : List Nat} (g : Scr K HE HB P σ H G δ m d) (n : Nxt K F bs σ H G δ σ' H' G' δ') (hm : m ∉ bs) : Scr K HE HB P σ' H' G' δ' m d := by
  obtain ⟨v, N, e, hv, sN, top, na, why⟩ := g
  have hH : ∀ a, N a ≠ none → H a ≠ none := fun a h => by
    cases q : N a with
    | none => exact absurd q h
    | some o => rw [sN a o q]; exact fun z => nomatch z
  refine ⟨v, N, (n.st m hm).trans e, hv, fun a o q => n.f.h a o (na a (by rw [q]; exact fun z => nomatch z)) (sN a o q), fun l e => ?_, fun a h z => (n.ow a z).elim (na a h) (hH a h), fun a h => ?_⟩
  · obtain ⟨h0, h1, h2, h3⟩ := top l e
    exact ⟨h0, h1, h2, (n.f.n l (na l h0) (hH l h0)).trans h3⟩
  rcases why a h with ⟨h1, h2, h3⟩ | h4
  · exact .inl ⟨h1, h2, (n.f.n a (na a h) (hH a h)).trans h3⟩
  · exact .inr h4
/-- nothing of our own in sight -/
def hideE : E → E
  | .ow _ => .no
  | e => e
def hide (δ : En) : En := δ.map hideE
theorem hide_len {δ : En} : (hide δ).length = δ.length := by simp [hide]
theorem hide_va {δ : En} {i : Nat} {d : D} (h : (hide δ)[i]? = some (E.va d)) : δ[i]? = some (E.va d) := by
  unfold hide at h
  rw [List.getElem?_map] at h
  cases q : δ[i]? with
  | none => rw [q] at h; cases h
  | some e =>
    rw [q] at h
    cases e with
    | ow c => cases h
    | no => cases h
    | va d' => exact h
theorem hide_ow {δ : En} {i : Nat} {c : Cn} (h : (hide δ)[i]? = some (E.ow c)) : False := by
  unfold hide at h
  rw [List.getElem?_map] at h
  cases q : δ[i]? with
  | none => rw [q] at h; cases h
  | some e =>
    rw [q] at h
    cases e with
    | ow c => cases h
    | no => cases h
    | va d' => cases h
/-- our slots and the scratch slot, for a look -/
theorem Scr.look {HE HB : Hp} {P : D → Prop} {σ : L2.St} {H G : Hp} {δ : En} {m : Nat} {d : D} (g : Scr K HE HB P σ H G δ m d) (L : Rel K σ H G δ) : ∃ GU, Rel K σ H GU ((hide δ).set m (.va d)) := by
  obtain ⟨v, N, e, hv, sN, top, na, why⟩ := g
  let GU : Hp := fun a => match G a with
    | some o => some o
    | none => N a
  have s1 : Sub G GU := fun a o h => by
    show (match G a with | some o => some o | none => N a) = some o
    rw [h]
  have s2 : Sub N GU := fun a o h => by
    show (match G a with | some o => some o | none => N a) = some o
    cases q : G a with
    | none => exact h
    | some o' =>
      have := L.sub a o' q
      rw [sN a o h] at this
      exact this.symm
  refine ⟨GU, by rw [List.length_set, hide_len]; exact L.len, fun a o h => ?_, fun i d' q => ?_, fun i c q => ?_, fun i j l c c' q => ?_⟩
  · have h : (match G a with | some o => some o | none => N a) = some o := h
    cases q : G a with
    | none => rw [q] at h; exact sN a o h
    | some o' =>
      rw [q] at h
      cases h
      exact L.sub a o q
  · rcases set_get q with ⟨rfl, z, _⟩ | ⟨ne, q2⟩
    · cases z
      exact ⟨v, e, hv.mono s2⟩
    · obtain ⟨u, h1, h2⟩ := L.va i d' (hide_va q2)
      exact ⟨u, h1, h2.mono s1⟩
  · rcases set_get q with ⟨rfl, z, _⟩ | ⟨ne, q2⟩
    · cases z
    · exact (hide_ow q2).elim
  · rcases set_get q with ⟨rfl, z, _⟩ | ⟨ne, q2⟩
    · cases z
    · exact (hide_ow q2).elim
/-- only the slots ks in sight -/
def keep (δ : En) (ks : List Nat) : En := (List.range δ.length).map fun i => if i ∈ ks then (match δ[i]? with | some (.va d) => .va d | _ => .no) else .no
/-- what the slots ks hold -/
def Holds (δ : En) (ks : List Nat) (s : D) : Prop := ∃ i d, i ∈ ks ∧ δ[i]? = some (E.va d) ∧ Sb s d
theorem Sb.trans {r s d : D} (a : Sb r s) (b : Sb s d) : Sb r d := by
  induction b with
  | refl => exact a
  | lst h _ ih => exact .lst h ih
  | tup h _ ih => exact .tup h ih
  | obj h _ ih => exact .obj h ih
  | frz h _ ih => exact .frz h ih
  | dct h _ ih => exact .dct h ih
  | exn h _ ih => exact .exn h ih
end
end L3
namespace L3
open PySem PySem.Spec PyProof.Rows L2
section
variable {K : PySem.W.Frag}
/-- the two are never one object -/
def Clash (s d : D) : Prop := ∀ (K : PySem.W.Frag) (N : Hp) (a : Addr), Hs K N a s → At K N (.ref a) d → False
/-- an object that nobody knows changes -/
theorem Nxt.spoil {F : FE} {as : List Nat} {σ0 σ : L2.St} {H0 G0 H G : Hp} {δ0 δ : En} {a : Addr} {o : HO} (n : Nxt K F as σ0 H0 G0 δ0 σ H G δ) (na : ¬ Ad σ δ a) (g : G a = none) (he : F.HE a = none) (hb : H0 a = none) : Nxt K F as σ0 H0 G0 δ0 σ (L2.upd H a o) G δ := by
  have keep : ∀ b u, b ≠ a → H b = some u → L2.upd H a o b = some u := fun b u ne e => by rw [upd_ne ne]; exact e
  have L : Rel K σ (L2.upd H a o) G δ := ⟨n.s.L.len, fun b u e => keep b u (fun z => by rw [z, g] at e; cases e) (n.s.L.sub b u e), n.s.L.va, fun i c e => by
    obtain ⟨l, h1, h2, h3⟩ := n.s.L.ow i c e
    have ne : l ≠ a := fun z => na (by rw [← z]; exact ⟨i, c, e, h1⟩)
    exact ⟨l, h1, h2, h3.mono (fun u q => keep l u ne q) .refl⟩, n.s.L.dj⟩
  have fr : ∀ {A : Addr → Prop} {Hb Gb : Hp}, Fr A Hb Gb H G → Hb a = none → Fr A Hb Gb (L2.upd H a o) G := fun f hn => ⟨fun b u nb e => keep b u (fun z => by rw [z, hn] at e; cases e) (f.h b u nb e), f.g, f.n, fun b e => by
    have ne : b ≠ a := fun z => e (by rw [z]; exact hn)
    rw [upd_ne ne]
    exact f.d b e⟩
  exact ⟨⟨L, fr n.s.f he, n.s.own, n.s.par⟩, fr n.f hb, n.ow, n.st, n.ln⟩
end
section
/-- no value is both -/
def Apart (x y : D) : Prop := ∀ (K : PySem.W.Frag) (N : Hp) (v : V), At K N v x → At K N v y → False
end
end L3
namespace L3
open PySem PySem.Spec PyProof.Rows L2
section
variable {K : PySem.W.Frag}
/-- the exception of the class cls, its dict at d, is cn's with the fields ns -/
def XAt (K : PySem.W.Frag) (G : Hp) (cls : Value) (d : Option Addr) (cn : Str) (ns : List Str) (ds : List D) : Prop := cls = .ref (He.ga K cn) ∧ ∃ dd vs, d = some dd ∧ G dd = some (.xd (ns.zip vs)) ∧ ns.length = vs.length ∧ AtL K G vs ds
theorem XAt.mono {G G' : Hp} (s : Sub G G') {cls : Value} {d : Option Addr} {cn : Str} {ns : List Str} {ds : List D} (h : XAt K G cls d cn ns ds) : XAt K G' cls d cn ns ds := by
  obtain ⟨e, dd, vs, e2, h1, h2, h3⟩ := h
  exact ⟨e, dd, vs, e2, s _ _ h1, h2, h3.mono s⟩
abbrev XQ := Str → List Str → List D → En → Prop
def xF : XQ := fun _ _ _ _ => False
/-- a promise of two ends -/
abbrev DSpX := En → (R → En → Prop) → XQ → Prop
/-- the promise as one that lets nothing out -/
def DSpX.in (sp : DSpX) : DSp := fun δ Q3 => sp δ Q3 xF
structure DEX extends DE where
  ex : XQ
abbrev DSX := DEX → En → Prop
def GoodE (K : PySem.W.Frag) (F : FE) (as : List Nat) (W : WX) (σ : L2.St) (H G : Hp) (δ : En) (E3 : XQ) : Prop :=
  ∀ σ' H' G' δ' cls d cn ns ds, Nxt K F as σ H G δ σ' H' G' δ' → XAt K G' cls d cn ns ds → E3 cn ns ds δ' → W cls d σ' H'
theorem GoodE.from {F : FE} {as bs cs : List Nat} {W : WX} {σ σ1 : L2.St} {H G H1 G1 : Hp} {δ δ1 : En} {E3 : XQ} (g : GoodE K F cs W σ H G δ E3) (n : Nxt K F as σ H G δ σ1 H1 G1 δ1) (h : ∀ i, i ∈ as ++ bs → i ∈ cs) : GoodE K F bs W σ1 H1 G1 δ1 E3 :=
  fun _ _ _ _ _ _ _ _ _ m x q => g _ _ _ _ _ _ _ _ _ ((n.trans m).mono h) x q
/-- t is sound for T: a statement that may raise, W what is wanted then -/
def SndX (K : PySem.W.Frag) (ps as : List Nat) (t : WX → TS) (T : DSX) : Prop := ∀ (F : FE), (∀ i l, F.P i l → i ∈ ps) → (∀ i ∈ as, ∀ l, ¬ F.P i l) → ∀ (W : WX) (σ : L2.St) (H G : Hp) (δ : En) (D3 : DEX) (D : Ends), S3 K F σ H G δ → T D3 δ →
  Good K F as σ H G δ D3.toDE D → GoodE K F as W σ H G δ D3.ex → t W D σ H
def xp (T : DS) : DSX := fun D δ => T D.toDE δ
abbrev DTX := En → (R → En → Prop) → XQ → Prop
end
end L3
namespace L3
open PySem PySem.Spec PyProof.Rows L2
section
variable {K : PySem.W.Frag}
/-- what the __init__ of an error class does -/
def spE (K : PySem.W.Frag) (cn : Str) (fs : List Str) : Sp := fun vs H Q _ => ∃ (a : Addr) (ws : List V), vs = .ref a :: ws ∧ ws.length = fs.length ∧ H a = some (exo a (He.ga K cn) none) ∧
  ∀ d, H d = none → d ≠ a → Q .non (L2.upd (L2.upd H d (exd d (fs.zip ws).reverse)) a (exo a (He.ga K cn) (some d)))
end
end L3
namespace L3
open PySem PySem.Spec PyProof.Rows L2
/-- an error class with the fields fs -/
structure EP (P : Program) (w : World) (K : PySem.W.Frag) (mg : Str → Option Value) (base : Heap) (cn : Str) (fs : List Str) : Prop where
  ex : ∃ fd ps, FnOk P w K mg base CX0 1 (He.ma K (He.ga K cn) "__init__") fd ps (spE K cn fs) ∧ Binds K fd ps []
  T : OexC K (He.ga K cn)
  iC : PySem.W.findIn K (.ref (He.ga K cn)) "__init__" = some (some (.ref (He.ma K (He.ga K cn) "__init__")))
  tI : PySem.W.typeIn K (.ref (He.ma K (He.ga K cn) "__init__")) = some (.type "function")
  at_ : mg cn = some (.ref (He.ga K cn))
end L3
namespace L3
namespace HotI
open PySem PySem.Spec PyProof.Rows HotX
open Sem (wp)
section
variable {prog : Program} {w : World} {A : Around} {E : Value → Shared → Prop} {s : Shared} {x1 : Addr}
theorem hot_keep {h h' : Heap} (hot : HotAt A x1 h) (k : ∀ o, h.get? x1 = some o → h'.get? x1 = some o) : HotAt A x1 h' := by
  obtain ⟨e, o, vs, h1, h2, h3⟩ := hot
  exact ⟨e, o, vs, k o h1, h2, h3⟩
/-- a StopIteration is made and raised -/
theorem stop_raised {α : Type} {Q : α → Shared → Prop} (hot : HotAt A x1 s.heap) (hE : ∀ h' e, (∀ b o, s.heap.get? b = some o → h'.get? b = some o) → (∃ o, h'.get? e = some o ∧ o.cls = .type "StopIteration") → E (.ref e) { s with heap := h' }) :
    wpAny (model prog w) A (newExc (.type "StopIteration") [] >>= fun v => (raiseNew v : Sem α)) Q E s := by
  obtain ⟨hh, o1, vs1, h1, d1, c1⟩ := hot
  refine wpAny_bind ?_
  simp only [newExc, newTuple]
  refine wpAny_bind (wpAny_newObj_type ?_ (by size_fits))
  refine wpAny_bind (m := firstArgMember _ _) (wpAny_of_eq (a := Value.none) (by first | rfl | (simp only [firstArgMember]; rfl)) ?_)
  refine wpAny_newObj_type ?_ (by size_fits)
  refine raiseNew_hot ⟨hh, o1, vs1, Heap.get?_push_of_some _ (Heap.get?_push_of_some _ h1), d1, c1⟩ (Nat.ne_of_lt (Heap.lt_size (Heap.get?_push_of_some _ h1))) (Heap.get?_push_size _ rfl) rfl (by first | (simp; done) | (simp; omega) | (simp only [Array.size_append]; simp; omega)) ?_
  refine hE _ _ (fun b o e => ?_) ⟨_, Heap.get?_update_self _ (Heap.get?_push_size _ rfl) rfl, rfl⟩
  rw [Heap.get?_update_other _ _ (Nat.ne_of_gt (Heap.lt_size (Heap.get?_push_of_some _ e)))]
  exact Heap.get?_push_of_some _ (Heap.get?_push_of_some _ e)
theorem hot1 {h : Heap} (hot : HotAt A x1 h) : HotAt A.in1 x1 h := hot

theorem next_list_end {it l : Addr} {i : Nat} {items} {Q : Option Value → Shared → Prop} (hot : HotAt A x1 s.heap) (hne : x1 ≠ it) (hit : s.heap.IsListIter it l i) (hl : s.heap.IsList l items) (hx : items[i]? = none)
    (hQ : ∀ h', Heap.ExtBut it s.heap h' → Q none { s with heap := h' }) : wpAny (model prog w) A (pyNext (.ref it)) Q E s := by
  obtain ⟨o, ho, hc, hd⟩ := id hit
  obtain ⟨ol, hol, _, nl, hdl⟩ := hl
  unfold pyNext
  refine wpAny_bind (wpAny_attempt (wpAny_callSpecial?_slot (name := Str.ofString "__next__") hit.typeIs PySem.slot_listiter_next (wpAny_call_entry PySem.slot_listiter_next hit.typeIs PySem.entry_listiter_next ?_ (PySem.args_listiter_next _))))
  show wpAny _ _ (field (.ref it) 0 >>= _) _ _ s
  refine wpAny_bind (wpAny_field ho hd (x := .ref l) rfl ?_)
  show wpAny _ _ (if (Value.ref l == Value.none) = true then _ else _) _ _ s
  rw [if_neg (show ¬ ((Value.ref l == Value.none) = true) from Bool.false_ne_true)]
  show wpAny _ _ (field (.ref it) 1 >>= _) _ _ s
  refine wpAny_bind (wpAny_field ho hd (x := .int i 0) rfl ?_)
  show wpAny _ _ (seqItems? (.ref l) >>= _) _ _ s
  refine wpAny_bind (wpAny_seqItems hol hdl ?_)
  simp only [Int.toNat_natCast, hx]
  refine wpAny_bind (wpAny_rule (wpAny_bind (wpAny_setField ho hd (by simp) ?_)))
  refine stop_raised (hot_keep (hot1 hot) fun u e => by rw [Heap.get?_update_other _ _ (Ne.symm hne)]; exact e) fun h' e k he => ?_
  have kk : Heap.ExtBut it s.heap h' := fun b u hb q => k b u (by rw [Heap.get?_update_other _ _ (Ne.symm hb)]; exact q)
  obtain ⟨u, hu, hcu⟩ := he
  refine wpAny_bind (wpAny_isInstance (T := "StopIteration") (b := true) ⟨u, hu, hcu⟩ isSubtype_stop ?_)
  exact wpAny_pure (hQ _ kk)
theorem nextOf_list_end {it l : Addr} {i : Nat} {items} {Q : Value → Shared → Prop} (hot : HotAt A x1 s.heap) (hne : x1 ≠ it) (hit : s.heap.IsListIter it l i) (hl : s.heap.IsList l items) (hx : items[i]? = none)
    (hE : ∀ h' e, Heap.ExtBut it s.heap h' → (∃ o, h'.get? e = some o ∧ o.cls = .type "StopIteration") → E (.ref e) { s with heap := h' }) : wpAny (model prog w) A (Builtin.SmallTypes.nextOf (.ref it)) Q E s := by
  obtain ⟨o, ho, hc, hd⟩ := id hit
  obtain ⟨ol, hol, _, nl, hdl⟩ := hl
  unfold Builtin.SmallTypes.nextOf
  refine wpAny_bind ((wpAny_callSpecial?_slot (name := Str.ofString "__next__") hit.typeIs PySem.slot_listiter_next (wpAny_call_entry PySem.slot_listiter_next hit.typeIs PySem.entry_listiter_next ?_ (PySem.args_listiter_next _))))
  show wpAny _ _ (field (.ref it) 0 >>= _) _ _ s
  refine wpAny_bind (wpAny_field ho hd (x := .ref l) rfl ?_)
  show wpAny _ _ (if (Value.ref l == Value.none) = true then _ else _) _ _ s
  rw [if_neg (show ¬ ((Value.ref l == Value.none) = true) from Bool.false_ne_true)]
  show wpAny _ _ (field (.ref it) 1 >>= _) _ _ s
  refine wpAny_bind (wpAny_field ho hd (x := .int i 0) rfl ?_)
  show wpAny _ _ (seqItems? (.ref l) >>= _) _ _ s
  refine wpAny_bind (wpAny_seqItems hol hdl ?_)
  simp only [Int.toNat_natCast, hx]
  refine wpAny_bind (wpAny_rule (wpAny_bind (wpAny_setField ho hd (by simp) ?_)))
  refine stop_raised (hot_keep (hot1 hot) fun u e => by rw [Heap.get?_update_other _ _ (Ne.symm hne)]; exact e) fun h' e k he => ?_
  have kk : Heap.ExtBut it s.heap h' := fun b u hb q => k b u (by rw [Heap.get?_update_other _ _ (Ne.symm hb)]; exact q)
  exact hE _ _ kk he
theorem nextOf_tuple_end {it l : Addr} {i : Nat} {items} {Q : Value → Shared → Prop} (hot : HotAt A x1 s.heap) (hne : x1 ≠ it) (hit : s.heap.IsTupleIter it l i) (hl : s.heap.IsTuple l items) (hx : items[i]? = none)
    (hE : ∀ h' e, Heap.ExtBut it s.heap h' → (∃ o, h'.get? e = some o ∧ o.cls = .type "StopIteration") → E (.ref e) { s with heap := h' }) : wpAny (model prog w) A (Builtin.SmallTypes.nextOf (.ref it)) Q E s := by
  obtain ⟨o, ho, hc, hd⟩ := id hit
  obtain ⟨ol, hol, _, nl, hdl⟩ := hl
  unfold Builtin.SmallTypes.nextOf
  refine wpAny_bind ((wpAny_callSpecial?_slot (name := Str.ofString "__next__") hit.typeIs F.slot_tuple_iterator_next (wpAny_call_entry F.slot_tuple_iterator_next hit.typeIs F.entry_tuple_iterator_next ?_ (F.args_tuple_iterator_next_1 _))))
  show wpAny _ _ (field (.ref it) 0 >>= _) _ _ s
  refine wpAny_bind (wpAny_field ho hd (x := .ref l) rfl ?_)
  show wpAny _ _ (if (Value.ref l == Value.none) = true then _ else _) _ _ s
  rw [if_neg (show ¬ ((Value.ref l == Value.none) = true) from Bool.false_ne_true)]
  show wpAny _ _ (field (.ref it) 1 >>= _) _ _ s
  refine wpAny_bind (wpAny_field ho hd (x := .int i 0) rfl ?_)
  show wpAny _ _ (seqItems? (.ref l) >>= _) _ _ s
  refine wpAny_bind (wpAny_seqItems hol hdl ?_)
  simp only [Int.toNat_natCast, hx]
  refine wpAny_bind (wpAny_rule (wpAny_bind (wpAny_setField ho hd (by simp) ?_)))
  refine stop_raised (hot_keep (hot1 hot) fun u e => by rw [Heap.get?_update_other _ _ (Ne.symm hne)]; exact e) fun h' e k he => ?_
  have kk : Heap.ExtBut it s.heap h' := fun b u hb q => k b u (by rw [Heap.get?_update_other _ _ (Ne.symm hb)]; exact q)
  exact hE _ _ kk he
theorem nextR_tuple_end {it l : Addr} {i : Nat} {items} {Q : Option Value → Shared → Prop} (hot : HotAt A x1 s.heap) (hne : x1 ≠ it) (hit : IsTupIter s.heap it l i) (hl : IsTup s.heap l items) (hx : items[i]? = none)
    (hQ : ∀ h', Heap.ExtBut it s.heap h' → Q none { s with heap := h' }) : wpAny (model prog w) A (pyNext (.ref it)) Q E s := by
  obtain ⟨o, ho, hc, hd⟩ := id hit
  obtain ⟨ol, hol, _, nl, hdl⟩ := hl
  unfold pyNext
  refine wpAny_bind (wpAny_attempt (wpAny_callSpecial?_slot (name := Str.ofString "__next__") hit.typeIs slot_tupleiter_next (wpAny_call_entry slot_tupleiter_next hit.typeIs entry_tupleiter_next ?_ (args_tupleiter_next _))))
  show wpAny _ _ (field (.ref it) 0 >>= _) _ _ s
  refine wpAny_bind (wpAny_field ho hd (x := .ref l) rfl ?_)
  show wpAny _ _ (if (Value.ref l == Value.none) = true then _ else _) _ _ s
  rw [if_neg (show ¬ ((Value.ref l == Value.none) = true) from Bool.false_ne_true)]
  show wpAny _ _ (field (.ref it) 1 >>= _) _ _ s
  refine wpAny_bind (wpAny_field ho hd (x := .int i 0) rfl ?_)
  show wpAny _ _ (seqItems? (.ref l) >>= _) _ _ s
  refine wpAny_bind (wpAny_seqItems hol hdl ?_)
  simp only [Int.toNat_natCast, hx]
  refine wpAny_bind (wpAny_rule (wpAny_bind (wpAny_setField ho hd (by simp) ?_)))
  refine stop_raised (hot_keep (hot1 hot) fun u e => by rw [Heap.get?_update_other _ _ (Ne.symm hne)]; exact e) fun h' e k he => ?_
  have kk : Heap.ExtBut it s.heap h' := fun b u hb q => k b u (by rw [Heap.get?_update_other _ _ (Ne.symm hb)]; exact q)
  obtain ⟨u, hu, hcu⟩ := he
  refine wpAny_bind (wpAny_isInstance (T := "StopIteration") (b := true) ⟨u, hu, hcu⟩ isSubtype_stop ?_)
  exact wpAny_pure (hQ _ kk)
theorem zipb_zipL {z TI TO i1 i2 l1 l2 : Addr} {k1 k2 : Nat} {xs ys : Array Value} {a b : Value} {Q : Fin → Shared → Prop} (hot : HotAt A x1 s.heap) (n1 : x1 ≠ z) (n2 : x1 ≠ TO) (n3 : x1 ≠ i1) (n4 : x1 ≠ i2) (D : ZipApart z TI TO i1 i2 l1 l2)
    (hz : IsZip s.heap z TI TO .none) (hTI : IsPair s.heap TI (.ref i1) (.ref i2)) (hTO : IsPair s.heap TO a b)
    (h1 : s.heap.IsListIter i1 l1 k1) (h2 : s.heap.IsListIter i2 l2 k2) (hl1 : s.heap.IsList l1 xs) (hl2 : s.heap.IsList l2 ys) (hend : xs[k1]? = none ∨ ys[k2]? = none)
    (hE : ∀ h' e, (∀ c o, c ≠ z → c ≠ TO → c ≠ i1 → c ≠ i2 → s.heap.get? c = some o → h'.get? c = some o) → (∃ o, h'.get? e = some o ∧ o.cls = .type "StopIteration") → E (.ref e) { s with heap := h' }) :
    wpAny (model prog w) A (Builtin.«zip.__next__» ⟨[.ref z], []⟩) Q E s := by
  show wpAny _ _ (field (.ref z) 2 >>= _) _ _ _
  refine wpAny_bind (wpAny_field hz rfl (x := .bool false) rfl ?_)
  show wpAny _ _ (field (.ref z) 3 >>= _) _ _ _
  refine wpAny_bind (wpAny_field hz rfl (x := .ref TI) rfl (wpAny_bind (wpAny_seqItems hTI rfl ?_)))
  show wpAny _ _ (Builtin.SmallTypes.ownedTupleIsFree (.ref z) >>= _) _ _ _
  refine wpAny_bind ?_
  unfold Builtin.SmallTypes.ownedTupleIsFree
  refine wpAny_bind (wpAny_field hz rfl (x := .none) rfl (wpAny_pure ?_))
  simp only [if_true]
  refine wpAny_bind (wpAny_rule (wpAny_bind (wpAny_field hz rfl (x := .ref TO) rfl (wpAny_bind (wpAny_setField_rec hz (by simp) fun ha za sa => ?_)))))
  replace za : IsZip ha z TI TO .ellipsis := za
  have hota : HotAt A x1 ha := hot_keep hot fun o e => sa.extBut _ _ n1 e
  refine wpAny_bind ?_
  simp only [List.zipIdx_cons, List.zipIdx_nil, List.forIn_cons, List.forIn_nil]
  refine wpAny_bind (wpAny_bind (wpAny_onRaise ?_))
  show wpAny _ _ (Builtin.SmallTypes.nextOf (.ref i1) >>= _) _ _ _
  cases hx : xs[k1]? with
  | none =>
    refine wpAny_bind (nextOf_list_end hota n3 (h1.extBut sa.extBut D.i1z) (hl1.extBut sa.extBut D.l1z) hx fun hb e sb he => ?_)
    obtain ⟨oe, hoe, hce⟩ := he
    have zb : IsZip hb z TI TO .ellipsis := sb _ _ D.i1z.symm za
    have hez : e ≠ z := fun q => by subst q; rw [zb] at hoe; cases hoe; simp at hce
    refine wpAny_setField_rec zb (by simp) fun hc _ sc => hE hc e (fun c o c1 _ c3 _ q => sc.extBut _ _ c1 (sb _ _ c3 (sa.extBut _ _ c1 q))) ⟨oe, sc.extBut _ _ hez hoe, hce⟩
  | some x =>
    have hy : ys[k2]? = none := by rcases hend with h | h; rw [hx] at h; cases h; exact h
    refine wpAny_bind (wpAny_nextOf_list_item (h1.extBut sa.extBut D.i1z) (hl1.extBut sa.extBut D.l1z) hx fun hb h1b sb => wpAny_pure ?_)
    have TOb : IsPair hb TO a b := sb.extBut _ _ D.TOi1 (sa.extBut _ _ D.TOz hTO)
    refine wpAny_bind (wpAny_seqItems TOb rfl (wpAny_bind (wpAny_updateSeq_pair TOb fun hc TOc sc => wpAny_bind (wpAny_letGo (wpAny_pure ?_)))))
    have hotc : HotAt A x1 hc := hot_keep hota fun o e => sc.extBut _ _ n2 (sb.extBut _ _ n3 e)
    refine wpAny_bind (wpAny_bind (wpAny_onRaise ?_))
    show wpAny _ _ (Builtin.SmallTypes.nextOf (.ref i2) >>= _) _ _ _
    refine wpAny_bind (nextOf_list_end hotc n4 (((h2.extBut sa.extBut D.i2z).extBut sb.extBut D.i12.symm).extBut sc.extBut D.TOi2.symm)
      (((hl2.extBut sa.extBut D.l2z).extBut sb.extBut D.l2i1).extBut sc.extBut D.l2TO) hy fun hd e sd he => ?_)
    obtain ⟨oe, hoe, hce⟩ := he
    have zd : IsZip hd z TI TO .ellipsis := sd _ _ D.i2z.symm (sc.extBut _ _ D.TOz.symm (sb.extBut _ _ D.i1z.symm za))
    have hez : e ≠ z := fun q => by subst q; rw [zd] at hoe; cases hoe; simp at hce
    refine wpAny_setField_rec zd (by simp) fun hf _ sf => hE hf e (fun c o c1 c2 c3 c4 q => sf.extBut _ _ c1 (sd _ _ c4 (sc.extBut _ _ c2 (sb.extBut _ _ c3 (sa.extBut _ _ c1 q))))) ⟨oe, sf.extBut _ _ hez hoe, hce⟩
theorem next_zipL_end {z TI TO i1 i2 l1 l2 : Addr} {k1 k2 : Nat} {xs ys : Array Value} {a b : Value} {Q : Option Value → Shared → Prop} (hot : HotAt A x1 s.heap) (n1 : x1 ≠ z) (n2 : x1 ≠ TO) (n3 : x1 ≠ i1) (n4 : x1 ≠ i2) (D : ZipApart z TI TO i1 i2 l1 l2)
    (hz : IsZip s.heap z TI TO .none) (hTI : IsPair s.heap TI (.ref i1) (.ref i2)) (hTO : IsPair s.heap TO a b)
    (h1 : s.heap.IsListIter i1 l1 k1) (h2 : s.heap.IsListIter i2 l2 k2) (hl1 : s.heap.IsList l1 xs) (hl2 : s.heap.IsList l2 ys) (hend : xs[k1]? = none ∨ ys[k2]? = none)
    (hQ : ∀ h', (∀ c o, c ≠ z → c ≠ TO → c ≠ i1 → c ≠ i2 → s.heap.get? c = some o → h'.get? c = some o) → Q none { s with heap := h' }) : wpAny (model prog w) A (pyNext (.ref z)) Q E s := by
  have ty : s.TypeIs (.ref z) "zip" := ⟨_, hz, rfl⟩
  unfold pyNext
  refine wpAny_bind (wpAny_attempt (wpAny_callSpecial?_slot (name := Str.ofString "__next__") ty F.slot_zip_next
    (wpAny_call_entry F.slot_zip_next ty F.entry_zip_next (zipb_zipL (hot1 hot) n1 n2 n3 n4 D hz hTI hTO h1 h2 hl1 hl2 hend fun h' e hk he => ?_) (F.args_zip_next_1 _))))
  obtain ⟨o, ho, hc⟩ := he
  exact wpAny_bind (wpAny_isInstance (T := "StopIteration") (b := true) ⟨o, ho, hc⟩ isSubtype_stop (wpAny_pure (hQ _ hk)))
theorem zipb_zipT {z TI TO i1 i2 l1 l2 : Addr} {k1 k2 : Nat} {xs ys : Array Value} {a b : Value} {Q : Fin → Shared → Prop} (hot : HotAt A x1 s.heap) (n1 : x1 ≠ z) (n2 : x1 ≠ TO) (n3 : x1 ≠ i1) (n4 : x1 ≠ i2) (D : ZipApart z TI TO i1 i2 l1 l2)
    (hz : IsZip s.heap z TI TO .none) (hTI : IsPair s.heap TI (.ref i1) (.ref i2)) (hTO : IsPair s.heap TO a b)
    (h1 : s.heap.IsTupleIter i1 l1 k1) (h2 : s.heap.IsTupleIter i2 l2 k2) (hl1 : s.heap.IsTuple l1 xs) (hl2 : s.heap.IsTuple l2 ys) (hend : xs[k1]? = none ∨ ys[k2]? = none)
    (hE : ∀ h' e, (∀ c o, c ≠ z → c ≠ TO → c ≠ i1 → c ≠ i2 → s.heap.get? c = some o → h'.get? c = some o) → (∃ o, h'.get? e = some o ∧ o.cls = .type "StopIteration") → E (.ref e) { s with heap := h' }) :
    wpAny (model prog w) A (Builtin.«zip.__next__» ⟨[.ref z], []⟩) Q E s := by
  show wpAny _ _ (field (.ref z) 2 >>= _) _ _ _
  refine wpAny_bind (wpAny_field hz rfl (x := .bool false) rfl ?_)
  show wpAny _ _ (field (.ref z) 3 >>= _) _ _ _
  refine wpAny_bind (wpAny_field hz rfl (x := .ref TI) rfl (wpAny_bind (wpAny_seqItems hTI rfl ?_)))
  show wpAny _ _ (Builtin.SmallTypes.ownedTupleIsFree (.ref z) >>= _) _ _ _
  refine wpAny_bind ?_
  unfold Builtin.SmallTypes.ownedTupleIsFree
  refine wpAny_bind (wpAny_field hz rfl (x := .none) rfl (wpAny_pure ?_))
  simp only [if_true]
  refine wpAny_bind (wpAny_rule (wpAny_bind (wpAny_field hz rfl (x := .ref TO) rfl (wpAny_bind (wpAny_setField_rec hz (by simp) fun ha za sa => ?_)))))
  replace za : IsZip ha z TI TO .ellipsis := za
  have hota : HotAt A x1 ha := hot_keep hot fun o e => sa.extBut _ _ n1 e
  refine wpAny_bind ?_
  simp only [List.zipIdx_cons, List.zipIdx_nil, List.forIn_cons, List.forIn_nil]
  refine wpAny_bind (wpAny_bind (wpAny_onRaise ?_))
  show wpAny _ _ (Builtin.SmallTypes.nextOf (.ref i1) >>= _) _ _ _
  cases hx : xs[k1]? with
  | none =>
    refine wpAny_bind (nextOf_tuple_end hota n3 (h1.extBut sa.extBut D.i1z) (hl1.extBut sa.extBut D.l1z) hx fun hb e sb he => ?_)
    obtain ⟨oe, hoe, hce⟩ := he
    have zb : IsZip hb z TI TO .ellipsis := sb _ _ D.i1z.symm za
    have hez : e ≠ z := fun q => by subst q; rw [zb] at hoe; cases hoe; simp at hce
    refine wpAny_setField_rec zb (by simp) fun hc _ sc => hE hc e (fun c o c1 _ c3 _ q => sc.extBut _ _ c1 (sb _ _ c3 (sa.extBut _ _ c1 q))) ⟨oe, sc.extBut _ _ hez hoe, hce⟩
  | some x =>
    have hy : ys[k2]? = none := by rcases hend with h | h; rw [hx] at h; cases h; exact h
    refine wpAny_bind (RZ.nextOf_tuple_item (h1.extBut sa.extBut D.i1z) (hl1.extBut sa.extBut D.l1z) hx fun hb h1b sb => wpAny_pure ?_)
    have TOb : IsPair hb TO a b := sb.extBut _ _ D.TOi1 (sa.extBut _ _ D.TOz hTO)
    refine wpAny_bind (wpAny_seqItems TOb rfl (wpAny_bind (wpAny_updateSeq_pair TOb fun hc TOc sc => wpAny_bind (wpAny_letGo (wpAny_pure ?_)))))
    have hotc : HotAt A x1 hc := hot_keep hota fun o e => sc.extBut _ _ n2 (sb.extBut _ _ n3 e)
    refine wpAny_bind (wpAny_bind (wpAny_onRaise ?_))
    show wpAny _ _ (Builtin.SmallTypes.nextOf (.ref i2) >>= _) _ _ _
    refine wpAny_bind (nextOf_tuple_end hotc n4 (((h2.extBut sa.extBut D.i2z).extBut sb.extBut D.i12.symm).extBut sc.extBut D.TOi2.symm)
      (((hl2.extBut sa.extBut D.l2z).extBut sb.extBut D.l2i1).extBut sc.extBut D.l2TO) hy fun hd e sd he => ?_)
    obtain ⟨oe, hoe, hce⟩ := he
    have zd : IsZip hd z TI TO .ellipsis := sd _ _ D.i2z.symm (sc.extBut _ _ D.TOz.symm (sb.extBut _ _ D.i1z.symm za))
    have hez : e ≠ z := fun q => by subst q; rw [zd] at hoe; cases hoe; simp at hce
    refine wpAny_setField_rec zd (by simp) fun hf _ sf => hE hf e (fun c o c1 c2 c3 c4 q => sf.extBut _ _ c1 (sd _ _ c4 (sc.extBut _ _ c2 (sb.extBut _ _ c3 (sa.extBut _ _ c1 q))))) ⟨oe, sf.extBut _ _ hez hoe, hce⟩
theorem next_zipT_end {z TI TO i1 i2 l1 l2 : Addr} {k1 k2 : Nat} {xs ys : Array Value} {a b : Value} {Q : Option Value → Shared → Prop} (hot : HotAt A x1 s.heap) (n1 : x1 ≠ z) (n2 : x1 ≠ TO) (n3 : x1 ≠ i1) (n4 : x1 ≠ i2) (D : ZipApart z TI TO i1 i2 l1 l2)
    (hz : IsZip s.heap z TI TO .none) (hTI : IsPair s.heap TI (.ref i1) (.ref i2)) (hTO : IsPair s.heap TO a b)
    (h1 : s.heap.IsTupleIter i1 l1 k1) (h2 : s.heap.IsTupleIter i2 l2 k2) (hl1 : s.heap.IsTuple l1 xs) (hl2 : s.heap.IsTuple l2 ys) (hend : xs[k1]? = none ∨ ys[k2]? = none)
    (hQ : ∀ h', (∀ c o, c ≠ z → c ≠ TO → c ≠ i1 → c ≠ i2 → s.heap.get? c = some o → h'.get? c = some o) → Q none { s with heap := h' }) : wpAny (model prog w) A (pyNext (.ref z)) Q E s := by
  have ty : s.TypeIs (.ref z) "zip" := ⟨_, hz, rfl⟩
  unfold pyNext
  refine wpAny_bind (wpAny_attempt (wpAny_callSpecial?_slot (name := Str.ofString "__next__") ty F.slot_zip_next
    (wpAny_call_entry F.slot_zip_next ty F.entry_zip_next (zipb_zipT (hot1 hot) n1 n2 n3 n4 D hz hTI hTO h1 h2 hl1 hl2 hend fun h' e hk he => ?_) (F.args_zip_next_1 _))))
  obtain ⟨o, ho, hc⟩ := he
  exact wpAny_bind (wpAny_isInstance (T := "StopIteration") (b := true) ⟨o, ho, hc⟩ isSubtype_stop (wpAny_pure (hQ _ hk)))
theorem unpackItems_hot {t : Addr} {items : Array Value} {Q : List Value → Shared → Prop} (hot : HotAt A x1 s.heap) (ht : IsTup s.heap t items)
    (hQ : ∀ h', Heap.ExtBut s.heap.objs.size s.heap h' → Q items.toList { s with heap := h' }) : wpAny (model prog w) A (unpackItems (.ref t) items.size none) Q E s := by
  have hlt : t ≠ s.heap.objs.size := by obtain ⟨o, ho, _⟩ := ht; exact Nat.ne_of_lt (Heap.lt_size ho)
  have hx : x1 ≠ s.heap.objs.size := by obtain ⟨_, o, vs, ho, _⟩ := hot; exact Nat.ne_of_lt (Heap.lt_size ho)
  unfold unpackItems
  refine wpAny_bind ?_
  unfold notIterableAtAll
  refine wpAny_bind (wpAny_specialOf ht.typeIs slot_tuple_iter.lookup (wpAny_pure ?_))
  simp only [Bool.false_eq_true, if_false]
  refine wpAny_bind (wpAny_holding (iter_tuple ht (wpAny_bind (wpAny_holding (draw_tuple hlt items.size 0 _ _ ⟨_, Heap.get?_push_size _ rfl, rfl, rfl⟩ (ht.push _) (by omega) fun ha ita sa => ?_)))))
  have hall : List.take items.size (List.drop 0 items.toList) = items.toList := by
    rw [List.drop_zero]; exact List.take_of_length_le (by simp)
  rw [hall, if_neg (by simp)]
  have hta : IsTup ha t items := (ht.push _).extBut sa.extBut hlt
  have hota : HotAt A x1 ha := hot_keep hot fun o e => sa.extBut _ _ hx (Heap.get?_push_of_some _ e)
  refine wpAny_bind (wpAny_holding (nextR_tuple_end hota hx ita hta (by simp) fun hb eb => ?_))
  simp only [Option.isSome_none, Bool.false_eq_true, if_false]
  exact wpAny_pure (hQ hb fun b o hb e => eb b o hb (sa.extBut b o hb (Heap.get?_push_of_some _ e)))
theorem assign_tuple_hot {env : Env} {elts : List Expr} {k : Nat} {pos : Pos} {t : Addr} {items : Array Value} {Q : Unit → Shared → Prop} (hot : HotAt A x1 s.heap) (ht : IsTup s.heap t items)
    (hn : (assignEach elts env).length = items.size) (hst : (assignEach elts env).findIdx? (·.1) = none)
    (h : ∀ h', Heap.ExtBut s.heap.objs.size s.heap h' → wpAny (model prog w) A (assignInOrder ((assignEach elts env).map (·.2)) items.toList) Q E { s with heap := h' }) :
    wpAny (model prog w) A (assign (.Tuple elts k pos) env (.ref t)) Q E s := by
  rw [assign_Tuple]
  refine wpAny_bind (wpAny_standAt ?_)
  unfold unpack
  rw [hn, hst]
  exact wpAny_bind (wpAny_holding (unpackItems_hot hot ht h))
theorem walks_list {prog : Program} {w : World} {A : Around} {o1 : Obj} {vs1 : Array Value} (hh : A.handled = some (.ref x1)) (d1 : o1.data = .fields vs1) (c1 : vs1[2]? = some .none) (I ax : Addr) (hne : ax ≠ I) (hnx : x1 ≠ I) (items : Array Value) :
    Walks prog w A I [I, ax, x1] [I] items.size (fun i v => items[i]? = some v) (fun i h => h.IsListIter I ax i ∧ h.IsList ax items ∧ h.get? x1 = some o1) where
  sub := fun b hb => by simp at hb; simp [hb]
  frame := fun _ _ _ st hk => ⟨st.1.at fun o e => hk I (by simp) o e, st.2.1.at fun o e => hk ax (by simp) o e, hk x1 (by simp) _ st.2.2⟩
  item := fun i s Q E hi st hQ => by
    refine wpAny_pyNext_list_item st.1 st.2.1 (x := items[i]) (by simp [hi]) fun h' hit' hs' => ?_
    exact hQ _ h' s.toks (by simp [hi]) ⟨hit', st.2.1.extBut hs'.extBut hne, hs'.extBut _ _ hnx st.2.2⟩ fun b o hb e => hs'.extBut b o (fun h => hb (by simp [h])) e
  done := fun s Q E st hQ => next_list_end ⟨hh, o1, vs1, st.2.2, d1, c1⟩ hnx st.1 st.2.1 (by simp) fun h' he' => hQ h' s.toks fun b o hb e => he' b o (fun h => hb (by simp [h])) e
  self := fun _ _ _ _ st hQ => wpAny_pyIter_listiter st.1 hQ
end
end HotI
end L3
namespace L3
open PySem PySem.Spec PyProof.Rows L2
/-- an exception is handled, its context is None; it stays as it is -/
def HotX (X : Cx) : Prop := ∃ (x1 : Addr) (o1 : Obj) (vs1 : Array Value), X.A.handled = some (.ref x1) ∧ o1.data = .fields vs1 ∧ vs1[2]? = some .none ∧
  ∀ (pins : List (Addr × Obj)) (σ : L2.St) (H : Hp) (s : Shared), Inv X pins σ H s → s.heap.get? x1 = some o1 ∧ H x1 = none ∧ x1 ∉ frs X.stack ∧ ∀ b, FpOk X pins H b → x1 ≠ b
section
variable {X : Cx} {pins : List (Addr × Obj)} {σ : L2.St} {H : Hp} {s : Shared}
theorem HotX.at (c : HotX X) (I : Inv X pins σ H s) : ∃ x1, _root_.HotX.HotAt X.A x1 s.heap ∧ (∀ b, FpOk X pins H b → x1 ≠ b) ∧ ∀ b, s.heap.objs.size ≤ b → x1 ≠ b := by
  obtain ⟨x1, o1, vs1, hh, d1, c1, h⟩ := c
  obtain ⟨h1, h2, h3, h4⟩ := h pins σ H s I
  exact ⟨x1, ⟨hh, o1, vs1, h1, d1, c1⟩, h4, fun b hb => Nat.ne_of_lt (Nat.lt_of_lt_of_le (Heap.lt_size h1) hb)⟩
/-- in a comprehension's block -/
theorem HotX.blk (c : HotX X) (I : Inv X pins σ H s) {scope : Scope} {ce : Env} {fp : List Addr} (hf : ∀ b ∈ fp, FpOk X pins H b) : HotX (X.blk s H scope ce fp) := by
  obtain ⟨x1, o1, vs1, hh, d1, c1, h⟩ := c
  obtain ⟨h1, h2, h3, h4⟩ := h pins σ H s I
  have nf : x1 ∉ fp := fun hm => h4 x1 (hf x1 hm) rfl
  refine ⟨x1, o1, vs1, hh, d1, c1, fun pins' σ' H' s' I' => ⟨I'.base.keep x1 o1 h1 h2 h3 nf, I'.base.free x1 o1 h1 h2 nf, h3, fun b fb z => ?_⟩⟩
  rcases fb.2.2.2.1 with q | q
  · exact nf (by rw [z]; exact q)
  · exact absurd (Nat.lt_of_lt_of_le (Heap.lt_size h1) q) (by rw [z]; exact Nat.lt_irrefl _)
/-- in a def's body -/
theorem hot_body {CX : CXT} {P : Program} {w : World} {K : PySem.W.Frag} {mg : Str → Option Value} {base : Heap} {N : List Str} {qual : Str} {scope : Scope} {f : Addr} {cd : Value} {A : Around} {outer : List Env} {E : XK} {p : Addr × Obj} (h1 : L2H.Hot1 A p) :
    HotX (L2H.cxH CX P w K mg base N qual scope f cd A outer s H E p) := by
  obtain ⟨hh, vs, hv, hc⟩ := h1
  refine ⟨p.1, p.2, vs, hh, hv, hc, fun pins σ H s I => ?_⟩
  have q := I.pin p (List.mem_append_left _ List.mem_cons_self)
  refine ⟨q.1, q.2.1, fun hm => ?_, fun b f => f.2.2.2.2.2 p (List.mem_append_left _ List.mem_cons_self)⟩
  exact (List.mem_cons.mp (I.stkSub p.1 hm)).elim q.2.2.1 q.2.2.2.1
/-- what a callee wants -/
theorem HotX.pin (c : HotX X) (I : Inv X pins σ H s) : ∃ p, L2H.Hot1 X.A p ∧ L2H.PinOk X.stack H s p := by
  obtain ⟨x1, o1, vs1, hh, d1, c1, h⟩ := c
  obtain ⟨h1, h2, h3, h4⟩ := h pins σ H s I
  exact ⟨(x1, o1), ⟨hh, vs1, d1, c1⟩, ⟨h1, h2, h3, fun v z => by rw [d1] at z; cases z⟩⟩
end
structure TurnG (P : Program) (w : World) (K : PySem.W.Frag) (tg : Expr) (J : It) (fp : List Addr) (it : Addr) (tn : Nat → Heap → Prop) : Prop where
  mem : it ∈ fp
  obj : ∀ i h, tn i h → ∀ b ∈ fp, ∃ o, h.get? b = some o ∧ ∀ v, o.data ≠ .cell v
  keep : ∀ i h h', tn i h → (∀ b ∈ fp, ∀ o, h.get? b = some o → h'.get? b = some o) → tn i h'
  item : ∀ (X : Cx), X.prog = P → X.w = w → X.K = K → HotX X → ∀ (i : Nat) (pins : List (Addr × Obj)) (s : Shared) (σ : L2.St) (H : Hp) (E : Value → Shared → Prop), Inv X pins σ H s → (∀ b ∈ fp, FpOk X pins H b) → tn i s.heap → J.go i H →
    wpAny (model P w) X.A (pyNext (.ref it)) (fun r s1 => ∃ u, r = some u ∧
      wpAny (model P w) X.A (letOwnedTupleGo tg (.ref it) u) (fun _ s2 => ∃ x H', Inv X pins σ H' s2 ∧ L2.RelV x u ∧ J.yld i H x H' ∧ tn (i + 1) s2.heap ∧ ∀ b ∈ fp, H' b = none) E s1) E s
  done : ∀ (X : Cx), X.prog = P → X.w = w → X.K = K → HotX X → ∀ (i : Nat) (pins : List (Addr × Obj)) (s : Shared) (σ : L2.St) (H : Hp) (E : Value → Shared → Prop), Inv X pins σ H s → (∀ b ∈ fp, FpOk X pins H b) → tn i s.heap → J.stop i H →
    wpAny (model P w) X.A (pyNext (.ref it)) (fun r s1 => r = none ∧ Inv X pins σ H s1) E s
  self : ∀ (A : Around) (i : Nat) (s : Shared) (Q : Value → Shared → Prop) (E : Value → Shared → Prop), tn i s.heap → Q (.ref it) s → wpAny (model P w) A (pyIter (.ref it)) Q E s
def PIEG (X : Cx) (pins : List (Addr × Obj)) (σ : L2.St) (tg : Expr) (R : It → Hp → Prop) (itv : Value) (s2 : Shared) : Prop :=
  ∃ (it : Addr) (fp : List Addr) (tn : Nat → Heap → Prop) (J : It) (H' : Hp), itv = .ref it ∧ Inv X pins σ H' s2 ∧ TurnG X.prog X.w X.K tg J fp it tn ∧ tn 0 s2.heap ∧ (∀ b ∈ fp, FpOk X pins H' b) ∧ R J H'
structure PIG (X : Cx) (tg iter : Expr) (wi : TI) : Prop where
  run : ∀ (pins : List (Addr × Obj)) (s : Shared) (σ : L2.St) (H : Hp) (R : It → Hp → Prop), Inv X pins σ H s → wi σ H R →
    wpAny (model X.prog X.w) X.A (eval iter X.env) (fun v s1 => wpAny (model X.prog X.w) X.A (pyIter v) (PIEG X pins σ tg R) X.xe s1) X.xe s
section
variable {P : Program} {w : World} {K : PySem.W.Frag} {elts : List Expr} {kk : Nat} {tpos : Pos} {a b z TI TO i1 i2 : Addr}
theorem turn_zipG (D : ZipApart z TI TO i1 i2 a b) :
    TurnG P w K (.Tuple elts kk tpos) (L2.Itz K a b) [z, TI, TO, i1, i2] z (fun i h => IsZip h z TI TO .none ∧ IsPair h TI (.ref i1) (.ref i2) ∧ (∃ x y, IsPair h TO x y) ∧ h.IsListIter i1 a i ∧ h.IsListIter i2 b i) where
  mem := by simp
  obj := fun i h st c hc => by
    obtain ⟨hz, hTI, ⟨x, y, hTO⟩, ⟨o1, e1, _, d1⟩, ⟨o2, e2, _, d2⟩⟩ := st
    have e' : c = z ∨ c = TI ∨ c = TO ∨ c = i1 ∨ c = i2 := by simpa using hc
    rcases e' with q | q | q | q | q
    · rw [q]; exact ⟨_, hz, fun v q => nomatch q⟩
    · rw [q]; exact ⟨_, hTI, fun v q => nomatch q⟩
    · rw [q]; exact ⟨_, hTO, fun v q => nomatch q⟩
    · rw [q]; exact ⟨o1, e1, fun v q => by rw [d1] at q; cases q⟩
    · rw [q]; exact ⟨o2, e2, fun v q => by rw [d2] at q; cases q⟩
  keep := fun i h h' st k => by
    obtain ⟨hz, hTI, ⟨x, y, hTO⟩, h1, h2⟩ := st
    exact ⟨k z (by simp) _ hz, k TI (by simp) _ hTI, ⟨x, y, k TO (by simp) _ hTO⟩, h1.at fun o q => k i1 (by simp) o q, h2.at fun o q => k i2 (by simp) o q⟩
  item := by
    intro X hP hw hK hc i pins s σ H E I hf st hg
    subst hP hw hK
    obtain ⟨hz, hTI, ⟨x0, y0, hTO⟩, h1, h2⟩ := st
    obtain ⟨xs, ys, x, y, hqx, hqy, hx, hy⟩ := hg
    obtain ⟨its, rv, p, _⟩ := I.list hqx
    obtain ⟨its2, rv2, p2, _⟩ := I.list hqy
    obtain ⟨u, hu, ru⟩ := rv.get hx
    obtain ⟨u2, hu2, ru2⟩ := rv2.get hy
    have zl : z < s.heap.objs.size := Heap.lt_size hz
    refine wpAny_pyNext_zip_item D hz hTI hTO h1 h2 p.isList p2.isList (x := u) (y := u2) (by simpa using hu) (by simpa using hu2) fun h' z' TO' h1' h2' hT hsz hk => ?_
    refine ⟨_, rfl, wpAny_letOwnedTupleGo_zip (s := { s with heap := h' }) z' fun h'' z'' sb => ?_⟩
    have T2 : h''.get? s.heap.objs.size = some { cls := .type "tuple", data := .seq #[u, u2] } := (sb.2 _ (Nat.ne_of_gt zl)).trans hT
    have new : ObjOk X.prog X.w (L2.upd H s.heap.objs.size (.tup [x, y])) h'' s.heap.objs.size (.tup [x, y]) := ⟨by show 2 ≤ sizeLine; decide, [u, u2], .cons ru (.cons ru2 .nil), ⟨_, T2, rfl, _, rfl⟩⟩
    have I1 : Inv X pins σ (L2.upd H s.heap.objs.size (.tup [x, y])) { s with heap := h'' } :=
      I.turnedNew (t' := s.toks) (ch := [z, TI, TO, i1, i2]) (fun c o hb q => (sb.2 c (fun q' => hb (by simp [q']))).trans (hk c o (fun q' => hb (by simp [q'])) (fun q' => hb (by simp [q'])) (fun q' => hb (by simp [q'])) (fun q' => hb (by simp [q'])) q)) hf (Nat.le_refl _) new
    refine ⟨.ref s.heap.objs.size, _, I1, rfl, ⟨_, x, y, rfl, I.hok.fresh (Nat.le_refl _), rfl, fun l hl => by rw [I.list_inj hl hqx]; exact hx, fun l hl => by rw [I.list_inj hl hqy]; exact hy⟩, ⟨z'', ?_, ⟨u, u2, ?_⟩, ?_, ?_⟩, fun c hcm => ?_⟩
    · exact (sb.2 _ D.TIz).trans (hk _ _ D.TIz D.TITO D.TIi1 D.TIi2 hTI)
    · exact (sb.2 _ D.TOz).trans TO'
    · exact h1'.at fun o q => (sb.2 _ D.i1z).trans q
    · exact h2'.at fun o q => (sb.2 _ D.i2z).trans q
    · have hlt : c < s.heap.objs.size := by
        have e' : c = z ∨ c = TI ∨ c = TO ∨ c = i1 ∨ c = i2 := by simpa using hcm
        rcases e' with q | q | q | q | q
        · rw [q]; exact zl
        · rw [q]; exact Heap.lt_size hTI
        · rw [q]; exact Heap.lt_size hTO
        · rw [q]; obtain ⟨_, e1, _⟩ := h1; exact Heap.lt_size e1
        · rw [q]; obtain ⟨_, e2, _⟩ := h2; exact Heap.lt_size e2
      rw [upd_ne (Nat.ne_of_lt hlt)]
      exact (hf c hcm).1
  done := by
    intro X hP hw hK hc i pins s σ H E I hf st hg
    subst hP hw hK
    obtain ⟨hz, hTI, ⟨x0, y0, hTO⟩, h1, h2⟩ := st
    obtain ⟨xs, ys, hqx, hqy, hend⟩ := hg
    obtain ⟨its, rv, p, _⟩ := I.list hqx
    obtain ⟨its2, rv2, p2, _⟩ := I.list hqy
    have l1 := rv.length
    have l2 := rv2.length
    have he : its.toArray[i]? = none ∨ its2.toArray[i]? = none := by
      rcases hend with q | q
      · exact .inl (by simp; omega)
      · exact .inr (by simp; omega)
    obtain ⟨x1, hot, na, _⟩ := hc.at I
    exact HotI.next_zipL_end hot (na z (hf z (by simp))) (na TO (hf TO (by simp))) (na i1 (hf i1 (by simp))) (na i2 (hf i2 (by simp))) D hz hTI hTO h1 h2 p.isList p2.isList he fun h' hk => ⟨rfl, I.turnedL (t' := s.toks) (ch := [z, TI, TO, i1, i2]) (fun c o hb q =>
      hk c o (fun q' => hb (by simp [q'])) (fun q' => hb (by simp [q'])) (fun q' => hb (by simp [q'])) (fun q' => hb (by simp [q'])) q) hf⟩
  self := fun A i s Q E st h => wpAny_pyIter_zip st.1 h
theorem turn_zipTG (D : ZipApart z TI TO i1 i2 a b) :
    TurnG P w K (.Tuple elts kk tpos) (RZ.ItzT K a b) [z, TI, TO, i1, i2] z (fun i h => IsZip h z TI TO .none ∧ IsPair h TI (.ref i1) (.ref i2) ∧ (∃ x y, IsPair h TO x y) ∧ h.IsTupleIter i1 a i ∧ h.IsTupleIter i2 b i) where
  mem := by simp
  obj := fun i h st c hc => by
    obtain ⟨hz, hTI, ⟨x, y, hTO⟩, ⟨o1, e1, _, d1⟩, ⟨o2, e2, _, d2⟩⟩ := st
    have e' : c = z ∨ c = TI ∨ c = TO ∨ c = i1 ∨ c = i2 := by simpa using hc
    rcases e' with q | q | q | q | q
    · rw [q]; exact ⟨_, hz, fun v q => nomatch q⟩
    · rw [q]; exact ⟨_, hTI, fun v q => nomatch q⟩
    · rw [q]; exact ⟨_, hTO, fun v q => nomatch q⟩
    · rw [q]; exact ⟨o1, e1, fun v q => by rw [d1] at q; cases q⟩
    · rw [q]; exact ⟨o2, e2, fun v q => by rw [d2] at q; cases q⟩
  keep := fun i h h' st k => by
    obtain ⟨hz, hTI, ⟨x, y, hTO⟩, h1, h2⟩ := st
    exact ⟨k z (by simp) _ hz, k TI (by simp) _ hTI, ⟨x, y, k TO (by simp) _ hTO⟩, h1.at fun o q => k i1 (by simp) o q, h2.at fun o q => k i2 (by simp) o q⟩
  item := by
    intro X hP hw hK hc i pins s σ H E I hf st hg
    subst hP hw hK
    obtain ⟨hz, hTI, ⟨x0, y0, hTO⟩, h1, h2⟩ := st
    obtain ⟨xs, ys, x, y, hqx, hqy, hx, hy⟩ := hg
    obtain ⟨its, rv, p, _⟩ := I.tuple hqx
    obtain ⟨its2, rv2, p2, _⟩ := I.tuple hqy
    obtain ⟨u, hu, ru⟩ := rv.get hx
    obtain ⟨u2, hu2, ru2⟩ := rv2.get hy
    have zl : z < s.heap.objs.size := Heap.lt_size hz
    refine RZ.pyNext_zipT_item D hz hTI hTO h1 h2 p p2 (x := u) (y := u2) (by simpa using hu) (by simpa using hu2) fun h' z' TO' h1' h2' hT hsz hk => ?_
    refine ⟨_, rfl, wpAny_letOwnedTupleGo_zip (s := { s with heap := h' }) z' fun h'' z'' sb => ?_⟩
    have T2 : h''.get? s.heap.objs.size = some { cls := .type "tuple", data := .seq #[u, u2] } := (sb.2 _ (Nat.ne_of_gt zl)).trans hT
    have new : ObjOk X.prog X.w (L2.upd H s.heap.objs.size (.tup [x, y])) h'' s.heap.objs.size (.tup [x, y]) := ⟨by show 2 ≤ sizeLine; decide, [u, u2], .cons ru (.cons ru2 .nil), ⟨_, T2, rfl, _, rfl⟩⟩
    have I1 : Inv X pins σ (L2.upd H s.heap.objs.size (.tup [x, y])) { s with heap := h'' } :=
      I.turnedNew (t' := s.toks) (ch := [z, TI, TO, i1, i2]) (fun c o hb q => (sb.2 c (fun q' => hb (by simp [q']))).trans (hk c o (fun q' => hb (by simp [q'])) (fun q' => hb (by simp [q'])) (fun q' => hb (by simp [q'])) (fun q' => hb (by simp [q'])) q)) hf (Nat.le_refl _) new
    refine ⟨.ref s.heap.objs.size, _, I1, rfl, ⟨_, x, y, rfl, I.hok.fresh (Nat.le_refl _), rfl, fun l hl => by rw [I.tuple_inj hl hqx]; exact hx, fun l hl => by rw [I.tuple_inj hl hqy]; exact hy⟩, ⟨z'', ?_, ⟨u, u2, ?_⟩, ?_, ?_⟩, fun c hcm => ?_⟩
    · exact (sb.2 _ D.TIz).trans (hk _ _ D.TIz D.TITO D.TIi1 D.TIi2 hTI)
    · exact (sb.2 _ D.TOz).trans TO'
    · exact h1'.at fun o q => (sb.2 _ D.i1z).trans q
    · exact h2'.at fun o q => (sb.2 _ D.i2z).trans q
    · have hlt : c < s.heap.objs.size := by
        have e' : c = z ∨ c = TI ∨ c = TO ∨ c = i1 ∨ c = i2 := by simpa using hcm
        rcases e' with q | q | q | q | q
        · rw [q]; exact zl
        · rw [q]; exact Heap.lt_size hTI
        · rw [q]; exact Heap.lt_size hTO
        · rw [q]; obtain ⟨_, e1, _⟩ := h1; exact Heap.lt_size e1
        · rw [q]; obtain ⟨_, e2, _⟩ := h2; exact Heap.lt_size e2
      rw [upd_ne (Nat.ne_of_lt hlt)]
      exact (hf c hcm).1
  done := by
    intro X hP hw hK hc i pins s σ H E I hf st hg
    subst hP hw hK
    obtain ⟨hz, hTI, ⟨x0, y0, hTO⟩, h1, h2⟩ := st
    obtain ⟨xs, ys, hqx, hqy, hend⟩ := hg
    obtain ⟨its, rv, p, _⟩ := I.tuple hqx
    obtain ⟨its2, rv2, p2, _⟩ := I.tuple hqy
    have l1 := rv.length
    have l2 := rv2.length
    have he : its.toArray[i]? = none ∨ its2.toArray[i]? = none := by
      rcases hend with q | q
      · exact .inl (by simp; omega)
      · exact .inr (by simp; omega)
    obtain ⟨x1, hot, na, _⟩ := hc.at I
    exact HotI.next_zipT_end hot (na z (hf z (by simp))) (na TO (hf TO (by simp))) (na i1 (hf i1 (by simp))) (na i2 (hf i2 (by simp))) D hz hTI hTO h1 h2 p p2 he fun h' hk => ⟨rfl, I.turnedL (t' := s.toks) (ch := [z, TI, TO, i1, i2]) (fun c o hb q =>
      hk c o (fun q' => hb (by simp [q'])) (fun q' => hb (by simp [q'])) (fun q' => hb (by simp [q'])) (fun q' => hb (by simp [q'])) q) hf⟩
  self := fun A i s Q E st h => wpAny_pyIter_zip st.1 h
end
theorem pi_zipAG {X : Cx} {e e2 : Expr} {ta : TA} {p pos tpos : Pos} {elts : List Expr} {kk : Nat} (hg : Gl X "zip") (hm : X.mg "zip" = none) (ha : PA X [e, e2] ta)
    (hs : starEach [e, e2] X.env = (false, eval e X.env) :: starEach [e2] X.env := by rfl) (hpl : (backTo pos (starEach [e2] X.env)).any (·.1) = false := by rfl) :
    PIG X (.Tuple elts kk tpos) (.Call (.Name "zip" p) [e, e2] [] pos) (RZ.iZipA X.K ta) := by
  refine ⟨fun pins s σ H R I h => ?_⟩
  refine Call_ (ld_blt I hg hm PyProof.Rows.boot_zip (PyProof.Rows.callWith_type1 (thn (ha.run pos pins s σ H _ I h) fun us s1 ⟨vs, H1, I1, r1, q1⟩ => ?_) hs hpl))
  obtain ⟨a, b, xs, ys, ex, q1⟩ := q1
  subst ex
  cases r1 with
  | cons r rr =>
    cases rr with
    | cons r' rr =>
      cases rr
      cases r
      cases r'
      have fresh5 : ∀ c, c ∈ [s1.heap.objs.size + 4, s1.heap.objs.size + 2, s1.heap.objs.size + 3, s1.heap.objs.size, s1.heap.objs.size + 1] → FpOk X pins H1 c := fun c hcm => by
        have e' : c = s1.heap.objs.size + 4 ∨ c = s1.heap.objs.size + 2 ∨ c = s1.heap.objs.size + 3 ∨ c = s1.heap.objs.size ∨ c = s1.heap.objs.size + 1 := by simpa using hcm
        have hle : s1.heap.objs.size ≤ c := by
          rcases e' with z | z | z | z | z
          · rw [z]; exact Nat.le_add_right _ _
          · rw [z]; exact Nat.le_add_right _ _
          · rw [z]; exact Nat.le_add_right _ _
          · rw [z]; exact Nat.le_refl _
          · rw [z]; exact Nat.le_add_right _ _
        exact I1.fpOk hle (I1.hok.fresh hle)
      rcases q1 with ⟨hqx, hqy, q⟩ | ⟨hqx, hqy, q⟩
      · obtain ⟨its, rv, p1, _⟩ := I1.list hqx
        obtain ⟨its2, rv2, p2, _⟩ := I1.list hqy
        refine call_zip_2 p1.isList p2.isList fun h' hz hTI hTO h1 h2 hsz hk => wpAny_pyIter_zip hz ?_
        have I2 : Inv X pins σ H1 { s1 with heap := h' } := I1.kept (t' := s1.toks) hk
        exact ⟨s1.heap.objs.size + 4, [s1.heap.objs.size + 4, s1.heap.objs.size + 2, s1.heap.objs.size + 3, s1.heap.objs.size, s1.heap.objs.size + 1], _, _, H1, rfl, I2, turn_zipG (PySem.W.ktu_apart s1.heap.objs.size a b p1.lt p2.lt), ⟨hz, hTI, ⟨_, _, hTO⟩, h1, h2⟩, fresh5, q⟩
      · obtain ⟨its, rv, p1, _⟩ := I1.tuple hqx
        obtain ⟨its2, rv2, p2, _⟩ := I1.tuple hqy
        obtain ⟨o1, ho1, _⟩ := id p1
        obtain ⟨o2, ho2, _⟩ := id p2
        refine RZ.call_zipT (show s1.heap.IsTuple a its.toArray from p1) (show s1.heap.IsTuple b its2.toArray from p2) fun h' hz hTI hTO h1 h2 hsz hk => wpAny_pyIter_zip hz ?_
        have I2 : Inv X pins σ H1 { s1 with heap := h' } := I1.kept (t' := s1.toks) hk
        exact ⟨s1.heap.objs.size + 4, [s1.heap.objs.size + 4, s1.heap.objs.size + 2, s1.heap.objs.size + 3, s1.heap.objs.size, s1.heap.objs.size + 1], _, _, H1, rfl, I2, turn_zipTG (PySem.W.ktu_apart s1.heap.objs.size a b (Heap.lt_size ho1) (Heap.lt_size ho2)), ⟨hz, hTI, ⟨_, _, hTO⟩, h1, h2⟩, fresh5, q⟩
section
variable {X : Cx}
theorem lc_coreG {pins : List (Addr × Obj)} {s : Shared} {σ : L2.St} {H : Hp} {Q : VK} {elt tg iter : Expr} {ifs : List Expr} {scope : Scope} {own : List (Str × Nat)} {pos pos' : Pos} {wi : TI} {g : TG} {tt : TT} {te : TE} {use : Option (Value → Sem Unit)} {Qf : Value → Shared → Prop}
    (hc : HotX X) (hN : X.N.Nodup) (I : Inv X pins σ H s) (hi : PIG X tg iter wi) (ok : BlkOk X.N X.env.scope scope own)
    (hg : ∀ (s : Shared) (H : Hp) (C : Addr) (cl : List (Str × Addr)) (fp : List Addr), HotX (X.blk s H scope (compEnvC scope cl C X.env) fp) → PG (X.blk s H scope (compEnvC scope cl C X.env) fp) tg g) (ht : ∀ (s : Shared) (H : Hp) (C : Addr) (cl : List (Str × Addr)) (fp : List Addr), HotX (X.blk s H scope (compEnvC scope cl C X.env) fp) → PTs (X.blk s H scope (compEnvC scope cl C X.env) fp) ifs tt)
    (he : ∀ (s : Shared) (H : Hp) (C : Addr) (cl : List (Str × Addr)) (fp : List Addr), HotX (X.blk s H scope (compEnvC scope cl C X.env) fp) → PE (X.blk s H scope (compEnvC scope cl C X.env) fp) elt te) (hs : ∀ x, foldedSetIterable iter X.env x = pure x)
    (h : tLc wi g tt te (own.map (·.2)) σ H Q)
    (hRR : ∀ D C s' m H', Inv X pins σ H' s' → Q (.ref D) H' → s'.heap.Ns C m → FpOk X pins H' C → compPost (model X.prog X.w) X.A X.xe use Qf (.ref D) C (.ok .next) s') :
    wpAny (model X.prog X.w) X.A (comprehension (.ListComp elt [⟨tg, iter, ifs, 0⟩] scope pos) scope X.env pos' (newList []) false (eval iter X.env) use) Qf X.xe s := by
  have hfree : ∀ y ∈ scope.names, y.2 = .free → ∃ c, X.env.cells.lookup y.1 = some c := fun y hy e => by
    rcases ok.free y hy e with k | k
    · exact I.ok.has _ (.inl k)
    · exact I.ok.has _ (.inr k)
  refine wpAny_comprehension_free (use := use) rfl hs (closure_ok hfree) ok.kind (fun y hy e => by rw [ok.uniq y hy, e])
    (thn (hi.run pins s σ H _ I h) fun xv s1 hx => thn hx fun itv s2 h2 => ?_)
  obtain ⟨it, fp, tn, J, H2, e, I2, T, st2, f2, q⟩ := h2
  subst e
  refine wpAny_newObj_type (newEnv_comp ?_) (by show 0 ≤ sizeLine; decide)
  generalize hD : s2.heap.objs.size = D
  have hDn : H2 D = none := I2.hok.fresh (Nat.le_of_eq hD)
  obtain ⟨W, ⟨m0, w0⟩, turn⟩ := q D hDn
  -- the new list
  generalize hs3 : ({ s2 with heap := s2.heap.push { cls := .type "list", data := .seq ([] : List Value).toArray } } : Shared) = s3
  have I3 : Inv X pins σ (L2.upd H2 D (.lst [])) s3 := by
    rw [← hs3]
    refine I2.laid (t' := s2.toks) (fun b o e => Heap.get?_push_of_some _ e) (Nat.le_of_eq hD) ⟨Nat.zero_le _, [], 0, .nil, ?_⟩
    rw [← hD]
    exact Heap.get?_push_size _ rfl
  have h3 : s3.heap = s2.heap.push { cls := .type "list", data := .seq ([] : List Value).toArray } := by rw [← hs3]
  have sz : ∀ b ∈ fp, b < s2.heap.objs.size := fun b hb => by
    obtain ⟨o, e, _⟩ := T.obj _ _ st2 b hb
    exact Heap.lt_size e
  have f3 : ∀ b ∈ fp, FpOk X pins (L2.upd H2 D (.lst [])) b ∧ b < s3.heap.objs.size := fun b hb => by
    have hlt := sz b hb
    refine ⟨⟨?_, (f2 b hb).2⟩, by rw [h3, Heap.size_push]; exact Nat.lt_succ_of_lt hlt⟩
    rw [upd_ne (by rw [← hD]; exact Nat.ne_of_lt hlt)]
    exact (f2 b hb).1
  have st3 : tn 0 s3.heap := T.keep _ _ _ st2 fun b _ o e => by rw [h3]; exact Heap.get?_push_of_some _ e
  have I4 := block_start I3 ok hN f3
  have hcb : ∀ ce, HotX (X.blk s3 (L2.upd H2 D (.lst [])) scope ce fp) := fun ce => hc.blk I3 fun b hb => (f3 b hb).1
  have pg := hg s3 (L2.upd H2 D (.lst [])) s3.heap.objs.size (cellsFrom (s3.heap.objs.size + 1) scope.names (cloFrom X.env.cells scope.names [])) fp (hcb _)
  have pt := ht s3 (L2.upd H2 D (.lst [])) s3.heap.objs.size (cellsFrom (s3.heap.objs.size + 1) scope.names (cloFrom X.env.cells scope.names [])) fp (hcb _)
  have pe := he s3 (L2.upd H2 D (.lst [])) s3.heap.objs.size (cellsFrom (s3.heap.objs.size + 1) scope.names (cloFrom X.env.cells scope.names [])) fp (hcb _)
  show codeAny _ _ (.compStart (.ListComp elt [⟨tg, iter, ifs, 0⟩] scope pos) 0 (.ref it) (.ref D) (compEnvC scope (cellsFrom (s3.heap.objs.size + 1) scope.names (cloFrom X.env.cells scope.names [])) s3.heap.objs.size X.env)) (compPost (model X.prog X.w) X.A X.xe use Qf (.ref D) s3.heap.objs.size) { s3 with heap := pushCells (s3.heap.push { cls := .type "dict", data := .dict #[] }) scope.names }
  have nfp : ∀ b ∈ fp, (L2.upd H2 D (.lst [])) b = none := fun b hb => (f3 b hb).1.1
  generalize hce : compEnvC scope (cellsFrom (s3.heap.objs.size + 1) scope.names (cloFrom X.env.cells scope.names [])) s3.heap.objs.size X.env = ce at I4 pg pt pe ⊢
  have hcc := hcb ce
  have cL : ce.locals = s3.heap.objs.size := by subst hce; rfl
  generalize hH3 : L2.upd H2 D (.lst []) = H3 at I3 I4 pg pt pe w0 nfp f3 hcc
  generalize hs4 : ({ s3 with heap := pushCells (s3.heap.push { cls := .type "dict", data := .dict #[] }) scope.names } : Shared) = s4 at I4 ⊢
  have st4 : tn 0 s4.heap := T.keep _ _ _ st3 fun b _ o e => by rw [← hs4]; exact pushCells_keeps _ _ _ _ (Heap.get?_push_of_some _ e)
  have stat : ∀ {σ' : L2.St} {H' : Hp} {s' : Shared}, Inv (X.blk s3 H3 scope ce fp) [] σ' H' s' → (∀ b ∈ fp, H' b = none) → ∀ b ∈ fp, FpOk (X.blk s3 H3 scope ce fp) [] H' b := fun {σ' H' s'} I' hn b hb =>
    ⟨hn b hb, (I'.ok.exf b hb).1, I'.ok.exfs b hb, .inl hb, fun x c e => (I'.ok.exf b hb).2 x c e, fun p hp => absurd (show p ∈ ([] : List (Addr × Obj)) ++ [] from hp) (by simp)⟩
  have loop : codeAny (model X.prog X.w) X.A (.compLoop (.ListComp elt [⟨tg, iter, ifs, 0⟩] scope pos) 0 (.ref it) (.ref D) ce) (compPost (model X.prog X.w) X.A X.xe use Qf (.ref D) s3.heap.objs.size) s4 := by
    refine compLoop_any (fun n s' => ∃ i H', Inv (X.blk s3 H3 scope ce fp) [] (wipe σ (own.map (·.2))) H' s' ∧ tn i s'.heap ∧ (∀ b ∈ fp, H' b = none) ∧ W i n H') ?_ m0 ⟨0, H3, I4, st4, nfp, w0⟩
    rintro n s5 ⟨i, H5, I5, st5, n5, w5⟩
    rcases turn i n H5 w5 with ⟨stop, qq⟩ | ⟨go, Nx, hNx, step⟩
    · have td := T.done (X.blk s3 H3 scope ce fp) rfl rfl rfl hcc i [] s5 _ H5 (fun _ _ => False) I5 (stat I5 n5) st5 stop
      refine thnF td fun r s6 ⟨hr, I6⟩ => ?_
      subst hr
      -- back in the def's context
      have I7 : Inv X pins σ H5 s6 := I3.call' (ch := fp) I6.os I6.base I6.hok I6.bare fun b hb => ⟨(f3 b hb).1.2.2.2.1, (f3 b hb).1.2.1, (f3 b hb).1.2.2.2.2.1, (f3 b hb).1.2.2.2.2.2⟩
      have nC : H5 s3.heap.objs.size = none := by
        have z : H5 ce.locals = none := I6.free
        rw [cL] at z
        exact z
      obtain ⟨m, hn, _⟩ := I6.loc
      have hn : s6.heap.Ns ce.locals m := hn
      rw [cL] at hn
      exact hRR D s3.heap.objs.size s6 m H5 I7 qq hn (I3.fpOk (Nat.le_refl _) nC)
    · have ti := T.item (X.blk s3 H3 scope ce fp) rfl rfl rfl hcc i [] s5 _ H5 (fun _ _ => False) I5 (stat I5 n5) st5 go
      refine thnF ti fun r s6 ⟨u, hr, h6⟩ => ?_
      subst hr
      refine thnF h6 fun _ s7 ⟨x, H7, I7, r7, y7, st7, n7⟩ => ?_
      have I7' := I7.pinned (stat I7 n7) (T.obj _ _ st7)
      refine thnF (pg.run _ s7 _ H7 x u _ I7' r7 (step x H7 y7)) fun _ s8 ⟨σ8, H8, I8, hw8, q8⟩ => ?_
      refine thnF (pt.run _ s8 σ8 H8 _ I8 q8) fun b s9 ⟨H9, I9, q9⟩ => ?_
      -- the turn's end
      have fin : ∀ {s' : Shared} {H' : Hp}, Inv (X.blk s3 H3 scope ce fp) ([] ++ pinsAt fp s7.heap) σ8 H' s' → Nx H' → ∃ m, m < n ∧ ∃ i H', Inv (X.blk s3 H3 scope ce fp) [] (wipe σ (own.map (·.2))) H' s' ∧ tn i s'.heap ∧ (∀ b ∈ fp, H' b = none) ∧ W i m H' := fun {s' H'} I' nx => by
        obtain ⟨m', hm, w'⟩ := hNx H' nx
        have pin' : ∀ b ∈ fp, ∀ o, s7.heap.get? b = some o → s'.heap.get? b = some o ∧ H' b = none := fun b hb o e =>
          let z := I'.pin (b, o) (List.mem_append_right _ (List.mem_append_right _ (mem_pinsAt hb e)))
          ⟨z.1, z.2.1⟩
        have hl : (wipe σ (own.map (·.2))).length = σ8.length := by rw [← hw8, wipe_length]
        refine ⟨m', hm, i + 1, H', (I'.unpinned (pins := [])).weak hl (fun j v e => ?_), T.keep _ _ _ st7 fun b hb o e => (pin' b hb o e).1, fun b hb => ?_, w'⟩
        · rw [← hw8] at e
          exact (wipe_some e).1
        · obtain ⟨o, e, _⟩ := T.obj _ _ st7 b hb
          exact (pin' b hb o e).2
      cases b with
      | false =>
        simp only [Bool.false_eq_true, if_false] at q9 ⊢
        exact fin I9 q9
      | true =>
        simp only [if_true] at q9 ⊢
        refine thnF (pe.run _ s9 σ8 H9 _ I9 q9) fun z s10 ⟨yv, H10, I10, r10, acc, hD10, hz10, nx⟩ => ?_
        exact app_ok (X := X.blk s3 H3 scope ce fp) I10 hD10 hz10 r10 fun s11 I11 => fin I11 nx
  exact codeAny_compStart_list loop (T.self X.A 0 _ _ _ st4 loop)
theorem pe_lcG {elt tg iter : Expr} {ifs : List Expr} {scope : Scope} {own : List (Str × Nat)} {pos : Pos} {wi : TI} {g : TG} {tt : TT} {te : TE} (hc : HotX X) (hN : X.N.Nodup) (hi : PIG X tg iter wi) (ok : BlkOk X.N X.env.scope scope own)
    (hg : ∀ (s : Shared) (H : Hp) (C : Addr) (cl : List (Str × Addr)) (fp : List Addr), HotX (X.blk s H scope (compEnvC scope cl C X.env) fp) → PG (X.blk s H scope (compEnvC scope cl C X.env) fp) tg g) (ht : ∀ (s : Shared) (H : Hp) (C : Addr) (cl : List (Str × Addr)) (fp : List Addr), HotX (X.blk s H scope (compEnvC scope cl C X.env) fp) → PTs (X.blk s H scope (compEnvC scope cl C X.env) fp) ifs tt)
    (he : ∀ (s : Shared) (H : Hp) (C : Addr) (cl : List (Str × Addr)) (fp : List Addr), HotX (X.blk s H scope (compEnvC scope cl C X.env) fp) → PE (X.blk s H scope (compEnvC scope cl C X.env) fp) elt te) (hs : ∀ x, foldedSetIterable iter X.env x = pure x := by intro _; rfl) :
    PE X (.ListComp elt [⟨tg, iter, ifs, 0⟩] scope pos) (tLc wi g tt te (own.map (·.2))) := by
  refine ⟨fun pins s σ H Q I h => ?_⟩
  rw [eval_ListComp]
  refine lc_coreG hc hN I hi ok hg ht he hs h fun D C s' m H' I' q hn f => ⟨m, hn, fun h'' sb => ?_⟩
  obtain ⟨f0, f1, f2, f3, f4, f5⟩ := f
  exact ⟨.ref D, H', I'.turned (t' := s'.toks) (fun b o hb e => (sb.2 b hb).trans e) f0 f1 f3 f4 f5, rfl, q⟩
theorem hr_units {k : Nat} {A : Around} (r : L2H.RoomH k A) : A.units + 64 < cLine := by have := r.un; omega
/-- a def keeps its promise while an exception is handled -/
structure FPH (P : Program) (w : World) (K : PySem.W.Frag) (mg : Str → Option Value) (base : Heap) (x : Str) (k n : Nat) (sp : DSp) : Prop where
  ex : ∃ fd ps, L2H.FnH P w K mg base CX0 k (He.ga K x) fd ps (up K n sp) ∧ Binds K fd ps []
  kp : PySem.W.keepIn K (.ref (He.ga K x)) = true
  at_ : mg x = some (.ref (He.ga K x))
theorem pe_fG {x : Str} {p pos : Pos} {e : Expr} {es : List Expr} {t : TA} {k n : Nat} {sp : DSp} (h : FPH X.prog X.w X.K X.mg X.base x k n sp) (hc : HotX X) (hr : L2H.RoomH k X.A) (hg : Gl X x) (ha : PA X (e :: es) t) (hdb : (x == ("__debug__" : Str)) = false := by decide)
    (he : starEach (e :: es) X.env = (false, eval e X.env) :: starEach es X.env := by rfl) (hpl : (backTo pos (starEach es X.env)).any (·.1) = false := by rfl) : PE X (.Call (.Name x p) (e :: es) [] pos) (tCall (up X.K n sp) [] E0 t) := by
  obtain ⟨fd, ps, F, b⟩ := h.ex
  refine ⟨fun pins s σ H Q I hh => ?_⟩
  refine wpAny_Call_Name_kw (ld_glob I hg h.at_ ?_ hdb)
  refine PySem.W.callWith_K (h₀ := X.base) I.ok.mod.kin h.kp (thn (ha.run pos pins s σ H _ I hh) fun us s1 ⟨vs, H1, I1, r, q⟩ => ⟨I1.kIn, ?_⟩) he hpl
  have q : up X.K n sp (vs ++ []) H1 Q E0 := q
  rw [List.append_nil] at q
  have hl : us.length = ps.length := by rw [← r.length]; exact F.len _ _ _ _ q
  have b2 := b s1 us I1.kIn (by rw [List.append_nil]; exact hl)
  rw [List.append_nil] at b2
  obtain ⟨p1, h1, h2⟩ := hc.pin I1
  refine wpAny_call (codeAny_mono (F.run X.A X.stack s1 H1 ⟨us, []⟩ us vs Q E0 p1 hr h1 h2 I1.env0 b2 r q) fun r s' hq => ?_)
  cases r with
  | error e => exact False.elim hq
  | ok fl =>
    cases fl with
    | ret u => exact I1.after hq
    | next => exact False.elim hq
    | brk => exact False.elim hq
    | cont => exact False.elim hq
theorem pg_tupG {es : List Expr} {k : Nat} {t : TGs} {n : Nat} {pos : Pos} (hc : HotX X) (h : PGs X es t)
    (hn : (assignEach es X.env).length = n := by rfl) (hst : (assignEach es X.env).findIdx? (·.1) = none := by rfl) : PG X (.Tuple es k pos) (gTup X.K n t) := by
  refine ⟨fun pins s σ H v u Q I r hw => ?_⟩
  obtain ⟨a, xs, e1, hq, hl, hw⟩ := hw
  subst e1
  cases r
  obtain ⟨its, rv, ht, hz⟩ := I.tuple hq
  obtain ⟨x1, hot, _, _⟩ := hc.at I
  refine HotI.assign_tuple_hot hot ht (by simp [hn, ← hl, rv.length]) hst fun h' hx => ?_
  have I1 : Inv X pins σ H { s with heap := h' } := I.kept (t' := s.toks) fun b o e => hx b o (Nat.ne_of_lt (Heap.lt_size e)) e
  exact h.run pins _ σ H xs _ Q I1 (by simpa using rv) hw
theorem cr_allG (hc : HotX X) : CallR X (.builtin "all") (rAll X.K) := by
  intro pins s σ H vs us Q I r h
  obtain ⟨a, bs, rfl, hs, q⟩ := h
  obtain ⟨its, rv, hl, _⟩ := I.list hs
  rw [Vals.ref1 r]
  have hb := rv.bls
  obtain ⟨x1, ⟨hh, o1, vs1, g1, d1, c1⟩, _, nb⟩ := hc.at I
  refine call_all_walk (iter_any hl.isList fun s₂ e2 st hne => ?_)
  subst e2
  refine ⟨_, _, _, _, _, _, _, rfl, HotI.walks_list (A := X.A.in1) hh d1 c1 _ a hne (nb _ (Nat.le_refl _)) its.toArray, ⟨st.1, st.2, Heap.get?_push_of_some _ g1⟩, truth_bools hb, fun h' tk hk => ?_⟩
  refine ⟨.bl _, H, I.kept fun b o eo => hk b o (fun hmem => ?_) (Heap.get?_push_of_some _ eo), ?_, q⟩
  · rcases List.mem_cons.mp hmem with e1 | hmem
    · exact absurd (e1 ▸ Heap.lt_size eo) (Nat.lt_irrefl _)
    · cases hmem
  · show Value.bool _ = Value.bool _
    rw [← L2.all_range, hb, List.size_toArray, List.length_map]
end
/-- THE RULE for such a def -/
theorem fnD_okH {P : Program} {w : World} {K : PySem.W.Frag} {mg : Str → Option Value} {base : Heap} {x qual : Str} {params : Arguments} {body : List Stmt} {scope : Scope} {dvs : List V} {kws : List (Str × V)} {f : Addr} {fd : FuncData} {N ps : List Str} {k : Nat} {sp : Sp} (F : FunD K x qual params body scope dvs kws f fd) (S : FnScope N ps scope)
    (len : ∀ vs H Q E, sp vs H Q E → vs.length = ps.length)
    (hbody : ∀ (cdv : Value) (A : Around) (outer : List Env) (s : Shared) (H : Hp) (vs : List V) (Q : VK) (E : XK) (p : Addr × Obj), HotX (L2H.cxH CX0 P w K mg base N qual scope f cdv A outer s H E p) → L2H.RoomH k (A.deeper (envOfC qual scope s.heap.objs.size f cdv)) → sp vs H Q E →
      ∃ t, PSs (L2H.cxH CX0 P w K mg base N qual scope f cdv A outer s H E p) body t ∧ t { nx := fun _ H' => Q .non H', rt := Q } (start N vs) H) : L2H.FnH P w K mg base CX0 (k + 1) f fd ps sp := by
  obtain ⟨oc, od, dV, kV, doc, pm, an, cdv, ct, osl, rfl, lk, hcd, _, _⟩ := F.ex
  exact L2H.fn_ofH lk hcd S len fun A outer s H vs Q E p h1 hr hsp => hbody cdv A outer s H vs Q E p (hot_body h1) hr hsp
end L3
namespace L3
open PySem PySem.Spec PyProof.Rows L2
section
variable {δ : En} {n : En → Prop} {rt : R → En → Prop} {bk ct : En → Prop} {ex : XQ} {S S2 : DSX} {C : DTT} {T : DT} {TA : DTA} {Q : R → En → Prop} {E3 : XQ}
theorem x_p {S : DS} (k : S ⟨n, rt, bk, ct⟩ δ) : xp S ⟨⟨n, rt, bk, ct⟩, ex⟩ δ := k
end
end L3
namespace L3
open PySem PySem.Spec PyProof.Rows L2
theorem SndX.mono {K : PySem.W.Frag} {ps as bs : List Nat} {t : WX → TS} {T : DSX} (a : SndX K ps as t T) (h : ∀ i, i ∈ as → i ∈ bs) : SndX K ps bs t T := fun F hps hp W σ H G δ D3 D s q g ge =>
  a F hps (fun i hi => hp i (h i hi)) W σ H G δ D3 D s q ⟨fun _ _ _ _ n => g.nx _ _ _ _ (n.mono h), fun _ _ _ _ n => g.bk _ _ _ _ (n.mono h), fun _ _ _ _ n => g.ct _ _ _ _ (n.mono h), fun _ _ _ _ _ _ n => g.rt _ _ _ _ _ _ (n.mono h)⟩ fun _ _ _ _ _ _ _ _ _ n x q => ge _ _ _ _ _ _ _ _ _ (n.mono h) x q
theorem SaysY.at {fa : List He.Fa} {fn : List He.DefD} {ex : PySem.W.Frag → Bool} {fc : List DefC} {K : PySem.W.Frag} (c : SaysY fa fn ex fc K) (i : Nat) {d : DefC} (e : fc[i]? = some d) : fnC K d.cn = d.val := by
  have h := congrArg (fun z : List FnC => z[i]?) c.c
  simp only [List.getElem?_map, e, Option.map_some, Option.some.injEq] at h
  exact h
end L3
namespace L3
open PySem PySem.Spec PyProof.Rows L2
section
variable {K : PySem.W.Frag}
def Junk (HE HB : Hp) (σ : L2.St) (H G : Hp) (δ : En) (S : List Nat) (r : Nat) : Prop := ∀ s ∈ S, ∃ p ws, σ[s]? = some (some (.ref p)) ∧ ¬ Ad σ δ p ∧ G p = none ∧ HE p = none ∧ HB p = none ∧ H p = some (.lst ws) ∧ 0 < ws.length ∧ ws.length + r < sizeLine
theorem Junk.keep {HE HB : Hp} {σ : L2.St} {H H1 G : Hp} {δ : En} {S : List Nat} {r : Nat} (g : Junk HE HB σ H G δ S r) (k : ∀ b o, H b = some o → H1 b = some o) : Junk HE HB σ H1 G δ S r := fun s hs => by
  obtain ⟨p, ws, h1, h2, h3, h4, h5, h6, h7, h8⟩ := g s hs
  exact ⟨p, ws, h1, h2, h3, h4, h5, k _ _ h6, h7, h8⟩
theorem Junk.put {HE HB : Hp} {σ : L2.St} {H G : Hp} {δ : En} {S : List Nat} {r : Nat} {p : Addr} {ws : List V} (g : Junk HE HB σ H G δ S (r + 1)) (h0 : 0 < ws.length) (h1 : ws.length + r < sizeLine) : Junk HE HB σ (L2.upd H p (.lst ws)) G δ S r := fun s hs => by
  obtain ⟨q, vs, e1, e2, e3, e4, e5, e6, e7, e8⟩ := g s hs
  by_cases z : q = p
  · subst z
    exact ⟨q, ws, e1, e2, e3, e4, e5, upd_same, h0, h1⟩
  · exact ⟨q, vs, e1, e2, e3, e4, e5, by rw [upd_ne z]; exact e6, e7, by omega⟩
theorem AtL.at {G : Hp} : ∀ {vs : List V} {ds : List D} {k : Nat} {d : D}, AtL K G vs ds → ds[k]? = some d → ∃ v, vs[k]? = some v ∧ At K G v d
  | _, _, _, _, .nil, h => by simp at h
  | _, _, 0, _, .cons a t, h => by
    cases h
    exact ⟨_, rfl, a⟩
  | _, _, k + 1, _, .cons a t, h => by
    obtain ⟨v, h1, h2⟩ := AtL.at t (show _ = _ from h)
    exact ⟨v, h1, h2⟩
theorem Grid.put {F : FE} {as0 : List Nat} {σ0 σ : L2.St} {H0 G0 H G : Hp} {δ0 δ : En} {m : Nat} {M : Addr} {al : List Addr} {rows : List (List D)} {k j : Nat} {a : Addr} {row : List D} {vs : List V} {v : V} {d : D} (n : Nxt K F as0 σ0 H0 G0 δ0 σ H G δ) (g : Grid K F.HE H0 σ H G δ m M al (rows.map some)) (ea : al[k]? = some a) (er : rows[k]? = some row)
    (ha : H a = some (.lst vs)) (ta : AtL K G vs row) (hv : At K G v d) : Nxt K F as0 σ0 H0 G0 δ0 σ (L2.upd H a (.lst (vs.set j v))) G δ ∧ Grid K F.HE H0 σ (L2.upd H a (.lst (vs.set j v))) G δ m M al ((rows.set k (row.set j d)).map some) := by
  obtain ⟨na, ga, _⟩ := g.row k a row ea (by rw [List.getElem?_map, er]; rfl)
  obtain ⟨he, hb⟩ := g.fr a (List.mem_cons_of_mem _ (List.mem_of_getElem? ea))
  have nd := List.nodup_cons.mp g.nd
  have neM : M ≠ a := fun z => nd.1 (by rw [z]; exact List.mem_of_getElem? ea)
  refine ⟨n.spoil na ga he hb, ⟨g.sl, by rw [upd_ne neM]; exact g.hM, g.gM, g.fr, g.nd, g.ad, by rw [g.len, List.length_map, List.length_map, List.length_set], fun i a' r' e1 e2 => ?_⟩⟩
  rw [List.getElem?_map] at e2
  by_cases z : k = i
  · subst z
    rw [ea] at e1
    cases e1
    rw [List.getElem?_set_self (List.getElem?_eq_some_iff.mp er).1] at e2
    cases e2
    exact ⟨na, ga, _, upd_same, ta.set hv j⟩
  · rw [List.getElem?_set_ne z] at e2
    obtain ⟨h1, h2, vs', h3, h4⟩ := g.row i a' r' e1 (by rw [List.getElem?_map]; exact e2)
    have ne : a' ≠ a := fun q => z (nodup_inj nd.2 ea (by rw [← q]; exact e1))
    exact ⟨h1, h2, vs', by rw [upd_ne ne]; exact h3, h4⟩
def yput (Tv Ti Tj : DT) : YS := fun Z δ rows => Tv δ fun r δ1 => ∃ d, r.still δ1 = some d ∧ Ti δ1 fun ri δ2 => ∃ i i' row, ri = .va (.int i) ∧ ixN rows.length i = some i' ∧ rows[i']? = some row ∧ Tj δ2 fun rj δ3 => ∃ j j', rj = .va (.int j) ∧ ixN row.length j = some j' ∧ Z.nx δ3 (rows.set i' (row.set j' d))
theorem sndy_put {ps : List Nat} {m : Nat} {tv ti tj : TE} {Tv Ti Tj : DT} (av : Snd K tv Tv) (ai : Snd K ti Ti) (aj : Snd K tj Tj) : SndY K ps m [] (tAsg tv (gSub (tOp (rIx K) (tVar m) ti) tj rSetL)) (yput Tv Ti Tj) := fun F hps hp as0 σ0 H0 G0 δ0 ha σ H G δ rows D3 D n gr h gd => by
  obtain ⟨M, al, g⟩ := gr
  have lr : al.length = rows.length := by rw [g.len, List.length_map]
  refine av σ H G δ _ _ n.s.L h fun r δ1 v H1 G1 L1 f1 le1 rr q => ?_
  obtain ⟨d, e, q⟩ := q
  obtain ⟨G2, Lb, f2, s2, h2, _⟩ := settle n.s.L L1 f1 le1 rr e
  have x1 : Nxt K F [] σ H G δ σ H1 G2 δ1 := .step n.s Lb f2 le1
  have n1 := (n.trans x1).mono (bs := as0) fun i hi => (List.mem_append.mp hi).elim id fun z => nomatch z
  have g1 := g.nxt x1 (by simp)
  refine ⟨.ref M, g1.sl, ?_⟩
  refine ai σ H1 G2 δ1 _ _ Lb q fun ri δ2 vi H2 G3 L3 f3 le3 rri q => ?_
  obtain ⟨i, i', row, rfl, ei', er, q⟩ := q
  have x2 : Nxt K F [] σ H1 G2 δ1 σ H2 G3 δ2 := .step n1.s L3 f3 le3
  have n2 := (n1.trans x2).mono (bs := as0) fun i hi => (List.mem_append.mp hi).elim id fun z => nomatch z
  have g2 := g1.nxt x2 (by simp)
  have ei := rr_int rri
  subst ei
  have hi := (List.getElem?_eq_some_iff.mp er).1
  obtain ⟨a, ea⟩ : ∃ a, al[i']? = some a := ⟨_, List.getElem?_eq_getElem (by omega)⟩
  have eat : L2.atI (al.map V.ref) i = some (.ref a) := by
    unfold L2.atI
    rw [List.length_map, lr, ei']
    show (al.map V.ref)[i']? = _
    rw [List.getElem?_map, ea]
    rfl
  refine .inl ⟨M, al.map V.ref, i, .ref a, rfl, rfl, SqL.of g2.hM, eat, ?_⟩
  refine aj σ H2 G3 δ2 _ _ L3 q fun rj δ3 vj H3 G4 L4 f4 le4 rrj q => ?_
  obtain ⟨j, j', rfl, ej', q⟩ := q
  have x3 : Nxt K F [] σ H2 G3 δ2 σ H3 G4 δ3 := .step n2.s L4 f4 le4
  have n3 := (n2.trans x3).mono (bs := as0) fun i hi => (List.mem_append.mp hi).elim id fun z => nomatch z
  have g3 := g2.nxt x3 (by simp)
  have ej := rr_int rrj
  subst ej
  obtain ⟨na, ga, vs, h3, t3⟩ := g3.row i' a row ea (by rw [List.getElem?_map, er]; rfl)
  refine ⟨a, vs, j, j', rfl, rfl, h3, by rw [t3.length]; exact ej', ?_⟩
  obtain ⟨n4, g4⟩ := Grid.put (j := j') n3 g3 ea er h3 t3 (h2.mono (x2.f.sub.trans x3.f.sub))
  exact gd.nx _ _ _ _ _ ⟨n4, ⟨M, al, g4⟩, x1.f.sub.trans (x2.f.sub.trans x3.f.sub), fun _ _ => rfl⟩ q
end
section
variable {Q : R → En → Prop} {P : D → Prop} {δ : En} {d : D} {Z : DE} {nx : En → Prop} {rt : R → En → Prop} {bk ct : En → Prop} {ex : XQ}
theorem y_put {yn : En → List (List D) → Prop} {ybk yct : En → List (List D) → Prop} {rows : List (List D)} {Tv Ti Tj : DT} (k : Tv δ fun r δ1 => ∃ d, r.still δ1 = some d ∧ Ti δ1 fun ri δ2 => ∃ i i' row, ri = .va (.int i) ∧ ixN rows.length i = some i' ∧ rows[i']? = some row ∧ Tj δ2 fun rj δ3 => ∃ j j', rj = .va (.int j) ∧ ixN row.length j = some j' ∧ yn δ3 (rows.set i' (row.set j' d))) : yput Tv Ti Tj ⟨yn, rt, ybk, yct⟩ δ rows := k
end
end L3
namespace L3
open PySem PySem.Spec PyProof.Rows L2 Builtin
open MeetsSeq MeetsSeq2 MeetsSeq3 SeqRoads2
mutual
def ordB (le : Bool) : PyData → PyData → Option Bool
  | .int i, .int j => some (if le = true then decide (i ≤ j) else decide (i < j))
  | .list xs, .list ys => ordBs le xs ys
  | .tuple xs, .tuple ys => ordBs le xs ys
  | _, _ => none
def ordBs (le : Bool) : List PyData → List PyData → Option Bool
  | [], [] => some le
  | [], _ :: _ => some true
  | _ :: _, [] => some false
  | x :: xs, y :: ys => if PyData.eqv x y = true then ordBs le xs ys else ordB le x y
end


end L3
namespace L3
open PySem PySem.Spec PyProof.Rows L2
def InC (P : Nat → Prop) (x : Str) : Prop := ∀ c ∈ x.cps.toList, P c
section
variable {P : Nat → Prop}
theorem InC.sub {x : Str} (h : InC P x) (i j : Nat) : InC P (Builtin.Str.strSub x i j) := fun c hc => by
  unfold Builtin.Str.strSub at hc
  rw [Array.toList_extract] at hc
  exact h c (List.mem_of_mem_drop (List.mem_of_mem_take hc))
theorem InC.parts {x : Str} (h : InC P x) (cuts : List Nat) (w : Nat) : ∀ p ∈ Builtin.Str.partsBetween x cuts w, InC P p := fun p hp => by
  unfold Builtin.Str.partsBetween at hp
  obtain ⟨⟨i, j⟩, _, rfl⟩ := List.mem_map.mp hp
  exact h.sub i j
theorem InC.split {x : Str} (h : InC P x) (y : Str) : ∀ p ∈ Txt.split x y, InC P p := fun p hp => by
  unfold Txt.split at hp
  split at hp
  · rw [List.mem_singleton.mp hp]
    exact h
  · split at hp
    · rw [List.mem_singleton.mp hp]
      exact h
    · exact h.parts _ _ p hp
theorem inc_fold {glue : Str} (hg : InC P glue) : ∀ {ps : List Str} {acc : Array Nat}, (∀ c ∈ acc.toList, P c) → (∀ p ∈ ps, InC P p) → ∀ c ∈ (ps.foldl (fun acc p => acc ++ glue.cps ++ p.cps) acc).toList, P c
  | [], acc, ha, _ => ha
  | p :: ps, acc, ha, hp => by
    rw [List.foldl_cons]
    refine inc_fold hg (fun c hc => ?_) fun q hq => hp q (List.mem_cons_of_mem _ hq)
    rw [Array.toList_append, Array.toList_append] at hc
    rcases List.mem_append.mp hc with hc | hc
    · rcases List.mem_append.mp hc with hc | hc
      · exact ha c hc
      · exact hg c hc
    · exact hp p List.mem_cons_self c hc
theorem InC.glued {glue : Str} (hg : InC P glue) {ps : List Str} (hp : ∀ p ∈ ps, InC P p) : InC P (Builtin.Str.glued glue ps) := fun c hc => by
  unfold Builtin.Str.glued at hc
  refine inc_fold hg (fun c hc => ?_) (fun p h => hp p (List.mem_of_mem_drop h)) c hc
  cases ps with
  | nil => cases hc
  | cons p ps => exact hp p List.mem_cons_self c hc
theorem InC.join {glue : Str} (hg : InC P glue) {ps : List Str} (hp : ∀ p ∈ ps, InC P p) : InC P (Txt.join glue ps) := hg.glued hp
theorem InC.replace {x y z : Str} (hx : InC P x) (hz : InC P z) : InC P (Txt.replace x y z) := by
  unfold Txt.replace
  split
  · exact hx
  · exact hz.glued (hx.parts _ _)
theorem InC.cut {x : Str} (h : InC P x) (lo hi : Option Int) : InC P (cutS x lo hi) := fun c hc => by
  unfold cutS at hc
  exact h c (List.mem_of_mem_drop (List.mem_of_mem_take (by simpa using hc)))
theorem InC.app {x y : Str} (h : InC P x) (g : InC P y) : InC P (x ++ y) := fun c hc => by
  have e : (x ++ y).cps.toList = x.cps.toList ++ y.cps.toList := Array.toList_append
  rw [e] at hc
  exact (List.mem_append.mp hc).elim (h c) (g c)
theorem InC.mono {Q : Nat → Prop} {x : Str} (h : InC P x) (g : ∀ c, P c → Q c) : InC Q x := fun c hc => g c (h c hc)
end
end L3
namespace L3
open PySem PySem.Spec PyProof.Rows L2
section
variable {K : PySem.W.Frag}
/-- the program's constants are not tracked -/
def NK (K : PySem.W.Frag) (H : Hp) : Prop := ∀ a, K.lookup a ≠ none → H a = none
/-- the two are never one object -/
def ClashN (s d : D) : Prop := ∀ (K : PySem.W.Frag) (N : Hp) (a : Addr), NK K N → Hs K N a s → At K N (.ref a) d → False
theorem Clash.n {s d : D} (h : Clash s d) : ClashN s d := fun K N a _ => h K N a
/-- no value is both -/
def ApartN (x y : D) : Prop := ∀ (K : PySem.W.Frag) (N : Hp) (v : V), NK K N → At K N v x → At K N v y → False
theorem Apart.n {x y : D} (h : Apart x y) : ApartN x y := fun K N v _ => h K N v
end
end L3
namespace L3
open PySem PySem.Spec PyProof.Rows L2
section
variable {K : PySem.W.Frag}
/-- h = m[i]; then b changes this row in place -/
def yhere (h : Nat) (Ti : DT) (B : DS) : YS := fun Z δ rows => Ti δ fun ri δ2 => ∃ i i' row, ri = .va (.int i) ∧ ixN rows.length i = some i' ∧ rows[i']? = some row ∧
  B { nx := fun δ' => ∃ r', δ'[h]? = some (.ow (.l r')) ∧ Z.nx (δ'.set h .no) (rows.set i' r'), rt := Z.rt, bk := fun δ' => ∃ r', δ'[h]? = some (.ow (.l r')) ∧ Z.bk (δ'.set h .no) (rows.set i' r'), ct := fun δ' => ∃ r', δ'[h]? = some (.ow (.l r')) ∧ Z.ct (δ'.set h .no) (rows.set i' r') } (δ2.set h (.ow (.l row)))
theorem sndy_here {ps bs : List Nat} {m h : Nat} {ti : TE} {tb : TS} {Ti : DT} {B : DS} (ai : Snd K ti Ti) (hb : SndSP K ps bs tb B) (hm : m ≠ h) (hhb : h ∉ bs) (hmb : m ∉ bs) : SndY K ps m (h :: bs) (tSeq (tAsg (tOp (rIx K) (tVar m) ti) (gName h)) tb) (yhere h Ti B) := fun F hps hp as0 σ0 H0 G0 δ0 ha σ H G δ rows D3 D n gr hI gd => by
  obtain ⟨M, al, g⟩ := gr
  have lr : al.length = rows.length := by rw [g.len, List.length_map]
  refine ⟨.ref M, g.sl, ?_⟩
  refine ai σ H G δ _ _ n.s.L hI fun ri δ2 vi H2 G3 Lc f3 le3 rri q => ?_
  obtain ⟨i, i', row, rfl, ei', er, q⟩ := q
  have x2 : Nxt K F [] σ H G δ σ H2 G3 δ2 := .step n.s Lc f3 le3
  have n2 := (n.trans x2).mono (bs := as0) fun i hi => (List.mem_append.mp hi).elim id fun z => nomatch z
  have g2 := g.nxt x2 (by simp)
  have ei := rr_int rri
  subst ei
  have hi := (List.getElem?_eq_some_iff.mp er).1
  obtain ⟨a, ea⟩ : ∃ a, al[i']? = some a := ⟨_, List.getElem?_eq_getElem (by omega)⟩
  have eat : L2.atI (al.map V.ref) i = some (.ref a) := by
    unfold L2.atI
    rw [List.length_map, lr, ei']
    show (al.map V.ref)[i']? = _
    rw [List.getElem?_map, ea]
    rfl
  refine .inl ⟨M, al.map V.ref, i, .ref a, rfl, rfl, SqL.of g2.hM, eat, ?_⟩
  have h0 : h ∈ as0 := ha h List.mem_cons_self
  obtain ⟨n1, g1⟩ := g2.lend (h := h) n2 ea (by rw [List.getElem?_map, er]; rfl) h0 (hp h List.mem_cons_self) hm
  have fin : ∀ {σ2 H4 G4 δ4} (r' : List L3.D), Nxt K F bs (σ.set h (some (.ref a))) H2 G3 (δ2.set h (.ow (.l row))) σ2 H4 G4 δ4 → δ4[h]? = some (E.ow (.l r')) →
      YX K F as0 σ0 H0 G0 δ0 m (h :: bs) σ G σ2 H4 G4 (δ4.set h .no) (rows.set i' r') := fun {σ2 H4 G4 δ4} r' x e2 => by
    have n4 := (n1.trans x).mono (bs := as0) fun j hj => (List.mem_append.mp hj).elim id fun z => ha j (List.mem_cons_of_mem _ z)
    have g4 := g1.nxt x hmb
    have hs : σ2[h]? = some (some (V.ref a)) := by
      have h1 := (List.getElem?_eq_some_iff.mp e2).1
      rw [← n4.s.L.len, x.ln, List.length_set] at h1
      rw [x.st h hhb, List.getElem?_set_self h1]
    obtain ⟨n5, g5⟩ := g4.back n4 ea (by rw [List.getElem?_set_self (by rw [List.length_map]; exact hi)]) e2 hs (hp h List.mem_cons_self) h0
    rw [map_set_some] at g5
    refine ⟨n5, ⟨M, al, g5⟩, x2.f.sub.trans x.f.sub, fun j hj => ?_⟩
    rw [x.st j fun z => hj (List.mem_cons_of_mem _ z), List.getElem?_set_ne fun z => hj (by rw [← z]; exact List.mem_cons_self)]
  refine hb F hps (fun i hi => hp i (List.mem_cons_of_mem _ hi)) _ H2 G3 _ _ _ n1.s q ⟨fun σ2 H4 G4 δ4 x q => ?_, fun σ2 H4 G4 δ4 x q => ?_, fun σ2 H4 G4 δ4 x q => ?_, fun σ2 H4 G4 δ4 w v x rr nr q => ?_⟩
  · obtain ⟨r', e2, q⟩ := q
    exact gd.nx _ _ _ _ _ (fin r' x e2) q
  · obtain ⟨r', e2, q⟩ := q
    exact gd.bk _ _ _ _ _ (fin r' x e2) q
  · obtain ⟨r', e2, q⟩ := q
    exact gd.ct _ _ _ _ _ (fin r' x e2) q
  · exact gd.rt _ _ _ _ _ _ ((n1.trans x).mono fun j hj => (List.mem_append.mp hj).elim id fun z => ha j (List.mem_cons_of_mem _ z)) rr nr q
end
section
variable {Q : R → En → Prop} {δ : En} {C : DTT} {rt : R → En → Prop} {rows : List (List D)} {Z : DE}
variable {yn : En → List (List D) → Prop} {ybk yct : En → List (List D) → Prop}
theorem y_here {h : Nat} {Ti : DT} {B : DS} (k : Ti δ fun ri δ2 => ∃ i i' row, ri = .va (.int i) ∧ ixN rows.length i = some i' ∧ rows[i']? = some row ∧ ∃ δ0, δ2.set h (.ow (.l row)) = δ0 ∧
    B ⟨fun δ' => ∃ r', δ'[h]? = some (.ow (.l r')) ∧ ∃ δ2, δ'.set h .no = δ2 ∧ yn δ2 (rows.set i' r'), rt, fun δ' => ∃ r', δ'[h]? = some (.ow (.l r')) ∧ ∃ δ2, δ'.set h .no = δ2 ∧ ybk δ2 (rows.set i' r'), fun δ' => ∃ r', δ'[h]? = some (.ow (.l r')) ∧ ∃ δ2, δ'.set h .no = δ2 ∧ yct δ2 (rows.set i' r')⟩ δ0) : yhere h Ti B ⟨yn, rt, ybk, yct⟩ δ rows := by
  simp only [exists_eq_left'] at k
  exact k
end
end L3
namespace L3
open PySem PySem.Spec PyProof.Rows L2
def intB : D → Bool
  | .int _ => true
  | _ => false
def idxB (m : Int) : D → Bool
  | .int i => decide (0 ≤ i ∧ i < m)
  | _ => false
/-- a drawn value: what looks alike, with few parts -/
def Itm (d : D) : Prop := Lk 2 d ∧ ∀ xs, d = .tup xs → xs.length ≤ 1000
theorem natsD_get {w : List Nat} {j : Nat} {y : D} (e : (natsD w)[j]? = some y) : ∃ k, w[j]? = some k ∧ y = .int (k : Nat) := by
  obtain ⟨k, hk, rfl⟩ := map_some e
  exact ⟨k, hk, rfl⟩
theorem cutL_mem {α : Type} {xs : List α} {lo hi : Option Int} {x : α} (h : x ∈ cutL xs lo hi) : x ∈ xs := List.mem_of_mem_drop (List.mem_of_mem_take h)
theorem cutL_len {α : Type} {xs : List α} {lo hi : Option Int} : (cutL xs lo hi).length ≤ xs.length := by
  unfold cutL
  rw [List.length_take, List.length_drop]
  omega
section
variable {many size : Nat} {n : Net}
theorem ledN_lin : ∀ {w : List Nat} {y : Nat} {s : Int}, ledN n w (y, s) = ((ledN n w (y, 1)).1, s * (ledN n w (y, 1)).2)
  | [], y, s => by
    show (y, s) = (y, s * 1)
    rw [Int.mul_one]
  | k :: w, y, s => by
    show ledN n w ((stp n k y).1, s * (stp n k y).2) = ((ledN n w ((stp n k y).1, 1 * (stp n k y).2)).1, s * (ledN n w ((stp n k y).1, 1 * (stp n k y).2)).2)
    rw [ledN_lin (w := w) (s := s * (stp n k y).2), ledN_lin (w := w) (s := 1 * (stp n k y).2), Int.one_mul, Int.mul_assoc]
theorem ledN_sign (h : GoodNet many size n) : ∀ {w : List Nat}, (∀ k ∈ w, k < many) → ∀ {x : Nat}, x < size → (ledN n w (x, 1)).2 = 1 ∨ (ledN n w (x, 1)).2 = -1
  | [], _, _, _ => .inl rfl
  | k :: w, hw, x, hx => by
    obtain ⟨_, l, hs⟩ := stp_adj h (hw k List.mem_cons_self) hx
    have ih := ledN_sign h (w := w) (fun j hj => hw j (List.mem_cons_of_mem _ hj)) l
    have e : (ledN n (k :: w) (x, 1)).2 = 1 * (stp n k x).2 * (ledN n w ((stp n k x).1, 1)).2 := by
      show (ledN n w ((stp n k x).1, 1 * (stp n k x).2)).2 = _
      rw [ledN_lin]
    rw [e]
    rcases hs with hs | hs <;> rcases ih with ih | ih <;> rw [hs, ih] <;> decide
theorem stp_back (h : GoodNet many size n) {k x : Nat} (hk : k < many) (hx : x < size) : stp n k (stp n k x).1 = (x, (stp n k x).2) := by
  obtain ⟨r, hr, g⟩ := h.get hk
  obtain ⟨y, s, e, hy, hs, e2⟩ := g.ok x hx
  rw [stp_get hr e]
  exact stp_get hr e2
end
theorem Itm.mine {w : List Nat} {x : D} {lo hi lo' hi' : Option Int} (hx : Lk 1 x) (hw : w.length ≤ 400) : Itm (.tup (cutL (natsD w) lo hi ++ [x] ++ cutL (natsD w) lo' hi')) := by
  have l1 := cutL_len (xs := natsD w) (lo := lo) (hi := hi)
  have l2 := cutL_len (xs := natsD w) (lo := lo') (hi := hi')
  rw [natsD_len] at l1 l2
  have hn : ∀ d ∈ natsD w, Lk 1 d := fun d hd => by
    obtain ⟨k, _, rfl⟩ := List.mem_map.mp hd
    exact .int _
  refine ⟨.tup (fun d hd => ?_) (by simp only [List.length_append, List.length_singleton]; omega), fun xs e => ?_⟩
  · rcases List.mem_append.mp hd with hd | hd
    · rcases List.mem_append.mp hd with hd | hd
      · exact hn d (cutL_mem hd)
      · rw [List.mem_singleton.mp hd]
        exact hx
    · exact hn d (cutL_mem hd)
  · cases e
    simp only [List.length_append, List.length_singleton]
    omega
theorem Itm.of {d : D} (h : Lk 2 d) (n : ∀ xs, d ≠ .tup xs) : Itm d := ⟨h, fun xs e => absurd e (n xs)⟩
theorem Itm.list {w : List Nat} (hw : w.length ≤ 400) : Itm (.lst (natsD w)) := ⟨.lst (fun d hd => by
  obtain ⟨k, _, rfl⟩ := List.mem_map.mp hd
  exact .int _) (by rw [natsD_len]; omega), fun xs e => nomatch e⟩
end L3
namespace L3
open PySem PySem.Spec PyProof.Rows L2
section
variable {many size : Nat} {n : Net}
theorem ledN_inv (h : GoodNet many size n) : ∀ {w : List Nat}, (∀ k ∈ w, k < many) → ∀ {x : Nat}, x < size → ledN n w.reverse ((ledN n w (x, 1)).1, 1) = (x, (ledN n w (x, 1)).2)
  | [], _, _, _ => rfl
  | k :: w, hw, x, hx => by
    have hk := hw k List.mem_cons_self
    obtain ⟨_, l, hs⟩ := stp_adj h hk hx
    have ih := ledN_inv h (w := w) (fun j hj => hw j (List.mem_cons_of_mem _ hj)) l
    have e : ledN n (k :: w) (x, 1) = ((ledN n w ((stp n k x).1, 1)).1, (stp n k x).2 * (ledN n w ((stp n k x).1, 1)).2) := by
      show ledN n w ((stp n k x).1, 1 * (stp n k x).2) = _
      rw [ledN_lin, Int.one_mul]
    rw [e, List.reverse_cons, ledN_snoc]
    dsimp only
    rw [ih]
    dsimp only
    rw [stp_back h hk hx, Int.mul_comm]
theorem sumZ_at {g : Nat → Int} {a : Nat} {l : List Nat} (nd : l.Nodup) (h : a ∈ l) : sumZ ((l.filter fun x => x == a).map g) = g a := by
  rw [sumZ_filter]
  have e : (fun x => if (x == a) = true then g x else 0) = fun x => if a = x then g a else 0 := by
    funext x
    by_cases z : a = x
    · subst z
      simp
    · have z2 : x ≠ a := fun q => z q.symm
      simp [z, z2]
  rw [e, sumZ_one nd h]
theorem sum_over {f g : Nat → Nat} {G : Nat → Int} (hf : ∀ x, x < size → f x < size ∧ g (f x) = x) (hg : ∀ x, x < size → g x < size ∧ f (g x) = x) : sumZ ((List.range size).map fun x => G (f x)) = sumZ ((List.range size).map G) := by
  rw [← sum_parts (f := f) (Z := List.range size) List.nodup_range fun x hx => List.mem_range.mpr (hf x (List.mem_range.mp hx)).1]
  refine congrArg sumZ (List.map_congr_left fun z hz => ?_)
  have hz := List.mem_range.mp hz
  have e : (List.range size).filter (fun x => f x == z) = (List.range size).filter fun x => x == g z := List.filter_congr fun x hx => by
    have hx := List.mem_range.mp hx
    by_cases q : f x = z
    · have e2 : x = g z := by rw [← q, (hf x hx).2]
      rw [beq_iff_eq.mpr q, beq_iff_eq.mpr e2]
    · have e2 : x ≠ g z := fun e => q (by rw [e, (hg z hz).2])
      rw [beq_eq_false_iff_ne.mpr q, beq_eq_false_iff_ne.mpr e2]
  rw [e, sumZ_at List.nodup_range (List.mem_range.mpr (hg z hz).1), (hg z hz).2]
end
end L3
namespace L3
open PySem PySem.Spec PyProof.Rows L2
/-- the item of a word's table: row y, column x -/
def entN (n : Net) (w : List Nat) (y x : Nat) : Int := if (ledN n w (x, 1)).1 = y then (ledN n w (x, 1)).2 else 0
def tabR (n : Net) (size : Nat) (w : List Nat) (y : Nat) : List D := (List.range size).map fun x => .int (entN n w y x)
def tabL (n : Net) (size : Nat) (w : List Nat) : List D := (List.range size).map fun y => .lst (tabR n size w y)
/-- the table when the columns below j are filled -/
def tabJ (n : Net) (size : Nat) (w : List Nat) (j : Nat) : List (List D) := (List.range size).map fun y => (List.range size).map fun x => .int (if x < j then entN n w y x else 0)
theorem tabJ_zero {n : Net} {size : Nat} {w : List Nat} : tabJ n size w 0 = (List.range size).map fun _ => (List.range size).map fun _ => .int 0 := by
  unfold tabJ
  simp
theorem tabJ_all {n : Net} {size : Nat} {w : List Nat} : (tabJ n size w size).map D.lst = tabL n size w := by
  unfold tabJ tabL tabR
  rw [List.map_map]
  refine List.map_congr_left fun y _ => ?_
  show D.lst _ = D.lst _
  congr 1
  refine List.map_congr_left fun x hx => ?_
  rw [if_pos (List.mem_range.mp hx)]
theorem tabJ_len {n : Net} {size j : Nat} {w : List Nat} : (tabJ n size w j).length = size := by simp [tabJ]
theorem tabJ_get {n : Net} {size j y : Nat} {w : List Nat} (hy : y < size) : (tabJ n size w j)[y]? = some ((List.range size).map fun x => .int (if x < j then entN n w y x else 0)) := by
  unfold tabJ
  rw [List.getElem?_map, List.getElem?_range hy]
  rfl
theorem tabJ_set {n : Net} {size j y : Nat} {s : Int} {w : List Nat} (hj : j < size) (e : ledN n w (j, 1) = (y, s)) (hy : y < size) : (tabJ n size w j).set y (((List.range size).map fun x => D.int (if x < j then entN n w y x else 0)).set j (.int s)) = tabJ n size w (j + 1) := by
  refine List.ext_getElem? fun q => ?_
  rw [set_at (by rw [tabJ_len]; exact hy)]
  by_cases hq : q < size
  · rw [tabJ_get hq, tabJ_get hq]
    by_cases z : y = q
    · subst z
      rw [if_pos rfl]
      refine congrArg some (List.ext_getElem? fun x => ?_)
      rw [set_at (by simpa using hj)]
      by_cases hx : x < size
      · rw [List.getElem?_map, List.getElem?_map, List.getElem?_range hx]
        by_cases z2 : j = x
        · subst z2
          rw [if_pos rfl]
          show some (D.int s) = some (D.int (if j < j + 1 then entN n w y j else 0))
          rw [if_pos (by omega)]
          unfold entN
          rw [e, if_pos rfl]
        · rw [if_neg z2]
          show some (D.int _) = some (D.int _)
          by_cases z3 : x < j
          · rw [if_pos z3, if_pos (by omega)]
          · rw [if_neg z3, if_neg (by omega)]
      · rw [if_neg (by omega), List.getElem?_eq_none (by simpa using hx), List.getElem?_eq_none (by simpa using hx)]
    · rw [if_neg z]
      refine congrArg some (List.map_congr_left fun x hx => ?_)
      by_cases z2 : x = j
      · subst z2
        rw [if_neg (by omega), if_pos (by omega)]
        unfold entN
        rw [e, if_neg z]
      · by_cases z3 : x < j
        · rw [if_pos z3, if_pos (by omega)]
        · rw [if_neg z3, if_neg (by omega)]
  · rw [if_neg (by omega), List.getElem?_eq_none (by rw [tabJ_len]; omega), List.getElem?_eq_none (by rw [tabJ_len]; omega)]
theorem rep_one {size : Nat} {d : D} : (List.replicate (size : Int).toNat [d]).flatten = (List.range size).map fun _ => d := by
  rw [Int.toNat_natCast]
  induction size with
  | zero => rfl
  | succ m ih =>
    rw [List.replicate_succ', List.flatten_append, ih, List.range_succ, List.map_append]
    rfl
theorem tabR_at {n : Net} {size i x : Nat} {w : List Nat} (hx : x < size) : (tabR n size w i)[x]? = some (.int (entN n w i x)) := by
  unfold tabR
  rw [List.getElem?_map, List.getElem?_range hx]
  rfl
theorem tabL_at {n : Net} {size i : Nat} {w : List Nat} (hi : i < size) : (tabL n size w)[i]? = some (.lst (tabR n size w i)) := by
  unfold tabL
  rw [List.getElem?_map, List.getElem?_range hi]
  rfl
def rowI (size : Nat) (g : Nat → Int) : List D := (List.range size).map fun k => .int (g k)
theorem rowI_len {size : Nat} {g : Nat → Int} : (rowI size g).length = size := by simp [rowI]
theorem rowI_at {size k : Nat} {g : Nat → Int} (hk : k < size) : (rowI size g)[k]? = some (.int (g k)) := by
  unfold rowI
  rw [List.getElem?_map, List.getElem?_range hk]
  rfl
theorem rowI_get {size i : Nat} {g : Nat → Int} {y : D} (e : (rowI size g)[i]? = some y) : i < size ∧ y = .int (g i) := by
  have hi := (List.getElem?_eq_some_iff.mp e).1
  rw [rowI_len] at hi
  rw [rowI_at hi] at e
  exact ⟨hi, (Option.some.inj e).symm⟩
theorem rowI_pu {size : Nat} {g : Nat → Int} : Pu 1 (.lst (rowI size g)) := Pu.map fun _ _ => .int _
theorem rowI_congr {size : Nat} {f g : Nat → Int} (h : ∀ x, x < size → f x = g x) : rowI size f = rowI size g := List.map_congr_left fun x hx => by rw [h x (List.mem_range.mp hx)]
theorem zip_rowI {size : Nat} {f g : Nat → Int} {h : Nat → D} : (List.range (zipD (rowI size f) (rowI size g)).length).map h = (List.range size).map h := by
  have h1 : size ≤ (zipD (rowI size f) (rowI size g)).length := by
    rcases zipD_len (xs := rowI size f) (ys := rowI size g) with h | h <;> rw [rowI_len] at h <;> exact h
  have h2 : (zipD (rowI size f) (rowI size g)).length ≤ size := by
    refine Nat.le_of_not_lt fun h => ?_
    obtain ⟨x, _, e, _, _⟩ := zipD_get (List.getElem?_eq_getElem h)
    exact absurd (rowI_get e).1 (by omega)
  have : (zipD (rowI size f) (rowI size g)).length = size := by omega
  rw [this]
end L3
namespace L3
open PySem PySem.Spec PyProof.Rows L2
def leD (x y : D) : Bool := (x.py.bind fun p => y.py.bind fun q => ordB true p q).getD false
/-- data that can be put in order -/
structure OrdL (xs : List D) : Prop where
  ok : ∀ x ∈ xs, ∀ y ∈ xs, ∃ p q b, x.py = some p ∧ y.py = some q ∧ p.canLay0 = true ∧ p.depth ≤ 60 ∧ ordB true p q = some b
  tot : ∀ x ∈ xs, ∀ y ∈ xs, leD x y = true ∨ leD y x = true
  tr : ∀ x ∈ xs, ∀ y ∈ xs, ∀ z ∈ xs, leD x y = true → leD y z = true → leD x z = true
def SrtL (xs : List D) : Prop := xs.Pairwise fun x y => leD x y = true
theorem SrtL.drop {xs : List D} (h : SrtL xs) (n : Nat) : SrtL (xs.drop n) := List.Pairwise.sublist (List.drop_sublist n xs) h
theorem drop_at {α : Type} {xs : List α} {i : Nat} {x : α} (h : xs[i]? = some x) : xs.drop i = x :: xs.drop (i + 1) := by
  obtain ⟨h1, h2⟩ := List.getElem?_eq_some_iff.mp h
  rw [List.drop_eq_getElem_cons h1, h2]
theorem take_at {α : Type} {xs : List α} {i : Nat} {x : α} (h : xs[i]? = some x) : xs.take (i + 1) = xs.take i ++ [x] := by
  rw [List.take_add_one, h]
  rfl
/-- what a merging holds -/
structure Mrg (xs ys zs : List D) (i t : Nat) : Prop where
  hi : i ≤ xs.length
  ht : t ≤ ys.length
  pm : zs.Perm (xs.take i ++ ys.take t)
  srt : SrtL zs
  le : ∀ z ∈ zs, ∀ w ∈ xs.drop i ++ ys.drop t, leD z w = true
theorem Mrg.start {xs ys : List D} : Mrg xs ys [] 0 0 := ⟨Nat.zero_le _, Nat.zero_le _, by simp, .nil, fun z hz => by cases hz⟩
theorem Mrg.left {all xs ys zs : List D} {i t : Nat} {x : D} (m : Mrg xs ys zs i t) (ho : OrdL all) (hx : ∀ x ∈ xs, x ∈ all) (hy : ∀ y ∈ ys, y ∈ all) (sx : SrtL xs) (sy : SrtL ys) (e : xs[i]? = some x) (h : ∀ w ∈ ys.drop t, leD x w = true) : Mrg xs ys (zs ++ [x]) (i + 1) t where
  hi := (List.getElem?_eq_some_iff.mp e).1
  ht := m.ht
  pm := by
    rw [take_at e]
    refine (m.pm.append_right [x]).trans ?_
    rw [List.append_assoc, List.append_assoc]
    exact List.Perm.append_left _ List.perm_append_comm
  srt := by
    refine List.pairwise_append.mpr ⟨m.srt, List.pairwise_singleton _ _, fun a ha b hb => ?_⟩
    rw [List.mem_singleton.mp hb]
    exact m.le a ha x (List.mem_append_left _ (by rw [drop_at e]; exact List.mem_cons_self))
  le := fun z hz w hw => by
    have sd := sx.drop i
    rw [drop_at e] at sd
    rcases List.mem_append.mp hz with hz | hz
    · refine m.le z hz w ?_
      rcases List.mem_append.mp hw with hw | hw
      · exact List.mem_append_left _ (by rw [drop_at e]; exact List.mem_cons_of_mem _ hw)
      · exact List.mem_append_right _ hw
    · rw [List.mem_singleton.mp hz]
      rcases List.mem_append.mp hw with hw | hw
      · exact (List.pairwise_cons.mp sd).1 w hw
      · exact h w hw
theorem Mrg.right {all xs ys zs : List D} {i t : Nat} {y : D} (m : Mrg xs ys zs i t) (ho : OrdL all) (hx : ∀ x ∈ xs, x ∈ all) (hy : ∀ y ∈ ys, y ∈ all) (sx : SrtL xs) (sy : SrtL ys) (e : ys[t]? = some y) (h : ∀ w ∈ xs.drop i, leD y w = true) : Mrg xs ys (zs ++ [y]) i (t + 1) where
  hi := m.hi
  ht := (List.getElem?_eq_some_iff.mp e).1
  pm := by
    rw [take_at e]
    refine (m.pm.append_right [y]).trans ?_
    rw [List.append_assoc]
  srt := by
    refine List.pairwise_append.mpr ⟨m.srt, List.pairwise_singleton _ _, fun a ha b hb => ?_⟩
    rw [List.mem_singleton.mp hb]
    exact m.le a ha y (List.mem_append_right _ (by rw [drop_at e]; exact List.mem_cons_self))
  le := fun z hz w hw => by
    have sd := sy.drop t
    rw [drop_at e] at sd
    rcases List.mem_append.mp hz with hz | hz
    · refine m.le z hz w ?_
      rcases List.mem_append.mp hw with hw | hw
      · exact List.mem_append_left _ hw
      · exact List.mem_append_right _ (by rw [drop_at e]; exact List.mem_cons_of_mem _ hw)
    · rw [List.mem_singleton.mp hz]
      rcases List.mem_append.mp hw with hw | hw
      · exact h w hw
      · exact (List.pairwise_cons.mp sd).1 w hw
theorem Mrg.fin {xs ys zs : List D} (m : Mrg xs ys zs xs.length ys.length) : zs.Perm (xs ++ ys) := by
  have := m.pm
  rwa [List.take_length, List.take_length] at this
section
variable {many size : Nat} {n : Net}
theorem mem_comp {z q : Nat} : q ∈ comp n size z ↔ q < size ∧ Reach n z q := by
  unfold comp
  simp only [List.mem_filter, List.mem_range, decide_eq_true_eq]
theorem mem_heads {z : Nat} : z ∈ heads n size ↔ z < size ∧ IsHead n z := by
  unfold heads
  simp only [List.mem_filter, List.mem_range, decide_eq_true_eq]
theorem comp_len {z : Nat} : (comp n size z).length ≤ size := Nat.le_trans (List.length_filter_le _ _) (by simp)
end
section
variable {many s1 s2 : Nat} {a b : Net}
/-- the number of the exchanged pair -/
def swp (s1 s2 p : Nat) : Nat := p % s1 * s2 + p / s1
open Classical in
/-- the least pair of the exchanged round -/
noncomputable def swh (s1 s2 : Nat) (a b : Net) (h : ∀ x, ∃ z, Reach (prodN s2 b a) x z ∧ IsHead (prodN s2 b a) z) (z : Nat) : Nat := (h (swp s1 s2 z)).choose
end
end L3
namespace L3
open PySem PySem.Spec PyProof.Rows L2
theorem sumZ_mulL {α : Type} {a : Int} {g : α → Int} : ∀ {l : List α}, sumZ (l.map fun x => a * g x) = a * sumZ (l.map g)
  | [] => by simp [sumZ]
  | x :: l => by rw [List.map_cons, List.map_cons, sumZ_cons, sumZ_cons, sumZ_mulL, Int.mul_add]
theorem sumZ_mulR {α : Type} {a : Int} {g : α → Int} {l : List α} : sumZ (l.map fun x => g x * a) = sumZ (l.map g) * a := by
  rw [Int.mul_comm, ← sumZ_mulL]
  exact congrArg sumZ (List.map_congr_left fun x _ => Int.mul_comm _ _)
theorem sumZ_congr {α : Type} {g h : α → Int} {l : List α} (e : ∀ x ∈ l, g x = h x) : sumZ (l.map g) = sumZ (l.map h) := by rw [List.map_congr_left e]
theorem sumZ_swap {α β : Type} {f : α → β → Int} {m : List β} : ∀ {l : List α}, sumZ (l.map fun x => sumZ (m.map (f x))) = sumZ (m.map fun y => sumZ (l.map fun x => f x y))
  | [] => (sumZ_zero fun _ _ => rfl).symm
  | x :: l => by
    rw [List.map_cons, sumZ_cons, sumZ_swap, ← sumZ_add]
    rfl
/-- fewer equations than unknowns -/
theorem hom_sol : ∀ (m : Nat) (L : List Nat) (M : Nat → Nat → Int), L.Nodup → m < L.length → ∃ c : Nat → Int, (∃ j ∈ L, c j ≠ 0) ∧ ∀ i, i < m → sumZ (L.map fun j => M i j * c j) = 0
  | 0, L, M, nd, h => ⟨fun _ => 1, ⟨L[0], List.getElem_mem h, Int.one_ne_zero⟩, fun i hi => absurd hi (Nat.not_lt_zero _)⟩
  | m + 1, L, M, nd, h => by
    by_cases z : ∀ j ∈ L, M m j = 0
    · obtain ⟨c, hc, hs⟩ := hom_sol m L M nd (by omega)
      refine ⟨c, hc, fun i hi => ?_⟩
      by_cases e : i = m
      · subst e
        exact sumZ_zero fun j hj => by rw [z j hj, Int.zero_mul]
      · exact hs i (by omega)
    · obtain ⟨j0, hj0, hne⟩ : ∃ j0 ∈ L, M m j0 ≠ 0 := Classical.byContradiction fun h => z fun j hj => Classical.byContradiction fun hn => h ⟨j, hj, hn⟩
      obtain ⟨L1, L2, rfl⟩ := List.append_of_mem hj0
      have nd' : (L1 ++ L2).Nodup := nd.sublist (List.Sublist.append_left (List.sublist_cons_self j0 L2) L1)
      have n0 : ∀ j ∈ L1 ++ L2, j ≠ j0 := fun j hj e => by
        subst e
        have := (List.perm_middle (a := j) (l₁ := L1) (l₂ := L2)).nodup nd
        exact (List.nodup_cons.mp this).1 hj
      obtain ⟨c', ⟨j1, hj1, hn1⟩, hs⟩ := hom_sol m (L1 ++ L2) (fun i j => M m j0 * M i j - M i j0 * M m j) nd' (by simp at h ⊢; omega)
      generalize hA : sumZ ((L1 ++ L2).map fun j => M m j * c' j) = A
      refine ⟨fun j => if j = j0 then -A else M m j0 * c' j, ⟨j1, ?_, ?_⟩, fun i hi => ?_⟩
      · rcases List.mem_append.mp hj1 with q | q
        · exact List.mem_append_left _ q
        · exact List.mem_append_right _ (List.mem_cons_of_mem _ q)
      · show (if j1 = j0 then _ else _) ≠ _
        rw [if_neg (n0 j1 hj1)]
        exact Int.mul_ne_zero hne hn1
      · have split : ∀ f : Nat → Int, sumZ ((L1 ++ j0 :: L2).map f) = f j0 + sumZ ((L1 ++ L2).map f) := fun f => by
          rw [List.map_append, List.map_cons, sumZ_append, sumZ_cons, List.map_append, sumZ_append]
          omega
        have oth : sumZ ((L1 ++ L2).map fun j => M i j * (if j = j0 then -A else M m j0 * c' j)) = M m j0 * sumZ ((L1 ++ L2).map fun j => M i j * c' j) := by
          rw [← sumZ_mulL]
          refine sumZ_congr fun j hj => ?_
          rw [if_neg (n0 j hj), Int.mul_left_comm]
        rw [split]
        show M i j0 * (if j0 = j0 then -A else _) + _ = 0
        rw [if_pos rfl, oth]
        by_cases e : i = m
        · subst e
          rw [hA, Int.mul_neg]
          omega
        · have q := hs i (by omega)
          have e2 : sumZ ((L1 ++ L2).map fun j => (M m j0 * M i j - M i j0 * M m j) * c' j) = M m j0 * sumZ ((L1 ++ L2).map fun j => M i j * c' j) + -(M i j0) * A := by
            rw [← hA, ← sumZ_mulL, ← sumZ_mulL, ← sumZ_add]
            refine sumZ_congr fun j _ => ?_
            rw [Int.sub_mul, Int.mul_assoc, Int.mul_assoc, Int.neg_mul]
            rfl
          rw [e2, Int.neg_mul] at q
          rw [Int.mul_neg]
          omega
def Fix (n : Net) (size : Nat) (X : Nat → Int) : Prop := ∀ p q s, p < size → sadj n p q s → X q = X p * s
section
variable {many size many' size' : Nat} {n n' : Net} {X : Nat → Int}
theorem Fix.reach (g : GoodNet many size n) (hX : Fix n size X) {x y : Nat} (hx : x < size) (r : Reach n x y) : y < size ∧ ∃ t, (t = 1 ∨ t = -1) ∧ X y = X x * t :=
  r (fun y => y < size ∧ ∃ t, (t = 1 ∨ t = -1) ∧ X y = X x * t) ⟨hx, 1, .inl rfl, (Int.mul_one _).symm⟩ fun a b ⟨ha, t, ht, e⟩ ab => by
    obtain ⟨s, hs⟩ := adj_s.mp ab
    refine ⟨(adj_lt g ab).2, t * s, ?_, by rw [hX a b s ha hs, e, Int.mul_assoc]⟩
    rcases ht with rfl | rfl <;> rcases sadj_sign g hs with rfl | rfl <;> decide
theorem Fix.bal (g : GoodNet many size n) (hX : Fix n size X) {z : Nat} (hz : z < size) (h0 : X z ≠ 0) : Bal n z := by
  refine ⟨fun p => if X p = X z then 1 else -1, if_pos rfl, fun p q s r a => ?_⟩
  obtain ⟨hp, t, ht, e⟩ := hX.reach g hz r
  have e2 := hX p q s hp a
  show (if X q = X z then (1 : Int) else -1) = (if X p = X z then 1 else -1) * s
  rcases ht with rfl | rfl <;> rcases sadj_sign g a with rfl | rfl <;> simp only [Int.mul_one, Int.mul_neg] at e e2 ⊢ <;> (repeat' split) <;> omega
theorem Fix.zero (g : GoodNet many size n) (hX : Fix n size X) (h : ∀ z ∈ kins n size, X z = 0) : ∀ p, p < size → X p = 0 := fun p hp => by
  obtain ⟨z, r, hz⟩ := head_of g p
  have zs := reach_lt g r hp
  have z0 : X z = 0 := Classical.byContradiction fun hn => hn (h z (mem_kins.mpr ⟨zs, hz, hX.bal g zs hn⟩))
  obtain ⟨_, t, _, e⟩ := hX.reach g zs (reach_symm g r)
  rw [e, z0, Int.zero_mul]
open Classical in
/-- the invariant of one true round -/
noncomputable def baseF (n : Net) (z p : Nat) : Int := if h : Bal n z ∧ Reach n z p then h.1.choose p else 0
theorem baseF_fix (g : GoodNet many size n) {z : Nat} : Fix n size (baseF n z) := fun p q s hp a => by
  unfold baseF
  by_cases r : Bal n z ∧ Reach n z p
  · have r2 : Bal n z ∧ Reach n z q := ⟨r.1, reach_trans r.2 (reach_one (sadj_adj a))⟩
    rw [dif_pos r, dif_pos r2]
    exact r.1.choose_spec.2 p q s r.2 a
  · have r2 : ¬ (Bal n z ∧ Reach n z q) := fun h => r ⟨h.1, reach_trans h.2 (reach_one (sadj_adj (sadj_symm g a)))⟩
    rw [dif_neg r, dif_neg r2, Int.zero_mul]
theorem baseF_at (g : GoodNet many size n) {z w : Nat} (hz : z ∈ kins n size) (hw : w ∈ kins n size) : baseF n z w = if z = w then 1 else 0 := by
  obtain ⟨z1, z2, z3⟩ := mem_kins.mp hz
  obtain ⟨w1, w2, w3⟩ := mem_kins.mp hw
  unfold baseF
  by_cases e : z = w
  · subst e
    rw [dif_pos ⟨z3, reach_refl⟩, if_pos rfl]
    exact z3.choose_spec.1
  · rw [dif_neg fun h => e (head_eq g z2 w2 h.2), if_neg e]
/-- a map of invariants that loses nothing -/
theorem kin_inj (g : GoodNet many size n) (g' : GoodNet many' size' n') (Φ : (Nat → Int) → Nat → Int)
    (hlin : ∀ (L : List Nat) (c : Nat → Int) (B : Nat → Nat → Int) (b : Nat), Φ (fun p => sumZ (L.map fun z => c z * B z p)) b = sumZ (L.map fun z => c z * Φ (B z) b))
    (hfix : ∀ X, Fix n size X → Fix n' size' (Φ X)) (hinj : ∀ X, Fix n size X → (∀ b, b < size' → Φ X b = 0) → ∀ p, p < size → X p = 0) : kinN n size ≤ kinN n' size' := by
  refine Nat.le_of_not_lt fun hlt => ?_
  rw [← kins_len, ← kins_len] at hlt
  obtain ⟨c, ⟨j, hj, cj⟩, hc⟩ := hom_sol (kins n' size').length (kins n size) (fun i z => Φ (baseF n z) ((kins n' size').getD i 0)) kins_nodup hlt
  have fx : Fix n size (fun p => sumZ ((kins n size).map fun z => c z * baseF n z p)) := fun p q s hp a => by
    show sumZ _ = sumZ _ * s
    rw [← sumZ_mulR]
    refine sumZ_congr fun z _ => ?_
    rw [baseF_fix g p q s hp a, Int.mul_assoc]
  have z0 : ∀ b, b < size' → Φ (fun p => sumZ ((kins n size).map fun z => c z * baseF n z p)) b = 0 := (hfix _ fx).zero g' fun b hb => by
    rw [hlin]
    obtain ⟨i, hi, e⟩ := List.mem_iff_getElem.mp hb
    have := hc i hi
    rw [List.getD_eq_getElem?_getD, List.getElem?_eq_getElem hi, e] at this
    rw [← this]
    exact sumZ_congr fun z _ => Int.mul_comm _ _
  have := hinj _ fx z0 j (mem_kins.mp hj).1
  have e : sumZ ((kins n size).map fun z => c z * baseF n z j) = c j := by
    rw [sumZ_congr (h := fun z => if j = z then c j else 0) fun z hz => ?_]
    · exact sumZ_one kins_nodup hj
    · rw [baseF_at g hz hj]
      by_cases q : z = j
      · subst q
        rw [if_pos rfl, if_pos rfl, Int.mul_one]
      · rw [if_neg q, if_neg fun h => q h.symm, Int.mul_zero]
  exact cj (e.symm.trans this)
end
/-- T carries the rows of a to those of b -/
def Carr (sa sb : Nat) (a b : Net) (T : Nat → Nat → Int) : Prop := ∀ (k : Nat) (ra rb : Row), a[k]? = some ra → b[k]? = some rb → ∀ (x x' y y' : Nat) (s t : Int), x < sa → y < sb → ra[x]? = some ((x' : Int), s) → rb[y]? = some ((y' : Int), t) → T y' x' = T y x * (t * s)
section
variable {many sa sb sc : Nat} {a b c : Net} {T S : Nat → Nat → Int} {d : Int}
theorem kin_carr (ga : GoodNet many sa a) (gb : GoodNet many sb b) (gc : GoodNet many sc c) (ha : sc * sa ≤ 1000) (hb : sc * sb ≤ 1000) (hT : Carr sa sb a b T) (d0 : d ≠ 0)
    (hS : ∀ x x', x < sa → x' < sa → sumZ ((List.range sb).map fun y => S x y * T y x') = if x = x' then d else 0) : kinN (prodN sa a c) (sc * sa) ≤ kinN (prodN sb b c) (sc * sb) := by
  have gA := good_prodN ga gc ha
  have gB := good_prodN gb gc hb
  refine kin_inj gA gB (fun X q => sumZ ((List.range sa).map fun x => T (q % sb) x * X (q / sb * sa + x))) (fun L e B q => ?_) (fun X fx q q' s hq a' => ?_) (fun X fx h p hp => ?_)
  · show sumZ ((List.range sa).map fun x => T (q % sb) x * sumZ (L.map fun z => e z * B z (q / sb * sa + x))) = sumZ (L.map fun z => e z * sumZ ((List.range sa).map fun x => T (q % sb) x * B z (q / sb * sa + x)))
    rw [sumZ_congr (h := fun x => sumZ (L.map fun z => e z * (T (q % sb) x * B z (q / sb * sa + x)))) fun x _ => ?_, sumZ_swap]
    · exact sumZ_congr fun z _ => sumZ_mulL
    · rw [← sumZ_mulL]
      exact sumZ_congr fun z _ => Int.mul_left_comm _ _ _
  · obtain ⟨k, r1, r2, y', w, s', t, e1, e2, h1, h2, hy', hw, rfl, rfl⟩ := (sadj_prod gb gc hq).mp a'
    have hk : k < many := by
      have := (List.getElem?_eq_some_iff.mp e1).1
      rw [gb.len] at this
      exact this
    obtain ⟨ra, er, gr⟩ := ga.get hk
    show sumZ ((List.range sa).map fun x => T ((w * sb + y') % sb) x * X ((w * sb + y') / sb * sa + x)) = sumZ ((List.range sa).map fun x => T (q % sb) x * X (q / sb * sa + x)) * (s' * t)
    rw [pair_mod hy', pair_div hy', ← sumZ_mulR]
    have nb : ∀ x, x < sa → ∃ (y : Nat) (u : Int), (ra.getD x (0, 1)).1.toNat = y ∧ ra[x]? = some ((y : Int), u) ∧ y < sa ∧ (u = 1 ∨ u = -1) ∧ ra[y]? = some ((x : Int), u) := fun x hx => by
      obtain ⟨y, u, f1, f2, f3, f4⟩ := gr.ok x hx
      exact ⟨y, u, by rw [List.getD_eq_getElem?_getD, f1]; rfl, f1, f2, f3, f4⟩
    have inv : ∀ x, x < sa → (ra.getD x (0, 1)).1.toNat < sa ∧ (ra.getD (ra.getD x (0, 1)).1.toNat (0, 1)).1.toNat = x := fun x hx => by
      obtain ⟨y, u, f0, f1, f2, f3, f4⟩ := nb x hx
      rw [f0]
      refine ⟨f2, ?_⟩
      rw [List.getD_eq_getElem?_getD, f4]
      rfl
    rw [← sum_over (f := fun x => (ra.getD x (0, 1)).1.toNat) (g := fun x => (ra.getD x (0, 1)).1.toNat) (G := fun x => T y' x * X (w * sa + x)) inv inv]
    refine sumZ_congr fun x hx => ?_
    have hx := List.mem_range.mp hx
    obtain ⟨y, u, f0, f1, f2, f3, f4⟩ := nb x hx
    show T y' (ra.getD x (0, 1)).1.toNat * X (w * sa + (ra.getD x (0, 1)).1.toNat) = _
    rw [f0]
    have hz : q / sb < sc := div_lt hq
    have t1 := hT k ra r1 er e1 x y (q % sb) y' u s' hx (mod_lt' hq) f1 h1
    have x1 := fx (q / sb * sa + x) (w * sa + y) (u * t) (pair_lt hx hz) ((sadj_prod ga gc (pair_lt hx hz)).mpr ⟨k, ra, r2, y, w, u, t, er, e2, by rw [pair_mod hx]; exact f1, by rw [pair_div hx]; exact h2, f2, hw, rfl, rfl⟩)
    rw [t1, x1]
    generalize T (q % sb) x = A
    generalize X (q / sb * sa + x) = B
    rcases f3 with rfl | rfl
    · rw [Int.mul_one, Int.one_mul, Int.mul_assoc, Int.mul_assoc, Int.mul_left_comm s' B t]
    · have e : s' * -1 = -s' := by omega
      have e' : (-1 : Int) * t = -t := by omega
      rw [e, e', Int.mul_neg, Int.mul_neg, Int.neg_mul_neg, Int.mul_assoc, Int.mul_assoc, Int.mul_left_comm s' B t]
  · have hx : p % sa < sa := mod_lt' hp
    have hz : p / sa < sc := div_lt hp
    have z : ∀ y, y < sb → sumZ ((List.range sa).map fun x => T y x * X (p / sa * sa + x)) = 0 := fun y hy => by
      have := h (p / sa * sb + y) (pair_lt hy hz)
      rwa [pair_mod hy, pair_div hy] at this
    have e1 : sumZ ((List.range sb).map fun y => S (p % sa) y * sumZ ((List.range sa).map fun x => T y x * X (p / sa * sa + x))) = 0 := sumZ_zero fun y hy => by rw [z y (List.mem_range.mp hy), Int.mul_zero]
    have e2 : sumZ ((List.range sb).map fun y => S (p % sa) y * sumZ ((List.range sa).map fun x => T y x * X (p / sa * sa + x))) = d * X p := by
      rw [sumZ_congr (h := fun y => sumZ ((List.range sa).map fun x => S (p % sa) y * T y x * X (p / sa * sa + x))) fun y _ => ?_, sumZ_swap]
      · rw [sumZ_congr (h := fun x => if p % sa = x then d * X p else 0) fun x hx' => ?_]
        · exact sumZ_one List.nodup_range (List.mem_range.mpr hx)
        · rw [sumZ_mulR, hS _ _ hx (List.mem_range.mp hx')]
          by_cases q : p % sa = x
          · rw [if_pos q, if_pos q, ← q, pair_eq]
          · rw [if_neg q, if_neg q, Int.zero_mul]
      · rw [← sumZ_mulL]
        exact sumZ_congr fun x _ => (Int.mul_assoc _ _ _).symm
    rw [e1] at e2
    rcases Int.mul_eq_zero.mp e2.symm with q | q
    · exact absurd q d0
    · exact q
end
end L3
namespace L3
open PySem PySem.Spec PyProof.Rows L2
/-- the same kin with every plan -/
structure Alk (many s : Nat) (a b : Net) : Prop where
  ga : GoodNet many s a
  gb : GoodNet many s b
  eq : ∀ s2 c, GoodNet many s2 c → s2 * s ≤ 1000 → kinN (prodN s a c) (s2 * s) = kinN (prodN s b c) (s2 * s)
section
variable {many s w : Nat} {a b c n : Net} {T S : Nat → Nat → Int} {d : Int}
theorem Alk.refl (g : GoodNet many s a) : Alk many s a a := ⟨g, g, fun _ _ _ _ => rfl⟩
theorem Alk.symm (h : Alk many s a b) : Alk many s b a := ⟨h.gb, h.ga, fun s2 c gc hs => (h.eq s2 c gc hs).symm⟩
theorem Alk.trans (h : Alk many s a b) (h' : Alk many s b c) : Alk many s a c := ⟨h.ga, h'.gb, fun s2 c gc hs => (h.eq s2 c gc hs).trans (h'.eq s2 c gc hs)⟩
theorem Alk.own (h : Alk many s a b) (hs : s * s ≤ 1000) : kinN (prodN s a b) (s * s) = kinN (prodN s a a) (s * s) ∧ kinN (prodN s b b) (s * s) = kinN (prodN s a a) (s * s) := by
  have e1 := h.eq s a h.ga hs
  have e2 := h.eq s b h.gb hs
  have e3 := kin_comm h.gb h.ga hs
  rw [e3] at e1
  exact ⟨e1.symm, (e1.trans e2).symm⟩
theorem Carr.swap {sa sb : Nat} (h : Carr sa sb a b T) : Carr sb sa b a fun x y => T y x := fun k rb ra eb ea y y' x x' t s hy hx e1 e2 => by
  have := h k ra rb ea eb x x' y y' s t hx hy e2 e1
  rw [Int.mul_comm s t]
  exact this
theorem Alk.of_carr (ga : GoodNet many s a) (gb : GoodNet many s b) (hT : Carr s s a b T) (d0 : d ≠ 0) (h1 : ∀ x x', x < s → x' < s → sumZ ((List.range s).map fun y => S x y * T y x') = if x = x' then d else 0)
    (h2 : ∀ y y', y < s → y' < s → sumZ ((List.range s).map fun x => S x y * T y' x) = if y = y' then d else 0) : Alk many s a b :=
  ⟨ga, gb, fun s2 c gc hs => Nat.le_antisymm (kin_carr ga gb gc hs hs hT d0 h1) (kin_carr (S := fun y x => S x y) gb ga gc hs hs hT.swap d0 h2)⟩
theorem Alk.named {ns : List Int} (g : GoodNet many s a) (hn : Naming s ns) : Alk many s a (namedN ns a) := by
  have gd := good_namedN hn g
  have ix : ∀ {x i : Nat}, ns[x]? = some (i : Int) → ns.idxOf (i : Int) = x := fun {x i} e => by
    have hm := List.mem_of_getElem? e
    have h1 : ns.idxOf (i : Int) < ns.length := List.idxOf_lt_length_of_mem hm
    have h2 : ns[ns.idxOf (i : Int)]? = some (i : Int) := by rw [List.getElem?_eq_getElem h1, List.getElem_idxOf h1]
    exact nodup_inj hn.nd h2 e
  have rw_ : ∀ (k : Nat) r r', a[k]? = some r → (namedN ns a)[k]? = some r' → r.length = s ∧ r' = namedR ns r := fun k r r' e e' => by
    unfold namedN at e'
    rw [List.getElem?_map, e] at e'
    cases e'
    exact ⟨(g.row r (List.mem_of_getElem? e)).len, rfl⟩
  refine ⟨g, gd, fun s2 c gc hs => Nat.le_antisymm ?_ ?_⟩
  · refine kin_le (good_prodN g gc hs) (good_prodN gd gc hs) (emb_prod (φ := fun x => (ns.getD x 0).toNat) g gd gc (fun k r r' e e' x hx y t h => ?_) (fun x hx => ?_) fun x y hx hy e => ?_) fun p hp => ?_
    · obtain ⟨l, rfl⟩ := rw_ k r r' e e'
      obtain ⟨i, ei, _, di⟩ := hn.get hx
      have hy : y < s := by
        obtain ⟨y', _, e1, hy, _⟩ := (g.row r (List.mem_of_getElem? e)).ok x hx
        rw [h] at e1
        have := congrArg Prod.fst (Option.some.inj e1)
        have e2 : (y : Int) = (y' : Int) := this
        omega
      obtain ⟨j, ej, _, dj⟩ := hn.get hy
      show (namedR ns r)[(ns.getD x 0).toNat]? = some ((((ns.getD y 0).toNat : Nat) : Int), t)
      rw [di, dj, Int.toNat_natCast, Int.toNat_natCast, namedR_get hn l ei h]
      unfold namedP
      rw [Int.toNat_natCast, dj]
    · obtain ⟨i, _, hi, di⟩ := hn.get hx
      show (ns.getD x 0).toNat < s
      rw [di, Int.toNat_natCast]
      exact hi
    · obtain ⟨i, ei, _, di⟩ := hn.get hx
      obtain ⟨j, ej, _, dj⟩ := hn.get hy
      have e : (ns.getD x 0).toNat = (ns.getD y 0).toNat := e
      rw [di, dj, Int.toNat_natCast, Int.toNat_natCast] at e
      subst e
      exact nodup_inj hn.nd ei ej
    · obtain ⟨i, _, hi, di⟩ := hn.get (mod_lt' hp)
      show p / s * s + (ns.getD (p % s) 0).toNat < _
      rw [di, Int.toNat_natCast]
      exact pair_lt hi (div_lt hp)
  · have lt : ∀ i, i < s → ns.idxOf (i : Int) < s := fun i hi => by
      obtain ⟨x, hx, e⟩ := hn.all hi
      rw [ix e]
      exact hx
    refine kin_le (good_prodN gd gc hs) (good_prodN g gc hs) (emb_prod (φ := fun i : Nat => ns.idxOf (i : Int)) gd g gc (fun k r' r e' e i hi j t h => ?_) lt fun i j hi hj e => ?_) fun p hp => pair_lt (lt _ (mod_lt' hp)) (div_lt hp)
    · obtain ⟨l, rfl⟩ := rw_ k r r' e e'
      obtain ⟨x, hx, ex⟩ := hn.all hi
      obtain ⟨y, t', e1, hy, _⟩ := (g.row r (List.mem_of_getElem? e)).ok x hx
      obtain ⟨w, ew, _, dw⟩ := hn.get hy
      rw [namedR_get hn l ex e1] at h
      unfold namedP at h
      rw [Int.toNat_natCast, dw] at h
      have h := Option.some.inj h
      have h1 : (w : Int) = (j : Int) := congrArg Prod.fst h
      have h2 : t' = t := congrArg Prod.snd h
      have h3 : w = j := by omega
      subst h2
      subst h3
      show r[ns.idxOf (i : Int)]? = some (((ns.idxOf (w : Int) : Nat) : Int), t')
      rw [ix ex, ix ew]
      exact e1
    · obtain ⟨x, _, ex⟩ := hn.all hi
      obtain ⟨y, _, ey⟩ := hn.all hj
      have e : ns.idxOf (i : Int) = ns.idxOf (j : Int) := e
      rw [ix ex, ix ey] at e
      subst e
      rw [ex] at ey
      have := Option.some.inj ey
      omega
theorem GoodRow.inv {r : Row} {x y : Nat} {t : Int} (g : GoodRow s r) (hx : x < s) (e : r[x]? = some ((y : Int), t)) : y < s ∧ (t = 1 ∨ t = -1) ∧ r[y]? = some ((x : Int), t) := by
  obtain ⟨y', t', e1, h1, h2, h3⟩ := g.ok x hx
  rw [e] at e1
  have e1 := Option.some.inj e1
  have h4 : (y : Int) = (y' : Int) := congrArg Prod.fst e1
  have h5 : t = t' := congrArg Prod.snd e1
  have h6 : y = y' := by omega
  subst h5
  subst h6
  exact ⟨h1, h2, h3⟩
theorem GoodRow.inj {r : Row} {x y z : Nat} {t u : Int} (g : GoodRow s r) (hx : x < s) (hy : y < s) (e : r[x]? = some ((z : Int), t)) (e' : r[y]? = some ((z : Int), u)) : x = y := by
  obtain ⟨_, _, h1⟩ := g.inv hx e
  obtain ⟨_, _, h2⟩ := g.inv hy e'
  rw [h1] at h2
  have : (x : Int) = (y : Int) := congrArg Prod.fst (Option.some.inj h2)
  omega
theorem sum_pick {f : Nat → Int} {z : Nat} (hz : z < s) : sumZ ((List.range s).map fun y => if y = z then f y else 0) = f z := by
  rw [sumZ_congr (h := fun y => if z = y then f z else 0) fun y _ => ?_]
  · exact sumZ_one List.nodup_range (List.mem_range.mpr hz)
  · by_cases e : y = z
    · subst e
      simp
    · rw [if_neg e, if_neg fun h => e h.symm]
theorem Alk.turned {t : Nat → Int} (g : GoodNet many s a) (ht : ∀ x, t x = 1 ∨ t x = -1) : Alk many s a (turnedN t a) := by
  have tt : ∀ x, t x * t x = 1 := fun x => by rcases ht x with e | e <;> rw [e] <;> rfl
  have hh : ∀ x x', x < s → sumZ ((List.range s).map fun y => (if y = x then t x else 0) * (if y = x' then t x' else 0)) = if x = x' then 1 else 0 := fun x x' hx => by
    rw [sumZ_congr (h := fun y => if y = x then t x * (if y = x' then t x' else 0) else 0) fun y _ => ?_]
    · rw [sum_pick (f := fun y => t x * (if y = x' then t x' else 0)) hx]
      by_cases e : x = x'
      · subst e
        simp [tt]
      · simp [e]
    · by_cases e : y = x
      · rw [if_pos e, if_pos e]
      · rw [if_neg e, if_neg e, Int.zero_mul]
  refine Alk.of_carr (T := fun y x => if y = x then t x else 0) (S := fun x y => if y = x then t x else 0) (d := 1) g (good_turnedN ht g) (fun k ra rb ea eb x x' y y' u v hx hy e1 e2 => ?_) (by decide) (fun x x' hx _ => hh x x' hx) (fun y y' hy hy' => ?_)
  · have er : rb = turnedR t ra := by
      unfold turnedN at eb
      rw [List.getElem?_map, ea] at eb
      exact (Option.some.inj eb).symm
    subst er
    have gr := g.row ra (List.mem_of_getElem? ea)
    obtain ⟨hx', hu, _⟩ := gr.inv hx e1
    show (if y' = x' then t x' else 0) = (if y = x then t x else 0) * (v * u)
    by_cases e : y = x
    · subst e
      rw [turnedR_get e1] at e2
      have e2 := Option.some.inj e2
      have h1 : (x' : Int) = (y' : Int) := congrArg Prod.fst e2
      have h2 : u * t y * t (x' : Int).toNat = v := congrArg Prod.snd e2
      rw [Int.toNat_natCast] at h2
      have h3 : x' = y' := by omega
      subst h3
      subst h2
      rw [if_pos rfl, if_pos rfl]
      rcases hu with rfl | rfl <;> rcases ht y with e | e <;> rw [e] <;> omega
    · rw [if_neg e, Int.zero_mul, if_neg fun h => ?_]
      subst h
      obtain ⟨z, w, e3, hz, _⟩ := gr.ok y hy
      rw [turnedR_get e3] at e2
      have h1 : (z : Int) = (y' : Int) := congrArg Prod.fst (Option.some.inj e2)
      have h3 : z = y' := by omega
      subst h3
      exact e (gr.inj hy hx e3 e1)
  · rw [sumZ_congr (h := fun x => (if x = y then t y else 0) * (if x = y' then t y' else 0)) fun x _ => ?_, hh y y' hy]
    have sw : ∀ p q : Nat, (if p = q then t q else 0) = (if q = p then t p else 0) := fun p q => by
      by_cases e : p = q
      · subst e
        rfl
      · rw [if_neg e, if_neg fun h => e h.symm]
    show (if y = x then t x else 0) * (if y' = x then t x else 0) = _
    rw [sw y x, sw y' x]
def okR (s : Nat) (T : Nat → Nat → Int) (ra rb : Row) : Bool := (List.range s).all fun x => (List.range s).all fun y => T (rb.getD y (0, 1)).1.toNat (ra.getD x (0, 1)).1.toNat == T y x * ((rb.getD y (0, 1)).2 * (ra.getD x (0, 1)).2)
theorem okR_carr {T : Nat → Nat → Int} {ra rb : Row} (h : okR s T ra rb = true) {x x' y y' : Nat} {u t : Int} (hx : x < s) (hy : y < s) (e1 : ra[x]? = some ((x' : Int), u)) (e2 : rb[y]? = some ((y' : Int), t)) : T y' x' = T y x * (t * u) := by
  have := List.all_eq_true.mp (List.all_eq_true.mp h x (List.mem_range.mpr hx)) y (List.mem_range.mpr hy)
  rw [List.getD_eq_getElem?_getD, List.getD_eq_getElem?_getD, e1, e2] at this
  simpa using this
def okI (s : Nat) (S T : Nat → Nat → Int) (d : Int) : Bool := (List.range s).all fun x => (List.range s).all fun x' => (sumZ ((List.range s).map fun y => S x y * T y x') == if x = x' then d else 0) && (sumZ ((List.range s).map fun y => S y x * T x' y) == if x = x' then d else 0)
theorem okI_inv {S T : Nat → Nat → Int} (h : okI s S T d = true) {x x' : Nat} (hx : x < s) (hx' : x' < s) : sumZ ((List.range s).map fun y => S x y * T y x') = (if x = x' then d else 0) ∧ sumZ ((List.range s).map fun y => S y x * T x' y) = if x = x' then d else 0 := by
  have := List.all_eq_true.mp (List.all_eq_true.mp h x (List.mem_range.mpr hx)) x' (List.mem_range.mpr hx')
  rw [Bool.and_eq_true] at this
  exact ⟨by simpa using this.1, by simpa using this.2⟩
/-- sides where both plans have one sign at every copy -/
def rimR (s : Nat) (e : Int) : Row := (List.range s).map fun x : Nat => ((x : Int), e)
theorem rimR_get {e : Int} {x : Nat} (hx : x < s) : (rimR s e)[x]? = some ((x : Int), e) := by
  unfold rimR
  rw [List.getElem?_map, List.getElem?_range hx]
  rfl
theorem Alk.table {A B more : Net} (hc : ∀ (k : Nat) (ra rb : Row), A[k]? = some ra → B[k]? = some rb → okR s T ra rb = true) (hl : A.length = B.length) (hi : okI s S T d = true) (d0 : d ≠ 0) (hm : ∀ r ∈ more, ∃ e, (e = 1 ∨ e = -1) ∧ r = rimR s e) (ga : GoodNet many s (A ++ more)) (gb : GoodNet many s (B ++ more)) : Alk many s (A ++ more) (B ++ more) := by
  refine Alk.of_carr (T := T) (S := S) (d := d) ga gb (fun k ra rb ea eb x x' y y' u v hx hy e1 e2 => ?_) d0 (fun x x' hx hx' => (okI_inv hi hx hx').1) (fun y y' hy hy' => (okI_inv hi hy hy').2)
  by_cases hk : k < A.length
  · rw [List.getElem?_append_left hk] at ea
    rw [List.getElem?_append_left (by omega)] at eb
    exact okR_carr (hc k ra rb ea eb) hx hy e1 e2
  · rw [List.getElem?_append_right (by omega)] at ea
    rw [List.getElem?_append_right (by omega), ← hl, ea] at eb
    cases eb
    obtain ⟨e, he, rfl⟩ := hm ra (List.mem_of_getElem? ea)
    rw [rimR_get hx] at e1
    rw [rimR_get hy] at e2
    cases e1
    cases e2
    rcases he with rfl | rfl <;> omega
end
end L3
namespace L3
open PySem PySem.Spec PyProof.Rows L2
section
variable {many n : Nat} {net : Net}
def coverP (r : Row) (q : Nat) : Int × Int := (2 * (r.getD (q / 2) (0, 1)).1 + (if (r.getD (q / 2) (0, 1)).2 = 1 then ((q % 2 : Nat) : Int) else 1 - ((q % 2 : Nat) : Int)), 1)
def coverL (r : Row) (j : Nat) : Row := (List.range (j + j)).map (coverP r)
def coverR (r : Row) : Row := coverL r r.length
def coverN (n : Net) : Net := n.map coverR
theorem coverL_succ {r : Row} {j : Nat} {x : Int} {s : Int} (h : r[j]? = some (x, s)) : coverL r (j + 1) = coverL r j ++ [(2 * x + (if s = 1 then 0 else 1), 1), (2 * x + 1 - (if s = 1 then 0 else 1), 1)] := by
  unfold coverL
  rw [show j + 1 + (j + 1) = j + j + 1 + 1 by omega, List.range_succ, List.range_succ, List.map_append, List.map_append, List.append_assoc]
  congr 1
  unfold coverP
  have e1 : (j + j) / 2 = j := by omega
  have e2 : (j + j + 1) / 2 = j := by omega
  have e3 : (j + j) % 2 = 0 := by omega
  have e4 : (j + j + 1) % 2 = 1 := by omega
  simp only [List.map_cons, List.map_nil, List.cons_append, List.nil_append, e1, e2, e3, e4, List.getD_eq_getElem?_getD, h, Option.getD_some]
  by_cases q : s = 1
  · simp [q]
  · simp [q]
theorem coverR_get {r : Row} (g : GoodRow n r) {q x' : Nat} {s : Int} (hq : q < n + n) (h : r[q / 2]? = some ((x' : Int), s)) : ∃ b : Nat, b ≤ 1 ∧ (s = 1 → b = q % 2) ∧ (s = -1 → b = 1 - q % 2) ∧ (coverR r)[q]? = some (((2 * x' + b : Nat) : Int), 1) := by
  have hm : q % 2 < 2 := Nat.mod_lt _ (by omega)
  have hs := (g.inv (by omega) h).2.1
  have e : (coverR r)[q]? = some (coverP r q) := by
    unfold coverR coverL
    rw [List.getElem?_map, List.getElem?_range (by rw [g.len]; exact hq)]
    rfl
  rw [e]
  unfold coverP
  rw [List.getD_eq_getElem?_getD, h]
  simp only [Option.getD_some]
  rcases hs with rfl | rfl
  · exact ⟨q % 2, by omega, fun _ => rfl, fun h => (nomatch h), by rw [if_pos rfl]; congr 2⟩
  · refine ⟨1 - q % 2, by omega, fun h => (nomatch h), fun _ => rfl, ?_⟩
    rw [if_neg (by decide)]
    congr 2
    omega
theorem good_coverR {r : Row} (g : GoodRow n r) : GoodRow (n + n) (coverR r) := ⟨by simp [coverR, coverL, g.len], fun q hq => by
  obtain ⟨x', s, e1, hx', hs, e2⟩ := g.ok (q / 2) (by omega)
  obtain ⟨b, hb, b1, b2, e3⟩ := coverR_get g hq e1
  have hm : q % 2 < 2 := Nat.mod_lt _ (by omega)
  have ed : (2 * x' + b) / 2 = x' := by omega
  obtain ⟨c, hc, c1, c2, e4⟩ := coverR_get g (q := 2 * x' + b) (x' := q / 2) (s := s) (by omega) (by rw [ed]; exact e2)
  refine ⟨2 * x' + b, 1, e3, by omega, .inl rfl, ?_⟩
  rw [e4]
  congr 3
  rcases hs with rfl | rfl
  · have := b1 rfl
    have := c1 rfl
    omega
  · have := b2 rfl
    have := c2 rfl
    omega⟩
theorem good_coverN (g : GoodNet many n net) (hs : n + n ≤ 1000) : GoodNet many (n + n) (coverN net) := ⟨by simp [coverN, g.len], g.m0, g.m1, by have := g.s0; omega, hs, fun r hr => by
  obtain ⟨r', hr', rfl⟩ := List.mem_map.mp hr
  exact good_coverR (g.row r' hr')⟩
structure FoldRel (n : Nat) (r w o : Row) : Prop where
  lw : w.length = n + n
  lo : o.length = n
  at_ : ∀ (x x' : Nat) (s : Int), x < n → r[x]? = some ((x' : Int), s) → (w[x]? = some ((x' : Int), s) ∧ w[x + n]? = some (((x' + n : Nat) : Int), s) ∧ o[x]? = some ((x' : Int), s)) ∨ (x' = x ∧ w[x]? = some (((x + n : Nat) : Int), s) ∧ w[x + n]? = some ((x : Int), s) ∧ o[x]? = some ((x : Int), -s))
theorem FoldRel.start {r : Row} (g : GoodRow n r) : FoldRel n r (r ++ shiftR n r) r := by
  have l := g.len
  refine ⟨by simp [shiftR, l], l, fun x x' s hx h => .inl ⟨by rw [List.getElem?_append_left (by omega)]; exact h, ?_, h⟩⟩
  rw [List.getElem?_append_right (by omega), l, Nat.add_sub_cancel, shiftR_get h]
  congr 2
theorem FoldRel.step {r w o : Row} (h : FoldRel n r w o) {x : Nat} {s : Int} (hx : x < n) (e : r[x]? = some ((x : Int), s)) : FoldRel n r ((w.set x (((x + n : Nat) : Int), s)).set (x + n) ((x : Int), s)) (o.set x ((x : Int), -s)) := by
  have lw := h.lw
  have lo := h.lo
  refine ⟨by simp [lw], by simp [lo], fun y y' t hy e' => ?_⟩
  by_cases q : y = x
  · subst q
    rw [e] at e'
    have e' := Option.some.inj e'
    have f1 : (y : Int) = (y' : Int) := congrArg Prod.fst e'
    have f2 : s = t := congrArg Prod.snd e'
    subst f2
    refine .inr ⟨by omega, ?_, ?_, ?_⟩
    · rw [List.getElem?_set_ne (by omega), List.getElem?_set_self (by omega)]
    · rw [List.getElem?_set_self (by rw [List.length_set]; omega)]
    · rw [List.getElem?_set_self (by omega)]
  · have := h.at_ y y' t hy e'
    rw [List.getElem?_set_ne (by omega), List.getElem?_set_ne (by omega), List.getElem?_set_ne (by omega), List.getElem?_set_ne (by omega), List.getElem?_set_ne (by omega)]
    exact this
end
end L3
namespace L3
open PySem PySem.Spec PyProof.Rows L2
def matQ (h w : Nat) (f : Nat → Nat → Int) : List D := (List.range h).map fun y => .lst (rowI w (f y))
theorem matQ_len {h w : Nat} {f : Nat → Nat → Int} : (matQ h w f).length = h := by simp [matQ]
theorem matQ_at {h w k : Nat} {f : Nat → Nat → Int} (hk : k < h) : (matQ h w f)[k]? = some (.lst (rowI w (f k))) := by
  unfold matQ
  rw [List.getElem?_map, List.getElem?_range hk]
  rfl
theorem matQ_get {h w i : Nat} {f : Nat → Nat → Int} {y : D} (e : (matQ h w f)[i]? = some y) : i < h ∧ y = .lst (rowI w (f i)) := by
  have hi := (List.getElem?_eq_some_iff.mp e).1
  rw [matQ_len] at hi
  rw [matQ_at hi] at e
  exact ⟨hi, (Option.some.inj e).symm⟩
section
variable {many size s1 s2 : Nat} {n a b : Net}
theorem pot_eq {x : Nat} {f f' : Nat → Int} (h : Pot n x f) (h' : Pot n x f') {q : Nat} (r : Reach n x q) : f q = f' q :=
  (r (fun q => Reach n x q ∧ f q = f' q) ⟨reach_refl, h.1.trans h'.1.symm⟩ fun p q ⟨rp, e⟩ ad => by
    obtain ⟨s, hs⟩ := adj_s.mp ad
    exact ⟨reach_trans rp (reach_one ad), by rw [h.2 p q s rp hs, h'.2 p q s rp hs, e]⟩).2
theorem baseF_pot {z : Nat} (h : Bal n z) : Pot n z (baseF n z) := by
  obtain ⟨h1, h2⟩ := h.choose_spec
  have e : ∀ q, Reach n z q → baseF n z q = h.choose q := fun q r => dif_pos ⟨h, r⟩
  exact ⟨by rw [e z reach_refl]; exact h1, fun p q s r ad => by rw [e p r, e q (reach_trans r (reach_one (sadj_adj ad)))]; exact h2 p q s r ad⟩
theorem baseF_out {z q : Nat} (h : ¬ Reach n z q) : baseF n z q = 0 := dif_neg fun k => h k.2
theorem baseF_is {z : Nat} {f : Nat → Int} (h : Pot n z f) {q : Nat} (r : Reach n z q) : f q = baseF n z q := pot_eq h (baseF_pot ⟨f, h⟩) r
theorem pot_sign (g : GoodNet many size n) {z : Nat} {f : Nat → Int} (hz : z < size) (h : Pot n z f) {q : Nat} (r : Reach n z q) : f q = 1 ∨ f q = -1 :=
  (r (fun q => Reach n z q ∧ (f q = 1 ∨ f q = -1)) ⟨reach_refl, .inl h.1⟩ fun p q ⟨rp, e⟩ ad => by
    obtain ⟨s, hs⟩ := adj_s.mp ad
    refine ⟨reach_trans rp (reach_one ad), ?_⟩
    rw [h.2 p q s rp hs]
    rcases e with e | e <;> rcases sadj_sign g hs with rfl | rfl <;> rw [e] <;> decide).2
theorem baseF_ne (g : GoodNet many size n) {z q : Nat} (hz : z < size) (h : Bal n z) : baseF n z q ≠ 0 ↔ Reach n z q := by
  constructor
  · exact fun k => Classical.byContradiction fun hn => k (baseF_out hn)
  · intro r
    rcases pot_sign g hz (baseF_pot h) r with e | e <;> rw [e] <;> decide
theorem baseF_small (g : GoodNet many size n) {z q : Nat} (hz : z < size) : baseF n z q = 0 ∨ baseF n z q = 1 ∨ baseF n z q = -1 := by
  by_cases h : Bal n z ∧ Reach n z q
  · exact .inr (pot_sign g hz (baseF_pot h.1) h.2)
  · exact .inl (dif_neg h)
noncomputable def rtF (n : Net) (w z y x : Nat) : Int := baseF n z (y * w + x)
variable {T : Nat → Nat → Int}
theorem carr_stp (ga : GoodNet many s1 a) (gb : GoodNet many s2 b) (hT : Carr s1 s2 a b T) {k x y : Nat} (hk : k < many) (hx : x < s1) (hy : y < s2) : T (stp b k y).1 (stp a k x).1 = T y x * ((stp b k y).2 * (stp a k x).2) := by
  obtain ⟨ra, ea, gra⟩ := ga.get hk
  obtain ⟨rb, eb, grb⟩ := gb.get hk
  obtain ⟨x', s, e1, hx', _, _⟩ := gra.ok x hx
  obtain ⟨y', t, e2, hy', _, _⟩ := grb.ok y hy
  rw [stp_get ea e1, stp_get eb e2]
  exact hT k ra rb ea eb x x' y y' s t hx hy e1 e2
theorem carr_led (ga : GoodNet many s1 a) (gb : GoodNet many s2 b) (hT : Carr s1 s2 a b T) : ∀ {w : List Nat}, (∀ k ∈ w, k < many) → ∀ {x y : Nat}, x < s1 → y < s2 → T (ledN b w (y, 1)).1 (ledN a w (x, 1)).1 = T y x * ((ledN b w (y, 1)).2 * (ledN a w (x, 1)).2)
  | [], _, x, y, _, _ => by
    show T y x = T y x * (1 * 1)
    rw [Int.mul_one, Int.mul_one]
  | k :: w, hw, x, y, hx, hy => by
    have hk := hw k List.mem_cons_self
    obtain ⟨_, l1, s1'⟩ := stp_adj ga hk hx
    obtain ⟨_, l2, s2'⟩ := stp_adj gb hk hy
    have ih := carr_led ga gb hT (w := w) (fun j hj => hw j (List.mem_cons_of_mem _ hj)) l1 l2
    have st := carr_stp ga gb hT hk hx hy
    have ea : ledN a (k :: w) (x, 1) = ((ledN a w ((stp a k x).1, 1)).1, (stp a k x).2 * (ledN a w ((stp a k x).1, 1)).2) := by
      show ledN a w ((stp a k x).1, 1 * (stp a k x).2) = _
      rw [ledN_lin, Int.one_mul]
    have eb : ledN b (k :: w) (y, 1) = ((ledN b w ((stp b k y).1, 1)).1, (stp b k y).2 * (ledN b w ((stp b k y).1, 1)).2) := by
      show ledN b w ((stp b k y).1, 1 * (stp b k y).2) = _
      rw [ledN_lin, Int.one_mul]
    rw [ea, eb]
    dsimp only
    rw [ih, st]
    generalize T y x = A
    generalize (stp b k y).2 = B
    generalize (stp a k x).2 = C
    generalize (ledN b w ((stp b k y).1, 1)).2 = E'
    generalize (ledN a w ((stp a k x).1, 1)).2 = F'
    simp only [Int.mul_assoc, Int.mul_left_comm, Int.mul_comm]
/-- a carrier and the tables of a word -/
theorem carr_word (ga : GoodNet many s1 a) (gb : GoodNet many s2 b) (hT : Carr s1 s2 a b T) {w : List Nat} (hw : ∀ k ∈ w, k < many) {x y : Nat} (hx : x < s1) (hy : y < s2) :
    sumZ ((List.range s1).map fun k => T y k * entN a w k x) = sumZ ((List.range s2).map fun k => entN b w y k * T k x) := by
  have lx := (ledN_ok ga hw (p := (x, 1)) hx).1
  have hr : ∀ k ∈ w.reverse, k < many := fun k hk => hw k (List.mem_reverse.mp hk)
  have ly := (ledN_ok gb hr (p := (y, 1)) hy).1
  have i1 := ledN_inv gb hr hy
  rw [List.reverse_reverse] at i1
  have e1 : sumZ ((List.range s1).map fun k => T y k * entN a w k x) = T y (ledN a w (x, 1)).1 * (ledN a w (x, 1)).2 := by
    rw [sumZ_congr (h := fun k => if (ledN a w (x, 1)).1 = k then T y (ledN a w (x, 1)).1 * (ledN a w (x, 1)).2 else 0) fun k _ => ?_, sumZ_one List.nodup_range (List.mem_range.mpr lx)]
    unfold entN
    by_cases c : (ledN a w (x, 1)).1 = k
    · rw [if_pos c, if_pos c, c]
    · rw [if_neg c, if_neg c, Int.mul_zero]
  have e2 : sumZ ((List.range s2).map fun k => entN b w y k * T k x) = (ledN b w ((ledN b w.reverse (y, 1)).1, 1)).2 * T (ledN b w.reverse (y, 1)).1 x := by
    rw [sumZ_congr (h := fun k => if (ledN b w.reverse (y, 1)).1 = k then (ledN b w ((ledN b w.reverse (y, 1)).1, 1)).2 * T (ledN b w.reverse (y, 1)).1 x else 0) fun k hk => ?_, sumZ_one List.nodup_range (List.mem_range.mpr ly)]
    have hk := List.mem_range.mp hk
    unfold entN
    by_cases c : (ledN b w.reverse (y, 1)).1 = k
    · subst c
      rw [i1, if_pos rfl, if_pos rfl]
    · rw [if_neg c, if_neg fun h => ?_, Int.zero_mul]
      have i2 := ledN_inv gb hw hk
      rw [h] at i2
      rw [i2] at c
      exact c rfl
  rw [e1, e2]
  have := carr_led ga gb hT hw hx ly
  rw [i1] at this ⊢
  dsimp only at this ⊢
  rw [this]
  rcases ledN_sign ga hw hx with h | h
  · rw [h, Int.mul_one, Int.mul_one, Int.mul_comm]
  · have key : ∀ A B : Int, A * (B * -1) * -1 = B * A := fun A B => by
      rw [Int.mul_assoc, Int.mul_assoc, show (-1 : Int) * -1 = 1 from rfl, Int.mul_one, Int.mul_comm]
    rw [h]
    exact key _ _
end
noncomputable def rtabD (a b : Net) (s1 s2 z : Nat) : D := .lst (matQ s2 s1 (rtF (prodN s1 a b) s1 z))
noncomputable def rtabs (a b : Net) (s1 s2 : Nat) : List D := (kins (prodN s1 a b) (s2 * s1)).map (rtabD a b s1 s2)
open Classical in
theorem balB_iff {n : Net} {z : Nat} : balB n z = true ↔ Bal n z := by
  unfold balB
  exact decide_eq_true_iff
theorem kins_bal {n : Net} {size : Nat} : kins n size = (heads n size).filter (balB n) := by
  unfold kins balB
  exact List.filter_congr fun z _ => by congr
def fillG (h w : Nat) (L : List Nat) (X : Nat → Int) : List (List D) := (List.range h).map fun y => rowI w fun x => if y * w + x ∈ L then X (y * w + x) else 0
theorem fill_len {h w : Nat} {L : List Nat} {X : Nat → Int} : (fillG h w L X).length = h := by simp [fillG]
theorem fill_get {h w y : Nat} {L : List Nat} {X : Nat → Int} (hy : y < h) : (fillG h w L X)[y]? = some (rowI w fun x => if y * w + x ∈ L then X (y * w + x) else 0) := by
  unfold fillG
  rw [List.getElem?_map, List.getElem?_range hy]
  rfl
theorem fill_nil {h w : Nat} {X : Nat → Int} : fillG h w [] X = (List.range h).map fun _ => (List.range w).map fun _ => D.int 0 := by
  unfold fillG rowI
  simp
theorem fill_set {h w q : Nat} {L : List Nat} {X : Nat → Int} {v : Int} (hq : q < h * w) (e : X q = v) : (fillG h w L X).set (q / w) ((rowI w fun x => if q / w * w + x ∈ L then X (q / w * w + x) else 0).set (q % w) (.int v)) = fillG h w (L ++ [q]) X := by
  have hx : q % w < w := mod_lt' hq
  have hy : q / w < h := div_lt hq
  refine List.ext_getElem? fun y => ?_
  rw [set_at (by rw [fill_len]; exact hy)]
  by_cases hy' : y < h
  · rw [fill_get hy', fill_get hy']
    by_cases c : q / w = y
    · subst c
      rw [if_pos rfl]
      congr 1
      refine List.ext_getElem? fun x => ?_
      rw [set_at (by rw [rowI_len]; exact hx)]
      by_cases hx' : x < w
      · rw [rowI_at hx', rowI_at hx']
        by_cases c : q % w = x
        · subst c
          rw [if_pos rfl, pair_eq, if_pos (by simp), e]
        · rw [if_neg c]
          have ne : q / w * w + x ≠ q := fun z => c (by rw [← z]; exact pair_mod hx')
          simp [ne]
      · have : (rowI w fun x => if q / w * w + x ∈ L ++ [q] then X (q / w * w + x) else 0)[x]? = none := List.getElem?_eq_none (by rw [rowI_len]; omega)
        rw [this, if_neg (by omega)]
        exact List.getElem?_eq_none (by rw [rowI_len]; omega)
    · rw [if_neg c]
      congr 1
      refine rowI_congr fun x hx' => ?_
      have ne : y * w + x ≠ q := fun z => c (by rw [← z]; exact pair_div hx')
      simp [ne]
  · have n1 : ∀ L' : List Nat, (fillG h w L' X)[y]? = none := fun L' => List.getElem?_eq_none (by rw [fill_len]; omega)
    rw [n1, n1, if_neg (by omega)]
theorem fill_all {h w : Nat} {L : List Nat} {X : Nat → Int} (e : ∀ q, q < h * w → q ∉ L → X q = 0) : (fillG h w L X).map D.lst = matQ h w fun y x => X (y * w + x) := by
  unfold fillG matQ
  rw [List.map_map]
  refine List.map_congr_left fun y hy => ?_
  show D.lst _ = D.lst _
  rw [rowI_congr fun x hx => ?_]
  by_cases c : y * w + x ∈ L
  · rw [if_pos c]
  · rw [if_neg c]
    exact e _ (pair_lt hx (List.mem_range.mp hy)) c
end L3
namespace L3
open PySem PySem.Spec PyProof.Rows L2
section
variable {many size : Nat} {n : Net} {folk : List Nat} {f : Nat → Nat}
theorem Folk.emb (h : Folk size n folk) (g : GoodNet many size n) : Emb folk.length (partN folk n) n (fun i => folk.getD i 0) where
  inj := fun i j hi hj e => by
    have ei : folk[i]? = some folk[i] := List.getElem?_eq_getElem hi
    have ej : folk[j]? = some folk[j] := List.getElem?_eq_getElem hj
    have e : folk.getD i 0 = folk.getD j 0 := e
    rw [List.getD_eq_getElem?_getD, List.getD_eq_getElem?_getD, ei, ej] at e
    have e : folk[i] = folk[j] := e
    rw [← e] at ej
    exact nodup_inj h.nd ei ej
  fwd := fun i j s hi a => by
    obtain ⟨k, r', e', ea⟩ := sadj_k.mp a
    have hk : k < many := by
      have := (List.getElem?_eq_some_iff.mp e').1
      unfold partN at this
      rw [List.length_map, g.len] at this
      exact this
    obtain ⟨r, er, gr⟩ := g.get hk
    unfold partN at e'
    rw [List.getElem?_map, er] at e'
    have e' := (Option.some.inj e').symm
    subst e'
    have ei : folk[i]? = some folk[i] := List.getElem?_eq_getElem hi
    have hx := h.lt _ (List.getElem_mem hi)
    obtain ⟨y, t, e1, hy, _, _⟩ := gr.ok _ hx
    rw [partR_get ei e1] at ea
    have ea := Option.some.inj ea
    have h1 : ((folk.idxOf y : Nat) : Int) = (j : Int) := congrArg Prod.fst ea
    have h2 : t = s := congrArg Prod.snd ea
    have h3 : folk.idxOf y = j := by omega
    have ym : y ∈ folk := h.cl _ (List.getElem_mem hi) _ ⟨r, List.mem_of_getElem? er, t, e1⟩
    have ey : folk.getD j 0 = y := by rw [← h3, List.getD_eq_getElem?_getD, idx_get ym]; rfl
    show sadj n (folk.getD i 0) (folk.getD j 0) s
    rw [ey, List.getD_eq_getElem?_getD, ei, ← h2]
    exact ⟨r, List.mem_of_getElem? er, e1⟩
  bwd := fun i z s hi a => by
    have ei : folk[i]? = some folk[i] := List.getElem?_eq_getElem hi
    have a : sadj n (folk.getD i 0) z s := a
    rw [List.getD_eq_getElem?_getD, ei] at a
    obtain ⟨k, r, er, ea⟩ := sadj_k.mp a
    have ea : r[folk[i]]? = some ((z : Int), s) := ea
    have zm : z ∈ folk := h.cl _ (List.getElem_mem hi) _ ⟨r, List.mem_of_getElem? er, s, ea⟩
    have iz : folk.idxOf z < folk.length := List.idxOf_lt_length_of_mem zm
    refine ⟨folk.idxOf z, iz, ?_, ?_⟩
    · show z = folk.getD (folk.idxOf z) 0
      rw [List.getD_eq_getElem?_getD, idx_get zm]
      rfl
    · refine sadj_k.mpr ⟨k, partR folk r, ?_, partR_get ei ea⟩
      unfold partN
      rw [List.getElem?_map, er]
      rfl
theorem Low.bal (w : Low n f) (g : GoodNet many size n) {z : Nat} (hz : z ∈ headL size f) : balB (partN (partL size f z) n) 0 = balB n z := by
  have fo := w.isFolk g hz
  have em := fo.emb g
  have gp := fo.net g
  have zz := mem_headL.mp hz
  have zm : z ∈ partL size f z := mem_partL.mpr zz
  have h0 : 0 < (partL size f z).length := List.length_pos_of_mem zm
  have e0 := em.bal gp h0
  have r : Reach n ((partL size f z).getD 0 0) z := by
    have ej : (partL size f z)[0]? = some (partL size f z)[0] := List.getElem?_eq_getElem h0
    refine (w.iff g).mpr ?_
    rw [List.getD_eq_getElem?_getD, ej, zz.2]
    exact (mem_partL.mp (List.getElem_mem h0)).2
  have e1 : Bal n ((partL size f z).getD 0 0) ↔ Bal n z := ⟨fun b => bal_on g b r, fun b => bal_on g b (reach_symm g r)⟩
  have : (balB (partN (partL size f z) n) 0 = true) ↔ (balB n z = true) := by
    rw [balB_iff, balB_iff]
    exact e0.trans e1
  cases a : balB (partN (partL size f z) n) 0 <;> cases b : balB n z <;> simp_all
end
section
variable {many size : Nat} {n : Net} {f : Nat → Nat}
theorem Low.head (w : Low n f) {z : Nat} : f z = z ↔ IsHead n z := ⟨fun e y r => by
  have := w.min z y r
  omega, fun h => Nat.le_antisymm (w.min z z reach_refl) (h _ (w.re z))⟩
open Classical in
theorem Low.heads (w : Low n f) : headL size f = L3.heads n size := by
  unfold headL L3.heads
  refine List.filter_congr fun z _ => ?_
  rw [Bool.eq_iff_iff, beq_iff_eq, decide_eq_true_iff]
  exact w.head
open Classical in
theorem Low.comp (w : Low n f) (g : GoodNet many size n) {z : Nat} (hz : f z = z) : partL size f z = L3.comp n size z := by
  unfold partL L3.comp
  refine List.filter_congr fun x _ => ?_
  rw [Bool.eq_iff_iff, beq_iff_eq, decide_eq_true_iff, w.iff g, hz]
  exact eq_comm
end
end L3
namespace L3
open PySem PySem.Spec PyProof.Rows L2
/-- a row at a column of numbers -/
def dotN (n : Nat) (r X : Nat → Int) : Int := sumZ ((List.range n).map fun z => r z * X z)
/-- leads in order: each has its spot, nothing ahead of it -/
inductive Ech : Nat → List (Nat × (Nat → Int)) → Prop
  | nil (n : Nat) : Ech n []
  | snoc {n s : Nat} {ls : List (Nat × (Nat → Int))} {l : Nat → Int} : Ech s ls → s < n → l s ≠ 0 → (∀ z, z < s → l z = 0) → Ech n (ls ++ [(s, l)])
theorem Ech.mono {n m : Nat} {ls : List (Nat × (Nat → Int))} (h : Ech n ls) (le : n ≤ m) : Ech m ls := by
  cases h with
  | nil => exact .nil m
  | snoc h1 h2 h3 h4 => exact .snoc h1 (by omega) h3 h4
theorem Ech.lt {n : Nat} {ls : List (Nat × (Nat → Int))} (h : Ech n ls) : ∀ p ∈ ls, p.1 < n := by
  induction h with
  | nil => exact fun p hp => nomatch hp
  | snoc h1 h2 _ _ ih =>
    intro p hp
    rcases List.mem_append.mp hp with hp | hp
    · exact Nat.lt_trans (ih p hp) h2
    · rw [List.mem_singleton.mp hp]
      exact h2
theorem Ech.nodup {n : Nat} {ls : List (Nat × (Nat → Int))} (h : Ech n ls) : (ls.map Prod.fst).Nodup := by
  induction h with
  | nil => simp
  | snoc h1 h2 _ _ ih =>
    rw [List.map_append, List.map_singleton]
    refine List.nodup_append.mpr ⟨ih, by simp, fun a ha b hb e => ?_⟩
    obtain ⟨p, hp, rfl⟩ := List.mem_map.mp ha
    have := h1.lt p hp
    rw [List.mem_singleton.mp hb] at e
    omega
/-- zero at the free columns: zero -/
theorem Ech.zero {N : Nat} {X : Nat → Int} {n : Nat} {ls : List (Nat × (Nat → Int))} (h : Ech n ls) : n ≤ N → (∀ p ∈ ls, dotN N p.2 X = 0) → (∀ z, z < N → n ≤ z → X z = 0) → (∀ z, z < n → z ∉ ls.map Prod.fst → X z = 0) → ∀ z, z < N → X z = 0 := by
  induction h with
  | nil n =>
    intro _ _ hi free z hz
    by_cases c : z < n
    · exact free z c (by simp)
    · exact hi z hz (by omega)
  | @snoc n s ls l h1 h2 h3 h4 ih =>
    intro hn hd hi free
    have above : ∀ z, z < N → s < z → X z = 0 := fun z hz hs => by
      by_cases c : z < n
      · refine free z c fun m => ?_
        obtain ⟨p, hp, e⟩ := List.mem_map.mp m
        rcases List.mem_append.mp hp with hp | hp
        · have := h1.lt p hp
          omega
        · rw [List.mem_singleton.mp hp] at e
          have e : s = z := e
          omega
      · exact hi z hz (by omega)
    have d := hd (s, l) (by simp)
    have es : dotN N l X = l s * X s := by
      unfold dotN
      rw [sumZ_congr (h := fun z => if s = z then l s * X s else 0) fun z hz => ?_]
      · exact sumZ_one List.nodup_range (List.mem_range.mpr (by omega))
      · have hz := List.mem_range.mp hz
        by_cases c : s = z
        · subst c
          rw [if_pos rfl]
        · rw [if_neg c]
          rcases Nat.lt_or_ge z s with h | h
          · rw [h4 z h, Int.zero_mul]
          · rw [above z hz (by omega), Int.mul_zero]
    have xs : X s = 0 := by
      have d : dotN N l X = 0 := d
      rw [es] at d
      rcases Int.mul_eq_zero.mp d with q | q
      · exact absurd q h3
      · exact q
    refine ih (by omega) (fun p hp => hd p (List.mem_append_left _ hp)) (fun z hz hs => ?_) (fun z hz hm => ?_)
    · rcases Nat.lt_or_ge s z with h | h
      · exact above z hz h
      · have : z = s := by omega
        rw [this]
        exact xs
    · refine free z (by omega) fun m => hm ?_
      obtain ⟨p, hp, e⟩ := List.mem_map.mp m
      rcases List.mem_append.mp hp with hp | hp
      · exact List.mem_map.mpr ⟨p, hp, e⟩
      · rw [List.mem_singleton.mp hp] at e
        have e : s = z := e
        omega
theorem filter_both {α : Type} {p : α → Bool} : ∀ {l : List α}, (l.filter p).length + (l.filter fun z => !p z).length = l.length
  | [] => rfl
  | x :: l => by
    have ih := filter_both (p := p) (l := l)
    cases e : p x
    · rw [List.filter_cons_of_neg (by simp [e]), List.filter_cons_of_pos (by simp [e]), List.length_cons, List.length_cons]
      omega
    · rw [List.filter_cons_of_pos e, List.filter_cons_of_neg (by simp [e]), List.length_cons, List.length_cons]
      omega
/-- the number of leads and the number of true rounds make up all columns -/
theorem ech_kin {many size : Nat} {n : Net} (g : GoodNet many size n) {ls : List (Nat × (Nat → Int))} (h : Ech size ls) (sol : ∀ X, Fix n size X ↔ ∀ p ∈ ls, dotN size p.2 X = 0) : ls.length + kinN n size = size := by
  rw [← kins_len]
  refine Nat.le_antisymm (Nat.le_of_not_lt fun hlt => ?_) (Nat.le_of_not_lt fun hlt => ?_)
  · -- more true rounds than free columns
    have fl : ((List.range size).filter fun z => decide (z ∉ ls.map Prod.fst)).length + ls.length = size := by
      have sub : ∀ z ∈ ls.map Prod.fst, z ∈ List.range size := fun z hz => by
        obtain ⟨p, hp, rfl⟩ := List.mem_map.mp hz
        exact List.mem_range.mpr (h.lt p hp)
      have pm : ((List.range size).filter fun z => decide (z ∈ ls.map Prod.fst)).Perm (ls.map Prod.fst) := by
        refine (List.perm_ext_iff_of_nodup (List.nodup_range.filter _) h.nodup).mpr fun z => ?_
        rw [List.mem_filter, decide_eq_true_iff]
        exact ⟨fun q => q.2, fun q => ⟨sub z q, q⟩⟩
      have e := filter_both (l := List.range size) (p := fun z => decide (z ∈ ls.map Prod.fst))
      rw [List.length_range, pm.length_eq, List.length_map] at e
      have e2 : ((List.range size).filter fun z => decide (z ∉ ls.map Prod.fst)) = (List.range size).filter fun z => !decide (z ∈ ls.map Prod.fst) := List.filter_congr fun z _ => by simp
      rw [e2]
      omega
    generalize hF : ((List.range size).filter fun z => decide (z ∉ ls.map Prod.fst)) = Fr at fl
    obtain ⟨c, ⟨j, hj, cj⟩, hc⟩ := hom_sol Fr.length (kins n size) (fun i z => baseF n z (Fr.getD i 0)) kins_nodup (by omega)
    have fx : Fix n size (fun p => sumZ ((kins n size).map fun z => c z * baseF n z p)) := fun p q s hp a => by
      show sumZ _ = sumZ _ * s
      rw [← sumZ_mulR]
      refine sumZ_congr fun z _ => ?_
      rw [baseF_fix g p q s hp a, Int.mul_assoc]
    have z0 := h.zero (N := size) (Nat.le_refl _) ((sol _).mp fx) (fun z hz hs => by omega) (fun z hz hm => by
      have zm : z ∈ Fr := by
        rw [← hF]
        exact List.mem_filter.mpr ⟨List.mem_range.mpr hz, by simpa using hm⟩
      obtain ⟨i, hi, e⟩ := List.mem_iff_getElem.mp zm
      have := hc i hi
      rw [List.getD_eq_getElem?_getD, List.getElem?_eq_getElem hi, e] at this
      rw [← this]
      exact sumZ_congr fun z _ => Int.mul_comm _ _)
    have z1 := z0 j (mem_kins.mp hj).1
    have e : sumZ ((kins n size).map fun z => c z * baseF n z j) = c j := by
      rw [sumZ_congr (h := fun z => if j = z then c j else 0) fun z hz => ?_]
      · exact sumZ_one kins_nodup hj
      · rw [baseF_at g hz hj]
        by_cases q : z = j
        · subst q
          rw [if_pos rfl, if_pos rfl, Int.mul_one]
        · rw [if_neg q, if_neg fun h => q h.symm, Int.mul_zero]
    exact cj (e.symm.trans z1)
  · -- fewer equations than columns
    obtain ⟨c, ⟨j, hj, cj⟩, hc⟩ := hom_sol (ls.length + (kins n size).length) (List.range size) (fun i z => if i < ls.length then (ls.getD i (0, fun _ => 0)).2 z else if z = (kins n size).getD (i - ls.length) 0 then 1 else 0) List.nodup_range (by rw [List.length_range]; exact hlt)
    have fx : Fix n size c := (sol c).mpr fun p hp => by
      obtain ⟨i, hi, e⟩ := List.mem_iff_getElem.mp hp
      have := hc i (by omega)
      simp only [if_pos hi] at this
      rw [List.getD_eq_getElem?_getD, List.getElem?_eq_getElem hi, e] at this
      exact this
    refine cj (fx.zero g (fun z hz => ?_) j (List.mem_range.mp hj))
    obtain ⟨i, hi, e⟩ := List.mem_iff_getElem.mp hz
    have := hc (ls.length + i) (by omega)
    simp only [if_neg (show ¬ ls.length + i < ls.length by omega), Nat.add_sub_cancel_left] at this
    rw [List.getD_eq_getElem?_getD, List.getElem?_eq_getElem hi, e] at this
    have hz' := (mem_kins.mp hz).1
    rw [sumZ_congr (h := fun y => if y = z then c y else 0) fun y _ => ?_, sum_pick hz'] at this
    · exact this
    · show (if y = (some z).getD 0 then (1 : Int) else 0) * c y = _
      by_cases q : y = z
      · subst q
        simp
      · rw [if_neg q, if_neg (show ¬ y = (some z).getD 0 from q), Int.zero_mul]
theorem dot_comb {n : Nat} {x l X : Nat → Int} {u v : Int} : dotN n (fun z => u * x z - v * l z) X = u * dotN n x X - v * dotN n l X := by
  unfold dotN
  rw [← sumZ_mulL, ← sumZ_mulL, Int.sub_eq_add_neg, ← Int.neg_one_mul, ← sumZ_mulL, ← sumZ_add]
  refine sumZ_congr fun z _ => ?_
  rw [Int.sub_mul, Int.mul_assoc, Int.mul_assoc]
  omega
theorem dot_scale {n : Nat} {x X : Nat → Int} {u : Int} : dotN n (fun z => u * x z) X = u * dotN n x X := by
  unfold dotN
  rw [← sumZ_mulL]
  exact sumZ_congr fun z _ => Int.mul_assoc _ _ _
theorem dot_zero {n : Nat} {x X : Nat → Int} (h : ∀ z, z < n → x z = 0) : dotN n x X = 0 := sumZ_zero fun z hz => by rw [h z (List.mem_range.mp hz), Int.zero_mul]
structure ElimAt (N : Nat) (lines : List (Nat → Int)) (spot : Nat) (rest : List (Nat → Int)) (ls : List (Nat × (Nat → Int))) : Prop where
  ech : Ech spot ls
  low : ∀ r ∈ rest, ∀ z, z < spot → r z = 0
  sol : ∀ X, (∀ r ∈ lines, dotN N r X = 0) ↔ (∀ p ∈ ls, dotN N p.2 X = 0) ∧ ∀ r ∈ rest, dotN N r X = 0
section
variable {N spot : Nat} {lines rest rest' : List (Nat → Int)} {ls : List (Nat × (Nat → Int))} {lead : Nat → Int}
theorem ElimAt.none_ (e : ElimAt N lines spot rest ls) (h : ∀ r ∈ rest, r spot = 0) : ElimAt N lines (spot + 1) rest ls :=
  ⟨e.ech.mono (by omega), fun r hr z hz => by
    rcases Nat.lt_or_ge z spot with c | c
    · exact e.low r hr z c
    · have : z = spot := by omega
      rw [this]
      exact h r hr, e.sol⟩
theorem ElimAt.step (e : ElimAt N lines spot rest ls) (hl : lead ∈ rest) (h0 : lead spot ≠ 0) (low' : ∀ r ∈ rest', ∀ z, z < spot + 1 → r z = 0) (h : ∀ X, dotN N lead X = 0 → ((∀ r ∈ rest, dotN N r X = 0) ↔ ∀ r ∈ rest', dotN N r X = 0)) : ElimAt N lines (spot + 1) rest' (ls ++ [(spot, lead)]) :=
  ⟨.snoc e.ech (by omega) h0 (e.low lead hl), low', fun X => by
    rw [e.sol X]
    constructor
    · rintro ⟨h1, h2⟩
      have d := h2 lead hl
      refine ⟨fun p hp => ?_, (h X d).mp h2⟩
      rcases List.mem_append.mp hp with hp | hp
      · exact h1 p hp
      · rw [List.mem_singleton.mp hp]
        exact d
    · rintro ⟨h1, h2⟩
      have d : dotN N lead X = 0 := h1 (spot, lead) (by simp)
      exact ⟨fun p hp => h1 p (List.mem_append_left _ hp), (h X d).mpr h2⟩⟩
theorem ElimAt.fin (e : ElimAt N lines N rest ls) : Ech N ls ∧ ∀ X, (∀ r ∈ lines, dotN N r X = 0) ↔ ∀ p ∈ ls, dotN N p.2 X = 0 :=
  ⟨e.ech, fun X => (e.sol X).trans ⟨fun h => h.1, fun h => ⟨h, fun r hr => dot_zero fun z hz => e.low r hr z hz⟩⟩⟩
end
section
variable {many s1 s2 : Nat} {a b : Net} {X : Nat → Int}
theorem fix_carr (ga : GoodNet many s1 a) (gb : GoodNet many s2 b) (fx : Fix (prodN s1 a b) (s2 * s1) X) : Carr s1 s2 a b fun y x => X (y * s1 + x) := fun k ra rb ea eb x x' y y' s t hx hy e1 e2 => by
  have gra := ga.row ra (List.mem_of_getElem? ea)
  have grb := gb.row rb (List.mem_of_getElem? eb)
  obtain ⟨hx', _, _⟩ := gra.inv hx e1
  obtain ⟨hy', _, _⟩ := grb.inv hy e2
  have := fx (y * s1 + x) (y' * s1 + x') (s * t) (pair_lt hx hy) ((sadj_prod ga gb (pair_lt hx hy)).mpr ⟨k, ra, rb, x', y', s, t, ea, eb, by rw [pair_mod hx]; exact e1, by rw [pair_div hx]; exact e2, hx', hy', rfl, rfl⟩)
  show X (y' * s1 + x') = X (y * s1 + x) * (t * s)
  rw [this, Int.mul_comm s t]
theorem ent_one {n : Net} {k y x : Nat} : entN n [k] y x = if (stp n k x).1 = y then (stp n k x).2 else 0 := by
  unfold entN
  show (if (stp n k x).1 = y then 1 * (stp n k x).2 else 0) = _
  rw [Int.one_mul]
theorem eq_fix (ga : GoodNet many s1 a) (gb : GoodNet many s2 b) (hs : s2 * s1 ≤ 1000) : (∀ k y x, k < many → y < s2 → x < s1 → sumZ ((List.range s1).map fun z => X (y * s1 + z) * entN a [k] z x) = sumZ ((List.range s2).map fun z => entN b [k] y z * X (z * s1 + x))) ↔ Fix (prodN s1 a b) (s2 * s1) X := by
  constructor
  · intro h p q s hp ad
    obtain ⟨k, ra, rb, z, w, s', t, ea, eb, e1, e2, hz, hw, rfl, rfl⟩ := (sadj_prod ga gb hp).mp ad
    have hk : k < many := by rw [← ga.len]; exact (List.getElem?_eq_some_iff.mp ea).1
    have gra := ga.row ra (List.mem_of_getElem? ea)
    have grb := gb.row rb (List.mem_of_getElem? eb)
    have hx : p % s1 < s1 := mod_lt' hp
    have hy : p / s1 < s2 := div_lt hp
    obtain ⟨_, hs', _⟩ := gra.inv hx e1
    obtain ⟨_, _, e3⟩ := grb.inv hy e2
    have sa := stp_get ea e1
    have sb := stp_get eb e2
    have e := h k w (p % s1) hk hw hx
    have l1 : sumZ ((List.range s1).map fun z' => X (w * s1 + z') * entN a [k] z' (p % s1)) = X (w * s1 + z) * s' := by
      rw [sumZ_congr (h := fun z' => if z = z' then X (w * s1 + z) * s' else 0) fun z' _ => ?_]
      · exact sumZ_one List.nodup_range (List.mem_range.mpr hz)
      · rw [ent_one, sa]
        by_cases c : z = z'
        · subst c
          rw [if_pos rfl, if_pos rfl]
        · rw [if_neg c, if_neg c, Int.mul_zero]
    have l2 : sumZ ((List.range s2).map fun z' => entN b [k] w z' * X (z' * s1 + p % s1)) = t * X p := by
      rw [sumZ_congr (h := fun z' => if p / s1 = z' then t * X p else 0) fun z' hz' => ?_]
      · exact sumZ_one List.nodup_range (List.mem_range.mpr hy)
      · have hz' := List.mem_range.mp hz'
        rw [ent_one]
        by_cases c : p / s1 = z'
        · subst c
          rw [sb, if_pos rfl, if_pos rfl, pair_eq]
        · rw [if_neg c, if_neg fun hw' => ?_, Int.zero_mul]
          obtain ⟨y', t', e4, hy', _, _⟩ := grb.ok z' hz'
          rw [stp_get eb e4] at hw'
          have hw' : y' = w := hw'
          rw [hw'] at e4
          exact c (grb.inj hy hz' e2 e4)
    rw [l1, l2] at e
    have e5 : X (w * s1 + z) * s' * s' = t * X p * s' := by rw [e]
    rcases hs' with rfl | rfl
    · rw [Int.mul_one, Int.mul_one, Int.mul_one] at e5
      rw [e5, Int.one_mul, Int.mul_comm]
    · rw [Int.mul_assoc, show (-1 : Int) * -1 = 1 from rfl, Int.mul_one] at e5
      rw [e5, Int.mul_comm t, Int.mul_assoc, Int.mul_comm t]
  · intro fx k y x hk hy hx
    exact carr_word ga gb (fix_carr ga gb fx) (w := [k]) (by simpa using hk) hx hy
end
end L3
namespace L3
open PySem PySem.Spec PyProof.Rows L2
def linesD (n : Nat) (fs : List (Nat → Int)) : List D := fs.map fun f => .lst (rowI n f)
theorem rowI_set {n q : Nat} {g h : Nat → Int} {v : Int} (hv : v = h q) (hh : ∀ p, p < n → p ≠ q → h p = g p) : (rowI n g).set q (.int v) = rowI n h := by
  refine List.ext_getElem? fun p => ?_
  by_cases hp : p < n
  · by_cases e : q = p
    · subst e
      rw [List.getElem?_set_self (by rw [rowI_len]; exact hp), rowI_at hp, hv]
    · rw [List.getElem?_set_ne e, rowI_at hp, rowI_at hp, hh p hp fun x => e x.symm]
  · rw [List.getElem?_eq_none (by rw [List.length_set, rowI_len]; omega), List.getElem?_eq_none (by rw [rowI_len]; omega)]
theorem linesD_pu {n : Nat} {fs : List (Nat → Int)} : Pu 2 (.lst (linesD n fs)) := .lst fun x hx => by
  obtain ⟨_, _, rfl⟩ := List.mem_map.mp hx
  exact rowI_pu
theorem linesD_len {n : Nat} {fs : List (Nat → Int)} : (linesD n fs).length = fs.length := List.length_map _
theorem f_abs {q : R → Prop} {i : Int} (k : q (.va (.int (if i < 0 then -i else i)))) : absF [.int i] q := k
theorem f_anyR {q : R → Prop} {m : Nat} {p : Nat → Bool} (k : q (.va (.bl ((List.range m).any p)))) : anyF [.lst ((List.range m).map fun j => D.bl (p j))] q := by
  refine ⟨(List.range m).map p, by rw [List.map_map]; rfl, ?_⟩
  rw [List.any_map]
  exact k
theorem linesD_get {n j : Nat} {fs : List (Nat → Int)} {y : D} (e : (linesD n fs)[j]? = some y) : ∃ f, fs[j]? = some f ∧ y = .lst (rowI n f) := by
  obtain ⟨f, hf, rfl⟩ := map_some e
  exact ⟨f, hf, rfl⟩
theorem filt_take {α : Type} {p : α → Bool} {fs : List α} {j : Nat} {f : α} (e : fs[j]? = some f) : (fs.take (j + 1)).filter p = (fs.take j).filter p ++ if p f then [f] else [] := by
  rw [List.take_add_one, e, Option.toList_some, List.filter_append, List.filter_cons, List.filter_nil]
theorem linesD_app {n : Nat} {fs gs : List (Nat → Int)} : linesD n (fs ++ gs) = linesD n fs ++ linesD n gs := List.map_append
/-- what behind a head comes of the rows x of l: rows that are zero to the spot, bounded, and say the same -/
structure Elim1 (n s : Nat) (lead : Nat → Int) (xs news : List (Nat → Int)) : Prop where
  low : ∀ r ∈ news, ∀ z, z < s + 1 → r z = 0
  sol : ∀ X, dotN n lead X = 0 → ((∀ r ∈ xs, dotN n r X = 0) ↔ ∀ r ∈ news, dotN n r X = 0)
def combF (lead x : Nat → Int) (s z : Nat) : Int := lead s * x z - x s * lead z
section
variable {n s : Nat} {lead x : Nat → Int} {xs news : List (Nat → Int)}
theorem Elim1.nil : Elim1 n s lead [] [] := ⟨fun _ h => (nomatch h), fun X _ => Iff.rfl⟩
theorem comb_low (hl : ∀ z, z < s → lead z = 0) (hx : ∀ z, z < s → x z = 0) (z : Nat) (hz : z < s + 1) : combF lead x s z = 0 := by
  unfold combF
  rcases Nat.lt_or_ge z s with c | c
  · rw [hl z c, hx z c, Int.mul_zero, Int.mul_zero]
    rfl
  · have : z = s := by omega
    subst this
    rw [Int.mul_comm (x z)]
    omega
theorem comb_dot {X : Nat → Int} (d : dotN n lead X = 0) : dotN n (combF lead x s) X = lead s * dotN n x X := by
  show dotN n (fun z => lead s * x z - x s * lead z) X = _
  rw [dot_comb, d, Int.mul_zero, Int.sub_zero]
theorem Elim1.zero (e : Elim1 n s lead xs news) (h0 : lead s ≠ 0) (hz : ∀ z, z < n → combF lead x s z = 0) : Elim1 n s lead (xs ++ [x]) news :=
  ⟨e.low, fun X d => by
    rw [← e.sol X d]
    have q : dotN n x X = 0 := by
      have := comb_dot (x := x) (s := s) d
      rw [dot_zero hz] at this
      rcases Int.mul_eq_zero.mp this.symm with h | h
      · exact absurd h h0
      · exact h
    constructor
    · exact fun h r hr => h r (List.mem_append_left _ hr)
    · intro h r hr
      rcases List.mem_append.mp hr with hr | hr
      · exact h r hr
      · rw [List.mem_singleton.mp hr]
        exact q⟩
theorem Elim1.snoc (e : Elim1 n s lead xs news) (h0 : lead s ≠ 0) (hl : ∀ z, z < s → lead z = 0) (hx : ∀ z, z < s → x z = 0) (hs : s < n) {g : Int} (g0 : 0 < g) (gd : ∀ z, z < n → g ∣ combF lead x s z) : Elim1 n s lead (xs ++ [x]) (news ++ [fun z => combF lead x s z / g]) :=
  ⟨fun r hr z hz => by
    rcases List.mem_append.mp hr with hr | hr
    · exact e.low r hr z hz
    · rw [List.mem_singleton.mp hr]
      show combF lead x s z / g = 0
      rw [comb_low hl hx z hz, Int.zero_ediv],
   fun X d => by
    have q : dotN n x X = 0 ↔ dotN n (fun z => combF lead x s z / g) X = 0 := by
      have e1 := comb_dot (x := x) (s := s) d
      have e2 : dotN n (combF lead x s) X = g * dotN n (fun z => combF lead x s z / g) X := by
        rw [← dot_scale]
        unfold dotN
        refine sumZ_congr fun z hz => ?_
        show _ = (g * (combF lead x s z / g)) * X z
        rw [Int.mul_ediv_cancel' (gd z (List.mem_range.mp hz))]
      rw [e2] at e1
      constructor
      · intro h
        rw [h, Int.mul_zero] at e1
        rcases Int.mul_eq_zero.mp e1 with h | h
        · omega
        · exact h
      · intro h
        rw [h, Int.mul_zero] at e1
        rcases Int.mul_eq_zero.mp e1.symm with h | h
        · exact absurd h h0
        · exact h
    constructor
    · intro h r hr
      rcases List.mem_append.mp hr with hr | hr
      · exact (e.sol X d).mp (fun r hr => h r (List.mem_append_left _ hr)) r hr
      · rw [List.mem_singleton.mp hr]
        exact q.mp (h x (by simp))
    · intro h r hr
      rcases List.mem_append.mp hr with hr | hr
      · exact (e.sol X d).mpr (fun r hr => h r (List.mem_append_left _ hr)) r hr
      · rw [List.mem_singleton.mp hr]
        exact q.mpr (h _ (by simp))⟩
end
def Short (n : Nat) (r : Nat → Int) : Prop := ∃ (p q : Nat) (α β : Int), (∀ z, z < n → r z = (if z = p then α else 0) + (if z = q then β else 0)) ∧ p ≠ q ∧ ((α.natAbs ≤ 1 ∧ β.natAbs ≤ 1) ∨ (α.natAbs ≤ 2 ∧ β = 0))
theorem Short.bnd {n : Nat} {r : Nat → Int} (h : Short n r) {z : Nat} (hz : z < n) : (r z).natAbs ≤ 2 := by
  obtain ⟨p, q, α, β, e, hne, hb⟩ := h
  rw [e z hz]
  split <;> split <;> omega
theorem Short.two {n p q : Nat} {r : Nat → Int} {α β : Int} (e : ∀ z, z < n → r z = (if z = p then α else 0) + (if z = q then β else 0)) (ha : α.natAbs ≤ 1) (hb : β.natAbs ≤ 1) : Short n r := by
  by_cases h : p = q
  · subst h
    refine ⟨p, p + 1, α + β, 0, fun z hz => ?_, by omega, .inr ⟨by omega, rfl⟩⟩
    rw [e z hz]
    split <;> split <;> omega
  · exact ⟨p, q, α, β, e, h, .inl ⟨ha, hb⟩⟩
theorem Short.at_ {n s : Nat} {r : Nat → Int} (h : Short n r) (hs : s < n) (h0 : r s ≠ 0) : ∃ (u : Nat) (α β : Int), u ≠ s ∧ (∀ z, z < n → r z = (if z = s then α else 0) + (if z = u then β else 0)) ∧ r s = α ∧ ((α.natAbs ≤ 1 ∧ β.natAbs ≤ 1) ∨ (α.natAbs ≤ 2 ∧ β = 0)) := by
  obtain ⟨p, q, α, β, e, hne, hb⟩ := h
  have es := e s hs
  by_cases hp : s = p
  · subst hp
    rw [if_pos rfl, if_neg hne] at es
    exact ⟨q, α, β, fun h => hne h.symm, e, by omega, hb⟩
  · rw [if_neg hp] at es
    by_cases hq : s = q
    · subst hq
      rw [if_pos rfl] at es
      refine ⟨p, β, α, fun h => hp h.symm, fun z hz => by rw [e z hz]; omega, by omega, ?_⟩
      rcases hb with hb | hb
      · exact .inl ⟨hb.2, hb.1⟩
      · omega
    · rw [if_neg hq] at es
      omega
theorem div_abs {a g : Int} (h : g ∣ a) (g0 : 0 < g) : (a / g).natAbs ≤ a.natAbs := by
  obtain ⟨k, rfl⟩ := h
  rw [Int.mul_ediv_cancel_left _ (by omega), Int.natAbs_mul]
  exact Nat.le_mul_of_pos_left _ (by omega)
theorem Short.comb {n s : Nat} {lead x : Nat → Int} {g : Int} (hl : Short n lead) (hx : Short n x) (hs : s < n) (l0 : lead s ≠ 0) (x0 : x s ≠ 0) (g0 : 0 < g) (gd : ∀ z, z < n → g ∣ combF lead x s z) : Short n fun z => combF lead x s z / g := by
  obtain ⟨u, α, β, hu, el, sl, bl⟩ := hl.at_ hs l0
  obtain ⟨v, γ, ε, hv, ex, sx, bx⟩ := hx.at_ hs x0
  have ec : ∀ z, z < n → combF lead x s z = (if z = v then α * ε else 0) + (if z = u then -(γ * β) else 0) := fun z hz => by
    unfold combF
    rw [sl, sx, el z hz, ex z hz]
    by_cases h : z = s
    · subst h
      have n1 : ¬ z = u := fun h => hu h.symm
      have n2 : ¬ z = v := fun h => hv h.symm
      simp only [n1, n2, if_true, if_false, Int.add_zero]
      rw [Int.mul_comm]
      omega
    · rw [if_neg h, if_neg h, Int.zero_add, Int.zero_add]
      by_cases h1 : z = v <;> by_cases h2 : z = u <;> simp only [h1, h2, if_true, if_false, Int.mul_zero] <;> first | omega | (split <;> omega) | skip
  have m1 : ∀ {a b : Int} {j k : Nat}, a.natAbs ≤ j → b.natAbs ≤ k → (a * b).natAbs ≤ j * k := fun h1 h2 => by
    rw [Int.natAbs_mul]
    exact Nat.mul_le_mul h1 h2
  have one : ∀ {w : Nat} {c : Int}, (∀ z, z < n → combF lead x s z = if z = w then c else 0) → c.natAbs ≤ 2 → Short n fun z => combF lead x s z / g := fun {w c} e hc => by
    by_cases hw : w < n
    · have hd := gd w hw
      rw [e w hw, if_pos rfl] at hd
      refine ⟨w, w + 1, c / g, 0, fun z hz => ?_, by omega, .inr ⟨Nat.le_trans (div_abs hd g0) hc, rfl⟩⟩
      show combF lead x s z / g = _
      rw [e z hz]
      by_cases h : z = w
      · rw [if_pos h, if_pos h]
        split <;> omega
      · rw [if_neg h, if_neg h, Int.zero_ediv]
        split <;> rfl
    · refine ⟨w, w + 1, 0, 0, fun z hz => ?_, by omega, .inr ⟨by decide, rfl⟩⟩
      show combF lead x s z / g = _
      rw [e z hz, if_neg (by omega), Int.zero_ediv]
      split <;> split <;> rfl
  by_cases b0 : β = 0
  · subst b0
    refine one (w := v) (c := α * ε) (fun z hz => ?_) ?_
    · rw [ec z hz, Int.mul_zero]
      split <;> split <;> omega
    · rcases bx with ⟨_, h⟩ | ⟨_, rfl⟩
      · have : α.natAbs ≤ 2 := by omega
        exact m1 this h
      · rw [Int.mul_zero]
        decide
  · by_cases e0 : ε = 0
    · subst e0
      refine one (w := u) (c := -(γ * β)) (fun z hz => ?_) ?_
      · rw [ec z hz, Int.mul_zero]
        split <;> split <;> omega
      · rcases bl with ⟨_, h⟩ | ⟨_, h⟩
        · have : γ.natAbs ≤ 2 := by omega
          rw [Int.natAbs_neg]
          exact m1 this h
        · exact absurd h b0
    · have a1 : α.natAbs ≤ 1 ∧ β.natAbs ≤ 1 := by omega
      have c1 : γ.natAbs ≤ 1 ∧ ε.natAbs ≤ 1 := by omega
      have p1 : (α * ε).natAbs ≤ 1 := m1 (j := 1) (k := 1) a1.1 c1.2
      have p2 : (-(γ * β)).natAbs ≤ 1 := by
        rw [Int.natAbs_neg]
        exact m1 (j := 1) (k := 1) c1.1 a1.2
      by_cases huv : v = u
      · subst huv
        refine one (w := v) (c := α * ε + -(γ * β)) (fun z hz => ?_) (by omega)
        rw [ec z hz]
        split <;> omega
      · by_cases hvn : v < n
        · have d1 := gd v hvn
          rw [ec v hvn, if_pos rfl, if_neg huv, Int.add_zero] at d1
          by_cases hun : u < n
          · have d2 := gd u hun
            rw [ec u hun, if_neg (fun h => huv h.symm), if_pos rfl, Int.zero_add] at d2
            refine ⟨v, u, α * ε / g, -(γ * β) / g, fun z hz => ?_, huv, .inl ⟨Nat.le_trans (div_abs d1 g0) p1, Nat.le_trans (div_abs d2 g0) p2⟩⟩
            show combF lead x s z / g = _
            rw [ec z hz]
            by_cases h1 : z = v
            · have h2 : z ≠ u := fun h => huv (h1.symm.trans h)
              rw [if_pos h1, if_neg h2, if_pos h1, if_neg h2, Int.add_zero, Int.add_zero]
            · rw [if_neg h1, if_neg h1, Int.zero_add, Int.zero_add]
              split
              · rfl
              · rw [Int.zero_ediv]
          · refine one (w := v) (c := α * ε) (fun z hz => ?_) (by omega)
            rw [ec z hz, if_neg (show ¬ z = u by omega)]
            omega
        · refine one (w := u) (c := -(γ * β)) (fun z hz => ?_) (by omega)
          rw [ec z hz, if_neg (show ¬ z = v by omega)]
          omega
/-- rows that share no column -/
def Apt (n : Nat) (r q : Nat → Int) : Prop := ∀ z, z < n → r z ≠ 0 → q z = 0
def Kind (n : Nat) (fs : List (Nat → Int)) : Prop := (∀ f ∈ fs, Short n f) ∨ ((∀ f ∈ fs, ∀ z, z < n → (f z).natAbs ≤ 2) ∧ fs.Pairwise (Apt n))
theorem Kind.bnd {n : Nat} {fs : List (Nat → Int)} (h : Kind n fs) {f : Nat → Int} (hf : f ∈ fs) {z : Nat} (hz : z < n) : (f z).natAbs ≤ 2 := by
  rcases h with h | h
  · exact (h f hf).bnd hz
  · exact h.1 f hf z hz
theorem Kind.filter {n : Nat} {fs : List (Nat → Int)} (h : Kind n fs) (p : (Nat → Int) → Bool) : Kind n (fs.filter p) := by
  rcases h with h | ⟨h1, h2⟩
  · exact .inl fun f hf => h f (List.mem_filter.mp hf).1
  · exact .inr ⟨fun f hf => h1 f (List.mem_filter.mp hf).1, h2.filter p⟩
structure ElimW (n : Nat) (lines : List (Nat → Int)) (spot : Nat) (rest : List (Nat → Int)) (ls : List (Nat × (Nat → Int))) : Prop where
  at_ : ElimAt n lines spot rest ls
  kind : Kind n rest
  cnt : rest.length ≤ lines.length
section
variable {n spot : Nat} {lines rest news : List (Nat → Int)} {ls : List (Nat × (Nat → Int))} {lead : Nat → Int} {tail : List (Nat → Int)}
theorem ElimW.start {p : (Nat → Int) → Bool} (hp : ∀ f ∈ lines, p f = false → ∀ z, z < n → f z = 0) (hb : Kind n lines) : ElimW n lines 0 (lines.filter p) [] :=
  ⟨⟨.nil _, fun _ _ z hz => absurd hz (Nat.not_lt_zero _), fun X => by
    refine ⟨fun h => ⟨fun _ h => (nomatch h), fun r hr => h r (List.mem_filter.mp hr).1⟩, fun h r hr => ?_⟩
    cases e : p r
    · exact dot_zero (hp r hr e)
    · exact h.2 r (List.mem_filter.mpr ⟨hr, e⟩)⟩, hb.filter p, List.length_filter_le _ _⟩
theorem ElimW.none_ (e : ElimW n lines spot rest ls) (h : rest.filter (fun f => decide (f spot ≠ 0)) = []) : ElimW n lines (spot + 1) rest ls :=
  ⟨e.at_.none_ fun r hr => by
    have := List.filter_eq_nil_iff.mp h r hr
    simpa using this, e.kind, e.cnt⟩
theorem ElimW.step (e : ElimW n lines spot rest ls) (hs : spot < n) (h : rest.filter (fun f => decide (f spot ≠ 0)) = lead :: tail) (w : Elim1 n spot lead tail news) (hc : news.length ≤ tail.length) (hk : (∀ f ∈ news, Short n f) ∨ tail = []) (hk2 : (∀ f ∈ rest, Short n f) ∨ tail = []) : ElimW n lines (spot + 1) (rest.filter (fun f => decide (f spot = 0)) ++ news) (ls ++ [(spot, lead)]) := by
  have mem : ∀ r, r ∈ lead :: tail ↔ r ∈ rest ∧ r spot ≠ 0 := fun r => by rw [← h, List.mem_filter, decide_eq_true_iff]
  obtain ⟨m1, m2⟩ := (mem lead).mp List.mem_cons_self
  refine ⟨e.at_.step m1 m2 (fun r hr z hz => ?_) (fun X d => ?_), ?_, ?_⟩
  · rcases List.mem_append.mp hr with hr | hr
    · obtain ⟨q1, q2⟩ := List.mem_filter.mp hr
      rcases Nat.lt_or_ge z spot with c | c
      · exact e.at_.low r q1 z c
      · have : z = spot := by omega
        rw [this]
        exact of_decide_eq_true q2
    · exact w.low r hr z hz
  · constructor
    · intro k r hr
      rcases List.mem_append.mp hr with hr | hr
      · exact k r (List.mem_filter.mp hr).1
      · exact (w.sol X d).mp (fun r hr => k r ((mem r).mp (List.mem_cons_of_mem _ hr)).1) r hr
    · intro k r hr
      by_cases c : r spot = 0
      · exact k r (List.mem_append_left _ (List.mem_filter.mpr ⟨hr, decide_eq_true c⟩))
      · rcases List.mem_cons.mp ((mem r).mpr ⟨hr, c⟩) with rfl | q
        · exact d
        · exact (w.sol X d).mpr (fun r hr => k r (List.mem_append_right _ hr)) r q
  · have gone : tail = [] → Kind n (rest.filter (fun f => decide (f spot = 0)) ++ news) := fun ht => by
      subst ht
      have : news = [] := List.eq_nil_of_length_eq_zero (by simpa using hc)
      subst this
      rw [List.append_nil]
      exact e.kind.filter _
    rcases hk with hk | hk
    · rcases hk2 with hk2 | hk2
      · refine Or.inl fun f hf => ?_
        rcases List.mem_append.mp hf with hf | hf
        · exact hk2 f (List.mem_filter.mp hf).1
        · exact hk f hf
      · exact gone hk2
    · exact gone hk
  · have := filter_both (l := rest) (p := fun f => decide (f spot = 0))
    have e2 : (rest.filter fun f => !decide (f spot = 0)) = rest.filter (fun f => decide (f spot ≠ 0)) := List.filter_congr fun f _ => by simp
    rw [e2, h] at this
    have c := e.cnt
    simp only [List.length_append, List.length_cons] at this ⊢
    omega
/-- all rows are short, or there is one head at most -/
theorem ElimW.alone (e : ElimW n lines spot rest ls) (hs : spot < n) (h : rest.filter (fun f => decide (f spot ≠ 0)) = lead :: tail) : (∀ f ∈ rest, Short n f) ∨ tail = [] := by
  rcases e.kind with k | ⟨_, k⟩
  · exact .inl k
  · right
    have p := k.filter (fun f => decide (f spot ≠ 0))
    rw [h] at p
    cases tail with
    | nil => rfl
    | cons x t =>
      have := (List.pairwise_cons.mp p).1 x List.mem_cons_self
      have m : ∀ r, r ∈ lead :: x :: t → r spot ≠ 0 := fun r hr => by
        rw [← h] at hr
        exact of_decide_eq_true (List.mem_filter.mp hr).2
      exact absurd (this spot hs (m lead List.mem_cons_self)) (m x (by simp))
end
theorem ech_ind {n : Nat} {ls : List (Nat × (Nat → Int))} (h : Ech n ls) {zs : List Nat} (F : Nat → Nat → Int) (nd : zs.Nodup) (hz : ∀ z ∈ zs, z < n) (hF : ∀ z ∈ zs, ∀ w ∈ zs, F z w = if z = w then 1 else 0) (sol : ∀ X, (∀ r ∈ zs.map F, dotN n r X = 0) ↔ ∀ p ∈ ls, dotN n p.2 X = 0) : ls.length = zs.length := by
  refine Nat.le_antisymm (Nat.le_of_not_lt fun hlt => ?_) (Nat.le_of_not_lt fun hlt => ?_)
  · have fl : ((List.range n).filter fun z => decide (z ∉ ls.map Prod.fst)).length + ls.length = n := by
      have sub : ∀ z ∈ ls.map Prod.fst, z ∈ List.range n := fun z hz => by
        obtain ⟨p, hp, rfl⟩ := List.mem_map.mp hz
        exact List.mem_range.mpr (h.lt p hp)
      have pm : ((List.range n).filter fun z => decide (z ∈ ls.map Prod.fst)).Perm (ls.map Prod.fst) := by
        refine (List.perm_ext_iff_of_nodup (List.nodup_range.filter _) h.nodup).mpr fun z => ?_
        rw [List.mem_filter, decide_eq_true_iff]
        exact ⟨fun q => q.2, fun q => ⟨sub z q, q⟩⟩
      have e := filter_both (l := List.range n) (p := fun z => decide (z ∈ ls.map Prod.fst))
      rw [List.length_range, pm.length_eq, List.length_map] at e
      have e2 : ((List.range n).filter fun z => decide (z ∉ ls.map Prod.fst)) = (List.range n).filter fun z => !decide (z ∈ ls.map Prod.fst) := List.filter_congr fun z _ => by simp
      rw [e2]
      omega
    generalize hFr : ((List.range n).filter fun z => decide (z ∉ ls.map Prod.fst)) = Fr at fl
    obtain ⟨c, ⟨j, hj, cj⟩, hc⟩ := hom_sol (zs.length + Fr.length) (List.range n) (fun i z => if i < zs.length then F (zs.getD i 0) z else if z = Fr.getD (i - zs.length) 0 then 1 else 0) List.nodup_range (by rw [List.length_range]; omega)
    have d1 : ∀ r ∈ zs.map F, dotN n r c = 0 := fun r hr => by
      obtain ⟨z, hz, rfl⟩ := List.mem_map.mp hr
      obtain ⟨i, hi, e⟩ := List.mem_iff_getElem.mp hz
      have := hc i (by omega)
      simp only [if_pos hi] at this
      rw [List.getD_eq_getElem?_getD, List.getElem?_eq_getElem hi, e] at this
      exact this
    refine cj (h.zero (N := n) (Nat.le_refl _) ((sol c).mp d1) (fun z hz hs => by omega) (fun z hz hm => ?_) j (List.mem_range.mp hj))
    have zm : z ∈ Fr := by
      rw [← hFr]
      exact List.mem_filter.mpr ⟨List.mem_range.mpr hz, by simpa using hm⟩
    obtain ⟨i, hi, e⟩ := List.mem_iff_getElem.mp zm
    have := hc (zs.length + i) (by omega)
    simp only [if_neg (show ¬ zs.length + i < zs.length by omega), Nat.add_sub_cancel_left] at this
    rw [List.getD_eq_getElem?_getD, List.getElem?_eq_getElem hi, e] at this
    rw [sumZ_congr (h := fun y => if y = z then c y else 0) fun y _ => ?_, sum_pick hz] at this
    · exact this
    · show (if y = (some z).getD 0 then (1 : Int) else 0) * c y = _
      by_cases q : y = z
      · subst q
        simp
      · rw [if_neg q, if_neg (show ¬ y = (some z).getD 0 from q), Int.zero_mul]
  · obtain ⟨c, ⟨j, hj, cj⟩, hc⟩ := hom_sol ls.length zs (fun i z => (ls.getD i (0, fun _ => 0)).2 z) nd hlt
    have pick : ∀ f : Nat → Int, dotN n f (fun p => if p ∈ zs then c p else 0) = sumZ (zs.map fun z => f z * c z) := fun f => by
      unfold dotN
      rw [sumZ_congr (h := fun p => sumZ (zs.map fun z => if p = z then f p * c p else 0)) fun p hp => ?_, sumZ_swap]
      · refine sumZ_congr fun z hz' => ?_
        exact sum_pick (f := fun z => f z * c z) (hz z hz')
      · show f p * (if p ∈ zs then c p else 0) = _
        by_cases m : p ∈ zs
        · rw [if_pos m]
          exact (sumZ_one nd m).symm
        · rw [if_neg m, Int.mul_zero]
          refine (sumZ_zero fun z hz => ?_).symm
          rw [if_neg fun (q : p = z) => m (q ▸ hz)]
    have d0 : ∀ r ∈ zs.map F, dotN n r (fun p => if p ∈ zs then c p else 0) = 0 := (sol _).mpr fun p hp => by
      obtain ⟨i, hi, e⟩ := List.mem_iff_getElem.mp hp
      have := hc i hi
      rw [List.getD_eq_getElem?_getD, List.getElem?_eq_getElem hi, e] at this
      rw [pick]
      exact this
    have d1 := d0 (F j) (List.mem_map_of_mem hj)
    rw [pick, sumZ_congr (h := fun z => if j = z then c j else 0) fun z hz => ?_, sumZ_one nd hj] at d1
    · exact cj d1
    · rw [hF j hj z hz]
      by_cases q : j = z
      · subst q
        rw [if_pos rfl, if_pos rfl, Int.one_mul]
      · rw [if_neg q, if_neg q, Int.zero_mul]
def eqnF (a b : Net) (s1 k y x : Nat) (p : Nat) : Int := (if p / s1 = y then entN a [k] (p % s1) x else 0) - (if p % s1 = x then entN b [k] y (p / s1) else 0)
def eqnL (a b : Net) (s1 s2 many : Nat) : List (Nat → Int) := (List.range many).flatMap fun k => (List.range s2).flatMap fun y => (List.range s1).map fun x => eqnF a b s1 k y x
theorem mem_eqnL {a b : Net} {s1 s2 many : Nat} {f : Nat → Int} : f ∈ eqnL a b s1 s2 many ↔ ∃ k y x, k < many ∧ y < s2 ∧ x < s1 ∧ f = eqnF a b s1 k y x := by
  unfold eqnL
  simp only [List.mem_flatMap, List.mem_map, List.mem_range]
  constructor
  · rintro ⟨k, hk, y, hy, x, hx, rfl⟩
    exact ⟨k, y, x, hk, hy, hx, rfl⟩
  · rintro ⟨k, y, x, hk, hy, hx, rfl⟩
    exact ⟨k, hk, y, hy, x, hx, rfl⟩
theorem eqnL_len {a b : Net} {s1 s2 many : Nat} : (eqnL a b s1 s2 many).length = many * (s2 * s1) := by
  have sc : ∀ (c n : Nat), ((List.range n).map fun _ => c).sum = n * c := fun c n => by
    induction n with
    | zero => simp
    | succ n ih => rw [List.range_succ, List.map_append, List.sum_append, ih, Nat.succ_mul]; simp
  unfold eqnL
  rw [List.length_flatMap]
  have e : ∀ k, ((List.range s2).flatMap fun y => (List.range s1).map fun x => eqnF a b s1 k y x).length = s2 * s1 := fun k => by
    rw [List.length_flatMap]
    simp only [List.length_map, List.length_range]
    exact sc _ _
  simp only [e]
  exact sc _ _
section
variable {many s1 s2 : Nat} {a b : Net} {X : Nat → Int}
theorem eqF_short (ga : GoodNet many s1 a) (gb : GoodNet many s2 b) {k y x : Nat} (hk : k < many) (hy : y < s2) (hx : x < s1) : Short (s2 * s1) (eqnF a b s1 k y x) := by
  obtain ⟨ra, ea, gra⟩ := ga.get hk
  obtain ⟨rb, eb, grb⟩ := gb.get hk
  obtain ⟨x', s, e1, hx', hs', _⟩ := gra.ok x hx
  obtain ⟨w, t, e2, hw, ht, _⟩ := grb.ok y hy
  obtain ⟨_, _, e3⟩ := grb.inv hy e2
  refine Short.two (p := y * s1 + x') (q := w * s1 + x) (α := s) (β := -t) (fun p hp => ?_) (by rcases hs' with h | h <;> rw [h] <;> decide) (by rcases ht with h | h <;> rw [h] <;> decide)
  unfold eqnF
  rw [ent_one, ent_one, stp_get ea e1]
  have c1 : (if p / s1 = y then if (x', s).1 = p % s1 then (x', s).2 else 0 else 0) = if p = y * s1 + x' then s else 0 := by
    by_cases h : p = y * s1 + x'
    · rw [if_pos h, h, pair_div hx', pair_mod hx', if_pos rfl, if_pos rfl]
    · rw [if_neg h]
      by_cases h1 : p / s1 = y
      · rw [if_pos h1, if_neg]
        intro h2
        have h2 : x' = p % s1 := h2
        refine h ?_
        rw [← h1, h2, pair_eq]
      · rw [if_neg h1]
  have c2 : (if p % s1 = x then if (stp b k (p / s1)).1 = y then (stp b k (p / s1)).2 else 0 else 0) = if p = w * s1 + x then t else 0 := by
    by_cases h : p = w * s1 + x
    · rw [if_pos h, h, pair_div hx, pair_mod hx, if_pos rfl, stp_get eb e3, if_pos rfl]
    · rw [if_neg h]
      by_cases h1 : p % s1 = x
      · rw [if_pos h1, if_neg]
        intro h2
        obtain ⟨y', t', e4, hy', _, _⟩ := grb.ok (p / s1) (div_lt hp)
        rw [stp_get eb e4] at h2
        have h2 : y' = y := h2
        rw [h2] at e4
        refine h ?_
        have := grb.inj hw (div_lt hp) e3 e4
        rw [← h1, this, pair_eq]
      · rw [if_neg h1]
  rw [c1, c2]
  by_cases h : p = w * s1 + x
  · rw [if_pos h, if_pos h]
    omega
  · rw [if_neg h, if_neg h]
    omega
theorem sum_pair {f : Nat → Int} (h1 : 0 < s1) : sumZ ((List.range (s2 * s1)).map f) = sumZ ((List.range s2).map fun y => sumZ ((List.range s1).map fun x => f (y * s1 + x))) := by
  induction s2 with
  | zero => rw [Nat.zero_mul]; rfl
  | succ m ih =>
    rw [Nat.succ_mul, List.range_add, List.map_append, sumZ_append, ih, List.range_succ (n := m), List.map_append, sumZ_append, List.map_map]
    congr 1
    show _ = sumZ [_]
    rw [show ∀ i : Int, sumZ [i] = i from fun i => by show i + 0 = i; omega]
    rfl
theorem eq_dot (ga : GoodNet many s1 a) (gb : GoodNet many s2 b) {k y x : Nat} (hy : y < s2) (hx : x < s1) : dotN (s2 * s1) (eqnF a b s1 k y x) X = sumZ ((List.range s1).map fun z => X (y * s1 + z) * entN a [k] z x) - sumZ ((List.range s2).map fun z => entN b [k] y z * X (z * s1 + x)) := by
  have h1 := ga.s0
  unfold dotN
  rw [sum_pair h1]
  rw [sumZ_congr (h := fun y' => (if y' = y then sumZ ((List.range s1).map fun z => X (y * s1 + z) * entN a [k] z x) else 0) + -1 * (entN b [k] y y' * X (y' * s1 + x))) fun y' _ => ?_, sumZ_add, sum_pick (f := fun _ => sumZ ((List.range s1).map fun z => X (y * s1 + z) * entN a [k] z x)) hy, sumZ_mulL]
  · omega
  · rw [sumZ_congr (h := fun x' => (if y' = y then X (y' * s1 + x') * entN a [k] x' x else 0) + (if x' = x then -1 * (entN b [k] y y' * X (y' * s1 + x')) else 0)) fun x' hx' => ?_, sumZ_add, sum_pick (f := fun x' => -1 * (entN b [k] y y' * X (y' * s1 + x'))) hx]
    · congr 1
      by_cases c : y' = y
      · subst c
        simp only [if_true]
      · simp only [if_neg c]
        exact sumZ_zero fun _ _ => rfl
    · unfold eqnF
      have hx' := List.mem_range.mp hx'
      rw [pair_mod hx', pair_div hx', Int.sub_mul, Int.sub_eq_add_neg]
      congr 1
      · split
        · rw [Int.mul_comm]
        · rw [Int.zero_mul]
      · split
        · omega
        · rw [Int.zero_mul]
          rfl
theorem eqL_fix (ga : GoodNet many s1 a) (gb : GoodNet many s2 b) (hs : s2 * s1 ≤ 1000) : (∀ r ∈ eqnL a b s1 s2 many, dotN (s2 * s1) r X = 0) ↔ Fix (prodN s1 a b) (s2 * s1) X := by
  rw [← eq_fix ga gb hs]
  constructor
  · intro h k y x hk hy hx
    have := h _ (mem_eqnL.mpr ⟨k, y, x, hk, hy, hx, rfl⟩)
    rw [eq_dot ga gb hy hx] at this
    omega
  · intro h r hr
    obtain ⟨k, y, x, hk, hy, hx, rfl⟩ := mem_eqnL.mp hr
    rw [eq_dot ga gb hy hx, h k y x hk hy hx]
    omega
end
end L3
namespace L3
open PySem PySem.Spec PyProof.Rows L2
class Stp (P : Prop) (Q : outParam Prop) : Prop where
  go : Q → P
class Tag (P : Prop) (Q : outParam Prop) : Prop where
  go : Q → P
def B0 (P : Prop) : Prop := P
def B1 (P : Prop) : Prop := P
theorem b0 {P : Prop} (h : P) : B0 P := h
theorem b1 {P : Prop} (h : P) : B1 P := h
section
variable {Q : R → En → Prop} {QB : Bool → En → Prop} {QA : List R → En → Prop} {δ : En} {d : D} {c : Cn} {T U V : DT} {C C2 : DTT} {TA : DTA} {F : D → D → (R → Prop) → Prop} {F1 : D → (R → Prop) → Prop}
variable {q : R → Prop}
variable {n : En → Prop} {rt : R → En → Prop} {bk ct : En → Prop} {S S2 : DS}
instance  : Stp (seq S S2 ⟨n, rt, bk, ct⟩ δ) (S ⟨S2 ⟨n, rt, bk, ct⟩, rt, bk, ct⟩ δ) := ⟨s_seq⟩
end
section
variable {Q : R → En → Prop} {QB : Bool → En → Prop} {QA : List R → En → Prop} {δ : En} {d : D} {c : Cn} {T U V : DT} {C C2 : DTT} {TA : DTA} {F : D → D → (R → Prop) → Prop} {F1 : D → (R → Prop) → Prop}
variable {q : R → Prop}
variable {n : En → Prop} {rt : R → En → Prop} {bk ct : En → Prop} {S S2 : DS}
instance  : Stp (snext ⟨n, rt, bk, ct⟩ δ) (n δ) := ⟨s_next⟩
end
section
variable {Q : R → En → Prop} {QB : Bool → En → Prop} {QA : List R → En → Prop} {δ : En} {d : D} {c : Cn} {T U V : DT} {C C2 : DTT} {TA : DTA} {F : D → D → (R → Prop) → Prop} {F1 : D → (R → Prop) → Prop}
variable {q : R → Prop}
variable {n : En → Prop} {rt : R → En → Prop} {bk ct : En → Prop} {S S2 : DS}
instance  : Stp (sexpr T ⟨n, rt, bk, ct⟩ δ) (T δ fun _ δ1 => n δ1) := ⟨s_expr⟩
end
section
variable {Q : R → En → Prop} {QB : Bool → En → Prop} {QA : List R → En → Prop} {δ : En} {d : D} {c : Cn} {T U V : DT} {C C2 : DTT} {TA : DTA} {F : D → D → (R → Prop) → Prop} {F1 : D → (R → Prop) → Prop}
variable {q : R → Prop}
variable {n : En → Prop} {rt : R → En → Prop} {bk ct : En → Prop} {S S2 : DS}
instance  : Stp (sif C S S2 ⟨n, rt, bk, ct⟩ δ) (C δ fun b δ1 => (b = true → S ⟨n, rt, bk, ct⟩ δ1) ∧ (b = false → S2 ⟨n, rt, bk, ct⟩ δ1)) := ⟨s_if⟩
end
section
variable {Q : R → En → Prop} {QB : Bool → En → Prop} {QA : List R → En → Prop} {δ : En} {d : D} {c : Cn} {T U V : DT} {C C2 : DTT} {TA : DTA} {F : D → D → (R → Prop) → Prop} {F1 : D → (R → Prop) → Prop}
variable {q : R → Prop}
variable {n : En → Prop} {rt : R → En → Prop} {bk ct : En → Prop} {S S2 : DS}
instance {ps : List Nat} : Stp (sret ps T ⟨n, rt, bk, ct⟩ δ) (T δ fun r δ1 => ∃ r', r.out δ1 = some r' ∧ (∀ i, r = .rf i → i ∉ ps) ∧ rt r' δ1) := ⟨s_ret⟩
end
section
variable {Q : R → En → Prop} {QB : Bool → En → Prop} {QA : List R → En → Prop} {δ : En} {d : D} {c : Cn} {T U V : DT} {C C2 : DTT} {TA : DTA} {F : D → D → (R → Prop) → Prop} {F1 : D → (R → Prop) → Prop}
variable {q : R → Prop}
variable {n : En → Prop} {rt : R → En → Prop} {bk ct : En → Prop} {S S2 : DS}
instance {i : Nat} : Stp (sset i T ⟨n, rt, bk, ct⟩ δ) (T δ fun r δ1 => ∃ d, r.still δ1 = some d ∧ ∃ δ', δ1.set i (.va d) = δ' ∧ n δ') := ⟨s_set⟩
end
section
variable {Q : R → En → Prop} {QB : Bool → En → Prop} {QA : List R → En → Prop} {δ : En} {d : D} {c : Cn} {T U V : DT} {C C2 : DTT} {TA : DTA} {F : D → D → (R → Prop) → Prop} {F1 : D → (R → Prop) → Prop}
variable {q : R → Prop}
variable {n : En → Prop} {rt : R → En → Prop} {bk ct : En → Prop} {S S2 : DS}
instance {i : Nat} : Stp (ssetO i T ⟨n, rt, bk, ct⟩ δ) (T δ fun r δ1 => ∃ c, r = .fr c ∧ ∃ δ', δ1.set i (.ow c) = δ' ∧ n δ') := ⟨s_setO⟩
end
section
variable {Q : R → En → Prop} {QB : Bool → En → Prop} {QA : List R → En → Prop} {δ : En} {d : D} {c : Cn} {T U V : DT} {C C2 : DTT} {TA : DTA} {F : D → D → (R → Prop) → Prop} {F1 : D → (R → Prop) → Prop}
variable {q : R → Prop}
variable {n : En → Prop} {rt : R → En → Prop} {bk ct : En → Prop} {S S2 : DS}
instance {U : DG} : Stp (sasg T U ⟨n, rt, bk, ct⟩ δ) (T δ fun r δ1 => ∃ d, r.still δ1 = some d ∧ U d δ1 n) := ⟨s_asg⟩
end
section
variable {Q : R → En → Prop} {QB : Bool → En → Prop} {QA : List R → En → Prop} {δ : En} {d : D} {c : Cn} {T U V : DT} {C C2 : DTT} {TA : DTA} {F : D → D → (R → Prop) → Prop} {F1 : D → (R → Prop) → Prop}
variable {q : R → Prop}
variable {n : En → Prop} {rt : R → En → Prop} {bk ct : En → Prop} {S S2 : DS}
instance {i j : Nat} {m1 m2 : Bool} : Stp (spar2 i j m1 m2 TA ⟨n, rt, bk, ct⟩ δ) (TA δ fun rs δ1 => ∃ r1 r2 e1 e2, rs = [r1, r2] ∧ putE δ1 m1 r1 = some e1 ∧ putE δ1 m2 r2 = some e2 ∧ ∃ δ', (δ1.set i e1).set j e2 = δ' ∧ n δ') := ⟨s_par2⟩
end
section
variable {Q : R → En → Prop} {QB : Bool → En → Prop} {QA : List R → En → Prop} {δ : En} {d : D} {c : Cn} {T U V : DT} {C C2 : DTT} {TA : DTA} {F : D → D → (R → Prop) → Prop} {F1 : D → (R → Prop) → Prop}
instance  : Stp (tc d δ Q) (Q (.va d) δ) := ⟨e_tc⟩
end
section
variable {Q : R → En → Prop} {QB : Bool → En → Prop} {QA : List R → En → Prop} {δ : En} {d : D} {c : Cn} {T U V : DT} {C C2 : DTT} {TA : DTA} {F : D → D → (R → Prop) → Prop} {F1 : D → (R → Prop) → Prop}
instance  : Stp (ta0 δ QA) (QA [] δ) := ⟨e_ta0⟩
end
section
variable {Q : R → En → Prop} {QB : Bool → En → Prop} {QA : List R → En → Prop} {δ : En} {d : D} {c : Cn} {T U V : DT} {C C2 : DTT} {TA : DTA} {F : D → D → (R → Prop) → Prop} {F1 : D → (R → Prop) → Prop}
instance  : Stp (tac T TA δ QA) (T δ fun r δ1 => TA δ1 fun rs δ2 => QA (r :: rs) δ2) := ⟨e_tac⟩
end
section
variable {Q : R → En → Prop} {QB : Bool → En → Prop} {QA : List R → En → Prop} {δ : En} {d : D} {c : Cn} {T U V : DT} {C C2 : DTT} {TA : DTA} {F : D → D → (R → Prop) → Prop} {F1 : D → (R → Prop) → Prop}
instance  : Stp (tb2 F T U δ Q) (T δ fun x δ1 => U δ1 fun y δ2 => ∃ d e, x.dat δ2 = some d ∧ y.dat δ2 = some e ∧ F d e fun r => Q r δ2) := ⟨e_tb2⟩
end
section
variable {Q : R → En → Prop} {QB : Bool → En → Prop} {QA : List R → En → Prop} {δ : En} {d : D} {c : Cn} {T U V : DT} {C C2 : DTT} {TA : DTA} {F : D → D → (R → Prop) → Prop} {F1 : D → (R → Prop) → Prop}
instance  : Stp (tb1 F1 T δ Q) (T δ fun x δ1 => ∃ d, x.dat δ1 = some d ∧ F1 d fun r => Q r δ1) := ⟨e_tb1⟩
end
section
variable {Q : R → En → Prop} {QB : Bool → En → Prop} {QA : List R → En → Prop} {δ : En} {d : D} {c : Cn} {T U V : DT} {C C2 : DTT} {TA : DTA} {F : D → D → (R → Prop) → Prop} {F1 : D → (R → Prop) → Prop}
instance {G : List D → (R → Prop) → Prop} : Stp (tcb G TA δ Q) (TA δ fun rs δ1 => ∃ ds, dats δ1 rs = some ds ∧ G ds fun r => Q r δ1) := ⟨e_tcb⟩
end
section
variable {Q : R → En → Prop} {QB : Bool → En → Prop} {QA : List R → En → Prop} {δ : En} {d : D} {c : Cn} {T U V : DT} {C C2 : DTT} {TA : DTA} {F : D → D → (R → Prop) → Prop} {F1 : D → (R → Prop) → Prop}
instance  : Stp (ttup TA δ Q) (TA δ fun rs δ1 => ∃ ds, stills δ1 rs = some ds ∧ ds.length ≤ sizeLine ∧ Q (.va (.tup ds)) δ1) := ⟨e_ttup⟩
end
section
variable {Q : R → En → Prop} {QB : Bool → En → Prop} {QA : List R → En → Prop} {δ : En} {d : D} {c : Cn} {T U V : DT} {C C2 : DTT} {TA : DTA} {F : D → D → (R → Prop) → Prop} {F1 : D → (R → Prop) → Prop}
instance  : Stp (tlst TA δ Q) (TA δ fun rs δ1 => ∃ ds, stills δ1 rs = some ds ∧ ds.length ≤ sizeLine ∧ Q (.fr (.l ds)) δ1) := ⟨e_tlst⟩
end
section
variable {Q : R → En → Prop} {QB : Bool → En → Prop} {QA : List R → En → Prop} {δ : En} {d : D} {c : Cn} {T U V : DT} {C C2 : DTT} {TA : DTA} {F : D → D → (R → Prop) → Prop} {F1 : D → (R → Prop) → Prop}
instance  : Stp (tt T δ QB) (T δ fun r δ1 => ∃ b, r = .va (.bl b) ∧ QB b δ1) := ⟨e_tt⟩
end
section
variable {Q : R → En → Prop} {QB : Bool → En → Prop} {QA : List R → En → Prop} {δ : En} {d : D} {c : Cn} {T U V : DT} {C C2 : DTT} {TA : DTA} {F : D → D → (R → Prop) → Prop} {F1 : D → (R → Prop) → Prop}
instance  : Stp (ttru T δ QB) (T δ fun r δ1 => ∃ d b, r.dat δ1 = some d ∧ truD d = some b ∧ QB b δ1) := ⟨e_ttru⟩
end
section
variable {Q : R → En → Prop} {QB : Bool → En → Prop} {QA : List R → En → Prop} {δ : En} {d : D} {c : Cn} {T U V : DT} {C C2 : DTT} {TA : DTA} {F : D → D → (R → Prop) → Prop} {F1 : D → (R → Prop) → Prop}
instance  : Stp (tand C C2 δ QB) (C δ fun c δ1 => (c = true → C2 δ1 QB) ∧ (c = false → QB false δ1)) := ⟨e_tand⟩
end
section
variable {Q : R → En → Prop} {QB : Bool → En → Prop} {QA : List R → En → Prop} {δ : En} {d : D} {c : Cn} {T U V : DT} {C C2 : DTT} {TA : DTA} {F : D → D → (R → Prop) → Prop} {F1 : D → (R → Prop) → Prop}
instance  : Stp (tor C C2 δ QB) (C δ fun c δ1 => (c = true → QB true δ1) ∧ (c = false → C2 δ1 QB)) := ⟨e_tor⟩
end
section
variable {Q : R → En → Prop} {QB : Bool → En → Prop} {QA : List R → En → Prop} {δ : En} {d : D} {c : Cn} {T U V : DT} {C C2 : DTT} {TA : DTA} {F : D → D → (R → Prop) → Prop} {F1 : D → (R → Prop) → Prop}
instance  : Stp (tnot C δ QB) (C δ fun c δ1 => QB (!c) δ1) := ⟨e_tnot⟩
end
section
variable {Q : R → En → Prop} {QB : Bool → En → Prop} {QA : List R → En → Prop} {δ : En} {d : D} {c : Cn} {T U V : DT} {C C2 : DTT} {TA : DTA} {F : D → D → (R → Prop) → Prop} {F1 : D → (R → Prop) → Prop}
instance  : Stp (tandV T U δ Q) (T δ fun r δ1 => ∃ c, r = .va (.bl c) ∧ (c = true → U δ1 Q) ∧ (c = false → Q (.va (.bl false)) δ1)) := ⟨e_tandV⟩
end
section
variable {Q : R → En → Prop} {QB : Bool → En → Prop} {QA : List R → En → Prop} {δ : En} {d : D} {c : Cn} {T U V : DT} {C C2 : DTT} {TA : DTA} {F : D → D → (R → Prop) → Prop} {F1 : D → (R → Prop) → Prop}
instance  : Stp (torV T U δ Q) (T δ fun r δ1 => ∃ c, r = .va (.bl c) ∧ (c = true → Q (.va (.bl true)) δ1) ∧ (c = false → U δ1 Q)) := ⟨e_torV⟩
end
section
variable {Q : R → En → Prop} {QB : Bool → En → Prop} {QA : List R → En → Prop} {δ : En} {d : D} {c : Cn} {T U V : DT} {C C2 : DTT} {TA : DTA} {F : D → D → (R → Prop) → Prop} {F1 : D → (R → Prop) → Prop}
instance  : Stp (tnotV T δ Q) (T δ fun r δ1 => ∃ c, r = .va (.bl c) ∧ Q (.va (.bl (!c))) δ1) := ⟨e_tnotV⟩
end
section
variable {Q : R → En → Prop} {QB : Bool → En → Prop} {QA : List R → En → Prop} {δ : En} {d : D} {c : Cn} {T U V : DT} {C C2 : DTT} {TA : DTA} {F : D → D → (R → Prop) → Prop} {F1 : D → (R → Prop) → Prop}
instance  : Stp (tif C T U δ Q) (C δ fun b δ1 => (b = true → T δ1 Q) ∧ (b = false → U δ1 Q)) := ⟨e_tif⟩
end
section
variable {Q : R → En → Prop} {QB : Bool → En → Prop} {QA : List R → En → Prop} {δ : En} {d : D} {c : Cn} {T U V : DT} {C C2 : DTT} {TA : DTA} {F : D → D → (R → Prop) → Prop} {F1 : D → (R → Prop) → Prop}
instance {p p' : Int → Int → Bool} : Stp (tchain p p' T U V δ Q) (T δ fun x δ1 => U δ1 fun y δ2 => ∃ i j, x = .va (.int i) ∧ y = .va (.int j) ∧ (p i j = true → V δ2 fun z δ3 => ∃ k, z = .va (.int k) ∧ Q (.va (.bl (p' j k))) δ3) ∧ (p i j = false → Q (.va (.bl false)) δ2)) := ⟨e_tchain⟩
end
section
variable {Q : R → En → Prop} {QB : Bool → En → Prop} {QA : List R → En → Prop} {δ : En} {d : D} {c : Cn} {T U V : DT} {C C2 : DTT} {TA : DTA} {F : D → D → (R → Prop) → Prop} {F1 : D → (R → Prop) → Prop}
instance {QO : Option Int → En → Prop} : Stp (tno δ QO) (QO none δ) := ⟨e_tno⟩
end
section
variable {Q : R → En → Prop} {QB : Bool → En → Prop} {QA : List R → En → Prop} {δ : En} {d : D} {c : Cn} {T U V : DT} {C C2 : DTT} {TA : DTA} {F : D → D → (R → Prop) → Prop} {F1 : D → (R → Prop) → Prop}
instance {QO : Option Int → En → Prop} : Stp (tpart T δ QO) (T δ fun r δ1 => ∃ i, r = .va (.int i) ∧ QO (some i) δ1) := ⟨e_tpart⟩
end
section
variable {Q : R → En → Prop} {QB : Bool → En → Prop} {QA : List R → En → Prop} {δ : En} {d : D} {c : Cn} {T U V : DT} {C C2 : DTT} {TA : DTA} {F : D → D → (R → Prop) → Prop} {F1 : D → (R → Prop) → Prop}
instance {Tl Th : DTO} : Stp (tslice T Tl Th δ Q) (T δ fun r δ1 => Tl δ1 fun lo δ2 => Th δ2 fun hi δ3 => ∃ d, r.dat δ3 = some d ∧ slF d lo hi fun r => Q r δ3) := ⟨e_tslice⟩
end
section
variable {Q : R → En → Prop} {QB : Bool → En → Prop} {QA : List R → En → Prop} {δ : En} {d : D} {c : Cn} {T U V : DT} {C C2 : DTT} {TA : DTA} {F : D → D → (R → Prop) → Prop} {F1 : D → (R → Prop) → Prop}
instance {n : Tn} : Stp (tisi n T δ Q) (T δ fun r δ1 => ∃ k b, r.kn δ1 = some k ∧ isT n k = b ∧ Q (.va (.bl b)) δ1) := ⟨e_tisi⟩
end
section
variable {Q : R → En → Prop} {QB : Bool → En → Prop} {QA : List R → En → Prop} {δ : En} {d : D} {c : Cn} {T U V : DT} {C C2 : DTT} {TA : DTA} {F : D → D → (R → Prop) → Prop} {F1 : D → (R → Prop) → Prop}
instance {n m : Tn} : Stp (tisi2 n m T δ Q) (T δ fun r δ1 => ∃ k b, r.kn δ1 = some k ∧ (isT n k || isT m k) = b ∧ Q (.va (.bl b)) δ1) := ⟨e_tisi2⟩
end
section
variable {Q : R → En → Prop} {QB : Bool → En → Prop} {QA : List R → En → Prop} {δ : En} {d : D} {c : Cn} {T U V : DT} {C C2 : DTT} {TA : DTA} {F : D → D → (R → Prop) → Prop} {F1 : D → (R → Prop) → Prop}
instance {b : Bool} {P : Bool → Prop} : Stp (∃ b', R.va (.bl b) = .va (.bl b') ∧ P b') (P b) := ⟨e_bl⟩
end
section
variable {Q : R → En → Prop} {QB : Bool → En → Prop} {QA : List R → En → Prop} {δ : En} {d : D} {c : Cn} {T U V : DT} {C C2 : DTT} {TA : DTA} {F : D → D → (R → Prop) → Prop} {F1 : D → (R → Prop) → Prop}
instance {i j : Int} {P : Int → Int → Prop} : Stp (∃ i' j', R.va (.int i) = .va (.int i') ∧ R.va (.int j) = .va (.int j') ∧ P i' j') (P i j) := ⟨e_ii⟩
end
section
variable {Q : R → En → Prop} {QB : Bool → En → Prop} {QA : List R → En → Prop} {δ : En} {d : D} {c : Cn} {T U V : DT} {C C2 : DTT} {TA : DTA} {F : D → D → (R → Prop) → Prop} {F1 : D → (R → Prop) → Prop}
instance {i : Int} {P : Int → Prop} : Stp (∃ i', R.va (.int i) = .va (.int i') ∧ P i') (P i) := ⟨e_i⟩
end
section
variable {Q : R → En → Prop} {QB : Bool → En → Prop} {QA : List R → En → Prop} {δ : En} {d : D} {c : Cn} {T U V : DT} {C C2 : DTT} {TA : DTA} {F : D → D → (R → Prop) → Prop} {F1 : D → (R → Prop) → Prop}
variable {q : R → Prop}
variable {n : En → Prop} {rt : R → En → Prop} {bk ct : En → Prop} {S S2 : DS}
instance {c : Cn} {P : Cn → Prop} : Stp (∃ c', R.fr c = .fr c' ∧ P c') (P c) := ⟨s_fr⟩
end
section
variable {Q : R → En → Prop} {QB : Bool → En → Prop} {QA : List R → En → Prop} {δ : En} {d : D} {c : Cn} {T U V : DT} {C C2 : DTT} {TA : DTA} {F : D → D → (R → Prop) → Prop} {F1 : D → (R → Prop) → Prop}
variable {q : R → Prop}
variable {n : En → Prop} {rt : R → En → Prop} {bk ct : En → Prop} {S S2 : DS}
instance {d : D} {P : D → Prop} : Stp (∃ d', R.va d = .va d' ∧ P d') (P d) := ⟨s_va⟩
end
section
variable {Q : R → En → Prop} {QB : Bool → En → Prop} {QA : List R → En → Prop} {δ : En} {d : D} {c : Cn} {T U V : DT} {C C2 : DTT} {TA : DTA} {F : D → D → (R → Prop) → Prop} {F1 : D → (R → Prop) → Prop}
variable {q : R → Prop}
variable {n : En → Prop} {rt : R → En → Prop} {bk ct : En → Prop} {S S2 : DS}
variable {N : En → Prop}
instance {i : Nat} : Stp (dName i d δ N) (∃ δ', δ.set i (.va d) = δ' ∧ N δ') := ⟨g_name⟩
end
section
variable {Q : R → En → Prop} {QB : Bool → En → Prop} {QA : List R → En → Prop} {δ : En} {d : D} {c : Cn} {T U V : DT} {C C2 : DTT} {TA : DTA} {F : D → D → (R → Prop) → Prop} {F1 : D → (R → Prop) → Prop}
variable {q : R → Prop}
variable {n : En → Prop} {rt : R → En → Prop} {bk ct : En → Prop} {S S2 : DS}
variable {N : En → Prop}
instance  : Stp (dNil [] δ N) (N δ) := ⟨g_nil⟩
end
section
variable {Q : R → En → Prop} {QB : Bool → En → Prop} {QA : List R → En → Prop} {δ : En} {d : D} {c : Cn} {T U V : DT} {C C2 : DTT} {TA : DTA} {F : D → D → (R → Prop) → Prop} {F1 : D → (R → Prop) → Prop}
variable {q : R → Prop}
variable {n : En → Prop} {rt : R → En → Prop} {bk ct : En → Prop} {S S2 : DS}
variable {N : En → Prop}
instance {U : DG} {W : DGs} {d : D} {r : List D} : Stp (dCons U W (d :: r) δ N) (U d δ fun δ1 => W r δ1 N) := ⟨g_cons⟩
end
section
variable {Q : R → En → Prop} {QB : Bool → En → Prop} {QA : List R → En → Prop} {δ : En} {d : D} {c : Cn} {T U V : DT} {C C2 : DTT} {TA : DTA} {F : D → D → (R → Prop) → Prop} {F1 : D → (R → Prop) → Prop}
variable {q : R → Prop}
variable {n : En → Prop} {rt : R → En → Prop} {bk ct : En → Prop} {S S2 : DS}
variable {N : En → Prop}
instance {To Ti : DT} : Stp (dSub To Ti d δ N) (To δ fun ro δ1 => Ti δ1 fun ri δ2 => ∃ i xs k j, ro = .rf i ∧ δ2[i]? = some (E.ow (.l xs)) ∧ ri = .va (.int k) ∧ ixN xs.length k = some j ∧ ∃ δ', δ2.set i (.ow (.l (xs.set j d))) = δ' ∧ N δ') := ⟨g_sub⟩
end
section
variable {Q : R → En → Prop} {QB : Bool → En → Prop} {QA : List R → En → Prop} {δ : En} {d : D} {c : Cn} {T U V : DT} {C C2 : DTT} {TA : DTA} {F : D → D → (R → Prop) → Prop} {F1 : D → (R → Prop) → Prop}
variable {q : R → Prop}
instance {i j : Int} : Stp (plusF (.int i) (.int j) q) (q (.va (.int (i + j)))) := ⟨f_plus⟩
end
section
variable {Q : R → En → Prop} {QB : Bool → En → Prop} {QA : List R → En → Prop} {δ : En} {d : D} {c : Cn} {T U V : DT} {C C2 : DTT} {TA : DTA} {F : D → D → (R → Prop) → Prop} {F1 : D → (R → Prop) → Prop}
variable {q : R → Prop}
instance {i j : Int} : Stp (minusF (.int i) (.int j) q) (q (.va (.int (i - j)))) := ⟨f_minus⟩
end
section
variable {Q : R → En → Prop} {QB : Bool → En → Prop} {QA : List R → En → Prop} {δ : En} {d : D} {c : Cn} {T U V : DT} {C C2 : DTT} {TA : DTA} {F : D → D → (R → Prop) → Prop} {F1 : D → (R → Prop) → Prop}
variable {q : R → Prop}
instance {i : Int} : Stp (negF (.int i) q) (q (.va (.int (-i)))) := ⟨f_neg⟩
end
section
variable {Q : R → En → Prop} {QB : Bool → En → Prop} {QA : List R → En → Prop} {δ : En} {d : D} {c : Cn} {T U V : DT} {C C2 : DTT} {TA : DTA} {F : D → D → (R → Prop) → Prop} {F1 : D → (R → Prop) → Prop}
variable {q : R → Prop}
instance {p : Int → Int → Bool} {i j : Int} : Stp (bF (iF p) (.int i) (.int j) q) (q (.va (.bl (p i j)))) := ⟨f_cmp⟩
end
section
variable {Q : R → En → Prop} {QB : Bool → En → Prop} {QA : List R → En → Prop} {δ : En} {d : D} {c : Cn} {T U V : DT} {C C2 : DTT} {TA : DTA} {F : D → D → (R → Prop) → Prop} {F1 : D → (R → Prop) → Prop}
variable {q : R → Prop}
instance {xs : List D} {lo hi : Option Int} : Stp (slF (.lst xs) lo hi q) (q (.fr (.l (cutL xs lo hi)))) := ⟨f_slL⟩
end
section
variable {Q : R → En → Prop} {QB : Bool → En → Prop} {QA : List R → En → Prop} {δ : En} {d : D} {c : Cn} {T U V : DT} {C C2 : DTT} {TA : DTA} {F : D → D → (R → Prop) → Prop} {F1 : D → (R → Prop) → Prop}
variable {q : R → Prop}
instance {xs : List D} {lo hi : Option Int} : Stp (slF (.frz xs) lo hi q) (q (.fr (.l (cutL xs lo hi)))) := ⟨f_slZ⟩
end
section
variable {Q : R → En → Prop} {QB : Bool → En → Prop} {QA : List R → En → Prop} {δ : En} {d : D} {c : Cn} {T U V : DT} {C C2 : DTT} {TA : DTA} {F : D → D → (R → Prop) → Prop} {F1 : D → (R → Prop) → Prop}
variable {q : R → Prop}
instance {xs : List D} {lo hi : Option Int} : Stp (slF (.tup xs) lo hi q) (q (.va (.tup (cutL xs lo hi)))) := ⟨f_slT⟩
end
section
variable {Q : R → En → Prop} {QB : Bool → En → Prop} {QA : List R → En → Prop} {δ : En} {d : D} {c : Cn} {T U V : DT} {C C2 : DTT} {TA : DTA} {F : D → D → (R → Prop) → Prop} {F1 : D → (R → Prop) → Prop}
variable {q : R → Prop}
instance {xs : List D} : Stp (lenF [.lst xs] q) (q (.va (.int xs.length))) := ⟨f_lenL⟩
end
section
variable {Q : R → En → Prop} {QB : Bool → En → Prop} {QA : List R → En → Prop} {δ : En} {d : D} {c : Cn} {T U V : DT} {C C2 : DTT} {TA : DTA} {F : D → D → (R → Prop) → Prop} {F1 : D → (R → Prop) → Prop}
variable {q : R → Prop}
instance {xs : List D} : Stp (lenF [.tup xs] q) (q (.va (.int xs.length))) := ⟨f_lenT⟩
end
section
variable {Q : R → En → Prop} {QB : Bool → En → Prop} {QA : List R → En → Prop} {δ : En} {d : D} {c : Cn} {T U V : DT} {C C2 : DTT} {TA : DTA} {F : D → D → (R → Prop) → Prop} {F1 : D → (R → Prop) → Prop}
variable {q : R → Prop}
instance {xs : List D} : Stp (lenF [.frz xs] q) (q (.va (.int xs.length))) := ⟨f_lenZ⟩
end
section
variable {Q : R → En → Prop} {QB : Bool → En → Prop} {QA : List R → En → Prop} {δ : En} {d : D} {c : Cn} {T U V : DT} {C C2 : DTT} {TA : DTA} {F : D → D → (R → Prop) → Prop} {F1 : D → (R → Prop) → Prop}
variable {q : R → Prop}
instance {xs : List D} : Stp (listF [.lst xs] q) (q (.fr (.l xs))) := ⟨f_listL⟩
end
section
variable {Q : R → En → Prop} {QB : Bool → En → Prop} {QA : List R → En → Prop} {δ : En} {d : D} {c : Cn} {T U V : DT} {C C2 : DTT} {TA : DTA} {F : D → D → (R → Prop) → Prop} {F1 : D → (R → Prop) → Prop}
variable {q : R → Prop}
instance {xs : List D} : Stp (listF [.tup xs] q) (q (.fr (.l xs))) := ⟨f_listT⟩
end
section
variable {Q : R → En → Prop} {QB : Bool → En → Prop} {QA : List R → En → Prop} {δ : En} {d : D} {c : Cn} {T U V : DT} {C C2 : DTT} {TA : DTA} {F : D → D → (R → Prop) → Prop} {F1 : D → (R → Prop) → Prop}
variable {q : R → Prop}
instance {xs : List D} : Stp (listF [.frz xs] q) (q (.fr (.l xs))) := ⟨f_listZ⟩
end
section
variable {Q : R → En → Prop} {QB : Bool → En → Prop} {QA : List R → En → Prop} {δ : En} {d : D} {c : Cn} {T U V : DT} {C C2 : DTT} {TA : DTA} {F : D → D → (R → Prop) → Prop} {F1 : D → (R → Prop) → Prop}
variable {q : R → Prop}
instance {xs : List D} : Stp (tupleF [.lst xs] q) (q (.va (.tup xs))) := ⟨f_tupL⟩
end
section
variable {Q : R → En → Prop} {QB : Bool → En → Prop} {QA : List R → En → Prop} {δ : En} {d : D} {c : Cn} {T U V : DT} {C C2 : DTT} {TA : DTA} {F : D → D → (R → Prop) → Prop} {F1 : D → (R → Prop) → Prop}
variable {q : R → Prop}
instance {xs : List D} : Stp (tupleF [.tup xs] q) (q (.va (.tup xs))) := ⟨f_tupT⟩
end
section
variable {Q : R → En → Prop} {QB : Bool → En → Prop} {QA : List R → En → Prop} {δ : En} {d : D} {c : Cn} {T U V : DT} {C C2 : DTT} {TA : DTA} {F : D → D → (R → Prop) → Prop} {F1 : D → (R → Prop) → Prop}
variable {q : R → Prop}
instance {i : Int} : Stp (intF [.int i] q) (q (.va (.int i))) := ⟨f_int⟩
end
section
variable {Q : R → En → Prop} {QB : Bool → En → Prop} {QA : List R → En → Prop} {δ : En} {d : D} {c : Cn} {T U V : DT} {C C2 : DTT} {TA : DTA} {F : D → D → (R → Prop) → Prop} {F1 : D → (R → Prop) → Prop}
variable {q : R → Prop}
instance {i j : Int} : Stp (bF eqF (.int i) (.int j) q) (q (.va (.bl (decide (i = j))))) := ⟨f_eqI⟩
end
section
variable {Q : R → En → Prop} {QB : Bool → En → Prop} {QA : List R → En → Prop} {δ : En} {d : D} {c : Cn} {T U V : DT} {C C2 : DTT} {TA : DTA} {F : D → D → (R → Prop) → Prop} {F1 : D → (R → Prop) → Prop}
variable {q : R → Prop}
instance {i j : Int} : Stp (bF neF (.int i) (.int j) q) (q (.va (.bl (!decide (i = j))))) := ⟨f_neI⟩
end
section
variable {Q : R → En → Prop} {QB : Bool → En → Prop} {QA : List R → En → Prop} {δ : En} {d : D} {c : Cn} {T U V : DT} {C C2 : DTT} {TA : DTA} {F : D → D → (R → Prop) → Prop} {F1 : D → (R → Prop) → Prop}
variable {q : R → Prop}
variable {n : En → Prop} {rt : R → En → Prop} {bk ct : En → Prop} {S S2 : DS}
instance {i j : Int} : Stp (ipaddF (.int i) (.int j) q) (q (.va (.int (i + j)))) := ⟨s_iadd⟩
end
section
variable {Q : R → En → Prop} {QB : Bool → En → Prop} {QA : List R → En → Prop} {δ : En} {d : D} {c : Cn} {T U V : DT} {C C2 : DTT} {TA : DTA} {F : D → D → (R → Prop) → Prop} {F1 : D → (R → Prop) → Prop}
variable {q : R → Prop}
variable {n : En → Prop} {rt : R → En → Prop} {bk ct : En → Prop} {S S2 : DS}
variable {N : En → Prop}
variable {f : List D → List D → (D → List D → Prop) → Prop}
instance  : Stp (tlm f T TA δ Q) (T δ fun ro δ1 => ∃ i xs0, ro = .rf i ∧ δ1[i]? = some (E.ow (.l xs0)) ∧ TA δ1 fun rs δ2 => ∃ xs ds, δ2[i]? = some (E.ow (.l xs)) ∧ stills δ2 rs = some ds ∧ f xs ds fun d ys => ∃ δ', δ2.set i (.ow (.l ys)) = δ' ∧ Q (.va d) δ') := ⟨e_tlm⟩
end
section
variable {Q : R → En → Prop} {QB : Bool → En → Prop} {QA : List R → En → Prop} {δ : En} {d : D} {c : Cn} {T U V : DT} {C C2 : DTT} {TA : DTA} {F : D → D → (R → Prop) → Prop} {F1 : D → (R → Prop) → Prop}
variable {q : R → Prop}
variable {n : En → Prop} {rt : R → En → Prop} {bk ct : En → Prop} {S S2 : DS}
variable {N : En → Prop}
variable {f : List D → List D → (D → List D → Prop) → Prop}
instance  : Stp (textend T U δ Q) (T δ fun ro δ1 => ∃ i xs0, ro = .rf i ∧ δ1[i]? = some (E.ow (.l xs0)) ∧ U δ1 fun r δ2 => ∃ xs ys, δ2[i]? = some (E.ow (.l xs)) ∧ r.dat δ2 = some (.lst ys) ∧ (∀ j, r = .rf j → j ≠ i) ∧ xs.length + ys.length ≤ sizeLine ∧ ∃ δ', δ2.set i (.ow (.l (xs ++ ys))) = δ' ∧ Q (.va .non) δ') := ⟨e_textend⟩
end
section
variable {Q : R → En → Prop} {QB : Bool → En → Prop} {QA : List R → En → Prop} {δ : En} {d : D} {c : Cn} {T U V : DT} {C C2 : DTT} {TA : DTA} {F : D → D → (R → Prop) → Prop} {F1 : D → (R → Prop) → Prop}
variable {q : R → Prop}
variable {n : En → Prop} {rt : R → En → Prop} {bk ct : En → Prop} {S S2 : DS}
variable {N : En → Prop}
variable {f : List D → List D → (D → List D → Prop) → Prop}
instance {sp : DSp} {ms : List Bool} : Stp (tcall sp ms TA δ Q) (TA δ fun rs δ1 => ∃ es, passes δ1 rs ms = some es ∧ (rfs rs).Nodup ∧ sp es fun r es' => ∃ δ', puts δ1 rs es' = δ' ∧ Q r δ') := ⟨e_tcall⟩
end
section
variable {Q : R → En → Prop} {QB : Bool → En → Prop} {QA : List R → En → Prop} {δ : En} {d : D} {c : Cn} {T U V : DT} {C C2 : DTT} {TA : DTA} {F : D → D → (R → Prop) → Prop} {F1 : D → (R → Prop) → Prop}
variable {q : R → Prop}
variable {n : En → Prop} {rt : R → En → Prop} {bk ct : En → Prop} {S S2 : DS}
variable {N : En → Prop}
variable {f : List D → List D → (D → List D → Prop) → Prop}
variable {QI : List D → List (Nat × Cn) → En → Prop}
instance  : Stp (ilist T δ QI) (T δ fun r δ1 => ∃ xs cs, srcL δ1 r = some (xs, cs) ∧ QI xs cs δ1) := ⟨i_list⟩
end
section
variable {Q : R → En → Prop} {QB : Bool → En → Prop} {QA : List R → En → Prop} {δ : En} {d : D} {c : Cn} {T U V : DT} {C C2 : DTT} {TA : DTA} {F : D → D → (R → Prop) → Prop} {F1 : D → (R → Prop) → Prop}
variable {q : R → Prop}
variable {n : En → Prop} {rt : R → En → Prop} {bk ct : En → Prop} {S S2 : DS}
variable {N : En → Prop}
variable {f : List D → List D → (D → List D → Prop) → Prop}
variable {QI : List D → List (Nat × Cn) → En → Prop}
instance  : Stp (itup T δ QI) (T δ fun r δ1 => ∃ xs, r = .va (.tup xs) ∧ QI xs [] δ1) := ⟨i_tup⟩
end
section
variable {Q : R → En → Prop} {QB : Bool → En → Prop} {QA : List R → En → Prop} {δ : En} {d : D} {c : Cn} {T U V : DT} {C C2 : DTT} {TA : DTA} {F : D → D → (R → Prop) → Prop} {F1 : D → (R → Prop) → Prop}
variable {q : R → Prop}
variable {n : En → Prop} {rt : R → En → Prop} {bk ct : En → Prop} {S S2 : DS}
variable {N : En → Prop}
variable {f : List D → List D → (D → List D → Prop) → Prop}
variable {QI : List D → List (Nat × Cn) → En → Prop}
instance {xs : List D} {P : List D → Prop} : Stp (∃ xs', R.va (.tup xs) = .va (.tup xs') ∧ P xs') (P xs) := ⟨i_tupx⟩
end
section
variable {Q : R → En → Prop} {QB : Bool → En → Prop} {QA : List R → En → Prop} {δ : En} {d : D} {c : Cn} {T U V : DT} {C C2 : DTT} {TA : DTA} {F : D → D → (R → Prop) → Prop} {F1 : D → (R → Prop) → Prop}
variable {q : R → Prop}
variable {n : En → Prop} {rt : R → En → Prop} {bk ct : En → Prop} {S S2 : DS}
variable {N : En → Prop}
variable {f : List D → List D → (D → List D → Prop) → Prop}
variable {QI : List D → List (Nat × Cn) → En → Prop}
instance  : Stp (istr T δ QI) (T δ fun r δ1 => ∃ x : Str, r = .va (.str x) ∧ QI (x.cps.toList.map fun c => D.str ⟨#[c]⟩) [] δ1) := ⟨i_str⟩
end
section
variable {Q : R → En → Prop} {QB : Bool → En → Prop} {QA : List R → En → Prop} {δ : En} {d : D} {c : Cn} {T U V : DT} {C C2 : DTT} {TA : DTA} {F : D → D → (R → Prop) → Prop} {F1 : D → (R → Prop) → Prop}
variable {q : R → Prop}
variable {n : En → Prop} {rt : R → En → Prop} {bk ct : En → Prop} {S S2 : DS}
variable {N : En → Prop}
variable {f : List D → List D → (D → List D → Prop) → Prop}
variable {QI : List D → List (Nat × Cn) → En → Prop}
instance {x : Str} {P : Str → Prop} : Stp (∃ x', R.va (.str x) = .va (.str x') ∧ P x') (P x) := ⟨i_strx⟩
end
section
variable {Q : R → En → Prop} {QB : Bool → En → Prop} {QA : List R → En → Prop} {δ : En} {d : D} {c : Cn} {T U V : DT} {C C2 : DTT} {TA : DTA} {F : D → D → (R → Prop) → Prop} {F1 : D → (R → Prop) → Prop}
variable {q : R → Prop}
variable {n : En → Prop} {rt : R → En → Prop} {bk ct : En → Prop} {S S2 : DS}
variable {N : En → Prop}
variable {f : List D → List D → (D → List D → Prop) → Prop}
variable {QI : List D → List (Nat × Cn) → En → Prop}
instance  : Stp (irng1 T δ QI) (T δ fun r δ1 => ∃ j, r = .va (.int j) ∧ (-(2 ^ 62) ≤ j ∧ j < 2 ^ 62) ∧ QI (rangeD 0 j.toNat) [] δ1) := ⟨i_rng1⟩
end
section
variable {Q : R → En → Prop} {QB : Bool → En → Prop} {QA : List R → En → Prop} {δ : En} {d : D} {c : Cn} {T U V : DT} {C C2 : DTT} {TA : DTA} {F : D → D → (R → Prop) → Prop} {F1 : D → (R → Prop) → Prop}
variable {q : R → Prop}
variable {n : En → Prop} {rt : R → En → Prop} {bk ct : En → Prop} {S S2 : DS}
variable {N : En → Prop}
variable {f : List D → List D → (D → List D → Prop) → Prop}
variable {QI : List D → List (Nat × Cn) → En → Prop}
instance  : Stp (ienum T δ QI) (T δ fun r δ1 => ∃ xs cs, srcL δ1 r = some (xs, cs) ∧ QI (enumD 0 xs) cs δ1) := ⟨i_enum⟩
end
section
variable {Q : R → En → Prop} {QB : Bool → En → Prop} {QA : List R → En → Prop} {δ : En} {d : D} {c : Cn} {T U V : DT} {C C2 : DTT} {TA : DTA} {F : D → D → (R → Prop) → Prop} {F1 : D → (R → Prop) → Prop}
variable {q : R → Prop}
variable {n : En → Prop} {rt : R → En → Prop} {bk ct : En → Prop} {S S2 : DS}
variable {N : En → Prop}
variable {f : List D → List D → (D → List D → Prop) → Prop}
variable {QI : List D → List (Nat × Cn) → En → Prop}
instance  : Stp (izip T U δ QI) (T δ fun r δ1 => U δ1 fun u δ2 => ∃ xs cs ys cs', srcL δ2 r = some (xs, cs) ∧ srcL δ2 u = some (ys, cs') ∧ QI (zipD xs ys) (cs ++ cs') δ2) := ⟨i_zip⟩
end
section
variable {Q : R → En → Prop} {QB : Bool → En → Prop} {QA : List R → En → Prop} {δ : En} {d : D} {c : Cn} {T U V : DT} {C C2 : DTT} {TA : DTA} {F : D → D → (R → Prop) → Prop} {F1 : D → (R → Prop) → Prop}
variable {q : R → Prop}
variable {n : En → Prop} {rt : R → En → Prop} {bk ct : En → Prop} {S S2 : DS}
variable {N : En → Prop}
variable {f : List D → List D → (D → List D → Prop) → Prop}
variable {QI : List D → List (Nat × Cn) → En → Prop}
instance {as : List Nat} {SI : DI} {Gd : DG} {B : DS} : Stp (sfor as SI Gd B ⟨n, rt, bk, ct⟩ δ) (SI δ fun items cs δ1 => ForK as Gd B ⟨n, rt, bk, ct⟩ items cs δ1) := ⟨s_for⟩
end
section
variable {Q : R → En → Prop} {QB : Bool → En → Prop} {QA : List R → En → Prop} {δ : En} {d : D} {c : Cn} {T U V : DT} {C C2 : DTT} {TA : DTA} {F : D → D → (R → Prop) → Prop} {F1 : D → (R → Prop) → Prop}
variable {q : R → Prop}
variable {n : En → Prop} {rt : R → En → Prop} {bk ct : En → Prop} {S S2 : DS}
variable {N : En → Prop}
variable {f : List D → List D → (D → List D → Prop) → Prop}
variable {QI : List D → List (Nat × Cn) → En → Prop}
instance {SI : DI} {Gd : DG} {Te : DT} {vs : List Nat} : Stp (tcomp SI Gd C Te vs δ Q) (SI δ fun items cs δ1 => CompK Gd C Te vs Q items cs δ1) := ⟨e_comp⟩
end
section
variable {Q : R → En → Prop} {δ : En} {T U : DT} {TA : DTA} {n : En → Prop} {rt : R → En → Prop} {bk ct : En → Prop} {q : R → Prop} {N : En → Prop} {d : D}
instance {ns : List Int} : Stp (sortedF [.lst (ns.map D.int)] q) (q (.fr (.l ((sortI ns).map D.int)))) := ⟨f_sorted⟩
end
section
variable {δ : En} {n : En → Prop} {rt : R → En → Prop} {bk ct : En → Prop} {ex : XQ} {S S2 : DSX} {C : DTT} {T : DT} {TA : DTA} {Q : R → En → Prop} {E3 : XQ}
instance {S : DS} : Stp (xp S ⟨⟨n, rt, bk, ct⟩, ex⟩ δ) (S ⟨n, rt, bk, ct⟩ δ) := ⟨x_p⟩
end
section
variable {Q : R → En → Prop} {QB : Bool → En → Prop} {QA : List R → En → Prop} {δ : En} {d : D} {c : Cn} {T U V : DT} {C C2 : DTT} {TA : DTA} {F : D → D → (R → Prop) → Prop} {F1 : D → (R → Prop) → Prop}
variable {q : R → Prop}
instance  : Stp (bF eqF (.dct [] []) (.dct [] []) q) (q (.va (.bl true))) := ⟨f_eqD0⟩
end
section
variable {Q : R → En → Prop} {QB : Bool → En → Prop} {QA : List R → En → Prop} {δ : En} {d : D} {c : Cn} {T U V : DT} {C C2 : DTT} {TA : DTA} {F : D → D → (R → Prop) → Prop} {F1 : D → (R → Prop) → Prop}
variable {q : R → Prop}
instance  : Stp (bF neF (.dct [] []) (.dct [] []) q) (q (.va (.bl false))) := ⟨f_neD0⟩
end
section
variable {Q : R → En → Prop} {QB : Bool → En → Prop} {δ : En} {T U : DT} {C : DTT} {rt : R → En → Prop} {bk ct : En → Prop} {n : En → Prop} {rows : List (List D)} {Z : DE}
instance {m : Nat} {S : DI} {Gd : DG} {Te : DT} {vs : List Nat} {U : YP} : Stp (sgrid m S Gd C Te vs U Z δ) (S δ fun items cs δ1 => GrK m Gd C Te vs (fun rows δ => U Z δ rows) items cs δ1) := ⟨y_grid⟩
end
section
variable {Q : R → En → Prop} {QB : Bool → En → Prop} {δ : En} {T U : DT} {C : DTT} {rt : R → En → Prop} {bk ct : En → Prop} {n : En → Prop} {rows : List (List D)} {Z : DE}
instance {xs : List D} {P : List D → Prop} : Stp (∃ ys, R.fr (.l xs) = .fr (.l ys) ∧ P ys) (P xs) := ⟨y_list⟩
end
section
variable {Q : R → En → Prop} {QB : Bool → En → Prop} {δ : En} {T U : DT} {C : DTT} {rt : R → En → Prop} {bk ct : En → Prop} {n : En → Prop} {rows : List (List D)} {Z : DE}
instance {A : YS} {B : YP} : Stp (ypseq A B Z δ rows) (A ⟨B Z, Z.rt, fun _ _ => False, fun _ _ => False⟩ δ rows) := ⟨y_pseq⟩
end
section
variable {Q : R → En → Prop} {QB : Bool → En → Prop} {δ : En} {T U : DT} {C : DTT} {rt : R → En → Prop} {bk ct : En → Prop} {n : En → Prop} {rows : List (List D)} {Z : DE}
instance {m : Nat} {S : DS} : Stp (ypfree m S Z δ rows) (∃ δ', δ.set m (.ow (.l (rows.map D.lst))) = δ' ∧ S Z δ') := ⟨y_free⟩
end
section
variable {Q : R → En → Prop} {QB : Bool → En → Prop} {δ : En} {T U : DT} {C : DTT} {rt : R → En → Prop} {bk ct : En → Prop} {n : En → Prop} {rows : List (List D)} {Z : DE}
variable {yn : En → List (List D) → Prop} {ybk yct : En → List (List D) → Prop}
instance {S : DS} : Stp (yplain S ⟨yn, rt, ybk, yct⟩ δ rows) (S ⟨fun δ' => yn δ' rows, rt, fun δ' => ybk δ' rows, fun δ' => yct δ' rows⟩ δ) := ⟨y_plain⟩
end
section
variable {Q : R → En → Prop} {QB : Bool → En → Prop} {δ : En} {T U : DT} {C : DTT} {rt : R → En → Prop} {bk ct : En → Prop} {n : En → Prop} {rows : List (List D)} {Z : DE}
variable {yn : En → List (List D) → Prop} {ybk yct : En → List (List D) → Prop}
instance {A B : YS} : Stp (yseq A B ⟨yn, rt, ybk, yct⟩ δ rows) (A ⟨B ⟨yn, rt, ybk, yct⟩, rt, ybk, yct⟩ δ rows) := ⟨y_seq⟩
end
section
variable {Q : R → En → Prop} {QB : Bool → En → Prop} {δ : En} {T U : DT} {C : DTT} {rt : R → En → Prop} {bk ct : En → Prop} {n : En → Prop} {rows : List (List D)} {Z : DE}
variable {yn : En → List (List D) → Prop} {ybk yct : En → List (List D) → Prop}
instance {as : List Nat} {SI : DI} {Gd : DG} {B : YS} : Stp (yfor as SI Gd B ⟨yn, rt, ybk, yct⟩ δ rows) (SI δ fun items cs δ1 => YForK as Gd B ⟨yn, rt, ybk, yct⟩ rows items cs δ1) := ⟨y_for⟩
end
section
variable {Q : R → En → Prop} {P : D → Prop} {δ : En} {d : D} {Z : DE} {nx : En → Prop} {rt : R → En → Prop} {bk ct : En → Prop} {ex : XQ}
instance {yn : En → List (List D) → Prop} {ybk yct : En → List (List D) → Prop} {rows : List (List D)} {Tv Ti Tj : DT} : Stp (yput Tv Ti Tj ⟨yn, rt, ybk, yct⟩ δ rows) (Tv δ fun r δ1 => ∃ d, r.still δ1 = some d ∧ Ti δ1 fun ri δ2 => ∃ i i' row, ri = .va (.int i) ∧ ixN rows.length i = some i' ∧ rows[i']? = some row ∧ Tj δ2 fun rj δ3 => ∃ j j', rj = .va (.int j) ∧ ixN row.length j = some j' ∧ yn δ3 (rows.set i' (row.set j' d))) := ⟨y_put⟩
end
section
variable {Q : R → En → Prop} {δ : En} {C : DTT} {rt : R → En → Prop} {rows : List (List D)} {Z : DE}
variable {yn : En → List (List D) → Prop} {ybk yct : En → List (List D) → Prop}
instance {h : Nat} {Ti : DT} {B : DS} : Stp (yhere h Ti B ⟨yn, rt, ybk, yct⟩ δ rows) (Ti δ fun ri δ2 => ∃ i i' row, ri = .va (.int i) ∧ ixN rows.length i = some i' ∧ rows[i']? = some row ∧ ∃ δ0, δ2.set h (.ow (.l row)) = δ0 ∧ B ⟨fun δ' => ∃ r', δ'[h]? = some (.ow (.l r')) ∧ ∃ δ2, δ'.set h .no = δ2 ∧ yn δ2 (rows.set i' r'), rt, fun δ' => ∃ r', δ'[h]? = some (.ow (.l r')) ∧ ∃ δ2, δ'.set h .no = δ2 ∧ ybk δ2 (rows.set i' r'), fun δ' => ∃ r', δ'[h]? = some (.ow (.l r')) ∧ ∃ δ2, δ'.set h .no = δ2 ∧ yct δ2 (rows.set i' r')⟩ δ0) := ⟨y_here⟩
end
section
variable {Q : R → En → Prop} {δ : En} {T U : DT} {TA TB : DTA} {n : En → Prop} {rt : R → En → Prop} {bk ct : En → Prop}
instance {cn f : Str} : Stp (tfldc cn f T δ Q) (T δ fun r δ1 => ∃ ns ds d, r.dat δ1 = some (.obj cn ns ds) ∧ (ns.zip ds).lookup f = some d ∧ Q (.va d) δ1) := ⟨p_fld⟩
end
section
variable {Q : R → En → Prop} {δ : En} {T U : DT} {TA TB : DTA} {n : En → Prop} {rt : R → En → Prop} {bk ct : En → Prop}
instance {cn m : Str} {sp : DSp} {ms : List Bool} : Stp (tmeth cn m sp ms T TA δ Q) (T δ fun r δ0 => ∃ ns ds, r.dat δ0 = some (.obj cn ns ds) ∧ (ns.zip ds).lookup m = none ∧ TA δ0 fun rs δ1 => ∃ es, passes δ1 (r :: rs) ms = some es ∧ (rfs (r :: rs)).Nodup ∧ sp es fun r' es' => ∃ δ', puts δ1 (r :: rs) es' = δ' ∧ Q r' δ') := ⟨p_meth⟩
end
section
variable {Q : R → En → Prop} {δ : En} {T U : DT} {TA TB : DTA} {n : En → Prop} {rt : R → En → Prop} {bk ct : En → Prop}
instance {cn : Str} {sp : DSp} {ms : List Bool} : Stp (tmake cn sp ms TA δ Q) (TA δ fun rs δ1 => ∃ es, passes δ1 (.fr (.o cn []) :: rs) (true :: ms) = some es ∧ (rfs rs).Nodup ∧ sp es fun r es' => r = .va .non ∧ ∃ cn' fs es'', es' = .ow (.o cn' fs) :: es'' ∧ ∃ δ', puts δ1 rs es'' = δ' ∧ Q (.fr (.o cn' fs)) δ') := ⟨p_make⟩
end
section
variable {Q : R → En → Prop} {δ : En} {T U : DT} {TA TB : DTA} {n : En → Prop} {rt : R → En → Prop} {bk ct : En → Prop}
instance {sp : DSp} {ms : List Bool} {np nk : Nat} {is : List Nat} : Stp (tcallP sp ms np nk is TA TB δ Q) (TA δ fun rs δ1 => rs.length = np ∧ TB δ1 fun us δ2 => us.length = nk ∧ ∃ es, passes δ2 (pk is (rs ++ us)) ms = some es ∧ (rfs (pk is (rs ++ us))).Nodup ∧ sp es fun r es' => ∃ δ', puts δ2 (pk is (rs ++ us)) es' = δ' ∧ Q r δ') := ⟨p_callP⟩
end
section
variable {Q : R → En → Prop} {δ : En} {T U : DT} {TA TB : DTA} {n : En → Prop} {rt : R → En → Prop} {bk ct : En → Prop}
instance {cn f : Str} : Stp (ssetf cn f T U ⟨n, rt, bk, ct⟩ δ) (U δ fun r δ1 => T δ1 fun ro δ2 => ∃ i fs d, ro = .rf i ∧ δ2[i]? = some (E.ow (.o cn fs)) ∧ r.still δ2 = some d ∧ (∀ j, r ≠ .rf j) ∧ fs.length < 1000 ∧ ∃ δ', δ2.set i (.ow (.o cn (putFD f d fs))) = δ' ∧ n δ') := ⟨p_setf⟩
end
section
variable {Q : R → En → Prop} {δ : En} {T U : DT} {TA TB : DTA} {n : En → Prop} {rt : R → En → Prop} {bk ct : En → Prop}
instance  : Stp (tdnew δ Q) (Q (.fr (.d [])) δ) := ⟨d_new⟩
end
section
variable {Q : R → En → Prop} {δ : En} {T U : DT} {TA TB : DTA} {n : En → Prop} {rt : R → En → Prop} {bk ct : En → Prop}
instance  : Stp (tdin T U δ Q) (T δ fun y δ1 => U δ1 fun x δ2 => ∃ d k kvs, y.dat δ2 = some d ∧ keyD d = some k ∧ x.dct δ2 = some kvs ∧ Q (.va (.bl (valD kvs k).isSome)) δ2) := ⟨d_in⟩
end
section
variable {Q : R → En → Prop} {δ : En} {T U : DT} {TA TB : DTA} {n : En → Prop} {rt : R → En → Prop} {bk ct : En → Prop}
instance {V : DT} : Stp (sdput T U V ⟨n, rt, bk, ct⟩ δ) (V δ fun r δ1 => T δ1 fun x δ2 => U δ2 fun y δ3 => ∃ i kvs d k z, x = .rf i ∧ δ3[i]? = some (E.ow (.d kvs)) ∧ y.dat δ3 = some d ∧ keyD d = some k ∧ r = .va z ∧ kvs.length < sizeLine ∧ ∃ δ', δ3.set i (.ow (.d (putD kvs k z))) = δ' ∧ n δ') := ⟨d_put⟩
end
section
variable {Q : R → En → Prop} {δ : En} {T U : DT} {TA TB : DTA} {n : En → Prop} {rt : R → En → Prop} {bk ct : En → Prop}
instance  : Stp (tjoin T U δ Q) (T δ fun ro δ1 => ∃ a, ro = .va (.str a) ∧ U δ1 fun r δ2 => ∃ ys : List Str, (r.dat δ2 = some (.lst (ys.map D.str)) ∨ r.dat δ2 = some (.tup (ys.map D.str))) ∧ (ys.map (·.length)).sum + ys.length * a.length ≤ 16777216 ∧ Q (.va (.str (Txt.join a ys))) δ2) := ⟨e_tjoin⟩
end
section
variable {q : R → Prop}
instance  : Stp (bF eqF (.bl true) (.bl true) q) (q (.va (.bl true))) := ⟨f_ett⟩
end
section
variable {q : R → Prop}
instance  : Stp (bF eqF (.bl false) (.bl false) q) (q (.va (.bl true))) := ⟨f_eff⟩
end
section
variable {q : R → Prop}
instance  : Stp (bF eqF (.bl true) (.bl false) q) (q (.va (.bl false))) := ⟨f_etf⟩
end
section
variable {q : R → Prop}
instance  : Stp (bF eqF (.bl false) (.bl true) q) (q (.va (.bl false))) := ⟨f_eft⟩
end
section
variable {q : R → Prop}
instance  : Stp (bF neF (.bl true) (.bl true) q) (q (.va (.bl false))) := ⟨f_ntt⟩
end
section
variable {q : R → Prop}
instance  : Stp (bF neF (.bl false) (.bl false) q) (q (.va (.bl false))) := ⟨f_nff⟩
end
section
variable {q : R → Prop}
instance  : Stp (bF neF (.bl true) (.bl false) q) (q (.va (.bl true))) := ⟨f_ntf⟩
end
section
variable {q : R → Prop}
instance  : Stp (bF neF (.bl false) (.bl true) q) (q (.va (.bl true))) := ⟨f_nft⟩
end
section
variable {Q : R → En → Prop} {δ : En} {T U : DT} {TA TB : DTA} {n : En → Prop} {rt : R → En → Prop} {bk ct : En → Prop}
instance {QI : List D → List (Nat × Cn) → En → Prop} : Stp (izipA T U δ QI) (T δ fun r δ1 => U δ1 fun u δ2 => (∃ xs cs ys cs', srcL δ2 r = some (xs, cs) ∧ srcL δ2 u = some (ys, cs') ∧ QI (zipD xs ys) (cs ++ cs') δ2) ∨ ∃ xs ys, r = .va (.tup xs) ∧ u = .va (.tup ys) ∧ QI (zipD xs ys) [] δ2) := ⟨i_zipA⟩
end
section
variable {Q : R → En → Prop} {QB : Bool → En → Prop} {QA : List R → En → Prop} {δ : En} {d : D} {c : Cn} {T U V : DT} {C C2 : DTT} {TA : DTA} {F : D → D → (R → Prop) → Prop} {F1 : D → (R → Prop) → Prop}
instance  : Stp (tyes δ QB) (QB true δ) := ⟨e_tyes⟩
end
section
variable {Q : R → En → Prop} {QB : Bool → En → Prop} {QA : List R → En → Prop} {δ : En} {d : D} {c : Cn} {T U V : DT} {C C2 : DTT} {TA : DTA} {F : D → D → (R → Prop) → Prop} {F1 : D → (R → Prop) → Prop}
instance {A B : Prop} : Stp (((true : Bool) = true → A) ∧ ((true : Bool) = false → B)) (A) := ⟨br_t⟩
end
section
variable {Q : R → En → Prop} {QB : Bool → En → Prop} {QA : List R → En → Prop} {δ : En} {d : D} {c : Cn} {T U V : DT} {C C2 : DTT} {TA : DTA} {F : D → D → (R → Prop) → Prop} {F1 : D → (R → Prop) → Prop}
instance {A B : Prop} : Stp (((false : Bool) = true → A) ∧ ((false : Bool) = false → B)) (B) := ⟨br_f⟩
end
section
variable {Q : R → En → Prop} {QB : Bool → En → Prop} {QA : List R → En → Prop} {δ : En} {d : D} {c : Cn} {T U V : DT} {C C2 : DTT} {TA : DTA} {F : D → D → (R → Prop) → Prop} {F1 : D → (R → Prop) → Prop}
instance {A B : Prop} {b : Bool} : Stp (((!b) = true → A) ∧ ((!b) = false → B)) ((b = true → B) ∧ (b = false → A)) := ⟨br_n⟩
end
section
variable {Q : R → En → Prop} {δ : En} {T U : DT} {TA TB : DTA} {n : En → Prop} {rt : R → En → Prop} {bk ct : En → Prop}
instance {a : Str} {P : Str → Prop} : Stp (∃ a', R.va (.str a) = .va (.str a') ∧ P a') (P a) := ⟨p_join0⟩
end
section
variable {Q : R → En → Prop} {δ : En} {T U : DT} {TA TB : DTA} {n : En → Prop} {rt : R → En → Prop} {bk ct : En → Prop}
instance {r u : R} {P : List D → List (Nat × Cn) → List D → List (Nat × Cn) → Prop} {B : Prop} : Tag ((∃ xs cs ys cs', srcL δ r = some (xs, cs) ∧ srcL δ u = some (ys, cs') ∧ P xs cs ys cs') ∨ B) (B0 (B0 (B0 (B0 (B0 (B0 ((∃ xs cs ys cs', srcL δ r = some (xs, cs) ∧ srcL δ u = some (ys, cs') ∧ P xs cs ys cs') ∨ B))))))) := ⟨id⟩
end
section
variable {δ : En} {T : DT} {QI : List D → List (Nat × Cn) → En → Prop}
instance {r : R} {P : List D → List (Nat × Cn) → Prop} {B : Prop} : Tag ((∃ xs cs, srcL δ r = some (xs, cs) ∧ P xs cs) ∨ B) (B0 (B0 (B0 (B0 (B0 (B1 ((∃ xs cs, srcL δ r = some (xs, cs) ∧ P xs cs) ∨ B))))))) := ⟨id⟩
end
section
variable {Q : R → En → Prop} {QB : Bool → En → Prop} {QA : List R → En → Prop} {δ : En} {d : D} {c : Cn} {T U V : DT} {C C2 : DTT} {TA : DTA} {F : D → D → (R → Prop) → Prop} {F1 : D → (R → Prop) → Prop}
variable {q : R → Prop}
instance {xs : List D} {i : Int} : Tag (ixF (.lst xs) (.int i) q) (B0 (B0 (B0 (B0 (B1 (B0 (ixF (.lst xs) (.int i) q))))))) := ⟨id⟩
end
section
variable {Q : R → En → Prop} {QB : Bool → En → Prop} {QA : List R → En → Prop} {δ : En} {d : D} {c : Cn} {T U V : DT} {C C2 : DTT} {TA : DTA} {F : D → D → (R → Prop) → Prop} {F1 : D → (R → Prop) → Prop}
instance {rs : List R} {P : List D → Prop} : Tag (∃ ds, dats δ rs = some ds ∧ P ds) (B0 (B0 (B0 (B0 (B1 (B1 (∃ ds, dats δ rs = some ds ∧ P ds))))))) := ⟨id⟩
end
section
variable {Q : R → En → Prop} {QB : Bool → En → Prop} {QA : List R → En → Prop} {δ : En} {d : D} {c : Cn} {T U V : DT} {C C2 : DTT} {TA : DTA} {F : D → D → (R → Prop) → Prop} {F1 : D → (R → Prop) → Prop}
instance {rs : List R} {P : List D → Prop} : Tag (∃ ds, stills δ rs = some ds ∧ ds.length ≤ sizeLine ∧ P ds) (B0 (B0 (B0 (B1 (B0 (B0 (∃ ds, stills δ rs = some ds ∧ ds.length ≤ sizeLine ∧ P ds))))))) := ⟨id⟩
end
section
variable {Q : R → En → Prop} {δ : En} {T U : DT} {TA TB : DTA} {n : En → Prop} {rt : R → En → Prop} {bk ct : En → Prop}
instance {rs rs' : List R} {ms : List Bool} {P : En → Prop} : Tag (∃ es, passes δ rs ms = some es ∧ (rfs rs').Nodup ∧ P es) (B0 (B0 (B0 (B1 (B0 (B1 (∃ es, passes δ rs ms = some es ∧ (rfs rs').Nodup ∧ P es))))))) := ⟨id⟩
end
section
variable {Q : R → En → Prop} {QB : Bool → En → Prop} {QA : List R → En → Prop} {δ : En} {d : D} {c : Cn} {T U V : DT} {C C2 : DTT} {TA : DTA} {F : D → D → (R → Prop) → Prop} {F1 : D → (R → Prop) → Prop}
variable {q : R → Prop}
variable {n : En → Prop} {rt : R → En → Prop} {bk ct : En → Prop} {S S2 : DS}
variable {N : En → Prop}
variable {f : List D → List D → (D → List D → Prop) → Prop}
instance {i : Nat} {rs : List R} {P : List D → List D → Prop} : Tag (∃ xs ds, δ[i]? = some (E.ow (.l xs)) ∧ stills δ rs = some ds ∧ P xs ds) (B0 (B0 (B0 (B1 (B1 (B0 (∃ xs ds, δ[i]? = some (E.ow (.l xs)) ∧ stills δ rs = some ds ∧ P xs ds))))))) := ⟨id⟩
end
section
variable {Q : R → En → Prop} {δ : En} {T U : DT} {TA TB : DTA} {n : En → Prop} {rt : R → En → Prop} {bk ct : En → Prop}
instance {xs : List R} {m : Nat} {P : Prop} : Tag (xs.length = m ∧ P) (B0 (B0 (B0 (B1 (B1 (B1 (xs.length = m ∧ P))))))) := ⟨id⟩
end
section
variable {Q : R → En → Prop} {QB : Bool → En → Prop} {QA : List R → En → Prop} {δ : En} {d : D} {c : Cn} {T U V : DT} {C C2 : DTT} {TA : DTA} {F : D → D → (R → Prop) → Prop} {F1 : D → (R → Prop) → Prop}
instance {i : Nat} : Tag (tv i δ Q) (B0 (B0 (B1 (B0 (B0 (B0 (tv i δ Q))))))) := ⟨id⟩
end
section
variable {Q : R → En → Prop} {QB : Bool → En → Prop} {QA : List R → En → Prop} {δ : En} {d : D} {c : Cn} {T U V : DT} {C C2 : DTT} {TA : DTA} {F : D → D → (R → Prop) → Prop} {F1 : D → (R → Prop) → Prop}
instance {i : Nat} : Tag (tvz i δ Q) (B0 (B0 (B1 (B0 (B0 (B1 (tvz i δ Q))))))) := ⟨id⟩
end
section
variable {Q : R → En → Prop} {QB : Bool → En → Prop} {QA : List R → En → Prop} {δ : En} {d : D} {c : Cn} {T U V : DT} {C C2 : DTT} {TA : DTA} {F : D → D → (R → Prop) → Prop} {F1 : D → (R → Prop) → Prop}
instance {x : R} {P : D → Prop} : Tag (∃ d, x.dat δ = some d ∧ P d) (B0 (B0 (B1 (B0 (B1 (B0 (∃ d, x.dat δ = some d ∧ P d))))))) := ⟨id⟩
end
section
variable {Q : R → En → Prop} {QB : Bool → En → Prop} {QA : List R → En → Prop} {δ : En} {d : D} {c : Cn} {T U V : DT} {C C2 : DTT} {TA : DTA} {F : D → D → (R → Prop) → Prop} {F1 : D → (R → Prop) → Prop}
variable {q : R → Prop}
variable {n : En → Prop} {rt : R → En → Prop} {bk ct : En → Prop} {S S2 : DS}
instance {δ : En} {P : En → Prop} : Tag (∃ δ', δ = δ' ∧ P δ') (B0 (B0 (B1 (B0 (B1 (B1 (∃ δ', δ = δ' ∧ P δ'))))))) := ⟨id⟩
end
section
variable {Q : R → En → Prop} {QB : Bool → En → Prop} {QA : List R → En → Prop} {δ : En} {d : D} {c : Cn} {T U V : DT} {C C2 : DTT} {TA : DTA} {F : D → D → (R → Prop) → Prop} {F1 : D → (R → Prop) → Prop}
variable {q : R → Prop}
variable {n : En → Prop} {rt : R → En → Prop} {bk ct : En → Prop} {S S2 : DS}
variable {N : En → Prop}
variable {f : List D → List D → (D → List D → Prop) → Prop}
instance {i : Nat} {P : Nat → Prop} : Tag (∃ i' xs0, R.rf i = .rf i' ∧ δ[i']? = some (E.ow (.l xs0)) ∧ P i') (B0 (B0 (B1 (B1 (B0 (B0 (∃ i' xs0, R.rf i = .rf i' ∧ δ[i']? = some (E.ow (.l xs0)) ∧ P i'))))))) := ⟨id⟩
end
section
variable {Q : R → En → Prop} {QB : Bool → En → Prop} {QA : List R → En → Prop} {δ : En} {d : D} {c : Cn} {T U V : DT} {C C2 : DTT} {TA : DTA} {F : D → D → (R → Prop) → Prop} {F1 : D → (R → Prop) → Prop}
variable {q : R → Prop}
variable {n : En → Prop} {rt : R → En → Prop} {bk ct : En → Prop} {S S2 : DS}
variable {N : En → Prop}
variable {f : List D → List D → (D → List D → Prop) → Prop}
variable {QI : List D → List (Nat × Cn) → En → Prop}
instance {r : R} {P : List D → List (Nat × Cn) → Prop} : Tag (∃ xs cs, srcL δ r = some (xs, cs) ∧ P xs cs) (B0 (B0 (B1 (B1 (B0 (B1 (∃ xs cs, srcL δ r = some (xs, cs) ∧ P xs cs))))))) := ⟨id⟩
end
section
variable {Q : R → En → Prop} {QB : Bool → En → Prop} {QA : List R → En → Prop} {δ : En} {d : D} {c : Cn} {T U V : DT} {C C2 : DTT} {TA : DTA} {F : D → D → (R → Prop) → Prop} {F1 : D → (R → Prop) → Prop}
variable {q : R → Prop}
variable {n : En → Prop} {rt : R → En → Prop} {bk ct : En → Prop} {S S2 : DS}
variable {N : En → Prop}
variable {f : List D → List D → (D → List D → Prop) → Prop}
variable {QI : List D → List (Nat × Cn) → En → Prop}
instance {r u : R} {P : List D → List (Nat × Cn) → List D → List (Nat × Cn) → Prop} : Tag (∃ xs cs ys cs', srcL δ r = some (xs, cs) ∧ srcL δ u = some (ys, cs') ∧ P xs cs ys cs') (B0 (B0 (B1 (B1 (B1 (B0 (∃ xs cs ys cs', srcL δ r = some (xs, cs) ∧ srcL δ u = some (ys, cs') ∧ P xs cs ys cs'))))))) := ⟨id⟩
end
section
variable {Q : R → En → Prop} {QB : Bool → En → Prop} {QA : List R → En → Prop} {δ : En} {d : D} {c : Cn} {T U V : DT} {C C2 : DTT} {TA : DTA} {F : D → D → (R → Prop) → Prop} {F1 : D → (R → Prop) → Prop}
variable {q : R → Prop}
variable {n : En → Prop} {rt : R → En → Prop} {bk ct : En → Prop} {S S2 : DS}
instance {r1 r2 r3 : R} {m1 m2 m3 : Bool} {P : E → E → E → Prop} : Tag (∃ r1' r2' r3' e1 e2 e3, [r1, r2, r3] = [r1', r2', r3'] ∧ putE δ m1 r1' = some e1 ∧ putE δ m2 r2' = some e2 ∧ putE δ m3 r3' = some e3 ∧ P e1 e2 e3) (B0 (B0 (B1 (B1 (B1 (B1 (∃ r1' r2' r3' e1 e2 e3, [r1, r2, r3] = [r1', r2', r3'] ∧ putE δ m1 r1' = some e1 ∧ putE δ m2 r2' = some e2 ∧ putE δ m3 r3' = some e3 ∧ P e1 e2 e3))))))) := ⟨id⟩
end
section
variable {Q : R → En → Prop} {δ : En} {T U : DT} {TA TB : DTA} {n : En → Prop} {rt : R → En → Prop} {bk ct : En → Prop}
instance {r : R} {cn : Str} {P : Prop} : Tag (∃ ns ds, r.dat δ = some (.obj cn ns ds) ∧ P) (B0 (B1 (B0 (B0 (B0 (B0 (∃ ns ds, r.dat δ = some (.obj cn ns ds) ∧ P))))))) := ⟨id⟩
end
section
variable {Q : R → En → Prop} {QB : Bool → En → Prop} {δ : En} {T U : DT} {C : DTT} {rt : R → En → Prop} {bk ct : En → Prop} {n : En → Prop} {rows : List (List D)} {Z : DE}
variable {yn : En → List (List D) → Prop} {ybk yct : En → List (List D) → Prop}
instance {h : Nat} {P : List D → Prop} : Tag (∃ r', δ[h]? = some (E.ow (.l r')) ∧ P r') (B0 (B1 (B0 (B1 (B0 (B1 (∃ r', δ[h]? = some (E.ow (.l r')) ∧ P r'))))))) := ⟨id⟩
end
section
variable {Q : R → En → Prop} {δ : En} {T U : DT}
instance {r u : R} {cn : Str} {P : Prop} : Tag (∃ ns ds ns' ds', r.dat δ = some (.obj cn ns ds) ∧ u.dat δ = some (.obj cn ns' ds') ∧ P) (B0 (B1 (B0 (B1 (B1 (B0 (∃ ns ds ns' ds', r.dat δ = some (.obj cn ns ds) ∧ u.dat δ = some (.obj cn ns' ds') ∧ P))))))) := ⟨id⟩
end
section
variable {Q : R → En → Prop} {δ : En} {T U : DT} {TA TB : DTA} {n : En → Prop} {rt : R → En → Prop} {bk ct : En → Prop}
instance {r : R} {cn f : Str} {P : D → Prop} : Tag (∃ ns ds d, r.dat δ = some (.obj cn ns ds) ∧ (ns.zip ds).lookup f = some d ∧ P d) (B0 (B1 (B0 (B1 (B1 (B1 (∃ ns ds d, r.dat δ = some (.obj cn ns ds) ∧ (ns.zip ds).lookup f = some d ∧ P d))))))) := ⟨id⟩
end
section
variable {Q : R → En → Prop} {δ : En} {T U : DT} {TA TB : DTA} {n : En → Prop} {rt : R → En → Prop} {bk ct : En → Prop}
instance {r : R} {cn m : Str} {P : Prop} : Tag (∃ ns ds, r.dat δ = some (.obj cn ns ds) ∧ (ns.zip ds).lookup m = none ∧ P) (B0 (B1 (B1 (B0 (B0 (B0 (∃ ns ds, r.dat δ = some (.obj cn ns ds) ∧ (ns.zip ds).lookup m = none ∧ P))))))) := ⟨id⟩
end
section
variable {Q : R → En → Prop} {δ : En} {T U : DT} {TA TB : DTA} {n : En → Prop} {rt : R → En → Prop} {bk ct : En → Prop}
instance {r : R} {cn : Str} {i : Nat} {P : Nat → List (Str × D) → D → Prop} : Tag (∃ i' fs d, R.rf i = .rf i' ∧ δ[i']? = some (E.ow (.o cn fs)) ∧ r.still δ = some d ∧ (∀ j, r ≠ .rf j) ∧ fs.length < 1000 ∧ P i' fs d) (B0 (B1 (B1 (B0 (B0 (B1 (∃ i' fs d, R.rf i = .rf i' ∧ δ[i']? = some (E.ow (.o cn fs)) ∧ r.still δ = some d ∧ (∀ j, r ≠ .rf j) ∧ fs.length < 1000 ∧ P i' fs d))))))) := ⟨id⟩
end
section
variable {Q : R → En → Prop} {δ : En} {T U : DT} {TA TB : DTA} {n : En → Prop} {rt : R → En → Prop} {bk ct : En → Prop}
instance {cn m : Str} {ns : List Str} {xs : List D} {P : List Str → List D → Prop} : Tag (∃ ns' xs', R.va (.obj cn ns xs) = .va (.obj cn ns' xs') ∧ (ns'.zip xs').lookup m = none ∧ P ns' xs') (B0 (B1 (B1 (B0 (B1 (B0 (∃ ns' xs', R.va (.obj cn ns xs) = .va (.obj cn ns' xs') ∧ (ns'.zip xs').lookup m = none ∧ P ns' xs'))))))) := ⟨id⟩
end
section
variable {Q : R → En → Prop} {QB : Bool → En → Prop} {QA : List R → En → Prop} {δ : En} {d : D} {c : Cn} {T U V : DT} {C C2 : DTT} {TA : DTA} {F : D → D → (R → Prop) → Prop} {F1 : D → (R → Prop) → Prop}
instance {r : R} {n : Tn} {P : Bool → Prop} : Tag (∃ k b, r.kn δ = some k ∧ isT n k = b ∧ P b) (B0 (B1 (B1 (B0 (B1 (B1 (∃ k b, r.kn δ = some k ∧ isT n k = b ∧ P b))))))) := ⟨id⟩
end
section
variable {Q : R → En → Prop} {QB : Bool → En → Prop} {QA : List R → En → Prop} {δ : En} {d : D} {c : Cn} {T U V : DT} {C C2 : DTT} {TA : DTA} {F : D → D → (R → Prop) → Prop} {F1 : D → (R → Prop) → Prop}
instance {r : R} {n m : Tn} {P : Bool → Prop} : Tag (∃ k b, r.kn δ = some k ∧ (isT n k || isT m k) = b ∧ P b) (B0 (B1 (B1 (B1 (B0 (B0 (∃ k b, r.kn δ = some k ∧ (isT n k || isT m k) = b ∧ P b))))))) := ⟨id⟩
end
section
variable {Q : R → En → Prop} {QB : Bool → En → Prop} {QA : List R → En → Prop} {δ : En} {d : D} {c : Cn} {T U V : DT} {C C2 : DTT} {TA : DTA} {F : D → D → (R → Prop) → Prop} {F1 : D → (R → Prop) → Prop}
variable {q : R → Prop}
variable {n : En → Prop} {rt : R → En → Prop} {bk ct : En → Prop} {S S2 : DS}
instance {r : R} {P : D → Prop} : Tag (∃ d, r.still δ = some d ∧ P d) (B0 (B1 (B1 (B1 (B0 (B1 (∃ d, r.still δ = some d ∧ P d))))))) := ⟨id⟩
end
section
variable {Q : R → En → Prop} {QB : Bool → En → Prop} {QA : List R → En → Prop} {δ : En} {d : D} {c : Cn} {T U V : DT} {C C2 : DTT} {TA : DTA} {F : D → D → (R → Prop) → Prop} {F1 : D → (R → Prop) → Prop}
variable {q : R → Prop}
variable {n : En → Prop} {rt : R → En → Prop} {bk ct : En → Prop} {S S2 : DS}
instance {i : Nat} : Tag (saug i F T ⟨n, rt, bk, ct⟩ δ) (B0 (B1 (B1 (B1 (B1 (B0 (saug i F T ⟨n, rt, bk, ct⟩ δ))))))) := ⟨id⟩
end
section
variable {Q : R → En → Prop} {QB : Bool → En → Prop} {QA : List R → En → Prop} {δ : En} {d : D} {c : Cn} {T U V : DT} {C C2 : DTT} {TA : DTA} {F : D → D → (R → Prop) → Prop} {F1 : D → (R → Prop) → Prop}
variable {q : R → Prop}
instance {xs : List D} {i : Int} : Tag (ixF (.tup xs) (.int i) q) (B0 (B1 (B1 (B1 (B1 (B1 (ixF (.tup xs) (.int i) q))))))) := ⟨id⟩
end
section
variable {Q : R → En → Prop} {QB : Bool → En → Prop} {QA : List R → En → Prop} {δ : En} {d : D} {c : Cn} {T U V : DT} {C C2 : DTT} {TA : DTA} {F : D → D → (R → Prop) → Prop} {F1 : D → (R → Prop) → Prop}
variable {q : R → Prop}
variable {n : En → Prop} {rt : R → En → Prop} {bk ct : En → Prop} {S S2 : DS}
variable {N : En → Prop}
instance {m : Nat} {U : DGs} {ds : List D} : Tag (dTup m U (.tup ds) δ N) (B1 (B0 (B0 (B0 (B0 (B0 (dTup m U (.tup ds) δ N))))))) := ⟨id⟩
end
section
variable {Q : R → En → Prop} {QB : Bool → En → Prop} {QA : List R → En → Prop} {δ : En} {d : D} {c : Cn} {T U V : DT} {C C2 : DTT} {TA : DTA} {F : D → D → (R → Prop) → Prop} {F1 : D → (R → Prop) → Prop}
variable {q : R → Prop}
instance {d : D} : Tag (bF isF d .non q) (B1 (B0 (B0 (B0 (B0 (B1 (bF isF d .non q))))))) := ⟨id⟩
end
section
variable {Q : R → En → Prop} {QB : Bool → En → Prop} {QA : List R → En → Prop} {δ : En} {d : D} {c : Cn} {T U V : DT} {C C2 : DTT} {TA : DTA} {F : D → D → (R → Prop) → Prop} {F1 : D → (R → Prop) → Prop}
variable {q : R → Prop}
instance {d : D} : Tag (bF nisF d .non q) (B1 (B0 (B0 (B0 (B1 (B0 (bF nisF d .non q))))))) := ⟨id⟩
end
section
variable {Q : R → En → Prop} {δ : En} {T U : DT} {TA TB : DTA} {n : En → Prop} {rt : R → En → Prop} {bk ct : En → Prop}
instance {ro : R} {P : Prop} : Tag (∃ xs0, ro.dat δ = some (.lst xs0) ∧ P) (B1 (B0 (B0 (B0 (B1 (B1 (∃ xs0, ro.dat δ = some (.lst xs0) ∧ P))))))) := ⟨id⟩
end
section
variable {Q : R → En → Prop} {QB : Bool → En → Prop} {QA : List R → En → Prop} {δ : En} {d : D} {c : Cn} {T U V : DT} {C C2 : DTT} {TA : DTA} {F : D → D → (R → Prop) → Prop} {F1 : D → (R → Prop) → Prop}
instance {x y : R} {P : D → D → Prop} : Tag (∃ d e, x.dat δ = some d ∧ y.dat δ = some e ∧ P d e) (B1 (B0 (B0 (B1 (B0 (B0 (∃ d e, x.dat δ = some d ∧ y.dat δ = some e ∧ P d e))))))) := ⟨id⟩
end
section
variable {Q : R → En → Prop} {QB : Bool → En → Prop} {QA : List R → En → Prop} {δ : En} {d : D} {c : Cn} {T U V : DT} {C C2 : DTT} {TA : DTA} {F : D → D → (R → Prop) → Prop} {F1 : D → (R → Prop) → Prop}
variable {q : R → Prop}
variable {n : En → Prop} {rt : R → En → Prop} {bk ct : En → Prop} {S S2 : DS}
instance {r1 r2 : R} {m1 m2 : Bool} {P : E → E → Prop} : Tag (∃ r1' r2' e1 e2, [r1, r2] = [r1', r2'] ∧ putE δ m1 r1' = some e1 ∧ putE δ m2 r2' = some e2 ∧ P e1 e2) (B1 (B0 (B0 (B1 (B0 (B1 (∃ r1' r2' e1 e2, [r1, r2] = [r1', r2'] ∧ putE δ m1 r1' = some e1 ∧ putE δ m2 r2' = some e2 ∧ P e1 e2))))))) := ⟨id⟩
end
section
variable {Q : R → En → Prop} {QB : Bool → En → Prop} {QA : List R → En → Prop} {δ : En} {d : D} {c : Cn} {T U V : DT} {C C2 : DTT} {TA : DTA} {F : D → D → (R → Prop) → Prop} {F1 : D → (R → Prop) → Prop}
instance {r : R} {P : Bool → Prop} : Tag (∃ d b, r.dat δ = some d ∧ truD d = some b ∧ P b) (B1 (B0 (B0 (B1 (B1 (B0 (∃ d b, r.dat δ = some d ∧ truD d = some b ∧ P b))))))) := ⟨id⟩
end
section
variable {Q : R → En → Prop} {QB : Bool → En → Prop} {QA : List R → En → Prop} {δ : En} {d : D} {c : Cn} {T U V : DT} {C C2 : DTT} {TA : DTA} {F : D → D → (R → Prop) → Prop} {F1 : D → (R → Prop) → Prop}
variable {q : R → Prop}
variable {n : En → Prop} {rt : R → En → Prop} {bk ct : En → Prop} {S S2 : DS}
variable {N : En → Prop}
instance {i : Nat} {k : Int} {P : Nat → List D → Nat → Prop} : Tag (∃ i' xs k' j, R.rf i = .rf i' ∧ δ[i']? = some (E.ow (.l xs)) ∧ R.va (.int k) = .va (.int k') ∧ ixN xs.length k' = some j ∧ P i' xs j) (B1 (B0 (B0 (B1 (B1 (B1 (∃ i' xs k' j, R.rf i = .rf i' ∧ δ[i']? = some (E.ow (.l xs)) ∧ R.va (.int k) = .va (.int k') ∧ ixN xs.length k' = some j ∧ P i' xs j))))))) := ⟨id⟩
end
section
variable {Q : R → En → Prop} {QB : Bool → En → Prop} {QA : List R → En → Prop} {δ : En} {d : D} {c : Cn} {T U V : DT} {C C2 : DTT} {TA : DTA} {F : D → D → (R → Prop) → Prop} {F1 : D → (R → Prop) → Prop}
variable {q : R → Prop}
variable {n : En → Prop} {rt : R → En → Prop} {bk ct : En → Prop} {S S2 : DS}
instance {r : R} {ps : List Nat} {P : R → Prop} : Tag (∃ r', r.out δ = some r' ∧ (∀ i, r = .rf i → i ∉ ps) ∧ P r') (B1 (B0 (B1 (B0 (B0 (B0 (∃ r', r.out δ = some r' ∧ (∀ i, r = .rf i → i ∉ ps) ∧ P r'))))))) := ⟨id⟩
end
section
variable {Q : R → En → Prop} {QB : Bool → En → Prop} {QA : List R → En → Prop} {δ : En} {d : D} {c : Cn} {T U V : DT} {C C2 : DTT} {TA : DTA} {F : D → D → (R → Prop) → Prop} {F1 : D → (R → Prop) → Prop}
variable {q : R → Prop}
instance {i j : Int} : Tag (modF (.int i) (.int j) q) (B1 (B0 (B1 (B0 (B0 (B1 (modF (.int i) (.int j) q))))))) := ⟨id⟩
end
section
variable {Q : R → En → Prop} {QB : Bool → En → Prop} {QA : List R → En → Prop} {δ : En} {d : D} {c : Cn} {T U V : DT} {C C2 : DTT} {TA : DTA} {F : D → D → (R → Prop) → Prop} {F1 : D → (R → Prop) → Prop}
variable {q : R → Prop}
instance {i j : Int} : Tag (fdivF (.int i) (.int j) q) (B1 (B0 (B1 (B0 (B1 (B0 (fdivF (.int i) (.int j) q))))))) := ⟨id⟩
end
section
variable {Q : R → En → Prop} {QB : Bool → En → Prop} {QA : List R → En → Prop} {δ : En} {d : D} {c : Cn} {T U V : DT} {C C2 : DTT} {TA : DTA} {F : D → D → (R → Prop) → Prop} {F1 : D → (R → Prop) → Prop}
variable {q : R → Prop}
instance {i j : Int} : Tag (timesF (.int i) (.int j) q) (B1 (B0 (B1 (B0 (B1 (B1 (timesF (.int i) (.int j) q))))))) := ⟨id⟩
end
section
variable {Q : R → En → Prop} {QB : Bool → En → Prop} {QA : List R → En → Prop} {δ : En} {d : D} {c : Cn} {T U V : DT} {C C2 : DTT} {TA : DTA} {F : D → D → (R → Prop) → Prop} {F1 : D → (R → Prop) → Prop}
variable {q : R → Prop}
instance {i j : Int} : Tag (powF (.int i) (.int j) q) (B1 (B0 (B1 (B1 (B0 (B0 (powF (.int i) (.int j) q))))))) := ⟨id⟩
end
end L3
set_option Elab.async false
set_option linter.all false
set_option maxRecDepth 100000
set_option maxHeartbeats 4000000
namespace L3
open PySem PySem.Spec PyProof.Rows L2
def sp_law_bag : DSp := fun δ Q => ∃ (ns : List Int) (s : Int), δ = [.va (.frz (ns.map D.int)), .va (.int s)] ∧ 0 ≤ s ∧ s < 2147483629 ∧ ∀ bg, IsBag bg → Q (.fr (.l bg)) δ

def sp_law_draw : DSp := fun δ Q => ∃ bg n, δ = [.ow (.l bg), .va (.int n)] ∧ IsBag bg ∧ 0 < n ∧ n < 1073741824 ∧ ∀ bg' d, IsBag bg' → 0 ≤ d → d < n → Q (.va (.int d)) [.ow (.l bg'), .va (.int n)]

def sp_law_of : DSp := fun δ Q => ∃ bg e, δ = [.ow (.l bg), e] ∧ IsBag bg ∧ ((∃ xs : List D, (e = .va (.lst xs) ∨ e = .va (.tup xs) ∨ e = .ow (.l xs)) ∧ 0 < xs.length ∧ xs.length < 1073741824 ∧ ∀ bg' x, IsBag bg' → x ∈ xs → Q (.va x) [.ow (.l bg'), e]) ∨
  (∃ x : Str, e = .va (.str x) ∧ 0 < x.length ∧ x.length < 1000000 ∧ ∀ bg' c, IsBag bg' → c ∈ x.cps.toList → Q (.va (.str ⟨#[c]⟩)) [.ow (.l bg'), .va (.str x)]))

def sp_law_labels : DSp := fun δ Q => ∃ (bg : List D) (size : Nat), δ = [.ow (.l bg), .va (.int (size : Nat))] ∧ IsBag bg ∧ 0 < size ∧ size ≤ 4 ∧ ∀ bg' ls, IsBag bg' → GoodSides ls → ls.length = size → Q (.va (strsT ls)) [.ow (.l bg'), .va (.int (size : Nat))]

def sp_law_step_row : DSp := fun δ Q => ∃ (bg : List D) (size : Nat) (mood : Int), δ = [.ow (.l bg), .va (.int (size : Nat)), .va (.int mood)] ∧ IsBag bg ∧ 0 < size ∧ size ≤ 1000 ∧ ∀ bg' r, IsBag bg' → GoodRow size r → Q (.fr (.l (r.map pairD))) [.ow (.l bg'), .va (.int (size : Nat)), .va (.int mood)]

def sp_law_net : DSp := fun δ Q => ∃ (bg : List D) (many size : Nat), δ = [.ow (.l bg), .va (.int (many : Nat)), .va (.int (size : Nat))] ∧ IsBag bg ∧ 0 < many ∧ many ≤ 4 ∧ 0 < size ∧ size ≤ 1000 ∧ ∀ bg' net, IsBag bg' → GoodNet many size net → Q (.fr (.l (net.map rowD))) [.ow (.l bg'), .va (.int (many : Nat)), .va (.int (size : Nat))]

def sp_law_order : DSp := fun δ Q => ∃ (bg : List D) (size : Nat), δ = [.ow (.l bg), .va (.int (size : Nat))] ∧ IsBag bg ∧ 0 < size ∧ size ≤ 1000 ∧ ∀ bg' ns, IsBag bg' → Naming size ns → Q (.fr (.l (ns.map D.int))) [.ow (.l bg'), .va (.int (size : Nat))]

def sp_law_turned_net : DSp := fun δ Q => ∃ (many size : Nat) (net : Net) (ts : List Int), δ = [.va (netD net), .va (.lst (ts.map D.int))] ∧ GoodNet many size net ∧ ts.length = size ∧ (∀ x ∈ ts, x = 1 ∨ x = -1) ∧ Q (.fr (.l ((turnedN (fun x => ts.getD x 0) net).map rowD))) δ

def sp_law_named_net : DSp := fun δ Q => ∃ (many size : Nat) (net : Net) (e : E) (ns : List Int), δ = [.va (netD net), e] ∧ (e = .va (.lst (ns.map D.int)) ∨ e = .ow (.l (ns.map D.int))) ∧ GoodNet many size net ∧ Naming size ns ∧ Q (.fr (.l ((namedN ns net).map rowD))) δ

def sp_law_disguise : DSp := fun δ Q => ∃ (bg : List D) (many size : Nat) (net : Net), δ = [.ow (.l bg), .va (netD net)] ∧ IsBag bg ∧ GoodNet many size net ∧ ∀ bg' net', IsBag bg' → GoodNet many size net' → Q (.fr (.l (net'.map rowD))) [.ow (.l bg'), .va (netD net)]

def sp_law_cover : DSp := fun δ Q => ∃ (many size : Nat) (net : Net), δ = [.va (netD net)] ∧ GoodNet many size net ∧ size + size ≤ 1000 ∧ Q (.fr (.l ((coverN net).map rowD))) δ

def sp_Plan_step : DSp := fun δ Q => ∃ (ls : List Str) (size : Nat) (net : Net) (k x : Nat) (r : Row) (p : Int × Int), δ = [.va (planD ls size net), .va (.int (k : Nat)), .va (.int (x : Nat))] ∧ net[k]? = some r ∧ r[x]? = some p ∧ Q (.va (pairD p)) δ

def sp_step_row : DSp := fun δ Q => ∃ (ls : List Str) (size k : Nat) (net : Net) (r : Row), δ = [.va (planD ls size net), .va (.int (k : Nat))] ∧ net[k]? = some r ∧ r.length = size ∧ size ≤ 1000 ∧ Q (.fr (.l (r.map pairD))) δ

def waysD (a b : Net) : List D := (List.range a.length).map fun k => .tup [rowD (a.getD k []), rowD (b.getD k [])]
def sp_through : DSp := fun δ Q => ∃ (many s1 s2 low : Nat) (a b : Net) (S0 : Nat → Int), δ = [.va (.lst (waysD a b)), .va (.int (s1 : Nat)), .va (.int (low : Nat)), .ow (.l ((sgI (s2 * s1) S0).map D.int))] ∧ GoodNet many s1 a ∧ GoodNet many s2 b ∧ s2 * s1 ≤ 1000 ∧ low < s2 * s1 ∧ (∀ q, Reach (prodN s1 a b) low q → S0 q = 0) ∧
  ∀ met sg, RndEnd (prodN s1 a b) (s2 * s1) low S0 met sg (balB (prodN s1 a b) low) → Q (.va (roundD (prodN s1 a b) (s2 * s1) low)) [.va (.lst (waysD a b)), .va (.int (s1 : Nat)), .va (.int (low : Nat)), .ow (.l ((sgI (s2 * s1) sg).map D.int))]

def sp_crossed : DSp := fun δ Q => ∃ (ls : List Str) (s1 s2 : Nat) (a b : Net), δ = [.va (planD ls s1 a), .va (planD ls s2 b)] ∧ GoodSides ls ∧ GoodNet ls.length s1 a ∧ GoodNet ls.length s2 b ∧ s2 * s1 ≤ 1000 ∧
  ∀ sg, Crs (prodN s1 a b) (s2 * s1) (s2 * s1) sg → Q (.va (.tup [.lst ((sgI (s2 * s1) sg).map D.int), .lst ((heads (prodN s1 a b) (s2 * s1)).map (roundD (prodN s1 a b) (s2 * s1)))])) δ

def sp_round_tables : DSp := fun δ Q => ∃ (ls : List Str) (s1 s2 : Nat) (a b : Net), δ = [.va (planD ls s1 a), .va (planD ls s2 b)] ∧ GoodSides ls ∧ GoodNet ls.length s1 a ∧ GoodNet ls.length s2 b ∧ s2 * s1 ≤ 1000 ∧ Q (.fr (.l (rtabs a b s1 s2))) δ

def sp_has_step_rows : DSp := fun δ Q => ∃ (many size : Nat) (net : Net), δ = [.va (.int (many : Nat)), .va (netD net)] ∧ GoodNet many size net ∧ Q (.va (.bl true)) δ

def sp_is_number : DSp := fun δ Q => ∃ d n, δ = [.va d] ∧ Lk n d ∧ Q (.va (.bl (intB d))) δ

def sp_is_index : DSp := fun δ Q => ∃ d n m, δ = [.va d, .va (.int m)] ∧ Lk n d ∧ Q (.va (.bl (idxB m d))) δ

def sp_is_sign : DSp := fun δ Q => ∃ i, δ = [.va (.int i)] ∧ (i = 1 ∨ i = -1) ∧ Q (.va (.bl true)) δ

def sp_is_step : DSp := fun δ Q => ∃ (x s n : Int), δ = [.va (pairD (x, s)), .va (.int n)] ∧ 0 ≤ x ∧ x < n ∧ (s = 1 ∨ s = -1) ∧ Q (.va (.bl true)) δ

def sp_wrong_step : DSp := fun δ Q => ∃ (many size : Nat) (net : Net), δ = [.va (.int (many : Nat)), .va (netD net)] ∧ GoodNet many size net ∧ Q (.va .non) δ

def sp_is_side_name : DSp := fun δ Q => ∃ x, δ = [.va (.str x)] ∧ GoodName x ∧ Q (.va (.bl true)) δ

def sp_is_sides : DSp := fun δ Q => ∃ ls, δ = [.va (strsT ls)] ∧ GoodSides ls ∧ Q (.va (.bl true)) δ

def sp_Plan_init__ : DSp := fun δ Q => ∃ (ls : List Str) (size : Nat) (net : Net), δ = [.ow (.o "Plan" []), .va (strsT ls), .va (netD net)] ∧ GoodSides ls ∧ GoodNet ls.length size net ∧ Q (.va .non) [.ow (.o "Plan" (planF ls size net)), .va (strsT ls), .va (netD net)]

def sp_law_plan : DSp := fun δ Q => ∃ (ls : List Str) (size : Nat) (net : Net), δ = [.va (strsT ls), .va (netD net)] ∧ GoodSides ls ∧ GoodNet ls.length size net ∧ Q (.fr (.o "Plan" (planF ls size net))) δ

def sp_law_led : DSp := fun δ Q => ∃ (many size : Nat) (net : Net) (w : List Nat) (x : Nat), δ = [.va (netD net), .va (.tup (natsD w)), .va (.int (x : Nat))] ∧ GoodNet many size net ∧ (∀ k ∈ w, k < many) ∧ w.length ≤ 1000 ∧ x < size ∧ Q (.va (ledP net w x)) δ

def sp_law_table : DSp := fun δ Q => ∃ (many size : Nat) (net : Net) (w : List Nat), δ = [.va (netD net), .va (.tup (natsD w))] ∧ GoodNet many size net ∧ (∀ k ∈ w, k < many) ∧ w.length ≤ 1000 ∧ Q (.fr (.l (tabL net size w))) δ

def sp_law_equations : DSp := fun δ Q => ∃ (many s1 s2 : Nat) (a b : Net), δ = [.va (netD a), .va (netD b)] ∧ GoodNet many s1 a ∧ GoodNet many s2 b ∧ s2 * s1 ≤ 1000 ∧ Q (.fr (.l (linesD (s2 * s1) (eqnL a b s1 s2 many)))) δ

def sp_law_divisor : DSp := fun δ Q => ∃ (n : Nat) (f : Nat → Int), δ = [.va (.lst (rowI n f))] ∧ ∀ g : Int, 0 < g → (∀ z, z < n → g ∣ f z) → (g = 1 ∨ ∃ z, z < n ∧ f z ≠ 0) → Q (.va (.int g)) δ

def sp_law_independent : DSp := fun δ Q => ∃ (n : Nat) (fs : List (Nat → Int)), δ = [.va (.lst (linesD n fs))] ∧ n ≤ 1000 ∧ fs.length ≤ 10000 ∧ Kind n fs ∧ ∀ ls, Ech n ls → (∀ X, (∀ r ∈ fs, dotN n r X = 0) ↔ ∀ p ∈ ls, dotN n p.2 X = 0) → Q (.va (.int (ls.length : Nat))) δ

def sp_law_like (n : Nat) : DSp := fun δ Q => ∃ (d : D) (e1 e2 : E), δ = [e1, e2] ∧ zE (some e1) = some d ∧ zE (some e2) = some d ∧ Lk n d ∧ Q (.va (.bl true)) δ
def pv_law_like : Nat → DSp
  | 0 => fun _ _ => False
  | n + 1 => sp_law_like n

def sp_law_flat : DSp := fun δ Q => ∃ (h w : Nat) (f : Nat → Nat → Int), δ = [.va (.lst (matQ h w f))] ∧ h * w ≤ 1000 ∧ 0 < w ∧ Q (.fr (.l (rowI (h * w) fun p => f (p / w) (p % w)))) δ

def sp_kin : DSp := fun δ Q => ∃ (ls : List Str) (s1 s2 : Nat) (a b : Net), δ = [.va (planD ls s1 a), .va (planD ls s2 b)] ∧ GoodSides ls ∧ GoodNet ls.length s1 a ∧ GoodNet ls.length s2 b ∧ s2 * s1 ≤ 1000 ∧ Q (.va (.int (kinN (prodN s1 a b) (s2 * s1) : Nat))) δ

def sp_law_whole : DSp := fun δ Q => ∃ d n, δ = [.va d] ∧ Lk n d ∧ Q (.va (.bl (intB d))) δ

def sp_law_inner : DSp := fun δ Q => ∃ (size : Nat) (f g : Nat → Int), δ = [.va (.lst (rowI size f)), .va (.lst (rowI size g))] ∧ size ≤ 1000 ∧ (∀ k, k < size → f k = 0 ∨ f k = 1 ∨ f k = -1) ∧ Q (.va (.int (sumZ ((List.range size).map fun k => f k * g k)))) δ

def sp_law_pair_so : DSp := fun δ Q => ∃ (ls : List Str) (s1 s2 : Nat) (a b : Net), δ = [.va (strsT ls), .va (netD a), .va (netD b)] ∧ GoodSides ls ∧ ls.length ≤ 4 ∧ GoodNet ls.length s1 a ∧ GoodNet ls.length s2 b ∧ s2 * s1 ≤ 1000 ∧ Q (.va (.bl true)) δ

def sp_law : DSp := fun δ Q => ∃ ns : List Int, δ = [.va (.frz (ns.map D.int))] ∧ ns.length ≤ 63 ∧ Q (.va (.bl true)) δ

end L3
set_option Elab.async false
set_option linter.all false
set_option maxRecDepth 100000
set_option maxHeartbeats 4000000
namespace L3
open PySem PySem.Spec PyProof.Rows L2
local macro_rules | `(tactic| walk_at "s") => `(tactic| first | with_reducible refine Stp.go ?_ | ((with_reducible refine Tag.go ?_); (first | ((with_reducible refine b0 ?_); (first | ((with_reducible refine b0 ?_); (first | ((with_reducible refine b0 ?_); (first | ((with_reducible refine b0 ?_); (first | ((with_reducible refine b0 ?_); (first | ((with_reducible refine b0 ?_); (first | (with_reducible refine i_zt ?_) | ((with_reducible apply i_zl); (next => rfl); (next => rfl)))) | ((with_reducible refine b1 ?_); (first | (with_reducible refine i_et ?_) | ((with_reducible apply i_el); (next => rfl)))))) | ((with_reducible refine b1 ?_); (first | ((with_reducible refine b0 ?_); (first | ((with_reducible apply f_ixL); (next => (rfl))) | ((with_reducible apply f_ixI); (next => first | assumption | omega); (next => first | assumption | (simp only [List.length_map] at *; omega))))) | ((with_reducible refine b1 ?_); (first | ((with_reducible apply e_da1); (next => rfl)) | ((with_reducible apply e_da2); (next => rfl); (next => rfl)) | ((with_reducible apply e_da3); (next => rfl); (next => rfl); (next => rfl)) | ((with_reducible apply e_dats); (next => (rfl))))))))) | ((with_reducible refine b1 ?_); (first | ((with_reducible refine b0 ?_); (first | ((with_reducible refine b0 ?_); (first | ((with_reducible apply e_st1); (next => rfl)) | ((with_reducible apply e_st2); (next => rfl); (next => rfl)) | ((with_reducible apply e_st3); (next => rfl); (next => rfl); (next => rfl)) | ((with_reducible apply e_st4); (next => rfl); (next => rfl); (next => rfl); (next => rfl)) | ((with_reducible apply e_st5); (next => rfl); (next => rfl); (next => rfl); (next => rfl); (next => rfl)) | ((with_reducible apply e_stills); (next => (simp only [stills, R.still, Option.bind_some, Option.map_some]; rfl)); (next => first | decide | simp [sizeLine])))) | ((with_reducible refine b1 ?_); (first | ((with_reducible apply e_pa1); (next => rfl); (next => simp [rfs])) | ((with_reducible apply e_pa2); (next => rfl); (next => rfl); (next => simp [rfs])) | ((with_reducible apply e_pa3); (next => rfl); (next => rfl); (next => rfl); (next => simp [rfs])) | ((with_reducible apply e_pa4); (next => rfl); (next => rfl); (next => rfl); (next => rfl); (next => simp [rfs])) | ((with_reducible apply e_pa5); (next => rfl); (next => rfl); (next => rfl); (next => rfl); (next => rfl); (next => simp [rfs])) | ((with_reducible apply e_pass); (next => rfl); (next => simp [rfs])) | ((with_reducible apply p_pass0); (next => rfl); (next => simp [rfs])) | ((with_reducible apply c_pass); (next => (simp only [pk, List.nil_append, List.cons_append, List.filterMap_cons, List.filterMap_nil, List.getElem?_cons_zero, List.getElem?_cons_succ]; rfl))))))) | ((with_reducible refine b1 ?_); (first | ((with_reducible refine b0 ?_); (first | ((with_reducible apply e_lx1); (next => rfl); (next => rfl)) | ((with_reducible apply e_lx2); (next => rfl); (next => rfl); (next => rfl)) | ((with_reducible apply e_lm2); (next => rfl); (next => rfl)))) | ((with_reducible refine b1 ?_); (first | ((with_reducible apply s_putN); (next => rfl); (next => (first | decide | simp [sizeLine])); (next => rfl)) | ((with_reducible apply c_len); (next => rfl)))))))))) | ((with_reducible refine b1 ?_); (first | ((with_reducible refine b0 ?_); (first | ((with_reducible refine b0 ?_); (first | ((with_reducible refine b0 ?_); (first | ((with_reducible apply e_tv); (next => (rfl))) | ((with_reducible apply e_tvo); (next => (rfl))))) | ((with_reducible refine b1 ?_); (first | ((with_reducible apply e_tvz); (next => (rfl))) | ((with_reducible apply e_tvzo); (next => (rfl)); (next => (rfl)); (next => ((try simp only [Int.reduceToNat, List.set_cons_succ, List.set_cons_zero, puts]); rfl))))))) | ((with_reducible refine b1 ?_); (first | ((with_reducible refine b0 ?_); (first | ((with_reducible apply e_dat1); (next => (rfl))))) | ((with_reducible refine b1 ?_); (first | ((with_reducible apply s_norm); (next => ((try simp only [Int.reduceToNat, List.set_cons_succ, List.set_cons_zero, puts]); rfl))))))))) | ((with_reducible refine b1 ?_); (first | ((with_reducible refine b0 ?_); (first | ((with_reducible refine b0 ?_); (first | ((with_reducible apply e_lm1); (next => rfl)))) | ((with_reducible refine b1 ?_); (first | ((with_reducible apply i_src); (next => rfl)))))) | ((with_reducible refine b1 ?_); (first | ((with_reducible refine b0 ?_); (first | ((with_reducible apply i_src2); (next => rfl); (next => rfl)))) | ((with_reducible refine b1 ?_); (first | ((with_reducible apply s_put3); (next => rfl); (next => rfl); (next => rfl)))))))))))) | ((with_reducible refine b1 ?_); (first | ((with_reducible refine b0 ?_); (first | ((with_reducible refine b0 ?_); (first | ((with_reducible refine b0 ?_); (first | ((with_reducible refine b0 ?_); (first | ((with_reducible apply p_obj); (next => rfl)))) | ((with_reducible refine b1 ?_); (first | ((with_reducible apply x_end); (next => rfl); (next => rfl); (next => rfl)))))) | ((with_reducible refine b1 ?_); (first | ((with_reducible refine b0 ?_); (first | ((with_reducible apply x_exf1); (next => rfl)))) | ((with_reducible refine b1 ?_); (first | ((with_reducible apply x_for0); (next => rfl)))))))) | ((with_reducible refine b1 ?_); (first | ((with_reducible refine b0 ?_); (first | ((with_reducible refine b0 ?_); (first | ((with_reducible apply g_lst); (next => (rfl))))) | ((with_reducible refine b1 ?_); (first | ((with_reducible apply y_back); (next => rfl)))))) | ((with_reducible refine b1 ?_); (first | ((with_reducible refine b0 ?_); (first | ((with_reducible apply p_obj2); (next => rfl); (next => rfl)))) | ((with_reducible refine b1 ?_); (first | ((with_reducible apply p_fld1); (next => rfl); (next => rfl)))))))))) | ((with_reducible refine b1 ?_); (first | ((with_reducible refine b0 ?_); (first | ((with_reducible refine b0 ?_); (first | ((with_reducible refine b0 ?_); (first | ((with_reducible apply p_meth1); (next => rfl); (next => rfl)))) | ((with_reducible refine b1 ?_); (first | ((with_reducible apply p_self); (next => rfl); (next => rfl); (next => (intro j h; cases h)); (next => ((repeat refine lt_put ?_); simp))))))) | ((with_reducible refine b1 ?_); (first | ((with_reducible refine b0 ?_); (first | ((with_reducible apply p_listm1); (next => rfl)))) | ((with_reducible refine b1 ?_); (first | ((with_reducible apply e_kn1); (next => (rfl)); (next => (simp only [isT, Bool.or_false, Bool.false_or, Bool.or_true, Bool.true_or]; rfl))))))))) | ((with_reducible refine b1 ?_); (first | ((with_reducible refine b0 ?_); (first | ((with_reducible refine b0 ?_); (first | ((with_reducible apply e_kn2); (next => (rfl)); (next => (simp only [isT, Bool.or_false, Bool.false_or, Bool.or_true, Bool.true_or]; rfl))))) | ((with_reducible refine b1 ?_); (first | ((with_reducible apply s_still); (next => (rfl))))))) | ((with_reducible refine b1 ?_); (first | ((with_reducible refine b0 ?_); (first | ((with_reducible apply s_aug); (next => (rfl))))) | ((with_reducible refine b1 ?_); (first | ((with_reducible apply f_ixT); (next => (rfl))))))))))))))) | ((with_reducible refine b1 ?_); (((with_reducible refine b0 ?_); (first | ((with_reducible refine b0 ?_); (first | ((with_reducible refine b0 ?_); (first | ((with_reducible refine b0 ?_); (first | ((with_reducible refine b0 ?_); (first | ((with_reducible apply g_tup); (next => (rfl))))) | ((with_reducible refine b1 ?_); (first | ((with_reducible apply f_isB); (next => ((try simp only [isNone]); rfl))))))) | ((with_reducible refine b1 ?_); (first | ((with_reducible refine b0 ?_); (first | ((with_reducible apply f_nisB); (next => ((try simp only [isNone, Bool.not_true, Bool.not_false]); rfl))))) | ((with_reducible refine b1 ?_); (first | ((with_reducible apply c_x0); (next => rfl)))))))) | ((with_reducible refine b1 ?_); (first | ((with_reducible refine b0 ?_); (first | ((with_reducible refine b0 ?_); (first | ((with_reducible apply e_dat2); (next => (rfl)); (next => (rfl))))) | ((with_reducible refine b1 ?_); (first | ((with_reducible apply s_put2); (next => (rfl)); (next => (rfl))))))) | ((with_reducible refine b1 ?_); (first | ((with_reducible refine b0 ?_); (first | ((with_reducible apply e_tru); (next => (rfl)); (next => (rfl))))) | ((with_reducible refine b1 ?_); (first | ((with_reducible apply g_at); (next => (rfl)); (next => (rfl))))))))))) | ((with_reducible refine b1 ?_); (first | ((with_reducible refine b0 ?_); (first | ((with_reducible refine b0 ?_); (first | ((with_reducible refine b0 ?_); (first | ((with_reducible apply s_out); (next => (rfl)); (next => (exact no_rf rfl))))) | ((with_reducible refine b1 ?_); (first | ((with_reducible apply f_mod); (next => (first | decide | omega))))))) | ((with_reducible refine b1 ?_); (first | ((with_reducible refine b0 ?_); (first | ((with_reducible apply f_fdiv); (next => ((unfold CDiv; first | decide | omega)))))) | ((with_reducible refine b1 ?_); (first | ((with_reducible apply f_times); (next => ((unfold CMul; first | decide | omega)))))))))) | ((with_reducible refine b1 ?_); (((with_reducible refine b0 ?_); (((with_reducible refine b0 ?_); (first | ((with_reducible apply f_pow); (next => (first | decide | (unfold CPow; omega)))))))))))))))))))
local macro_rules | `(tactic| walk_at "r") => `(tactic| repeat walk_at "s")
local macro_rules | `(tactic| walk_at "a") => `(tactic| repeat' (first | walk_at "s" | with_reducible refine br_p (fun _ => ?_) (fun _ => ?_) | with_reducible refine br_b (fun _ => ?_) (fun _ => ?_)))
local macro_rules | `(tactic| walk_at "b") => `(tactic| with_reducible refine br_p (fun hc => ?_) (fun hc => ?_))
local macro_rules | `(tactic| walk_at "x") => `(tactic| all_goals (try (exfalso; first | contradiction | omega | (simp only [List.length_map, Int.natCast_inj, Bool.false_eq_true, Bool.true_eq_false, Option.isSome_none, Option.isSome_some, decide_eq_true_eq, decide_eq_false_iff_not] at *; first | contradiction | omega))))

def T_law_bag : DS := seq (sset 2 (tv 1)) (seq (sfor [2, 3] (ilist (tslice (tv 0) (tno) (tpart (tc (.int 63))))) (dName 3) (sset 2 (tb2 modF (tcb intF (tac (tb2 plusF (tb2 plusF (tb2 timesF (tv 2) (tc (.int 48271))) (tb2 modF (tcb intF (tac (tv 3) (ta0))) (tc (.int 2147483587)))) (tc (.int 311))) (ta0))) (tc (.int 2147483629))))) (sret [] (tlst (tac (tcb listF (tac (tslice (tv 0) (tno) (tpart (tc (.int 63)))) (ta0))) (tac (tc (.int 0)) (tac (tc (.int 0)) (tac (tv 2) (tac (tc (.int 0)) (ta0)))))))))
theorem cut63 (ns : List Int) : cutL (ns.map D.int) none (some 63) = (ns.take 63).map D.int := by
  unfold cutL
  rw [List.map_take, List.length_map]
  have h1 : HT.sIx ns.length 0 none = 0 := rfl
  rw [h1, List.drop_zero, Nat.sub_zero]
  have h2 : HT.sIx ns.length ns.length (some 63) = min 63 ns.length := by
    unfold HT.sIx
    simp
  rw [h2]
  by_cases h : 63 ≤ ns.length
  · rw [Nat.min_eq_left h]
  · rw [Nat.min_eq_right (by omega), List.take_of_length_le (by simp), List.take_of_length_le (by simp; omega)]
theorem pf_law_bag : ∀ δ Q3, sp_law_bag δ Q3 → δ.length = 2 → (∀ (i : Nat) c, δ[i]? = some (E.ow c) → i ∈ ([] : List Nat) ∧ i ∉ ([2, 3] : List Nat)) ∧ T_law_bag { nx := fun δ' => Q3 (.va .non) (outs δ δ'), rt := fun r δ' => Q3 r (outs δ δ') } (δ ++ List.replicate 2 E.no) := by
  rintro δ Q3 ⟨ns, s, rfl, s0, s1, k⟩ hl
  refine ⟨own_by rfl, ?_⟩
  simp only [List.replicate, List.cons_append, List.nil_append]
  unfold T_law_bag
  walk_at "a"
  refine for_by (fun _ δ => ∃ m e, δ = [.va (.frz (ns.map D.int)), .va (.int s), .va (.int m), e] ∧ 0 ≤ m ∧ m < 2147483629) ⟨_, _, rfl, s0, s1⟩ (fun p hp => nomatch hp) (fun _ _ _ p hp => nomatch hp) ?_ ?_
  · rintro j x δ e ⟨m, e', rfl, m0, m1⟩
    rw [cut63] at e
    obtain ⟨i, _, rfl⟩ := map_some e
    walk_at "a"
    exact ⟨_, _, rfl, Int.emod_nonneg _ (by decide), Int.emod_lt_of_pos _ (by decide)⟩
  · rintro δ ⟨m, e', rfl, m0, m1⟩
    walk_at "a"
    rw [cut63]
    exact k _ ⟨_, _, _, _, _, rfl, by rw [List.length_take]; omega, by omega, by omega, m0, m1⟩

-- slots [(0, 'script'), (1, 'salt'), (2, 'mix'), (3, 'item')]; stored [2, 3]

def T_law_draw : DS := seq (sasg (tb2 plusF (tb2 ixF (tv 0) (tc (.int 4))) (tc (.int 1))) (dSub (tv 0) (tc (.int 4)))) (seq (sif (tand (tt (tb2 (bF eqF) (tb2 ixF (tv 0) (tc (.int 2))) (tc (.int 0)))) (tt (tb2 (bF (iF (fun i j => decide (i < j)))) (tb2 ixF (tv 0) (tc (.int 1))) (tcb lenF (tac (tb2 ixF (tv 0) (tc (.int 0))) (ta0)))))) (seq (sset 2 (tb2 ixF (tb2 ixF (tv 0) (tc (.int 0))) (tb2 ixF (tv 0) (tc (.int 1))))) (seq (sasg (tb2 plusF (tb2 ixF (tv 0) (tc (.int 1))) (tc (.int 1))) (dSub (tv 0) (tc (.int 1)))) (sif (tt (tb2 (bF (iF (fun i j => decide (j ≤ i)))) (tv 2) (tb2 powF (tc (.int 10)) (tc (.int 18))))) (sasg (tv 2) (dSub (tv 0) (tc (.int 2)))) (sasg (tb2 modF (tcb intF (tac (tb2 plusF (tb2 plusF (tb2 timesF (tb2 ixF (tv 0) (tc (.int 3))) (tc (.int 69621))) (tb2 timesF (tb2 modF (tcb intF (tac (tv 2) (ta0))) (tc (.int 2147483549))) (tc (.int 30103)))) (tc (.int 97))) (ta0))) (tc (.int 2147483629))) (dSub (tv 0) (tc (.int 3))))))) (snext)) (seq (sif (tt (tb2 (bF (iF (fun i j => decide (j < i)))) (tb2 ixF (tv 0) (tc (.int 2))) (tc (.int 0)))) (seq (sset 3 (tb2 modF (tcb intF (tac (tb2 ixF (tv 0) (tc (.int 2))) (ta0))) (tv 1))) (seq (sasg (tb2 fdivF (tb2 ixF (tv 0) (tc (.int 2))) (tv 1)) (dSub (tv 0) (tc (.int 2)))) (sret [0] (tv 3)))) (snext)) (seq (sasg (tb2 modF (tcb intF (tac (tb2 plusF (tb2 plusF (tb2 powF (tb2 ixF (tv 0) (tc (.int 3))) (tc (.int 3))) (tb2 timesF (tb2 ixF (tv 0) (tc (.int 4))) (tc (.int 1299709)))) (tc (.int 60013))) (ta0))) (tc (.int 2147483629))) (dSub (tv 0) (tc (.int 3)))) (sret [0] (tb2 modF (tcb intF (tac (tb2 plusF (tb2 fdivF (tb2 ixF (tv 0) (tc (.int 3))) (tc (.int 97))) (tb2 timesF (tb2 modF (tcb intF (tac (tb2 ixF (tv 0) (tc (.int 3))) (ta0))) (tc (.int 7901))) (tc (.int 67)))) (ta0))) (tv 1))))))
theorem pf_law_draw : ∀ δ Q3, sp_law_draw δ Q3 → δ.length = 2 → (∀ (i : Nat) c, δ[i]? = some (E.ow c) → i ∈ ([0] : List Nat) ∧ i ∉ ([2, 3] : List Nat)) ∧ T_law_draw { nx := fun δ' => Q3 (.va .non) (outs δ δ'), rt := fun r δ' => Q3 r (outs δ δ') } (δ ++ List.replicate 2 E.no) := by
  rintro δ Q3 ⟨bg, n, rfl, ⟨ns, i, r, m, c, rfl, h1, h2, h3, h4, h5⟩, n0, n1, k⟩ hl
  refine ⟨own_by rfl, ?_⟩
  simp only [List.replicate, List.cons_append, List.nil_append]
  unfold T_law_draw
  unfold bagD
  walk_at "a"
  all_goals
    refine k _ _ ⟨_, _, _, _, _, rfl, ?_, ?_, ?_, ?_, ?_⟩ ?_ ?_
  all_goals first
    | assumption
    | omega
    | exact Int.ediv_nonneg (by omega) (by omega)
    | exact Int.emod_nonneg _ (by omega)
    | exact Int.emod_lt_of_pos _ (by omega)
    | (simp only [Int.reduceToNat, Int.reducePow] at *; omega)

-- slots [(0, 'bag'), (1, 'size'), (2, 'item'), (3, 'digit')]; stored [2, 3]

def T_law_of : DS := sret [0, 1] (tb2 ixF (tv 1) (tcall sp_law_draw [true, false] (tac (tv 0) (tac (tcb lenF (tac (tv 1) (ta0))) (ta0)))))
theorem pf_law_of : ∀ δ Q3, sp_law_of δ Q3 → δ.length = 2 → (∀ (i : Nat) c, δ[i]? = some (E.ow c) → i ∈ ([0, 1] : List Nat) ∧ i ∉ ([] : List Nat)) ∧ T_law_of { nx := fun δ' => Q3 (.va .non) (outs δ δ'), rt := fun r δ' => Q3 r (outs δ δ') } (δ ++ List.replicate 0 E.no) := by
  rintro δ Q3 ⟨bg, e, rfl, hb, ⟨xs, he, h0, h1, k⟩ | ⟨x, rfl, h0, h1, k⟩⟩ hl
  · rcases he with rfl | rfl | rfl
    all_goals
      refine ⟨own_by rfl, ?_⟩
      simp only [List.replicate, List.cons_append, List.nil_append]
      unfold T_law_of
      walk_at "a"
      refine ⟨bg, _, rfl, hb, by omega, by omega, fun bg' d hb' d0 d1 => ?_⟩
      have hd : d.toNat < xs.length := by omega
      walk_at "a"
      first
        | refine f_ixL (atI_get d0 (List.getElem?_eq_getElem hd)) ?_
        | refine f_ixT (atI_get d0 (List.getElem?_eq_getElem hd)) ?_
      walk_at "a"
      exact k _ _ hb' (List.getElem_mem hd)
  · refine ⟨own_by rfl, ?_⟩
    simp only [List.replicate, List.cons_append, List.nil_append]
    unfold T_law_of
    walk_at "a"
    refine f_lenS (by unfold sizeLine; omega) ?_
    walk_at "a"
    refine ⟨bg, _, rfl, hb, by omega, by omega, fun bg' d hb' d0 d1 => ?_⟩
    have hd : d.toNat < x.cps.toList.length := by
      have : x.cps.toList.length = x.length := by simp [Str.length]
      omega
    walk_at "a"
    refine ⟨by unfold sizeLine; omega, _, atI_get d0 (List.getElem?_eq_getElem hd), ?_⟩
    walk_at "a"
    exact k _ _ hb' (List.getElem_mem hd)

-- slots [(0, 'bag'), (1, 'things')]; stored []

def T_law_labels : DS := seq (ssetO 2 (tlst (ta0))) (seq (sfor [3, 4] (irng1 (tv 1)) (dName 3) (seq (sif (tt (tb2 (bF eqF) (tcall sp_law_draw [true, false] (tac (tv 0) (tac (tc (.int 3)) (ta0)))) (tc (.int 0)))) (sset 4 (tcall sp_law_of [true, true] (tac (tv 0) (tac (tlst (tac (tc (.str "p")) (tac (tc (.str "q")) (tac (tc (.str "a")) (tac (tc (.str "aa")) (tac (tc (.str "ab")) (tac (tc (.str "end")) (tac (tc (.str "tie")) (tac (tc (.str "z")) (tac (tc (.str "zzz")) (tac (tc (.str "b")) (tac (tc (.str "ba")) (ta0))))))))))))) (ta0))))) (sset 4 (tjoin (tc (.str "")) (tcomp (irng1 (tb2 plusF (tc (.int 1)) (tcall sp_law_draw [true, false] (tac (tv 0) (tac (tc (.int 3)) (ta0)))))) (dName 5) (tyes) (tcall sp_law_of [true, true] (tac (tv 0) (tac (tc (.str "abcdefghijklmnopqrstuvwxyz")) (ta0)))) [5])))) (seq (sif (tt (tb2 (bF inF) (tv 4) (tv 2))) (sset 4 (tb2 ixF (tcomp (istr (tc (.str "abcdefgh"))) (dName 5) (tt (tb2 (bF ninF) (tv 5) (tv 2))) (tv 5) [5]) (tc (.int 0)))) (snext)) (sexpr (tlm appF (tv 2) (tac (tv 4) (ta0))))))) (sret [0] (tcb tupleF (tac (tv 2) (ta0)))))
def eight : List Nat := (Str.ofString "abcdefgh").cps.toList
theorem eight_ok : ∀ c ∈ eight, goodB ⟨#[c]⟩ = true := by decide +kernel
theorem pf_law_labels : ∀ δ Q3, sp_law_labels δ Q3 → δ.length = 2 → (∀ (i : Nat) c, δ[i]? = some (E.ow c) → i ∈ ([0] : List Nat) ∧ i ∉ ([2, 3, 4] : List Nat)) ∧ T_law_labels { nx := fun δ' => Q3 (.va .non) (outs δ δ'), rt := fun r δ' => Q3 r (outs δ δ') } (δ ++ List.replicate 4 E.no) := by
  rintro δ Q3 ⟨bg, size, rfl, hb, s0, s1, k⟩ hl
  refine ⟨own_by rfl, ?_⟩
  simp only [List.replicate, List.cons_append, List.nil_append]
  unfold T_law_labels
  walk_at "a"
  refine ⟨by omega, ?_⟩
  refine for_by (fun j δ => ∃ (bg' : List D) (ls : List Str) (e3 e4 : E), δ = [.ow (.l bg'), .va (.int (size : Nat)), .ow (.l (ls.map D.str)), e3, e4, .no] ∧ IsBag bg' ∧ ls.length = j ∧ ls.Nodup ∧ ∀ x ∈ ls, GoodName x) ⟨bg, [], _, _, rfl, hb, rfl, by simp, by simp⟩ (fun p hp => nomatch hp) (fun _ _ _ p hp => nomatch hp) ?_ ?_
  · rintro j y δ e ⟨bg', ls, e3, e4, rfl, hb', l1, nd, ok⟩
    obtain ⟨hj, rfl⟩ := rangeD_get e
    walk_at "a"
    refine ⟨bg', _, rfl, hb', by omega, by omega, fun bg2 d hb2 d0 d1 => ?_⟩
    walk_at "a"
    · refine ⟨bg2, _, rfl, hb2, .inl ⟨_, .inr (.inr rfl), by simp, by simp, fun bg3 x hb3 hx => ?_⟩⟩
      obtain ⟨x, gx, rfl⟩ : ∃ x' : Str, GoodName x' ∧ x = .str x' := by
        simp only [List.mem_cons, List.not_mem_nil, or_false] at hx
        rcases hx with rfl | rfl | rfl | rfl | rfl | rfl | rfl | rfl | rfl | rfl | rfl <;> exact ⟨_, good_of (by decide +kernel), rfl⟩
      walk_at "a"
      refine f_inStr gx.sok (fun y hy => (ok y hy).sok) ?_
      walk_at "a"
      · refine comp_by (fun j acc δ => ∃ xs : List Str, acc = xs.map D.str ∧ δ = [.ow (.l bg3), .va (.int (size : Nat)), .ow (.l (ls.map D.str)), .va (.int (0 + ((ls.length : Nat) : Int))), .va (.str x), .no] ∧ xs.length ≤ j ∧ (∀ x ∈ xs, GoodName x ∧ x ∉ ls) ∧ ∀ i : Nat, i < j → ∀ c, eight[i]? = some c → (⟨#[c]⟩ : Str) ∈ ls ∨ (⟨#[c]⟩ : Str) ∈ xs) ?_ rfl (fun p hp => nomatch hp) (fun _ _ _ _ p hp => nomatch hp) ?_ ?_
        · exact ⟨[], rfl, by rw [l1], by simp, by simp, fun i hi => by omega⟩
        · rintro i y acc δ e ⟨xs, rfl, rfl, xl, g, cov⟩
          obtain ⟨c, hc, rfl⟩ := map_some e
          have hc8 : c ∈ eight := List.mem_of_getElem? hc
          have gc : GoodName ⟨#[c]⟩ := good_of (eight_ok c hc8)
          have il : i < 8 := (List.getElem?_eq_some_iff.mp hc).1
          walk_at "a"
          refine f_ninStr gc.sok (fun y hy => (ok y hy).sok) ?_
          walk_at "a"
          · rename_i hin
            refine ⟨xs, rfl, rfl, by omega, g, fun m hm c' hc' => ?_⟩
            by_cases q : m < i
            · exact cov m q c' hc'
            · have : m = i := by omega
              subst this
              rw [show eight[m]? = some c from hc] at hc'
              cases hc'
              exact .inl hin
          · rename_i hin
            refine ⟨by simp; unfold sizeLine; omega, xs ++ [⟨#[c]⟩], by rw [List.map_append]; rfl, rfl, by simp; omega, fun z hz => ?_, fun m hm c' hc' => ?_⟩
            · rcases List.mem_append.mp hz with hz | hz
              · exact g z hz
              · simp at hz
                subst hz
                exact ⟨gc, hin⟩
            · by_cases q : m < i
              · exact (cov m q c' hc').elim .inl fun h => .inr (List.mem_append_left _ h)
              · have : m = i := by omega
                subst this
                rw [show eight[m]? = some c from hc] at hc'
                cases hc'
                exact .inr (List.mem_append_right _ (by simp))
        · rintro acc δ ⟨xs, rfl, rfl, xl, g, cov⟩
          obtain ⟨x', xs, rfl⟩ : ∃ a as, xs = a :: as := by
            cases xs with
            | cons a as => exact ⟨a, as, rfl⟩
            | nil =>
              exfalso
              have := nodup_sub_len (l := eight.map fun c => (⟨#[c]⟩ : Str)) (m := ls) (by decide +kernel) fun z hz => by
                obtain ⟨c, hc, rfl⟩ := List.mem_map.mp hz
                obtain ⟨m, hm, em⟩ := List.mem_iff_getElem.mp hc
                have := cov m (by rw [List.length_map]; exact hm) c (by rw [List.getElem?_eq_getElem hm, em])
                rcases this with h | h
                · exact h
                · cases h
              have h8 : (eight.map fun c => (⟨#[c]⟩ : Str)).length = 8 := by decide +kernel
              omega
          obtain ⟨gx', hx'⟩ := g x' List.mem_cons_self
          walk_at "a"
          refine f_ixL (map_at (x := x') (by decide) rfl) ?_
          walk_at "a"
          refine f_app (by rw [List.length_map]; unfold sizeLine; omega) ?_
          walk_at "a"
          refine ⟨bg3, ls ++ [x'], _, _, by rw [List.map_append]; rfl, hb3, by simp; omega, ?_, fun y hy => ?_⟩
          · refine List.nodup_append.mpr ⟨nd, by simp, fun a ha b hb z => ?_⟩
            simp at hb
            subst hb
            subst z
            exact hx' ha
          · rcases List.mem_append.mp hy with hy | hy
            · exact ok y hy
            · simp at hy
              subst hy
              exact gx'
      · rename_i hx
        refine f_app (by simp; unfold sizeLine; omega) ?_
        walk_at "a"
        refine ⟨bg3, ls ++ [x], _, _, by rw [List.map_append]; rfl, hb3, by simp; omega, ?_, fun y hy => ?_⟩
        · refine List.nodup_append.mpr ⟨nd, by simp, fun a ha b hb z => ?_⟩
          simp at hb
          subst hb
          subst z
          exact hx ha
        · rcases List.mem_append.mp hy with hy | hy
          · exact ok y hy
          · simp at hy
            subst hy
            exact gx
    · refine ⟨bg2, 3, rfl, hb2, by omega, by omega, fun bg3 d2 hb3 d20 d21 => ?_⟩
      walk_at "a"
      refine ⟨by omega, ?_⟩
      refine comp_by (fun j' acc δ => ∃ (bg4 : List D) (cs : List Nat), acc = cs.map (fun c => D.str ⟨#[c]⟩) ∧ δ = [.ow (.l bg4), .va (.int (size : Nat)), .ow (.l (ls.map D.str)), .va (.int (0 + ((ls.length : Nat) : Int))), e4, .no] ∧ IsBag bg4 ∧ cs.length = j' ∧ ∀ c ∈ cs, c ∈ letters.cps.toList) ⟨bg3, [], rfl, by rw [l1], hb3, rfl, by simp⟩ rfl (fun p hp => nomatch hp) (fun _ _ _ _ p hp => nomatch hp) ?_ ?_
      · rintro i y acc δ e ⟨bg4, cs, rfl, rfl, hb4, cl, cm⟩
        obtain ⟨hi, rfl⟩ := rangeD_get e
        walk_at "a"
        refine ⟨bg4, _, rfl, hb4, .inr ⟨_, rfl, by decide +kernel, by decide +kernel, fun bg5 c hb5 hc => ?_⟩⟩
        walk_at "a"
        refine ⟨by rw [List.length_map]; unfold sizeLine; omega, bg5, cs ++ [c], by rw [List.map_append]; rfl, rfl, hb5, by simp; omega, fun z hz => ?_⟩
        rcases List.mem_append.mp hz with hz | hz
        · exact cm z hz
        · simp at hz
          subst hz
          exact hc
      · rintro acc δ ⟨bg4, cs, rfl, rfl, hb4, cl, cm⟩
        rw [rangeD_len] at cl
        have gx := good_join (cs := cs) (by omega) (by omega) cm
        walk_at "a"
        refine ⟨cs.map fun c => (⟨#[c]⟩ : Str), .inl (by rw [List.map_map]; rfl), ?_, ?_⟩
        · have e1 : ∀ cs : List Nat, (List.map (fun x : Str => x.length) (cs.map fun c => (⟨#[c]⟩ : Str))).sum = cs.length := by
            intro cs
            induction cs with
            | nil => rfl
            | cons a r ih => simp only [List.map_cons, List.sum_cons, ih, List.length_cons]; show 1 + _ = _; omega
          rw [e1, show (Str.ofString "").length = 0 from by decide +kernel]
          omega
        generalize Txt.join (Str.ofString "") (cs.map fun c => (⟨#[c]⟩ : Str)) = x at gx ⊢
        walk_at "a"
        refine f_inStr gx.sok (fun y hy => (ok y hy).sok) ?_
        walk_at "a"
        · refine comp_by (fun j acc δ => ∃ xs : List Str, acc = xs.map D.str ∧ δ = [.ow (.l bg4), .va (.int (size : Nat)), .ow (.l (ls.map D.str)), .va (.int (0 + ((ls.length : Nat) : Int))), .va (.str x), .no] ∧ xs.length ≤ j ∧ (∀ x ∈ xs, GoodName x ∧ x ∉ ls) ∧ ∀ i : Nat, i < j → ∀ c, eight[i]? = some c → (⟨#[c]⟩ : Str) ∈ ls ∨ (⟨#[c]⟩ : Str) ∈ xs) ?_ rfl (fun p hp => nomatch hp) (fun _ _ _ _ p hp => nomatch hp) ?_ ?_
          · exact ⟨[], rfl, by rw [l1], by simp, by simp, fun i hi => by omega⟩
          · rintro i y acc δ e ⟨xs, rfl, rfl, xl, g, cov⟩
            obtain ⟨c, hc, rfl⟩ := map_some e
            have hc8 : c ∈ eight := List.mem_of_getElem? hc
            have gc : GoodName ⟨#[c]⟩ := good_of (eight_ok c hc8)
            have il : i < 8 := (List.getElem?_eq_some_iff.mp hc).1
            walk_at "a"
            refine f_ninStr gc.sok (fun y hy => (ok y hy).sok) ?_
            walk_at "a"
            · rename_i hin
              refine ⟨xs, rfl, rfl, by omega, g, fun m hm c' hc' => ?_⟩
              by_cases q : m < i
              · exact cov m q c' hc'
              · have : m = i := by omega
                subst this
                rw [show eight[m]? = some c from hc] at hc'
                cases hc'
                exact .inl hin
            · rename_i hin
              refine ⟨by simp; unfold sizeLine; omega, xs ++ [⟨#[c]⟩], by rw [List.map_append]; rfl, rfl, by simp; omega, fun z hz => ?_, fun m hm c' hc' => ?_⟩
              · rcases List.mem_append.mp hz with hz | hz
                · exact g z hz
                · simp at hz
                  subst hz
                  exact ⟨gc, hin⟩
              · by_cases q : m < i
                · exact (cov m q c' hc').elim .inl fun h => .inr (List.mem_append_left _ h)
                · have : m = i := by omega
                  subst this
                  rw [show eight[m]? = some c from hc] at hc'
                  cases hc'
                  exact .inr (List.mem_append_right _ (by simp))
          · rintro acc δ ⟨xs, rfl, rfl, xl, g, cov⟩
            obtain ⟨x', xs, rfl⟩ : ∃ a as, xs = a :: as := by
              cases xs with
              | cons a as => exact ⟨a, as, rfl⟩
              | nil =>
                exfalso
                have := nodup_sub_len (l := eight.map fun c => (⟨#[c]⟩ : Str)) (m := ls) (by decide +kernel) fun z hz => by
                  obtain ⟨c, hc, rfl⟩ := List.mem_map.mp hz
                  obtain ⟨m, hm, em⟩ := List.mem_iff_getElem.mp hc
                  have := cov m (by rw [List.length_map]; exact hm) c (by rw [List.getElem?_eq_getElem hm, em])
                  rcases this with h | h
                  · exact h
                  · cases h
                have h8 : (eight.map fun c => (⟨#[c]⟩ : Str)).length = 8 := by decide +kernel
                omega
            obtain ⟨gx', hx'⟩ := g x' List.mem_cons_self
            walk_at "a"
            refine f_ixL (map_at (x := x') (by decide) rfl) ?_
            walk_at "a"
            refine f_app (by rw [List.length_map]; unfold sizeLine; omega) ?_
            walk_at "a"
            refine ⟨bg4, ls ++ [x'], _, _, by rw [List.map_append]; rfl, hb4, by simp; omega, ?_, fun y hy => ?_⟩
            · refine List.nodup_append.mpr ⟨nd, by simp, fun a ha b hb z => ?_⟩
              simp at hb
              subst hb
              subst z
              exact hx' ha
            · rcases List.mem_append.mp hy with hy | hy
              · exact ok y hy
              · simp at hy
                subst hy
                exact gx'
        · rename_i hx
          refine f_app (by simp; unfold sizeLine; omega) ?_
          walk_at "a"
          refine ⟨bg4, ls ++ [x], _, _, by rw [List.map_append]; rfl, hb4, by simp; omega, ?_, fun y hy => ?_⟩
          · refine List.nodup_append.mpr ⟨nd, by simp, fun a ha b hb z => ?_⟩
            simp at hb
            subst hb
            subst z
            exact hx ha
          · rcases List.mem_append.mp hy with hy | hy
            · exact ok y hy
            · simp at hy
              subst hy
              exact gx
  · rintro δ ⟨bg', ls, e3, e4, rfl, hb', l1, nd, ok⟩
    rw [rangeD_len, Int.toNat_natCast] at l1
    walk_at "a"
    exact k _ _ hb' ⟨by omega, by omega, nd, ok⟩ l1

-- slots [(0, 'bag'), (1, 'size'), (2, 'mine'), (3, 'k'), (4, 'label'), (5, 'x')]; stored [2, 3, 4]

def T_law_step_row : DS := seq (ssetO 3 (tcomp (irng1 (tv 1)) (dName 6) (tyes) (ttup (tac (tv 6) (tac (tc (.int 1)) (ta0)))) [6])) (seq (ssetO 4 (tcomp (irng1 (tv 1)) (dName 6) (tyes) (tv 6) [6])) (seq (sfor [5, 6, 7, 8, 9] (irng1 (tv 1)) (dName 5) (sif (tt (tb2 (bF neF) (tv 4) (tlst (ta0)))) (seq (sset 6 (tlm popF1 (tv 4) (tac (tc (.int 0)) (ta0)))) (seq (sset 7 (tcall sp_law_draw [true, false] (tac (tv 0) (tac (tc (.int 8)) (ta0))))) (sif (tand (tt (tb2 (bF (iF (fun i j => decide (j < i)))) (tv 7) (tc (.int 2)))) (tt (tb2 (bF neF) (tv 4) (tlst (ta0))))) (seq (sset 8 (tlm popF1 (tv 4) (tac (tcall sp_law_draw [true, false] (tac (tv 0) (tac (tcb lenF (tac (tv 4) (ta0))) (ta0)))) (ta0)))) (seq (sset 9 (tif (tand (tt (tb2 (bF eqF) (tv 2) (tc (.int 0)))) (tt (tb2 (bF eqF) (tcall sp_law_draw [true, false] (tac (tv 0) (tac (tc (.int 4)) (ta0)))) (tc (.int 0))))) (tb2 minusF (tc (.int 0)) (tc (.int 1))) (tc (.int 1)))) (sasg (ttup (tac (ttup (tac (tv 8) (tac (tv 9) (ta0)))) (tac (ttup (tac (tv 6) (tac (tv 9) (ta0)))) (ta0)))) (dTup 2 (dCons (dSub (tv 3) (tv 6)) (dCons (dSub (tv 3) (tv 8)) (dNil))))))) (sasg (ttup (tac (tv 6) (tac (tif (tand (tt (tb2 (bF (iF (fun i j => decide (i < j)))) (tv 2) (tc (.int 2)))) (tt (tb2 (bF eqF) (tb2 modF (tcb intF (tac (tv 7) (ta0))) (tc (.int 2))) (tc (.int 1))))) (tb2 minusF (tc (.int 0)) (tc (.int 1))) (tc (.int 1))) (ta0)))) (dSub (tv 3) (tv 6)))))) (snext))) (sret [0] (tv 3))))
def row_inv (size : Nat) (mood : Int) (δ : En) : Prop := ∃ (bg' : List D) (r : Row) (free : List Int) (e5 e6 e7 e8 e9 : E), δ = [.ow (.l bg'), .va (.int (size : Nat)), .va (.int mood), .ow (.l (r.map pairD)), .ow (.l (free.map D.int)), e5, e6, e7, e8, e9] ∧ IsBag bg' ∧ GoodRow size r ∧ free.Nodup ∧ free.length ≤ 1000 ∧ ∀ z ∈ free, ∃ n : Nat, z = (n : Nat) ∧ n < size ∧ r[n]? = some ((n : Int), 1)
theorem pf_law_step_row : ∀ δ Q3, sp_law_step_row δ Q3 → δ.length = 3 → (∀ (i : Nat) c, δ[i]? = some (E.ow c) → i ∈ ([0] : List Nat) ∧ i ∉ ([3, 4, 5, 6, 7, 8, 9] : List Nat)) ∧ T_law_step_row { nx := fun δ' => Q3 (.va .non) (outs δ δ'), rt := fun r δ' => Q3 r (outs δ δ') } (δ ++ List.replicate 7 E.no) := by
  rintro δ Q3 ⟨bg, size, mood, rfl, hb, s0, s1, k⟩ hl
  refine ⟨own_by rfl, ?_⟩
  simp only [List.replicate, List.cons_append, List.nil_append]
  unfold T_law_step_row
  walk_at "a"
  refine ⟨by omega, ?_⟩
  refine comp_map (fun x => pairD ((x : Nat), 1)) rfl (fun p hp => nomatch hp) (fun p hp => nomatch hp) (fun i z e => ?_) ?_
  · obtain ⟨hi, rfl⟩ := rangeD_get e
    walk_at "a"
    exact m_end2 (by unfold sizeLine; omega) rfl (by simp [pairD])
  · rw [rangeD_len, Int.toNat_natCast]
    walk_at "a"
    refine ⟨by omega, ?_⟩
    refine comp_map (fun x => D.int (x : Nat)) rfl (fun p hp => nomatch hp) (fun p hp => nomatch hp) (fun i z e => ?_) ?_
    · obtain ⟨hi, rfl⟩ := rangeD_get e
      walk_at "a"
      exact m_end2 (by unfold sizeLine; omega) rfl (by simp)
    · rw [rangeD_len, Int.toNat_natCast]
      walk_at "a"
      refine ⟨by omega, ?_⟩
      have e1 : (List.range size).map (fun x : Nat => pairD ((x : Int), 1)) = ((List.range size).map fun x : Nat => ((x : Int), (1 : Int))).map pairD := by rw [List.map_map]; rfl
      have e2 : (List.range size).map (fun x => D.int (x : Nat)) = ((List.range size).map fun x : Nat => (x : Int)).map D.int := by rw [List.map_map]; rfl
      rw [e1, e2]
      refine for_by (fun _ δ => row_inv size mood δ)
        ⟨bg, _, _, _, _, _, _, _, rfl, hb, good_id, ?_, by simp; omega, ?_⟩ (fun p hp => nomatch hp) (fun _ _ _ p hp => nomatch hp) ?_ ?_
      · exact ints_nodup
      · intro z hz
        obtain ⟨n, hn, rfl⟩ := List.mem_map.mp hz
        have hn' := List.mem_range.mp hn
        exact ⟨n, rfl, hn', by rw [List.getElem?_map, List.getElem?_range hn']; rfl⟩
      · rintro j y δ e ⟨bg', r, free, e5, e6, e7, e8, e9, rfl, hb', g, nd, hf, fr⟩
        obtain ⟨hj, rfl⟩ := rangeD_get e
        have gl := g.len
        walk_at "a"
        refine f_neP (b := decide (free = [])) (pu_ints free) (pu_nil (n := 0)) (by omega) (by omega) nil_iff ?_
        walk_at "a"
        · exact ⟨bg', r, free, _, _, _, _, _, rfl, hb', g, nd, hf, fr⟩
        · rename_i hne
          obtain ⟨x, free', rfl⟩ : ∃ x fr, free = x :: fr := by
            cases free with
            | nil => exact absurd rfl hne
            | cons a as => exact ⟨a, as, rfl⟩
          obtain ⟨x, rfl, hx, ex⟩ := fr x List.mem_cons_self
          obtain ⟨nd1, nd2⟩ := List.nodup_cons.mp nd
          have hf' : free'.length ≤ 1000 := by simp at hf; omega
          have fin : ∀ (bg3 : List D) (s : Int) (e5 e6 e7 e8 e9 : E), IsBag bg3 → (s = 1 ∨ s = -1) → row_inv size mood [.ow (.l bg3), .va (.int (size : Nat)), .va (.int mood), .ow (.l ((r.map pairD).set x (.tup [.int (x : Nat), .int s]))), .ow (.l (free'.map D.int)), e5, e6, e7, e8, e9] := fun bg3 s e5 e6 e7 e8 e9 hb3 hs => by
            refine ⟨bg3, r.set x ((x : Int), s), free', e5, e6, e7, e8, e9, by rw [rowset], hb3, good_rim g hx ex hs, nd2, hf', fun z hz => ?_⟩
            obtain ⟨n, rfl, hn, en⟩ := fr z (List.mem_cons_of_mem _ hz)
            refine ⟨n, rfl, hn, ?_⟩
            rw [set_at (by omega), if_neg (by rintro rfl; exact nd1 hz)]
            exact en
          have fin2 : ∀ (bg3 : List D) (s : Int) (k y : Nat) (e5 e6 e7 e8 e9 : E), IsBag bg3 → (s = 1 ∨ s = -1) → free'[k]? = some (y : Int) → row_inv size mood [.ow (.l bg3), .va (.int (size : Nat)), .va (.int mood), .ow (.l (((r.map pairD).set x (.tup [.int (y : Nat), .int s])).set y (.tup [.int (x : Nat), .int s]))), .ow (.l ((free'.eraseIdx k).map D.int)), e5, e6, e7, e8, e9] := fun bg3 s k y e5 e6 e7 e8 e9 hb3 hs ek => by
            have hy := List.mem_of_getElem? ek
            obtain ⟨n, en, hn, ey⟩ := fr (y : Int) (List.mem_cons_of_mem _ hy)
            obtain rfl : y = n := by omega
            have ne : x ≠ y := by rintro rfl; exact nd1 hy
            obtain ⟨m1, m2⟩ := nodup_eraseIdx (i := k) nd2
            refine ⟨bg3, (r.set x ((y : Int), s)).set y ((x : Int), s), free'.eraseIdx k, e5, e6, e7, e8, e9, by rw [rowset, rowset], hb3, good_seam g hx hn ne ex ey hs, m1, Nat.le_trans (List.length_eraseIdx_le ..) hf', fun z hz => ?_⟩
            obtain ⟨n, rfl, hn, en⟩ := fr z (List.mem_cons_of_mem _ (mem_eraseIdx hz))
            refine ⟨n, rfl, hn, ?_⟩
            rw [set_at (by rw [List.length_set]; omega), if_neg (by rintro rfl; exact m2 _ ek hz), set_at (by omega), if_neg (by rintro rfl; exact nd1 (mem_eraseIdx hz))]
            exact en
          refine f_popI (by omega) (by simp) (by omega) ?_
          simp only [Int.toNat_zero, List.getD_cons_zero, List.eraseIdx_cons_zero]
          walk_at "a"
          refine ⟨bg', _, rfl, hb', by omega, by omega, fun bg2 pick hb2 p0 p1 => ?_⟩
          walk_at "a"
          · refine f_neP (b := decide (free' = [])) (pu_ints free') (pu_nil (n := 0)) (by omega) (by omega) nil_iff ?_
            walk_at "a"
            any_goals
              refine g_at (i := 3) rfl (ix_nat (by rw [List.length_map]; omega)) ?_
              walk_at "a"
              exact fin _ _ _ _ _ _ _ hb2 (by decide)
            rename_i hne2
            refine ⟨bg2, _, rfl, hb2, ?_, by simp; omega, fun bg3 d hb3 d0 d1 => ?_⟩
            · have : free'.length ≠ 0 := fun z => hne2 (List.eq_nil_of_length_eq_zero z)
              simp; omega
            rw [List.length_map] at d1
            walk_at "a"
            refine f_popI d0 d1 (by omega) ?_
            have hd : d.toNat < free'.length := by omega
            have ed : free'[d.toNat]? = some free'[d.toNat] := List.getElem?_eq_getElem hd
            obtain ⟨y, ey, hy, _⟩ := fr free'[d.toNat] (List.mem_cons_of_mem _ (List.getElem_mem hd))
            have eg : free'.getD d.toNat 0 = (y : Int) := by rw [List.getD_eq_getElem?_getD, ed]; exact ey
            rw [ey] at ed
            rw [eg]
            walk_at "a"
            · refine ⟨bg3, _, rfl, hb3, by omega, by omega, fun bg4 d4 hb4 d40 d41 => ?_⟩
              walk_at "a"
              all_goals
                refine g_at (i := 3) rfl (ix_nat (by rw [List.length_map]; omega)) ?_
                walk_at "a"
                refine g_at (i := 3) rfl (ix_nat (by rw [List.length_set, List.length_map]; omega)) ?_
                walk_at "a"
                exact fin2 _ _ _ _ _ _ _ _ _ hb4 (by decide) ed
            · refine g_at (i := 3) rfl (ix_nat (by rw [List.length_map]; omega)) ?_
              walk_at "a"
              refine g_at (i := 3) rfl (ix_nat (by rw [List.length_set, List.length_map]; omega)) ?_
              walk_at "a"
              exact fin2 _ _ _ _ _ _ _ _ _ hb3 (by decide) ed
          all_goals
            refine g_at (i := 3) rfl (ix_nat (by rw [List.length_map]; omega)) ?_
            walk_at "a"
            exact fin _ _ _ _ _ _ _ hb2 (by decide)
      · rintro δ ⟨bg', r, free, e5, e6, e7, e8, e9, rfl, hb', g, nd, hf, fr⟩
        walk_at "a"
        exact k _ _ hb' g

-- slots [(0, 'bag'), (1, 'size'), (2, 'mood'), (3, 'mine'), (4, 'free'), (5, 'lap'), (6, 'x'), (7, 'pick'), (8, 'y'), (9, 'sign')]; stored [3, 4, 5, 6, 7, 8, 9]

def T_law_net : DS := seq (sset 3 (tcall sp_law_of [true, true] (tac (tv 0) (tac (tlst (tac (tc (.int 0)) (tac (tc (.int 0)) (tac (tc (.int 1)) (tac (tc (.int 2)) (tac (tc (.int 0)) (ta0))))))) (ta0))))) (sret [0] (tcomp (irng1 (tv 1)) (dName 4) (tyes) (tcall sp_law_step_row [true, false, false] (tac (tv 0) (tac (tv 2) (tac (tv 3) (ta0))))) [4]))
theorem pf_law_net : ∀ δ Q3, sp_law_net δ Q3 → δ.length = 3 → (∀ (i : Nat) c, δ[i]? = some (E.ow c) → i ∈ ([0] : List Nat) ∧ i ∉ ([3] : List Nat)) ∧ T_law_net { nx := fun δ' => Q3 (.va .non) (outs δ δ'), rt := fun r δ' => Q3 r (outs δ δ') } (δ ++ List.replicate 2 E.no) := by
  rintro δ Q3 ⟨bg, many, size, rfl, hb, m0, m1, s0, s1, k⟩ hl
  refine ⟨own_by rfl, ?_⟩
  simp only [List.replicate, List.cons_append, List.nil_append]
  unfold T_law_net
  walk_at "a"
  refine ⟨bg, _, rfl, hb, .inl ⟨_, .inr (.inr rfl), by decide, by decide, fun bg2 x hb2 hx => ?_⟩⟩
  obtain ⟨mood, rfl⟩ : ∃ m : Int, x = .int m := by
    simp only [List.mem_cons, List.not_mem_nil, or_false] at hx
    rcases hx with rfl | rfl | rfl | rfl | rfl <;> exact ⟨_, rfl⟩
  walk_at "a"
  refine ⟨by omega, ?_⟩
  refine comp_by (fun j acc δ => ∃ (bg' : List D) (net : Net), IsBag bg' ∧ δ = [.ow (.l bg'), .va (.int (many : Nat)), .va (.int (size : Nat)), .va (.int mood), .no] ∧ acc = net.map rowD ∧ net.length = j ∧ ∀ r ∈ net, GoodRow size r)
    ⟨bg2, [], hb2, rfl, rfl, rfl, fun r hr => by cases hr⟩ rfl (fun p hp => nomatch hp) (fun _ _ _ _ p hp => nomatch hp) ?_ ?_
  · rintro j y acc δ e ⟨bg', net, hb', rfl, rfl, l1, g⟩
    obtain ⟨hj, rfl⟩ := rangeD_get e
    walk_at "a"
    refine ⟨bg', size, mood, rfl, hb', s0, s1, fun bg3 r hb3 gr => ?_⟩
    walk_at "a"
    refine ⟨by simp; unfold sizeLine; omega, bg3, net ++ [r], hb3, rfl, by rw [List.map_append]; rfl, by simp; omega, fun r' hr' => ?_⟩
    rcases List.mem_append.mp hr' with h | h
    · exact g r' h
    · simp at h
      subst h
      exact gr
  · rintro acc δ ⟨bg', net, hb', rfl, rfl, l1, g⟩
    rw [rangeD_len, Int.toNat_natCast] at l1
    walk_at "a"
    exact k _ _ hb' ⟨l1, m0, by omega, s0, s1, g⟩

-- slots [(0, 'bag'), (1, 'many_sides'), (2, 'size'), (3, 'mood'), (4, 'k')]; stored [3]

def T_law_order : DS := seq (ssetO 2 (tcomp (irng1 (tv 1)) (dName 3) (tyes) (tv 3) [3])) (sret [0] (tcomp (irng1 (tv 1)) (dName 4) (tyes) (tlm popF1 (tv 2) (tac (tcall sp_law_draw [true, false] (tac (tv 0) (tac (tcb lenF (tac (tv 2) (ta0))) (ta0)))) (ta0))) [4]))
theorem pf_law_order : ∀ δ Q3, sp_law_order δ Q3 → δ.length = 2 → (∀ (i : Nat) c, δ[i]? = some (E.ow c) → i ∈ ([0] : List Nat) ∧ i ∉ ([2] : List Nat)) ∧ T_law_order { nx := fun δ' => Q3 (.va .non) (outs δ δ'), rt := fun r δ' => Q3 r (outs δ δ') } (δ ++ List.replicate 3 E.no) := by
  rintro δ Q3 ⟨bg, size, rfl, hb, s0, s1, k⟩ hl
  refine ⟨own_by rfl, ?_⟩
  simp only [List.replicate, List.cons_append, List.nil_append]
  unfold T_law_order
  walk_at "a"
  refine ⟨by omega, ?_⟩
  refine comp_map (fun x => D.int (x : Nat)) rfl (fun p hp => nomatch hp) (fun p hp => nomatch hp) (fun i z e => ?_) ?_
  · obtain ⟨hi, rfl⟩ := rangeD_get e
    walk_at "a"
    exact m_end2 (by unfold sizeLine; omega) rfl (by simp)
  · rw [rangeD_len, Int.toNat_natCast]
    walk_at "a"
    refine ⟨by omega, ?_⟩
    have e2 : (List.range size).map (fun x => D.int (x : Nat)) = ((List.range size).map fun x : Nat => (x : Int)).map D.int := by rw [List.map_map]; rfl
    rw [e2]
    refine comp_by (fun j acc δ => ∃ (bg' : List D) (rest ns : List Int), IsBag bg' ∧ δ = [.ow (.l bg'), .va (.int (size : Nat)), .ow (.l (rest.map D.int)), .no, .no] ∧ acc = ns.map D.int ∧ ns.length = j ∧ rest.length + j = size ∧ ns.Nodup ∧ rest.Nodup ∧ (∀ x ∈ ns, x ∉ rest) ∧ ∀ x, x ∈ ns ∨ x ∈ rest → 0 ≤ x ∧ x < (size : Int))
      ⟨bg, _, [], hb, rfl, rfl, rfl, by simp, by simp, ?_, by simp, ?_⟩ rfl (fun p hp => nomatch hp) (fun _ _ _ _ p hp => nomatch hp) ?_ ?_
    · exact ints_nodup
    · intro x hx
      rcases hx with hx | hx
      · cases hx
      · obtain ⟨n, hn, rfl⟩ := List.mem_map.mp hx
        have := List.mem_range.mp hn
        omega
    · rintro j y acc δ e ⟨bg', rest, ns, hb', rfl, rfl, l1, l2, n1, n2, dj, bd⟩
      obtain ⟨hj, rfl⟩ := rangeD_get e
      walk_at "a"
      refine ⟨bg', _, rfl, hb', by simp; omega, by simp; omega, fun bg2 d hb2 d0 d1 => ?_⟩
      rw [List.length_map] at d1
      walk_at "a"
      refine f_popI d0 d1 (by omega) ?_
      walk_at "a"
      have hd : d.toNat < rest.length := by omega
      have ed : rest[d.toNat]? = some rest[d.toNat] := List.getElem?_eq_getElem hd
      have eg : rest.getD d.toNat 0 = rest[d.toNat] := by rw [List.getD_eq_getElem?_getD, ed]; rfl
      obtain ⟨m1, m2⟩ := nodup_eraseIdx (i := d.toNat) n2
      have hm := List.getElem_mem hd
      refine ⟨by simp; unfold sizeLine; omega, bg2, rest.eraseIdx d.toNat, ns ++ [rest[d.toNat]], hb2, rfl, by rw [List.map_append, eg]; rfl, by simp; omega, ?_, ?_, m1, ?_, ?_⟩
      · rw [List.length_eraseIdx_of_lt hd]; omega
      · refine List.nodup_append.mpr ⟨n1, by simp, fun a ha b hb3 => ?_⟩
        simp at hb3
        subst hb3
        rintro rfl
        exact dj _ ha hm
      · intro x hx
        rcases List.mem_append.mp hx with hx | hx
        · exact fun z => dj x hx (mem_eraseIdx z)
        · simp at hx
          subst hx
          exact m2 _ ed
      · intro x hx
        rcases hx with hx | hx
        · rcases List.mem_append.mp hx with hx | hx
          · exact bd x (.inl hx)
          · simp at hx
            subst hx
            exact bd _ (.inr hm)
        · exact bd x (.inr (mem_eraseIdx hx))
    · rintro acc δ ⟨bg', rest, ns, hb', rfl, rfl, l1, l2, n1, n2, dj, bd⟩
      rw [rangeD_len, Int.toNat_natCast] at l1
      walk_at "a"
      exact k _ _ hb' ⟨l1, n1, fun x hx => bd x (.inl hx)⟩

-- slots [(0, 'bag'), (1, 'size'), (2, 'rest'), (3, 'x'), (4, 'k')]; stored [2]

def T_law_turned_net : DS := sret [] (tcomp (ilist (tv 0)) (dName 2) (tyes) (tcomp (irng1 (tcb lenF (tac (tv 1) (ta0)))) (dName 3) (tyes) (ttup (tac (tb2 ixF (tb2 ixF (tv 2) (tv 3)) (tc (.int 0))) (tac (tb2 timesF (tb2 timesF (tb2 ixF (tb2 ixF (tv 2) (tv 3)) (tc (.int 1))) (tb2 ixF (tv 1) (tv 3))) (tb2 ixF (tv 1) (tb2 ixF (tb2 ixF (tv 2) (tv 3)) (tc (.int 0))))) (ta0)))) [3]) [2])
theorem pf_law_turned_net : ∀ δ Q3, sp_law_turned_net δ Q3 → δ.length = 2 → (∀ (i : Nat) c, δ[i]? = some (E.ow c) → i ∈ ([] : List Nat) ∧ i ∉ ([] : List Nat)) ∧ T_law_turned_net { nx := fun δ' => Q3 (.va .non) (outs δ δ'), rt := fun r δ' => Q3 r (outs δ δ') } (δ ++ List.replicate 2 E.no) := by
  rintro δ Q3 ⟨many, size, net, ts, rfl, h, tl, ht, k⟩ hl
  have m1 := h.m1
  have s1 := h.s1
  have hlen := h.len
  have tg : ∀ x : Nat, x < size → ∃ t, ts[x]? = some t ∧ (t = 1 ∨ t = -1) ∧ ts.getD x 0 = t := fun x hx => by
    have hx' : x < ts.length := by omega
    exact ⟨ts[x], List.getElem?_eq_getElem hx', ht _ (List.getElem_mem hx'), by rw [List.getD_eq_getElem?_getD, List.getElem?_eq_getElem hx']; rfl⟩
  refine ⟨own_by rfl, ?_⟩
  simp only [List.replicate, List.cons_append, List.nil_append]
  unfold T_law_turned_net
  rw [netD_eq]
  walk_at "a"
  refine comp_map (fun j => rowD (turnedR (fun x => ts.getD x 0) (net.getD j []))) rfl (fun p hp => nomatch hp) (fun p hp => nomatch hp) (fun j y e => ?_) ?_
  · obtain ⟨r, hr, rfl⟩ := map_some e
    have g := h.row r (List.mem_of_getElem? hr)
    have gl := g.len
    have hj := (List.getElem?_eq_some_iff.mp hr).1
    rw [rowD_eq r]
    walk_at "a"
    refine ⟨by simp; omega, ?_⟩
    refine comp_map (fun x => pairD ((r.getD x (0, 1)).1, (r.getD x (0, 1)).2 * ts.getD x 0 * ts.getD (r.getD x (0, 1)).1.toNat 0)) rfl (fun p hp => nomatch hp) (fun p hp => nomatch hp) (fun i z e => ?_) ?_
    · obtain ⟨hi, rfl⟩ := rangeD_get e
      rw [List.length_map] at hi
      obtain ⟨y, s, e1, hy, hs, e2⟩ := g.ok i (by omega)
      obtain ⟨t1, q1, c1, d1⟩ := tg i (by omega)
      obtain ⟨t2, q2, c2, d2⟩ := tg y (by omega)
      rw [Int.zero_add]
      have at2 : L2.atI (r.map pairD) (i : Int) = some (pairD ((y : Int), s)) := map_at (by omega) e1
      have at3 : L2.atI (ts.map D.int) (i : Int) = some (.int t1) := map_at (by omega) q1
      have at4 : L2.atI (ts.map D.int) (y : Int) = some (.int t2) := map_at (by omega) q2
      walk_at "a"
      refine f_ixL at2 ?_
      rw [show pairD ((y : Int), s) = .tup [.int (y : Int), .int s] from rfl]
      walk_at "a"
      refine f_ixL at2 ?_
      rw [show pairD ((y : Int), s) = .tup [.int (y : Int), .int s] from rfl]
      walk_at "a"
      refine f_ixL at2 ?_
      rw [show pairD ((y : Int), s) = .tup [.int (y : Int), .int s] from rfl]
      walk_at "a"
      simp only [Int.toNat_natCast, d1, d2]
      refine f_times (by unfold CMul; rcases c2 with rfl | rfl <;> simp) ?_
      walk_at "a"
      refine m_end2 (by unfold sizeLine; omega) rfl ?_
      rw [List.getD_eq_getElem?_getD, e1, Option.getD_some, Int.toNat_natCast, d1, d2]
      rfl
    · rw [rangeD_len, List.length_map, Int.toNat_natCast]
      walk_at "a"
      refine m_end2 (by unfold sizeLine; omega) rfl ?_
      rw [List.getD_eq_getElem?_getD, hr, Option.getD_some]
      unfold rowD turnedR
      rw [List.map_map, tl, ← gl]
      rfl
  · rw [List.length_map, map_range_getD (f := fun r => rowD (turnedR (fun x => ts.getD x 0) r))]
    walk_at "a"
    have e : (turnedN (fun x => ts.getD x 0) net).map rowD = net.map fun r => rowD (turnedR (fun x => ts.getD x 0) r) := by
      unfold turnedN
      rw [List.map_map]
      rfl
    rw [← e]
    exact k

-- slots [(0, 'net'), (1, 'turns'), (2, 'moves'), (3, 'x')]; stored []

def T_law_named_net : DS := seq (ssetO 2 (tlst (ta0))) (seq (sfor [3, 4, 5] (ilist (tv 0)) (dName 3) (seq (ssetO 4 (tcomp (ilist (tv 1)) (dName 5) (tyes) (ttup (tac (tv 5) (tac (tc (.int 1)) (ta0)))) [5])) (seq (sfor [5] (irng1 (tcb lenF (tac (tv 1) (ta0)))) (dName 5) (sasg (ttup (tac (tb2 ixF (tv 1) (tb2 ixF (tb2 ixF (tv 3) (tv 5)) (tc (.int 0)))) (tac (tb2 ixF (tb2 ixF (tv 3) (tv 5)) (tc (.int 1))) (ta0)))) (dSub (tv 4) (tb2 ixF (tv 1) (tv 5))))) (sexpr (tlm appF (tv 2) (tac (tvz 4) (ta0))))))) (sret [1] (tv 2)))
theorem pf_law_named_net : ∀ δ Q3, sp_law_named_net δ Q3 → δ.length = 2 → (∀ (i : Nat) c, δ[i]? = some (E.ow c) → i ∈ ([1] : List Nat) ∧ i ∉ ([2, 3, 4, 5] : List Nat)) ∧ T_law_named_net { nx := fun δ' => Q3 (.va .non) (outs δ δ'), rt := fun r δ' => Q3 r (outs δ δ') } (δ ++ List.replicate 4 E.no) := by
  rintro δ Q3 ⟨many, size, net, e0, ns, rfl, he, h, hn, k⟩ hl
  have m1 := h.m1
  have s1 := h.s1
  have hlen := h.len
  have nl := hn.len
  rcases he with rfl | rfl
  · refine ⟨own_by rfl, ?_⟩
    simp only [List.replicate, List.cons_append, List.nil_append]
    unfold T_law_named_net
    rw [netD_eq]
    walk_at "a"
    refine for_by (fun j δ => ∃ e3 e4 e5, NoO e5 ∧ δ = [.va (.lst (net.map rowD)), .va (.lst (ns.map D.int)), .ow (.l (((namedN ns net).take j).map rowD)), e3, e4, e5]) ⟨_, _, _, noO_no, rfl⟩ (by simp) (by rintro k δ ⟨e3, e4, e5, ne, rfl⟩ p hp; simp at hp) ?_ ?_
    · rintro j y δ e ⟨e3, e4, e5, ne, rfl⟩
      obtain ⟨r, hr, rfl⟩ := map_some e
      have hj := (List.getElem?_eq_some_iff.mp hr).1
      have g := h.row r (List.mem_of_getElem? hr)
      have gl := g.len
      walk_at "a"
      have init : (List.range (ns.map D.int).length).map (fun x => pairD (ns.getD x 0, 1)) = ((ns.map fun x => (x, (1 : Int)))).map pairD := by
        rw [List.length_map, map_range_getD (f := fun x => pairD (x, 1)), List.map_map]
        rfl
      refine comp_map (fun x => pairD (ns.getD x 0, 1)) (by cases e5 <;> first | rfl | exact absurd rfl (ne _)) (by simp) (by simp) (fun i z e => ?_) ?_
      · obtain ⟨c, hc, rfl⟩ := map_some e
        have hi := (List.getElem?_eq_some_iff.mp hc).1
        walk_at "a"
        refine m_end2 (by unfold sizeLine; omega) rfl ?_
        rw [List.getD_eq_getElem?_getD, hc]
        rfl
      · rw [init]
        walk_at "a"
        refine ⟨by simp; omega, ?_⟩
        refine for_by (fun i δ => ∃ (acc : Row) (e5 : E), NamedTo size ns r i acc ∧ NoO e5 ∧ δ = [.va (.lst (net.map rowD)), .va (.lst (ns.map D.int)), .ow (.l (((namedN ns net).take j).map rowD)), .va (rowD r), .ow (.l (acc.map pairD)), e5]) ⟨ns.map fun x => (x, (1 : Int)), _, ⟨by simp [nl], fun x i p hx => by omega⟩, ne, rfl⟩ (fun p hp => nomatch hp) (fun _ _ _ p hp => nomatch hp) ?_ ?_
        · rintro i y δ e ⟨acc, e5, na, ne, rfl⟩
          obtain ⟨hi, rfl⟩ := rangeD_get e
          rw [List.length_map, Int.toNat_natCast] at hi
          obtain ⟨y, s, e1, hy, hsg, e2⟩ := g.ok i (by omega)
          obtain ⟨v, ev, hv, dv⟩ := hn.get (x := i) (by omega)
          obtain ⟨w, ew, hw, dw⟩ := hn.get hy
          have al := na.1
          have at2 : L2.atI (r.map pairD) (i : Int) = some (pairD ((y : Int), s)) := map_at (by omega) (by rw [Int.toNat_natCast]; exact e1)
          rw [Int.zero_add, rowD_eq r]
          walk_at "a"
          refine f_ixL at2 ?_
          rw [show pairD ((y : Int), s) = .tup [.int (y : Int), .int s] from rfl]
          walk_at "a"
          try refine f_ixL (map_at (f := D.int) (by omega) (by rw [Int.toNat_natCast]; exact ew)) ?_
          walk_at "a"
          refine f_ixL at2 ?_
          rw [show pairD ((y : Int), s) = .tup [.int (y : Int), .int s] from rfl]
          walk_at "a"
          try refine f_ixL (map_at (f := D.int) (by omega) (by rw [Int.toNat_natCast]; exact ev)) ?_
          walk_at "a"
          simp only [Int.toNat_natCast, dv, dw]
          refine g_at (i := 4) rfl (ix_nat (by rw [List.length_map]; omega)) ?_
          walk_at "a"
          have st := na.step hn ev e1
          have e5 : namedP ns ((y : Int), s) = ((w : Int), s) := by unfold namedP; rw [Int.toNat_natCast, dw]
          rw [e5] at st
          exact ⟨acc.set v ((w : Int), s), .va (.int (i : Nat)), st, noO_va, by rw [rowset]⟩
        · rintro δ ⟨acc, e5, na, ne, rfl⟩
          rw [rangeD_len, List.length_map, Int.toNat_natCast, nl] at na
          obtain rfl := na.done hn gl
          walk_at "a"
          refine f_app (by simp; unfold sizeLine; omega) ?_
          walk_at "a"
          have er : (namedN ns net)[j]? = some (namedR ns r) := by unfold namedN; rw [List.getElem?_map, hr]; rfl
          rw [List.take_add_one, er, Option.toList_some, List.map_append]
          exact ⟨_, _, _, ne, rfl⟩
    · rintro δ ⟨e3, e4, e5, ne, rfl⟩
      have gn := good_namedN hn h
      rw [List.length_map, List.take_of_length_le (by rw [gn.len]; omega)]
      walk_at "a"
      exact k
  · refine ⟨own_by rfl, ?_⟩
    simp only [List.replicate, List.cons_append, List.nil_append]
    unfold T_law_named_net
    rw [netD_eq]
    walk_at "a"
    refine for_by (fun j δ => ∃ e3 e4 e5, NoO e5 ∧ δ = [.va (.lst (net.map rowD)), .ow (.l (ns.map D.int)), .ow (.l (((namedN ns net).take j).map rowD)), e3, e4, e5]) ⟨_, _, _, noO_no, rfl⟩ (by simp) (by rintro k δ ⟨e3, e4, e5, ne, rfl⟩ p hp; simp at hp) ?_ ?_
    · rintro j y δ e ⟨e3, e4, e5, ne, rfl⟩
      obtain ⟨r, hr, rfl⟩ := map_some e
      have hj := (List.getElem?_eq_some_iff.mp hr).1
      have g := h.row r (List.mem_of_getElem? hr)
      have gl := g.len
      walk_at "a"
      have init : (List.range (ns.map D.int).length).map (fun x => pairD (ns.getD x 0, 1)) = ((ns.map fun x => (x, (1 : Int)))).map pairD := by
        rw [List.length_map, map_range_getD (f := fun x => pairD (x, 1)), List.map_map]
        rfl
      refine comp_map (fun x => pairD (ns.getD x 0, 1)) (by cases e5 <;> first | rfl | exact absurd rfl (ne _)) (by simp) (by simp) (fun i z e => ?_) ?_
      · obtain ⟨c, hc, rfl⟩ := map_some e
        have hi := (List.getElem?_eq_some_iff.mp hc).1
        walk_at "a"
        refine m_end2 (by unfold sizeLine; omega) rfl ?_
        rw [List.getD_eq_getElem?_getD, hc]
        rfl
      · rw [init]
        walk_at "a"
        refine ⟨by simp; omega, ?_⟩
        refine for_by (fun i δ => ∃ (acc : Row) (e5 : E), NamedTo size ns r i acc ∧ NoO e5 ∧ δ = [.va (.lst (net.map rowD)), .ow (.l (ns.map D.int)), .ow (.l (((namedN ns net).take j).map rowD)), .va (rowD r), .ow (.l (acc.map pairD)), e5]) ⟨ns.map fun x => (x, (1 : Int)), _, ⟨by simp [nl], fun x i p hx => by omega⟩, ne, rfl⟩ (fun p hp => nomatch hp) (fun _ _ _ p hp => nomatch hp) ?_ ?_
        · rintro i y δ e ⟨acc, e5, na, ne, rfl⟩
          obtain ⟨hi, rfl⟩ := rangeD_get e
          rw [List.length_map, Int.toNat_natCast] at hi
          obtain ⟨y, s, e1, hy, hsg, e2⟩ := g.ok i (by omega)
          obtain ⟨v, ev, hv, dv⟩ := hn.get (x := i) (by omega)
          obtain ⟨w, ew, hw, dw⟩ := hn.get hy
          have al := na.1
          have at2 : L2.atI (r.map pairD) (i : Int) = some (pairD ((y : Int), s)) := map_at (by omega) (by rw [Int.toNat_natCast]; exact e1)
          rw [Int.zero_add, rowD_eq r]
          walk_at "a"
          refine f_ixL at2 ?_
          rw [show pairD ((y : Int), s) = .tup [.int (y : Int), .int s] from rfl]
          walk_at "a"
          try refine f_ixL (map_at (f := D.int) (by omega) (by rw [Int.toNat_natCast]; exact ew)) ?_
          walk_at "a"
          refine f_ixL at2 ?_
          rw [show pairD ((y : Int), s) = .tup [.int (y : Int), .int s] from rfl]
          walk_at "a"
          try refine f_ixL (map_at (f := D.int) (by omega) (by rw [Int.toNat_natCast]; exact ev)) ?_
          walk_at "a"
          simp only [Int.toNat_natCast, dv, dw]
          refine g_at (i := 4) rfl (ix_nat (by rw [List.length_map]; omega)) ?_
          walk_at "a"
          have st := na.step hn ev e1
          have e5 : namedP ns ((y : Int), s) = ((w : Int), s) := by unfold namedP; rw [Int.toNat_natCast, dw]
          rw [e5] at st
          exact ⟨acc.set v ((w : Int), s), .va (.int (i : Nat)), st, noO_va, by rw [rowset]⟩
        · rintro δ ⟨acc, e5, na, ne, rfl⟩
          rw [rangeD_len, List.length_map, Int.toNat_natCast, nl] at na
          obtain rfl := na.done hn gl
          walk_at "a"
          refine f_app (by simp; unfold sizeLine; omega) ?_
          walk_at "a"
          have er : (namedN ns net)[j]? = some (namedR ns r) := by unfold namedN; rw [List.getElem?_map, hr]; rfl
          rw [List.take_add_one, er, Option.toList_some, List.map_append]
          exact ⟨_, _, _, ne, rfl⟩
    · rintro δ ⟨e3, e4, e5, ne, rfl⟩
      have gn := good_namedN hn h
      rw [List.length_map, List.take_of_length_le (by rw [gn.len]; omega)]
      walk_at "a"
      exact k

-- slots [(0, 'net'), (1, 'names'), (2, 'mine'), (3, 'moves'), (4, 'here'), (5, 'x')]; stored [2, 3, 4, 5]

def T_law_disguise : DS := seq (sset 2 (tcb lenF (tac (tb2 ixF (tv 1) (tc (.int 0))) (ta0)))) (seq (ssetO 3 (tcall sp_law_order [true, false] (tac (tv 0) (tac (tv 2) (ta0))))) (seq (sset 4 (tcomp (irng1 (tv 2)) (dName 5) (tyes) (tcall sp_law_of [true, true] (tac (tv 0) (tac (tlst (tac (tc (.int 1)) (tac (tc (.int 1)) (tac (tb2 minusF (tc (.int 0)) (tc (.int 1))) (ta0))))) (ta0)))) [5])) (sret [0] (tcall sp_law_turned_net [false, false] (tac (tcall sp_law_named_net [false, true] (tac (tv 1) (tac (tv 3) (ta0)))) (tac (tv 4) (ta0)))))))
theorem pf_law_disguise : ∀ δ Q3, sp_law_disguise δ Q3 → δ.length = 2 → (∀ (i : Nat) c, δ[i]? = some (E.ow c) → i ∈ ([0] : List Nat) ∧ i ∉ ([2, 3, 4] : List Nat)) ∧ T_law_disguise { nx := fun δ' => Q3 (.va .non) (outs δ δ'), rt := fun r δ' => Q3 r (outs δ δ') } (δ ++ List.replicate 4 E.no) := by
  rintro δ Q3 ⟨bg, many, size, net, rfl, hb, hg, k⟩ hn
  obtain ⟨r0, hr0, gr0⟩ := hg.get hg.m0
  have s0 := hg.s0
  have s1 := hg.s1
  refine ⟨own_by rfl, ?_⟩
  simp only [List.replicate, List.cons_append, List.nil_append]
  unfold T_law_disguise
  rw [netD_eq net]
  walk_at "a"
  refine f_ixL (map_at (by omega) hr0) ?_
  rw [rowD_eq r0]
  walk_at "a"
  rw [List.length_map, gr0.len]
  refine ⟨bg, size, rfl, hb, s0, s1, fun bg1 names hb1 hnm => ?_⟩
  walk_at "a"
  refine ⟨by omega, ?_⟩
  refine comp_by (fun j acc δ => ∃ (bg' : List D) (ts : List Int), IsBag bg' ∧ δ = [.ow (.l bg'), .va (netD net), .va (.int (size : Nat)), .ow (.l (names.map D.int)), .no, .no] ∧ acc = ts.map D.int ∧ ts.length = j ∧ ∀ x ∈ ts, x = 1 ∨ x = -1)
    ⟨bg1, [], hb1, rfl, rfl, rfl, fun r hr => by cases hr⟩ rfl (fun p hp => nomatch hp) (fun _ _ _ _ p hp => nomatch hp) ?_ ?_
  · rintro j y acc δ e ⟨bg', ts, hb', rfl, rfl, l1, g⟩
    obtain ⟨hj, rfl⟩ := rangeD_get e
    walk_at "a"
    refine ⟨bg', _, rfl, hb', .inl ⟨_, .inr (.inr rfl), by simp, by simp, fun bg3 x hb3 hx => ?_⟩⟩
    obtain ⟨m, rfl, hm⟩ : ∃ m : Int, x = .int m ∧ (m = 1 ∨ m = -1) := by
      simp only [List.mem_cons, List.not_mem_nil, or_false] at hx
      rcases hx with rfl | rfl | rfl
      · exact ⟨1, rfl, .inl rfl⟩
      · exact ⟨1, rfl, .inl rfl⟩
      · exact ⟨-1, rfl, .inr rfl⟩
    walk_at "a"
    refine ⟨by simp; unfold sizeLine; omega, bg3, ts ++ [m], hb3, rfl, by rw [List.map_append]; rfl, by simp; omega, fun r' hr' => ?_⟩
    rcases List.mem_append.mp hr' with h | h
    · exact g r' h
    · simp at h
      subst h
      exact hm
  · rintro acc δ ⟨bg2, ts, hb2, rfl, rfl, l1, g⟩
    rw [rangeD_len, Int.toNat_natCast] at l1
    walk_at "a"
    refine ⟨many, size, net, _, names, rfl, .inr rfl, hg, hnm, ?_⟩
    walk_at "a"
    refine ⟨many, size, namedN names net, ts, rfl, good_namedN hnm hg, by omega, g, ?_⟩
    walk_at "a"
    have eg : ∀ x, x < size → ts.getD x 0 = ts.getD x 1 := fun x hx => by
      rw [List.getD_eq_getElem?_getD, List.getD_eq_getElem?_getD, List.getElem?_eq_getElem (by omega)]
      rfl
    rw [turnedN_congr (t := fun x => ts.getD x 0) (t' := fun x => ts.getD x 1) (good_namedN hnm hg) eg]
    refine k _ _ hb2 (good_turnedN (fun x => ?_) (good_namedN hnm hg))
    rw [List.getD_eq_getElem?_getD]
    rcases Nat.lt_or_ge x ts.length with h | h
    · rw [List.getElem?_eq_getElem h]
      exact g _ (List.getElem_mem h)
    · rw [List.getElem?_eq_none h]
      exact .inl rfl

-- slots [(0, 'bag'), (1, 'net'), (2, 'size'), (3, 'names'), (4, 'turns'), (5, 'x')]; stored [2, 3, 4]

def T_law_cover : DS := seq (ssetO 1 (tlst (ta0))) (seq (sfor [2, 3, 4, 5] (ilist (tv 0)) (dName 2) (seq (ssetO 3 (tlst (ta0))) (seq (sfor [4, 5] (ilist (tv 2)) (dName 4) (seq (sset 5 (tif (tt (tb2 (bF eqF) (tb2 ixF (tv 4) (tc (.int 1))) (tc (.int 1)))) (tc (.int 0)) (tc (.int 1)))) (sexpr (textend (tv 3) (tlst (tac (ttup (tac (tb2 plusF (tb2 timesF (tc (.int 2)) (tb2 ixF (tv 4) (tc (.int 0)))) (tv 5)) (tac (tc (.int 1)) (ta0)))) (tac (ttup (tac (tb2 minusF (tb2 plusF (tb2 timesF (tc (.int 2)) (tb2 ixF (tv 4) (tc (.int 0)))) (tc (.int 1))) (tv 5)) (tac (tc (.int 1)) (ta0)))) (ta0)))))))) (sexpr (tlm appF (tv 1) (tac (tvz 3) (ta0))))))) (sret [] (tv 1)))
theorem pf_law_cover : ∀ δ Q3, sp_law_cover δ Q3 → δ.length = 1 → (∀ (i : Nat) c, δ[i]? = some (E.ow c) → i ∈ ([] : List Nat) ∧ i ∉ ([1, 2, 3, 4, 5] : List Nat)) ∧ T_law_cover { nx := fun δ' => Q3 (.va .non) (outs δ δ'), rt := fun r δ' => Q3 r (outs δ δ') } (δ ++ List.replicate 5 E.no) := by
  rintro δ Q3 ⟨many, size, net, rfl, g, hs, k⟩ hn
  have m1 := g.m1
  have ln := g.len
  refine ⟨own_by rfl, ?_⟩
  simp only [List.replicate, List.cons_append, List.nil_append]
  unfold T_law_cover
  rw [netD_eq]
  walk_at "a"
  refine for_by (fun j δ => ∃ e2 e3 e4 e5, δ = [.va (.lst (net.map rowD)), .ow (.l ((List.range j).map fun k => rowD (coverR (net.getD k [])))), e2, e3, e4, e5] ∧ NoO e2 ∧ NoO e3 ∧ NoO e4 ∧ NoO e5) ⟨_, _, _, _, rfl, noO_no, noO_no, noO_no, noO_no⟩ (fun p hp => nomatch hp) (fun _ _ _ p hp => nomatch hp) ?_ ?_
  · rintro j y δ e ⟨e2, e3, e4, e5, rfl, n2, n3, n4, n5⟩
    obtain ⟨r, er, rfl⟩ := map_some e
    have gr := g.row r (List.mem_of_getElem? er)
    have lr := gr.len
    have hj := (List.getElem?_eq_some_iff.mp er).1
    rw [rowD_eq]
    walk_at "a"
    refine for_by (fun i δ => ∃ e4 e5, δ = [.va (.lst (net.map rowD)), .ow (.l ((List.range j).map fun k => rowD (coverR (net.getD k [])))), .va (.lst (r.map pairD)), .ow (.l ((coverL r i).map pairD)), e4, e5] ∧ NoO e4 ∧ NoO e5) ⟨_, _, rfl, n4, n5⟩ (fun p hp => nomatch hp) (fun _ _ _ p hp => nomatch hp) ?_ ?_
    · rintro i y δ e ⟨e4, e5, rfl, n4, n5⟩
      obtain ⟨⟨x, t⟩, hq, rfl⟩ := map_some e
      have hi := (List.getElem?_eq_some_iff.mp hq).1
      rw [show pairD (x, t) = D.tup [.int x, .int t] from rfl]
      walk_at "a"
      all_goals
        refine ⟨_, _, rfl, rfl, (fun _ h => nomatch h), by unfold coverL sizeLine; simp; omega, _, rfl, .va (.tup [.int x, .int t]), .va (.int (if t = 1 then 0 else 1)), ?_, noO_va, noO_va⟩
        rename_i h
        rw [coverL_succ hq, List.map_append]
        simp only [h, if_true, if_false]
        rfl
    · rintro δ ⟨e4, e5, rfl, n4, n5⟩
      rw [List.length_map]
      walk_at "a"
      refine f_app (by rw [List.length_map, List.length_range]; unfold sizeLine; omega) ?_
      refine ⟨_, rfl, .va (.lst (r.map pairD)), .va (.lst ((coverL r r.length).map pairD)), _, _, ?_, noO_va, noO_va, n4, n5⟩
      rw [List.range_succ, List.map_append, List.map_singleton, List.getD_eq_getElem?_getD, er]
      rfl
  · rintro δ ⟨e2, e3, e4, e5, rfl, n2, n3, n4, n5⟩
    have e6 : (List.range net.length).map (fun i => rowD (coverR (net.getD i []))) = (coverN net).map rowD := by
      unfold coverN
      rw [List.map_map]
      conv => rhs; rw [← map_range_getD (xs := net) (d := []) (f := rowD ∘ coverR)]
      rfl
    rw [List.length_map, e6]
    walk_at "a"
    exact k

-- slots [(0, 'net'), (1, 'mine'), (2, 'moves'), (3, 'here'), (4, 'x'), (5, 'more')]; stored [1, 2, 3, 4, 5]

def T_Plan_step : DS := sret [] (tb2 ixF (tb2 ixF (tfldc "Plan" "_steps" (tv 0)) (tv 1)) (tv 2))
theorem pf_Plan_step : ∀ δ Q3, sp_Plan_step δ Q3 → δ.length = 3 → (∀ (i : Nat) c, δ[i]? = some (E.ow c) → i ∈ ([] : List Nat) ∧ i ∉ ([] : List Nat)) ∧ T_Plan_step { nx := fun δ' => Q3 (.va .non) (outs δ δ'), rt := fun r δ' => Q3 r (outs δ δ') } (δ ++ List.replicate 0 E.no) := by
  rintro δ Q3 ⟨ls, size, net, k, x, r, p, rfl, hr, hp, kk⟩ hl
  refine ⟨own_by rfl, ?_⟩
  simp only [List.replicate, List.cons_append, List.nil_append]
  unfold T_Plan_step
  unfold planD netD
  walk_at "a"
  refine f_ixL (map_at (by omega) hr) ?_
  unfold rowD
  walk_at "a"
  refine f_ixL (map_at (by omega) hp) ?_
  walk_at "a"
  exact kk

-- slots [(0, 'self'), (1, 'side'), (2, 'copy')]; stored []

def T_step_row : DS := sret [] (tcomp (irng1 (tfldc "Plan" "copies" (tv 0))) (dName 2) (tyes) (tmeth "Plan" "step" sp_Plan_step [false, false, false] (tv 0) (tac (tv 1) (tac (tv 2) (ta0)))) [2])
theorem pf_step_row : ∀ δ Q3, sp_step_row δ Q3 → δ.length = 2 → (∀ (i : Nat) c, δ[i]? = some (E.ow c) → i ∈ ([] : List Nat) ∧ i ∉ ([] : List Nat)) ∧ T_step_row { nx := fun δ' => Q3 (.va .non) (outs δ δ'), rt := fun r δ' => Q3 r (outs δ δ') } (δ ++ List.replicate 1 E.no) := by
  rintro δ Q3 ⟨ls, size, k, net, r, rfl, hr, hl, s1, h⟩ hn
  refine ⟨own_by rfl, ?_⟩
  simp only [List.replicate, List.cons_append, List.nil_append]
  unfold T_step_row
  unfold planD
  walk_at "a"
  refine ⟨by omega, ?_⟩
  refine comp_map (fun i => pairD (r.getD i (0, 0))) rfl (fun p hp => nomatch hp) (fun p hp => nomatch hp) (fun i y e => ?_) ?_
  · obtain ⟨hi, rfl⟩ := rangeD_get e
    rw [Int.toNat_natCast] at hi
    rw [Int.zero_add]
    have e1 : r[i]? = some r[i] := List.getElem?_eq_getElem (by omega)
    walk_at "a"
    refine ⟨ls, size, net, k, i, r, _, rfl, hr, e1, ?_⟩
    walk_at "a"
    exact m_end2 (by unfold sizeLine; omega) rfl (by rw [List.getD_eq_getElem?_getD, e1]; rfl)
  · have e : (List.range size).map (fun i => pairD (r.getD i (0, 0))) = r.map pairD := by rw [← hl, map_range_getD]
    rw [rangeD_len, Int.toNat_natCast, e]
    walk_at "a"
    exact h

-- slots [(0, 'plan'), (1, 'side'), (2, 'copy')]; stored []

def T_through : DS := seq (sasg (tc (.int 1)) (dSub (tv 3) (tv 2))) (seq (ssetO 4 (tlst (tac (tv 2) (ta0)))) (seq (sset 5 (tc (.bl true))) (seq (sset 6 (tc (.int 0))) (seq (swhile (tt (tb2 (bF (iF (fun i j => decide (i < j)))) (tv 6) (tcb lenF (tac (tv 4) (ta0))))) (seq (sasg (tcb divmodF (tac (tb2 ixF (tv 4) (tv 6)) (tac (tv 1) (ta0)))) (dTup 2 (dCons (dName 7) (dCons (dName 8) (dNil))))) (seq (sset 9 (tb2 ixF (tv 3) (tb2 ixF (tv 4) (tv 6)))) (seq (saug 6 ipaddF (tc (.int 1))) (sfor [5, 10, 11, 12, 13, 14, 15, 16, 17] (ilist (tv 0)) (dTup 2 (dCons (dName 10) (dCons (dName 11) (dNil)))) (seq (sasg (tb2 ixF (tv 10) (tv 8)) (dTup 2 (dCons (dName 12) (dCons (dName 13) (dNil))))) (seq (sasg (tb2 ixF (tv 11) (tv 7)) (dTup 2 (dCons (dName 14) (dCons (dName 15) (dNil))))) (seq (sset 16 (tb2 plusF (tb2 timesF (tv 14) (tv 1)) (tv 12))) (seq (sset 17 (tb2 timesF (tb2 timesF (tv 9) (tv 13)) (tv 15))) (sif (tt (tb2 (bF eqF) (tb2 ixF (tv 3) (tv 16)) (tc (.int 0)))) (seq (sasg (tv 17) (dSub (tv 3) (tv 16))) (sexpr (tlm appF (tv 4) (tac (tv 16) (ta0))))) (sif (tt (tb2 (bF neF) (tb2 ixF (tv 3) (tv 16)) (tv 17))) (sset 5 (tc (.bl false))) (snext)))))))))))) (sret [3] (ttup (tac (tv 5) (tac (tcb sortedF (tac (tv 4) (ta0))) (ta0)))))))))
def atOf (i : Nat) (δ : En) : Nat := match δ[i]? with
  | some (.va (.int k)) => k.toNat
  | _ => 0
theorem pf_through : ∀ δ Q3, sp_through δ Q3 → δ.length = 4 → (∀ (i : Nat) c, δ[i]? = some (E.ow c) → i ∈ ([3] : List Nat) ∧ i ∉ ([4, 5, 6, 7, 8, 9, 10, 11, 12, 13, 14, 15, 16, 17] : List Nat)) ∧ T_through { nx := fun δ' => Q3 (.va .non) (outs δ δ'), rt := fun r δ' => Q3 r (outs δ δ') } (δ ++ List.replicate 14 E.no) := by
  rintro δ Q3 ⟨many, s1, s2, low, a, b, S0, rfl, ga, gb, hs, hl, hS, k⟩ hn
  have gN := good_prodN ga gb hs
  refine ⟨own_by rfl, ?_⟩
  simp only [List.replicate, List.cons_append, List.nil_append]
  unfold T_through
  walk_at "a"
  refine g_at rfl (by rw [List.length_map, sgI_len]; exact ix_nat hl) ?_
  rw [sgI_set]
  walk_at "a"
  refine s_while (fun δ => ∃ (i : Nat) (met : List Nat) (sg : Nat → Int) (tr : Bool) (e7 e8 e9 e10 e11 e12 e13 e14 e15 e16 e17 : E), δ = [.va (.lst (waysD a b)), .va (.int (s1 : Nat)), .va (.int (low : Nat)), .ow (.l ((sgI (s2 * s1) sg).map D.int)), .ow (.l (natsD met)), .va (.bl tr), .va (.int (i : Nat)), e7, e8, e9, e10, e11, e12, e13, e14, e15, e16, e17] ∧ Rnd (prodN s1 a b) (s2 * s1) low S0 i 0 met sg tr ∧ i ≤ met.length)
    (fun δ => s2 * s1 - atOf 6 δ) ⟨0, [low], _, true, _, _, _, _, _, _, _, _, _, _, _, rfl, Rnd.start hl, by simp⟩ ?_
  rintro δ ⟨i, met, sg, tr, e7, e8, e9, e10, e11, e12, e13, e14, e15, e16, e17, rfl, x, hi⟩
  have xl := x.size_
  walk_at "a"
  · rename_i hlt
    rw [natsD_len] at hlt
    have hlt : i < met.length := by omega
    have hp : met[i]? = some met[i] := List.getElem?_eq_getElem hlt
    generalize met[i] = p at hp
    obtain ⟨p1, p2, p3⟩ := x.mem p (List.mem_of_getElem? hp)
    have s11 := ga.s1
    have s21 := gb.s1
    have s10 := ga.s0
    have pp : L2.atI (natsD met) (i : Int) = some (.int (p : Nat)) := map_at (by omega) hp
    refine f_ixL pp ?_
    walk_at "a"
    refine f_divmod (by unfold CDiv; omega) ?_
    rw [show (p : Int) / (s1 : Int) = ((p / s1 : Nat) : Int) from rfl, show (p : Int) % (s1 : Int) = ((p % s1 : Nat) : Int) from rfl]
    walk_at "a"
    refine f_ixL pp ?_
    walk_at "a"
    refine f_ixL (sgI_at p1) ?_
    walk_at "a"
    refine for_by (fun j δ => ∃ (met' : List Nat) (sg' : Nat → Int) (tr' : Bool) (e10 e11 e12 e13 e14 e15 e16 e17 : E), δ = [.va (.lst (waysD a b)), .va (.int (s1 : Nat)), .va (.int (low : Nat)), .ow (.l ((sgI (s2 * s1) sg').map D.int)), .ow (.l (natsD met')), .va (.bl tr'), .va (.int ((i : Int) + 1)), .va (.int (p / s1 : Nat)), .va (.int (p % s1 : Nat)), .va (.int (sg p)), e10, e11, e12, e13, e14, e15, e16, e17] ∧ Rnd (prodN s1 a b) (s2 * s1) low S0 i j met' sg' tr' ∧ met'[i]? = some p ∧ sg' p = sg p)
      ⟨met, sg, tr, _, _, _, _, _, _, _, _, rfl, x, hp, rfl⟩ (fun p hp => nomatch hp) (fun _ _ _ p hp => nomatch hp) ?_ ?_
    · rintro j y δ e ⟨met', sg', tr', e10, e11, e12, e13, e14, e15, e16, e17, rfl, x', hp', hs'⟩
      obtain ⟨j', ej, rfl⟩ := map_some e
      have hj : j < a.length := by
        have := (List.getElem?_eq_some_iff.mp ej).1
        rw [List.length_range] at this
        exact this
      rw [List.getElem?_range hj] at ej
      cases ej
      rw [ga.len] at hj
      obtain ⟨r1, f1, g1⟩ := ga.get hj
      obtain ⟨r2, f2, g2⟩ := gb.get hj
      obtain ⟨z, g, h1, hz, hg, _⟩ := g1.ok _ (mod_lt' p1)
      obtain ⟨w, h, h2, hw, hh, _⟩ := g2.ok _ (div_lt p1)
      have xl' := x'.size_
      have hq := pair_lt hz hw
      have fN := prodN_get f1 f2 (wide := s1)
      have eN : (prodR s1 r1 r2)[p]? = some (((w * s1 + z : Nat) : Int), g * h) := by
        rw [prodR_get (by rw [g2.len]; exact p1) h1 h2]
        unfold prodP
        simp
      have eq : (w : Int) * (s1 : Int) + (z : Int) = ((w * s1 + z : Nat) : Int) := by simp
      generalize w * s1 + z = q at hq eN eq
      have a1 : a.getD j [] = r1 := by rw [List.getD_eq_getElem?_getD, f1]; rfl
      have a2 : b.getD j [] = r2 := by rw [List.getD_eq_getElem?_getD, f2]; rfl
      rw [a1, a2, rowD_eq, rowD_eq]
      walk_at "a"
      refine f_ixL (map_at (Int.natCast_nonneg _) h1) ?_
      unfold pairD
      walk_at "a"
      refine f_ixL (map_at (Int.natCast_nonneg _) h2) ?_
      walk_at "a"
      rw [eq]
      refine f_ixL (sgI_at hq) ?_
      walk_at "a"
      · rename_i hz0
        refine g_at (i := 3) rfl (by rw [List.length_map, sgI_len]; exact ix_nat hq) ?_
        rw [sgI_set]
        walk_at "a"
        refine f_app (by rw [natsD_len]; unfold sizeLine; omega) ?_
        walk_at "a"
        rw [natsD_snoc]
        have hl' := (List.getElem?_eq_some_iff.mp hp').1
        refine ⟨met' ++ [q], _, tr', _, _, _, _, _, _, _, _, rfl, ?_, by rw [List.getElem?_append_left hl']; exact hp', ?_⟩
        · have := x'.new gN hp' fN eN hz0
          rw [hs', ← Int.mul_assoc] at this
          exact this
        · rw [updI_ne fun z => by rw [← z] at hz0; rw [hz0] at hs'; rcases p3 with e | e <;> rw [e] at hs' <;> cases hs']
          exact hs'
      · rename_i hz0
        have o := x'.old hS hp' fN eN hz0
        rw [hs', ← Int.mul_assoc] at o
        refine f_ixL (sgI_at hq) ?_
        walk_at "a"
        · rename_i hne
          rw [decide_eq_true hne, Bool.and_true] at o
          exact ⟨met', sg', tr', _, _, _, _, _, _, _, _, rfl, o, hp', hs'⟩
        · rename_i hne
          rw [decide_eq_false hne, Bool.and_false] at o
          exact ⟨met', sg', false, _, _, _, _, _, _, _, _, rfl, o, hp', hs'⟩
    · rintro δ ⟨met', sg', tr', e10, e11, e12, e13, e14, e15, e16, e17, rfl, x', hp', hs'⟩
      have ln : (waysD a b).length = (prodN s1 a b).length := by simp [waysD, prodN]
      rw [ln] at x'
      have hl' := (List.getElem?_eq_some_iff.mp hp').1
      refine ⟨⟨i + 1, met', sg', tr', _, _, _, _, _, _, _, _, _, _, _, rfl, x'.turn, by omega⟩, ?_⟩
      show s2 * s1 - (i + 1) < s2 * s1 - i
      omega
  · rename_i hlt
    rw [natsD_len] at hlt
    have e := x.fin (by omega)
    obtain rfl := e.tr
    rw [natsD_eq]
    refine f_sorted ?_
    rw [e.sorted, ← natsD_eq, ← natsD_eq]
    walk_at "a"
    exact k met sg e

-- slots [(0, 'ways'), (1, 'width'), (2, 'first'), (3, 'signs'), (4, 'met'), (5, 'truth'), (6, 'at'), (7, 'y'), (8, 'x'), (9, 'sign'), (10, 'row'), (11, 'other_row'), (12, 'z'), (13, 'turn'), (14, 'w'), (15, 'other_turn'), (16, 'pair'), (17, 'further')]; stored [4, 5, 6, 7, 8, 9, 10, 11, 12, 13, 14, 15, 16, 17]

def T_crossed : DS := seq (sif (tt (tb2 (bF neF) (tfldc "Plan" "sides" (tv 0)) (tfldc "Plan" "sides" (tv 1)))) (snever) (snext)) (seq (sset 2 (tcomp (irng1 (tcb lenF (tac (tfldc "Plan" "sides" (tv 0)) (ta0)))) (dName 7) (tyes) (ttup (tac (tcall sp_step_row [false, false] (tac (tv 0) (tac (tv 7) (ta0)))) (tac (tcall sp_step_row [false, false] (tac (tv 1) (tac (tv 7) (ta0)))) (ta0)))) [7])) (seq (sset 3 (tb2 timesF (tfldc "Plan" "copies" (tv 0)) (tfldc "Plan" "copies" (tv 1)))) (seq (ssetO 4 (tb2 timesF (tlst (tac (tc (.int 0)) (ta0))) (tv 3))) (seq (ssetO 5 (tlst (ta0))) (seq (sfor [6] (irng1 (tv 3)) (dName 6) (sif (tt (tb2 (bF eqF) (tb2 ixF (tv 4) (tv 6)) (tc (.int 0)))) (sexpr (tlm appF (tv 5) (tac (tcall sp_through [false, false, false, true] (tac (tv 2) (tac (tfldc "Plan" "copies" (tv 0)) (tac (tv 6) (tac (tv 4) (ta0)))))) (ta0)))) (snext))) (sret [] (ttup (tac (tvz 4) (tac (tvz 5) (ta0))))))))))
theorem pf_crossed : ∀ δ Q3, sp_crossed δ Q3 → δ.length = 2 → (∀ (i : Nat) c, δ[i]? = some (E.ow c) → i ∈ ([] : List Nat) ∧ i ∉ ([2, 3, 4, 5, 6] : List Nat)) ∧ T_crossed { nx := fun δ' => Q3 (.va .non) (outs δ δ'), rt := fun r δ' => Q3 r (outs δ δ') } (δ ++ List.replicate 6 E.no) := by
  rintro δ Q3 ⟨ls, s1, s2, a, b, rfl, hs, ga, gb, h12, k⟩ hn
  have m1 := ga.m1
  have s11 := ga.s1
  have s21 := gb.s1
  have gN := good_prodN ga gb h12
  refine ⟨own_by rfl, ?_⟩
  simp only [List.replicate, List.cons_append, List.nil_append]
  unfold T_crossed
  walk_at "a"
  refine f_neP (b := true) (pu_sides hs) (pu_sides hs) (by omega) (by omega) (by simp) ?_
  walk_at "a"
  rw [show strsT ls = .tup (ls.map D.str) from rfl]
  walk_at "a"
  refine ⟨by rw [List.length_map]; omega, ?_⟩
  refine comp_map (fun k => D.tup [rowD (a.getD k []), rowD (b.getD k [])]) rfl (fun p hp => nomatch hp) (fun p hp => nomatch hp) (fun j y e => ?_) ?_
  · obtain ⟨hj, rfl⟩ := rangeD_get e
    rw [List.length_map, Int.toNat_natCast] at hj
    obtain ⟨r1, f1, g1⟩ := ga.get hj
    obtain ⟨r2, f2, g2⟩ := gb.get hj
    rw [Int.zero_add]
    walk_at "a"
    refine ⟨ls, s1, j, a, r1, rfl, f1, g1.len, s11, ?_⟩
    walk_at "a"
    refine ⟨ls, s2, j, b, r2, rfl, f2, g2.len, s21, ?_⟩
    walk_at "a"
    exact m_end2 (by unfold sizeLine; omega) rfl (by rw [List.getD_eq_getElem?_getD, List.getD_eq_getElem?_getD, f1, f2]; rfl)
  have wl : (List.range ls.length).map (fun k => D.tup [rowD (a.getD k []), rowD (b.getD k [])]) = waysD a b := by unfold waysD; rw [ga.len]
  rw [rangeD_len, List.length_map, Int.toNat_natCast, wl]
  have eq : (s1 : Int) * (s2 : Int) = ((s2 * s1 : Nat) : Int) := by rw [Nat.mul_comm]; simp
  walk_at "a"
  rw [eq]
  refine f_rep ⟨by omega, by omega, by simp; unfold sizeLine; omega⟩ ?_
  have one : (List.replicate (Int.toNat ((s2 * s1 : Nat) : Int)) [D.int 0]).flatten = (sgI (s2 * s1) fun _ => 0).map D.int := by
    rw [Int.toNat_natCast]
    unfold sgI
    rw [List.map_map]
    refine List.ext_getElem? fun i => ?_
    by_cases hi : i < s2 * s1
    · rw [List.getElem?_map, List.getElem?_range hi]
      simp [List.flatten_replicate_singleton, hi]
    · rw [List.getElem?_eq_none (by simp; omega), List.getElem?_eq_none (by simp; omega)]
  rw [one]
  walk_at "a"
  refine ⟨by omega, ?_⟩
  refine for_by (fun low δ => ∃ (sg : Nat → Int) (e6 : E), δ = [.va (planD ls s1 a), .va (planD ls s2 b), .va (.lst (waysD a b)), .va (.int ((s2 * s1 : Nat) : Int)), .ow (.l ((sgI (s2 * s1) sg).map D.int)), .ow (.l ((heads (prodN s1 a b) low).map (roundD (prodN s1 a b) (s2 * s1)))), e6, .no] ∧ Crs (prodN s1 a b) (s2 * s1) low sg ∧ NoO e6)
    ⟨_, _, rfl, Crs.start, noO_no⟩ (fun p hp => nomatch hp) (fun _ _ _ p hp => nomatch hp) ?_ ?_
  · rintro low y δ e ⟨sg, e6, rfl, x, n6⟩
    obtain ⟨hl, rfl⟩ := rangeD_get e
    rw [Int.toNat_natCast] at hl
    rw [Int.zero_add]
    walk_at "a"
    refine f_ixL (sgI_at hl) ?_
    walk_at "a"
    · rename_i hz
      refine ⟨ls.length, s1, s2, low, a, b, sg, rfl, ga, gb, h12, hl, x.fresh gN hl hz, fun met sg' re => ?_⟩
      walk_at "a"
      have hlen : ((heads (prodN s1 a b) low).map (roundD (prodN s1 a b) (s2 * s1))).length ≤ low := by
        rw [List.length_map]
        exact Nat.le_trans (List.length_filter_le _ _) (by simp)
      refine f_app (by unfold sizeLine; omega) ?_
      walk_at "a"
      refine ⟨sg', .va (.int (low : Nat)), ?_, x.round gN hl hz re, noO_va⟩
      rw [heads_yes ((x.head gN hl).mp hz), List.map_append]
      rfl
    · rename_i hz
      refine ⟨sg, .va (.int (low : Nat)), ?_, x.skip gN hl hz, noO_va⟩
      rw [heads_no fun h => hz ((x.head gN hl).mpr h)]
  · rintro δ ⟨sg, e6, rfl, x, n6⟩
    rw [rangeD_len, Int.toNat_natCast] at *
    walk_at "a"
    exact k sg x

-- slots [(0, 'a'), (1, 'b'), (2, 'ways'), (3, 'many'), (4, 'signs'), (5, 'found'), (6, 'first'), (7, 'side')]; stored [2, 3, 4, 5, 6]

def T_round_tables : DS := seq (sasg (tcall sp_crossed [false, false] (tac (tv 0) (tac (tv 1) (ta0)))) (dTup 2 (dCons (dName 2) (dCons (dName 3) (dNil))))) (seq (ssetO 4 (tlst (ta0))) (seq (sfor [5, 6, 7, 8, 9, 10] (ilist (tv 3)) (dTup 2 (dCons (dName 5) (dCons (dName 6) (dNil)))) (sif (ttru (tv 5)) (sgrid 7 (irng1 (tfldc "Plan" "copies" (tv 1))) (dName 11) (tyes) (tb2 timesF (tlst (tac (tc (.int 0)) (ta0))) (tfldc "Plan" "copies" (tv 0))) [11] (ypseq (yfor [8, 9, 10] (ilist (tv 6)) (dName 8) (yseq (yplain (sasg (tcb divmodF (tac (tv 8) (tac (tfldc "Plan" "copies" (tv 0)) (ta0)))) (dTup 2 (dCons (dName 9) (dCons (dName 10) (dNil)))))) (yput (tb2 ixF (tv 2) (tv 8)) (tv 9) (tv 10)))) (ypfree 7 (sexpr (tlm appF (tv 4) (tac (tvz 7) (ta0))))))) (snext))) (sret [] (tv 4))))
theorem pf_round_tables : ∀ δ Q3, sp_round_tables δ Q3 → δ.length = 2 → (∀ (i : Nat) c, δ[i]? = some (E.ow c) → i ∈ ([] : List Nat) ∧ i ∉ ([2, 3, 4, 5, 6, 7, 8, 9, 10] : List Nat)) ∧ T_round_tables { nx := fun δ' => Q3 (.va .non) (outs δ δ'), rt := fun r δ' => Q3 r (outs δ δ') } (δ ++ List.replicate 10 E.no) := by
  rintro δ Q3 ⟨ls, s1, s2, a, b, rfl, hs, ga, gb, h12, k⟩ hn
  refine ⟨own_by rfl, ?_⟩
  simp only [List.replicate, List.cons_append, List.nil_append]
  unfold T_round_tables
  · walk_at "a"
    refine ⟨ls, s1, s2, a, b, rfl, hs, ga, gb, h12, fun sg x => ?_⟩
    walk_at "a"
    have s10 := ga.s0
    have s11 := ga.s1
    have s20 := gb.s0
    have s21 := gb.s1
    have gN := good_prodN ga gb h12
    have hl := heads_len (n := prodN s1 a b) (size := s2 * s1)
    refine for_by (fun j δ => ∃ e5 e6 e7 e8 e9 e10, δ = [.va (planD ls s1 a), .va (planD ls s2 b), .va (.lst ((sgI (s2 * s1) sg).map D.int)), .va (.lst ((heads (prodN s1 a b) (s2 * s1)).map (roundD (prodN s1 a b) (s2 * s1)))), .ow (.l ((((heads (prodN s1 a b) (s2 * s1)).take j).filter (balB (prodN s1 a b))).map (rtabD a b s1 s2))), e5, e6, e7, e8, e9, e10, .no] ∧ NoO e5 ∧ NoO e6 ∧ NoO e7 ∧ NoO e8 ∧ NoO e9 ∧ NoO e10) ⟨_, _, _, _, _, _, rfl, noO_no, noO_no, noO_no, noO_no, noO_no, noO_no⟩ (fun p hp => nomatch hp) (fun _ _ _ p hp => nomatch hp) ?_ ?_
    · rintro j y δ e ⟨e5, e6, e7, e8, e9, e10, rfl, n5, n6, n7, n8, n9, n10⟩
      obtain ⟨z, ez, rfl⟩ := map_some e
      have hj := (List.getElem?_eq_some_iff.mp ez).1
      obtain ⟨hz, ih⟩ := mem_heads.mp (List.mem_of_getElem? ez)
      have cl := comp_len (n := prodN s1 a b) (size := s2 * s1) (z := z)
      unfold roundD
      walk_at "a"
      · rename_i hb
        have pot := x.pot z hz ih (balB_iff.mp hb)
        unfold planD
        walk_at "a"
        refine ⟨by omega, ?_⟩
        refine grid_map (fun q => (List.range s1).map fun _ => .int 0) (by simp) rfl (fun p hp => nomatch hp) (fun p hp => nomatch hp) (fun i y e => ?_) ?_
        · obtain ⟨hi, rfl⟩ := rangeD_get e
          rw [Int.toNat_natCast] at hi
          walk_at "a"
          refine f_rep ⟨by omega, by omega, by simp; unfold sizeLine; omega⟩ ?_
          rw [rep_one]
          refine ⟨_, rfl, by simp; unfold sizeLine; omega, rfl, ?_⟩
          rw [List.range_succ, List.map_append]
          rfl
        · rw [rangeD_len, Int.toNat_natCast, ← fill_nil (X := baseF (prodN s1 a b) z)]
          walk_at "a"
          refine yfor_by (fun i δ rows => ∃ e8 e9 e10, δ = [.va (planD ls s1 a), .va (planD ls s2 b), .va (.lst ((sgI (s2 * s1) sg).map D.int)), .va (.lst ((heads (prodN s1 a b) (s2 * s1)).map (roundD (prodN s1 a b) (s2 * s1)))), .ow (.l ((((heads (prodN s1 a b) (s2 * s1)).take j).filter (balB (prodN s1 a b))).map (rtabD a b s1 s2))), .va (.bl (balB (prodN s1 a b) z)), .va (.lst (natsD (comp (prodN s1 a b) (s2 * s1) z))), .no, e8, e9, e10, .no] ∧ rows = fillG s2 s1 ((comp (prodN s1 a b) (s2 * s1) z).take i) (baseF (prodN s1 a b) z) ∧ NoO e8 ∧ NoO e9 ∧ NoO e10) ⟨_, _, _, rfl, rfl, n8, n9, n10⟩ (by simp) (by rintro k δ rows _ p hp; simp at hp) ?_ ?_
          · rintro i y δ rows ey ⟨e8, e9, e10, rfl, rfl, n8, n9, n10⟩
            obtain ⟨q, eq, rfl⟩ := natsD_get ey
            obtain ⟨hq, rq⟩ := mem_comp.mp (List.mem_of_getElem? eq)
            unfold planD
            walk_at "a"
            refine f_divmod (by unfold CDiv; omega) ?_
            walk_at "a"
            refine f_ixL (map_at (x := sg q) (Int.natCast_nonneg _) (by unfold sgI; rw [Int.toNat_natCast, List.getElem?_map, List.getElem?_range hq]; rfl)) ?_
            walk_at "a"
            refine ⟨_, q / s1, _, rfl, by rw [fill_len, show ((q : Int) / (s1 : Int)) = ((q / s1 : Nat) : Int) from rfl]; exact ix_nat (div_lt hq), fill_get (div_lt hq), ?_⟩
            walk_at "a"
            refine ⟨_, q % s1, rfl, by rw [rowI_len, show ((q : Int) % (s1 : Int)) = ((q % s1 : Nat) : Int) from rfl]; exact ix_nat (mod_lt' hq), ?_⟩
            refine ⟨_, _, _, rfl, ?_, noO_va, noO_va, noO_va⟩
            rw [take_at eq]
            exact fill_set hq (baseF_is pot rq).symm
          · rintro δ rows ⟨e8, e9, e10, rfl, rfl, n8, n9, n10⟩
            rw [natsD_len, List.take_length]
            walk_at "a"
            rw [fill_all fun q hq hn => baseF_out fun r => hn (mem_comp.mpr ⟨hq, r⟩)]
            refine f_app (by rw [List.length_map]; have h1 := List.length_filter_le (balB (prodN s1 a b)) ((heads (prodN s1 a b) (s2 * s1)).take j); rw [List.length_take] at h1; unfold sizeLine; omega) ?_
            refine ⟨_, rfl, .va (.bl (balB (prodN s1 a b) z)), .va (.lst (natsD (comp (prodN s1 a b) (s2 * s1) z))), .va (rtabD a b s1 s2 z), e8, e9, e10, ?_, noO_va, noO_va, noO_va, n8, n9, n10⟩
            rw [heads_take ez, List.filter_append, List.map_append (l₁ := List.filter _ _)]
            simp only [List.filter_cons, List.filter_nil, hb, if_true]
            rfl
      · rename_i hb
        refine ⟨.va (.bl (balB (prodN s1 a b) z)), .va (.lst (natsD (comp (prodN s1 a b) (s2 * s1) z))), e7, e8, e9, e10, ?_, noO_va, noO_va, n7, n8, n9, n10⟩
        rw [heads_take ez, List.filter_append]
        simp [hb]
    · rintro δ ⟨e5, e6, e7, e8, e9, e10, rfl, n5, n6, n7, n8, n9, n10⟩
      rw [List.length_map, List.take_length, ← kins_bal]
      walk_at "a"
      exact k

-- slots [(0, 'a'), (1, 'b'), (2, 'signs'), (3, 'found'), (4, 'tables'), (5, 'truth'), (6, 'met'), (7, 'rows'), (8, 'pair'), (9, 'y'), (10, 'x'), (11, 'row')]; stored [2, 3, 4, 5, 6, 7, 8, 9, 10]

def T_has_step_rows : DS := seq (sif (tor (tnot (tt (tisi2 .list .tuple (tv 1)))) (tt (tb2 (bF neF) (tcb lenF (tac (tv 1) (ta0))) (tv 0)))) (sret [] (tc (.bl false))) (snext)) (seq (ssetO 2 (tlst (ta0))) (seq (sfor [3] (ilist (tv 1)) (dName 3) (seq (sif (tnot (tt (tisi2 .list .tuple (tv 3)))) (sret [] (tc (.bl false))) (snext)) (sexpr (tlm appF (tv 2) (tac (tcb lenF (tac (tv 3) (ta0))) (ta0)))))) (sret [] (tandV (tb2 (bF (iF (fun i j => decide (j < i)))) (tb2 ixF (tv 2) (tc (.int 0))) (tc (.int 0))) (tcb allF (tac (tcomp (ilist (tv 2)) (dName 4) (tyes) (tb2 (bF eqF) (tv 4) (tb2 ixF (tv 2) (tc (.int 0)))) [4]) (ta0)))))))
theorem pf_has_step_rows : ∀ δ Q3, sp_has_step_rows δ Q3 → δ.length = 2 → (∀ (i : Nat) c, δ[i]? = some (E.ow c) → i ∈ ([] : List Nat) ∧ i ∉ ([2, 3] : List Nat)) ∧ T_has_step_rows { nx := fun δ' => Q3 (.va .non) (outs δ δ'), rt := fun r δ' => Q3 r (outs δ δ') } (δ ++ List.replicate 3 E.no) := by
  rintro δ Q3 ⟨many, size, net, rfl, h, k⟩ hl
  have m0 := h.m0
  have m1 := h.m1
  have hl := h.len
  refine ⟨own_by rfl, ?_⟩
  simp only [List.replicate, List.cons_append, List.nil_append]
  unfold T_has_step_rows
  unfold netD
  walk_at "a"
  walk_at "x"
  · refine for_by (fun j δ => ∃ e, δ = [.va (.int (many : Nat)), .va (.lst (net.map rowD)), .ow (.l ((List.range j).map fun _ => D.int (size : Nat))), e, .no]) ⟨_, rfl⟩ (fun p hp => nomatch hp) (fun _ _ _ p hp => nomatch hp) ?_ ?_
    · rintro j y δ e ⟨e', rfl⟩
      obtain ⟨r, hr, rfl⟩ := map_some e
      have hj : j < net.length := (List.getElem?_eq_some_iff.mp hr).1
      have g := h.row r (List.mem_of_getElem? hr)
      rw [rowD_eq r]
      walk_at "a"
      refine f_app (by simp; unfold sizeLine; omega) ?_
      walk_at "a"
      rw [List.length_map, g.len, List.range_succ, List.map_append]
      exact ⟨_, rfl⟩
    · rintro δ ⟨e', rfl⟩
      rw [List.length_map, hl]
      have at0 : L2.atI ((List.range many).map fun _ => D.int (size : Nat)) 0 = some (.int (size : Nat)) := map_at (x := 0) (by decide) (by rw [List.getElem?_range (by simpa using m0)]; rfl)
      walk_at "a"
      refine f_ixL at0 ?_
      have s0 := h.s0
      walk_at "a"
      walk_at "x"
      · refine comp_map (fun _ => .bl true) rfl (fun p hp => by simp at hp; subst hp; simp) (fun p hp => by simp at hp; subst hp; rfl) (fun j y e => ?_) ?_
        · obtain ⟨i, hi, rfl⟩ := map_some e
          have hj : j < many := by
            have := (List.getElem?_eq_some_iff.mp hi).1
            simpa using this
          walk_at "a"
          refine f_ixL at0 ?_
          walk_at "a"
          refine m_end2 ?_ ?_ ?_
          · unfold sizeLine; omega
          · rfl
          · simp
        · walk_at "a"
          refine f_allT ?_
          walk_at "a"
          exact k

-- slots [(0, 'many'), (1, 'steps'), (2, 'lengths'), (3, 'row'), (4, 'length')]; stored [2, 3]

def T_is_number : DS := sret [] (tandV (tisi .int (tv 0)) (tnotV (tisi .bool (tv 0))))
theorem pf_is_number : ∀ δ Q3, sp_is_number δ Q3 → δ.length = 1 → (∀ (i : Nat) c, δ[i]? = some (E.ow c) → i ∈ ([] : List Nat) ∧ i ∉ ([] : List Nat)) ∧ T_is_number { nx := fun δ' => Q3 (.va .non) (outs δ δ'), rt := fun r δ' => Q3 r (outs δ δ') } (δ ++ List.replicate 0 E.no) := by
  rintro δ Q3 ⟨d, n, rfl, h, k⟩ hl
  refine ⟨own_by rfl, ?_⟩
  simp only [List.replicate, List.cons_append, List.nil_append]
  unfold T_is_number
  cases h <;>
  · walk_at "a"
    all_goals exact k

-- slots [(0, 'value')]; stored []

def T_is_index : DS := sret [] (tandV (tcall sp_is_number [false] (tac (tv 0) (ta0))) (tchain (fun i j => decide (i ≤ j)) (fun i j => decide (i < j)) (tc (.int 0)) (tv 0) (tv 1)))
theorem pf_is_index : ∀ δ Q3, sp_is_index δ Q3 → δ.length = 2 → (∀ (i : Nat) c, δ[i]? = some (E.ow c) → i ∈ ([] : List Nat) ∧ i ∉ ([] : List Nat)) ∧ T_is_index { nx := fun δ' => Q3 (.va .non) (outs δ δ'), rt := fun r δ' => Q3 r (outs δ δ') } (δ ++ List.replicate 0 E.no) := by
  rintro δ Q3 ⟨d, n, m, rfl, h, k⟩ hl
  refine ⟨own_by rfl, ?_⟩
  simp only [List.replicate, List.cons_append, List.nil_append]
  unfold T_is_index
  walk_at "a"
  refine ⟨_, _, rfl, h, ?_⟩
  cases h with
  | int i =>
    rw [show idxB m (.int i) = decide (0 ≤ i ∧ i < m) from rfl] at k
    rw [show intB (.int i) = true from rfl]
    walk_at "a"
    all_goals
      rename_i h
      simpa [outs, h] using k
  | _ =>
    simp only [intB]
    walk_at "a"
    exact k

-- slots [(0, 'value'), (1, 'many')]; stored []

def T_is_sign : DS := sret [] (tandV (tcall sp_is_number [false] (tac (tv 0) (ta0))) (torV (tb2 (bF eqF) (tv 0) (tc (.int 1))) (tb2 (bF eqF) (tv 0) (tb1 negF (tc (.int 1))))))
theorem pf_is_sign : ∀ δ Q3, sp_is_sign δ Q3 → δ.length = 1 → (∀ (i : Nat) c, δ[i]? = some (E.ow c) → i ∈ ([] : List Nat) ∧ i ∉ ([] : List Nat)) ∧ T_is_sign { nx := fun δ' => Q3 (.va .non) (outs δ δ'), rt := fun r δ' => Q3 r (outs δ δ') } (δ ++ List.replicate 0 E.no) := by
  rintro δ Q3 ⟨i, rfl, h, k⟩ hl
  refine ⟨own_by rfl, ?_⟩
  simp only [List.replicate, List.cons_append, List.nil_append]
  unfold T_is_sign
  walk_at "a"
  refine ⟨_, 0, rfl, .int _, ?_⟩
  rw [show intB (.int i) = true from rfl]
  walk_at "a"
  · exact k
  · rename_i h1
    have e : i = -1 := by omega
    simpa [outs, e] using k

-- slots [(0, 'value')]; stored []

def T_is_step : DS := sret [] (tandV (tisi .tuple (tv 0)) (tandV (tb2 (bF eqF) (tcb lenF (tac (tv 0) (ta0))) (tc (.int 2))) (tandV (tcall sp_is_index [false, false] (tac (tb2 ixF (tv 0) (tc (.int 0))) (tac (tv 1) (ta0)))) (tcall sp_is_sign [false] (tac (tb2 ixF (tv 0) (tc (.int 1))) (ta0))))))
theorem pf_is_step : ∀ δ Q3, sp_is_step δ Q3 → δ.length = 2 → (∀ (i : Nat) c, δ[i]? = some (E.ow c) → i ∈ ([] : List Nat) ∧ i ∉ ([] : List Nat)) ∧ T_is_step { nx := fun δ' => Q3 (.va .non) (outs δ δ'), rt := fun r δ' => Q3 r (outs δ δ') } (δ ++ List.replicate 0 E.no) := by
  rintro δ Q3 ⟨x, s, n, rfl, x0, x1, hs, k⟩ hl
  refine ⟨own_by rfl, ?_⟩
  simp only [List.replicate, List.cons_append, List.nil_append]
  unfold T_is_step
  unfold pairD
  walk_at "a"
  · refine ⟨_, 0, _, rfl, .int _, ?_⟩
    rw [show idxB n (.int x) = decide (0 ≤ x ∧ x < n) from rfl]
    rw [decide_eq_true (And.intro x0 x1)]
    walk_at "a"
    refine ⟨_, rfl, hs, ?_⟩
    walk_at "a"
    exact k
  · rename_i h
    exact absurd rfl h

-- slots [(0, 'value'), (1, 'copies')]; stored []

def T_wrong_step : DS := seq (sif (tnot (tt (tcall sp_has_step_rows [false, false] (tac (tv 0) (tac (tv 1) (ta0)))))) (sret [] (ttup (tac (tb1 negF (tc (.int 1))) (tac (tb1 negF (tc (.int 1))) (ta0))))) (snext)) (seq (sset 2 (tcb lenF (tac (tb2 ixF (tv 1) (tc (.int 0))) (ta0)))) (seq (sfor [3, 4, 5, 6] (ienum (tv 1)) (dTup 2 (dCons (dName 3) (dCons (dName 4) (dNil)))) (sfor [5, 6] (ienum (tv 4)) (dTup 2 (dCons (dName 5) (dCons (dName 6) (dNil)))) (sif (tnot (tt (tcall sp_is_step [false, false] (tac (tv 6) (tac (tv 2) (ta0)))))) (sret [] (ttup (tac (tv 3) (tac (tv 5) (ta0))))) (snext)))) (seq (sfor [3, 4, 5, 7, 8] (ienum (tv 1)) (dTup 2 (dCons (dName 3) (dCons (dName 4) (dNil)))) (sfor [5, 7, 8] (ienum (tv 4)) (dTup 2 (dCons (dName 5) (dCons (dTup 2 (dCons (dName 7) (dCons (dName 8) (dNil)))) (dNil)))) (sif (tt (tb2 (bF neF) (tb2 ixF (tv 4) (tv 7)) (ttup (tac (tv 5) (tac (tv 8) (ta0)))))) (sret [] (ttup (tac (tv 3) (tac (tv 5) (ta0))))) (snext)))) (sret [] (tc .non)))))
theorem pf_wrong_step : ∀ δ Q3, sp_wrong_step δ Q3 → δ.length = 2 → (∀ (i : Nat) c, δ[i]? = some (E.ow c) → i ∈ ([] : List Nat) ∧ i ∉ ([2, 3, 4, 5, 6, 7, 8] : List Nat)) ∧ T_wrong_step { nx := fun δ' => Q3 (.va .non) (outs δ δ'), rt := fun r δ' => Q3 r (outs δ δ') } (δ ++ List.replicate 7 E.no) := by
  rintro δ Q3 ⟨many, size, net, rfl, h, k⟩ hl
  have m0 := h.m0
  have m1 := h.m1
  have hlen := h.len
  obtain ⟨r0, hr0, g0⟩ := h.get m0
  refine ⟨own_by rfl, ?_⟩
  simp only [List.replicate, List.cons_append, List.nil_append]
  unfold T_wrong_step
  walk_at "a"
  refine ⟨_, size, _, rfl, h, ?_⟩
  unfold netD
  walk_at "a"
  walk_at "x"
  refine f_ixL (map_at (by omega) hr0) ?_
  unfold rowD
  walk_at "a"
  rw [List.length_map, g0.len]
  refine for_by (fun j δ => ∃ e3 e4 e5 e6 e7 e8, δ = [.va (.int (many : Nat)), .va (.lst (net.map rowD)), .va (.int (size : Nat)), e3, e4, e5, e6, e7, e8]) ⟨_, _, _, _, _, _, rfl⟩ (fun p hp => nomatch hp) (fun _ _ _ p hp => nomatch hp) ?_ ?_
  · rintro j y δ e ⟨e3, e4, e5, e6, e7, e8, rfl⟩
    obtain ⟨z, hz, rfl⟩ := enumD_get e
    obtain ⟨r, hr, rfl⟩ := map_some hz
    have g := h.row r (List.mem_of_getElem? hr)
    unfold rowD
    walk_at "a"
    refine for_by (fun i δ => ∃ e5 e6, δ = [.va (.int (many : Nat)), .va (.lst (net.map rowD)), .va (.int (size : Nat)), .va (.int ((0 + j : Nat) : Nat)), .va (.lst (r.map pairD)), e5, e6, e7, e8]) ⟨_, _, rfl⟩ (fun p hp => nomatch hp) (fun _ _ _ p hp => nomatch hp) ?_ ?_
    · rintro i y δ e ⟨e5, e6, rfl⟩
      obtain ⟨z, hz, rfl⟩ := enumD_get e
      obtain ⟨p, hp, rfl⟩ := map_some hz
      have hi : i < size := by rw [← g.len]; exact (List.getElem?_eq_some_iff.mp hp).1
      obtain ⟨x, s, e1, hx, hs, e2⟩ := g.ok i hi
      rw [hp] at e1
      cases e1
      walk_at "a"
      refine ⟨_, _, _, rfl, by omega, by omega, hs, ?_⟩
      walk_at "a"
      exact ⟨_, _, rfl⟩
    · rintro δ ⟨e5, e6, rfl⟩
      exact ⟨_, _, _, _, _, _, rfl⟩
  · rintro δ ⟨e3, e4, e5, e6, e7, e8, rfl⟩
    walk_at "a"
    refine for_by (fun j δ => ∃ e3 e4 e5 e6 e7 e8, δ = [.va (.int (many : Nat)), .va (.lst (net.map rowD)), .va (.int (size : Nat)), e3, e4, e5, e6, e7, e8]) ⟨_, _, _, _, _, _, rfl⟩ (fun p hp => nomatch hp) (fun _ _ _ p hp => nomatch hp) ?_ ?_
    · rintro j y δ e ⟨e3, e4, e5, e6, e7, e8, rfl⟩
      obtain ⟨z, hz, rfl⟩ := enumD_get e
      obtain ⟨r, hr, rfl⟩ := map_some hz
      have g := h.row r (List.mem_of_getElem? hr)
      unfold rowD
      walk_at "a"
      refine for_by (fun i δ => ∃ e5 e7 e8, δ = [.va (.int (many : Nat)), .va (.lst (net.map rowD)), .va (.int (size : Nat)), .va (.int ((0 + j : Nat) : Nat)), .va (.lst (r.map pairD)), e5, e6, e7, e8]) ⟨_, _, _, rfl⟩ (fun p hp => nomatch hp) (fun _ _ _ p hp => nomatch hp) ?_ ?_
      · rintro i y δ e ⟨e5, e7, e8, rfl⟩
        obtain ⟨z, hz, rfl⟩ := enumD_get e
        obtain ⟨p, hp, rfl⟩ := map_some hz
        have hi : i < size := by rw [← g.len]; exact (List.getElem?_eq_some_iff.mp hp).1
        obtain ⟨x, s, e1, hx, hs, e2⟩ := g.ok i hi
        rw [hp] at e1
        cases e1
        unfold pairD
        walk_at "a"
        refine f_ixL (map_at (f := pairD) (by omega) (x := ((i : Int), s)) e2) ?_
        walk_at "a"
        refine f_neP (b := true) (pu_pair ((i : Int), s)) (pu_pair ((0 + i : Nat), s)) (by omega) (by omega) (by simp [pairD]) ?_
        walk_at "a"
        exact ⟨_, _, _, rfl⟩
      · rintro δ ⟨e5, e7, e8, rfl⟩
        exact ⟨_, _, _, _, _, _, rfl⟩
    · rintro δ ⟨e3, e4, e5, e6, e7, e8, rfl⟩
      walk_at "a"
      exact k

-- slots [(0, 'many'), (1, 'steps'), (2, 'copies'), (3, 'side'), (4, 'row'), (5, 'copy'), (6, 'item'), (7, 'other'), (8, 'sign')]; stored [2, 3, 4, 5, 6, 7, 8]

def T_is_side_name : DS := seq (sif (tor (tnot (tt (tisi .str (tv 0)))) (tnot (tt (tchain (fun i j => decide (i ≤ j)) (fun i j => decide (i ≤ j)) (tc (.int 1)) (tcb lenF (tac (tv 0) (ta0))) (tc (.int 3)))))) (sret [] (tc (.bl false))) (snext)) (sret [] (tcb allF (tac (tcomp (istr (tv 0)) (dName 1) (tyes) (tb2 (bF inF) (tv 1) (tc (.str "abcdefghijklmnopqrstuvwxyz"))) [1]) (ta0))))
theorem pf_is_side_name : ∀ δ Q3, sp_is_side_name δ Q3 → δ.length = 1 → (∀ (i : Nat) c, δ[i]? = some (E.ow c) → i ∈ ([] : List Nat) ∧ i ∉ ([] : List Nat)) ∧ T_is_side_name { nx := fun δ' => Q3 (.va .non) (outs δ δ'), rt := fun r δ' => Q3 r (outs δ δ') } (δ ++ List.replicate 1 E.no) := by
  rintro δ Q3 ⟨x, rfl, h, k⟩ hl
  have l0 := h.l0
  have l1 := h.l1
  refine ⟨own_by rfl, ?_⟩
  simp only [List.replicate, List.cons_append, List.nil_append]
  unfold T_is_side_name
  walk_at "a"
  refine f_lenS (by unfold sizeLine; omega) ?_
  walk_at "a"
  walk_at "x"
  · refine comp_map (fun _ => .bl true) rfl (fun p hp => nomatch hp) (fun p hp => nomatch hp) (fun j y e => ?_) ?_
    · obtain ⟨c, hc, rfl⟩ := map_some e
      walk_at "a"
      refine f_inS (occ_letters c (h.ok c (List.mem_of_getElem? hc))) ?_
      have hj : j < x.cps.toList.length := (List.getElem?_eq_some_iff.mp hc).1
      exact m_end (k := j) rfl (by simp [Str.length] at l1; simp at hj; unfold sizeLine; omega) rfl rfl
    · walk_at "a"
      refine f_allT ?_
      walk_at "a"
      exact k

-- slots [(0, 'value'), (1, 'letter')]; stored []

def T_is_sides : DS := seq (sif (tor (tnot (tt (tisi .tuple (tv 0)))) (tt (tb2 (bF eqF) (tcb lenF (tac (tv 0) (ta0))) (tc (.int 0))))) (sret [] (tc (.bl false))) (snext)) (seq (ssetO 1 (tdnew)) (seq (sfor [2] (itup (tv 0)) (dName 2) (seq (sif (tor (tnot (tt (tcall sp_is_side_name [false] (tac (tv 2) (ta0))))) (tt (tdin (tv 2) (tv 1)))) (sret [] (tc (.bl false))) (snext)) (sdput (tv 1) (tv 2) (tc (.bl true))))) (sret [] (tc (.bl true)))))
theorem pf_is_sides : ∀ δ Q3, sp_is_sides δ Q3 → δ.length = 1 → (∀ (i : Nat) c, δ[i]? = some (E.ow c) → i ∈ ([] : List Nat) ∧ i ∉ ([1, 2] : List Nat)) ∧ T_is_sides { nx := fun δ' => Q3 (.va .non) (outs δ δ'), rt := fun r δ' => Q3 r (outs δ δ') } (δ ++ List.replicate 2 E.no) := by
  rintro δ Q3 ⟨ls, rfl, h, k⟩ hl
  have m0 := h.m0
  have m1 := h.m1
  refine ⟨own_by rfl, ?_⟩
  simp only [List.replicate, List.cons_append, List.nil_append]
  unfold T_is_sides
  unfold strsT
  walk_at "a"
  · rename_i h1
    simp at h1
    exact absurd h1 (by intro z; rw [z] at m0; simp at m0)
  · refine for_by (fun j δ => ∃ e, δ = [.va (.tup (ls.map D.str)), .ow (.d ((ls.take j).map fun x => (.inr x, .bl true))), e]) ⟨.no, by simp⟩ (fun p hp => nomatch hp) (fun _ _ _ p hp => nomatch hp) ?_ ?_
    · rintro j y δ e ⟨e', rfl⟩
      obtain ⟨x, hx, rfl⟩ := map_some e
      have hj : j < ls.length := (List.getElem?_eq_some_iff.mp hx).1
      have fresh : ∀ p ∈ (ls.take j).map fun x => ((.inr x : Key), (D.bl true)), p.1 ≠ .inr x := fun p hp z => by
        obtain ⟨y, hy, rfl⟩ := List.mem_map.mp hp
        have e2 : y = x := by injection z
        subst e2
        obtain ⟨i, hi, ei⟩ := List.mem_take_iff_getElem.mp hy
        have := nodup_inj h.nd (i := i) (j := j) (by rw [List.getElem?_eq_getElem (by omega), ei]) hx
        omega
      walk_at "a"
      refine ⟨_, rfl, h.ok x (List.mem_of_getElem? hx), ?_⟩
      walk_at "a"
      refine ⟨_, _, _, rfl, rfl, rfl, ?_⟩
      rw [vd_none fresh]
      walk_at "a"
      · rename_i z
        cases z
      · refine ⟨_, _, _, _, _, rfl, rfl, rfl, rfl, rfl, by simp; unfold sizeLine; omega, _, rfl, ?_⟩
        rw [pd_new fresh, List.take_add_one, hx, Option.toList_some, List.map_append]
        exact ⟨_, rfl⟩
    · rintro δ ⟨e', rfl⟩
      walk_at "a"
      exact k

-- slots [(0, 'value'), (1, 'met'), (2, 'name')]; stored [1, 2]

def T_Plan_init__ : DS := seq (sif (tnot (tt (tcall sp_is_sides [false] (tac (tv 1) (ta0))))) (snever) (snext)) (seq (sset 3 (tcall sp_wrong_step [false, false] (tac (tcb lenF (tac (tv 1) (ta0))) (tac (tv 2) (ta0))))) (seq (sif (tt (tb2 (bF nisF) (tv 3) (tc .non))) (snever) (snext)) (seq (ssetf "Plan" "sides" (tv 0) (tv 1)) (seq (ssetf "Plan" "copies" (tv 0) (tcb lenF (tac (tb2 ixF (tv 2) (tc (.int 0))) (ta0)))) (ssetf "Plan" "_steps" (tv 0) (tcomp (ilist (tv 2)) (dName 4) (tyes) (tcb listF (tac (tv 4) (ta0))) [4]))))))
theorem pf_Plan_init__ : ∀ δ Q3, sp_Plan_init__ δ Q3 → δ.length = 3 → (∀ (i : Nat) c, δ[i]? = some (E.ow c) → i ∈ ([0] : List Nat) ∧ i ∉ ([3] : List Nat)) ∧ T_Plan_init__ { nx := fun δ' => Q3 (.va .non) (outs δ δ'), rt := fun r δ' => Q3 r (outs δ δ') } (δ ++ List.replicate 2 E.no) := by
  rintro δ Q3 ⟨ls, size, net, rfl, hs, h, k⟩ hl
  have m0 := h.m0
  have m1 := h.m1
  have hlen := h.len
  obtain ⟨r0, hr0, g0⟩ := h.get m0
  refine ⟨own_by rfl, ?_⟩
  simp only [List.replicate, List.cons_append, List.nil_append]
  unfold T_Plan_init__
  walk_at "a"
  refine ⟨_, rfl, hs, ?_⟩
  unfold strsT
  walk_at "a"
  refine ⟨ls.length, size, net, by rw [List.length_map], h, ?_⟩
  walk_at "a"
  unfold netD
  refine f_ixL (map_at (by omega) hr0) ?_
  rw [rowD_eq r0]
  walk_at "a"
  rw [List.length_map, g0.len]
  walk_at "a"
  refine comp_map (fun j => rowD (net.getD j [])) rfl (fun p hp => nomatch hp) (fun p hp => nomatch hp) (fun j y e => ?_) ?_
  · obtain ⟨r, hr, rfl⟩ := map_some e
    have hj := (List.getElem?_eq_some_iff.mp hr).1
    rw [rowD_eq r]
    walk_at "a"
    refine m_end2 ?_ ?_ ?_
    · unfold sizeLine; omega
    · rfl
    · rw [List.getD_eq_getElem?_getD, hr]; rfl
  · rw [List.length_map, map_range_getD]
    walk_at "a"
    exact k

-- slots [(0, 'self'), (1, 'sides'), (2, 'steps'), (3, 'wrong'), (4, 'row')]; stored [3]

def T_law_plan : DS := sret [] (tmake "Plan" sp_Plan_init__ [false, false] (tac (tv 0) (tac (tcomp (ilist (tv 1)) (dName 2) (tyes) (tcb listF (tac (tv 2) (ta0))) [2]) (ta0))))
theorem pf_law_plan : ∀ δ Q3, sp_law_plan δ Q3 → δ.length = 2 → (∀ (i : Nat) c, δ[i]? = some (E.ow c) → i ∈ ([] : List Nat) ∧ i ∉ ([] : List Nat)) ∧ T_law_plan { nx := fun δ' => Q3 (.va .non) (outs δ δ'), rt := fun r δ' => Q3 r (outs δ δ') } (δ ++ List.replicate 1 E.no) := by
  rintro δ Q3 ⟨ls, size, net, rfl, hs, h, k⟩ hl
  have m0 := h.m0
  have m1 := h.m1
  have hlen := h.len
  refine ⟨own_by rfl, ?_⟩
  simp only [List.replicate, List.cons_append, List.nil_append]
  unfold T_law_plan
  unfold netD
  walk_at "a"
  refine comp_map (fun j => rowD (net.getD j [])) rfl (fun p hp => nomatch hp) (fun p hp => nomatch hp) (fun j y e => ?_) ?_
  · obtain ⟨r, hr, rfl⟩ := map_some e
    have hj := (List.getElem?_eq_some_iff.mp hr).1
    rw [rowD_eq r]
    walk_at "a"
    refine m_end2 ?_ ?_ ?_
    · unfold sizeLine; omega
    · rfl
    · rw [List.getD_eq_getElem?_getD, hr]; rfl
  · rw [List.length_map, map_range_getD]
    walk_at "a"
    refine ⟨ls, size, net, rfl, hs, h, ?_⟩
    refine ⟨rfl, _, _, _, rfl, ?_⟩
    walk_at "a"
    exact k

-- slots [(0, 'labels'), (1, 'net'), (2, 'x')]; stored []

def T_law_led : DS := seq (sset 3 (tc (.int 1))) (seq (sfor [2, 3, 4, 5] (itup (tv 1)) (dName 4) (seq (sset 5 (tb2 ixF (tb2 ixF (tv 0) (tv 4)) (tv 2))) (spar2 2 3 false false (tac (tb2 ixF (tv 5) (tc (.int 0))) (tac (tb2 timesF (tv 3) (tb2 ixF (tv 5) (tc (.int 1)))) (ta0)))))) (sret [] (ttup (tac (tv 2) (tac (tv 3) (ta0))))))
theorem pf_law_led : ∀ δ Q3, sp_law_led δ Q3 → δ.length = 3 → (∀ (i : Nat) c, δ[i]? = some (E.ow c) → i ∈ ([] : List Nat) ∧ i ∉ ([2, 3, 4, 5] : List Nat)) ∧ T_law_led { nx := fun δ' => Q3 (.va .non) (outs δ δ'), rt := fun r δ' => Q3 r (outs δ δ') } (δ ++ List.replicate 3 E.no) := by
  rintro δ Q3 ⟨many, size, net, w, x, rfl, gn, hw, wl, hx, kk⟩ hn
  refine ⟨own_by rfl, ?_⟩
  simp only [List.replicate, List.cons_append, List.nil_append]
  unfold T_law_led
  walk_at "a"
  refine for_by (fun j δ => ∃ e4 e5, δ = [.va (netD net), .va (.tup (natsD w)), .va (.int ((ledN net (w.take j) (x, 1)).1 : Nat)), .va (.int (ledN net (w.take j) (x, 1)).2), e4, e5]) ⟨_, _, rfl⟩ (fun p hp => nomatch hp) (fun _ _ _ p hp => nomatch hp) ?_ ?_
  · rintro j y δ e ⟨e4, e5, rfl⟩
    obtain ⟨c, hc, rfl⟩ := map_some e
    have hw' : ∀ k ∈ w.take j, k < many := fun k hk => hw k (List.mem_of_mem_take hk)
    obtain ⟨l1, _⟩ := ledN_ok gn hw' (p := (x, 1)) hx
    obtain ⟨r, hr, g⟩ := gn.get (hw c (List.mem_of_getElem? hc))
    obtain ⟨y, s, e1, hy, hsg, _⟩ := g.ok _ l1
    rw [netD_eq]
    walk_at "a"
    refine f_ixL (map_at (Int.natCast_nonneg _) hr) ?_
    rw [rowD_eq r]
    walk_at "a"
    refine f_ixL (map_at (Int.natCast_nonneg _) e1) ?_
    unfold pairD
    walk_at "a"
    rw [List.take_add_one, hc, Option.toList_some, ledN_snoc, stp_get hr e1]
    exact ⟨_, _, rfl⟩
  · rintro δ ⟨e4, e5, rfl⟩
    rw [natsD_len, List.take_length]
    walk_at "a"
    exact kk

-- slots [(0, 'net'), (1, 'way'), (2, 'x'), (3, 'sign'), (4, 'k'), (5, 'pair')]; stored [2, 3, 4, 5]

def T_law_table : DS := sgrid 2 (irng1 (tcb lenF (tac (tb2 ixF (tv 0) (tc (.int 0))) (ta0)))) (dName 6) (tyes) (tcomp (irng1 (tcb lenF (tac (tb2 ixF (tv 0) (tc (.int 0))) (ta0)))) (dName 3) (tyes) (tc (.int 0)) [3]) [6] (ypseq (yfor [3, 4, 5] (irng1 (tcb lenF (tac (tb2 ixF (tv 0) (tc (.int 0))) (ta0)))) (dName 3) (yseq (yplain (sset 4 (tcall sp_law_led [false, false, false] (tac (tv 0) (tac (tv 1) (tac (tv 3) (ta0))))))) (yhere 5 (tb2 ixF (tv 4) (tc (.int 0))) (sasg (tb2 ixF (tv 4) (tc (.int 1))) (dSub (tv 5) (tv 3)))))) (ypfree 2 (sret [] (tv 2))))
theorem pf_law_table : ∀ δ Q3, sp_law_table δ Q3 → δ.length = 2 → (∀ (i : Nat) c, δ[i]? = some (E.ow c) → i ∈ ([] : List Nat) ∧ i ∉ ([2, 3, 4, 5] : List Nat)) ∧ T_law_table { nx := fun δ' => Q3 (.va .non) (outs δ δ'), rt := fun r δ' => Q3 r (outs δ δ') } (δ ++ List.replicate 5 E.no) := by
  rintro δ Q3 ⟨many, size, net, w, rfl, gn, hw, wl, k⟩ hn
  obtain ⟨r0, hr0, g0⟩ := gn.get gn.m0
  have l0 := g0.len
  have s1 := gn.s1
  refine ⟨own_by rfl, ?_⟩
  simp only [List.replicate, List.cons_append, List.nil_append]
  unfold T_law_table
  rw [netD_eq]
  walk_at "a"
  refine f_ixL (map_at (by omega) hr0) ?_
  rw [rowD_eq r0]
  walk_at "a"
  rw [List.length_map, l0]
  refine ⟨by omega, ?_⟩
  refine grid_map (fun q => (List.range size).map fun _ => .int 0) (by simp) rfl (fun p hp => nomatch hp) (fun p hp => nomatch hp) (fun j y e => ?_) ?_
  · obtain ⟨hj, rfl⟩ := rangeD_get e
    rw [Int.toNat_natCast] at hj
    walk_at "a"
    refine f_ixL (map_at (by omega) hr0) ?_
    rw [rowD_eq r0]
    walk_at "a"
    rw [List.length_map, l0]
    refine ⟨by omega, ?_⟩
    refine comp_map (fun _ => .int 0) rfl (fun p hp => nomatch hp) (fun p hp => nomatch hp) (fun i y e => ?_) ?_
    · obtain ⟨hi, rfl⟩ := rangeD_get e
      rw [Int.toNat_natCast] at hi
      walk_at "a"
      exact m_end2 (by unfold sizeLine; omega) rfl rfl
    · rw [rangeD_len, Int.toNat_natCast]
      walk_at "a"
      refine ⟨by rw [List.length_map, List.length_range]; unfold sizeLine; omega, rfl, ?_⟩
      rw [List.range_succ, List.map_append]
      rfl
  · rw [rangeD_len, Int.toNat_natCast, ← tabJ_zero (n := net) (w := w)]
    walk_at "a"
    refine f_ixL (map_at (by omega) hr0) ?_
    rw [rowD_eq r0]
    walk_at "a"
    rw [List.length_map, l0]
    refine ⟨by omega, ?_⟩
    refine yfor_by (fun j δ rows => ∃ e3 e4, δ = [.va (.lst (net.map rowD)), .va (.tup (natsD w)), .no, e3, e4, .no, .no] ∧ rows = tabJ net size w j) ⟨_, _, rfl, rfl⟩ (by simp) (by rintro k δ rows _ p hp; simp at hp) ?_ ?_
    · rintro j x δ rows ex ⟨e3, e4, rfl, rfl⟩
      obtain ⟨hj, rfl⟩ := rangeD_get ex
      rw [Int.toNat_natCast] at hj
      rw [Int.zero_add]
      walk_at "a"
      refine ⟨many, size, net, w, j, rfl, gn, hw, wl, hj, ?_⟩
      unfold ledP
      walk_at "a"
      have l1 := (ledN_ok gn hw (p := (j, 1)) hj).1
      refine ⟨_, _, _, rfl, by rw [tabJ_len]; exact ix_nat l1, tabJ_get l1, _, rfl, ?_⟩
      walk_at "a"
      refine g_at rfl (by rw [List.length_map, List.length_range]; exact ix_nat hj) ?_
      refine ⟨_, rfl, ?_⟩
      walk_at "a"
      exact ⟨_, _, rfl, tabJ_set hj rfl l1⟩
    · rintro δ rows ⟨e3, e4, rfl, rfl⟩
      rw [rangeD_len, Int.toNat_natCast]
      walk_at "a"
      rw [tabJ_all]
      exact k

-- slots [(0, 'net'), (1, 'way'), (2, 'mine'), (3, 'x'), (4, 'told'), (5, 'here'), (6, 'y')]; stored [2, 3, 4, 5]

def T_law_equations : DS := seq (spar2 2 3 false true (tac (tcb lenF (tac (tb2 ixF (tv 0) (tc (.int 0))) (ta0))) (tac (tlst (ta0)) (ta0)))) (seq (sfor [4, 5, 6, 7, 8, 9, 10] (irng1 (tcb lenF (tac (tv 0) (ta0)))) (dName 4) (seq (spar2 5 6 false false (tac (tcall sp_law_table [false, false] (tac (tv 0) (tac (ttup (tac (tv 4) (ta0))) (ta0)))) (tac (tcall sp_law_table [false, false] (tac (tv 1) (tac (ttup (tac (tv 4) (ta0))) (ta0)))) (ta0)))) (sfor [7, 8, 9, 10] (irng1 (tcb lenF (tac (tb2 ixF (tv 1) (tc (.int 0))) (ta0)))) (dName 7) (sfor [8, 9, 10] (irng1 (tv 2)) (dName 8) (seq (ssetO 9 (tcomp (irng1 (tb2 timesF (tv 2) (tcb lenF (tac (tb2 ixF (tv 1) (tc (.int 0))) (ta0))))) (dName 10) (tyes) (tc (.int 0)) [10])) (seq (sfor [10] (irng1 (tv 2)) (dName 10) (sasg (tb2 plusF (tb2 ixF (tv 9) (tb2 plusF (tb2 timesF (tv 7) (tv 2)) (tv 10))) (tb2 ixF (tb2 ixF (tv 5) (tv 10)) (tv 8))) (dSub (tv 9) (tb2 plusF (tb2 timesF (tv 7) (tv 2)) (tv 10))))) (seq (sfor [10] (irng1 (tcb lenF (tac (tb2 ixF (tv 1) (tc (.int 0))) (ta0)))) (dName 10) (sasg (tb2 minusF (tb2 ixF (tv 9) (tb2 plusF (tb2 timesF (tv 10) (tv 2)) (tv 8))) (tb2 ixF (tb2 ixF (tv 6) (tv 7)) (tv 10))) (dSub (tv 9) (tb2 plusF (tb2 timesF (tv 10) (tv 2)) (tv 8))))) (sexpr (tlm appF (tv 3) (tac (tvz 9) (ta0))))))))))) (sret [] (tv 3)))
def eqK (a b : Net) (s1 s2 k : Nat) : List (Nat → Int) := (List.range k).flatMap fun k => (List.range s2).flatMap fun y => (List.range s1).map fun x => eqnF a b s1 k y x
def eqY (a b : Net) (s1 k y : Nat) : List (Nat → Int) := (List.range y).flatMap fun y => (List.range s1).map fun x => eqnF a b s1 k y x
def eqX (a b : Net) (s1 k y x : Nat) : List (Nat → Int) := (List.range x).map fun x => eqnF a b s1 k y x
theorem eqX_len {a b : Net} {s1 k y x : Nat} : (eqX a b s1 k y x).length = x := by simp [eqX]
theorem eqY_succ {a b : Net} {s1 k y : Nat} : eqY a b s1 k (y + 1) = eqY a b s1 k y ++ eqX a b s1 k y s1 := by
  unfold eqY
  rw [List.range_succ, List.flatMap_append, List.flatMap_singleton]
  rfl
theorem eqK_succ {a b : Net} {s1 s2 k : Nat} : eqK a b s1 s2 (k + 1) = eqK a b s1 s2 k ++ eqY a b s1 k s2 := by
  unfold eqK
  rw [List.range_succ, List.flatMap_append, List.flatMap_singleton]
  rfl
theorem eqY_len {a b : Net} {s1 k y : Nat} : (eqY a b s1 k y).length = y * s1 := by
  induction y with
  | zero => rw [Nat.zero_mul]; rfl
  | succ y ih => rw [eqY_succ, List.length_append, ih, eqX_len, Nat.succ_mul]
theorem eqK_len {a b : Net} {s1 s2 k : Nat} : (eqK a b s1 s2 k).length = k * (s2 * s1) := by
  induction k with
  | zero => rw [Nat.zero_mul]; rfl
  | succ k ih => rw [eqK_succ, List.length_append, ih, eqY_len, Nat.succ_mul]
/-- the row when the first z items of the one table are in it, w of the other -/
def eqP (a b : Net) (s1 k y x z w : Nat) (p : Nat) : Int := (if p / s1 = y ∧ p % s1 < z then entN a [k] (p % s1) x else 0) - (if p % s1 = x ∧ p / s1 < w then entN b [k] y (p / s1) else 0)
theorem eqP_zero {a b : Net} {s1 s2 k y x : Nat} : rowI (s2 * s1) (eqP a b s1 k y x 0 0) = (List.range (s2 * s1)).map fun _ => .int 0 := List.map_congr_left fun p _ => by
  unfold eqP
  rw [if_neg fun h => Nat.not_lt_zero _ h.2, if_neg fun h => Nat.not_lt_zero _ h.2]
  rfl
theorem eqP_all {a b : Net} {s1 s2 k y x : Nat} (h1 : 0 < s1) : rowI (s2 * s1) (eqP a b s1 k y x s1 s2) = rowI (s2 * s1) (eqnF a b s1 k y x) := List.map_congr_left fun p hp => by
  have hp := List.mem_range.mp hp
  have e1 : p % s1 < s1 := Nat.mod_lt _ h1
  have e2 : p / s1 < s2 := div_lt hp
  unfold eqP eqnF
  simp only [e1, e2, and_true]
theorem eqP_setz {a b : Net} {s1 s2 k y x z : Nat} (hy : y < s2) (hz : z < s1) : (rowI (s2 * s1) (eqP a b s1 k y x z 0)).set (y * s1 + z) (.int (eqP a b s1 k y x z 0 (y * s1 + z) + entN a [k] z x)) = rowI (s2 * s1) (eqP a b s1 k y x (z + 1) 0) := by
  refine rowI_set ?_ fun p hp hne => ?_
  · unfold eqP
    have h1 : ¬ (y = y ∧ z < z) := by omega
    have h2 : y = y ∧ z < z + 1 := by omega
    have h3 : ¬ (z = x ∧ y < 0) := by omega
    rw [pair_div hz, pair_mod hz, if_neg h1, if_pos h2, if_neg h3]
    omega
  · unfold eqP
    congr 1
    by_cases h : p / s1 = y ∧ p % s1 < z
    · rw [if_pos h, if_pos (by omega)]
    · rw [if_neg h, if_neg]
      rintro ⟨h1, h2⟩
      have h3 : p % s1 = z := by omega
      refine hne ?_
      rw [← h1, ← h3, pair_eq]
theorem eqP_setw {a b : Net} {s1 s2 k y x w : Nat} (hx : x < s1) (hw : w < s2) : (rowI (s2 * s1) (eqP a b s1 k y x s1 w)).set (w * s1 + x) (.int (eqP a b s1 k y x s1 w (w * s1 + x) - entN b [k] y w)) = rowI (s2 * s1) (eqP a b s1 k y x s1 (w + 1)) := by
  refine rowI_set ?_ fun p hp hne => ?_
  · unfold eqP
    have h1 : ¬ (x = x ∧ w < w) := by omega
    have h2 : x = x ∧ w < w + 1 := by omega
    rw [pair_div hx, pair_mod hx, if_neg h1, if_pos h2]
    omega
  · unfold eqP
    congr 1
    by_cases h : p % s1 = x ∧ p / s1 < w
    · rw [if_pos h, if_pos (by omega)]
    · rw [if_neg h, if_neg]
      rintro ⟨h1, h2⟩
      have h3 : p / s1 = w := by omega
      refine hne ?_
      rw [← h1, ← h3, pair_eq]
theorem pf_law_equations : ∀ δ Q3, sp_law_equations δ Q3 → δ.length = 2 → (∀ (i : Nat) c, δ[i]? = some (E.ow c) → i ∈ ([] : List Nat) ∧ i ∉ ([2, 3, 4, 5, 6, 7, 8, 9, 10] : List Nat)) ∧ T_law_equations { nx := fun δ' => Q3 (.va .non) (outs δ δ'), rt := fun r δ' => Q3 r (outs δ δ') } (δ ++ List.replicate 9 E.no) := by
  rintro δ Q3 ⟨many, s1, s2, a, b, rfl, ga, gb, hs, k⟩ hn
  obtain ⟨r0, hr0, g0⟩ := ga.get ga.m0
  have l0 := g0.len
  obtain ⟨r1, hr1, g1⟩ := gb.get gb.m0
  have l1 := g1.len
  have s10 := ga.s0
  have s11 := ga.s1
  have s20 := gb.s0
  have s21 := gb.s1
  have m1 := ga.m1
  have la := ga.len
  have i0 : L2.atI (a.map rowD) 0 = some (rowD r0) := map_at (by omega) hr0
  have i1 : L2.atI (b.map rowD) 0 = some (rowD r1) := map_at (by omega) hr1
  have pr : (s1 : Int) * (s2 : Int) = ((s2 * s1 : Nat) : Int) := by rw [Nat.mul_comm]; rfl
  refine ⟨own_by rfl, ?_⟩
  simp only [List.replicate, List.cons_append, List.nil_append]
  unfold T_law_equations
  rw [netD_eq, netD_eq]
  walk_at "a"
  refine f_ixL i0 ?_
  rw [rowD_eq r0]
  walk_at "a"
  rw [List.length_map, List.length_map, l0]
  refine ⟨by omega, ?_⟩
  refine for_by (fun j δ => ∃ e4 e5 e6 e7 e8 e9 e10, δ = [.va (.lst (a.map rowD)), .va (.lst (b.map rowD)), .va (.int (s1 : Nat)), .ow (.l (linesD (s2 * s1) (eqK a b s1 s2 j))), e4, e5, e6, e7, e8, e9, e10] ∧ NoO e10) ⟨_, _, _, _, _, _, _, rfl, noO_no⟩ (fun p hp => nomatch hp) (fun _ _ _ p hp => nomatch hp) ?_ ?_
  · rintro j y δ e ⟨e4, e5, e6, e7, e8, e9, e10, rfl, n10⟩
    obtain ⟨hj, rfl⟩ := rangeD_get e
    rw [Int.toNat_natCast, la] at hj
    rw [Int.zero_add]
    walk_at "a"
    refine ⟨many, s1, a, [j], rfl, ga, fun k hk => by rw [List.mem_singleton.mp hk]; exact hj, by simp, ?_⟩
    walk_at "a"
    refine ⟨many, s2, b, [j], rfl, gb, fun k hk => by rw [List.mem_singleton.mp hk]; exact hj, by simp, ?_⟩
    walk_at "a"
    refine f_ixL i1 ?_
    rw [rowD_eq r1]
    walk_at "a"
    rw [List.length_map, l1]
    refine ⟨by omega, ?_⟩
    refine for_by (fun y δ => ∃ e7 e8 e9 e10, δ = [.va (.lst (a.map rowD)), .va (.lst (b.map rowD)), .va (.int (s1 : Nat)), .ow (.l (linesD (s2 * s1) (eqK a b s1 s2 j ++ eqY a b s1 j y))), .va (.int (j : Nat)), .va (.lst (tabL a s1 [j])), .va (.lst (tabL b s2 [j])), e7, e8, e9, e10] ∧ NoO e10) ⟨_, _, _, _, by rw [show eqY a b s1 j 0 = [] from rfl, List.append_nil], n10⟩ (fun p hp => nomatch hp) (fun _ _ _ p hp => nomatch hp) ?_ ?_
    · rintro y v δ e ⟨e7, e8, e9, e10, rfl, n10⟩
      obtain ⟨hy, rfl⟩ := rangeD_get e
      rw [Int.toNat_natCast] at hy
      rw [Int.zero_add]
      walk_at "a"
      refine ⟨by omega, ?_⟩
      refine for_by (fun x δ => ∃ e8 e9 e10, δ = [.va (.lst (a.map rowD)), .va (.lst (b.map rowD)), .va (.int (s1 : Nat)), .ow (.l (linesD (s2 * s1) (eqK a b s1 s2 j ++ eqY a b s1 j y ++ eqX a b s1 j y x))), .va (.int (j : Nat)), .va (.lst (tabL a s1 [j])), .va (.lst (tabL b s2 [j])), .va (.int (y : Nat)), e8, e9, e10] ∧ NoO e10) ⟨_, _, _, by rw [show eqX a b s1 j y 0 = [] from rfl, List.append_nil], n10⟩ (fun p hp => nomatch hp) (fun _ _ _ p hp => nomatch hp) ?_ ?_
      · rintro x v δ e ⟨e8, e9, e10, rfl, n10⟩
        obtain ⟨hx, rfl⟩ := rangeD_get e
        rw [Int.toNat_natCast] at hx
        rw [Int.zero_add]
        walk_at "a"
        refine f_ixL i1 ?_
        rw [rowD_eq r1]
        walk_at "a"
        rw [List.length_map, l1, pr]
        refine ⟨by omega, ?_⟩
        have key : ∀ (p : Nat), p < s2 * s1 → L2.ixN (s2 * s1) ((p : Nat) : Int) = some p := fun p hp => ix_nat hp
        have tA : ∀ z, z < s1 → L2.atI (tabL a s1 [j]) (z : Int) = some (.lst (tabR a s1 [j] z)) := fun z hz => atI_get (Int.natCast_nonneg _) (by rw [Int.toNat_natCast]; exact tabL_at hz)
        have tB : L2.atI (tabL b s2 [j]) (y : Int) = some (.lst (tabR b s2 [j] y)) := atI_get (Int.natCast_nonneg _) (by rw [Int.toNat_natCast]; exact tabL_at hy)
        have tA2 : ∀ z, z < s1 → L2.atI (tabR a s1 [j] z) (x : Int) = some (.int (entN a [j] z x)) := fun z hz => atI_get (Int.natCast_nonneg _) (by rw [Int.toNat_natCast]; exact tabR_at hx)
        have tB2 : ∀ w, w < s2 → L2.atI (tabR b s2 [j] y) (w : Int) = some (.int (entN b [j] y w)) := fun w hw => atI_get (Int.natCast_nonneg _) (by rw [Int.toNat_natCast]; exact tabR_at hw)
        refine comp_map (fun _ => .int 0) (by cases e10 <;> first | rfl | exact absurd rfl (n10 _)) (fun p hp => nomatch hp) (fun p hp => nomatch hp) (fun z v e => ?_) ?_
        · obtain ⟨hz, rfl⟩ := rangeD_get e
          rw [Int.toNat_natCast] at hz
          walk_at "a"
          exact m_end2 (by unfold sizeLine; omega) rfl rfl
        rw [rangeD_len, Int.toNat_natCast, ← eqP_zero (a := a) (b := b) (k := j) (y := y) (x := x)]
        walk_at "a"
        refine ⟨by omega, ?_⟩
        refine for_by (fun z δ => ∃ e10, δ = [.va (.lst (a.map rowD)), .va (.lst (b.map rowD)), .va (.int (s1 : Nat)), .ow (.l (linesD (s2 * s1) (eqK a b s1 s2 j ++ eqY a b s1 j y ++ eqX a b s1 j y x))), .va (.int (j : Nat)), .va (.lst (tabL a s1 [j])), .va (.lst (tabL b s2 [j])), .va (.int (y : Nat)), .va (.int (x : Nat)), .ow (.l (rowI (s2 * s1) (eqP a b s1 j y x z 0))), e10] ∧ NoO e10) ⟨_, rfl, n10⟩ (fun p hp => nomatch hp) (fun _ _ _ p hp => nomatch hp) ?_ ?_
        · rintro z v δ e ⟨e10, rfl, n10⟩
          obtain ⟨hz, rfl⟩ := rangeD_get e
          rw [Int.toNat_natCast] at hz
          rw [Int.zero_add]
          have hp := pair_lt hz hy
          have eq : (y : Int) * (s1 : Int) + (z : Int) = ((y * s1 + z : Nat) : Int) := by simp
          walk_at "a"
          rw [eq]
          refine f_ixL (atI_get (Int.natCast_nonneg _) (by rw [Int.toNat_natCast]; exact rowI_at hp)) ?_
          walk_at "a"
          refine f_ixL (tA z hz) ?_
          walk_at "a"
          refine f_ixL (tA2 z hz) ?_
          walk_at "a"
          rw [eq]
          refine g_at rfl (by rw [rowI_len]; exact key _ hp) ?_
          rw [eqP_setz hy hz]
          walk_at "a"
          exact ⟨_, rfl, noO_va⟩
        rintro δ ⟨e10, rfl, n10⟩
        rw [rangeD_len, Int.toNat_natCast]
        walk_at "a"
        refine f_ixL i1 ?_
        rw [rowD_eq r1]
        walk_at "a"
        rw [List.length_map, l1]
        refine ⟨by omega, ?_⟩
        refine for_by (fun w δ => ∃ e10, δ = [.va (.lst (a.map rowD)), .va (.lst (b.map rowD)), .va (.int (s1 : Nat)), .ow (.l (linesD (s2 * s1) (eqK a b s1 s2 j ++ eqY a b s1 j y ++ eqX a b s1 j y x))), .va (.int (j : Nat)), .va (.lst (tabL a s1 [j])), .va (.lst (tabL b s2 [j])), .va (.int (y : Nat)), .va (.int (x : Nat)), .ow (.l (rowI (s2 * s1) (eqP a b s1 j y x s1 w))), e10] ∧ NoO e10) ⟨_, rfl, n10⟩ (fun p hp => nomatch hp) (fun _ _ _ p hp => nomatch hp) ?_ ?_
        · rintro w v δ e ⟨e10, rfl, n10⟩
          obtain ⟨hw, rfl⟩ := rangeD_get e
          rw [Int.toNat_natCast] at hw
          rw [Int.zero_add]
          have hp := pair_lt hx hw
          have eq : (w : Int) * (s1 : Int) + (x : Int) = ((w * s1 + x : Nat) : Int) := by simp
          walk_at "a"
          rw [eq]
          refine f_ixL (atI_get (Int.natCast_nonneg _) (by rw [Int.toNat_natCast]; exact rowI_at hp)) ?_
          walk_at "a"
          refine f_ixL tB ?_
          walk_at "a"
          refine f_ixL (tB2 w hw) ?_
          walk_at "a"
          rw [eq]
          refine g_at rfl (by rw [rowI_len]; exact key _ hp) ?_
          rw [eqP_setw hx hw]
          walk_at "a"
          exact ⟨_, rfl, noO_va⟩
        rintro δ ⟨e10, rfl, n10⟩
        rw [rangeD_len, Int.toNat_natCast, eqP_all s10]
        walk_at "a"
        refine f_app ?_ ?_
        · rw [linesD_len, List.length_append, List.length_append, eqK_len, eqY_len, eqX_len]
          have h1 : j * (s2 * s1) ≤ 8 * 1000 := Nat.mul_le_mul (by omega) hs
          have h2 : y * s1 ≤ s2 * s1 := Nat.mul_le_mul_right _ (by omega)
          unfold sizeLine
          omega
        walk_at "a"
        refine ⟨.va (.int (x : Nat)), .va (.lst (rowI (s2 * s1) (eqnF a b s1 j y x))), e10, ?_, n10⟩
        rw [show eqX a b s1 j y (x + 1) = eqX a b s1 j y x ++ [eqnF a b s1 j y x] from by unfold eqX; rw [List.range_succ, List.map_append]; rfl, ← List.append_assoc, linesD_app (gs := [_])]
        rfl
      · rintro δ ⟨e8, e9, e10, rfl, n10⟩
        rw [rangeD_len, Int.toNat_natCast, List.append_assoc, ← eqY_succ]
        exact ⟨_, _, _, _, rfl, n10⟩
    · rintro δ ⟨e7, e8, e9, e10, rfl, n10⟩
      rw [rangeD_len, Int.toNat_natCast, ← eqK_succ]
      exact ⟨_, _, _, _, _, _, _, rfl, n10⟩
  · rintro δ ⟨e4, e5, e6, e7, e8, e9, e10, rfl, n10⟩
    rw [rangeD_len, Int.toNat_natCast, la]
    walk_at "a"
    exact k

-- slots [(0, 'net'), (1, 'more'), (2, 'wide'), (3, 'mine'), (4, 'k'), (5, 'left'), (6, 'right'), (7, 'y'), (8, 'x'), (9, 'row'), (10, 'z')]; stored [2, 3, 4, 5, 6, 7, 8, 9, 10]

def T_law_divisor : DS := seq (sset 1 (tc (.int 0))) (seq (sfor [1, 2, 3, 4] (ilist (tv 0)) (dName 2) (seq (spar2 3 4 false false (tac (tv 1) (tac (tcb absF (tac (tv 2) (ta0))) (ta0)))) (seq (swhile (tt (tb2 (bF (iF (fun i j => decide (j < i)))) (tv 4) (tc (.int 0)))) (spar2 3 4 false false (tac (tv 4) (tac (tb2 modF (tcb intF (tac (tv 3) (ta0))) (tv 4)) (ta0))))) (sset 1 (tv 3))))) (sret [] (tif (tt (tb2 (bF (iF (fun i j => decide (j < i)))) (tv 1) (tc (.int 0)))) (tv 1) (tc (.int 1)))))
def hiOf (i : Nat) (δ : En) : Nat := match δ[i]? with
  | some (.va (.int k)) => k.toNat
  | _ => 0
theorem pf_law_divisor : ∀ δ Q3, sp_law_divisor δ Q3 → δ.length = 1 → (∀ (i : Nat) c, δ[i]? = some (E.ow c) → i ∈ ([] : List Nat) ∧ i ∉ ([1, 2, 3, 4] : List Nat)) ∧ T_law_divisor { nx := fun δ' => Q3 (.va .non) (outs δ δ'), rt := fun r δ' => Q3 r (outs δ δ') } (δ ++ List.replicate 4 E.no) := by
  rintro δ Q3 ⟨n, f, rfl, k⟩ hn
  refine ⟨own_by rfl, ?_⟩
  simp only [List.replicate, List.cons_append, List.nil_append]
  unfold T_law_divisor
  walk_at "a"
  refine for_by (fun j δ => ∃ (t : Int) (e2 e3 e4 : E), δ = [.va (.lst (rowI n f)), .va (.int t), e2, e3, e4] ∧ 0 ≤ t ∧ (∀ z, z < j → t ∣ f z) ∧ (t ≠ 0 → ∃ z, z < n ∧ f z ≠ 0)) ⟨0, _, _, _, rfl, by omega, fun z hz => absurd hz (Nat.not_lt_zero _), fun h => absurd rfl h⟩ (fun p hp => nomatch hp) (fun _ _ _ p hp => nomatch hp) ?_ ?_
  · rintro j y δ e ⟨t, e2, e3, e4, rfl, t0, td, tn⟩
    obtain ⟨hj, rfl⟩ := rowI_get e
    walk_at "a"
    refine f_abs ?_
    walk_at "a"
    refine s_while (fun δ => ∃ lo hi : Int, δ = [.va (.lst (rowI n f)), .va (.int t), .va (.int (f j)), .va (.int lo), .va (.int hi)] ∧ 0 ≤ lo ∧ 0 ≤ hi ∧ (∀ d : Int, d ∣ lo → d ∣ hi → d ∣ t ∧ d ∣ f j) ∧ (lo ≠ 0 ∨ hi ≠ 0 → t ≠ 0 ∨ f j ≠ 0)) (fun δ => hiOf 4 δ) ⟨t, if f j < 0 then -f j else f j, rfl, t0, by split <;> omega, fun d h1 h2 => ⟨h1, ?_⟩, ?_⟩ ?_
    · split at h2
      · exact Int.dvd_neg.mp h2
      · exact h2
    · intro h
      rcases h with h | h
      · exact .inl h
      · right
        split at h <;> omega
    · rintro δ ⟨lo, hi, rfl, l0, h0, hd, hne⟩
      walk_at "a"
      · rename_i hp
        refine ⟨⟨hi, lo % hi, rfl, h0, Int.emod_nonneg _ (by omega), fun d h1 h2 => ?_, fun _ => hne (.inr (by omega))⟩, ?_⟩
        · refine hd d ?_ h1
          have := Int.emod_add_mul_ediv lo hi
          rw [← this]
          exact Int.dvd_add h2 (Int.dvd_trans h1 (Int.dvd_mul_right _ _))
        · show (lo % hi).toNat < hi.toNat
          have := Int.emod_lt_of_pos lo (show 0 < hi by omega)
          have := Int.emod_nonneg lo (show hi ≠ 0 by omega)
          omega
      · rename_i hp
        have hz : hi = 0 := by omega
        subst hz
        obtain ⟨d1, d2⟩ := hd lo (Int.dvd_refl _) (Int.dvd_zero _)
        refine ⟨lo, _, _, _, rfl, l0, fun z hz => ?_, fun h => ?_⟩
        · rcases Nat.lt_or_ge z j with c | c
          · exact Int.dvd_trans d1 (td z c)
          · have : z = j := by omega
            rw [this]
            exact d2
        · rcases hne (.inl h) with h | h
          · exact tn h
          · exact ⟨j, hj, h⟩
  · rintro δ ⟨t, e2, e3, e4, rfl, t0, td, tn⟩
    rw [rowI_len] at td
    walk_at "a"
    · rename_i hp
      exact k t (by omega) td (.inr (tn (by omega)))
    · exact k 1 (by omega) (fun z _ => Int.one_dvd _) (.inl rfl)

-- slots [(0, 'row'), (1, 'total'), (2, 'x'), (3, 'low'), (4, 'high')]; stored [1, 2, 3, 4]

def T_law_independent : DS := seq (spar2 1 2 true false (tac (tcomp (ilist (tv 0)) (dName 6) (tt (tcb anyF (tac (tcomp (ilist (tv 6)) (dName 10) (tyes) (tb2 (bF neF) (tv 10) (tc (.int 0))) [10]) (ta0)))) (tv 6) [6]) (tac (tc (.int 0)) (ta0)))) (seq (sfor [1, 2, 3, 4, 5, 6, 7, 8] (irng1 (tif (tt (tb2 (bF neF) (tv 0) (tlst (ta0)))) (tcb lenF (tac (tb2 ixF (tv 0) (tc (.int 0))) (ta0))) (tc (.int 0)))) (dName 3) (seq (sset 4 (tcomp (ilist (tv 1)) (dName 6) (tt (tb2 (bF neF) (tb2 ixF (tv 6) (tv 3)) (tc (.int 0)))) (tv 6) [6])) (sif (tt (tb2 (bF neF) (tv 4) (tlst (ta0)))) (seq (sasg (ttup (tac (tb2 ixF (tv 4) (tc (.int 0))) (tac (tb2 plusF (tv 2) (tc (.int 1))) (ta0)))) (dTup 2 (dCons (dName 5) (dCons (dName 2) (dNil))))) (seq (ssetO 1 (tcomp (ilist (tv 1)) (dName 6) (tt (tb2 (bF eqF) (tb2 ixF (tv 6) (tv 3)) (tc (.int 0)))) (tv 6) [6])) (sfor [6, 7, 8] (ilist (tslice (tv 4) (tpart (tc (.int 1))) (tno))) (dName 6) (seq (sset 7 (tcomp (irng1 (tcb lenF (tac (tv 5) (ta0)))) (dName 9) (tyes) (tb2 minusF (tb2 timesF (tb2 ixF (tv 5) (tv 3)) (tb2 ixF (tv 6) (tv 9))) (tb2 timesF (tb2 ixF (tv 6) (tv 3)) (tb2 ixF (tv 5) (tv 9)))) [9])) (seq (sset 8 (tcall sp_law_divisor [false] (tac (tv 7) (ta0)))) (sif (tt (tcb anyF (tac (tcomp (ilist (tv 7)) (dName 10) (tyes) (tb2 (bF neF) (tv 10) (tc (.int 0))) [10]) (ta0)))) (sexpr (tlm appF (tv 1) (tac (tcomp (ilist (tv 7)) (dName 10) (tyes) (tb2 fdivF (tv 10) (tv 8)) [10]) (ta0)))) (snext))))))) (snext)))) (sret [] (tv 2)))
theorem cutL_tail {α : Type} {x : α} {xs : List α} : cutL (x :: xs) (some 1) none = xs := by
  have e1 : HT.sIx (x :: xs).length 0 (some 1) = 1 := by
    simp [HT.sIx, List.length_cons]
  have e2 : HT.sIx (x :: xs).length (x :: xs).length none = xs.length + 1 := rfl
  unfold cutL
  rw [e1, e2]
  simp
def anyR (n : Nat) (f : Nat → Int) : Bool := (List.range n).any fun z => !(decide (f z = 0))
theorem anyR_no {n : Nat} {f : Nat → Int} (h : anyR n f = false) (z : Nat) (hz : z < n) : f z = 0 := by
  unfold anyR at h
  have := List.any_eq_false.mp h z (List.mem_range.mpr hz)
  simpa using this
theorem pf_law_independent : ∀ δ Q3, sp_law_independent δ Q3 → δ.length = 1 → (∀ (i : Nat) c, δ[i]? = some (E.ow c) → i ∈ ([] : List Nat) ∧ i ∉ ([1, 2, 3, 4, 5, 6, 7, 8] : List Nat)) ∧ T_law_independent { nx := fun δ' => Q3 (.va .non) (outs δ δ'), rt := fun r δ' => Q3 r (outs δ δ') } (δ ++ List.replicate 10 E.no) := by
  rintro δ Q3 ⟨n, fs, rfl, n1, fl, fk, k⟩ hn
  refine ⟨own_by rfl, ?_⟩
  simp only [List.replicate, List.cons_append, List.nil_append]
  unfold T_law_independent
  walk_at "a"
  refine comp_by (fun j acc δ => acc = linesD n ((fs.take j).filter (anyR n)) ∧ δ = [.va (.lst (linesD n fs)), .no, .no, .no, .no, .no, .no, .no, .no, .no, .no]) ⟨rfl, rfl⟩ rfl (fun p hp => nomatch hp) (fun _ _ _ _ p hp => nomatch hp) ?_ ?_
  · rintro j y acc δ e ⟨rfl, rfl⟩
    obtain ⟨f, ef, rfl⟩ := linesD_get e
    have hj := (List.getElem?_eq_some_iff.mp ef).1
    walk_at "a"
    refine comp_map (fun z => .bl (!(decide (f z = 0)))) rfl (fun p hp => nomatch hp) (fun p hp => nomatch hp) (fun z y e => ?_) ?_
    · obtain ⟨hz, rfl⟩ := rowI_get e
      walk_at "a"
      exact m_end2 (by unfold sizeLine; omega) rfl rfl
    rw [rowI_len]
    walk_at "a"
    refine f_anyR ?_
    walk_at "a"
    · rename_i hb
      refine ⟨?_, ?_, rfl⟩
      · rw [linesD_len]
        have := List.length_filter_le (anyR n) (fs.take j)
        rw [List.length_take] at this
        unfold sizeLine
        omega
      · rw [filt_take ef, if_pos (show anyR n f = true from hb), linesD_app]
        rfl
    · rename_i hb
      refine ⟨?_, rfl⟩
      rw [filt_take ef, if_neg (show ¬ anyR n f = true by rw [show anyR n f = false from hb]; decide), List.append_nil]
  rintro acc δ ⟨rfl, rfl⟩
  rw [linesD_len, List.take_length]
  have w0 : ElimW n fs 0 (fs.filter (anyR n)) [] := ElimW.start (fun f _ h => anyR_no h) fk
  walk_at "a"
  refine f_neP (b := decide (fs = [])) linesD_pu (pu_nil (n := 0)) (by omega) (by omega) ⟨fun h => by rw [of_decide_eq_true h]; rfl, fun h => decide_eq_true (List.map_eq_nil_iff.mp (D.lst.inj h))⟩ ?_
  by_cases he : fs = []
  · rw [decide_eq_true he]
    walk_at "a"
    refine ⟨by omega, ?_⟩
    refine for_by (fun j δ => δ = [.va (.lst (linesD n fs)), .ow (.l (linesD n (fs.filter (anyR n)))), .va (.int 0), .no, .no, .no, .no, .no, .no, .no, .no]) rfl (fun p hp => nomatch hp) (fun _ _ _ p hp => nomatch hp) (fun j y δ e _ => by simp [rangeD] at e) ?_
    rintro δ rfl
    walk_at "a"
    exact k [] (.nil _) fun X => by rw [he]; exact ⟨fun _ _ h => (nomatch h), fun _ _ h => (nomatch h)⟩
  obtain ⟨f0, ft, e0⟩ : ∃ f0 ft, fs = f0 :: ft := by
    cases fs with
    | nil => exact absurd rfl he
    | cons a b => exact ⟨a, b, rfl⟩
  have at0 : (linesD n fs)[0]? = some (.lst (rowI n f0)) := by rw [e0]; rfl
  rw [decide_eq_false he]
  walk_at "a"
  refine f_ixL (atI_get (by omega) at0) ?_
  walk_at "a"
  rw [rowI_len]
  refine ⟨by omega, ?_⟩
  refine for_by (fun j δ => ∃ rest ls e3 e4 e5 e6 e7 e8, δ = [.va (.lst (linesD n fs)), .ow (.l (linesD n rest)), .va (.int (ls.length : Nat)), e3, e4, e5, e6, e7, e8, .no, .no] ∧ ElimW n fs j rest ls ∧ NoO e6) ⟨_, [], _, _, _, _, _, _, rfl, w0, noO_no⟩ (fun p hp => nomatch hp) (fun _ _ _ p hp => nomatch hp) ?_ ?_
  · rintro j y δ e ⟨rest, ls, e3, e4, e5, e6, e7, e8, rfl, w, n6⟩
    obtain ⟨hj, rfl⟩ := rangeD_get e
    rw [Int.toNat_natCast] at hj
    rw [Int.zero_add]
    have wc := w.cnt
    have ixj : ∀ f : Nat → Int, L2.atI (rowI n f) (j : Int) = some (.int (f j)) := fun f => atI_get (Int.natCast_nonneg _) (by rw [Int.toNat_natCast]; exact rowI_at hj)
    walk_at "a"
    refine comp_by (fun i acc δ => acc = linesD n ((rest.take i).filter (fun f => decide (f j ≠ 0))) ∧ δ = [.va (.lst (linesD n fs)), .ow (.l (linesD n rest)), .va (.int (ls.length : Nat)), .va (.int (j : Nat)), e4, e5, e6, e7, e8, .no, .no]) ⟨rfl, rfl⟩ (by cases e6 <;> first | rfl | exact absurd rfl (n6 _)) (by simp) (by rintro i acc δ ⟨_, rfl⟩ p hp; simp at hp; subst hp; rfl) ?_ ?_
    · rintro i y acc δ e ⟨rfl, rfl⟩
      obtain ⟨f, ef, rfl⟩ := linesD_get e
      have hi := (List.getElem?_eq_some_iff.mp ef).1
      walk_at "a"
      refine f_ixL (ixj f) ?_
      walk_at "a"
      · rename_i hb
        refine ⟨?_, rfl⟩
        rw [filt_take ef, if_neg (by simpa using hb), List.append_nil]
      · rename_i hb
        refine ⟨?_, ?_, rfl⟩
        · rw [linesD_len]
          have := List.length_filter_le (fun f => decide (f j ≠ 0)) (rest.take i)
          rw [List.length_take] at this
          unfold sizeLine
          omega
        · rw [filt_take ef, if_pos (decide_eq_true hb), linesD_app]
          rfl
    rintro acc δ ⟨rfl, rfl⟩
    rw [linesD_len, List.take_length]
    walk_at "a"
    generalize hH : rest.filter (fun f => decide (f j ≠ 0)) = H
    refine f_neP (b := decide (H = [])) linesD_pu (pu_nil (n := 0)) (by omega) (by omega) ⟨fun h => by rw [of_decide_eq_true h]; rfl, fun h => decide_eq_true (List.map_eq_nil_iff.mp (D.lst.inj h))⟩ ?_
    cases H with
    | nil =>
      rw [decide_eq_true rfl]
      walk_at "a"
      exact ⟨rest, ls, _, _, _, _, _, _, rfl, w.none_ hH, n6⟩
    | cons lead tail =>
      rw [decide_eq_false (by simp)]
      have al := w.alone hj hH
      have mem : ∀ r, r ∈ lead :: tail → r ∈ rest ∧ r j ≠ 0 := fun r hr => by
        rw [← hH, List.mem_filter, decide_eq_true_iff] at hr
        exact hr
      obtain ⟨m1, m2⟩ := mem lead List.mem_cons_self
      have tl : tail.length < rest.length := by
        have := List.length_filter_le (fun f => decide (f j ≠ 0)) rest
        rw [hH, List.length_cons] at this
        omega
      walk_at "a"
      refine f_ixL (atI_get (d := .lst (rowI n lead)) (by omega) rfl) ?_
      walk_at "a"
      refine comp_by (fun i acc δ => acc = linesD n ((rest.take i).filter (fun f => decide (f j = 0))) ∧ δ = [.va (.lst (linesD n fs)), .ow (.l (linesD n rest)), .va (.int ((ls.length : Nat) + 1)), .va (.int (j : Nat)), .va (.lst (linesD n (lead :: tail))), .va (.lst (rowI n lead)), e6, e7, e8, .no, .no]) ⟨rfl, rfl⟩ (by cases e6 <;> first | rfl | exact absurd rfl (n6 _)) (by simp) (by rintro i acc δ ⟨_, rfl⟩ p hp; simp at hp; subst hp; rfl) ?_ ?_
      · rintro i y acc δ e ⟨rfl, rfl⟩
        obtain ⟨f, ef, rfl⟩ := linesD_get e
        have hi := (List.getElem?_eq_some_iff.mp ef).1
        walk_at "a"
        refine f_ixL (ixj f) ?_
        walk_at "a"
        · rename_i hb
          refine ⟨?_, ?_, rfl⟩
          · rw [linesD_len]
            have := List.length_filter_le (fun f => decide (f j = 0)) (rest.take i)
            rw [List.length_take] at this
            unfold sizeLine
            omega
          · rw [filt_take ef, if_pos (decide_eq_true hb), linesD_app]
            rfl
        · rename_i hb
          refine ⟨?_, rfl⟩
          rw [filt_take ef, if_neg (by simpa using hb), List.append_nil]
      rintro acc δ ⟨rfl, rfl⟩
      rw [linesD_len, List.take_length]
      walk_at "a"
      have cut : cutL (linesD n (lead :: tail)) (some 1) none = linesD n tail := by
        exact cutL_tail
      rw [cut]
      have z0 := List.length_filter_le (fun f => decide (f j = 0)) rest
      refine for_by (fun i δ => ∃ news e6 e7 e8, δ = [.va (.lst (linesD n fs)), .ow (.l (linesD n (rest.filter (fun f => decide (f j = 0)) ++ news))), .va (.int ((ls.length : Nat) + 1)), .va (.int (j : Nat)), .va (.lst (linesD n (lead :: tail))), .va (.lst (rowI n lead)), e6, e7, e8, .no, .no] ∧ Elim1 n j lead (tail.take i) news ∧ news.length ≤ i ∧ (∀ f ∈ news, Short n f) ∧ NoO e6) ⟨[], _, _, _, by rw [List.append_nil], Elim1.nil, Nat.zero_le _, fun _ h => (nomatch h), n6⟩ (fun p hp => nomatch hp) (fun _ _ _ p hp => nomatch hp) ?_ ?_
      · rintro i y δ e ⟨news, e6, e7, e8, rfl, el, nl, ns, n6⟩
        obtain ⟨x, ex, rfl⟩ := linesD_get e
        have hi := (List.getElem?_eq_some_iff.mp ex).1
        have xm := List.mem_of_getElem? ex
        obtain ⟨x1, x2⟩ := mem x (List.mem_cons_of_mem _ xm)
        have sh : ∀ f ∈ rest, Short n f := by
          rcases al with h | h
          · exact h
          · rw [h] at xm
            exact nomatch xm
        have sl := sh lead m1
        have sx := sh x x1
        have b1 := sl.bnd hj
        have b2 := sx.bnd hj
        have bC : ∀ z, z < n → (combF lead x j z).natAbs ≤ 8 := fun z hz => by
          have b3 := sl.bnd hz
          have b4 := sx.bnd hz
          unfold combF
          have m1 : (lead j * x z).natAbs ≤ 2 * 2 := by rw [Int.natAbs_mul]; exact Nat.mul_le_mul b1 b4
          have m2 : (x j * lead z).natAbs ≤ 2 * 2 := by rw [Int.natAbs_mul]; exact Nat.mul_le_mul b2 b3
          omega
        walk_at "a"
        rw [rowI_len]
        refine ⟨by omega, ?_⟩
        refine comp_map (fun z => .int (combF lead x j z)) rfl (fun p hp => nomatch hp) (fun p hp => nomatch hp) (fun z y e => ?_) ?_
        · obtain ⟨hz, rfl⟩ := rangeD_get e
          rw [Int.toNat_natCast] at hz
          rw [Int.zero_add]
          have ixz : ∀ f : Nat → Int, L2.atI (rowI n f) (z : Int) = some (.int (f z)) := fun f => atI_get (Int.natCast_nonneg _) (by rw [Int.toNat_natCast]; exact rowI_at hz)
          walk_at "a"
          refine f_ixL (ixj lead) ?_
          walk_at "a"
          refine f_ixL (ixz x) ?_
          walk_at "a"
          refine f_ixL (ixj x) ?_
          walk_at "a"
          refine f_ixL (ixz lead) ?_
          walk_at "a"
          exact m_end2 (by unfold sizeLine; omega) rfl rfl
        rw [rangeD_len, Int.toNat_natCast, show (List.range n).map (fun z => D.int (combF lead x j z)) = rowI n (combF lead x j) from rfl]
        walk_at "a"
        refine ⟨n, combF lead x j, rfl, fun g g0 gd gn => ?_⟩
        have g8 : g ≤ 8 := by
          rcases gn with h | ⟨z, hz, hne⟩
          · omega
          · have d := Int.le_of_dvd (show 0 < ((combF lead x j z).natAbs : Int) by omega) (Int.dvd_natAbs.mpr (gd z hz))
            have := bC z hz
            omega
        walk_at "a"
        refine comp_map (fun z => .bl (!(decide (combF lead x j z = 0)))) rfl (fun p hp => nomatch hp) (fun p hp => nomatch hp) (fun z y e => ?_) ?_
        · obtain ⟨hz, rfl⟩ := rowI_get e
          walk_at "a"
          exact m_end2 (by unfold sizeLine; omega) rfl rfl
        rw [rowI_len]
        walk_at "a"
        refine f_anyR ?_
        walk_at "a"
        · refine comp_map (fun z => .int (combF lead x j z / g)) rfl (fun p hp => nomatch hp) (fun p hp => nomatch hp) (fun z y e => ?_) ?_
          · obtain ⟨hz, rfl⟩ := rowI_get e
            walk_at "a"
            exact m_end2 (by unfold sizeLine; omega) rfl rfl
          rw [rowI_len]
          walk_at "a"
          refine f_app (by rw [linesD_len, List.length_append]; unfold sizeLine; omega) ?_
          walk_at "a"
          refine ⟨news ++ [fun z => combF lead x j z / g], .va (.lst (rowI n x)), .va (.lst (rowI n (combF lead x j))), .va (.int g), ?_, ?_, by rw [List.length_append]; exact Nat.succ_le_succ nl, fun f hf => ?_, noO_va⟩
          · rw [← List.append_assoc, linesD_app (gs := [_])]
            rfl
          · rw [List.take_add_one, ex]
            exact el.snoc m2 (w.at_.low lead m1) (w.at_.low x x1) hj g0 gd
          · rcases List.mem_append.mp hf with hf | hf
            · exact ns f hf
            · rw [List.mem_singleton.mp hf]
              exact sl.comb sx hj m2 x2 g0 gd
        · rename_i hb
          refine ⟨news, .va (.lst (rowI n x)), .va (.lst (rowI n (combF lead x j))), .va (.int g), rfl, ?_, by omega, ns, noO_va⟩
          rw [List.take_add_one, ex]
          exact el.zero m2 (anyR_no hb)
      · rintro δ ⟨news, e6, e7, e8, rfl, el, nl, ns, n6⟩
        rw [linesD_len, List.take_length] at el
        rw [linesD_len] at nl
        refine ⟨_, ls ++ [(j, lead)], .va (.int (j : Nat)), .va (.lst (linesD n (lead :: tail))), .va (.lst (rowI n lead)), e6, e7, e8, ?_, w.step hj hH el nl (.inl ns) al, n6⟩
        rw [List.length_append]
        rfl
  · rintro δ ⟨rest, ls, e3, e4, e5, e6, e7, e8, rfl, w, n6⟩
    rw [rangeD_len, Int.toNat_natCast] at w
    walk_at "a"
    obtain ⟨f1, f2⟩ := w.at_.fin
    exact k ls f1 f2

-- slots [(0, 'lines'), (1, 'rest'), (2, 'found'), (3, 'spot'), (4, 'heads'), (5, 'lead'), (6, 'x'), (7, 'row'), (8, 'by'), (9, 'z'), (10, 'y')]; stored [1, 2, 3, 4, 5, 6, 7, 8]

def T_law_like (s0 : DSp) : DS := seq (sif (tt (tisi2 .list .tuple (tv 1))) (seq (sif (tor (tt (tb2 (bF neF) (tisi .list (tv 0)) (tisi .list (tv 1)))) (tt (tb2 (bF neF) (tisi .tuple (tv 0)) (tisi .tuple (tv 1))))) (sret [0, 1] (tc (.bl false))) (snext)) (sret [0, 1] (tandV (tb2 (bF eqF) (tcb lenF (tac (tv 0) (ta0))) (tcb lenF (tac (tv 1) (ta0)))) (tcb allF (tac (tcomp (izipA (tv 0) (tv 1)) (dTup 2 (dCons (dName 2) (dCons (dName 3) (dNil)))) (tyes) (tcall s0 [true, true] (tac (tv 2) (tac (tv 3) (ta0)))) [2, 3]) (ta0)))))) (snext)) (seq (sif (tor (tt (tb2 (bF isF) (tv 1) (tc .non))) (tt (tb2 (bF isF) (tv 0) (tc .non)))) (sret [0, 1] (tandV (tb2 (bF isF) (tv 1) (tc .non)) (tb2 (bF isF) (tv 0) (tc .non)))) (snext)) (seq (sif (tor (tt (tisi2 .list .tuple (tv 0))) (tt (tb2 (bF neF) (tisi .bool (tv 0)) (tisi .bool (tv 1))))) (sret [0, 1] (tc (.bl false))) (snext)) (seq (sif (tor (tt (tb2 (bF neF) (tisi .str (tv 0)) (tisi .str (tv 1)))) (tt (tb2 (bF neF) (tisi .int (tv 0)) (tisi .int (tv 1))))) (sret [0, 1] (tc (.bl false))) (snext)) (sret [0, 1] (tandV (tb2 (bF eqF) (tisi .dict (tv 0)) (tisi .dict (tv 1))) (tb2 (bF eqF) (tv 0) (tv 1)))))))
def isOD : D → Bool
  | .obj _ _ _ => true
  | .dct _ _ => true
  | _ => false
theorem zE_cases {e : E} {d : D} (h : zE (some e) = some d) : e = .va d ∨ (∃ xs, e = .ow (.l xs) ∧ d = .lst xs) ∨ ∃ _ _ : Unit, isOD d = true := by
  cases e with
  | no => cases h
  | va d' => cases h; exact .inl rfl
  | ow c =>
    cases c with
    | l xs => cases h; exact .inr (.inl ⟨xs, rfl, rfl⟩)
    | d kvs => cases h; exact .inr (.inr ⟨(), (), rfl⟩)
    | o cn fs => cases h; exact .inr (.inr ⟨(), (), rfl⟩)
theorem zE_dct {e : E} (h : zE (some e) = some (.dct [] [])) : e = .va (.dct [] []) ∨ e = .ow (.d []) := by
  cases e with
  | no => cases h
  | va d' => cases h; exact .inl rfl
  | ow c =>
    cases c with
    | l xs => cases h
    | d kvs =>
      cases kvs with
      | nil => exact .inr rfl
      | cons a b => cases h
    | o cn fs => cases h
theorem pf_law_like : ∀ (N : Nat) δ Q3, sp_law_like N δ Q3 → δ.length = 2 → (∀ (i : Nat) c, δ[i]? = some (E.ow c) → i ∈ ([0, 1] : List Nat) ∧ i ∉ ([] : List Nat)) ∧ T_law_like (pv_law_like N) { nx := fun δ' => Q3 (.va .non) (outs δ δ'), rt := fun r δ' => Q3 r (outs δ δ') } (δ ++ List.replicate 2 E.no) := by
  rintro N δ Q3 ⟨d, e1, e2, rfl, h1, h2, h, k⟩ hl
  cases h with
  | non =>
    obtain rfl : e1 = .va .non := by rcases zE_cases h1 with h | ⟨_, _, h⟩ | ⟨_, _, h⟩ <;> first | exact h | cases h
    obtain rfl : e2 = .va .non := by rcases zE_cases h2 with h | ⟨_, _, h⟩ | ⟨_, _, h⟩ <;> first | exact h | cases h
    refine ⟨own_by rfl, ?_⟩
    simp only [List.replicate, List.cons_append, List.nil_append]
    unfold T_law_like
    walk_at "a"
    walk_at "x"
    exact k
  | bl b =>
    obtain rfl : e1 = .va (.bl b) := by rcases zE_cases h1 with h | ⟨_, _, h⟩ | ⟨_, _, h⟩ <;> first | exact h | cases h
    obtain rfl : e2 = .va (.bl b) := by rcases zE_cases h2 with h | ⟨_, _, h⟩ | ⟨_, _, h⟩ <;> first | exact h | cases h
    refine ⟨own_by rfl, ?_⟩
    simp only [List.replicate, List.cons_append, List.nil_append]
    unfold T_law_like
    walk_at "a"
    walk_at "x"
    refine f_eq (b := true) ⟨_, _, rfl, rfl, rfl, rfl, by cases b <;> rfl⟩ ?_
    walk_at "a"
    exact k
  | int i =>
    obtain rfl : e1 = .va (.int i) := by rcases zE_cases h1 with h | ⟨_, _, h⟩ | ⟨_, _, h⟩ <;> first | exact h | cases h
    obtain rfl : e2 = .va (.int i) := by rcases zE_cases h2 with h | ⟨_, _, h⟩ | ⟨_, _, h⟩ <;> first | exact h | cases h
    refine ⟨own_by rfl, ?_⟩
    simp only [List.replicate, List.cons_append, List.nil_append]
    unfold T_law_like
    walk_at "a"
    walk_at "x"
    simpa [outs] using k
  | str x hx =>
    obtain rfl : e1 = .va (.str x) := by rcases zE_cases h1 with h | ⟨_, _, h⟩ | ⟨_, _, h⟩ <;> first | exact h | cases h
    obtain rfl : e2 = .va (.str x) := by rcases zE_cases h2 with h | ⟨_, _, h⟩ | ⟨_, _, h⟩ <;> first | exact h | cases h
    refine ⟨own_by rfl, ?_⟩
    simp only [List.replicate, List.cons_append, List.nil_append]
    unfold T_law_like
    walk_at "a"
    walk_at "x"
    refine f_eqP (b := true) (n := 0) (m := 0) (.str x hx) (.str x hx) (by omega) (by omega) (by simp) ?_
    walk_at "a"
    exact k
  | dct0 =>
    rcases zE_dct h1 with rfl | rfl <;> rcases zE_dct h2 with rfl | rfl
    all_goals
      refine ⟨own_by rfl, ?_⟩
      simp only [List.replicate, List.cons_append, List.nil_append]
      unfold T_law_like
      walk_at "a"
      walk_at "x"
      first
        | exact k
        | simp only [List.map_nil]
          walk_at "a"
          exact k
  | @tup n xs hx hn =>
    obtain rfl : e1 = .va (.tup xs) := by rcases zE_cases h1 with h | ⟨_, _, h⟩ | ⟨_, _, h⟩ <;> first | exact h | cases h
    obtain rfl : e2 = .va (.tup xs) := by rcases zE_cases h2 with h | ⟨_, _, h⟩ | ⟨_, _, h⟩ <;> first | exact h | cases h
    refine ⟨own_by rfl, ?_⟩
    simp only [List.replicate, List.cons_append, List.nil_append]
    unfold T_law_like
    walk_at "a"
    walk_at "x"
    refine comp_map (fun _ => .bl true) rfl (fun p hp => nomatch hp) (fun p hp => nomatch hp) (fun j z e => ?_) ?_
    · obtain ⟨x, y, e1, e2, rfl⟩ := zipD_get e
      rw [e1] at e2
      cases e2
      have hj := (List.getElem?_eq_some_iff.mp e1).1
      walk_at "a"
      refine ⟨x, _, _, rfl, rfl, rfl, hx x (List.mem_of_getElem? e1), ?_⟩
      walk_at "a"
      exact m_end2 (by unfold sizeLine; omega) rfl rfl
    · walk_at "a"
      refine f_allT ?_
      walk_at "a"
      exact k
  | @lst n xs hx hn =>
    obtain rfl | rfl : e1 = .va (.lst xs) ∨ e1 = .ow (.l xs) := by
      rcases zE_cases h1 with h | ⟨_, h', h⟩ | ⟨_, _, h⟩
      · exact .inl h
      · cases h; exact .inr h'
      · cases h
    all_goals
      obtain rfl | rfl : e2 = .va (.lst xs) ∨ e2 = .ow (.l xs) := by
        rcases zE_cases h2 with h | ⟨_, h', h⟩ | ⟨_, _, h⟩
        · exact .inl h
        · cases h; exact .inr h'
        · cases h
    all_goals
      refine ⟨own_by rfl, ?_⟩
      simp only [List.replicate, List.cons_append, List.nil_append]
      unfold T_law_like
      walk_at "a"
      walk_at "x"
      refine comp_map (fun _ => .bl true) rfl (by simp) (by simp) (fun j z e => ?_) ?_
      · obtain ⟨x, y, e1, e2, rfl⟩ := zipD_get e
        rw [e1] at e2
        cases e2
        have hj := (List.getElem?_eq_some_iff.mp e1).1
        walk_at "a"
        refine ⟨x, _, _, rfl, rfl, rfl, hx x (List.mem_of_getElem? e1), ?_⟩
        walk_at "a"
        exact m_end2 (by unfold sizeLine; omega) rfl rfl
      · walk_at "a"
        refine f_allT ?_
        walk_at "a"
        exact k

-- slots [(0, 'told'), (1, 'due'), (2, 'x'), (3, 'y')]; stored []

def T_law_flat : DS := seq (ssetO 1 (tlst (ta0))) (seq (sfor [2] (ilist (tv 0)) (dName 2) (sexpr (textend (tv 1) (tv 2)))) (sret [] (tv 1)))
theorem flat_snoc {w j : Nat} {f : Nat → Nat → Int} (hw : 0 < w) : rowI (j * w) (fun p => f (p / w) (p % w)) ++ rowI w (f j) = rowI ((j + 1) * w) fun p => f (p / w) (p % w) := by
  unfold rowI
  rw [Nat.succ_mul, List.range_add, List.map_append, List.map_map]
  congr 1
  refine List.map_congr_left fun x hx => ?_
  have hx := List.mem_range.mp hx
  show D.int _ = D.int (f ((j * w + x) / w) ((j * w + x) % w))
  rw [pair_div hx, pair_mod hx]
theorem pf_law_flat : ∀ δ Q3, sp_law_flat δ Q3 → δ.length = 1 → (∀ (i : Nat) c, δ[i]? = some (E.ow c) → i ∈ ([] : List Nat) ∧ i ∉ ([1, 2] : List Nat)) ∧ T_law_flat { nx := fun δ' => Q3 (.va .non) (outs δ δ'), rt := fun r δ' => Q3 r (outs δ δ') } (δ ++ List.replicate 2 E.no) := by
  rintro δ Q3 ⟨h, w, f, rfl, hs, w0, k⟩ hn
  refine ⟨own_by rfl, ?_⟩
  simp only [List.replicate, List.cons_append, List.nil_append]
  unfold T_law_flat
  walk_at "a"
  refine for_by (fun j δ => ∃ (e2 : E), δ = [.va (.lst (matQ h w f)), .ow (.l (rowI (j * w) fun p => f (p / w) (p % w))), e2]) ⟨_, by rw [Nat.zero_mul]; rfl⟩ (by simp) (by rintro k δ ⟨e2, rfl⟩ p hp; simp at hp) ?_ ?_
  · rintro j y δ e ⟨e2, rfl⟩
    obtain ⟨hj, rfl⟩ := matQ_get e
    walk_at "a"
    have hb : (j + 1) * w ≤ h * w := Nat.mul_le_mul_right _ hj
    rw [Nat.succ_mul] at hb
    refine ⟨_, _, rfl, rfl, fun _ h => (nomatch h), by rw [rowI_len, rowI_len]; unfold sizeLine; omega, _, rfl, .va (.lst (rowI w (f j))), ?_⟩
    show [_, _, _] = _
    rw [flat_snoc w0]
  · rintro δ ⟨e2, rfl⟩
    rw [matQ_len]
    walk_at "a"
    exact k

-- slots [(0, 'lines'), (1, 'mine'), (2, 'x')]; stored [1, 2]

def T_kin : DS := seq (sasg (tcall sp_crossed [false, false] (tac (tv 0) (tac (tv 1) (ta0)))) (dTup 2 (dCons (dName 2) (dCons (dName 3) (dNil))))) (sret [] (tcb lenF (tac (tcomp (ilist (tv 3)) (dTup 2 (dCons (dName 4) (dCons (dName 5) (dNil)))) (ttru (tv 4)) (tv 5) [4, 5]) (ta0))))
theorem pf_kin : ∀ δ Q3, sp_kin δ Q3 → δ.length = 2 → (∀ (i : Nat) c, δ[i]? = some (E.ow c) → i ∈ ([] : List Nat) ∧ i ∉ ([2, 3] : List Nat)) ∧ T_kin { nx := fun δ' => Q3 (.va .non) (outs δ δ'), rt := fun r δ' => Q3 r (outs δ δ') } (δ ++ List.replicate 4 E.no) := by
  rintro δ Q3 ⟨ls, s1, s2, a, b, rfl, hs, ga, gb, h12, k⟩ hn
  refine ⟨own_by rfl, ?_⟩
  simp only [List.replicate, List.cons_append, List.nil_append]
  unfold T_kin
  walk_at "a"
  refine ⟨ls, s1, s2, a, b, rfl, hs, ga, gb, h12, fun sg x => ?_⟩
  walk_at "a"
  refine comp_by (fun j acc δ => acc = (((heads (prodN s1 a b) (s2 * s1)).take j).filter (balB (prodN s1 a b))).map (fun z => D.lst (natsD (comp (prodN s1 a b) (s2 * s1) z))) ∧ δ = [.va (planD ls s1 a), .va (planD ls s2 b), .va (.lst ((sgI (s2 * s1) sg).map D.int)), .va (.lst ((heads (prodN s1 a b) (s2 * s1)).map (roundD (prodN s1 a b) (s2 * s1)))), .no, .no]) ⟨rfl, rfl⟩ rfl (fun p hp => nomatch hp) (fun _ _ _ _ p hp => nomatch hp) ?_ ?_
  · rintro j y acc δ e ⟨rfl, rfl⟩
    obtain ⟨z, ez, rfl⟩ := map_some e
    have hj := (List.getElem?_eq_some_iff.mp ez).1
    have hl := heads_len (n := prodN s1 a b) (size := s2 * s1)
    unfold roundD
    walk_at "a"
    · rename_i hb
      refine ⟨?_, ?_, rfl⟩
      · rw [List.length_map]
        have := List.length_filter_le (balB (prodN s1 a b)) ((heads (prodN s1 a b) (s2 * s1)).take j)
        rw [List.length_take] at this
        unfold sizeLine
        omega
      · rw [heads_take ez, List.filter_append]
        simp [hb]
    · rename_i hb
      refine ⟨?_, rfl⟩
      rw [heads_take ez, List.filter_append]
      simp [hb]
  · rintro acc δ ⟨rfl, rfl⟩
    rw [List.length_map, List.take_length]
    walk_at "a"
    rw [List.length_map]
    exact k

-- slots [(0, 'a'), (1, 'b'), (2, 'signs'), (3, 'found'), (4, 'truth'), (5, 'met')]; stored [2, 3]

def T_law_whole : DS := sret [] (tandV (tisi .int (tv 0)) (tnotV (tisi .bool (tv 0))))
theorem pf_law_whole : ∀ δ Q3, sp_law_whole δ Q3 → δ.length = 1 → (∀ (i : Nat) c, δ[i]? = some (E.ow c) → i ∈ ([] : List Nat) ∧ i ∉ ([] : List Nat)) ∧ T_law_whole { nx := fun δ' => Q3 (.va .non) (outs δ δ'), rt := fun r δ' => Q3 r (outs δ δ') } (δ ++ List.replicate 0 E.no) := by
  rintro δ Q3 ⟨d, n, rfl, h, k⟩ hl
  refine ⟨own_by rfl, ?_⟩
  simp only [List.replicate, List.cons_append, List.nil_append]
  unfold T_law_whole
  cases h <;>
  · walk_at "a"
    all_goals exact k

-- slots [(0, 'item')]; stored []

def T_law_inner : DS := sret [] (tcb sumF (tac (tcomp (izip (tv 0) (tv 1)) (dTup 2 (dCons (dName 2) (dCons (dName 3) (dNil)))) (tyes) (tb2 timesF (tv 2) (tv 3)) [2, 3]) (ta0)))
theorem pf_law_inner : ∀ δ Q3, sp_law_inner δ Q3 → δ.length = 2 → (∀ (i : Nat) c, δ[i]? = some (E.ow c) → i ∈ ([] : List Nat) ∧ i ∉ ([] : List Nat)) ∧ T_law_inner { nx := fun δ' => Q3 (.va .non) (outs δ δ'), rt := fun r δ' => Q3 r (outs δ δ') } (δ ++ List.replicate 2 E.no) := by
  rintro δ Q3 ⟨size, f, g, rfl, s1, hf, kk⟩ hn
  refine ⟨own_by rfl, ?_⟩
  simp only [List.replicate, List.cons_append, List.nil_append]
  unfold T_law_inner
  walk_at "a"
  refine comp_map (fun k => .int (f k * g k)) rfl (fun p hp => nomatch hp) (fun p hp => nomatch hp) (fun j z e => ?_) ?_
  · obtain ⟨x, y, e1, e2, rfl⟩ := zipD_get e
    obtain ⟨hj, rfl⟩ := rowI_get e1
    obtain ⟨_, rfl⟩ := rowI_get e2
    have hfj := hf j hj
    walk_at "a"
    exact m_end2 (by unfold sizeLine; omega) rfl rfl
  · walk_at "a"
    refine ⟨(List.range size).map fun k => f k * g k, by rw [List.map_map, zip_rowI] <;> rfl, ?_⟩
    rw [sumZ_sum]
    walk_at "a"
    exact kk

-- slots [(0, 'left'), (1, 'right'), (2, 'x'), (3, 'y')]; stored []

def T_law_pair_so : DS := seq (spar2 3 4 false false (tac (tcall sp_law_plan [false, false] (tac (tv 0) (tac (tv 1) (ta0)))) (tac (tcall sp_law_plan [false, false] (tac (tv 0) (tac (tv 2) (ta0)))) (ta0)))) (seq (sasg (ttup (tac (tcall sp_law_equations [false, false] (tac (tv 1) (tac (tv 2) (ta0)))) (tac (tb2 timesF (tcb lenF (tac (tb2 ixF (tv 1) (tc (.int 0))) (ta0))) (tcb lenF (tac (tb2 ixF (tv 2) (tc (.int 0))) (ta0)))) (ta0)))) (dTup 2 (dCons (dName 5) (dCons (dName 6) (dNil))))) (seq (sset 7 (tb2 minusF (tv 6) (tcall sp_law_independent [false] (tac (tv 5) (ta0))))) (seq (sif (tnot (tt (tcall (sp_law_like 3) [true, true] (tac (tlst (tac (tcall sp_kin [false, false] (tac (tv 3) (tac (tv 4) (ta0)))) (tac (tcallP sp_kin [false, false] 0 2 [1, 0] (ta0) (tac (tv 3) (tac (tv 4) (ta0)))) (ta0)))) (tac (tlst (tac (tv 7) (tac (tv 7) (ta0)))) (ta0)))))) (sret [] (tc (.bl false))) (snext)) (seq (sset 8 (tcall sp_round_tables [false, false] (tac (tv 3) (tac (tv 4) (ta0))))) (seq (sif (tor (tnot (tt (tisi .list (tv 8)))) (tor (tt (tb2 (bF neF) (tcb lenF (tac (tv 8) (ta0))) (tv 7))) (tnot (tt (tcb allF (tac (tcomp (ilist (tv 8)) (dName 10) (tyes) (tandV (tisi .list (tv 10)) (tcb allF (tac (tcomp (ilist (tv 10)) (dName 12) (tyes) (tisi .list (tv 12)) [12]) (ta0)))) [10]) (ta0))))))) (sret [] (tc (.bl false))) (snext)) (seq (sset 9 (tcomp (ilist (tv 8)) (dName 10) (tyes) (tcall sp_law_flat [false] (tac (tv 10) (ta0))) [10])) (seq (sif (tnot (tt (tcb allF (tac (tcomp (ilist (tv 9)) (dName 10) (tyes) (tandV (tb2 (bF eqF) (tcb lenF (tac (tv 10) (ta0))) (tv 6)) (tcb allF (tac (tcomp (ilist (tv 10)) (dName 12) (tyes) (tcall sp_law_whole [false] (tac (tv 12) (ta0))) [12]) (ta0)))) [10]) (ta0))))) (sret [] (tc (.bl false))) (snext)) (seq (sif (tnot (tt (tcb allF (tac (tcomp (ilist (tv 9)) (dName 10) (tyes) (tcb allF (tac (tcomp (ilist (tv 5)) (dName 11) (tyes) (tb2 (bF eqF) (tcall sp_law_inner [false, false] (tac (tv 10) (tac (tv 11) (ta0)))) (tc (.int 0))) [11]) (ta0))) [10]) (ta0))))) (sret [] (tc (.bl false))) (snext)) (sret [] (tb2 (bF eqF) (tcall sp_law_independent [false] (tac (tv 9) (ta0))) (tv 7)))))))))))
/-- the table of a round, row by row -/
noncomputable def flatF (n : Net) (s1 z p : Nat) : Int := rtF n s1 z (p / s1) (p % s1)
theorem flat_base {n : Net} {s1 z p : Nat} : flatF n s1 z p = baseF n z p := by
  unfold flatF rtF
  rw [pair_eq]
theorem pf_law_pair_so : ∀ δ Q3, sp_law_pair_so δ Q3 → δ.length = 3 → (∀ (i : Nat) c, δ[i]? = some (E.ow c) → i ∈ ([] : List Nat) ∧ i ∉ ([3, 4, 5, 6, 7, 8, 9] : List Nat)) ∧ T_law_pair_so { nx := fun δ' => Q3 (.va .non) (outs δ δ'), rt := fun r δ' => Q3 r (outs δ δ') } (δ ++ List.replicate 10 E.no) := by
  rintro δ Q3 ⟨ls, s1, s2, a, b, rfl, hs, l4, ga, gb, h12, k⟩ hn
  have s10 := ga.s0
  have s20 := gb.s0
  have s11 := ga.s1
  have s21 := gb.s1
  have m1 := ga.m1
  have h21 : s1 * s2 ≤ 1000 := by rw [Nat.mul_comm]; exact h12
  have gN := good_prodN ga gb h12
  obtain ⟨r0, hr0, g0⟩ := ga.get ga.m0
  have l0 := g0.len
  obtain ⟨r1, hr1, g1⟩ := gb.get gb.m0
  have l1 := g1.len
  have i0 : L2.atI (a.map rowD) 0 = some (rowD r0) := map_at (by omega) hr0
  have i1 : L2.atI (b.map rowD) 0 = some (rowD r1) := map_at (by omega) hr1
  have pr : (s1 : Int) * (s2 : Int) = ((s2 * s1 : Nat) : Int) := by rw [Nat.mul_comm]; rfl
  refine ⟨own_by rfl, ?_⟩
  simp only [List.replicate, List.cons_append, List.nil_append]
  unfold T_law_pair_so
  walk_at "a"
  refine ⟨ls, s1, a, rfl, hs, ga, ?_⟩
  walk_at "a"
  refine ⟨ls, s2, b, rfl, hs, gb, ?_⟩
  walk_at "a"
  refine ⟨ls.length, s1, s2, a, b, rfl, ga, gb, h12, ?_⟩
  rw [netD_eq, netD_eq]
  walk_at "a"
  refine f_ixL i0 ?_
  rw [rowD_eq r0]
  walk_at "a"
  refine f_ixL i1 ?_
  rw [rowD_eq r1]
  walk_at "a"
  rw [List.length_map, List.length_map, l0, l1]
  refine f_times (by unfold CMul; omega) ?_
  rw [pr]
  walk_at "a"
  refine ⟨s2 * s1, eqnL a b s1 s2 ls.length, rfl, h12, ?_, .inl fun f hf => ?_, fun lv ec sol => ?_⟩
  · rw [eqnL_len]
    have := Nat.mul_le_mul m1 h12
    omega
  · obtain ⟨k, y, x, hk, hy, hx, rfl⟩ := mem_eqnL.mp hf
    exact eqF_short ga gb hk hy hx
  have rk := ech_kin gN ec fun X => (eqL_fix ga gb h12).symm.trans (sol X)
  walk_at "a"
  rw [show ((s2 * s1 : Nat) : Int) - (lv.length : Nat) = (kinN (prodN s1 a b) (s2 * s1) : Nat) by omega]
  walk_at "a"
  refine ⟨ls, s1, s2, a, b, rfl, hs, ga, gb, h12, ?_⟩
  walk_at "a"
  refine ⟨ls, s2, s1, b, a, rfl, hs, gb, ga, h21, ?_⟩
  rw [← kin_comm ga gb h12]
  walk_at "a"
  refine ⟨_, _, _, rfl, rfl, rfl, ?_, ?_⟩
  · exact .lst (n := 2) (fun x hx => by
      simp only [List.mem_cons, List.not_mem_nil, or_false] at hx
      rcases hx with rfl | rfl <;> exact .int _) (by simp)
  walk_at "a"
  have hl := heads_len (n := prodN s1 a b) (size := s2 * s1)
  have kl : (kins (prodN s1 a b) (s2 * s1)).length ≤ s2 * s1 := by
    rw [kins_bal]
    exact Nat.le_trans (List.length_filter_le _ _) hl
  have kn := kins_len (n := prodN s1 a b) (size := s2 * s1)
  have km : ∀ z ∈ kins (prodN s1 a b) (s2 * s1), z < s2 * s1 := fun z hz => (mem_kins.mp hz).1
  have kat : ∀ z ∈ kins (prodN s1 a b) (s2 * s1), ∀ w ∈ kins (prodN s1 a b) (s2 * s1), flatF (prodN s1 a b) s1 z w = if z = w then 1 else 0 := fun z hz w hw => by
    rw [flat_base]
    exact baseF_at gN hz hw
  have kap : (kins (prodN s1 a b) (s2 * s1)).Pairwise fun z w => Apt (s2 * s1) (flatF (prodN s1 a b) s1 z) (flatF (prodN s1 a b) s1 w) := by
    refine List.Pairwise.imp_of_mem (fun {z w} hz hw hne p hp h0 => ?_) kins_nodup
    rw [flat_base] at h0 ⊢
    obtain ⟨z1, z2, z3⟩ := mem_kins.mp hz
    obtain ⟨w1, w2, w3⟩ := mem_kins.mp hw
    refine Classical.byContradiction fun h1 => hne (head_eq gN z2 w2 (reach_trans ((baseF_ne gN z1 z3).mp h0) (reach_symm gN ((baseF_ne gN w1 w3).mp h1))))
  have kfx : ∀ z, Fix (prodN s1 a b) (s2 * s1) (flatF (prodN s1 a b) s1 z) := fun z p q s hp ad => by
    rw [flat_base, flat_base]
    exact baseF_fix gN p q s hp ad
  have er : rtabs a b s1 s2 = (kins (prodN s1 a b) (s2 * s1)).map fun z => .lst (matQ s2 s1 (rtF (prodN s1 a b) s1 z)) := rfl
  refine ⟨ls, s1, s2, a, b, rfl, hs, ga, gb, h12, ?_⟩
  rw [er]
  generalize kins (prodN s1 a b) (s2 * s1) = zs at kl kn km kat kap
  rw [← kn]
  have nd : zs.Nodup := by
    refine List.Pairwise.imp_of_mem (fun {z w} hz hw h e => ?_) kap
    subst e
    have := kat z hz z hz
    rw [if_pos rfl] at this
    have h2 := h z (km z hz) (by rw [this]; decide)
    rw [this] at h2
    cases h2
  walk_at "a"
  rotate_left
  · rename_i h
    exact absurd (by rw [List.length_map]) h
  refine comp_map (fun _ => .bl true) rfl (fun p hp => nomatch hp) (fun p hp => nomatch hp) (fun j y e => ?_) ?_
  · obtain ⟨z, ez, rfl⟩ := map_some e
    have hj := (List.getElem?_eq_some_iff.mp ez).1
    walk_at "a"
    refine comp_map (fun _ => .bl true) rfl (fun p hp => nomatch hp) (fun p hp => nomatch hp) (fun i y e => ?_) ?_
    · obtain ⟨hi, rfl⟩ := matQ_get e
      walk_at "a"
      exact m_end2 (by unfold sizeLine; omega) rfl rfl
    · walk_at "a"
      refine f_allT ?_
      walk_at "a"
      exact m_end2 (by unfold sizeLine; omega) rfl rfl
  walk_at "a"
  refine f_allT ?_
  walk_at "a"
  refine comp_map (fun j => .lst (rowI (s2 * s1) (flatF (prodN s1 a b) s1 (zs.getD j 0)))) rfl (fun p hp => nomatch hp) (fun p hp => nomatch hp) (fun j y e => ?_) ?_
  · obtain ⟨z, ez, rfl⟩ := map_some e
    have hj := (List.getElem?_eq_some_iff.mp ez).1
    walk_at "a"
    refine ⟨s2, s1, rtF (prodN s1 a b) s1 z, rfl, h12, s10, ?_⟩
    walk_at "a"
    refine m_end2 (by unfold sizeLine; omega) rfl ?_
    rw [List.getD_eq_getElem?_getD, ez]
    rfl
  rw [List.length_map, map_range_getD (f := fun z => D.lst (rowI (s2 * s1) (flatF (prodN s1 a b) s1 z))), show zs.map (fun z => D.lst (rowI (s2 * s1) (flatF (prodN s1 a b) s1 z))) = linesD (s2 * s1) (zs.map (flatF (prodN s1 a b) s1)) from by unfold linesD; rw [List.map_map]; rfl]
  walk_at "a"
  refine comp_map (fun _ => .bl true) rfl (fun p hp => nomatch hp) (fun p hp => nomatch hp) (fun j y e => ?_) ?_
  · obtain ⟨f, ef, rfl⟩ := linesD_get e
    obtain ⟨z, ez, rfl⟩ := map_some ef
    have hj := (List.getElem?_eq_some_iff.mp ez).1
    walk_at "a"
    · refine comp_map (fun _ => .bl true) rfl (fun p hp => nomatch hp) (fun p hp => nomatch hp) (fun i y e => ?_) ?_
      · obtain ⟨hi, rfl⟩ := rowI_get e
        walk_at "a"
        refine ⟨_, 1, rfl, .int _, ?_⟩
        walk_at "a"
        exact m_end2 (by unfold sizeLine; omega) rfl rfl
      · walk_at "a"
        refine f_allT ?_
        walk_at "a"
        exact m_end2 (by unfold sizeLine; omega) rfl rfl
    · rename_i h
      exact absurd (by rw [rowI_len]) h
  walk_at "a"
  refine f_allT ?_
  walk_at "a"
  refine comp_map (fun _ => .bl true) rfl (fun p hp => nomatch hp) (fun p hp => nomatch hp) (fun j y e => ?_) ?_
  · obtain ⟨f, ef, rfl⟩ := linesD_get e
    obtain ⟨z, ez, rfl⟩ := map_some ef
    have hj := (List.getElem?_eq_some_iff.mp ez).1
    have zm := List.mem_of_getElem? ez
    walk_at "a"
    refine comp_map (fun _ => .bl true) rfl (fun p hp => nomatch hp) (fun p hp => nomatch hp) (fun i y e => ?_) ?_
    · obtain ⟨f, ef, rfl⟩ := linesD_get e
      have hi := (List.getElem?_eq_some_iff.mp ef).1
      rw [eqnL_len] at hi
      have hm := Nat.mul_le_mul m1 h12
      walk_at "a"
      refine ⟨s2 * s1, _, f, rfl, h12, fun p hp => ?_, ?_⟩
      · rw [flat_base]
        exact baseF_small gN (km z zm)
      have d := (eqL_fix ga gb h12).mpr (kfx z) f (List.mem_of_getElem? ef)
      rw [show sumZ ((List.range (s2 * s1)).map fun k => flatF (prodN s1 a b) s1 z k * f k) = 0 from by
        rw [← d]
        exact sumZ_congr fun p _ => Int.mul_comm _ _]
      walk_at "a"
      exact m_end2 (by unfold sizeLine; omega) rfl rfl
    · walk_at "a"
      refine f_allT ?_
      walk_at "a"
      exact m_end2 (by unfold sizeLine; omega) rfl rfl
  walk_at "a"
  refine f_allT ?_
  walk_at "a"
  refine ⟨s2 * s1, _, rfl, h12, by rw [List.length_map]; omega, .inr ⟨fun f hf p hp => ?_, ?_⟩, fun lw ec2 sol2 => ?_⟩
  · obtain ⟨z, hz, rfl⟩ := List.mem_map.mp hf
    rw [flat_base]
    rcases baseF_small gN (km z hz) (q := p) with e | e | e <;> rw [e] <;> decide
  · exact List.pairwise_map.mpr kap
  have r2 := ech_ind ec2 (flatF (prodN s1 a b) s1) nd km kat sol2
  rw [r2]
  walk_at "a"
  rw [decide_eq_true rfl]
  exact k

-- slots [(0, 'labels'), (1, 'net'), (2, 'more'), (3, 'held'), (4, 'other_held'), (5, 'lines'), (6, 'total'), (7, 'due'), (8, 'told'), (9, 'flat'), (10, 'x'), (11, 'row'), (12, 'y')]; stored [3, 4, 5, 6, 7, 8, 9]

def T_law : DS := seq (ssetO 1 (tcall sp_law_bag [false, false] (tac (tv 0) (tac (tc (.int 1618718)) (ta0))))) (seq (sfor [2, 3, 4, 5, 6, 7] (irng1 (tc (.int 3))) (dName 2) (seq (sset 3 (tcall sp_law_labels [true, false] (tac (tv 1) (tac (tcall sp_law_of [true, true] (tac (tv 1) (tac (tlst (tac (tc (.int 2)) (tac (tc (.int 3)) (tac (tc (.int 1)) (tac (tc (.int 2)) (tac (tc (.int 4)) (ta0))))))) (ta0)))) (ta0))))) (seq (sset 4 (tcall sp_law_of [true, true] (tac (tv 1) (tac (tlst (tac (tlst (tac (tc (.int 3)) (tac (tc (.int 3)) (ta0)))) (tac (tlst (tac (tc (.int 2)) (tac (tc (.int 3)) (ta0)))) (tac (tlst (tac (tc (.int 3)) (tac (tc (.int 2)) (ta0)))) (tac (tlst (tac (tc (.int 2)) (tac (tc (.int 2)) (ta0)))) (tac (tlst (tac (tc (.int 4)) (tac (tc (.int 2)) (ta0)))) (tac (tlst (tac (tc (.int 1)) (tac (tc (.int 3)) (ta0)))) (tac (tlst (tac (tc (.int 3)) (tac (tc (.int 1)) (ta0)))) (tac (tlst (tac (tc (.int 3)) (tac (tc (.int 4)) (ta0)))) (ta0)))))))))) (ta0))))) (seq (sset 5 (tcall sp_law_net [true, false, false] (tac (tv 1) (tac (tcb lenF (tac (tv 3) (ta0))) (tac (tb2 ixF (tv 4) (tc (.int 0))) (ta0)))))) (seq (sset 6 (tcall sp_law_draw [true, false] (tac (tv 1) (tac (tc (.int 4)) (ta0))))) (seq (sset 7 (tif (tt (tb2 (bF eqF) (tv 6) (tc (.int 0)))) (tcall sp_law_disguise [true, false] (tac (tv 1) (tac (tv 5) (ta0)))) (tcall sp_law_net [true, false, false] (tac (tv 1) (tac (tcb lenF (tac (tv 3) (ta0))) (tac (tb2 ixF (tv 4) (tc (.int 1))) (ta0))))))) (seq (sif (tand (tt (tb2 (bF eqF) (tv 6) (tc (.int 1)))) (tt (tb2 (bF (iF (fun i j => decide (i < j)))) (tb2 ixF (tv 4) (tc (.int 0))) (tc (.int 3))))) (sset 7 (tcall sp_law_cover [false] (tac (tv 5) (ta0)))) (snext)) (sif (tnot (tt (tcall sp_law_pair_so [false, false, false] (tac (tv 3) (tac (tv 5) (tac (tv 7) (ta0))))))) (sret [] (tc (.bl false))) (snext))))))))) (sret [] (tc (.bl true))))
theorem pf_law : ∀ δ Q3, sp_law δ Q3 → δ.length = 1 → (∀ (i : Nat) c, δ[i]? = some (E.ow c) → i ∈ ([] : List Nat) ∧ i ∉ ([1, 2, 3, 4, 5, 6, 7] : List Nat)) ∧ T_law { nx := fun δ' => Q3 (.va .non) (outs δ δ'), rt := fun r δ' => Q3 r (outs δ δ') } (δ ++ List.replicate 7 E.no) := by
  rintro δ Q3 ⟨ns, rfl, nl, k⟩ hl
  refine ⟨own_by rfl, ?_⟩
  simp only [List.replicate, List.cons_append, List.nil_append]
  unfold T_law
  walk_at "a"
  refine ⟨ns, 1618718, rfl, by omega, by omega, fun bg hb => ?_⟩
  walk_at "a"
  refine ⟨by omega, ?_⟩
  refine for_by (fun j δ => ∃ bg e2 e3 e4 e5 e6 e7, δ = [.va (.frz (ns.map D.int)), .ow (.l bg), e2, e3, e4, e5, e6, e7] ∧ IsBag bg) ⟨bg, _, _, _, _, _, _, rfl, hb⟩ (fun p hp => nomatch hp) (fun _ _ _ p hp => nomatch hp) ?_ ?_
  · rintro j y δ e ⟨bg1, e2, e3, e4, e5, e6, e7, rfl, hb1⟩
    walk_at "a"
    refine ⟨bg1, _, rfl, hb1, .inl ⟨_, .inr (.inr rfl), by simp, by simp, fun bg2 x hb2 hx => ?_⟩⟩
    obtain ⟨q, rfl, q0, q1⟩ : ∃ q : Nat, x = .int q ∧ 0 < q ∧ q ≤ 4 := by
      simp only [List.mem_cons, List.not_mem_nil, or_false] at hx
      rcases hx with rfl | rfl | rfl | rfl | rfl <;> exact ⟨_, rfl, by decide, by decide⟩
    walk_at "a"
    refine ⟨bg2, q, rfl, hb2, q0, q1, fun bg3 ls hb3 hs hl => ?_⟩
    walk_at "a"
    refine ⟨bg3, _, rfl, hb3, .inl ⟨_, .inr (.inr rfl), by simp, by simp, fun bg4 x hb4 hx => ?_⟩⟩
    obtain ⟨s1, s2, rfl, s10, s14, s20, s24⟩ : ∃ s1 s2 : Nat, x = .lst [.int s1, .int s2] ∧ 0 < s1 ∧ s1 ≤ 4 ∧ 0 < s2 ∧ s2 ≤ 4 := by
      simp only [List.mem_cons, List.not_mem_nil, or_false] at hx
      rcases hx with rfl | rfl | rfl | rfl | rfl | rfl | rfl | rfl <;> exact ⟨_, _, rfl, by decide, by decide, by decide, by decide⟩
    have m0 := hs.m0
    rw [show strsT ls = .tup (ls.map D.str) from rfl]
    walk_at "a"
    rw [List.length_map]
    refine ⟨bg4, ls.length, s1, rfl, hb4, m0, by omega, s10, by omega, fun bg5 a hb5 ga => ?_⟩
    walk_at "a"
    refine ⟨bg5, 4, rfl, hb5, by omega, by omega, fun bg6 d hb6 d0 d1 => ?_⟩
    refine ⟨_, rfl, _, rfl, _, rfl, ?_⟩
    refine seqJ (fun δ => ∃ bg t b, δ = [.va (.frz (ns.map D.int)), .ow (.l bg), .va y, .va (strsT ls), .va (.lst [.int s1, .int s2]), .va (netD a), .va (.int d), .va (netD b)] ∧ IsBag bg ∧ GoodNet ls.length t b ∧ t ≤ 4) (fun m hm => ?_) ?_
    · walk_at "a"
      · refine ⟨bg6, ls.length, s1, a, rfl, hb6, ga, fun bg7 b hb7 gb => ?_⟩
        walk_at "a"
        exact hm _ ⟨_, s1, b, rfl, hb7, gb, s14⟩
      · rw [List.length_map]
        refine ⟨bg6, ls.length, s2, rfl, hb6, m0, by omega, s20, by omega, fun bg7 b hb7 gb => ?_⟩
        walk_at "a"
        exact hm _ ⟨_, s2, b, rfl, hb7, gb, s24⟩
    rintro δ ⟨bg7, t, b, rfl, hb7, gb, t4⟩
    refine seqJ (fun δ => ∃ t b, δ = [.va (.frz (ns.map D.int)), .ow (.l bg7), .va y, .va (strsT ls), .va (.lst [.int s1, .int s2]), .va (netD a), .va (.int d), .va (netD b)] ∧ GoodNet ls.length t b ∧ t ≤ 8) (fun m hm => ?_) ?_
    · walk_at "a"
      · refine ⟨ls.length, s1, a, rfl, ga, by omega, ?_⟩
        walk_at "a"
        exact hm _ ⟨_, coverN a, rfl, good_coverN ga (by omega), by omega⟩
      · exact hm _ ⟨t, b, rfl, gb, by omega⟩
      · exact hm _ ⟨t, b, rfl, gb, by omega⟩
    rintro δ ⟨t', b', rfl, gb', t8⟩
    walk_at "a"
    refine ⟨ls, s1, t', a, b', rfl, hs, by omega, ga, gb', Nat.le_trans (Nat.mul_le_mul t8 s14) (by omega), ?_⟩
    walk_at "a"
    exact ⟨_, _, _, _, _, _, _, rfl, hb7⟩
  · rintro δ ⟨bg1, e2, e3, e4, e5, e6, e7, rfl, hb1⟩
    walk_at "a"
    exact k

-- slots [(0, 'script'), (1, 'bag'), (2, 'lap'), (3, 'labels'), (4, 'sizes'), (5, 'net'), (6, 'pick'), (7, 'more')]; stored [1, 2, 3, 4, 5, 6, 7]

end L3
set_option Elab.async false
set_option linter.all false
set_option maxRecDepth 100000
set_option maxHeartbeats 4000000
namespace L3
open PySem PySem.Spec PyProof.Rows L2
def flds_Plan : List Str := ["sides", "copies", "_steps"]
section
variable {P : Program} {w : World} {K : PySem.W.Frag} {mg : Str → Option Value} {base : Heap}
theorem sc_law_bag : FnScope ["script", "salt", "mix", "item"] ["script", "salt"] (defScope (top 38)) := ⟨rfl, rfl, rfl, by decide +kernel, rfl, by decide +kernel, by decide +kernel⟩
theorem okn_law_bag {fd : FuncData} (F : FunD K "_law_bag" "_law_bag" (defArgs (top 38)) (defBody (top 38)) (defScope (top 38)) [] [] (He.ga K "_law_bag") fd) (at_ : mg "_law_bag" = some (.ref (He.ga K "_law_bag"))) (B : Blt mg)  : FnOk P w K mg base CX0 1 (He.ga K "_law_bag") fd ["script", "salt"] (up K 2 sp_law_bag) := by
  have sc := sc_law_bag
  refine F.ok sc (fun _ _ _ _ h => h.1) (fun cdv A outer s H vs Q E hr h => ?_)
  exact ⟨_, PSs.nox (pss_cons (ps_set (i := 2) sc.nd rfl (Or.inl rfl) (pv 1)) (pss_cons (ps_for PassesOwn.never rfl (pi_list (pe_slice sl_any (pv 0) (po_none) (po_some (pe_int)))) (pg_name (i := 3) sc.nd rfl (Or.inl rfl)) (pss_one (ps_set (i := 2) sc.nd rfl (Or.inl rfl) (pe_op op_mod (pe_callTy call_int1 (by rfl) B.int (by decide +kernel) (pa_cons (pe_op op_plus (pe_op op_plus (pe_op op_times (pv 2) (pe_int)) (pe_op op_mod (pe_callTy call_int1 (by rfl) B.int (by decide +kernel) (pa_cons (pv 3) (pa_nil))) (pe_int))) (pe_int)) (pa_nil))) (pe_int))))) (pss_one (ps_ret (pe_lst (pa_cons (pe_callTy call_list_of (by rfl) B.list (by decide +kernel) (pa_cons (pe_slice sl_any (pv 0) (po_none) (po_some (pe_int))) (pa_nil))) (pa_cons (pe_int) (pa_cons (pe_int) (pa_cons (pv 2) (pa_cons (pe_int) (pa_nil))))))))))),
    body_ok (SndSP.mono (bs := [2, 3]) (sndp_seq ((snds_set (snd_var)).p) (sndp_seq (sndp_for (as := [2, 3]) (sndi_list (snd_slice (snd_var) (sndo_none) (sndo_some (snd_int)))) (sndg_name) ((snds_set (snd_op snd_mod (snd_cb snd_int1 (snda_cons (snd_op snd_plus (snd_op snd_plus (snd_op snd_times (snd_var) (snd_int)) (snd_op snd_mod (snd_cb snd_int1 (snda_cons (snd_var) (snda_nil))) (snd_int))) (snd_int)) (snda_nil))) (snd_int))).p) (by decide)) (snds_ret (ps := []) (snd_lst (snda_cons (snd_cb snd_list (snda_cons (snd_slice (snd_var) (sndo_none) (sndo_some (snd_int))) (snda_nil))) (snda_cons (snd_int) (snda_cons (snd_int) (snda_cons (snd_var) (snda_cons (snd_int) (snda_nil)))))))))) (by decide)) pf_law_bag vs H Q E h⟩
theorem ok_law_bag (F : ∃ fd, FunD K "_law_bag" "_law_bag" (defArgs (top 38)) (defBody (top 38)) (defScope (top 38)) [] [] (He.ga K "_law_bag") fd) (at_ : mg "_law_bag" = some (.ref (He.ga K "_law_bag"))) (B : Blt mg)  : FP P w K mg base "_law_bag" 1 2 sp_law_bag := by
  obtain ⟨fd, F⟩ := F
  exact ⟨⟨fd, ["script", "salt"], okn_law_bag F at_ B , F.bindsN fun _ _ _ _ _ _ us hl => match us, hl with | [_, _], _ => rfl⟩, F.kp, at_⟩
theorem sc_law_draw : FnScope ["bag", "size", "item", "digit"] ["bag", "size"] (defScope (top 39)) := ⟨rfl, rfl, rfl, by decide +kernel, rfl, by decide +kernel, by decide +kernel⟩
theorem okn_law_draw {fd : FuncData} (F : FunD K "_law_draw" "_law_draw" (defArgs (top 39)) (defBody (top 39)) (defScope (top 39)) [] [] (He.ga K "_law_draw") fd) (at_ : mg "_law_draw" = some (.ref (He.ga K "_law_draw"))) (B : Blt mg)  : FnOk P w K mg base CX0 1 (He.ga K "_law_draw") fd ["bag", "size"] (up K 2 sp_law_draw) := by
  have sc := sc_law_draw
  refine F.ok sc (fun _ _ _ _ h => h.1) (fun cdv A outer s H vs Q E hr h => ?_)
  exact ⟨_, PSs.nox (pss_cons (ps_asg (pe_op op_plus (pe_ix ix_seq (pv 0) (pe_int) (fun _ _ => rfl)) (pe_int)) (pg_sub (pv 0) (pe_int) set_list)) (pss_cons (ps_if (PW.pt (pw_and (pt_cmpR (op_eqE hr.units) (pe_ix ix_seq (pv 0) (pe_int) (fun _ _ => rfl)) (pe_int) (nomark _)) (pw_and1 (pt_cmpR op_lt (pe_ix ix_seq (pv 0) (pe_int) (fun _ _ => rfl)) (pe_callB call_len (by rfl) B.len boot_len (pa_cons (pe_ix ix_seq (pv 0) (pe_int) (fun _ _ => rfl)) (pa_nil))) (nomark _))))) (pss_cons (ps_set (i := 2) sc.nd rfl (Or.inl rfl) (pe_ix ix_seq (pe_ix ix_seq (pv 0) (pe_int) (fun _ _ => rfl)) (pe_ix ix_seq (pv 0) (pe_int) (fun _ _ => rfl)) (fun _ _ => rfl))) (pss_cons (ps_asg (pe_op op_plus (pe_ix ix_seq (pv 0) (pe_int) (fun _ _ => rfl)) (pe_int)) (pg_sub (pv 0) (pe_int) set_list)) (pss_one (ps_if (pt_cmpR op_ge (pv 2) (pe_op op_pow (pe_int) (pe_int)) (nomark _)) (pss_one (ps_asg (pv 2) (pg_sub (pv 0) (pe_int) set_list))) (pss_one (ps_asg (pe_op op_mod (pe_callTy call_int1 (by rfl) B.int (by decide +kernel) (pa_cons (pe_op op_plus (pe_op op_plus (pe_op op_times (pe_ix ix_seq (pv 0) (pe_int) (fun _ _ => rfl)) (pe_int)) (pe_op op_times (pe_op op_mod (pe_callTy call_int1 (by rfl) B.int (by decide +kernel) (pa_cons (pv 2) (pa_nil))) (pe_int)) (pe_int))) (pe_int)) (pa_nil))) (pe_int)) (pg_sub (pv 0) (pe_int) set_list))))))) (pss_nil)) (pss_cons (ps_if (pt_cmpR op_gt (pe_ix ix_seq (pv 0) (pe_int) (fun _ _ => rfl)) (pe_int) (nomark _)) (pss_cons (ps_set (i := 3) sc.nd rfl (Or.inl rfl) (pe_op op_mod (pe_callTy call_int1 (by rfl) B.int (by decide +kernel) (pa_cons (pe_ix ix_seq (pv 0) (pe_int) (fun _ _ => rfl)) (pa_nil))) (pv 1))) (pss_cons (ps_asg (pe_op op_fdiv (pe_ix ix_seq (pv 0) (pe_int) (fun _ _ => rfl)) (pv 1)) (pg_sub (pv 0) (pe_int) set_list)) (pss_one (ps_ret (pv 3))))) (pss_nil)) (pss_cons (ps_asg (pe_op op_mod (pe_callTy call_int1 (by rfl) B.int (by decide +kernel) (pa_cons (pe_op op_plus (pe_op op_plus (pe_op op_pow (pe_ix ix_seq (pv 0) (pe_int) (fun _ _ => rfl)) (pe_int)) (pe_op op_times (pe_ix ix_seq (pv 0) (pe_int) (fun _ _ => rfl)) (pe_int))) (pe_int)) (pa_nil))) (pe_int)) (pg_sub (pv 0) (pe_int) set_list)) (pss_one (ps_ret (pe_op op_mod (pe_callTy call_int1 (by rfl) B.int (by decide +kernel) (pa_cons (pe_op op_plus (pe_op op_fdiv (pe_ix ix_seq (pv 0) (pe_int) (fun _ _ => rfl)) (pe_int)) (pe_op op_times (pe_op op_mod (pe_callTy call_int1 (by rfl) B.int (by decide +kernel) (pa_cons (pe_ix ix_seq (pv 0) (pe_int) (fun _ _ => rfl)) (pa_nil))) (pe_int)) (pe_int))) (pa_nil))) (pv 1)))))))),
    body_ok (SndSP.mono (bs := [2, 3]) (sndp_seq ((snds_asg (snd_op snd_plus (snd_op snd_ix (snd_var) (snd_int)) (snd_int)) (sndg_sub (snd_var) (snd_int))).p) (sndp_seq (sndp_if (sndt_and (sndt_test (snd_op snd_eq (snd_op snd_ix (snd_var) (snd_int)) (snd_int))) (sndt_test (snd_op (snd_icmp (p := fun i j => decide (i < j))) (snd_op snd_ix (snd_var) (snd_int)) (snd_cb snd_len (snda_cons (snd_op snd_ix (snd_var) (snd_int)) (snda_nil)))))) (sndp_seq ((snds_set (snd_op snd_ix (snd_op snd_ix (snd_var) (snd_int)) (snd_op snd_ix (snd_var) (snd_int)))).p) (sndp_seq ((snds_asg (snd_op snd_plus (snd_op snd_ix (snd_var) (snd_int)) (snd_int)) (sndg_sub (snd_var) (snd_int))).p) (sndp_if (sndt_test (snd_op (snd_icmp (p := fun i j => decide (j ≤ i))) (snd_var) (snd_op snd_pow (snd_int) (snd_int)))) ((snds_asg (snd_var) (sndg_sub (snd_var) (snd_int))).p) ((snds_asg (snd_op snd_mod (snd_cb snd_int1 (snda_cons (snd_op snd_plus (snd_op snd_plus (snd_op snd_times (snd_op snd_ix (snd_var) (snd_int)) (snd_int)) (snd_op snd_times (snd_op snd_mod (snd_cb snd_int1 (snda_cons (snd_var) (snda_nil))) (snd_int)) (snd_int))) (snd_int)) (snda_nil))) (snd_int)) (sndg_sub (snd_var) (snd_int))).p)))) (snds_next.p)) (sndp_seq (sndp_if (sndt_test (snd_op (snd_icmp (p := fun i j => decide (j < i))) (snd_op snd_ix (snd_var) (snd_int)) (snd_int))) (sndp_seq ((snds_set (snd_op snd_mod (snd_cb snd_int1 (snda_cons (snd_op snd_ix (snd_var) (snd_int)) (snda_nil))) (snd_var))).p) (sndp_seq ((snds_asg (snd_op snd_fdiv (snd_op snd_ix (snd_var) (snd_int)) (snd_var)) (sndg_sub (snd_var) (snd_int))).p) (snds_ret (ps := [0]) (snd_var)))) (snds_next.p)) (sndp_seq ((snds_asg (snd_op snd_mod (snd_cb snd_int1 (snda_cons (snd_op snd_plus (snd_op snd_plus (snd_op snd_pow (snd_op snd_ix (snd_var) (snd_int)) (snd_int)) (snd_op snd_times (snd_op snd_ix (snd_var) (snd_int)) (snd_int))) (snd_int)) (snda_nil))) (snd_int)) (sndg_sub (snd_var) (snd_int))).p) (snds_ret (ps := [0]) (snd_op snd_mod (snd_cb snd_int1 (snda_cons (snd_op snd_plus (snd_op snd_fdiv (snd_op snd_ix (snd_var) (snd_int)) (snd_int)) (snd_op snd_times (snd_op snd_mod (snd_cb snd_int1 (snda_cons (snd_op snd_ix (snd_var) (snd_int)) (snda_nil))) (snd_int)) (snd_int))) (snda_nil))) (snd_var))))))) (by decide)) pf_law_draw vs H Q E h⟩
theorem ok_law_draw (F : ∃ fd, FunD K "_law_draw" "_law_draw" (defArgs (top 39)) (defBody (top 39)) (defScope (top 39)) [] [] (He.ga K "_law_draw") fd) (at_ : mg "_law_draw" = some (.ref (He.ga K "_law_draw"))) (B : Blt mg)  : FP P w K mg base "_law_draw" 1 2 sp_law_draw := by
  obtain ⟨fd, F⟩ := F
  exact ⟨⟨fd, ["bag", "size"], okn_law_draw F at_ B , F.bindsN fun _ _ _ _ _ _ us hl => match us, hl with | [_, _], _ => rfl⟩, F.kp, at_⟩
theorem sc_law_of : FnScope ["bag", "things"] ["bag", "things"] (defScope (top 40)) := ⟨rfl, rfl, rfl, by decide +kernel, rfl, by decide +kernel, by decide +kernel⟩
theorem okn_law_of {fd : FuncData} (F : FunD K "_law_of" "_law_of" (defArgs (top 40)) (defBody (top 40)) (defScope (top 40)) [] [] (He.ga K "_law_of") fd) (at_ : mg "_law_of" = some (.ref (He.ga K "_law_of"))) (B : Blt mg) (g_law_draw : FP P w K mg base "_law_draw" 1 2 sp_law_draw) : FnOk P w K mg base CX0 2 (He.ga K "_law_of") fd ["bag", "things"] (up K 2 sp_law_of) := by
  have sc := sc_law_of
  refine F.ok sc (fun _ _ _ _ h => h.1) (fun cdv A outer s H vs Q E hr h => ?_)
  exact ⟨_, PSs.nox (pss_one (ps_ret (pe_ix ix_seq (pv 1) (pe_f g_law_draw (Room.mono hr (by decide)) (by rfl) (pa_cons (pv 0) (pa_cons (pe_callB call_len (by rfl) B.len boot_len (pa_cons (pv 1) (pa_nil))) (pa_nil)))) (fun _ _ => rfl)))),
    body_ok (SndSP.mono (bs := []) (snds_ret (ps := [0, 1]) (snd_op snd_ix (snd_var) (snd_call (ms := [true, false]) rfl (snda_cons (snd_var) (snda_cons (snd_cb snd_len (snda_cons (snd_var) (snda_nil))) (snda_nil)))))) (by decide)) pf_law_of vs H Q E h⟩
theorem ok_law_of (F : ∃ fd, FunD K "_law_of" "_law_of" (defArgs (top 40)) (defBody (top 40)) (defScope (top 40)) [] [] (He.ga K "_law_of") fd) (at_ : mg "_law_of" = some (.ref (He.ga K "_law_of"))) (B : Blt mg) (g_law_draw : FP P w K mg base "_law_draw" 1 2 sp_law_draw) : FP P w K mg base "_law_of" 2 2 sp_law_of := by
  obtain ⟨fd, F⟩ := F
  exact ⟨⟨fd, ["bag", "things"], okn_law_of F at_ B g_law_draw, F.bindsN fun _ _ _ _ _ _ us hl => match us, hl with | [_, _], _ => rfl⟩, F.kp, at_⟩
theorem sc_law_labels : FnScope ["bag", "size", "mine", "k", "label", "x"] ["bag", "size"] (defScope (top 43)) := ⟨rfl, rfl, rfl, by decide +kernel, rfl, by decide +kernel, by decide +kernel⟩
theorem okn_law_labels {fd : FuncData} (F : FunD K "_law_labels" "_law_labels" (defArgs (top 43)) (defBody (top 43)) (defScope (top 43)) [] [] (He.ga K "_law_labels") fd) (at_ : mg "_law_labels" = some (.ref (He.ga K "_law_labels"))) (B : Blt mg) (g_law_draw : FP P w K mg base "_law_draw" 1 2 sp_law_draw) (g_law_of : FP P w K mg base "_law_of" 2 2 sp_law_of) : FnOk P w K mg base CX0 3 (He.ga K "_law_labels") fd ["bag", "size"] (up K 2 sp_law_labels) := by
  have sc := sc_law_labels
  refine F.ok sc (fun _ _ _ _ h => h.1) (fun cdv A outer s H vs Q E hr h => ?_)
  exact ⟨_, PSs.nox (pss_cons (ps_set (i := 2) sc.nd rfl (Or.inr rfl) (pe_lst (pa_nil))) (pss_cons (ps_for PassesOwn.never rfl (pi_range1 (by rfl) B.range (pa_cons (pv 1) pa_nil)) (pg_name (i := 3) sc.nd rfl (Or.inl rfl)) (pss_cons (ps_if (pt_cmpR (op_eqE hr.units) (pe_f g_law_draw (Room.mono hr (by decide)) (by rfl) (pa_cons (pv 0) (pa_cons (pe_int) (pa_nil)))) (pe_int) (nomark _)) (pss_one (ps_set (i := 4) sc.nd rfl (Or.inl rfl) (pe_f g_law_of (Room.mono hr (by decide)) (by rfl) (pa_cons (pv 0) (pa_cons (pe_lst (pa_cons (pe_str) (pa_cons (pe_str) (pa_cons (pe_str) (pa_cons (pe_str) (pa_cons (pe_str) (pa_cons (pe_str) (pa_cons (pe_str) (pa_cons (pe_str) (pa_cons (pe_str) (pa_cons (pe_str) (pa_cons (pe_str) (pa_nil))))))))))))) (pa_nil)))))) (pss_one (ps_set (i := 4) sc.nd rfl (Or.inl rfl) (pe_bm PySem.F.plainAttrs_str PySem.F.slot_str_join PySem.F.type_str_join mt_join (pe_str) (pa_cons (pe_lc (own := [("x", 5)]) (g := gName 5) rfl sc.nd (pi_range1 (by rfl) B.range (pa_cons (pe_op op_plus (pe_int) (pe_f g_law_draw (Room.mono hr (by decide)) (by rfl) (pa_cons (pv 0) (pa_cons (pe_int) (pa_nil))))) pa_nil)) (blkOk_by (by kernel_rfl)) (fun _ _ _ _ _ => pg_name (i := 5) sc.nd rfl (Or.inl rfl)) (fun _ _ _ _ _ => pts_nil) (fun _ _ _ _ _ => pe_f g_law_of (Room.mono hr (by decide)) (by rfl) (pa_cons (pv 0) (pa_cons (pe_str) (pa_nil))))) pa_nil))))) (pss_cons (ps_if (pt_cmpR (op_inU (Room.u65 hr)) (pv 4) (pv 2) (by rfl)) (pss_one (ps_set (i := 4) sc.nd rfl (Or.inl rfl) (pe_ix ix_seq (pe_lc (own := [("x", 5)]) (g := gName 5) rfl sc.nd (pi_str (pe_str)) (blkOk_by (by kernel_rfl)) (fun _ _ _ _ _ => pg_name (i := 5) sc.nd rfl (Or.inl rfl)) (fun _ _ _ _ _ => pts_one (pt_cmpR (op_ninU (Room.u65 hr)) (pv 5) (pv 2) (by rfl))) (fun _ _ _ _ _ => pv 5)) (pe_int) (fun _ _ => rfl)))) (pss_nil)) (pss_one (ps_expr (pe_bm PySem.F.plainAttrs_list PySem.F.slot_list_append PySem.F.type_list_append mt_append (pv 2) (pa_cons (pv 4) (pa_nil)))))))) (pss_one (ps_ret (pe_callTy call_tuple_of (by rfl) B.tuple (by decide +kernel) (pa_cons (pv 2) (pa_nil))))))),
    body_ok (SndSP.mono (bs := [2, 3, 4]) (sndp_seq ((snds_setO (snd_lst (snda_nil))).p) (sndp_seq (sndp_for (as := [3, 4]) (sndi_rng1 (snd_var)) (sndg_name) (sndp_seq (sndp_if (sndt_test (snd_op snd_eq (snd_call (ms := [true, false]) rfl (snda_cons (snd_var) (snda_cons (snd_int) (snda_nil)))) (snd_int))) ((snds_set (snd_call (ms := [true, true]) rfl (snda_cons (snd_var) (snda_cons (snd_lst (snda_cons (snd_str) (snda_cons (snd_str) (snda_cons (snd_str) (snda_cons (snd_str) (snda_cons (snd_str) (snda_cons (snd_str) (snda_cons (snd_str) (snda_cons (snd_str) (snda_cons (snd_str) (snda_cons (snd_str) (snda_cons (snd_str) (snda_nil))))))))))))) (snda_nil))))).p) ((snds_set (snd_join (snd_str) (snd_comp (vs := [5]) (sndi_rng1 (snd_op snd_plus (snd_int) (snd_call (ms := [true, false]) rfl (snda_cons (snd_var) (snda_cons (snd_int) (snda_nil)))))) (sndg_name) (sndt_yes) (snd_call (ms := [true, true]) rfl (snda_cons (snd_var) (snda_cons (snd_str) (snda_nil)))) (by decide)))).p)) (sndp_seq (sndp_if (sndt_test (snd_op snd_in (snd_var) (snd_var))) ((snds_set (snd_op snd_ix (snd_comp (vs := [5]) (sndi_str (snd_str)) (sndg_name) (sndt_test (snd_op snd_nin (snd_var) (snd_var))) (snd_var) (by decide)) (snd_int))).p) (snds_next.p)) ((snds_expr (snd_lm sndm_append (snd_var) (snda_cons (snd_var) (snda_nil)))).p))) (by decide)) (snds_ret (ps := [0]) (snd_cb snd_tuple (snda_cons (snd_var) (snda_nil)))))) (by decide)) pf_law_labels vs H Q E h⟩
theorem ok_law_labels (F : ∃ fd, FunD K "_law_labels" "_law_labels" (defArgs (top 43)) (defBody (top 43)) (defScope (top 43)) [] [] (He.ga K "_law_labels") fd) (at_ : mg "_law_labels" = some (.ref (He.ga K "_law_labels"))) (B : Blt mg) (g_law_draw : FP P w K mg base "_law_draw" 1 2 sp_law_draw) (g_law_of : FP P w K mg base "_law_of" 2 2 sp_law_of) : FP P w K mg base "_law_labels" 3 2 sp_law_labels := by
  obtain ⟨fd, F⟩ := F
  exact ⟨⟨fd, ["bag", "size"], okn_law_labels F at_ B g_law_draw g_law_of, F.bindsN fun _ _ _ _ _ _ us hl => match us, hl with | [_, _], _ => rfl⟩, F.kp, at_⟩
theorem sc_law_step_row : FnScope ["bag", "size", "mood", "mine", "free", "lap", "x", "pick", "y", "sign"] ["bag", "size", "mood"] (defScope (top 44)) := ⟨rfl, rfl, rfl, by decide +kernel, rfl, by decide +kernel, by decide +kernel⟩
theorem okn_law_step_row {fd : FuncData} (F : FunD K "_law_step_row" "_law_step_row" (defArgs (top 44)) (defBody (top 44)) (defScope (top 44)) [] [] (He.ga K "_law_step_row") fd) (at_ : mg "_law_step_row" = some (.ref (He.ga K "_law_step_row"))) (B : Blt mg) (g_law_draw : FP P w K mg base "_law_draw" 1 2 sp_law_draw) : FnOk P w K mg base CX0 2 (He.ga K "_law_step_row") fd ["bag", "size", "mood"] (up K 3 sp_law_step_row) := by
  have sc := sc_law_step_row
  refine F.ok sc (fun _ _ _ _ h => h.1) (fun cdv A outer s H vs Q E hr h => ?_)
  exact ⟨_, PSs.nox (pss_cons (ps_setLc (i := 3) (own := [("x", 6)]) (g := gName 6) rfl sc.nd rfl rfl (sw_true rfl rfl rfl (by decide +kernel)) (pi_range1 (by rfl) B.range (pa_cons (pv 1) pa_nil)) (blkOk_by (by kernel_rfl)) (fun _ _ _ _ _ => pg_name (i := 6) sc.nd rfl (Or.inl rfl)) (fun _ _ _ _ _ => pts_nil) (fun _ _ _ _ _ => pe_tup (pa_cons (pv 6) (pa_cons (pe_int) (pa_nil))))) (pss_cons (ps_setLc (i := 4) (own := [("x", 6)]) (g := gName 6) rfl sc.nd rfl rfl (sw_true rfl rfl rfl (by decide +kernel)) (pi_range1 (by rfl) B.range (pa_cons (pv 1) pa_nil)) (blkOk_by (by kernel_rfl)) (fun _ _ _ _ _ => pg_name (i := 6) sc.nd rfl (Or.inl rfl)) (fun _ _ _ _ _ => pts_nil) (fun _ _ _ _ _ => pv 6)) (pss_cons (ps_for PassesOwn.never rfl (pi_range1 (by rfl) B.range (pa_cons (pv 1) pa_nil)) (pg_name (i := 5) sc.nd rfl (Or.inl rfl)) (pss_one (ps_if (pt_cmpR (op_neE hr.units) (pv 4) (pe_lst (pa_nil)) (nomark _)) (pss_cons (ps_set (i := 6) sc.nd rfl (Or.inl rfl) (pe_bm PySem.F.plainAttrs_list PySem.F.slot_list_pop PySem.F.type_list_pop mt_popAt (pv 4) (pa_cons (pe_int) (pa_nil)))) (pss_cons (ps_set (i := 7) sc.nd rfl (Or.inl rfl) (pe_f g_law_draw (Room.mono hr (by decide)) (by rfl) (pa_cons (pv 0) (pa_cons (pe_int) (pa_nil))))) (pss_one (ps_if (PW.pt (pw_and (pt_cmpR op_gt (pv 7) (pe_int) (nomark _)) (pw_and1 (pt_cmpR (op_neE hr.units) (pv 4) (pe_lst (pa_nil)) (nomark _))))) (pss_cons (ps_set (i := 8) sc.nd rfl (Or.inl rfl) (pe_bm PySem.F.plainAttrs_list PySem.F.slot_list_pop PySem.F.type_list_pop mt_popAt (pv 4) (pa_cons (pe_f g_law_draw (Room.mono hr (by decide)) (by rfl) (pa_cons (pv 0) (pa_cons (pe_callB call_len (by rfl) B.len boot_len (pa_cons (pv 4) (pa_nil))) (pa_nil)))) (pa_nil)))) (pss_cons (ps_set (i := 9) sc.nd rfl (Or.inl rfl) (pe_ifExp (PW.pt (pw_and (pt_cmpR (op_eqE hr.units) (pv 2) (pe_int) (nomark _)) (pw_and1 (pt_cmpR (op_eqE hr.units) (pe_f g_law_draw (Room.mono hr (by decide)) (by rfl) (pa_cons (pv 0) (pa_cons (pe_int) (pa_nil)))) (pe_int) (nomark _))))) (pe_op op_sub (pe_int) (pe_int)) (pe_int))) (pss_one (ps_asg (pe_tup (pa_cons (pe_tup (pa_cons (pv 8) (pa_cons (pv 9) (pa_nil)))) (pa_cons (pe_tup (pa_cons (pv 6) (pa_cons (pv 9) (pa_nil)))) (pa_nil)))) (pg_tup rfl (pgs_cons (pg_sub (pv 3) (pv 6) set_list) (pgs_cons (pg_sub (pv 3) (pv 8) set_list) (pgs_nil)))))))) (pss_one (ps_asg (pe_tup (pa_cons (pv 6) (pa_cons (pe_ifExp (PW.pt (pw_and (pt_cmpR op_lt (pv 2) (pe_int) (nomark _)) (pw_and1 (pt_cmpR (op_eqE hr.units) (pe_op op_mod (pe_callTy call_int1 (by rfl) B.int (by decide +kernel) (pa_cons (pv 7) (pa_nil))) (pe_int)) (pe_int) (nomark _))))) (pe_op op_sub (pe_int) (pe_int)) (pe_int)) (pa_nil)))) (pg_sub (pv 3) (pv 6) set_list))))))) (pss_nil)))) (pss_one (ps_ret (pv 3)))))),
    body_ok (SndSP.mono (bs := [3, 4, 5, 6, 7, 8, 9]) (sndp_seq ((snds_setO (snd_comp (vs := [6]) (sndi_rng1 (snd_var)) (sndg_name) (sndt_yes) (snd_tup (snda_cons (snd_var) (snda_cons (snd_int) (snda_nil)))) (by decide))).p) (sndp_seq ((snds_setO (snd_comp (vs := [6]) (sndi_rng1 (snd_var)) (sndg_name) (sndt_yes) (snd_var) (by decide))).p) (sndp_seq (sndp_for (as := [5, 6, 7, 8, 9]) (sndi_rng1 (snd_var)) (sndg_name) (sndp_if (sndt_test (snd_op snd_ne (snd_var) (snd_lst (snda_nil)))) (sndp_seq ((snds_set (snd_lm sndm_pop1 (snd_var) (snda_cons (snd_int) (snda_nil)))).p) (sndp_seq ((snds_set (snd_call (ms := [true, false]) rfl (snda_cons (snd_var) (snda_cons (snd_int) (snda_nil))))).p) (sndp_if (sndt_and (sndt_test (snd_op (snd_icmp (p := fun i j => decide (j < i))) (snd_var) (snd_int))) (sndt_test (snd_op snd_ne (snd_var) (snd_lst (snda_nil))))) (sndp_seq ((snds_set (snd_lm sndm_pop1 (snd_var) (snda_cons (snd_call (ms := [true, false]) rfl (snda_cons (snd_var) (snda_cons (snd_cb snd_len (snda_cons (snd_var) (snda_nil))) (snda_nil)))) (snda_nil)))).p) (sndp_seq ((snds_set (snd_if (sndt_and (sndt_test (snd_op snd_eq (snd_var) (snd_int))) (sndt_test (snd_op snd_eq (snd_call (ms := [true, false]) rfl (snda_cons (snd_var) (snda_cons (snd_int) (snda_nil)))) (snd_int)))) (snd_op snd_minus (snd_int) (snd_int)) (snd_int))).p) ((snds_asg (snd_tup (snda_cons (snd_tup (snda_cons (snd_var) (snda_cons (snd_var) (snda_nil)))) (snda_cons (snd_tup (snda_cons (snd_var) (snda_cons (snd_var) (snda_nil)))) (snda_nil)))) (sndg_tup (n := 2) (sndgs_cons (sndg_sub (snd_var) (snd_var)) (sndgs_cons (sndg_sub (snd_var) (snd_var)) (sndgs_nil))))).p))) ((snds_asg (snd_tup (snda_cons (snd_var) (snda_cons (snd_if (sndt_and (sndt_test (snd_op (snd_icmp (p := fun i j => decide (i < j))) (snd_var) (snd_int))) (sndt_test (snd_op snd_eq (snd_op snd_mod (snd_cb snd_int1 (snda_cons (snd_var) (snda_nil))) (snd_int)) (snd_int)))) (snd_op snd_minus (snd_int) (snd_int)) (snd_int)) (snda_nil)))) (sndg_sub (snd_var) (snd_var))).p)))) (snds_next.p)) (by decide)) (snds_ret (ps := [0]) (snd_var))))) (by decide)) pf_law_step_row vs H Q E h⟩
theorem ok_law_step_row (F : ∃ fd, FunD K "_law_step_row" "_law_step_row" (defArgs (top 44)) (defBody (top 44)) (defScope (top 44)) [] [] (He.ga K "_law_step_row") fd) (at_ : mg "_law_step_row" = some (.ref (He.ga K "_law_step_row"))) (B : Blt mg) (g_law_draw : FP P w K mg base "_law_draw" 1 2 sp_law_draw) : FP P w K mg base "_law_step_row" 2 3 sp_law_step_row := by
  obtain ⟨fd, F⟩ := F
  exact ⟨⟨fd, ["bag", "size", "mood"], okn_law_step_row F at_ B g_law_draw, F.bindsN fun _ _ _ _ _ _ us hl => match us, hl with | [_, _, _], _ => rfl⟩, F.kp, at_⟩
theorem sc_law_net : FnScope ["bag", "many_sides", "size", "mood", "k"] ["bag", "many_sides", "size"] (defScope (top 45)) := ⟨rfl, rfl, rfl, by decide +kernel, rfl, by decide +kernel, by decide +kernel⟩
theorem okn_law_net {fd : FuncData} (F : FunD K "_law_net" "_law_net" (defArgs (top 45)) (defBody (top 45)) (defScope (top 45)) [] [] (He.ga K "_law_net") fd) (at_ : mg "_law_net" = some (.ref (He.ga K "_law_net"))) (B : Blt mg) (g_law_of : FP P w K mg base "_law_of" 2 2 sp_law_of) (g_law_step_row : FP P w K mg base "_law_step_row" 2 3 sp_law_step_row) : FnOk P w K mg base CX0 3 (He.ga K "_law_net") fd ["bag", "many_sides", "size"] (up K 3 sp_law_net) := by
  have sc := sc_law_net
  refine F.ok sc (fun _ _ _ _ h => h.1) (fun cdv A outer s H vs Q E hr h => ?_)
  exact ⟨_, PSs.nox (pss_cons (ps_set (i := 3) sc.nd rfl (Or.inr rfl) (pe_f g_law_of (Room.mono hr (by decide)) (by rfl) (pa_cons (pv 0) (pa_cons (pe_lst (pa_cons (pe_int) (pa_cons (pe_int) (pa_cons (pe_int) (pa_cons (pe_int) (pa_cons (pe_int) (pa_nil))))))) (pa_nil))))) (pss_one (ps_ret (pe_lc (own := [("k", 4)]) (g := gName 4) rfl sc.nd (pi_range1 (by rfl) B.range (pa_cons (pv 1) pa_nil)) (blkOk_by (by kernel_rfl)) (fun _ _ _ _ _ => pg_name (i := 4) sc.nd rfl (Or.inl rfl)) (fun _ _ _ _ _ => pts_nil) (fun _ _ _ _ _ => pe_f g_law_step_row (Room.mono hr (by decide)) (by rfl) (pa_cons (pv 0) (pa_cons (pv 2) (pa_cons (pv 3) (pa_nil))))))))),
    body_ok (SndSP.mono (bs := [3]) (sndp_seq ((snds_set (snd_call (ms := [true, true]) rfl (snda_cons (snd_var) (snda_cons (snd_lst (snda_cons (snd_int) (snda_cons (snd_int) (snda_cons (snd_int) (snda_cons (snd_int) (snda_cons (snd_int) (snda_nil))))))) (snda_nil))))).p) (snds_ret (ps := [0]) (snd_comp (vs := [4]) (sndi_rng1 (snd_var)) (sndg_name) (sndt_yes) (snd_call (ms := [true, false, false]) rfl (snda_cons (snd_var) (snda_cons (snd_var) (snda_cons (snd_var) (snda_nil))))) (by decide)))) (by decide)) pf_law_net vs H Q E h⟩
theorem ok_law_net (F : ∃ fd, FunD K "_law_net" "_law_net" (defArgs (top 45)) (defBody (top 45)) (defScope (top 45)) [] [] (He.ga K "_law_net") fd) (at_ : mg "_law_net" = some (.ref (He.ga K "_law_net"))) (B : Blt mg) (g_law_of : FP P w K mg base "_law_of" 2 2 sp_law_of) (g_law_step_row : FP P w K mg base "_law_step_row" 2 3 sp_law_step_row) : FP P w K mg base "_law_net" 3 3 sp_law_net := by
  obtain ⟨fd, F⟩ := F
  exact ⟨⟨fd, ["bag", "many_sides", "size"], okn_law_net F at_ B g_law_of g_law_step_row, F.bindsN fun _ _ _ _ _ _ us hl => match us, hl with | [_, _, _], _ => rfl⟩, F.kp, at_⟩
theorem sc_law_order : FnScope ["bag", "size", "rest", "x", "k"] ["bag", "size"] (defScope (top 52)) := ⟨rfl, rfl, rfl, by decide +kernel, rfl, by decide +kernel, by decide +kernel⟩
theorem okn_law_order {fd : FuncData} (F : FunD K "_law_order" "_law_order" (defArgs (top 52)) (defBody (top 52)) (defScope (top 52)) [] [] (He.ga K "_law_order") fd) (at_ : mg "_law_order" = some (.ref (He.ga K "_law_order"))) (B : Blt mg) (g_law_draw : FP P w K mg base "_law_draw" 1 2 sp_law_draw) : FnOk P w K mg base CX0 2 (He.ga K "_law_order") fd ["bag", "size"] (up K 2 sp_law_order) := by
  have sc := sc_law_order
  refine F.ok sc (fun _ _ _ _ h => h.1) (fun cdv A outer s H vs Q E hr h => ?_)
  exact ⟨_, PSs.nox (pss_cons (ps_set (i := 2) sc.nd rfl (Or.inr rfl) (pe_lc (own := [("x", 3)]) (g := gName 3) rfl sc.nd (pi_range1 (by rfl) B.range (pa_cons (pv 1) pa_nil)) (blkOk_by (by kernel_rfl)) (fun _ _ _ _ _ => pg_name (i := 3) sc.nd rfl (Or.inl rfl)) (fun _ _ _ _ _ => pts_nil) (fun _ _ _ _ _ => pv 3))) (pss_one (ps_ret (pe_lc (own := [("k", 4)]) (g := gName 4) rfl sc.nd (pi_range1 (by rfl) B.range (pa_cons (pv 1) pa_nil)) (blkOk_by (by kernel_rfl)) (fun _ _ _ _ _ => pg_name (i := 4) sc.nd rfl (Or.inl rfl)) (fun _ _ _ _ _ => pts_nil) (fun _ _ _ _ _ => pe_bm PySem.F.plainAttrs_list PySem.F.slot_list_pop PySem.F.type_list_pop mt_popAt (pv 2) (pa_cons (pe_f g_law_draw (Room.mono hr (by decide)) (by rfl) (pa_cons (pv 0) (pa_cons (pe_callB call_len (by rfl) B.len boot_len (pa_cons (pv 2) (pa_nil))) (pa_nil)))) (pa_nil))))))),
    body_ok (SndSP.mono (bs := [2]) (sndp_seq ((snds_setO (snd_comp (vs := [3]) (sndi_rng1 (snd_var)) (sndg_name) (sndt_yes) (snd_var) (by decide))).p) (snds_ret (ps := [0]) (snd_comp (vs := [4]) (sndi_rng1 (snd_var)) (sndg_name) (sndt_yes) (snd_lm sndm_pop1 (snd_var) (snda_cons (snd_call (ms := [true, false]) rfl (snda_cons (snd_var) (snda_cons (snd_cb snd_len (snda_cons (snd_var) (snda_nil))) (snda_nil)))) (snda_nil))) (by decide)))) (by decide)) pf_law_order vs H Q E h⟩
theorem ok_law_order (F : ∃ fd, FunD K "_law_order" "_law_order" (defArgs (top 52)) (defBody (top 52)) (defScope (top 52)) [] [] (He.ga K "_law_order") fd) (at_ : mg "_law_order" = some (.ref (He.ga K "_law_order"))) (B : Blt mg) (g_law_draw : FP P w K mg base "_law_draw" 1 2 sp_law_draw) : FP P w K mg base "_law_order" 2 2 sp_law_order := by
  obtain ⟨fd, F⟩ := F
  exact ⟨⟨fd, ["bag", "size"], okn_law_order F at_ B g_law_draw, F.bindsN fun _ _ _ _ _ _ us hl => match us, hl with | [_, _], _ => rfl⟩, F.kp, at_⟩
theorem sc_law_turned_net : FnScope ["net", "turns", "moves", "x"] ["net", "turns"] (defScope (top 50)) := ⟨rfl, rfl, rfl, by decide +kernel, rfl, by decide +kernel, by decide +kernel⟩
theorem okn_law_turned_net {fd : FuncData} (F : FunD K "_law_turned_net" "_law_turned_net" (defArgs (top 50)) (defBody (top 50)) (defScope (top 50)) [] [] (He.ga K "_law_turned_net") fd) (at_ : mg "_law_turned_net" = some (.ref (He.ga K "_law_turned_net"))) (B : Blt mg)  : FnOk P w K mg base CX0 1 (He.ga K "_law_turned_net") fd ["net", "turns"] (up K 2 sp_law_turned_net) := by
  have sc := sc_law_turned_net
  refine F.ok sc (fun _ _ _ _ h => h.1) (fun cdv A outer s H vs Q E hr h => ?_)
  exact ⟨_, PSs.nox (pss_one (ps_ret (pe_lc (own := [("moves", 2)]) (g := gName 2) rfl sc.nd (pi_list (pv 0)) (blkOk_by (by kernel_rfl)) (fun _ _ _ _ _ => pg_name (i := 2) sc.nd rfl (Or.inr rfl)) (fun _ _ _ _ _ => pts_nil) (fun _ _ _ _ _ => pe_lc (own := [("x", 3)]) (g := gName 3) rfl sc.nd (pi_range1 (by rfl) B.range (pa_cons (pe_callB call_len (by rfl) B.len boot_len (pa_cons (pv 1) (pa_nil))) pa_nil)) (blkOk_by (by kernel_rfl)) (fun _ _ _ _ _ => pg_name (i := 3) sc.nd rfl (Or.inl rfl)) (fun _ _ _ _ _ => pts_nil) (fun _ _ _ _ _ => pe_tup (pa_cons (pe_ix ix_seq (pe_ix ix_seq (pv 2) (pv 3) (fun _ _ => rfl)) (pe_int) (fun _ _ => rfl)) (pa_cons (pe_op op_times (pe_op op_times (pe_ix ix_seq (pe_ix ix_seq (pv 2) (pv 3) (fun _ _ => rfl)) (pe_int) (fun _ _ => rfl)) (pe_ix ix_seq (pv 1) (pv 3) (fun _ _ => rfl))) (pe_ix ix_seq (pv 1) (pe_ix ix_seq (pe_ix ix_seq (pv 2) (pv 3) (fun _ _ => rfl)) (pe_int) (fun _ _ => rfl)) (fun _ _ => rfl))) (pa_nil)))))))),
    body_ok (SndSP.mono (bs := []) (snds_ret (ps := []) (snd_comp (vs := [2]) (sndi_list (snd_var)) (sndg_name) (sndt_yes) (snd_comp (vs := [3]) (sndi_rng1 (snd_cb snd_len (snda_cons (snd_var) (snda_nil)))) (sndg_name) (sndt_yes) (snd_tup (snda_cons (snd_op snd_ix (snd_op snd_ix (snd_var) (snd_var)) (snd_int)) (snda_cons (snd_op snd_times (snd_op snd_times (snd_op snd_ix (snd_op snd_ix (snd_var) (snd_var)) (snd_int)) (snd_op snd_ix (snd_var) (snd_var))) (snd_op snd_ix (snd_var) (snd_op snd_ix (snd_op snd_ix (snd_var) (snd_var)) (snd_int)))) (snda_nil)))) (by decide)) (by decide))) (by decide)) pf_law_turned_net vs H Q E h⟩
theorem ok_law_turned_net (F : ∃ fd, FunD K "_law_turned_net" "_law_turned_net" (defArgs (top 50)) (defBody (top 50)) (defScope (top 50)) [] [] (He.ga K "_law_turned_net") fd) (at_ : mg "_law_turned_net" = some (.ref (He.ga K "_law_turned_net"))) (B : Blt mg)  : FP P w K mg base "_law_turned_net" 1 2 sp_law_turned_net := by
  obtain ⟨fd, F⟩ := F
  exact ⟨⟨fd, ["net", "turns"], okn_law_turned_net F at_ B , F.bindsN fun _ _ _ _ _ _ us hl => match us, hl with | [_, _], _ => rfl⟩, F.kp, at_⟩
theorem sc_law_named_net : FnScope ["net", "names", "mine", "moves", "here", "x"] ["net", "names"] (defScope (top 51)) := ⟨rfl, rfl, rfl, by decide +kernel, rfl, by decide +kernel, by decide +kernel⟩
theorem okn_law_named_net {fd : FuncData} (F : FunD K "_law_named_net" "_law_named_net" (defArgs (top 51)) (defBody (top 51)) (defScope (top 51)) [] [] (He.ga K "_law_named_net") fd) (at_ : mg "_law_named_net" = some (.ref (He.ga K "_law_named_net"))) (B : Blt mg)  : FnOk P w K mg base CX0 1 (He.ga K "_law_named_net") fd ["net", "names"] (up K 2 sp_law_named_net) := by
  have sc := sc_law_named_net
  refine F.ok sc (fun _ _ _ _ h => h.1) (fun cdv A outer s H vs Q E hr h => ?_)
  exact ⟨_, PSs.nox (pss_cons (ps_set (i := 2) sc.nd rfl (Or.inl rfl) (pe_lst (pa_nil))) (pss_cons (ps_for PassesOwn.never rfl (pi_list (pv 0)) (pg_name (i := 3) sc.nd rfl (Or.inl rfl)) (pss_cons (ps_setLc (i := 4) (own := [("x", 5)]) (g := gName 5) rfl sc.nd rfl rfl (sw_true rfl rfl rfl (by decide +kernel)) (pi_list (pv 1)) (blkOk_by (by kernel_rfl)) (fun _ _ _ _ _ => pg_name (i := 5) sc.nd rfl (Or.inl rfl)) (fun _ _ _ _ _ => pts_nil) (fun _ _ _ _ _ => pe_tup (pa_cons (pv 5) (pa_cons (pe_int) (pa_nil))))) (pss_cons (ps_for PassesOwn.never rfl (pi_range1 (by rfl) B.range (pa_cons (pe_callB call_len (by rfl) B.len boot_len (pa_cons (pv 1) (pa_nil))) pa_nil)) (pg_name (i := 5) sc.nd rfl (Or.inl rfl)) (pss_one (ps_asg (pe_tup (pa_cons (pe_ix ix_seq (pv 1) (pe_ix ix_seq (pe_ix ix_seq (pv 3) (pv 5) (fun _ _ => rfl)) (pe_int) (fun _ _ => rfl)) (fun _ _ => rfl)) (pa_cons (pe_ix ix_seq (pe_ix ix_seq (pv 3) (pv 5) (fun _ _ => rfl)) (pe_int) (fun _ _ => rfl)) (pa_nil)))) (pg_sub (pv 4) (pe_ix ix_seq (pv 1) (pv 5) (fun _ _ => rfl)) set_list)))) (pss_one (ps_expr (pe_bm PySem.F.plainAttrs_list PySem.F.slot_list_append PySem.F.type_list_append mt_append (pv 2) (pa_cons (pv 4) (pa_nil)))))))) (pss_one (ps_ret (pv 2))))),
    body_ok (SndSP.mono (bs := [2, 3, 4, 5]) (sndp_seq ((snds_setO (snd_lst (snda_nil))).p) (sndp_seq (sndp_for (as := [3, 4, 5]) (sndi_list (snd_var)) (sndg_name) (sndp_seq ((snds_setO (snd_comp (vs := [5]) (sndi_list (snd_var)) (sndg_name) (sndt_yes) (snd_tup (snda_cons (snd_var) (snda_cons (snd_int) (snda_nil)))) (by decide))).p) (sndp_seq (sndp_for (as := [5]) (sndi_rng1 (snd_cb snd_len (snda_cons (snd_var) (snda_nil)))) (sndg_name) ((snds_asg (snd_tup (snda_cons (snd_op snd_ix (snd_var) (snd_op snd_ix (snd_op snd_ix (snd_var) (snd_var)) (snd_int))) (snda_cons (snd_op snd_ix (snd_op snd_ix (snd_var) (snd_var)) (snd_int)) (snda_nil)))) (sndg_sub (snd_var) (snd_op snd_ix (snd_var) (snd_var)))).p) (by decide)) ((snds_expr (snd_lm sndm_append (snd_var) (snda_cons (snd_varz) (snda_nil)))).p))) (by decide)) (snds_ret (ps := [1]) (snd_var)))) (by decide)) pf_law_named_net vs H Q E h⟩
theorem ok_law_named_net (F : ∃ fd, FunD K "_law_named_net" "_law_named_net" (defArgs (top 51)) (defBody (top 51)) (defScope (top 51)) [] [] (He.ga K "_law_named_net") fd) (at_ : mg "_law_named_net" = some (.ref (He.ga K "_law_named_net"))) (B : Blt mg)  : FP P w K mg base "_law_named_net" 1 2 sp_law_named_net := by
  obtain ⟨fd, F⟩ := F
  exact ⟨⟨fd, ["net", "names"], okn_law_named_net F at_ B , F.bindsN fun _ _ _ _ _ _ us hl => match us, hl with | [_, _], _ => rfl⟩, F.kp, at_⟩
theorem sc_law_disguise : FnScope ["bag", "net", "size", "names", "turns", "x"] ["bag", "net"] (defScope (top 53)) := ⟨rfl, rfl, rfl, by decide +kernel, rfl, by decide +kernel, by decide +kernel⟩
theorem okn_law_disguise {fd : FuncData} (F : FunD K "_law_disguise" "_law_disguise" (defArgs (top 53)) (defBody (top 53)) (defScope (top 53)) [] [] (He.ga K "_law_disguise") fd) (at_ : mg "_law_disguise" = some (.ref (He.ga K "_law_disguise"))) (B : Blt mg) (g_law_order : FP P w K mg base "_law_order" 2 2 sp_law_order) (g_law_of : FP P w K mg base "_law_of" 2 2 sp_law_of) (g_law_named_net : FP P w K mg base "_law_named_net" 1 2 sp_law_named_net) (g_law_turned_net : FP P w K mg base "_law_turned_net" 1 2 sp_law_turned_net) : FnOk P w K mg base CX0 3 (He.ga K "_law_disguise") fd ["bag", "net"] (up K 2 sp_law_disguise) := by
  have sc := sc_law_disguise
  refine F.ok sc (fun _ _ _ _ h => h.1) (fun cdv A outer s H vs Q E hr h => ?_)
  exact ⟨_, PSs.nox (pss_cons (ps_set (i := 2) sc.nd rfl (Or.inl rfl) (pe_callB call_len (by rfl) B.len boot_len (pa_cons (pe_ix ix_seq (pv 1) (pe_int) (fun _ _ => rfl)) (pa_nil)))) (pss_cons (ps_set (i := 3) sc.nd rfl (Or.inl rfl) (pe_f g_law_order (Room.mono hr (by decide)) (by rfl) (pa_cons (pv 0) (pa_cons (pv 2) (pa_nil))))) (pss_cons (ps_setLc (i := 4) (own := [("x", 5)]) (g := gName 5) rfl sc.nd rfl rfl (sw_true rfl rfl rfl (by decide +kernel)) (pi_range1 (by rfl) B.range (pa_cons (pv 2) pa_nil)) (blkOk_by (by kernel_rfl)) (fun _ _ _ _ _ => pg_name (i := 5) sc.nd rfl (Or.inl rfl)) (fun _ _ _ _ _ => pts_nil) (fun _ _ _ _ _ => pe_f g_law_of (Room.mono hr (by decide)) (by rfl) (pa_cons (pv 0) (pa_cons (pe_lst (pa_cons (pe_int) (pa_cons (pe_int) (pa_cons (pe_op op_sub (pe_int) (pe_int)) (pa_nil))))) (pa_nil))))) (pss_one (ps_ret (pe_f g_law_turned_net (Room.mono hr (by decide)) (by rfl) (pa_cons (pe_f g_law_named_net (Room.mono hr (by decide)) (by rfl) (pa_cons (pv 1) (pa_cons (pv 3) (pa_nil)))) (pa_cons (pv 4) (pa_nil))))))))),
    body_ok (SndSP.mono (bs := [2, 3, 4]) (sndp_seq ((snds_set (snd_cb snd_len (snda_cons (snd_op snd_ix (snd_var) (snd_int)) (snda_nil)))).p) (sndp_seq ((snds_setO (snd_call (ms := [true, false]) rfl (snda_cons (snd_var) (snda_cons (snd_var) (snda_nil))))).p) (sndp_seq ((snds_set (snd_comp (vs := [5]) (sndi_rng1 (snd_var)) (sndg_name) (sndt_yes) (snd_call (ms := [true, true]) rfl (snda_cons (snd_var) (snda_cons (snd_lst (snda_cons (snd_int) (snda_cons (snd_int) (snda_cons (snd_op snd_minus (snd_int) (snd_int)) (snda_nil))))) (snda_nil)))) (by decide))).p) (snds_ret (ps := [0]) (snd_call (ms := [false, false]) rfl (snda_cons (snd_call (ms := [false, true]) rfl (snda_cons (snd_var) (snda_cons (snd_var) (snda_nil)))) (snda_cons (snd_var) (snda_nil)))))))) (by decide)) pf_law_disguise vs H Q E h⟩
theorem ok_law_disguise (F : ∃ fd, FunD K "_law_disguise" "_law_disguise" (defArgs (top 53)) (defBody (top 53)) (defScope (top 53)) [] [] (He.ga K "_law_disguise") fd) (at_ : mg "_law_disguise" = some (.ref (He.ga K "_law_disguise"))) (B : Blt mg) (g_law_order : FP P w K mg base "_law_order" 2 2 sp_law_order) (g_law_of : FP P w K mg base "_law_of" 2 2 sp_law_of) (g_law_named_net : FP P w K mg base "_law_named_net" 1 2 sp_law_named_net) (g_law_turned_net : FP P w K mg base "_law_turned_net" 1 2 sp_law_turned_net) : FP P w K mg base "_law_disguise" 3 2 sp_law_disguise := by
  obtain ⟨fd, F⟩ := F
  exact ⟨⟨fd, ["bag", "net"], okn_law_disguise F at_ B g_law_order g_law_of g_law_named_net g_law_turned_net, F.bindsN fun _ _ _ _ _ _ us hl => match us, hl with | [_, _], _ => rfl⟩, F.kp, at_⟩
theorem sc_law_cover : FnScope ["net", "mine", "moves", "here", "x", "more"] ["net"] (defScope (top 54)) := ⟨rfl, rfl, rfl, by decide +kernel, rfl, by decide +kernel, by decide +kernel⟩
theorem okn_law_cover {fd : FuncData} (F : FunD K "_law_cover" "_law_cover" (defArgs (top 54)) (defBody (top 54)) (defScope (top 54)) [] [] (He.ga K "_law_cover") fd) (at_ : mg "_law_cover" = some (.ref (He.ga K "_law_cover"))) (B : Blt mg)  : FnOk P w K mg base CX0 1 (He.ga K "_law_cover") fd ["net"] (up K 1 sp_law_cover) := by
  have sc := sc_law_cover
  refine F.ok sc (fun _ _ _ _ h => h.1) (fun cdv A outer s H vs Q E hr h => ?_)
  exact ⟨_, PSs.nox (pss_cons (ps_set (i := 1) sc.nd rfl (Or.inl rfl) (pe_lst (pa_nil))) (pss_cons (ps_for PassesOwn.never rfl (pi_list (pv 0)) (pg_name (i := 2) sc.nd rfl (Or.inl rfl)) (pss_cons (ps_set (i := 3) sc.nd rfl (Or.inl rfl) (pe_lst (pa_nil))) (pss_cons (ps_for PassesOwn.never rfl (pi_list (pv 2)) (pg_name (i := 4) sc.nd rfl (Or.inl rfl)) (pss_cons (ps_set (i := 5) sc.nd rfl (Or.inl rfl) (pe_ifExp (pt_cmpR (op_eqE hr.units) (pe_ix ix_seq (pv 4) (pe_int) (fun _ _ => rfl)) (pe_int) (nomark _)) (pe_int) (pe_int))) (pss_one (ps_expr (pe_bm PySem.F.plainAttrs_list PySem.F.slot_list_extend PySem.F.type_list_extend mt_extend (pv 3) (pa_cons (pe_lst (pa_cons (pe_tup (pa_cons (pe_op op_plus (pe_op op_times (pe_int) (pe_ix ix_seq (pv 4) (pe_int) (fun _ _ => rfl))) (pv 5)) (pa_cons (pe_int) (pa_nil)))) (pa_cons (pe_tup (pa_cons (pe_op op_sub (pe_op op_plus (pe_op op_times (pe_int) (pe_ix ix_seq (pv 4) (pe_int) (fun _ _ => rfl))) (pe_int)) (pv 5)) (pa_cons (pe_int) (pa_nil)))) (pa_nil)))) pa_nil)))))) (pss_one (ps_expr (pe_bm PySem.F.plainAttrs_list PySem.F.slot_list_append PySem.F.type_list_append mt_append (pv 1) (pa_cons (pv 3) (pa_nil)))))))) (pss_one (ps_ret (pv 1))))),
    body_ok (SndSP.mono (bs := [1, 2, 3, 4, 5]) (sndp_seq ((snds_setO (snd_lst (snda_nil))).p) (sndp_seq (sndp_for (as := [2, 3, 4, 5]) (sndi_list (snd_var)) (sndg_name) (sndp_seq ((snds_setO (snd_lst (snda_nil))).p) (sndp_seq (sndp_for (as := [4, 5]) (sndi_list (snd_var)) (sndg_name) (sndp_seq ((snds_set (snd_if (sndt_test (snd_op snd_eq (snd_op snd_ix (snd_var) (snd_int)) (snd_int))) (snd_int) (snd_int))).p) ((snds_expr (snd_extend (snd_var) (snd_lst (snda_cons (snd_tup (snda_cons (snd_op snd_plus (snd_op snd_times (snd_int) (snd_op snd_ix (snd_var) (snd_int))) (snd_var)) (snda_cons (snd_int) (snda_nil)))) (snda_cons (snd_tup (snda_cons (snd_op snd_minus (snd_op snd_plus (snd_op snd_times (snd_int) (snd_op snd_ix (snd_var) (snd_int))) (snd_int)) (snd_var)) (snda_cons (snd_int) (snda_nil)))) (snda_nil)))))).p)) (by decide)) ((snds_expr (snd_lm sndm_append (snd_var) (snda_cons (snd_varz) (snda_nil)))).p))) (by decide)) (snds_ret (ps := []) (snd_var)))) (by decide)) pf_law_cover vs H Q E h⟩
theorem ok_law_cover (F : ∃ fd, FunD K "_law_cover" "_law_cover" (defArgs (top 54)) (defBody (top 54)) (defScope (top 54)) [] [] (He.ga K "_law_cover") fd) (at_ : mg "_law_cover" = some (.ref (He.ga K "_law_cover"))) (B : Blt mg)  : FP P w K mg base "_law_cover" 1 1 sp_law_cover := by
  obtain ⟨fd, F⟩ := F
  exact ⟨⟨fd, ["net"], okn_law_cover F at_ B , F.bindsN fun _ _ _ _ _ _ us hl => match us, hl with | [_], _ => rfl⟩, F.kp, at_⟩
theorem sc_Plan_step : FnScope ["self", "side", "copy"] ["self", "side", "copy"] (defScope (inClass (top 36) 1)) := ⟨rfl, rfl, rfl, by decide +kernel, rfl, by decide +kernel, by decide +kernel⟩
theorem ok_Plan_step (F : ∃ fd, FunD K "step" "Plan.step" (defArgs (inClass (top 36) 1)) (defBody (inClass (top 36) 1)) (defScope (inClass (top 36) 1)) [] [] (He.ma K (He.ga K "Plan") "step") fd) (me : Meth K (He.ga K "Plan") "step" (He.ma K (He.ga K "Plan") "step")) (cl : Cls K (He.ga K "Plan")) (B : Blt mg) (k_Plan : ClsF K "Plan" flds_Plan) : MP P w K mg base "Plan" "step" 1 3 sp_Plan_step := by
  have sc := sc_Plan_step
  obtain ⟨fd, F⟩ := F
  refine ⟨⟨fd, ["self", "side", "copy"], F.ok sc (fun _ _ _ _ h => h.1) (fun cdv A outer s H vs Q E hr h => ?_), F.bindsN fun _ _ _ _ _ _ us hl => match us, hl with | [_, _, _], _ => rfl⟩, me, cl⟩
  exact ⟨_, PSs.nox (pss_one (ps_ret (pe_ix ix_seq (pe_ix ix_seq (pe_fld (pv 0) (by rfl)) (pv 1) (fun _ _ => rfl)) (pv 2) (fun _ _ => rfl)))),
    body_ok (SndSP.mono (bs := []) (snds_ret (ps := []) (snd_op snd_ix (snd_op snd_ix (snd_fld (cn := "Plan") k_Plan.c (k_Plan.n _ (by simp [flds_Plan])) (snd_var)) (snd_var)) (snd_var))) (by decide)) pf_Plan_step vs H Q E h⟩
theorem sc_step_row : FnScope ["plan", "side", "copy"] ["plan", "side"] (defScope (top 9)) := ⟨rfl, rfl, rfl, by decide +kernel, rfl, by decide +kernel, by decide +kernel⟩
theorem okn_step_row {fd : FuncData} (F : FunD K "step_row" "step_row" (defArgs (top 9)) (defBody (top 9)) (defScope (top 9)) [] [] (He.ga K "step_row") fd) (at_ : mg "step_row" = some (.ref (He.ga K "step_row"))) (B : Blt mg) (m_Plan_step : MP P w K mg base "Plan" "step" 1 3 sp_Plan_step) (k_Plan : ClsF K "Plan" flds_Plan) : FnOk P w K mg base CX0 2 (He.ga K "step_row") fd ["plan", "side"] (up K 2 sp_step_row) := by
  have sc := sc_step_row
  refine F.ok sc (fun _ _ _ _ h => h.1) (fun cdv A outer s H vs Q E hr h => ?_)
  exact ⟨_, PSs.nox (pss_one (ps_ret (pe_lc (own := [("copy", 2)]) (g := gName 2) rfl sc.nd (pi_range1 (by rfl) B.range (pa_cons (pe_fld (pv 0) (by rfl)) pa_nil)) (blkOk_by (by kernel_rfl)) (fun _ _ _ _ _ => pg_name (i := 2) sc.nd rfl (Or.inl rfl)) (fun _ _ _ _ _ => pts_nil) (fun _ _ _ _ _ => pe_m m_Plan_step (Room.mono hr (by decide)) (pv 0) (pa_cons (pv 1) (pa_cons (pv 2) (pa_nil))))))),
    body_ok (SndSP.mono (bs := []) (snds_ret (ps := []) (snd_comp (vs := [2]) (sndi_rng1 (snd_fld (cn := "Plan") k_Plan.c (k_Plan.n _ (by simp [flds_Plan])) (snd_var))) (sndg_name) (sndt_yes) (snd_meth (ms := [false, false, false]) rfl (snd_var) (snda_cons (snd_var) (snda_cons (snd_var) (snda_nil)))) (by decide))) (by decide)) pf_step_row vs H Q E h⟩
theorem ok_step_row (F : ∃ fd, FunD K "step_row" "step_row" (defArgs (top 9)) (defBody (top 9)) (defScope (top 9)) [] [] (He.ga K "step_row") fd) (at_ : mg "step_row" = some (.ref (He.ga K "step_row"))) (B : Blt mg) (m_Plan_step : MP P w K mg base "Plan" "step" 1 3 sp_Plan_step) (k_Plan : ClsF K "Plan" flds_Plan) : FP P w K mg base "step_row" 2 2 sp_step_row := by
  obtain ⟨fd, F⟩ := F
  exact ⟨⟨fd, ["plan", "side"], okn_step_row F at_ B m_Plan_step k_Plan, F.bindsN fun _ _ _ _ _ _ us hl => match us, hl with | [_, _], _ => rfl⟩, F.kp, at_⟩
theorem sc_through : FnScope ["ways", "width", "first", "signs", "met", "truth", "at", "y", "x", "sign", "row", "other_row", "z", "turn", "w", "other_turn", "pair", "further"] ["ways", "width", "first", "signs"] (defScope (top 8)) := ⟨rfl, rfl, rfl, by decide +kernel, rfl, by decide +kernel, by decide +kernel⟩
theorem okn_through {fd : FuncData} (F : FunD K "through" "through" (defArgs (top 8)) (defBody (top 8)) (defScope (top 8)) [] [] (He.ga K "through") fd) (at_ : mg "through" = some (.ref (He.ga K "through"))) (B : Blt mg)  : FnOk P w K mg base CX0 1 (He.ga K "through") fd ["ways", "width", "first", "signs"] (up K 4 sp_through) := by
  have sc := sc_through
  refine F.ok sc (fun _ _ _ _ h => h.1) (fun cdv A outer s H vs Q E hr h => ?_)
  exact ⟨_, PSs.nox (pss_cons (ps_asg (pe_int) (pg_sub (pv 3) (pv 2) set_list)) (pss_cons (ps_set (i := 4) sc.nd rfl (Or.inl rfl) (pe_lst (pa_cons (pv 2) (pa_nil)))) (pss_cons (ps_set (i := 5) sc.nd rfl (Or.inl rfl) (pe_bl)) (pss_cons (ps_set (i := 6) sc.nd rfl (Or.inl rfl) (pe_int)) (pss_cons (ps_while PassesOwn.never (pt_cmpR op_lt (pv 6) (pe_callB call_len (by rfl) B.len boot_len (pa_cons (pv 4) (pa_nil))) (nomark _)) (pss_cons (ps_asg (pe_callB call_divmod (by rfl) B.divmod (by decide +kernel) (pa_cons (pe_ix ix_seq (pv 4) (pv 6) (fun _ _ => rfl)) (pa_cons (pv 1) (pa_nil)))) (pg_tup rfl (pgs_cons (pg_name (i := 7) sc.nd rfl (Or.inl rfl)) (pgs_cons (pg_name (i := 8) sc.nd rfl (Or.inl rfl)) (pgs_nil))))) (pss_cons (ps_set (i := 9) sc.nd rfl (Or.inl rfl) (pe_ix ix_seq (pv 3) (pe_ix ix_seq (pv 4) (pv 6) (fun _ _ => rfl)) (fun _ _ => rfl))) (pss_cons (ps_aug (i := 6) sc.nd rfl (Or.inl rfl) (pe_int) ip_add) (pss_one (ps_for PassesOwn.never rfl (pi_list (pv 0)) (pg_tup rfl (pgs_cons (pg_name (i := 10) sc.nd rfl (Or.inl rfl)) (pgs_cons (pg_name (i := 11) sc.nd rfl (Or.inl rfl)) (pgs_nil)))) (pss_cons (ps_asg (pe_ix ix_seq (pv 10) (pv 8) (fun _ _ => rfl)) (pg_tup rfl (pgs_cons (pg_name (i := 12) sc.nd rfl (Or.inl rfl)) (pgs_cons (pg_name (i := 13) sc.nd rfl (Or.inl rfl)) (pgs_nil))))) (pss_cons (ps_asg (pe_ix ix_seq (pv 11) (pv 7) (fun _ _ => rfl)) (pg_tup rfl (pgs_cons (pg_name (i := 14) sc.nd rfl (Or.inl rfl)) (pgs_cons (pg_name (i := 15) sc.nd rfl (Or.inl rfl)) (pgs_nil))))) (pss_cons (ps_set (i := 16) sc.nd rfl (Or.inl rfl) (pe_op op_plus (pe_op op_times (pv 14) (pv 1)) (pv 12))) (pss_cons (ps_set (i := 17) sc.nd rfl (Or.inl rfl) (pe_op op_times (pe_op op_times (pv 9) (pv 13)) (pv 15))) (pss_one (ps_if (pt_cmpR (op_eqE hr.units) (pe_ix ix_seq (pv 3) (pv 16) (fun _ _ => rfl)) (pe_int) (nomark _)) (pss_cons (ps_asg (pv 17) (pg_sub (pv 3) (pv 16) set_list)) (pss_one (ps_expr (pe_bm PySem.F.plainAttrs_list PySem.F.slot_list_append PySem.F.type_list_append mt_append (pv 4) (pa_cons (pv 16) (pa_nil)))))) (pss_one (ps_if (pt_cmpR (op_neE hr.units) (pe_ix ix_seq (pv 3) (pv 16) (fun _ _ => rfl)) (pv 17) (nomark _)) (pss_one (ps_set (i := 5) sc.nd rfl (Or.inl rfl) (pe_bl))) (pss_nil))))))))))))))) (pss_one (ps_ret (pe_tup (pa_cons (pv 5) (pa_cons (pe_callB cr_sortedI (by rfl) B.sorted (by decide +kernel) (pa_cons (pv 4) (pa_nil))) (pa_nil))))))))))),
    body_ok (SndSP.mono (bs := [4, 5, 6, 7, 8, 9, 10, 11, 12, 13, 14, 15, 16, 17]) (sndp_seq ((snds_asg (snd_int) (sndg_sub (snd_var) (snd_var))).p) (sndp_seq ((snds_setO (snd_lst (snda_cons (snd_var) (snda_nil)))).p) (sndp_seq ((snds_set (snd_bl)).p) (sndp_seq ((snds_set (snd_int)).p) (sndp_seq (sndp_while (sndt_test (snd_op (snd_icmp (p := fun i j => decide (i < j))) (snd_var) (snd_cb snd_len (snda_cons (snd_var) (snda_nil))))) (sndp_seq ((snds_asg (snd_cb snd_divmod (snda_cons (snd_op snd_ix (snd_var) (snd_var)) (snda_cons (snd_var) (snda_nil)))) (sndg_tup (n := 2) (sndgs_cons (sndg_name) (sndgs_cons (sndg_name) (sndgs_nil))))).p) (sndp_seq ((snds_set (snd_op snd_ix (snd_var) (snd_op snd_ix (snd_var) (snd_var)))).p) (sndp_seq ((snds_aug snd_ipadd (snd_int)).p) (sndp_for (as := [5, 10, 11, 12, 13, 14, 15, 16, 17]) (sndi_list (snd_var)) (sndg_tup (n := 2) (sndgs_cons (sndg_name) (sndgs_cons (sndg_name) (sndgs_nil)))) (sndp_seq ((snds_asg (snd_op snd_ix (snd_var) (snd_var)) (sndg_tup (n := 2) (sndgs_cons (sndg_name) (sndgs_cons (sndg_name) (sndgs_nil))))).p) (sndp_seq ((snds_asg (snd_op snd_ix (snd_var) (snd_var)) (sndg_tup (n := 2) (sndgs_cons (sndg_name) (sndgs_cons (sndg_name) (sndgs_nil))))).p) (sndp_seq ((snds_set (snd_op snd_plus (snd_op snd_times (snd_var) (snd_var)) (snd_var))).p) (sndp_seq ((snds_set (snd_op snd_times (snd_op snd_times (snd_var) (snd_var)) (snd_var))).p) (sndp_if (sndt_test (snd_op snd_eq (snd_op snd_ix (snd_var) (snd_var)) (snd_int))) (sndp_seq ((snds_asg (snd_var) (sndg_sub (snd_var) (snd_var))).p) ((snds_expr (snd_lm sndm_append (snd_var) (snda_cons (snd_var) (snda_nil)))).p)) (sndp_if (sndt_test (snd_op snd_ne (snd_op snd_ix (snd_var) (snd_var)) (snd_var))) ((snds_set (snd_bl)).p) (snds_next.p))))))) (by decide)))))) (snds_ret (ps := [3]) (snd_tup (snda_cons (snd_var) (snda_cons (snd_cb snd_sorted (snda_cons (snd_var) (snda_nil))) (snda_nil)))))))))) (by decide)) pf_through vs H Q E h⟩
theorem ok_through (F : ∃ fd, FunD K "through" "through" (defArgs (top 8)) (defBody (top 8)) (defScope (top 8)) [] [] (He.ga K "through") fd) (at_ : mg "through" = some (.ref (He.ga K "through"))) (B : Blt mg)  : FP P w K mg base "through" 1 4 sp_through := by
  obtain ⟨fd, F⟩ := F
  exact ⟨⟨fd, ["ways", "width", "first", "signs"], okn_through F at_ B , F.bindsN fun _ _ _ _ _ _ us hl => match us, hl with | [_, _, _, _], _ => rfl⟩, F.kp, at_⟩
theorem sc_crossed : FnScope ["a", "b", "ways", "many", "signs", "found", "first", "side"] ["a", "b"] (defScope (top 10)) := ⟨rfl, rfl, rfl, by decide +kernel, rfl, by decide +kernel, by decide +kernel⟩
theorem okn_crossed {fd : FuncData} (F : FunD K "crossed" "crossed" (defArgs (top 10)) (defBody (top 10)) (defScope (top 10)) [] [] (He.ga K "crossed") fd) (at_ : mg "crossed" = some (.ref (He.ga K "crossed"))) (B : Blt mg) (g_step_row : FP P w K mg base "step_row" 2 2 sp_step_row) (g_through : FP P w K mg base "through" 1 4 sp_through) (k_Plan : ClsF K "Plan" flds_Plan) : FnOk P w K mg base CX0 3 (He.ga K "crossed") fd ["a", "b"] (up K 2 sp_crossed) := by
  have sc := sc_crossed
  refine F.ok sc (fun _ _ _ _ h => h.1) (fun cdv A outer s H vs Q E hr h => ?_)
  exact ⟨_, PSs.nox (pss_cons (ps_if (pt_cmpR (op_neE hr.units) (pe_fld (pv 0) (by rfl)) (pe_fld (pv 1) (by rfl)) (nomark _)) (pss_one (ps_never)) (pss_nil)) (pss_cons (ps_setLc (i := 2) (own := [("side", 7)]) (g := gName 7) rfl sc.nd rfl rfl (sw_true rfl rfl rfl (by decide +kernel)) (pi_range1 (by rfl) B.range (pa_cons (pe_callB call_len (by rfl) B.len boot_len (pa_cons (pe_fld (pv 0) (by rfl)) (pa_nil))) pa_nil)) (blkOk_by (by kernel_rfl)) (fun _ _ _ _ _ => pg_name (i := 7) sc.nd rfl (Or.inl rfl)) (fun _ _ _ _ _ => pts_nil) (fun _ _ _ _ _ => pe_tup (pa_cons (pe_f g_step_row (Room.mono hr (by decide)) (by rfl) (pa_cons (pv 0) (pa_cons (pv 7) (pa_nil)))) (pa_cons (pe_f g_step_row (Room.mono hr (by decide)) (by rfl) (pa_cons (pv 1) (pa_cons (pv 7) (pa_nil)))) (pa_nil))))) (pss_cons (ps_set (i := 3) sc.nd rfl (Or.inl rfl) (pe_op op_times (pe_fld (pv 0) (by rfl)) (pe_fld (pv 1) (by rfl)))) (pss_cons (ps_set (i := 4) sc.nd rfl (Or.inl rfl) (pe_op op_times (pe_lst (pa_cons (pe_int) (pa_nil))) (pv 3))) (pss_cons (ps_set (i := 5) sc.nd rfl (Or.inl rfl) (pe_lst (pa_nil))) (pss_cons (ps_for PassesOwn.never rfl (pi_range1 (by rfl) B.range (pa_cons (pv 3) pa_nil)) (pg_name (i := 6) sc.nd rfl (Or.inl rfl)) (pss_one (ps_if (pt_cmpR (op_eqE hr.units) (pe_ix ix_seq (pv 4) (pv 6) (fun _ _ => rfl)) (pe_int) (nomark _)) (pss_one (ps_expr (pe_bm PySem.F.plainAttrs_list PySem.F.slot_list_append PySem.F.type_list_append mt_append (pv 5) (pa_cons (pe_f g_through (Room.mono hr (by decide)) (by rfl) (pa_cons (pv 2) (pa_cons (pe_fld (pv 0) (by rfl)) (pa_cons (pv 6) (pa_cons (pv 4) (pa_nil)))))) (pa_nil))))) (pss_nil)))) (pss_one (ps_ret (pe_tup (pa_cons (pv 4) (pa_cons (pv 5) (pa_nil)))))))))))),
    body_ok (SndSP.mono (bs := [2, 3, 4, 5, 6]) (sndp_seq (sndp_if (sndt_test (snd_op snd_ne (snd_fld (cn := "Plan") k_Plan.c (k_Plan.n _ (by simp [flds_Plan])) (snd_var)) (snd_fld (cn := "Plan") k_Plan.c (k_Plan.n _ (by simp [flds_Plan])) (snd_var)))) (snds_never.p) (snds_next.p)) (sndp_seq ((snds_set (snd_comp (vs := [7]) (sndi_rng1 (snd_cb snd_len (snda_cons (snd_fld (cn := "Plan") k_Plan.c (k_Plan.n _ (by simp [flds_Plan])) (snd_var)) (snda_nil)))) (sndg_name) (sndt_yes) (snd_tup (snda_cons (snd_call (ms := [false, false]) rfl (snda_cons (snd_var) (snda_cons (snd_var) (snda_nil)))) (snda_cons (snd_call (ms := [false, false]) rfl (snda_cons (snd_var) (snda_cons (snd_var) (snda_nil)))) (snda_nil)))) (by decide))).p) (sndp_seq ((snds_set (snd_op snd_times (snd_fld (cn := "Plan") k_Plan.c (k_Plan.n _ (by simp [flds_Plan])) (snd_var)) (snd_fld (cn := "Plan") k_Plan.c (k_Plan.n _ (by simp [flds_Plan])) (snd_var)))).p) (sndp_seq ((snds_setO (snd_op snd_times (snd_lst (snda_cons (snd_int) (snda_nil))) (snd_var))).p) (sndp_seq ((snds_setO (snd_lst (snda_nil))).p) (sndp_seq (sndp_for (as := [6]) (sndi_rng1 (snd_var)) (sndg_name) (sndp_if (sndt_test (snd_op snd_eq (snd_op snd_ix (snd_var) (snd_var)) (snd_int))) ((snds_expr (snd_lm sndm_append (snd_var) (snda_cons (snd_call (ms := [false, false, false, true]) rfl (snda_cons (snd_var) (snda_cons (snd_fld (cn := "Plan") k_Plan.c (k_Plan.n _ (by simp [flds_Plan])) (snd_var)) (snda_cons (snd_var) (snda_cons (snd_var) (snda_nil)))))) (snda_nil)))).p) (snds_next.p)) (by decide)) (snds_ret (ps := []) (snd_tup (snda_cons (snd_varz) (snda_cons (snd_varz) (snda_nil))))))))))) (by decide)) pf_crossed vs H Q E h⟩
theorem ok_crossed (F : ∃ fd, FunD K "crossed" "crossed" (defArgs (top 10)) (defBody (top 10)) (defScope (top 10)) [] [] (He.ga K "crossed") fd) (at_ : mg "crossed" = some (.ref (He.ga K "crossed"))) (B : Blt mg) (g_step_row : FP P w K mg base "step_row" 2 2 sp_step_row) (g_through : FP P w K mg base "through" 1 4 sp_through) (k_Plan : ClsF K "Plan" flds_Plan) : FP P w K mg base "crossed" 3 2 sp_crossed := by
  obtain ⟨fd, F⟩ := F
  exact ⟨⟨fd, ["a", "b"], okn_crossed F at_ B g_step_row g_through k_Plan, F.bindsN fun _ _ _ _ _ _ us hl => match us, hl with | [_, _], _ => rfl⟩, F.kp, at_⟩
theorem sc_round_tables : FnScope ["a", "b", "signs", "found", "tables", "truth", "met", "rows", "pair", "y", "x", "row"] ["a", "b"] (defScope (top 13)) := ⟨rfl, rfl, rfl, by decide +kernel, rfl, by decide +kernel, by decide +kernel⟩
theorem okn_round_tables {fd : FuncData} (F : FunD K "round_tables" "round_tables" (defArgs (top 13)) (defBody (top 13)) (defScope (top 13)) [] [] (He.ga K "round_tables") fd) (at_ : mg "round_tables" = some (.ref (He.ga K "round_tables"))) (B : Blt mg) (g_crossed : FP P w K mg base "crossed" 3 2 sp_crossed) (k_Plan : ClsF K "Plan" flds_Plan) : FnOk P w K mg base CX0 4 (He.ga K "round_tables") fd ["a", "b"] (up K 2 sp_round_tables) := by
  have sc := sc_round_tables
  refine F.ok sc (fun _ _ _ _ h => h.1) (fun cdv A outer s H vs Q E hr h => ?_)
  exact ⟨_, PSs.nox (pss_cons (ps_asg (pe_f g_crossed (Room.mono hr (by decide)) (by rfl) (pa_cons (pv 0) (pa_cons (pv 1) (pa_nil)))) (pg_tup rfl (pgs_cons (pg_name (i := 2) sc.nd rfl (Or.inl rfl)) (pgs_cons (pg_name (i := 3) sc.nd rfl (Or.inl rfl)) (pgs_nil))))) (pss_cons (ps_set (i := 4) sc.nd rfl (Or.inl rfl) (pe_lst (pa_nil))) (pss_cons (ps_for PassesOwn.never rfl (pi_list (pv 3)) (pg_tup rfl (pgs_cons (pg_name (i := 5) sc.nd rfl (Or.inl rfl)) (pgs_cons (pg_name (i := 6) sc.nd rfl (Or.inl rfl)) (pgs_nil)))) (pss_one (ps_if (pt_truth (pv 5) (fun _ => rfl)) (pss_cons (ps_setLc (i := 7) (own := [("row", 11)]) (g := gName 11) rfl sc.nd rfl rfl (sw_true rfl rfl rfl (by decide +kernel)) (pi_range1 (by rfl) B.range (pa_cons (pe_fld (pv 1) (by rfl)) pa_nil)) (blkOk_by (by kernel_rfl)) (fun _ _ _ _ _ => pg_name (i := 11) sc.nd rfl (Or.inl rfl)) (fun _ _ _ _ _ => pts_nil) (fun _ _ _ _ _ => pe_op op_times (pe_lst (pa_cons (pe_int) (pa_nil))) (pe_fld (pv 0) (by rfl)))) (pss_cons (ps_for PassesOwn.never rfl (pi_list (pv 6)) (pg_name (i := 8) sc.nd rfl (Or.inl rfl)) (pss_cons (ps_asg (pe_callB call_divmod (by rfl) B.divmod (by decide +kernel) (pa_cons (pv 8) (pa_cons (pe_fld (pv 0) (by rfl)) (pa_nil)))) (pg_tup rfl (pgs_cons (pg_name (i := 9) sc.nd rfl (Or.inl rfl)) (pgs_cons (pg_name (i := 10) sc.nd rfl (Or.inl rfl)) (pgs_nil))))) (pss_one (ps_asg (pe_ix ix_seq (pv 2) (pv 8) (fun _ _ => rfl)) (pg_sub (pe_ix ix_seq (pv 7) (pv 9) (fun _ _ => rfl)) (pv 10) set_list))))) (pss_one (ps_expr (pe_bm PySem.F.plainAttrs_list PySem.F.slot_list_append PySem.F.type_list_append mt_append (pv 4) (pa_cons (pv 7) (pa_nil))))))) (pss_nil)))) (pss_one (ps_ret (pv 4)))))),
    body_ok (SndSP.mono (bs := [2, 3, 4, 5, 6, 7, 8, 9, 10]) (sndp_seq ((snds_asg (snd_call (ms := [false, false]) rfl (snda_cons (snd_var) (snda_cons (snd_var) (snda_nil)))) (sndg_tup (n := 2) (sndgs_cons (sndg_name) (sndgs_cons (sndg_name) (sndgs_nil))))).p) (sndp_seq ((snds_setO (snd_lst (snda_nil))).p) (sndp_seq (sndp_for (as := [5, 6, 7, 8, 9, 10]) (sndi_list (snd_var)) (sndg_tup (n := 2) (sndgs_cons (sndg_name) (sndgs_cons (sndg_name) (sndgs_nil)))) (sndp_if (sndt_truth (snd_var)) (sndp_grid (m := 7) (vs := [11]) (sndi_rng1 (snd_fld (cn := "Plan") k_Plan.c (k_Plan.n _ (by simp [flds_Plan])) (snd_var))) (sndg_name) (sndt_yes) (snd_op snd_times (snd_lst (snda_cons (snd_int) (snda_nil))) (snd_fld (cn := "Plan") k_Plan.c (k_Plan.n _ (by simp [flds_Plan])) (snd_var))) (by decide) (sndyp_seq (sndy_for (as := [8, 9, 10]) (sndi_list (snd_var)) (sndg_name) (sndy_seq (sndy_plain ((snds_asg (snd_cb snd_divmod (snda_cons (snd_var) (snda_cons (snd_fld (cn := "Plan") k_Plan.c (k_Plan.n _ (by simp [flds_Plan])) (snd_var)) (snda_nil)))) (sndg_tup (n := 2) (sndgs_cons (sndg_name) (sndgs_cons (sndg_name) (sndgs_nil))))).p) (by decide)) (sndy_put (m := 7) (snd_op snd_ix (snd_var) (snd_var)) (snd_var) (snd_var))) (by decide) (by decide)) (sndyp_free ((snds_expr (snd_lm sndm_append (snd_var) (snda_cons (snd_varz) (snda_nil)))).p) (by decide)))) (snds_next.p)) (by decide)) (snds_ret (ps := []) (snd_var))))) (by decide)) pf_round_tables vs H Q E h⟩
theorem ok_round_tables (F : ∃ fd, FunD K "round_tables" "round_tables" (defArgs (top 13)) (defBody (top 13)) (defScope (top 13)) [] [] (He.ga K "round_tables") fd) (at_ : mg "round_tables" = some (.ref (He.ga K "round_tables"))) (B : Blt mg) (g_crossed : FP P w K mg base "crossed" 3 2 sp_crossed) (k_Plan : ClsF K "Plan" flds_Plan) : FP P w K mg base "round_tables" 4 2 sp_round_tables := by
  obtain ⟨fd, F⟩ := F
  exact ⟨⟨fd, ["a", "b"], okn_round_tables F at_ B g_crossed k_Plan, F.bindsN fun _ _ _ _ _ _ us hl => match us, hl with | [_, _], _ => rfl⟩, F.kp, at_⟩
theorem sc_has_step_rows : FnScope ["many", "steps", "lengths", "row", "length"] ["many", "steps"] (defScope (top 33)) := ⟨rfl, rfl, rfl, by decide +kernel, rfl, by decide +kernel, by decide +kernel⟩
theorem okn_has_step_rows {fd : FuncData} (F : FunD K "has_step_rows" "has_step_rows" (defArgs (top 33)) (defBody (top 33)) (defScope (top 33)) [] [] (He.ga K "has_step_rows") fd) (at_ : mg "has_step_rows" = some (.ref (He.ga K "has_step_rows"))) (B : Blt mg)  : FnOk P w K mg base CX0 1 (He.ga K "has_step_rows") fd ["many", "steps"] (up K 2 sp_has_step_rows) := by
  have sc := sc_has_step_rows
  refine F.ok sc (fun _ _ _ _ h => h.1) (fun cdv A outer s H vs Q E hr h => ?_)
  exact ⟨_, PSs.nox (pss_cons (ps_if (PW.pt (pw_or (pt_not (pt_val (pe_callB call_isiT (by rfl) B.isinstance (by decide +kernel) (pa_cons (pv 1) (pa_cons (pe_tup (pa_cons (pe_bltn (v := .ty "list") (u := .type "list") (by rfl) B.list (by decide +kernel) rfl) (pa_cons (pe_bltn (v := .ty "tuple") (u := .type "tuple") (by rfl) B.tuple (by decide +kernel) rfl) pa_nil))) pa_nil))))) (pw_or1 (pt_cmpR (op_neE hr.units) (pe_callB call_len (by rfl) B.len boot_len (pa_cons (pv 1) (pa_nil))) (pv 0) (nomark _))))) (pss_one (ps_ret (pe_bl))) (pss_nil)) (pss_cons (ps_set (i := 2) sc.nd rfl (Or.inr rfl) (pe_lst (pa_nil))) (pss_cons (ps_for PassesOwn.never rfl (pi_list (pv 1)) (pg_name (i := 3) sc.nd rfl (Or.inl rfl)) (pss_cons (ps_if (pt_not (pt_val (pe_callB call_isiT (by rfl) B.isinstance (by decide +kernel) (pa_cons (pv 3) (pa_cons (pe_tup (pa_cons (pe_bltn (v := .ty "list") (u := .type "list") (by rfl) B.list (by decide +kernel) rfl) (pa_cons (pe_bltn (v := .ty "tuple") (u := .type "tuple") (by rfl) B.tuple (by decide +kernel) rfl) pa_nil))) pa_nil))))) (pss_one (ps_ret (pe_bl))) (pss_nil)) (pss_one (ps_expr (pe_bm PySem.F.plainAttrs_list PySem.F.slot_list_append PySem.F.type_list_append mt_append (pv 2) (pa_cons (pe_callB call_len (by rfl) B.len boot_len (pa_cons (pv 3) (pa_nil))) (pa_nil))))))) (pss_one (ps_ret (pe_and (pe_cmpR op_gt (pe_ix ix_seq (pv 2) (pe_int) (fun _ _ => rfl)) (pe_int) (nomark _)) (pe_one (pe_callB (cr_all rfl) (by rfl) B.all (by decide +kernel) (pa_cons (pe_lc (own := [("length", 4)]) (g := gName 4) rfl sc.nd (pi_list (pv 2)) (blkOk_by (by kernel_rfl)) (fun _ _ _ _ _ => pg_name (i := 4) sc.nd rfl (Or.inl rfl)) (fun _ _ _ _ _ => pts_nil) (fun _ _ _ _ _ => pe_cmpR (op_eqE hr.units) (pv 4) (pe_ix ix_seq (pv 2) (pe_int) (fun _ _ => rfl)) (nomark _))) (pa_nil)))))))))),
    body_ok (SndSP.mono (bs := [2, 3]) (sndp_seq (sndp_if (sndt_or (sndt_not (sndt_val (snd_isi2 .list .tuple rfl rfl (snd_var)))) (sndt_test (snd_op snd_ne (snd_cb snd_len (snda_cons (snd_var) (snda_nil))) (snd_var)))) (snds_ret (ps := []) (snd_bl)) (snds_next.p)) (sndp_seq ((snds_setO (snd_lst (snda_nil))).p) (sndp_seq (sndp_for (as := [3]) (sndi_list (snd_var)) (sndg_name) (sndp_seq (sndp_if (sndt_not (sndt_val (snd_isi2 .list .tuple rfl rfl (snd_var)))) (snds_ret (ps := []) (snd_bl)) (snds_next.p)) ((snds_expr (snd_lm sndm_append (snd_var) (snda_cons (snd_cb snd_len (snda_cons (snd_var) (snda_nil))) (snda_nil)))).p)) (by decide)) (snds_ret (ps := []) (snd_andV (snd_op (snd_icmp (p := fun i j => decide (j < i))) (snd_op snd_ix (snd_var) (snd_int)) (snd_int)) (snd_cb snd_all (snda_cons (snd_comp (vs := [4]) (sndi_list (snd_var)) (sndg_name) (sndt_yes) (snd_op snd_eq (snd_var) (snd_op snd_ix (snd_var) (snd_int))) (by decide)) (snda_nil)))))))) (by decide)) pf_has_step_rows vs H Q E h⟩
theorem ok_has_step_rows (F : ∃ fd, FunD K "has_step_rows" "has_step_rows" (defArgs (top 33)) (defBody (top 33)) (defScope (top 33)) [] [] (He.ga K "has_step_rows") fd) (at_ : mg "has_step_rows" = some (.ref (He.ga K "has_step_rows"))) (B : Blt mg)  : FP P w K mg base "has_step_rows" 1 2 sp_has_step_rows := by
  obtain ⟨fd, F⟩ := F
  exact ⟨⟨fd, ["many", "steps"], okn_has_step_rows F at_ B , F.bindsN fun _ _ _ _ _ _ us hl => match us, hl with | [_, _], _ => rfl⟩, F.kp, at_⟩
theorem sc_is_number : FnScope ["value"] ["value"] (defScope (top 15)) := ⟨rfl, rfl, rfl, by decide +kernel, rfl, by decide +kernel, by decide +kernel⟩
theorem okn_is_number {fd : FuncData} (F : FunD K "is_number" "is_number" (defArgs (top 15)) (defBody (top 15)) (defScope (top 15)) [] [] (He.ga K "is_number") fd) (at_ : mg "is_number" = some (.ref (He.ga K "is_number"))) (B : Blt mg)  : FnOk P w K mg base CX0 1 (He.ga K "is_number") fd ["value"] (up K 1 sp_is_number) := by
  have sc := sc_is_number
  refine F.ok sc (fun _ _ _ _ h => h.1) (fun cdv A outer s H vs Q E hr h => ?_)
  exact ⟨_, PSs.nox (pss_one (ps_ret (pe_and (pe_callB call_isi (by rfl) B.isinstance (by decide +kernel) (pa_cons (pv 0) (pa_cons (pe_bltn (v := .ty "int") (u := .type "int") (by rfl) B.int (by decide +kernel) rfl) pa_nil))) (pe_one (pe_not (pe_callB call_isi (by rfl) B.isinstance (by decide +kernel) (pa_cons (pv 0) (pa_cons (pe_bltn (v := .ty "bool") (u := .type "bool") (by rfl) B.bool (by decide +kernel) rfl) pa_nil)))))))),
    body_ok (SndSP.mono (bs := []) (snds_ret (ps := []) (snd_andV (snd_isi .int rfl (snd_var)) (snd_notV (snd_isi .bool rfl (snd_var))))) (by decide)) pf_is_number vs H Q E h⟩
theorem ok_is_number (F : ∃ fd, FunD K "is_number" "is_number" (defArgs (top 15)) (defBody (top 15)) (defScope (top 15)) [] [] (He.ga K "is_number") fd) (at_ : mg "is_number" = some (.ref (He.ga K "is_number"))) (B : Blt mg)  : FP P w K mg base "is_number" 1 1 sp_is_number := by
  obtain ⟨fd, F⟩ := F
  exact ⟨⟨fd, ["value"], okn_is_number F at_ B , F.bindsN fun _ _ _ _ _ _ us hl => match us, hl with | [_], _ => rfl⟩, F.kp, at_⟩
theorem sc_is_index : FnScope ["value", "many"] ["value", "many"] (defScope (top 16)) := ⟨rfl, rfl, rfl, by decide +kernel, rfl, by decide +kernel, by decide +kernel⟩
theorem okn_is_index {fd : FuncData} (F : FunD K "is_index" "is_index" (defArgs (top 16)) (defBody (top 16)) (defScope (top 16)) [] [] (He.ga K "is_index") fd) (at_ : mg "is_index" = some (.ref (He.ga K "is_index"))) (B : Blt mg) (g_is_number : FP P w K mg base "is_number" 1 1 sp_is_number) : FnOk P w K mg base CX0 2 (He.ga K "is_index") fd ["value", "many"] (up K 2 sp_is_index) := by
  have sc := sc_is_index
  refine F.ok sc (fun _ _ _ _ h => h.1) (fun cdv A outer s H vs Q E hr h => ?_)
  exact ⟨_, PSs.nox (pss_one (ps_ret (pe_and (pe_f g_is_number (Room.mono hr (by decide)) (by rfl) (pa_cons (pv 0) (pa_nil))) (pe_one (pe_chain op_le op_lt (pe_int) (pv 0) (pv 1)))))),
    body_ok (SndSP.mono (bs := []) (snds_ret (ps := []) (snd_andV (snd_call (ms := [false]) rfl (snda_cons (snd_var) (snda_nil))) (snd_chain (p := fun i j => decide (i ≤ j)) (p' := fun i j => decide (i < j)) (snd_int) (snd_var) (snd_var)))) (by decide)) pf_is_index vs H Q E h⟩
theorem ok_is_index (F : ∃ fd, FunD K "is_index" "is_index" (defArgs (top 16)) (defBody (top 16)) (defScope (top 16)) [] [] (He.ga K "is_index") fd) (at_ : mg "is_index" = some (.ref (He.ga K "is_index"))) (B : Blt mg) (g_is_number : FP P w K mg base "is_number" 1 1 sp_is_number) : FP P w K mg base "is_index" 2 2 sp_is_index := by
  obtain ⟨fd, F⟩ := F
  exact ⟨⟨fd, ["value", "many"], okn_is_index F at_ B g_is_number, F.bindsN fun _ _ _ _ _ _ us hl => match us, hl with | [_, _], _ => rfl⟩, F.kp, at_⟩
theorem sc_is_sign : FnScope ["value"] ["value"] (defScope (top 17)) := ⟨rfl, rfl, rfl, by decide +kernel, rfl, by decide +kernel, by decide +kernel⟩
theorem okn_is_sign {fd : FuncData} (F : FunD K "is_sign" "is_sign" (defArgs (top 17)) (defBody (top 17)) (defScope (top 17)) [] [] (He.ga K "is_sign") fd) (at_ : mg "is_sign" = some (.ref (He.ga K "is_sign"))) (B : Blt mg) (g_is_number : FP P w K mg base "is_number" 1 1 sp_is_number) : FnOk P w K mg base CX0 2 (He.ga K "is_sign") fd ["value"] (up K 1 sp_is_sign) := by
  have sc := sc_is_sign
  refine F.ok sc (fun _ _ _ _ h => h.1) (fun cdv A outer s H vs Q E hr h => ?_)
  exact ⟨_, PSs.nox (pss_one (ps_ret (pe_and (pe_f g_is_number (Room.mono hr (by decide)) (by rfl) (pa_cons (pv 0) (pa_nil))) (pe_one (pe_or (pe_cmpR (op_eqE hr.units) (pv 0) (pe_int) (nomark _)) (pe_one (pe_cmpR (op_eqE hr.units) (pv 0) (pe_un un_neg (pe_int)) (nomark _)))))))),
    body_ok (SndSP.mono (bs := []) (snds_ret (ps := []) (snd_andV (snd_call (ms := [false]) rfl (snda_cons (snd_var) (snda_nil))) (snd_orV (snd_op snd_eq (snd_var) (snd_int)) (snd_op snd_eq (snd_var) (snd_un snd_neg (snd_int)))))) (by decide)) pf_is_sign vs H Q E h⟩
theorem ok_is_sign (F : ∃ fd, FunD K "is_sign" "is_sign" (defArgs (top 17)) (defBody (top 17)) (defScope (top 17)) [] [] (He.ga K "is_sign") fd) (at_ : mg "is_sign" = some (.ref (He.ga K "is_sign"))) (B : Blt mg) (g_is_number : FP P w K mg base "is_number" 1 1 sp_is_number) : FP P w K mg base "is_sign" 2 1 sp_is_sign := by
  obtain ⟨fd, F⟩ := F
  exact ⟨⟨fd, ["value"], okn_is_sign F at_ B g_is_number, F.bindsN fun _ _ _ _ _ _ us hl => match us, hl with | [_], _ => rfl⟩, F.kp, at_⟩
theorem sc_is_step : FnScope ["value", "copies"] ["value", "copies"] (defScope (top 34)) := ⟨rfl, rfl, rfl, by decide +kernel, rfl, by decide +kernel, by decide +kernel⟩
theorem okn_is_step {fd : FuncData} (F : FunD K "is_step" "is_step" (defArgs (top 34)) (defBody (top 34)) (defScope (top 34)) [] [] (He.ga K "is_step") fd) (at_ : mg "is_step" = some (.ref (He.ga K "is_step"))) (B : Blt mg) (g_is_index : FP P w K mg base "is_index" 2 2 sp_is_index) (g_is_sign : FP P w K mg base "is_sign" 2 1 sp_is_sign) : FnOk P w K mg base CX0 3 (He.ga K "is_step") fd ["value", "copies"] (up K 2 sp_is_step) := by
  have sc := sc_is_step
  refine F.ok sc (fun _ _ _ _ h => h.1) (fun cdv A outer s H vs Q E hr h => ?_)
  exact ⟨_, PSs.nox (pss_one (ps_ret (pe_and (pe_callB call_isi (by rfl) B.isinstance (by decide +kernel) (pa_cons (pv 0) (pa_cons (pe_bltn (v := .ty "tuple") (u := .type "tuple") (by rfl) B.tuple (by decide +kernel) rfl) pa_nil))) (pe_and (pe_cmpR (op_eqE hr.units) (pe_callB call_len (by rfl) B.len boot_len (pa_cons (pv 0) (pa_nil))) (pe_int) (nomark _)) (pe_and (pe_f g_is_index (Room.mono hr (by decide)) (by rfl) (pa_cons (pe_ix ix_seq (pv 0) (pe_int) (fun _ _ => rfl)) (pa_cons (pv 1) (pa_nil)))) (pe_one (pe_f g_is_sign (Room.mono hr (by decide)) (by rfl) (pa_cons (pe_ix ix_seq (pv 0) (pe_int) (fun _ _ => rfl)) (pa_nil))))))))),
    body_ok (SndSP.mono (bs := []) (snds_ret (ps := []) (snd_andV (snd_isi .tuple rfl (snd_var)) (snd_andV (snd_op snd_eq (snd_cb snd_len (snda_cons (snd_var) (snda_nil))) (snd_int)) (snd_andV (snd_call (ms := [false, false]) rfl (snda_cons (snd_op snd_ix (snd_var) (snd_int)) (snda_cons (snd_var) (snda_nil)))) (snd_call (ms := [false]) rfl (snda_cons (snd_op snd_ix (snd_var) (snd_int)) (snda_nil))))))) (by decide)) pf_is_step vs H Q E h⟩
theorem ok_is_step (F : ∃ fd, FunD K "is_step" "is_step" (defArgs (top 34)) (defBody (top 34)) (defScope (top 34)) [] [] (He.ga K "is_step") fd) (at_ : mg "is_step" = some (.ref (He.ga K "is_step"))) (B : Blt mg) (g_is_index : FP P w K mg base "is_index" 2 2 sp_is_index) (g_is_sign : FP P w K mg base "is_sign" 2 1 sp_is_sign) : FP P w K mg base "is_step" 3 2 sp_is_step := by
  obtain ⟨fd, F⟩ := F
  exact ⟨⟨fd, ["value", "copies"], okn_is_step F at_ B g_is_index g_is_sign, F.bindsN fun _ _ _ _ _ _ us hl => match us, hl with | [_, _], _ => rfl⟩, F.kp, at_⟩
theorem sc_wrong_step : FnScope ["many", "steps", "copies", "side", "row", "copy", "item", "other", "sign"] ["many", "steps"] (defScope (top 35)) := ⟨rfl, rfl, rfl, by decide +kernel, rfl, by decide +kernel, by decide +kernel⟩
theorem okn_wrong_step {fd : FuncData} (F : FunD K "wrong_step" "wrong_step" (defArgs (top 35)) (defBody (top 35)) (defScope (top 35)) [] [] (He.ga K "wrong_step") fd) (at_ : mg "wrong_step" = some (.ref (He.ga K "wrong_step"))) (B : Blt mg) (g_has_step_rows : FP P w K mg base "has_step_rows" 1 2 sp_has_step_rows) (g_is_step : FP P w K mg base "is_step" 3 2 sp_is_step) : FnOk P w K mg base CX0 4 (He.ga K "wrong_step") fd ["many", "steps"] (up K 2 sp_wrong_step) := by
  have sc := sc_wrong_step
  refine F.ok sc (fun _ _ _ _ h => h.1) (fun cdv A outer s H vs Q E hr h => ?_)
  exact ⟨_, PSs.nox (pss_cons (ps_if (pt_not (pt_val (pe_f g_has_step_rows (Room.mono hr (by decide)) (by rfl) (pa_cons (pv 0) (pa_cons (pv 1) (pa_nil)))))) (pss_one (ps_ret (pe_tup (pa_cons (pe_un un_neg (pe_int)) (pa_cons (pe_un un_neg (pe_int)) (pa_nil)))))) (pss_nil)) (pss_cons (ps_set (i := 2) sc.nd rfl (Or.inl rfl) (pe_callB call_len (by rfl) B.len boot_len (pa_cons (pe_ix ix_seq (pv 1) (pe_int) (fun _ _ => rfl)) (pa_nil)))) (pss_cons (ps_for PassesOwn.never rfl (pi_enum (by rfl) B.enumerate (pa_cons (pv 1) pa_nil)) (pg_tup rfl (pgs_cons (pg_name (i := 3) sc.nd rfl (Or.inl rfl)) (pgs_cons (pg_name (i := 4) sc.nd rfl (Or.inl rfl)) (pgs_nil)))) (pss_one (ps_for PassesOwn.never rfl (pi_enum (by rfl) B.enumerate (pa_cons (pv 4) pa_nil)) (pg_tup rfl (pgs_cons (pg_name (i := 5) sc.nd rfl (Or.inl rfl)) (pgs_cons (pg_name (i := 6) sc.nd rfl (Or.inl rfl)) (pgs_nil)))) (pss_one (ps_if (pt_not (pt_val (pe_f g_is_step (Room.mono hr (by decide)) (by rfl) (pa_cons (pv 6) (pa_cons (pv 2) (pa_nil)))))) (pss_one (ps_ret (pe_tup (pa_cons (pv 3) (pa_cons (pv 5) (pa_nil)))))) (pss_nil)))))) (pss_cons (ps_for PassesOwn.never rfl (pi_enum (by rfl) B.enumerate (pa_cons (pv 1) pa_nil)) (pg_tup rfl (pgs_cons (pg_name (i := 3) sc.nd rfl (Or.inl rfl)) (pgs_cons (pg_name (i := 4) sc.nd rfl (Or.inl rfl)) (pgs_nil)))) (pss_one (ps_for PassesOwn.never rfl (pi_enum (by rfl) B.enumerate (pa_cons (pv 4) pa_nil)) (pg_tup rfl (pgs_cons (pg_name (i := 5) sc.nd rfl (Or.inl rfl)) (pgs_cons (pg_tup rfl (pgs_cons (pg_name (i := 7) sc.nd rfl (Or.inl rfl)) (pgs_cons (pg_name (i := 8) sc.nd rfl (Or.inl rfl)) (pgs_nil)))) (pgs_nil)))) (pss_one (ps_if (pt_cmpR (op_neE hr.units) (pe_ix ix_seq (pv 4) (pv 7) (fun _ _ => rfl)) (pe_tup (pa_cons (pv 5) (pa_cons (pv 8) (pa_nil)))) (nomark _)) (pss_one (ps_ret (pe_tup (pa_cons (pv 3) (pa_cons (pv 5) (pa_nil)))))) (pss_nil)))))) (pss_one (ps_ret (pe_non))))))),
    body_ok (SndSP.mono (bs := [2, 3, 4, 5, 6, 7, 8]) (sndp_seq (sndp_if (sndt_not (sndt_val (snd_call (ms := [false, false]) rfl (snda_cons (snd_var) (snda_cons (snd_var) (snda_nil)))))) (snds_ret (ps := []) (snd_tup (snda_cons (snd_un snd_neg (snd_int)) (snda_cons (snd_un snd_neg (snd_int)) (snda_nil))))) (snds_next.p)) (sndp_seq ((snds_set (snd_cb snd_len (snda_cons (snd_op snd_ix (snd_var) (snd_int)) (snda_nil)))).p) (sndp_seq (sndp_for (as := [3, 4, 5, 6]) (sndi_enum (snd_var)) (sndg_tup (n := 2) (sndgs_cons (sndg_name) (sndgs_cons (sndg_name) (sndgs_nil)))) (sndp_for (as := [5, 6]) (sndi_enum (snd_var)) (sndg_tup (n := 2) (sndgs_cons (sndg_name) (sndgs_cons (sndg_name) (sndgs_nil)))) (sndp_if (sndt_not (sndt_val (snd_call (ms := [false, false]) rfl (snda_cons (snd_var) (snda_cons (snd_var) (snda_nil)))))) (snds_ret (ps := []) (snd_tup (snda_cons (snd_var) (snda_cons (snd_var) (snda_nil))))) (snds_next.p)) (by decide)) (by decide)) (sndp_seq (sndp_for (as := [3, 4, 5, 7, 8]) (sndi_enum (snd_var)) (sndg_tup (n := 2) (sndgs_cons (sndg_name) (sndgs_cons (sndg_name) (sndgs_nil)))) (sndp_for (as := [5, 7, 8]) (sndi_enum (snd_var)) (sndg_tup (n := 2) (sndgs_cons (sndg_name) (sndgs_cons (sndg_tup (n := 2) (sndgs_cons (sndg_name) (sndgs_cons (sndg_name) (sndgs_nil)))) (sndgs_nil)))) (sndp_if (sndt_test (snd_op snd_ne (snd_op snd_ix (snd_var) (snd_var)) (snd_tup (snda_cons (snd_var) (snda_cons (snd_var) (snda_nil)))))) (snds_ret (ps := []) (snd_tup (snda_cons (snd_var) (snda_cons (snd_var) (snda_nil))))) (snds_next.p)) (by decide)) (by decide)) (snds_ret (ps := []) (snd_non)))))) (by decide)) pf_wrong_step vs H Q E h⟩
theorem ok_wrong_step (F : ∃ fd, FunD K "wrong_step" "wrong_step" (defArgs (top 35)) (defBody (top 35)) (defScope (top 35)) [] [] (He.ga K "wrong_step") fd) (at_ : mg "wrong_step" = some (.ref (He.ga K "wrong_step"))) (B : Blt mg) (g_has_step_rows : FP P w K mg base "has_step_rows" 1 2 sp_has_step_rows) (g_is_step : FP P w K mg base "is_step" 3 2 sp_is_step) : FP P w K mg base "wrong_step" 4 2 sp_wrong_step := by
  obtain ⟨fd, F⟩ := F
  exact ⟨⟨fd, ["many", "steps"], okn_wrong_step F at_ B g_has_step_rows g_is_step, F.bindsN fun _ _ _ _ _ _ us hl => match us, hl with | [_, _], _ => rfl⟩, F.kp, at_⟩
theorem sc_is_side_name : FnScope ["value", "letter"] ["value"] (defScope (top 21)) := ⟨rfl, rfl, rfl, by decide +kernel, rfl, by decide +kernel, by decide +kernel⟩
theorem okn_is_side_name {fd : FuncData} (F : FunD K "is_side_name" "is_side_name" (defArgs (top 21)) (defBody (top 21)) (defScope (top 21)) [] [] (He.ga K "is_side_name") fd) (at_ : mg "is_side_name" = some (.ref (He.ga K "is_side_name"))) (B : Blt mg) (c_LONGEST_NAME : ∃ t, mg "LONGEST_NAME" = some (.int 3 t)) (c_LETTERS : ∃ t, mg "LETTERS" = some (.str "abcdefghijklmnopqrstuvwxyz" t)) : FnOk P w K mg base CX0 1 (He.ga K "is_side_name") fd ["value"] (up K 1 sp_is_side_name) := by
  have sc := sc_is_side_name
  refine F.ok sc (fun _ _ _ _ h => h.1) (fun cdv A outer s H vs Q E hr h => ?_)
  exact ⟨_, PSs.nox (pss_cons (ps_if (PW.pt (pw_or (pt_not (pt_val (pe_callB call_isi (by rfl) B.isinstance (by decide +kernel) (pa_cons (pv 0) (pa_cons (pe_bltn (v := .ty "str") (u := .type "str") (by rfl) B.str (by decide +kernel) rfl) pa_nil))))) (pw_or1 (pt_not (pt_chain op_le op_le (pe_int) (pe_callB call_len (by rfl) B.len boot_len (pa_cons (pv 0) (pa_nil))) (pe_gi c_LONGEST_NAME rfl)))))) (pss_one (ps_ret (pe_bl))) (pss_nil)) (pss_one (ps_ret (pe_callB (cr_all rfl) (by rfl) B.all (by decide +kernel) (pa_cons (pe_lc (own := [("letter", 1)]) (g := gName 1) rfl sc.nd (pi_str (pv 0)) (blkOk_by (by kernel_rfl)) (fun _ _ _ _ _ => pg_name (i := 1) sc.nd rfl (Or.inl rfl)) (fun _ _ _ _ _ => pts_nil) (fun _ _ _ _ _ => pe_cmpR (op_inU (Room.u65 hr)) (pv 1) (pe_gs c_LETTERS rfl) (by rfl))) (pa_nil)))))),
    body_ok (SndSP.mono (bs := []) (sndp_seq (sndp_if (sndt_or (sndt_not (sndt_val (snd_isi .str rfl (snd_var)))) (sndt_not (sndt_test (snd_chain (p := fun i j => decide (i ≤ j)) (p' := fun i j => decide (i ≤ j)) (snd_int) (snd_cb snd_len (snda_cons (snd_var) (snda_nil))) (snd_int))))) (snds_ret (ps := []) (snd_bl)) (snds_next.p)) (snds_ret (ps := []) (snd_cb snd_all (snda_cons (snd_comp (vs := [1]) (sndi_str (snd_var)) (sndg_name) (sndt_yes) (snd_op snd_in (snd_var) (snd_str)) (by decide)) (snda_nil))))) (by decide)) pf_is_side_name vs H Q E h⟩
theorem ok_is_side_name (F : ∃ fd, FunD K "is_side_name" "is_side_name" (defArgs (top 21)) (defBody (top 21)) (defScope (top 21)) [] [] (He.ga K "is_side_name") fd) (at_ : mg "is_side_name" = some (.ref (He.ga K "is_side_name"))) (B : Blt mg) (c_LONGEST_NAME : ∃ t, mg "LONGEST_NAME" = some (.int 3 t)) (c_LETTERS : ∃ t, mg "LETTERS" = some (.str "abcdefghijklmnopqrstuvwxyz" t)) : FP P w K mg base "is_side_name" 1 1 sp_is_side_name := by
  obtain ⟨fd, F⟩ := F
  exact ⟨⟨fd, ["value"], okn_is_side_name F at_ B c_LONGEST_NAME c_LETTERS, F.bindsN fun _ _ _ _ _ _ us hl => match us, hl with | [_], _ => rfl⟩, F.kp, at_⟩
theorem sc_is_sides : FnScope ["value", "met", "name"] ["value"] (defScope (top 22)) := ⟨rfl, rfl, rfl, by decide +kernel, rfl, by decide +kernel, by decide +kernel⟩
theorem okn_is_sides {fd : FuncData} (F : FunD K "is_sides" "is_sides" (defArgs (top 22)) (defBody (top 22)) (defScope (top 22)) [] [] (He.ga K "is_sides") fd) (at_ : mg "is_sides" = some (.ref (He.ga K "is_sides"))) (B : Blt mg) (g_is_side_name : FP P w K mg base "is_side_name" 1 1 sp_is_side_name) : FnOk P w K mg base CX0 2 (He.ga K "is_sides") fd ["value"] (up K 1 sp_is_sides) := by
  have sc := sc_is_sides
  refine F.ok sc (fun _ _ _ _ h => h.1) (fun cdv A outer s H vs Q E hr h => ?_)
  exact ⟨_, PSs.nox (pss_cons (ps_if (PW.pt (pw_or (pt_not (pt_val (pe_callB call_isi (by rfl) B.isinstance (by decide +kernel) (pa_cons (pv 0) (pa_cons (pe_bltn (v := .ty "tuple") (u := .type "tuple") (by rfl) B.tuple (by decide +kernel) rfl) pa_nil))))) (pw_or1 (pt_cmpR (op_eqE hr.units) (pe_callB call_len (by rfl) B.len boot_len (pa_cons (pv 0) (pa_nil))) (pe_int) (nomark _))))) (pss_one (ps_ret (pe_bl))) (pss_nil)) (pss_cons (ps_set (i := 1) sc.nd rfl (Or.inl rfl) (pe_dnewK)) (pss_cons (ps_for PassesOwn.never rfl (pi_tup (pv 0)) (pg_name (i := 2) sc.nd rfl (Or.inl rfl)) (pss_cons (ps_if (PW.pt (pw_or (pt_not (pt_val (pe_f g_is_side_name (Room.mono hr (by decide)) (by rfl) (pa_cons (pv 2) (pa_nil))))) (pw_or1 (pt_cmp (pc_din (hu_of hr) (pv 2) (pv 1)))))) (pss_one (ps_ret (pe_bl))) (pss_nil)) (pss_one (ps_dput (hu_of hr) (pv 1) (pv 2) (pe_bl) rfl)))) (pss_one (ps_ret (pe_bl)))))),
    body_ok (SndSP.mono (bs := [1, 2]) (sndp_seq (sndp_if (sndt_or (sndt_not (sndt_val (snd_isi .tuple rfl (snd_var)))) (sndt_test (snd_op snd_eq (snd_cb snd_len (snda_cons (snd_var) (snda_nil))) (snd_int)))) (snds_ret (ps := []) (snd_bl)) (snds_next.p)) (sndp_seq ((snds_setO (snd_dnew)).p) (sndp_seq (sndp_for (as := [2]) (sndi_tup (snd_var)) (sndg_name) (sndp_seq (sndp_if (sndt_or (sndt_not (sndt_val (snd_call (ms := [false]) rfl (snda_cons (snd_var) (snda_nil))))) (sndt_val (snd_din (snd_var) (snd_var)))) (snds_ret (ps := []) (snd_bl)) (snds_next.p)) ((snds_dput (snd_var) (snd_var) (snd_bl)).p)) (by decide)) (snds_ret (ps := []) (snd_bl))))) (by decide)) pf_is_sides vs H Q E h⟩
theorem ok_is_sides (F : ∃ fd, FunD K "is_sides" "is_sides" (defArgs (top 22)) (defBody (top 22)) (defScope (top 22)) [] [] (He.ga K "is_sides") fd) (at_ : mg "is_sides" = some (.ref (He.ga K "is_sides"))) (B : Blt mg) (g_is_side_name : FP P w K mg base "is_side_name" 1 1 sp_is_side_name) : FP P w K mg base "is_sides" 2 1 sp_is_sides := by
  obtain ⟨fd, F⟩ := F
  exact ⟨⟨fd, ["value"], okn_is_sides F at_ B g_is_side_name, F.bindsN fun _ _ _ _ _ _ us hl => match us, hl with | [_], _ => rfl⟩, F.kp, at_⟩
theorem sc_Plan_init__ : FnScope ["self", "sides", "steps", "wrong", "row"] ["self", "sides", "steps"] (defScope (inClass (top 36) 0)) := ⟨rfl, rfl, rfl, by decide +kernel, rfl, by decide +kernel, by decide +kernel⟩
theorem ok_Plan_init__ (F : ∃ fd, FunD K "__init__" "Plan.__init__" (defArgs (inClass (top 36) 0)) (defBody (inClass (top 36) 0)) (defScope (inClass (top 36) 0)) [] [] (He.ma K (He.ga K "Plan") "__init__") fd) (mk : Mk K (He.ga K "Plan") (He.ma K (He.ga K "Plan") "__init__")) (at_ : mg "Plan" = some (.ref (He.ga K "Plan"))) (B : Blt mg) (g_is_sides : FP P w K mg base "is_sides" 2 1 sp_is_sides) (g_wrong_step : FP P w K mg base "wrong_step" 4 2 sp_wrong_step) (k_Plan : ClsF K "Plan" flds_Plan) : KP P w K mg base "Plan" 5 3 sp_Plan_init__ := by
  have sc := sc_Plan_init__
  obtain ⟨fd, F⟩ := F
  refine ⟨⟨fd, ["self", "sides", "steps"], F.ok sc (fun _ _ _ _ h => h.1) (fun cdv A outer s H vs Q E hr h => ?_), F.bindsN fun _ _ _ _ _ _ us hl => match us, hl with | [_, _, _], _ => rfl⟩, mk, at_⟩
  exact ⟨_, PSs.nox (pss_cons (ps_if (pt_not (pt_val (pe_f g_is_sides (Room.mono hr (by decide)) (by rfl) (pa_cons (pv 1) (pa_nil))))) (pss_one (ps_never)) (pss_nil)) (pss_cons (ps_set (i := 3) sc.nd rfl (Or.inl rfl) (pe_f g_wrong_step (Room.mono hr (by decide)) (by rfl) (pa_cons (pe_callB call_len (by rfl) B.len boot_len (pa_cons (pv 1) (pa_nil))) (pa_cons (pv 2) (pa_nil))))) (pss_cons (ps_if (pt_cmpR op_notN (pv 3) (pe_non) (nomark _)) (pss_one (ps_never)) (pss_nil)) (pss_cons (ps_fld (pv 0) (pv 1) rfl) (pss_cons (ps_fld (pv 0) (pe_callB call_len (by rfl) B.len boot_len (pa_cons (pe_ix ix_seq (pv 2) (pe_int) (fun _ _ => rfl)) (pa_nil))) rfl) (pss_one (ps_fld (pv 0) (pe_lc (own := [("row", 4)]) (g := gName 4) rfl sc.nd (pi_list (pv 2)) (blkOk_by (by kernel_rfl)) (fun _ _ _ _ _ => pg_name (i := 4) sc.nd rfl (Or.inl rfl)) (fun _ _ _ _ _ => pts_nil) (fun _ _ _ _ _ => pe_callTy call_list_of (by rfl) B.list (by decide +kernel) (pa_cons (pv 4) (pa_nil)))) rfl))))))),
    body_ok (SndSP.mono (bs := [3]) (sndp_seq (sndp_if (sndt_not (sndt_val (snd_call (ms := [false]) rfl (snda_cons (snd_var) (snda_nil))))) (snds_never.p) (snds_next.p)) (sndp_seq ((snds_set (snd_call (ms := [false, false]) rfl (snda_cons (snd_cb snd_len (snda_cons (snd_var) (snda_nil))) (snda_cons (snd_var) (snda_nil))))).p) (sndp_seq (sndp_if (sndt_test (snd_op snd_notN (snd_var) (snd_non))) (snds_never.p) (snds_next.p)) (sndp_seq ((snds_setf (cn := "Plan") k_Plan.c (k_Plan.n _ (by simp [flds_Plan])) (snd_var) (snd_var)).p) (sndp_seq ((snds_setf (cn := "Plan") k_Plan.c (k_Plan.n _ (by simp [flds_Plan])) (snd_var) (snd_cb snd_len (snda_cons (snd_op snd_ix (snd_var) (snd_int)) (snda_nil)))).p) ((snds_setf (cn := "Plan") k_Plan.c (k_Plan.n _ (by simp [flds_Plan])) (snd_var) (snd_comp (vs := [4]) (sndi_list (snd_var)) (sndg_name) (sndt_yes) (snd_cb snd_list (snda_cons (snd_var) (snda_nil))) (by decide))).p)))))) (by decide)) pf_Plan_init__ vs H Q E h⟩
theorem sc_law_plan : FnScope ["labels", "net", "x"] ["labels", "net"] (defScope (top 46)) := ⟨rfl, rfl, rfl, by decide +kernel, rfl, by decide +kernel, by decide +kernel⟩
theorem okn_law_plan {fd : FuncData} (F : FunD K "_law_plan" "_law_plan" (defArgs (top 46)) (defBody (top 46)) (defScope (top 46)) [] [] (He.ga K "_law_plan") fd) (at_ : mg "_law_plan" = some (.ref (He.ga K "_law_plan"))) (B : Blt mg) (n_Plan : KP P w K mg base "Plan" 5 3 sp_Plan_init__) : FnOk P w K mg base CX0 7 (He.ga K "_law_plan") fd ["labels", "net"] (up K 2 sp_law_plan) := by
  have sc := sc_law_plan
  refine F.ok sc (fun _ _ _ _ h => h.1) (fun cdv A outer s H vs Q E hr h => ?_)
  exact ⟨_, PSs.nox (pss_one (ps_ret (pe_new n_Plan (Room.mono hr (by decide)) (by rfl) (pa_cons (pv 0) (pa_cons (pe_lc (own := [("x", 2)]) (g := gName 2) rfl sc.nd (pi_list (pv 1)) (blkOk_by (by kernel_rfl)) (fun _ _ _ _ _ => pg_name (i := 2) sc.nd rfl (Or.inl rfl)) (fun _ _ _ _ _ => pts_nil) (fun _ _ _ _ _ => pe_callTy call_list_of (by rfl) B.list (by decide +kernel) (pa_cons (pv 2) (pa_nil)))) (pa_nil)))))),
    body_ok (SndSP.mono (bs := []) (snds_ret (ps := []) (snd_make (ms := [false, false]) rfl (snda_cons (snd_var) (snda_cons (snd_comp (vs := [2]) (sndi_list (snd_var)) (sndg_name) (sndt_yes) (snd_cb snd_list (snda_cons (snd_var) (snda_nil))) (by decide)) (snda_nil))))) (by decide)) pf_law_plan vs H Q E h⟩
theorem ok_law_plan (F : ∃ fd, FunD K "_law_plan" "_law_plan" (defArgs (top 46)) (defBody (top 46)) (defScope (top 46)) [] [] (He.ga K "_law_plan") fd) (at_ : mg "_law_plan" = some (.ref (He.ga K "_law_plan"))) (B : Blt mg) (n_Plan : KP P w K mg base "Plan" 5 3 sp_Plan_init__) : FP P w K mg base "_law_plan" 7 2 sp_law_plan := by
  obtain ⟨fd, F⟩ := F
  exact ⟨⟨fd, ["labels", "net"], okn_law_plan F at_ B n_Plan, F.bindsN fun _ _ _ _ _ _ us hl => match us, hl with | [_, _], _ => rfl⟩, F.kp, at_⟩
theorem sc_law_led : FnScope ["net", "way", "x", "sign", "k", "pair"] ["net", "way", "x"] (defScope (top 47)) := ⟨rfl, rfl, rfl, by decide +kernel, rfl, by decide +kernel, by decide +kernel⟩
theorem okn_law_led {fd : FuncData} (F : FunD K "_law_led" "_law_led" (defArgs (top 47)) (defBody (top 47)) (defScope (top 47)) [] [] (He.ga K "_law_led") fd) (at_ : mg "_law_led" = some (.ref (He.ga K "_law_led"))) (B : Blt mg)  : FnOk P w K mg base CX0 1 (He.ga K "_law_led") fd ["net", "way", "x"] (up K 3 sp_law_led) := by
  have sc := sc_law_led
  refine F.ok sc (fun _ _ _ _ h => h.1) (fun cdv A outer s H vs Q E hr h => ?_)
  exact ⟨_, PSs.nox (pss_cons (ps_set (i := 3) sc.nd rfl (Or.inl rfl) (pe_int)) (pss_cons (ps_for PassesOwn.never rfl (pi_tup (pv 1)) (pg_name (i := 4) sc.nd rfl (Or.inl rfl)) (pss_cons (ps_set (i := 5) sc.nd rfl (Or.inl rfl) (pe_ix ix_seq (pe_ix ix_seq (pv 0) (pv 4) (fun _ _ => rfl)) (pv 2) (fun _ _ => rfl))) (pss_one (ps_par (i := 2) (j := 3) rfl sc.nd rfl rfl (by decide) rfl rfl (pa_cons (pe_ix ix_seq (pv 5) (pe_int) (fun _ _ => rfl)) (pa_cons (pe_op op_times (pv 3) (pe_ix ix_seq (pv 5) (pe_int) (fun _ _ => rfl))) (pa_nil))) (by rfl))))) (pss_one (ps_ret (pe_tup (pa_cons (pv 2) (pa_cons (pv 3) (pa_nil)))))))),
    body_ok (SndSP.mono (bs := [2, 3, 4, 5]) (sndp_seq ((snds_set (snd_int)).p) (sndp_seq (sndp_for (as := [2, 3, 4, 5]) (sndi_tup (snd_var)) (sndg_name) (sndp_seq ((snds_set (snd_op snd_ix (snd_op snd_ix (snd_var) (snd_var)) (snd_var))).p) ((snds_par2 false false (snda_cons (snd_op snd_ix (snd_var) (snd_int)) (snda_cons (snd_op snd_times (snd_var) (snd_op snd_ix (snd_var) (snd_int))) (snda_nil)))).p)) (by decide)) (snds_ret (ps := []) (snd_tup (snda_cons (snd_var) (snda_cons (snd_var) (snda_nil))))))) (by decide)) pf_law_led vs H Q E h⟩
theorem ok_law_led (F : ∃ fd, FunD K "_law_led" "_law_led" (defArgs (top 47)) (defBody (top 47)) (defScope (top 47)) [] [] (He.ga K "_law_led") fd) (at_ : mg "_law_led" = some (.ref (He.ga K "_law_led"))) (B : Blt mg)  : FP P w K mg base "_law_led" 1 3 sp_law_led := by
  obtain ⟨fd, F⟩ := F
  exact ⟨⟨fd, ["net", "way", "x"], okn_law_led F at_ B , F.bindsN fun _ _ _ _ _ _ us hl => match us, hl with | [_, _, _], _ => rfl⟩, F.kp, at_⟩
theorem sc_law_table : FnScope ["net", "way", "mine", "x", "told", "here", "y"] ["net", "way"] (defScope (top 48)) := ⟨rfl, rfl, rfl, by decide +kernel, rfl, by decide +kernel, by decide +kernel⟩
theorem okn_law_table {fd : FuncData} (F : FunD K "_law_table" "_law_table" (defArgs (top 48)) (defBody (top 48)) (defScope (top 48)) [] [] (He.ga K "_law_table") fd) (at_ : mg "_law_table" = some (.ref (He.ga K "_law_table"))) (B : Blt mg) (g_law_led : FP P w K mg base "_law_led" 1 3 sp_law_led) : FnOk P w K mg base CX0 2 (He.ga K "_law_table") fd ["net", "way"] (up K 2 sp_law_table) := by
  have sc := sc_law_table
  refine F.ok sc (fun _ _ _ _ h => h.1) (fun cdv A outer s H vs Q E hr h => ?_)
  exact ⟨_, PSs.nox (pss_cons (ps_setLc (i := 2) (own := [("y", 6)]) (g := gName 6) rfl sc.nd rfl rfl (sw_true rfl rfl rfl (by decide +kernel)) (pi_range1 (by rfl) B.range (pa_cons (pe_callB call_len (by rfl) B.len boot_len (pa_cons (pe_ix ix_seq (pv 0) (pe_int) (fun _ _ => rfl)) (pa_nil))) pa_nil)) (blkOk_by (by kernel_rfl)) (fun _ _ _ _ _ => pg_name (i := 6) sc.nd rfl (Or.inl rfl)) (fun _ _ _ _ _ => pts_nil) (fun _ _ _ _ _ => pe_lc (own := [("x", 3)]) (g := gName 3) rfl sc.nd (pi_range1 (by rfl) B.range (pa_cons (pe_callB call_len (by rfl) B.len boot_len (pa_cons (pe_ix ix_seq (pv 0) (pe_int) (fun _ _ => rfl)) (pa_nil))) pa_nil)) (blkOk_by (by kernel_rfl)) (fun _ _ _ _ _ => pg_name (i := 3) sc.nd rfl (Or.inl rfl)) (fun _ _ _ _ _ => pts_nil) (fun _ _ _ _ _ => pe_int))) (pss_cons (ps_for PassesOwn.never rfl (pi_range1 (by rfl) B.range (pa_cons (pe_callB call_len (by rfl) B.len boot_len (pa_cons (pe_ix ix_seq (pv 0) (pe_int) (fun _ _ => rfl)) (pa_nil))) pa_nil)) (pg_name (i := 3) sc.nd rfl (Or.inl rfl)) (pss_cons (ps_set (i := 4) sc.nd rfl (Or.inl rfl) (pe_f g_law_led (Room.mono hr (by decide)) (by rfl) (pa_cons (pv 0) (pa_cons (pv 1) (pa_cons (pv 3) (pa_nil)))))) (pss_cons (ps_set (i := 5) sc.nd rfl (Or.inl rfl) (pe_ix ix_seq (pv 2) (pe_ix ix_seq (pv 4) (pe_int) (fun _ _ => rfl)) (fun _ _ => rfl))) (pss_one (ps_asg (pe_ix ix_seq (pv 4) (pe_int) (fun _ _ => rfl)) (pg_sub (pv 5) (pv 3) set_list)))))) (pss_one (ps_ret (pv 2))))),
    body_ok (SndSP.mono (bs := [2, 3, 4, 5]) (sndp_grid (m := 2) (vs := [6]) (sndi_rng1 (snd_cb snd_len (snda_cons (snd_op snd_ix (snd_var) (snd_int)) (snda_nil)))) (sndg_name) (sndt_yes) (snd_comp (vs := [3]) (sndi_rng1 (snd_cb snd_len (snda_cons (snd_op snd_ix (snd_var) (snd_int)) (snda_nil)))) (sndg_name) (sndt_yes) (snd_int) (by decide)) (by decide) (sndyp_seq (sndy_for (as := [3, 4, 5]) (sndi_rng1 (snd_cb snd_len (snda_cons (snd_op snd_ix (snd_var) (snd_int)) (snda_nil)))) (sndg_name) (sndy_seq (sndy_plain ((snds_set (snd_call (ms := [false, false, false]) rfl (snda_cons (snd_var) (snda_cons (snd_var) (snda_cons (snd_var) (snda_nil)))))).p) (by decide)) (sndy_here (m := 2) (h := 5) (snd_op snd_ix (snd_var) (snd_int)) ((snds_asg (snd_op snd_ix (snd_var) (snd_int)) (sndg_sub (snd_var) (snd_var))).p) (by decide) (by decide) (by decide))) (by decide) (by decide)) (sndyp_free (snds_ret (ps := []) (snd_var)) (by decide)))) (by decide)) pf_law_table vs H Q E h⟩
theorem ok_law_table (F : ∃ fd, FunD K "_law_table" "_law_table" (defArgs (top 48)) (defBody (top 48)) (defScope (top 48)) [] [] (He.ga K "_law_table") fd) (at_ : mg "_law_table" = some (.ref (He.ga K "_law_table"))) (B : Blt mg) (g_law_led : FP P w K mg base "_law_led" 1 3 sp_law_led) : FP P w K mg base "_law_table" 2 2 sp_law_table := by
  obtain ⟨fd, F⟩ := F
  exact ⟨⟨fd, ["net", "way"], okn_law_table F at_ B g_law_led, F.bindsN fun _ _ _ _ _ _ us hl => match us, hl with | [_, _], _ => rfl⟩, F.kp, at_⟩
theorem sc_law_equations : FnScope ["net", "more", "wide", "mine", "k", "left", "right", "y", "x", "row", "z"] ["net", "more"] (defScope (top 55)) := ⟨rfl, rfl, rfl, by decide +kernel, rfl, by decide +kernel, by decide +kernel⟩
theorem okn_law_equations {fd : FuncData} (F : FunD K "_law_equations" "_law_equations" (defArgs (top 55)) (defBody (top 55)) (defScope (top 55)) [] [] (He.ga K "_law_equations") fd) (at_ : mg "_law_equations" = some (.ref (He.ga K "_law_equations"))) (B : Blt mg) (g_law_table : FP P w K mg base "_law_table" 2 2 sp_law_table) : FnOk P w K mg base CX0 3 (He.ga K "_law_equations") fd ["net", "more"] (up K 2 sp_law_equations) := by
  have sc := sc_law_equations
  refine F.ok sc (fun _ _ _ _ h => h.1) (fun cdv A outer s H vs Q E hr h => ?_)
  exact ⟨_, PSs.nox (pss_cons (ps_par (i := 2) (j := 3) rfl sc.nd rfl rfl (by decide) rfl rfl (pa_cons (pe_callB call_len (by rfl) B.len boot_len (pa_cons (pe_ix ix_seq (pv 0) (pe_int) (fun _ _ => rfl)) (pa_nil))) (pa_cons (pe_lst (pa_nil)) (pa_nil))) (by rfl)) (pss_cons (ps_for PassesOwn.never rfl (pi_range1 (by rfl) B.range (pa_cons (pe_callB call_len (by rfl) B.len boot_len (pa_cons (pv 0) (pa_nil))) pa_nil)) (pg_name (i := 4) sc.nd rfl (Or.inl rfl)) (pss_cons (ps_par (i := 5) (j := 6) rfl sc.nd rfl rfl (by decide) rfl rfl (pa_cons (pe_f g_law_table (Room.mono hr (by decide)) (by rfl) (pa_cons (pv 0) (pa_cons (pe_tup (pa_cons (pv 4) (pa_nil))) (pa_nil)))) (pa_cons (pe_f g_law_table (Room.mono hr (by decide)) (by rfl) (pa_cons (pv 1) (pa_cons (pe_tup (pa_cons (pv 4) (pa_nil))) (pa_nil)))) (pa_nil))) (by rfl)) (pss_one (ps_for PassesOwn.never rfl (pi_range1 (by rfl) B.range (pa_cons (pe_callB call_len (by rfl) B.len boot_len (pa_cons (pe_ix ix_seq (pv 1) (pe_int) (fun _ _ => rfl)) (pa_nil))) pa_nil)) (pg_name (i := 7) sc.nd rfl (Or.inl rfl)) (pss_one (ps_for PassesOwn.never rfl (pi_range1 (by rfl) B.range (pa_cons (pv 2) pa_nil)) (pg_name (i := 8) sc.nd rfl (Or.inl rfl)) (pss_cons (ps_setLc (i := 9) (own := [("z", 10)]) (g := gName 10) rfl sc.nd rfl rfl (sw_true rfl rfl rfl (by decide +kernel)) (pi_range1 (by rfl) B.range (pa_cons (pe_op op_times (pv 2) (pe_callB call_len (by rfl) B.len boot_len (pa_cons (pe_ix ix_seq (pv 1) (pe_int) (fun _ _ => rfl)) (pa_nil)))) pa_nil)) (blkOk_by (by kernel_rfl)) (fun _ _ _ _ _ => pg_name (i := 10) sc.nd rfl (Or.inl rfl)) (fun _ _ _ _ _ => pts_nil) (fun _ _ _ _ _ => pe_int)) (pss_cons (ps_for PassesOwn.never rfl (pi_range1 (by rfl) B.range (pa_cons (pv 2) pa_nil)) (pg_name (i := 10) sc.nd rfl (Or.inl rfl)) (pss_one (ps_asg (pe_op op_plus (pe_ix ix_seq (pv 9) (pe_op op_plus (pe_op op_times (pv 7) (pv 2)) (pv 10)) (fun _ _ => rfl)) (pe_ix ix_seq (pe_ix ix_seq (pv 5) (pv 10) (fun _ _ => rfl)) (pv 8) (fun _ _ => rfl))) (pg_sub (pv 9) (pe_op op_plus (pe_op op_times (pv 7) (pv 2)) (pv 10)) set_list)))) (pss_cons (ps_for PassesOwn.never rfl (pi_range1 (by rfl) B.range (pa_cons (pe_callB call_len (by rfl) B.len boot_len (pa_cons (pe_ix ix_seq (pv 1) (pe_int) (fun _ _ => rfl)) (pa_nil))) pa_nil)) (pg_name (i := 10) sc.nd rfl (Or.inl rfl)) (pss_one (ps_asg (pe_op op_sub (pe_ix ix_seq (pv 9) (pe_op op_plus (pe_op op_times (pv 10) (pv 2)) (pv 8)) (fun _ _ => rfl)) (pe_ix ix_seq (pe_ix ix_seq (pv 6) (pv 7) (fun _ _ => rfl)) (pv 10) (fun _ _ => rfl))) (pg_sub (pv 9) (pe_op op_plus (pe_op op_times (pv 10) (pv 2)) (pv 8)) set_list)))) (pss_one (ps_expr (pe_bm PySem.F.plainAttrs_list PySem.F.slot_list_append PySem.F.type_list_append mt_append (pv 3) (pa_cons (pv 9) (pa_nil)))))))))))))) (pss_one (ps_ret (pv 3))))),
    body_ok (SndSP.mono (bs := [2, 3, 4, 5, 6, 7, 8, 9, 10]) (sndp_seq ((snds_par2 false true (snda_cons (snd_cb snd_len (snda_cons (snd_op snd_ix (snd_var) (snd_int)) (snda_nil))) (snda_cons (snd_lst (snda_nil)) (snda_nil)))).p) (sndp_seq (sndp_for (as := [4, 5, 6, 7, 8, 9, 10]) (sndi_rng1 (snd_cb snd_len (snda_cons (snd_var) (snda_nil)))) (sndg_name) (sndp_seq ((snds_par2 false false (snda_cons (snd_call (ms := [false, false]) rfl (snda_cons (snd_var) (snda_cons (snd_tup (snda_cons (snd_var) (snda_nil))) (snda_nil)))) (snda_cons (snd_call (ms := [false, false]) rfl (snda_cons (snd_var) (snda_cons (snd_tup (snda_cons (snd_var) (snda_nil))) (snda_nil)))) (snda_nil)))).p) (sndp_for (as := [7, 8, 9, 10]) (sndi_rng1 (snd_cb snd_len (snda_cons (snd_op snd_ix (snd_var) (snd_int)) (snda_nil)))) (sndg_name) (sndp_for (as := [8, 9, 10]) (sndi_rng1 (snd_var)) (sndg_name) (sndp_seq ((snds_setO (snd_comp (vs := [10]) (sndi_rng1 (snd_op snd_times (snd_var) (snd_cb snd_len (snda_cons (snd_op snd_ix (snd_var) (snd_int)) (snda_nil))))) (sndg_name) (sndt_yes) (snd_int) (by decide))).p) (sndp_seq (sndp_for (as := [10]) (sndi_rng1 (snd_var)) (sndg_name) ((snds_asg (snd_op snd_plus (snd_op snd_ix (snd_var) (snd_op snd_plus (snd_op snd_times (snd_var) (snd_var)) (snd_var))) (snd_op snd_ix (snd_op snd_ix (snd_var) (snd_var)) (snd_var))) (sndg_sub (snd_var) (snd_op snd_plus (snd_op snd_times (snd_var) (snd_var)) (snd_var)))).p) (by decide)) (sndp_seq (sndp_for (as := [10]) (sndi_rng1 (snd_cb snd_len (snda_cons (snd_op snd_ix (snd_var) (snd_int)) (snda_nil)))) (sndg_name) ((snds_asg (snd_op snd_minus (snd_op snd_ix (snd_var) (snd_op snd_plus (snd_op snd_times (snd_var) (snd_var)) (snd_var))) (snd_op snd_ix (snd_op snd_ix (snd_var) (snd_var)) (snd_var))) (sndg_sub (snd_var) (snd_op snd_plus (snd_op snd_times (snd_var) (snd_var)) (snd_var)))).p) (by decide)) ((snds_expr (snd_lm sndm_append (snd_var) (snda_cons (snd_varz) (snda_nil)))).p)))) (by decide)) (by decide))) (by decide)) (snds_ret (ps := []) (snd_var)))) (by decide)) pf_law_equations vs H Q E h⟩
theorem ok_law_equations (F : ∃ fd, FunD K "_law_equations" "_law_equations" (defArgs (top 55)) (defBody (top 55)) (defScope (top 55)) [] [] (He.ga K "_law_equations") fd) (at_ : mg "_law_equations" = some (.ref (He.ga K "_law_equations"))) (B : Blt mg) (g_law_table : FP P w K mg base "_law_table" 2 2 sp_law_table) : FP P w K mg base "_law_equations" 3 2 sp_law_equations := by
  obtain ⟨fd, F⟩ := F
  exact ⟨⟨fd, ["net", "more"], okn_law_equations F at_ B g_law_table, F.bindsN fun _ _ _ _ _ _ us hl => match us, hl with | [_, _], _ => rfl⟩, F.kp, at_⟩
theorem sc_law_divisor : FnScope ["row", "total", "x", "low", "high"] ["row"] (defScope (top 56)) := ⟨rfl, rfl, rfl, by decide +kernel, rfl, by decide +kernel, by decide +kernel⟩
theorem okn_law_divisor {fd : FuncData} (F : FunD K "_law_divisor" "_law_divisor" (defArgs (top 56)) (defBody (top 56)) (defScope (top 56)) [] [] (He.ga K "_law_divisor") fd) (at_ : mg "_law_divisor" = some (.ref (He.ga K "_law_divisor"))) (B : Blt mg)  : FnOk P w K mg base CX0 1 (He.ga K "_law_divisor") fd ["row"] (up K 1 sp_law_divisor) := by
  have sc := sc_law_divisor
  refine F.ok sc (fun _ _ _ _ h => h.1) (fun cdv A outer s H vs Q E hr h => ?_)
  exact ⟨_, PSs.nox (pss_cons (ps_set (i := 1) sc.nd rfl (Or.inl rfl) (pe_int)) (pss_cons (ps_for PassesOwn.never rfl (pi_list (pv 0)) (pg_name (i := 2) sc.nd rfl (Or.inl rfl)) (pss_cons (ps_par (i := 3) (j := 4) rfl sc.nd rfl rfl (by decide) rfl rfl (pa_cons (pv 1) (pa_cons (pe_callB call_abs (by rfl) B.abs (by decide +kernel) (pa_cons (pv 2) (pa_nil))) (pa_nil))) (by rfl)) (pss_cons (ps_while PassesOwn.never (pt_cmpR op_gt (pv 4) (pe_int) (nomark _)) (pss_one (ps_par (i := 3) (j := 4) rfl sc.nd rfl rfl (by decide) rfl rfl (pa_cons (pv 4) (pa_cons (pe_op op_mod (pe_callTy call_int1 (by rfl) B.int (by decide +kernel) (pa_cons (pv 3) (pa_nil))) (pv 4)) (pa_nil))) (by rfl)))) (pss_one (ps_set (i := 1) sc.nd rfl (Or.inl rfl) (pv 3)))))) (pss_one (ps_ret (pe_ifExp (pt_cmpR op_gt (pv 1) (pe_int) (nomark _)) (pv 1) (pe_int)))))),
    body_ok (SndSP.mono (bs := [1, 2, 3, 4]) (sndp_seq ((snds_set (snd_int)).p) (sndp_seq (sndp_for (as := [1, 2, 3, 4]) (sndi_list (snd_var)) (sndg_name) (sndp_seq ((snds_par2 false false (snda_cons (snd_var) (snda_cons (snd_cb snd_abs (snda_cons (snd_var) (snda_nil))) (snda_nil)))).p) (sndp_seq (sndp_while (sndt_test (snd_op (snd_icmp (p := fun i j => decide (j < i))) (snd_var) (snd_int))) ((snds_par2 false false (snda_cons (snd_var) (snda_cons (snd_op snd_mod (snd_cb snd_int1 (snda_cons (snd_var) (snda_nil))) (snd_var)) (snda_nil)))).p)) ((snds_set (snd_var)).p))) (by decide)) (snds_ret (ps := []) (snd_if (sndt_test (snd_op (snd_icmp (p := fun i j => decide (j < i))) (snd_var) (snd_int))) (snd_var) (snd_int))))) (by decide)) pf_law_divisor vs H Q E h⟩
theorem ok_law_divisor (F : ∃ fd, FunD K "_law_divisor" "_law_divisor" (defArgs (top 56)) (defBody (top 56)) (defScope (top 56)) [] [] (He.ga K "_law_divisor") fd) (at_ : mg "_law_divisor" = some (.ref (He.ga K "_law_divisor"))) (B : Blt mg)  : FP P w K mg base "_law_divisor" 1 1 sp_law_divisor := by
  obtain ⟨fd, F⟩ := F
  exact ⟨⟨fd, ["row"], okn_law_divisor F at_ B , F.bindsN fun _ _ _ _ _ _ us hl => match us, hl with | [_], _ => rfl⟩, F.kp, at_⟩
theorem sc_law_independent : FnScope ["lines", "rest", "found", "spot", "heads", "lead", "x", "row", "by", "z", "y"] ["lines"] (defScope (top 57)) := ⟨rfl, rfl, rfl, by decide +kernel, rfl, by decide +kernel, by decide +kernel⟩
theorem okn_law_independent {fd : FuncData} (F : FunD K "_law_independent" "_law_independent" (defArgs (top 57)) (defBody (top 57)) (defScope (top 57)) [] [] (He.ga K "_law_independent") fd) (at_ : mg "_law_independent" = some (.ref (He.ga K "_law_independent"))) (B : Blt mg) (g_law_divisor : FP P w K mg base "_law_divisor" 1 1 sp_law_divisor) : FnOk P w K mg base CX0 2 (He.ga K "_law_independent") fd ["lines"] (up K 1 sp_law_independent) := by
  have sc := sc_law_independent
  refine F.ok sc (fun _ _ _ _ h => h.1) (fun cdv A outer s H vs Q E hr h => ?_)
  exact ⟨_, PSs.nox (pss_cons (ps_par (i := 1) (j := 2) rfl sc.nd rfl rfl (by decide) rfl rfl (pa_cons (pe_lc (own := [("x", 6)]) (g := gName 6) rfl sc.nd (pi_list (pv 0)) (blkOk_by (by kernel_rfl)) (fun _ _ _ _ _ => pg_name (i := 6) sc.nd rfl (Or.inl rfl)) (fun _ _ _ _ _ => pts_one (pt_val (pe_callB (cr_any rfl) (by rfl) B.any (by decide +kernel) (pa_cons (pe_lc (own := [("y", 10)]) (g := gName 10) rfl sc.nd (pi_list (pv 6)) (blkOk_by (by kernel_rfl)) (fun _ _ _ _ _ => pg_name (i := 10) sc.nd rfl (Or.inl rfl)) (fun _ _ _ _ _ => pts_nil) (fun _ _ _ _ _ => pe_cmpR (op_neE hr.units) (pv 10) (pe_int) (nomark _))) (pa_nil))))) (fun _ _ _ _ _ => pv 6)) (pa_cons (pe_int) (pa_nil))) (by rfl)) (pss_cons (ps_for PassesOwn.never rfl (pi_range1 (by rfl) B.range (pa_cons (pe_ifExp (pt_cmpR (op_neE hr.units) (pv 0) (pe_lst (pa_nil)) (nomark _)) (pe_callB call_len (by rfl) B.len boot_len (pa_cons (pe_ix ix_seq (pv 0) (pe_int) (fun _ _ => rfl)) (pa_nil))) (pe_int)) pa_nil)) (pg_name (i := 3) sc.nd rfl (Or.inr rfl)) (pss_cons (ps_setLc (i := 4) (own := [("x", 6)]) (g := gName 6) rfl sc.nd rfl rfl (sw_true rfl rfl rfl (by decide +kernel)) (pi_list (pv 1)) (blkOk_by (by kernel_rfl)) (fun _ _ _ _ _ => pg_name (i := 6) sc.nd rfl (Or.inl rfl)) (fun _ _ _ _ _ => pts_one (pt_cmpR (op_neE hr.units) (pe_ix ix_seq (pv 6) (pv 3) (fun _ _ => rfl)) (pe_int) (nomark _))) (fun _ _ _ _ _ => pv 6)) (pss_one (ps_if (pt_cmpR (op_neE hr.units) (pv 4) (pe_lst (pa_nil)) (nomark _)) (pss_cons (ps_asg (pe_tup (pa_cons (pe_ix ix_seq (pv 4) (pe_int) (fun _ _ => rfl)) (pa_cons (pe_op op_plus (pv 2) (pe_int)) (pa_nil)))) (pg_tup rfl (pgs_cons (pg_name (i := 5) sc.nd rfl (Or.inr rfl)) (pgs_cons (pg_name (i := 2) sc.nd rfl (Or.inl rfl)) (pgs_nil))))) (pss_cons (ps_setLc (i := 1) (own := [("x", 6)]) (g := gName 6) rfl sc.nd rfl rfl (sw_true rfl rfl rfl (by decide +kernel)) (pi_list (pv 1)) (blkOk_by (by kernel_rfl)) (fun _ _ _ _ _ => pg_name (i := 6) sc.nd rfl (Or.inl rfl)) (fun _ _ _ _ _ => pts_one (pt_cmpR (op_eqE hr.units) (pe_ix ix_seq (pv 6) (pv 3) (fun _ _ => rfl)) (pe_int) (nomark _))) (fun _ _ _ _ _ => pv 6)) (pss_one (ps_for PassesOwn.never rfl (pi_list (pe_slice sl_any (pv 4) (po_some (pe_int)) (po_none))) (pg_name (i := 6) sc.nd rfl (Or.inr rfl)) (pss_cons (ps_setLc (i := 7) (own := [("z", 9)]) (g := gName 9) rfl sc.nd rfl rfl (sw_true rfl rfl rfl (by decide +kernel)) (pi_range1 (by rfl) B.range (pa_cons (pe_callB call_len (by rfl) B.len boot_len (pa_cons (pv 5) (pa_nil))) pa_nil)) (blkOk_by (by kernel_rfl)) (fun _ _ _ _ _ => pg_name (i := 9) sc.nd rfl (Or.inl rfl)) (fun _ _ _ _ _ => pts_nil) (fun _ _ _ _ _ => pe_op op_sub (pe_op op_times (pe_ix ix_seq (pv 5) (pv 3) (fun _ _ => rfl)) (pe_ix ix_seq (pv 6) (pv 9) (fun _ _ => rfl))) (pe_op op_times (pe_ix ix_seq (pv 6) (pv 3) (fun _ _ => rfl)) (pe_ix ix_seq (pv 5) (pv 9) (fun _ _ => rfl))))) (pss_cons (ps_set (i := 8) sc.nd rfl (Or.inr rfl) (pe_f g_law_divisor (Room.mono hr (by decide)) (by rfl) (pa_cons (pv 7) (pa_nil)))) (pss_one (ps_if (pt_val (pe_callB (cr_any rfl) (by rfl) B.any (by decide +kernel) (pa_cons (pe_lc (own := [("y", 10)]) (g := gName 10) rfl sc.nd (pi_list (pv 7)) (blkOk_by (by kernel_rfl)) (fun _ _ _ _ _ => pg_name (i := 10) sc.nd rfl (Or.inl rfl)) (fun _ _ _ _ _ => pts_nil) (fun _ _ _ _ _ => pe_cmpR (op_neE hr.units) (pv 10) (pe_int) (nomark _))) (pa_nil)))) (pss_one (ps_expr (pe_bm PySem.F.plainAttrs_list PySem.F.slot_list_append PySem.F.type_list_append mt_append (pv 1) (pa_cons (pe_lc (own := [("y", 10)]) (g := gName 10) rfl sc.nd (pi_list (pv 7)) (blkOk_by (by kernel_rfl)) (fun _ _ _ _ _ => pg_name (i := 10) sc.nd rfl (Or.inl rfl)) (fun _ _ _ _ _ => pts_nil) (fun _ _ _ _ _ => pe_op op_fdiv (pv 10) (pv 8))) (pa_nil))))) (pss_nil))))))))) (pss_nil))))) (pss_one (ps_ret (pv 2))))),
    body_ok (SndSP.mono (bs := [1, 2, 3, 4, 5, 6, 7, 8]) (sndp_seq ((snds_par2 true false (snda_cons (snd_comp (vs := [6]) (sndi_list (snd_var)) (sndg_name) (sndt_val (snd_cb snd_any (snda_cons (snd_comp (vs := [10]) (sndi_list (snd_var)) (sndg_name) (sndt_yes) (snd_op snd_ne (snd_var) (snd_int)) (by decide)) (snda_nil)))) (snd_var) (by decide)) (snda_cons (snd_int) (snda_nil)))).p) (sndp_seq (sndp_for (as := [1, 2, 3, 4, 5, 6, 7, 8]) (sndi_rng1 (snd_if (sndt_test (snd_op snd_ne (snd_var) (snd_lst (snda_nil)))) (snd_cb snd_len (snda_cons (snd_op snd_ix (snd_var) (snd_int)) (snda_nil))) (snd_int))) (sndg_name) (sndp_seq ((snds_set (snd_comp (vs := [6]) (sndi_list (snd_var)) (sndg_name) (sndt_test (snd_op snd_ne (snd_op snd_ix (snd_var) (snd_var)) (snd_int))) (snd_var) (by decide))).p) (sndp_if (sndt_test (snd_op snd_ne (snd_var) (snd_lst (snda_nil)))) (sndp_seq ((snds_asg (snd_tup (snda_cons (snd_op snd_ix (snd_var) (snd_int)) (snda_cons (snd_op snd_plus (snd_var) (snd_int)) (snda_nil)))) (sndg_tup (n := 2) (sndgs_cons (sndg_name) (sndgs_cons (sndg_name) (sndgs_nil))))).p) (sndp_seq ((snds_setO (snd_comp (vs := [6]) (sndi_list (snd_var)) (sndg_name) (sndt_test (snd_op snd_eq (snd_op snd_ix (snd_var) (snd_var)) (snd_int))) (snd_var) (by decide))).p) (sndp_for (as := [6, 7, 8]) (sndi_list (snd_slice (snd_var) (sndo_some (snd_int)) (sndo_none))) (sndg_name) (sndp_seq ((snds_set (snd_comp (vs := [9]) (sndi_rng1 (snd_cb snd_len (snda_cons (snd_var) (snda_nil)))) (sndg_name) (sndt_yes) (snd_op snd_minus (snd_op snd_times (snd_op snd_ix (snd_var) (snd_var)) (snd_op snd_ix (snd_var) (snd_var))) (snd_op snd_times (snd_op snd_ix (snd_var) (snd_var)) (snd_op snd_ix (snd_var) (snd_var)))) (by decide))).p) (sndp_seq ((snds_set (snd_call (ms := [false]) rfl (snda_cons (snd_var) (snda_nil)))).p) (sndp_if (sndt_val (snd_cb snd_any (snda_cons (snd_comp (vs := [10]) (sndi_list (snd_var)) (sndg_name) (sndt_yes) (snd_op snd_ne (snd_var) (snd_int)) (by decide)) (snda_nil)))) ((snds_expr (snd_lm sndm_append (snd_var) (snda_cons (snd_comp (vs := [10]) (sndi_list (snd_var)) (sndg_name) (sndt_yes) (snd_op snd_fdiv (snd_var) (snd_var)) (by decide)) (snda_nil)))).p) (snds_next.p)))) (by decide)))) (snds_next.p))) (by decide)) (snds_ret (ps := []) (snd_var)))) (by decide)) pf_law_independent vs H Q E h⟩
theorem ok_law_independent (F : ∃ fd, FunD K "_law_independent" "_law_independent" (defArgs (top 57)) (defBody (top 57)) (defScope (top 57)) [] [] (He.ga K "_law_independent") fd) (at_ : mg "_law_independent" = some (.ref (He.ga K "_law_independent"))) (B : Blt mg) (g_law_divisor : FP P w K mg base "_law_divisor" 1 1 sp_law_divisor) : FP P w K mg base "_law_independent" 2 1 sp_law_independent := by
  obtain ⟨fd, F⟩ := F
  exact ⟨⟨fd, ["lines"], okn_law_independent F at_ B g_law_divisor, F.bindsN fun _ _ _ _ _ _ us hl => match us, hl with | [_], _ => rfl⟩, F.kp, at_⟩
theorem sc_law_like : FnScope ["told", "due", "x", "y"] ["told", "due"] (defScope (top 41)) := ⟨rfl, rfl, rfl, by decide +kernel, rfl, by decide +kernel, by decide +kernel⟩
theorem okr_law_like (F : ∃ fd, FunD K "_law_like" "_law_like" (defArgs (top 41)) (defBody (top 41)) (defScope (top 41)) [] [] (He.ga K "_law_like") fd) (at_ : mg "_law_like" = some (.ref (He.ga K "_law_like"))) (B : Blt mg)  (s0 sp : DSp) (lv : Nat) (g_law_like : FP P w K mg base "_law_like" lv 2 s0) (pf : ∀ δ Q3, sp δ Q3 → δ.length = 2 → (∀ (i : Nat) c, δ[i]? = some (E.ow c) → i ∈ ([0, 1] : List Nat) ∧ i ∉ ([] : List Nat)) ∧ T_law_like s0 { nx := fun δ' => Q3 (.va .non) (outs δ δ'), rt := fun r δ' => Q3 r (outs δ δ') } (δ ++ List.replicate 2 E.no)) : FP P w K mg base "_law_like" (lv + 1) 2 sp := by
  have sc := sc_law_like
  obtain ⟨fd, F⟩ := F
  refine ⟨⟨fd, ["told", "due"], F.ok sc (fun _ _ _ _ h => h.1) (fun cdv A outer s H vs Q E hr h => ?_), F.bindsN fun _ _ _ _ _ _ us hl => match us, hl with | [_, _], _ => rfl⟩, F.kp, at_⟩
  exact ⟨_, PSs.nox (pss_cons (ps_if (pt_val (pe_callB call_isiT (by rfl) B.isinstance (by decide +kernel) (pa_cons (pv 1) (pa_cons (pe_tup (pa_cons (pe_bltn (v := .ty "list") (u := .type "list") (by rfl) B.list (by decide +kernel) rfl) (pa_cons (pe_bltn (v := .ty "tuple") (u := .type "tuple") (by rfl) B.tuple (by decide +kernel) rfl) pa_nil))) pa_nil)))) (pss_cons (ps_if (PW.pt (pw_or (pt_cmpR (op_neE hr.units) (pe_callB call_isi (by rfl) B.isinstance (by decide +kernel) (pa_cons (pv 0) (pa_cons (pe_bltn (v := .ty "list") (u := .type "list") (by rfl) B.list (by decide +kernel) rfl) pa_nil))) (pe_callB call_isi (by rfl) B.isinstance (by decide +kernel) (pa_cons (pv 1) (pa_cons (pe_bltn (v := .ty "list") (u := .type "list") (by rfl) B.list (by decide +kernel) rfl) pa_nil))) (nomark _)) (pw_or1 (pt_cmpR (op_neE hr.units) (pe_callB call_isi (by rfl) B.isinstance (by decide +kernel) (pa_cons (pv 0) (pa_cons (pe_bltn (v := .ty "tuple") (u := .type "tuple") (by rfl) B.tuple (by decide +kernel) rfl) pa_nil))) (pe_callB call_isi (by rfl) B.isinstance (by decide +kernel) (pa_cons (pv 1) (pa_cons (pe_bltn (v := .ty "tuple") (u := .type "tuple") (by rfl) B.tuple (by decide +kernel) rfl) pa_nil))) (nomark _))))) (pss_one (ps_ret (pe_bl))) (pss_nil)) (pss_one (ps_ret (pe_and (pe_cmpR (op_eqE hr.units) (pe_callB call_len (by rfl) B.len boot_len (pa_cons (pv 0) (pa_nil))) (pe_callB call_len (by rfl) B.len boot_len (pa_cons (pv 1) (pa_nil))) (nomark _)) (pe_one (pe_callB (cr_all rfl) (by rfl) B.all (by decide +kernel) (pa_cons (pe_lc (own := [("x", 2), ("y", 3)]) (g := gTup K 2 (gCons (gName 2) (gCons (gName 3) (gNil)))) rfl sc.nd (RZ.pi_zipA (by rfl) B.zip (pa_cons (pv 0) (pa_cons (pv 1) pa_nil))) (blkOk_by (by kernel_rfl)) (fun _ _ _ _ _ => pg_tup rfl (pgs_cons (pg_name (i := 2) sc.nd rfl (Or.inl rfl)) (pgs_cons (pg_name (i := 3) sc.nd rfl (Or.inl rfl)) (pgs_nil)))) (fun _ _ _ _ _ => pts_nil) (fun _ _ _ _ _ => pe_f g_law_like hr (by rfl) (pa_cons (pv 2) (pa_cons (pv 3) (pa_nil))))) (pa_nil)))))))) (pss_nil)) (pss_cons (ps_if (PW.pt (pw_or (pt_cmpR op_isN (pv 1) (pe_non) (nomark _)) (pw_or1 (pt_cmpR op_isN (pv 0) (pe_non) (nomark _))))) (pss_one (ps_ret (pe_and (pe_cmpR op_isN (pv 1) (pe_non) (nomark _)) (pe_one (pe_cmpR op_isN (pv 0) (pe_non) (nomark _)))))) (pss_nil)) (pss_cons (ps_if (PW.pt (pw_or (pt_val (pe_callB call_isiT (by rfl) B.isinstance (by decide +kernel) (pa_cons (pv 0) (pa_cons (pe_tup (pa_cons (pe_bltn (v := .ty "list") (u := .type "list") (by rfl) B.list (by decide +kernel) rfl) (pa_cons (pe_bltn (v := .ty "tuple") (u := .type "tuple") (by rfl) B.tuple (by decide +kernel) rfl) pa_nil))) pa_nil)))) (pw_or1 (pt_cmpR (op_neE hr.units) (pe_callB call_isi (by rfl) B.isinstance (by decide +kernel) (pa_cons (pv 0) (pa_cons (pe_bltn (v := .ty "bool") (u := .type "bool") (by rfl) B.bool (by decide +kernel) rfl) pa_nil))) (pe_callB call_isi (by rfl) B.isinstance (by decide +kernel) (pa_cons (pv 1) (pa_cons (pe_bltn (v := .ty "bool") (u := .type "bool") (by rfl) B.bool (by decide +kernel) rfl) pa_nil))) (nomark _))))) (pss_one (ps_ret (pe_bl))) (pss_nil)) (pss_cons (ps_if (PW.pt (pw_or (pt_cmpR (op_neE hr.units) (pe_callB call_isi (by rfl) B.isinstance (by decide +kernel) (pa_cons (pv 0) (pa_cons (pe_bltn (v := .ty "str") (u := .type "str") (by rfl) B.str (by decide +kernel) rfl) pa_nil))) (pe_callB call_isi (by rfl) B.isinstance (by decide +kernel) (pa_cons (pv 1) (pa_cons (pe_bltn (v := .ty "str") (u := .type "str") (by rfl) B.str (by decide +kernel) rfl) pa_nil))) (nomark _)) (pw_or1 (pt_cmpR (op_neE hr.units) (pe_callB call_isi (by rfl) B.isinstance (by decide +kernel) (pa_cons (pv 0) (pa_cons (pe_bltn (v := .ty "int") (u := .type "int") (by rfl) B.int (by decide +kernel) rfl) pa_nil))) (pe_callB call_isi (by rfl) B.isinstance (by decide +kernel) (pa_cons (pv 1) (pa_cons (pe_bltn (v := .ty "int") (u := .type "int") (by rfl) B.int (by decide +kernel) rfl) pa_nil))) (nomark _))))) (pss_one (ps_ret (pe_bl))) (pss_nil)) (pss_one (ps_ret (pe_and (pe_cmpR (op_eqE hr.units) (pe_callB call_isi (by rfl) B.isinstance (by decide +kernel) (pa_cons (pv 0) (pa_cons (pe_bltn (v := .ty "dict") (u := .type "dict") (by rfl) B.dict (by decide +kernel) rfl) pa_nil))) (pe_callB call_isi (by rfl) B.isinstance (by decide +kernel) (pa_cons (pv 1) (pa_cons (pe_bltn (v := .ty "dict") (u := .type "dict") (by rfl) B.dict (by decide +kernel) rfl) pa_nil))) (nomark _)) (pe_one (pe_cmpR (op_eqE hr.units) (pv 0) (pv 1) (nomark _)))))))))),
    body_ok (SndSP.mono (bs := []) (sndp_seq (sndp_if (sndt_val (snd_isi2 .list .tuple rfl rfl (snd_var))) (sndp_seq (sndp_if (sndt_or (sndt_test (snd_op snd_ne (snd_isi .list rfl (snd_var)) (snd_isi .list rfl (snd_var)))) (sndt_test (snd_op snd_ne (snd_isi .tuple rfl (snd_var)) (snd_isi .tuple rfl (snd_var))))) (snds_ret (ps := [0, 1]) (snd_bl)) (snds_next.p)) (snds_ret (ps := [0, 1]) (snd_andV (snd_op snd_eq (snd_cb snd_len (snda_cons (snd_var) (snda_nil))) (snd_cb snd_len (snda_cons (snd_var) (snda_nil)))) (snd_cb snd_all (snda_cons (snd_comp (vs := [2, 3]) (sndi_zipA (snd_var) (snd_var)) (sndg_tup (n := 2) (sndgs_cons (sndg_name) (sndgs_cons (sndg_name) (sndgs_nil)))) (sndt_yes) (snd_call (ms := [true, true]) rfl (snda_cons (snd_var) (snda_cons (snd_var) (snda_nil)))) (by decide)) (snda_nil)))))) (snds_next.p)) (sndp_seq (sndp_if (sndt_or (sndt_test (snd_op snd_isN (snd_var) (snd_non))) (sndt_test (snd_op snd_isN (snd_var) (snd_non)))) (snds_ret (ps := [0, 1]) (snd_andV (snd_op snd_isN (snd_var) (snd_non)) (snd_op snd_isN (snd_var) (snd_non)))) (snds_next.p)) (sndp_seq (sndp_if (sndt_or (sndt_val (snd_isi2 .list .tuple rfl rfl (snd_var))) (sndt_test (snd_op snd_ne (snd_isi .bool rfl (snd_var)) (snd_isi .bool rfl (snd_var))))) (snds_ret (ps := [0, 1]) (snd_bl)) (snds_next.p)) (sndp_seq (sndp_if (sndt_or (sndt_test (snd_op snd_ne (snd_isi .str rfl (snd_var)) (snd_isi .str rfl (snd_var)))) (sndt_test (snd_op snd_ne (snd_isi .int rfl (snd_var)) (snd_isi .int rfl (snd_var))))) (snds_ret (ps := [0, 1]) (snd_bl)) (snds_next.p)) (snds_ret (ps := [0, 1]) (snd_andV (snd_op snd_eq (snd_isi .dict rfl (snd_var)) (snd_isi .dict rfl (snd_var))) (snd_op snd_eq (snd_var) (snd_var)))))))) (by decide)) pf vs H Q E h⟩
theorem ok_law_like (F : ∃ fd, FunD K "_law_like" "_law_like" (defArgs (top 41)) (defBody (top 41)) (defScope (top 41)) [] [] (He.ga K "_law_like") fd) (at_ : mg "_law_like" = some (.ref (He.ga K "_law_like"))) (B : Blt mg)  : ∀ N, FP P w K mg base "_law_like" (N + 1) 2 (sp_law_like N) := by
  intro N
  have none : FP P w K mg base "_law_like" 0 2 (fun _ _ => False) := by
    obtain ⟨fd, F⟩ := F
    exact ⟨⟨fd, ["told", "due"], ⟨fun _ _ _ _ h => h.1, fun _ _ _ _ _ _ _ _ _ _ _ _ _ h => by obtain ⟨_, _, _, _, _, h, _⟩ := h; exact h.elim⟩, F.bindsN fun _ _ _ _ _ _ us hl => match us, hl with | [_, _], _ => rfl⟩, F.kp, at_⟩
  induction N with
  | zero => exact okr_law_like F at_ B  _ _ 0 none (pf_law_like 0)
  | succ N ih => exact okr_law_like F at_ B  _ _ (N + 1) ih (pf_law_like (N + 1))
theorem okrh_law_like (F : ∃ fd, FunD K "_law_like" "_law_like" (defArgs (top 41)) (defBody (top 41)) (defScope (top 41)) [] [] (He.ga K "_law_like") fd) (at_ : mg "_law_like" = some (.ref (He.ga K "_law_like"))) (B : Blt mg)  (s0 sp : DSp) (lv : Nat) (h_law_like : FPH P w K mg base "_law_like" lv 2 s0) (pf : ∀ δ Q3, sp δ Q3 → δ.length = 2 → (∀ (i : Nat) c, δ[i]? = some (E.ow c) → i ∈ ([0, 1] : List Nat) ∧ i ∉ ([] : List Nat)) ∧ T_law_like s0 { nx := fun δ' => Q3 (.va .non) (outs δ δ'), rt := fun r δ' => Q3 r (outs δ δ') } (δ ++ List.replicate 2 E.no)) : FPH P w K mg base "_law_like" (lv + 1) 2 sp := by
  have sc := sc_law_like
  obtain ⟨fd, F⟩ := F
  refine ⟨⟨fd, ["told", "due"], fnD_okH F sc (fun _ _ _ _ h => h.1) (fun cdv A outer s H vs Q E p1 hx hr h => ?_), F.bindsN fun _ _ _ _ _ _ us hl => match us, hl with | [_, _], _ => rfl⟩, F.kp, at_⟩
  exact ⟨_, pss_cons (ps_if (pt_val (pe_callB call_isiT (by rfl) B.isinstance (by decide +kernel) (pa_cons (pv 1) (pa_cons (pe_tup (pa_cons (pe_bltn (v := .ty "list") (u := .type "list") (by rfl) B.list (by decide +kernel) rfl) (pa_cons (pe_bltn (v := .ty "tuple") (u := .type "tuple") (by rfl) B.tuple (by decide +kernel) rfl) pa_nil))) pa_nil)))) (pss_cons (ps_if (PW.pt (pw_or (pt_cmpR (op_neE (hr_units hr)) (pe_callB call_isi (by rfl) B.isinstance (by decide +kernel) (pa_cons (pv 0) (pa_cons (pe_bltn (v := .ty "list") (u := .type "list") (by rfl) B.list (by decide +kernel) rfl) pa_nil))) (pe_callB call_isi (by rfl) B.isinstance (by decide +kernel) (pa_cons (pv 1) (pa_cons (pe_bltn (v := .ty "list") (u := .type "list") (by rfl) B.list (by decide +kernel) rfl) pa_nil))) (nomark _)) (pw_or1 (pt_cmpR (op_neE (hr_units hr)) (pe_callB call_isi (by rfl) B.isinstance (by decide +kernel) (pa_cons (pv 0) (pa_cons (pe_bltn (v := .ty "tuple") (u := .type "tuple") (by rfl) B.tuple (by decide +kernel) rfl) pa_nil))) (pe_callB call_isi (by rfl) B.isinstance (by decide +kernel) (pa_cons (pv 1) (pa_cons (pe_bltn (v := .ty "tuple") (u := .type "tuple") (by rfl) B.tuple (by decide +kernel) rfl) pa_nil))) (nomark _))))) (pss_one (ps_ret (pe_bl))) (pss_nil)) (pss_one (ps_ret (pe_and (pe_cmpR (op_eqE (hr_units hr)) (pe_callB call_len (by rfl) B.len boot_len (pa_cons (pv 0) (pa_nil))) (pe_callB call_len (by rfl) B.len boot_len (pa_cons (pv 1) (pa_nil))) (nomark _)) (pe_one (pe_callB (cr_allG hx) (by rfl) B.all (by decide +kernel) (pa_cons (pe_lcG (own := [("x", 2), ("y", 3)]) (g := gTup K 2 (gCons (gName 2) (gCons (gName 3) (gNil)))) hx sc.nd (pi_zipAG (by rfl) B.zip (pa_cons (pv 0) (pa_cons (pv 1) pa_nil))) (blkOk_by (by kernel_rfl)) (fun _ _ _ _ _ hx => pg_tupG hx (pgs_cons (pg_name (i := 2) sc.nd rfl (Or.inl rfl)) (pgs_cons (pg_name (i := 3) sc.nd rfl (Or.inl rfl)) (pgs_nil)))) (fun _ _ _ _ _ hx => pts_nil) (fun _ _ _ _ _ hx => pe_fG h_law_like hx hr (by rfl) (pa_cons (pv 2) (pa_cons (pv 3) (pa_nil))))) (pa_nil)))))))) (pss_nil)) (pss_cons (ps_if (PW.pt (pw_or (pt_cmpR op_isN (pv 1) (pe_non) (nomark _)) (pw_or1 (pt_cmpR op_isN (pv 0) (pe_non) (nomark _))))) (pss_one (ps_ret (pe_and (pe_cmpR op_isN (pv 1) (pe_non) (nomark _)) (pe_one (pe_cmpR op_isN (pv 0) (pe_non) (nomark _)))))) (pss_nil)) (pss_cons (ps_if (PW.pt (pw_or (pt_val (pe_callB call_isiT (by rfl) B.isinstance (by decide +kernel) (pa_cons (pv 0) (pa_cons (pe_tup (pa_cons (pe_bltn (v := .ty "list") (u := .type "list") (by rfl) B.list (by decide +kernel) rfl) (pa_cons (pe_bltn (v := .ty "tuple") (u := .type "tuple") (by rfl) B.tuple (by decide +kernel) rfl) pa_nil))) pa_nil)))) (pw_or1 (pt_cmpR (op_neE (hr_units hr)) (pe_callB call_isi (by rfl) B.isinstance (by decide +kernel) (pa_cons (pv 0) (pa_cons (pe_bltn (v := .ty "bool") (u := .type "bool") (by rfl) B.bool (by decide +kernel) rfl) pa_nil))) (pe_callB call_isi (by rfl) B.isinstance (by decide +kernel) (pa_cons (pv 1) (pa_cons (pe_bltn (v := .ty "bool") (u := .type "bool") (by rfl) B.bool (by decide +kernel) rfl) pa_nil))) (nomark _))))) (pss_one (ps_ret (pe_bl))) (pss_nil)) (pss_cons (ps_if (PW.pt (pw_or (pt_cmpR (op_neE (hr_units hr)) (pe_callB call_isi (by rfl) B.isinstance (by decide +kernel) (pa_cons (pv 0) (pa_cons (pe_bltn (v := .ty "str") (u := .type "str") (by rfl) B.str (by decide +kernel) rfl) pa_nil))) (pe_callB call_isi (by rfl) B.isinstance (by decide +kernel) (pa_cons (pv 1) (pa_cons (pe_bltn (v := .ty "str") (u := .type "str") (by rfl) B.str (by decide +kernel) rfl) pa_nil))) (nomark _)) (pw_or1 (pt_cmpR (op_neE (hr_units hr)) (pe_callB call_isi (by rfl) B.isinstance (by decide +kernel) (pa_cons (pv 0) (pa_cons (pe_bltn (v := .ty "int") (u := .type "int") (by rfl) B.int (by decide +kernel) rfl) pa_nil))) (pe_callB call_isi (by rfl) B.isinstance (by decide +kernel) (pa_cons (pv 1) (pa_cons (pe_bltn (v := .ty "int") (u := .type "int") (by rfl) B.int (by decide +kernel) rfl) pa_nil))) (nomark _))))) (pss_one (ps_ret (pe_bl))) (pss_nil)) (pss_one (ps_ret (pe_and (pe_cmpR (op_eqE (hr_units hr)) (pe_callB call_isi (by rfl) B.isinstance (by decide +kernel) (pa_cons (pv 0) (pa_cons (pe_bltn (v := .ty "dict") (u := .type "dict") (by rfl) B.dict (by decide +kernel) rfl) pa_nil))) (pe_callB call_isi (by rfl) B.isinstance (by decide +kernel) (pa_cons (pv 1) (pa_cons (pe_bltn (v := .ty "dict") (u := .type "dict") (by rfl) B.dict (by decide +kernel) rfl) pa_nil))) (nomark _)) (pe_one (pe_cmpR (op_eqE (hr_units hr)) (pv 0) (pv 1) (nomark _))))))))),
    body_ok (SndSP.mono (bs := []) (sndp_seq (sndp_if (sndt_val (snd_isi2 .list .tuple rfl rfl (snd_var))) (sndp_seq (sndp_if (sndt_or (sndt_test (snd_op snd_ne (snd_isi .list rfl (snd_var)) (snd_isi .list rfl (snd_var)))) (sndt_test (snd_op snd_ne (snd_isi .tuple rfl (snd_var)) (snd_isi .tuple rfl (snd_var))))) (snds_ret (ps := [0, 1]) (snd_bl)) (snds_next.p)) (snds_ret (ps := [0, 1]) (snd_andV (snd_op snd_eq (snd_cb snd_len (snda_cons (snd_var) (snda_nil))) (snd_cb snd_len (snda_cons (snd_var) (snda_nil)))) (snd_cb snd_all (snda_cons (snd_comp (vs := [2, 3]) (sndi_zipA (snd_var) (snd_var)) (sndg_tup (n := 2) (sndgs_cons (sndg_name) (sndgs_cons (sndg_name) (sndgs_nil)))) (sndt_yes) (snd_call (ms := [true, true]) rfl (snda_cons (snd_var) (snda_cons (snd_var) (snda_nil)))) (by decide)) (snda_nil)))))) (snds_next.p)) (sndp_seq (sndp_if (sndt_or (sndt_test (snd_op snd_isN (snd_var) (snd_non))) (sndt_test (snd_op snd_isN (snd_var) (snd_non)))) (snds_ret (ps := [0, 1]) (snd_andV (snd_op snd_isN (snd_var) (snd_non)) (snd_op snd_isN (snd_var) (snd_non)))) (snds_next.p)) (sndp_seq (sndp_if (sndt_or (sndt_val (snd_isi2 .list .tuple rfl rfl (snd_var))) (sndt_test (snd_op snd_ne (snd_isi .bool rfl (snd_var)) (snd_isi .bool rfl (snd_var))))) (snds_ret (ps := [0, 1]) (snd_bl)) (snds_next.p)) (sndp_seq (sndp_if (sndt_or (sndt_test (snd_op snd_ne (snd_isi .str rfl (snd_var)) (snd_isi .str rfl (snd_var)))) (sndt_test (snd_op snd_ne (snd_isi .int rfl (snd_var)) (snd_isi .int rfl (snd_var))))) (snds_ret (ps := [0, 1]) (snd_bl)) (snds_next.p)) (snds_ret (ps := [0, 1]) (snd_andV (snd_op snd_eq (snd_isi .dict rfl (snd_var)) (snd_isi .dict rfl (snd_var))) (snd_op snd_eq (snd_var) (snd_var)))))))) (by decide)) pf vs H Q E h⟩
theorem okh_law_like (F : ∃ fd, FunD K "_law_like" "_law_like" (defArgs (top 41)) (defBody (top 41)) (defScope (top 41)) [] [] (He.ga K "_law_like") fd) (at_ : mg "_law_like" = some (.ref (He.ga K "_law_like"))) (B : Blt mg)  : ∀ N, FPH P w K mg base "_law_like" (N + 1) 2 (sp_law_like N) := by
  intro N
  have none : FPH P w K mg base "_law_like" 0 2 (fun _ _ => False) := by
    obtain ⟨fd, F⟩ := F
    exact ⟨⟨fd, ["told", "due"], ⟨fun _ _ _ _ h => h.1, fun _ _ _ _ _ _ _ _ _ _ _ _ _ _ _ _ h => by obtain ⟨_, _, _, _, _, h, _⟩ := h; exact h.elim⟩, F.bindsN fun _ _ _ _ _ _ us hl => match us, hl with | [_, _], _ => rfl⟩, F.kp, at_⟩
  induction N with
  | zero => exact okrh_law_like F at_ B  _ _ 0 none (pf_law_like 0)
  | succ N ih => exact okrh_law_like F at_ B  _ _ (N + 1) ih (pf_law_like (N + 1))
theorem sc_law_flat : FnScope ["lines", "mine", "x"] ["lines"] (defScope (top 58)) := ⟨rfl, rfl, rfl, by decide +kernel, rfl, by decide +kernel, by decide +kernel⟩
theorem okn_law_flat {fd : FuncData} (F : FunD K "_law_flat" "_law_flat" (defArgs (top 58)) (defBody (top 58)) (defScope (top 58)) [] [] (He.ga K "_law_flat") fd) (at_ : mg "_law_flat" = some (.ref (He.ga K "_law_flat"))) (B : Blt mg)  : FnOk P w K mg base CX0 1 (He.ga K "_law_flat") fd ["lines"] (up K 1 sp_law_flat) := by
  have sc := sc_law_flat
  refine F.ok sc (fun _ _ _ _ h => h.1) (fun cdv A outer s H vs Q E hr h => ?_)
  exact ⟨_, PSs.nox (pss_cons (ps_set (i := 1) sc.nd rfl (Or.inl rfl) (pe_lst (pa_nil))) (pss_cons (ps_for PassesOwn.never rfl (pi_list (pv 0)) (pg_name (i := 2) sc.nd rfl (Or.inl rfl)) (pss_one (ps_expr (pe_bm PySem.F.plainAttrs_list PySem.F.slot_list_extend PySem.F.type_list_extend mt_extend (pv 1) (pa_cons (pv 2) pa_nil))))) (pss_one (ps_ret (pv 1))))),
    body_ok (SndSP.mono (bs := [1, 2]) (sndp_seq ((snds_setO (snd_lst (snda_nil))).p) (sndp_seq (sndp_for (as := [2]) (sndi_list (snd_var)) (sndg_name) ((snds_expr (snd_extend (snd_var) (snd_var))).p) (by decide)) (snds_ret (ps := []) (snd_var)))) (by decide)) pf_law_flat vs H Q E h⟩
theorem ok_law_flat (F : ∃ fd, FunD K "_law_flat" "_law_flat" (defArgs (top 58)) (defBody (top 58)) (defScope (top 58)) [] [] (He.ga K "_law_flat") fd) (at_ : mg "_law_flat" = some (.ref (He.ga K "_law_flat"))) (B : Blt mg)  : FP P w K mg base "_law_flat" 1 1 sp_law_flat := by
  obtain ⟨fd, F⟩ := F
  exact ⟨⟨fd, ["lines"], okn_law_flat F at_ B , F.bindsN fun _ _ _ _ _ _ us hl => match us, hl with | [_], _ => rfl⟩, F.kp, at_⟩
theorem sc_kin : FnScope ["a", "b", "signs", "found", "truth", "met"] ["a", "b"] (defScope (top 12)) := ⟨rfl, rfl, rfl, by decide +kernel, rfl, by decide +kernel, by decide +kernel⟩
theorem okn_kin {fd : FuncData} (F : FunD K "kin" "kin" (defArgs (top 12)) (defBody (top 12)) (defScope (top 12)) [] [] (He.ga K "kin") fd) (at_ : mg "kin" = some (.ref (He.ga K "kin"))) (B : Blt mg) (g_crossed : FP P w K mg base "crossed" 3 2 sp_crossed) : FnOk P w K mg base CX0 4 (He.ga K "kin") fd ["a", "b"] (up K 2 sp_kin) := by
  have sc := sc_kin
  refine F.ok sc (fun _ _ _ _ h => h.1) (fun cdv A outer s H vs Q E hr h => ?_)
  exact ⟨_, PSs.nox (pss_cons (ps_asg (pe_f g_crossed (Room.mono hr (by decide)) (by rfl) (pa_cons (pv 0) (pa_cons (pv 1) (pa_nil)))) (pg_tup rfl (pgs_cons (pg_name (i := 2) sc.nd rfl (Or.inl rfl)) (pgs_cons (pg_name (i := 3) sc.nd rfl (Or.inl rfl)) (pgs_nil))))) (pss_one (ps_ret (pe_callB call_len (by rfl) B.len boot_len (pa_cons (pe_lc (own := [("truth", 4), ("met", 5)]) (g := gTup K 2 (gCons (gName 4) (gCons (gName 5) (gNil)))) rfl sc.nd (pi_list (pv 3)) (blkOk_by (by kernel_rfl)) (fun _ _ _ _ _ => pg_tup rfl (pgs_cons (pg_name (i := 4) sc.nd rfl (Or.inl rfl)) (pgs_cons (pg_name (i := 5) sc.nd rfl (Or.inl rfl)) (pgs_nil)))) (fun _ _ _ _ _ => pts_one (pt_truth (pv 4) (fun _ => rfl))) (fun _ _ _ _ _ => pv 5)) (pa_nil)))))),
    body_ok (SndSP.mono (bs := [2, 3]) (sndp_seq ((snds_asg (snd_call (ms := [false, false]) rfl (snda_cons (snd_var) (snda_cons (snd_var) (snda_nil)))) (sndg_tup (n := 2) (sndgs_cons (sndg_name) (sndgs_cons (sndg_name) (sndgs_nil))))).p) (snds_ret (ps := []) (snd_cb snd_len (snda_cons (snd_comp (vs := [4, 5]) (sndi_list (snd_var)) (sndg_tup (n := 2) (sndgs_cons (sndg_name) (sndgs_cons (sndg_name) (sndgs_nil)))) (sndt_truth (snd_var)) (snd_var) (by decide)) (snda_nil))))) (by decide)) pf_kin vs H Q E h⟩
theorem ok_kin (F : ∃ fd, FunD K "kin" "kin" (defArgs (top 12)) (defBody (top 12)) (defScope (top 12)) [] [] (He.ga K "kin") fd) (at_ : mg "kin" = some (.ref (He.ga K "kin"))) (B : Blt mg) (g_crossed : FP P w K mg base "crossed" 3 2 sp_crossed) : FP P w K mg base "kin" 4 2 sp_kin := by
  obtain ⟨fd, F⟩ := F
  exact ⟨⟨fd, ["a", "b"], okn_kin F at_ B g_crossed, F.bindsN fun _ _ _ _ _ _ us hl => match us, hl with | [_, _], _ => rfl⟩, F.kp, at_⟩
theorem okk_kin_10_0 (F : ∃ fd, FunD K "kin" "kin" (defArgs (top 12)) (defBody (top 12)) (defScope (top 12)) [] [] (He.ga K "kin") fd) (at_ : mg "kin" = some (.ref (He.ga K "kin"))) (B : Blt mg) (g_crossed : FP P w K mg base "crossed" 3 2 sp_crossed) : FK P w K mg base "kin" 4 2 sp_kin 0 ["b", "a"] [1, 0] := by
  obtain ⟨fd, F⟩ := F
  exact ⟨⟨fd, ["a", "b"], okn_kin F at_ B g_crossed, fun s us ws _ l1 l2 => fk_bind F (ks := ["b", "a"]) (us := us) (ws := ws) (zs := pk [1, 0] (us ++ ws)) (fun _ _ _ _ _ _ => match us, l1, ws, l2 with | [], _, [_, _], _ => rfl) s⟩, F.kp, at_⟩
theorem sc_law_whole : FnScope ["item"] ["item"] (defScope (top 42)) := ⟨rfl, rfl, rfl, by decide +kernel, rfl, by decide +kernel, by decide +kernel⟩
theorem okn_law_whole {fd : FuncData} (F : FunD K "_law_whole" "_law_whole" (defArgs (top 42)) (defBody (top 42)) (defScope (top 42)) [] [] (He.ga K "_law_whole") fd) (at_ : mg "_law_whole" = some (.ref (He.ga K "_law_whole"))) (B : Blt mg)  : FnOk P w K mg base CX0 1 (He.ga K "_law_whole") fd ["item"] (up K 1 sp_law_whole) := by
  have sc := sc_law_whole
  refine F.ok sc (fun _ _ _ _ h => h.1) (fun cdv A outer s H vs Q E hr h => ?_)
  exact ⟨_, PSs.nox (pss_one (ps_ret (pe_and (pe_callB call_isi (by rfl) B.isinstance (by decide +kernel) (pa_cons (pv 0) (pa_cons (pe_bltn (v := .ty "int") (u := .type "int") (by rfl) B.int (by decide +kernel) rfl) pa_nil))) (pe_one (pe_not (pe_callB call_isi (by rfl) B.isinstance (by decide +kernel) (pa_cons (pv 0) (pa_cons (pe_bltn (v := .ty "bool") (u := .type "bool") (by rfl) B.bool (by decide +kernel) rfl) pa_nil)))))))),
    body_ok (SndSP.mono (bs := []) (snds_ret (ps := []) (snd_andV (snd_isi .int rfl (snd_var)) (snd_notV (snd_isi .bool rfl (snd_var))))) (by decide)) pf_law_whole vs H Q E h⟩
theorem ok_law_whole (F : ∃ fd, FunD K "_law_whole" "_law_whole" (defArgs (top 42)) (defBody (top 42)) (defScope (top 42)) [] [] (He.ga K "_law_whole") fd) (at_ : mg "_law_whole" = some (.ref (He.ga K "_law_whole"))) (B : Blt mg)  : FP P w K mg base "_law_whole" 1 1 sp_law_whole := by
  obtain ⟨fd, F⟩ := F
  exact ⟨⟨fd, ["item"], okn_law_whole F at_ B , F.bindsN fun _ _ _ _ _ _ us hl => match us, hl with | [_], _ => rfl⟩, F.kp, at_⟩
theorem sc_law_inner : FnScope ["left", "right", "x", "y"] ["left", "right"] (defScope (top 49)) := ⟨rfl, rfl, rfl, by decide +kernel, rfl, by decide +kernel, by decide +kernel⟩
theorem okn_law_inner {fd : FuncData} (F : FunD K "_law_inner" "_law_inner" (defArgs (top 49)) (defBody (top 49)) (defScope (top 49)) [] [] (He.ga K "_law_inner") fd) (at_ : mg "_law_inner" = some (.ref (He.ga K "_law_inner"))) (B : Blt mg)  : FnOk P w K mg base CX0 1 (He.ga K "_law_inner") fd ["left", "right"] (up K 2 sp_law_inner) := by
  have sc := sc_law_inner
  refine F.ok sc (fun _ _ _ _ h => h.1) (fun cdv A outer s H vs Q E hr h => ?_)
  exact ⟨_, PSs.nox (pss_one (ps_ret (pe_callB (cr_sum rfl) (by rfl) B.sum (by decide +kernel) (pa_cons (pe_lc (own := [("x", 2), ("y", 3)]) (g := gTup K 2 (gCons (gName 2) (gCons (gName 3) (gNil)))) rfl sc.nd (pi_zip (by rfl) B.zip (pa_cons (pv 0) (pa_cons (pv 1) pa_nil))) (blkOk_by (by kernel_rfl)) (fun _ _ _ _ _ => pg_tup rfl (pgs_cons (pg_name (i := 2) sc.nd rfl (Or.inl rfl)) (pgs_cons (pg_name (i := 3) sc.nd rfl (Or.inl rfl)) (pgs_nil)))) (fun _ _ _ _ _ => pts_nil) (fun _ _ _ _ _ => pe_op op_times (pv 2) (pv 3))) (pa_nil))))),
    body_ok (SndSP.mono (bs := []) (snds_ret (ps := []) (snd_cb snd_sum (snda_cons (snd_comp (vs := [2, 3]) (sndi_zip (snd_var) (snd_var)) (sndg_tup (n := 2) (sndgs_cons (sndg_name) (sndgs_cons (sndg_name) (sndgs_nil)))) (sndt_yes) (snd_op snd_times (snd_var) (snd_var)) (by decide)) (snda_nil)))) (by decide)) pf_law_inner vs H Q E h⟩
theorem ok_law_inner (F : ∃ fd, FunD K "_law_inner" "_law_inner" (defArgs (top 49)) (defBody (top 49)) (defScope (top 49)) [] [] (He.ga K "_law_inner") fd) (at_ : mg "_law_inner" = some (.ref (He.ga K "_law_inner"))) (B : Blt mg)  : FP P w K mg base "_law_inner" 1 2 sp_law_inner := by
  obtain ⟨fd, F⟩ := F
  exact ⟨⟨fd, ["left", "right"], okn_law_inner F at_ B , F.bindsN fun _ _ _ _ _ _ us hl => match us, hl with | [_, _], _ => rfl⟩, F.kp, at_⟩
theorem sc_law_pair_so : FnScope ["labels", "net", "more", "held", "other_held", "lines", "total", "due", "told", "flat", "x", "row", "y"] ["labels", "net", "more"] (defScope (top 59)) := ⟨rfl, rfl, rfl, by decide +kernel, rfl, by decide +kernel, by decide +kernel⟩
theorem okn_law_pair_so {fd : FuncData} (F : FunD K "_law_pair_so" "_law_pair_so" (defArgs (top 59)) (defBody (top 59)) (defScope (top 59)) [] [] (He.ga K "_law_pair_so") fd) (at_ : mg "_law_pair_so" = some (.ref (He.ga K "_law_pair_so"))) (B : Blt mg) (g_law_plan : FP P w K mg base "_law_plan" 7 2 sp_law_plan) (g_law_equations : FP P w K mg base "_law_equations" 3 2 sp_law_equations) (g_law_independent : FP P w K mg base "_law_independent" 2 1 sp_law_independent) (g_kin : FP P w K mg base "kin" 4 2 sp_kin) (g_law_like : FP P w K mg base "_law_like" 4 2 (sp_law_like 3)) (g_round_tables : FP P w K mg base "round_tables" 4 2 sp_round_tables) (g_law_flat : FP P w K mg base "_law_flat" 1 1 sp_law_flat) (g_law_whole : FP P w K mg base "_law_whole" 1 1 sp_law_whole) (g_law_inner : FP P w K mg base "_law_inner" 1 2 sp_law_inner) (q_kin_10_0 : FK P w K mg base "kin" 4 2 sp_kin 0 ["b", "a"] [1, 0]) : FnOk P w K mg base CX0 8 (He.ga K "_law_pair_so") fd ["labels", "net", "more"] (up K 3 sp_law_pair_so) := by
  have sc := sc_law_pair_so
  refine F.ok sc (fun _ _ _ _ h => h.1) (fun cdv A outer s H vs Q E hr h => ?_)
  exact ⟨_, PSs.nox (pss_cons (ps_par (i := 3) (j := 4) rfl sc.nd rfl rfl (by decide) rfl rfl (pa_cons (pe_f g_law_plan (Room.mono hr (by decide)) (by rfl) (pa_cons (pv 0) (pa_cons (pv 1) (pa_nil)))) (pa_cons (pe_f g_law_plan (Room.mono hr (by decide)) (by rfl) (pa_cons (pv 0) (pa_cons (pv 2) (pa_nil)))) (pa_nil))) (by rfl)) (pss_cons (ps_asg (pe_tup (pa_cons (pe_f g_law_equations (Room.mono hr (by decide)) (by rfl) (pa_cons (pv 1) (pa_cons (pv 2) (pa_nil)))) (pa_cons (pe_op op_times (pe_callB call_len (by rfl) B.len boot_len (pa_cons (pe_ix ix_seq (pv 1) (pe_int) (fun _ _ => rfl)) (pa_nil))) (pe_callB call_len (by rfl) B.len boot_len (pa_cons (pe_ix ix_seq (pv 2) (pe_int) (fun _ _ => rfl)) (pa_nil)))) (pa_nil)))) (pg_tup rfl (pgs_cons (pg_name (i := 5) sc.nd rfl (Or.inr rfl)) (pgs_cons (pg_name (i := 6) sc.nd rfl (Or.inr rfl)) (pgs_nil))))) (pss_cons (ps_set (i := 7) sc.nd rfl (Or.inl rfl) (pe_op op_sub (pv 6) (pe_f g_law_independent (Room.mono hr (by decide)) (by rfl) (pa_cons (pv 5) (pa_nil))))) (pss_cons (ps_if (pt_not (pt_val (pe_f g_law_like (Room.mono hr (by decide)) (by rfl) (pa_cons (pe_lst (pa_cons (pe_f g_kin (Room.mono hr (by decide)) (by rfl) (pa_cons (pv 3) (pa_cons (pv 4) (pa_nil)))) (pa_cons (pe_fk0 q_kin_10_0 (Room.mono hr (by decide)) (by rfl) (pk_cons (pv 3) (pk_cons (pv 4) (pk_nil))) rfl) (pa_nil)))) (pa_cons (pe_lst (pa_cons (pv 7) (pa_cons (pv 7) (pa_nil)))) (pa_nil)))))) (pss_one (ps_ret (pe_bl))) (pss_nil)) (pss_cons (ps_set (i := 8) sc.nd rfl (Or.inl rfl) (pe_f g_round_tables (Room.mono hr (by decide)) (by rfl) (pa_cons (pv 3) (pa_cons (pv 4) (pa_nil))))) (pss_cons (ps_if (PW.pt (pw_or (pt_not (pt_val (pe_callB call_isi (by rfl) B.isinstance (by decide +kernel) (pa_cons (pv 8) (pa_cons (pe_bltn (v := .ty "list") (u := .type "list") (by rfl) B.list (by decide +kernel) rfl) pa_nil))))) (pw_or (pt_cmpR (op_neE hr.units) (pe_callB call_len (by rfl) B.len boot_len (pa_cons (pv 8) (pa_nil))) (pv 7) (nomark _)) (pw_or1 (pt_not (pt_val (pe_callB (cr_all rfl) (by rfl) B.all (by decide +kernel) (pa_cons (pe_lc (own := [("x", 10)]) (g := gName 10) rfl sc.nd (pi_list (pv 8)) (blkOk_by (by kernel_rfl)) (fun _ _ _ _ _ => pg_name (i := 10) sc.nd rfl (Or.inl rfl)) (fun _ _ _ _ _ => pts_nil) (fun _ _ _ _ _ => pe_and (pe_callB call_isi (by rfl) B.isinstance (by decide +kernel) (pa_cons (pv 10) (pa_cons (pe_bltn (v := .ty "list") (u := .type "list") (by rfl) B.list (by decide +kernel) rfl) pa_nil))) (pe_one (pe_callB (cr_all rfl) (by rfl) B.all (by decide +kernel) (pa_cons (pe_lc (own := [("y", 12)]) (g := gName 12) rfl sc.nd (pi_list (pv 10)) (blkOk_by (by kernel_rfl)) (fun _ _ _ _ _ => pg_name (i := 12) sc.nd rfl (Or.inl rfl)) (fun _ _ _ _ _ => pts_nil) (fun _ _ _ _ _ => pe_callB call_isi (by rfl) B.isinstance (by decide +kernel) (pa_cons (pv 12) (pa_cons (pe_bltn (v := .ty "list") (u := .type "list") (by rfl) B.list (by decide +kernel) rfl) pa_nil)))) (pa_nil)))))) (pa_nil))))))))) (pss_one (ps_ret (pe_bl))) (pss_nil)) (pss_cons (ps_setLc (i := 9) (own := [("x", 10)]) (g := gName 10) rfl sc.nd rfl rfl (sw_true rfl rfl rfl (by decide +kernel)) (pi_list (pv 8)) (blkOk_by (by kernel_rfl)) (fun _ _ _ _ _ => pg_name (i := 10) sc.nd rfl (Or.inl rfl)) (fun _ _ _ _ _ => pts_nil) (fun _ _ _ _ _ => pe_f g_law_flat (Room.mono hr (by decide)) (by rfl) (pa_cons (pv 10) (pa_nil)))) (pss_cons (ps_if (pt_not (pt_val (pe_callB (cr_all rfl) (by rfl) B.all (by decide +kernel) (pa_cons (pe_lc (own := [("x", 10)]) (g := gName 10) rfl sc.nd (pi_list (pv 9)) (blkOk_by (by kernel_rfl)) (fun _ _ _ _ _ => pg_name (i := 10) sc.nd rfl (Or.inl rfl)) (fun _ _ _ _ _ => pts_nil) (fun _ _ _ _ _ => pe_and (pe_cmpR (op_eqE hr.units) (pe_callB call_len (by rfl) B.len boot_len (pa_cons (pv 10) (pa_nil))) (pv 6) (nomark _)) (pe_one (pe_callB (cr_all rfl) (by rfl) B.all (by decide +kernel) (pa_cons (pe_lc (own := [("y", 12)]) (g := gName 12) rfl sc.nd (pi_list (pv 10)) (blkOk_by (by kernel_rfl)) (fun _ _ _ _ _ => pg_name (i := 12) sc.nd rfl (Or.inl rfl)) (fun _ _ _ _ _ => pts_nil) (fun _ _ _ _ _ => pe_f g_law_whole (Room.mono hr (by decide)) (by rfl) (pa_cons (pv 12) (pa_nil)))) (pa_nil)))))) (pa_nil))))) (pss_one (ps_ret (pe_bl))) (pss_nil)) (pss_cons (ps_if (pt_not (pt_val (pe_callB (cr_all rfl) (by rfl) B.all (by decide +kernel) (pa_cons (pe_lc (own := [("x", 10)]) (g := gName 10) rfl sc.nd (pi_list (pv 9)) (blkOk_by (by kernel_rfl)) (fun _ _ _ _ _ => pg_name (i := 10) sc.nd rfl (Or.inr rfl)) (fun _ _ _ _ _ => pts_nil) (fun _ _ _ _ _ => pe_callB (cr_all rfl) (by rfl) B.all (by decide +kernel) (pa_cons (pe_lc (own := [("row", 11)]) (g := gName 11) rfl sc.nd (pi_list (pv 5)) (blkOk_by (by kernel_rfl)) (fun _ _ _ _ _ => pg_name (i := 11) sc.nd rfl (Or.inl rfl)) (fun _ _ _ _ _ => pts_nil) (fun _ _ _ _ _ => pe_cmpR (op_eqE hr.units) (pe_f g_law_inner (Room.mono hr (by decide)) (by rfl) (pa_cons (pv 10) (pa_cons (pv 11) (pa_nil)))) (pe_int) (nomark _))) (pa_nil)))) (pa_nil))))) (pss_one (ps_ret (pe_bl))) (pss_nil)) (pss_one (ps_ret (pe_cmpR (op_eqE hr.units) (pe_f g_law_independent (Room.mono hr (by decide)) (by rfl) (pa_cons (pv 9) (pa_nil))) (pv 7) (nomark _))))))))))))),
    body_ok (SndSP.mono (bs := [3, 4, 5, 6, 7, 8, 9]) (sndp_seq ((snds_par2 false false (snda_cons (snd_call (ms := [false, false]) rfl (snda_cons (snd_var) (snda_cons (snd_var) (snda_nil)))) (snda_cons (snd_call (ms := [false, false]) rfl (snda_cons (snd_var) (snda_cons (snd_var) (snda_nil)))) (snda_nil)))).p) (sndp_seq ((snds_asg (snd_tup (snda_cons (snd_call (ms := [false, false]) rfl (snda_cons (snd_var) (snda_cons (snd_var) (snda_nil)))) (snda_cons (snd_op snd_times (snd_cb snd_len (snda_cons (snd_op snd_ix (snd_var) (snd_int)) (snda_nil))) (snd_cb snd_len (snda_cons (snd_op snd_ix (snd_var) (snd_int)) (snda_nil)))) (snda_nil)))) (sndg_tup (n := 2) (sndgs_cons (sndg_name) (sndgs_cons (sndg_name) (sndgs_nil))))).p) (sndp_seq ((snds_set (snd_op snd_minus (snd_var) (snd_call (ms := [false]) rfl (snda_cons (snd_var) (snda_nil))))).p) (sndp_seq (sndp_if (sndt_not (sndt_val (snd_call (ms := [true, true]) rfl (snda_cons (snd_lst (snda_cons (snd_call (ms := [false, false]) rfl (snda_cons (snd_var) (snda_cons (snd_var) (snda_nil)))) (snda_cons (snd_callP (ms := [false, false]) (np := 0) (nk := 2) (is := [1, 0]) rfl (by decide) (by decide) (snda_nil) (snda_cons (snd_var) (snda_cons (snd_var) (snda_nil)))) (snda_nil)))) (snda_cons (snd_lst (snda_cons (snd_var) (snda_cons (snd_var) (snda_nil)))) (snda_nil)))))) (snds_ret (ps := []) (snd_bl)) (snds_next.p)) (sndp_seq ((snds_set (snd_call (ms := [false, false]) rfl (snda_cons (snd_var) (snda_cons (snd_var) (snda_nil))))).p) (sndp_seq (sndp_if (sndt_or (sndt_not (sndt_val (snd_isi .list rfl (snd_var)))) (sndt_or (sndt_test (snd_op snd_ne (snd_cb snd_len (snda_cons (snd_var) (snda_nil))) (snd_var))) (sndt_not (sndt_val (snd_cb snd_all (snda_cons (snd_comp (vs := [10]) (sndi_list (snd_var)) (sndg_name) (sndt_yes) (snd_andV (snd_isi .list rfl (snd_var)) (snd_cb snd_all (snda_cons (snd_comp (vs := [12]) (sndi_list (snd_var)) (sndg_name) (sndt_yes) (snd_isi .list rfl (snd_var)) (by decide)) (snda_nil)))) (by decide)) (snda_nil))))))) (snds_ret (ps := []) (snd_bl)) (snds_next.p)) (sndp_seq ((snds_set (snd_comp (vs := [10]) (sndi_list (snd_var)) (sndg_name) (sndt_yes) (snd_call (ms := [false]) rfl (snda_cons (snd_var) (snda_nil))) (by decide))).p) (sndp_seq (sndp_if (sndt_not (sndt_val (snd_cb snd_all (snda_cons (snd_comp (vs := [10]) (sndi_list (snd_var)) (sndg_name) (sndt_yes) (snd_andV (snd_op snd_eq (snd_cb snd_len (snda_cons (snd_var) (snda_nil))) (snd_var)) (snd_cb snd_all (snda_cons (snd_comp (vs := [12]) (sndi_list (snd_var)) (sndg_name) (sndt_yes) (snd_call (ms := [false]) rfl (snda_cons (snd_var) (snda_nil))) (by decide)) (snda_nil)))) (by decide)) (snda_nil))))) (snds_ret (ps := []) (snd_bl)) (snds_next.p)) (sndp_seq (sndp_if (sndt_not (sndt_val (snd_cb snd_all (snda_cons (snd_comp (vs := [10]) (sndi_list (snd_var)) (sndg_name) (sndt_yes) (snd_cb snd_all (snda_cons (snd_comp (vs := [11]) (sndi_list (snd_var)) (sndg_name) (sndt_yes) (snd_op snd_eq (snd_call (ms := [false, false]) rfl (snda_cons (snd_var) (snda_cons (snd_var) (snda_nil)))) (snd_int)) (by decide)) (snda_nil))) (by decide)) (snda_nil))))) (snds_ret (ps := []) (snd_bl)) (snds_next.p)) (snds_ret (ps := []) (snd_op snd_eq (snd_call (ms := [false]) rfl (snda_cons (snd_var) (snda_nil))) (snd_var)))))))))))) (by decide)) pf_law_pair_so vs H Q E h⟩
theorem ok_law_pair_so (F : ∃ fd, FunD K "_law_pair_so" "_law_pair_so" (defArgs (top 59)) (defBody (top 59)) (defScope (top 59)) [] [] (He.ga K "_law_pair_so") fd) (at_ : mg "_law_pair_so" = some (.ref (He.ga K "_law_pair_so"))) (B : Blt mg) (g_law_plan : FP P w K mg base "_law_plan" 7 2 sp_law_plan) (g_law_equations : FP P w K mg base "_law_equations" 3 2 sp_law_equations) (g_law_independent : FP P w K mg base "_law_independent" 2 1 sp_law_independent) (g_kin : FP P w K mg base "kin" 4 2 sp_kin) (g_law_like : FP P w K mg base "_law_like" 4 2 (sp_law_like 3)) (g_round_tables : FP P w K mg base "round_tables" 4 2 sp_round_tables) (g_law_flat : FP P w K mg base "_law_flat" 1 1 sp_law_flat) (g_law_whole : FP P w K mg base "_law_whole" 1 1 sp_law_whole) (g_law_inner : FP P w K mg base "_law_inner" 1 2 sp_law_inner) (q_kin_10_0 : FK P w K mg base "kin" 4 2 sp_kin 0 ["b", "a"] [1, 0]) : FP P w K mg base "_law_pair_so" 8 3 sp_law_pair_so := by
  obtain ⟨fd, F⟩ := F
  exact ⟨⟨fd, ["labels", "net", "more"], okn_law_pair_so F at_ B g_law_plan g_law_equations g_law_independent g_kin g_law_like g_round_tables g_law_flat g_law_whole g_law_inner q_kin_10_0, F.bindsN fun _ _ _ _ _ _ us hl => match us, hl with | [_, _, _], _ => rfl⟩, F.kp, at_⟩
theorem sc_law : FnScope ["script", "bag", "lap", "labels", "sizes", "net", "pick", "more"] ["script"] (defScope (top 60)) := ⟨rfl, rfl, rfl, by decide +kernel, rfl, by decide +kernel, by decide +kernel⟩
theorem okn_law {fd : FuncData} (F : FunD K "law" "law" (defArgs (top 60)) (defBody (top 60)) (defScope (top 60)) [] [] (He.ga K "law") fd) (at_ : mg "law" = some (.ref (He.ga K "law"))) (B : Blt mg) (g_law_bag : FP P w K mg base "_law_bag" 1 2 sp_law_bag) (g_law_of : FP P w K mg base "_law_of" 2 2 sp_law_of) (g_law_labels : FP P w K mg base "_law_labels" 3 2 sp_law_labels) (g_law_net : FP P w K mg base "_law_net" 3 3 sp_law_net) (g_law_draw : FP P w K mg base "_law_draw" 1 2 sp_law_draw) (g_law_disguise : FP P w K mg base "_law_disguise" 3 2 sp_law_disguise) (g_law_cover : FP P w K mg base "_law_cover" 1 1 sp_law_cover) (g_law_pair_so : FP P w K mg base "_law_pair_so" 8 3 sp_law_pair_so) : FnOk P w K mg base CX0 9 (He.ga K "law") fd ["script"] (up K 1 sp_law) := by
  have sc := sc_law
  refine F.ok sc (fun _ _ _ _ h => h.1) (fun cdv A outer s H vs Q E hr h => ?_)
  exact ⟨_, PSs.nox (pss_cons (ps_set (i := 1) sc.nd rfl (Or.inl rfl) (pe_f g_law_bag (Room.mono hr (by decide)) (by rfl) (pa_cons (pv 0) (pa_cons (pe_int) (pa_nil))))) (pss_cons (ps_for PassesOwn.never rfl (pi_range1 (by rfl) B.range (pa_cons (pe_int) pa_nil)) (pg_name (i := 2) sc.nd rfl (Or.inl rfl)) (pss_cons (ps_set (i := 3) sc.nd rfl (Or.inl rfl) (pe_f g_law_labels (Room.mono hr (by decide)) (by rfl) (pa_cons (pv 1) (pa_cons (pe_f g_law_of (Room.mono hr (by decide)) (by rfl) (pa_cons (pv 1) (pa_cons (pe_lst (pa_cons (pe_int) (pa_cons (pe_int) (pa_cons (pe_int) (pa_cons (pe_int) (pa_cons (pe_int) (pa_nil))))))) (pa_nil)))) (pa_nil))))) (pss_cons (ps_set (i := 4) sc.nd rfl (Or.inl rfl) (pe_f g_law_of (Room.mono hr (by decide)) (by rfl) (pa_cons (pv 1) (pa_cons (pe_lst (pa_cons (pe_lst (pa_cons (pe_int) (pa_cons (pe_int) (pa_nil)))) (pa_cons (pe_lst (pa_cons (pe_int) (pa_cons (pe_int) (pa_nil)))) (pa_cons (pe_lst (pa_cons (pe_int) (pa_cons (pe_int) (pa_nil)))) (pa_cons (pe_lst (pa_cons (pe_int) (pa_cons (pe_int) (pa_nil)))) (pa_cons (pe_lst (pa_cons (pe_int) (pa_cons (pe_int) (pa_nil)))) (pa_cons (pe_lst (pa_cons (pe_int) (pa_cons (pe_int) (pa_nil)))) (pa_cons (pe_lst (pa_cons (pe_int) (pa_cons (pe_int) (pa_nil)))) (pa_cons (pe_lst (pa_cons (pe_int) (pa_cons (pe_int) (pa_nil)))) (pa_nil)))))))))) (pa_nil))))) (pss_cons (ps_set (i := 5) sc.nd rfl (Or.inl rfl) (pe_f g_law_net (Room.mono hr (by decide)) (by rfl) (pa_cons (pv 1) (pa_cons (pe_callB call_len (by rfl) B.len boot_len (pa_cons (pv 3) (pa_nil))) (pa_cons (pe_ix ix_seq (pv 4) (pe_int) (fun _ _ => rfl)) (pa_nil)))))) (pss_cons (ps_set (i := 6) sc.nd rfl (Or.inl rfl) (pe_f g_law_draw (Room.mono hr (by decide)) (by rfl) (pa_cons (pv 1) (pa_cons (pe_int) (pa_nil))))) (pss_cons (ps_set (i := 7) sc.nd rfl (Or.inl rfl) (pe_ifExp (pt_cmpR (op_eqE hr.units) (pv 6) (pe_int) (nomark _)) (pe_f g_law_disguise (Room.mono hr (by decide)) (by rfl) (pa_cons (pv 1) (pa_cons (pv 5) (pa_nil)))) (pe_f g_law_net (Room.mono hr (by decide)) (by rfl) (pa_cons (pv 1) (pa_cons (pe_callB call_len (by rfl) B.len boot_len (pa_cons (pv 3) (pa_nil))) (pa_cons (pe_ix ix_seq (pv 4) (pe_int) (fun _ _ => rfl)) (pa_nil))))))) (pss_cons (ps_if (PW.pt (pw_and (pt_cmpR (op_eqE hr.units) (pv 6) (pe_int) (nomark _)) (pw_and1 (pt_cmpR op_lt (pe_ix ix_seq (pv 4) (pe_int) (fun _ _ => rfl)) (pe_int) (nomark _))))) (pss_one (ps_set (i := 7) sc.nd rfl (Or.inl rfl) (pe_f g_law_cover (Room.mono hr (by decide)) (by rfl) (pa_cons (pv 5) (pa_nil))))) (pss_nil)) (pss_one (ps_if (pt_not (pt_val (pe_f g_law_pair_so (Room.mono hr (by decide)) (by rfl) (pa_cons (pv 3) (pa_cons (pv 5) (pa_cons (pv 7) (pa_nil))))))) (pss_one (ps_ret (pe_bl))) (pss_nil)))))))))) (pss_one (ps_ret (pe_bl))))),
    body_ok (SndSP.mono (bs := [1, 2, 3, 4, 5, 6, 7]) (sndp_seq ((snds_setO (snd_call (ms := [false, false]) rfl (snda_cons (snd_var) (snda_cons (snd_int) (snda_nil))))).p) (sndp_seq (sndp_for (as := [2, 3, 4, 5, 6, 7]) (sndi_rng1 (snd_int)) (sndg_name) (sndp_seq ((snds_set (snd_call (ms := [true, false]) rfl (snda_cons (snd_var) (snda_cons (snd_call (ms := [true, true]) rfl (snda_cons (snd_var) (snda_cons (snd_lst (snda_cons (snd_int) (snda_cons (snd_int) (snda_cons (snd_int) (snda_cons (snd_int) (snda_cons (snd_int) (snda_nil))))))) (snda_nil)))) (snda_nil))))).p) (sndp_seq ((snds_set (snd_call (ms := [true, true]) rfl (snda_cons (snd_var) (snda_cons (snd_lst (snda_cons (snd_lst (snda_cons (snd_int) (snda_cons (snd_int) (snda_nil)))) (snda_cons (snd_lst (snda_cons (snd_int) (snda_cons (snd_int) (snda_nil)))) (snda_cons (snd_lst (snda_cons (snd_int) (snda_cons (snd_int) (snda_nil)))) (snda_cons (snd_lst (snda_cons (snd_int) (snda_cons (snd_int) (snda_nil)))) (snda_cons (snd_lst (snda_cons (snd_int) (snda_cons (snd_int) (snda_nil)))) (snda_cons (snd_lst (snda_cons (snd_int) (snda_cons (snd_int) (snda_nil)))) (snda_cons (snd_lst (snda_cons (snd_int) (snda_cons (snd_int) (snda_nil)))) (snda_cons (snd_lst (snda_cons (snd_int) (snda_cons (snd_int) (snda_nil)))) (snda_nil)))))))))) (snda_nil))))).p) (sndp_seq ((snds_set (snd_call (ms := [true, false, false]) rfl (snda_cons (snd_var) (snda_cons (snd_cb snd_len (snda_cons (snd_var) (snda_nil))) (snda_cons (snd_op snd_ix (snd_var) (snd_int)) (snda_nil)))))).p) (sndp_seq ((snds_set (snd_call (ms := [true, false]) rfl (snda_cons (snd_var) (snda_cons (snd_int) (snda_nil))))).p) (sndp_seq ((snds_set (snd_if (sndt_test (snd_op snd_eq (snd_var) (snd_int))) (snd_call (ms := [true, false]) rfl (snda_cons (snd_var) (snda_cons (snd_var) (snda_nil)))) (snd_call (ms := [true, false, false]) rfl (snda_cons (snd_var) (snda_cons (snd_cb snd_len (snda_cons (snd_var) (snda_nil))) (snda_cons (snd_op snd_ix (snd_var) (snd_int)) (snda_nil))))))).p) (sndp_seq (sndp_if (sndt_and (sndt_test (snd_op snd_eq (snd_var) (snd_int))) (sndt_test (snd_op (snd_icmp (p := fun i j => decide (i < j))) (snd_op snd_ix (snd_var) (snd_int)) (snd_int)))) ((snds_set (snd_call (ms := [false]) rfl (snda_cons (snd_var) (snda_nil)))).p) (snds_next.p)) (sndp_if (sndt_not (sndt_val (snd_call (ms := [false, false, false]) rfl (snda_cons (snd_var) (snda_cons (snd_var) (snda_cons (snd_var) (snda_nil))))))) (snds_ret (ps := []) (snd_bl)) (snds_next.p)))))))) (by decide)) (snds_ret (ps := []) (snd_bl)))) (by decide)) pf_law vs H Q E h⟩
end
end L3
namespace L3
open PySem PySem.Spec PyProof.Rows L2
theorem facts {P : Program} {w : World} {K : PySem.W.Frag} {h : Heap} {mg : Str → Option Value} {f : Addr} (X : K.In h) (G : h.Ns mainGlobals mg) (hfa : mg ("law" : Str) = some (.ref f)) (c : He.SaysD fas fns K) (cx : exs K = true) :
    ∃ fd : FuncData, (∀ (s : Shared) (v : Value), BindsTo s fd ⟨[v], []⟩ [("script", v)]) ∧ ∀ base : Heap, K.In base → base.Ns mainGlobals mg → FnOk P w K mg base CX0 9 f fd ["script"] (up K 1 sp_law) := by
  obtain ⟨fd, F⟩ := c.def_ 37 (d := dd_law) rfl
  have at_law := He.glo_ok X G (c.fact 66 (f := .glo "law") rfl)
  have e := hfa.symm.trans at_law
  cases e
  refine ⟨fd, fun s v => FunD.bindsA (ps := ["script"]) F (fun _ _ _ _ _ _ us hl => match us, hl with | [_], _ => rfl) s [v] rfl, fun base _ _ => ?_⟩
  have B : Blt mg := ⟨He.free_ok X G (c.fact 0 (f := .free "len") rfl), He.free_ok X G (c.fact 1 (f := .free "range") rfl), He.free_ok X G (c.fact 2 (f := .free "isinstance") rfl), He.free_ok X G (c.fact 3 (f := .free "int") rfl), He.free_ok X G (c.fact 4 (f := .free "bool") rfl), He.free_ok X G (c.fact 5 (f := .free "str") rfl), He.free_ok X G (c.fact 6 (f := .free "list") rfl), He.free_ok X G (c.fact 7 (f := .free "tuple") rfl), He.free_ok X G (c.fact 8 (f := .free "dict") rfl), He.free_ok X G (c.fact 9 (f := .free "all") rfl), He.free_ok X G (c.fact 10 (f := .free "any") rfl), He.free_ok X G (c.fact 11 (f := .free "sum") rfl), He.free_ok X G (c.fact 12 (f := .free "enumerate") rfl), He.free_ok X G (c.fact 13 (f := .free "zip") rfl), He.free_ok X G (c.fact 14 (f := .free "max") rfl), He.free_ok X G (c.fact 15 (f := .free "min") rfl), He.free_ok X G (c.fact 16 (f := .free "abs") rfl), He.free_ok X G (c.fact 17 (f := .free "sorted") rfl), He.free_ok X G (c.fact 18 (f := .free "reversed") rfl), He.free_ok X G (c.fact 19 (f := .free "set") rfl), He.free_ok X G (c.fact 20 (f := .free "repr") rfl), He.free_ok X G (c.fact 21 (f := .free "divmod") rfl)⟩
  have cl_Plan : Cls K (He.ga K "Plan") := He.cls_ok (c.fact 22 (f := .cls "Plan") rfl)
  have at_Plan : mg "Plan" = some (.ref (He.ga K "Plan")) := He.glo_ok X G (c.fact 23 (f := .glo "Plan") rfl)
  have kf_Plan : ClsF K "Plan" flds_Plan := ⟨cl_Plan, fun f hf => by
    simp only [flds_Plan, List.mem_cons, List.not_mem_nil, or_false] at hf
    rcases hf with rfl | rfl | rfl
    · exact He.noat_ok (c.fact 24 (f := .noat "Plan" "sides") rfl)
    · exact He.noat_ok (c.fact 25 (f := .noat "Plan" "copies") rfl)
    · exact He.noat_ok (c.fact 26 (f := .noat "Plan" "_steps") rfl)⟩
  have c_LONGEST_NAME := He.int_ok X G (c.fact 27 (f := .int "LONGEST_NAME" (3)) rfl)
  have c_LETTERS := He.str_ok X G (c.fact 28 (f := .str "LETTERS" "abcdefghijklmnopqrstuvwxyz") rfl)
  have F_law_bag := c.def_ 0 (d := dd_law_bag) rfl
  have at_law_bag : mg "_law_bag" = some (.ref (He.ga K "_law_bag")) := He.glo_ok X G (c.fact 29 (f := .glo "_law_bag") rfl)
  have h_law_bag := ok_law_bag (P := P) (w := w) (base := base) F_law_bag at_law_bag B 
  have F_law_draw := c.def_ 1 (d := dd_law_draw) rfl
  have at_law_draw : mg "_law_draw" = some (.ref (He.ga K "_law_draw")) := He.glo_ok X G (c.fact 30 (f := .glo "_law_draw") rfl)
  have h_law_draw := ok_law_draw (P := P) (w := w) (base := base) F_law_draw at_law_draw B 
  have F_law_of := c.def_ 2 (d := dd_law_of) rfl
  have at_law_of : mg "_law_of" = some (.ref (He.ga K "_law_of")) := He.glo_ok X G (c.fact 31 (f := .glo "_law_of") rfl)
  have h_law_of := ok_law_of (P := P) (w := w) (base := base) F_law_of at_law_of B h_law_draw
  have F_law_labels := c.def_ 3 (d := dd_law_labels) rfl
  have at_law_labels : mg "_law_labels" = some (.ref (He.ga K "_law_labels")) := He.glo_ok X G (c.fact 32 (f := .glo "_law_labels") rfl)
  have h_law_labels := ok_law_labels (P := P) (w := w) (base := base) F_law_labels at_law_labels B h_law_draw h_law_of
  have F_law_step_row := c.def_ 4 (d := dd_law_step_row) rfl
  have at_law_step_row : mg "_law_step_row" = some (.ref (He.ga K "_law_step_row")) := He.glo_ok X G (c.fact 33 (f := .glo "_law_step_row") rfl)
  have h_law_step_row := ok_law_step_row (P := P) (w := w) (base := base) F_law_step_row at_law_step_row B h_law_draw
  have F_law_net := c.def_ 5 (d := dd_law_net) rfl
  have at_law_net : mg "_law_net" = some (.ref (He.ga K "_law_net")) := He.glo_ok X G (c.fact 34 (f := .glo "_law_net") rfl)
  have h_law_net := ok_law_net (P := P) (w := w) (base := base) F_law_net at_law_net B h_law_of h_law_step_row
  have F_law_order := c.def_ 6 (d := dd_law_order) rfl
  have at_law_order : mg "_law_order" = some (.ref (He.ga K "_law_order")) := He.glo_ok X G (c.fact 35 (f := .glo "_law_order") rfl)
  have h_law_order := ok_law_order (P := P) (w := w) (base := base) F_law_order at_law_order B h_law_draw
  have F_law_turned_net := c.def_ 7 (d := dd_law_turned_net) rfl
  have at_law_turned_net : mg "_law_turned_net" = some (.ref (He.ga K "_law_turned_net")) := He.glo_ok X G (c.fact 36 (f := .glo "_law_turned_net") rfl)
  have h_law_turned_net := ok_law_turned_net (P := P) (w := w) (base := base) F_law_turned_net at_law_turned_net B 
  have F_law_named_net := c.def_ 8 (d := dd_law_named_net) rfl
  have at_law_named_net : mg "_law_named_net" = some (.ref (He.ga K "_law_named_net")) := He.glo_ok X G (c.fact 37 (f := .glo "_law_named_net") rfl)
  have h_law_named_net := ok_law_named_net (P := P) (w := w) (base := base) F_law_named_net at_law_named_net B 
  have F_law_disguise := c.def_ 9 (d := dd_law_disguise) rfl
  have at_law_disguise : mg "_law_disguise" = some (.ref (He.ga K "_law_disguise")) := He.glo_ok X G (c.fact 38 (f := .glo "_law_disguise") rfl)
  have h_law_disguise := ok_law_disguise (P := P) (w := w) (base := base) F_law_disguise at_law_disguise B h_law_order h_law_of h_law_named_net h_law_turned_net
  have F_law_cover := c.def_ 10 (d := dd_law_cover) rfl
  have at_law_cover : mg "_law_cover" = some (.ref (He.ga K "_law_cover")) := He.glo_ok X G (c.fact 39 (f := .glo "_law_cover") rfl)
  have h_law_cover := ok_law_cover (P := P) (w := w) (base := base) F_law_cover at_law_cover B 
  have F_Plan_step := c.def_ 11 (d := dd_Plan_step) rfl
  have h_Plan_step := ok_Plan_step (P := P) (w := w) (base := base) F_Plan_step (He.meth_ok (c.fact 40 (f := .meth "Plan" "step") rfl)) cl_Plan B kf_Plan
  have F_step_row := c.def_ 12 (d := dd_step_row) rfl
  have at_step_row : mg "step_row" = some (.ref (He.ga K "step_row")) := He.glo_ok X G (c.fact 41 (f := .glo "step_row") rfl)
  have h_step_row := ok_step_row (P := P) (w := w) (base := base) F_step_row at_step_row B h_Plan_step kf_Plan
  have F_through := c.def_ 13 (d := dd_through) rfl
  have at_through : mg "through" = some (.ref (He.ga K "through")) := He.glo_ok X G (c.fact 42 (f := .glo "through") rfl)
  have h_through := ok_through (P := P) (w := w) (base := base) F_through at_through B 
  have F_crossed := c.def_ 14 (d := dd_crossed) rfl
  have at_crossed : mg "crossed" = some (.ref (He.ga K "crossed")) := He.glo_ok X G (c.fact 43 (f := .glo "crossed") rfl)
  have h_crossed := ok_crossed (P := P) (w := w) (base := base) F_crossed at_crossed B h_step_row h_through kf_Plan
  have F_round_tables := c.def_ 15 (d := dd_round_tables) rfl
  have at_round_tables : mg "round_tables" = some (.ref (He.ga K "round_tables")) := He.glo_ok X G (c.fact 44 (f := .glo "round_tables") rfl)
  have h_round_tables := ok_round_tables (P := P) (w := w) (base := base) F_round_tables at_round_tables B h_crossed kf_Plan
  have F_has_step_rows := c.def_ 16 (d := dd_has_step_rows) rfl
  have at_has_step_rows : mg "has_step_rows" = some (.ref (He.ga K "has_step_rows")) := He.glo_ok X G (c.fact 45 (f := .glo "has_step_rows") rfl)
  have h_has_step_rows := ok_has_step_rows (P := P) (w := w) (base := base) F_has_step_rows at_has_step_rows B 
  have F_is_number := c.def_ 17 (d := dd_is_number) rfl
  have at_is_number : mg "is_number" = some (.ref (He.ga K "is_number")) := He.glo_ok X G (c.fact 46 (f := .glo "is_number") rfl)
  have h_is_number := ok_is_number (P := P) (w := w) (base := base) F_is_number at_is_number B 
  have F_is_index := c.def_ 18 (d := dd_is_index) rfl
  have at_is_index : mg "is_index" = some (.ref (He.ga K "is_index")) := He.glo_ok X G (c.fact 47 (f := .glo "is_index") rfl)
  have h_is_index := ok_is_index (P := P) (w := w) (base := base) F_is_index at_is_index B h_is_number
  have F_is_sign := c.def_ 19 (d := dd_is_sign) rfl
  have at_is_sign : mg "is_sign" = some (.ref (He.ga K "is_sign")) := He.glo_ok X G (c.fact 48 (f := .glo "is_sign") rfl)
  have h_is_sign := ok_is_sign (P := P) (w := w) (base := base) F_is_sign at_is_sign B h_is_number
  have F_is_step := c.def_ 20 (d := dd_is_step) rfl
  have at_is_step : mg "is_step" = some (.ref (He.ga K "is_step")) := He.glo_ok X G (c.fact 49 (f := .glo "is_step") rfl)
  have h_is_step := ok_is_step (P := P) (w := w) (base := base) F_is_step at_is_step B h_is_index h_is_sign
  have F_wrong_step := c.def_ 21 (d := dd_wrong_step) rfl
  have at_wrong_step : mg "wrong_step" = some (.ref (He.ga K "wrong_step")) := He.glo_ok X G (c.fact 50 (f := .glo "wrong_step") rfl)
  have h_wrong_step := ok_wrong_step (P := P) (w := w) (base := base) F_wrong_step at_wrong_step B h_has_step_rows h_is_step
  have F_is_side_name := c.def_ 22 (d := dd_is_side_name) rfl
  have at_is_side_name : mg "is_side_name" = some (.ref (He.ga K "is_side_name")) := He.glo_ok X G (c.fact 51 (f := .glo "is_side_name") rfl)
  have h_is_side_name := ok_is_side_name (P := P) (w := w) (base := base) F_is_side_name at_is_side_name B c_LONGEST_NAME c_LETTERS
  have F_is_sides := c.def_ 23 (d := dd_is_sides) rfl
  have at_is_sides : mg "is_sides" = some (.ref (He.ga K "is_sides")) := He.glo_ok X G (c.fact 52 (f := .glo "is_sides") rfl)
  have h_is_sides := ok_is_sides (P := P) (w := w) (base := base) F_is_sides at_is_sides B h_is_side_name
  have F_Plan_init__ := c.def_ 24 (d := dd_Plan_init__) rfl
  have h_Plan_init__ := ok_Plan_init__ (P := P) (w := w) (base := base) F_Plan_init__ (He.mkr_ok (c.fact 53 (f := .mkr "Plan") rfl)) at_Plan B h_is_sides h_wrong_step kf_Plan
  have F_law_plan := c.def_ 25 (d := dd_law_plan) rfl
  have at_law_plan : mg "_law_plan" = some (.ref (He.ga K "_law_plan")) := He.glo_ok X G (c.fact 54 (f := .glo "_law_plan") rfl)
  have h_law_plan := ok_law_plan (P := P) (w := w) (base := base) F_law_plan at_law_plan B h_Plan_init__
  have F_law_led := c.def_ 26 (d := dd_law_led) rfl
  have at_law_led : mg "_law_led" = some (.ref (He.ga K "_law_led")) := He.glo_ok X G (c.fact 55 (f := .glo "_law_led") rfl)
  have h_law_led := ok_law_led (P := P) (w := w) (base := base) F_law_led at_law_led B 
  have F_law_table := c.def_ 27 (d := dd_law_table) rfl
  have at_law_table : mg "_law_table" = some (.ref (He.ga K "_law_table")) := He.glo_ok X G (c.fact 56 (f := .glo "_law_table") rfl)
  have h_law_table := ok_law_table (P := P) (w := w) (base := base) F_law_table at_law_table B h_law_led
  have F_law_equations := c.def_ 28 (d := dd_law_equations) rfl
  have at_law_equations : mg "_law_equations" = some (.ref (He.ga K "_law_equations")) := He.glo_ok X G (c.fact 57 (f := .glo "_law_equations") rfl)
  have h_law_equations := ok_law_equations (P := P) (w := w) (base := base) F_law_equations at_law_equations B h_law_table
  have F_law_divisor := c.def_ 29 (d := dd_law_divisor) rfl
  have at_law_divisor : mg "_law_divisor" = some (.ref (He.ga K "_law_divisor")) := He.glo_ok X G (c.fact 58 (f := .glo "_law_divisor") rfl)
  have h_law_divisor := ok_law_divisor (P := P) (w := w) (base := base) F_law_divisor at_law_divisor B 
  have F_law_independent := c.def_ 30 (d := dd_law_independent) rfl
  have at_law_independent : mg "_law_independent" = some (.ref (He.ga K "_law_independent")) := He.glo_ok X G (c.fact 59 (f := .glo "_law_independent") rfl)
  have h_law_independent := ok_law_independent (P := P) (w := w) (base := base) F_law_independent at_law_independent B h_law_divisor
  have F_law_like := c.def_ 31 (d := dd_law_like) rfl
  have at_law_like : mg "_law_like" = some (.ref (He.ga K "_law_like")) := He.glo_ok X G (c.fact 60 (f := .glo "_law_like") rfl)
  have h_law_like := ok_law_like (P := P) (w := w) (base := base) F_law_like at_law_like B  3
  have hh_law_like := okh_law_like (P := P) (w := w) (base := base) F_law_like at_law_like B  3
  have F_law_flat := c.def_ 32 (d := dd_law_flat) rfl
  have at_law_flat : mg "_law_flat" = some (.ref (He.ga K "_law_flat")) := He.glo_ok X G (c.fact 61 (f := .glo "_law_flat") rfl)
  have h_law_flat := ok_law_flat (P := P) (w := w) (base := base) F_law_flat at_law_flat B 
  have F_kin := c.def_ 33 (d := dd_kin) rfl
  have at_kin : mg "kin" = some (.ref (He.ga K "kin")) := He.glo_ok X G (c.fact 62 (f := .glo "kin") rfl)
  have h_kin := ok_kin (P := P) (w := w) (base := base) F_kin at_kin B h_crossed
  have hk_kin_10_0 := okk_kin_10_0 (P := P) (w := w) (base := base) F_kin at_kin B h_crossed
  have F_law_whole := c.def_ 34 (d := dd_law_whole) rfl
  have at_law_whole : mg "_law_whole" = some (.ref (He.ga K "_law_whole")) := He.glo_ok X G (c.fact 63 (f := .glo "_law_whole") rfl)
  have h_law_whole := ok_law_whole (P := P) (w := w) (base := base) F_law_whole at_law_whole B 
  have F_law_inner := c.def_ 35 (d := dd_law_inner) rfl
  have at_law_inner : mg "_law_inner" = some (.ref (He.ga K "_law_inner")) := He.glo_ok X G (c.fact 64 (f := .glo "_law_inner") rfl)
  have h_law_inner := ok_law_inner (P := P) (w := w) (base := base) F_law_inner at_law_inner B 
  have F_law_pair_so := c.def_ 36 (d := dd_law_pair_so) rfl
  have at_law_pair_so : mg "_law_pair_so" = some (.ref (He.ga K "_law_pair_so")) := He.glo_ok X G (c.fact 65 (f := .glo "_law_pair_so") rfl)
  have h_law_pair_so := ok_law_pair_so (P := P) (w := w) (base := base) F_law_pair_so at_law_pair_so B h_law_plan h_law_equations h_law_independent h_kin h_law_like h_round_tables h_law_flat h_law_whole h_law_inner hk_kin_10_0
  exact okn_law F at_law B h_law_bag h_law_of h_law_labels h_law_net h_law_draw h_law_disguise h_law_cover h_law_pair_so
theorem law_start {K : PySem.W.Frag} {H : Hp} {a : Addr} {ns : List Int} (hS : SqL K H a (ns.map V.int)) (hl : ns.length ≤ 63) : up K 1 sp_law [.ref a] H (fun v _ => v = .bl true) fun _ _ _ => False := by
  refine ⟨rfl, H, [.va (.frz (ns.map D.int))], fun r _ => r = .va (.bl true), ⟨rfl, .refl, fun i d e => ?_, fun i c e => ?_, fun i j l c c' e => ?_⟩, ⟨ns, rfl, hl, rfl⟩, fun r δ' v H' G' _ _ _ rr _ q => ?_⟩
  · cases i with
    | zero =>
      cases e
      exact ⟨_, rfl, .frz hS (atl_ints ns)⟩
    | succ i => simp at e
  · cases i with
    | zero => cases e
    | succ i => simp at e
  · cases i with
    | zero => cases e
    | succ i => simp at e
  · subst q
    exact rr_bl rr
end L3
open PySem PySem.W PySem.Calls PyProof.Rows
theorem PySem.Challenge.cw_sametones_k18_whole_kin_beside_eliminati_holds : PySem.Challenge.rw_sametones_k18_whole_kin_beside_eliminati.Holds := by
  refine L3.of_open fun said => ?_
  refine HandSHeadRun.head_any (r := L3.RO) (q := view L3.RO.prog [60]) (H := L3.hook) (ob := L3.look) (M := 40000) (loose := L3.looseN) (d := HandSHeadRun.topDef L3.RO.prog 60) (kwd := []) L3.look_eq
    (by kernel_rfl) (fun s => by kernel_rfl) L3.runs (by kernel_rfl) (by kernel_rfl) (by kernel_rfl) (by rfl) (by first | assumption | decide +kernel) (by decide +kernel) ⟨rfl, rfl, rfl, rfl, rfl, by decide +kernel⟩ ?hw ?hc
  case hw => w_witness2
  case hc =>
    refine L2.walk_ofE (l := PySem.Challenge.rw_sametones_k18_whole_kin_beside_eliminati) (n := 63) (k := 9) (x := "script") (CX := L2.CX0) rfl (by decide) (by kernel_rfl) ⟨rfl, by decide, by decide⟩ ?F (fun _ _ _ _ z => z)
    intro w mg fa h Y G hmg0
    obtain ⟨K, KX, c⟩ := Y
    have hmg : mg ("law" : PySem.Str) = some (.ref fa) := by
      have e : (HandSHeadRun.topDef L3.RO.prog 60).name = ("law" : PySem.Str) := by kernel_rfl
      rw [← e]
      exact hmg0
    have cd : He.SaysD L3.fas L3.fns K := congrArg (fun z : He.AlT => z.1) c.t
    obtain ⟨fd, hb, hF⟩ := L3.facts (P := (PySem.Challenge.rw_sametones_k18_whole_kin_beside_eliminati).prog) (w := w) KX G hmg cd c.more
    exact ⟨K, fd, L3.up K 1 L3.sp_law, KX, hb, fun H a ns hl _ hS => L3.law_start hS hl, hF⟩


