import PyProof.Rows.All
import Wide.All
import OpenK.AllK
import Wide.FinOn
import KE.KStateDown
import HandS.ForMost
import HandS.ForExc
import HandS.IsInst
import HandS.TupAny
import HandS.Zip
import HandS.Deep
import HandS.Style
import HandS.HeadHook1
import HandS.HeadHook2
import HandS.SetFor
import HandS.GenList
import HandS.GenYield
import KE.GoesEnum
import KE.GoesMore
import HandS.OwnEq
import HandS.SortInts
import HandS.TryOnly
import HandS.DictComp
import HandS.Head0
import HandS.Head1
import HandS.Head2
import HandS.HeadEnd
import HandS.HeadHook4
import PySem.Challenge.RW_sametones_k08_whole_parts_beside_own_rea
set_option Elab.async false
set_option linter.all false
set_option maxRecDepth 100000
set_option maxHeartbeats 4000000
/-! L3, ahead of all: what the head looks at besides. -/
namespace L3
open PySem PySem.Spec PyProof.Rows L2
def insB (K : PySem.W.Frag) (cn : Str) : Bool := He.eqO (PySem.W.findIn K (.ref (He.ga K cn)) "__class__") (some (some (.builtin "object.__class__"))) &&
  (He.eqO (PySem.W.specialIn K (.builtin "object.__class__") "__get__") (some (some (.builtin "getset_descriptor.__get__"))) &&
  (decide (PySem.W.takesIn K (.builtin "object.__class__") = some true) && (decide (PySem.W.mroIn K (He.ga K cn) (.type "object") = some true) && decide (PySem.W.kitOne K (.ref (He.ga K cn)) (.ref (He.ga K cn)) = some true))))
end L3
/-! ### the head: facts by names -/
namespace L3
open PySem PySem.Spec PyProof.Rows L2
def top (i : Nat) : Stmt := PySem.Challenge.pw_sametones_k08_whole_parts_beside_own_rea.main.body.getD i (.Pass ⟨0, 0, 0, 0⟩)
def dd_law_bag : He.DefD := ⟨("_law_bag", none), "_law_bag", "_law_bag", defArgs (top 43), defBody (top 43), defScope (top 43), [], []⟩
def dd_law_draw : He.DefD := ⟨("_law_draw", none), "_law_draw", "_law_draw", defArgs (top 44), defBody (top 44), defScope (top 44), [], []⟩
def dd_law_of : He.DefD := ⟨("_law_of", none), "_law_of", "_law_of", defArgs (top 45), defBody (top 45), defScope (top 45), [], []⟩
def dd_law_labels : He.DefD := ⟨("_law_labels", none), "_law_labels", "_law_labels", defArgs (top 48), defBody (top 48), defScope (top 48), [], []⟩
def dd_law_step_row : He.DefD := ⟨("_law_step_row", none), "_law_step_row", "_law_step_row", defArgs (top 49), defBody (top 49), defScope (top 49), [], []⟩
def dd_law_net : He.DefD := ⟨("_law_net", none), "_law_net", "_law_net", defArgs (top 50), defBody (top 50), defScope (top 50), [], []⟩
def dd_law_named_net : He.DefD := ⟨("_law_named_net", none), "_law_named_net", "_law_named_net", defArgs (top 59), defBody (top 59), defScope (top 59), [], []⟩
def dd_law_order : He.DefD := ⟨("_law_order", none), "_law_order", "_law_order", defArgs (top 60), defBody (top 60), defScope (top 60), [], []⟩
def dd_law_scattered : He.DefD := ⟨("_law_scattered", none), "_law_scattered", "_law_scattered", defArgs (top 64), defBody (top 64), defScope (top 64), [], []⟩
def dd_law_beside : He.DefD := ⟨("_law_beside", none), "_law_beside", "_law_beside", defArgs (top 61), defBody (top 61), defScope (top 61), [], []⟩
def dd_law_many_parts : He.DefD := ⟨("_law_many_parts", none), "_law_many_parts", "_law_many_parts", defArgs (top 65), defBody (top 65), defScope (top 65), [], []⟩
def dd_has_step_rows : He.DefD := ⟨("has_step_rows", none), "has_step_rows", "has_step_rows", defArgs (top 27), defBody (top 27), defScope (top 27), [], []⟩
def dd_is_number : He.DefD := ⟨("is_number", none), "is_number", "is_number", defArgs (top 8), defBody (top 8), defScope (top 8), [], []⟩
def dd_is_index : He.DefD := ⟨("is_index", none), "is_index", "is_index", defArgs (top 9), defBody (top 9), defScope (top 9), [], []⟩
def dd_is_sign : He.DefD := ⟨("is_sign", none), "is_sign", "is_sign", defArgs (top 10), defBody (top 10), defScope (top 10), [], []⟩
def dd_is_step : He.DefD := ⟨("is_step", none), "is_step", "is_step", defArgs (top 28), defBody (top 28), defScope (top 28), [], []⟩
def dd_wrong_step : He.DefD := ⟨("wrong_step", none), "wrong_step", "wrong_step", defArgs (top 29), defBody (top 29), defScope (top 29), [], []⟩
def dd_is_side_name : He.DefD := ⟨("is_side_name", none), "is_side_name", "is_side_name", defArgs (top 14), defBody (top 14), defScope (top 14), [], []⟩
def dd_is_sides : He.DefD := ⟨("is_sides", none), "is_sides", "is_sides", defArgs (top 15), defBody (top 15), defScope (top 15), [], []⟩
def dd_Plan_init__ : He.DefD := ⟨("Plan", some "__init__"), "__init__", "Plan.__init__", defArgs (inClass (top 30) 0), defBody (inClass (top 30) 0), defScope (inClass (top 30) 0), [], []⟩
def dd_law_plan : He.DefD := ⟨("_law_plan", none), "_law_plan", "_law_plan", defArgs (top 51), defBody (top 51), defScope (top 51), [], []⟩
def dd_law_parts : He.DefD := ⟨("_law_parts", none), "_law_parts", "_law_parts", defArgs (top 57), defBody (top 57), defScope (top 57), [], []⟩
def dd_Plan_step : He.DefD := ⟨("Plan", some "step"), "step", "Plan.step", defArgs (inClass (top 30) 1), defBody (inClass (top 30) 1), defScope (inClass (top 30) 1), [], []⟩
def dd_walk : He.DefD := ⟨("walk", none), "walk", "walk", defArgs (top 32), defBody (top 32), defScope (top 32), [], []⟩
def dd_parts : He.DefD := ⟨("parts", none), "parts", "parts", defArgs (top 34), defBody (top 34), defScope (top 34), [], []⟩
def dd_law_like : He.DefD := ⟨("_law_like", none), "_law_like", "_law_like", defArgs (top 46), defBody (top 46), defScope (top 46), [], []⟩
def dd_law_reached : He.DefD := ⟨("_law_reached", none), "_law_reached", "_law_reached", defArgs (top 62), defBody (top 62), defScope (top 62), [], []⟩
def dd_law_parts_so : He.DefD := ⟨("_law_parts_so", none), "_law_parts_so", "_law_parts_so", defArgs (top 63), defBody (top 63), defScope (top 63), [], []⟩
def dd_part_plan : He.DefD := ⟨("part_plan", none), "part_plan", "part_plan", defArgs (top 35), defBody (top 35), defScope (top 35), [], []⟩
def dd_law_quads : He.DefD := ⟨("_law_quads", none), "_law_quads", "_law_quads", defArgs (top 52), defBody (top 52), defScope (top 52), [], []⟩
def dd_Plan_steps : He.DefD := ⟨("Plan", some "steps"), "steps", "Plan.steps", defArgs (inClass (top 30) 2), defBody (inClass (top 30) 2), defScope (inClass (top 30) 2), [], []⟩
def dd_law_plan_so : He.DefD := ⟨("_law_plan_so", none), "_law_plan_so", "_law_plan_so", defArgs (top 53), defBody (top 53), defScope (top 53), [], []⟩
def dd_law_part_net : He.DefD := ⟨("_law_part_net", none), "_law_part_net", "_law_part_net", defArgs (top 58), defBody (top 58), defScope (top 58), [], []⟩
def dd_law_part_plans_so : He.DefD := ⟨("_law_part_plans_so", none), "_law_part_plans_so", "_law_part_plans_so", defArgs (top 66), defBody (top 66), defScope (top 66), [], []⟩
def dd_law_led : He.DefD := ⟨("_law_led", none), "_law_led", "_law_led", defArgs (top 55), defBody (top 55), defScope (top 55), [], []⟩
def dd_law_return : He.DefD := ⟨("_law_return", none), "_law_return", "_law_return", defArgs (top 56), defBody (top 56), defScope (top 56), [], []⟩
def dd_fixed_signs : He.DefD := ⟨("fixed_signs", none), "fixed_signs", "fixed_signs", defArgs (top 40), defBody (top 40), defScope (top 40), [], []⟩
def dd_stays : He.DefD := ⟨("stays", none), "stays", "stays", defArgs (top 37), defBody (top 37), defScope (top 37), [], []⟩
def dd_is_word : He.DefD := ⟨("is_word", none), "is_word", "is_word", defArgs (top 16), defBody (top 16), defScope (top 16), [], []⟩
def dd_led_on : He.DefD := ⟨("led_on", none), "led_on", "led_on", defArgs (top 38), defBody (top 38), defScope (top 38), [], []⟩
def dd_led_copies : He.DefD := ⟨("led_copies", none), "led_copies", "led_copies", defArgs (top 39), defBody (top 39), defScope (top 39), [], []⟩
def dd_return_of : He.DefD := ⟨("return_of", none), "return_of", "return_of", defArgs (top 41), defBody (top 41), defScope (top 41), [], []⟩
def dd_law_whole : He.DefD := ⟨("_law_whole", none), "_law_whole", "_law_whole", defArgs (top 47), defBody (top 47), defScope (top 47), [], []⟩
def dd_law_sums_so : He.DefD := ⟨("_law_sums_so", none), "_law_sums_so", "_law_sums_so", defArgs (top 67), defBody (top 67), defScope (top 67), [], []⟩
def dd_law_way : He.DefD := ⟨("_law_way", none), "_law_way", "_law_way", defArgs (top 54), defBody (top 54), defScope (top 54), [], []⟩
def dd_law : He.DefD := ⟨("law", none), "law", "law", defArgs (top 68), defBody (top 68), defScope (top 68), [], []⟩
def fns : List He.DefD := [dd_law_bag, dd_law_draw, dd_law_of, dd_law_labels, dd_law_step_row, dd_law_net, dd_law_named_net, dd_law_order, dd_law_scattered, dd_law_beside, dd_law_many_parts, dd_has_step_rows, dd_is_number, dd_is_index, dd_is_sign, dd_is_step, dd_wrong_step, dd_is_side_name, dd_is_sides, dd_Plan_init__, dd_law_plan, dd_law_parts, dd_Plan_step, dd_walk, dd_parts, dd_law_like, dd_law_reached, dd_law_parts_so, dd_part_plan, dd_law_quads, dd_Plan_steps, dd_law_plan_so, dd_law_part_net, dd_law_part_plans_so, dd_law_led, dd_law_return, dd_fixed_signs, dd_stays, dd_is_word, dd_led_on, dd_led_copies, dd_return_of, dd_law_whole, dd_law_sums_so, dd_law_way, dd_law]
def fas : List He.Fa := [.free "len",
  .free "range",
  .free "isinstance",
  .free "int",
  .free "bool",
  .free "str",
  .free "list",
  .free "tuple",
  .free "dict",
  .free "all",
  .free "any",
  .free "sum",
  .free "enumerate",
  .free "zip",
  .free "max",
  .free "min",
  .free "abs",
  .free "sorted",
  .free "reversed",
  .free "set",
  .free "repr",
  .free "divmod",
  .cls "Plan",
  .glo "Plan",
  .noat "Plan" "sides",
  .noat "Plan" "copies",
  .noat "Plan" "_steps",
  .int "LONGEST_NAME" (3),
  .str "LETTERS" "abcdefghijklmnopqrstuvwxyz",
  .glo "_law_bag",
  .glo "_law_draw",
  .glo "_law_of",
  .glo "_law_labels",
  .glo "_law_step_row",
  .glo "_law_net",
  .glo "_law_named_net",
  .glo "_law_order",
  .glo "_law_scattered",
  .glo "_law_beside",
  .glo "_law_many_parts",
  .glo "has_step_rows",
  .glo "is_number",
  .glo "is_index",
  .glo "is_sign",
  .glo "is_step",
  .glo "wrong_step",
  .glo "is_side_name",
  .glo "is_sides",
  .mkr "Plan",
  .glo "_law_plan",
  .glo "_law_parts",
  .meth "Plan" "step",
  .glo "walk",
  .glo "parts",
  .glo "_law_like",
  .glo "_law_reached",
  .glo "_law_parts_so",
  .glo "part_plan",
  .glo "_law_quads",
  .meth "Plan" "steps",
  .glo "_law_plan_so",
  .glo "_law_part_net",
  .glo "_law_part_plans_so",
  .glo "_law_led",
  .glo "_law_return",
  .glo "fixed_signs",
  .glo "stays",
  .glo "is_word",
  .glo "led_on",
  .glo "led_copies",
  .glo "return_of",
  .glo "_law_whole",
  .glo "_law_sums_so",
  .glo "_law_way",
  .glo "law"]
def exs (K : PySem.W.Frag) : Bool := insB K "Plan"
abbrev RO : PySem.W.OpenRow := PySem.W.OpenLaw.row PySem.Challenge.rw_sametones_k08_whole_parts_beside_own_rea
abbrev hook : PySem.W.Hook := He.hookX 6 fas fns [] [] exs
def look (s : PySem.W.SharedT) : He.AlX := He.obsX 6 fas fns [] [] exs (HandSHeadRun.getT s)
theorem look_eq (s : PySem.W.SharedT) : look s = hook.obs s.abs := He.obsX_eq (HandSHeadRun.getT_eq s)
def loose0 : List Str := ["ToneError", "BadPlan", "InvalidSides", "InvalidSteps", "InvalidWord", "OtherSides", "is_number", "is_index", "is_sign", "LETTERS", "LONGEST_NAME", "is_side_name", "is_sides", "is_word", "DIGITS", "MOST_DIGITS", "LENGTHS", "plan_text", "number_of", "is_step_line", "PlanLines", "read_plan", "has_step_rows", "is_step", "wrong_step", "Plan", "walk", "parts", "part_plan", "stays"]
def loose1 : List Str := ["led_on", "led_copies", "fixed_signs", "return_of", "_law_bag", "_law_draw", "_law_of", "_law_like", "_law_whole", "_law_labels", "_law_step_row", "_law_net", "_law_plan", "_law_quads", "_law_plan_so", "_law_way", "_law_led", "_law_return", "_law_parts", "_law_part_net", "_law_named_net", "_law_order", "_law_beside", "_law_reached", "_law_parts_so", "_law_scattered", "_law_many_parts", "_law_part_plans_so", "_law_sums_so"]
def looseN : List Str := loose0 ++ loose1
theorem run0 (w : World) : HandSHeadRun.RunEq RO (PySem.W.view RO.prog [68]) hook look 40000 looseN (w.withFollow "special-get-raises" false) := by
  intro os
  kernel_rfl
theorem run1 (w : World) : HandSHeadRun.RunEq RO (PySem.W.view RO.prog [68]) hook look 40000 looseN (w.withFollow "special-get-raises" true) := by
  intro os
  kernel_rfl
theorem runs (w : World) : HandSHeadRun.RunEq RO (PySem.W.view RO.prog [68]) hook look 40000 looseN w := PySem.W.byRow2 "special-get-raises" (P := fun w => HandSHeadRun.RunEq RO (PySem.W.view RO.prog [68]) hook look 40000 looseN w) run0 run1 w
end L3
/-! L3: values as trees, environments of trees, readings over them; each reading of the hand layer is sound for one of these. Part A: what they are. -/
namespace L3
open PySem PySem.Spec PyProof.Rows L2

/-! ### data -/
inductive D where
  | non | bl (b : Bool) | int (i : Int) | str (x : Str)
  | lst (xs : List D) | tup (xs : List D)
  | obj (cn : Str) (ns : List Str) (xs : List D)
  | frz (xs : List D)

/-! v is d: G is the part of the heap that stands still -/
mutual
inductive At (K : PySem.W.Frag) (G : Hp) : V → D → Prop
  | non : At K G .non .non
  | bl (b : Bool) : At K G (.bl b) (.bl b)
  | int (i : Int) : At K G (.int i) (.int i)
  | str (x : Str) : At K G (.str x) (.str x)
  | lst {a : Addr} {vs : List V} {ds : List D} : G a = some (.lst vs) → AtL K G vs ds → At K G (.ref a) (.lst ds)
  | tup {a : Addr} {vs : List V} {ds : List D} : SqT K G a vs → AtL K G vs ds → At K G (.ref a) (.tup ds)
  | obj {a dx : Addr} {cn : Str} {ns : List Str} {vs : List V} {ds : List D} : G a = some (.ins (He.ga K cn) dx (ns.zip vs)) → ns.length = vs.length → AtL K G vs ds → At K G (.ref a) (.obj cn ns ds)
  | frz {a : Addr} {vs : List V} {ds : List D} : SqL K G a vs → AtL K G vs ds → At K G (.ref a) (.frz ds)
inductive AtL (K : PySem.W.Frag) (G : Hp) : List V → List D → Prop
  | nil : AtL K G [] []
  | cons {v : V} {vs : List V} {d : D} {ds : List D} : At K G v d → AtL K G vs ds → AtL K G (v :: vs) (d :: ds)
end

/-- what is known of a grows -/
def Sub (G G' : Hp) : Prop := ∀ a o, G a = some o → G' a = some o
theorem Sub.refl {G : Hp} : Sub G G := fun _ _ h => h
theorem Sub.trans {G G1 G2 : Hp} (x : Sub G G1) (y : Sub G1 G2) : Sub G G2 := fun a o h => y a o (x a o h)
theorem Sub.rd {G G' : Hp} (s : Sub G G') {a : Addr} {u : HO} (r : Rd G a u) : Rd G' a u := by
  rcases r with r | ⟨o, r⟩
  · exact .inl (s _ _ r)
  · exact .inr ⟨o, s _ _ r⟩
theorem Sub.sqL {K : PySem.W.Frag} {G G' : Hp} (s : Sub G G') {a : Addr} {vs : List V} (r : SqL K G a vs) : SqL K G' a vs := by
  rcases r with r | r
  · exact .inl (s.rd r)
  · exact .inr r
theorem Sub.sqT {K : PySem.W.Frag} {G G' : Hp} (s : Sub G G') {a : Addr} {vs : List V} (r : SqT K G a vs) : SqT K G' a vs := by
  rcases r with r | r
  · exact .inl (s.rd r)
  · exact .inr r
mutual
theorem At.mono {K : PySem.W.Frag} {G G' : Hp} (s : Sub G G') : ∀ {v : V} {d : D}, At K G v d → At K G' v d
  | _, _, .non => .non
  | _, _, .bl b => .bl b
  | _, _, .int i => .int i
  | _, _, .str x => .str x
  | _, _, .lst h t => .lst (s _ _ h) (AtL.mono s t)
  | _, _, .tup h t => .tup (s.sqT h) (AtL.mono s t)
  | _, _, .obj h n t => .obj (s _ _ h) n (AtL.mono s t)
  | _, _, .frz h t => .frz (s.sqL h) (AtL.mono s t)
theorem AtL.mono {K : PySem.W.Frag} {G G' : Hp} (s : Sub G G') : ∀ {vs : List V} {ds : List D}, AtL K G vs ds → AtL K G' vs ds
  | _, _, .nil => .nil
  | _, _, .cons h t => .cons (At.mono s h) (AtL.mono s t)
end
section
variable {K : PySem.W.Frag} {G : Hp}
theorem AtL.length : ∀ {vs : List V} {ds : List D}, AtL K G vs ds → vs.length = ds.length
  | _, _, .nil => rfl
  | _, _, .cons _ t => congrArg (· + 1) (AtL.length t)
theorem AtL.get : ∀ {vs : List V} {ds : List D} {i : Nat} {d : D}, AtL K G vs ds → ds[i]? = some d → ∃ v, vs[i]? = some v ∧ At K G v d
  | _, _, _, _, .nil, e => by simp at e
  | _, _, 0, _, .cons h _, e => by
    simp at e
    subst e
    exact ⟨_, rfl, h⟩
  | _, _, i + 1, d, .cons _ t, e => by
    obtain ⟨v, h1, h2⟩ := AtL.get (i := i) (d := d) t (by simpa using e)
    exact ⟨v, by simpa using h1, h2⟩
theorem AtL.getV : ∀ {vs : List V} {ds : List D} {i : Nat} {v : V}, AtL K G vs ds → vs[i]? = some v → ∃ d, ds[i]? = some d ∧ At K G v d
  | _, _, _, _, .nil, e => by simp at e
  | _, _, 0, _, .cons h _, e => by
    simp at e
    subst e
    exact ⟨_, rfl, h⟩
  | _, _, i + 1, v, .cons _ t, e => by
    obtain ⟨d, h1, h2⟩ := AtL.getV (i := i) (v := v) t (by simpa using e)
    exact ⟨d, by simpa using h1, h2⟩
theorem AtL.append : ∀ {vs us : List V} {ds es : List D}, AtL K G vs ds → AtL K G us es → AtL K G (vs ++ us) (ds ++ es)
  | _, _, _, _, .nil, s => s
  | _, _, _, _, .cons h t, s => .cons h (AtL.append t s)
theorem AtL.set {v : V} {d : D} (h : At K G v d) : ∀ {vs : List V} {ds : List D} (i : Nat), AtL K G vs ds → AtL K G (vs.set i v) (ds.set i d)
  | _, _, _, .nil => .nil
  | _, _, 0, .cons _ t => .cons h t
  | _, _, i + 1, .cons q t => .cons q (AtL.set h i t)
theorem AtL.take : ∀ {vs : List V} {ds : List D} (n : Nat), AtL K G vs ds → AtL K G (vs.take n) (ds.take n)
  | _, _, 0, _ => .nil
  | _, _, _ + 1, .nil => .nil
  | _, _, n + 1, .cons h t => .cons h (AtL.take n t)
theorem AtL.drop : ∀ {vs : List V} {ds : List D} (n : Nat), AtL K G vs ds → AtL K G (vs.drop n) (ds.drop n)
  | _, _, 0, h => h
  | _, _, _ + 1, .nil => .nil
  | _, _, n + 1, .cons _ t => AtL.drop n t
theorem AtL.eraseIdx : ∀ {vs : List V} {ds : List D} (n : Nat), AtL K G vs ds → AtL K G (vs.eraseIdx n) (ds.eraseIdx n)
  | _, _, _, .nil => .nil
  | _, _, 0, .cons _ t => t
  | _, _, n + 1, .cons h t => .cons h (AtL.eraseIdx n t)
theorem AtL.reverse {vs : List V} {ds : List D} (h : AtL K G vs ds) : AtL K G vs.reverse ds.reverse := by
  induction vs generalizing ds with
  | nil =>
    cases h
    exact .nil
  | cons v vs ih =>
    cases h with
    | cons h t =>
      rw [List.reverse_cons, List.reverse_cons]
      exact (ih t).append (.cons h .nil)
theorem AtL.rep {vs : List V} {ds : List D} (h : AtL K G vs ds) : ∀ k : Nat, AtL K G (List.replicate k vs).flatten (List.replicate k ds).flatten
  | 0 => .nil
  | k + 1 => by
    rw [List.replicate_succ, List.replicate_succ, List.flatten_cons, List.flatten_cons]
    exact h.append (AtL.rep h k)
theorem AtL.one {v : V} {d : D} (h : At K G v d) : AtL K G [v] [d] := .cons h .nil
end

/-! ### what a name holds -/
/-- what an owned object holds -/
inductive Cn where
  | l (xs : List D)
  | d (kvs : List (Key × D))
  | o (cn : Str) (fs : List (Str × D))
/-- a slot: nothing known; a value that stands still; an object of our own -/
inductive E where
  | no
  | va (d : D)
  | ow (c : Cn)
abbrev En := List E
abbrev E.ol (xs : List D) : E := .ow (.l xs)
abbrev E.od (kvs : List (Key × D)) : E := .ow (.d kvs)
abbrev E.oo (cn : Str) (fs : List (Str × D)) : E := .ow (.o cn fs)
/-- an expression's result: a value that stands still; a new object; the object of a slot -/
inductive R where
  | va (d : D)
  | fr (c : Cn)
  | rf (i : Nat)
abbrev R.fl (xs : List D) : R := .fr (.l xs)

def AtKV (K : PySem.W.Frag) (G : Hp) : List (Key × V) → List (Key × D) → Prop := Paired fun (p : Key × V) (q : Key × D) => p.1 = q.1 ∧ At K G p.2 q.2
def AtF (K : PySem.W.Frag) (G : Hp) : List (Str × V) → List (Str × D) → Prop := Paired fun (p : Str × V) (q : Str × D) => p.1 = q.1 ∧ At K G p.2 q.2
/-- the object at l holds c -/
def AtC (K : PySem.W.Frag) (H G : Hp) (l : Addr) : Cn → Prop
  | .l xs => ∃ vs, H l = some (.lst vs) ∧ AtL K G vs xs
  | .d kvs => ∃ vs, H l = some (.dK vs) ∧ AtKV K G vs kvs
  | .o cn fs => ∃ dx vs, H l = some (.ins (He.ga K cn) dx vs) ∧ AtF K G vs fs
theorem AtF.mono {K : PySem.W.Frag} {G G' : Hp} (s : Sub G G') {vs : List (Str × V)} {ds : List (Str × D)} (h : AtF K G vs ds) : AtF K G' vs ds :=
  Paired.mapP h fun _ _ x => ⟨x.1, x.2.mono s⟩
theorem AtF.zip {K : PySem.W.Frag} {G : Hp} : ∀ {vs : List (Str × V)} {ds : List (Str × D)}, AtF K G vs ds → vs = (ds.map (·.1)).zip (vs.map (·.2)) ∧ AtL K G (vs.map (·.2)) (ds.map (·.2))
  | _, _, .nil => ⟨rfl, .nil⟩
  | _, _, .cons (a := (f, v)) (b := (g, d)) h t => by
    obtain ⟨e, a⟩ := h
    obtain ⟨e2, a2⟩ := AtF.zip t
    have e' : f = g := e
    subst e'
    exact ⟨by rw [List.map_cons, List.map_cons, List.zip_cons_cons, ← e2], .cons a a2⟩
theorem AtF.unzip {K : PySem.W.Frag} {G : Hp} : ∀ {ns : List Str} {vs : List V} {ds : List D}, ns.length = vs.length → AtL K G vs ds → AtF K G (ns.zip vs) (ns.zip ds)
  | [], _, _, _, _ => by
    rw [List.zip_nil_left, List.zip_nil_left]
    exact .nil
  | n :: ns, v :: vs, _, h, .cons a t => .cons ⟨rfl, a⟩ (AtF.unzip (by simpa using h) t)
  | _ :: _, [], _, h, _ => by cases h
theorem AtKV.mono {K : PySem.W.Frag} {G G' : Hp} (s : Sub G G') {vs : List (Key × V)} {ds : List (Key × D)} (h : AtKV K G vs ds) : AtKV K G' vs ds :=
  Paired.mapP h fun _ _ x => ⟨x.1, x.2.mono s⟩
theorem AtC.mono {K : PySem.W.Frag} {H H' G G' : Hp} {l : Addr} (e : ∀ o, H l = some o → H' l = some o) (s : Sub G G') : ∀ {c : Cn}, AtC K H G l c → AtC K H' G' l c
  | .l _, ⟨vs, h, t⟩ => ⟨vs, e _ h, t.mono s⟩
  | .d _, ⟨vs, h, t⟩ => ⟨vs, e _ h, t.mono s⟩
  | .o _ _, ⟨dx, vs, h, t⟩ => ⟨dx, vs, e _ h, t.mono s⟩
theorem AtC.some {K : PySem.W.Frag} {H G : Hp} {l : Addr} : ∀ {c : Cn}, AtC K H G l c → H l ≠ none
  | .l _, ⟨_, h, _⟩ => by rw [h]; exact fun z => nomatch z
  | .d _, ⟨_, h, _⟩ => by rw [h]; exact fun z => nomatch z
  | .o _ _, ⟨_, _, h, _⟩ => by rw [h]; exact fun z => nomatch z

/-- the owned addresses -/
def Ad (σ : L2.St) (δ : En) (l : Addr) : Prop := ∃ (i : Nat) (c : Cn), δ[i]? = some (E.ow c) ∧ σ[i]? = some (some (V.ref l))
/-- the slots are as told -/
structure Rel (K : PySem.W.Frag) (σ : L2.St) (H G : Hp) (δ : En) : Prop where
  len : σ.length = δ.length
  sub : Sub G H
  va : ∀ (i : Nat) (d : D), δ[i]? = some (E.va d) → ∃ v, σ[i]? = some (some v) ∧ At K G v d
  ow : ∀ (i : Nat) (c : Cn), δ[i]? = some (E.ow c) → ∃ l, σ[i]? = some (some (V.ref l)) ∧ G l = none ∧ AtC K H G l c
  dj : ∀ (i j : Nat) (l : Addr) (c c' : Cn), δ[i]? = some (E.ow c) → δ[j]? = some (E.ow c') → σ[i]? = some (some (V.ref l)) → σ[j]? = some (some (V.ref l)) → i = j
/-- what may change: the addresses of A alone -/
structure Fr (A : Addr → Prop) (H G H' G' : Hp) : Prop where
  h : ∀ a o, ¬ A a → H a = some o → H' a = some o
  g : ∀ a o, G a = some o → G' a = some o
  n : ∀ a, ¬ A a → H a ≠ none → G' a = G a
  d : ∀ a, H a ≠ none → H' a ≠ none
theorem Fr.refl {A : Addr → Prop} {H G : Hp} : Fr A H G H G := ⟨fun _ _ _ h => h, fun _ _ h => h, fun _ _ _ => rfl, fun _ h => h⟩
theorem Fr.trans {A B : Addr → Prop} {H G H1 G1 H2 G2 : Hp} (x : Fr A H G H1 G1) (y : Fr B H1 G1 H2 G2) (hb : ∀ a, B a → A a ∨ H a = none) : Fr A H G H2 G2 where
  h := fun a o na e => y.h a o (fun z => (hb a z).elim na fun q => by rw [q] at e; cases e) (x.h a o na e)
  g := fun a o e => y.g a o (x.g a o e)
  n := fun a na e => (y.n a (fun z => (hb a z).elim na e) (x.d a e)).trans (x.n a na e)
  d := fun a e => y.d a (x.d a e)
theorem Fr.mono {A B : Addr → Prop} {H G H1 G1 : Hp} (x : Fr A H G H1 G1) (hb : ∀ a, A a → B a ∨ H a = none) : Fr B H G H1 G1 :=
  Fr.refl.trans x hb
theorem Fr.sub {A : Addr → Prop} {H G H1 G1 : Hp} (x : Fr A H G H1 G1) : Sub G G1 := x.g
theorem Fr.free {A : Addr → Prop} {H G H1 G1 : Hp} (x : Fr A H G H1 G1) {a : Addr} (h : H1 a = none) : H a = none := by
  cases e : H a with
  | none => rfl
  | some o => exact absurd h (x.d a (by rw [e]; exact fun z => nomatch z))
/-- no more is owned -/
def Le (δ' δ : En) : Prop := ∀ (i : Nat) (c : Cn), δ'[i]? = some (E.ow c) → ∃ c', δ[i]? = some (E.ow c')
theorem Le.refl {δ : En} : Le δ δ := fun _ c h => ⟨c, h⟩
theorem Le.trans {δ δ1 δ2 : En} (x : Le δ2 δ1) (y : Le δ1 δ) : Le δ2 δ := fun i c h => by
  obtain ⟨c1, h1⟩ := x i c h
  exact y i c1 h1
theorem Le.ad {δ' δ : En} (x : Le δ' δ) {σ : L2.St} {l : Addr} (h : Ad σ δ' l) : Ad σ δ l := by
  obtain ⟨i, c, h1, h2⟩ := h
  obtain ⟨c', h3⟩ := x i c h1
  exact ⟨i, c', h3, h2⟩
/-- an expression's result -/
def RR (K : PySem.W.Frag) (σ : L2.St) (H0 H G : Hp) : R → V → Prop
  | .va d, v => At K G v d
  | .fr c, v => ∃ l, v = .ref l ∧ H0 l = none ∧ G l = none ∧ AtC K H G l c
  | .rf i, v => σ[i]? = some (some v)
theorem Rel.there {K : PySem.W.Frag} {σ : L2.St} {H G : Hp} {δ : En} (x : Rel K σ H G δ) {l : Addr} (h : Ad σ δ l) : H l ≠ none := by
  obtain ⟨i, c, h1, h2⟩ := h
  obtain ⟨l', h3, _, h4⟩ := x.ow i c h1
  rw [h2] at h3
  cases h3
  exact h4.some
theorem Rel.gnone {K : PySem.W.Frag} {σ : L2.St} {H G : Hp} {δ : En} (x : Rel K σ H G δ) {l : Addr} (h : Ad σ δ l) : G l = none := by
  obtain ⟨i, c, h1, h2⟩ := h
  obtain ⟨l', h3, h4, _⟩ := x.ow i c h1
  rw [h2] at h3
  cases h3
  exact h4
/-- a result stands while others are made -/
theorem RR.on {K : PySem.W.Frag} {σ : L2.St} {H0 H G H' G' : Hp} {δ : En} {v : V} (L : Rel K σ H0 G0 δ) (h0 : Fr (Ad σ δ) H0 G0 H G) {δ1 : En} (le : Le δ1 δ) (f : Fr (Ad σ δ1) H G H' G') : ∀ {r : R}, RR K σ H0 H G r v → RR K σ H0 H' G' r v
  | .va d, h => At.mono f.sub h
  | .fr c, ⟨l, e, n, g, h⟩ => by
    have na : ¬ Ad σ δ1 l := fun z => L.there (le.ad z) n
    exact ⟨l, e, n, (f.n l na h.some).trans g, h.mono (fun o q => f.h l o na q) f.sub⟩
  | .rf i, h => h
theorem RR.base {K : PySem.W.Frag} {σ : L2.St} {H0 H1 H G : Hp} {v : V} (k : ∀ a, H1 a = none → H0 a = none) : ∀ {r : R}, RR K σ H1 H G r v → RR K σ H0 H G r v
  | .va d, h => h
  | .fr c, ⟨l, e, n, g, h⟩ => ⟨l, e, k l n, g, h⟩
  | .rf i, h => h

/-! ### readings -/
abbrev DT := En → (R → En → Prop) → Prop
abbrev DTT := En → (Bool → En → Prop) → Prop
abbrev DTA := En → (List R → En → Prop) → Prop
/-- t is sound for T: an expression -/
def Snd (K : PySem.W.Frag) (t : TE) (T : DT) : Prop := ∀ (σ : L2.St) (H G : Hp) (δ : En) (Q : VK) (Q3 : R → En → Prop), Rel K σ H G δ → T δ Q3 →
  (∀ r δ' v H' G', Rel K σ H' G' δ' → Fr (Ad σ δ) H G H' G' → Le δ' δ → RR K σ H H' G' r v → Q3 r δ' → Q v H') → t σ H Q
/-- a test -/
def SndT (K : PySem.W.Frag) (t : TT) (T : DTT) : Prop := ∀ (σ : L2.St) (H G : Hp) (δ : En) (Q : Bool → Hp → Prop) (Q3 : Bool → En → Prop), Rel K σ H G δ → T δ Q3 →
  (∀ b δ' H' G', Rel K σ H' G' δ' → Fr (Ad σ δ) H G H' G' → Le δ' δ → Q3 b δ' → Q b H') → t σ H Q
/-- the results of a list of expressions: new objects are apart -/
inductive RRs (K : PySem.W.Frag) (σ : L2.St) (H0 H G : Hp) : List R → List V → Prop
  | nil : RRs K σ H0 H G [] []
  | cons {r : R} {v : V} {rs : List R} {vs : List V} : RR K σ H0 H G r v → RRs K σ H0 H G rs vs → (∀ c, r = .fr c → ∀ (j : Nat) (c' : Cn), rs[j]? = some (.fr c') → vs[j]? ≠ some v) → RRs K σ H0 H G (r :: rs) (v :: vs)
def SndA (K : PySem.W.Frag) (t : TA) (T : DTA) : Prop := ∀ (σ : L2.St) (H G : Hp) (δ : En) (Q : List V → Hp → Prop) (Q3 : List R → En → Prop), Rel K σ H G δ → T δ Q3 →
  (∀ rs δ' vs H' G', Rel K σ H' G' δ' → Fr (Ad σ δ) H G H' G' → Le δ' δ → RRs K σ H H' G' rs vs → Q3 rs δ' → Q vs H') → t σ H Q
section
variable {K : PySem.W.Frag} {σ : L2.St} {H0 H1 H G : Hp}
theorem RRs.length : ∀ {rs : List R} {vs : List V}, RRs K σ H0 H G rs vs → vs.length = rs.length
  | _, _, .nil => rfl
  | _, _, .cons _ t _ => congrArg (· + 1) (RRs.length t)
theorem RRs.get : ∀ {rs : List R} {vs : List V} {i : Nat} {r : R}, RRs K σ H0 H G rs vs → rs[i]? = some r → ∃ v, vs[i]? = some v ∧ RR K σ H0 H G r v
  | _, _, _, _, .nil, e => by simp at e
  | _, _, 0, _, .cons h _ _, e => by
    simp at e
    subst e
    exact ⟨_, rfl, h⟩
  | _, _, i + 1, r, .cons _ t _, e => by
    obtain ⟨v, h1, h2⟩ := RRs.get (i := i) (r := r) t (by simpa using e)
    exact ⟨v, by simpa using h1, h2⟩
theorem RRs.apart : ∀ {rs : List R} {vs : List V} {i j : Nat} {c c' : Cn} {v : V}, RRs K σ H0 H G rs vs → rs[i]? = some (.fr c) → rs[j]? = some (.fr c') → vs[i]? = some v → vs[j]? = some v → i = j
  | _, _, _, _, _, _, _, .nil, e, _, _, _ => by simp at e
  | _, _, 0, 0, _, _, _, _, _, _, _, _ => rfl
  | _, _, 0, j + 1, _, c', v, .cons h t n, e, e', d, d' => by
    simp at e d e' d'
    subst e d
    exact absurd d' (n _ rfl j c' e')
  | _, _, i + 1, 0, c, _, v, .cons h t n, e, e', d, d' => by
    simp at e d e' d'
    subst e' d'
    exact absurd d (n _ rfl i c e)
  | _, _, i + 1, j + 1, c, c', v, .cons h t n, e, e', d, d' => by
    simp at e d e' d'
    exact congrArg (· + 1) (RRs.apart t e e' d d')
theorem RRs.base (k : ∀ a, H1 a = none → H0 a = none) : ∀ {rs : List R} {vs : List V}, RRs K σ H1 H G rs vs → RRs K σ H0 H G rs vs
  | _, _, .nil => .nil
  | _, _, .cons h t n => .cons (h.base k) (RRs.base k t) n
end
/-! ### names, constants, lists of expressions -/
section
variable {K : PySem.W.Frag}
def tv (i : Nat) : DT := fun δ Q => match δ[i]? with
  | some (E.va d) => Q (.va d) δ
  | some (E.ow _) => Q (.rf i) δ
  | _ => False
theorem snd_var {i : Nat} : Snd K (tVar i) (tv i) := fun σ H G δ Q Q3 L h k => by
  unfold tv at h
  split at h
  · rename_i d e
    obtain ⟨v, h1, h2⟩ := L.va i d e
    exact ⟨v, h1, k (.va d) δ v H G L .refl .refl h2 h⟩
  · rename_i c e
    obtain ⟨l, h1, h2, h3⟩ := L.ow i c e
    exact ⟨.ref l, h1, k (.rf i) δ _ H G L .refl .refl h1 h⟩
  · exact h.elim
def tc (d : D) : DT := fun δ Q => Q (.va d) δ
theorem snd_c {v : V} {d : D} (h : ∀ G, At K G v d) : Snd K (tC v) (tc d) := fun σ H G δ Q Q3 L q k => k (.va d) δ v H G L .refl .refl (h G) q
theorem snd_int {i : Int} : Snd K (tC (.int i)) (tc (.int i)) := snd_c fun _ => .int i
theorem snd_bl {b : Bool} : Snd K (tC (.bl b)) (tc (.bl b)) := snd_c fun _ => .bl b
theorem snd_non : Snd K (tC .non) (tc .non) := snd_c fun _ => .non
theorem snd_str {x : Str} : Snd K (tC (.str x)) (tc (.str x)) := snd_c fun _ => .str x
def ta0 : DTA := fun δ Q => Q [] δ
def tac (T : DT) (U : DTA) : DTA := fun δ Q => T δ fun r δ1 => U δ1 fun rs δ2 => Q (r :: rs) δ2
theorem snda_nil : SndA K tNil ta0 := fun σ H G δ Q Q3 L q k => k _ δ [] H G L .refl .refl .nil q
theorem snda_cons {t : TE} {u : TA} {T : DT} {U : DTA} (a : Snd K t T) (b : SndA K u U) : SndA K (tCons t u) (tac T U) := fun σ H G δ Q Q3 L q k => by
  refine a σ H G δ _ _ L q fun r δ1 v H1 G1 L1 f1 le1 rr q1 => ?_
  refine b σ H1 G1 δ1 _ _ L1 q1 fun rs δ2 vs H2 G2 L2 f2 le2 rrs q2 => ?_
  refine k _ δ2 _ H2 G2 L2 (f1.trans f2 fun a h => .inl (le1.ad h)) (le2.trans le1) (.cons (rr.on L f1 le1 f2) (rrs.base fun a h => f1.free h) fun c e j c' e' e2 => ?_) q2
  subst e
  obtain ⟨l, rfl, n, g, hc⟩ := rr
  obtain ⟨v', h1, l', h2, n', _⟩ := rrs.get e'
  rw [e2] at h1
  cases h1
  cases h2
  exact hc.some n'
end
end L3
/-! L3, part B: what a result shows; operators, comparisons, tests. -/
namespace L3
open PySem PySem.Spec PyProof.Rows L2

/-! ### what a result shows -/
/-- the datum that a result shows -/
def Cn.dat : Cn → Option D
  | .l xs => some (.lst xs)
  | .d _ => none
  | .o cn fs => some (.obj cn (fs.map (·.1)) (fs.map (·.2)))
def datE : Option E → Option D
  | some (.va d) => some d
  | some (.ow c) => c.dat
  | _ => none
def R.dat (δ : En) : R → Option D
  | .va d => some d
  | .fr c => c.dat
  | .rf i => datE δ[i]?
theorem dat_va {δ : En} {d : D} : (R.va d).dat δ = some d := rfl
theorem dat_fl {δ : En} {xs : List D} : (R.fr (.l xs)).dat δ = some (.lst xs) := rfl
theorem dat_rf {δ : En} {i : Nat} {xs : List D} (h : δ[i]? = some (E.ow (.l xs))) : (R.rf i).dat δ = some (.lst xs) := by
  show datE δ[i]? = _
  rw [h]
  rfl
theorem dat_rv {δ : En} {i : Nat} {d : D} (h : δ[i]? = some (E.va d)) : (R.rf i).dat δ = some d := by
  show datE δ[i]? = _
  rw [h]
  rfl
/-- v is d: its own object in H, the rest in G -/
def Sh (K : PySem.W.Frag) (H G : Hp) (v : V) : D → Prop
  | .non => v = .non
  | .bl b => v = .bl b
  | .int i => v = .int i
  | .str x => v = .str x
  | .lst ds => ∃ a vs, v = .ref a ∧ H a = some (.lst vs) ∧ AtL K G vs ds
  | .tup ds => ∃ a vs, v = .ref a ∧ SqT K G a vs ∧ AtL K G vs ds
  | .obj cn ns ds => ∃ a dx vs, v = .ref a ∧ H a = some (.ins (He.ga K cn) dx (ns.zip vs)) ∧ ns.length = vs.length ∧ AtL K G vs ds
  | .frz ds => ∃ a vs, v = .ref a ∧ SqL K G a vs ∧ AtL K G vs ds
theorem Sh.of {K : PySem.W.Frag} {H G : Hp} {v : V} {d : D} (s : Sub G H) (h : At K G v d) : Sh K H G v d := by
  cases h with
  | non => rfl
  | bl b => rfl
  | int i => rfl
  | str x => rfl
  | lst h t => exact ⟨_, _, rfl, s _ _ h, t⟩
  | tup h t => exact ⟨_, _, rfl, h, t⟩
  | obj h n t => exact ⟨_, _, _, rfl, s _ _ h, n, t⟩
  | frz h t => exact ⟨_, _, rfl, h, t⟩
theorem sh_cn {K : PySem.W.Frag} {H G : Hp} {l : Addr} {c : Cn} {d : D} (h : AtC K H G l c) (e : c.dat = some d) : Sh K H G (.ref l) d := by
  cases c with
  | l xs =>
    cases e
    obtain ⟨vs, h1, h2⟩ := h
    exact ⟨l, vs, rfl, h1, h2⟩
  | d kvs => cases e
  | o cn fs =>
    cases e
    obtain ⟨dx, vs, h1, h2⟩ := h
    obtain ⟨e1, h3⟩ := h2.zip
    refine ⟨l, dx, vs.map (·.2), rfl, ?_, ?_, h3⟩
    · rw [← e1]
      exact h1
    · have := h3.length
      rw [List.length_map] at this ⊢
      rw [List.length_map] at this ⊢
      exact this.symm
theorem sh_of {K : PySem.W.Frag} {σ : L2.St} {H0 H G : Hp} {δ : En} {r : R} {v : V} {d : D} (L : Rel K σ H G δ) (rr : RR K σ H0 H G r v) (e : r.dat δ = some d) : Sh K H G v d := by
  cases r with
  | va d' =>
    cases e
    exact Sh.of L.sub rr
  | fr c =>
    obtain ⟨l, rfl, _, g, h⟩ := rr
    exact sh_cn h e
  | rf i =>
    have e2 : datE δ[i]? = some d := e
    unfold datE at e2
    split at e2
    · rename_i d' q
      cases e2
      obtain ⟨v', h1, h2⟩ := L.va i _ q
      rw [show σ[i]? = some (some v) from rr] at h1
      cases h1
      exact Sh.of L.sub h2
    · rename_i c q
      obtain ⟨l, h1, _, h2⟩ := L.ow i _ q
      rw [show σ[i]? = some (some v) from rr] at h1
      cases h1
      exact sh_cn h2 e2
    · cases e2
/-- nothing changes but that more is there -/
abbrev Gr (H G H' G' : Hp) : Prop := Fr (fun _ => False) H G H' G'
theorem Rel.grow {K : PySem.W.Frag} {σ : L2.St} {H G H' G' : Hp} {δ : En} (L : Rel K σ H G δ) (f : Gr H G H' G') (s : Sub G' H') : Rel K σ H' G' δ where
  len := L.len
  sub := s
  va := fun i d e => by
    obtain ⟨v, h1, h2⟩ := L.va i d e
    exact ⟨v, h1, h2.mono f.sub⟩
  ow := fun i c e => by
    obtain ⟨l, h1, h2, h3⟩ := L.ow i c e
    exact ⟨l, h1, (f.n l (fun z => z) h3.some).trans h2, h3.mono (fun o q => f.h l o (fun z => z) q) f.sub⟩
  dj := L.dj
theorem Gr.fr {A : Addr → Prop} {H G H' G' : Hp} (f : Gr H G H' G') : Fr A H G H' G' := f.mono fun _ z => z.elim
/-- a new object that is not yet part of what stands still -/
theorem gr_new {H G : Hp} {p : Addr} {o : HO} (s : Sub G H) (n : H p = none) : Gr H G (upd H p o) G ∧ Sub G (upd H p o) := by
  have ne : ∀ a u, H a = some u → a ≠ p := fun a u h z => by rw [z, n] at h; cases h
  refine ⟨⟨fun a u _ h => by rw [upd_ne (ne a u h)]; exact h, fun _ _ h => h, fun _ _ _ => rfl, fun a h => ?_⟩, fun a u h => by rw [upd_ne (ne a u (s a u h))]; exact s a u h⟩
  unfold upd
  split
  · exact fun z => nomatch z
  · exact h
/-- a new object that stands still from now on -/
theorem gr_keep {H G : Hp} {p : Addr} {o : HO} (s : Sub G H) (n : H p = none) : Gr H G (upd H p o) (upd G p o) ∧ Sub (upd G p o) (upd H p o) := by
  have ne : ∀ a u, H a = some u → a ≠ p := fun a u h z => by rw [z, n] at h; cases h
  refine ⟨⟨fun a u _ h => by rw [upd_ne (ne a u h)]; exact h, fun a u h => by rw [upd_ne (ne a u (s a u h))]; exact h, fun a _ h => ?_, fun a h => ?_⟩, fun a u h => ?_⟩
  · have : a ≠ p := fun z => h (by rw [z]; exact n)
    rw [upd_ne this]
  · unfold upd
    split
    · exact fun z => nomatch z
    · exact h
  · by_cases z : a = p
    · subst z
      rw [upd_same] at h ⊢
      exact h
    · rw [upd_ne z] at h ⊢
      exact s a u h
theorem g_none {H G : Hp} {p : Addr} (s : Sub G H) (n : H p = none) : G p = none := by
  cases e : G p with
  | none => rfl
  | some o =>
    rw [s p o e] at n
    cases n

/-! ### what an operation on values asks -/
/-- the end of an operation: its result r is v in a greater heap -/
def End (K : PySem.W.Frag) (H G : Hp) (Q : VK) (Q3 : R → Prop) : Prop := ∀ r v H' G', Gr H G H' G' → Sub G' H' → RR K [] H H' G' r v → (∀ i, r ≠ .rf i) → Q3 r → Q v H'
theorem End.va {K : PySem.W.Frag} {H G : Hp} {Q : VK} {Q3 : R → Prop} (k : End K H G Q Q3) (s : Sub G H) {v : V} {d : D} (h : At K G v d) (q : Q3 (.va d)) : Q v H :=
  k (.va d) v H G .refl s h (fun _ z => nomatch z) q
theorem End.list {K : PySem.W.Frag} {H G : Hp} {Q : VK} {Q3 : R → Prop} (k : End K H G Q Q3) (s : Sub G H) {vs : List V} {ds : List D} (h : AtL K G vs ds) (q : Q3 (.fr (.l ds))) : ∀ p, H p = none → Q (.ref p) (upd H p (.lst vs)) := fun p n => by
  obtain ⟨f, s'⟩ := gr_new (G := G) (o := .lst vs) s n
  exact k (.fr (.l ds)) (.ref p) _ G f s' ⟨p, rfl, n, g_none s n, vs, upd_same, h⟩ (fun _ z => nomatch z) q
theorem End.tuple {K : PySem.W.Frag} {H G : Hp} {Q : VK} {Q3 : R → Prop} (k : End K H G Q Q3) (s : Sub G H) {vs : List V} {ds : List D} (h : AtL K G vs ds) (q : Q3 (.va (.tup ds))) : ∀ p, H p = none → Q (.ref p) (upd H p (.tup vs)) := fun p n => by
  obtain ⟨f, s'⟩ := gr_keep (G := G) (o := .tup vs) s n
  exact k (.va (.tup ds)) (.ref p) _ _ f s' (At.tup (SqT.of upd_same) (h.mono f.sub)) (fun _ z => nomatch z) q
/-- an operation of two values -/
def Snd2 (K : PySem.W.Frag) (r : R2) (F : D → D → (R → Prop) → Prop) : Prop := ∀ (H G : Hp) (x y : V) (d e : D) (Q : VK) (Q3 : R → Prop), Sub G H → Sh K H G x d → Sh K H G y e → F d e Q3 → End K H G Q Q3 → r x y H Q
theorem RR.grow {K : PySem.W.Frag} {σ : L2.St} {H0 H H' G' : Hp} {r : R} {v : V} (nr : ∀ i, r ≠ .rf i) (h : RR K [] H H' G' r v) (k : ∀ a, H a = none → H0 a = none) : RR K σ H0 H' G' r v := by
  cases r with
  | va d => exact h
  | fr c =>
    obtain ⟨l, e, n, g, q⟩ := h
    exact ⟨l, e, k l n, g, q⟩
  | rf i => exact absurd rfl (nr i)
theorem Sh.on {K : PySem.W.Frag} {σ : L2.St} {H0 G0 H G H' G' : Hp} {v : V} {δ δ1 δ' : En} {r : R} {d : D} (L0 : Rel K σ H0 G0 δ) (f0 : Fr (Ad σ δ) H0 G0 H G) (le : Le δ1 δ) (f : Fr (Ad σ δ1) H G H' G') (L : Rel K σ H' G' δ') (rr : RR K σ H0 H G r v) (e : r.dat δ' = some d) : Sh K H' G' v d :=
  sh_of L (rr.on L0 f0 le f) e
def tb2 (F : D → D → (R → Prop) → Prop) (Ta Tb : DT) : DT := fun δ Q => Ta δ fun x δ1 => Tb δ1 fun y δ2 => ∃ d e, x.dat δ2 = some d ∧ y.dat δ2 = some e ∧ F d e fun r => Q r δ2
section
variable {K : PySem.W.Frag} {ta tb : TE} {Ta Tb : DT}
theorem snd_op {r : R2} {F : D → D → (R → Prop) → Prop} (hr : Snd2 K r F) (ha : Snd K ta Ta) (hb : Snd K tb Tb) : Snd K (tOp r ta tb) (tb2 F Ta Tb) := fun σ H G δ Q Q3 L h k => by
  refine ha σ H G δ _ _ L h fun x δ1 v H1 G1 L1 f1 le1 rx h1 => ?_
  refine hb σ H1 G1 δ1 _ _ L1 h1 fun y δ2 u H2 G2 L2 f2 le2 ry h2 => ?_
  obtain ⟨d, e, ed, ee, hF⟩ := h2
  refine hr H2 G2 v u d e _ _ L2.sub (Sh.on L f1 le1 f2 L2 rx ed) (sh_of L2 ry ee) hF fun r' z H3 G3 f3 s3 rz nr q3 => ?_
  have f12 : Fr (Ad σ δ) H G H2 G2 := f1.trans f2 fun a h => .inl (le1.ad h)
  exact k r' δ2 z H3 G3 (L2.grow f3 s3) (f12.trans f3 fun _ z => z.elim) (le2.trans le1) (rz.grow nr fun a h => f12.free h) q3
/-- an operation of one value -/
def Snd1 (K : PySem.W.Frag) (r : V → Hp → VK → Prop) (F : D → (R → Prop) → Prop) : Prop := ∀ (H G : Hp) (x : V) (d : D) (Q : VK) (Q3 : R → Prop), Sub G H → Sh K H G x d → F d Q3 → End K H G Q Q3 → r x H Q
def tb1 (F : D → (R → Prop) → Prop) (Ta : DT) : DT := fun δ Q => Ta δ fun x δ1 => ∃ d, x.dat δ1 = some d ∧ F d fun r => Q r δ1
theorem snd_un {r : V → Hp → VK → Prop} {F : D → (R → Prop) → Prop} (hr : Snd1 K r F) (ha : Snd K ta Ta) : Snd K (tUn r ta) (tb1 F Ta) := fun σ H G δ Q Q3 L h k => by
  refine ha σ H G δ _ _ L h fun x δ1 v H1 G1 L1 f1 le1 rx h1 => ?_
  obtain ⟨d, ed, hF⟩ := h1
  refine hr H1 G1 v d _ _ L1.sub (sh_of L1 rx ed) hF fun r' z H3 G3 f3 s3 rz nr q3 => ?_
  exact k r' δ1 z H3 G3 (L1.grow f3 s3) (f1.trans f3 fun _ z => z.elim) le1 (rz.grow nr fun a h => f1.free h) q3

/-! ### + - * // % ** and - -/
def rPlus (K : PySem.W.Frag) : R2 := fun x y H Q => rI0 (fun i j => .int (i + j)) x y H Q ∨ (∃ i j, x = .str i ∧ y = .str j ∧ i.length + j.length ≤ sizeLine ∧ Q (.str (i ++ j)) H) ∨ rCat x y H Q ∨ rCatA K x y H Q
theorem op_plus {X : Cx} : OpR X (binaryOp .Add) (rPlus X.K) := op_add.or (op_add_str.or (op_cat.or op_catA))
def plusF : D → D → (R → Prop) → Prop
  | .int i, .int j, Q => Q (.va (.int (i + j)))
  | .str a, .str b, Q => a.length + b.length ≤ sizeLine ∧ Q (.va (.str (a ++ b)))
  | .lst a, .lst b, Q => a.length + b.length ≤ sizeLine ∧ Q (.fr (.l (a ++ b)))
  | .tup a, .tup b, Q => a.length + b.length ≤ sizeLine ∧ Q (.va (.tup (a ++ b)))
  | _, _, _ => False
theorem snd_plus : Snd2 K (rPlus K) plusF := fun H G x y d e Q Q3 s hx hy hF k => by
  unfold plusF at hF
  split at hF
  · obtain rfl := hx
    obtain rfl := hy
    exact .inl ⟨_, _, rfl, rfl, k.va s (.int _) hF⟩
  · obtain rfl := hx
    obtain rfl := hy
    exact .inr (.inl ⟨_, _, rfl, rfl, hF.1, k.va s (.str _) hF.2⟩)
  · obtain ⟨a, vs, rfl, h1, t1⟩ := hx
    obtain ⟨b, us, rfl, h2, t2⟩ := hy
    exact .inr (.inr (.inl ⟨a, b, vs, us, rfl, rfl, h1, h2, by rw [t1.length, t2.length]; exact hF.1, k.list s (t1.append t2) hF.2⟩))
  · obtain ⟨a, vs, rfl, h1, t1⟩ := hx
    obtain ⟨b, us, rfl, h2, t2⟩ := hy
    rename_i xs ys
    refine .inr (.inr (.inr ⟨a, b, vs, us, rfl, rfl, s.sqT h1, s.sqT h2, by rw [t1.length, t2.length]; exact hF.1, fun e => ?_, fun _ e => ?_, fun _ _ => k.tuple s (t1.append t2) hF.2⟩))
    · subst e
      cases t1
      exact k.va s (At.tup h2 t2) hF.2
    · subst e
      cases t2
      have := hF.2
      rw [List.append_nil] at this
      exact k.va s (At.tup h1 t1) this
  · exact hF.elim
def minusF : D → D → (R → Prop) → Prop
  | .int i, .int j, Q => Q (.va (.int (i - j)))
  | _, _, _ => False
theorem snd_minus : Snd2 K (rI0 fun i j => .int (i - j)) minusF := fun H G x y d e Q Q3 s hx hy hF k => by
  unfold minusF at hF
  split at hF
  · obtain rfl := hx
    obtain rfl := hy
    exact ⟨_, _, rfl, rfl, k.va s (.int _) hF⟩
  · exact hF.elim
def rTimes : R2 := fun x y H Q => rI CMul (fun i j => .int (i * j)) x y H Q ∨ rRep x y H Q
theorem op_times {X : Cx} : OpR X (binaryOp .Mult) rTimes := op_mul.or op_rep
def timesF : D → D → (R → Prop) → Prop
  | .int i, .int j, Q => CMul i j ∧ Q (.va (.int (i * j)))
  | .lst a, .int k, Q => (-(2 ^ 63) ≤ k ∧ k < 2 ^ 63 ∧ a.length * k.toNat ≤ sizeLine) ∧ Q (.fr (.l (List.replicate k.toNat a).flatten))
  | _, _, _ => False
theorem snd_times : Snd2 K rTimes timesF := fun H G x y d e Q Q3 s hx hy hF k => by
  unfold timesF at hF
  split at hF
  · obtain rfl := hx
    obtain rfl := hy
    exact .inl ⟨_, _, rfl, rfl, hF.1, k.va s (.int _) hF.2⟩
  · obtain ⟨a, vs, rfl, h1, t1⟩ := hx
    obtain rfl := hy
    obtain ⟨⟨c1, c2, c3⟩, q⟩ := hF
    exact .inr ⟨a, _, vs, rfl, rfl, h1, c1, c2, by rw [t1.length]; exact c3, k.list s (t1.rep _) q⟩
  · exact hF.elim
def fdivF : D → D → (R → Prop) → Prop
  | .int i, .int j, Q => CDiv i j ∧ Q (.va (.int (i / j)))
  | _, _, _ => False
theorem snd_fdiv : Snd2 K (rI CDiv fun i j => .int (i / j)) fdivF := fun H G x y d e Q Q3 s hx hy hF k => by
  unfold fdivF at hF
  split at hF
  · obtain rfl := hx
    obtain rfl := hy
    exact ⟨_, _, rfl, rfl, hF.1, k.va s (.int _) hF.2⟩
  · exact hF.elim
def modF : D → D → (R → Prop) → Prop
  | .int i, .int j, Q => 0 < j ∧ Q (.va (.int (i % j)))
  | _, _, _ => False
theorem snd_mod : Snd2 K (rI (fun _ j => 0 < j) fun i j => .int (i % j)) modF := fun H G x y d e Q Q3 s hx hy hF k => by
  unfold modF at hF
  split at hF
  · obtain rfl := hx
    obtain rfl := hy
    exact ⟨_, _, rfl, rfl, hF.1, k.va s (.int _) hF.2⟩
  · exact hF.elim
def powF : D → D → (R → Prop) → Prop
  | .int i, .int j, Q => CPow i j ∧ Q (.va (.int (i ^ j.toNat)))
  | _, _, _ => False
theorem snd_pow : Snd2 K (rI CPow fun i j => .int (i ^ j.toNat)) powF := fun H G x y d e Q Q3 s hx hy hF k => by
  unfold powF at hF
  split at hF
  · obtain rfl := hx
    obtain rfl := hy
    exact ⟨_, _, rfl, rfl, hF.1, k.va s (.int _) hF.2⟩
  · exact hF.elim
def negF : D → (R → Prop) → Prop
  | .int i, Q => Q (.va (.int (-i)))
  | _, _ => False
theorem snd_neg : Snd1 K (rU fun i => .int (-i)) negF := fun H G x d Q Q3 s hx hF k => by
  unfold negF at hF
  split at hF
  · obtain rfl := hx
    exact ⟨_, rfl, k.va s (.int _) hF⟩
  · exact hF.elim

/-! ### comparisons -/
def bF (F : D → D → (Bool → Prop) → Prop) : D → D → (R → Prop) → Prop := fun d e Q => F d e fun b => Q (.va (.bl b))
def iF (p : Int → Int → Bool) : D → D → (Bool → Prop) → Prop
  | .int i, .int j, Q => Q (p i j)
  | _, _, _ => False
theorem snd_icmp {p : Int → Int → Bool} : Snd2 K (rI0 fun i j => .bl (p i j)) (bF (iF p)) := fun H G x y d e Q Q3 s hx hy hF k => by
  unfold bF iF at hF
  split at hF
  · obtain rfl := hx
    obtain rfl := hy
    exact ⟨_, _, rfl, rfl, k.va s (.bl _) hF⟩
  · exact hF.elim
mutual
def D.py : D → Option PyData
  | .non => some .none
  | .bl b => some (.bool b)
  | .int i => some (.int i)
  | .str x => some (.str x)
  | .lst xs => (D.pys xs).map .list
  | .tup xs => (D.pys xs).map .tuple
  | .obj _ _ _ => none
  | .frz xs => (D.pys xs).map .list
def D.pys : List D → Option (List PyData)
  | [] => some []
  | d :: ds => (D.py d).bind fun p => (D.pys ds).map fun ps => p :: ps
end
mutual
theorem At.dp {G H : Hp} (s : Sub G H) : ∀ {v : V} {d : D} {p : PyData}, At K G v d → d.py = some p → Dp K H v p
  | _, _, _, .non, e => by
    rw [D.py] at e
    cases e
    exact .non
  | _, _, _, .bl b, e => by
    rw [D.py] at e
    cases e
    exact .bl b
  | _, _, _, .int i, e => by
    rw [D.py] at e
    cases e
    exact .int i
  | _, _, _, .str x, e => by
    rw [D.py] at e
    cases e
    exact .str x
  | _, _, _, .lst h t, e => by
    rw [D.py] at e
    obtain ⟨ps, e1, rfl⟩ := Option.map_eq_some_iff.mp e
    exact .lst (SqL.of (s _ _ h)) (AtL.dp s t e1)
  | _, _, _, .tup h t, e => by
    rw [D.py] at e
    obtain ⟨ps, e1, rfl⟩ := Option.map_eq_some_iff.mp e
    exact .tup (s.sqT h) (AtL.dp s t e1)
  | _, _, _, .obj _ _ _, e => by
    rw [D.py] at e
    cases e
  | _, _, _, .frz h t, e => by
    rw [D.py] at e
    obtain ⟨ps, e1, rfl⟩ := Option.map_eq_some_iff.mp e
    exact .lst (s.sqL h) (AtL.dp s t e1)
theorem AtL.dp {G H : Hp} (s : Sub G H) : ∀ {vs : List V} {ds : List D} {ps : List PyData}, AtL K G vs ds → D.pys ds = some ps → DpAll K H vs ps
  | _, _, _, .nil, e => by
    rw [D.pys] at e
    cases e
    exact .nil
  | _, _, _, .cons h t, e => by
    rw [D.pys] at e
    obtain ⟨p, e1, e2⟩ := Option.bind_eq_some_iff.mp e
    obtain ⟨ps, e3, rfl⟩ := Option.map_eq_some_iff.mp e2
    exact .cons (At.dp s h e1) (AtL.dp s t e3)
end
theorem Sh.dp {G H : Hp} (s : Sub G H) {v : V} {d : D} {p : PyData} (h : Sh K H G v d) (e : d.py = some p) : Dp K H v p := by
  cases d with
  | non =>
    obtain rfl := h
    exact At.dp (G := G) s .non e
  | bl b =>
    obtain rfl := h
    exact At.dp (G := G) s (.bl b) e
  | int i =>
    obtain rfl := h
    exact At.dp (G := G) s (.int i) e
  | str x =>
    obtain rfl := h
    exact At.dp (G := G) s (.str x) e
  | lst ds =>
    obtain ⟨a, vs, rfl, h1, t⟩ := h
    rw [D.py] at e
    obtain ⟨ps, e1, rfl⟩ := Option.map_eq_some_iff.mp e
    exact .lst (SqL.of h1) (AtL.dp s t e1)
  | tup ds =>
    obtain ⟨a, vs, rfl, h1, t⟩ := h
    exact At.dp s (At.tup h1 t) e
  | obj cn ns ds =>
    rw [D.py] at e
    cases e
  | frz ds =>
    obtain ⟨a, vs, rfl, h1, t⟩ := h
    exact At.dp s (At.frz h1 t) e
/-- == of data -/
def eqF : D → D → (Bool → Prop) → Prop := fun d e Q => ∃ p q, d.py = some p ∧ e.py = some q ∧ SeqAt.shaped p = true ∧ SeqAt.shaped q = true ∧ Q (PyData.eqv p q)
theorem snd_eq : Snd2 K (rEqD K) (bF eqF) := fun H G x y d e Q Q3 s hx hy hF k => by
  obtain ⟨p, q, e1, e2, s1, s2, hq⟩ := hF
  exact ⟨p, q, hx.dp s e1, hy.dp s e2, s1, s2, k.va s (.bl _) hq⟩
def neF : D → D → (Bool → Prop) → Prop := fun d e Q => eqF d e fun b => Q (!b)
theorem snd_ne : Snd2 K (rNeD K) (bF neF) := fun H G x y d e Q Q3 s hx hy hF k => by
  obtain ⟨p, q, e1, e2, s1, s2, hq⟩ := hF
  exact ⟨p, q, hx.dp s e1, hy.dp s e2, s1, s2, k.va s (.bl _) hq⟩
/-- is None -/
def isNone : D → Bool
  | .non => true
  | _ => false
def rIsN : R2 := fun x y H Q => y = .non ∧ Q (.bl (decide (x = .non))) H
def rNotN : R2 := fun x y H Q => y = .non ∧ Q (.bl (!decide (x = .non))) H
theorem Sh.none {G H : Hp} {v : V} : ∀ {d : D}, Sh K H G v d → decide (v = .non) = isNone d
  | .non, h => by
    obtain rfl := h
    rfl
  | .bl b, h => by
    obtain rfl := h
    rfl
  | .int i, h => by
    obtain rfl := h
    rfl
  | .str x, h => by
    obtain rfl := h
    rfl
  | .lst ds, ⟨_, _, h, _⟩ => by
    obtain rfl := h
    rfl
  | .tup ds, ⟨_, _, h, _⟩ => by
    obtain rfl := h
    rfl
  | .obj _ _ ds, ⟨_, _, _, h, _⟩ => by
    obtain rfl := h
    rfl
  | .frz ds, ⟨_, _, h, _⟩ => by
    obtain rfl := h
    rfl
def isF : D → D → (Bool → Prop) → Prop
  | d, .non, Q => Q (isNone d)
  | _, _, _ => False
def nisF : D → D → (Bool → Prop) → Prop := fun d e Q => isF d e fun b => Q (!b)
theorem snd_isN : Snd2 K rIsN (bF isF) := fun H G x y d e Q Q3 s hx hy hF k => by
  unfold bF isF at hF
  split at hF
  · obtain rfl := hy
    refine ⟨rfl, ?_⟩
    rw [hx.none]
    exact k.va s (.bl _) hF
  · exact hF.elim
theorem snd_notN : Snd2 K rNotN (bF nisF) := fun H G x y d e Q Q3 s hx hy hF k => by
  unfold bF nisF isF at hF
  split at hF
  · obtain rfl := hy
    refine ⟨rfl, ?_⟩
    rw [hx.none]
    exact k.va s (.bl _) hF
  · exact hF.elim
/-- in a list, in a text -/
def inF : D → D → (Bool → Prop) → Prop
  | .str a, .str b, Q => Q (!(Builtin.Str.occurrences b a 0 b.length 1).isEmpty)
  | d, .lst xs, Q => ∃ p ps, d.py = some p ∧ D.pys xs = some ps ∧ SeqAt.shaped p = true ∧ SeqAt.shaped (.list ps) = true ∧ Q (ps.any fun z => PyData.eqv z p)
  | _, _, _ => False
def ninF : D → D → (Bool → Prop) → Prop := fun d e Q => inF d e fun b => Q (!b)
def rInU (K : PySem.W.Frag) : R2 := fun x y H Q => (∃ i j, x = .str i ∧ y = .str j ∧ Q (.bl (!(Builtin.Str.occurrences j i 0 j.length 1).isEmpty)) H) ∨ rInD K x y H Q
def rNinU (K : PySem.W.Frag) : R2 := fun x y H Q => (∃ i j, x = .str i ∧ y = .str j ∧ Q (.bl (!(!(Builtin.Str.occurrences j i 0 j.length 1).isEmpty))) H) ∨ rNotInD K x y H Q
theorem op_inU {X : Cx} (hu : X.A.units + 65 < cLine) : OpR X (compareOp .In) (rInU X.K) := op_in_str.or (op_inD hu)
theorem op_ninU {X : Cx} (hu : X.A.units + 65 < cLine) : OpR X (compareOp .NotIn) (rNinU X.K) := op_notin_str.or (op_notInD hu)
theorem snd_in : Snd2 K (rInU K) (bF inF) := fun H G x y d e Q Q3 s hx hy hF k => by
  unfold bF inF at hF
  split at hF
  · obtain rfl := hx
    obtain rfl := hy
    exact .inl ⟨_, _, rfl, rfl, k.va s (.bl _) hF⟩
  · obtain ⟨p, ps, e1, e2, s1, s2, hq⟩ := hF
    exact .inr ⟨p, ps, hx.dp s e1, hy.dp s (by rw [D.py, e2]; rfl), s1, s2, k.va s (.bl _) hq⟩
  · exact hF.elim
theorem snd_nin : Snd2 K (rNinU K) (bF ninF) := fun H G x y d e Q Q3 s hx hy hF k => by
  unfold bF ninF inF at hF
  split at hF
  · obtain rfl := hx
    obtain rfl := hy
    exact .inl ⟨_, _, rfl, rfl, k.va s (.bl _) hF⟩
  · obtain ⟨p, ps, e1, e2, s1, s2, hq⟩ := hF
    exact .inr ⟨p, ps, hx.dp s e1, hy.dp s (by rw [D.py, e2]; rfl), s1, s2, k.va s (.bl _) hq⟩
  · exact hF.elim
end
end L3
/-! L3, part C: tests, subscripts, slices, displays, built-ins. -/
namespace L3
open PySem PySem.Spec PyProof.Rows L2
section
variable {K : PySem.W.Frag}
/-! ### tests -/
def tt (T : DT) : DTT := fun δ Q => T δ fun r δ1 => ∃ b, r = .va (.bl b) ∧ Q b δ1
theorem rr_bl {σ : L2.St} {H0 H G : Hp} {v : V} {b : Bool} (h : RR K σ H0 H G (.va (.bl b)) v) : v = .bl b := by
  cases (show At K G v (.bl b) from h)
  rfl
theorem sndt_val {t : TE} {T : DT} (a : Snd K t T) : SndT K (tB t) (tt T) := fun σ H G δ Q Q3 L h k => by
  refine a σ H G δ _ _ L h fun r δ1 v H1 G1 L1 f1 le1 rr q1 => ?_
  obtain ⟨b, rfl, q⟩ := q1
  exact ⟨b, rr_bl rr, k b δ1 H1 G1 L1 f1 le1 q⟩
theorem sndt_test {t : TE} {T : DT} (a : Snd K t T) : SndT K (tTest t) (tt T) := sndt_val a
def truD : D → Option Bool
  | .non => some false
  | .bl b => some b
  | .int i => some (i != 0)
  | .str y => if y.length ≤ sizeLine then some ((y.length : Int) != 0) else none
  | .lst xs => some (!xs.isEmpty)
  | .tup xs => some (!xs.isEmpty)
  | _ => none
def ttru (T : DT) : DTT := fun δ Q => T δ fun r δ1 => ∃ d b, r.dat δ1 = some d ∧ truD d = some b ∧ Q b δ1
theorem isEmpty_eq {α β : Type} {xs : List α} {ys : List β} (h : xs.length = ys.length) : (!xs.isEmpty) = !ys.isEmpty := by
  cases xs <;> cases ys <;> first | rfl | cases h
theorem sndt_truth {t : TE} {T : DT} (a : Snd K t T) : SndT K (fun σ H Q => t σ H fun x H' => ∃ k, TruV K x H' k ∧ Q k H') (ttru T) := fun σ H G δ Q Q3 L h k => by
  refine a σ H G δ _ _ L h fun r δ1 v H1 G1 L1 f1 le1 rr q1 => ?_
  obtain ⟨d, b, e, et, q⟩ := q1
  refine ⟨b, ?_, k b δ1 H1 G1 L1 f1 le1 q⟩
  have sh := sh_of L1 rr e
  cases d with
  | non =>
    obtain rfl := sh
    exact (Option.some.inj et).symm
  | bl c =>
    obtain rfl := sh
    exact (Option.some.inj et).symm
  | int i =>
    obtain rfl := sh
    exact (Option.some.inj et).symm
  | str y =>
    obtain rfl := sh
    have et2 : (if y.length ≤ sizeLine then some ((y.length : Int) != 0) else none) = some b := et
    by_cases z : y.length ≤ sizeLine
    · rw [if_pos z] at et2
      exact ⟨z, (Option.some.inj et2).symm⟩
    · rw [if_neg z] at et2
      cases et2
  | lst xs =>
    obtain ⟨a, vs, rfl, h1, t1⟩ := sh
    exact .inl ⟨vs, SqL.of h1, by rw [isEmpty_eq t1.length]; exact (Option.some.inj et).symm⟩
  | tup xs =>
    obtain ⟨a, vs, rfl, h1, t1⟩ := sh
    exact .inr (.inl ⟨vs, L1.sub.sqT h1, by rw [isEmpty_eq t1.length]; exact (Option.some.inj et).symm⟩)
  | obj cn ns ds => cases et
  | frz xs => cases et
def tand (a b : DTT) : DTT := fun δ Q => a δ fun c δ1 => if c = true then b δ1 Q else Q false δ1
def tor (a b : DTT) : DTT := fun δ Q => a δ fun c δ1 => if c = true then Q true δ1 else b δ1 Q
def tnot (a : DTT) : DTT := fun δ Q => a δ fun c δ1 => Q (!c) δ1
theorem sndt_and {t u : TT} {T U : DTT} (a : SndT K t T) (b : SndT K u U) : SndT K (tAnd t u) (tand T U) := fun σ H G δ Q Q3 L h k => by
  refine a σ H G δ _ _ L h fun c δ1 H1 G1 L1 f1 le1 q1 => ?_
  cases c with
  | true => exact b σ H1 G1 δ1 _ _ L1 q1 fun c δ2 H2 G2 L2 f2 le2 q2 => k c δ2 H2 G2 L2 (f1.trans f2 fun a h => .inl (le1.ad h)) (le2.trans le1) q2
  | false => exact k false δ1 H1 G1 L1 f1 le1 q1
theorem sndt_or {t u : TT} {T U : DTT} (a : SndT K t T) (b : SndT K u U) : SndT K (tOr t u) (tor T U) := fun σ H G δ Q Q3 L h k => by
  refine a σ H G δ _ _ L h fun c δ1 H1 G1 L1 f1 le1 q1 => ?_
  cases c with
  | false => exact b σ H1 G1 δ1 _ _ L1 q1 fun c δ2 H2 G2 L2 f2 le2 q2 => k c δ2 H2 G2 L2 (f1.trans f2 fun a h => .inl (le1.ad h)) (le2.trans le1) q2
  | true => exact k true δ1 H1 G1 L1 f1 le1 q1
theorem sndt_not {t : TT} {T : DTT} (a : SndT K t T) : SndT K (tNot t) (tnot T) := fun σ H G δ Q Q3 L h k => by
  exact a σ H G δ _ _ L h fun c δ1 H1 G1 L1 f1 le1 q1 => k (!c) δ1 H1 G1 L1 f1 le1 q1
/-- and, or, not as values: of truth values -/
def tandV (a b : DT) : DT := fun δ Q => a δ fun r δ1 => ∃ c, r = .va (.bl c) ∧ if c = true then b δ1 Q else Q (.va (.bl false)) δ1
def torV (a b : DT) : DT := fun δ Q => a δ fun r δ1 => ∃ c, r = .va (.bl c) ∧ if c = true then Q (.va (.bl true)) δ1 else b δ1 Q
def tnotV (a : DT) : DT := fun δ Q => a δ fun r δ1 => ∃ c, r = .va (.bl c) ∧ Q (.va (.bl (!c))) δ1
theorem snd_andV {t u : TE} {T U : DT} (a : Snd K t T) (b : Snd K u U) : Snd K (tAndV t u) (tandV T U) := fun σ H G δ Q Q3 L h k => by
  refine a σ H G δ _ _ L h fun r δ1 v H1 G1 L1 f1 le1 rr q1 => ?_
  obtain ⟨c, rfl, q⟩ := q1
  refine ⟨c, rr_bl rr, ?_⟩
  cases c with
  | true => exact b σ H1 G1 δ1 _ _ L1 q fun r δ2 v H2 G2 L2 f2 le2 rr2 q2 => k r δ2 v H2 G2 L2 (f1.trans f2 fun a h => .inl (le1.ad h)) (le2.trans le1) (rr2.base fun a h => f1.free h) q2
  | false => exact k (.va (.bl false)) δ1 _ H1 G1 L1 f1 le1 (At.bl false) q
theorem snd_orV {t u : TE} {T U : DT} (a : Snd K t T) (b : Snd K u U) : Snd K (tOrV t u) (torV T U) := fun σ H G δ Q Q3 L h k => by
  refine a σ H G δ _ _ L h fun r δ1 v H1 G1 L1 f1 le1 rr q1 => ?_
  obtain ⟨c, rfl, q⟩ := q1
  refine ⟨c, rr_bl rr, ?_⟩
  cases c with
  | false => exact b σ H1 G1 δ1 _ _ L1 q fun r δ2 v H2 G2 L2 f2 le2 rr2 q2 => k r δ2 v H2 G2 L2 (f1.trans f2 fun a h => .inl (le1.ad h)) (le2.trans le1) (rr2.base fun a h => f1.free h) q2
  | true => exact k (.va (.bl true)) δ1 _ H1 G1 L1 f1 le1 (At.bl true) q
theorem snd_notV {t : TE} {T : DT} (a : Snd K t T) : Snd K (tNotV t) (tnotV T) := fun σ H G δ Q Q3 L h k => by
  refine a σ H G δ _ _ L h fun r δ1 v H1 G1 L1 f1 le1 rr q1 => ?_
  obtain ⟨c, rfl, q⟩ := q1
  exact ⟨c, rr_bl rr, k (.va (.bl (!c))) δ1 _ H1 G1 L1 f1 le1 (At.bl (!c)) q⟩
def tif (c : DTT) (a b : DT) : DT := fun δ Q => c δ fun k δ1 => if k = true then a δ1 Q else b δ1 Q
theorem snd_if {t : TT} {u w : TE} {T : DTT} {U W : DT} (c : SndT K t T) (a : Snd K u U) (b : Snd K w W) : Snd K (tIf t u w) (tif T U W) := fun σ H G δ Q Q3 L h k => by
  refine c σ H G δ _ _ L h fun c δ1 H1 G1 L1 f1 le1 q1 => ?_
  cases c with
  | true => exact a σ H1 G1 δ1 _ _ L1 q1 fun r δ2 v H2 G2 L2 f2 le2 rr2 q2 => k r δ2 v H2 G2 L2 (f1.trans f2 fun a h => .inl (le1.ad h)) (le2.trans le1) (rr2.base fun a h => f1.free h) q2
  | false => exact b σ H1 G1 δ1 _ _ L1 q1 fun r δ2 v H2 G2 L2 f2 le2 rr2 q2 => k r δ2 v H2 G2 L2 (f1.trans f2 fun a h => .inl (le1.ad h)) (le2.trans le1) (rr2.base fun a h => f1.free h) q2
/-- a op b op' c, of ints -/
def tchain (p p' : Int → Int → Bool) (Ta Tb Tc : DT) : DT := fun δ Q => Ta δ fun x δ1 => Tb δ1 fun y δ2 => ∃ i j, x = .va (.int i) ∧ y = .va (.int j) ∧
  if p i j = true then Tc δ2 fun z δ3 => ∃ g, z = .va (.int g) ∧ Q (.va (.bl (p' j g))) δ3 else Q (.va (.bl false)) δ2
theorem rr_int {σ : L2.St} {H0 H G : Hp} {v : V} {b : Int} (h : RR K σ H0 H G (.va (.int b)) v) : v = .int b := by
  cases (show At K G v (.int b) from h)
  rfl
theorem snd_chain {ta tb tc : TE} {Ta Tb Tc : DT} {p p' : Int → Int → Bool} (ha : Snd K ta Ta) (hb : Snd K tb Tb) (hc : Snd K tc Tc) :
    Snd K (tChain (rI0 fun i j => .bl (p i j)) (rI0 fun i j => .bl (p' i j)) ta tb tc) (tchain p p' Ta Tb Tc) := fun σ H G δ Q Q3 L h k => by
  refine ha σ H G δ _ _ L h fun x δ1 v H1 G1 L1 f1 le1 rx h1 => ?_
  refine hb σ H1 G1 δ1 _ _ L1 h1 fun y δ2 u H2 G2 L2 f2 le2 ry h2 => ?_
  obtain ⟨i, j, rfl, rfl, q⟩ := h2
  have f12 : Fr (Ad σ δ) H G H2 G2 := f1.trans f2 fun a h => .inl (le1.ad h)
  refine ⟨i, j, rr_int rx, rr_int ry, p i j, rfl, ?_⟩
  cases hp : p i j with
  | true =>
    rw [hp, if_pos rfl] at q
    refine hc σ H2 G2 δ2 _ _ L2 q fun z δ3 w H3 G3 L3 f3 le3 rz h3 => ?_
    obtain ⟨g, rfl, q⟩ := h3
    exact ⟨j, g, rr_int ry, rr_int rz, k (.va (.bl (p' j g))) δ3 _ H3 G3 L3 (f12.trans f3 fun a h => .inl ((le2.trans le1).ad h)) (le3.trans (le2.trans le1)) (At.bl _) q⟩
  | false =>
    rw [hp, if_neg Bool.false_ne_true] at q
    exact k (.va (.bl false)) δ2 _ H2 G2 L2 f12 (le2.trans le1) (At.bl _) q
/-! ### subscripts -/
theorem atI_len {α β : Type} {xs : List α} {ys : List β} (h : xs.length = ys.length) {i : Int} {y : β} (e : atI ys i = some y) : ∃ j, ixN xs.length i = some j ∧ ys[j]? = some y ∧ atI xs i = xs[j]? := by
  unfold atI at e ⊢
  rw [h]
  cases q : ixN ys.length i with
  | none =>
    rw [q] at e
    cases e
  | some j =>
    rw [q] at e
    exact ⟨j, rfl, e, rfl⟩
theorem AtL.atI {G : Hp} {vs : List V} {ds : List D} (h : AtL K G vs ds) {i : Int} {d : D} (e : atI ds i = some d) : ∃ v, L2.atI vs i = some v ∧ At K G v d := by
  obtain ⟨j, h1, h2, h3⟩ := atI_len (xs := vs) h.length e
  obtain ⟨v, h4, h5⟩ := h.get h2
  exact ⟨v, h3.trans h4, h5⟩
def ixF : D → D → (R → Prop) → Prop
  | .lst xs, .int i, Q => ∃ d, L2.atI xs i = some d ∧ Q (.va d)
  | .tup xs, .int i, Q => ∃ d, L2.atI xs i = some d ∧ Q (.va d)
  | .str x, .int i, Q => x.length ≤ sizeLine ∧ ∃ c, L2.atI x.cps.toList i = some c ∧ Q (.va (.str ⟨#[c]⟩))
  | _, _, _ => False
theorem snd_ix : Snd2 K (rIx K) ixF := fun H G x y d e Q Q3 s hx hy hF k => by
  unfold ixF at hF
  split at hF
  · obtain ⟨a, vs, rfl, h1, t1⟩ := hx
    obtain rfl := hy
    obtain ⟨d, e, q⟩ := hF
    obtain ⟨v, e2, h2⟩ := t1.atI e
    exact .inl ⟨a, vs, _, v, rfl, rfl, SqL.of h1, e2, k.va s h2 q⟩
  · obtain ⟨a, vs, rfl, h1, t1⟩ := hx
    obtain rfl := hy
    obtain ⟨d, e, q⟩ := hF
    obtain ⟨v, e2, h2⟩ := t1.atI e
    exact .inr (.inl ⟨a, vs, _, v, rfl, rfl, s.sqT h1, e2, k.va s h2 q⟩)
  · obtain rfl := hx
    obtain rfl := hy
    obtain ⟨z, c, e, q⟩ := hF
    exact .inr (.inr ⟨_, _, c, rfl, rfl, z, e, k.va s (.str _) q⟩)
  · exact hF.elim
/-! ### slices -/
abbrev DTO := En → (Option Int → En → Prop) → Prop
def tno : DTO := fun δ Q => Q none δ
def tpart (T : DT) : DTO := fun δ Q => T δ fun r δ1 => ∃ i, r = .va (.int i) ∧ Q (some i) δ1
def SndO (K : PySem.W.Frag) (t : TO) (T : DTO) : Prop := ∀ (σ : L2.St) (H G : Hp) (δ : En) (Q : Option Int → Hp → Prop) (Q3 : Option Int → En → Prop), Rel K σ H G δ → T δ Q3 →
  (∀ o δ' H' G', Rel K σ H' G' δ' → Fr (Ad σ δ) H G H' G' → Le δ' δ → Q3 o δ' → Q o H') → t σ H Q
theorem sndo_none : SndO K tNoPart tno := fun σ H G δ Q Q3 L h k => k none δ H G L .refl .refl h
theorem sndo_some {t : TE} {T : DT} (a : Snd K t T) : SndO K (tPart t) (tpart T) := fun σ H G δ Q Q3 L h k => by
  refine a σ H G δ _ _ L h fun r δ1 v H1 G1 L1 f1 le1 rr q1 => ?_
  obtain ⟨i, rfl, q⟩ := q1
  exact ⟨i, rr_int rr, k (some i) δ1 H1 G1 L1 f1 le1 q⟩
def cutL {α : Type} (xs : List α) (lo hi : Option Int) : List α := (xs.drop (HT.sIx xs.length 0 lo)).take (HT.sIx xs.length xs.length hi - HT.sIx xs.length 0 lo)
theorem AtL.cut {G : Hp} {vs : List V} {ds : List D} (h : AtL K G vs ds) (lo hi : Option Int) : AtL K G (cutV vs lo hi) (cutL ds lo hi) := by
  unfold cutV cutL
  rw [h.length]
  exact (h.drop _).take _
theorem cutL_whole {α : Type} {xs : List α} {lo hi : Option Int} (h : HT.sIx xs.length 0 lo = 0 ∧ HT.sIx xs.length xs.length hi = xs.length) : cutL xs lo hi = xs := by
  unfold cutL
  rw [h.1, h.2]
  simp
def rSlU (K : PySem.W.Frag) : V → Option Int → Option Int → Hp → VK → Prop := fun x lo hi H Q => rSlL K x lo hi H Q ∨ rSlA K x lo hi H Q ∨ rSlS x lo hi H Q
theorem sl_any {X : Cx} : SlR X (rSlU X.K) := sl_list.or (sl_tupA.or sl_str)
def slF : D → Option Int → Option Int → (R → Prop) → Prop
  | .lst xs, lo, hi, Q => Q (.fr (.l (cutL xs lo hi)))
  | .frz xs, lo, hi, Q => Q (.fr (.l (cutL xs lo hi)))
  | .tup xs, lo, hi, Q => Q (.va (.tup (cutL xs lo hi)))
  | .str x, lo, hi, Q => x.length ≤ sizeLine ∧ Q (.va (.str (cutS x lo hi)))
  | _, _, _, _ => False
def tslice (T : DT) (Tl Th : DTO) : DT := fun δ Q => T δ fun r δ1 => Tl δ1 fun lo δ2 => Th δ2 fun hi δ3 => ∃ d, r.dat δ3 = some d ∧ slF d lo hi fun r => Q r δ3
theorem snd_slice {t : TE} {T : DT} {tl th : TO} {Tl Th : DTO} (a : Snd K t T) (l : SndO K tl Tl) (h : SndO K th Th) : Snd K (tSl (rSlU K) t tl th) (tslice T Tl Th) := fun σ H G δ Q Q3 L hh k => by
  refine a σ H G δ _ _ L hh fun x δ1 v H1 G1 L1 f1 le1 rx h1 => ?_
  refine l σ H1 G1 δ1 _ _ L1 h1 fun lo δ2 H2 G2 L2 f2 le2 h2 => ?_
  refine h σ H2 G2 δ2 _ _ L2 h2 fun hi δ3 H3 G3 L3 f3 le3 h3 => ?_
  obtain ⟨d, e, hF⟩ := h3
  have f23 : Fr (Ad σ δ1) H1 G1 H3 G3 := f2.trans f3 fun a h => .inl (le2.ad h)
  have f123 : Fr (Ad σ δ) H G H3 G3 := f1.trans f23 fun a h => .inl (le1.ad h)
  have sh : Sh K H3 G3 v d := Sh.on L f1 le1 f23 L3 rx e
  have s := L3.sub
  have kk : End K H3 G3 Q (fun r => Q3 r δ3) := fun r' z H4 G4 f4 s4 rz nr q3 => k r' δ3 z H4 G4 (L3.grow f4 s4) (f123.trans f4 fun _ z => z.elim) (le3.trans (le2.trans le1)) (rz.grow nr fun a h => f123.free h) q3
  cases d with
  | lst xs =>
    obtain ⟨a, vs, rfl, e1, t1⟩ := sh
    exact .inl ⟨a, vs, rfl, SqL.of e1, kk.list s (t1.cut lo hi) hF⟩
  | frz xs =>
    obtain ⟨a, vs, rfl, e1, t1⟩ := sh
    exact .inl ⟨a, vs, rfl, s.sqL e1, kk.list s (t1.cut lo hi) hF⟩
  | tup xs =>
    obtain ⟨a, vs, rfl, e1, t1⟩ := sh
    refine .inr (.inl ⟨a, vs, rfl, s.sqT e1, fun w => ?_, fun _ => kk.tuple s (t1.cut lo hi) hF⟩)
    rw [t1.length] at w
    have hF2 : Q3 (.va (.tup (cutL xs lo hi))) δ3 := hF
    rw [cutL_whole w] at hF2
    exact kk.va s (At.tup e1 t1) hF2
  | str x =>
    obtain rfl := sh
    exact .inr (.inr ⟨_, rfl, hF.1, kk.va s (.str _) hF.2⟩)
  | _ => exact (show False from hF).elim
/-! ### x[::-1] of a list (a tuple: below) -/
def revF : D → (R → Prop) → Prop
  | .lst xs, Q => Q (.fr (.l xs.reverse))
  | _, _ => False
theorem snd_revL {t : TE} {T : DT} (a : Snd K t T) : Snd K (tRevL K t) (tb1 revF T) := fun σ H G δ Q Q3 L h k => by
  refine a σ H G δ _ _ L h fun x δ1 v H1 G1 L1 f1 le1 rx h1 => ?_
  obtain ⟨d, ed, hF⟩ := h1
  have sh := sh_of L1 rx ed
  have kk : End K H1 G1 Q (fun r => Q3 r δ1) := fun r' z H4 G4 f4 s4 rz nr q3 => k r' δ1 z H4 G4 (L1.grow f4 s4) (f1.trans f4 fun _ z => z.elim) le1 (rz.grow nr fun a h => f1.free h) q3
  cases d with
  | lst xs =>
    obtain ⟨a, vs, rfl, e1, t1⟩ := sh
    exact ⟨a, vs, rfl, SqL.of e1, kk.list L1.sub t1.reverse hF⟩
  | _ => exact (show False from hF).elim
/-! ### what is made stands still from now on -/
/-- the datum that a result becomes -/
def datS : Option E → Option D
  | some (.va d) => some d
  | _ => none
def R.still (δ : En) : R → Option D
  | .va d => some d
  | .fr c => c.dat
  | .rf i => datS δ[i]?
/-- an owned object stands still from now on -/
theorem freeze {G H : Hp} {l : Addr} {c : Cn} {d : D} (h : AtC K H G l c) (e : c.dat = some d) (g : G l = none) : ∃ o, H l = some o ∧ Sub G (upd G l o) ∧ At K (upd G l o) (.ref l) d := by
  have s1 : ∀ o, Sub G (upd G l o) := fun u a o h => by
    by_cases z : a = l
    · rw [z, g] at h
      cases h
    · rw [upd_ne z]
      exact h
  cases c with
  | l xs =>
    cases e
    obtain ⟨vs, h1, t1⟩ := h
    exact ⟨_, h1, s1 _, At.lst upd_same (t1.mono (s1 _))⟩
  | d kvs => cases e
  | o cn fs =>
    cases e
    obtain ⟨dx, vs, h1, t1⟩ := h
    obtain ⟨e1, t2⟩ := t1.zip
    refine ⟨_, h1, s1 _, At.obj (dx := dx) (vs := vs.map (·.2)) ?_ ?_ (t2.mono (s1 _))⟩
    · rw [upd_same, ← e1]
    · have := t2.length
      rw [List.length_map] at this ⊢
      rw [List.length_map] at this ⊢
      exact this.symm
theorem settle {σ : L2.St} {H0 G0 H G : Hp} {δ0 δ : En} {r : R} {v : V} {d : D} (L0 : Rel K σ H0 G0 δ0) (L : Rel K σ H G δ) (f : Fr (Ad σ δ0) H0 G0 H G) (le : Le δ δ0) (rr : RR K σ H0 H G r v) (e : r.still δ = some d) :
    ∃ G', Rel K σ H G' δ ∧ Fr (Ad σ δ0) H0 G0 H G' ∧ Sub G G' ∧ At K G' v d ∧ ∀ a, G' a ≠ G a → r ≠ .va d ∧ v = .ref a ∧ ∃ c, r = .fr c := by
  cases r with
  | va d' =>
    cases e
    exact ⟨G, L, f, .refl, rr, fun a z => absurd rfl z⟩
  | rf i =>
    have e2 : datS δ[i]? = some d := e
    unfold datS at e2
    split at e2
    · rename_i d' q
      cases e2
      obtain ⟨v', h1, h2⟩ := L.va i _ q
      rw [show σ[i]? = some (some v) from rr] at h1
      cases h1
      exact ⟨G, L, f, .refl, h2, fun a z => absurd rfl z⟩
    · cases e2
  | fr c =>
    obtain ⟨l, rfl, n, g, hc⟩ := rr
    obtain ⟨o, h1, s1, ha⟩ := freeze hc e g
    have nl : ∀ a, Ad σ δ a → a ≠ l := fun a h z => by
      subst z
      exact L0.there (le.ad h) n
    refine ⟨upd G l o, ⟨L.len, fun a u h => ?_, fun i d e => ?_, fun i c e => ?_, L.dj⟩, ⟨f.h, fun a o h => s1 _ _ (f.g a o h), fun a na h => ?_, f.d⟩, s1, ha, fun a z => ⟨fun z => (nomatch z), ?_, _, rfl⟩⟩
    · by_cases z : a = l
      · subst z
        rw [upd_same] at h
        cases h
        exact h1
      · rw [upd_ne z] at h
        exact L.sub a u h
    · obtain ⟨v, h1, h2⟩ := L.va i d e
      exact ⟨v, h1, h2.mono s1⟩
    · obtain ⟨l', h2, h3, h4⟩ := L.ow i c e
      exact ⟨l', h2, by rw [upd_ne (nl l' ⟨i, c, e, h2⟩)]; exact h3, h4.mono (fun _ q => q) s1⟩
    · have : a ≠ l := fun z => h (by rw [z]; exact n)
      rw [upd_ne this]
      exact f.n a na h
    · have : a = l := by
        by_cases q : a = l
        · exact q
        · exact absurd (upd_ne q) z
      rw [this]
def stills (δ : En) : List R → Option (List D)
  | [] => some []
  | r :: rs => (r.still δ).bind fun d => (stills δ rs).map fun ds => d :: ds
theorem settles {σ : L2.St} {H0 G0 H : Hp} {δ0 δ : En} (L0 : Rel K σ H0 G0 δ0) (le : Le δ δ0) : ∀ {rs : List R} {vs : List V} {ds : List D} {G : Hp}, Rel K σ H G δ → Fr (Ad σ δ0) H0 G0 H G → RRs K σ H0 H G rs vs → stills δ rs = some ds →
    ∃ G', Rel K σ H G' δ ∧ Fr (Ad σ δ0) H0 G0 H G' ∧ Sub G G' ∧ AtL K G' vs ds
  | [], _, ds, G, L, f, h, e => by
    cases h
    cases e
    exact ⟨G, L, f, .refl, .nil⟩
  | r :: rs, _, ds, G, L, f, h, e => by
    cases h with
    | @cons _ v _ vs hr ht hn =>
      obtain ⟨d, e1, e2⟩ := Option.bind_eq_some_iff.mp e
      obtain ⟨es, e3, rfl⟩ := Option.map_eq_some_iff.mp e2
      obtain ⟨G1, L1, f1, s1, h1, ch⟩ := settle L0 L f le hr e1
      have ht1 : RRs K σ H0 H G1 rs vs := by
        have key : ∀ {rs : List R} {vs : List V}, RRs K σ H0 H G rs vs → (∀ c, r = .fr c → ∀ (j : Nat) (c' : Cn), rs[j]? = some (.fr c') → vs[j]? ≠ some v) → RRs K σ H0 H G1 rs vs := by
          intro rs vs h
          induction h with
          | nil => intro _; exact .nil
          | @cons r' v' rs' vs' a b c ih =>
            intro n
            refine .cons ?_ (ih fun c e j c' e' => n c e (j + 1) c' (by simpa using e')) c
            cases r' with
            | va d => exact At.mono s1 a
            | rf i => exact a
            | fr c' =>
              obtain ⟨l, rfl, n0, g, q⟩ := a
              refine ⟨l, rfl, n0, ?_, q.mono (fun _ z => z) s1⟩
              by_cases z : G1 l = G l
              · rw [z]
                exact g
              · obtain ⟨_, ev, c, ec⟩ := ch l z
                exact absurd (by rw [ev]; rfl) (n c ec 0 c' rfl)
        exact key ht hn
      obtain ⟨G2, L2, f2, s2, h2⟩ := settles L0 le L1 f1 ht1 e3
      exact ⟨G2, L2, f2, s1.trans s2, .cons (h1.mono s2) h2⟩
/-! ### displays -/
def ttup (TA : DTA) : DT := fun δ Q => TA δ fun rs δ1 => ∃ ds, stills δ1 rs = some ds ∧ ds.length ≤ sizeLine ∧ Q (.va (.tup ds)) δ1
def tlst (TA : DTA) : DT := fun δ Q => TA δ fun rs δ1 => ∃ ds, stills δ1 rs = some ds ∧ ds.length ≤ sizeLine ∧ Q (.fr (.l ds)) δ1
theorem snd_tup {t : TA} {T : DTA} (a : SndA K t T) : Snd K (tTup t) (ttup T) := fun σ H G δ Q Q3 L h k => by
  refine a σ H G δ _ _ L h fun rs δ1 vs H1 G1 L1 f1 le1 rr q1 => ?_
  obtain ⟨ds, e, hl, q⟩ := q1
  obtain ⟨G2, L2, f2, s2, h2⟩ := settles L le1 L1 f1 rr e
  refine ⟨by rw [h2.length]; exact hl, fun p n => ?_⟩
  obtain ⟨f3, s3⟩ := gr_keep (o := .tup vs) L2.sub n
  exact k (.va (.tup ds)) δ1 (.ref p) _ _ (L2.grow f3 s3) (f2.trans f3 fun _ z => z.elim) le1 (At.tup (SqT.of upd_same) (h2.mono f3.sub)) q
theorem snd_lst {t : TA} {T : DTA} (a : SndA K t T) : Snd K (tLst t) (tlst T) := fun σ H G δ Q Q3 L h k => by
  refine a σ H G δ _ _ L h fun rs δ1 vs H1 G1 L1 f1 le1 rr q1 => ?_
  obtain ⟨ds, e, hl, q⟩ := q1
  obtain ⟨G2, L2, f2, s2, h2⟩ := settles L le1 L1 f1 rr e
  refine ⟨by rw [h2.length]; exact hl, fun p n => ?_⟩
  obtain ⟨f3, s3⟩ := gr_new (G := G2) (o := .lst vs) L2.sub n
  exact k (.fr (.l ds)) δ1 (.ref p) _ _ (L2.grow f3 s3) (f2.trans f3 fun _ z => z.elim) le1 ⟨p, rfl, f2.free n, g_none L2.sub n, vs, upd_same, h2⟩ q
end
end L3
/-! L3, part D: calls of built-ins, of defs, of methods; new instances; fields. -/
namespace L3
open PySem PySem.Spec PyProof.Rows L2
section
variable {K : PySem.W.Frag}
/-! ### built-ins -/
inductive ShL (K : PySem.W.Frag) (H G : Hp) : List V → List D → Prop
  | nil : ShL K H G [] []
  | cons {v : V} {vs : List V} {d : D} {ds : List D} : Sh K H G v d → ShL K H G vs ds → ShL K H G (v :: vs) (d :: ds)
def dats (δ : En) : List R → Option (List D)
  | [] => some []
  | r :: rs => (r.dat δ).bind fun d => (dats δ rs).map fun ds => d :: ds
theorem shL_of {σ : L2.St} {H0 H G : Hp} {δ : En} (L : Rel K σ H G δ) : ∀ {rs : List R} {vs : List V} {ds : List D}, RRs K σ H0 H G rs vs → dats δ rs = some ds → ShL K H G vs ds
  | [], _, _, h, e => by
    cases h
    cases e
    exact .nil
  | r :: rs, _, _, h, e => by
    cases h with
    | cons hr ht hn =>
      obtain ⟨d, e1, e2⟩ := Option.bind_eq_some_iff.mp e
      obtain ⟨es, e3, rfl⟩ := Option.map_eq_some_iff.mp e2
      exact .cons (sh_of L hr e1) (shL_of L ht e3)
def SndC (K : PySem.W.Frag) (r : List V → Hp → VK → Prop) (F : List D → (R → Prop) → Prop) : Prop := ∀ (H G : Hp) (vs : List V) (ds : List D) (Q : VK) (Q3 : R → Prop), Sub G H → ShL K H G vs ds → F ds Q3 → End K H G Q Q3 → r vs H Q
def tcb (F : List D → (R → Prop) → Prop) (TA : DTA) : DT := fun δ Q => TA δ fun rs δ1 => ∃ ds, dats δ1 rs = some ds ∧ F ds fun r => Q r δ1
theorem snd_cb {r : List V → Hp → VK → Prop} {F : List D → (R → Prop) → Prop} {t : TA} {T : DTA} (hr : SndC K r F) (a : SndA K t T) : Snd K (tCB r t) (tcb F T) := fun σ H G δ Q Q3 L h k => by
  refine a σ H G δ _ _ L h fun rs δ1 vs H1 G1 L1 f1 le1 rr q1 => ?_
  obtain ⟨ds, e, hF⟩ := q1
  exact hr H1 G1 vs ds _ _ L1.sub (shL_of L1 rr e) hF fun r' z H3 G3 f3 s3 rz nr q3 => k r' δ1 z H3 G3 (L1.grow f3 s3) (f1.trans f3 fun _ z => z.elim) le1 (rz.grow nr fun a h => f1.free h) q3
def lenF : List D → (R → Prop) → Prop
  | [.lst xs], Q => Q (.va (.int xs.length))
  | [.tup xs], Q => Q (.va (.int xs.length))
  | [.frz xs], Q => Q (.va (.int xs.length))
  | [.str x], Q => x.length ≤ sizeLine ∧ Q (.va (.int x.length))
  | _, _ => False
def rLenV (K : PySem.W.Frag) : List V → Hp → VK → Prop := fun xs H Q => ∃ x n, xs = [x] ∧ LenV K x H n ∧ Q (.int n) H
theorem snd_len : SndC K (rLenV K) lenF := fun H G vs ds Q Q3 s h hF k => by
  unfold lenF at hF
  split at hF
  · cases h with
    | cons h t =>
      cases t
      obtain ⟨a, vs, rfl, h1, t1⟩ := h
      exact ⟨_, _, rfl, .inl ⟨vs, SqL.of h1, t1.length.symm⟩, k.va s (.int _) hF⟩
  · cases h with
    | cons h t =>
      cases t
      obtain ⟨a, vs, rfl, h1, t1⟩ := h
      exact ⟨_, _, rfl, .inr ⟨vs, s.sqT h1, t1.length.symm⟩, k.va s (.int _) hF⟩
  · cases h with
    | cons h t =>
      cases t
      obtain ⟨a, vs, rfl, h1, t1⟩ := h
      exact ⟨_, _, rfl, .inl ⟨vs, s.sqL h1, t1.length.symm⟩, k.va s (.int _) hF⟩
  · cases h with
    | cons h t =>
      cases t
      obtain rfl := h
      exact ⟨_, _, rfl, ⟨hF.1, rfl⟩, k.va s (.int _) hF.2⟩
  · exact hF.elim
def listF : List D → (R → Prop) → Prop
  | [.lst xs], Q => Q (.fr (.l xs))
  | [.tup xs], Q => Q (.fr (.l xs))
  | [.frz xs], Q => Q (.fr (.l xs))
  | _, _ => False
def rListV (K : PySem.W.Frag) : List V → Hp → VK → Prop := fun xs H Q => ∃ p ys, xs = [.ref p] ∧ (SqL K H p ys ∨ SqT K H p ys) ∧ ∀ l, H l = none → Q (.ref l) (upd H l (.lst ys))
theorem snd_list : SndC K (rListV K) listF := fun H G vs ds Q Q3 s h hF k => by
  unfold listF at hF
  split at hF
  · cases h with
    | cons h t =>
      cases t
      obtain ⟨a, vs, rfl, h1, t1⟩ := h
      exact ⟨_, _, rfl, .inl (SqL.of h1), k.list s t1 hF⟩
  · cases h with
    | cons h t =>
      cases t
      obtain ⟨a, vs, rfl, h1, t1⟩ := h
      exact ⟨_, _, rfl, .inr (s.sqT h1), k.list s t1 hF⟩
  · cases h with
    | cons h t =>
      cases t
      obtain ⟨a, vs, rfl, h1, t1⟩ := h
      exact ⟨_, _, rfl, .inl (s.sqL h1), k.list s t1 hF⟩
  · exact hF.elim
def tupleF : List D → (R → Prop) → Prop
  | [.lst xs], Q => Q (.va (.tup xs))
  | [.tup xs], Q => Q (.va (.tup xs))
  | _, _ => False
def rTupleV (K : PySem.W.Frag) : List V → Hp → VK → Prop := fun xs H Q => ∃ p ys, xs = [.ref p] ∧ ((SqL K H p ys ∧ ∀ l, H l = none → Q (.ref l) (upd H l (.tup ys))) ∨ (SqT K H p ys ∧ Q (.ref p) H))
theorem snd_tuple : SndC K (rTupleV K) tupleF := fun H G vs ds Q Q3 s h hF k => by
  unfold tupleF at hF
  split at hF
  · cases h with
    | cons h t =>
      cases t
      obtain ⟨a, vs, rfl, h1, t1⟩ := h
      exact ⟨_, _, rfl, .inl ⟨SqL.of h1, k.tuple s t1 hF⟩⟩
  · cases h with
    | cons h t =>
      cases t
      obtain ⟨a, vs, rfl, h1, t1⟩ := h
      exact ⟨_, _, rfl, .inr ⟨s.sqT h1, k.va s (At.tup h1 t1) hF⟩⟩
  · exact hF.elim
def intF : List D → (R → Prop) → Prop
  | [.int i], Q => Q (.va (.int i))
  | [.bl b], Q => Q (.va (.int (if b then 1 else 0)))
  | _, _ => False
def rIntV : List V → Hp → VK → Prop := fun xs H Q => (∃ i, xs = [.int i] ∧ Q (.int i) H) ∨ ∃ k, xs = [.bl k] ∧ Q (.int (if k then 1 else 0)) H
theorem snd_int1 : SndC K rIntV intF := fun H G vs ds Q Q3 s h hF k => by
  unfold intF at hF
  split at hF
  · cases h with
    | cons h t =>
      cases t
      obtain rfl := h
      exact .inl ⟨_, rfl, k.va s (.int _) hF⟩
  · cases h with
    | cons h t =>
      cases t
      obtain rfl := h
      exact .inr ⟨_, rfl, k.va s (.int _) hF⟩
  · exact hF.elim
def strF : List D → (R → Prop) → Prop
  | [.int i], Q => i.natAbs.log2 < 1920 ∧ Q (.va (.str (toString i)))
  | _, _ => False
def rStrV : List V → Hp → VK → Prop := fun xs H Q => ∃ i : Int, xs = [.int i] ∧ i.natAbs.log2 < 1920 ∧ Q (.str (toString i)) H
theorem snd_str1 : SndC K rStrV strF := fun H G vs ds Q Q3 s h hF k => by
  unfold strF at hF
  split at hF
  · cases h with
    | cons h t =>
      cases t
      obtain rfl := h
      exact ⟨_, rfl, hF.1, k.va s (.str _) hF.2⟩
  · exact hF.elim
def absF : List D → (R → Prop) → Prop
  | [.int i], Q => Q (.va (.int (if i < 0 then -i else i)))
  | _, _ => False
theorem snd_abs : SndC K (fun xs H Q => ∃ i, xs = [.int i] ∧ Q (.int (if i < 0 then -i else i)) H) absF := fun H G vs ds Q Q3 s h hF k => by
  unfold absF at hF
  split at hF
  · cases h with
    | cons h t =>
      cases t
      obtain rfl := h
      exact ⟨_, rfl, k.va s (.int _) hF⟩
  · exact hF.elim
def max2F : List D → (R → Prop) → Prop
  | [.int i, .int j], Q => Q (.va (.int (if j > i then j else i)))
  | _, _ => False
def min2F : List D → (R → Prop) → Prop
  | [.int i, .int j], Q => Q (.va (.int (if j < i then j else i)))
  | _, _ => False
theorem snd_max2 : SndC K (fun xs H Q => ∃ i j, xs = [.int i, .int j] ∧ Q (.int (if j > i then j else i)) H) max2F := fun H G vs ds Q Q3 s h hF k => by
  unfold max2F at hF
  split at hF
  · cases h with
    | cons h t =>
      cases t with
      | cons h2 t =>
        cases t
        obtain rfl := h
        obtain rfl := h2
        exact ⟨_, _, rfl, k.va s (.int _) hF⟩
  · exact hF.elim
theorem snd_min2 : SndC K (fun xs H Q => ∃ i j, xs = [.int i, .int j] ∧ Q (.int (if j < i then j else i)) H) min2F := fun H G vs ds Q Q3 s h hF k => by
  unfold min2F at hF
  split at hF
  · cases h with
    | cons h t =>
      cases t with
      | cons h2 t =>
        cases t
        obtain rfl := h
        obtain rfl := h2
        exact ⟨_, _, rfl, k.va s (.int _) hF⟩
  · exact hF.elim
theorem AtL.ints {G : Hp} : ∀ {ns : List Int} {vs : List V}, AtL K G vs (ns.map D.int) → vs = ns.map V.int
  | [], _, h => by
    cases h
    rfl
  | n :: ns, _, h => by
    cases h with
    | cons a t =>
      cases a
      rw [AtL.ints t]
      rfl
theorem AtL.bls {G : Hp} : ∀ {ns : List Bool} {vs : List V}, AtL K G vs (ns.map D.bl) → vs = ns.map V.bl
  | [], _, h => by
    cases h
    rfl
  | n :: ns, _, h => by
    cases h with
    | cons a t =>
      cases a
      rw [AtL.bls t]
      rfl
theorem AtL.strs {G : Hp} : ∀ {ns : List Str} {vs : List V}, AtL K G vs (ns.map D.str) → vs = ns.map V.str
  | [], _, h => by
    cases h
    rfl
  | n :: ns, _, h => by
    cases h with
    | cons a t =>
      cases a
      rw [AtL.strs t]
      rfl
theorem atl_ints {G : Hp} : ∀ (ns : List Int), AtL K G (ns.map V.int) (ns.map D.int)
  | [] => .nil
  | n :: ns => .cons (.int n) (atl_ints ns)
theorem atl_strs {G : Hp} : ∀ (ns : List Str), AtL K G (ns.map V.str) (ns.map D.str)
  | [] => .nil
  | n :: ns => .cons (.str n) (atl_strs ns)
def sumF : List D → (R → Prop) → Prop
  | [.lst xs], Q => ∃ ns : List Int, xs = ns.map D.int ∧ Q (.va (.int ns.sum))
  | _, _ => False
theorem snd_sum : SndC K (rSum K) sumF := fun H G vs ds Q Q3 s h hF k => by
  unfold sumF at hF
  split at hF
  · cases h with
    | cons h t =>
      cases t
      obtain ⟨a, vs, rfl, h1, t1⟩ := h
      obtain ⟨ns, rfl, q⟩ := hF
      rw [t1.ints] at h1
      exact ⟨a, ns, rfl, SqL.of h1, k.va s (.int _) q⟩
  · exact hF.elim
def anyF : List D → (R → Prop) → Prop
  | [.lst xs], Q => ∃ bs : List Bool, xs = bs.map D.bl ∧ Q (.va (.bl (bs.any id)))
  | _, _ => False
def allF : List D → (R → Prop) → Prop
  | [.lst xs], Q => ∃ bs : List Bool, xs = bs.map D.bl ∧ Q (.va (.bl (bs.all id)))
  | _, _ => False
theorem snd_any : SndC K (rAny K) anyF := fun H G vs ds Q Q3 s h hF k => by
  unfold anyF at hF
  split at hF
  · cases h with
    | cons h t =>
      cases t
      obtain ⟨a, vs, rfl, h1, t1⟩ := h
      obtain ⟨ns, rfl, q⟩ := hF
      rw [t1.bls] at h1
      exact ⟨a, ns, rfl, SqL.of h1, k.va s (.bl _) q⟩
  · exact hF.elim
theorem snd_all : SndC K (rAll K) allF := fun H G vs ds Q Q3 s h hF k => by
  unfold allF at hF
  split at hF
  · cases h with
    | cons h t =>
      cases t
      obtain ⟨a, vs, rfl, h1, t1⟩ := h
      obtain ⟨ns, rfl, q⟩ := hF
      rw [t1.bls] at h1
      exact ⟨a, ns, rfl, SqL.of h1, k.va s (.bl _) q⟩
  · exact hF.elim
def maxF : List D → (R → Prop) → Prop
  | [.lst xs], Q => ∃ ns : List Int, xs = ns.map D.int ∧ 0 < ns.length ∧ ∀ m, m ∈ ns → (∀ y, y ∈ ns → y ≤ m) → Q (.va (.int m))
  | _, _ => False
def minF : List D → (R → Prop) → Prop
  | [.lst xs], Q => ∃ ns : List Int, xs = ns.map D.int ∧ 0 < ns.length ∧ ∀ m, m ∈ ns → (∀ y, y ∈ ns → m ≤ y) → Q (.va (.int m))
  | _, _ => False
theorem snd_maxL : SndC K (rMax K) maxF := fun H G vs ds Q Q3 s h hF k => by
  unfold maxF at hF
  split at hF
  · cases h with
    | cons h t =>
      cases t
      obtain ⟨a, vs, rfl, h1, t1⟩ := h
      obtain ⟨ns, rfl, q0, q⟩ := hF
      rw [t1.ints] at h1
      exact ⟨a, ns, rfl, SqL.of h1, q0, fun m h1 h2 => k.va s (.int _) (q m h1 h2)⟩
  · exact hF.elim
theorem snd_minL : SndC K (rMin K) minF := fun H G vs ds Q Q3 s h hF k => by
  unfold minF at hF
  split at hF
  · cases h with
    | cons h t =>
      cases t
      obtain ⟨a, vs, rfl, h1, t1⟩ := h
      obtain ⟨ns, rfl, q0, q⟩ := hF
      rw [t1.ints] at h1
      exact ⟨a, ns, rfl, SqL.of h1, q0, fun m h1 h2 => k.va s (.int _) (q m h1 h2)⟩
  · exact hF.elim
/-! ### isinstance with built-in types -/
inductive Tn where
  | int | bool | str | list | tuple | dict
inductive Kn where
  | non | bool | int | str | list | tuple | dict
  deriving DecidableEq
def Tn.nm : Tn → String
  | .int => "int" | .bool => "bool" | .str => "str" | .list => "list" | .tuple => "tuple" | .dict => "dict"
def Kn.nm : Kn → String
  | .non => "NoneType" | .int => "int" | .bool => "bool" | .str => "str" | .list => "list" | .tuple => "tuple" | .dict => "dict"
def isT : Tn → Kn → Bool
  | .int, .int => true | .int, .bool => true | .bool, .bool => true | .str, .str => true | .list, .list => true | .tuple, .tuple => true | .dict, .dict => true
  | _, _ => false
theorem kit_isT (n : Tn) (k : Kn) : kitB k.nm n.nm = some (isT n k) := by
  cases n <;> cases k <;> decide +kernel
def Cn.kn : Cn → Option Kn
  | .l _ => some .list
  | .d _ => some .dict
  | .o _ _ => none
def D.kn : D → Option Kn
  | .non => some .non | .bl _ => some .bool | .int _ => some .int | .str _ => some .str | .lst _ => some .list | .tup _ => some .tuple
  | .obj _ _ _ => none | .frz _ => none
def knE : Option E → Option Kn
  | some (.va d) => d.kn
  | some (.ow c) => c.kn
  | _ => none
def R.kn (δ : En) : R → Option Kn
  | .va d => d.kn
  | .fr c => c.kn
  | .rf i => knE δ[i]?
theorem tyx_at {H G : Hp} {v : V} {d : D} {k : Kn} (s : Sub G H) (h : At K G v d) (e : d.kn = some k) : TyX K H v (.type k.nm) := by
  cases h with
  | non => cases e; exact .base .non
  | bl b => cases e; exact .base (.bl b)
  | int i => cases e; exact .base (.int i)
  | str x => cases e; exact .base (.str x)
  | lst h t => cases e; exact .base (.lst (s _ _ h))
  | tup h t =>
    cases e
    rcases s.sqT h with (h | ⟨o, h⟩) | ⟨o, its, n, h1, h2, _⟩
    · exact .base (.tup h)
    · exact .fTuple h
    · exact .kTuple h1 h2
  | obj h n t => cases e
  | frz h t => cases e
theorem tyx_cn {H G : Hp} {l : Addr} {c : Cn} {k : Kn} (h : AtC K H G l c) (e : c.kn = some k) : TyX K H (.ref l) (.type k.nm) := by
  cases c with
  | l xs =>
    cases e
    obtain ⟨vs, h1, _⟩ := h
    exact .base (.lst h1)
  | d kvs =>
    cases e
    obtain ⟨vs, h1, _⟩ := h
    exact .base (.dK h1)
  | o cn fs => cases e
theorem tyx_rr {σ : L2.St} {H0 H G : Hp} {δ : En} {r : R} {v : V} {k : Kn} (L : Rel K σ H G δ) (rr : RR K σ H0 H G r v) (e : r.kn δ = some k) : TyX K H v (.type k.nm) := by
  cases r with
  | va d => exact tyx_at L.sub rr e
  | fr c =>
    obtain ⟨l, rfl, _, _, h⟩ := rr
    exact tyx_cn h e
  | rf i =>
    have e2 : knE δ[i]? = some k := e
    unfold knE at e2
    split at e2
    · rename_i d q
      obtain ⟨v', h1, h2⟩ := L.va i _ q
      rw [show σ[i]? = some (some v) from rr] at h1
      cases h1
      exact tyx_at L.sub h2 e2
    · rename_i c q
      obtain ⟨l, h1, _, h2⟩ := L.ow i _ q
      rw [show σ[i]? = some (some v) from rr] at h1
      cases h1
      exact tyx_cn h2 e2
    · cases e2
def tisi (n : Tn) (T : DT) : DT := fun δ Q => T δ fun r δ1 => ∃ k, r.kn δ1 = some k ∧ Q (.va (.bl (isT n k))) δ1
theorem snd_isi {t : TE} {T : DT} {nm : String} (n : Tn) (hn : n.nm = nm) (a : Snd K t T) : Snd K (tCB (rIsi K) (tCons t (tCons (tC (.ty nm)) tNil))) (tisi n T) := fun σ H G δ Q Q3 L h k => by
  subst hn
  refine a σ H G δ _ _ L h fun r δ1 v H1 G1 L1 f1 le1 rr q1 => ?_
  obtain ⟨kn, e, q⟩ := q1
  exact ⟨v, _, _, _, _, rfl, .ty _, tyx_rr L1 rr e, kit_ty (kit_isT n kn), k (.va (.bl _)) δ1 _ H1 G1 L1 f1 le1 (At.bl _) q⟩
def tisi2 (n m : Tn) (T : DT) : DT := fun δ Q => T δ fun r δ1 => ∃ k, r.kn δ1 = some k ∧ Q (.va (.bl (isT n k || isT m k))) δ1
theorem snd_isi2 {t : TE} {T : DT} {nm mm : String} (n m : Tn) (hn : n.nm = nm) (hm : m.nm = mm) (a : Snd K t T) :
    Snd K (tCB (rIsiT K) (tCons t (tCons (tTup (tCons (tC (.ty nm)) (tCons (tC (.ty mm)) tNil))) tNil))) (tisi2 n m T) := fun σ H G δ Q Q3 L h k => by
  subst hn
  subst hm
  refine a σ H G δ _ _ L h fun r δ1 v H1 G1 L1 f1 le1 rr q1 => ?_
  obtain ⟨kn, e, q⟩ := q1
  refine ⟨by show 2 ≤ sizeLine; decide, fun p np => ?_⟩
  obtain ⟨f3, s3⟩ := gr_new (G := G1) (o := .tup [V.ty n.nm, V.ty m.nm]) L1.sub np
  have L3 := L1.grow f3 s3
  have rr3 : RR K σ H (upd H1 p (.tup [V.ty n.nm, V.ty m.nm])) G1 r v := by
    cases r with
    | va d => exact rr
    | fr c =>
      obtain ⟨l, rfl, n0, g, hc⟩ := rr
      exact ⟨l, rfl, n0, g, hc.mono (fun o q => f3.h l o (fun z => z) q) .refl⟩
    | rf i => exact rr
  refine ⟨v, p, _, _, _, _, rfl, upd_same, .cons (.ty _) (.cons (.ty _) .nil), tyx_rr L3 rr3 e, ?_, k (.va (.bl (isT n kn || isT m kn))) δ1 _ _ G1 L3 (f1.trans f3 fun _ z => z.elim) le1 (At.bl _) q⟩
  refine kitAny_cons (kit_ty (kit_isT n kn)) (fun e1 => ?_) (fun e1 => by rw [e1]; rfl)
  rw [e1, Bool.false_or]
  refine kitAny_cons (kit_ty (kit_isT m kn)) (fun e2 => ?_) (fun e2 => e2)
  rw [e2]
  exact kitAny_nil
end
end L3
/-! L3, part E: calls of defs and methods, new instances, fields. -/
namespace L3
open PySem PySem.Spec PyProof.Rows L2
section
variable {K : PySem.W.Frag}
/-- a def's promise over data: its arguments as slots, what is wanted of its result and of the slots behind it -/
abbrev DSp := En → (R → En → Prop) → Prop
def up (K : PySem.W.Frag) (n : Nat) (sp : DSp) : Sp := fun vs H Q _ => vs.length = n ∧ ∃ (G : Hp) (δ : En) (Q3 : R → En → Prop), Rel K (vs.map some) H G δ ∧ sp δ Q3 ∧
  ∀ r δ' v H' G', Rel K (vs.map some) H' G' δ' → Fr (Ad (vs.map some) δ) H G H' G' → Le δ' δ → RR K [] H H' G' r v → (∀ i, r ≠ .rf i) → Q3 r δ' → Q v H'
/-- how a result is handed over: own (true) or standing still from now on -/
def passR (δ : En) (i : Nat) : Bool → Option E
  | true => match δ[i]? with
    | some (.ow c) => some (.ow c)
    | some (.va d) => some (.va d)
    | _ => none
  | false => match δ[i]? with
    | some (.va d) => some (.va d)
    | _ => none
def pass1 (δ : En) : R → Bool → Option E
  | .va d, _ => some (.va d)
  | .fr c, true => some (.ow c)
  | .fr c, false => c.dat.map E.va
  | .rf i, m => passR δ i m
def passes (δ : En) : List R → List Bool → Option En
  | [], [] => some []
  | r :: rs, m :: ms => (pass1 δ r m).bind fun e => (passes δ rs ms).map fun es => e :: es
  | _, _ => none
theorem passes_get {δ : En} : ∀ {rs : List R} {ms : List Bool} {es : En}, passes δ rs ms = some es → rs.length = es.length ∧ ∀ (j : Nat) (e : E), es[j]? = some e → ∃ r m, rs[j]? = some r ∧ ms[j]? = some m ∧ pass1 δ r m = some e
  | [], [], _, h => by
    cases h
    exact ⟨rfl, fun j e h => by simp at h⟩
  | r :: rs, m :: ms, _, h => by
    obtain ⟨e, h1, h2⟩ := Option.bind_eq_some_iff.mp h
    obtain ⟨es, h3, rfl⟩ := Option.map_eq_some_iff.mp h2
    obtain ⟨l, ih⟩ := passes_get h3
    refine ⟨by rw [List.length_cons, List.length_cons, l], fun j e' q => ?_⟩
    cases j with
    | zero =>
      simp at q
      subst q
      exact ⟨r, m, rfl, rfl, h1⟩
    | succ j =>
      simp at q
      obtain ⟨r', m', a, b, c⟩ := ih j e' q
      exact ⟨r', m', by simpa using a, by simpa using b, c⟩
  | [], _ :: _, _, h => by cases h
  | _ :: _, [], _, h => by cases h
def rfs : List R → List Nat
  | [] => []
  | .rf i :: rs => i :: rfs rs
  | _ :: rs => rfs rs
theorem rfs_mem : ∀ {rs : List R} {j i : Nat}, rs[j]? = some (R.rf i) → i ∈ rfs rs
  | [], j, i, h => by simp at h
  | .rf k :: rs, 0, i, h => by
    simp at h
    subst h
    exact List.mem_cons_self
  | .va _ :: rs, 0, i, h => by simp at h
  | .fr _ :: rs, 0, i, h => by simp at h
  | .rf k :: rs, j + 1, i, h => List.mem_cons_of_mem _ (rfs_mem (by simpa using h))
  | .va _ :: rs, j + 1, i, h => rfs_mem (rs := rs) (j := j) (by simpa using h)
  | .fr _ :: rs, j + 1, i, h => rfs_mem (rs := rs) (j := j) (by simpa using h)
theorem rfs_inj : ∀ {rs : List R} {j k i : Nat}, (rfs rs).Nodup → rs[j]? = some (R.rf i) → rs[k]? = some (R.rf i) → j = k
  | [], j, k, i, _, h, _ => by simp at h
  | r :: rs, 0, 0, i, _, _, _ => rfl
  | r :: rs, 0, k + 1, i, n, h, h' => by
    simp at h h'
    subst h
    exact absurd (rfs_mem h') (List.nodup_cons.mp n).1
  | r :: rs, j + 1, 0, i, n, h, h' => by
    simp at h h'
    subst h'
    exact absurd (rfs_mem h) (List.nodup_cons.mp n).1
  | r :: rs, j + 1, k + 1, i, n, h, h' => by
    simp at h h'
    have n' : (rfs rs).Nodup := by
      cases r with
      | rf i => exact (List.nodup_cons.mp n).2
      | va d => exact n
      | fr c => exact n
    exact congrArg (· + 1) (rfs_inj n' h h')
def puts (δ : En) : List R → En → En
  | .rf i :: rs, e :: es => (puts δ rs es).set i e
  | _ :: rs, _ :: es => puts δ rs es
  | _, _ => δ
theorem puts_len {δ : En} : ∀ {rs : List R} {es : En}, (puts δ rs es).length = δ.length
  | [], _ => by rw [puts]; all_goals simp
  | .rf i :: rs, e :: es => by rw [puts, List.length_set, puts_len]
  | .va _ :: rs, _ :: es => by rw [puts, puts_len]; all_goals simp
  | .fr _ :: rs, _ :: es => by rw [puts, puts_len]; all_goals simp
  | _ :: _, [] => by rw [puts]; all_goals simp
theorem puts_get {δ : En} : ∀ {rs : List R} {es : En} {i : Nat} {e : E}, rs.length = es.length → (puts δ rs es)[i]? = some e → (∃ j : Nat, rs[j]? = some (R.rf i) ∧ es[j]? = some e) ∨ ((∀ j : Nat, rs[j]? ≠ some (R.rf i)) ∧ δ[i]? = some e)
  | [], [], i, e, _, h => .inr ⟨fun j z => by simp at z, h⟩
  | [], _ :: _, _, _, l, _ => by cases l
  | _ :: _, [], _, _, l, _ => by cases l
  | .rf k :: rs, e' :: es, i, e, l, h => by
    rw [puts] at h
    by_cases z : k = i
    · subst z
      have hk : k < (puts δ rs es).length := by
        have := (List.getElem?_eq_some_iff.mp h).1
        rw [List.length_set] at this
        exact this
      rw [List.getElem?_set_self hk] at h
      exact .inl ⟨0, rfl, h⟩
    · rw [List.getElem?_set_ne z] at h
      rcases puts_get (rs := rs) (es := es) (by simpa using l) h with ⟨j, h1, h2⟩ | ⟨h1, h2⟩
      · exact .inl ⟨j + 1, by simpa using h1, by simpa using h2⟩
      · refine .inr ⟨fun j => ?_, h2⟩
        cases j with
        | zero =>
          intro q
          simp at q
          exact z q
        | succ j =>
          intro q
          exact h1 j (by simpa using q)
  | .va d :: rs, e' :: es, i, e, l, h => by
    have h' : (puts δ rs es)[i]? = some e := by
      rw [puts] at h
      · exact h
      · intro i z; cases z
    rcases puts_get (rs := rs) (es := es) (by simpa using l) h' with ⟨j, h1, h2⟩ | ⟨h1, h2⟩
    · exact .inl ⟨j + 1, by simpa using h1, by simpa using h2⟩
    · refine .inr ⟨fun j => ?_, h2⟩
      cases j with
      | zero =>
        intro q
        simp at q
      | succ j =>
        intro q
        exact h1 j (by simpa using q)
  | .fr d :: rs, e' :: es, i, e, l, h => by
    have h' : (puts δ rs es)[i]? = some e := by
      rw [puts] at h
      · exact h
      · intro i z; cases z
    rcases puts_get (rs := rs) (es := es) (by simpa using l) h' with ⟨j, h1, h2⟩ | ⟨h1, h2⟩
    · exact .inl ⟨j + 1, by simpa using h1, by simpa using h2⟩
    · refine .inr ⟨fun j => ?_, h2⟩
      cases j with
      | zero =>
        intro q
        simp at q
      | succ j =>
        intro q
        exact h1 j (by simpa using q)
open Classical in
/-- the objects at Z stand still from now on -/
theorem freezeZ {σ : L2.St} {H0 G0 H G : Hp} {δ0 δ : En} (L0 : Rel K σ H0 G0 δ0) (L : Rel K σ H G δ) (f : Fr (Ad σ δ0) H0 G0 H G) (le : Le δ δ0) (Z : Addr → Prop) (hz : ∀ a, Z a → H0 a = none ∧ G a = none) :
    ∃ G', Rel K σ H G' δ ∧ Fr (Ad σ δ0) H0 G0 H G' ∧ Sub G G' ∧ (∀ a, ¬ Z a → G' a = G a) ∧ ∀ l c d, Z l → AtC K H G l c → c.dat = some d → At K G' (.ref l) d := by
  have s1 : Sub G (fun a => if Z a then H a else G a) := fun a o h => by
    by_cases z : Z a
    · rw [(hz a z).2] at h
      cases h
    · show (if Z a then H a else G a) = _
      rw [if_neg z]
      exact h
  refine ⟨fun a => if Z a then H a else G a, ⟨L.len, fun a o h => ?_, fun i d e => ?_, fun i c e => ?_, L.dj⟩, ⟨f.h, fun a o h => s1 _ _ (f.g a o h), fun a na h => ?_, f.d⟩, s1, fun a z => if_neg z, fun l c d z h e => ?_⟩
  · have h' : (if Z a then H a else G a) = some o := h
    by_cases z : Z a
    · rw [if_pos z] at h'
      exact h'
    · rw [if_neg z] at h'
      exact L.sub a o h'
  · obtain ⟨v, h1, h2⟩ := L.va i d e
    exact ⟨v, h1, h2.mono s1⟩
  · obtain ⟨l, h2, h3, h4⟩ := L.ow i c e
    have nz : ¬ Z l := fun z => L0.there (le.ad ⟨i, c, e, h2⟩) (hz l z).1
    exact ⟨l, h2, (if_neg nz).trans h3, h4.mono (fun _ q => q) s1⟩
  · have nz : ¬ Z a := fun z => h (hz a z).1
    exact (if_neg nz).trans (f.n a na h)
  · obtain ⟨o, h1, s2, h2⟩ := freeze h e (hz l z).2
    refine h2.mono fun a u q => ?_
    by_cases za : a = l
    · subst za
      rw [upd_same] at q
      show (if Z a then H a else G a) = _
      rw [if_pos z, h1]
      exact q
    · rw [upd_ne za] at q
      exact s1 a u q
/-- the core of a call -/
theorem call_core {sp : DSp} {ms : List Bool} {n : Nat} {σ : L2.St} {H G H1 G1 : Hp} {δ δ1 : En} {rs : List R} {vs : List V} {es : En} {Q : VK} {W : XK} {Q3 : R → En → Prop} (L : Rel K σ H G δ) (L1 : Rel K σ H1 G1 δ1) (f1 : Fr (Ad σ δ) H G H1 G1) (le1 : Le δ1 δ)
    (rr : RRs K σ H H1 G1 rs vs) (nd : (rfs rs).Nodup) (hn : rs.length = n) (he : passes δ1 rs ms = some es) (hs : sp es Q3)
    (k : ∀ r es' v H' G', Rel K σ H' G' (puts δ1 rs es') → Fr (Ad σ δ) H G H' G' → Le (puts δ1 rs es') δ → RR K σ H H' G' r v → Rel K (vs.map some) H' G' es' → Q3 r es' → Q v H') : up K n sp vs H1 Q W := by
  obtain ⟨hl, hg⟩ := passes_get he
  obtain ⟨G2, L2', f2, s2, gz, hz⟩ := freezeZ L L1 f1 le1 (fun a => ∃ (j : Nat) (c : Cn), rs[j]? = some (R.fr c) ∧ ms[j]? = some false ∧ vs[j]? = some (V.ref a)) fun a ⟨j, c, e1, e2, e3⟩ => by
    obtain ⟨v, h1, l, h2, h3, h4, _⟩ := rr.get e1
    rw [e3] at h1
    cases h1
    cases h2
    exact ⟨h3, h4⟩
  have lv : vs.length = rs.length := rr.length
  have gv : ∀ (j : Nat) (r : R), rs[j]? = some r → ∃ v, vs[j]? = some v ∧ (vs.map some)[j]? = some (some v) ∧ RR K σ H H1 G1 r v := fun j r e => by
    obtain ⟨v, h1, h2⟩ := rr.get e
    exact ⟨v, h1, by rw [List.getElem?_map, h1]; rfl, h2⟩
  -- what an owned argument is
  have own : ∀ (j : Nat) (c : Cn), es[j]? = some (E.ow c) → (rs[j]? = some (R.fr c) ∧ ∃ l, vs[j]? = some (V.ref l) ∧ H l = none ∧ G2 l = none ∧ AtC K H1 G2 l c) ∨ ∃ i l, rs[j]? = some (R.rf i) ∧ δ1[i]? = some (E.ow c) ∧ σ[i]? = some (some (V.ref l)) ∧ vs[j]? = some (V.ref l) ∧ G2 l = none ∧ AtC K H1 G2 l c := fun j c e => by
    obtain ⟨r, m, h1, h2, h3⟩ := hg j _ e
    cases r with
    | va d =>
      have h4 : some (E.va d) = some (E.ow c) := h3
      cases h4
    | fr c' =>
      cases m with
      | true =>
        have h4 : some (E.ow c') = some (E.ow c) := h3
        cases h4
        obtain ⟨v, q1, l, rfl, q2, q3, q4⟩ := rr.get h1
        refine .inl ⟨h1, l, q1, q2, ?_, q4.mono (fun _ z => z) s2⟩
        rw [gz l fun ⟨j', c', a, b, d⟩ => by
          have := rr.apart h1 a q1 d
          subst this
          rw [h2] at b
          cases b]
        exact q3
      | false =>
        have h4 : c'.dat.map E.va = some (E.ow c) := h3
        obtain ⟨_, _, z⟩ := Option.map_eq_some_iff.mp h4
        cases z
    | rf i =>
      have h4 : passR δ1 i m = some (E.ow c) := h3
      have h5 : δ1[i]? = some (E.ow c) := by
        unfold passR at h4
        cases m with
        | true =>
          simp only at h4
          split at h4
          · rename_i c' q
            cases h4
            exact q
          · cases h4
          · cases h4
        | false =>
          simp only at h4
          split at h4
          · cases h4
          · cases h4
      obtain ⟨l, q1, q2, q3⟩ := L2'.ow i c h5
      obtain ⟨v, p1, p2⟩ := rr.get h1
      rw [show σ[i]? = some (some v) from p2] at q1
      cases q1
      exact .inr ⟨i, l, h1, h5, p2, p1, q2, q3⟩
  have owR : ∀ (l : Addr), Ad (vs.map some) es l → (H l = none ∨ Ad σ δ1 l) := fun l ⟨j, c, e, q⟩ => by
    rw [List.getElem?_map] at q
    rcases own j c e with ⟨_, l', h1, h2, _⟩ | ⟨i, l', h1, h2, h3, h4, _⟩
    · rw [h1] at q
      cases q
      exact .inl h2
    · rw [h4] at q
      cases q
      exact .inr ⟨i, c, h2, h3⟩
  have LA : Rel K (vs.map some) H1 G2 es := by
    refine ⟨by rw [List.length_map, lv, hl], L2'.sub, fun j d e => ?_, fun j c e => ?_, fun j j' l c c' e e' q q' => ?_⟩
    · obtain ⟨r, m, h1, h2, h3⟩ := hg j _ e
      obtain ⟨v, q1, q2, q3⟩ := gv j r h1
      refine ⟨v, q2, ?_⟩
      cases r with
      | va d' =>
        have h4 : some (E.va d') = some (E.va d) := h3
        cases h4
        exact At.mono s2 q3
      | fr c =>
        cases m with
        | true =>
          have h4 : some (E.ow c) = some (E.va d) := h3
          cases h4
        | false =>
          have h4 : c.dat.map E.va = some (E.va d) := h3
          obtain ⟨d', z1, z2⟩ := Option.map_eq_some_iff.mp h4
          cases z2
          obtain ⟨l, rfl, _, _, q4⟩ := q3
          exact hz l c d ⟨j, c, h1, h2, q1⟩ q4 z1
      | rf i =>
        have h4 : passR δ1 i m = some (E.va d) := h3
        have h5 : δ1[i]? = some (E.va d) := by
          unfold passR at h4
          cases m with
          | true =>
            simp only at h4
            split at h4
            · cases h4
            · rename_i d' q
              cases h4
              exact q
            · cases h4
          | false =>
            simp only at h4
            split at h4
            · rename_i d' q
              cases h4
              exact q
            · cases h4
        obtain ⟨v', p1, p2⟩ := L2'.va i d h5
        rw [show σ[i]? = some (some v) from q3] at p1
        cases p1
        exact p2
    · rcases own j c e with ⟨_, l, h1, _, h3, h4⟩ | ⟨i, l, h1, h2, h3, h4, h5, h6⟩
      · exact ⟨l, by rw [List.getElem?_map, h1]; rfl, h3, h4⟩
      · exact ⟨l, by rw [List.getElem?_map, h4]; rfl, h5, h6⟩
    · rw [List.getElem?_map] at q q'
      rcases own j c e with ⟨a1, l1, a2, a3, _⟩ | ⟨i, l1, a1, a2, a3, a4, _⟩ <;> rcases own j' c' e' with ⟨b1, l2, b2, b3, _⟩ | ⟨i', l2, b1, b2, b3, b4, _⟩
      · rw [a2] at q
        rw [b2] at q'
        cases q
        cases q'
        exact rr.apart a1 b1 a2 b2
      · rw [a2] at q
        rw [b4] at q'
        cases q
        cases q'
        exact absurd a3 (L.there (le1.ad ⟨i', c', b2, b3⟩))
      · rw [a4] at q
        rw [b2] at q'
        cases q
        cases q'
        exact absurd b3 (L.there (le1.ad ⟨i, c, a2, a3⟩))
      · rw [a4] at q
        rw [b4] at q'
        cases q
        cases q'
        have := L2'.dj i i' l c c' a2 b2 a3 b3
        subst this
        exact rfs_inj nd a1 b1
  refine ⟨lv.trans hn, G2, es, _, LA, hs, fun r es' v H3 G3 L3 f3 le3 rr3 nr q3 => ?_⟩
  have hl3 : rs.length = es'.length := by
    have := L3.len
    rw [List.length_map, lv] at this
    exact this
  have f13 : Fr (Ad σ δ) H G H3 G3 := f2.trans f3 fun a h => (owR a h).elim .inr fun z => .inl (le1.ad z)
  -- a slot that was not handed over keeps its own object
  have apart : ∀ (i : Nat) (c : Cn) (l : Addr), δ1[i]? = some (E.ow c) → σ[i]? = some (some (V.ref l)) → (∀ j : Nat, rs[j]? ≠ some (R.rf i)) → ¬ Ad (vs.map some) es l := fun i c l e q n ⟨j, c', e', q'⟩ => by
    rw [List.getElem?_map] at q'
    rcases own j c' e' with ⟨b1, l2, b2, b3, _⟩ | ⟨i', l2, b1, b2, b3, b4, _⟩
    · rw [b2] at q'
      cases q'
      exact L.there (le1.ad ⟨i, c, e, q⟩) b3
    · rw [b4] at q'
      cases q'
      have := L1.dj i i' l c c' e b2 q b3
      subst this
      exact n j b1
  have sl : ∀ (j i : Nat) (v : V), rs[j]? = some (R.rf i) → (vs.map some)[j]? = some (some v) → σ[i]? = some (some v) := fun j i v e q => by
    obtain ⟨v', p1, p2, p3⟩ := gv j _ e
    rw [p2] at q
    cases q
    exact p3
  refine k r es' v H3 G3 ⟨by rw [puts_len]; exact L1.len, L3.sub, fun i d e => ?_, fun i c e => ?_, fun i i' l c c' e e' q q' => ?_⟩ f13 (fun i c e => ?_) (rr3.grow nr fun a h => f1.free h) L3 q3
  · rcases puts_get hl3 e with ⟨j, h1, h2⟩ | ⟨h1, h2⟩
    · obtain ⟨v, p1, p2⟩ := L3.va j d h2
      exact ⟨v, sl j i v h1 p1, p2⟩
    · obtain ⟨v, p1, p2⟩ := L1.va i d h2
      exact ⟨v, p1, p2.mono (s2.trans f3.sub)⟩
  · rcases puts_get hl3 e with ⟨j, h1, h2⟩ | ⟨h1, h2⟩
    · obtain ⟨l, p1, p2, p3⟩ := L3.ow j c h2
      exact ⟨l, sl j i _ h1 p1, p2, p3⟩
    · obtain ⟨l, p1, p2, p3⟩ := L2'.ow i c h2
      have na := apart i c l h2 p1 h1
      exact ⟨l, p1, (f3.n l na p3.some).trans p2, p3.mono (fun o z => f3.h l o na z) f3.sub⟩
  · rcases puts_get hl3 e with ⟨j, h1, h2⟩ | ⟨h1, h2⟩ <;> rcases puts_get hl3 e' with ⟨j', h1', h2'⟩ | ⟨h1', h2'⟩
    · have a1 : (vs.map some)[j]? = some (some (V.ref l)) := by
        obtain ⟨l', p1, _⟩ := L3.ow j c h2
        have := sl j i _ h1 p1
        rw [q] at this
        cases this
        exact p1
      have a2 : (vs.map some)[j']? = some (some (V.ref l)) := by
        obtain ⟨l', p1, _⟩ := L3.ow j' c' h2'
        have := sl j' i' _ h1' p1
        rw [q'] at this
        cases this
        exact p1
      have := L3.dj j j' l c c' h2 h2' a1 a2
      subst this
      rw [h1] at h1'
      cases h1'
      rfl
    · obtain ⟨l', p1, _⟩ := L3.ow j c h2
      have := sl j i _ h1 p1
      rw [q] at this
      cases this
      obtain ⟨c2, h3⟩ := le3 j c h2
      exact absurd ⟨j, c2, h3, p1⟩ (apart i' c' l h2' q' h1')
    · obtain ⟨l', p1, _⟩ := L3.ow j' c' h2'
      have := sl j' i' _ h1' p1
      rw [q'] at this
      cases this
      obtain ⟨c2, h3⟩ := le3 j' c' h2'
      exact absurd ⟨j', c2, h3, p1⟩ (apart i c l h2 q h1)
    · exact L1.dj i i' l c c' h2 h2' q q'
  · rcases puts_get hl3 e with ⟨j, h1, h2⟩ | ⟨h1, h2⟩
    · obtain ⟨c2, h3⟩ := le3 j c h2
      rcases own j c2 h3 with ⟨b1, _⟩ | ⟨i', l2, b1, b2, _⟩
      · rw [h1] at b1
        cases b1
      · rw [h1] at b1
        cases b1
        exact le1 i c2 b2
    · exact le1 i c h2
def tcall (sp : DSp) (ms : List Bool) (TA : DTA) : DT := fun δ Q => TA δ fun rs δ1 => (rfs rs).Nodup ∧ ∃ es, passes δ1 rs ms = some es ∧ sp es fun r es' => Q r (puts δ1 rs es')
theorem passes_len {δ : En} : ∀ {rs : List R} {ms : List Bool} {es : En}, passes δ rs ms = some es → rs.length = ms.length
  | [], [], _, _ => rfl
  | r :: rs, m :: ms, _, h => by
    obtain ⟨e, h1, h2⟩ := Option.bind_eq_some_iff.mp h
    obtain ⟨es, h3, rfl⟩ := Option.map_eq_some_iff.mp h2
    rw [List.length_cons, List.length_cons, passes_len h3]
  | [], _ :: _, _, h => by cases h
  | _ :: _, [], _, h => by cases h
theorem snd_call {sp : DSp} {ms : List Bool} {t : TA} {T : DTA} {n : Nat} {W : XK} (hn : ms.length = n) (a : SndA K t T) : Snd K (tCall (up K n sp) [] W t) (tcall sp ms T) := fun σ H G δ Q Q3 L h k => by
  refine a σ H G δ _ _ L h fun rs δ1 vs H1 G1 L1 f1 le1 rr q1 => ?_
  obtain ⟨nd, es, he, hs⟩ := q1
  rw [List.append_nil]
  exact call_core L L1 f1 le1 rr nd ((passes_len he).trans hn) he hs fun r es' v H' G' l f le r _ q => k _ _ v H' G' l f le r q
/-- o.m(..) -/
def tmeth (cn m : Str) (sp : DSp) (ms : List Bool) (T : DT) (TA : DTA) : DT := fun δ Q => T δ fun r δ0 => ∃ ns ds, r.dat δ0 = some (.obj cn ns ds) ∧ (ns.zip ds).lookup m = none ∧ TA δ0 fun rs δ1 =>
  (rfs (r :: rs)).Nodup ∧ ∃ es, passes δ1 (r :: rs) ms = some es ∧ sp es fun r' es' => Q r' (puts δ1 (r :: rs) es')
theorem zip_none {α β : Type} {m : Str} : ∀ {ns : List Str} {xs : List α} {ys : List β}, xs.length = ys.length → (ns.zip xs).lookup m = none → (ns.zip ys).lookup m = none
  | [], _, _, _, _ => by rw [List.zip_nil_left]; rfl
  | n :: ns, [], [], _, _ => by rw [List.zip_nil_right]; rfl
  | n :: ns, x :: xs, y :: ys, l, h => by
    rw [List.zip_cons_cons, List.lookup_cons] at h ⊢
    cases e : (m == n) with
    | true =>
      rw [e] at h
      cases h
    | false =>
      rw [e] at h
      exact zip_none (by simpa using l) h
  | n :: ns, [], _ :: _, l, _ => by cases l
  | n :: ns, _ :: _, [], l, _ => by cases l
theorem snd_meth {cn m : Str} {sp : DSp} {ms : List Bool} {t : TE} {T : DT} {u : TA} {U : DTA} {n : Nat} {W : XK} (hn : ms.length = n) (a : Snd K t T) (b : SndA K u U) :
    Snd K (tMeth (He.ga K cn) m (up K n sp) [] W t u) (tmeth cn m sp ms T U) := fun σ H G δ Q Q3 L h k => by
  refine a σ H G δ _ _ L h fun r δ0 v H0 G0 L0 f0 le0 rr0 q0 => ?_
  obtain ⟨ns, ds, ed, el, q0⟩ := q0
  obtain ⟨x, dx, vs, rfl, h1, h2, h3⟩ := sh_of L0 rr0 ed
  refine ⟨x, dx, _, rfl, h1, zip_none (h3.length.symm) el, ?_⟩
  refine b σ H0 G0 δ0 _ _ L0 q0 fun rs δ1 vs H1 G1 L1 f1 le1 rr q1 => ?_
  obtain ⟨nd, es, he, hs⟩ := q1
  rw [List.append_nil]
  have f01 : Fr (Ad σ δ) H G H1 G1 := f0.trans f1 fun a h => .inl (le0.ad h)
  refine call_core L L1 f01 (le1.trans le0) (.cons (rr0.on L f0 le0 f1) (rr.base fun a h => f0.free h) fun c e j c' e' e2 => ?_) nd ((passes_len he).trans hn) he hs fun r es' v H' G' l f le r _ q => k _ _ v H' G' l f le r q
  subst e
  obtain ⟨l, e3, n, g, hc⟩ := rr0
  obtain ⟨v', h4, l', h5, n', _⟩ := rr.get e'
  rw [e2] at h4
  cases h4
  cases e3
  cases h5
  exact hc.some n'
/-- C(..): sp is __init__'s promise, its first slot the new instance -/
def tmake (cn : Str) (sp : DSp) (ms : List Bool) (TA : DTA) : DT := fun δ Q => TA δ fun rs δ1 => (rfs rs).Nodup ∧ ∃ es, passes δ1 (.fr (.o cn []) :: rs) (true :: ms) = some es ∧
  sp es fun r es' => r = .va .non ∧ ∃ cn' fs es'', es' = .ow (.o cn' fs) :: es'' ∧ Q (.fr (.o cn' fs)) (puts δ1 rs es'')
theorem snd_make {cn : Str} {sp : DSp} {ms : List Bool} {t : TA} {T : DTA} {n : Nat} {W : XK} (hn : ms.length + 1 = n) (a : SndA K t T) : Snd K (tMake (He.ga K cn) (up K n sp) [] W t) (tmake cn sp ms T) := fun σ H G δ Q Q3 L h k => by
  refine a σ H G δ _ _ L h fun rs δ1 vs H1 G1 L1 f1 le1 rr q1 => ?_
  obtain ⟨nd, es, he, hs⟩ := q1
  intro x dx nx ndx ne
  rw [List.append_nil]
  obtain ⟨f2, s2⟩ := gr_new (G := G1) (o := .own x) L1.sub ndx
  have nx2 : (upd H1 dx (.own x)) x = none := by rw [upd_ne ne.symm]; exact nx
  obtain ⟨f3, s3⟩ := gr_new (G := G1) (o := .ins (He.ga K cn) dx []) s2 nx2
  have f23 : Gr H1 G1 (upd (upd H1 dx (.own x)) x (.ins (He.ga K cn) dx [])) G1 := f2.trans f3 fun _ z => z.elim
  have L2 := L1.grow f23 s3
  have f12 : Fr (Ad σ δ) H G (upd (upd H1 dx (.own x)) x (.ins (He.ga K cn) dx [])) G1 := f1.trans f23 fun _ z => z.elim
  have hx : H x = none := f1.free nx
  have rr2 : RRs K σ H (upd (upd H1 dx (.own x)) x (.ins (He.ga K cn) dx [])) G1 rs vs := by
    have key : ∀ {rs : List R} {vs : List V}, RRs K σ H H1 G1 rs vs → RRs K σ H (upd (upd H1 dx (.own x)) x (.ins (He.ga K cn) dx [])) G1 rs vs := by
      intro rs vs h
      induction h with
      | nil => exact .nil
      | cons a b c ih => exact .cons (a.on L f1 le1 (f23.fr (A := Ad σ δ1))) ih c
    exact key rr
  refine call_core (rs := .fr (.o cn []) :: rs) (vs := .ref x :: vs) L L2 f12 le1 (.cons ⟨x, rfl, hx, g_none L1.sub nx, dx, [], upd_same, .nil⟩ rr2 fun c _ j c' e' e2 => ?_) nd ((passes_len he).trans (by rw [List.length_cons]; exact hn)) he hs fun r es' v H' G' L' f' le' rr' LA q => ?_
  · obtain ⟨v', h4, l', h5, n', g', hc'⟩ := rr.get e'
    rw [e2] at h4
    cases h4
    cases h5
    exact absurd nx hc'.some
  · obtain ⟨rfl, cn', fs, es'', rfl, q⟩ := q
    have ev : v = .non := by
      cases (show At K G' v .non from rr')
      rfl
    subst ev
    refine ⟨rfl, ?_⟩
    obtain ⟨l, e1, e2, e3⟩ := LA.ow 0 _ rfl
    have el : x = l := by
      have e4 : (some (some (V.ref x)) : Option (Option V)) = some (some (V.ref l)) := e1
      cases e4
      rfl
    subst el
    exact k (.fr (.o cn' fs)) (puts δ1 rs es'') (.ref x) H' G' L' f' le' ⟨x, rfl, hx, e2, e3⟩ q
/-- e.f -/
def tfld (f : Str) (T : DT) : DT := fun δ Q => T δ fun r δ1 => ∃ cn ns ds d, r.dat δ1 = some (.obj cn ns ds) ∧ (ns.zip ds).lookup f = some d ∧ Q (.va d) δ1
theorem zip_some {G : Hp} {f : Str} {d : D} : ∀ {ns : List Str} {vs : List V} {ds : List D}, AtL K G vs ds → (ns.zip ds).lookup f = some d → ∃ v, (ns.zip vs).lookup f = some v ∧ At K G v d
  | [], _, _, _, h => by
    rw [List.zip_nil_left] at h
    cases h
  | n :: ns, _, _, .nil, h => by
    rw [List.zip_nil_right] at h
    cases h
  | n :: ns, v :: vs, d' :: ds, .cons a t, h => by
    rw [List.zip_cons_cons, List.lookup_cons] at h ⊢
    cases e : (f == n) with
    | true =>
      rw [e] at h
      cases h
      exact ⟨v, rfl, a⟩
    | false =>
      rw [e] at h
      exact zip_some t h
/-- what a class must have for the field f -/
def FldOk (K : PySem.W.Frag) (f : Str) (cn : Str) : Prop := Cls K (He.ga K cn) ∧ NoAttr K (He.ga K cn) f
def tfldc (cn f : Str) (T : DT) : DT := fun δ Q => T δ fun r δ1 => ∃ ns ds d, r.dat δ1 = some (.obj cn ns ds) ∧ (ns.zip ds).lookup f = some d ∧ Q (.va d) δ1
theorem snd_fld {cn f : Str} {t : TE} {T : DT} (c : Cls K (He.ga K cn)) (n : NoAttr K (He.ga K cn) f) (a : Snd K t T) : Snd K (tFld K t f) (tfldc cn f T) := fun σ H G δ Q Q3 L h k => by
  refine a σ H G δ _ _ L h fun r δ1 v H1 G1 L1 f1 le1 rr q1 => ?_
  obtain ⟨ns, ds, d, ed, el, q⟩ := q1
  obtain ⟨x, dx, vs, rfl, h1, h2, h3⟩ := sh_of L1 rr ed
  obtain ⟨v, e1, e2⟩ := zip_some h3 el
  exact ⟨x, _, dx, _, v, rfl, h1, c, n, e1, k (.va d) δ1 v H1 G1 L1 f1 le1 e2 q⟩
end
end L3
/-! L3, part F: statements. -/
namespace L3
open PySem PySem.Spec PyProof.Rows L2
/-- a def's entry: where its owned arguments stand, the heap there -/
structure FE where
  P : Nat → Addr → Prop
  HE : Hp
  GE : Hp
structure S3 (K : PySem.W.Frag) (F : FE) (σ : L2.St) (H G : Hp) (δ : En) : Prop where
  L : Rel K σ H G δ
  f : Fr (fun a => ∃ j, F.P j a) F.HE F.GE H G
  own : ∀ (j : Nat) (c : Cn) (l : Addr), δ[j]? = some (E.ow c) → σ[j]? = some (some (V.ref l)) → F.P j l ∨ F.HE l = none
  par : ∀ (j : Nat) (l : Addr), F.P j l → σ[j]? = some (some (V.ref l))
structure Nxt (K : PySem.W.Frag) (F : FE) (as : List Nat) (σ : L2.St) (H G : Hp) (δ : En) (σ' : L2.St) (H' G' : Hp) (δ' : En) : Prop where
  s : S3 K F σ' H' G' δ'
  f : Fr (Ad σ δ) H G H' G'
  ow : ∀ l, Ad σ' δ' l → Ad σ δ l ∨ H l = none
  st : ∀ i : Nat, i ∉ as → σ'[i]? = σ[i]?
  ln : σ'.length = σ.length
section
variable {K : PySem.W.Frag} {F : FE} {as bs : List Nat} {σ σ1 σ2 : L2.St} {H G H1 G1 H2 G2 : Hp} {δ δ1 δ2 : En}
theorem Nxt.refl (s : S3 K F σ H G δ) : Nxt K F as σ H G δ σ H G δ := ⟨s, .refl, fun _ h => .inl h, fun _ _ => rfl, rfl⟩
theorem Nxt.trans (x : Nxt K F as σ H G δ σ1 H1 G1 δ1) (y : Nxt K F bs σ1 H1 G1 δ1 σ2 H2 G2 δ2) : Nxt K F (as ++ bs) σ H G δ σ2 H2 G2 δ2 where
  s := y.s
  f := x.f.trans y.f x.ow
  ow := fun l h => (y.ow l h).elim (x.ow l) fun z => .inr (x.f.free z)
  st := fun i h => (y.st i fun z => h (List.mem_append_right _ z)).trans (x.st i fun z => h (List.mem_append_left _ z))
  ln := y.ln.trans x.ln
theorem Nxt.mono (x : Nxt K F as σ H G δ σ1 H1 G1 δ1) (h : ∀ i, i ∈ as → i ∈ bs) : Nxt K F bs σ H G δ σ1 H1 G1 δ1 := ⟨x.s, x.f, x.ow, fun i n => x.st i fun z => n (h i z), x.ln⟩
/-- behind an expression -/
theorem S3.step (s : S3 K F σ H G δ) (L : Rel K σ H1 G1 δ1) (f : Fr (Ad σ δ) H G H1 G1) (le : Le δ1 δ) : S3 K F σ H1 G1 δ1 where
  L := L
  f := s.f.trans f fun a ⟨j, c, e, q⟩ => (s.own j c a e q).elim (fun z => .inl ⟨j, z⟩) .inr
  own := fun j c l e q => by
    obtain ⟨c', e'⟩ := le j c e
    exact s.own j c' l e' q
  par := s.par
theorem Nxt.step (s : S3 K F σ H G δ) (L : Rel K σ H1 G1 δ1) (f : Fr (Ad σ δ) H G H1 G1) (le : Le δ1 δ) : Nxt K F as σ H G δ σ H1 G1 δ1 := ⟨s.step L f le, f, fun l h => .inl (le.ad h), fun _ _ => rfl, rfl⟩
end
/-- what is wanted behind a statement -/
structure DE where
  nx : En → Prop
  rt : R → En → Prop
  bk : En → Prop := fun _ => False
  ct : En → Prop := fun _ => False
abbrev DS := DE → En → Prop
structure Good (K : PySem.W.Frag) (F : FE) (as : List Nat) (σ : L2.St) (H G : Hp) (δ : En) (D3 : DE) (D : Ends) : Prop where
  nx : ∀ σ' H' G' δ', Nxt K F as σ H G δ σ' H' G' δ' → D3.nx δ' → D.nx σ' H'
  bk : ∀ σ' H' G' δ', Nxt K F as σ H G δ σ' H' G' δ' → D3.bk δ' → D.bk σ' H'
  ct : ∀ σ' H' G' δ', Nxt K F as σ H G δ σ' H' G' δ' → D3.ct δ' → D.ct σ' H'
  rt : ∀ σ' H' G' δ' r v, Nxt K F as σ H G δ σ' H' G' δ' → RR K [] F.HE H' G' r v → (∀ i, r ≠ .rf i) → D3.rt r δ' → D.rt v H'
/-- t is sound for T: a statement that stores the slots as -/
def SndS (K : PySem.W.Frag) (as : List Nat) (t : TS) (T : DS) : Prop := ∀ (F : FE), (∀ i ∈ as, ∀ l, ¬ F.P i l) → ∀ (σ : L2.St) (H G : Hp) (δ : En) (D3 : DE) (D : Ends), S3 K F σ H G δ → T D3 δ → Good K F as σ H G δ D3 D → t D σ H
section
variable {K : PySem.W.Frag}
theorem Good.from {F : FE} {as bs cs : List Nat} {σ σ1 : L2.St} {H G H1 G1 : Hp} {δ δ1 : En} {D3 : DE} {D : Ends} (g : Good K F cs σ H G δ D3 D) (n : Nxt K F as σ H G δ σ1 H1 G1 δ1) (h : ∀ i, i ∈ as ++ bs → i ∈ cs) : Good K F bs σ1 H1 G1 δ1 D3 D :=
  ⟨fun _ _ _ _ m q => g.nx _ _ _ _ ((n.trans m).mono h) q, fun _ _ _ _ m q => g.bk _ _ _ _ ((n.trans m).mono h) q, fun _ _ _ _ m q => g.ct _ _ _ _ ((n.trans m).mono h) q, fun _ _ _ _ _ _ m rr nr q => g.rt _ _ _ _ _ _ ((n.trans m).mono h) rr nr q⟩
def seq (T U : DS) : DS := fun D δ => T { D with nx := U D } δ
theorem snds_seq {as bs : List Nat} {t u : TS} {T U : DS} (a : SndS K as t T) (b : SndS K bs u U) : SndS K (as ++ bs) (tSeq t u) (seq T U) := fun F hp σ H G δ D3 D s h g => by
  refine a F (fun i hi => hp i (List.mem_append_left _ hi)) σ H G δ _ _ s h ⟨fun σ' H' G' δ' n q => ?_, fun σ' H' G' δ' n q => ?_, fun σ' H' G' δ' n q => ?_, fun σ' H' G' δ' r v n rr nr q => ?_⟩
  · exact b F (fun i hi => hp i (List.mem_append_right _ hi)) σ' H' G' δ' _ _ n.s q (g.from n fun _ z => z)
  · exact g.bk _ _ _ _ (n.mono fun _ z => List.mem_append_left _ z) q
  · exact g.ct _ _ _ _ (n.mono fun _ z => List.mem_append_left _ z) q
  · exact g.rt _ _ _ _ _ _ (n.mono fun _ z => List.mem_append_left _ z) rr nr q
def snext : DS := fun D δ => D.nx δ
def sbreak : DS := fun D δ => D.bk δ
def scont : DS := fun D δ => D.ct δ
theorem snds_next : SndS K [] tNext snext := fun F hp σ H G δ D3 D s h g => g.nx _ _ _ _ (.refl s) h
theorem snds_break : SndS K [] tBreak sbreak := fun F hp σ H G δ D3 D s h g => g.bk _ _ _ _ (.refl s) h
theorem snds_cont : SndS K [] tCont scont := fun F hp σ H G δ D3 D s h g => g.ct _ _ _ _ (.refl s) h
/-- a way that is not gone -/
def snever : DS := fun _ _ => False
theorem snds_never : SndS K [] tNever snever := fun F hp σ H G δ D3 D s h g => h
def sexpr (T : DT) : DS := fun D δ => T δ fun _ δ1 => D.nx δ1
theorem snds_expr {t : TE} {T : DT} (a : Snd K t T) : SndS K [] (tDrop t) (sexpr T) := fun F hp σ H G δ D3 D s h g =>
  a σ H G δ _ _ s.L h fun r δ1 v H1 G1 L1 f1 le1 rr q => g.nx _ _ _ _ (.step s L1 f1 le1) q
def sif (c : DTT) (T U : DS) : DS := fun D δ => c δ fun b δ1 => if b = true then T D δ1 else U D δ1
theorem snds_if {as bs : List Nat} {c : TT} {t u : TS} {C : DTT} {T U : DS} (hc : SndT K c C) (a : SndS K as t T) (b : SndS K bs u U) : SndS K (as ++ bs) (tIfS c t u) (sif C T U) := fun F hp σ H G δ D3 D s h g => by
  refine hc σ H G δ _ _ s.L h fun k δ1 H1 G1 L1 f1 le1 q => ?_
  have n : Nxt K F [] σ H G δ σ H1 G1 δ1 := .step s L1 f1 le1
  cases k with
  | true => exact a F (fun i hi => hp i (List.mem_append_left _ hi)) σ H1 G1 δ1 _ _ n.s q (g.from n fun _ z => List.mem_append_left _ z)
  | false => exact b F (fun i hi => hp i (List.mem_append_right _ hi)) σ H1 G1 δ1 _ _ n.s q (g.from n fun _ z => List.mem_append_right _ z)
/-- what a def hands back: an owned object of its own is new for its caller -/
def outE : Option E → Option R
  | some (.va d) => some (.va d)
  | some (.ow c) => some (.fr c)
  | _ => none
def R.out (δ : En) : R → Option R
  | .va d => some (.va d)
  | .fr c => some (.fr c)
  | .rf i => outE δ[i]?
/-- e is no owned argument -/
def sret (ps : List Nat) (T : DT) : DS := fun D δ => T δ fun r δ1 => ∃ r', r.out δ1 = some r' ∧ (∀ i, r = .rf i → i ∉ ps) ∧ D.rt r' δ1
theorem rr_base0 {σ : L2.St} {HE H0 H G : Hp} {r : R} {v : V} (nr : ∀ i, r ≠ .rf i) (h : RR K σ H0 H G r v) (k : ∀ a, H0 a = none → HE a = none) : RR K [] HE H G r v := by
  cases r with
  | va d => exact h
  | fr c =>
    obtain ⟨l, e, n, g, q⟩ := h
    exact ⟨l, e, k l n, g, q⟩
  | rf i => exact absurd rfl (nr i)
def SndSP (K : PySem.W.Frag) (ps as : List Nat) (t : TS) (T : DS) : Prop := ∀ (F : FE), (∀ i l, F.P i l → i ∈ ps) → (∀ i ∈ as, ∀ l, ¬ F.P i l) → ∀ (σ : L2.St) (H G : Hp) (δ : En) (D3 : DE) (D : Ends), S3 K F σ H G δ → T D3 δ → Good K F as σ H G δ D3 D → t D σ H
theorem rr_out {σ : L2.St} {HE H0 H G : Hp} {δ : En} {r r' : R} {v : V} (L : Rel K σ H G δ) (rr : RR K σ H0 H G r v) (k : ∀ a, H0 a = none → HE a = none) (e : r.out δ = some r') (own : ∀ i c l, r = .rf i → δ[i]? = some (E.ow c) → σ[i]? = some (some (V.ref l)) → HE l = none) : RR K [] HE H G r' v ∧ ∀ i, r' ≠ .rf i := by
  cases r with
  | va d =>
    cases e
    exact ⟨rr, fun i z => nomatch z⟩
  | fr c =>
    cases e
    exact ⟨rr_base0 (fun i z => nomatch z) rr k, fun i z => nomatch z⟩
  | rf i =>
    have e2 : outE δ[i]? = some r' := e
    unfold outE at e2
    split at e2
    · rename_i d q
      cases e2
      obtain ⟨v', h1, h2⟩ := L.va i _ q
      rw [show σ[i]? = some (some v) from rr] at h1
      cases h1
      exact ⟨h2, fun i z => nomatch z⟩
    · rename_i c q
      cases e2
      obtain ⟨l, h1, h2, h3⟩ := L.ow i _ q
      rw [show σ[i]? = some (some v) from rr] at h1
      cases h1
      exact ⟨⟨l, rfl, own i c l rfl q rr, h2, h3⟩, fun i z => nomatch z⟩
    · cases e2
theorem snds_ret {t : TE} {T : DT} {ps : List Nat} (a : Snd K t T) : SndSP K ps [] (tRet t) (sret ps T) := fun F hps hp σ H G δ D3 D s h g => by
  refine a σ H G δ _ _ s.L h fun r δ1 v H1 G1 L1 f1 le1 rr q => ?_
  obtain ⟨r', e, np, q⟩ := q
  have n : Nxt K F [] σ H G δ σ H1 G1 δ1 := .step s L1 f1 le1
  obtain ⟨h1, h2⟩ := rr_out L1 rr (fun a z => s.f.free z) e fun i c l e1 e2 e3 => (n.s.own i c l e2 e3).elim (fun z => absurd (hps i l z) (np i e1)) id
  exact g.rt _ _ _ _ _ _ n h1 h2 q
def sretN : DS := fun D δ => D.rt (.va .non) δ
theorem snds_retN {ps : List Nat} : SndSP K ps [] tRetN sretN := fun F hps hp σ H G δ D3 D s h g => g.rt _ _ _ _ (.va .non) .non (.refl s) At.non (fun i z => nomatch z) h
theorem SndS.p {ps as : List Nat} {t : TS} {T : DS} (a : SndS K as t T) : SndSP K ps as t T := fun F _ hp => a F hp
theorem sndp_seq {ps as bs : List Nat} {t u : TS} {T U : DS} (a : SndSP K ps as t T) (b : SndSP K ps bs u U) : SndSP K ps (as ++ bs) (tSeq t u) (seq T U) := fun F hps hp σ H G δ D3 D s h g => by
  refine a F hps (fun i hi => hp i (List.mem_append_left _ hi)) σ H G δ _ _ s h ⟨fun σ' H' G' δ' n q => ?_, fun σ' H' G' δ' n q => ?_, fun σ' H' G' δ' n q => ?_, fun σ' H' G' δ' r v n rr nr q => ?_⟩
  · exact b F hps (fun i hi => hp i (List.mem_append_right _ hi)) σ' H' G' δ' _ _ n.s q (g.from n fun _ z => z)
  · exact g.bk _ _ _ _ (n.mono fun _ z => List.mem_append_left _ z) q
  · exact g.ct _ _ _ _ (n.mono fun _ z => List.mem_append_left _ z) q
  · exact g.rt _ _ _ _ _ _ (n.mono fun _ z => List.mem_append_left _ z) rr nr q
theorem sndp_if {ps as bs : List Nat} {c : TT} {t u : TS} {C : DTT} {T U : DS} (hc : SndT K c C) (a : SndSP K ps as t T) (b : SndSP K ps bs u U) : SndSP K ps (as ++ bs) (tIfS c t u) (sif C T U) := fun F hps hp σ H G δ D3 D s h g => by
  refine hc σ H G δ _ _ s.L h fun k δ1 H1 G1 L1 f1 le1 q => ?_
  have n : Nxt K F [] σ H G δ σ H1 G1 δ1 := .step s L1 f1 le1
  cases k with
  | true => exact a F hps (fun i hi => hp i (List.mem_append_left _ hi)) σ H1 G1 δ1 _ _ n.s q (g.from n fun _ z => List.mem_append_left _ z)
  | false => exact b F hps (fun i hi => hp i (List.mem_append_right _ hi)) σ H1 G1 δ1 _ _ n.s q (g.from n fun _ z => List.mem_append_right _ z)
/-! ### assignments -/
theorem set_get {α : Type} {xs : List α} {i j : Nat} {x y : α} (h : (xs.set i x)[j]? = some y) : (i = j ∧ x = y ∧ i < xs.length) ∨ (i ≠ j ∧ xs[j]? = some y) := by
  by_cases z : i = j
  · subst z
    have hi : i < xs.length := by
      have := (List.getElem?_eq_some_iff.mp h).1
      rw [List.length_set] at this
      exact this
    rw [List.getElem?_set_self hi] at h
    cases h
    exact .inl ⟨rfl, rfl, hi⟩
  · rw [List.getElem?_set_ne z] at h
    exact .inr ⟨z, h⟩
theorem Rel.setV {σ : L2.St} {H G : Hp} {δ : En} {i : Nat} {v : V} {d : D} (L : Rel K σ H G δ) (h : At K G v d) : Rel K (σ.set i (some v)) H G (δ.set i (.va d)) where
  len := by rw [List.length_set, List.length_set]; exact L.len
  sub := L.sub
  va := fun j d' e => by
    rcases set_get e with ⟨rfl, e2, hi⟩ | ⟨ne, e2⟩
    · cases e2
      exact ⟨v, List.getElem?_set_self (by rw [L.len]; exact hi), h⟩
    · obtain ⟨v', h1, h2⟩ := L.va j d' e2
      exact ⟨v', by rw [List.getElem?_set_ne ne]; exact h1, h2⟩
  ow := fun j c e => by
    rcases set_get e with ⟨rfl, e2, hi⟩ | ⟨ne, e2⟩
    · cases e2
    · obtain ⟨l, h1, h2, h3⟩ := L.ow j c e2
      exact ⟨l, by rw [List.getElem?_set_ne ne]; exact h1, h2, h3⟩
  dj := fun j k l c c' e e' q q' => by
    rcases set_get e with ⟨rfl, e2, hi⟩ | ⟨ne, e2⟩
    · cases e2
    · rcases set_get e' with ⟨rfl, e3, hi⟩ | ⟨ne', e3⟩
      · cases e3
      · rw [List.getElem?_set_ne ne] at q
        rw [List.getElem?_set_ne ne'] at q'
        exact L.dj j k l c c' e2 e3 q q'
theorem Rel.setO {σ : L2.St} {H G : Hp} {δ : En} {i : Nat} {l : Addr} {c : Cn} (L : Rel K σ H G δ) (g : G l = none) (h : AtC K H G l c) (n : ¬ Ad σ δ l) : Rel K (σ.set i (some (.ref l))) H G (δ.set i (.ow c)) where
  len := by rw [List.length_set, List.length_set]; exact L.len
  sub := L.sub
  va := fun j d' e => by
    rcases set_get e with ⟨rfl, e2, hi⟩ | ⟨ne, e2⟩
    · cases e2
    · obtain ⟨v', h1, h2⟩ := L.va j d' e2
      exact ⟨v', by rw [List.getElem?_set_ne ne]; exact h1, h2⟩
  ow := fun j c' e => by
    rcases set_get e with ⟨rfl, e2, hi⟩ | ⟨ne, e2⟩
    · cases e2
      exact ⟨l, List.getElem?_set_self (by rw [L.len]; exact hi), g, h⟩
    · obtain ⟨l, h1, h2, h3⟩ := L.ow j c' e2
      exact ⟨l, by rw [List.getElem?_set_ne ne]; exact h1, h2, h3⟩
  dj := fun j k l' c' c'' e e' q q' => by
    rcases set_get e with ⟨rfl, e2, hi⟩ | ⟨ne, e2⟩
    · rcases set_get e' with ⟨rfl, e3, hi'⟩ | ⟨ne', e3⟩
      · rfl
      · rw [List.getElem?_set_self (by rw [L.len]; exact hi)] at q
        rw [List.getElem?_set_ne ne'] at q'
        cases q
        exact absurd ⟨k, c'', e3, q'⟩ n
    · rcases set_get e' with ⟨rfl, e3, hi'⟩ | ⟨ne', e3⟩
      · rw [List.getElem?_set_self (by rw [L.len]; exact hi')] at q'
        rw [List.getElem?_set_ne ne] at q
        cases q'
        exact absurd ⟨j, c', e2, q⟩ n
      · rw [List.getElem?_set_ne ne] at q
        rw [List.getElem?_set_ne ne'] at q'
        exact L.dj j k l' c' c'' e2 e3 q q'
theorem Rel.setN {σ : L2.St} {H G : Hp} {δ : En} {i : Nat} {v : Option V} (L : Rel K σ H G δ) : Rel K (σ.set i v) H G (δ.set i .no) where
  len := by rw [List.length_set, List.length_set]; exact L.len
  sub := L.sub
  va := fun j d' e => by
    rcases set_get e with ⟨rfl, e2, hi⟩ | ⟨ne, e2⟩
    · cases e2
    · obtain ⟨v', h1, h2⟩ := L.va j d' e2
      exact ⟨v', by rw [List.getElem?_set_ne ne]; exact h1, h2⟩
  ow := fun j c' e => by
    rcases set_get e with ⟨rfl, e2, hi⟩ | ⟨ne, e2⟩
    · cases e2
    · obtain ⟨l, h1, h2, h3⟩ := L.ow j c' e2
      exact ⟨l, by rw [List.getElem?_set_ne ne]; exact h1, h2, h3⟩
  dj := fun j k l c c' e e' q q' => by
    rcases set_get e with ⟨rfl, e2, hi⟩ | ⟨ne, e2⟩
    · cases e2
    · rcases set_get e' with ⟨rfl, e3, hi⟩ | ⟨ne', e3⟩
      · cases e3
      · rw [List.getElem?_set_ne ne] at q
        rw [List.getElem?_set_ne ne'] at q'
        exact L.dj j k l c c' e2 e3 q q'
/-- an owned object's new content -/
theorem Rel.setC {σ : L2.St} {H G H' : Hp} {δ : En} {i : Nat} {l : Addr} {c c' : Cn} (L : Rel K σ H G δ) (e : δ[i]? = some (E.ow c)) (q : σ[i]? = some (some (V.ref l))) (k : ∀ a o, a ≠ l → H a = some o → H' a = some o) (h : AtC K H' G l c') : Rel K σ H' G (δ.set i (.ow c')) where
  len := by rw [List.length_set]; exact L.len
  sub := fun a o g => by
    have : a ≠ l := fun z => by
      subst z
      rw [L.gnone ⟨i, c, e, q⟩] at g
      cases g
    exact k a o this (L.sub a o g)
  va := fun j d' e => by
    rcases set_get e with ⟨rfl, e2, hi⟩ | ⟨ne, e2⟩
    · cases e2
    · exact L.va j d' e2
  ow := fun j c2 e' => by
    rcases set_get e' with ⟨rfl, e2, hi⟩ | ⟨ne, e2⟩
    · cases e2
      exact ⟨l, q, L.gnone ⟨i, c, e, q⟩, h⟩
    · obtain ⟨l2, h1, h2, h3⟩ := L.ow j c2 e2
      have nl : l2 ≠ l := fun z => ne (L.dj i j l c c2 e e2 q (by rw [← z]; exact h1))
      exact ⟨l2, h1, h2, h3.mono (fun o z => k l2 o nl z) .refl⟩
  dj := fun j k l' c1 c2 e1 e2 q1 q2 => by
    have up : ∀ j c, (δ.set i (.ow c'))[j]? = some (E.ow c) → ∃ c2, δ[j]? = some (E.ow c2) := fun j c2 e3 => by
      rcases set_get e3 with ⟨rfl, e4, hi⟩ | ⟨ne, e4⟩
      · exact ⟨c, e⟩
      · exact ⟨c2, e4⟩
    obtain ⟨_, h1⟩ := up j c1 e1
    obtain ⟨_, h2⟩ := up k c2 e2
    exact L.dj j k l' _ _ h1 h2 q1 q2
theorem Le.set {δ : En} {i : Nat} {c c' : Cn} (e : δ[i]? = some (E.ow c)) : Le (δ.set i (.ow c')) δ := fun j c2 e2 => by
  rcases set_get e2 with ⟨rfl, _, _⟩ | ⟨_, e3⟩
  · exact ⟨c, e⟩
  · exact ⟨c2, e3⟩
theorem Nxt.setV {F : FE} {σ : L2.St} {H G : Hp} {δ : En} {i : Nat} {v : V} {d : D} (s : S3 K F σ H G δ) (hp : ∀ l, ¬ F.P i l) (h : At K G v d) : Nxt K F [i] σ H G δ (σ.set i (some v)) H G (δ.set i (.va d)) where
  s := ⟨s.L.setV h, s.f, fun j c l e q => by
    rcases set_get e with ⟨rfl, e2, hi⟩ | ⟨ne, e2⟩
    · cases e2
    · rw [List.getElem?_set_ne ne] at q
      exact s.own j c l e2 q, fun j l z => by
    have ne : i ≠ j := fun q => hp l (by rw [q]; exact z)
    rw [List.getElem?_set_ne ne]
    exact s.par j l z⟩
  f := .refl
  ow := fun l ⟨j, c, e, q⟩ => by
    rcases set_get e with ⟨rfl, e2, hi⟩ | ⟨ne, e2⟩
    · cases e2
    · rw [List.getElem?_set_ne ne] at q
      exact .inl ⟨j, c, e2, q⟩
  st := fun j n => List.getElem?_set_ne fun z => n (by rw [z]; exact List.mem_cons_self)
  ln := List.length_set
theorem Nxt.setO {F : FE} {σ : L2.St} {H0 G0 H G : Hp} {δ0 δ : En} {i : Nat} {l : Addr} {c : Cn} (s0 : S3 K F σ H0 G0 δ0) (n : Nxt K F [] σ H0 G0 δ0 σ H G δ) (le : Le δ δ0) (hp : ∀ l, ¬ F.P i l) (h0 : H0 l = none) (g : G l = none) (h : AtC K H G l c) :
    Nxt K F [i] σ H0 G0 δ0 (σ.set i (some (.ref l))) H G (δ.set i (.ow c)) where
  s := ⟨n.s.L.setO g h fun z => s0.L.there (le.ad z) h0, n.s.f, fun j c' l' e q => by
    rcases set_get e with ⟨rfl, e2, hi⟩ | ⟨ne, e2⟩
    · rw [List.getElem?_set_self (by rw [n.s.L.len]; exact hi)] at q
      cases q
      exact .inr (s0.f.free h0)
    · rw [List.getElem?_set_ne ne] at q
      exact n.s.own j c' l' e2 q, fun j l z => by
    have ne : i ≠ j := fun q => hp l (by rw [q]; exact z)
    rw [List.getElem?_set_ne ne]
    exact n.s.par j l z⟩
  f := n.f
  ow := fun l' ⟨j, c', e, q⟩ => by
    rcases set_get e with ⟨rfl, e2, hi⟩ | ⟨ne, e2⟩
    · rw [List.getElem?_set_self (by rw [n.s.L.len]; exact hi)] at q
      cases q
      exact .inr h0
    · rw [List.getElem?_set_ne ne] at q
      exact .inl (le.ad ⟨j, c', e2, q⟩)
  st := fun j n => List.getElem?_set_ne fun z => n (by rw [z]; exact List.mem_cons_self)
  ln := List.length_set
/-- x = e: it stands still from now on -/
def sset (i : Nat) (T : DT) : DS := fun D δ => T δ fun r δ1 => ∃ d, r.still δ1 = some d ∧ D.nx (δ1.set i (.va d))
theorem snds_set {i : Nat} {t : TE} {T : DT} (a : Snd K t T) : SndS K [i] (tAsg t (gName i)) (sset i T) := fun F hp σ H G δ D3 D s h g => by
  refine a σ H G δ _ _ s.L h fun r δ1 v H1 G1 L1 f1 le1 rr q => ?_
  obtain ⟨d, e, q⟩ := q
  obtain ⟨G2, L2, f2, s2, h2, _⟩ := settle s.L L1 f1 le1 rr e
  have n : Nxt K F [] σ H G δ σ H1 G2 δ1 := .step s L2 f2 le1
  exact g.nx _ _ _ _ (n.trans (Nxt.setV n.s (hp i List.mem_cons_self) h2)) q
/-- x = e: an object of our own -/
def ssetO (i : Nat) (T : DT) : DS := fun D δ => T δ fun r δ1 => ∃ c, r = .fr c ∧ D.nx (δ1.set i (.ow c))
theorem snds_setO {i : Nat} {t : TE} {T : DT} (a : Snd K t T) : SndS K [i] (tAsg t (gName i)) (ssetO i T) := fun F hp σ H G δ D3 D s h g => by
  refine a σ H G δ _ _ s.L h fun r δ1 v H1 G1 L1 f1 le1 rr q => ?_
  obtain ⟨c, rfl, q⟩ := q
  obtain ⟨l, rfl, n0, g0, hc⟩ := rr
  exact g.nx _ _ _ _ (Nxt.setO s (.step s L1 f1 le1) le1 (hp i List.mem_cons_self) n0 g0 hc) q
end
end L3
/-! L3, part G: targets, list methods, sources, loops, comprehensions. -/
namespace L3
open PySem PySem.Spec PyProof.Rows L2
section
variable {K : PySem.W.Frag}
/-! ### new contents -/
theorem fr_upd {A : Addr → Prop} {H G : Hp} {l : Addr} {o : HO} (h : A l) : Fr A H G (upd H l o) G where
  h := fun a u n e => by
    have : a ≠ l := fun z => n (by rw [z]; exact h)
    rw [upd_ne this]
    exact e
  g := fun _ _ e => e
  n := fun _ _ _ => rfl
  d := fun a e => by
    unfold upd
    split
    · exact fun z => nomatch z
    · exact e
theorem Rel.upC {σ : L2.St} {H G : Hp} {δ : En} {i : Nat} {l : Addr} {c c' : Cn} {o : HO} (L : Rel K σ H G δ) (e : δ[i]? = some (E.ow c)) (q : σ[i]? = some (some (V.ref l))) (h : AtC K (upd H l o) G l c') :
    Rel K σ (upd H l o) G (δ.set i (.ow c')) ∧ Fr (Ad σ δ) H G (upd H l o) G ∧ Le (δ.set i (.ow c')) δ :=
  ⟨L.setC e q (fun a u n g => by rw [upd_ne n]; exact g) h, fr_upd ⟨i, c, e, q⟩, Le.set e⟩
theorem Rel.owl {σ : L2.St} {H G : Hp} {δ : En} {i : Nat} {v : V} {xs : List D} (L : Rel K σ H G δ) (e : δ[i]? = some (E.ow (.l xs))) (q : σ[i]? = some (some v)) : ∃ l vs, v = .ref l ∧ H l = some (.lst vs) ∧ AtL K G vs xs := by
  obtain ⟨l, h1, _, vs, h2, h3⟩ := L.ow i _ e
  rw [q] at h1
  cases h1
  exact ⟨l, vs, rfl, h2, h3⟩
theorem Le.setV {δ : En} (i : Nat) (d : D) : Le (δ.set i (.va d)) δ := fun j c e => by
  rcases set_get e with ⟨_, z, _⟩ | ⟨_, z⟩
  · cases z
  · exact ⟨c, z⟩
/-! ### targets -/
abbrev DG := D → En → (En → Prop) → Prop
abbrev DGs := List D → En → (En → Prop) → Prop
def SndG (K : PySem.W.Frag) (as : List Nat) (g : TG) (T : DG) : Prop := ∀ (F : FE), (∀ i ∈ as, ∀ l, ¬ F.P i l) → ∀ (σ : L2.St) (H G : Hp) (δ : En) (v : V) (d : D) (Q : L2.St → Hp → Prop) (Q3 : En → Prop), S3 K F σ H G δ → At K G v d → T d δ Q3 →
  (∀ σ' H' G' δ', Nxt K F as σ H G δ σ' H' G' δ' → Le δ' δ → Q3 δ' → Q σ' H') → g v σ H Q
def SndGs (K : PySem.W.Frag) (as : List Nat) (g : TGs) (T : DGs) : Prop := ∀ (F : FE), (∀ i ∈ as, ∀ l, ¬ F.P i l) → ∀ (σ : L2.St) (H G : Hp) (δ : En) (vs : List V) (ds : List D) (Q : L2.St → Hp → Prop) (Q3 : En → Prop), S3 K F σ H G δ → AtL K G vs ds → T ds δ Q3 →
  (∀ σ' H' G' δ', Nxt K F as σ H G δ σ' H' G' δ' → Le δ' δ → Q3 δ' → Q σ' H') → g vs σ H Q
def dName (i : Nat) : DG := fun d δ Q => Q (δ.set i (.va d))
theorem sndg_name {i : Nat} : SndG K [i] (gName i) (dName i) := fun F hp σ H G δ v d Q Q3 s h q k => k _ _ _ _ (Nxt.setV s (hp i List.mem_cons_self) h) (Le.setV i d) q
def dTup (n : Nat) (T : DGs) : DG := fun d δ Q => ∃ ds, d = .tup ds ∧ ds.length = n ∧ T ds δ Q
theorem sndg_tup {n : Nat} {as : List Nat} {g : TGs} {T : DGs} (a : SndGs K as g T) : SndG K as (gTup K n g) (dTup n T) := fun F hp σ H G δ v d Q Q3 s h q k => by
  obtain ⟨ds, rfl, hl, q⟩ := q
  cases h with
  | tup h t => exact ⟨_, _, rfl, s.L.sub.sqT h, by rw [t.length]; exact hl, a F hp σ H G δ _ ds Q Q3 s t q k⟩
def dNil : DGs := fun ds δ Q => ds = [] ∧ Q δ
def dCons (T : DG) (U : DGs) : DGs := fun ds δ Q => ∃ d r, ds = d :: r ∧ T d δ fun δ1 => U r δ1 Q
theorem sndgs_nil : SndGs K [] gNil dNil := fun F hp σ H G δ vs ds Q Q3 s h q k => by
  obtain ⟨rfl, q⟩ := q
  cases h
  exact ⟨rfl, k _ _ _ _ (.refl s) .refl q⟩
theorem sndgs_cons {as bs : List Nat} {g : TG} {gs : TGs} {T : DG} {U : DGs} (a : SndG K as g T) (b : SndGs K bs gs U) : SndGs K (as ++ bs) (gCons g gs) (dCons T U) := fun F hp σ H G δ vs ds Q Q3 s h q k => by
  obtain ⟨d, r, rfl, q⟩ := q
  cases h with
  | cons h t =>
    refine ⟨_, _, rfl, a F (fun i hi => hp i (List.mem_append_left _ hi)) σ H G δ _ d _ _ s h q fun σ1 H1 G1 δ1 n le q1 => ?_⟩
    exact b F (fun i hi => hp i (List.mem_append_right _ hi)) σ1 H1 G1 δ1 _ r _ _ n.s (t.mono n.f.sub) q1 fun σ2 H2 G2 δ2 n2 le2 q2 => k _ _ _ _ (n.trans n2) (le2.trans le) q2
/-- xs[i] = .. of a list of our own -/
def dSub (To Ti : DT) : DG := fun d δ Q => To δ fun ro δ1 => Ti δ1 fun ri δ2 => ∃ i xs k j, ro = .rf i ∧ δ2[i]? = some (E.ow (.l xs)) ∧ ri = .va (.int k) ∧ ixN xs.length k = some j ∧ Q (δ2.set i (.ow (.l (xs.set j d))))
theorem sndg_sub {to ti : TE} {To Ti : DT} (a : Snd K to To) (b : Snd K ti Ti) : SndG K [] (gSub to ti rSetL) (dSub To Ti) := fun F hp σ H G δ v d Q Q3 s h q k => by
  refine a σ H G δ _ _ s.L q fun ro δ1 vo H1 G1 L1 f1 le1 rr1 q1 => ?_
  refine b σ H1 G1 δ1 _ _ L1 q1 fun ri δ2 vi H2 G2 L2 f2 le2 rr2 q2 => ?_
  obtain ⟨i, xs, m, j, rfl, e, rfl, ej, q⟩ := q2
  obtain ⟨l, vs, rfl, h2, t2⟩ := L2.owl e rr1
  obtain ⟨L3, f3, le3⟩ := L2.upC (o := .lst (vs.set j v)) (c' := .l (xs.set j d)) e rr1 ⟨_, upd_same, t2.set (h.mono (f1.sub.trans f2.sub)) j⟩
  refine ⟨l, vs, m, j, rfl, rr_int rr2, h2, by rw [t2.length]; exact ej, ?_⟩
  have f12 : Fr (Ad σ δ) H G H2 G2 := f1.trans f2 fun a h => .inl (le1.ad h)
  exact k _ _ _ _ (Nxt.step s L3 (f12.trans f3 fun a h => .inl ((le2.trans le1).ad h)) (le3.trans (le2.trans le1))) (le3.trans (le2.trans le1)) q
/-- target = e -/
def sasg (T : DT) (U : DG) : DS := fun D δ => T δ fun r δ1 => ∃ d, r.still δ1 = some d ∧ U d δ1 D.nx
theorem snds_asg {as : List Nat} {t : TE} {g : TG} {T : DT} {U : DG} (a : Snd K t T) (b : SndG K as g U) : SndS K as (tAsg t g) (sasg T U) := fun F hp σ H G δ D3 D s h g => by
  refine a σ H G δ _ _ s.L h fun r δ1 v H1 G1 L1 f1 le1 rr q => ?_
  obtain ⟨d, e, q⟩ := q
  obtain ⟨G2, L2, f2, s2, h2, _⟩ := settle s.L L1 f1 le1 rr e
  have n : Nxt K F [] σ H G δ σ H1 G2 δ1 := .step s L2 f2 le1
  exact b F hp σ H1 G2 δ1 v d _ _ n.s h2 q fun σ' H' G' δ' n2 _ q2 => g.nx _ _ _ _ (n.trans n2) q2
/-- a, b = x, y with plain names; own: true -/
def storeR (δ : En) : Bool → R → Option E
  | true, .fr c => some (.ow c)
  | true, .va d => some (.va d)
  | true, .rf _ => none
  | false, r => (r.still δ).map E.va
def stores (δ : En) : List Nat → List Bool → List R → Option En
  | [], [], [] => some δ
  | i :: is, m :: ms, r :: rs => (storeR δ m r).bind fun e => (stores δ is ms rs).map fun δ' => δ'.set i e
  | _, _, _ => none
def spar (is : List Nat) (ms : List Bool) (T : DTA) : DS := fun D δ => T δ fun rs δ1 => rs.length = is.length ∧ ∃ δ2, stores δ1 is ms rs = some δ2 ∧ D.nx δ2
/-- i op= e -/
def saug (i : Nat) (F : D → D → (R → Prop) → Prop) (T : DT) : DS := fun D δ => ∃ d0, δ[i]? = some (E.va d0) ∧ T δ fun r δ1 => ∃ e, r.dat δ1 = some e ∧ F d0 e fun r' => ∃ d', r' = .va d' ∧ D.nx (δ1.set i (.va d'))
theorem snds_aug {i : Nat} {ti : TIp} {te : TE} {T : DT} {F : D → D → (R → Prop) → Prop} (hr : Snd2 K ti F) (a : Snd K te T) : SndS K [i] (tAug i te ti) (saug i F T) := fun F hp σ H G δ D3 D s h g => by
  obtain ⟨d0, e0, h⟩ := h
  obtain ⟨x, h1, h2⟩ := s.L.va i d0 e0
  refine ⟨x, h1, ?_⟩
  refine a σ H G δ _ _ s.L h fun r δ1 v H1 G1 L1 f1 le1 rr q => ?_
  obtain ⟨e, ee, hF⟩ := q
  refine hr H1 G1 x v d0 e _ _ L1.sub (Sh.of L1.sub (h2.mono f1.sub)) (sh_of L1 rr ee) hF fun r' z H3 G3 f3 s3 rz nr q3 => ?_
  obtain ⟨d', rfl, q3⟩ := q3
  have n : Nxt K F [] σ H G δ σ H3 G3 δ1 := .step s (L1.grow f3 s3) (f1.trans f3 fun _ z => z.elim) le1
  exact g.nx _ _ _ _ (n.trans (Nxt.setV n.s (hp i List.mem_cons_self) rz)) q3
/-! ### methods of lists -/
theorem ty_lst {H : Hp} {l : Addr} {vs : List V} (h : H l = some (.lst vs)) : tyV K "list" (.ref l) H := .inl ⟨rfl, _, SqL.of h⟩
/-- xs.m(..) of a list of our own: f tells the new content and the result -/
def tlm (f : List D → List D → (D → List D → Prop) → Prop) (To : DT) (TA : DTA) : DT := fun δ Q => To δ fun ro δ1 => ∃ i xs0, ro = .rf i ∧ δ1[i]? = some (E.ow (.l xs0)) ∧ TA δ1 fun rs δ2 => ∃ xs ds, δ2[i]? = some (E.ow (.l xs)) ∧ stills δ2 rs = some ds ∧
  f xs ds fun d ys => Q (.va d) (δ2.set i (.ow (.l ys)))
def SndM (K : PySem.W.Frag) (r : V → List V → Hp → VK → Prop) (f : List D → List D → (D → List D → Prop) → Prop) : Prop := ∀ (H G : Hp) (l : Addr) (vs us : List V) (xs ds : List D) (Q : VK) (Q3 : D → List D → Prop), Sub G H → H l = some (.lst vs) → AtL K G vs xs → AtL K G us ds → f xs ds Q3 →
  (∀ d ys v ws, At K G v d → AtL K G ws ys → Q3 d ys → Q v (upd H l (.lst ws))) → r (.ref l) us H Q
theorem snd_lm {r : V → List V → Hp → VK → Prop} {f : List D → List D → (D → List D → Prop) → Prop} {to : TE} {t : TA} {To : DT} {T : DTA} (hr : SndM K r f) (a : Snd K to To) (b : SndA K t T) : Snd K (tBM K "list" r to t) (tlm f To T) := fun σ H G δ Q Q3 L h k => by
  refine a σ H G δ _ _ L h fun ro δ1 v H1 G1 L1 f1 le1 rr q => ?_
  obtain ⟨i, xs0, rfl, e0, q⟩ := q
  obtain ⟨l, vs0, rfl, g0, _⟩ := L1.owl e0 rr
  refine ⟨ty_lst g0, ?_⟩
  refine b σ H1 G1 δ1 _ _ L1 q fun rs δ2 us H2 G2 L2 f2 le2 rrs q => ?_
  obtain ⟨xs, ds, e, es, hf⟩ := q
  obtain ⟨G3, L3, f3, s3, h3⟩ := settles L1 le2 L2 f2 rrs es
  obtain ⟨l', vs, e1, g1, t1⟩ := L3.owl e rr
  cases e1
  refine hr H2 G3 l vs us xs ds _ _ L3.sub g1 t1 h3 hf fun d ys v ws hd hy q => ?_
  obtain ⟨L4, f4, le4⟩ := L3.upC (o := .lst ws) (c' := .l ys) e rr ⟨_, upd_same, hy⟩
  have f13 : Fr (Ad σ δ) H G H2 G3 := f1.trans f3 fun a h => .inl (le1.ad h)
  exact k (.va d) _ v _ _ L4 (f13.trans f4 fun a h => .inl ((le2.trans le1).ad h)) (le4.trans (le2.trans le1)) hd q
theorem snd_lm0 {r : V → List V → Hp → VK → Prop} {f : List D → List D → (D → List D → Prop) → Prop} {to : TE} {To : DT} (hr : SndM K r f) (a : Snd K to To) : Snd K (tBM0 K "list" r to) (tlm f To ta0) := fun σ H G δ Q Q3 L h k => by
  refine a σ H G δ _ _ L h fun ro δ1 v H1 G1 L1 f1 le1 rr q => ?_
  obtain ⟨i, xs0, rfl, e0, xs, ds, e, es, hf⟩ := q
  cases es
  obtain ⟨l, vs, rfl, g1, t1⟩ := L1.owl e rr
  refine ⟨ty_lst g1, ?_⟩
  refine hr H1 G1 l vs [] xs [] _ _ L1.sub g1 t1 .nil hf fun d ys v ws hd hy q => ?_
  obtain ⟨L4, f4, le4⟩ := L1.upC (o := .lst ws) (c' := .l ys) e rr ⟨_, upd_same, hy⟩
  exact k (.va d) _ v _ _ L4 (f1.trans f4 fun a h => .inl (le1.ad h)) (le4.trans le1) hd q
def appF : List D → List D → (D → List D → Prop) → Prop
  | xs, [d], Q => xs.length < sizeLine ∧ Q .non (xs ++ [d])
  | _, _, _ => False
theorem sndm_append : SndM K rAppend appF := fun H G l vs us xs ds Q Q3 s h t u hf k => by
  unfold appF at hf
  split at hf
  · cases u with
    | cons u1 u2 =>
      cases u2
      exact ⟨l, vs, _, rfl, rfl, h, by rw [t.length]; exact hf.1, k _ _ _ _ .non (t.append (.one u1)) hf.2⟩
  · exact hf.elim
/-- xs.extend(ys): ys read where it stands -/
def textend (To Te : DT) : DT := fun δ Q => To δ fun ro δ1 => ∃ i xs0, ro = .rf i ∧ δ1[i]? = some (E.ow (.l xs0)) ∧ Te δ1 fun r δ2 => ∃ xs ys, δ2[i]? = some (E.ow (.l xs)) ∧ r.dat δ2 = some (.lst ys) ∧ (∀ j, r = .rf j → j ≠ i) ∧ xs.length + ys.length ≤ sizeLine ∧ Q (.va .non) (δ2.set i (.ow (.l (xs ++ ys))))
theorem snd_extend {to te : TE} {To Te : DT} (a : Snd K to To) (b : Snd K te Te) : Snd K (tBM K "list" rExtend to (tCons te tNil)) (textend To Te) := fun σ H G δ Q Q3 L h k => by
  refine a σ H G δ _ _ L h fun ro δ1 v H1 G1 L1 f1 le1 rr q => ?_
  obtain ⟨i, xs0, rfl, e0, q⟩ := q
  obtain ⟨l, vs0, rfl, g0, _⟩ := L1.owl e0 rr
  refine ⟨ty_lst g0, ?_⟩
  refine b σ H1 G1 δ1 _ _ L1 q fun r δ2 u H2 G2 L2 f2 le2 rr2 q => ?_
  obtain ⟨xs, ys, e, ed, nj, hl, q⟩ := q
  obtain ⟨l', vs, e1, g1, t1⟩ := L2.owl e rr
  cases e1
  obtain ⟨p, us, rfl, g2, t2⟩ := sh_of L2 rr2 ed
  obtain ⟨L4, f4, le4⟩ := L2.upC (o := .lst (vs ++ us)) (c' := .l (xs ++ ys)) e rr ⟨_, upd_same, t1.append t2⟩
  have f12 : Fr (Ad σ δ) H G H2 G2 := f1.trans f2 fun a h => .inl (le1.ad h)
  exact ⟨l, p, vs, us, rfl, rfl, g1, g2, by rw [t1.length, t2.length]; exact hl, k (.va .non) _ _ _ _ L4 (f12.trans f4 fun a h => .inl ((le2.trans le1).ad h)) (le4.trans (le2.trans le1)) At.non q⟩
def popF : List D → List D → (D → List D → Prop) → Prop
  | xs, [], Q => ∃ d, xs[xs.length - 1]? = some d ∧ Q d xs.dropLast
  | xs, [.int i], Q => ∃ k d, (-(2 ^ 63) ≤ i ∧ i < 2 ^ 63) ∧ seqIndex? i xs.length = some k ∧ xs[k]? = some d ∧ Q d (xs.eraseIdx k)
  | _, _, _ => False
theorem AtL.dropLast {G : Hp} {vs : List V} {ds : List D} (h : AtL K G vs ds) : AtL K G vs.dropLast ds.dropLast := by
  rw [List.dropLast_eq_take, List.dropLast_eq_take, h.length]
  exact h.take _
theorem sndm_pop0 : SndM K rPop (fun xs ds Q => ds = [] ∧ popF xs ds Q) := fun H G l vs us xs ds Q Q3 s h t u hf k => by
  obtain ⟨rfl, d, e, q⟩ := hf
  cases u
  obtain ⟨v, e2, hv⟩ := t.get e
  exact ⟨l, vs, v, rfl, rfl, h, by rw [t.length]; exact e2, k _ _ _ _ hv t.dropLast q⟩
theorem sndm_pop1 : SndM K rPopAt (fun xs ds Q => ds ≠ [] ∧ popF xs ds Q) := fun H G l vs us xs ds Q Q3 s h t u hf k => by
  obtain ⟨ne, hf⟩ := hf
  unfold popF at hf
  split at hf
  · exact absurd rfl ne
  · cases u with
    | cons u1 u2 =>
      cases u2
      cases u1
      obtain ⟨j, d, ⟨b1, b2⟩, e1, e2, q⟩ := hf
      obtain ⟨v, e3, hv⟩ := t.get e2
      exact ⟨l, vs, _, j, v, rfl, rfl, h, b1, b2, by rw [t.length]; exact e1, e3, k _ _ _ _ hv (t.eraseIdx j) q⟩
  · exact hf.elim
theorem sndm_reverse : SndM K rReverse (fun xs ds Q => ds = [] ∧ Q .non xs.reverse) := fun H G l vs us xs ds Q Q3 s h t u hf k => by
  obtain ⟨rfl, q⟩ := hf
  cases u
  exact ⟨l, vs, rfl, rfl, h, k _ _ _ _ .non t.reverse q⟩
end
end L3
/-! L3, part H: sources, loops, comprehensions. -/
namespace L3
open PySem PySem.Spec PyProof.Rows L2
section
variable {K : PySem.W.Frag}
/-! ### sources -/
abbrev DI := En → (List D → List (Nat × Cn) → En → Prop) → Prop
/-- the turns of J tell these items while the slots at cs hold what they hold -/
def ItOk (K : PySem.W.Frag) (J : It) (items : List D) (cs : List (Nat × Cn)) (σ0 : L2.St) (G0 : Hp) : Prop := ∀ (σ : L2.St) (H G : Hp) (δ : En), Rel K σ H G δ → Sub G0 G → (∀ p ∈ cs, δ[p.1]? = some (E.ow p.2) ∧ σ[p.1]? = σ0[p.1]?) →
  (∀ (k : Nat) (x : D), items[k]? = some x → J.go k H ∧ ∀ v H', J.yld k H v H' → ∃ G', Gr H G H' G' ∧ Sub G' H' ∧ At K G' v x) ∧ J.stop items.length H
def SndI (K : PySem.W.Frag) (wi : TI) (S : DI) : Prop := ∀ (σ : L2.St) (H G : Hp) (δ : En) (R : It → Hp → Prop) (Q3 : List D → List (Nat × Cn) → En → Prop), Rel K σ H G δ → S δ Q3 →
  (∀ items cs δ' J H' G', Rel K σ H' G' δ' → Fr (Ad σ δ) H G H' G' → Le δ' δ → ItOk K J items cs σ G' → Q3 items cs δ' → R J H') → wi σ H R
def srcE (i : Nat) : Option E → Option (List D × List (Nat × Cn))
  | some (.ow (.l xs)) => some (xs, [(i, .l xs)])
  | some (.va (.lst xs)) => some (xs, [])
  | _ => none
/-- the list that a result shows, and the slot that it leans on -/
def srcL (δ : En) : R → Option (List D × List (Nat × Cn))
  | .va (.lst xs) => some (xs, [])
  | .va (.frz xs) => some (xs, [])
  | .fr (.l xs) => some (xs, [])
  | .rf i => srcE i δ[i]?
  | _ => none
/-- a list's address, for as long as cs stands -/
def LstAt (K : PySem.W.Frag) (a : Addr) (xs : List D) (cs : List (Nat × Cn)) (σ0 : L2.St) (G0 : Hp) : Prop := ∀ (σ : L2.St) (H G : Hp) (δ : En), Rel K σ H G δ → Sub G0 G → (∀ p ∈ cs, δ[p.1]? = some (E.ow p.2) ∧ σ[p.1]? = σ0[p.1]?) → ∃ vs, SqL K H a vs ∧ AtL K G vs xs
theorem LstAt.sub {a : Addr} {xs : List D} {cs : List (Nat × Cn)} {σ0 : L2.St} {G0 G1 : Hp} (h : LstAt K a xs cs σ0 G0) (s : Sub G0 G1) : LstAt K a xs cs σ0 G1 := fun σ H G δ L s' c => h σ H G δ L (s.trans s') c
theorem srcL_at {σ : L2.St} {H0 G0 H G : Hp} {δ0 δ : En} {r : R} {v : V} {xs : List D} {cs : List (Nat × Cn)} (L0 : Rel K σ H0 G0 δ0) (L : Rel K σ H G δ) (f : Fr (Ad σ δ0) H0 G0 H G) (le : Le δ δ0) (rr : RR K σ H0 H G r v) (e : srcL δ r = some (xs, cs)) :
    ∃ a G', v = .ref a ∧ Rel K σ H G' δ ∧ Fr (Ad σ δ0) H0 G0 H G' ∧ Sub G G' ∧ LstAt K a xs cs σ G' ∧ (∃ vs, SqL K H a vs) ∧ ∀ b, G' b ≠ G b → v = .ref b ∧ ∃ c, r = .fr c := by
  have lst : ∀ {v : V}, At K G v (.lst xs) → ∃ a, v = .ref a ∧ LstAt K a xs [] σ G ∧ ∃ vs, SqL K H a vs := fun h => by
    cases h with
    | lst h1 t => exact ⟨_, rfl, fun σ H G' δ L s _ => ⟨_, SqL.of (L.sub _ _ (s _ _ h1)), t.mono s⟩, _, SqL.of (L.sub _ _ h1)⟩
  cases r with
  | va d =>
    cases d with
    | lst ys =>
      cases e
      obtain ⟨a, rfl, h, h2⟩ := lst rr
      exact ⟨a, G, rfl, L, f, .refl, h, h2, fun b z => absurd rfl z⟩
    | frz ys =>
      cases e
      cases (show At K G v (.frz xs) from rr) with
      | frz h1 t => exact ⟨_, G, rfl, L, f, .refl, fun σ H G' δ L s _ => ⟨_, L.sub.sqL (s.sqL h1), t.mono s⟩, ⟨_, L.sub.sqL h1⟩, fun b z => absurd rfl z⟩
    | _ => cases e
  | fr c =>
    cases c with
    | l ys =>
      cases e
      have e2 : (R.fr (.l xs)).still δ = some (.lst xs) := rfl
      obtain ⟨G', L', f', s', h', ch⟩ := settle L0 L f le rr e2
      cases h' with
      | lst h1 t => exact ⟨_, G', rfl, L', f', s', fun σ H G' δ L s _ => ⟨_, SqL.of (L.sub _ _ (s _ _ h1)), t.mono s⟩, ⟨_, SqL.of (L'.sub _ _ h1)⟩, fun b z => (ch b z).2⟩
    | d kvs => cases e
    | o cn fs => cases e
  | rf i =>
    have e2 : srcE i δ[i]? = some (xs, cs) := e
    unfold srcE at e2
    split at e2
    · rename_i ys q
      cases e2
      obtain ⟨l, vs, rfl, h1, t1⟩ := L.owl q rr
      refine ⟨l, G, rfl, L, f, .refl, fun σ' H' G' δ' L' s' c => ?_, ⟨_, SqL.of h1⟩, fun b z => absurd rfl z⟩
      obtain ⟨c1, c2⟩ := c (i, .l xs) List.mem_cons_self
      obtain ⟨l', vs', e3, h2, t2⟩ := L'.owl c1 (c2.trans rr)
      cases e3
      exact ⟨vs', SqL.of h2, t2⟩
    · rename_i ys q
      cases e2
      obtain ⟨v', h1, h2⟩ := L.va i _ q
      rw [show σ[i]? = some (some v) from rr] at h1
      cases h1
      obtain ⟨a, rfl, h, h3⟩ := lst h2
      exact ⟨a, G, rfl, L, f, .refl, h, h3, fun b z => absurd rfl z⟩
    · cases e2
theorem it_list {a : Addr} {xs : List D} {cs : List (Nat × Cn)} {σ0 : L2.St} {G0 : Hp} (h : LstAt K a xs cs σ0 G0) : ItOk K (Itl K a) xs cs σ0 G0 := fun σ H G δ L s c => by
  obtain ⟨vs, h1, t1⟩ := h σ H G δ L s c
  refine ⟨fun k x e => ?_, vs, h1, by rw [t1.length]; exact Nat.le_refl _⟩
  obtain ⟨v, e2, hv⟩ := t1.get e
  refine ⟨⟨vs, v, h1, e2⟩, fun u H' y => ?_⟩
  obtain ⟨rfl, y⟩ := y
  have := y vs h1
  rw [e2] at this
  cases this
  exact ⟨G, .refl, L.sub, hv⟩
def ilist (T : DT) : DI := fun δ Q => T δ fun r δ1 => ∃ xs cs, srcL δ1 r = some (xs, cs) ∧ Q xs cs δ1
theorem sndi_list {t : TE} {T : DT} (a : Snd K t T) : SndI K (iList K t) (ilist T) := fun σ H G δ R Q3 L h k => by
  refine a σ H G δ _ _ L h fun r δ1 v H1 G1 L1 f1 le1 rr q => ?_
  obtain ⟨xs, cs, e, q⟩ := q
  obtain ⟨a, G2, rfl, L2, f2, s2, la, ex, _⟩ := srcL_at L L1 f1 le1 rr e
  exact ⟨a, rfl, ex, k xs cs δ1 _ H1 G2 L2 f2 le1 (it_list la) q⟩
def itup (T : DT) : DI := fun δ Q => T δ fun r δ1 => ∃ xs, r = .va (.tup xs) ∧ Q xs [] δ1
theorem sndi_tup {t : TE} {T : DT} (a : Snd K t T) : SndI K (iTup K t) (itup T) := fun σ H G δ R Q3 L h k => by
  refine a σ H G δ _ _ L h fun r δ1 v H1 G1 L1 f1 le1 rr q => ?_
  obtain ⟨xs, rfl, q⟩ := q
  cases (show At K G1 v (.tup xs) from rr) with
  | @tup a vs _ h1 t1 =>
    refine ⟨a, rfl, ⟨vs, L1.sub.sqT h1⟩, k xs [] δ1 _ H1 G1 L1 f1 le1 (fun σ H G δ L s c => ?_) q⟩
    refine ⟨fun k x e => ?_, vs, L.sub.sqT (s.sqT h1), by rw [t1.length]; exact Nat.le_refl _⟩
    obtain ⟨v, e2, hv⟩ := t1.get e
    refine ⟨⟨vs, v, L.sub.sqT (s.sqT h1), e2⟩, fun u H' y => ?_⟩
    obtain ⟨rfl, y⟩ := y
    have := y vs (L.sub.sqT (s.sqT h1))
    rw [e2] at this
    cases this
    exact ⟨G, .refl, L.sub, hv.mono s⟩
def istr (T : DT) : DI := fun δ Q => T δ fun r δ1 => ∃ x : Str, r = .va (.str x) ∧ Q (x.cps.toList.map fun c => D.str ⟨#[c]⟩) [] δ1
theorem sndi_str {t : TE} {T : DT} (a : Snd K t T) : SndI K (iStr t) (istr T) := fun σ H G δ R Q3 L h k => by
  refine a σ H G δ _ _ L h fun r δ1 v H1 G1 L1 f1 le1 rr q => ?_
  obtain ⟨x, rfl, q⟩ := q
  have ev : v = .str x := by
    cases (show At K G1 v (.str x) from rr)
    rfl
  refine ⟨x, ev, k _ [] δ1 _ H1 G1 L1 f1 le1 (fun σ H G δ L s c => ?_) q⟩
  refine ⟨fun k y e => ?_, by show x.cps.size ≤ _; rw [List.length_map]; simp⟩
  rw [List.getElem?_map] at e
  obtain ⟨c, e1, rfl⟩ := Option.map_eq_some_iff.mp e
  have e2 : x.cps[k]? = some c := by rw [← e1]; simp
  refine ⟨(Array.getElem?_eq_some_iff.mp e2).1, fun u H' y => ?_⟩
  obtain ⟨rfl, c', e3, rfl⟩ := y
  rw [e2] at e3
  cases e3
  exact ⟨G, .refl, L.sub, .str _⟩
def rangeD (lo : Int) (n : Nat) : List D := (List.range n).map fun k => D.int (lo + (k : Nat))
theorem rangeD_len {lo : Int} {n : Nat} : (rangeD lo n).length = n := by unfold rangeD; rw [List.length_map, List.length_range]
theorem rangeD_get {lo : Int} {n k : Nat} {x : D} (h : (rangeD lo n)[k]? = some x) : k < n ∧ x = .int (lo + (k : Nat)) := by
  unfold rangeD at h
  rw [List.getElem?_map] at h
  obtain ⟨j, e1, rfl⟩ := Option.map_eq_some_iff.mp h
  obtain ⟨h1, h2⟩ := List.getElem?_eq_some_iff.mp e1
  rw [List.getElem_range] at h2
  subst h2
  exact ⟨by simpa using h1, rfl⟩
theorem it_range {lo : Int} {n : Nat} {σ0 : L2.St} {G0 : Hp} : ItOk K (Itr lo n) (rangeD lo n) [] σ0 G0 := fun σ H G δ L s c => by
  refine ⟨fun k x e => ?_, by show n ≤ _; rw [rangeD_len]; exact Nat.le_refl _⟩
  obtain ⟨h1, rfl⟩ := rangeD_get e
  refine ⟨h1, fun u H' y => ?_⟩
  obtain ⟨rfl, rfl⟩ := y
  exact ⟨G, .refl, L.sub, .int _⟩
def irng1 (T : DT) : DI := fun δ Q => T δ fun r δ1 => ∃ j, r = .va (.int j) ∧ (-(2 ^ 62) ≤ j ∧ j < 2 ^ 62) ∧ Q (rangeD 0 j.toNat) [] δ1
theorem sndi_rng1 {t : TE} {T : DT} (a : Snd K t T) : SndI K (iRng1 (tCons t tNil)) (irng1 T) := fun σ H G δ R Q3 L h k => by
  refine a σ H G δ _ _ L h fun r δ1 v H1 G1 L1 f1 le1 rr q => ?_
  obtain ⟨j, rfl, ⟨b1, b2⟩, q⟩ := q
  have ev := rr_int rr
  subst ev
  exact ⟨j, rfl, b1, b2, k _ [] δ1 _ H1 G1 L1 f1 le1 it_range q⟩
def irng2 (T U : DT) : DI := fun δ Q => T δ fun r δ1 => U δ1 fun u δ2 => ∃ i j, r = .va (.int i) ∧ u = .va (.int j) ∧ (-(2 ^ 62) ≤ i ∧ i < 2 ^ 62 ∧ -(2 ^ 62) ≤ j ∧ j < 2 ^ 62) ∧ Q (rangeD i (j - i).toNat) [] δ2
theorem sndi_rng2 {t u : TE} {T U : DT} (a : Snd K t T) (b : Snd K u U) : SndI K (iRng2 (tCons t (tCons u tNil))) (irng2 T U) := fun σ H G δ R Q3 L h k => by
  refine a σ H G δ _ _ L h fun r δ1 v H1 G1 L1 f1 le1 rr q => ?_
  refine b σ H1 G1 δ1 _ _ L1 q fun u δ2 w H2 G2 L2 f2 le2 rr2 q => ?_
  obtain ⟨i, j, rfl, rfl, bd, q⟩ := q
  have ev := rr_int rr
  have ew := rr_int rr2
  subst ev ew
  exact ⟨i, j, rfl, bd, k _ [] δ2 _ H2 G2 L2 (f1.trans f2 fun a h => .inl (le1.ad h)) (le2.trans le1) it_range q⟩
/-- enumerate -/
def enumD : Nat → List D → List D
  | _, [] => []
  | n, x :: xs => .tup [.int (n : Nat), x] :: enumD (n + 1) xs
theorem enumD_len : ∀ {n : Nat} {xs : List D}, (enumD n xs).length = xs.length
  | _, [] => rfl
  | n, x :: xs => congrArg (· + 1) (enumD_len (n := n + 1) (xs := xs))
theorem enumD_get : ∀ {n : Nat} {xs : List D} {k : Nat} {y : D}, (enumD n xs)[k]? = some y → ∃ x, xs[k]? = some x ∧ y = .tup [.int ((n + k : Nat)), x]
  | n, [], k, y, h => by simp [enumD] at h
  | n, x :: xs, 0, y, h => by
    simp [enumD] at h
    subst h
    exact ⟨x, rfl, by simp⟩
  | n, x :: xs, k + 1, y, h => by
    simp [enumD] at h
    obtain ⟨z, h1, h2⟩ := enumD_get h
    exact ⟨z, by simpa using h1, by rw [h2]; congr 3; omega⟩
def ienum (T : DT) : DI := fun δ Q => T δ fun r δ1 => ∃ xs cs, srcL δ1 r = some (xs, cs) ∧ Q (enumD 0 xs) cs δ1
theorem sndi_enum {t : TE} {T : DT} (a : Snd K t T) : SndI K (iEnum K (tCons t tNil)) (ienum T) := fun σ H G δ R Q3 L h k => by
  refine a σ H G δ _ _ L h fun r δ1 v H1 G1 L1 f1 le1 rr q => ?_
  obtain ⟨xs, cs, e, q⟩ := q
  obtain ⟨a, G2, rfl, L2, f2, s2, la, ⟨vs0, ex⟩, _⟩ := srcL_at L L1 f1 le1 rr e
  refine ⟨a, vs0, rfl, ex, k _ cs δ1 _ H1 G2 L2 f2 le1 (fun σ H G δ L s c => ?_) q⟩
  obtain ⟨vs, h1, t1⟩ := la σ H G δ L s c
  refine ⟨fun k x e => ?_, vs, h1, by rw [enumD_len, t1.length]; exact Nat.le_refl _⟩
  obtain ⟨y, e1, rfl⟩ := enumD_get e
  obtain ⟨v, e2, hv⟩ := t1.get e1
  refine ⟨⟨vs, v, h1, e2⟩, fun u H' z => ?_⟩
  obtain ⟨T, x, rfl, hT, rfl, z⟩ := z
  have := z vs h1
  rw [e2] at this
  cases this
  obtain ⟨f3, s3⟩ := gr_keep (o := .tup [V.int (k : Nat), v]) L.sub hT
  refine ⟨_, f3, s3, At.tup (SqT.of upd_same) (.cons ?_ (.one (hv.mono f3.sub)))⟩
  rw [Nat.zero_add]
  exact .int _
/-- zip of two lists -/
def zipD : List D → List D → List D
  | x :: xs, y :: ys => .tup [x, y] :: zipD xs ys
  | _, _ => []
theorem zipD_get : ∀ {xs ys : List D} {k : Nat} {z : D}, (zipD xs ys)[k]? = some z → ∃ x y, xs[k]? = some x ∧ ys[k]? = some y ∧ z = .tup [x, y]
  | [], ys, k, z, h => by simp [zipD] at h
  | _ :: _, [], k, z, h => by simp [zipD] at h
  | x :: xs, y :: ys, 0, z, h => by
    simp [zipD] at h
    subst h
    exact ⟨x, y, rfl, rfl, rfl⟩
  | x :: xs, y :: ys, k + 1, z, h => by
    simp [zipD] at h
    obtain ⟨a, b, h1, h2, h3⟩ := zipD_get h
    exact ⟨a, b, by simpa using h1, by simpa using h2, h3⟩
theorem zipD_len : ∀ {xs ys : List D}, xs.length ≤ (zipD xs ys).length ∨ ys.length ≤ (zipD xs ys).length
  | [], ys => .inl (by simp)
  | _ :: _, [] => .inr (by simp)
  | x :: xs, y :: ys => (zipD_len (xs := xs) (ys := ys)).elim (fun h => .inl (by simp [zipD]; exact h)) fun h => .inr (by simp [zipD]; exact h)
def izip (T U : DT) : DI := fun δ Q => T δ fun r δ1 => U δ1 fun u δ2 => ∃ xs cs ys cs', srcL δ2 r = some (xs, cs) ∧ srcL δ2 u = some (ys, cs') ∧ Q (zipD xs ys) (cs ++ cs') δ2
theorem sndi_zip {t u : TE} {T U : DT} (a : Snd K t T) (b : Snd K u U) : SndI K (iZip K (tCons t (tCons u tNil))) (izip T U) := fun σ H G δ R Q3 L h k => by
  refine a σ H G δ _ _ L h fun r δ1 v H1 G1 L1 f1 le1 rr q => ?_
  refine b σ H1 G1 δ1 _ _ L1 q fun u δ2 w H2 G2 L2 f2 le2 rr2 q => ?_
  obtain ⟨xs, cs, ys, cs', e1, e2, q⟩ := q
  have f12 : Fr (Ad σ δ) H G H2 G2 := f1.trans f2 fun a h => .inl (le1.ad h)
  obtain ⟨a, G3, rfl, L3, f3, s3, la, ⟨vs0, ex⟩, ch⟩ := srcL_at L L2 f12 (le2.trans le1) (rr.on L f1 le1 f2) e1
  have rr3 : RR K σ H H2 G3 u w := by
    cases u with
    | va d => exact At.mono s3 rr2
    | rf i => exact rr2
    | fr c =>
      obtain ⟨l, rfl, n0, g, q⟩ := rr2
      refine ⟨l, rfl, f1.free n0, ?_, q.mono (fun _ z => z) s3⟩
      by_cases z : G3 l = G2 l
      · rw [z]
        exact g
      · obtain ⟨ev, c, ec⟩ := ch l z
        cases ev
        subst ec
        obtain ⟨l', e3, _, _, hc⟩ := rr
        cases e3
        exact absurd n0 hc.some
  obtain ⟨b, G4, rfl, L4, f4, s4, lb, ⟨us0, ex2⟩, _⟩ := srcL_at L L3 f3 (le2.trans le1) rr3 e2
  refine ⟨a, b, vs0, us0, rfl, ex, ex2, k _ (cs ++ cs') δ2 _ H2 G4 L4 f4 (le2.trans le1) (fun σ H G δ L s c => ?_) q⟩
  obtain ⟨vs, h1, t1⟩ := la.sub s4 σ H G δ L s fun p hp => c p (List.mem_append_left _ hp)
  obtain ⟨us, h2, t2⟩ := lb σ H G δ L s fun p hp => c p (List.mem_append_right _ hp)
  refine ⟨fun k z e => ?_, vs, us, h1, h2, by rw [t1.length, t2.length]; exact zipD_len⟩
  obtain ⟨x, y, e1, e2, rfl⟩ := zipD_get e
  obtain ⟨v, e3, hv⟩ := t1.get e1
  obtain ⟨w, e4, hw⟩ := t2.get e2
  refine ⟨⟨vs, us, v, w, h1, h2, e3, e4⟩, fun u H' z => ?_⟩
  obtain ⟨T, x', y', rfl, hT, rfl, z1, z2⟩ := z
  have q1 := z1 vs h1
  have q2 := z2 us h2
  rw [e3] at q1
  rw [e4] at q2
  cases q1
  cases q2
  obtain ⟨f3, s3⟩ := gr_keep (o := .tup [v, w]) L.sub hT
  exact ⟨_, f3, s3, At.tup (SqT.of upd_same) (.cons (hv.mono f3.sub) (.one (hw.mono f3.sub)))⟩
/-! ### for -/
def sfor (as : List Nat) (S : DI) (Gd : DG) (B : DS) : DS := fun D δ => S δ fun items cs δ1 => (∀ p ∈ cs, p.1 ∉ as) ∧ ∃ I : Nat → En → Prop, I 0 δ1 ∧ (∀ k δ, I k δ → ∀ p ∈ cs, δ[p.1]? = some (E.ow p.2)) ∧
  (∀ k x δ, items[k]? = some x → I k δ → Gd x δ fun δ' => B { D with nx := I (k + 1), ct := I (k + 1), bk := D.nx } δ') ∧ (∀ δ, I items.length δ → D.nx δ)
theorem sndp_for {ps gs bs as : List Nat} {wi : TI} {g : TG} {tb : TS} {S : DI} {Gd : DG} {B : DS} (hi : SndI K wi S) (hg : SndG K gs g Gd) (hb : SndSP K ps bs tb B) (hh : ∀ i, i ∈ gs ++ bs → i ∈ as) : SndSP K ps as (tFor wi g tb) (sfor as S Gd B) := fun F hps hp σ H G δ D3 D s h gd => by
  refine hi σ H G δ _ _ s.L h fun items cs δ1 J H1 G1 L1 f1 le1 it q => ?_
  obtain ⟨nc, I, I0, Ic, It, Ie⟩ := q
  have n0 : Nxt K F [] σ H G δ σ H1 G1 δ1 := .step s L1 f1 le1
  refine ⟨fun i m σ' H' => m = items.length - i ∧ i ≤ items.length ∧ ∃ G' δ', Nxt K F as σ H1 G1 δ1 σ' H' G' δ' ∧ I i δ', ⟨items.length, by simp, Nat.zero_le _, G1, δ1, .refl n0.s, I0⟩, ?_⟩
  rintro i m σ' H' ⟨rfl, hi, G', δ', n, hI⟩
  have ok := it σ' H' G' δ' n.s.L n.f.sub fun p hp => ⟨Ic i δ' hI p hp, n.st p.1 (nc p hp)⟩
  by_cases hlt : i < items.length
  · obtain ⟨hgo, hy⟩ := ok.1 i items[i] (List.getElem?_eq_getElem hlt)
    refine .inr ⟨hgo, fun σ2 H2 => ∃ G2 δ2, Nxt K F as σ H1 G1 δ1 σ2 H2 G2 δ2 ∧ I (i + 1) δ2, fun σ2 H2 ⟨G2, δ2, n2, h2⟩ => ⟨items.length - (i + 1), by omega, rfl, hlt, G2, δ2, n2, h2⟩, fun x H'' y => ?_⟩
    obtain ⟨G'', fg, sg, hx⟩ := hy x H'' y
    have n1 : Nxt K F [] σ' H' G' δ' σ' H'' G'' δ' := .step n.s (n.s.L.grow fg sg) fg.fr .refl
    refine hg F (fun i hi => hp i (hh i (List.mem_append_left _ hi))) σ' H'' G'' δ' x _ _ _ n1.s hx (It i _ δ' (List.getElem?_eq_getElem hlt) hI) fun σ2 H2 G2 δ2 n2 _ q2 => ?_
    have nn : Nxt K F as σ H1 G1 δ1 σ2 H2 G2 δ2 := ((n.trans n1).trans n2).mono fun j hj => by
      simp only [List.append_nil, List.mem_append] at hj
      rcases hj with hj | hj
      · exact hj
      · exact hh j (List.mem_append_left _ hj)
    refine hb F hps (fun i hi => hp i (hh i (List.mem_append_right _ hi))) σ2 H2 G2 δ2 _ _ nn.s q2 ⟨fun σ3 H3 G3 δ3 n3 q3 => ⟨G3, δ3, (nn.trans n3).mono fun j hj => ?_, q3⟩, fun σ3 H3 G3 δ3 n3 q3 => gd.nx _ _ _ _ ((n0.trans (nn.trans n3)).mono fun j hj => ?_) q3, fun σ3 H3 G3 δ3 n3 q3 => ⟨G3, δ3, (nn.trans n3).mono fun j hj => ?_, q3⟩,
      fun σ3 H3 G3 δ3 r v n3 rr nr q3 => gd.rt _ _ _ _ _ _ ((n0.trans (nn.trans n3)).mono fun j hj => ?_) rr nr q3⟩
    all_goals
      simp only [List.nil_append, List.mem_append] at hj
      rcases hj with hj | hj
      · exact hj
      · exact hh j (List.mem_append_right _ hj)
  · have e : i = items.length := by omega
    subst e
    exact .inl ⟨ok.2, gd.nx _ _ _ _ ((n0.trans n).mono fun j hj => by simpa using hj) (Ie δ' hI)⟩
def swhile (C : DTT) (B : DS) : DS := fun D δ => ∃ (I : En → Prop) (μ : En → Nat), I δ ∧ ∀ δ, I δ → C δ fun b δ1 => if b = true then B { D with nx := fun δ2 => I δ2 ∧ μ δ2 < μ δ, ct := fun δ2 => I δ2 ∧ μ δ2 < μ δ, bk := D.nx } δ1 else D.nx δ1
theorem sndp_while {ps bs : List Nat} {c : TT} {tb : TS} {C : DTT} {B : DS} (hc : SndT K c C) (hb : SndSP K ps bs tb B) : SndSP K ps bs (tWhile c tb) (swhile C B) := fun F hps hp σ H G δ D3 D s h gd => by
  obtain ⟨I, μ, I0, It⟩ := h
  refine ⟨fun m σ' H' => ∃ G' δ', m = μ δ' ∧ Nxt K F bs σ H G δ σ' H' G' δ' ∧ I δ', ⟨_, G, δ, rfl, .refl s, I0⟩, ?_⟩
  rintro m σ' H' ⟨G', δ', rfl, n, hI⟩
  refine hc σ' H' G' δ' _ _ n.s.L (It δ' hI) fun b δ1 H1 G1 L1 f1 le1 q => ?_
  have n1 : Nxt K F [] σ' H' G' δ' σ' H1 G1 δ1 := .step n.s L1 f1 le1
  have nn : Nxt K F bs σ H G δ σ' H1 G1 δ1 := (n.trans n1).mono fun j hj => by simpa using hj
  cases b with
  | true =>
    refine ⟨fun σ2 H2 => ∃ G2 δ2, Nxt K F bs σ H G δ σ2 H2 G2 δ2 ∧ I δ2 ∧ μ δ2 < μ δ', fun σ2 H2 ⟨G2, δ2, n2, h2, h3⟩ => ⟨μ δ2, h3, G2, δ2, rfl, n2, h2⟩, ?_⟩
    refine hb F hps hp σ' H1 G1 δ1 _ _ nn.s q ⟨fun σ3 H3 G3 δ3 n3 q3 => ⟨G3, δ3, (nn.trans n3).mono fun j hj => ?_, q3⟩, fun σ3 H3 G3 δ3 n3 q3 => gd.nx _ _ _ _ ((nn.trans n3).mono fun j hj => ?_) q3, fun σ3 H3 G3 δ3 n3 q3 => ⟨G3, δ3, (nn.trans n3).mono fun j hj => ?_, q3⟩,
      fun σ3 H3 G3 δ3 r v n3 rr nr q3 => gd.rt _ _ _ _ _ _ ((nn.trans n3).mono fun j hj => ?_) rr nr q3⟩
    all_goals
      rcases List.mem_append.mp hj with hj | hj <;> exact hj
  | false => exact gd.nx _ _ _ _ nn q
end
end L3
/-! L3, part I: comprehensions; a def's body. -/
namespace L3
open PySem PySem.Spec PyProof.Rows L2
section
variable {K : PySem.W.Frag}
def wipeE (δ : En) : List Nat → En
  | [] => δ
  | v :: vs => (wipeE δ vs).set v .no
def backE (δo δn : En) : List Nat → En
  | [] => δn
  | v :: vs => (backE δo δn vs).set v (δo.getD v .no)
def noOw (δ : En) (vs : List Nat) : Bool := vs.all fun v => match δ[v]? with
  | some (.ow _) => false
  | _ => true
theorem noOw_at {δ : En} {vs : List Nat} (h : noOw δ vs = true) {v : Nat} (hv : v ∈ vs) (c : Cn) : δ[v]? ≠ some (E.ow c) := fun e => by
  have := List.all_eq_true.mp h v hv
  rw [e] at this
  cases this
theorem wipeE_len {δ : En} : ∀ {vs : List Nat}, (wipeE δ vs).length = δ.length
  | [] => rfl
  | v :: vs => by rw [wipeE, List.length_set, wipeE_len]
theorem backE_len {δo δn : En} : ∀ {vs : List Nat}, (backE δo δn vs).length = δn.length
  | [] => rfl
  | v :: vs => by rw [backE, List.length_set, backE_len]
theorem wipe_len {σ : L2.St} {vs : List Nat} : (wipe σ vs).length = σ.length := wipe_length σ vs
theorem wipe_at {σ : L2.St} {i : Nat} : ∀ {vs : List Nat}, i ∈ vs → i < σ.length → (wipe σ vs)[i]? = some none
  | v :: vs, h, hi => by
    unfold wipe
    by_cases z : v = i
    · subst z
      rw [List.getElem?_set_self (by rw [wipe_length]; exact hi)]
    · rw [List.getElem?_set_ne z]
      rcases List.mem_cons.mp h with e | h
      · exact absurd e.symm z
      · exact wipe_at h hi
theorem wipe_off {σ : L2.St} {i : Nat} {vs : List Nat} (h : i ∉ vs) : (wipe σ vs)[i]? = σ[i]? := wipe_out h
theorem wipeE_get {δ : En} {i : Nat} {e : E} : ∀ {vs : List Nat}, (wipeE δ vs)[i]? = some e → (i ∈ vs ∧ e = .no) ∨ (i ∉ vs ∧ δ[i]? = some e)
  | [], h => .inr ⟨by simp, h⟩
  | v :: vs, h => by
    rcases set_get h with ⟨rfl, rfl, _⟩ | ⟨ne, h⟩
    · exact .inl ⟨List.mem_cons_self, rfl⟩
    · rcases wipeE_get h with ⟨h1, h2⟩ | ⟨h1, h2⟩
      · exact .inl ⟨List.mem_cons_of_mem _ h1, h2⟩
      · exact .inr ⟨fun z => (List.mem_cons.mp z).elim (fun q => ne q.symm) h1, h2⟩
theorem backE_get {δo δn : En} {i : Nat} {e : E} (hl : δo.length = δn.length) : ∀ {vs : List Nat}, (backE δo δn vs)[i]? = some e → (i ∈ vs ∧ δo[i]? = some e) ∨ (i ∉ vs ∧ δn[i]? = some e)
  | [], h => .inr ⟨by simp, h⟩
  | v :: vs, h => by
    rcases set_get h with ⟨rfl, rfl, hi⟩ | ⟨ne, h⟩
    · rw [backE_len] at hi
      refine .inl ⟨List.mem_cons_self, ?_⟩
      rw [← hl] at hi
      rw [List.getD_eq_getElem?_getD, List.getElem?_eq_getElem hi]
      rfl
    · rcases backE_get hl h with ⟨h1, h2⟩ | ⟨h1, h2⟩
      · exact .inl ⟨List.mem_cons_of_mem _ h1, h2⟩
      · exact .inr ⟨fun z => (List.mem_cons.mp z).elim (fun q => ne q.symm) h1, h2⟩
theorem backE_in {δo δn : En} {i : Nat} (hl : δo.length = δn.length) {vs : List Nat} (hi : i ∈ vs) : (backE δo δn vs)[i]? = δo[i]? := by
  cases e : (backE δo δn vs)[i]? with
  | none =>
    have h1 : δn.length ≤ i := by
      have := List.getElem?_eq_none_iff.mp e
      rw [backE_len] at this
      exact this
    exact (List.getElem?_eq_none_iff.mpr (by rw [hl]; exact h1)).symm
  | some x =>
    rcases backE_get hl e with ⟨_, h2⟩ | ⟨h1, _⟩
    · exact h2.symm
    · exact absurd hi h1
theorem Rel.wipe {σ : L2.St} {H G : Hp} {δ : En} (L : Rel K σ H G δ) (vs : List Nat) : Rel K (wipe σ vs) H G (wipeE δ vs) where
  len := by rw [wipe_length, wipeE_len]; exact L.len
  sub := L.sub
  va := fun i d e => by
    rcases wipeE_get e with ⟨_, z⟩ | ⟨h1, h2⟩
    · cases z
    · rw [wipe_off h1]
      exact L.va i d h2
  ow := fun i c e => by
    rcases wipeE_get e with ⟨_, z⟩ | ⟨h1, h2⟩
    · cases z
    · rw [wipe_off h1]
      exact L.ow i c h2
  dj := fun i j l c c' e e' q q' => by
    rcases wipeE_get e with ⟨_, z⟩ | ⟨h1, h2⟩
    · cases z
    · rcases wipeE_get e' with ⟨_, z⟩ | ⟨h1', h2'⟩
      · cases z
      · rw [wipe_off h1] at q
        rw [wipe_off h1'] at q'
        exact L.dj i j l c c' h2 h2' q q'
theorem ad_wipe {σ : L2.St} {δ : En} {vs : List Nat} {l : Addr} (h : Ad (wipe σ vs) (wipeE δ vs) l) : Ad σ δ l := by
  obtain ⟨i, c, e, q⟩ := h
  rcases wipeE_get e with ⟨_, z⟩ | ⟨h1, h2⟩
  · cases z
  · rw [wipe_off h1] at q
    exact ⟨i, c, h2, q⟩
/-- behind a block -/
theorem Rel.back {σ σ2 : L2.St} {H G H' G' : Hp} {δ δ2 : En} {vs : List Nat} (L : Rel K σ H G δ) (no : noOw δ vs = true) (L2 : Rel K σ2 H' G' δ2) (s : Sub G G') (hσ : ∀ i : Nat, i ∉ vs → σ2[i]? = σ[i]?) (hl : σ2.length = σ.length) : Rel K σ H' G' (backE δ δ2 vs) := by
  have hd : δ.length = δ2.length := by rw [← L.len, ← L2.len, hl]
  refine ⟨by rw [backE_len, ← L2.len, hl], L2.sub, fun i d e => ?_, fun i c e => ?_, fun i j l c c' e e' q q' => ?_⟩
  · rcases backE_get hd e with ⟨h1, h2⟩ | ⟨h1, h2⟩
    · obtain ⟨v, a, b⟩ := L.va i d h2
      exact ⟨v, a, b.mono s⟩
    · rw [← hσ i h1]
      exact L2.va i d h2
  · rcases backE_get hd e with ⟨h1, h2⟩ | ⟨h1, h2⟩
    · exact absurd h2 (noOw_at no h1 c)
    · rw [← hσ i h1]
      exact L2.ow i c h2
  · rcases backE_get hd e with ⟨h1, h2⟩ | ⟨h1, h2⟩
    · exact absurd h2 (noOw_at no h1 c)
    · rcases backE_get hd e' with ⟨h1', h2'⟩ | ⟨h1', h2'⟩
      · exact absurd h2' (noOw_at no h1' c')
      · rw [← hσ i h1] at q
        rw [← hσ j h1'] at q'
        exact L2.dj i j l c c' h2 h2' q q'
/-- an object that no slot owns -/
theorem Rel.other {σ : L2.St} {H G : Hp} {δ : En} {D : Addr} {o : HO} (L : Rel K σ H G δ) (g : G D = none) (n : ¬ Ad σ δ D) : Rel K σ (upd H D o) G δ where
  len := L.len
  sub := fun a u h => by
    have : a ≠ D := fun z => by
      rw [z, g] at h
      cases h
    rw [upd_ne this]
    exact L.sub a u h
  va := L.va
  ow := fun i c e => by
    obtain ⟨l, h1, h2, h3⟩ := L.ow i c e
    have : l ≠ D := fun z => n (by rw [← z]; exact ⟨i, c, e, h1⟩)
    exact ⟨l, h1, h2, h3.mono (fun o q => by rw [upd_ne this]; exact q) .refl⟩
  dj := L.dj
def tcomp (S : DI) (Gd : DG) (C : DTT) (Te : DT) (vs : List Nat) : DT := fun δ Q => S δ fun items cs δ1 => noOw δ1 vs = true ∧ (∀ p ∈ cs, p.1 ∉ vs) ∧ ∃ I : Nat → List D → En → Prop, I 0 [] δ1 ∧ (∀ k acc δ, I k acc δ → ∀ p ∈ cs, δ[p.1]? = some (E.ow p.2)) ∧
  (∀ k x acc δ, items[k]? = some x → I k acc δ → Gd x (wipeE δ vs) fun δ2 => C δ2 fun b δ3 => if b = true then Te δ3 fun r δ4 => ∃ d, r.still δ4 = some d ∧ acc.length < sizeLine ∧ I (k + 1) (acc ++ [d]) (backE δ δ4 vs) else I (k + 1) acc (backE δ δ3 vs)) ∧
  (∀ acc δ, I items.length acc δ → Q (.fr (.l acc)) δ)
theorem snd_comp {gs vs : List Nat} {wi : TI} {g : TG} {tt : TT} {te : TE} {S : DI} {Gd : DG} {C : DTT} {Te : DT} (hi : SndI K wi S) (hg : SndG K gs g Gd) (ht : SndT K tt C) (he : Snd K te Te) (hgs : ∀ i ∈ gs, i ∈ vs) :
    Snd K (tLc wi g tt te vs) (tcomp S Gd C Te vs) := fun σ H G δ Q Q3 L h k => by
  refine hi σ H G δ _ _ L h fun items cs δ1 J H1 G1 L1 f1 le1 it q => ?_
  obtain ⟨no, nc, I, I0, Ic, It, Ie⟩ := q
  intro D hD
  have nD : ∀ δ', Le δ' δ1 → ¬ Ad σ δ' D := fun δ' le z => L1.there (le.ad z) hD
  obtain ⟨fD, sD⟩ := gr_new (G := G1) (o := .lst []) L1.sub hD
  refine ⟨fun i m H' => m = items.length - i ∧ i ≤ items.length ∧ ∃ G' δ' acc va, Rel K σ H' G' δ' ∧ Fr (fun a => Ad σ δ1 a ∨ a = D) (upd H1 D (.lst [])) G1 H' G' ∧ Le δ' δ1 ∧ (∀ v : Nat, v ∈ vs → δ'[v]? = δ1[v]?) ∧ H' D = some (.lst va) ∧ G' D = none ∧ AtL K G' va acc ∧ I i acc δ',
    ⟨items.length, by simp, Nat.zero_le _, G1, δ1, [], [], L1.grow fD sD, .refl, .refl, fun _ _ => rfl, upd_same, g_none L1.sub hD, .nil, I0⟩, ?_⟩
  rintro i m H' ⟨rfl, hi, G', δ', acc, va, L', f', le', dv, hH, hG, ha, hI⟩
  have no' : noOw δ' vs = true := List.all_eq_true.mpr fun v hv => by
    rw [dv v hv]
    exact List.all_eq_true.mp no v hv
  have ok := it σ H' G' δ' L' f'.sub fun p hp => ⟨Ic i acc δ' hI p hp, rfl⟩
  have fD' : Fr (fun a => Ad σ δ1 a ∨ a = D) H1 G1 (upd H1 D (.lst [])) G1 := fD.fr
  by_cases hlt : i < items.length
  · obtain ⟨hgo, hy⟩ := ok.1 i items[i] (List.getElem?_eq_getElem hlt)
    refine .inr ⟨hgo, fun H2 => ∃ G2 δ2 acc va, Rel K σ H2 G2 δ2 ∧ Fr (fun a => Ad σ δ1 a ∨ a = D) (upd H1 D (.lst [])) G1 H2 G2 ∧ Le δ2 δ1 ∧ (∀ v : Nat, v ∈ vs → δ2[v]? = δ1[v]?) ∧ H2 D = some (.lst va) ∧ G2 D = none ∧ AtL K G2 va acc ∧ I (i + 1) acc δ2,
      fun H2 z => ⟨items.length - (i + 1), by omega, rfl, hlt, z⟩, fun x H'' y => ?_⟩
    obtain ⟨G'', fg, sg, hx⟩ := hy x H'' y
    have L'' := L'.grow fg sg
    have Lw := L''.wipe vs
    have s0 : S3 K ⟨fun j l => ∃ c, (wipeE δ' vs)[j]? = some (E.ow c) ∧ (wipe σ vs)[j]? = some (some (V.ref l)), H'', G''⟩ (wipe σ vs) H'' G'' (wipeE δ' vs) := ⟨Lw, .refl, fun j c l e q => .inl ⟨c, e, q⟩, fun j l ⟨c, e, q⟩ => q⟩
    refine hg _ (fun j hj l z => ?_) (wipe σ vs) H'' G'' (wipeE δ' vs) x _ _ _ s0 hx (It i _ acc δ' (List.getElem?_eq_getElem hlt) hI) fun σ2 H2 G2 δ2 n2 le2 q2 => ?_
    · obtain ⟨c, e, q⟩ := z
      rcases wipeE_get e with ⟨_, z⟩ | ⟨z, _⟩
      · cases z
      · exact z (hgs j hj)
    have hσ : ∀ j : Nat, j ∉ vs → σ2[j]? = σ[j]? := fun j hj => (n2.st j fun z => hj (hgs j z)).trans (wipe_off hj)
    have hl2 : σ2.length = σ.length := n2.ln.trans (wipe_length σ vs)
    have fAll : ∀ {A : Addr → Prop} {Ha Ga Hb Gb : Hp}, Fr (fun a => Ad σ δ1 a ∨ a = D) (upd H1 D (.lst [])) G1 Ha Ga → Fr A Ha Ga Hb Gb → (∀ a, A a → Ad σ δ1 a ∨ (upd H1 D (.lst [])) a = none) → Fr (fun a => Ad σ δ1 a ∨ a = D) (upd H1 D (.lst [])) G1 Hb Gb := fun x y z => x.trans y fun a h => (z a h).imp .inl id
    have f2 := fAll f' fg (fun _ z => z.elim)
    have f3 := fAll f2 n2.f fun a z => .inl (le'.ad (ad_wipe z))
    have ow2 : ∀ l, Ad σ2 δ2 l → Ad σ δ1 l ∨ (upd H1 D (.lst [])) l = none := fun l z => (n2.ow l z).elim (fun z => .inl (le'.ad (ad_wipe z))) fun z => .inr (f2.free z)
    have nD2 : ∀ l, Ad σ2 δ2 l → l ≠ D := fun l z e => by
      subst e
      rcases ow2 l z with z | z
      · exact nD δ1 .refl z
      · rw [upd_same] at z
        cases z
    have keepD : ∀ {A : Addr → Prop} {Ha Ga Hb Gb : Hp}, Fr A Ha Ga Hb Gb → ¬ A D → Ha D = some (.lst va) → Ga D = none → Hb D = some (.lst va) ∧ Gb D = none := fun f na h g => ⟨f.h D _ na h, (f.n D na (by rw [h]; exact fun z => nomatch z)).trans g⟩
    obtain ⟨d1, g1⟩ := keepD fg (fun z => z) hH hG
    obtain ⟨d2, g2⟩ := keepD n2.f (fun z => nD δ' le' (ad_wipe z)) d1 g1
    refine ⟨?_, ht σ2 H2 G2 δ2 _ _ n2.s.L q2 fun b δ3 H3 G3 L3 f4 le3 q3 => ?_⟩
    · refine List.ext_getElem? fun j => ?_
      by_cases hj : j ∈ vs
      · by_cases hjl : j < σ.length
        · rw [wipe_at hj hjl, wipe_at hj (by rw [hl2]; exact hjl)]
        · rw [List.getElem?_eq_none (by rw [wipe_length]; omega), List.getElem?_eq_none (by rw [wipe_length]; omega)]
      · rw [wipe_off hj, wipe_off hj, hσ j hj]
    have f5 := fAll f3 f4 ow2
    obtain ⟨d3, g3⟩ := keepD f4 (fun z => nD2 D z rfl) d2 g2
    have bk : ∀ {δn : En} {Hn Gn : Hp}, Rel K σ2 Hn Gn δn → Le δn δ2 → Fr (fun a => Ad σ δ1 a ∨ a = D) (upd H1 D (.lst [])) G1 Hn Gn → Sub G' Gn → Rel K σ Hn Gn (backE δ' δn vs) ∧ Le (backE δ' δn vs) δ1 ∧ ∀ v : Nat, v ∈ vs → (backE δ' δn vs)[v]? = δ1[v]? := fun {δn Hn Gn} Ln len fn sn => by
      have hd : δ'.length = δn.length := by rw [← L'.len, ← Ln.len, hl2]
      refine ⟨L'.back no' Ln sn hσ hl2, fun j c e => ?_, fun v hv => (backE_in hd hv).trans (dv v hv)⟩
      rcases backE_get hd e with ⟨h1, h2⟩ | ⟨h1, h2⟩
      · exact absurd h2 (noOw_at no' h1 c)
      · obtain ⟨c2, h3⟩ := len j c h2
        obtain ⟨c3, h4⟩ := le2 j c2 h3
        rcases wipeE_get h4 with ⟨_, z⟩ | ⟨_, z⟩
        · cases z
        · exact le' j c3 z
    cases b with
    | true =>
      refine he σ2 H3 G3 δ3 _ _ L3 q3 fun r δ4 y H4 G4 L4 f6 le4 rr q4 => ?_
      obtain ⟨d, ed, hlen, q4⟩ := q4
      obtain ⟨G5, L5, f7, s7, hy5, _⟩ := settle L3 L4 f6 le4 rr ed
      have nD3 : ¬ Ad σ2 δ3 D := fun z => nD2 D (le3.ad z) rfl
      obtain ⟨d4, g4⟩ := keepD f7 nD3 d3 g3
      have f8 := fAll f5 f7 fun a z => ow2 a (le3.ad z)
      have sG : Sub G' G5 := (((fg.sub.trans n2.f.sub).trans f4.sub).trans f7.sub)
      obtain ⟨Lb, leb, db⟩ := bk L5 (le4.trans le3) f8 sG
      have hz : va.length < sizeLine := by rw [ha.length]; exact hlen
      refine ⟨va, d4, hz, G5, backE δ' δ4 vs, acc ++ [d], va ++ [y], Lb.other g4 (nD _ leb), f8.trans (fr_upd (A := fun a => a = D) rfl) fun a z => .inl (.inr z), leb, db, upd_same, g4, (ha.mono sG).append (.one hy5), q4⟩
    | false =>
      have sG : Sub G' G3 := ((fg.sub.trans n2.f.sub).trans f4.sub)
      obtain ⟨Lb, leb, db⟩ := bk L3 le3 f5 sG
      exact ⟨G3, backE δ' δ3 vs, acc, va, Lb, f5, leb, db, d3, g3, ha.mono sG, q3⟩
  · have e : i = items.length := by omega
    subst e
    refine .inl ⟨ok.2, k (.fr (.l acc)) δ' _ H' G' L' ((f1.trans fD' fun a z => ?_).trans f' fun a z => ?_) (le'.trans le1) ⟨D, rfl, f1.free hD, hG, va, hH, ha⟩ (Ie acc δ' hI)⟩
    · rcases z with z | rfl
      · exact .inl (le1.ad z)
      · exact .inr (f1.free hD)
    · rcases z with z | rfl
      · exact .inl (le1.ad z)
      · exact .inr (f1.free hD)
end
end L3
/-! L3, part J: a def's body; parallel stores; dicts of our own. -/
namespace L3
open PySem PySem.Spec PyProof.Rows L2
section
variable {K : PySem.W.Frag}
/-- the arguments behind a call: what was owned, as it is now -/
def outs : En → En → En
  | .ow _ :: δ, e :: δ' => e :: outs δ δ'
  | e :: δ, _ :: δ' => e :: outs δ δ'
  | _, _ => []
theorem outs_len : ∀ {δ δ' : En}, δ.length ≤ δ'.length → (outs δ δ').length = δ.length
  | [], _, _ => by simp [outs]
  | .ow _ :: δ, _ :: δ', h => by simp [outs]; exact outs_len (by simpa using h)
  | .va _ :: δ, _ :: δ', h => by simp [outs]; exact outs_len (by simpa using h)
  | .no :: δ, _ :: δ', h => by simp [outs]; exact outs_len (by simpa using h)
  | _ :: _, [], h => by simp at h
theorem outs_get : ∀ {δ δ' : En} {i : Nat} {e : E}, (outs δ δ')[i]? = some e → (∃ c, δ[i]? = some (E.ow c) ∧ δ'[i]? = some e) ∨ (δ[i]? = some e ∧ ∀ c, e ≠ .ow c)
  | [], _, i, e, h => by simp [outs] at h
  | .ow c :: δ, e' :: δ', 0, e, h => by
    simp [outs] at h
    subst h
    exact .inl ⟨c, rfl, rfl⟩
  | .ow c :: δ, e' :: δ', i + 1, e, h => by
    simp [outs] at h
    rcases outs_get h with ⟨c, h1, h2⟩ | ⟨h1, h2⟩
    · exact .inl ⟨c, by simpa using h1, by simpa using h2⟩
    · exact .inr ⟨by simpa using h1, h2⟩
  | .va d :: δ, e' :: δ', 0, e, h => by
    simp [outs] at h
    subst h
    exact .inr ⟨rfl, fun c z => nomatch z⟩
  | .va c :: δ, e' :: δ', i + 1, e, h => by
    simp [outs] at h
    rcases outs_get h with ⟨c, h1, h2⟩ | ⟨h1, h2⟩
    · exact .inl ⟨c, by simpa using h1, by simpa using h2⟩
    · exact .inr ⟨by simpa using h1, h2⟩
  | .no :: δ, e' :: δ', 0, e, h => by
    simp [outs] at h
    subst h
    exact .inr ⟨rfl, fun c z => nomatch z⟩
  | .no :: δ, e' :: δ', i + 1, e, h => by
    simp [outs] at h
    rcases outs_get h with ⟨c, h1, h2⟩ | ⟨h1, h2⟩
    · exact .inl ⟨c, by simpa using h1, by simpa using h2⟩
    · exact .inr ⟨by simpa using h1, h2⟩
  | _ :: _, [], i, e, h => by simp [outs] at h
theorem app_get {α : Type} {xs ys : List α} {i : Nat} {x : α} (h : (xs ++ ys)[i]? = some x) : xs[i]? = some x ∨ x ∈ ys := by
  by_cases z : i < xs.length
  · rw [List.getElem?_append_left z] at h
    exact .inl h
  · rw [List.getElem?_append_right (by omega)] at h
    exact .inr (List.mem_of_getElem? h)
/-- A DEF'S BODY keeps its promise over data -/
theorem body_ok {ps as : List Nat} {t : TS} {T : DS} {N : List Str} {n : Nat} {sp : DSp} (a : SndSP K ps as t T)
    (hsp : ∀ δ Q3, sp δ Q3 → δ.length = n → (∀ (i : Nat) c, δ[i]? = some (E.ow c) → i ∈ ps ∧ i ∉ as) ∧ T { nx := fun δ' => Q3 (.va .non) (outs δ δ'), rt := fun r δ' => Q3 r (outs δ δ') } (δ ++ List.replicate (N.length - n) E.no)) :
    ∀ (vs : List V) (H : Hp) (Q : VK) (W : XK), up K n sp vs H Q W → t { nx := fun _ H' => Q .non H', rt := Q } (start N vs) H := fun vs H Q W h => by
  obtain ⟨hn, G, δ, Q3, L, hs, k⟩ := h
  have hl : δ.length = n := by
    have := L.len
    rw [List.length_map] at this
    omega
  obtain ⟨h1, h2⟩ := hsp δ Q3 hs hl
  have lv : (vs.map some).length = δ.length := L.len
  have gl : ∀ (i : Nat) (x : Option V), (vs.map some)[i]? = some x → (start N vs)[i]? = some x := fun i x e => by
    unfold L2.start
    rw [List.getElem?_append_left (List.getElem?_eq_some_iff.mp e).1]
    exact e
  have gd : ∀ (i : Nat) (e : E), (δ ++ List.replicate (N.length - n) E.no)[i]? = some e → e ≠ .no → δ[i]? = some e := fun i e h ne => by
    rcases app_get h with h | h
    · exact h
    · exact absurd (List.eq_of_mem_replicate h) ne
  have L0 : Rel K (start N vs) H G (δ ++ List.replicate (N.length - n) E.no) := by
    refine ⟨by unfold L2.start; rw [List.length_append, List.length_append, List.length_replicate, List.length_replicate, lv, hn], L.sub, fun i d e => ?_, fun i c e => ?_, fun i j l c c' e e' q q' => ?_⟩
    · obtain ⟨v, q1, q2⟩ := L.va i d (gd i _ e fun z => nomatch z)
      exact ⟨v, gl i _ q1, q2⟩
    · obtain ⟨l, q1, q2⟩ := L.ow i c (gd i _ e fun z => nomatch z)
      exact ⟨l, gl i _ q1, q2⟩
    · have a1 := gd i _ e fun z => nomatch z
      have a2 := gd j _ e' fun z => nomatch z
      obtain ⟨l1, q1, _⟩ := L.ow i c a1
      obtain ⟨l2, q2, _⟩ := L.ow j c' a2
      have b1 := gl i _ q1
      have b2 := gl j _ q2
      rw [q] at b1
      rw [q'] at b2
      cases b1
      cases b2
      exact L.dj i j l c c' a1 a2 q1 q2
  have s0 : S3 K ⟨fun i l => ∃ c, δ[i]? = some (E.ow c) ∧ (vs.map some)[i]? = some (some (V.ref l)), H, G⟩ (start N vs) H G (δ ++ List.replicate (N.length - n) E.no) :=
    ⟨L0, .refl, fun j c l e q => .inl ⟨c, gd j _ e (fun z => nomatch z), by
      have a1 := gd j _ e fun z => nomatch z
      obtain ⟨l1, q1, _⟩ := L.ow j c a1
      have b1 := gl j _ q1
      rw [q] at b1
      cases b1
      exact q1⟩, fun j l ⟨c, e, q⟩ => gl j _ q⟩
  -- the arguments at the end
  have fin : ∀ σ' H' G' δ', Nxt K ⟨fun i l => ∃ c, δ[i]? = some (E.ow c) ∧ (vs.map some)[i]? = some (some (V.ref l)), H, G⟩ as (start N vs) H G (δ ++ List.replicate (N.length - n) E.no) σ' H' G' δ' → Rel K (vs.map some) H' G' (outs δ δ') ∧ Fr (Ad (vs.map some) δ) H G H' G' ∧ Le (outs δ δ') δ := fun σ' H' G' δ' m => by
    have hle : δ.length ≤ δ'.length := by
      have e1 := m.ln
      rw [m.s.L.len, L0.len, List.length_append] at e1
      omega
    have sl : ∀ (i : Nat) c, δ[i]? = some (E.ow c) → ∃ l, (vs.map some)[i]? = some (some (V.ref l)) ∧ σ'[i]? = some (some (V.ref l)) := fun i c e => by
      obtain ⟨l, q1, _⟩ := L.ow i c e
      exact ⟨l, q1, m.s.par i l ⟨c, e, q1⟩⟩
    refine ⟨⟨by rw [outs_len hle]; exact lv, m.s.L.sub, fun i d e => ?_, fun i c e => ?_, fun i j l c c' e e' q q' => ?_⟩, m.s.f.mono fun a ⟨j, c, e, q⟩ => .inl ⟨j, c, e, q⟩, fun i c e => ?_⟩
    · rcases outs_get e with ⟨c, e1, e2⟩ | ⟨e1, _⟩
      · obtain ⟨l, q1, q2⟩ := sl i c e1
        obtain ⟨v, q3, q4⟩ := m.s.L.va i d e2
        rw [q2] at q3
        cases q3
        exact ⟨_, q1, q4⟩
      · obtain ⟨v, q1, q2⟩ := L.va i d e1
        exact ⟨v, q1, q2.mono m.f.sub⟩
    · rcases outs_get e with ⟨c0, e1, e2⟩ | ⟨_, e1⟩
      · obtain ⟨l, q1, q2⟩ := sl i c0 e1
        obtain ⟨l', q3, q4⟩ := m.s.L.ow i c e2
        rw [q2] at q3
        cases q3
        exact ⟨l, q1, q4⟩
      · exact absurd rfl (e1 c)
    · rcases outs_get e with ⟨c0, e1, e2⟩ | ⟨_, e1⟩
      · rcases outs_get e' with ⟨c1, e1', e2'⟩ | ⟨_, e1'⟩
        · obtain ⟨l1, q1, q2⟩ := sl i c0 e1
          obtain ⟨l2, q3, q4⟩ := sl j c1 e1'
          rw [q] at q1
          rw [q'] at q3
          cases q1
          cases q3
          exact m.s.L.dj i j l c c' e2 e2' q2 q4
        · exact absurd rfl (e1' c')
      · exact absurd rfl (e1 c)
    · rcases outs_get e with ⟨c0, e1, _⟩ | ⟨_, e1⟩
      · exact ⟨c0, e1⟩
      · exact absurd rfl (e1 c)
  refine a ⟨fun i l => ∃ c, δ[i]? = some (E.ow c) ∧ (vs.map some)[i]? = some (some (V.ref l)), H, G⟩ (fun i l z => by obtain ⟨c, e, _⟩ := z; exact (h1 i c e).1) (fun i hi l z => by obtain ⟨c, e, _⟩ := z; exact (h1 i c e).2 hi) (start N vs) H G _ _ _ s0 h2 ⟨fun σ' H' G' δ' m q => ?_, fun _ _ _ _ _ q => q, fun _ _ _ _ _ q => q, fun σ' H' G' δ' r v m rr nr q => ?_⟩
  · obtain ⟨L', f', le'⟩ := fin σ' H' G' δ' m
    exact k (.va .non) _ .non H' G' L' f' le' At.non (fun i z => nomatch z) q
  · obtain ⟨L', f', le'⟩ := fin σ' H' G' δ' m
    exact k r _ v H' G' L' f' le' rr nr q
/-! ### a, b = x, y -/
/-- a result that may be stored: how -/
def PutOk (K : PySem.W.Frag) (H0 H G : Hp) (v : V) (e : E) : Prop := (∃ d, e = .va d ∧ At K G v d) ∨ ∃ c l, e = .ow c ∧ v = .ref l ∧ H0 l = none ∧ G l = none ∧ AtC K H G l c
theorem Nxt.put {F : FE} {as : List Nat} {σ0 σ : L2.St} {H0 G0 H G : Hp} {δ0 δ : En} {i : Nat} {v : V} {e : E} (n : Nxt K F as σ0 H0 G0 δ0 σ H G δ) (hp : ∀ l, ¬ F.P i l) (hf : ∀ a, H0 a = none → F.HE a = none) (p : PutOk K H0 H G v e) (na : ∀ l, v = .ref l → (∃ c, e = .ow c) → ¬ Ad σ δ l) :
    Nxt K F (as ++ [i]) σ0 H0 G0 δ0 (σ.set i (some v)) H G (δ.set i e) := by
  rcases p with ⟨d, rfl, h⟩ | ⟨c, l, rfl, rfl, h0, g, h⟩
  · exact n.trans (Nxt.setV n.s hp h)
  · have nl := na l rfl ⟨c, rfl⟩
    refine ⟨⟨n.s.L.setO g h nl, n.s.f, fun j c' l' e q => ?_, fun j l z => ?_⟩, n.f, fun l' z => ?_, fun j hj => ?_, ?_⟩
    · rcases set_get e with ⟨rfl, e2, hi⟩ | ⟨ne, e2⟩
      · rw [List.getElem?_set_self (by rw [n.s.L.len]; exact hi)] at q
        cases q
        exact .inr (hf _ h0)
      · rw [List.getElem?_set_ne ne] at q
        exact n.s.own j c' l' e2 q
    · have ne : i ≠ j := fun q => hp l (by rw [q]; exact z)
      rw [List.getElem?_set_ne ne]
      exact n.s.par j l z
    · obtain ⟨j, c', e, q⟩ := z
      rcases set_get e with ⟨rfl, e2, hi⟩ | ⟨ne, e2⟩
      · rw [List.getElem?_set_self (by rw [n.s.L.len]; exact hi)] at q
        cases q
        exact .inr h0
      · rw [List.getElem?_set_ne ne] at q
        exact n.ow l' ⟨j, c', e2, q⟩
    · have ne : i ≠ j := fun z => hj (List.mem_append_right _ (by rw [z]; exact List.mem_cons_self))
      rw [List.getElem?_set_ne ne]
      exact n.st j fun z => hj (List.mem_append_left _ z)
    · rw [List.length_set]
      exact n.ln
theorem ad_put {σ : L2.St} {δ : En} {i : Nat} {v : V} {e : E} {l : Addr} (hl : σ.length = δ.length) (h : Ad (σ.set i (some v)) (δ.set i e) l) : Ad σ δ l ∨ (v = .ref l ∧ ∃ c, e = .ow c) := by
  obtain ⟨j, c, e1, q⟩ := h
  rcases set_get e1 with ⟨rfl, e2, hi⟩ | ⟨ne, e2⟩
  · rw [List.getElem?_set_self (by rw [hl]; exact hi)] at q
    cases q
    exact .inr ⟨rfl, c, e2⟩
  · rw [List.getElem?_set_ne ne] at q
    exact .inl ⟨j, c, e2, q⟩
/-- the stores of a list of results: own where the list says so -/
def putE (δ : En) : Bool → R → Option E
  | true, .fr c => some (.ow c)
  | true, r => (r.still δ).map E.va
  | false, r => (r.still δ).map E.va
def spar2 (i j : Nat) (m1 m2 : Bool) (TA : DTA) : DS := fun D δ => TA δ fun rs δ1 => ∃ r1 r2 e1 e2, rs = [r1, r2] ∧ putE δ1 m1 r1 = some e1 ∧ putE δ1 m2 r2 = some e2 ∧ D.nx ((δ1.set i e1).set j e2)
def spar3 (i j l : Nat) (m1 m2 m3 : Bool) (TA : DTA) : DS := fun D δ => TA δ fun rs δ1 => ∃ r1 r2 r3 e1 e2 e3, rs = [r1, r2, r3] ∧ putE δ1 m1 r1 = some e1 ∧ putE δ1 m2 r2 = some e2 ∧ putE δ1 m3 r3 = some e3 ∧ D.nx (((δ1.set i e1).set j e2).set l e3)
/-- results made ready for their stores -/
theorem puts_ok {σ : L2.St} {H0 G0 H G : Hp} {δ0 δ : En} {rs : List R} {vs : List V} (L0 : Rel K σ H0 G0 δ0) (L : Rel K σ H G δ) (f : Fr (Ad σ δ0) H0 G0 H G) (le : Le δ δ0) (rr : RRs K σ H0 H G rs vs) (ms : List Bool) :
    ∃ G', Rel K σ H G' δ ∧ Fr (Ad σ δ0) H0 G0 H G' ∧ ∀ (j : Nat) r m v e, rs[j]? = some r → ms[j]? = some m → vs[j]? = some v → putE δ m r = some e → PutOk K H0 H G' v e ∧ ∀ c, e = .ow c → r = .fr c ∧ m = true := by
  obtain ⟨G', L', f', s', gz, hz⟩ := freezeZ L0 L f le (fun a => ∃ (j : Nat) (c : Cn), rs[j]? = some (R.fr c) ∧ ms[j]? = some false ∧ vs[j]? = some (V.ref a)) fun a ⟨j, c, e1, e2, e3⟩ => by
    obtain ⟨v, h1, l, h2, h3, h4, _⟩ := rr.get e1
    rw [e3] at h1
    cases h1
    cases h2
    exact ⟨h3, h4⟩
  refine ⟨G', L', f', fun j r m v e h1 h2 h3 h4 => ?_⟩
  obtain ⟨v', q1, q2⟩ := rr.get h1
  rw [h3] at q1
  cases q1
  have va : ∀ r, rs[j]? = some r → RR K σ H0 H G r v → (∀ c, r ≠ .fr c) → ∀ d, r.still δ = some d → At K G' v d := fun r hr q nf d e => by
    cases r with
    | va d' =>
      cases e
      exact At.mono s' q
    | fr c => exact absurd rfl (nf c)
    | rf i =>
      have e2 : datS δ[i]? = some d := e
      unfold datS at e2
      split at e2
      · rename_i d' p
        cases e2
        obtain ⟨v', p1, p2⟩ := L'.va i _ p
        rw [show σ[i]? = some (some v) from q] at p1
        cases p1
        exact p2
      · cases e2
  cases r with
  | fr c =>
    obtain ⟨l, rfl, n, g, hc⟩ := q2
    cases m with
    | true =>
      have h5 : some (E.ow c) = some e := h4
      cases h5
      refine ⟨.inr ⟨c, l, rfl, rfl, n, ?_, hc.mono (fun _ z => z) s'⟩, fun c' z => by cases z; exact ⟨rfl, rfl⟩⟩
      rw [gz l fun ⟨j', c', a, b, d⟩ => by
        have := rr.apart h1 a h3 d
        subst this
        rw [h2] at b
        cases b]
      exact g
    | false =>
      have h5 : c.dat.map E.va = some e := h4
      obtain ⟨d, z1, rfl⟩ := Option.map_eq_some_iff.mp h5
      exact ⟨.inl ⟨d, rfl, hz l c d ⟨j, c, h1, h2, h3⟩ hc z1⟩, fun c' z => nomatch z⟩
  | va d =>
    have h5 : e = .va d := by cases m <;> (have h6 : some (E.va d) = some e := h4; cases h6; rfl)
    subst h5
    exact ⟨.inl ⟨d, rfl, va _ h1 q2 (fun c z => nomatch z) d rfl⟩, fun c' z => nomatch z⟩
  | rf i =>
    have h5 : ((R.rf i).still δ).map E.va = some e := by cases m <;> exact h4
    obtain ⟨d, z1, rfl⟩ := Option.map_eq_some_iff.mp h5
    exact ⟨.inl ⟨d, rfl, va _ h1 q2 (fun c z => nomatch z) d z1⟩, fun c' z => nomatch z⟩
theorem snds_par2 {i j : Nat} {t : TA} {TA : DTA} (m1 m2 : Bool) (a : SndA K t TA) : SndS K [i, j] (tPar i j t) (spar2 i j m1 m2 TA) := fun F hp σ H G δ D3 D s h g => by
  refine a σ H G δ _ _ s.L h fun rs δ1 vs H1 G1 L1 f1 le1 rr q => ?_
  obtain ⟨r1, r2, e1, e2, rfl, p1, p2, q⟩ := q
  obtain ⟨v1, hv1, _⟩ := rr.get (i := 0) rfl
  obtain ⟨v2, hv2, _⟩ := rr.get (i := 1) rfl
  have ev : vs = [v1, v2] := by
    have := rr.length
    match vs, this, hv1, hv2 with
    | [_, _], _, a, b =>
      cases a
      cases b
      rfl
  subst ev
  obtain ⟨G2, L2, f2, ok⟩ := puts_ok s.L L1 f1 le1 rr [m1, m2]
  obtain ⟨k1, o1⟩ := ok 0 r1 m1 v1 e1 rfl rfl rfl p1
  obtain ⟨k2, o2⟩ := ok 1 r2 m2 v2 e2 rfl rfl rfl p2
  have n : Nxt K F [] σ H G δ σ H1 G2 δ1 := .step s L2 f2 le1
  have hf : ∀ a, H a = none → F.HE a = none := fun a z => s.f.free z
  have own : ∀ l v e, PutOk K H H1 G2 v e → v = .ref l → (∃ c, e = .ow c) → ¬ Ad σ δ1 l := fun l v e p ev ⟨c, ec⟩ z => by
    rcases p with ⟨d, rfl, _⟩ | ⟨c', l', _, e', h0, _⟩
    · cases ec
    · rw [ev] at e'
      cases e'
      exact s.L.there (le1.ad z) h0
  have n1 := n.put (hp i List.mem_cons_self) hf k1 fun l e w => own l v1 e1 k1 e w
  have n2 := n1.put (hp j (List.mem_cons_of_mem _ List.mem_cons_self)) hf k2 fun l e w z => by
    rcases ad_put L2.len z with z | ⟨z1, c1, z2⟩
    · exact own l v2 e2 k2 e w z
    · obtain ⟨c2, w2⟩ := w
      obtain ⟨a1, _⟩ := o1 c1 z2
      obtain ⟨a2, _⟩ := o2 c2 w2
      have := rr.apart (i := 0) (j := 1) (by rw [a1]; rfl) (by rw [a2]; rfl) (by rw [z1]; rfl) (by rw [e]; rfl)
      cases this
  exact ⟨v1, v2, rfl, g.nx _ _ _ _ (n2.mono fun k hk => by simpa using hk) q⟩
theorem snds_par3 {i j l : Nat} {t : TA} {TA : DTA} (m1 m2 m3 : Bool) (a : SndA K t TA) : SndS K [i, j, l] (tPar3 i j l t) (spar3 i j l m1 m2 m3 TA) := fun F hp σ H G δ D3 D s h g => by
  refine a σ H G δ _ _ s.L h fun rs δ1 vs H1 G1 L1 f1 le1 rr q => ?_
  obtain ⟨r1, r2, r3, e1, e2, e3, rfl, p1, p2, p3, q⟩ := q
  obtain ⟨v1, hv1, _⟩ := rr.get (i := 0) rfl
  obtain ⟨v2, hv2, _⟩ := rr.get (i := 1) rfl
  obtain ⟨v3, hv3, _⟩ := rr.get (i := 2) rfl
  have ev : vs = [v1, v2, v3] := by
    have := rr.length
    match vs, this, hv1, hv2, hv3 with
    | [_, _, _], _, a, b, c =>
      cases a
      cases b
      cases c
      rfl
  subst ev
  obtain ⟨G2, L2, f2, ok⟩ := puts_ok s.L L1 f1 le1 rr [m1, m2, m3]
  obtain ⟨k1, o1⟩ := ok 0 r1 m1 v1 e1 rfl rfl rfl p1
  obtain ⟨k2, o2⟩ := ok 1 r2 m2 v2 e2 rfl rfl rfl p2
  obtain ⟨k3, o3⟩ := ok 2 r3 m3 v3 e3 rfl rfl rfl p3
  have n : Nxt K F [] σ H G δ σ H1 G2 δ1 := .step s L2 f2 le1
  have hf : ∀ a, H a = none → F.HE a = none := fun a z => s.f.free z
  have own : ∀ l v e, PutOk K H H1 G2 v e → v = .ref l → (∃ c, e = .ow c) → ¬ Ad σ δ1 l := fun l v e p ev ⟨c, ec⟩ z => by
    rcases p with ⟨d, rfl, _⟩ | ⟨c', l', _, e', h0, _⟩
    · cases ec
    · rw [ev] at e'
      cases e'
      exact s.L.there (le1.ad z) h0
  have n1 := n.put (hp i List.mem_cons_self) hf k1 fun l e w => own l v1 e1 k1 e w
  have n2 := n1.put (hp j (List.mem_cons_of_mem _ List.mem_cons_self)) hf k2 fun l e w z => by
    rcases ad_put L2.len z with z | ⟨z1, c1, z2⟩
    · exact own l v2 e2 k2 e w z
    · obtain ⟨c2, w2⟩ := w
      obtain ⟨a1, _⟩ := o1 c1 z2
      obtain ⟨a2, _⟩ := o2 c2 w2
      have := rr.apart (i := 0) (j := 1) (by rw [a1]; rfl) (by rw [a2]; rfl) (by rw [z1]; rfl) (by rw [e]; rfl)
      cases this
  have n3 := n2.put (hp l (List.mem_cons_of_mem _ (List.mem_cons_of_mem _ List.mem_cons_self))) hf k3 fun l e w z => by
    rcases ad_put n1.s.L.len z with z | ⟨z1, c1, z2⟩
    · rcases ad_put L2.len z with z | ⟨z1, c1, z2⟩
      · exact own l v3 e3 k3 e w z
      · obtain ⟨c2, w2⟩ := w
        obtain ⟨a1, _⟩ := o1 c1 z2
        obtain ⟨a2, _⟩ := o3 c2 w2
        have := rr.apart (i := 0) (j := 2) (by rw [a1]; rfl) (by rw [a2]; rfl) (by rw [z1]; rfl) (by rw [e]; rfl)
        cases this
    · obtain ⟨c2, w2⟩ := w
      obtain ⟨a1, _⟩ := o2 c1 z2
      obtain ⟨a2, _⟩ := o3 c2 w2
      have := rr.apart (i := 1) (j := 2) (by rw [a1]; rfl) (by rw [a2]; rfl) (by rw [z1]; rfl) (by rw [e]; rfl)
      cases this
  exact ⟨v1, v2, v3, rfl, g.nx _ _ _ _ (n3.mono fun k hk => by simpa using hk) q⟩
end
end L3
/-! L3, part K: defs by their promises; short terms. -/
namespace L3
open PySem PySem.Spec PyProof.Rows L2
/-- the built-ins are what they are -/
structure Blt (mg : Str → Option Value) : Prop where
  len : mg "len" = none
  range : mg "range" = none
  isinstance : mg "isinstance" = none
  int : mg "int" = none
  bool : mg "bool" = none
  str : mg "str" = none
  list : mg "list" = none
  tuple : mg "tuple" = none
  dict : mg "dict" = none
  all : mg "all" = none
  any : mg "any" = none
  sum : mg "sum" = none
  enumerate : mg "enumerate" = none
  zip : mg "zip" = none
  max : mg "max" = none
  min : mg "min" = none
  abs : mg "abs" = none
  sorted : mg "sorted" = none
  reversed : mg "reversed" = none
  set : mg "set" = none
  repr : mg "repr" = none
  divmod : mg "divmod" = none
def bltNames : List Str := ["len", "range", "isinstance", "int", "bool", "str", "list", "tuple", "dict", "all", "any", "sum", "enumerate", "zip", "max", "min", "abs", "sorted", "reversed", "set", "repr", "divmod"]
/-- a def at the top keeps its promise -/
structure FP (P : Program) (w : World) (K : PySem.W.Frag) (mg : Str → Option Value) (base : Heap) (x : Str) (k n : Nat) (sp : DSp) : Prop where
  ex : ∃ fd ps, FnOk P w K mg base CX0 k (He.ga K x) fd ps (up K n sp) ∧ Binds K fd ps []
  kp : PySem.W.keepIn K (.ref (He.ga K x)) = true
  at_ : mg x = some (.ref (He.ga K x))
/-- a method -/
structure MP (P : Program) (w : World) (K : PySem.W.Frag) (mg : Str → Option Value) (base : Heap) (cn m : Str) (k n : Nat) (sp : DSp) : Prop where
  ex : ∃ fd ps, FnOk P w K mg base CX0 k (He.ma K (He.ga K cn) m) fd ps (up K n sp) ∧ Binds K fd ps []
  me : Meth K (He.ga K cn) m (He.ma K (He.ga K cn) m)
  cl : Cls K (He.ga K cn)
/-- a class that is made by its __init__ -/
structure KP (P : Program) (w : World) (K : PySem.W.Frag) (mg : Str → Option Value) (base : Heap) (cn : Str) (k n : Nat) (sp : DSp) : Prop where
  ex : ∃ fd ps, FnOk P w K mg base CX0 k (He.ma K (He.ga K cn) "__init__") fd ps (up K n sp) ∧ Binds K fd ps []
  mkc : Mk K (He.ga K cn) (He.ma K (He.ga K cn) "__init__")
  at_ : mg cn = some (.ref (He.ga K cn))
theorem Room.u65 {k : Nat} {A : Around} (r : Room k A) : A.units + 65 < cLine := by have := r.un; omega
section
variable {X : Cx} {x m cn : Str} {p pos apos : Pos} {e o : Expr} {es : List Expr} {t : TA} {ta : TE} {k n j : Nat} {sp : DSp}
theorem pe_f (h : FP X.prog X.w X.K X.mg X.base x k n sp) (hr : Room k X.A) (hg : Gl X x) (ha : PA X (e :: es) t) (hdb : (x == ("__debug__" : Str)) = false := by decide) (he : starEach (e :: es) X.env = (false, eval e X.env) :: starEach es X.env := by rfl)
    (hpl : (backTo pos (starEach es X.env)).any (·.1) = false := by rfl) : PE X (.Call (.Name x p) (e :: es) [] pos) (tCall (up X.K n sp) [] E0 t) := by
  obtain ⟨fd, ps, F, b⟩ := h.ex
  exact pe_call F hr hg h.at_ h.kp b .nil pass0 ha hdb he hpl
theorem pe_f0 (h : FP X.prog X.w X.K X.mg X.base x k n sp) (hr : Room k X.A) (hg : Gl X x) (hdb : (x == ("__debug__" : Str)) = false := by decide) : PE X (.Call (.Name x p) [] [] pos) (tCall (up X.K n sp) [] E0 tNil) := by
  obtain ⟨fd, ps, F, b⟩ := h.ex
  exact pe_call0 F hr hg h.at_ h.kp b .nil pass0 hdb
theorem pe_new (h : KP X.prog X.w X.K X.mg X.base cn k n sp) (hr : Room (k + 1) X.A) (hg : Gl X cn) (ha : PA X (e :: es) t) (hdb : (cn == ("__debug__" : Str)) = false := by decide) (he : starEach (e :: es) X.env = (false, eval e X.env) :: starEach es X.env := by rfl)
    (hpl : (backTo pos (starEach es X.env)).any (·.1) = false := by rfl) : PE X (.Call (.Name cn p) (e :: es) [] pos) (tMake (He.ga X.K cn) (up X.K n sp) [] E0 t) := by
  obtain ⟨fd, ps, F, b⟩ := h.ex
  exact pe_make h.mkc F hr hg h.at_ b .nil pass0 ha hdb he hpl
theorem pe_m {pl : Sem Bool} (h : MP X.prog X.w X.K X.mg X.base cn m k n sp) (hr : Room k X.A) (he : PE X o ta) (ha : PA X (e :: es) t)
    (hst : starEach (e :: es) X.env = (false, eval e X.env) :: starEach es X.env := by rfl) (hpl : (backTo pos (starEach es X.env)).any (·.1) = false := by rfl)
    (ht : eval (.Call (.Attribute o m apos) (e :: es) [] pos) X.env = (do
      let ov ← eval o X.env
      standAt apos.atName
      let (f, first) ← holding [ov] (getMethod ov m pl)
      callWith pos f first (backTo pos (starEach (e :: es) X.env)) (backToKw pos (keywordEach [] X.env))) := by rfl) :
    PE X (.Call (.Attribute o m apos) (e :: es) [] pos) (tMeth (He.ga X.K cn) m (up X.K n sp) [] E0 ta t) := by
  obtain ⟨fd, ps, F, b⟩ := h.ex
  exact pe_meth (pl := pl) he h.cl h.me F hr b .nil pass0 ha hst hpl ht
theorem pe_m0 {pl : Sem Bool} (h : MP X.prog X.w X.K X.mg X.base cn m k n sp) (hr : Room k X.A) (he : PE X o ta)
    (ht : eval (.Call (.Attribute o m apos) [] [] pos) X.env = (do
      let ov ← eval o X.env
      standAt apos.atName
      let (f, first) ← holding [ov] (getMethod ov m pl)
      callWith pos f first (backTo pos (starEach [] X.env)) (backToKw pos (keywordEach [] X.env))) := by rfl) :
    PE X (.Call (.Attribute o m apos) [] [] pos) (tMeth (He.ga X.K cn) m (up X.K n sp) [] E0 ta tNil) := by
  obtain ⟨fd, ps, F, b⟩ := h.ex
  exact pe_meth0 (pl := pl) he h.cl h.me F hr b .nil pass0 ht
theorem pe_gs {z : Str} (h : ∃ t, X.mg x = some (.str z t)) (hg : Gl X x) (hd : (x == ("__debug__" : Str)) = false := by decide) : PE X (.Name x pos) (tC (.str z)) := by
  obtain ⟨t, h⟩ := h
  exact pe_glob hg h ⟨t, rfl⟩ hd
theorem pe_gi {i : Int} (h : ∃ t, X.mg x = some (.int i t)) (hg : Gl X x) (hd : (x == ("__debug__" : Str)) = false := by decide) : PE X (.Name x pos) (tC (.int i)) := by
  obtain ⟨t, h⟩ := h
  exact pe_glob hg h ⟨t, rfl⟩ hd
end
end L3
/-! L3, part L: more: freezing reads, dicts of our own, index, count, join. -/
namespace L3
open PySem PySem.Spec PyProof.Rows L2
section
variable {K : PySem.W.Frag}
/-! ### a name that stands still from now on -/
def zE : Option E → Option D
  | some (.va d) => some d
  | some (.ow c) => c.dat
  | _ => none
def tvz (i : Nat) : DT := fun δ Q => ∃ d, zE δ[i]? = some d ∧ Q (.va d) (δ.set i (.va d))
theorem snd_varz {i : Nat} : Snd K (tVar i) (tvz i) := fun σ H G δ Q Q3 L h k => by
  obtain ⟨d, e, q⟩ := h
  unfold zE at e
  split at e
  · rename_i d' e2
    cases e
    obtain ⟨v, h1, h2⟩ := L.va i d e2
    have hs : δ.set i (.va d) = δ := by
      refine List.ext_getElem? fun j => ?_
      by_cases z : i = j
      · subst z
        rw [List.getElem?_set_self (List.getElem?_eq_some_iff.mp e2).1, e2]
      · rw [List.getElem?_set_ne z]
    rw [hs] at q
    exact ⟨v, h1, k (.va d) δ v H G L .refl .refl h2 q⟩
  · rename_i c e2
    obtain ⟨l, h1, h2, h3⟩ := L.ow i c e2
    obtain ⟨o, h4, s1, ha⟩ := freeze h3 e h2
    have ad : Ad σ δ l := ⟨i, c, e2, h1⟩
    refine ⟨.ref l, h1, k (.va d) (δ.set i (.va d)) (.ref l) H (upd G l o) ⟨by rw [List.length_set]; exact L.len, fun a u g => ?_, fun j d' e3 => ?_, fun j c' e3 => ?_, fun j j' l' c1 c2 e3 e4 q3 q4 => ?_⟩ ⟨fun _ _ _ z => z, s1, fun a na _ => ?_, fun _ z => z⟩ (Le.setV i d) ha q⟩
    · by_cases z : a = l
      · subst z
        rw [upd_same] at g
        cases g
        exact h4
      · rw [upd_ne z] at g
        exact L.sub a u g
    · rcases set_get e3 with ⟨rfl, e5, _⟩ | ⟨ne, e5⟩
      · cases e5
        exact ⟨.ref l, h1, ha⟩
      · obtain ⟨v, q1, q2⟩ := L.va j d' e5
        exact ⟨v, q1, q2.mono s1⟩
    · rcases set_get e3 with ⟨rfl, e5, _⟩ | ⟨ne, e5⟩
      · cases e5
      · obtain ⟨l2, q1, q2, q3⟩ := L.ow j c' e5
        have nl : l2 ≠ l := fun z => ne (L.dj i j l c c' e2 e5 h1 (by rw [← z]; exact q1))
        exact ⟨l2, q1, by rw [upd_ne nl]; exact q2, q3.mono (fun _ z => z) s1⟩
    · rcases set_get e3 with ⟨rfl, e5, _⟩ | ⟨ne, e5⟩
      · cases e5
      · rcases set_get e4 with ⟨rfl, e6, _⟩ | ⟨ne', e6⟩
        · cases e6
        · exact L.dj j j' l' c1 c2 e5 e6 q3 q4
    · have : a ≠ l := fun z => na (by rw [z]; exact ad)
      rw [upd_ne this]
  · cases e
def tyes : DTT := fun δ Q => Q true δ
theorem sndt_yes : SndT K tYes tyes := fun σ H G δ Q Q3 L h k => k true δ H G L .refl .refl h
def popF0 : List D → List D → (D → List D → Prop) → Prop := fun xs ds Q => ds = [] ∧ popF xs ds Q
def popF1 : List D → List D → (D → List D → Prop) → Prop := fun xs ds Q => ds ≠ [] ∧ popF xs ds Q
def revmF : List D → List D → (D → List D → Prop) → Prop := fun xs ds Q => ds = [] ∧ Q .non xs.reverse
/-! ### += and -= of ints -/
def ipaddF : D → D → (R → Prop) → Prop
  | .int i, .int j, Q => Q (.va (.int (i + j)))
  | _, _, _ => False
def ipsubF : D → D → (R → Prop) → Prop
  | .int i, .int j, Q => Q (.va (.int (i - j)))
  | _, _, _ => False
theorem snd_ipadd : Snd2 K (ipI fun i j => i + j) ipaddF := fun H G x y d e Q Q3 s hx hy hF k => by
  unfold ipaddF at hF
  split at hF
  · obtain rfl := hx
    obtain rfl := hy
    exact ⟨_, _, rfl, rfl, k.va s (.int _) hF⟩
  · exact hF.elim
theorem snd_ipsub : Snd2 K (ipI fun i j => i - j) ipsubF := fun H G x y d e Q Q3 s hx hy hF k => by
  unfold ipsubF at hF
  split at hF
  · obtain rfl := hx
    obtain rfl := hy
    exact ⟨_, _, rfl, rfl, k.va s (.int _) hF⟩
  · exact hF.elim
/-! ### dicts of our own, keys ints and texts -/
def keyD : D → Option Key
  | .int i => some (.inl i)
  | .str x => some (.inr x)
  | _ => none
def valD (kvs : List (Key × D)) (k : Key) : Option D := (kvs.find? fun kv => decide (kv.1 = k)).map (·.2)
def putD (kvs : List (Key × D)) (k : Key) (v : D) : List (Key × D) :=
  if (kvs.any fun kv => decide (kv.1 = k)) = true then kvs.map (fun kv => if kv.1 = k then (kv.1, v) else kv) else kvs ++ [(k, v)]
theorem AtKV.val {G : Hp} {k : Key} : ∀ {vs : List (Key × V)} {ds : List (Key × D)}, AtKV K G vs ds → (∀ d, valD ds k = some d → ∃ v, valV vs k = some v ∧ At K G v d) ∧ (valV vs k).isSome = (valD ds k).isSome
  | _, _, .nil => ⟨fun d h => by simp [valD] at h, rfl⟩
  | _, _, .cons (a := p) (b := q) h t => by
    obtain ⟨e, a⟩ := h
    obtain ⟨ih1, ih2⟩ := AtKV.val (k := k) t
    by_cases z : p.1 = k
    · have z' : q.1 = k := by rw [← e]; exact z
      refine ⟨fun d hd => ?_, ?_⟩
      · simp [valD, List.find?_cons, z'] at hd
        subst hd
        exact ⟨p.2, valV_pos z, a⟩
      · rw [valV_pos z]
        simp [valD, List.find?_cons, z']
    · have z' : ¬ q.1 = k := by rw [← e]; exact z
      refine ⟨fun d hd => ?_, ?_⟩
      · rw [valV_neg z]
        exact ih1 d (by simpa [valD, List.find?_cons, z'] using hd)
      · rw [valV_neg z, ih2]
        simp [valD, List.find?_cons, z']
theorem AtKV.any {G : Hp} {k : Key} : ∀ {vs : List (Key × V)} {ds : List (Key × D)}, AtKV K G vs ds → (vs.any fun kv => decide (kv.1 = k)) = (ds.any fun kv => decide (kv.1 = k))
  | _, _, .nil => rfl
  | _, _, .cons h t => by
    rw [List.any_cons, List.any_cons, AtKV.any t, h.1]
theorem AtKV.mapk {G : Hp} {k : Key} {v : V} {d : D} (h : At K G v d) : ∀ {vs : List (Key × V)} {ds : List (Key × D)}, AtKV K G vs ds → AtKV K G (vs.map fun kv => if kv.1 = k then (kv.1, v) else kv) (ds.map fun kv => if kv.1 = k then (kv.1, d) else kv)
  | _, _, .nil => .nil
  | _, _, .cons (a := p) (b := q) a t => by
    obtain ⟨e, b⟩ := a
    refine .cons ?_ (AtKV.mapk h t)
    show (if p.1 = k then (p.1, v) else p).1 = (if q.1 = k then (q.1, d) else q).1 ∧ At K G (if p.1 = k then (p.1, v) else p).2 (if q.1 = k then (q.1, d) else q).2
    by_cases z : p.1 = k
    · have z' : q.1 = k := by rw [← e]; exact z
      rw [if_pos z, if_pos z']
      exact ⟨e, h⟩
    · have z' : ¬ q.1 = k := by rw [← e]; exact z
      rw [if_neg z, if_neg z']
      exact ⟨e, b⟩
theorem AtKV.app {G : Hp} {p : Key × V} {q : Key × D} (h : p.1 = q.1 ∧ At K G p.2 q.2) : ∀ {vs : List (Key × V)} {ds : List (Key × D)}, AtKV K G vs ds → AtKV K G (vs ++ [p]) (ds ++ [q])
  | _, _, .nil => .cons h .nil
  | _, _, .cons a t => .cons a (AtKV.app h t)
theorem AtKV.put {G : Hp} {k : Key} {v : V} {d : D} (h : At K G v d) {vs : List (Key × V)} {ds : List (Key × D)} (t : AtKV K G vs ds) : AtKV K G (putK vs k v) (putD ds k d) := by
  unfold putK putD
  rw [t.any]
  by_cases z : (ds.any fun kv => decide (kv.1 = k)) = true
  · rw [if_pos z, if_pos z]
    exact t.mapk h
  · rw [if_neg z, if_neg z]
    exact t.app ⟨rfl, h⟩
theorem AtKV.length {G : Hp} : ∀ {vs : List (Key × V)} {ds : List (Key × D)}, AtKV K G vs ds → vs.length = ds.length
  | _, _, .nil => rfl
  | _, _, .cons _ t => congrArg (· + 1) (AtKV.length t)
def R.dct (δ : En) : R → Option (List (Key × D))
  | .fr (.d kvs) => some kvs
  | .rf i => match δ[i]? with
    | some (.ow (.d kvs)) => some kvs
    | _ => none
  | _ => none
theorem dct_at {σ : L2.St} {H0 H G : Hp} {δ : En} {r : R} {v : V} {kvs : List (Key × D)} (L : Rel K σ H G δ) (rr : RR K σ H0 H G r v) (e : r.dct δ = some kvs) : ∃ a vs, v = .ref a ∧ H a = some (.dK vs) ∧ AtKV K G vs kvs := by
  cases r with
  | va d => cases e
  | fr c =>
    cases c with
    | l xs => cases e
    | o cn fs => cases e
    | d ks =>
      cases e
      obtain ⟨l, rfl, _, _, vs, h1, h2⟩ := rr
      exact ⟨l, vs, rfl, h1, h2⟩
  | rf i =>
    have e2 : (match δ[i]? with | some (E.ow (.d kvs)) => some kvs | _ => none) = some kvs := e
    split at e2
    · rename_i ks q
      cases e2
      obtain ⟨l, h1, _, vs, h2, h3⟩ := L.ow i _ q
      rw [show σ[i]? = some (some v) from rr] at h1
      cases h1
      exact ⟨l, vs, rfl, h2, h3⟩
    · cases e2
theorem sh_key {H G : Hp} {v : V} {d : D} {k : Key} (h : Sh K H G v d) (e : keyD d = some k) : v = kV k := by
  cases d with
  | int i =>
    cases e
    exact h
  | str x =>
    cases e
    exact h
  | _ => cases e
def tdnew : DT := fun δ Q => Q (.fr (.d [])) δ
theorem snd_dnew : Snd K tDNewK tdnew := fun σ H G δ Q Q3 L h k => by
  intro p hp
  obtain ⟨f, s⟩ := gr_new (G := G) (o := .dK []) L.sub hp
  exact k (.fr (.d [])) δ (.ref p) _ G (L.grow f s) f.fr .refl ⟨p, rfl, hp, g_none L.sub hp, [], upd_same, .nil⟩ h
def tdin (Ty Td : DT) : DT := fun δ Q => Ty δ fun y δ1 => Td δ1 fun x δ2 => ∃ d k kvs, y.dat δ2 = some d ∧ keyD d = some k ∧ x.dct δ2 = some kvs ∧ Q (.va (.bl (valD kvs k).isSome)) δ2
def tdnotin (Ty Td : DT) : DT := fun δ Q => Ty δ fun y δ1 => Td δ1 fun x δ2 => ∃ d k kvs, y.dat δ2 = some d ∧ keyD d = some k ∧ x.dct δ2 = some kvs ∧ Q (.va (.bl (!(valD kvs k).isSome))) δ2
theorem snd_din {ty td : TE} {Ty Td : DT} (a : Snd K ty Ty) (b : Snd K td Td) : Snd K (tDIn ty td) (tdin Ty Td) := fun σ H G δ Q Q3 L h k => by
  refine a σ H G δ _ _ L h fun y δ1 vy H1 G1 L1 f1 le1 r1 q => ?_
  refine b σ H1 G1 δ1 _ _ L1 q fun x δ2 vx H2 G2 L2 f2 le2 r2 q => ?_
  obtain ⟨d, ky, kvs, e1, e2, e3, q⟩ := q
  have ev := sh_key (Sh.on L f1 le1 f2 L2 r1 e1) e2
  subst ev
  obtain ⟨p, vs, rfl, h1, t1⟩ := dct_at L2 r2 e3
  refine ⟨p, _, rfl, DGet.k h1, ?_⟩
  rw [t1.val.2]
  exact k (.va (.bl _)) δ2 _ H2 G2 L2 (f1.trans f2 fun a h => .inl (le1.ad h)) (le2.trans le1) (At.bl _) q
theorem snd_dnotin {ty td : TE} {Ty Td : DT} (a : Snd K ty Ty) (b : Snd K td Td) : Snd K (tDNotIn ty td) (tdnotin Ty Td) := fun σ H G δ Q Q3 L h k => by
  refine a σ H G δ _ _ L h fun y δ1 vy H1 G1 L1 f1 le1 r1 q => ?_
  refine b σ H1 G1 δ1 _ _ L1 q fun x δ2 vx H2 G2 L2 f2 le2 r2 q => ?_
  obtain ⟨d, ky, kvs, e1, e2, e3, q⟩ := q
  have ev := sh_key (Sh.on L f1 le1 f2 L2 r1 e1) e2
  subst ev
  obtain ⟨p, vs, rfl, h1, t1⟩ := dct_at L2 r2 e3
  refine ⟨p, _, rfl, DGet.k h1, ?_⟩
  rw [t1.val.2]
  exact k (.va (.bl _)) δ2 _ H2 G2 L2 (f1.trans f2 fun a h => .inl (le1.ad h)) (le2.trans le1) (At.bl _) q
def tdget (Td Ty : DT) : DT := fun δ Q => Td δ fun x δ1 => Ty δ1 fun y δ2 => ∃ d k kvs z, y.dat δ2 = some d ∧ keyD d = some k ∧ x.dct δ2 = some kvs ∧ valD kvs k = some z ∧ Q (.va z) δ2
theorem snd_dget {ty td : TE} {Ty Td : DT} (a : Snd K td Td) (b : Snd K ty Ty) : Snd K (tDGet td ty) (tdget Td Ty) := fun σ H G δ Q Q3 L h k => by
  refine a σ H G δ _ _ L h fun x δ1 vx H1 G1 L1 f1 le1 r1 q => ?_
  refine b σ H1 G1 δ1 _ _ L1 q fun y δ2 vy H2 G2 L2 f2 le2 r2 q => ?_
  obtain ⟨d, ky, kvs, z, e1, e2, e3, e4, q⟩ := q
  have ev := sh_key (sh_of L2 r2 e1) e2
  subst ev
  obtain ⟨p, vs, rfl, h1, t1⟩ := dct_at L2 (r1.on L f1 le1 f2) e3
  obtain ⟨v, h2, h3⟩ := t1.val.1 z e4
  exact ⟨p, v, rfl, by rw [← h2]; exact DGet.k h1, k (.va z) δ2 v H2 G2 L2 (f1.trans f2 fun a h => .inl (le1.ad h)) (le2.trans le1) h3 q⟩
/-- d[k] = e of a dict of our own -/
def sdput (Td Ty Tv : DT) : DS := fun D δ => Tv δ fun r δ1 => Td δ1 fun x δ2 => Ty δ2 fun y δ3 => ∃ i kvs d k z, x = .rf i ∧ δ3[i]? = some (E.ow (.d kvs)) ∧ y.dat δ3 = some d ∧ keyD d = some k ∧ r = .va z ∧ kvs.length < sizeLine ∧ D.nx (δ3.set i (.ow (.d (putD kvs k z))))
theorem snds_dput {ty td tv : TE} {Ty Td Tv : DT} (a : Snd K td Td) (b : Snd K ty Ty) (c : Snd K tv Tv) : SndS K [] (sDPut td ty tv) (sdput Td Ty Tv) := fun F hp σ H G δ D3 D s h g => by
  refine c σ H G δ _ _ s.L h fun r δ1 v H1 G1 L1 f1 le1 r1 q => ?_
  refine a σ H1 G1 δ1 _ _ L1 q fun x δ2 vx H2 G2 L2 f2 le2 r2 q => ?_
  refine b σ H2 G2 δ2 _ _ L2 q fun y δ3 vy H3 G3 L3 f3 le3 r3 q => ?_
  obtain ⟨i, kvs, d, ky, z, rfl, e0, e1, e2, rfl, hl, q⟩ := q
  have ev := sh_key (sh_of L3 r3 e1) e2
  subst ev
  obtain ⟨l, h1, h2, vs, h3, t3⟩ := L3.ow i _ e0
  rw [show σ[i]? = some (some vx) from r2] at h1
  cases h1
  have hz : At K G3 v z := At.mono (f2.sub.trans f3.sub) r1
  obtain ⟨L4, f4, le4⟩ := L3.upC (o := .dK (putK vs ky v)) (c' := .d (putD kvs ky z)) e0 r2 ⟨_, upd_same, t3.put hz⟩
  refine ⟨l, _, rfl, DPut.k h3 (by rw [t3.length]; exact hl), ?_⟩
  have f12 : Fr (Ad σ δ) H G H2 G2 := f1.trans f2 fun a h => .inl (le1.ad h)
  have f13 : Fr (Ad σ δ) H G H3 G3 := f12.trans f3 fun a h => .inl ((le2.trans le1).ad h)
  exact g.nx _ _ _ _ (Nxt.step s L4 (f13.trans f4 fun a h => .inl ((le3.trans (le2.trans le1)).ad h)) (le4.trans (le3.trans (le2.trans le1)))) q
/-! ### methods that read -/
theorem ty_dat {H G : Hp} {v : V} {xs : List D} (h : Sh K H G v (.lst xs)) : tyV K "list" v H := by
  obtain ⟨a, vs, rfl, h1, _⟩ := h
  exact ty_lst h1
/-- xs.index(e) of data -/
def tindex (To Te : DT) : DT := fun δ Q => To δ fun ro δ1 => ∃ xs0, ro.dat δ1 = some (.lst xs0) ∧ Te δ1 fun r δ2 => ∃ xs d p ps j z, ro.dat δ2 = some (.lst xs) ∧ r.dat δ2 = some d ∧ d.py = some p ∧ D.pys xs = some ps ∧ SeqAt.shaped (.list ps) = true ∧ SeqAt.shaped p = true ∧ ps[j]? = some z ∧ PyData.eqv z p = true ∧
  (∀ (m : Nat) z', m < j → ps[m]? = some z' → PyData.eqv z' p = false) ∧ Q (.va (.int (j : Nat))) δ2
theorem snd_index {to te : TE} {To Te : DT} (a : Snd K to To) (b : Snd K te Te) : Snd K (tBM K "list" (rIndexD K) to (tCons te tNil)) (tindex To Te) := fun σ H G δ Q Q3 L h k => by
  refine a σ H G δ _ _ L h fun ro δ1 v H1 G1 L1 f1 le1 rr q => ?_
  obtain ⟨xs0, e0, q⟩ := q
  refine ⟨ty_dat (sh_of L1 rr e0), ?_⟩
  refine b σ H1 G1 δ1 _ _ L1 q fun r δ2 u H2 G2 L2 f2 le2 rr2 q => ?_
  obtain ⟨xs, d, p, ps, j, z, e1, e2, e3, e4, s1, s2, e5, e6, e7, q⟩ := q
  have sh := Sh.on L f1 le1 f2 L2 rr e1
  obtain ⟨l, vs, rfl, h1, t1⟩ := id sh
  exact ⟨l, u, p, ps, j, z, rfl, rfl, sh.dp L2.sub (by rw [D.py, e4]; rfl), (sh_of L2 rr2 e2).dp L2.sub e3, s1, s2, e5, e6, e7, k (.va (.int _)) δ2 _ H2 G2 L2 (f1.trans f2 fun a h => .inl (le1.ad h)) (le2.trans le1) (At.int _) q⟩
/-- xs.count(n) of ints -/
def tcount (To Te : DT) : DT := fun δ Q => To δ fun ro δ1 => ∃ xs0, ro.dat δ1 = some (.lst xs0) ∧ Te δ1 fun r δ2 => ∃ (ns : List Int) (n : Int), ro.dat δ2 = some (.lst (ns.map D.int)) ∧ r = .va (.int n) ∧ Q (.va (.int (ns.count n : Nat))) δ2
theorem snd_count {to te : TE} {To Te : DT} (a : Snd K to To) (b : Snd K te Te) : Snd K (tBM K "list" (rCntI K) to (tCons te tNil)) (tcount To Te) := fun σ H G δ Q Q3 L h k => by
  refine a σ H G δ _ _ L h fun ro δ1 v H1 G1 L1 f1 le1 rr q => ?_
  obtain ⟨xs0, e0, q⟩ := q
  refine ⟨ty_dat (sh_of L1 rr e0), ?_⟩
  refine b σ H1 G1 δ1 _ _ L1 q fun r δ2 u H2 G2 L2 f2 le2 rr2 q => ?_
  obtain ⟨ns, n, e1, rfl, q⟩ := q
  obtain ⟨l, vs, rfl, h1, t1⟩ := Sh.on L f1 le1 f2 L2 rr e1
  rw [t1.ints] at h1
  have eu := rr_int rr2
  subst eu
  exact ⟨l, ns, n, rfl, rfl, SqL.of h1, k (.va (.int _)) δ2 _ H2 G2 L2 (f1.trans f2 fun a h => .inl (le1.ad h)) (le2.trans le1) (At.int _) q⟩
/-- s.join(xs) of a list of texts -/
def tjoin (To Te : DT) : DT := fun δ Q => To δ fun ro δ1 => ∃ a, ro = .va (.str a) ∧ Te δ1 fun r δ2 => ∃ ys : List Str, (r.dat δ2 = some (.lst (ys.map D.str)) ∨ r.dat δ2 = some (.tup (ys.map D.str))) ∧ (ys.map (·.length)).sum + ys.length * a.length ≤ 16777216 ∧ Q (.va (.str (Txt.join a ys))) δ2
def rJoin (K : PySem.W.Frag) : V → List V → Hp → VK → Prop := fun x xs H Q => ∃ a p, ∃ ys : List Str, x = .str a ∧ xs = [.ref p] ∧ (SqL K H p (ys.map V.str) ∨ SqT K H p (ys.map V.str)) ∧ (ys.map (·.length)).sum + ys.length * a.length ≤ 16777216 ∧ Q (.str (Txt.join a ys)) H
theorem snd_join {to te : TE} {To Te : DT} (a : Snd K to To) (b : Snd K te Te) : Snd K (tBM K "str" (rJoin K) to (tCons te tNil)) (tjoin To Te) := fun σ H G δ Q Q3 L h k => by
  refine a σ H G δ _ _ L h fun ro δ1 v H1 G1 L1 f1 le1 rr q => ?_
  obtain ⟨s, rfl, q⟩ := q
  have ev : v = .str s := by
    cases (show At K G1 v (.str s) from rr)
    rfl
  subst ev
  refine ⟨rfl, ?_⟩
  refine b σ H1 G1 δ1 _ _ L1 q fun r δ2 u H2 G2 L2 f2 le2 rr2 q => ?_
  obtain ⟨ys, e, hl, q⟩ := q
  rcases e with e | e
  · obtain ⟨l, vs, rfl, h1, t1⟩ := sh_of L2 rr2 e
    rw [t1.strs] at h1
    exact ⟨s, l, ys, rfl, rfl, .inl (SqL.of h1), hl, k (.va (.str _)) δ2 _ H2 G2 L2 (f1.trans f2 fun a h => .inl (le1.ad h)) (le2.trans le1) (At.str _) q⟩
  · obtain ⟨l, vs, rfl, h1, t1⟩ := sh_of L2 rr2 e
    rw [t1.strs] at h1
    exact ⟨s, l, ys, rfl, rfl, .inr (L2.sub.sqT h1), hl, k (.va (.str _)) δ2 _ H2 G2 L2 (f1.trans f2 fun a h => .inl (le1.ad h)) (le2.trans le1) (At.str _) q⟩
end
end L3
/-! L3, part M: steps of readings. -/
namespace L3
open PySem PySem.Spec PyProof.Rows L2
section
variable {Q : R → En → Prop} {QB : Bool → En → Prop} {QA : List R → En → Prop} {δ : En} {d : D} {c : Cn} {T U V : DT} {C C2 : DTT} {TA : DTA} {F : D → D → (R → Prop) → Prop} {F1 : D → (R → Prop) → Prop}
theorem e_tv {i : Nat} (e : δ[i]? = some (.va d)) (k : Q (.va d) δ) : tv i δ Q := by
  unfold tv; rw [e]; exact k
theorem e_tvo {i : Nat} (e : δ[i]? = some (.ow c)) (k : Q (.rf i) δ) : tv i δ Q := by
  unfold tv; rw [e]; exact k
theorem e_tvz {i : Nat} (e : δ[i]? = some (.va d)) (k : Q (.va d) δ) : tvz i δ Q := by
  refine ⟨d, by unfold zE; rw [e], ?_⟩
  have hs : δ.set i (.va d) = δ := by
    refine List.ext_getElem? fun j => ?_
    by_cases z : i = j
    · subst z
      rw [List.getElem?_set_self (List.getElem?_eq_some_iff.mp e).1, e]
    · rw [List.getElem?_set_ne z]
  rw [hs]
  exact k
theorem e_tvzo {i : Nat} {δ' : En} (e : δ[i]? = some (.ow c)) (e2 : c.dat = some d) (e3 : δ.set i (.va d) = δ') (k : Q (.va d) δ') : tvz i δ Q := ⟨d, by unfold zE; rw [e]; exact e2, by rw [e3]; exact k⟩
theorem e_tc (k : Q (.va d) δ) : tc d δ Q := k
theorem e_ta0 (k : QA [] δ) : ta0 δ QA := k
theorem e_tac (k : T δ fun r δ1 => TA δ1 fun rs δ2 => QA (r :: rs) δ2) : tac T TA δ QA := k
theorem e_tb2 (k : T δ fun x δ1 => U δ1 fun y δ2 => ∃ d e, x.dat δ2 = some d ∧ y.dat δ2 = some e ∧ F d e fun r => Q r δ2) : tb2 F T U δ Q := k
theorem e_tb1 (k : T δ fun x δ1 => ∃ d, x.dat δ1 = some d ∧ F1 d fun r => Q r δ1) : tb1 F1 T δ Q := k
theorem e_dat2 {x y : R} {d e : D} {P : D → D → Prop} (e1 : x.dat δ = some d) (e2 : y.dat δ = some e) (k : P d e) : ∃ d e, x.dat δ = some d ∧ y.dat δ = some e ∧ P d e := ⟨d, e, e1, e2, k⟩
theorem e_dat1 {x : R} {d : D} {P : D → Prop} (e1 : x.dat δ = some d) (k : P d) : ∃ d, x.dat δ = some d ∧ P d := ⟨d, e1, k⟩
theorem e_tcb {G : List D → (R → Prop) → Prop} (k : TA δ fun rs δ1 => ∃ ds, dats δ1 rs = some ds ∧ G ds fun r => Q r δ1) : tcb G TA δ Q := k
theorem e_dats {rs : List R} {ds : List D} {P : List D → Prop} (e : dats δ rs = some ds) (k : P ds) : ∃ ds, dats δ rs = some ds ∧ P ds := ⟨ds, e, k⟩
theorem e_ttup (k : TA δ fun rs δ1 => ∃ ds, stills δ1 rs = some ds ∧ ds.length ≤ sizeLine ∧ Q (.va (.tup ds)) δ1) : ttup TA δ Q := k
theorem e_tlst (k : TA δ fun rs δ1 => ∃ ds, stills δ1 rs = some ds ∧ ds.length ≤ sizeLine ∧ Q (.fr (.l ds)) δ1) : tlst TA δ Q := k
theorem e_stills {rs : List R} {ds : List D} {P : List D → Prop} (e : stills δ rs = some ds) (b : ds.length ≤ sizeLine) (k : P ds) : ∃ ds, stills δ rs = some ds ∧ ds.length ≤ sizeLine ∧ P ds := ⟨ds, e, b, k⟩
theorem e_tt (k : T δ fun r δ1 => ∃ b, r = .va (.bl b) ∧ QB b δ1) : tt T δ QB := k
theorem e_bl {b : Bool} {P : Bool → Prop} (k : P b) : ∃ b', R.va (.bl b) = .va (.bl b') ∧ P b' := ⟨b, rfl, k⟩
theorem e_ttru (k : T δ fun r δ1 => ∃ d b, r.dat δ1 = some d ∧ truD d = some b ∧ QB b δ1) : ttru T δ QB := k
theorem e_tru {r : R} {d : D} {b : Bool} {P : Bool → Prop} (e1 : r.dat δ = some d) (e2 : truD d = some b) (k : P b) : ∃ d b, r.dat δ = some d ∧ truD d = some b ∧ P b := ⟨d, b, e1, e2, k⟩
theorem e_tand (k : C δ fun c δ1 => (c = true → C2 δ1 QB) ∧ (c = false → QB false δ1)) : tand C C2 δ QB := by
  have : ∀ c δ1, ((c = true → C2 δ1 QB) ∧ (c = false → QB false δ1)) = if c = true then C2 δ1 QB else QB false δ1 := fun c δ1 => by cases c <;> simp
  simp only [this] at k
  exact k
theorem e_tor (k : C δ fun c δ1 => (c = true → QB true δ1) ∧ (c = false → C2 δ1 QB)) : tor C C2 δ QB := by
  have : ∀ c δ1, ((c = true → QB true δ1) ∧ (c = false → C2 δ1 QB)) = if c = true then QB true δ1 else C2 δ1 QB := fun c δ1 => by cases c <;> simp
  simp only [this] at k
  exact k
theorem e_tnot (k : C δ fun c δ1 => QB (!c) δ1) : tnot C δ QB := k
theorem e_tandV (k : T δ fun r δ1 => ∃ c, r = .va (.bl c) ∧ (c = true → U δ1 Q) ∧ (c = false → Q (.va (.bl false)) δ1)) : tandV T U δ Q := by
  have : ∀ (c : Bool) δ1, ((c = true → U δ1 Q) ∧ (c = false → Q (.va (.bl false)) δ1)) = if c = true then U δ1 Q else Q (.va (.bl false)) δ1 := fun c δ1 => by cases c <;> simp
  simp only [this] at k
  exact k
theorem e_torV (k : T δ fun r δ1 => ∃ c, r = .va (.bl c) ∧ (c = true → Q (.va (.bl true)) δ1) ∧ (c = false → U δ1 Q)) : torV T U δ Q := by
  have : ∀ (c : Bool) δ1, ((c = true → Q (.va (.bl true)) δ1) ∧ (c = false → U δ1 Q)) = if c = true then Q (.va (.bl true)) δ1 else U δ1 Q := fun c δ1 => by cases c <;> simp
  simp only [this] at k
  exact k
theorem e_tnotV (k : T δ fun r δ1 => ∃ c, r = .va (.bl c) ∧ Q (.va (.bl (!c))) δ1) : tnotV T δ Q := k
theorem e_bb {c : Bool} {A B : Prop} (k : (c = true → A) ∧ (c = false → B)) : ∃ c', R.va (.bl c) = .va (.bl c') ∧ (c' = true → A) ∧ (c' = false → B) := ⟨c, rfl, k⟩
theorem e_tyes (k : QB true δ) : tyes δ QB := k
theorem e_tif (k : C δ fun b δ1 => (b = true → T δ1 Q) ∧ (b = false → U δ1 Q)) : tif C T U δ Q := by
  have : ∀ (c : Bool) δ1, ((c = true → T δ1 Q) ∧ (c = false → U δ1 Q)) = if c = true then T δ1 Q else U δ1 Q := fun c δ1 => by cases c <;> simp
  simp only [this] at k
  exact k
theorem br_t {A B : Prop} (k : A) : ((true : Bool) = true → A) ∧ ((true : Bool) = false → B) := ⟨fun _ => k, fun h => (nomatch h)⟩
theorem br_f {A B : Prop} (k : B) : ((false : Bool) = true → A) ∧ ((false : Bool) = false → B) := ⟨fun h => (nomatch h), fun _ => k⟩
theorem br_n {A B : Prop} {b : Bool} (k : (b = true → B) ∧ (b = false → A)) : ((!b) = true → A) ∧ ((!b) = false → B) := by cases b <;> simp_all
theorem br_p {A B : Prop} {p : Prop} [Decidable p] (k1 : p → A) (k2 : ¬ p → B) : (decide p = true → A) ∧ (decide p = false → B) := ⟨fun h => k1 (of_decide_eq_true h), fun h => k2 (of_decide_eq_false h)⟩
theorem br_b {A B : Prop} {b : Bool} (k1 : b = true → A) (k2 : b = false → B) : (b = true → A) ∧ (b = false → B) := ⟨k1, k2⟩
theorem e_tchain {p p' : Int → Int → Bool} (k : T δ fun x δ1 => U δ1 fun y δ2 => ∃ i j, x = .va (.int i) ∧ y = .va (.int j) ∧ (p i j = true → V δ2 fun z δ3 => ∃ k, z = .va (.int k) ∧ Q (.va (.bl (p' j k))) δ3) ∧ (p i j = false → Q (.va (.bl false)) δ2)) : tchain p p' T U V δ Q := by
  refine (?_ : tchain p p' T U V δ Q)
  unfold tchain
  have : ∀ (c : Bool) (A B : Prop), ((c = true → A) ∧ (c = false → B)) = if c = true then A else B := fun c A B => by cases c <;> simp
  simp only [this] at k
  exact k
theorem e_ii {i j : Int} {P : Int → Int → Prop} (k : P i j) : ∃ i' j', R.va (.int i) = .va (.int i') ∧ R.va (.int j) = .va (.int j') ∧ P i' j' := ⟨i, j, rfl, rfl, k⟩
theorem e_i {i : Int} {P : Int → Prop} (k : P i) : ∃ i', R.va (.int i) = .va (.int i') ∧ P i' := ⟨i, rfl, k⟩
theorem e_tno {QO : Option Int → En → Prop} (k : QO none δ) : tno δ QO := k
theorem e_tpart {QO : Option Int → En → Prop} (k : T δ fun r δ1 => ∃ i, r = .va (.int i) ∧ QO (some i) δ1) : tpart T δ QO := k
theorem e_tslice {Tl Th : DTO} (k : T δ fun r δ1 => Tl δ1 fun lo δ2 => Th δ2 fun hi δ3 => ∃ d, r.dat δ3 = some d ∧ slF d lo hi fun r => Q r δ3) : tslice T Tl Th δ Q := k
theorem e_tisi {n : Tn} (k : T δ fun r δ1 => ∃ k b, r.kn δ1 = some k ∧ isT n k = b ∧ Q (.va (.bl b)) δ1) : tisi n T δ Q := by
  simp only [exists_and_left, exists_eq_left'] at k
  exact k
theorem e_tisi2 {n m : Tn} (k : T δ fun r δ1 => ∃ k b, r.kn δ1 = some k ∧ (isT n k || isT m k) = b ∧ Q (.va (.bl b)) δ1) : tisi2 n m T δ Q := by
  simp only [exists_and_left, exists_eq_left'] at k
  exact k
theorem e_kn1 {r : R} {n : Tn} {kk : Kn} {b : Bool} {P : Bool → Prop} (e : r.kn δ = some kk) (e2 : isT n kk = b) (k : P b) : ∃ k b, r.kn δ = some k ∧ isT n k = b ∧ P b := ⟨kk, b, e, e2, k⟩
theorem e_kn2 {r : R} {n m : Tn} {kk : Kn} {b : Bool} {P : Bool → Prop} (e : r.kn δ = some kk) (e2 : (isT n kk || isT m kk) = b) (k : P b) : ∃ k b, r.kn δ = some k ∧ (isT n k || isT m k) = b ∧ P b := ⟨kk, b, e, e2, k⟩
theorem e_kn {r : R} {kk : Kn} {P : Kn → Prop} (e : r.kn δ = some kk) (k : P kk) : ∃ k, r.kn δ = some k ∧ P k := ⟨kk, e, k⟩
/-! what is reckoned -/
variable {q : R → Prop}
theorem f_plus {i j : Int} (k : q (.va (.int (i + j)))) : plusF (.int i) (.int j) q := k
theorem f_plusL {a b : List D} (h : a.length + b.length ≤ sizeLine) (k : q (.fr (.l (a ++ b)))) : plusF (.lst a) (.lst b) q := ⟨h, k⟩
theorem f_plusT {a b : List D} (h : a.length + b.length ≤ sizeLine) (k : q (.va (.tup (a ++ b)))) : plusF (.tup a) (.tup b) q := ⟨h, k⟩
theorem f_plusS {a b : Str} (h : a.length + b.length ≤ sizeLine) (k : q (.va (.str (a ++ b)))) : plusF (.str a) (.str b) q := ⟨h, k⟩
theorem f_minus {i j : Int} (k : q (.va (.int (i - j)))) : minusF (.int i) (.int j) q := k
theorem f_times {i j : Int} (h : CMul i j) (k : q (.va (.int (i * j)))) : timesF (.int i) (.int j) q := ⟨h, k⟩
theorem f_rep {a : List D} {n : Int} (h : -(2 ^ 63) ≤ n ∧ n < 2 ^ 63 ∧ a.length * n.toNat ≤ sizeLine) (k : q (.fr (.l (List.replicate n.toNat a).flatten))) : timesF (.lst a) (.int n) q := ⟨h, k⟩
theorem f_fdiv {i j : Int} (h : CDiv i j) (k : q (.va (.int (i / j)))) : fdivF (.int i) (.int j) q := ⟨h, k⟩
theorem f_mod {i j : Int} (h : 0 < j) (k : q (.va (.int (i % j)))) : modF (.int i) (.int j) q := ⟨h, k⟩
theorem f_pow {i j : Int} (h : CPow i j) (k : q (.va (.int (i ^ j.toNat)))) : powF (.int i) (.int j) q := ⟨h, k⟩
theorem f_neg {i : Int} (k : q (.va (.int (-i)))) : negF (.int i) q := k
theorem f_cmp {p : Int → Int → Bool} {i j : Int} (k : q (.va (.bl (p i j)))) : bF (iF p) (.int i) (.int j) q := k
theorem f_is {d : D} (k : q (.va (.bl (isNone d)))) : bF isF d .non q := by
  unfold bF isF; exact k
theorem f_nis {d : D} (k : q (.va (.bl (!isNone d)))) : bF nisF d .non q := by
  unfold bF nisF isF; exact k
theorem f_isB {d : D} {b : Bool} (h : isNone d = b) (k : q (.va (.bl b))) : bF isF d .non q := by
  subst h; exact f_is k
theorem f_nisB {d : D} {b : Bool} (h : (!isNone d) = b) (k : q (.va (.bl b))) : bF nisF d .non q := by
  subst h; exact f_nis k
theorem f_ixL {xs : List D} {i : Int} {d : D} (e : L2.atI xs i = some d) (k : q (.va d)) : ixF (.lst xs) (.int i) q := ⟨d, e, k⟩
theorem f_ixT {xs : List D} {i : Int} {d : D} (e : L2.atI xs i = some d) (k : q (.va d)) : ixF (.tup xs) (.int i) q := ⟨d, e, k⟩
theorem atI_get {α : Type} {xs : List α} {i : Int} {d : α} (h0 : 0 ≤ i) (h : xs[i.toNat]? = some d) : L2.atI xs i = some d := by
  have hl := (List.getElem?_eq_some_iff.mp h).1
  unfold L2.atI ixN
  rw [if_pos h0, if_pos (by omega)]
  exact h
theorem f_ixI {ns : List Int} {i : Int} (h0 : 0 ≤ i) (h1 : i < (ns.map D.int).length) (k : q (.va (.int (ns.getD i.toNat 0)))) : ixF (.lst (ns.map D.int)) (.int i) q := by
  have h2 : i.toNat < ns.length := by
    rw [List.length_map] at h1
    omega
  refine ⟨_, atI_get h0 (d := .int (ns.getD i.toNat 0)) ?_, k⟩
  rw [List.getElem?_map, List.getD_eq_getElem?_getD, List.getElem?_eq_getElem h2]
  rfl
theorem f_slL {xs : List D} {lo hi : Option Int} (k : q (.fr (.l (cutL xs lo hi)))) : slF (.lst xs) lo hi q := k
theorem f_slZ {xs : List D} {lo hi : Option Int} (k : q (.fr (.l (cutL xs lo hi)))) : slF (.frz xs) lo hi q := k
theorem f_slT {xs : List D} {lo hi : Option Int} (k : q (.va (.tup (cutL xs lo hi)))) : slF (.tup xs) lo hi q := k
theorem f_slS {x : Str} {lo hi : Option Int} (h : x.length ≤ sizeLine) (k : q (.va (.str (cutS x lo hi)))) : slF (.str x) lo hi q := ⟨h, k⟩
theorem f_lenL {xs : List D} (k : q (.va (.int xs.length))) : lenF [.lst xs] q := k
theorem f_lenT {xs : List D} (k : q (.va (.int xs.length))) : lenF [.tup xs] q := k
theorem f_lenZ {xs : List D} (k : q (.va (.int xs.length))) : lenF [.frz xs] q := k
theorem f_lenS {x : Str} (h : x.length ≤ sizeLine) (k : q (.va (.int x.length))) : lenF [.str x] q := ⟨h, k⟩
theorem f_listL {xs : List D} (k : q (.fr (.l xs))) : listF [.lst xs] q := k
theorem f_listT {xs : List D} (k : q (.fr (.l xs))) : listF [.tup xs] q := k
theorem f_listZ {xs : List D} (k : q (.fr (.l xs))) : listF [.frz xs] q := k
theorem f_tupL {xs : List D} (k : q (.va (.tup xs))) : tupleF [.lst xs] q := k
theorem f_tupT {xs : List D} (k : q (.va (.tup xs))) : tupleF [.tup xs] q := k
theorem f_int {i : Int} (k : q (.va (.int i))) : intF [.int i] q := k
theorem f_max2 {i j : Int} (k : q (.va (.int (if j > i then j else i)))) : max2F [.int i, .int j] q := k
theorem f_min2 {i j : Int} (k : q (.va (.int (if j < i then j else i)))) : min2F [.int i, .int j] q := k
theorem f_eq {d e : D} {b : Bool} (h : ∃ p q, d.py = some p ∧ e.py = some q ∧ SeqAt.shaped p = true ∧ SeqAt.shaped q = true ∧ PyData.eqv p q = b) (k : q (.va (.bl b))) : bF eqF d e q := by
  obtain ⟨p, r, e1, e2, s1, s2, rfl⟩ := h
  exact ⟨p, r, e1, e2, s1, s2, k⟩
theorem f_ne {d e : D} {b : Bool} (h : ∃ p q, d.py = some p ∧ e.py = some q ∧ SeqAt.shaped p = true ∧ SeqAt.shaped q = true ∧ PyData.eqv p q = b) (k : q (.va (.bl (!b)))) : bF neF d e q := by
  obtain ⟨p, r, e1, e2, s1, s2, rfl⟩ := h
  exact ⟨p, r, e1, e2, s1, s2, k⟩
theorem eqv_int (i j : Int) : PyData.eqv (.int i) (.int j) = decide (i = j) := by
  unfold PyData.eqv; by_cases h : i = j <;> simp [h]
theorem f_eqI {i j : Int} (k : q (.va (.bl (decide (i = j))))) : bF eqF (.int i) (.int j) q := f_eq ⟨_, _, rfl, rfl, rfl, rfl, eqv_int i j⟩ k
theorem f_neI {i j : Int} (k : q (.va (.bl (!decide (i = j))))) : bF neF (.int i) (.int j) q := f_ne ⟨_, _, rfl, rfl, rfl, rfl, eqv_int i j⟩ k
/-! statements -/
variable {n : En → Prop} {rt : R → En → Prop} {bk ct : En → Prop} {S S2 : DS}
theorem s_seq (k : S ⟨S2 ⟨n, rt, bk, ct⟩, rt, bk, ct⟩ δ) : seq S S2 ⟨n, rt, bk, ct⟩ δ := k
theorem s_join (J : En → Prop) (k : S ⟨J, rt, bk, ct⟩ δ) (k2 : ∀ δ, J δ → S2 ⟨n, rt, bk, ct⟩ δ) (mono : (S ⟨J, rt, bk, ct⟩ δ) → S ⟨S2 ⟨n, rt, bk, ct⟩, rt, bk, ct⟩ δ) : seq S S2 ⟨n, rt, bk, ct⟩ δ := mono k
theorem s_next (k : n δ) : snext ⟨n, rt, bk, ct⟩ δ := k
theorem s_break (k : bk δ) : sbreak ⟨n, rt, bk, ct⟩ δ := k
theorem s_cont (k : ct δ) : scont ⟨n, rt, bk, ct⟩ δ := k
theorem s_expr (k : T δ fun _ δ1 => n δ1) : sexpr T ⟨n, rt, bk, ct⟩ δ := k
theorem s_if (k : C δ fun b δ1 => (b = true → S ⟨n, rt, bk, ct⟩ δ1) ∧ (b = false → S2 ⟨n, rt, bk, ct⟩ δ1)) : sif C S S2 ⟨n, rt, bk, ct⟩ δ := by
  have : ∀ (c : Bool) (A B : Prop), ((c = true → A) ∧ (c = false → B)) = if c = true then A else B := fun c A B => by cases c <;> simp
  simp only [this] at k
  exact k
theorem s_ret {ps : List Nat} (k : T δ fun r δ1 => ∃ r', r.out δ1 = some r' ∧ (∀ i, r = .rf i → i ∉ ps) ∧ rt r' δ1) : sret ps T ⟨n, rt, bk, ct⟩ δ := k
theorem s_out {r r' : R} {ps : List Nat} (e : r.out δ = some r') {P : R → Prop} (h : ∀ i, r = .rf i → i ∉ ps) (k : P r') : ∃ r', r.out δ = some r' ∧ (∀ i, r = .rf i → i ∉ ps) ∧ P r' := ⟨r', e, h, k⟩
theorem no_rf {r : R} {ps : List Nat} (h : (match r with | .rf i => ps.contains i | _ => false) = false) : ∀ i, r = .rf i → i ∉ ps := fun i e z => by
  subst e
  simp at h
  exact h z
theorem s_retN (k : rt (.va .non) δ) : sretN ⟨n, rt, bk, ct⟩ δ := k
theorem s_set {i : Nat} (k : T δ fun r δ1 => ∃ d, r.still δ1 = some d ∧ ∃ δ', δ1.set i (.va d) = δ' ∧ n δ') : sset i T ⟨n, rt, bk, ct⟩ δ := by
  simp only [exists_eq_left'] at k
  exact k
theorem s_norm {δ δ' : En} {P : En → Prop} (e : δ = δ') (k : P δ') : ∃ δ', δ = δ' ∧ P δ' := ⟨δ', e, k⟩
theorem s_still {r : R} {d : D} {P : D → Prop} (e : r.still δ = some d) (k : P d) : ∃ d, r.still δ = some d ∧ P d := ⟨d, e, k⟩
theorem s_setO {i : Nat} (k : T δ fun r δ1 => ∃ c, r = .fr c ∧ ∃ δ', δ1.set i (.ow c) = δ' ∧ n δ') : ssetO i T ⟨n, rt, bk, ct⟩ δ := by
  simp only [exists_eq_left'] at k
  exact k
theorem s_fr {c : Cn} {P : Cn → Prop} (k : P c) : ∃ c', R.fr c = .fr c' ∧ P c' := ⟨c, rfl, k⟩
theorem s_asg {U : DG} (k : T δ fun r δ1 => ∃ d, r.still δ1 = some d ∧ U d δ1 n) : sasg T U ⟨n, rt, bk, ct⟩ δ := k
theorem s_aug {i : Nat} {d0 : D} (e : δ[i]? = some (E.va d0)) (k : T δ fun r δ1 => ∃ e, r.dat δ1 = some e ∧ F d0 e fun r' => ∃ d', r' = .va d' ∧ ∃ δ', δ1.set i (.va d') = δ' ∧ n δ') : saug i F T ⟨n, rt, bk, ct⟩ δ := by
  simp only [exists_eq_left'] at k
  exact ⟨d0, e, k⟩
theorem s_va {d : D} {P : D → Prop} (k : P d) : ∃ d', R.va d = .va d' ∧ P d' := ⟨d, rfl, k⟩
theorem s_iadd {i j : Int} (k : q (.va (.int (i + j)))) : ipaddF (.int i) (.int j) q := k
theorem s_isub {i j : Int} (k : q (.va (.int (i - j)))) : ipsubF (.int i) (.int j) q := k
theorem s_par2 {i j : Nat} {m1 m2 : Bool} (k : TA δ fun rs δ1 => ∃ r1 r2 e1 e2, rs = [r1, r2] ∧ putE δ1 m1 r1 = some e1 ∧ putE δ1 m2 r2 = some e2 ∧ ∃ δ', (δ1.set i e1).set j e2 = δ' ∧ n δ') : spar2 i j m1 m2 TA ⟨n, rt, bk, ct⟩ δ := by
  simp only [exists_eq_left'] at k
  exact k
theorem s_par3 {i j l : Nat} {m1 m2 m3 : Bool} (k : TA δ fun rs δ1 => ∃ r1 r2 r3 e1 e2 e3, rs = [r1, r2, r3] ∧ putE δ1 m1 r1 = some e1 ∧ putE δ1 m2 r2 = some e2 ∧ putE δ1 m3 r3 = some e3 ∧ ∃ δ', ((δ1.set i e1).set j e2).set l e3 = δ' ∧ n δ') : spar3 i j l m1 m2 m3 TA ⟨n, rt, bk, ct⟩ δ := by
  simp only [exists_eq_left'] at k
  exact k
theorem s_put3 {r1 r2 r3 : R} {m1 m2 m3 : Bool} {e1 e2 e3 : E} {P : E → E → E → Prop} (h1 : putE δ m1 r1 = some e1) (h2 : putE δ m2 r2 = some e2) (h3 : putE δ m3 r3 = some e3) (k : P e1 e2 e3) : ∃ r1' r2' r3' e1 e2 e3, [r1, r2, r3] = [r1', r2', r3'] ∧ putE δ m1 r1' = some e1 ∧ putE δ m2 r2' = some e2 ∧ putE δ m3 r3' = some e3 ∧ P e1 e2 e3 := ⟨_, _, _, _, _, _, rfl, h1, h2, h3, k⟩
theorem s_put2 {r1 r2 : R} {m1 m2 : Bool} {e1 e2 : E} {P : E → E → Prop} (h1 : putE δ m1 r1 = some e1) (h2 : putE δ m2 r2 = some e2) (k : P e1 e2) : ∃ r1' r2' e1 e2, [r1, r2] = [r1', r2'] ∧ putE δ m1 r1' = some e1 ∧ putE δ m2 r2' = some e2 ∧ P e1 e2 := ⟨_, _, _, _, rfl, h1, h2, k⟩
/-! targets -/
variable {N : En → Prop}
theorem g_name {i : Nat} (k : ∃ δ', δ.set i (.va d) = δ' ∧ N δ') : dName i d δ N := by
  simp only [exists_eq_left'] at k
  exact k
theorem g_tup {m : Nat} {U : DGs} {ds : List D} (h : ds.length = m) (k : U ds δ N) : dTup m U (.tup ds) δ N := ⟨ds, rfl, h, k⟩
theorem g_nil (k : N δ) : dNil [] δ N := ⟨rfl, k⟩
theorem g_cons {U : DG} {W : DGs} {d : D} {r : List D} (k : U d δ fun δ1 => W r δ1 N) : dCons U W (d :: r) δ N := ⟨d, r, rfl, k⟩
theorem g_sub {To Ti : DT} (k : To δ fun ro δ1 => Ti δ1 fun ri δ2 => ∃ i xs k j, ro = .rf i ∧ δ2[i]? = some (E.ow (.l xs)) ∧ ri = .va (.int k) ∧ ixN xs.length k = some j ∧ ∃ δ', δ2.set i (.ow (.l (xs.set j d))) = δ' ∧ N δ') : dSub To Ti d δ N := by
  simp only [exists_eq_left'] at k
  exact k
theorem g_at {i j : Nat} {xs : List D} {k : Int} {P : Nat → List D → Nat → Prop} (e : δ[i]? = some (E.ow (.l xs))) (h : ixN xs.length k = some j) (kk : P i xs j) : ∃ i' xs k' j, R.rf i = .rf i' ∧ δ[i']? = some (E.ow (.l xs)) ∧ R.va (.int k) = .va (.int k') ∧ ixN xs.length k' = some j ∧ P i' xs j := ⟨i, xs, k, j, rfl, e, rfl, h, kk⟩
/-! methods of lists -/
variable {f : List D → List D → (D → List D → Prop) → Prop}
theorem e_tlm (k : T δ fun ro δ1 => ∃ i xs0, ro = .rf i ∧ δ1[i]? = some (E.ow (.l xs0)) ∧ TA δ1 fun rs δ2 => ∃ xs ds, δ2[i]? = some (E.ow (.l xs)) ∧ stills δ2 rs = some ds ∧ f xs ds fun d ys => ∃ δ', δ2.set i (.ow (.l ys)) = δ' ∧ Q (.va d) δ') : tlm f T TA δ Q := by
  simp only [exists_eq_left'] at k
  exact k
theorem e_lm1 {i : Nat} {xs : List D} {P : Nat → Prop} (e : δ[i]? = some (E.ow (.l xs))) (k : P i) : ∃ i' xs0, R.rf i = .rf i' ∧ δ[i']? = some (E.ow (.l xs0)) ∧ P i' := ⟨i, xs, rfl, e, k⟩
theorem e_lm2 {i : Nat} {rs : List R} {xs ds : List D} {P : List D → List D → Prop} (e : δ[i]? = some (E.ow (.l xs))) (e2 : stills δ rs = some ds) (k : P xs ds) : ∃ xs ds, δ[i]? = some (E.ow (.l xs)) ∧ stills δ rs = some ds ∧ P xs ds := ⟨xs, ds, e, e2, k⟩
theorem f_app {xs : List D} {d : D} {q : D → List D → Prop} (h : xs.length < sizeLine) (k : q .non (xs ++ [d])) : appF xs [d] q := ⟨h, k⟩
theorem e_textend (k : T δ fun ro δ1 => ∃ i xs0, ro = .rf i ∧ δ1[i]? = some (E.ow (.l xs0)) ∧ U δ1 fun r δ2 => ∃ xs ys, δ2[i]? = some (E.ow (.l xs)) ∧ r.dat δ2 = some (.lst ys) ∧ (∀ j, r = .rf j → j ≠ i) ∧ xs.length + ys.length ≤ sizeLine ∧ ∃ δ', δ2.set i (.ow (.l (xs ++ ys))) = δ' ∧ Q (.va .non) δ') : textend T U δ Q := by
  simp only [exists_eq_left'] at k
  exact k
/-! calls -/
theorem e_tcall {sp : DSp} {ms : List Bool} (k : TA δ fun rs δ1 => ∃ es, passes δ1 rs ms = some es ∧ (rfs rs).Nodup ∧ sp es fun r es' => ∃ δ', puts δ1 rs es' = δ' ∧ Q r δ') : tcall sp ms TA δ Q := by
  simp only [exists_eq_left'] at k
  unfold tcall
  have : ∀ rs δ1, (∃ es, passes δ1 rs ms = some es ∧ (rfs rs).Nodup ∧ sp es fun r es' => Q r (puts δ1 rs es')) = ((rfs rs).Nodup ∧ ∃ es, passes δ1 rs ms = some es ∧ sp es fun r es' => Q r (puts δ1 rs es')) := fun rs δ1 => propext ⟨fun ⟨es, a, b, c⟩ => ⟨b, es, a, c⟩, fun ⟨b, es, a, c⟩ => ⟨es, a, b, c⟩⟩
  simp only [this] at k
  exact k
theorem e_pass {rs : List R} {ms : List Bool} {es : En} {P : En → Prop} (e : passes δ rs ms = some es) (h : (rfs rs).Nodup) (k : P es) : ∃ es, passes δ rs ms = some es ∧ (rfs rs).Nodup ∧ P es := ⟨es, e, h, k⟩
theorem e_da1 {r0 : R} {d0 : D} {P : List D → Prop} (h0 : r0.dat δ = some d0) (k : P [d0]) : ∃ ds, dats δ [r0] = some ds ∧ P ds := ⟨_, by simp only [dats, h0, Option.bind_some, Option.map_some], k⟩
theorem e_da2 {r0 r1 : R} {d0 d1 : D} {P : List D → Prop} (h0 : r0.dat δ = some d0) (h1 : r1.dat δ = some d1) (k : P [d0, d1]) : ∃ ds, dats δ [r0, r1] = some ds ∧ P ds := ⟨_, by simp only [dats, h0, h1, Option.bind_some, Option.map_some], k⟩
theorem e_da3 {r0 r1 r2 : R} {d0 d1 d2 : D} {P : List D → Prop} (h0 : r0.dat δ = some d0) (h1 : r1.dat δ = some d1) (h2 : r2.dat δ = some d2) (k : P [d0, d1, d2]) : ∃ ds, dats δ [r0, r1, r2] = some ds ∧ P ds := ⟨_, by simp only [dats, h0, h1, h2, Option.bind_some, Option.map_some], k⟩
theorem e_st1 {r0 : R} {d0 : D} {P : List D → Prop} (h0 : r0.still δ = some d0) (k : P [d0]) : ∃ ds, stills δ [r0] = some ds ∧ ds.length ≤ sizeLine ∧ P ds := ⟨[d0], by simp only [stills, h0, Option.bind_some, Option.map_some], (show 1 ≤ sizeLine by decide), k⟩
theorem e_pa1 {r0 : R} {e0 : E} {m0 : Bool} {rs : List R} {P : En → Prop} (h0 : pass1 δ r0 m0 = some e0) (hn : (rfs rs).Nodup) (k : P [e0]) : ∃ es, passes δ [r0] [m0] = some es ∧ (rfs rs).Nodup ∧ P es := ⟨_, by simp only [passes, h0, Option.bind_some, Option.map_some], hn, k⟩
theorem e_st2 {r0 r1 : R} {d0 d1 : D} {P : List D → Prop} (h0 : r0.still δ = some d0) (h1 : r1.still δ = some d1) (k : P [d0, d1]) : ∃ ds, stills δ [r0, r1] = some ds ∧ ds.length ≤ sizeLine ∧ P ds := ⟨[d0, d1], by simp only [stills, h0, h1, Option.bind_some, Option.map_some], (show 2 ≤ sizeLine by decide), k⟩
theorem e_pa2 {r0 r1 : R} {e0 e1 : E} {m0 m1 : Bool} {rs : List R} {P : En → Prop} (h0 : pass1 δ r0 m0 = some e0) (h1 : pass1 δ r1 m1 = some e1) (hn : (rfs rs).Nodup) (k : P [e0, e1]) : ∃ es, passes δ [r0, r1] [m0, m1] = some es ∧ (rfs rs).Nodup ∧ P es := ⟨_, by simp only [passes, h0, h1, Option.bind_some, Option.map_some], hn, k⟩
theorem e_st3 {r0 r1 r2 : R} {d0 d1 d2 : D} {P : List D → Prop} (h0 : r0.still δ = some d0) (h1 : r1.still δ = some d1) (h2 : r2.still δ = some d2) (k : P [d0, d1, d2]) : ∃ ds, stills δ [r0, r1, r2] = some ds ∧ ds.length ≤ sizeLine ∧ P ds := ⟨[d0, d1, d2], by simp only [stills, h0, h1, h2, Option.bind_some, Option.map_some], (show 3 ≤ sizeLine by decide), k⟩
theorem e_pa3 {r0 r1 r2 : R} {e0 e1 e2 : E} {m0 m1 m2 : Bool} {rs : List R} {P : En → Prop} (h0 : pass1 δ r0 m0 = some e0) (h1 : pass1 δ r1 m1 = some e1) (h2 : pass1 δ r2 m2 = some e2) (hn : (rfs rs).Nodup) (k : P [e0, e1, e2]) : ∃ es, passes δ [r0, r1, r2] [m0, m1, m2] = some es ∧ (rfs rs).Nodup ∧ P es := ⟨_, by simp only [passes, h0, h1, h2, Option.bind_some, Option.map_some], hn, k⟩
theorem e_st4 {r0 r1 r2 r3 : R} {d0 d1 d2 d3 : D} {P : List D → Prop} (h0 : r0.still δ = some d0) (h1 : r1.still δ = some d1) (h2 : r2.still δ = some d2) (h3 : r3.still δ = some d3) (k : P [d0, d1, d2, d3]) : ∃ ds, stills δ [r0, r1, r2, r3] = some ds ∧ ds.length ≤ sizeLine ∧ P ds := ⟨[d0, d1, d2, d3], by simp only [stills, h0, h1, h2, h3, Option.bind_some, Option.map_some], (show 4 ≤ sizeLine by decide), k⟩
theorem e_pa4 {r0 r1 r2 r3 : R} {e0 e1 e2 e3 : E} {m0 m1 m2 m3 : Bool} {rs : List R} {P : En → Prop} (h0 : pass1 δ r0 m0 = some e0) (h1 : pass1 δ r1 m1 = some e1) (h2 : pass1 δ r2 m2 = some e2) (h3 : pass1 δ r3 m3 = some e3) (hn : (rfs rs).Nodup) (k : P [e0, e1, e2, e3]) : ∃ es, passes δ [r0, r1, r2, r3] [m0, m1, m2, m3] = some es ∧ (rfs rs).Nodup ∧ P es := ⟨_, by simp only [passes, h0, h1, h2, h3, Option.bind_some, Option.map_some], hn, k⟩
theorem e_st5 {r0 r1 r2 r3 r4 : R} {d0 d1 d2 d3 d4 : D} {P : List D → Prop} (h0 : r0.still δ = some d0) (h1 : r1.still δ = some d1) (h2 : r2.still δ = some d2) (h3 : r3.still δ = some d3) (h4 : r4.still δ = some d4) (k : P [d0, d1, d2, d3, d4]) : ∃ ds, stills δ [r0, r1, r2, r3, r4] = some ds ∧ ds.length ≤ sizeLine ∧ P ds := ⟨[d0, d1, d2, d3, d4], by simp only [stills, h0, h1, h2, h3, h4, Option.bind_some, Option.map_some], (show 5 ≤ sizeLine by decide), k⟩
theorem e_pa5 {r0 r1 r2 r3 r4 : R} {e0 e1 e2 e3 e4 : E} {m0 m1 m2 m3 m4 : Bool} {rs : List R} {P : En → Prop} (h0 : pass1 δ r0 m0 = some e0) (h1 : pass1 δ r1 m1 = some e1) (h2 : pass1 δ r2 m2 = some e2) (h3 : pass1 δ r3 m3 = some e3) (h4 : pass1 δ r4 m4 = some e4) (hn : (rfs rs).Nodup) (k : P [e0, e1, e2, e3, e4]) : ∃ es, passes δ [r0, r1, r2, r3, r4] [m0, m1, m2, m3, m4] = some es ∧ (rfs rs).Nodup ∧ P es := ⟨_, by simp only [passes, h0, h1, h2, h3, h4, Option.bind_some, Option.map_some], hn, k⟩
theorem e_lx1 {r0 : R} {d0 : D} {i : Nat} {xs : List D} {P : List D → List D → Prop} (e : δ[i]? = some (E.ow (.l xs))) (h0 : r0.still δ = some d0) (k : P xs [d0]) : ∃ xs ds, δ[i]? = some (E.ow (.l xs)) ∧ stills δ [r0] = some ds ∧ P xs ds := ⟨_, _, e, by simp only [stills, h0, Option.bind_some, Option.map_some], k⟩
theorem e_lx2 {r0 r1 : R} {d0 d1 : D} {i : Nat} {xs : List D} {P : List D → List D → Prop} (e : δ[i]? = some (E.ow (.l xs))) (h0 : r0.still δ = some d0) (h1 : r1.still δ = some d1) (k : P xs [d0, d1]) : ∃ xs ds, δ[i]? = some (E.ow (.l xs)) ∧ stills δ [r0, r1] = some ds ∧ P xs ds := ⟨_, _, e, by simp only [stills, h0, h1, Option.bind_some, Option.map_some], k⟩
/-! sources -/
variable {QI : List D → List (Nat × Cn) → En → Prop}
theorem i_list (k : T δ fun r δ1 => ∃ xs cs, srcL δ1 r = some (xs, cs) ∧ QI xs cs δ1) : ilist T δ QI := k
theorem i_src {r : R} {xs : List D} {cs : List (Nat × Cn)} {P : List D → List (Nat × Cn) → Prop} (e : srcL δ r = some (xs, cs)) (k : P xs cs) : ∃ xs cs, srcL δ r = some (xs, cs) ∧ P xs cs := ⟨xs, cs, e, k⟩
theorem i_tup (k : T δ fun r δ1 => ∃ xs, r = .va (.tup xs) ∧ QI xs [] δ1) : itup T δ QI := k
theorem i_tupx {xs : List D} {P : List D → Prop} (k : P xs) : ∃ xs', R.va (.tup xs) = .va (.tup xs') ∧ P xs' := ⟨xs, rfl, k⟩
theorem i_str (k : T δ fun r δ1 => ∃ x : Str, r = .va (.str x) ∧ QI (x.cps.toList.map fun c => D.str ⟨#[c]⟩) [] δ1) : istr T δ QI := k
theorem i_strx {x : Str} {P : Str → Prop} (k : P x) : ∃ x', R.va (.str x) = .va (.str x') ∧ P x' := ⟨x, rfl, k⟩
theorem i_rng1 (k : T δ fun r δ1 => ∃ j, r = .va (.int j) ∧ (-(2 ^ 62) ≤ j ∧ j < 2 ^ 62) ∧ QI (rangeD 0 j.toNat) [] δ1) : irng1 T δ QI := k
theorem i_rng2 (k : T δ fun r δ1 => U δ1 fun u δ2 => ∃ i j, r = .va (.int i) ∧ u = .va (.int j) ∧ (-(2 ^ 62) ≤ i ∧ i < 2 ^ 62 ∧ -(2 ^ 62) ≤ j ∧ j < 2 ^ 62) ∧ QI (rangeD i (j - i).toNat) [] δ2) : irng2 T U δ QI := k
theorem i_enum (k : T δ fun r δ1 => ∃ xs cs, srcL δ1 r = some (xs, cs) ∧ QI (enumD 0 xs) cs δ1) : ienum T δ QI := k
theorem i_zip (k : T δ fun r δ1 => U δ1 fun u δ2 => ∃ xs cs ys cs', srcL δ2 r = some (xs, cs) ∧ srcL δ2 u = some (ys, cs') ∧ QI (zipD xs ys) (cs ++ cs') δ2) : izip T U δ QI := k
theorem i_src2 {r u : R} {xs ys : List D} {cs cs' : List (Nat × Cn)} {P : List D → List (Nat × Cn) → List D → List (Nat × Cn) → Prop} (e : srcL δ r = some (xs, cs)) (e2 : srcL δ u = some (ys, cs')) (k : P xs cs ys cs') : ∃ xs cs ys cs', srcL δ r = some (xs, cs) ∧ srcL δ u = some (ys, cs') ∧ P xs cs ys cs' := ⟨xs, cs, ys, cs', e, e2, k⟩
/-! loops -/
def ForK (as : List Nat) (Gd : DG) (B : DS) (Z : DE) (items : List D) (cs : List (Nat × Cn)) (δ1 : En) : Prop := (∀ p ∈ cs, p.1 ∉ as) ∧ ∃ I : Nat → En → Prop, I 0 δ1 ∧ (∀ k δ, I k δ → ∀ p ∈ cs, δ[p.1]? = some (E.ow p.2)) ∧
  (∀ k x δ, items[k]? = some x → I k δ → Gd x δ fun δ' => B ⟨I (k + 1), Z.rt, Z.nx, I (k + 1)⟩ δ') ∧ (∀ δ, I items.length δ → Z.nx δ)
theorem s_for {as : List Nat} {SI : DI} {Gd : DG} {B : DS} (k : SI δ fun items cs δ1 => ForK as Gd B ⟨n, rt, bk, ct⟩ items cs δ1) : sfor as SI Gd B ⟨n, rt, bk, ct⟩ δ := k
theorem for_by {as : List Nat} {Gd : DG} {B : DS} {items : List D} {cs : List (Nat × Cn)} (I : Nat → En → Prop) (h0 : I 0 δ) (hcs : ∀ p ∈ cs, p.1 ∉ as) (hi : ∀ k δ, I k δ → ∀ p ∈ cs, δ[p.1]? = some (E.ow p.2))
    (ht : ∀ k x δ, items[k]? = some x → I k δ → Gd x δ fun δ' => B ⟨I (k + 1), rt, n, I (k + 1)⟩ δ') (he : ∀ δ, I items.length δ → n δ) : ForK as Gd B ⟨n, rt, bk, ct⟩ items cs δ := ⟨hcs, I, h0, hi, ht, he⟩
theorem s_while {B : DS} (I : En → Prop) (μ : En → Nat) (h0 : I δ) (ht : ∀ δ, I δ → C δ fun b δ1 => (b = true → B ⟨fun δ2 => I δ2 ∧ μ δ2 < μ δ, rt, n, fun δ2 => I δ2 ∧ μ δ2 < μ δ⟩ δ1) ∧ (b = false → n δ1)) : swhile C B ⟨n, rt, bk, ct⟩ δ := by
  refine ⟨I, μ, h0, fun δ hI => ?_⟩
  have := ht δ hI
  have e : ∀ (c : Bool) (A B : Prop), ((c = true → A) ∧ (c = false → B)) = if c = true then A else B := fun c A B => by cases c <;> simp
  simp only [e] at this
  exact this
def CompK (Gd : DG) (C : DTT) (Te : DT) (vs : List Nat) (Q : R → En → Prop) (items : List D) (cs : List (Nat × Cn)) (δ1 : En) : Prop := noOw δ1 vs = true ∧ (∀ p ∈ cs, p.1 ∉ vs) ∧ ∃ I : Nat → List D → En → Prop, I 0 [] δ1 ∧ (∀ k acc δ, I k acc δ → ∀ p ∈ cs, δ[p.1]? = some (E.ow p.2)) ∧
  (∀ k x acc δ, items[k]? = some x → I k acc δ → Gd x (wipeE δ vs) fun δ2 => C δ2 fun b δ3 => if b = true then Te δ3 fun r δ4 => ∃ d, r.still δ4 = some d ∧ acc.length < sizeLine ∧ I (k + 1) (acc ++ [d]) (backE δ δ4 vs) else I (k + 1) acc (backE δ δ3 vs)) ∧
  (∀ acc δ, I items.length acc δ → Q (.fr (.l acc)) δ)
theorem e_comp {SI : DI} {Gd : DG} {Te : DT} {vs : List Nat} (k : SI δ fun items cs δ1 => CompK Gd C Te vs Q items cs δ1) : tcomp SI Gd C Te vs δ Q := k
theorem comp_by {Gd : DG} {Te : DT} {vs : List Nat} {items : List D} {cs : List (Nat × Cn)} (I : Nat → List D → En → Prop) (h0 : I 0 [] δ) (no : noOw δ vs = true) (hcs : ∀ p ∈ cs, p.1 ∉ vs) (hi : ∀ k acc δ, I k acc δ → ∀ p ∈ cs, δ[p.1]? = some (E.ow p.2))
    (ht : ∀ k x acc δ, items[k]? = some x → I k acc δ → Gd x (wipeE δ vs) fun δ2 => C δ2 fun b δ3 => (b = true → Te δ3 fun r δ4 => ∃ d, r.still δ4 = some d ∧ acc.length < sizeLine ∧ I (k + 1) (acc ++ [d]) (backE δ δ4 vs)) ∧ (b = false → I (k + 1) acc (backE δ δ3 vs)))
    (he : ∀ acc δ, I items.length acc δ → Q (.fr (.l acc)) δ) : CompK Gd C Te vs Q items cs δ := by
  have e : ∀ (c : Bool) (A B : Prop), ((c = true → A) ∧ (c = false → B)) = if c = true then A else B := fun c A B => by cases c <;> simp
  simp only [e] at ht
  exact ⟨no, hcs, I, h0, hi, ht, he⟩
/-- a comprehension without a condition: item k becomes f k, the slots stay -/
theorem comp_map {Gd : DG} {Te : DT} {vs : List Nat} {items : List D} {cs : List (Nat × Cn)} (f : Nat → D) (no : noOw δ vs = true) (hcs : ∀ p ∈ cs, p.1 ∉ vs) (hi : ∀ p ∈ cs, δ[p.1]? = some (E.ow p.2))
    (ht : ∀ k x, items[k]? = some x → Gd x (wipeE δ vs) fun δ2 => Te δ2 fun r δ4 => ∃ d, r.still δ4 = some d ∧ ((List.range k).map f).length < sizeLine ∧ (backE δ δ4 vs = δ ∧ (List.range k).map f ++ [d] = (List.range (k + 1)).map f))
    (he : Q (.fr (.l ((List.range items.length).map f))) δ) : CompK Gd tyes Te vs Q items cs δ := by
  refine comp_by (fun k acc δ' => δ' = δ ∧ acc = (List.range k).map f) ⟨rfl, rfl⟩ no hcs (fun k acc δ' h => by rw [h.1]; exact hi) (fun k x acc δ' e h => ?_) (fun acc δ' h => by rw [h.1, h.2]; exact he)
  obtain ⟨rfl, rfl⟩ := h
  have h2 := ht k x e
  simp only [tyes, forall_const, Bool.true_eq_false, false_implies, and_true, true_implies]
  exact h2
theorem m_end {f : Nat → D} {k : Nat} {d : D} {r : R} {δ4 δ5 : En} (e : r.still δ4 = some d) (hk : k < sizeLine) (hb : δ5 = δ) (h : d = f k) : ∃ d, r.still δ4 = some d ∧ ((List.range k).map f).length < sizeLine ∧ (δ5 = δ ∧ (List.range k).map f ++ [d] = (List.range (k + 1)).map f) :=
  ⟨d, e, by simpa using hk, hb, by rw [List.range_succ, List.map_append, h]; rfl⟩
def ownChk : En → Nat → List Nat → List Nat → Bool
  | [], _, _, _ => true
  | .ow _ :: δ, i, ps, as => ps.contains i && !as.contains i && ownChk δ (i + 1) ps as
  | _ :: δ, i, ps, as => ownChk δ (i + 1) ps as
theorem own_by0 : ∀ {δ : En} {j : Nat} {ps as : List Nat}, ownChk δ j ps as = true → ∀ (i : Nat) c, δ[i]? = some (E.ow c) → j + i ∈ ps ∧ j + i ∉ as
  | [], _, _, _, _, i, c, h => by simp at h
  | .ow _ :: δ, j, ps, as, h, 0, c, _ => by
    simp only [ownChk, Bool.and_eq_true, Bool.not_eq_true', List.contains_eq_mem, decide_eq_true_eq, decide_eq_false_iff_not] at h
    exact h.1
  | .ow _ :: δ, j, ps, as, h, i + 1, c, e => by
    simp only [ownChk, Bool.and_eq_true] at h
    have := own_by0 h.2 i c (by simpa using e)
    rw [show j + (i + 1) = j + 1 + i by omega]
    exact this
  | .va _ :: δ, j, ps, as, h, 0, c, e => by simp at e
  | .no :: δ, j, ps, as, h, 0, c, e => by simp at e
  | .va _ :: δ, j, ps, as, h, i + 1, c, e => by
    have := own_by0 (δ := δ) (j := j + 1) h i c (by simpa using e)
    rw [show j + (i + 1) = j + 1 + i by omega]
    exact this
  | .no :: δ, j, ps, as, h, i + 1, c, e => by
    have := own_by0 (δ := δ) (j := j + 1) h i c (by simpa using e)
    rw [show j + (i + 1) = j + 1 + i by omega]
    exact this
theorem own_by {δ : En} {ps as : List Nat} (h : ownChk δ 0 ps as = true) : ∀ (i : Nat) c, δ[i]? = some (E.ow c) → i ∈ ps ∧ i ∉ as := fun i c e => by
  have := own_by0 h i c e
  rw [Nat.zero_add] at this
  exact this
theorem SndSP.mono {K : PySem.W.Frag} {ps as bs : List Nat} {t : TS} {T : DS} (a : SndSP K ps as t T) (h : ∀ i, i ∈ as → i ∈ bs) : SndSP K ps bs t T := fun F hps hp σ H G δ D3 D s q g =>
  a F hps (fun i hi => hp i (h i hi)) σ H G δ D3 D s q ⟨fun _ _ _ _ n z => g.nx _ _ _ _ (n.mono h) z, fun _ _ _ _ n z => g.bk _ _ _ _ (n.mono h) z, fun _ _ _ _ n z => g.ct _ _ _ _ (n.mono h) z, fun _ _ _ _ _ _ n r nr z => g.rt _ _ _ _ _ _ (n.mono h) r nr z⟩
end
end L3
/-! L3, part N: generators: for, if; a generator method over data. -/
namespace L3
open PySem PySem.Spec PyProof.Rows L2 GenW
section
variable {prog : Program} {w : World} {A : Around} {R : GenEnd} {Y : Protocol} {n : Nat} {s₀ : Shared} {fs : List Frame} {s : Shared} {env : Env}
/-- one turn of a for in a generator -/
theorem seg_forLoop {target : Expr} {it : Value} {body : List Stmt}
    (h : wpAny (model prog w) (A.over (.forLoop target it body [] env) fs) (pyNext it) (fun r s1 => match r with
        | none => Seg (model prog w) A R Y n s₀ (.block [] env) ((model prog w).den (.block [] env)) fs s1
        | some v => wpAny (model prog w) (A.over (.forLoop target it body [] env) fs) (letOwnedTupleGo target it v) (fun _ s2 => wpAny (model prog w) (A.over (.forLoop target it body [] env) fs) (assign target env v) (fun _ s3 =>
            Seg (model prog w) A R Y n s₀ (.forLoop target it body [] env) ((execs body env).wrap (fun f => match f with
            | .next | .cont => .pure (.again (.forLoop target it body [] env))
            | .brk => .pure (.done .next)
            | .ret v => .pure (.done (.ret v))) (fun e => (do noteFrame e env; theTreesLotGoes e : Sem Unit).wrap (fun _ => .raise e) .raise id id) id id) fs s3)
            (fun x s' => Seg (model prog w) A R Y n s₀ (.forLoop target it body [] env) ((do noteFrame x env; theTreesLotGoes x : Sem Unit).wrap (fun _ => .raise x) .raise id id) fs s') s2)
          (fun x s' => Seg (model prog w) A R Y n s₀ (.forLoop target it body [] env) ((do noteFrame x env; theTreesLotGoes x : Sem Unit).wrap (fun _ => .raise x) .raise id id) fs s') s1)
      (fun x s' => Seg (model prog w) A R Y n s₀ (.forLoop target it body [] env) ((do noteFrame x env; theTreesLotGoes x : Sem Unit).wrap (fun _ => .raise x) .raise id id) fs s') s) :
    Seg (model prog w) A R Y n s₀ (.forLoop target it body [] env) ((model prog w).den (.forLoop target it body [] env)) fs s := by
  show Seg _ A R Y n s₀ _ ((forTurn target it body [] env).onRaise (fun x => do noteFrame x env; theTreesLotGoes x)) fs s
  unfold forTurn
  rw [Sem.onRaise_eq_wrap]
  have hx : ∀ {x : Value} {s' : Shared}, Seg (model prog w) A R Y n s₀ (.forLoop target it body [] env) ((do noteFrame x env; theTreesLotGoes x : Sem Unit).wrap (fun _ => .raise x) .raise id id) fs s' →
      Seg (model prog w) A R Y n s₀ (.forLoop target it body [] env) ((do noteFrame x env; theTreesLotGoes x : Sem Unit).bind fun _ => .raise x) fs s' := fun hh => by
    rw [Sem.bind_eq_wrap]; exact hh
  refine seg_bind_wrap (wpAny_standAt ?_)
  refine seg_bind_wrap (wpAny_onRaise (wpAny_mono h (fun r s1 h1 => ?_) fun x s' h' => wpAny_standAt (hx h')))
  cases r with
  | none => exact seg_again rfl h1
  | some v =>
    refine seg_bind_wrap (wpAny_mono h1 (fun _ s2 h2 => ?_) fun x s' h' => hx h')
    refine seg_bind_wrap (wpAny_mono h2 (fun _ s3 h3 => ?_) fun x s' h' => hx h')
    rw [Sem.bind_eq_wrap', Sem.wrap_wrap]
    rw [Sem.wrap_congr (execs body env) _ _ (K' := fun f => match f with
            | .next | .cont => .pure (.again (.forLoop target it body [] env))
            | .brk => .pure (.done .next)
            | .ret v => .pure (.done (.ret v))) (H' := (fun e => (do noteFrame e env; theTreesLotGoes e : Sem Unit).wrap (fun _ => .raise e) .raise id id))
        (fun f => by cases f <;> rfl)
        (fun e => by first | exact Sem.bind_eq_wrap _ _ | (show (do noteFrame e env; theTreesLotGoes e : Sem Unit).bind (fun _ => .raise e) = _; rw [Sem.bind_eq_wrap]))]
    exact h3
end
section
variable {X : Cx}
def tGFor (wi : TI) (g : TG) (tb : TGn) : TGn := fun D ys σ H => wi σ H fun J H1 => ∃ W : Nat → Nat → List V → L2.St → Hp → Prop, (∃ m, W 0 m ys σ H1) ∧ ∀ i m ys σ H, W i m ys σ H →
  (J.stop i H ∧ D.nx ys σ H) ∨ (J.go i H ∧ ∃ N : List V → L2.St → Hp → Prop, (∀ ys' σ' H', N ys' σ' H' → ∃ m', m' < m ∧ W (i + 1) m' ys' σ' H') ∧ ∀ x H', J.yld i H x H' → g x σ H' fun σ2 H2 => tb { D with nx := N, ct := N, bk := D.nx } ys σ2 H2)
theorem GI.get {S : Addr} {ip : List (Addr × Obj)} {ys : List V} {σ : L2.St} {H : Hp} {s : Shared} (h : GI X S ip ys σ H s) : ∃ (acc : Array Value) (c : Nat), Vals ys acc.toList ∧ Inv X ((S, lstObj acc c) :: ip) σ H s := h
theorem gs_for {tg iter : Expr} {body : List Stmt} {wi : TI} {g : TG} {tb : TGn} {pos : Pos} (hp : PassesOwn (model X.prog X.w) X.A X.env X.xe) (hc : X.calm = true) (hi : PI X tg iter wi) (hg : PG X tg g) (hb : GSs X body tb)
    (hs : ∀ x, foldedSetIterable iter X.env x = pure x := by intro _; rfl) : GS X (.For tg iter body [] pos) (tGFor wi g tb) := by
  refine ⟨fun A S ip R n ys s₀ c fs K J gd lv s σ H D gc hn k hI ht => ?_⟩
  obtain ⟨acc, cc, r, I⟩ := hI
  rw [exec_For]
  refine seg_bind_wrap (wpAny_standAt ?_)
  refine seg_bind_wrap ?_
  rw [gc.over]
  refine wpAny_mono (hi.run _ s σ H _ I ht) (fun v s1 h1 => ?_) fun x s' hx => k.exc n s₀ x s' hx
  refine seg_bind_wrap (wpAny_of_eq (hs v) ?_)
  refine seg_bind_wrap (wpAny_standAt ?_)
  refine seg_bind_wrap (wpAny_holding ?_)
  rw [gc.over]
  refine wpAny_mono h1 (fun itv s2 h2 => ?_) fun x s' hx => k.exc n s₀ x s' hx
  obtain ⟨it, fp, tn, JJ, H2, e, I2, T, st2, f2, W, ⟨m0, w0⟩, turn⟩ := h2
  subst e
  refine seg_call fun p => ?_
  have gl := fun (kk : Result → Sem PySem.Fin) => gc_loop (k := kk) (c' := .forLoop tg (.ref it) body [] X.env) (l := lv []) (kp := []) (p := p) gc rfl rfl
  -- the iterator's objects stand apart
  have stat : ∀ {ys' : List V} {σ' : L2.St} {H' : Hp} {s' : Shared} {acc' : Array Value} {c' : Nat}, Inv X ((S, lstObj acc' c') :: ip) σ' H' s' → (∀ b ∈ fp, H' b = none) → ∀ b ∈ fp, FpOk X ((S, lstObj acc' c') :: ip) H' b := fun {ys' σ' H' s' acc' c'} I' hn' b hb => by
    have q := f2 b hb
    refine ⟨hn' b hb, q.2.1, q.2.2.1, q.2.2.2.1, q.2.2.2.2.1, ?_⟩
    have q6 := q.2.2.2.2.2
    intro pp hpp
    rcases List.mem_append.mp hpp with z | z
    · exact q6 pp (List.mem_append_left _ z)
    · rcases List.mem_cons.mp z with z | z
      · rw [z]; exact q6 (S, lstObj acc cc) (List.mem_append_right _ List.mem_cons_self)
      · exact q6 pp (List.mem_append_right _ (List.mem_cons_of_mem _ z))
  have loop : ∀ (m i n : Nat) (ys : List V) (s₀ s : Shared) (σ : L2.St) (H : Hp), n + ys.length = sizeLine → W i m ys σ H → GI X S ip ys σ H s → tn i s.heap → (∀ b ∈ fp, H b = none) →
      Seg (model X.prog X.w) A R (GY X S) n s₀ (.forLoop tg (.ref it) body [] X.env) ((model X.prog X.w).den (.forLoop tg (.ref it) body [] X.env))
        (.ret (fun r => ((match r with | .ok f => (.pure f : Sem Flow) | .error e => .raise e).onRaise (cameBack X.env)).wrap K J gd lv) none (gd false) (lv []) c p [] :: fs) s := by
    intro m
    induction m using Nat.strongRecOn with
    | ind m ih =>
      intro i n ys s₀ s σ H hn w hI st fr
      have ee : ∀ (n : Nat) (s₀ : Shared) (x : Value) (s' : Shared), X.xe x s' → Seg (model X.prog X.w) A R (GY X S) n s₀ (.forLoop tg (.ref it) body [] X.env)
          ((do noteFrame x X.env; theTreesLotGoes x : Sem Unit).wrap (fun _ => .raise x) .raise id id)
          (.ret (fun r => ((match r with | .ok f => (.pure f : Sem Flow) | .error e => .raise e).onRaise (cameBack X.env)).wrap K J gd lv) none (gd false) (lv []) c p [] :: fs) s' := fun n s₀ x s' hx => by
        refine seg_wrap ?_
        rw [(gl _).over]
        refine wpAny_bind (wpAny_mono (hp x s' hx) (fun _ s'' hcb => wpAny_theTreesLotGoes ?_) fun y s'' hcb => ?_)
        · exact seg_leaf (.error x) (seg_cameBack gc k hcb)
        · exact seg_leaf (.error y) (seg_cameBack gc k hcb)
      refine seg_forLoop ?_
      rw [(gl _).over]
      obtain ⟨acc, cc, r, I⟩ := hI
      rcases turn i m ys σ H w with ⟨stop, qn⟩ | ⟨go, N, hN, step⟩
      · refine wpAny_mono (T.done X rfl rfl rfl hc i _ s σ H X.xe I (stat (ys' := ys) I fr) st stop) (fun r' s4 ⟨hr, I4⟩ => ?_) fun x s' hx => ee n s₀ x s' hx
        subst hr
        exact seg_leaf (.ok .next) (k.ok n ys s₀ s4 .next hn ⟨σ, H, ⟨acc, cc, r, I4⟩, qn⟩)
      · refine wpAny_mono (T.item X rfl rfl rfl hc i _ s σ H X.xe I (stat (ys' := ys) I fr) st go) (fun r' s4 ⟨u, hr, h4⟩ => ?_) fun x s' hx => ee n s₀ x s' hx
        subst hr
        refine wpAny_mono h4 (fun _ s5 ⟨x, H5, I5, r5, y5, st5, fr5⟩ => ?_) fun x s' hx => ee n s₀ x s' hx
        have I5' := I5.pinned (stat (ys' := ys) I5 fr5) (T.obj _ _ st5)
        have I5'' : Inv X ((S, lstObj acc cc) :: (ip ++ pinsAt fp s5.heap)) σ H5 s5 := I5'
        refine wpAny_mono (hg.run _ s5 σ H5 x u _ I5'' r5 (step x H5 y5)) (fun _ s6 ⟨σ6, H6, I6, q6⟩ => ?_) fun x s' hx => ee n s₀ x s' hx
        have gip : ∀ pp ∈ ip ++ pinsAt fp s5.heap, pp.1 ≠ S := fun pp hpp => by
          rcases List.mem_append.mp hpp with z | z
          · exact gc.ip pp z
          · obtain ⟨hb', _⟩ := of_pinsAt z
            have q6 := (f2 pp.1 hb').2.2.2.2.2
            exact fun e => q6 (S, lstObj _ _) (List.mem_append_right _ List.mem_cons_self) e.symm
        have gl' := gl (fun r => ((match r with | .ok f => (.pure f : Sem Flow) | .error e => .raise e).onRaise (cameBack X.env)).wrap K J gd lv)
        have again : ∀ {ys7 : List V} {σ7 : L2.St} {H7 : Hp} {s7 : Shared}, GI X S (ip ++ pinsAt fp s5.heap) ys7 σ7 H7 s7 → N ys7 σ7 H7 → ∃ m', m' < m ∧ W (i + 1) m' ys7 σ7 H7 ∧ GI X S ip ys7 σ7 H7 s7 ∧ tn (i + 1) s7.heap ∧ ∀ b ∈ fp, H7 b = none := fun {ys7 σ7 H7 s7} ⟨acc7, c7, r7, I7⟩ n7 => by
          obtain ⟨m', hm, w7⟩ := hN ys7 σ7 H7 n7
          have I7' : Inv X (((S, lstObj acc7 c7) :: ip) ++ pinsAt fp s5.heap) σ7 H7 s7 := I7
          refine ⟨m', hm, w7, ⟨acc7, c7, r7, I7'.unpinned⟩, T.keep _ _ _ st5 fun b hb o e => (I7'.pin (b, o) (List.mem_append_right _ (List.mem_append_right _ (mem_pinsAt hb e)))).1, fun b hb => ?_⟩
          obtain ⟨o, e, d⟩ := T.obj _ _ st5 b hb
          exact (I7'.pin (b, o) (List.mem_append_right _ (List.mem_append_right _ (mem_pinsAt hb e)))).2.1
        have back : ∀ {ys7 : List V} {σ7 : L2.St} {H7 : Hp} {s7 : Shared}, GI X S (ip ++ pinsAt fp s5.heap) ys7 σ7 H7 s7 → GI X S ip ys7 σ7 H7 s7 := fun {ys7 σ7 H7 s7} ⟨acc7, c7, r7, I7⟩ =>
          ⟨acc7, c7, r7, Inv.unpinned (show Inv X (((S, lstObj acc7 c7) :: ip) ++ pinsAt fp s5.heap) σ7 H7 s7 from I7)⟩
        refine hb.run A S (ip ++ pinsAt fp s5.heap) R n ys s₀ _ _ _ _ id id s6 σ6 H6 { D with nx := N, ct := N, bk := D.nx } ⟨gl'.pn, gip, gl'.apart, gl'.over, gl'.split, gl'.guard, gl'.gd⟩ hn ⟨fun n' ys' s₀' s7 f hn' hs' => ?_, fun n' s₀' x s7 hx => ee n' s₀' x s7 hx⟩ ⟨acc, cc, r, I6⟩ q6
        cases f with
        | next =>
          obtain ⟨σ7, H7, I7, n7⟩ := hs'
          obtain ⟨m', hm, w7, I8, st7, fr7⟩ := again I7 n7
          exact seg_again rfl (ih m' hm (i + 1) n' ys' s₀' s7 σ7 H7 hn' w7 I8 st7 fr7)
        | cont =>
          obtain ⟨σ7, H7, I7, n7⟩ := hs'
          obtain ⟨m', hm, w7, I8, st7, fr7⟩ := again I7 n7
          exact seg_again rfl (ih m' hm (i + 1) n' ys' s₀' s7 σ7 H7 hn' w7 I8 st7 fr7)
        | brk =>
          obtain ⟨σ7, H7, I7, n7⟩ := hs'
          exact seg_leaf (.ok .next) (k.ok n' ys' s₀' s7 .next hn' ⟨σ7, H7, back I7, n7⟩)
        | ret v =>
          obtain ⟨v7, σ7, H7, I7, r7, n7⟩ := hs'
          exact seg_leaf (.ok (.ret v)) (k.ok n' ys' s₀' s7 (.ret v) hn' ⟨v7, σ7, H7, back I7, r7, n7⟩)
  exact loop m0 0 n ys s₀ s2 σ H2 hn w0 ⟨acc, cc, r, I2⟩ st2 fun b hb => (f2 b hb).1
end
end L3
/-! L3, part O: generators over data. -/
namespace L3
open PySem PySem.Spec PyProof.Rows L2 GenW
section
variable {X : Cx}
def tGIf (c : TT) (t u : TGn) : TGn := fun D ys σ H => c σ H fun b H1 => if b = true then t D ys σ H1 else u D ys σ H1
theorem gs_if {test : Expr} {body orelse : List Stmt} {pos : Pos} {tc : TT} {t u : TGn} (hc : PT X test tc) (ha : GSs X body t) (hb : GSs X orelse u) : GS X (.If test body orelse pos) (tGIf tc t u) := by
  refine ⟨fun A S ip R n ys s₀ c fs K J gd lv s σ H D gc hn k hI ht => ?_⟩
  obtain ⟨acc, cc, r, I⟩ := hI
  rw [exec_If]
  refine seg_bind_wrap (wpAny_standAt ?_)
  refine seg_bind_wrap ?_
  rw [gc.over]
  refine wpAny_mono (hc.run _ s σ H _ I ht) (fun b s1 h1 => ?_) fun x s' hx => k.exc n s₀ x s' hx
  obtain ⟨H2, I2, q2⟩ := h1
  cases b with
  | true => exact ha.run A S ip R n ys s₀ c fs K J gd lv s1 σ H2 D gc hn k ⟨acc, cc, r, I2⟩ q2
  | false => exact hb.run A S ip R n ys s₀ c fs K J gd lv s1 σ H2 D gc hn k ⟨acc, cc, r, I2⟩ q2
end
structure DGE where
  nx : List D → En → Prop
  rt : List D → Prop
  bk : List D → En → Prop := fun _ _ => False
  ct : List D → En → Prop := fun _ _ => False
abbrev DGn := DGE → List D → En → Prop
structure GoodG (K : PySem.W.Frag) (F : FE) (as : List Nat) (σ : L2.St) (H G : Hp) (δ : En) (D3 : DGE) (Z : GEnds) : Prop where
  nx : ∀ σ' H' G' δ' ys ds, Nxt K F as σ H G δ σ' H' G' δ' → AtL K G' ys ds → D3.nx ds δ' → Z.nx ys σ' H'
  bk : ∀ σ' H' G' δ' ys ds, Nxt K F as σ H G δ σ' H' G' δ' → AtL K G' ys ds → D3.bk ds δ' → Z.bk ys σ' H'
  ct : ∀ σ' H' G' δ' ys ds, Nxt K F as σ H G δ σ' H' G' δ' → AtL K G' ys ds → D3.ct ds δ' → Z.ct ys σ' H'
  rt : ∀ σ' H' G' δ' ys ds, Nxt K F as σ H G δ σ' H' G' δ' → AtL K G' ys ds → D3.rt ds → Z.rt ys .non H'
def SndGn (K : PySem.W.Frag) (as : List Nat) (t : TGn) (T : DGn) : Prop := ∀ (F : FE), (∀ i l, ¬ F.P i l) → ∀ (σ : L2.St) (H G : Hp) (δ : En) (D3 : DGE) (Z : GEnds) (ys : List V) (ds : List D), S3 K F σ H G δ → AtL K G ys ds → T D3 ds δ → GoodG K F as σ H G δ D3 Z → t Z ys σ H
section
variable {K : PySem.W.Frag}
theorem GoodG.from {F : FE} {as bs cs : List Nat} {σ σ1 : L2.St} {H G H1 G1 : Hp} {δ δ1 : En} {D3 : DGE} {Z : GEnds} (g : GoodG K F cs σ H G δ D3 Z) (n : Nxt K F as σ H G δ σ1 H1 G1 δ1) (h : ∀ i, i ∈ as ++ bs → i ∈ cs) : GoodG K F bs σ1 H1 G1 δ1 D3 Z :=
  ⟨fun _ _ _ _ _ _ m a q => g.nx _ _ _ _ _ _ ((n.trans m).mono h) a q, fun _ _ _ _ _ _ m a q => g.bk _ _ _ _ _ _ ((n.trans m).mono h) a q, fun _ _ _ _ _ _ m a q => g.ct _ _ _ _ _ _ ((n.trans m).mono h) a q, fun _ _ _ _ _ _ m a q => g.rt _ _ _ _ _ _ ((n.trans m).mono h) a q⟩
theorem SndGn.mono {as bs : List Nat} {t : TGn} {T : DGn} (a : SndGn K as t T) (h : ∀ i, i ∈ as → i ∈ bs) : SndGn K bs t T := fun F hp σ H G δ D3 Z ys ds s ha q g =>
  a F hp σ H G δ D3 Z ys ds s ha q ⟨fun _ _ _ _ _ _ n z e => g.nx _ _ _ _ _ _ (n.mono h) z e, fun _ _ _ _ _ _ n z e => g.bk _ _ _ _ _ _ (n.mono h) z e, fun _ _ _ _ _ _ n z e => g.ct _ _ _ _ _ _ (n.mono h) z e, fun _ _ _ _ _ _ n z e => g.rt _ _ _ _ _ _ (n.mono h) z e⟩
def gplain (T : DS) : DGn := fun D ds δ => T { nx := D.nx ds, rt := fun _ _ => False, bk := D.bk ds, ct := D.ct ds } δ
theorem sndg_plain {as : List Nat} {t : TS} {T : DS} (a : SndSP K [] as t T) : SndGn K as (tPlain t) (gplain T) := fun F hp σ H G δ D3 Z ys ds s ha h g =>
  a F (fun i l z => (hp i l z).elim) (fun i _ l => hp i l) σ H G δ _ _ s h ⟨fun _ _ _ _ n q => g.nx _ _ _ _ _ _ n (ha.mono n.f.sub) q, fun _ _ _ _ n q => g.bk _ _ _ _ _ _ n (ha.mono n.f.sub) q, fun _ _ _ _ n q => g.ct _ _ _ _ _ _ n (ha.mono n.f.sub) q, fun _ _ _ _ _ _ _ _ _ q => q.elim⟩
def gnil : DGn := fun D ds δ => D.nx ds δ
theorem sndg_nil : SndGn K [] tG0 gnil := fun F hp σ H G δ D3 Z ys ds s ha h g => g.nx _ _ _ _ _ _ (.refl s) ha h
def gseq (T U : DGn) : DGn := fun D ds δ => T { D with nx := U D } ds δ
theorem sndg_seq {as bs : List Nat} {t u : TGn} {T U : DGn} (a : SndGn K as t T) (b : SndGn K bs u U) : SndGn K (as ++ bs) (tGThen t u) (gseq T U) := fun F hp σ H G δ D3 Z ys ds s ha h g => by
  refine a F hp σ H G δ _ _ ys ds s ha h ⟨fun σ' H' G' δ' ys' ds' n a' q => ?_, fun _ _ _ _ _ _ n a' q => ?_, fun _ _ _ _ _ _ n a' q => ?_, fun _ _ _ _ _ _ n a' q => ?_⟩
  · exact b F hp σ' H' G' δ' _ _ ys' ds' n.s a' q (g.from n fun _ z => z)
  · exact g.bk _ _ _ _ _ _ (n.mono fun _ z => List.mem_append_left _ z) a' q
  · exact g.ct _ _ _ _ _ _ (n.mono fun _ z => List.mem_append_left _ z) a' q
  · exact g.rt _ _ _ _ _ _ (n.mono fun _ z => List.mem_append_left _ z) a' q
def gif (c : DTT) (T U : DGn) : DGn := fun D ds δ => c δ fun b δ1 => if b = true then T D ds δ1 else U D ds δ1
theorem sndg_if {as bs : List Nat} {c : TT} {t u : TGn} {C : DTT} {T U : DGn} (hc : SndT K c C) (a : SndGn K as t T) (b : SndGn K bs u U) : SndGn K (as ++ bs) (tGIf c t u) (gif C T U) := fun F hp σ H G δ D3 Z ys ds s ha h g => by
  refine hc σ H G δ _ _ s.L h fun k δ1 H1 G1 L1 f1 le1 q => ?_
  have n : Nxt K F [] σ H G δ σ H1 G1 δ1 := .step s L1 f1 le1
  cases k with
  | true => exact a F hp σ H1 G1 δ1 _ _ ys ds n.s (ha.mono n.f.sub) q (g.from n fun _ z => List.mem_append_left _ z)
  | false => exact b F hp σ H1 G1 δ1 _ _ ys ds n.s (ha.mono n.f.sub) q (g.from n fun _ z => List.mem_append_right _ z)
def gyield (T : DT) : DGn := fun D ds δ => ds.length < sizeLine ∧ T δ fun r δ1 => ∃ d, r.still δ1 = some d ∧ D.nx (ds ++ [d]) δ1
theorem sndg_yield {t : TE} {T : DT} (a : Snd K t T) : SndGn K [] (tGYield t) (gyield T) := fun F hp σ H G δ D3 Z ys ds s ha h g => by
  refine ⟨by rw [ha.length]; exact h.1, a σ H G δ _ _ s.L h.2 fun r δ1 v H1 G1 L1 f1 le1 rr q => ?_⟩
  obtain ⟨d, e, q⟩ := q
  obtain ⟨G2, L2, f2, s2, h2, _⟩ := settle s.L L1 f1 le1 rr e
  have n : Nxt K F [] σ H G δ σ H1 G2 δ1 := .step s L2 f2 le1
  exact g.nx _ _ _ _ _ _ n ((ha.mono n.f.sub).append (.one h2)) q
def gfor (as : List Nat) (S : DI) (Gd : DG) (B : DGn) : DGn := fun Z ds δ => S δ fun items cs δ1 => (∀ p ∈ cs, p.1 ∉ as) ∧ ∃ I : Nat → List D → En → Prop, I 0 ds δ1 ∧ (∀ k ds δ, I k ds δ → ∀ p ∈ cs, δ[p.1]? = some (E.ow p.2)) ∧
  (∀ k x ds δ, items[k]? = some x → I k ds δ → Gd x δ fun δ' => B { Z with nx := I (k + 1), ct := I (k + 1), bk := Z.nx } ds δ') ∧ (∀ ds δ, I items.length ds δ → Z.nx ds δ)
theorem sndg_for {gs bs as : List Nat} {wi : TI} {g : TG} {tb : TGn} {S : DI} {Gd : DG} {B : DGn} (hi : SndI K wi S) (hg : SndG K gs g Gd) (hb : SndGn K bs tb B) (hh : ∀ i, i ∈ gs ++ bs → i ∈ as) : SndGn K as (tGFor wi g tb) (gfor as S Gd B) := fun F hp σ H G δ D3 Z ys ds s ha h gd => by
  refine hi σ H G δ _ _ s.L h fun items cs δ1 J H1 G1 L1 f1 le1 it q => ?_
  obtain ⟨nc, I, I0, Ic, It, Ie⟩ := q
  have n0 : Nxt K F [] σ H G δ σ H1 G1 δ1 := .step s L1 f1 le1
  refine ⟨fun i m ys' σ' H' => m = items.length - i ∧ i ≤ items.length ∧ ∃ G' δ' ds', Nxt K F as σ H1 G1 δ1 σ' H' G' δ' ∧ AtL K G' ys' ds' ∧ I i ds' δ', ⟨items.length, by simp, Nat.zero_le _, G1, δ1, ds, .refl n0.s, ha.mono n0.f.sub, I0⟩, ?_⟩
  rintro i m ys' σ' H' ⟨rfl, hi, G', δ', ds', n, ha', hI⟩
  have ok := it σ' H' G' δ' n.s.L n.f.sub fun p hp => ⟨Ic i ds' δ' hI p hp, n.st p.1 (nc p hp)⟩
  by_cases hlt : i < items.length
  · obtain ⟨hgo, hy⟩ := ok.1 i items[i] (List.getElem?_eq_getElem hlt)
    refine .inr ⟨hgo, fun ys2 σ2 H2 => ∃ G2 δ2 ds2, Nxt K F as σ H1 G1 δ1 σ2 H2 G2 δ2 ∧ AtL K G2 ys2 ds2 ∧ I (i + 1) ds2 δ2, fun ys2 σ2 H2 ⟨G2, δ2, ds2, n2, a2, h2⟩ => ⟨items.length - (i + 1), by omega, rfl, hlt, G2, δ2, ds2, n2, a2, h2⟩, fun x H'' y => ?_⟩
    obtain ⟨G'', fg, sg, hx⟩ := hy x H'' y
    have n1 : Nxt K F [] σ' H' G' δ' σ' H'' G'' δ' := .step n.s (n.s.L.grow fg sg) fg.fr .refl
    refine hg F (fun i _ l => hp i l) σ' H'' G'' δ' x _ _ _ n1.s hx (It i _ ds' δ' (List.getElem?_eq_getElem hlt) hI) fun σ2 H2 G2 δ2 n2 _ q2 => ?_
    have nn : Nxt K F as σ H1 G1 δ1 σ2 H2 G2 δ2 := ((n.trans n1).trans n2).mono fun j hj => by
      simp only [List.append_nil, List.mem_append] at hj
      rcases hj with hj | hj
      · exact hj
      · exact hh j (List.mem_append_left _ hj)
    refine hb F hp σ2 H2 G2 δ2 _ _ ys' ds' nn.s (ha'.mono (n1.f.sub.trans n2.f.sub)) q2 ⟨fun σ3 H3 G3 δ3 ys3 ds3 n3 a3 q3 => ⟨G3, δ3, ds3, (nn.trans n3).mono fun j hj => ?_, a3, q3⟩, fun σ3 H3 G3 δ3 ys3 ds3 n3 a3 q3 => gd.nx _ _ _ _ _ _ ((n0.trans (nn.trans n3)).mono fun j hj => ?_) a3 q3, fun σ3 H3 G3 δ3 ys3 ds3 n3 a3 q3 => ⟨G3, δ3, ds3, (nn.trans n3).mono fun j hj => ?_, a3, q3⟩,
      fun σ3 H3 G3 δ3 ys3 ds3 n3 a3 q3 => gd.rt _ _ _ _ _ _ ((n0.trans (nn.trans n3)).mono fun j hj => ?_) a3 q3⟩
    all_goals
      simp only [List.nil_append, List.mem_append] at hj
      rcases hj with hj | hj
      · exact hj
      · exact hh j (List.mem_append_right _ hj)
  · have e : i = items.length := by omega
    subst e
    exact .inl ⟨ok.2, gd.nx _ _ _ _ _ _ ((n0.trans n).mono fun j hj => by simpa using hj) ha' (Ie ds' δ' hI)⟩
def gwhile (C : DTT) (B : DGn) : DGn := fun Z ds δ => ∃ (I : List D → En → Prop) (μ : List D → En → Nat), I ds δ ∧ ∀ ds δ, I ds δ → C δ fun b δ1 => if b = true then B { Z with nx := fun ds2 δ2 => I ds2 δ2 ∧ μ ds2 δ2 < μ ds δ, ct := fun ds2 δ2 => I ds2 δ2 ∧ μ ds2 δ2 < μ ds δ, bk := Z.nx } ds δ1 else Z.nx ds δ1
theorem sndg_while {bs : List Nat} {c : TT} {tb : TGn} {C : DTT} {B : DGn} (hc : SndT K c C) (hb : SndGn K bs tb B) : SndGn K bs (tGWhile c tb) (gwhile C B) := fun F hp σ H G δ D3 Z ys ds s ha h gd => by
  obtain ⟨I, μ, I0, It⟩ := h
  refine ⟨fun m ys' σ' H' => ∃ G' δ' ds', m = μ ds' δ' ∧ Nxt K F bs σ H G δ σ' H' G' δ' ∧ AtL K G' ys' ds' ∧ I ds' δ', ⟨_, G, δ, ds, rfl, .refl s, ha, I0⟩, ?_⟩
  rintro m ys' σ' H' ⟨G', δ', ds', rfl, n, ha', hI⟩
  refine hc σ' H' G' δ' _ _ n.s.L (It ds' δ' hI) fun b δ1 H1 G1 L1 f1 le1 q => ?_
  have n1 : Nxt K F [] σ' H' G' δ' σ' H1 G1 δ1 := .step n.s L1 f1 le1
  have nn : Nxt K F bs σ H G δ σ' H1 G1 δ1 := (n.trans n1).mono fun j hj => by simpa using hj
  cases b with
  | true =>
    refine ⟨fun ys2 σ2 H2 => ∃ G2 δ2 ds2, Nxt K F bs σ H G δ σ2 H2 G2 δ2 ∧ AtL K G2 ys2 ds2 ∧ I ds2 δ2 ∧ μ ds2 δ2 < μ ds' δ', fun ys2 σ2 H2 ⟨G2, δ2, ds2, n2, a2, h2, h3⟩ => ⟨μ ds2 δ2, h3, G2, δ2, ds2, rfl, n2, a2, h2⟩, ?_⟩
    refine hb F hp σ' H1 G1 δ1 _ _ ys' ds' nn.s (ha'.mono n1.f.sub) q ⟨fun σ3 H3 G3 δ3 ys3 ds3 n3 a3 q3 => ⟨G3, δ3, ds3, (nn.trans n3).mono fun j hj => ?_, a3, q3⟩, fun σ3 H3 G3 δ3 ys3 ds3 n3 a3 q3 => gd.nx _ _ _ _ _ _ ((nn.trans n3).mono fun j hj => ?_) a3 q3, fun σ3 H3 G3 δ3 ys3 ds3 n3 a3 q3 => ⟨G3, δ3, ds3, (nn.trans n3).mono fun j hj => ?_, a3, q3⟩,
      fun σ3 H3 G3 δ3 ys3 ds3 n3 a3 q3 => gd.rt _ _ _ _ _ _ ((nn.trans n3).mono fun j hj => ?_) a3 q3⟩
    all_goals
      rcases List.mem_append.mp hj with hj | hj <;> exact hj
  | false => exact gd.nx _ _ _ _ _ _ nn (ha'.mono n1.f.sub) q
/-! ### promises -/
abbrev GSp := En → (List D → Prop) → Prop
def upG (K : PySem.W.Frag) (n : Nat) (sp : GSp) : SpG := fun vs H cont _ => vs.length = n ∧ ∃ (G : Hp) (δ : En) (Q3 : List D → Prop), Rel K (vs.map some) H G δ ∧ sp δ Q3 ∧ ∀ ds ys H' G', Gr H G H' G' → Sub G' H' → AtL K G' ys ds → Q3 ds → cont ys H'
theorem gbody_ok {as : List Nat} {t : TGn} {T : DGn} {N : List Str} {n : Nat} {sp : GSp} (a : SndGn K as t T)
    (hsp : ∀ δ Q3, sp δ Q3 → δ.length = n → (∀ (i : Nat) c, δ[i]? ≠ some (E.ow c)) ∧ T { nx := fun ds _ => Q3 ds, rt := Q3 } [] (δ ++ List.replicate (N.length - n) E.no)) :
    ∀ (vs : List V) (H : Hp) (Q : List V → Hp → Prop) (W : XK), upG K n sp vs H Q W → t { nx := fun ys _ H' => Q ys H', rt := fun ys v H' => v = .non ∧ Q ys H' } [] (start N vs) H := fun vs H Q W h => by
  obtain ⟨hn, G, δ, Q3, L, hs, k⟩ := h
  have hl : δ.length = n := by
    have := L.len
    rw [List.length_map] at this
    omega
  obtain ⟨h1, h2⟩ := hsp δ Q3 hs hl
  have lv : (vs.map some).length = δ.length := L.len
  have gl : ∀ (i : Nat) (x : Option V), (vs.map some)[i]? = some x → (start N vs)[i]? = some x := fun i x e => by
    unfold L2.start
    rw [List.getElem?_append_left (List.getElem?_eq_some_iff.mp e).1]
    exact e
  have gd : ∀ (i : Nat) (e : E), (δ ++ List.replicate (N.length - n) E.no)[i]? = some e → e ≠ .no → δ[i]? = some e := fun i e h ne => by
    rcases app_get h with h | h
    · exact h
    · exact absurd (List.eq_of_mem_replicate h) ne
  have no : ∀ (i : Nat) c, (δ ++ List.replicate (N.length - n) E.no)[i]? ≠ some (E.ow c) := fun i c e => h1 i c (gd i _ e fun z => nomatch z)
  have L0 : Rel K (start N vs) H G (δ ++ List.replicate (N.length - n) E.no) := by
    refine ⟨by unfold L2.start; rw [List.length_append, List.length_append, List.length_replicate, List.length_replicate, lv, hn], L.sub, fun i d e => ?_, fun i c e => (no i c e).elim, fun i j l c c' e e' q q' => (no i c e).elim⟩
    obtain ⟨v, q1, q2⟩ := L.va i d (gd i _ e fun z => nomatch z)
    exact ⟨v, gl i _ q1, q2⟩
  have s0 : S3 K ⟨fun _ _ => False, H, G⟩ (start N vs) H G (δ ++ List.replicate (N.length - n) E.no) := ⟨L0, .refl, fun j c l e q => (no j c e).elim, fun j l z => z.elim⟩
  have gr : ∀ {σ' H' G' δ'}, Nxt K ⟨fun _ _ => False, H, G⟩ as (start N vs) H G (δ ++ List.replicate (N.length - n) E.no) σ' H' G' δ' → Gr H G H' G' := fun m => m.f.mono fun a ⟨i, c, e, _⟩ => (no i c e).elim
  exact a ⟨fun _ _ => False, H, G⟩ (fun _ _ z => z) (start N vs) H G _ _ _ [] [] s0 .nil h2 ⟨fun _ _ _ _ _ _ m a' q => k _ _ _ _ (gr m) m.s.L.sub a' q, fun _ _ _ _ _ _ _ _ q => q, fun _ _ _ _ _ _ _ _ q => q, fun _ _ _ _ _ _ m a' q => ⟨rfl, k _ _ _ _ (gr m) m.s.L.sub a' q⟩⟩
/-- a generator method -/
structure GMP (P : Program) (w : World) (K : PySem.W.Frag) (mg : Str → Option Value) (base : Heap) (cn m : Str) (k n : Nat) (sp : GSp) : Prop where
  ex : ∃ fd ps, GFn P w K mg base k (He.ma K (He.ga K cn) m) fd ps (upG K n sp) ∧ Binds K fd ps []
  me : Meth K (He.ga K cn) m (He.ma K (He.ga K cn) m)
  cl : Cls K (He.ga K cn)
def XF : XK := fun _ _ _ => False
theorem passF {P : Program} {w : World} {X : Cx} : Passes (CX P w) X XF := fun _ _ _ _ _ _ _ h => by
  obtain ⟨_, _, _, _, _, _, _, _, _, _, _, _, h⟩ := h
  exact h.elim
theorem noStopF : NoStop K XF := fun _ _ _ h => h.elim
def tlistm (cn m : Str) (sp : GSp) (T : DT) : DT := fun δ Q => T δ fun r δ1 => ∃ ns xs, r = .va (.obj cn ns xs) ∧ (ns.zip xs).lookup m = none ∧ sp [.va (.obj cn ns xs)] fun ds => Q (.fr (.l ds)) δ1
theorem snd_listm {cn m : Str} {sp : GSp} {t : TE} {T : DT} (a : Snd K t T) : Snd K (tListG (tMethG (He.ga K cn) m (upG K 1 sp) [] XF t tNil)) (tlistm cn m sp T) := fun σ H G δ Q Q3 L h k => by
  refine a σ H G δ _ _ L h fun r δ1 v H1 G1 L1 f1 le1 rr q => ?_
  obtain ⟨ns, xs, rfl, el, hs⟩ := q
  have hv : At K G1 v (.obj cn ns xs) := rr
  obtain ⟨x, dx, vs, rfl, h1, h2, h3⟩ := sh_of L1 rr (d := .obj cn ns xs) rfl
  refine ⟨x, dx, _, rfl, h1, zip_none (h3.length.symm) el, ?_⟩
  refine ⟨rfl, G1, [.va (.obj cn ns xs)], _, ⟨rfl, L1.sub, fun i d e => ?_, fun i c e => ?_, fun i j l c c' e e' q q' => ?_⟩, hs, fun ds ys H' G' gr sg ha q p hp => ?_⟩
  · rcases i with _ | i
    · cases e
      exact ⟨_, rfl, hv⟩
    · simp at e
  · rcases i with _ | i <;> simp at e
  · rcases i with _ | i <;> simp at e
  · have L2 := L1.grow gr sg
    obtain ⟨fD, sD⟩ := gr_new (G := G') (o := .lst ys) sg hp
    have hp0 : H p = none := f1.free (gr.free hp)
    exact k (.fr (.l ds)) δ1 (.ref p) _ G' (L2.grow fD sD) ((f1.trans gr fun _ z => z.elim).trans fD fun _ z => z.elim) le1 ⟨p, rfl, hp0, g_none sg hp, ys, upd_same, ha⟩ q
section
variable {X : Cx} {m cn : Str} {p pos apos : Pos} {o : Expr} {ta : TE} {k n j : Nat} {sp : GSp}
theorem pe_lm {pl : Sem Bool} (h : GMP X.prog X.w X.K X.mg X.base cn m k n sp) (hr : Room (k + 3) X.A) (hg : Gl X "list") (hmg : X.mg "list" = none) (he : PE X o ta)
    (ht : eval (.Call (.Attribute o m apos) [] [] pos) X.env = (do
      let ov ← eval o X.env
      standAt apos.atName
      let (f, first) ← holding [ov] (getMethod ov m pl)
      callWith pos f first (backTo pos (starEach [] X.env)) (backToKw pos (keywordEach [] X.env))) := by rfl)
    (hst : starEach [Expr.Call (.Attribute o m apos) [] [] pos] X.env = (false, eval (.Call (.Attribute o m apos) [] [] pos) X.env) :: starEach [] X.env := by rfl) :
    PE X (.Call (.Name "list" p) [.Call (.Attribute o m apos) [] [] pos] [] pos') (tListG (tMethG (He.ga X.K cn) m (upG X.K n sp) [] XF ta tNil)) := by
  obtain ⟨fd, ps, F, b⟩ := h.ex
  exact pe_listG (pgen_meth0 (pl := pl) he h.cl h.me F (Room.mono hr (by omega)) b .nil ht) passF noStopF hr hg hmg (by decide +kernel) (by decide) (by decide) hst
end
end
end L3
/-! L3, part P: keywords, fields that are stored, isinstance of an own class. -/
namespace L3
open PySem PySem.Spec PyProof.Rows L2
/-! ### picking -/
def pk {α : Type} (is : List Nat) (xs : List α) : List α := is.filterMap fun i => xs[i]?
theorem pk_get {α : Type} {is : List Nat} {xs : List α} (h : ∀ i ∈ is, i < xs.length) : (pk is xs).length = is.length ∧ ∀ (j i : Nat), is[j]? = some i → (pk is xs)[j]? = xs[i]? := by
  induction is with
  | nil => exact ⟨rfl, fun j i e => by simp at e⟩
  | cons i0 is ih =>
    obtain ⟨l, g⟩ := ih fun i hi => h i (List.mem_cons_of_mem _ hi)
    have hi0 : i0 < xs.length := h i0 List.mem_cons_self
    have h0 : xs[i0]? = some xs[i0] := List.getElem?_eq_getElem hi0
    have e : pk (i0 :: is) xs = xs[i0] :: pk is xs := by
      unfold pk
      rw [List.filterMap_cons, h0]
    rw [e]
    refine ⟨by rw [List.length_cons, List.length_cons, l], fun j i ej => ?_⟩
    cases j with
    | zero =>
      simp at ej
      subst ej
      rw [h0]
      rfl
    | succ j =>
      rw [List.getElem?_cons_succ]
      exact g j i (by simpa using ej)
theorem Vals.pk {vs : List V} {us : List Value} (r : Vals vs us) : ∀ is : List Nat, Vals (pk is vs) (pk is us)
  | [] => .nil
  | i :: is => by
    unfold L3.pk
    rw [List.filterMap_cons, List.filterMap_cons]
    cases e : vs[i]? with
    | none =>
      rw [Vals.none_of r e]
      exact Vals.pk r is
    | some v =>
      obtain ⟨u, e2, ru⟩ := Vals.get r e
      rw [e2]
      exact .cons ru (Vals.pk r is)
theorem nodup_inj {α : Type} : ∀ {xs : List α} {i j : Nat} {x : α}, xs.Nodup → xs[i]? = some x → xs[j]? = some x → i = j
  | [], i, _, _, _, h, _ => by simp at h
  | _ :: _, 0, 0, _, _, _, _ => rfl
  | y :: ys, 0, j + 1, x, n, h, h' => by
    simp at h h'
    subst h
    exact absurd (List.mem_of_getElem? h') (List.nodup_cons.mp n).1
  | y :: ys, i + 1, 0, x, n, h, h' => by
    simp at h h'
    subst h'
    exact absurd (List.mem_of_getElem? h) (List.nodup_cons.mp n).1
  | y :: ys, i + 1, j + 1, x, n, h, h' => by
    have := nodup_inj (List.nodup_cons.mp n).2 (i := i) (j := j) (by simpa using h) (by simpa using h')
    omega
section
variable {K : PySem.W.Frag} {σ : L2.St} {H0 H1 H G : Hp}
theorem RRs.of : ∀ {rs : List R} {vs : List V}, vs.length = rs.length → (∀ (i : Nat) r v, rs[i]? = some r → vs[i]? = some v → RR K σ H0 H G r v) → (∀ (i j : Nat) c c' v, rs[i]? = some (R.fr c) → rs[j]? = some (R.fr c') → vs[i]? = some v → vs[j]? = some v → i = j) → RRs K σ H0 H G rs vs
  | [], [], _, _, _ => .nil
  | r :: rs, v :: vs, l, h, a => by
    refine .cons (h 0 r v rfl rfl) (RRs.of (by simpa using l) (fun i r v e e2 => h (i + 1) r v (by simpa using e) (by simpa using e2)) fun i j c c' v e1 e2 e3 e4 => ?_) fun c e j c' e2 e3 => ?_
    · have := a (i + 1) (j + 1) c c' v (by simpa using e1) (by simpa using e2) (by simpa using e3) (by simpa using e4)
      omega
    · have := a 0 (j + 1) c c' v (by rw [e]; rfl) (by simpa using e2) rfl (by simpa using e3)
      omega
  | [], _ :: _, l, _, _ => by cases l
  | _ :: _, [], l, _, _ => by cases l
theorem RRs.pk {rs : List R} {vs : List V} (rr : RRs K σ H0 H G rs vs) {is : List Nat} (nd : is.Nodup) (h : ∀ i ∈ is, i < rs.length) : RRs K σ H0 H G (pk is rs) (pk is vs) := by
  have hv : ∀ i ∈ is, i < vs.length := fun i hi => by rw [rr.length]; exact h i hi
  obtain ⟨l1, g1⟩ := pk_get h
  obtain ⟨l2, g2⟩ := pk_get hv
  have at_ : ∀ (j : Nat) {r : R}, (L3.pk is rs)[j]? = some r → ∃ i, is[j]? = some i ∧ rs[i]? = some r := fun j r e => by
    have hj : j < is.length := by rw [← l1]; exact (List.getElem?_eq_some_iff.mp e).1
    have ei : is[j]? = some is[j] := List.getElem?_eq_getElem hj
    exact ⟨_, ei, by rw [← g1 j _ ei]; exact e⟩
  refine RRs.of (by rw [l1, l2]) (fun j r v e e2 => ?_) fun j j' c c' v e1 e2 e3 e4 => ?_
  · obtain ⟨i, ei, er⟩ := at_ j e
    obtain ⟨v', q1, q2⟩ := rr.get er
    rw [g2 j i ei, q1] at e2
    cases e2
    exact q2
  · obtain ⟨i, ei, er⟩ := at_ j e1
    obtain ⟨i', ei', er'⟩ := at_ j' e2
    rw [g2 j i ei] at e3
    rw [g2 j' i' ei'] at e4
    have := rr.apart er er' e3 e4
    subst this
    obtain ⟨hj, ej⟩ := List.getElem?_eq_some_iff.mp ei
    obtain ⟨hj', ej'⟩ := List.getElem?_eq_some_iff.mp ei'
    exact nodup_inj nd ei ei'
theorem RRs.onL {σ : L2.St} {H0 G0 H1 G1 H2 G2 : Hp} {δ δ1 : En} (L : Rel K σ H0 G0 δ) (f1 : Fr (Ad σ δ) H0 G0 H1 G1) (le1 : Le δ1 δ) (f2 : Fr (Ad σ δ1) H1 G1 H2 G2) : ∀ {rs : List R} {vs : List V}, RRs K σ H0 H1 G1 rs vs → RRs K σ H0 H2 G2 rs vs
  | _, _, .nil => .nil
  | _, _, .cons h t n => .cons (h.on L f1 le1 f2) (RRs.onL L f1 le1 f2 t) n
end
section
variable {K : PySem.W.Frag}
theorem rrs_app {σ : L2.St} {H G H1 G1 H2 G2 : Hp} {δ δ1 : En} {rs us : List R} {vs zs : List V} (L : Rel K σ H G δ) (f1 : Fr (Ad σ δ) H G H1 G1) (le1 : Le δ1 δ) (f2 : Fr (Ad σ δ1) H1 G1 H2 G2) (rr : RRs K σ H H1 G1 rs vs) (rrs : RRs K σ H1 H2 G2 us zs) : RRs K σ H H2 G2 (rs ++ us) (vs ++ zs) := by
  have r1 := RRs.onL L f1 le1 f2 rr
  have r2 := rrs.base (fun a h => f1.free h)
  have apart : ∀ (i j : Nat) c c' v, rs[i]? = some (R.fr c) → us[j]? = some (R.fr c') → vs[i]? = some v → zs[j]? = some v → False := fun i j c c' v e1 e2 e3 e4 => by
    obtain ⟨v1, h1, l, rfl, n, g, hc⟩ := rr.get e1
    obtain ⟨v2, h2, l', rfl, n', _⟩ := rrs.get e2
    rw [e3] at h1
    rw [e4] at h2
    cases h1
    cases h2
    exact hc.some n'
  have ll := r1.length
  refine RRs.of (by rw [List.length_append, List.length_append, r1.length, r2.length]) (fun i r v e e2 => ?_) fun i j c c' v e1 e2 e3 e4 => ?_
  · by_cases z : i < rs.length
    · rw [List.getElem?_append_left z] at e
      rw [List.getElem?_append_left (by omega)] at e2
      obtain ⟨v', h1, h2⟩ := r1.get e
      rw [e2] at h1
      cases h1
      exact h2
    · rw [List.getElem?_append_right (by omega)] at e
      rw [List.getElem?_append_right (by omega), ll] at e2
      obtain ⟨v', h1, h2⟩ := r2.get e
      rw [e2] at h1
      cases h1
      exact h2
  · by_cases z : i < rs.length
    · rw [List.getElem?_append_left z] at e1
      rw [List.getElem?_append_left (by omega)] at e3
      by_cases z' : j < rs.length
      · rw [List.getElem?_append_left z'] at e2
        rw [List.getElem?_append_left (by omega)] at e4
        exact r1.apart e1 e2 e3 e4
      · rw [List.getElem?_append_right (by omega)] at e2
        rw [List.getElem?_append_right (by omega), ll] at e4
        exact (apart _ _ _ _ _ e1 e2 e3 e4).elim
    · rw [List.getElem?_append_right (by omega)] at e1
      rw [List.getElem?_append_right (by omega), ll] at e3
      by_cases z' : j < rs.length
      · rw [List.getElem?_append_left z'] at e2
        rw [List.getElem?_append_left (by omega)] at e4
        exact (apart _ _ _ _ _ e2 e1 e4 e3).elim
      · rw [List.getElem?_append_right (by omega)] at e2
        rw [List.getElem?_append_right (by omega), ll] at e4
        have := r2.apart e1 e2 e3 e4
        omega
/-! ### f(.., k = v) -/
def tCallP (sp : Sp) (np nk : Nat) (is : List Nat) (W : XK) (t u : TA) : TE := fun σ H Q => t σ H fun vs H1 => vs.length = np ∧ u σ H1 fun zs H2 => zs.length = nk ∧ sp (pk is (vs ++ zs)) H2 Q W
def tcallP (sp : DSp) (ms : List Bool) (np nk : Nat) (is : List Nat) (T U : DTA) : DT := fun δ Q => T δ fun rs δ1 => rs.length = np ∧ U δ1 fun us δ2 => us.length = nk ∧ ∃ es, passes δ2 (pk is (rs ++ us)) ms = some es ∧ (rfs (pk is (rs ++ us))).Nodup ∧ sp es fun r es' => ∃ δ', puts δ2 (pk is (rs ++ us)) es' = δ' ∧ Q r δ'
theorem snd_callP {sp : DSp} {ms : List Bool} {np nk : Nat} {is : List Nat} {t u : TA} {T U : DTA} {n : Nat} {W : XK} (hn : ms.length = n) (ni : is.Nodup) (hi : ∀ i ∈ is, i < np + nk) (a : SndA K t T) (b : SndA K u U) : Snd K (tCallP (up K n sp) np nk is W t u) (tcallP sp ms np nk is T U) := fun σ H G δ Q Q3 L h k => by
  refine a σ H G δ _ _ L h fun rs δ1 vs H1 G1 L1 f1 le1 rr q1 => ?_
  obtain ⟨l1, q1⟩ := q1
  refine ⟨by rw [rr.length]; exact l1, ?_⟩
  refine b σ H1 G1 δ1 _ _ L1 q1 fun us δ2 zs H2 G2 L2 f2 le2 rrs q2 => ?_
  obtain ⟨l2, es, he, nd, hs⟩ := q2
  refine ⟨by rw [rrs.length]; exact l2, ?_⟩
  have f12 : Fr (Ad σ δ) H G H2 G2 := f1.trans f2 fun a h => .inl (le1.ad h)
  have ra := rrs_app L f1 le1 f2 rr rrs
  exact call_core L L2 f12 (le2.trans le1) (ra.pk ni fun i z => by rw [List.length_append, l1, l2]; exact hi i z) nd ((passes_len he).trans hn) he hs fun r es' v H' G' l f le r _ q => by
    obtain ⟨_, rfl, q⟩ := q
    exact k _ _ v H' G' l f le r q
end
/-- a def that is called with keywords: np positional arguments, then these names -/
structure FK (P : Program) (w : World) (K : PySem.W.Frag) (mg : Str → Option Value) (base : Heap) (x : Str) (k n : Nat) (sp : DSp) (np : Nat) (ks : List Str) (is : List Nat) : Prop where
  ex : ∃ fd ps, FnOk P w K mg base CX0 k (He.ga K x) fd ps (up K n sp) ∧ ∀ (s : Shared) (us ws : List Value), K.In s.heap → us.length = np → ws.length = ks.length → BindsTo s fd ⟨us, ks.zip ws⟩ (ps.zip (pk is (us ++ ws)))
  kp : PySem.W.keepIn K (.ref (He.ga K x)) = true
  at_ : mg x = some (.ref (He.ga K x))
section
variable {X : Cx} {CX : CXT} {k n : Nat} {f : Addr} {fd : FuncData} {ps : List Str} {sp : Sp} {E : XK} {x : Str} {p pos : Pos} {e : Expr} {es : List Expr} {t tk : TA} {kws : List Keyword} {ks : List Str}
theorem run_fkp {pins : List (Addr × Obj)} {σ : L2.St} {H : Hp} {s : Shared} {Q : VK} {us ws zs : List Value} {vs : List V} (F : FnOk X.prog X.w X.K X.mg X.base CX k f fd ps sp) (hr : Room k X.A) (hb : BindsTo s fd ⟨us, ks.zip ws⟩ (ps.zip zs)) (hx : Passes CX X E)
    (I : Inv X pins σ H s) (r : Vals vs zs) (h : sp vs H Q E) : wpAny (model X.prog X.w) X.A (call (.ref f) us (ks.zip ws)) (EP X pins σ Q) X.xe s := by
  refine wpAny_call (codeAny_mono (F.run X.A X.stack s H ⟨us, ks.zip ws⟩ zs vs Q E hr I.env0 hb r h) fun r s' hq => ?_)
  cases r with
  | error e => exact hx pins σ H s e s' I hq
  | ok fl =>
    cases fl with
    | ret u => exact I.after hq
    | next => exact False.elim hq
    | brk => exact False.elim hq
    | cont => exact False.elim hq
theorem pe_fk {sp : DSp} {np nk : Nat} {is : List Nat} (h : FK X.prog X.w X.K X.mg X.base x k n sp np ks is) (hr : Room k X.A) (hg : Gl X x) (ha : PA X (e :: es) t) (hkw : PK X kws tk) (hlk : ks.length = nk)
    (hall : (backToKw pos (keywordEach kws X.env)).all (·.1.isSome) = true := by rfl) (hks : (backToKw pos (keywordEach kws X.env)).filterMap (·.1) = ks := by rfl)
    (hdb : (x == ("__debug__" : Str)) = false := by decide) (he : starEach (e :: es) X.env = (false, eval e X.env) :: starEach es X.env := by rfl)
    (hpl : ((backTo pos (starEach (e :: es) X.env)).any (·.1) || (backToKw pos (keywordEach kws X.env)).any (·.1.isNone)) = false := by rfl) :
    PE X (.Call (.Name x p) (e :: es) kws pos) (tCallP (up X.K n sp) np nk is E0 t tk) := by
  obtain ⟨fd, ps, F, hb⟩ := h.ex
  refine ⟨fun pins s σ H Q I hq => ?_⟩
  refine wpAny_Call_Name_kw (ld_glob I hg h.at_ ?_ hdb)
  refine PySem.W.callWith_KW (h₀ := X.base) I.ok.mod.kin h.kp hall (wpAny_mono (ha.run pos pins s σ H _ I hq) (fun us s1 ⟨vs, H1, I1, r, l1, q⟩ => ?_) fun _ _ z => z) hpl he
  refine wpAny_mono (hkw.run pos pins s1 σ H1 _ I1 q) (fun ws s2 ⟨zs, H2, I2, rz, l2, q2⟩ => ⟨I2.kIn, ?_⟩) fun _ _ z => z
  rw [hks]
  exact run_fkp F hr (hb s2 us ws I2.kIn (by rw [← r.length]; exact l1) (by rw [← rz.length, hlk]; exact l2)) pass0 I2 (Vals.pk (r.append rz) is) q2
theorem pe_fk0 {sp : DSp} {nk : Nat} {is : List Nat} (h : FK X.prog X.w X.K X.mg X.base x k n sp 0 ks is) (hr : Room k X.A) (hg : Gl X x) (hkw : PK X kws tk) (hlk : ks.length = nk)
    (hall : (backToKw pos (keywordEach kws X.env)).all (·.1.isSome) = true := by rfl) (hks : (backToKw pos (keywordEach kws X.env)).filterMap (·.1) = ks := by rfl)
    (hdb : (x == ("__debug__" : Str)) = false := by decide)
    (hpl : ((backTo pos (starEach [] X.env)).any (·.1) || (backToKw pos (keywordEach kws X.env)).any (·.1.isNone)) = false := by rfl) :
    PE X (.Call (.Name x p) [] kws pos) (tCallP (up X.K n sp) 0 nk is E0 tNil tk) := by
  obtain ⟨fd, ps, F, hb⟩ := h.ex
  refine ⟨fun pins s σ H Q I hq => ?_⟩
  obtain ⟨_, hq⟩ := hq
  refine wpAny_Call_Name_kw (ld_glob I hg h.at_ ?_ hdb)
  refine PySem.W.callWith_KW0 (h₀ := X.base) I.ok.mod.kin h.kp hall (wpAny_mono (hkw.run pos pins s σ H _ I hq) (fun ws s2 ⟨zs, H2, I2, rz, l2, q2⟩ => ⟨I2.kIn, ?_⟩) fun _ _ z => z) hpl
  rw [hks]
  exact run_fkp F hr (hb s2 [] ws I2.kIn rfl (by rw [← rz.length, hlk]; exact l2)) pass0 I2 (Vals.pk rz is) q2
end
/-! ### self.f = e -/
def putFD (f : Str) (d : D) : List (Str × D) → List (Str × D)
  | [] => [(f, d)]
  | (g, x) :: r => if g = f then (g, d) :: r else (g, x) :: putFD f d r
section
variable {K : PySem.W.Frag}
theorem AtF.put {G : Hp} {f : Str} {v : V} {d : D} (h : At K G v d) : ∀ {vs : List (Str × V)} {ds : List (Str × D)}, AtF K G vs ds → AtF K G (putF f v vs) (putFD f d ds)
  | _, _, .nil => .cons ⟨rfl, h⟩ .nil
  | _, _, .cons (a := (g, x)) (b := (g', y)) a t => by
    obtain ⟨e, a⟩ := a
    have e' : g = g' := e
    subst e'
    unfold putF putFD
    by_cases z : g = f
    · rw [if_pos z, if_pos z]
      exact .cons ⟨rfl, h⟩ t
    · rw [if_neg z, if_neg z]
      exact .cons ⟨rfl, a⟩ (AtF.put h t)
theorem AtF.length {G : Hp} {vs : List (Str × V)} {ds : List (Str × D)} (h : AtF K G vs ds) : vs.length = ds.length := Paired.length h
def ssetf (cn f : Str) (To Tv : DT) : DS := fun D δ => Tv δ fun r δ1 => To δ1 fun ro δ2 => ∃ i fs d, ro = .rf i ∧ δ2[i]? = some (E.ow (.o cn fs)) ∧ r.still δ2 = some d ∧ (∀ j, r ≠ .rf j) ∧ fs.length < 1000 ∧ ∃ δ', δ2.set i (.ow (.o cn (putFD f d fs))) = δ' ∧ D.nx δ'
theorem snds_setf {cn f : Str} {to tv : TE} {To Tv : DT} (c : Cls K (He.ga K cn)) (n : NoAttr K (He.ga K cn) f) (a : Snd K to To) (b : Snd K tv Tv) : SndS K [] (sFld K to tv f) (ssetf cn f To Tv) := fun F hp σ H G δ D3 Z s h g => by
  refine b σ H G δ _ _ s.L h fun r δ1 v H1 G1 L1 f1 le1 rr q => ?_
  refine a σ H1 G1 δ1 _ _ L1 q fun ro δ2 u H2 G2 L2 f2 le2 rro q => ?_
  obtain ⟨i, fs, d, rfl, e, es, nr, hl, _, rfl, q⟩ := q
  have f12 : Fr (Ad σ δ) H G H2 G2 := f1.trans f2 fun a h => .inl (le1.ad h)
  have rr2 : RR K σ H H2 G2 r v := rr.on s.L f1 le1 f2
  obtain ⟨G3, L3, f3, s3, h3, _⟩ := settle s.L L2 f12 (le2.trans le1) rr2 es
  obtain ⟨l, q1, q2, dx, vs, q3, q4⟩ := L3.ow i _ e
  rw [show σ[i]? = some (some u) from rro] at q1
  cases q1
  refine ⟨l, _, dx, vs, rfl, q3, c, n, by rw [q4.length]; exact hl, ?_⟩
  have n1 : Nxt K F [] σ H G δ σ H2 G3 δ2 := .step s L3 f3 (le2.trans le1)
  obtain ⟨L4, f4, le4⟩ := L3.upC (o := .ins (He.ga K cn) dx (putF f v vs)) (c' := .o cn (putFD f d fs)) e rro ⟨dx, _, upd_same, q4.put h3⟩
  exact g.nx _ _ _ _ (n1.trans (.step n1.s L4 f4 le4)) q
/-! ### isinstance of an own class -/
def tisC (cn : Str) (T : DT) : DT := fun δ Q => T δ fun r δ1 => ∃ ns ds, r.dat δ1 = some (.obj cn ns ds) ∧ Q (.va (.bl true)) δ1
/-- what isinstance asks of the class cn -/
structure IsOwn (K : PySem.W.Frag) (cn : Str) : Prop where
  cl : Cls K (He.ga K cn)
  a1 : PySem.W.findIn K (.ref (He.ga K cn)) "__class__" = some (some (.builtin "object.__class__"))
  a2 : PySem.W.specialIn K (.builtin "object.__class__") "__get__" = some (some (.builtin "getset_descriptor.__get__"))
  a3 : PySem.W.takesIn K (.builtin "object.__class__") = some true
  a4 : PySem.W.mroIn K (He.ga K cn) (.type "object") = some true
  a5 : PySem.W.kitOne K (.ref (He.ga K cn)) (.ref (He.ga K cn)) = some true
theorem snd_isC {cn : Str} {t : TE} {T : DT} (c : IsOwn K cn) (a : Snd K t T) : Snd K (tCB (rIsi K) (tCons t (tCons (tC (.ref (He.ga K cn))) tNil))) (tisC cn T) := fun σ H G δ Q Q3 L h k => by
  refine a σ H G δ _ _ L h fun r δ1 v H1 G1 L1 f1 le1 rr q1 => ?_
  obtain ⟨ns, ds, e, q⟩ := q1
  obtain ⟨x, dx, vs, rfl, h1, h2, h3⟩ := sh_of L1 rr e
  exact ⟨_, _, _, _, true, rfl, .own _, .base (.ins h1 c.cl c.a1 c.a2 c.a3 c.a4), c.a5, k (.va (.bl true)) δ1 _ H1 G1 L1 f1 le1 (At.bl _) q⟩
/-- a class with these fields -/
structure ClsF (K : PySem.W.Frag) (cn : Str) (fs : List Str) : Prop where
  c : Cls K (He.ga K cn)
  n : ∀ f ∈ fs, NoAttr K (He.ga K cn) f
end
theorem pe_own {X : Cx} {cn : Str} {pos : Pos} (hg : Gl X cn) (h : X.mg cn = some (.ref (He.ga X.K cn))) (hd : (cn == ("__debug__" : Str)) = false := by decide) : PE X (.Name cn pos) (tC (.ref (He.ga X.K cn))) := pe_glob hg h rfl hd
/-! ### zip of two lists or of two tuples -/
section
variable {K : PySem.W.Frag}
def izipA (T U : DT) : DI := fun δ Q => T δ fun r δ1 => U δ1 fun u δ2 => (∃ xs cs ys cs', srcL δ2 r = some (xs, cs) ∧ srcL δ2 u = some (ys, cs') ∧ Q (zipD xs ys) (cs ++ cs') δ2) ∨ ∃ xs ys, r = .va (.tup xs) ∧ u = .va (.tup ys) ∧ Q (zipD xs ys) [] δ2
theorem sndi_zipA {t u : TE} {T U : DT} (a : Snd K t T) (b : Snd K u U) : SndI K (RZ.iZipA K (tCons t (tCons u tNil))) (izipA T U) := fun σ H G δ R Q3 L h k => by
  refine a σ H G δ _ _ L h fun r δ1 v H1 G1 L1 f1 le1 rr q => ?_
  refine b σ H1 G1 δ1 _ _ L1 q fun u δ2 w H2 G2 L2 f2 le2 rr2 q => ?_
  rcases q with ⟨xs, cs, ys, cs', e1, e2, q⟩ | ⟨xs, ys, rfl, rfl, q⟩
  · have f12 : Fr (Ad σ δ) H G H2 G2 := f1.trans f2 fun a h => .inl (le1.ad h)
    obtain ⟨a, G3, rfl, L3, f3, s3, la, ⟨vs0, ex⟩, ch⟩ := srcL_at L L2 f12 (le2.trans le1) (rr.on L f1 le1 f2) e1
    have rr3 : RR K σ H H2 G3 u w := by
      cases u with
      | va d => exact At.mono s3 rr2
      | rf i => exact rr2
      | fr c =>
        obtain ⟨l, rfl, n0, g, q⟩ := rr2
        refine ⟨l, rfl, f1.free n0, ?_, q.mono (fun _ z => z) s3⟩
        by_cases z : G3 l = G2 l
        · rw [z]
          exact g
        · obtain ⟨ev, c, ec⟩ := ch l z
          cases ev
          subst ec
          obtain ⟨l', e3, _, _, hc⟩ := rr
          cases e3
          exact absurd n0 hc.some
    obtain ⟨b, G4, rfl, L4, f4, s4, lb, ⟨us0, ex2⟩, _⟩ := srcL_at L L3 f3 (le2.trans le1) rr3 e2
    refine ⟨a, b, vs0, us0, rfl, .inl ⟨ex, ex2, k _ (cs ++ cs') δ2 _ H2 G4 L4 f4 (le2.trans le1) (fun σ H G δ L s c => ?_) q⟩⟩
    obtain ⟨vs, h1, t1⟩ := la.sub s4 σ H G δ L s fun p hp => c p (List.mem_append_left _ hp)
    obtain ⟨us, h2, t2⟩ := lb σ H G δ L s fun p hp => c p (List.mem_append_right _ hp)
    refine ⟨fun k z e => ?_, vs, us, h1, h2, by rw [t1.length, t2.length]; exact zipD_len⟩
    obtain ⟨x, y, e1, e2, rfl⟩ := zipD_get e
    obtain ⟨v, e3, hv⟩ := t1.get e1
    obtain ⟨w, e4, hw⟩ := t2.get e2
    refine ⟨⟨vs, us, v, w, h1, h2, e3, e4⟩, fun u H' z => ?_⟩
    obtain ⟨T, x', y', rfl, hT, rfl, z1, z2⟩ := z
    have q1 := z1 vs h1
    have q2 := z2 us h2
    rw [e3] at q1
    rw [e4] at q2
    cases q1
    cases q2
    obtain ⟨f3, s3⟩ := gr_keep (o := .tup [v, w]) L.sub hT
    exact ⟨_, f3, s3, At.tup (SqT.of upd_same) (.cons (hv.mono f3.sub) (.one (hw.mono f3.sub)))⟩
  · have f12 : Fr (Ad σ δ) H G H2 G2 := f1.trans f2 fun a h => .inl (le1.ad h)
    cases (show At K G1 v (.tup xs) from rr) with
    | @tup a vs _ h1 t1 =>
      cases (show At K G2 w (.tup ys) from rr2) with
      | @tup b us _ h2 t2 =>
        have h1' := f2.sub.sqT h1
        refine ⟨a, b, vs, us, rfl, .inr ⟨L2.sub.sqT h1', L2.sub.sqT h2, k _ [] δ2 _ H2 G2 L2 f12 (le2.trans le1) (fun σ H G δ L s c => ?_) q⟩⟩
        have g1 := L.sub.sqT (s.sqT h1')
        have g2 := L.sub.sqT (s.sqT h2)
        refine ⟨fun k z e => ?_, vs, us, g1, g2, by rw [t1.length, t2.length]; exact zipD_len⟩
        obtain ⟨x, y, e1, e2, rfl⟩ := zipD_get e
        obtain ⟨v, e3, hv⟩ := t1.get e1
        obtain ⟨w, e4, hw⟩ := t2.get e2
        refine ⟨⟨vs, us, v, w, g1, g2, e3, e4⟩, fun u H' z => ?_⟩
        obtain ⟨T, x', y', rfl, hT, rfl, z1, z2⟩ := z
        have q1 := z1 vs g1
        have q2 := z2 us g2
        rw [e3] at q1
        rw [e4] at q2
        cases q1
        cases q2
        obtain ⟨f3, s3⟩ := gr_keep (o := .tup [v, w]) L.sub hT
        exact ⟨_, f3, s3, At.tup (SqT.of upd_same) (.cons ((hv.mono (f2.sub.trans s)).mono f3.sub) (.one ((hw.mono s).mono f3.sub)))⟩
end
/-! ### a list or a tuple that is walked -/
def iAny (K : PySem.W.Frag) (t : TE) : TI := fun σ H R => iList K t σ H R ∨ iTup K t σ H R
theorem pi_any {X : Cx} {tg l : Expr} {tl : TE} (hl : PE X l tl) : PI X tg l (iAny X.K tl) := ⟨fun pins s σ H R I h => h.elim (fun h => (pi_list hl).run pins s σ H R I h) fun h => (pi_tup hl).run pins s σ H R I h⟩
def iany (T : DT) : DI := fun δ Q => ilist T δ Q ∨ itup T δ Q
theorem sndi_any {K : PySem.W.Frag} {t : TE} {T : DT} (a : Snd K t T) : SndI K (iAny K t) (iany T) := fun σ H G δ R Q3 L h k => h.elim (fun h => .inl (sndi_list a σ H G δ R Q3 L h k)) fun h => .inr (sndi_tup a σ H G δ R Q3 L h k)
theorem i_anyL {T : DT} {δ : En} {QI : List D → List (Nat × Cn) → En → Prop} (k : ilist T δ QI) : iany T δ QI := .inl k
theorem i_anyT {T : DT} {δ : En} {QI : List D → List (Nat × Cn) → En → Prop} (k : itup T δ QI) : iany T δ QI := .inr k
/-! ### steps -/
section
variable {Q : R → En → Prop} {δ : En} {T U : DT} {TA TB : DTA} {n : En → Prop} {rt : R → En → Prop} {bk ct : En → Prop}
theorem p_isC {cn : Str} (k : T δ fun r δ1 => ∃ ns ds, r.dat δ1 = some (.obj cn ns ds) ∧ Q (.va (.bl true)) δ1) : tisC cn T δ Q := k
theorem p_obj {r : R} {cn : Str} {ns : List Str} {ds : List D} {P : Prop} (e : r.dat δ = some (.obj cn ns ds)) (k : P) : ∃ ns ds, r.dat δ = some (.obj cn ns ds) ∧ P := ⟨ns, ds, e, k⟩
theorem p_fld {cn f : Str} (k : T δ fun r δ1 => ∃ ns ds d, r.dat δ1 = some (.obj cn ns ds) ∧ (ns.zip ds).lookup f = some d ∧ Q (.va d) δ1) : tfldc cn f T δ Q := k
theorem p_fld1 {r : R} {cn f : Str} {ns : List Str} {ds : List D} {d : D} {P : D → Prop} (e : r.dat δ = some (.obj cn ns ds)) (e2 : (ns.zip ds).lookup f = some d) (k : P d) : ∃ ns ds d, r.dat δ = some (.obj cn ns ds) ∧ (ns.zip ds).lookup f = some d ∧ P d := ⟨ns, ds, d, e, e2, k⟩
theorem p_meth {cn m : Str} {sp : DSp} {ms : List Bool} (k : T δ fun r δ0 => ∃ ns ds, r.dat δ0 = some (.obj cn ns ds) ∧ (ns.zip ds).lookup m = none ∧ TA δ0 fun rs δ1 => ∃ es, passes δ1 (r :: rs) ms = some es ∧ (rfs (r :: rs)).Nodup ∧ sp es fun r' es' => ∃ δ', puts δ1 (r :: rs) es' = δ' ∧ Q r' δ') : tmeth cn m sp ms T TA δ Q := by
  simp only [exists_eq_left'] at k
  unfold tmeth
  have : ∀ (r : R) rs δ1, (∃ es, passes δ1 (r :: rs) ms = some es ∧ (rfs (r :: rs)).Nodup ∧ sp es fun r' es' => Q r' (puts δ1 (r :: rs) es')) = ((rfs (r :: rs)).Nodup ∧ ∃ es, passes δ1 (r :: rs) ms = some es ∧ sp es fun r' es' => Q r' (puts δ1 (r :: rs) es')) := fun r rs δ1 => propext ⟨fun ⟨es, a, b, c⟩ => ⟨b, es, a, c⟩, fun ⟨b, es, a, c⟩ => ⟨es, a, b, c⟩⟩
  simp only [this] at k
  exact k
theorem p_meth1 {r : R} {cn m : Str} {ns : List Str} {ds : List D} {P : Prop} (e : r.dat δ = some (.obj cn ns ds)) (e2 : (ns.zip ds).lookup m = none) (k : P) : ∃ ns ds, r.dat δ = some (.obj cn ns ds) ∧ (ns.zip ds).lookup m = none ∧ P := ⟨ns, ds, e, e2, k⟩
theorem p_make {cn : Str} {sp : DSp} {ms : List Bool} (k : TA δ fun rs δ1 => ∃ es, passes δ1 (.fr (.o cn []) :: rs) (true :: ms) = some es ∧ (rfs rs).Nodup ∧ sp es fun r es' => r = .va .non ∧ ∃ cn' fs es'', es' = .ow (.o cn' fs) :: es'' ∧ ∃ δ', puts δ1 rs es'' = δ' ∧ Q (.fr (.o cn' fs)) δ') : tmake cn sp ms TA δ Q := by
  simp only [exists_eq_left'] at k
  unfold tmake
  have : ∀ (rs : List R) δ1 (P : En → Prop), (∃ es, passes δ1 (.fr (.o cn []) :: rs) (true :: ms) = some es ∧ (rfs rs).Nodup ∧ P es) = ((rfs rs).Nodup ∧ ∃ es, passes δ1 (.fr (.o cn []) :: rs) (true :: ms) = some es ∧ P es) := fun rs δ1 P => propext ⟨fun ⟨es, a, b, c⟩ => ⟨b, es, a, c⟩, fun ⟨b, es, a, c⟩ => ⟨es, a, b, c⟩⟩
  simp only [this] at k
  exact k
theorem p_pass0 {rs rs' : List R} {ms : List Bool} {es : En} {P : En → Prop} (e : passes δ rs ms = some es) (h : (rfs rs').Nodup) (k : P es) : ∃ es, passes δ rs ms = some es ∧ (rfs rs').Nodup ∧ P es := ⟨es, e, h, k⟩
theorem p_listm {cn m : Str} {sp : GSp} (k : T δ fun r δ1 => ∃ ns xs, r = .va (.obj cn ns xs) ∧ (ns.zip xs).lookup m = none ∧ sp [.va (.obj cn ns xs)] fun ds => Q (.fr (.l ds)) δ1) : tlistm cn m sp T δ Q := k
theorem p_listm1 {cn m : Str} {ns : List Str} {xs : List D} {P : List Str → List D → Prop} (e2 : (ns.zip xs).lookup m = none) (k : P ns xs) : ∃ ns' xs', R.va (.obj cn ns xs) = .va (.obj cn ns' xs') ∧ (ns'.zip xs').lookup m = none ∧ P ns' xs' := ⟨ns, xs, rfl, e2, k⟩
theorem p_callP {sp : DSp} {ms : List Bool} {np nk : Nat} {is : List Nat} (k : TA δ fun rs δ1 => rs.length = np ∧ TB δ1 fun us δ2 => us.length = nk ∧ ∃ es, passes δ2 (pk is (rs ++ us)) ms = some es ∧ (rfs (pk is (rs ++ us))).Nodup ∧ sp es fun r es' => ∃ δ', puts δ2 (pk is (rs ++ us)) es' = δ' ∧ Q r δ') : tcallP sp ms np nk is TA TB δ Q := k
theorem p_setf {cn f : Str} (k : U δ fun r δ1 => T δ1 fun ro δ2 => ∃ i fs d, ro = .rf i ∧ δ2[i]? = some (E.ow (.o cn fs)) ∧ r.still δ2 = some d ∧ (∀ j, r ≠ .rf j) ∧ fs.length < 1000 ∧ ∃ δ', δ2.set i (.ow (.o cn (putFD f d fs))) = δ' ∧ n δ') : ssetf cn f T U ⟨n, rt, bk, ct⟩ δ := k
theorem p_self {r : R} {cn : Str} {i : Nat} {fs : List (Str × D)} {d : D} {P : Nat → List (Str × D) → D → Prop} (e : δ[i]? = some (E.ow (.o cn fs))) (e2 : r.still δ = some d) (h : ∀ j, r ≠ .rf j) (hl : fs.length < 1000) (k : P i fs d) :
    ∃ i' fs d, R.rf i = .rf i' ∧ δ[i']? = some (E.ow (.o cn fs)) ∧ r.still δ = some d ∧ (∀ j, r ≠ .rf j) ∧ fs.length < 1000 ∧ P i' fs d := ⟨i, fs, d, rfl, e, e2, h, hl, k⟩
theorem i_zipA {QI : List D → List (Nat × Cn) → En → Prop} (k : T δ fun r δ1 => U δ1 fun u δ2 => (∃ xs cs ys cs', srcL δ2 r = some (xs, cs) ∧ srcL δ2 u = some (ys, cs') ∧ QI (zipD xs ys) (cs ++ cs') δ2) ∨ ∃ xs ys, r = .va (.tup xs) ∧ u = .va (.tup ys) ∧ QI (zipD xs ys) [] δ2) : izipA T U δ QI := k
theorem i_zl {r u : R} {xs ys : List D} {cs cs' : List (Nat × Cn)} {P : List D → List (Nat × Cn) → List D → List (Nat × Cn) → Prop} {B : Prop} (e : srcL δ r = some (xs, cs)) (e2 : srcL δ u = some (ys, cs')) (k : P xs cs ys cs') : (∃ xs cs ys cs', srcL δ r = some (xs, cs) ∧ srcL δ u = some (ys, cs') ∧ P xs cs ys cs') ∨ B := .inl ⟨xs, cs, ys, cs', e, e2, k⟩
theorem i_zt {xs ys : List D} {P : List D → List D → Prop} {B : Prop} (k : P xs ys) : B ∨ ∃ xs' ys', R.va (.tup xs) = .va (.tup xs') ∧ R.va (.tup ys) = .va (.tup ys') ∧ P xs' ys' := .inr ⟨xs, ys, rfl, rfl, k⟩
theorem e_tcount (k : T δ fun ro δ1 => ∃ xs0, ro.dat δ1 = some (.lst xs0) ∧ U δ1 fun r δ2 => ∃ (ns : List Int) (n : Int), ro.dat δ2 = some (.lst (ns.map D.int)) ∧ r = .va (.int n) ∧ Q (.va (.int (ns.count n : Nat))) δ2) : tcount T U δ Q := k
theorem e_tindex (k : T δ fun ro δ1 => ∃ xs0, ro.dat δ1 = some (.lst xs0) ∧ U δ1 fun r δ2 => ∃ xs d p ps j z, ro.dat δ2 = some (.lst xs) ∧ r.dat δ2 = some d ∧ d.py = some p ∧ D.pys xs = some ps ∧ SeqAt.shaped (.list ps) = true ∧ SeqAt.shaped p = true ∧ ps[j]? = some z ∧ PyData.eqv z p = true ∧
  (∀ (m : Nat) z', m < j → ps[m]? = some z' → PyData.eqv z' p = false) ∧ Q (.va (.int (j : Nat))) δ2) : tindex T U δ Q := k
theorem c_len {xs : List R} {m : Nat} {P : Prop} (h : xs.length = m) (k : P) : xs.length = m ∧ P := ⟨h, k⟩
theorem c_pass {is : List Nat} {ms : List Bool} {rs rs' : List R} {sp : DSp} (e : pk is rs = rs') (k : ∃ es, passes δ rs' ms = some es ∧ (rfs rs').Nodup ∧ sp es fun r es' => ∃ δ', puts δ rs' es' = δ' ∧ Q r δ') : ∃ es, passes δ (pk is rs) ms = some es ∧ (rfs (pk is rs)).Nodup ∧ sp es fun r es' => ∃ δ', puts δ (pk is rs) es' = δ' ∧ Q r δ' := by
  subst e
  exact k
theorem c_x0 {ro : R} {xs : List D} {P : Prop} (h : ro.dat δ = some (.lst xs)) (k : P) : ∃ xs0, ro.dat δ = some (.lst xs0) ∧ P := ⟨xs, h, k⟩
theorem d_new (k : Q (.fr (.d [])) δ) : tdnew δ Q := k
theorem d_in (k : T δ fun y δ1 => U δ1 fun x δ2 => ∃ d k kvs, y.dat δ2 = some d ∧ keyD d = some k ∧ x.dct δ2 = some kvs ∧ Q (.va (.bl (valD kvs k).isSome)) δ2) : tdin T U δ Q := k
theorem d_nin (k : T δ fun y δ1 => U δ1 fun x δ2 => ∃ d k kvs, y.dat δ2 = some d ∧ keyD d = some k ∧ x.dct δ2 = some kvs ∧ Q (.va (.bl (!(valD kvs k).isSome))) δ2) : tdnotin T U δ Q := k
theorem d_get (k : T δ fun x δ1 => U δ1 fun y δ2 => ∃ d k kvs z, y.dat δ2 = some d ∧ keyD d = some k ∧ x.dct δ2 = some kvs ∧ valD kvs k = some z ∧ Q (.va z) δ2) : tdget T U δ Q := k
theorem d_put {V : DT} (k : V δ fun r δ1 => T δ1 fun x δ2 => U δ2 fun y δ3 => ∃ i kvs d k z, x = .rf i ∧ δ3[i]? = some (E.ow (.d kvs)) ∧ y.dat δ3 = some d ∧ keyD d = some k ∧ r = .va z ∧ kvs.length < sizeLine ∧ ∃ δ', δ3.set i (.ow (.d (putD kvs k z))) = δ' ∧ n δ') : sdput T U V ⟨n, rt, bk, ct⟩ δ := by
  simp only [exists_eq_left'] at k
  exact k
theorem e_tjoin (k : T δ fun ro δ1 => ∃ a, ro = .va (.str a) ∧ U δ1 fun r δ2 => ∃ ys : List Str, (r.dat δ2 = some (.lst (ys.map D.str)) ∨ r.dat δ2 = some (.tup (ys.map D.str))) ∧ (ys.map (·.length)).sum + ys.length * a.length ≤ 16777216 ∧ Q (.va (.str (Txt.join a ys))) δ2) : tjoin T U δ Q := k
theorem p_join0 {a : Str} {P : Str → Prop} (k : P a) : ∃ a', R.va (.str a) = .va (.str a') ∧ P a' := ⟨a, rfl, k⟩
end
theorem lt_put {f : Str} {d : D} : ∀ {fs : List (Str × D)} {k : Nat}, fs.length < k → (putFD f d fs).length < k + 1
  | [], k, h => by simp [putFD]; omega
  | (g, x) :: r, k, h => by
    unfold putFD
    split
    · simp at h ⊢; omega
    · simp at h ⊢
      have := lt_put (f := f) (d := d) (fs := r) (k := k - 1) (by omega)
      omega
end L3
/-! L3, part U: enumerate of a tuple. -/
namespace L3
open PySem PySem.Spec PyProof.Rows L2
theorem meets_enum1 {v : Value} {o : Obj} {H : Heap → Prop} (B : Begins v o H) :
    Meets (Builtin.«enumerate.__new__» ⟨[.type "enumerate", v], []⟩) (fun _ R s => H s.heap ∧
      R (.ok (.ret (.ref (s.heap.push o).objs.size))) { s with heap := (s.heap.push o).push { cls := .type "enumerate", data := .fields #[.none, .bool false, .ref s.heap.objs.size, rawInt 0, .none, .none] } }) :=
  .of_wp fun prog w A R s h => by
    obtain ⟨hp, g, d, tk, os⟩ := s; obtain ⟨h1, h⟩ := h
    have hsub := sub_enumerate
    have q1 : ∀ {A' : Around} {E : Value → Shared → Prop} {Q : Value → Shared → Prop}, Q (.ref hp.objs.size) ⟨hp.push o, g, d, tk, os⟩ → wpAny (model prog w) A' (pyIter v) Q E ⟨hp, g, d, tk, os⟩ :=
      fun q => B.iter prog w _ _ ⟨hp, g, d, tk, os⟩ _ h1 q
    wp_walk using q1
    refine wpAny_stack_any fun st => wpAny_pure ?_
    split
    · rename_i c _ _ _ _ _
      cases (c == Value.type "enumerate")
      · wp_walk using q1
        exact ⟨_, rfl, h⟩
      · wp_walk using q1
        exact ⟨_, rfl, h⟩
    · wp_walk using q1
      exact ⟨_, rfl, h⟩
section
variable {prog : Program} {w : World} {A : Around} {E : Value → Shared → Prop} {s : Shared}
theorem enum_begin1 {v : Value} {o : Obj} {H : Heap → Prop} {Q : Value → Shared → Prop} (B : Begins v o H) (h1 : H s.heap)
    (h : ∀ h', IsEnum h' (s.heap.objs.size + 1) s.heap.objs.size 0 .none → h'.get? s.heap.objs.size = some o → h'.objs.size = s.heap.objs.size + 2 →
      (∀ b o, s.heap.get? b = some o → h'.get? b = some o) → Q (.ref (s.heap.objs.size + 1)) { s with heap := h' }) :
    wpAny (model prog w) A (call (.type "enumerate") [v]) Q E s := by
  refine callType_new F.called_enumerate (by decide) (F.typeCall_enumerate_1 _) (F.newCall_enumerate_1 _) (fun obj => F.args_object_init_2 obj _) F.entry_enumerate_new
    (meets_enum1 B) ⟨h1, ?_⟩
  have hz : (s.heap.push o).objs.size = s.heap.objs.size + 1 := Heap.size_push ..
  show _ ∧ _
  rw [hz]
  have he : IsEnum ((s.heap.push o).push { cls := .type "enumerate", data := .fields #[.none, .bool false, .ref s.heap.objs.size, rawInt 0, .none, .none] }) (s.heap.objs.size + 1) s.heap.objs.size 0 .none := by
    have := Heap.get?_push_size (s.heap.push o) (o := { cls := .type "enumerate", data := .fields #[.none, .bool false, .ref s.heap.objs.size, rawInt 0, .none, .none] }) rfl
    rw [hz] at this; exact this
  exact ⟨⟨_, he, rfl⟩, h _ he (Heap.get?_push_of_some _ (Heap.get?_push_size _ B.free)) (by rw [Heap.size_push, hz]) fun b o x => Heap.get?_push_of_some _ (Heap.get?_push_of_some _ x)⟩
end
/-- the tuple at a as it stands at each turn, each item in a new pair -/
def IteT (K : PySem.W.Frag) (a : Addr) : It :=
  ⟨fun i H => ∃ (xs : List V) (x : V), SqT K H a xs ∧ xs[i]? = some x, fun i H v H' => ∃ T x, v = .ref T ∧ H T = none ∧ H' = upd H T (.tup [.int (i : Nat), x]) ∧ ∀ xs, SqT K H a xs → xs[i]? = some x, fun i H => ∃ xs : List V, SqT K H a xs ∧ xs.length = i⟩
theorem turn_enumT {P : Program} {w : World} {K : PySem.W.Frag} {elts : List Expr} {kk : Nat} {tpos : Pos} (a e it : Addr) :
    Turn P w K (.Tuple elts kk tpos) (IteT K a) [e, it] e (fun i h => (∃ old, IsEnum h e it ((i : Nat) : Int) old) ∧ h.IsTupleIter it a i ∧ e ≠ it ∧ a ≠ it ∧ a ≠ e) where
  mem := by simp
  obj := fun i h st b hb => by
    obtain ⟨⟨old, he⟩, ⟨o, ho, hc, hd⟩, _⟩ := st
    have e' : b = e ∨ b = it := by simpa using hb
    rcases e' with z | z
    · rw [z]; exact ⟨_, he, fun v q => nomatch q⟩
    · rw [z]; exact ⟨o, ho, fun v q => by rw [hd] at q; cases q⟩
  keep := fun i h h' st k => let ⟨⟨old, he⟩, hi, hne⟩ := st; ⟨⟨old, k e (by simp) _ he⟩, hi.at fun o q => k it (by simp) o q, hne⟩
  item := by
    intro X hP hw hK hc i pins s σ H E I hf st hg
    subst hP hw hK
    obtain ⟨⟨old, he⟩, hit, hne, hai, hae⟩ := st
    obtain ⟨xs, x, hq, hx⟩ := hg
    obtain ⟨its, rv, p, hz⟩ := I.tuple hq
    obtain ⟨u, hu, ru⟩ := rv.get hx
    have hel : e < s.heap.objs.size := Heap.lt_size he
    have hil : it < s.heap.objs.size := by obtain ⟨_, q, _⟩ := hit; exact Heap.lt_size q
    have hlt : i < its.toArray.size := by
      have := (List.getElem?_eq_some_iff.mp hu).1
      simpa using this
    have D := Draws.tuple (prog := X.prog) (w := X.w) (A := X.A.in1) (I.ok.hd hc) it a hai its.toArray
    refine wpAny_pyNext_enum_itemD D he ⟨hit, (show s.heap.IsTuple a its.toArray from p)⟩ hlt hne (fun z => by
      rcases List.mem_cons.mp z with z | z
      · exact hne z
      · exact hae (List.mem_singleton.mp z).symm) fun u' h' tk hu' ho hst hT hsz hk => ?_
    obtain ⟨hit', _⟩ := hst
    have eu : u' = u := by
      have h1 : its[i]? = some u' := by simpa using hu'
      rw [hu] at h1
      exact (Option.some.inj h1).symm
    subst eu
    refine ⟨_, rfl, wpAny_letOwnedTupleGo_enum (s := { s with heap := h', toks := tk + 1 }) ho fun h'' he' sb => ?_⟩
    have hT2 : h''.get? s.heap.objs.size = some { cls := .type "tuple", data := .seq #[.int i tk, u'] } := (sb.2 _ (Nat.ne_of_gt hel)).trans hT
    have new : ObjOk X.prog X.w (upd H s.heap.objs.size (.tup [.int (i : Nat), x])) h'' s.heap.objs.size (.tup [.int (i : Nat), x]) :=
      ⟨by show 2 ≤ sizeLine; decide, [.int i tk, u'], .cons ⟨_, rfl⟩ (.cons ru .nil), ⟨_, hT2, rfl, _, rfl⟩⟩
    have I1 : Inv X pins σ (upd H s.heap.objs.size (.tup [.int (i : Nat), x])) { s with heap := h'', toks := tk + 1 } :=
      I.turnedNew (ch := [e, it]) (fun b ob hb q => (sb.2 b (fun z => hb (by simp [z]))).trans (hk b ob (fun z => hb (by simp [z])) (fun z => hb (by simp [z])) q)) hf (Nat.le_refl _) new
    refine ⟨.ref s.heap.objs.size, _, I1, rfl, ⟨_, x, rfl, I.hok.fresh (Nat.le_refl _), rfl, fun ys hy => by rw [I.tuple_inj hy hq]; exact hx⟩, ⟨⟨u', ?_⟩, hit'.at fun o q => (sb.2 it (Ne.symm hne)).trans q, hne, hai, hae⟩, fun b hb => ?_⟩
    · have e1 : ((i + 1 : Nat) : Int) = (i : Int) + 1 := by omega
      rw [e1]; exact he'
    · have hb' : b < s.heap.objs.size := by
        have e' : b = e ∨ b = it := by simpa using hb
        rcases e' with z | z
        · rw [z]; exact hel
        · rw [z]; exact hil
      rw [upd_ne (Nat.ne_of_lt hb')]
      exact (hf b hb).1
  done := by
    intro X hP hw hK hc i pins s σ H E I hf st hg
    subst hP hw hK
    obtain ⟨⟨old, he⟩, hit, hne, hai, hae⟩ := st
    obtain ⟨xs, hq, hx⟩ := hg
    obtain ⟨its, rv, p, hz⟩ := I.tuple hq
    obtain ⟨f0, f1, f2, f3, f4, f5⟩ := hf it (by simp)
    have hl := rv.length
    have hi : i = its.toArray.size := by simp; omega
    subst hi
    have D := Draws.tuple (prog := X.prog) (w := X.w) (A := X.A.in1) (I.ok.hd hc) it a hai its.toArray
    exact wpAny_pyNext_enum_endD D he ⟨hit, (show s.heap.IsTuple a its.toArray from p)⟩ fun h' eb => ⟨rfl, I.turned (t' := s.toks) (fun b o hb q => eb b o hb q) f0 f1 f3 f4 f5⟩
  self := fun A i s Q E st h => let ⟨⟨_, he⟩, _⟩ := st; wpAny_pyIter_enum he h
def iEnumA (K : PySem.W.Frag) (ta : TA) : TI := fun σ H R => ta σ H fun vs H1 => ∃ a xs, vs = [.ref a] ∧ ((SqL K H1 a xs ∧ R (Ite K a) H1) ∨ (SqT K H1 a xs ∧ R (IteT K a) H1))
theorem pi_enumA {X : Cx} {e : Expr} {ta : TA} {p pos tpos : Pos} {elts : List Expr} {kk : Nat} (hg : Gl X "enumerate") (hm : X.mg "enumerate" = none) (ha : PA X [e] ta) (hs : starEach [e] X.env = [(false, eval e X.env)] := by rfl) :
    PI X (.Tuple elts kk tpos) (.Call (.Name "enumerate" p) [e] [] pos) (iEnumA X.K ta) := by
  refine ⟨fun pins s σ H R I h => ?_⟩
  refine Call_ (ld_blt I hg hm boot_enumerate (PyProof.Rows.callWith_type1 (thn (ha.run pos pins s σ H _ I h) fun us s1 ⟨vs, H1, I1, r1, q1⟩ => ?_) hs rfl))
  obtain ⟨a, xs, ex, q⟩ := q1
  subst ex
  cases r1 with
  | cons r rr =>
    cases rr
    cases r
    rcases q with ⟨hq, q⟩ | ⟨hq, q⟩
    · obtain ⟨its, rv, p', hz⟩ := I1.list hq
      refine call_enumerate_list p'.isList fun h' he hit hsz hk => wpAny_pyIter_enum he ?_
      have I2 : Inv X pins σ H1 { s1 with heap := h' } := I1.kept (t' := s1.toks) hk
      refine ⟨s1.heap.objs.size + 1, [s1.heap.objs.size + 1, s1.heap.objs.size], _, _, H1, rfl, I2, turn_enum a (s1.heap.objs.size + 1) s1.heap.objs.size, ⟨⟨.none, he⟩, hit, Nat.succ_ne_self _⟩, fun b hb => ?_, q⟩
      have e' : b = s1.heap.objs.size + 1 ∨ b = s1.heap.objs.size := by simpa using hb
      have hle : s1.heap.objs.size ≤ b := by
        rcases e' with z | z
        · rw [z]; exact Nat.le_add_right _ _
        · rw [z]; exact Nat.le_refl _
      exact I1.fpOk hle (I1.hok.fresh hle)
    · obtain ⟨its, rv, p', hz⟩ := I1.tuple hq
      have hlt : a < s1.heap.objs.size := by
        obtain ⟨o, eo, _⟩ := p'
        exact Heap.lt_size eo
      refine enum_begin1 (begins_tuple a its.toArray) (show s1.heap.IsTuple a its.toArray from p') fun h' he hit hsz hk => wpAny_pyIter_enum he ?_
      have I2 : Inv X pins σ H1 { s1 with heap := h' } := I1.kept (t' := s1.toks) hk
      refine ⟨s1.heap.objs.size + 1, [s1.heap.objs.size + 1, s1.heap.objs.size], _, _, H1, rfl, I2, turn_enumT a (s1.heap.objs.size + 1) s1.heap.objs.size, ⟨⟨.none, he⟩, ⟨_, hit, rfl, rfl⟩, Nat.succ_ne_self _, Nat.ne_of_lt hlt, Nat.ne_of_lt (Nat.lt_succ_of_lt hlt)⟩, fun b hb => ?_, q⟩
      have e' : b = s1.heap.objs.size + 1 ∨ b = s1.heap.objs.size := by simpa using hb
      have hle : s1.heap.objs.size ≤ b := by
        rcases e' with z | z
        · rw [z]; exact Nat.le_add_right _ _
        · rw [z]; exact Nat.le_refl _
      exact I1.fpOk hle (I1.hok.fresh hle)
def ienumA (T : DT) : DI := fun δ Q => T δ fun r δ1 => (∃ xs cs, srcL δ1 r = some (xs, cs) ∧ Q (enumD 0 xs) cs δ1) ∨ ∃ xs, r = .va (.tup xs) ∧ Q (enumD 0 xs) [] δ1
theorem sndi_enumA {K : PySem.W.Frag} {t : TE} {T : DT} (a : Snd K t T) : SndI K (iEnumA K (tCons t tNil)) (ienumA T) := fun σ H G δ R Q3 L h k => by
  refine a σ H G δ _ _ L h fun r δ1 v H1 G1 L1 f1 le1 rr q => ?_
  rcases q with ⟨xs, cs, e, q⟩ | ⟨xs, rfl, q⟩
  · obtain ⟨a, G2, rfl, L2, f2, s2, la, ⟨vs0, ex⟩, _⟩ := srcL_at L L1 f1 le1 rr e
    refine ⟨a, vs0, rfl, .inl ⟨ex, k _ cs δ1 _ H1 G2 L2 f2 le1 (fun σ H G δ L s c => ?_) q⟩⟩
    obtain ⟨vs, h1, t1⟩ := la σ H G δ L s c
    refine ⟨fun k x e => ?_, vs, h1, by rw [enumD_len, t1.length]; exact Nat.le_refl _⟩
    obtain ⟨y, e1, rfl⟩ := enumD_get e
    obtain ⟨v, e2, hv⟩ := t1.get e1
    refine ⟨⟨vs, v, h1, e2⟩, fun u H' z => ?_⟩
    obtain ⟨T, x, rfl, hT, rfl, z⟩ := z
    have := z vs h1
    rw [e2] at this
    cases this
    obtain ⟨f3, s3⟩ := gr_keep (o := .tup [V.int (k : Nat), v]) L.sub hT
    refine ⟨_, f3, s3, At.tup (SqT.of upd_same) (.cons ?_ (.one (hv.mono f3.sub)))⟩
    rw [Nat.zero_add]
    exact .int _
  · cases (show At K G1 v (.tup xs) from rr) with
    | @tup a vs _ h0 t1 =>
      refine ⟨a, vs, rfl, .inr ⟨L1.sub.sqT h0, k _ [] δ1 _ H1 G1 L1 f1 le1 (fun σ H G δ L s c => ?_) q⟩⟩
      have h1 := L.sub.sqT (s.sqT h0)
      refine ⟨fun k x e => ?_, vs, h1, by rw [enumD_len, t1.length]⟩
      obtain ⟨y, e1, rfl⟩ := enumD_get e
      obtain ⟨v, e2, hv⟩ := t1.get e1
      refine ⟨⟨vs, v, h1, e2⟩, fun u H' z => ?_⟩
      obtain ⟨T, x, rfl, hT, rfl, z⟩ := z
      have := z vs h1
      rw [e2] at this
      cases this
      obtain ⟨f3, s3⟩ := gr_keep (o := .tup [V.int (k : Nat), v]) L.sub hT
      refine ⟨_, f3, s3, At.tup (SqT.of upd_same) (.cons ?_ (.one ((hv.mono s).mono f3.sub)))⟩
      rw [Nat.zero_add]
      exact .int _
section
variable {δ : En} {T : DT} {QI : List D → List (Nat × Cn) → En → Prop}
theorem i_enumA (k : T δ fun r δ1 => (∃ xs cs, srcL δ1 r = some (xs, cs) ∧ QI (enumD 0 xs) cs δ1) ∨ ∃ xs, r = .va (.tup xs) ∧ QI (enumD 0 xs) [] δ1) : ienumA T δ QI := k
theorem i_el {r : R} {xs : List D} {cs : List (Nat × Cn)} {P : List D → List (Nat × Cn) → Prop} {B : Prop} (e : srcL δ r = some (xs, cs)) (k : P xs cs) : (∃ xs cs, srcL δ r = some (xs, cs) ∧ P xs cs) ∨ B := .inl ⟨xs, cs, e, k⟩
theorem i_et {xs : List D} {P : List D → Prop} {B : Prop} (k : P xs) : B ∨ ∃ xs', R.va (.tup xs) = .va (.tup xs') ∧ P xs' := .inr ⟨xs, rfl, k⟩
end
end L3
/-! L3, part Q: nets and plans as data. -/
namespace L3
open PySem PySem.Spec PyProof.Rows L2
abbrev Row := List (Int × Int)
abbrev Net := List Row
def pairD (p : Int × Int) : D := .tup [.int p.1, .int p.2]
def rowD (r : Row) : D := .lst (r.map pairD)
def netD (n : Net) : D := .lst (n.map rowD)
def strsT (ls : List Str) : D := .tup (ls.map D.str)
def planF (ls : List Str) (size : Nat) (n : Net) : List (Str × D) := [("sides", strsT ls), ("copies", .int size), ("_steps", netD n)]
def planD (ls : List Str) (size : Nat) (n : Net) : D := .obj "Plan" ["sides", "copies", "_steps"] [strsT ls, .int size, netD n]
structure GoodRow (size : Nat) (r : Row) : Prop where
  len : r.length = size
  ok : ∀ x : Nat, x < size → ∃ (y : Nat) (s : Int), r[x]? = some ((y : Int), s) ∧ y < size ∧ (s = 1 ∨ s = -1) ∧ r[y]? = some ((x : Int), s)
structure GoodNet (many size : Nat) (n : Net) : Prop where
  len : n.length = many
  m0 : 0 < many
  m1 : many ≤ 8
  s0 : 0 < size
  s1 : size ≤ 1000
  row : ∀ r ∈ n, GoodRow size r
def letters : Str := "abcdefghijklmnopqrstuvwxyz"
structure GoodName (x : Str) : Prop where
  l0 : 1 ≤ x.length
  l1 : x.length ≤ 3
  ok : ∀ c ∈ x.cps.toList, c ∈ letters.cps.toList
structure GoodSides (ls : List Str) : Prop where
  m0 : 0 < ls.length
  m1 : ls.length ≤ 8
  nd : ls.Nodup
  ok : ∀ x ∈ ls, GoodName x
/-- a bag: the numbers, how many are used, the rest of a great one, the mixed number, how often was drawn -/
def bagD (ns : List Int) (i r m c : Int) : List D := [.lst (ns.map D.int), .int i, .int r, .int m, .int c]
def IsBag (xs : List D) : Prop := ∃ (ns : List Int) (i r m c : Int), xs = bagD ns i r m c ∧ ns.length ≤ 63 ∧ 0 ≤ i ∧ 0 ≤ r ∧ 0 ≤ m ∧ m < 2147483629
theorem GoodNet.get {many size : Nat} {n : Net} (h : GoodNet many size n) {i : Nat} (hi : i < many) : ∃ r, n[i]? = some r ∧ GoodRow size r := by
  have : i < n.length := by rw [h.len]; exact hi
  exact ⟨n[i], List.getElem?_eq_getElem this, h.row _ (List.getElem_mem this)⟩
theorem map_at {α β : Type} {f : α → β} {xs : List α} {i : Int} {x : α} (h0 : 0 ≤ i) (h : xs[i.toNat]? = some x) : L2.atI (xs.map f) i = some (f x) := atI_get h0 (by rw [List.getElem?_map, h]; rfl)
theorem map_ix {α β : Type} {f : α → β} {xs : List α} {i : Int} (h0 : 0 ≤ i) (h : i < (xs.length : Int)) : ixN (xs.map f).length i = some i.toNat := by
  unfold ixN
  rw [List.length_map, if_pos h0, if_pos h]
theorem map_some {α β : Type} {f : α → β} {xs : List α} {k : Nat} {y : β} (h : (xs.map f)[k]? = some y) : ∃ x, xs[k]? = some x ∧ y = f x := by
  rw [List.getElem?_map] at h
  obtain ⟨x, h1, h2⟩ := Option.map_eq_some_iff.mp h
  exact ⟨x, h1, h2.symm⟩
theorem f_allT {q : R → Prop} {n : Nat} (k : q (.va (.bl true))) : allF [.lst ((List.range n).map fun _ => D.bl true)] q := by
  refine ⟨List.replicate n true, by rw [List.map_replicate]; refine List.eq_replicate_iff.mpr ⟨by simp, fun b hb => ?_⟩; obtain ⟨_, _, e⟩ := List.mem_map.mp hb; exact e.symm, ?_⟩
  have : (List.replicate n true).all id = true := by simp
  rw [this]
  exact k
theorem occ_letters : ∀ c ∈ letters.cps.toList, (!(Builtin.Str.occurrences letters ⟨#[c]⟩ 0 letters.length 1).isEmpty) = true := by decide +kernel
theorem vd_none {kvs : List (Key × D)} {k : Key} (h : ∀ p ∈ kvs, p.1 ≠ k) : valD kvs k = none := by
  unfold valD
  rw [List.find?_eq_none.mpr fun p hp => by simpa using h p hp]
  rfl
theorem pd_new {kvs : List (Key × D)} {k : Key} {v : D} (h : ∀ p ∈ kvs, p.1 ≠ k) : putD kvs k v = kvs ++ [(k, v)] := by
  unfold putD
  rw [if_neg]
  intro z
  obtain ⟨p, hp, e⟩ := List.any_eq_true.mp z
  exact h p hp (by simpa using e)
theorem f_inS {q : R → Prop} {a b : Str} {v : Bool} (h : (!(Builtin.Str.occurrences b a 0 b.length 1).isEmpty) = v) (k : q (.va (.bl v))) : bF inF (.str a) (.str b) q := by
  subst h
  exact k
theorem map_range_getD {α β : Type} {f : α → β} {xs : List α} {d : α} : (List.range xs.length).map (fun j => f (xs.getD j d)) = xs.map f := by
  refine List.ext_getElem? fun i => ?_
  rw [List.getElem?_map, List.getElem?_map]
  by_cases h : i < xs.length
  · rw [List.getElem?_range h, List.getElem?_eq_getElem h]
    simp [List.getD_eq_getElem?_getD, List.getElem?_eq_getElem h]
  · rw [List.getElem?_eq_none (by simpa using h), List.getElem?_eq_none (by simpa using h)]
    rfl
/-! generators -/
section
variable {nx : List D → En → Prop} {rt : List D → Prop} {bk ct : List D → En → Prop} {ds : List D} {δ : En}
theorem g_seq {S S2 : DGn} (k : S ⟨S2 ⟨nx, rt, bk, ct⟩, rt, bk, ct⟩ ds δ) : gseq S S2 ⟨nx, rt, bk, ct⟩ ds δ := k
theorem g_yield {T : DT} (h : ds.length < sizeLine) (k : T δ fun r δ1 => ∃ d, r.still δ1 = some d ∧ nx (ds ++ [d]) δ1) : gyield T ⟨nx, rt, bk, ct⟩ ds δ := ⟨h, k⟩
def GForK (as : List Nat) (Gd : DG) (B : DGn) (Z : DGE) (ds : List D) (items : List D) (cs : List (Nat × Cn)) (δ1 : En) : Prop := (∀ p ∈ cs, p.1 ∉ as) ∧ ∃ I : Nat → List D → En → Prop, I 0 ds δ1 ∧ (∀ k ds δ, I k ds δ → ∀ p ∈ cs, δ[p.1]? = some (E.ow p.2)) ∧
  (∀ k x ds δ, items[k]? = some x → I k ds δ → Gd x δ fun δ' => B ⟨I (k + 1), Z.rt, Z.nx, I (k + 1)⟩ ds δ') ∧ (∀ ds δ, I items.length ds δ → Z.nx ds δ)
theorem g_for {as : List Nat} {SI : DI} {Gd : DG} {B : DGn} (k : SI δ fun items cs δ1 => GForK as Gd B ⟨nx, rt, bk, ct⟩ ds items cs δ1) : gfor as SI Gd B ⟨nx, rt, bk, ct⟩ ds δ := k
theorem gfor_by {as : List Nat} {Gd : DG} {B : DGn} {items : List D} {cs : List (Nat × Cn)} (I : Nat → List D → En → Prop) (h0 : I 0 ds δ) (hcs : ∀ p ∈ cs, p.1 ∉ as) (hi : ∀ k ds δ, I k ds δ → ∀ p ∈ cs, δ[p.1]? = some (E.ow p.2))
    (ht : ∀ k x ds δ, items[k]? = some x → I k ds δ → Gd x δ fun δ' => B ⟨I (k + 1), rt, nx, I (k + 1)⟩ ds δ') (he : ∀ ds δ, I items.length ds δ → nx ds δ) : GForK as Gd B ⟨nx, rt, bk, ct⟩ ds items cs δ := ⟨hcs, I, h0, hi, ht, he⟩
end
theorem m_end2 {δ δ5 : En} {f : Nat → D} {k : Nat} {d : D} (hk : k < sizeLine) (hb : δ5 = δ) (h : d = f k) : ((List.range k).map f).length < sizeLine ∧ (δ5 = δ ∧ (List.range k).map f ++ [d] = (List.range (k + 1)).map f) :=
  ⟨by simpa using hk, hb, by rw [List.range_succ, List.map_append, h]; rfl⟩
theorem rowD_eq (r : Row) : rowD r = .lst (r.map pairD) := rfl
theorem netD_eq (n : Net) : netD n = .lst (n.map rowD) := rfl
structure Naming (size : Nat) (ns : List Int) : Prop where
  len : ns.length = size
  nd : ns.Nodup
  ok : ∀ x ∈ ns, 0 ≤ x ∧ x < (size : Int)
def quads1 (k : Nat) : Nat → Row → List D
  | _, [] => []
  | x, p :: r => .tup [.int (k : Nat), .int (x : Nat), .int p.1, .int p.2] :: quads1 k (x + 1) r
def quads : Nat → Net → List D
  | _, [] => []
  | k, r :: n => quads1 k 0 r ++ quads (k + 1) n
theorem quads1_len : ∀ {k x : Nat} {r : Row}, (quads1 k x r).length = r.length
  | _, _, [] => rfl
  | k, x, p :: r => by rw [quads1, List.length_cons, List.length_cons, quads1_len]
theorem quads1_snoc : ∀ {k x : Nat} {r : Row} {p : Int × Int}, quads1 k x (r ++ [p]) = quads1 k x r ++ [.tup [.int (k : Nat), .int ((x + r.length : Nat) : Nat), .int p.1, .int p.2]]
  | _, _, [], p => rfl
  | k, x, q :: r, p => by
    rw [List.cons_append, quads1, quads1, quads1_snoc, List.cons_append, List.length_cons, show x + 1 + r.length = x + (r.length + 1) by omega]
theorem quads_snoc : ∀ {k : Nat} {n : Net} {r : Row}, quads k (n ++ [r]) = quads k n ++ quads1 (k + n.length) 0 r
  | _, [], r => by simp [quads]
  | k, q :: n, r => by
    rw [List.cons_append, quads, quads, quads_snoc, List.append_assoc, List.length_cons, show k + 1 + n.length = k + (n.length + 1) by omega]
theorem quads_len {size : Nat} : ∀ {k : Nat} {n : Net}, (∀ r ∈ n, r.length = size) → (quads k n).length = n.length * size
  | _, [], _ => by simp [quads]
  | k, r :: n, h => by
    rw [quads, List.length_append, quads1_len, quads_len fun r hr => h r (List.mem_cons_of_mem _ hr), h r List.mem_cons_self, List.length_cons, Nat.add_mul]
    omega
inductive Lk : Nat → D → Prop
  | non {n : Nat} : Lk n .non
  | bl {n : Nat} (b : Bool) : Lk n (.bl b)
  | int {n : Nat} (i : Int) : Lk n (.int i)
  | str {n : Nat} (x : Str) (h : x.cps.all (· < 0x110000) = true) : Lk n (.str x)
  | lst {n : Nat} {xs : List D} : (∀ x ∈ xs, Lk n x) → xs.length ≤ 1000000 → Lk (n + 1) (.lst xs)
  | tup {n : Nat} {xs : List D} : (∀ x ∈ xs, Lk n x) → xs.length ≤ 1000000 → Lk (n + 1) (.tup xs)
def NoO (e : E) : Prop := ∀ c, e ≠ .ow c
theorem noO_no : NoO .no := fun c h => by cases h
theorem noO_va {d : D} : NoO (.va d) := fun c h => by cases h
end L3
/-! L3, part R: == of plain data. -/
namespace L3
open PySem PySem.Spec PyProof.Rows L2
/-- ints, texts, None, lists and tuples of such, at most n deep -/
inductive Pu : Nat → D → Prop
  | non {n : Nat} : Pu n .non
  | int {n : Nat} (i : Int) : Pu n (.int i)
  | str {n : Nat} (x : Str) (h : x.cps.all (· < 0x110000) = true) : Pu n (.str x)
  | lst {n : Nat} {xs : List D} : (∀ x ∈ xs, Pu n x) → Pu (n + 1) (.lst xs)
  | tup {n : Nat} {xs : List D} : (∀ x ∈ xs, Pu n x) → Pu (n + 1) (.tup xs)
theorem Pu.pys {n : Nat} : ∀ {xs : List D}, (∀ x ∈ xs, ∃ p, x.py = some p ∧ p.canLay0 = true ∧ p.depth ≤ n) → ∃ ps, D.pys xs = some ps ∧ PyData.canLayAll0 ps = true ∧ PyData.depthAll ps ≤ n
  | [], _ => ⟨[], rfl, rfl, Nat.zero_le _⟩
  | x :: xs, h => by
    obtain ⟨p, h1, h2, h3⟩ := h x List.mem_cons_self
    obtain ⟨ps, g1, g2, g3⟩ := Pu.pys (n := n) fun y hy => h y (List.mem_cons_of_mem _ hy)
    refine ⟨p :: ps, ?_, ?_, ?_⟩
    · rw [D.pys, h1, g1]; rfl
    · rw [PyData.canLayAll0, h2, g2]; rfl
    · rw [PyData.depthAll]; omega
theorem Pu.py {n : Nat} {d : D} (h : Pu n d) : ∃ p, d.py = some p ∧ p.canLay0 = true ∧ p.depth ≤ n := by
  induction h with
  | non => exact ⟨.none, rfl, rfl, Nat.zero_le _⟩
  | int i => exact ⟨.int i, rfl, rfl, Nat.zero_le _⟩
  | str x h => exact ⟨.str x, rfl, h, Nat.zero_le _⟩
  | lst _ ih =>
    obtain ⟨ps, h1, h2, h3⟩ := Pu.pys ih
    exact ⟨.list ps, by rw [D.py, h1]; rfl, by rw [PyData.canLay0]; exact h2, by rw [PyData.depth]; omega⟩
  | tup _ ih =>
    obtain ⟨ps, h1, h2, h3⟩ := Pu.pys ih
    exact ⟨.tuple ps, by rw [D.py, h1]; rfl, by rw [PyData.canLay0]; exact h2, by rw [PyData.depth]; omega⟩
theorem pys_cons {x : D} {xs : List D} {ps : List PyData} (h : D.pys (x :: xs) = some ps) : ∃ p qs, ps = p :: qs ∧ x.py = some p ∧ D.pys xs = some qs := by
  rw [D.pys] at h
  obtain ⟨p, h1, h2⟩ := Option.bind_eq_some_iff.mp h
  obtain ⟨qs, h3, h4⟩ := Option.map_eq_some_iff.mp h2
  exact ⟨p, qs, h4.symm, h1, h3⟩
theorem pys_nil {ps : List PyData} (h : D.pys [] = some ps) : ps = [] := by
  rw [D.pys] at h
  exact (Option.some.inj h).symm
theorem eqv_all : ∀ {xs ys : List D} {ps qs : List PyData}, (∀ x ∈ xs, ∀ y ∈ ys, ∀ p q, x.py = some p → y.py = some q → (PyData.eqv p q = true ↔ x = y)) → D.pys xs = some ps → D.pys ys = some qs → (PyData.eqvAll ps qs = true ↔ xs = ys)
  | [], [], ps, qs, _, h1, h2 => by
    rw [pys_nil h1, pys_nil h2]
    simp [PyData.eqvAll]
  | [], y :: ys, ps, qs, _, h1, h2 => by
    obtain ⟨q, qs', rfl, _, _⟩ := pys_cons h2
    rw [pys_nil h1]
    simp [PyData.eqvAll]
  | x :: xs, [], ps, qs, _, h1, h2 => by
    obtain ⟨q, qs', rfl, _, _⟩ := pys_cons h1
    rw [pys_nil h2]
    simp [PyData.eqvAll]
  | x :: xs, y :: ys, ps, qs, h, h1, h2 => by
    obtain ⟨p, ps', rfl, a1, a2⟩ := pys_cons h1
    obtain ⟨q, qs', rfl, b1, b2⟩ := pys_cons h2
    have e1 := h x List.mem_cons_self y List.mem_cons_self p q a1 b1
    have e2 := eqv_all (fun x hx y hy => h x (List.mem_cons_of_mem _ hx) y (List.mem_cons_of_mem _ hy)) a2 b2
    rw [PyData.eqvAll, Bool.and_eq_true, e1, e2, List.cons.injEq]
theorem Pu.eqv {n : Nat} {d : D} (h : Pu n d) : ∀ {m : Nat} {e : D} {p q : PyData}, Pu m e → d.py = some p → e.py = some q → (PyData.eqv p q = true ↔ d = e) := by
  induction h with
  | non =>
    intro m e p q he h1 h2
    cases h1
    cases he with
    | non => cases h2; simp [PyData.eqv]
    | int i => cases h2; simp [PyData.eqv]
    | str x h => cases h2; simp [PyData.eqv]
    | lst h => rw [D.py] at h2; obtain ⟨qs, _, rfl⟩ := Option.map_eq_some_iff.mp h2; simp [PyData.eqv]
    | tup h => rw [D.py] at h2; obtain ⟨qs, _, rfl⟩ := Option.map_eq_some_iff.mp h2; simp [PyData.eqv]
  | int i =>
    intro m e p q he h1 h2
    cases h1
    cases he with
    | non => cases h2; simp [PyData.eqv]
    | int j => cases h2; simp [PyData.eqv]
    | str x h => cases h2; simp [PyData.eqv]
    | lst h => rw [D.py] at h2; obtain ⟨qs, _, rfl⟩ := Option.map_eq_some_iff.mp h2; simp [PyData.eqv]
    | tup h => rw [D.py] at h2; obtain ⟨qs, _, rfl⟩ := Option.map_eq_some_iff.mp h2; simp [PyData.eqv]
  | str x h =>
    intro m e p q he h1 h2
    cases h1
    cases he with
    | non => cases h2; simp [PyData.eqv]
    | int j => cases h2; simp [PyData.eqv]
    | str x h => cases h2; simp [PyData.eqv]
    | lst h => rw [D.py] at h2; obtain ⟨qs, _, rfl⟩ := Option.map_eq_some_iff.mp h2; simp [PyData.eqv]
    | tup h => rw [D.py] at h2; obtain ⟨qs, _, rfl⟩ := Option.map_eq_some_iff.mp h2; simp [PyData.eqv]
  | lst h ih =>
    intro m e p q he h1 h2
    rw [D.py] at h1
    obtain ⟨ps, e1, rfl⟩ := Option.map_eq_some_iff.mp h1
    cases he with
    | non => cases h2; simp [PyData.eqv]
    | int j => cases h2; simp [PyData.eqv]
    | str x h => cases h2; simp [PyData.eqv]
    | lst g =>
      rw [D.py] at h2
      obtain ⟨qs, e2, rfl⟩ := Option.map_eq_some_iff.mp h2
      rw [PyData.eqv, eqv_all (fun x hx y hy p q a b => ih x hx (g y hy) a b) e1 e2, D.lst.injEq]
    | tup h => rw [D.py] at h2; obtain ⟨qs, _, rfl⟩ := Option.map_eq_some_iff.mp h2; simp [PyData.eqv]
  | tup h ih =>
    intro m e p q he h1 h2
    rw [D.py] at h1
    obtain ⟨ps, e1, rfl⟩ := Option.map_eq_some_iff.mp h1
    cases he with
    | non => cases h2; simp [PyData.eqv]
    | int j => cases h2; simp [PyData.eqv]
    | str x h => cases h2; simp [PyData.eqv]
    | lst h => rw [D.py] at h2; obtain ⟨qs, _, rfl⟩ := Option.map_eq_some_iff.mp h2; simp [PyData.eqv]
    | tup g =>
      rw [D.py] at h2
      obtain ⟨qs, e2, rfl⟩ := Option.map_eq_some_iff.mp h2
      rw [PyData.eqv, eqv_all (fun x hx y hy p q a b => ih x hx (g y hy) a b) e1 e2, D.tup.injEq]
theorem Pu.mono {n : Nat} {d : D} (h : Pu n d) : ∀ {m : Nat}, n ≤ m → Pu m d := by
  induction h with
  | non => intro m _; exact .non
  | int i => intro m _; exact .int i
  | str x h => intro m _; exact .str x h
  | lst _ ih =>
    intro m hm
    obtain ⟨m, rfl⟩ : ∃ k, m = k + 1 := ⟨m - 1, by omega⟩
    exact .lst fun x hx => ih x hx (by omega)
  | tup _ ih =>
    intro m hm
    obtain ⟨m, rfl⟩ : ∃ k, m = k + 1 := ⟨m - 1, by omega⟩
    exact .tup fun x hx => ih x hx (by omega)
theorem Pu.shaped {n : Nat} {d : D} (h : Pu n d) (hn : n ≤ 64) : ∃ p, d.py = some p ∧ SeqAt.shaped p = true := by
  obtain ⟨p, h1, h2, h3⟩ := h.py
  exact ⟨p, h1, by unfold SeqAt.shaped; rw [h2]; simp; omega⟩
theorem pu_eq {n m : Nat} {d e : D} {b : Bool} (hd : Pu n d) (he : Pu m e) (hn : n ≤ 64) (hm : m ≤ 64) (h : b = true ↔ d = e) : ∃ p q, d.py = some p ∧ e.py = some q ∧ SeqAt.shaped p = true ∧ SeqAt.shaped q = true ∧ PyData.eqv p q = b := by
  obtain ⟨p, h1, h2⟩ := hd.shaped hn
  obtain ⟨q, g1, g2⟩ := he.shaped hm
  refine ⟨p, q, h1, g1, h2, g2, ?_⟩
  have := hd.eqv he h1 g1
  rw [← h] at this
  cases b <;> cases e : PyData.eqv p q <;> simp_all
variable {q : R → Prop}
theorem f_eqP {n m : Nat} {d e : D} {b : Bool} (hd : Pu n d) (he : Pu m e) (hn : n ≤ 64) (hm : m ≤ 64) (h : b = true ↔ d = e) (k : q (.va (.bl b))) : bF eqF d e q := f_eq (pu_eq hd he hn hm h) k
theorem f_neP {n m : Nat} {d e : D} {b : Bool} (hd : Pu n d) (he : Pu m e) (hn : n ≤ 64) (hm : m ≤ 64) (h : b = true ↔ d = e) (k : q (.va (.bl (!b)))) : bF neF d e q := f_ne (pu_eq hd he hn hm h) k
theorem Pu.map {α : Type} {n : Nat} {f : α → D} {xs : List α} (h : ∀ x ∈ xs, Pu n (f x)) : Pu (n + 1) (.lst (xs.map f)) := .lst fun y hy => by
  obtain ⟨x, hx, rfl⟩ := List.mem_map.mp hy
  exact h x hx
theorem Pu.mapT {α : Type} {n : Nat} {f : α → D} {xs : List α} (h : ∀ x ∈ xs, Pu n (f x)) : Pu (n + 1) (.tup (xs.map f)) := .tup fun y hy => by
  obtain ⟨x, hx, rfl⟩ := List.mem_map.mp hy
  exact h x hx
theorem pu_pair (p : Int × Int) : Pu 1 (pairD p) := .tup fun x hx => by
  rcases List.mem_cons.mp hx with rfl | hx
  · exact .int _
  · rcases List.mem_cons.mp hx with rfl | hx
    · exact .int _
    · cases hx
theorem pu_row (r : Row) : Pu 2 (rowD r) := Pu.map fun p _ => pu_pair p
theorem pu_net (n : Net) : Pu 3 (netD n) := Pu.map fun r _ => pu_row r
theorem pu_ints (ns : List Int) : Pu 1 (.lst (ns.map D.int)) := Pu.map fun i _ => .int i
theorem pairD_inj {p q : Int × Int} : pairD p = pairD q ↔ p = q := by
  unfold pairD
  constructor
  · intro h
    injection h with h
    injection h with h1 h2
    injection h1 with h1
    injection h2 with h2
    injection h2 with h2
    exact Prod.ext h1 h2
  · rintro rfl; rfl
theorem map_inj {α : Type} {f : α → D} (hf : ∀ a b, f a = f b ↔ a = b) : ∀ {xs ys : List α}, xs.map f = ys.map f ↔ xs = ys
  | [], [] => by simp
  | [], _ :: _ => by simp
  | _ :: _, [] => by simp
  | x :: xs, y :: ys => by simp [hf, map_inj hf]
theorem rowD_inj {p q : Row} : rowD p = rowD q ↔ p = q := by
  unfold rowD
  rw [D.lst.injEq, map_inj fun _ _ => pairD_inj]
theorem netD_inj {p q : Net} : netD p = netD q ↔ p = q := by
  unfold netD
  rw [D.lst.injEq, map_inj fun _ _ => rowD_inj]
theorem ints_inj {p q : List Int} : D.lst (p.map D.int) = D.lst (q.map D.int) ↔ p = q := by
  rw [D.lst.injEq, map_inj fun a b => by simp]
theorem f_eqB {a b : Bool} (k : q (.va (.bl (a == b)))) : bF eqF (.bl a) (.bl b) q := f_eq ⟨_, _, rfl, rfl, rfl, rfl, by simp only [PyData.eqv]⟩ k
theorem f_neB {a b : Bool} (k : q (.va (.bl (!(a == b))))) : bF neF (.bl a) (.bl b) q := f_ne ⟨_, _, rfl, rfl, rfl, rfl, by simp only [PyData.eqv]⟩ k
theorem f_ett (k : q (.va (.bl true))) : bF eqF (.bl true) (.bl true) q := f_eqB k
theorem f_eff (k : q (.va (.bl true))) : bF eqF (.bl false) (.bl false) q := f_eqB k
theorem f_etf (k : q (.va (.bl false))) : bF eqF (.bl true) (.bl false) q := f_eqB k
theorem f_eft (k : q (.va (.bl false))) : bF eqF (.bl false) (.bl true) q := f_eqB k
theorem f_ntt (k : q (.va (.bl false))) : bF neF (.bl true) (.bl true) q := f_neB k
theorem f_nff (k : q (.va (.bl false))) : bF neF (.bl false) (.bl false) q := f_neB k
theorem f_ntf (k : q (.va (.bl true))) : bF neF (.bl true) (.bl false) q := f_neB k
theorem f_nft (k : q (.va (.bl true))) : bF neF (.bl false) (.bl true) q := f_neB k
end L3
/-! L3, part T: the mathematics of nets. -/
namespace L3
open PySem PySem.Spec PyProof.Rows L2
theorem quads1_map : ∀ {k j : Nat} {r : Row}, quads1 k j r = (List.range r.length).map fun x => D.tup [.int (k : Nat), .int ((j + x : Nat) : Nat), .int (r.getD x (0, 1)).1, .int (r.getD x (0, 1)).2]
  | k, j, [] => rfl
  | k, j, p :: r => by
    rw [quads1, quads1_map, List.length_cons, List.range_succ_eq_map, List.map_cons, List.map_map]
    congr 1
    refine List.map_congr_left fun x _ => ?_
    simp only [Function.comp, Nat.succ_eq_add_one, List.getD_cons_succ]
    rw [show j + 1 + x = j + (x + 1) by omega]
theorem lk_q1 {k j : Nat} {r : Row} : ∀ z ∈ quads1 k j r, Lk 1 z := fun z hz => by
  rw [quads1_map] at hz
  obtain ⟨x, _, rfl⟩ := List.mem_map.mp hz
  refine .tup (fun y hy => ?_) (by simp)
  simp only [List.mem_cons, List.not_mem_nil, or_false] at hy
  rcases hy with rfl | rfl | rfl | rfl <;> exact .int _
theorem lk_q {n : Net} : ∀ {k : Nat}, ∀ z ∈ quads k n, Lk 1 z := by
  induction n with
  | nil => intro k z hz; simp [quads] at hz
  | cons r n ih =>
    intro k z hz
    rw [quads] at hz
    rcases List.mem_append.mp hz with h | h
    · exact lk_q1 z h
    · exact ih z h
theorem lk_quads {many size : Nat} {n : Net} (h : GoodNet many size n) : Lk 3 (.lst (quads 0 n)) := by
  have l : (quads 0 n).length = n.length * size := quads_len fun r hr => (h.row r hr).len
  have hb : n.length * size ≤ 8 * 1000 := Nat.mul_le_mul (by rw [h.len]; exact h.m1) h.s1
  refine .lst (fun z hz => ?_) (by omega)
  have := lk_q z hz
  cases this with
  | non => exact .non
  | bl b => exact .bl b
  | int i => exact .int i
  | str x h => exact .str x h
  | lst a b => exact .lst (fun y hy => by
      have := a y hy
      cases this with
      | non => exact .non
      | bl b => exact .bl b
      | int i => exact .int i
      | str x h => exact .str x h) b
  | tup a b => exact .tup (fun y hy => by
      have := a y hy
      cases this with
      | non => exact .non
      | bl b => exact .bl b
      | int i => exact .int i
      | str x h => exact .str x h) b
theorem letters_ok : ∀ c ∈ letters.cps.toList, c < 0x110000 := by decide +kernel
theorem GoodName.sok {x : Str} (h : GoodName x) : x.cps.all (· < 0x110000) = true := by
  rw [← Array.all_toList]
  exact List.all_eq_true.mpr fun c hc => by simpa using letters_ok c (h.ok c hc)
theorem lk_ints {ns : List Int} (h : ns.length ≤ 1000000) : Lk 1 (.lst (ns.map D.int)) := .lst (fun y hy => by
  obtain ⟨i, _, rfl⟩ := List.mem_map.mp hy
  exact .int i) (by simpa using h)
theorem Lk.mono {n : Nat} {d : D} (h : Lk n d) : ∀ {m : Nat}, n ≤ m → Lk m d := by
  induction h with
  | non => intro m _; exact .non
  | bl b => intro m _; exact .bl b
  | int i => intro m _; exact .int i
  | str x h => intro m _; exact .str x h
  | lst _ l ih =>
    intro m hm
    obtain ⟨m, rfl⟩ : ∃ k, m = k + 1 := ⟨m - 1, by omega⟩
    exact .lst (fun x hx => ih x hx (by omega)) l
  | tup _ l ih =>
    intro m hm
    obtain ⟨m, rfl⟩ : ∃ k, m = k + 1 := ⟨m - 1, by omega⟩
    exact .tup (fun x hx => ih x hx (by omega)) l
theorem lk_head {ls : List Str} (h : GoodSides ls) (i : Int) : Lk 3 (.lst [strsT ls, .int i]) := by
  refine .lst (fun y hy => ?_) (by simp)
  simp only [List.mem_cons, List.not_mem_nil, or_false] at hy
  rcases hy with rfl | rfl
  · refine .tup (fun y hy => ?_) (by have := h.m1; simp; omega)
    obtain ⟨x, hx, rfl⟩ := List.mem_map.mp hy
    exact .str x (h.ok x hx).sok
  · exact .int i
/-! ### how often -/
def sgn (ns : List Int) (x : Nat) : Int := if ns.count (x : Int) % 2 = 1 then -1 else 1
theorem sgn_cases (ns : List Int) (x : Nat) : sgn ns x = 1 ∨ sgn ns x = -1 := by
  unfold sgn
  split
  · exact .inr rfl
  · exact .inl rfl
theorem sgn_snoc (ns : List Int) (c : Int) (x : Nat) : sgn (ns ++ [c]) x = if c = (x : Int) then -sgn ns x else sgn ns x := by
  unfold sgn
  rw [List.count_append]
  by_cases h : c = (x : Int)
  · rw [if_pos h, h]
    simp only [List.count_singleton_self]
    split <;> split <;> omega
  · rw [if_neg h, List.count_singleton]
    simp [h]
def turnedR (t : Nat → Int) (r : Row) : Row := (List.range r.length).map fun x => ((r.getD x (0, 1)).1, (r.getD x (0, 1)).2 * t x * t (r.getD x (0, 1)).1.toNat)
def turnedN (t : Nat → Int) (n : Net) : Net := n.map (turnedR t)
theorem turnedR_get {t : Nat → Int} {r : Row} {x : Nat} {p : Int × Int} (h : r[x]? = some p) : (turnedR t r)[x]? = some (p.1, p.2 * t x * t p.1.toNat) := by
  have hx := (List.getElem?_eq_some_iff.mp h).1
  unfold turnedR
  rw [List.getElem?_map, List.getElem?_range hx]
  simp only [Option.map_some, List.getD_eq_getElem?_getD, h, Option.getD_some]
theorem good_turned {t : Nat → Int} (ht : ∀ x, t x = 1 ∨ t x = -1) {size : Nat} {r : Row} (h : GoodRow size r) : GoodRow size (turnedR t r) where
  len := by unfold turnedR; rw [List.length_map, List.length_range, h.len]
  ok := fun x hx => by
    obtain ⟨y, s, e1, hy, hs, e2⟩ := h.ok x hx
    refine ⟨y, s * t x * t y, turnedR_get e1, hy, ?_, ?_⟩
    · rcases hs with rfl | rfl <;> rcases ht x with e | e <;> rcases ht y with e' | e' <;> rw [e, e'] <;> decide
    · have := turnedR_get (t := t) e2
      rw [this]
      simp only [Int.toNat_natCast]
      rw [Int.mul_assoc, Int.mul_comm (t y), ← Int.mul_assoc]
theorem good_turnedN {t : Nat → Int} (ht : ∀ x, t x = 1 ∨ t x = -1) {many size : Nat} {n : Net} (h : GoodNet many size n) : GoodNet many size (turnedN t n) :=
  ⟨by unfold turnedN; rw [List.length_map, h.len], h.m0, h.m1, h.s0, h.s1, fun r hr => by
    obtain ⟨r', hr', rfl⟩ := List.mem_map.mp hr
    exact good_turned ht (h.row r' hr')⟩
/-! ### namings -/
theorem nodup_sub_len {α : Type} [DecidableEq α] : ∀ {l m : List α}, l.Nodup → (∀ x ∈ l, x ∈ m) → l.length ≤ m.length
  | [], _, _, _ => Nat.zero_le _
  | a :: l, m, nd, h => by
    obtain ⟨n1, n2⟩ := List.nodup_cons.mp nd
    have ha := h a List.mem_cons_self
    have := nodup_sub_len (m := m.erase a) n2 fun x hx => by
      refine (List.mem_erase_of_ne ?_).mpr (h x (List.mem_cons_of_mem _ hx))
      rintro rfl
      exact n1 hx
    rw [List.length_erase_of_mem ha] at this
    have hp : 0 < m.length := List.length_pos_of_mem ha
    rw [List.length_cons]
    omega
theorem Naming.all {size : Nat} {ns : List Int} (h : Naming size ns) {i : Nat} (hi : i < size) : ∃ x : Nat, x < size ∧ ns[x]? = some (i : Int) := by
  have hm : (i : Int) ∈ ns := by
    refine Decidable.byContradiction fun hn => ?_
    have := nodup_sub_len (l := (i : Int) :: ns) (m := (List.range size).map fun k : Nat => (k : Int)) (List.nodup_cons.mpr ⟨hn, h.nd⟩) fun x hx => by
      rcases List.mem_cons.mp hx with rfl | hx
      · exact List.mem_map.mpr ⟨i, List.mem_range.mpr hi, rfl⟩
      · obtain ⟨h0, h1⟩ := h.ok x hx
        exact List.mem_map.mpr ⟨x.toNat, List.mem_range.mpr (by omega), by omega⟩
    rw [List.length_cons, h.len, List.length_map, List.length_range] at this
    omega
  obtain ⟨x, hx, e⟩ := List.mem_iff_getElem.mp hm
  exact ⟨x, by rw [← h.len]; exact hx, by rw [List.getElem?_eq_getElem hx, e]⟩
/-! ### rows that are changed -/
theorem set_at {α : Type} {xs : List α} {i j : Nat} {x : α} (h : i < xs.length) : (xs.set i x)[j]? = if i = j then some x else xs[j]? := by
  rw [List.getElem?_set]
  by_cases e : i = j
  · rw [if_pos e, if_pos e]
    subst e
    simp [h]
  · rw [if_neg e, if_neg e]
theorem good_rim {size x : Nat} {r : Row} {s : Int} (h : GoodRow size r) (hx : x < size) (e : r[x]? = some ((x : Int), 1)) (hs : s = 1 ∨ s = -1) : GoodRow size (r.set x ((x : Int), s)) where
  len := by rw [List.length_set, h.len]
  ok := fun z hz => by
    have hl : x < r.length := by rw [h.len]; exact hx
    by_cases q : x = z
    · subst q
      exact ⟨x, s, by rw [set_at hl, if_pos rfl], hx, hs, by rw [set_at hl, if_pos rfl]⟩
    · obtain ⟨y, t, e1, hy, ht, e2⟩ := h.ok z hz
      have : x ≠ y := fun q2 => by
        subst q2
        rw [e] at e2
        injection e2 with e2
        injection e2 with e2
        exact q (by omega)
      exact ⟨y, t, by rw [set_at hl, if_neg q]; exact e1, hy, ht, by rw [set_at hl, if_neg this]; exact e2⟩
theorem good_seam {size x y : Nat} {r : Row} {s : Int} (h : GoodRow size r) (hx : x < size) (hy : y < size) (ne : x ≠ y) (e : r[x]? = some ((x : Int), 1)) (e' : r[y]? = some ((y : Int), 1)) (hs : s = 1 ∨ s = -1) : GoodRow size ((r.set x ((y : Int), s)).set y ((x : Int), s)) where
  len := by rw [List.length_set, List.length_set, h.len]
  ok := fun z hz => by
    have hl : x < r.length := by rw [h.len]; exact hx
    have hl2 : y < (r.set x ((y : Int), s)).length := by rw [List.length_set, h.len]; exact hy
    by_cases q : x = z
    · subst q
      exact ⟨y, s, by rw [set_at hl2, if_neg (Ne.symm ne), set_at hl, if_pos rfl], hy, hs, by rw [set_at hl2, if_pos rfl]⟩
    · by_cases q' : y = z
      · subst q'
        exact ⟨x, s, by rw [set_at hl2, if_pos rfl], hx, hs, by rw [set_at hl2, if_neg (Ne.symm ne), set_at hl, if_pos rfl]⟩
      · obtain ⟨w, t, e1, hw, ht, e2⟩ := h.ok z hz
        have n1 : x ≠ w := fun q2 => by
          subst q2
          rw [e] at e2
          injection e2 with e2
          injection e2 with e2
          exact q (by omega)
        have n2 : y ≠ w := fun q2 => by
          subst q2
          rw [e'] at e2
          injection e2 with e2
          injection e2 with e2
          exact q' (by omega)
        exact ⟨w, t, by rw [set_at hl2, if_neg q', set_at hl, if_neg q]; exact e1, hw, ht, by rw [set_at hl2, if_neg n2, set_at hl, if_neg n1]; exact e2⟩
theorem good_id {size : Nat} : GoodRow size ((List.range size).map fun x : Nat => ((x : Int), (1 : Int))) where
  len := by simp
  ok := fun x hx => ⟨x, 1, by rw [List.getElem?_map, List.getElem?_range hx]; rfl, hx, .inl rfl, by rw [List.getElem?_map, List.getElem?_range hx]; rfl⟩
/-! ### ints that are taken out -/
theorem er_map {α β : Type} {f : α → β} : ∀ {xs : List α} {i : Nat}, (xs.map f).eraseIdx i = (xs.eraseIdx i).map f
  | [], _ => by simp
  | x :: xs, 0 => by simp
  | x :: xs, i + 1 => by simp [er_map]
theorem f_popI {ns : List Int} {i : Int} {Q : D → List D → Prop} (h0 : 0 ≤ i) (h1 : i < ns.length) (hs : ns.length ≤ 1000000) (k : Q (.int (ns.getD i.toNat 0)) ((ns.eraseIdx i.toNat).map D.int)) : popF1 (ns.map D.int) [.int i] Q := by
  have hi : i.toNat < ns.length := by omega
  refine ⟨by simp, i.toNat, .int (ns.getD i.toNat 0), ⟨by omega, by omega⟩, ?_, ?_, ?_⟩
  · exact (ixN_seq (by unfold ixN; rw [if_pos h0, if_pos (by rw [List.length_map]; exact h1)])).1
  · rw [List.getElem?_map, List.getD_eq_getElem?_getD, List.getElem?_eq_getElem hi]; rfl
  · rw [er_map]
    exact k
theorem pu_nil {n : Nat} : Pu (n + 1) (.lst []) := .lst (fun x h => by cases h)
theorem nil_iff {ns : List Int} : decide (ns = []) = true ↔ D.lst (ns.map D.int) = .lst [] := by
  rw [decide_eq_true_eq, D.lst.injEq, List.map_eq_nil_iff]
theorem mem_eraseIdx {α : Type} : ∀ {xs : List α} {i : Nat} {x : α}, x ∈ xs.eraseIdx i → x ∈ xs
  | [], _, _, h => by simp at h
  | y :: ys, 0, x, h => List.mem_cons_of_mem _ h
  | y :: ys, i + 1, x, h => by
    rw [List.eraseIdx_cons_succ] at h
    rcases List.mem_cons.mp h with rfl | h
    · exact List.mem_cons_self
    · exact List.mem_cons_of_mem _ (mem_eraseIdx h)
theorem nodup_eraseIdx {α : Type} : ∀ {xs : List α} {i : Nat}, xs.Nodup → (xs.eraseIdx i).Nodup ∧ ∀ x, xs[i]? = some x → x ∉ xs.eraseIdx i
  | [], _, _ => ⟨by simp, fun x h => by simp at h⟩
  | y :: ys, 0, h => by
    obtain ⟨h1, h2⟩ := List.nodup_cons.mp h
    exact ⟨h2, fun x e => by simp at e; subst e; exact h1⟩
  | y :: ys, i + 1, h => by
    obtain ⟨h1, h2⟩ := List.nodup_cons.mp h
    obtain ⟨g1, g2⟩ := nodup_eraseIdx (i := i) h2
    rw [List.eraseIdx_cons_succ]
    refine ⟨List.nodup_cons.mpr ⟨fun z => h1 (mem_eraseIdx z), g1⟩, fun x e z => ?_⟩
    have e' : ys[i]? = some x := by simpa using e
    rcases List.mem_cons.mp z with rfl | z
    · exact h1 (List.mem_of_getElem? e')
    · exact g2 x e' z
theorem map_set {α β : Type} {f : α → β} {xs : List α} {i : Nat} {x : α} : (xs.map f).set i (f x) = (xs.set i x).map f := by
  rw [List.map_set]
theorem ints_nodup {n : Nat} : ((List.range n).map fun k : Nat => (k : Int)).Nodup := List.Pairwise.map _ (fun a b (h : a ≠ b) => by omega) List.nodup_range
theorem rowset {r : Row} {x : Nat} {a b : Int} : (r.map pairD).set x (.tup [.int a, .int b]) = (r.set x (a, b)).map pairD := map_set (f := pairD) (x := (a, b))
theorem ix_nat {n y : Nat} (h : y < n) : ixN n (y : Int) = some y := by
  unfold ixN
  rw [if_pos (by omega), if_pos (by omega), Int.toNat_natCast]
/-! ### a row under new numbers -/
def namedP (ns : List Int) (p : Int × Int) : Int × Int := (ns.getD p.1.toNat 0, p.2)
def namedR (ns : List Int) (r : Row) : Row := (List.range r.length).map fun i : Nat => namedP ns (r.getD (ns.idxOf (i : Int)) (0, 1))
def namedN (ns : List Int) (n : Net) : Net := n.map (namedR ns)
theorem namedR_len {ns : List Int} {r : Row} : (namedR ns r).length = r.length := by simp [namedR]
theorem namedR_get {size : Nat} {ns : List Int} {r : Row} (hn : Naming size ns) (hr : r.length = size) {x i : Nat} {p : Int × Int} (e : ns[x]? = some (i : Int)) (ep : r[x]? = some p) : (namedR ns r)[i]? = some (namedP ns p) := by
  have hm := List.mem_of_getElem? e
  obtain ⟨_, hi⟩ := hn.ok _ hm
  have h1 : ns.idxOf (i : Int) < ns.length := List.idxOf_lt_length_of_mem hm
  have h2 : ns[ns.idxOf (i : Int)]? = some (i : Int) := by rw [List.getElem?_eq_getElem h1, List.getElem_idxOf h1]
  have h3 : ns.idxOf (i : Int) = x := nodup_inj hn.nd h2 e
  unfold namedR
  rw [List.getElem?_map, List.getElem?_range (by omega), Option.map_some, h3, List.getD_eq_getElem?_getD, ep, Option.getD_some]
/-- the one row that has these items -/
theorem named_unique {size : Nat} {ns : List Int} {r acc : Row} (hn : Naming size ns) (hr : r.length = size) (hl : acc.length = size) (h : ∀ (x i : Nat) (p : Int × Int), ns[x]? = some (i : Int) → r[x]? = some p → acc[i]? = some (namedP ns p)) : acc = namedR ns r := by
  refine List.ext_getElem? fun i => ?_
  by_cases hi : i < size
  · obtain ⟨x, hx, e⟩ := hn.all hi
    have ep : r[x]? = some r[x] := List.getElem?_eq_getElem (by omega)
    rw [h x i _ e ep, namedR_get hn hr e ep]
  · rw [List.getElem?_eq_none (by omega), List.getElem?_eq_none (by rw [namedR_len]; omega)]
theorem Naming.get {size : Nat} {ns : List Int} (h : Naming size ns) {x : Nat} (hx : x < size) : ∃ i : Nat, ns[x]? = some (i : Int) ∧ i < size ∧ ns.getD x 0 = (i : Int) := by
  have hx' : x < ns.length := by rw [h.len]; exact hx
  obtain ⟨h0, h1⟩ := h.ok _ (List.getElem_mem hx')
  refine ⟨ns[x].toNat, ?_, by omega, ?_⟩
  · rw [List.getElem?_eq_getElem hx']
    congr 1
    omega
  · rw [List.getD_eq_getElem?_getD, List.getElem?_eq_getElem hx', Option.getD_some]
    omega
theorem good_named {size : Nat} {ns : List Int} {r : Row} (hn : Naming size ns) (g : GoodRow size r) : GoodRow size (namedR ns r) where
  len := by rw [namedR_len, g.len]
  ok := fun i hi => by
    obtain ⟨x, hx, e⟩ := hn.all hi
    obtain ⟨y, s, e1, hy, hs, e2⟩ := g.ok x hx
    obtain ⟨w, ew, hw, dw⟩ := hn.get hy
    obtain ⟨v, ev, _, dv⟩ := hn.get hx
    rw [e] at ev
    cases ev
    refine ⟨w, s, ?_, hw, hs, ?_⟩
    · rw [namedR_get hn g.len e e1]
      unfold namedP
      rw [Int.toNat_natCast, dw]
    · rw [namedR_get hn g.len ew e2]
      unfold namedP
      rw [Int.toNat_natCast, dv]
theorem good_namedN {many size : Nat} {ns : List Int} {n : Net} (hn : Naming size ns) (h : GoodNet many size n) : GoodNet many size (namedN ns n) :=
  ⟨by unfold namedN; rw [List.length_map, h.len], h.m0, h.m1, h.s0, h.s1, fun r hr => by
    obtain ⟨r', hr', rfl⟩ := List.mem_map.mp hr
    exact good_named hn (h.row r' hr')⟩
/-- j steps of the making of a named row -/
def NamedTo (size : Nat) (ns : List Int) (r : Row) (j : Nat) (acc : Row) : Prop := acc.length = size ∧ ∀ (x i : Nat) (p : Int × Int), x < j → ns[x]? = some (i : Int) → r[x]? = some p → acc[i]? = some (namedP ns p)
theorem NamedTo.step {size : Nat} {ns : List Int} {r acc : Row} {j i : Nat} {p : Int × Int} (hn : Naming size ns) (h : NamedTo size ns r j acc) (e : ns[j]? = some (i : Int)) (ep : r[j]? = some p) : NamedTo size ns r (j + 1) (acc.set i (namedP ns p)) := by
  obtain ⟨h1, h2⟩ := h
  have hi : i < size := by have := (hn.ok _ (List.mem_of_getElem? e)).2; omega
  refine ⟨by rw [List.length_set, h1], fun x i' p' hx e' ep' => ?_⟩
  rw [set_at (by omega)]
  by_cases q : i = i'
  · subst q
    have := nodup_inj hn.nd e' e
    subst this
    rw [ep] at ep'
    cases ep'
    rw [if_pos rfl]
  · rw [if_neg q]
    refine h2 x i' p' ?_ e' ep'
    have : x ≠ j := by
      rintro rfl
      rw [e] at e'
      injection e' with e'
      omega
    omega
theorem NamedTo.done {size : Nat} {ns : List Int} {r acc : Row} (hn : Naming size ns) (hr : r.length = size) (h : NamedTo size ns r size acc) : acc = namedR ns r :=
  named_unique hn hr h.1 fun x i p e ep => h.2 x i p (by have := (List.getElem?_eq_some_iff.mp ep).1; omega) e ep
theorem row_ext {size : Nat} {r r' : Row} (l : r.length = size) (l' : r'.length = size) (h : ∀ x, x < size → r[x]? = r'[x]?) : r = r' := by
  refine List.ext_getElem? fun i => ?_
  by_cases hi : i < size
  · exact h i hi
  · rw [List.getElem?_eq_none (by omega), List.getElem?_eq_none (by omega)]
theorem turnedR_len {t : Nat → Int} {r : Row} : (turnedR t r).length = r.length := by simp [turnedR]
theorem turnedR_congr {t t' : Nat → Int} {size : Nat} {r : Row} (g : GoodRow size r) (h : ∀ x, x < size → t x = t' x) : turnedR t r = turnedR t' r := by
  refine row_ext (size := size) (by rw [turnedR_len, g.len]) (by rw [turnedR_len, g.len]) fun x hx => ?_
  obtain ⟨y, s, e1, hy, hs, e2⟩ := g.ok x hx
  rw [turnedR_get e1, turnedR_get e1]
  simp only [Int.toNat_natCast]
  rw [h x hx, h y hy]
theorem turnedN_congr {t t' : Nat → Int} {many size : Nat} {n : Net} (g : GoodNet many size n) (h : ∀ x, x < size → t x = t' x) : turnedN t n = turnedN t' n := by
  unfold turnedN
  exact List.map_congr_left fun r hr => turnedR_congr (g.row r hr) h
theorem turned_twice {t : Nat → Int} (ht : ∀ x, t x = 1 ∨ t x = -1) {many size : Nat} {n : Net} (g : GoodNet many size n) : turnedN t (turnedN t n) = n := by
  unfold turnedN
  rw [List.map_map]
  have : ∀ r ∈ n, (turnedR t ∘ turnedR t) r = r := fun r hr => by
    have gr := g.row r hr
    refine row_ext (size := size) (by simp only [Function.comp]; rw [turnedR_len, turnedR_len, gr.len]) gr.len fun x hx => ?_
    obtain ⟨y, s, e1, hy, hs, e2⟩ := gr.ok x hx
    simp only [Function.comp]
    rw [turnedR_get (turnedR_get e1), e1]
    simp only [Int.toNat_natCast]
    rcases ht x with a | a <;> rcases ht y with b | b <;> rw [a, b] <;> simp
  conv => rhs; rw [← List.map_id n]
  exact List.map_congr_left this
theorem sgn_list {ns : List Int} {size x : Nat} (hx : x < size) : ((List.range size).map (sgn ns)).getD x 0 = sgn ns x := by
  rw [List.getD_eq_getElem?_getD, List.getElem?_map, List.getElem?_range hx]
  rfl
/-! ### index -/
theorem pys_ints : ∀ {ns : List Int}, D.pys (ns.map D.int) = some (ns.map PyData.int)
  | [] => rfl
  | n :: ns => by
    rw [List.map_cons, D.pys, pys_ints]
    rfl
theorem index_ints {P : Nat → Prop} {δ : En} {ro r : R} {ns : List Int} {c : Int} (e1 : ro.dat δ = some (.lst (ns.map D.int))) (e2 : r.dat δ = some (.int c)) (hm : c ∈ ns) (k : P (ns.idxOf c)) :
    ∃ xs d p ps j z, ro.dat δ = some (.lst xs) ∧ r.dat δ = some d ∧ d.py = some p ∧ D.pys xs = some ps ∧ SeqAt.shaped (.list ps) = true ∧ SeqAt.shaped p = true ∧ ps[j]? = some z ∧ PyData.eqv z p = true ∧
      (∀ (m : Nat) z', m < j → ps[m]? = some z' → PyData.eqv z' p = false) ∧ P j := by
  obtain ⟨p, hp1, hp2⟩ := (pu_ints ns).shaped (by omega)
  rw [D.py, pys_ints] at hp1
  cases hp1
  have h1 : ns.idxOf c < ns.length := List.idxOf_lt_length_of_mem hm
  refine ⟨_, _, .int c, _, ns.idxOf c, .int c, e1, e2, rfl, pys_ints, hp2, rfl, ?_, by simp [PyData.eqv], fun m z' hm' e => ?_, k⟩
  · rw [List.getElem?_map, List.getElem?_eq_getElem h1, List.getElem_idxOf h1]
    rfl
  · rw [List.getElem?_map] at e
    obtain ⟨y, ey, rfl⟩ := Option.map_eq_some_iff.mp e
    have hy : y ≠ c := by
      rintro rfl
      obtain ⟨hl, eg⟩ := List.getElem?_eq_some_iff.mp ey
      have : ns.idxOf y ≤ m := by
        refine Decidable.byContradiction fun hn => ?_
        have := List.not_of_lt_findIdx (p := fun x => x == y) (xs := ns) (i := m) (by unfold List.idxOf at hm'; exact hm')
        simp [eg] at this
      omega
    simp [PyData.eqv, hy]
def invN (ns : List Int) : List Int := (List.range ns.length).map fun i : Nat => (ns.idxOf (i : Int) : Int)
theorem invN_get {size : Nat} {ns : List Int} (hn : Naming size ns) {x i : Nat} (e : ns[x]? = some (i : Int)) : (invN ns)[i]? = some (x : Int) := by
  have hm := List.mem_of_getElem? e
  obtain ⟨_, hi⟩ := hn.ok _ hm
  have h1 : ns.idxOf (i : Int) < ns.length := List.idxOf_lt_length_of_mem hm
  have h2 : ns[ns.idxOf (i : Int)]? = some (i : Int) := by rw [List.getElem?_eq_getElem h1, List.getElem_idxOf h1]
  have h3 : ns.idxOf (i : Int) = x := nodup_inj hn.nd h2 e
  have hl := hn.len
  unfold invN
  rw [List.getElem?_map, List.getElem?_range (by omega), Option.map_some, h3]
theorem naming_inv {size : Nat} {ns : List Int} (hn : Naming size ns) : Naming size (invN ns) where
  len := by simp [invN, hn.len]
  nd := by
    refine List.Pairwise.map _ (R := fun a b => a ∈ List.range ns.length ∧ b ∈ List.range ns.length ∧ a ≠ b) (fun a b h z => ?_) ?_
    · obtain ⟨ha, hb, ne⟩ := h
      have hl := hn.len
      obtain ⟨x, hx, e⟩ := hn.all (i := a) (by have := List.mem_range.mp ha; omega)
      obtain ⟨y, hy, e'⟩ := hn.all (i := b) (by have := List.mem_range.mp hb; omega)
      have z' : ns.idxOf (a : Int) = ns.idxOf (b : Int) := by omega
      have m1 := List.mem_of_getElem? e
      have m2 := List.mem_of_getElem? e'
      have h1 := List.getElem_idxOf (List.idxOf_lt_length_of_mem m1)
      have h2 := List.getElem_idxOf (List.idxOf_lt_length_of_mem m2)
      simp only [z'] at h1
      rw [h1] at h2
      exact ne (by omega)
    · refine List.Pairwise.imp_of_mem (R := fun a b => a ≠ b) (fun ha hb h => ⟨ha, hb, h⟩) List.nodup_range
  ok := fun x hx => by
    obtain ⟨i, hi, rfl⟩ := List.mem_map.mp hx
    have hl := hn.len
    obtain ⟨y, hy, e⟩ := hn.all (i := i) (by have := List.mem_range.mp hi; omega)
    have := List.idxOf_lt_length_of_mem (List.mem_of_getElem? e)
    omega
theorem named_inv {size : Nat} {ns : List Int} {r : Row} (hn : Naming size ns) (g : GoodRow size r) : namedR (invN ns) (namedR ns r) = r := by
  have hi := naming_inv hn
  refine (named_unique hi (by rw [namedR_len, g.len]) g.len fun i x p e ep => ?_).symm
  obtain ⟨_, hx⟩ := hi.ok _ (List.mem_of_getElem? e)
  obtain ⟨j, ej, hj, dj⟩ := hn.get (x := x) (by omega)
  have e3 := invN_get hn ej
  have : i = j := by
    have n1 := hi.nd
    exact nodup_inj n1 e e3
  subst this
  obtain ⟨y, s, e1, hy, hs, e2⟩ := g.ok x (by omega)
  rw [namedR_get hn g.len ej e1] at ep
  cases ep
  obtain ⟨w, ew, hw, dw⟩ := hn.get hy
  have e4 := invN_get hn ew
  rw [e1]
  unfold namedP
  simp only [Int.toNat_natCast]
  rw [dw, Int.toNat_natCast, List.getD_eq_getElem?_getD, e4, Option.getD_some]
theorem namedN_inv {many size : Nat} {ns : List Int} {n : Net} (hn : Naming size ns) (g : GoodNet many size n) : namedN (invN ns) (namedN ns n) = n := by
  unfold namedN
  rw [List.map_map]
  conv => rhs; rw [← List.map_id n]
  exact List.map_congr_left fun r hr => named_inv hn (g.row r hr)
/-! ### a text in a list of texts -/
def okS (x : Str) : Prop := x.cps.all (· < 0x110000) = true
theorem pys_strs : ∀ {ls : List Str}, D.pys (ls.map D.str) = some (ls.map PyData.str)
  | [] => rfl
  | n :: ns => by
    rw [List.map_cons, D.pys, pys_strs]
    rfl
theorem any_strs {x : Str} : ∀ {ls : List Str}, ((ls.map PyData.str).any fun z => PyData.eqv z (.str x)) = decide (x ∈ ls)
  | [] => by simp
  | y :: ys => by
    rw [List.map_cons, List.any_cons, any_strs]
    simp only [PyData.eqv, List.mem_cons]
    by_cases h : x = y
    · subst h; simp
    · have : ¬ y = x := fun z => h z.symm
      simp [h, this]
theorem in_str {x : Str} {ls : List Str} {P : Bool → Prop} (hx : okS x) (hl : ∀ y ∈ ls, okS y) (k : P (decide (x ∈ ls))) : inF (.str x) (.lst (ls.map D.str)) P := by
  obtain ⟨p, hp1, hp2⟩ := (Pu.map (n := 0) (f := D.str) (xs := ls) fun y hy => .str y (hl y hy)).shaped (by omega)
  rw [D.py, pys_strs] at hp1
  cases hp1
  obtain ⟨p', hq1, hq2⟩ := (Pu.str (n := 0) x hx).shaped (by omega)
  cases hq1
  refine ⟨.str x, _, rfl, pys_strs, hq2, hp2, ?_⟩
  rw [any_strs]
  exact k
theorem f_inStr {q : R → Prop} {x : Str} {ls : List Str} (hx : okS x) (hl : ∀ y ∈ ls, okS y) (k : q (.va (.bl (decide (x ∈ ls))))) : bF inF (.str x) (.lst (ls.map D.str)) q := in_str (P := fun b => q (.va (.bl b))) hx hl k
theorem f_ninStr {q : R → Prop} {x : Str} {ls : List Str} (hx : okS x) (hl : ∀ y ∈ ls, okS y) (k : q (.va (.bl (!decide (x ∈ ls))))) : bF ninF (.str x) (.lst (ls.map D.str)) q := in_str (P := fun b => q (.va (.bl (!b)))) hx hl k
/-- a name by its letters -/
def goodB (x : Str) : Bool := decide (1 ≤ x.length) && decide (x.length ≤ 3) && x.cps.toList.all fun c => decide (c ∈ letters.cps.toList)
theorem good_of {x : Str} (h : goodB x = true) : GoodName x := by
  unfold goodB at h
  simp only [Bool.and_eq_true, decide_eq_true_eq, List.all_eq_true] at h
  exact ⟨h.1.1, h.1.2, h.2⟩
theorem joinL_ones : ∀ cs : List Nat, TL.joinL [] (cs.map fun c => [c]) = cs
  | [] => rfl
  | [c] => rfl
  | c :: d :: r => by
    show [c] ++ ([] ++ TL.joinL [] ((d :: r).map fun c => [c])) = _
    rw [joinL_ones (d :: r)]
    rfl
theorem join_letters (cs : List Nat) : (Txt.join (Str.ofString "") (cs.map fun c => (⟨#[c]⟩ : Str))).cps.toList = cs := by
  have e := TL.tl_join (Str.ofString "") (cs.map fun c => (⟨#[c]⟩ : Str))
  rw [TL.join_eq]
  refine e.trans ?_
  rw [List.map_map]
  exact joinL_ones cs
theorem good_join {cs : List Nat} (h0 : 0 < cs.length) (h1 : cs.length ≤ 3) (h : ∀ c ∈ cs, c ∈ letters.cps.toList) : GoodName (Txt.join (Str.ofString "") (cs.map fun c => (⟨#[c]⟩ : Str))) := by
  have e := join_letters cs
  have l : (Txt.join (Str.ofString "") (cs.map fun c => (⟨#[c]⟩ : Str))).length = cs.length := by
    have := congrArg List.length e
    simpa [Str.length] using this
  exact ⟨by omega, by omega, fun c hc => h c (by rw [e] at hc; exact hc)⟩
end L3
/-! L3, part V: the parts of a net, by labels handed on. -/
namespace L3
open PySem PySem.Spec PyProof.Rows L2
def adj (n : Net) (x y : Nat) : Prop := ∃ r ∈ n, ∃ s, r[x]? = some ((y : Int), s)
theorem adj_symm {many size : Nat} {n : Net} (h : GoodNet many size n) {x y : Nat} (a : adj n x y) : adj n y x := by
  obtain ⟨r, hr, s, e⟩ := a
  have hx : x < size := by rw [← (h.row r hr).len]; exact (List.getElem?_eq_some_iff.mp e).1
  obtain ⟨y', s', e1, hy, _, e2⟩ := (h.row r hr).ok x hx
  rw [e] at e1
  have : (y : Int) = y' := by injection e1 with e1; exact congrArg Prod.fst e1
  have : y = y' := by omega
  subst this
  exact ⟨r, hr, s', e2⟩
theorem adj_lt {many size : Nat} {n : Net} (h : GoodNet many size n) {x y : Nat} (a : adj n x y) : x < size ∧ y < size := by
  have g : ∀ {x y}, adj n x y → x < size := fun {x y} a => by
    obtain ⟨r, hr, s, e⟩ := a
    rw [← (h.row r hr).len]
    exact (List.getElem?_eq_some_iff.mp e).1
  exact ⟨g a, g (adj_symm h a)⟩
def Reach (n : Net) (x y : Nat) : Prop := ∀ K : Nat → Prop, K x → (∀ a b, K a → adj n a b → K b) → K y
theorem least {P : Nat → Prop} : ∀ k : Nat, P k → ∃ m, P m ∧ ∀ j, P j → m ≤ j := by
  intro k
  induction k using Nat.strongRecOn with
  | ind k ih =>
    intro hk
    by_cases h : ∃ j, j < k ∧ P j
    · obtain ⟨j, hj, pj⟩ := h
      exact ih j hj pj
    · exact ⟨k, hk, fun j pj => Decidable.byContradiction fun hn => h ⟨j, by omega, pj⟩⟩
theorem reach_refl {n : Net} {x : Nat} : Reach n x x := fun K k _ => k
theorem reach_adj {n : Net} {x y z : Nat} (a : adj n x y) (h : Reach n y z) : Reach n x z := fun K k c => h K (c _ _ k a) c
theorem low_ex {many size : Nat} {n : Net} (h : GoodNet many size n) : ∃ M : Nat → Nat, (∀ x, M x ≤ x) ∧ (∀ x y, adj n x y → M y = M x) ∧ ∀ x, Reach n x (M x) := by
  have ex : ∀ x, ∃ m, Reach n x m ∧ ∀ j, Reach n x j → m ≤ j := fun x => least x reach_refl
  refine ⟨fun x => (ex x).choose, fun x => (ex x).choose_spec.2 x reach_refl, fun x y a => ?_, fun x => (ex x).choose_spec.1⟩
  have h1 := (ex x).choose_spec.2 _ (reach_adj a (ex y).choose_spec.1)
  have h2 := (ex y).choose_spec.2 _ (reach_adj (adj_symm h a) (ex x).choose_spec.1)
  show (ex y).choose = (ex x).choose
  omega
/-- labels between the least and the own number -/
structure LowOk (M f : Nat → Nat) : Prop where
  lo : ∀ x, M x ≤ f x
  hi : ∀ x, f x ≤ x
def upd (f : Nat → Nat) (x v : Nat) : Nat → Nat := fun y => if y = x then v else f y
def lowD (size : Nat) (f : Nat → Nat) : List D := (List.range size).map fun x => D.int (f x : Nat)
theorem lowD_len {size : Nat} {f : Nat → Nat} : (lowD size f).length = size := by simp [lowD]
theorem lowD_at {size : Nat} {f : Nat → Nat} {x : Nat} (h : x < size) : L2.atI (lowD size f) (x : Int) = some (.int (f x : Nat)) := by
  refine atI_get (by omega) ?_
  unfold lowD
  rw [List.getElem?_map, Int.toNat_natCast, List.getElem?_range h]
  rfl
theorem lowD_set {size : Nat} {f : Nat → Nat} {x v : Nat} : (lowD size f).set x (.int (v : Nat)) = lowD size (upd f x v) := by
  unfold lowD
  refine List.ext_getElem? fun i => ?_
  rw [List.getElem?_set, List.getElem?_map, List.getElem?_map, List.length_map, List.length_range]
  by_cases hi : i < size
  · rw [List.getElem?_range hi]
    by_cases e : x = i
    · subst e
      simp [hi, upd]
    · simp [e, upd, Ne.symm e]
  · rw [List.getElem?_eq_none (by simpa using hi)]
    by_cases e : x = i
    · subst e
      simp [hi]
    · simp [e]
theorem lowD_inj {size : Nat} {f g : Nat → Nat} (h : lowD size f = lowD size g) : ∀ x, x < size → f x = g x := fun x hx => by
  have := congrArg (fun l => l[x]?) h
  simp only [lowD, List.getElem?_map, List.getElem?_range hx, Option.map_some, Option.some.injEq, D.int.injEq] at this
  omega
theorem LowOk.upd {n : Net} {M f : Nat → Nat} (h : LowOk M f) (hM : ∀ x y, adj n x y → M y = M x) {x y : Nat} (a : adj n x y) (l : f y < f x) : LowOk M (upd f x (f y)) where
  lo := fun z => by
    unfold L3.upd
    split
    · subst z; have := hM _ _ a; have := h.lo y; omega
    · exact h.lo z
  hi := fun z => by
    unfold L3.upd
    split
    · subst z; have := h.hi x; omega
    · exact h.hi z
theorem upd_le {f : Nat → Nat} {x v : Nat} (l : v < f x) : ∀ z, upd f x v z ≤ f z := fun z => by
  unfold upd
  split
  · subst z; omega
  · exact Nat.le_refl _
/-- how many have their least label -/
def settled (size : Nat) (M f : Nat → Nat) : Nat := ((List.range size).filter fun x => f x == M x).length
theorem filter_lt {α : Type} {p q : α → Bool} : ∀ {l : List α}, (∀ x ∈ l, p x = true → q x = true) → (∃ x ∈ l, p x = false ∧ q x = true) → (l.filter p).length < (l.filter q).length
  | [], _, ⟨x, hx, _⟩ => nomatch hx
  | a :: l, h, ⟨x, hx, e1, e2⟩ => by
    have le : (l.filter p).length ≤ (l.filter q).length := by
      have : ∀ {l : List α}, (∀ x ∈ l, p x = true → q x = true) → (l.filter p).length ≤ (l.filter q).length := fun {l} => by
        induction l with
        | nil => intro _; exact Nat.le_refl _
        | cons a l ih =>
          intro h
          have := ih fun x hx => h x (List.mem_cons_of_mem _ hx)
          have h0 := h a List.mem_cons_self
          cases hp : p a <;> cases hq : q a
          · simp [hp, hq, this]
          · simp [hp, hq]; omega
          · rw [h0 hp] at hq; cases hq
          · simp [hp, hq, this]
      exact this fun x hx => h x (List.mem_cons_of_mem _ hx)
    have h0 := h a List.mem_cons_self
    rcases List.mem_cons.mp hx with rfl | hx
    · simp [e1, e2]; omega
    · have := filter_lt (fun x hx => h x (List.mem_cons_of_mem _ hx)) ⟨x, hx, e1, e2⟩
      cases hp : p a <;> cases hq : q a
      · simp [hp, hq]; exact this
      · simp [hp, hq]; omega
      · rw [h0 hp] at hq; cases hq
      · simp [hp, hq]; exact this
theorem settled_all {size : Nat} {M f : Nat → Nat} (h : size ≤ settled size M f) : ∀ x, x < size → f x = M x := fun x hx => by
  unfold settled at h
  refine Decidable.byContradiction fun hn => ?_
  have := filter_lt (p := fun x => f x == M x) (q := fun _ => true) (l := List.range size) (fun _ _ _ => rfl) ⟨x, List.mem_range.mpr hx, by simpa using hn, rfl⟩
  rw [List.filter_eq_self.mpr (fun _ _ => rfl), List.length_range] at this
  omega
theorem settled_pos {size : Nat} {M f : Nat → Nat} (s0 : 0 < size) (hM : M 0 ≤ 0) (h : LowOk M f) : 0 < settled size M f := by
  unfold settled
  refine List.length_pos_of_mem (a := 0) (List.mem_filter.mpr ⟨List.mem_range.mpr s0, ?_⟩)
  have := h.hi 0
  have := h.lo 0
  simp; omega
/-- a lap: all labels handed on at least once; the settled ones grow -/
theorem lap_grows {many size : Nat} {n : Net} (hn : GoodNet many size n) {M f g : Nat → Nat} (hM : ∀ x y, adj n x y → M y = M x) (hR : ∀ x, Reach n x (M x)) (hf : LowOk M f) (hg : LowOk M g)
    (le : ∀ x, g x ≤ f x) (all : ∀ x y, adj n x y → g x ≤ f y) {k : Nat} (h : k + 1 ≤ settled size M f ∨ size ≤ settled size M f) : k + 2 ≤ settled size M g ∨ size ≤ settled size M g := by
  have keep : ∀ x, f x = M x → g x = M x := fun x e => by have := le x; have := hg.lo x; omega
  by_cases hs : ∀ x, x < size → f x = M x
  · refine .inr ?_
    unfold settled
    rw [List.filter_eq_self.mpr fun x hx => by simpa using keep x (hs x (List.mem_range.mp hx)), List.length_range]
    exact Nat.le_refl _
  · obtain ⟨x, hx⟩ := Classical.not_forall.mp hs
    obtain ⟨hx, ne⟩ := Classical.not_imp.mp hx
    -- the unsettled ones are not closed under steps
    have : ∃ a b, a < size ∧ f a ≠ M a ∧ adj n a b ∧ f b = M b := by
      refine Classical.byContradiction fun hno => ?_
      have cl := hR x (fun a => a < size ∧ f a ≠ M a) ⟨hx, ne⟩ fun a b ka ab => ⟨(adj_lt hn ab).2, fun e => hno ⟨a, b, ka.1, ka.2, ab, e⟩⟩
      have eM : ∀ y, M y = M x → True := fun _ _ => trivial
      have mm : M (M x) = M x := by
        have := hR x (fun a => M a = M x) rfl fun a b ka ab => by rw [hM _ _ ab, ka]
        exact this
      have := hf.hi (M x)
      have := hf.lo (M x)
      exact cl.2 (by omega)
    obtain ⟨a, b, ha, na, ab, eb⟩ := this
    have ga : g a = M a := by
      have := all a b ab
      have := hM _ _ ab
      have := hg.lo a
      omega
    have := filter_lt (p := fun x => f x == M x) (q := fun x => g x == M x) (l := List.range size) (fun z _ hz => by
      have := keep z (by simpa using hz)
      simpa using this) ⟨a, List.mem_range.mpr ha, by simpa using na, by simpa using ga⟩
    unfold settled at h ⊢
    omega
def Fixed (n : Net) (f : Nat → Nat) : Prop := (∀ x y, adj n x y → f x = f y) ∧ f 0 = 0
theorem fixed_same {many size : Nat} {n : Net} (hn : GoodNet many size n) {M f g : Nat → Nat} (hg : LowOk M g) (all : ∀ x y, adj n x y → g x ≤ f y) (e : ∀ x, x < size → g x = f x) : Fixed n g := by
  refine ⟨fun x y a => ?_, by have := hg.hi 0; omega⟩
  have h1 := all x y a
  have h2 := all y x (adj_symm hn a)
  have := e x (adj_lt hn a).1
  have := e y (adj_lt hn a).2
  omega
theorem fixed_all {many size : Nat} {n : Net} (hn : GoodNet many size n) {M f : Nat → Nat} (hM : ∀ x y, adj n x y → M y = M x) (hf : LowOk M f) (h : size ≤ settled size M f) : Fixed n f := by
  refine ⟨fun x y a => ?_, by have := hf.hi 0; omega⟩
  rw [settled_all h x (adj_lt hn a).1, settled_all h y (adj_lt hn a).2, hM _ _ a]
def partOf (size : Nat) (f : Nat → Nat) (z : Nat) : List Int := ((List.range size).filter fun x => f x == z).map fun x : Nat => (x : Int)
def partsOf (size : Nat) (f : Nat → Nat) : List (List Int) := ((List.range size).filter fun z => f z == z).map (partOf size f)
theorem part_mem {size : Nat} {f : Nat → Nat} {z x : Nat} : (x : Int) ∈ partOf size f z ↔ x < size ∧ f x = z := by
  unfold partOf
  simp only [List.mem_map, List.mem_filter, List.mem_range, beq_iff_eq]
  constructor
  · rintro ⟨y, h, e⟩
    have : y = x := by omega
    subst this
    exact h
  · intro h
    exact ⟨x, h, rfl⟩
theorem part_nodup {size : Nat} {f : Nat → Nat} {z : Nat} : (partOf size f z).Nodup := by
  unfold partOf
  refine (List.Pairwise.filter _ List.nodup_range).map _ fun a b h e => h (by omega)
theorem turned_id {many size : Nat} {n : Net} (hn : GoodNet many size n) {t : Nat → Int} (ht : ∀ x, t x = 1 ∨ t x = -1) (h : ∀ x y, adj n x y → t x = t y) : turnedN t n = n := by
  unfold turnedN
  conv => rhs; rw [← List.map_id n]
  refine List.map_congr_left fun r hr => ?_
  refine List.ext_getElem? fun x => ?_
  by_cases hx : x < size
  · obtain ⟨y, s, e, _, _, _⟩ := (hn.row r hr).ok x hx
    rw [turnedR_get e, id, e]
    simp only [Int.toNat_natCast]
    rw [h x y ⟨r, hr, s, e⟩, Int.mul_assoc]
    rcases ht y with e' | e' <;> rw [e'] <;> simp
  · have l : r.length = size := (hn.row r hr).len
    rw [id, List.getElem?_eq_none (by unfold turnedR; simp; omega), List.getElem?_eq_none (by omega)]
theorem part_turned {many size : Nat} {n : Net} (hn : GoodNet many size n) {f : Nat → Nat} (hf : Fixed n f) (z : Nat) : turnedN (sgn (partOf size f z)) n = n := by
  refine turned_id hn (sgn_cases _) fun x y a => ?_
  unfold sgn
  rw [part_nodup.count, part_nodup.count]
  have hx := (adj_lt hn a).1
  have hy := (adj_lt hn a).2
  have : (x : Int) ∈ partOf size f z ↔ (y : Int) ∈ partOf size f z := by
    rw [part_mem, part_mem, hf.1 x y a]
    simp [hx, hy]
  simp only [this]
theorem for_byE {n : En → Prop} {rt : R → En → Prop} {bk ct : En → Prop} {as : List Nat} {Gd : DG} {B : DS} {items : List D} {cs : List (Nat × Cn)} {δ : En} (I : Nat → En → Prop) (End : En → Prop) (h0 : I 0 δ) (hcs : ∀ p ∈ cs, p.1 ∉ as) (hi : ∀ k δ, I k δ → ∀ p ∈ cs, δ[p.1]? = some (E.ow p.2))
    (ht : ∀ n : En → Prop, (∀ δ, End δ → n δ) → ∀ k x δ, items[k]? = some x → I k δ → Gd x δ fun δ' => B ⟨I (k + 1), rt, n, I (k + 1)⟩ δ') (he : ∀ δ, I items.length δ → End δ) (hE : ∀ δ, End δ → n δ) : ForK as Gd B ⟨n, rt, bk, ct⟩ items cs δ :=
  for_by I h0 hcs hi (ht n hE) fun δ h => hE _ (he _ h)
theorem lowD_pu {size : Nat} {f : Nat → Nat} : Pu 1 (.lst (lowD size f)) := Pu.map fun _ _ => .int _
end L3
/-! L3, part W: == by an own __eq__. -/
namespace L3
open PySem PySem.Spec PyProof.Rows L2
/-- == of two instances by the class's own __eq__, by its promise -/
def rEqO (C : Addr) (sp : Sp) (W : XK) : R2 := fun x y H Q => ∃ a b dx dy fs gs, x = .ref a ∧ y = .ref b ∧ H a = some (.ins C dx fs) ∧ H b = some (.ins C dy gs) ∧ sp [.ref a, .ref b] H (fun v H' => ∃ r, v = .bl r ∧ Q (.bl r) H') W
theorem op_eqO {X : Cx} {CX : CXT} {n : Nat} {C f : Addr} {fd : FuncData} {ps : List Str} {sp : Sp} {W : XK} (F : FnOk X.prog X.w X.K X.mg X.base CX n f fd ps sp) (hr : Room n X.A)
    (hs : PySem.W.findIn X.K (.ref C) "__eq__" = some (some (.ref f))) (hf : PySem.W.isFn X.K (.ref f) = true) (hb : Binds X.K fd ps []) (hx : Passes CX X W) : OpR X (compareOp .Eq) (rEqO C sp W) := by
  intro pins s σ H x y u v Q I rx ry d
  obtain ⟨a, b, dx, dy, fs, gs, rfl, rfl, ha, hb', hsp⟩ := d
  cases rx
  cases ry
  show wpAny (model X.prog X.w) X.A (richCompare .Eq (.ref a) (.ref b)) (EP X pins σ Q) X.xe s
  obtain ⟨mA, J, _⟩ := ins_get I.hok ha
  obtain ⟨mB, J', _⟩ := ins_get I.hok hb'
  obtain ⟨od, J, _⟩ := J.look
  obtain ⟨od', J', _⟩ := J'.look
  obtain ⟨m, hF⟩ := I.fr
  refine PySem.W.cmp_K (op := .Eq) (tb := .ref C) hr.units0 hF I.ok.mod.kin J J'.type (by simp [PySem.W.notFirst]) hs hf ?_
  have hl := F.len _ _ _ _ hsp
  have r2 : Vals [V.ref a, V.ref b] [Value.ref a, Value.ref b] := .cons rfl (.cons rfl .nil)
  refine wpAny_call (codeAny_mono (F.run X.A X.stack s H ⟨[.ref a, .ref b], []⟩ [.ref a, .ref b] [.ref a, .ref b] _ W hr I.env0 (by
    have := hb s [.ref a, .ref b] I.kIn (by simpa using hl)
    simpa using this) r2 hsp) fun r s' hq => ?_)
  cases r with
  | error e => exact hx pins σ H s e s' I hq
  | ok fl =>
    cases fl with
    | ret w =>
      obtain ⟨z, H', I', rz, r, ez, q⟩ := I.after hq
      subst ez
      cases rz
      exact ⟨.bl r, H', I', rfl, q⟩
    | next => exact False.elim hq
    | brk => exact False.elim hq
    | cont => exact False.elim hq
theorem pe_eqO {X : Cx} {cn : Str} {k : Nat} {sp : DSp} {a b : Expr} {ta tb : TE} {pos : Pos} (h : MP X.prog X.w X.K X.mg X.base cn "__eq__" k 2 sp) (hr : Room k X.A) (ha : PE X a ta) (hb : PE X b tb) :
    PE X (.Compare a [.Eq] [b] pos) (tOp (rEqO (He.ga X.K cn) (up X.K 2 sp) E0) ta tb) := by
  obtain ⟨fd, ps, F, bb⟩ := h.ex
  exact pe_cmpR (op_eqO F hr h.me.at_ h.me.fn bb pass0) ha hb (nomark _)
section
variable {K : PySem.W.Frag}
def teqO (cn : Str) (sp : DSp) (Ta Tb : DT) : DT := fun δ Q => Ta δ fun x δ1 => Tb δ1 fun y δ2 => ∃ ns ds ns' ds', x.dat δ2 = some (.obj cn ns ds) ∧ y.dat δ2 = some (.obj cn ns' ds') ∧
  (rfs [x, y]).Nodup ∧ ∃ es, passes δ2 [x, y] [false, false] = some es ∧ sp es fun r es' => ∃ b, r = .va (.bl b) ∧ Q (.va (.bl b)) (puts δ2 [x, y] es')
theorem snd_eqO {cn : Str} {sp : DSp} {ta tb : TE} {Ta Tb : DT} {W : XK} (a : Snd K ta Ta) (b : Snd K tb Tb) : Snd K (tOp (rEqO (He.ga K cn) (up K 2 sp) W) ta tb) (teqO cn sp Ta Tb) := fun σ H G δ Q Q3 L h k => by
  refine a σ H G δ _ _ L h fun x δ1 v H1 G1 L1 f1 le1 rx h1 => ?_
  refine b σ H1 G1 δ1 _ _ L1 h1 fun y δ2 u H2 G2 L2 f2 le2 ry h2 => ?_
  obtain ⟨ns, ds, ns', ds', ex, ey, nd, es, he, hs⟩ := h2
  have f12 : Fr (Ad σ δ) H G H2 G2 := f1.trans f2 fun a h => .inl (le1.ad h)
  have rx2 := rx.on L f1 le1 f2
  obtain ⟨l, dx, vs, rfl, h3, h4, h5⟩ := sh_of L2 rx2 ex
  obtain ⟨l', dx', vs', rfl, h3', h4', h5'⟩ := sh_of L2 ry ey
  refine ⟨l, l', dx, dx', _, _, rfl, rfl, h3, h3', ?_⟩
  refine call_core L L2 f12 (le2.trans le1) (.cons rx2 (.cons (ry.base fun a h => f1.free h) .nil fun c e j c' e' => by simp at e') fun c e j c' e' e2 => ?_) nd rfl he hs fun r es' v H' G' l f le r _ q => ?_
  · subst e
    cases j with
    | zero =>
      simp at e'
      subst e'
      simp at e2
      subst e2
      obtain ⟨p, e3, n, g, hc⟩ := rx
      obtain ⟨p', h5', n', _⟩ := ry
      cases e3
      cases h5'
      exact hc.some n'
    | succ j => simp at e'
  · obtain ⟨b, rfl, q⟩ := q
    have ev : v = .bl b := by
      cases (show At K G' v (.bl b) from r)
      rfl
    subst ev
    exact ⟨b, rfl, k (.va (.bl b)) _ (.bl b) H' G' l f le (.bl b) q⟩
end
section
variable {Q : R → En → Prop} {δ : En} {T U : DT}
theorem p_eqO {cn : Str} {sp : DSp} (k : T δ fun x δ1 => U δ1 fun y δ2 => ∃ ns ds ns' ds', x.dat δ2 = some (.obj cn ns ds) ∧ y.dat δ2 = some (.obj cn ns' ds') ∧
    ∃ es, passes δ2 [x, y] [false, false] = some es ∧ (rfs [x, y]).Nodup ∧ sp es fun r es' => ∃ b, r = .va (.bl b) ∧ ∃ δ', puts δ2 [x, y] es' = δ' ∧ Q (.va (.bl b)) δ') : teqO cn sp T U δ Q := by
  simp only [exists_eq_left'] at k
  unfold teqO
  have : ∀ (rs : List R) δ1 (P : En → Prop), (∃ es, passes δ1 rs [false, false] = some es ∧ (rfs rs).Nodup ∧ P es) = ((rfs rs).Nodup ∧ ∃ es, passes δ1 rs [false, false] = some es ∧ P es) := fun rs δ1 P => propext ⟨fun ⟨es, a, b, c⟩ => ⟨b, es, a, c⟩, fun ⟨b, es, a, c⟩ => ⟨es, a, b, c⟩⟩
  simp only [this] at k
  exact k
theorem p_obj2 {r u : R} {cn : Str} {ns ns' : List Str} {ds ds' : List D} {P : Prop} (e : r.dat δ = some (.obj cn ns ds)) (e' : u.dat δ = some (.obj cn ns' ds')) (k : P) : ∃ ns ds ns' ds', r.dat δ = some (.obj cn ns ds) ∧ u.dat δ = some (.obj cn ns' ds') ∧ P := ⟨ns, ds, ns', ds', e, e', k⟩
end
end L3
/-! L3, part X: namings, one after the other; switching under a naming. -/
namespace L3
open PySem PySem.Spec PyProof.Rows L2
/-- the one naming behind the other -/
def compN (names more : List Int) : List Int := names.map fun x => more.getD x.toNat 0
theorem compN_get {names more : List Int} {x j i : Nat} (h : names[x]? = some (j : Int)) (h2 : more[j]? = some (i : Int)) : (compN names more)[x]? = some (i : Int) := by
  unfold compN
  rw [List.getElem?_map, h]
  simp [List.getD_eq_getElem?_getD, h2]
theorem naming_comp {size : Nat} {names more : List Int} (hn : Naming size names) (hm : Naming size more) : Naming size (compN names more) where
  len := by unfold compN; rw [List.length_map, hn.len]
  nd := by
    unfold compN
    refine (List.pairwise_map.mpr ?_)
    refine hn.nd.imp_of_mem fun {a b} ha hb ne e => ne ?_
    obtain ⟨a0, a1⟩ := hn.ok a ha
    obtain ⟨b0, b1⟩ := hn.ok b hb
    obtain ⟨i, h1, _, h2⟩ := hm.get (x := a.toNat) (by omega)
    obtain ⟨i', h1', _, h2'⟩ := hm.get (x := b.toNat) (by omega)
    rw [h2, h2'] at e
    have ei : i = i' := by omega
    subst ei
    have := nodup_inj hm.nd h1 h1'
    omega
  ok := fun x hx => by
    obtain ⟨a, ha, rfl⟩ := List.mem_map.mp hx
    obtain ⟨a0, a1⟩ := hn.ok a ha
    obtain ⟨i, h1, h3, h2⟩ := hm.get (x := a.toNat) (by omega)
    rw [h2]
    omega
theorem named_comp {size : Nat} {names more : List Int} {r : Row} (hn : Naming size names) (hm : Naming size more) (g : GoodRow size r) : namedR more (namedR names r) = namedR (compN names more) r := by
  have gl := g.len
  refine named_unique (naming_comp hn hm) gl (by rw [namedR_len, namedR_len]; exact gl) fun x i p e ep => ?_
  have hx : x < size := by rw [← gl]; exact (List.getElem?_eq_some_iff.mp ep).1
  obtain ⟨j, h1, hj, h2⟩ := hn.get hx
  obtain ⟨i', h3, hi', h4⟩ := hm.get hj
  rw [compN_get h1 h3] at e
  have : i' = i := by
    have := Option.some.inj e
    omega
  subst this
  obtain ⟨y, s, e1, hy, _, _⟩ := g.ok x hx
  rw [ep] at e1
  have ep' := Option.some.inj e1
  subst ep'
  rw [namedR_get hm (by rw [namedR_len]; exact gl) h3 (namedR_get hn gl h1 ep)]
  obtain ⟨j', q1, hj', q2⟩ := hn.get hy
  obtain ⟨k', q3, hk', q4⟩ := hm.get hj'
  have q5 : (compN names more).getD y 0 = (k' : Int) := by
    rw [List.getD_eq_getElem?_getD, compN_get q1 q3]
    rfl
  unfold namedP
  simp only [Int.toNat_natCast, q2, q4, q5]
theorem namedN_comp {many size : Nat} {names more : List Int} {n : Net} (hn : Naming size names) (hm : Naming size more) (g : GoodNet many size n) : namedN more (namedN names n) = namedN (compN names more) n := by
  unfold namedN
  rw [List.map_map]
  exact List.map_congr_left fun r hr => named_comp hn hm (g.row r hr)
/-- the copies under new numbers -/
def carryN (ns some : List Int) : List Int := some.map fun x => ns.getD x.toNat 0
theorem count_carry {size : Nat} {ns : List Int} (hn : Naming size ns) {x i : Nat} (e : ns[x]? = some (i : Int)) : ∀ {l : List Int}, (∀ y ∈ l, 0 ≤ y ∧ y < (size : Int)) → (carryN ns l).count (i : Int) = l.count (x : Int)
  | [], _ => rfl
  | y :: l, h => by
    have ih := count_carry hn e (l := l) fun y hy => h y (List.mem_cons_of_mem _ hy)
    obtain ⟨y0, y1⟩ := h y List.mem_cons_self
    obtain ⟨j, h1, _, h2⟩ := hn.get (x := y.toNat) (by omega)
    unfold carryN at ih ⊢
    rw [List.map_cons, List.count_cons, List.count_cons, ih, h2]
    have : ((j : Int) == (i : Int)) = (y == (x : Int)) := by
      by_cases z : y = (x : Int)
      · subst z
        rw [Int.toNat_natCast, e] at h1
        have := Option.some.inj h1
        rw [this, beq_self_eq_true, beq_self_eq_true]
      · have : ¬ j = i := fun q => by
          subst q
          have := nodup_inj hn.nd h1 e
          omega
        rw [beq_eq_false_iff_ne.mpr (show (j : Int) ≠ (i : Int) by omega), beq_eq_false_iff_ne.mpr z]
    rw [this]
theorem sgn_carry {size : Nat} {ns l : List Int} (hn : Naming size ns) (hl : ∀ y ∈ l, 0 ≤ y ∧ y < (size : Int)) {x i : Nat} (e : ns[x]? = some (i : Int)) : sgn (carryN ns l) i = sgn l x := by
  unfold sgn
  rw [count_carry hn e hl]
theorem turned_named {size : Nat} {ns l : List Int} {r : Row} (hn : Naming size ns) (hl : ∀ y ∈ l, 0 ≤ y ∧ y < (size : Int)) (g : GoodRow size r) : turnedR (sgn (carryN ns l)) (namedR ns r) = namedR ns (turnedR (sgn l) r) := by
  have gl := g.len
  refine named_unique hn (by rw [turnedR_len]; exact gl) (by rw [turnedR_len, namedR_len]; exact gl) fun x i p e ep => ?_
  have hx : x < size := by
    have := (List.getElem?_eq_some_iff.mp ep).1
    rw [turnedR_len] at this
    omega
  obtain ⟨y, s, e1, hy, _, _⟩ := g.ok x hx
  rw [turnedR_get e1] at ep
  have ep' := Option.some.inj ep
  subst ep'
  rw [turnedR_get (namedR_get hn gl e e1)]
  obtain ⟨j, q1, hj, q2⟩ := hn.get hy
  unfold namedP
  simp only [Int.toNat_natCast, q2, sgn_carry hn hl e, sgn_carry hn hl q1]
theorem turnedN_named {many size : Nat} {ns l : List Int} {n : Net} (hn : Naming size ns) (hl : ∀ y ∈ l, 0 ≤ y ∧ y < (size : Int)) (g : GoodNet many size n) : turnedN (sgn (carryN ns l)) (namedN ns n) = namedN ns (turnedN (sgn l) n) := by
  unfold turnedN namedN
  rw [List.map_map, List.map_map]
  exact List.map_congr_left fun r hr => turned_named hn hl (g.row r hr)
theorem carry_ok {size : Nat} {ns l : List Int} (hn : Naming size ns) (hl : ∀ y ∈ l, 0 ≤ y ∧ y < (size : Int)) : ∀ y ∈ carryN ns l, 0 ≤ y ∧ y < (size : Int) := fun y hy => by
  obtain ⟨a, ha, rfl⟩ := List.mem_map.mp hy
  obtain ⟨a0, a1⟩ := hl a ha
  obtain ⟨i, h1, h3, h2⟩ := hn.get (x := a.toNat) (by omega)
  rw [h2]
  omega
/-- ways that meet behind a statement -/
theorem seqJ {S S2 : DS} {n : En → Prop} {rt : R → En → Prop} {bk ct : En → Prop} {δ : En} (J : En → Prop) (h1 : ∀ m : En → Prop, (∀ δ, J δ → m δ) → S ⟨m, rt, bk, ct⟩ δ) (h2 : ∀ δ, J δ → S2 ⟨n, rt, bk, ct⟩ δ) : seq S S2 ⟨n, rt, bk, ct⟩ δ := h1 _ h2
end L3
/-! L3, part Y: a list of lists of our own (a grid) in one slot: its rows change in place. -/
namespace L3
open PySem PySem.Spec PyProof.Rows L2
section
variable {K : PySem.W.Frag}
/-- slot m holds the list M of the lists al; rows tells what they hold (none: lent to another slot) -/
structure Grid (K : PySem.W.Frag) (HE HB : Hp) (σ : L2.St) (H G : Hp) (δ : En) (m : Nat) (M : Addr) (al : List Addr) (rows : List (Option (List D))) : Prop where
  sl : σ[m]? = some (some (V.ref M))
  hM : H M = some (.lst (al.map V.ref))
  gM : G M = none
  fr : ∀ a ∈ M :: al, HE a = none ∧ HB a = none
  nd : (M :: al).Nodup
  ad : ¬ Ad σ δ M
  len : al.length = rows.length
  row : ∀ (i : Nat) a r, al[i]? = some a → rows[i]? = some (some r) → ¬ Ad σ δ a ∧ G a = none ∧ ∃ vs, H a = some (.lst vs) ∧ AtL K G vs r
theorem Grid.nxt {F : FE} {HE HB : Hp} {σ σ' : L2.St} {H G H' G' : Hp} {δ δ' : En} {m : Nat} {M : Addr} {al : List Addr} {rows : List (Option (List D))} {bs : List Nat} (g : Grid K HE HB σ H G δ m M al rows) (n : Nxt K F bs σ H G δ σ' H' G' δ') (hm : m ∉ bs) : Grid K HE HB σ' H' G' δ' m M al rows where
  sl := (n.st m hm).trans g.sl
  hM := n.f.h M _ g.ad g.hM
  gM := (n.f.n M g.ad (by rw [g.hM]; exact fun z => nomatch z)).trans g.gM
  fr := g.fr
  nd := g.nd
  ad := fun z => (n.ow M z).elim g.ad fun h => by rw [g.hM] at h; cases h
  len := g.len
  row := fun i a r e1 e2 => by
    obtain ⟨h1, h2, vs, h3, h4⟩ := g.row i a r e1 e2
    exact ⟨fun z => (n.ow a z).elim h1 (fun h => by rw [h3] at h; cases h), (n.f.n a h1 (by rw [h3]; exact fun z => nomatch z)).trans h2, vs, n.f.h a _ h1 h3, h4.mono n.f.sub⟩
/-- what is wanted behind a statement over a grid -/
structure DEY where
  nx : En → List (List D) → Prop
  rt : R → En → Prop
  bk : En → List (List D) → Prop := fun _ _ => False
  ct : En → List (List D) → Prop := fun _ _ => False
abbrev YS := DEY → En → List (List D) → Prop
/-- a place behind the grid's making: from the base (σ0 ..) -/
structure YX (K : PySem.W.Frag) (F : FE) (as0 : List Nat) (σ0 : L2.St) (H0 G0 : Hp) (δ0 : En) (m : Nat) (bs : List Nat) (σ : L2.St) (G : Hp) (σ' : L2.St) (H' G' : Hp) (δ' : En) (rows : List (List D)) : Prop where
  n : Nxt K F as0 σ0 H0 G0 δ0 σ' H' G' δ'
  g : ∃ M al, Grid K F.HE H0 σ' H' G' δ' m M al (rows.map some)
  sub : Sub G G'
  st : ∀ i : Nat, i ∉ bs → σ'[i]? = σ[i]?
structure GoodY (K : PySem.W.Frag) (F : FE) (as0 : List Nat) (σ0 : L2.St) (H0 G0 : Hp) (δ0 : En) (m : Nat) (bs : List Nat) (σ : L2.St) (G : Hp) (D3 : DEY) (D : Ends) : Prop where
  nx : ∀ σ' H' G' δ' rows, YX K F as0 σ0 H0 G0 δ0 m bs σ G σ' H' G' δ' rows → D3.nx δ' rows → D.nx σ' H'
  bk : ∀ σ' H' G' δ' rows, YX K F as0 σ0 H0 G0 δ0 m bs σ G σ' H' G' δ' rows → D3.bk δ' rows → D.bk σ' H'
  ct : ∀ σ' H' G' δ' rows, YX K F as0 σ0 H0 G0 δ0 m bs σ G σ' H' G' δ' rows → D3.ct δ' rows → D.ct σ' H'
  rt : ∀ σ' H' G' δ' r v, Nxt K F as0 σ0 H0 G0 δ0 σ' H' G' δ' → RR K [] F.HE H' G' r v → (∀ i, r ≠ .rf i) → D3.rt r δ' → D.rt v H'
/-- a statement over a grid -/
def SndY (K : PySem.W.Frag) (ps : List Nat) (m : Nat) (bs : List Nat) (t : TS) (T : YS) : Prop := ∀ (F : FE), (∀ i l, F.P i l → i ∈ ps) → (∀ i ∈ bs, ∀ l, ¬ F.P i l) → ∀ (as0 : List Nat) (σ0 : L2.St) (H0 G0 : Hp) (δ0 : En), (∀ i ∈ bs, i ∈ as0) →
  ∀ (σ : L2.St) (H G : Hp) (δ : En) (rows : List (List D)) (D3 : DEY) (D : Ends), Nxt K F as0 σ0 H0 G0 δ0 σ H G δ → (∃ M al, Grid K F.HE H0 σ H G δ m M al (rows.map some)) → T D3 δ rows → GoodY K F as0 σ0 H0 G0 δ0 m bs σ G D3 D → t D σ H
/-- statements that end without the grid -/
abbrev YP := DE → En → List (List D) → Prop
def SndYP (K : PySem.W.Frag) (ps : List Nat) (m : Nat) (bs : List Nat) (t : TS) (T : YP) : Prop := ∀ (F : FE), (∀ i l, F.P i l → i ∈ ps) → (∀ i ∈ bs, ∀ l, ¬ F.P i l) → ∀ (as0 : List Nat) (σ0 : L2.St) (H0 G0 : Hp) (δ0 : En), (∀ i ∈ bs, i ∈ as0) →
  ∀ (σ : L2.St) (H G : Hp) (δ : En) (rows : List (List D)) (D3 : DE) (D : Ends), Nxt K F as0 σ0 H0 G0 δ0 σ H G δ → (∃ M al, Grid K F.HE H0 σ H G δ m M al (rows.map some)) → T D3 δ rows → Good K F as0 σ0 H0 G0 δ0 D3 D → t D σ H
theorem YX.trans {F : FE} {as0 bs cs ds : List Nat} {σ0 σ σ1 σ2 : L2.St} {H0 G0 G H1 G1 H2 G2 : Hp} {δ0 δ1 δ2 : En} {m : Nat} {r1 r2 : List (List D)} (x : YX K F as0 σ0 H0 G0 δ0 m bs σ G σ1 H1 G1 δ1 r1) (y : YX K F as0 σ0 H0 G0 δ0 m cs σ1 G1 σ2 H2 G2 δ2 r2) (h : ∀ i, i ∈ bs ++ cs → i ∈ ds) : YX K F as0 σ0 H0 G0 δ0 m ds σ G σ2 H2 G2 δ2 r2 :=
  ⟨y.n, y.g, x.sub.trans y.sub, fun i hi => (y.st i fun z => hi (h i (List.mem_append_right _ z))).trans (x.st i fun z => hi (h i (List.mem_append_left _ z)))⟩
theorem GoodY.from {F : FE} {as0 bs cs ds : List Nat} {σ0 σ σ1 : L2.St} {H0 G0 G H1 G1 : Hp} {δ0 δ1 : En} {m : Nat} {r1 : List (List D)} {D3 : DEY} {D : Ends} (g : GoodY K F as0 σ0 H0 G0 δ0 m ds σ G D3 D) (x : YX K F as0 σ0 H0 G0 δ0 m bs σ G σ1 H1 G1 δ1 r1) (h : ∀ i, i ∈ bs ++ cs → i ∈ ds) : GoodY K F as0 σ0 H0 G0 δ0 m cs σ1 G1 D3 D :=
  ⟨fun _ _ _ _ _ y q => g.nx _ _ _ _ _ (x.trans y h) q, fun _ _ _ _ _ y q => g.bk _ _ _ _ _ (x.trans y h) q, fun _ _ _ _ _ y q => g.ct _ _ _ _ _ (x.trans y h) q, g.rt⟩
theorem YX.refl {F : FE} {as0 bs : List Nat} {σ0 σ : L2.St} {H0 G0 H G : Hp} {δ0 δ : En} {m : Nat} {rows : List (List D)} (n : Nxt K F as0 σ0 H0 G0 δ0 σ H G δ) (g : ∃ M al, Grid K F.HE H0 σ H G δ m M al (rows.map some)) : YX K F as0 σ0 H0 G0 δ0 m bs σ G σ H G δ rows := ⟨n, g, .refl, fun _ _ => rfl⟩
/-- behind a plain step -/
theorem YX.plain {F : FE} {as0 bs : List Nat} {σ0 σ σ1 : L2.St} {H0 G0 H G H1 G1 : Hp} {δ0 δ δ1 : En} {m : Nat} {rows : List (List D)} (n : Nxt K F as0 σ0 H0 G0 δ0 σ H G δ) (g : ∃ M al, Grid K F.HE H0 σ H G δ m M al (rows.map some)) (x : Nxt K F bs σ H G δ σ1 H1 G1 δ1) (hm : m ∉ bs) (hb : ∀ i ∈ bs, i ∈ as0) : YX K F as0 σ0 H0 G0 δ0 m bs σ G σ1 H1 G1 δ1 rows := by
  obtain ⟨M, al, g⟩ := g
  exact ⟨(n.trans x).mono fun i hi => (List.mem_append.mp hi).elim id (hb i), ⟨M, al, g.nxt x hm⟩, x.f.sub, x.st⟩
def yplain (T : DS) : YS := fun Z δ rows => T { nx := fun δ' => Z.nx δ' rows, rt := Z.rt, bk := fun δ' => Z.bk δ' rows, ct := fun δ' => Z.ct δ' rows } δ
theorem sndy_plain {ps bs : List Nat} {m : Nat} {t : TS} {T : DS} (a : SndSP K ps bs t T) (hm : m ∉ bs) : SndY K ps m bs t (yplain T) := fun F hps hp as0 σ0 H0 G0 δ0 hb σ H G δ rows D3 D n g h gd =>
  a F hps hp σ H G δ _ _ n.s h ⟨fun _ _ _ _ x q => gd.nx _ _ _ _ _ (.plain n g x hm hb) q, fun _ _ _ _ x q => gd.bk _ _ _ _ _ (.plain n g x hm hb) q, fun _ _ _ _ x q => gd.ct _ _ _ _ _ (.plain n g x hm hb) q,
    fun _ _ _ _ _ _ x rr nr q => gd.rt _ _ _ _ _ _ ((n.trans x).mono fun i hi => (List.mem_append.mp hi).elim id (hb i)) rr nr q⟩
def yseq (T U : YS) : YS := fun Z δ rows => T { Z with nx := U Z } δ rows
theorem sndy_seq {ps bs cs : List Nat} {m : Nat} {t u : TS} {T U : YS} (a : SndY K ps m bs t T) (b : SndY K ps m cs u U) : SndY K ps m (bs ++ cs) (tSeq t u) (yseq T U) := fun F hps hp as0 σ0 H0 G0 δ0 hb σ H G δ rows D3 D n g h gd =>
  a F hps (fun i hi => hp i (List.mem_append_left _ hi)) as0 σ0 H0 G0 δ0 (fun i hi => hb i (List.mem_append_left _ hi)) σ H G δ rows _ _ n g h
    ⟨fun _ _ _ _ _ x q => b F hps (fun i hi => hp i (List.mem_append_right _ hi)) as0 σ0 H0 G0 δ0 (fun i hi => hb i (List.mem_append_right _ hi)) _ _ _ _ _ _ _ x.n x.g q (gd.from x fun _ z => z),
     fun _ _ _ _ _ x q => gd.bk _ _ _ _ _ ⟨x.n, x.g, x.sub, fun i hi => x.st i fun z => hi (List.mem_append_left _ z)⟩ q, fun _ _ _ _ _ x q => gd.ct _ _ _ _ _ ⟨x.n, x.g, x.sub, fun i hi => x.st i fun z => hi (List.mem_append_left _ z)⟩ q, gd.rt⟩
def yif (c : DTT) (T U : YS) : YS := fun Z δ rows => c δ fun b δ1 => if b = true then T Z δ1 rows else U Z δ1 rows
theorem sndy_if {ps bs cs : List Nat} {m : Nat} {c : TT} {t u : TS} {C : DTT} {T U : YS} (hc : SndT K c C) (a : SndY K ps m bs t T) (b : SndY K ps m cs u U) : SndY K ps m (bs ++ cs) (tIfS c t u) (yif C T U) := fun F hps hp as0 σ0 H0 G0 δ0 hb σ H G δ rows D3 D n g h gd => by
  refine hc σ H G δ _ _ n.s.L h fun k δ1 H1 G1 L1 f1 le1 q => ?_
  have x : YX K F as0 σ0 H0 G0 δ0 m [] σ G σ H1 G1 δ1 rows := .plain n g (.step n.s L1 f1 le1) (by simp) (by simp)
  cases k with
  | true => exact a F hps (fun i hi => hp i (List.mem_append_left _ hi)) as0 σ0 H0 G0 δ0 (fun i hi => hb i (List.mem_append_left _ hi)) _ _ _ _ _ _ _ x.n x.g q (gd.from x fun i z => List.mem_append_left _ (by simpa using z))
  | false => exact b F hps (fun i hi => hp i (List.mem_append_right _ hi)) as0 σ0 H0 G0 δ0 (fun i hi => hb i (List.mem_append_right _ hi)) _ _ _ _ _ _ _ x.n x.g q (gd.from x fun i z => List.mem_append_right _ (by simpa using z))
/-- for over a plain source, its turns over the grid -/
def yfor (as : List Nat) (S : DI) (Gd : DG) (B : YS) : YS := fun Z δ rows => S δ fun items cs δ1 => (∀ p ∈ cs, p.1 ∉ as) ∧ ∃ I : Nat → En → List (List D) → Prop, I 0 δ1 rows ∧ (∀ k δ rows, I k δ rows → ∀ p ∈ cs, δ[p.1]? = some (E.ow p.2)) ∧
  (∀ k x δ rows, items[k]? = some x → I k δ rows → Gd x δ fun δ' => B { Z with nx := I (k + 1), ct := I (k + 1), bk := Z.nx } δ' rows) ∧ (∀ δ rows, I items.length δ rows → Z.nx δ rows)
theorem sndy_for {ps gs bs as : List Nat} {m : Nat} {wi : TI} {g : TG} {tb : TS} {S : DI} {Gd : DG} {B : YS} (hi : SndI K wi S) (hg : SndG K gs g Gd) (hb : SndY K ps m bs tb B) (hh : ∀ i, i ∈ gs ++ bs → i ∈ as) (hm : m ∉ gs) : SndY K ps m as (tFor wi g tb) (yfor as S Gd B) := fun F hps hp as0 σ0 H0 G0 δ0 ha σ H G δ rows D3 D n gr h gd => by
  refine hi σ H G δ _ _ n.s.L h fun items cs δ1 J H1 G1 L1 f1 le1 it q => ?_
  obtain ⟨nc, I, I0, Ic, It, Ie⟩ := q
  have x0 : YX K F as0 σ0 H0 G0 δ0 m [] σ G σ H1 G1 δ1 rows := .plain n gr (.step n.s L1 f1 le1) (by simp) (by simp)
  refine ⟨fun i k σ' H' => k = items.length - i ∧ i ≤ items.length ∧ ∃ G' δ' rows', YX K F as0 σ0 H0 G0 δ0 m as σ G1 σ' H' G' δ' rows' ∧ I i δ' rows', ⟨items.length, by simp, Nat.zero_le _, G1, δ1, rows, .refl x0.n x0.g, I0⟩, ?_⟩
  rintro i k σ' H' ⟨rfl, hi, G', δ', rows', x, hI⟩
  have ok := it σ' H' G' δ' x.n.s.L x.sub fun p hp => ⟨Ic i δ' rows' hI p hp, x.st p.1 (nc p hp)⟩
  by_cases hlt : i < items.length
  · obtain ⟨hgo, hy⟩ := ok.1 i items[i] (List.getElem?_eq_getElem hlt)
    refine .inr ⟨hgo, fun σ2 H2 => ∃ G2 δ2 rows2, YX K F as0 σ0 H0 G0 δ0 m as σ G1 σ2 H2 G2 δ2 rows2 ∧ I (i + 1) δ2 rows2, fun σ2 H2 ⟨G2, δ2, rows2, x2, h2⟩ => ⟨items.length - (i + 1), by omega, rfl, hlt, G2, δ2, rows2, x2, h2⟩, fun y H'' yy => ?_⟩
    obtain ⟨G'', fg, sg, hx⟩ := hy y H'' yy
    have n1 : Nxt K F [] σ' H' G' δ' σ' H'' G'' δ' := .step x.n.s (x.n.s.L.grow fg sg) fg.fr .refl
    have x1 : YX K F as0 σ0 H0 G0 δ0 m [] σ' G' σ' H'' G'' δ' rows' := .plain x.n x.g n1 (by simp) (by simp)
    refine hg F (fun i hi => hp i (hh i (List.mem_append_left _ hi))) σ' H'' G'' δ' y _ _ _ n1.s hx (It i _ δ' rows' (List.getElem?_eq_getElem hlt) hI) fun σ2 H2 G2 δ2 n2 _ q2 => ?_
    have x2 : YX K F as0 σ0 H0 G0 δ0 m gs σ' G'' σ2 H2 G2 δ2 rows' := .plain x1.n x1.g n2 hm fun i hi => ha i (hh i (List.mem_append_left _ hi))
    have xx : YX K F as0 σ0 H0 G0 δ0 m as σ G1 σ2 H2 G2 δ2 rows' := (x.trans x1 (ds := as) fun j hj => by simpa using hj).trans x2 fun j hj => (List.mem_append.mp hj).elim id fun z => hh j (List.mem_append_left _ z)
    have up : ∀ {σ3 H3 G3 δ3 r3}, YX K F as0 σ0 H0 G0 δ0 m bs σ2 G2 σ3 H3 G3 δ3 r3 → YX K F as0 σ0 H0 G0 δ0 m as σ G1 σ3 H3 G3 δ3 r3 := fun x3 => xx.trans x3 fun j hj => (List.mem_append.mp hj).elim id fun z => hh j (List.mem_append_right _ z)
    refine hb F hps (fun i hi => hp i (hh i (List.mem_append_right _ hi))) as0 σ0 H0 G0 δ0 (fun i hi => ha i (hh i (List.mem_append_right _ hi))) σ2 H2 G2 δ2 rows' _ _ xx.n xx.g q2
      ⟨fun σ3 H3 G3 δ3 r3 x3 q3 => ⟨G3, δ3, r3, up x3, q3⟩, fun σ3 H3 G3 δ3 r3 x3 q3 => gd.nx _ _ _ _ _ (x0.trans (up x3) fun j hj => by simpa using hj) q3, fun σ3 H3 G3 δ3 r3 x3 q3 => ⟨G3, δ3, r3, up x3, q3⟩, gd.rt⟩
  · have e : i = items.length := by omega
    subst e
    exact .inl ⟨ok.2, gd.nx _ _ _ _ _ (x0.trans x fun j hj => by simpa using hj) (Ie δ' rows' hI)⟩

/-- a row lent to the slot h, and back -/
theorem Grid.lend {F : FE} {as0 : List Nat} {σ0 σ : L2.St} {H0 G0 H G : Hp} {δ0 δ : En} {m h : Nat} {M : Addr} {al : List Addr} {rows : List (Option (List D))} {k : Nat} {a : Addr} {r : List D} (n : Nxt K F as0 σ0 H0 G0 δ0 σ H G δ) (g : Grid K F.HE H0 σ H G δ m M al rows) (ea : al[k]? = some a) (er : rows[k]? = some (some r)) (hh : h ∈ as0) (hp : ∀ l, ¬ F.P h l) (hm : m ≠ h) :
    Nxt K F as0 σ0 H0 G0 δ0 (σ.set h (some (.ref a))) H G (δ.set h (.ow (.l r))) ∧ Grid K F.HE H0 (σ.set h (some (.ref a))) H G (δ.set h (.ow (.l r))) m M al (rows.set k none) := by
  obtain ⟨na, ga, vs, ha, ta⟩ := g.row k a r ea er
  obtain ⟨he, hb⟩ := g.fr a (List.mem_cons_of_mem _ (List.mem_of_getElem? ea))
  have ad' : ∀ l, Ad (σ.set h (some (.ref a))) (δ.set h (.ow (.l r))) l → l = a ∨ Ad σ δ l := fun l z => by
    rcases ad_put n.s.L.len z with z | ⟨z, _⟩
    · exact .inr z
    · cases z
      exact .inl rfl
  have nd := List.nodup_cons.mp g.nd
  refine ⟨⟨⟨n.s.L.setO ga ⟨vs, ha, ta⟩ na, n.s.f, fun j c' l' e q => ?_, fun j l z => ?_⟩, n.f, fun l z => ?_, fun j hj => ?_, ?_⟩, ⟨?_, g.hM, g.gM, g.fr, g.nd, fun z => ?_, ?_, fun i a' r' e1 e2 => ?_⟩⟩
  · rcases set_get e with ⟨rfl, e2, hi⟩ | ⟨ne, e2⟩
    · rw [List.getElem?_set_self (by rw [n.s.L.len]; exact hi)] at q
      cases q
      exact .inr he
    · rw [List.getElem?_set_ne ne] at q
      exact n.s.own j c' l' e2 q
  · have ne : h ≠ j := fun q => hp l (by rw [q]; exact z)
    rw [List.getElem?_set_ne ne]
    exact n.s.par j l z
  · rcases ad' l z with rfl | z
    · exact .inr hb
    · exact n.ow l z
  · have ne : h ≠ j := fun z => hj (by rw [← z]; exact hh)
    rw [List.getElem?_set_ne ne]
    exact n.st j hj
  · rw [List.length_set]
    exact n.ln
  · rw [List.getElem?_set_ne (Ne.symm hm)]
    exact g.sl
  · rcases ad' _ z with rfl | z
    · exact nd.1 (List.mem_of_getElem? ea)
    · exact g.ad z
  · rw [List.length_set]
    exact g.len
  · have nk : k ≠ i := fun z => by
      subst z
      rcases set_get e2 with ⟨_, z, _⟩ | ⟨z, _⟩
      · cases z
      · exact z rfl
    rw [List.getElem?_set_ne nk] at e2
    obtain ⟨h1, h2, h3⟩ := g.row i a' r' e1 e2
    refine ⟨fun z => ?_, h2, h3⟩
    rcases ad' _ z with rfl | z
    · exact nk (nodup_inj nd.2 ea e1)
    · exact h1 z
theorem Grid.back {F : FE} {as0 : List Nat} {σ0 σ : L2.St} {H0 G0 H G : Hp} {δ0 δ : En} {m h : Nat} {M : Addr} {al : List Addr} {rows : List (Option (List D))} {k : Nat} {a : Addr} {r : List D} (n : Nxt K F as0 σ0 H0 G0 δ0 σ H G δ) (g : Grid K F.HE H0 σ H G δ m M al rows) (ea : al[k]? = some a) (er : rows[k]? = some none) (ho : δ[h]? = some (E.ow (.l r))) (hs : σ[h]? = some (some (V.ref a))) (hp : ∀ l, ¬ F.P h l) (hh : h ∈ as0) :
    Nxt K F as0 σ0 H0 G0 δ0 σ H G (δ.set h .no) ∧ Grid K F.HE H0 σ H G (δ.set h .no) m M al (rows.set k (some r)) := by
  have hset : σ.set h (some (V.ref a)) = σ := by
    refine List.ext_getElem? fun j => ?_
    by_cases z : h = j
    · subst z
      rw [List.getElem?_set_self (List.getElem?_eq_some_iff.mp hs).1, hs]
    · rw [List.getElem?_set_ne z]
  have L := n.s.L.setN (i := h) (v := some (V.ref a))
  rw [hset] at L
  obtain ⟨l, q1, q2, vs, q3, q4⟩ := n.s.L.ow h _ ho
  rw [hs] at q1
  cases q1
  have ad' : ∀ l, Ad σ (δ.set h .no) l → Ad σ δ l ∧ l ≠ a := fun l ⟨j, c, e, q⟩ => by
    rcases set_get e with ⟨_, z, _⟩ | ⟨ne, e2⟩
    · cases z
    · refine ⟨⟨j, c, e2, q⟩, fun z => ?_⟩
      subst z
      exact ne (n.s.L.dj h j l _ c ho e2 hs q)
  refine ⟨⟨⟨L, n.s.f, fun j c' l' e q => ?_, n.s.par⟩, n.f, fun l z => n.ow l (ad' l z).1, n.st, n.ln⟩, ⟨g.sl, g.hM, g.gM, g.fr, g.nd, fun z => g.ad (ad' _ z).1, ?_, fun i a' r' e1 e2 => ?_⟩⟩
  · rcases set_get e with ⟨_, z, _⟩ | ⟨ne, e2⟩
    · cases z
    · exact n.s.own j c' l' e2 q
  · rw [List.length_set]
    exact g.len
  · rcases set_get e2 with ⟨rfl, z, _⟩ | ⟨nk, e2⟩
    · cases z
      rw [ea] at e1
      cases e1
      exact ⟨fun z => (ad' _ z).2 rfl, q2, vs, q3, q4⟩
    · obtain ⟨h1, h2, h3⟩ := g.row i a' r' e1 e2
      exact ⟨fun z => h1 (ad' _ z).1, h2, h3⟩
/-- for h in m: its turns change the rows in place -/
def yforA (h : Nat) (B : DS) : YS := fun Z δ rows => ∃ I : Nat → En → List (List D) → Prop, I 0 δ rows ∧ (∀ k δ rs, I k δ rs → rs.length = rows.length) ∧
  (∀ k r δ rs, rs[k]? = some r → I k δ rs → B { nx := fun δ' => ∃ r', δ'[h]? = some (.ow (.l r')) ∧ I (k + 1) (δ'.set h .no) (rs.set k r'), ct := fun δ' => ∃ r', δ'[h]? = some (.ow (.l r')) ∧ I (k + 1) (δ'.set h .no) (rs.set k r'), bk := fun δ' => ∃ r', δ'[h]? = some (.ow (.l r')) ∧ Z.nx (δ'.set h .no) (rs.set k r'), rt := Z.rt } (δ.set h (.ow (.l r)))) ∧
  (∀ δ rs, I rows.length δ rs → Z.nx δ rs)
theorem map_set_some {α : Type} {xs : List α} {k : Nat} {x : α} : ((xs.map some).set k none).set k (some x) = (xs.set k x).map some := by
  rw [List.set_set, List.map_set]
theorem sndy_forA {ps bs as : List Nat} {m h : Nat} {tb : TS} {B : DS} (hb : SndSP K ps bs tb B) (hm : m ≠ h) (hhb : h ∉ bs) (hmb : m ∉ bs) (hh : ∀ i, i ∈ h :: bs → i ∈ as) (hma : m ∉ as) : SndY K ps m as (tFor (iList K (tVar m)) (gName h) tb) (yforA h B) := fun F hps hp as0 σ0 H0 G0 δ0 ha σ H G δ rows D3 D n gr hI gd => by
  obtain ⟨I, I0, Il, It, Ie⟩ := hI
  obtain ⟨M, al, gr⟩ := gr
  have lr : al.length = rows.length := by rw [gr.len, List.length_map]
  refine ⟨.ref M, gr.sl, M, rfl, ⟨_, SqL.of gr.hM⟩, ?_⟩
  refine for_list (xs := al.map V.ref) (fun i σ' H' => ∃ G' δ' rows', Nxt K F as0 σ0 H0 G0 δ0 σ' H' G' δ' ∧ Grid K F.HE H0 σ' H' G' δ' m M al (rows'.map some) ∧ Sub G G' ∧ (∀ j : Nat, j ∉ as → σ'[j]? = σ[j]?) ∧ I i δ' rows') ⟨G, δ, rows, n, gr, .refl, fun _ _ => rfl, I0⟩
    (fun i σ' H' _ ⟨G', δ', rows', n', g', _⟩ => SqL.of g'.hM) ?_ ?_
  · rintro i v σ' H' e ⟨G', δ', rows', n', g', s', st', hI⟩
    obtain ⟨a, ea, rfl⟩ := map_some e
    have hi := (List.getElem?_eq_some_iff.mp ea).1
    have hr : rows'[i]? = some (rows'[i]'(by rw [Il i δ' rows' hI]; omega)) := List.getElem?_eq_getElem _
    generalize rows'[i]'_ = r at hr
    have er : (rows'.map some)[i]? = some (some r) := by rw [List.getElem?_map, hr]; rfl
    have h0 : h ∈ as := hh h List.mem_cons_self
    obtain ⟨n1, g1⟩ := g'.lend n' ea er (ha h h0) (hp h h0) hm
    have fin : ∀ {σ2 H2 G2 δ2} (r' : List L3.D), Nxt K F bs (σ'.set h (some (.ref a))) H' G' (δ'.set h (.ow (.l r))) σ2 H2 G2 δ2 → δ2[h]? = some (E.ow (.l r')) →
        Nxt K F as0 σ0 H0 G0 δ0 σ2 H2 G2 (δ2.set h .no) ∧ Grid K F.HE H0 σ2 H2 G2 (δ2.set h .no) m M al ((rows'.set i r').map some) ∧ Sub G G2 ∧ (∀ j : Nat, j ∉ as → σ2[j]? = σ[j]?) := fun {σ2 H2 G2 δ2} r' x e2 => by
      have n2 := (n1.trans x).mono (bs := as0) fun j hj => (List.mem_append.mp hj).elim id fun z => ha j (hh j (List.mem_cons_of_mem _ z))
      have g2 := g1.nxt x hmb
      have hs : σ2[h]? = some (some (V.ref a)) := by
        have h1 := (List.getElem?_eq_some_iff.mp e2).1
        rw [← n2.s.L.len, x.ln, List.length_set] at h1
        rw [x.st h hhb, List.getElem?_set_self h1]
      obtain ⟨n3, g3⟩ := g2.back n2 ea (by rw [List.getElem?_set_self (by rw [List.length_map]; exact (List.getElem?_eq_some_iff.mp hr).1)]) e2 hs (hp h h0) (ha h h0)
      rw [map_set_some] at g3
      refine ⟨n3, g3, s'.trans x.f.sub, fun j hj => ?_⟩
      rw [x.st j fun z => hj (hh j (List.mem_cons_of_mem _ z)), List.getElem?_set_ne fun z => hj (by rw [← z]; exact h0)]
      exact st' j hj
    refine hb F hps (fun i hi => hp i (hh i (List.mem_cons_of_mem _ hi))) _ H' G' _ _ _ n1.s (It i r δ' rows' hr hI) ⟨fun σ2 H2 G2 δ2 x q => ?_, fun σ2 H2 G2 δ2 x q => ?_, fun σ2 H2 G2 δ2 x q => ?_, fun σ2 H2 G2 δ2 w v x rr nr q => ?_⟩
    · obtain ⟨r', e2, q⟩ := q
      obtain ⟨n3, g3, s3, st3⟩ := fin r' x e2
      exact ⟨G2, _, _, n3, g3, s3, st3, q⟩
    · obtain ⟨r', e2, q⟩ := q
      obtain ⟨n3, g3, s3, st3⟩ := fin r' x e2
      exact gd.nx _ _ _ _ _ ⟨n3, ⟨M, al, g3⟩, s3, st3⟩ q
    · obtain ⟨r', e2, q⟩ := q
      obtain ⟨n3, g3, s3, st3⟩ := fin r' x e2
      exact ⟨G2, _, _, n3, g3, s3, st3, q⟩
    · exact gd.rt _ _ _ _ _ _ ((n1.trans x).mono fun j hj => (List.mem_append.mp hj).elim id fun z => ha j (hh j (List.mem_cons_of_mem _ z))) rr nr q
  · rintro σ' H' ⟨G', δ', rows', n', g', s', st', hI⟩
    rw [List.length_map, lr] at hI
    exact gd.nx _ _ _ _ _ ⟨n', ⟨M, al, g'⟩, s', st'⟩ (Ie δ' rows' hI)

open Classical in
/-- the rows stand still from now on: the grid is a list of our own -/
def ypfree (m : Nat) (T : DS) : YP := fun Z δ rows => T Z (δ.set m (.ow (.l (rows.map D.lst))))
theorem atL_rows {G : Hp} : ∀ {al : List Addr} {rows : List (List D)}, al.length = rows.length → (∀ (i : Nat) a r, al[i]? = some a → rows[i]? = some r → ∃ vs, G a = some (.lst vs) ∧ AtL K G vs r) → AtL K G (al.map V.ref) (rows.map D.lst)
  | [], [], _, _ => .nil
  | a :: al, r :: rows, l, h => by
    obtain ⟨vs, h1, h2⟩ := h 0 a r rfl rfl
    exact .cons (.lst h1 h2) (atL_rows (by simpa using l) fun i a r e1 e2 => h (i + 1) a r (by simpa using e1) (by simpa using e2))
  | [], _ :: _, l, _ => by cases l
  | _ :: _, [], l, _ => by cases l
open Classical in
theorem Grid.free {F : FE} {as0 : List Nat} {σ0 σ : L2.St} {H0 G0 H G : Hp} {δ0 δ : En} {m : Nat} {M : Addr} {al : List Addr} {rows : List (List D)} (n : Nxt K F as0 σ0 H0 G0 δ0 σ H G δ) (g : Grid K F.HE H0 σ H G δ m M al (rows.map some)) (hp : ∀ l, ¬ F.P m l) :
    ∃ G', Nxt K F as0 σ0 H0 G0 δ0 σ H G' (δ.set m (.ow (.l (rows.map D.lst)))) := by
  have lr : al.length = rows.length := by rw [g.len, List.length_map]
  have rw_ : ∀ (i : Nat) a, al[i]? = some a → ∃ r, rows[i]? = some r ∧ ¬ Ad σ δ a ∧ G a = none ∧ ∃ vs, H a = some (.lst vs) ∧ AtL K G vs r := fun i a e => by
    have hi : i < rows.length := by rw [← lr]; exact (List.getElem?_eq_some_iff.mp e).1
    have e2 : rows[i]? = some rows[i] := List.getElem?_eq_getElem hi
    exact ⟨_, e2, g.row i a _ e (by rw [List.getElem?_map, e2]; rfl)⟩
  have key : ∀ a ∈ al, ¬ Ad σ δ a ∧ G a = none ∧ H a ≠ none := fun a ha => by
    obtain ⟨i, hi, rfl⟩ := List.mem_iff_getElem.mp ha
    obtain ⟨r, _, h1, h2, vs, h3, _⟩ := rw_ i _ (List.getElem?_eq_getElem hi)
    exact ⟨h1, h2, by rw [h3]; exact fun z => nomatch z⟩
  let G' : Hp := fun a => if a ∈ al then H a else G a
  have gi : ∀ a, a ∈ al → G' a = H a := fun a h => if_pos h
  have go : ∀ a, a ∉ al → G' a = G a := fun a h => if_neg h
  have s1 : Sub G G' := fun a o h => by
    by_cases z : a ∈ al
    · rw [(key a z).2.1] at h
      cases h
    · rw [go a z]
      exact h
  have s2 : Sub G' H := fun a o h => by
    by_cases z : a ∈ al
    · rw [gi a z] at h
      exact h
    · rw [go a z] at h
      exact n.s.L.sub a o h
  have nM : M ∉ al := (List.nodup_cons.mp g.nd).1
  have L1 : Rel K σ H G' δ := ⟨n.s.L.len, s2, fun i d e => by
      obtain ⟨v, h1, h2⟩ := n.s.L.va i d e
      exact ⟨v, h1, h2.mono s1⟩, fun i c e => by
      obtain ⟨l, h1, h2, h3⟩ := n.s.L.ow i c e
      have nl : l ∉ al := fun z => (key l z).1 ⟨i, c, e, h1⟩
      exact ⟨l, h1, (go l nl).trans h2, h3.mono (fun _ z => z) s1⟩, n.s.L.dj⟩
  have hset : σ.set m (some (V.ref M)) = σ := by
    refine List.ext_getElem? fun j => ?_
    by_cases z : m = j
    · subst z
      rw [List.getElem?_set_self (List.getElem?_eq_some_iff.mp g.sl).1, g.sl]
    · rw [List.getElem?_set_ne z]
  have L2 := L1.setO (i := m) (l := M) (c := .l (rows.map D.lst)) ((go M nM).trans g.gM) ⟨al.map V.ref, g.hM, atL_rows lr fun i a r e1 e2 => by
      obtain ⟨r', e3, _, _, vs, h3, h4⟩ := rw_ i a e1
      rw [e2] at e3
      cases e3
      exact ⟨vs, by rw [gi a (List.mem_of_getElem? e1)]; exact h3, h4.mono s1⟩⟩ g.ad
  rw [hset] at L2
  obtain ⟨heM, hbM⟩ := g.fr M List.mem_cons_self
  have ad' : ∀ l, Ad σ (δ.set m (.ow (.l (rows.map D.lst)))) l → l = M ∨ Ad σ δ l := fun l ⟨j, c, e, q⟩ => by
    rcases set_get e with ⟨rfl, _, _⟩ | ⟨ne, e2⟩
    · rw [g.sl] at q
      cases q
      exact .inl rfl
    · exact .inr ⟨j, c, e2, q⟩
  have frz : ∀ {A : Addr → Prop} {Hb Gb : Hp}, Fr A Hb Gb H G → (∀ a ∈ al, Hb a = none) → Fr A Hb Gb H G' := fun f hb => ⟨f.h, fun a o h => s1 _ _ (f.g a o h), fun a na h => (go a fun z => h (hb a z)).trans (f.n a na h), f.d⟩
  refine ⟨G', ⟨L2, frz n.s.f fun a z => (g.fr a (List.mem_cons_of_mem _ z)).1, fun j c' l' e q => ?_, n.s.par⟩, frz n.f fun a z => (g.fr a (List.mem_cons_of_mem _ z)).2, fun l z => ?_, n.st, n.ln⟩
  · rcases set_get e with ⟨rfl, _, _⟩ | ⟨ne, e2⟩
    · rw [g.sl] at q
      cases q
      exact .inr heM
    · exact n.s.own j c' l' e2 q
  · rcases ad' l z with rfl | z
    · exact .inr hbM
    · exact n.ow l z
theorem sndyp_free {ps bs : List Nat} {m : Nat} {t : TS} {T : DS} (a : SndSP K ps bs t T) (hm : m ∉ ps) : SndYP K ps m bs t (ypfree m T) := fun F hps hp as0 σ0 H0 G0 δ0 hb σ H G δ rows D3 D n g h gd => by
  obtain ⟨M, al, g⟩ := g
  obtain ⟨G', n'⟩ := g.free n fun l z => hm (hps m l z)
  have tr : ∀ {σ1 H1 G1 δ1}, Nxt K F bs σ H G' (δ.set m (.ow (.l (rows.map L3.D.lst)))) σ1 H1 G1 δ1 → Nxt K F as0 σ0 H0 G0 δ0 σ1 H1 G1 δ1 := fun x => (n'.trans x).mono fun i hi => (List.mem_append.mp hi).elim id (hb i)
  exact a F hps hp σ H G' _ _ _ n'.s h ⟨fun _ _ _ _ x q => gd.nx _ _ _ _ (tr x) q, fun _ _ _ _ x q => gd.bk _ _ _ _ (tr x) q, fun _ _ _ _ x q => gd.ct _ _ _ _ (tr x) q, fun _ _ _ _ _ _ x rr nr q => gd.rt _ _ _ _ _ _ (tr x) rr nr q⟩
def ypseq (T : YS) (U : YP) : YP := fun Z δ rows => T { nx := U Z, rt := Z.rt } δ rows
theorem sndyp_seq {ps bs cs : List Nat} {m : Nat} {t u : TS} {T : YS} {U : YP} (a : SndY K ps m bs t T) (b : SndYP K ps m cs u U) : SndYP K ps m (bs ++ cs) (tSeq t u) (ypseq T U) := fun F hps hp as0 σ0 H0 G0 δ0 hb σ H G δ rows D3 D n g h gd =>
  a F hps (fun i hi => hp i (List.mem_append_left _ hi)) as0 σ0 H0 G0 δ0 (fun i hi => hb i (List.mem_append_left _ hi)) σ H G δ rows _ _ n g h
    ⟨fun _ _ _ _ _ x q => b F hps (fun i hi => hp i (List.mem_append_right _ hi)) as0 σ0 H0 G0 δ0 (fun i hi => hb i (List.mem_append_right _ hi)) _ _ _ _ _ _ _ x.n x.g q gd, fun _ _ _ _ _ x q => q.elim, fun _ _ _ _ _ x q => q.elim, fun _ _ _ _ _ _ x rr nr q => gd.rt _ _ _ _ _ _ x rr nr q⟩

theorem Nxt.setN {F : FE} {as : List Nat} {σ0 σ : L2.St} {H0 G0 H G : Hp} {δ0 δ : En} {i : Nat} {v : Option V} (n : Nxt K F as σ0 H0 G0 δ0 σ H G δ) (hp : ∀ l, ¬ F.P i l) : Nxt K F (as ++ [i]) σ0 H0 G0 δ0 (σ.set i v) H G (δ.set i .no) := by
  have back : ∀ (j : Nat) (c : Cn) (l : Addr), (δ.set i E.no)[j]? = some (E.ow c) → (σ.set i v)[j]? = some (some (V.ref l)) → δ[j]? = some (E.ow c) ∧ σ[j]? = some (some (V.ref l)) := fun j c l e q => by
    rcases set_get e with ⟨_, z, _⟩ | ⟨ne, e2⟩
    · cases z
    · rw [List.getElem?_set_ne ne] at q
      exact ⟨e2, q⟩
  refine ⟨⟨n.s.L.setN, n.s.f, fun j c l e q => ?_, fun j l z => ?_⟩, n.f, fun l ⟨j, c, e, q⟩ => ?_, fun j hj => ?_, by rw [List.length_set]; exact n.ln⟩
  · obtain ⟨a, b⟩ := back j c l e q
    exact n.s.own j c l a b
  · have ne : i ≠ j := fun q => hp l (by rw [q]; exact z)
    rw [List.getElem?_set_ne ne]
    exact n.s.par j l z
  · obtain ⟨a, b⟩ := back j c l e q
    exact n.ow l ⟨j, c, a, b⟩
  · have ne : i ≠ j := fun z => hj (List.mem_append_right _ (by rw [z]; exact List.mem_cons_self))
    rw [List.getElem?_set_ne ne]
    exact n.st j fun z => hj (List.mem_append_left _ z)
/-- rows that are new since H1 -/
structure Rws (K : PySem.W.Frag) (H1 H G : Hp) (al : List Addr) (acc : List (List D)) : Prop where
  len : al.length = acc.length
  row : ∀ (i : Nat) a r, al[i]? = some a → acc[i]? = some r → H1 a = none ∧ G a = none ∧ ∃ vs, H a = some (.lst vs) ∧ AtL K G vs r
theorem Rws.at_ {H1 H G : Hp} {al : List Addr} {acc : List (List D)} (x : Rws K H1 H G al acc) {a : Addr} (h : a ∈ al) : H1 a = none ∧ G a = none ∧ H a ≠ none := by
  obtain ⟨i, hi, rfl⟩ := List.mem_iff_getElem.mp h
  have hi' : i < acc.length := by rw [← x.len]; exact hi
  obtain ⟨h1, h2, vs, h3, _⟩ := x.row i _ _ (List.getElem?_eq_getElem hi) (List.getElem?_eq_getElem hi')
  exact ⟨h1, h2, by rw [h3]; exact fun z => nomatch z⟩
theorem Rws.fr {H1 H G H' G' : Hp} {al : List Addr} {acc : List (List D)} {A : Addr → Prop} (x : Rws K H1 H G al acc) (f : Fr A H G H' G') (na : ∀ a ∈ al, ¬ A a) : Rws K H1 H' G' al acc :=
  ⟨x.len, fun i a r e1 e2 => by
    obtain ⟨h1, h2, vs, h3, h4⟩ := x.row i a r e1 e2
    have n := na a (List.mem_of_getElem? e1)
    exact ⟨h1, (f.n a n (by rw [h3]; exact fun z => nomatch z)).trans h2, vs, f.h a _ n h3, h4.mono f.sub⟩⟩
/-- m = [e for ..], e new lists; then u over the grid -/
def sgrid (m : Nat) (S : DI) (Gd : DG) (C : DTT) (Te : DT) (vs : List Nat) (U : YP) : DS := fun Z δ => S δ fun items cs δ1 => m < δ1.length ∧ noOw δ1 vs = true ∧ (∀ p ∈ cs, p.1 ∉ vs) ∧ ∃ I : Nat → List (List D) → En → Prop, I 0 [] δ1 ∧ (∀ k acc δ, I k acc δ → ∀ p ∈ cs, δ[p.1]? = some (E.ow p.2)) ∧
  (∀ k x acc δ, items[k]? = some x → I k acc δ → Gd x (wipeE δ vs) fun δ2 => C δ2 fun b δ3 => if b = true then Te δ3 fun r δ4 => ∃ xs, r = .fr (.l xs) ∧ acc.length < sizeLine ∧ I (k + 1) (acc ++ [xs]) (backE δ δ4 vs) else I (k + 1) acc (backE δ δ3 vs)) ∧
  (∀ acc δ, I items.length acc δ → U Z (δ.set m .no) acc)
theorem sndp_grid {ps gs vs bs : List Nat} {m : Nat} {wi : TI} {g : TG} {tt : TT} {te : TE} {u : TS} {S : DI} {Gd : DG} {C : DTT} {Te : DT} {U : YP} (hi : SndI K wi S) (hg : SndG K gs g Gd) (ht : SndT K tt C) (he : Snd K te Te) (hgs : ∀ i ∈ gs, i ∈ vs) (rest : SndYP K ps m bs u U) :
    SndSP K ps (m :: bs) (tSeq (tAsg (tLc wi g tt te vs) (gName m)) u) (sgrid m S Gd C Te vs U) := fun F hps hp σ H G δ Z De s h gd => by
  refine hi σ H G δ _ _ s.L h fun items cs δ1 J H1 G1 L1 f1 le1 it q => ?_
  obtain ⟨hml, no, nc, I, I0, Ic, It, Ie⟩ := q
  intro M hM
  have nX : ∀ {a : Addr}, H1 a = none → ∀ δ', Le δ' δ1 → ¬ Ad σ δ' a := fun ha δ' le z => L1.there (le.ad z) ha
  obtain ⟨fD, sD⟩ := gr_new (G := G1) (o := .lst []) L1.sub hM
  have l1 : σ.length = δ1.length := L1.len
  refine ⟨fun i k H' => k = items.length - i ∧ i ≤ items.length ∧ ∃ G' δ' acc al, Rel K σ H' G' δ' ∧ Fr (fun a => Ad σ δ1 a ∨ a = M) (L2.upd H1 M (.lst [])) G1 H' G' ∧ Le δ' δ1 ∧ (∀ v : Nat, v ∈ vs → δ'[v]? = δ1[v]?) ∧ H' M = some (.lst (al.map V.ref)) ∧ G' M = none ∧ Rws K H1 H' G' al acc ∧ (M :: al).Nodup ∧ I i acc δ',
    ⟨items.length, by simp, Nat.zero_le _, G1, δ1, [], [], L1.grow fD sD, .refl, .refl, fun _ _ => rfl, upd_same, g_none L1.sub hM, ⟨rfl, fun i a r e => by simp at e⟩, by simp, I0⟩, ?_⟩
  rintro i k H' ⟨rfl, hi, G', δ', acc, al, L', f', le', dv, hH, hG, ra, nd, hI⟩
  have no' : noOw δ' vs = true := List.all_eq_true.mpr fun v hv => by
    rw [dv v hv]
    exact List.all_eq_true.mp no v hv
  have ok := it σ H' G' δ' L' f'.sub fun p hp => ⟨Ic i acc δ' hI p hp, rfl⟩
  have fD' : Fr (fun a => Ad σ δ1 a ∨ a = M) H1 G1 (L2.upd H1 M (.lst [])) G1 := fD.fr
  by_cases hlt : i < items.length
  · obtain ⟨hgo, hy⟩ := ok.1 i items[i] (List.getElem?_eq_getElem hlt)
    refine .inr ⟨hgo, fun H2 => ∃ G2 δ2 acc al, Rel K σ H2 G2 δ2 ∧ Fr (fun a => Ad σ δ1 a ∨ a = M) (L2.upd H1 M (.lst [])) G1 H2 G2 ∧ Le δ2 δ1 ∧ (∀ v : Nat, v ∈ vs → δ2[v]? = δ1[v]?) ∧ H2 M = some (.lst (al.map V.ref)) ∧ G2 M = none ∧ Rws K H1 H2 G2 al acc ∧ (M :: al).Nodup ∧ I (i + 1) acc δ2,
      fun H2 z => ⟨items.length - (i + 1), by omega, rfl, hlt, z⟩, fun x H'' y => ?_⟩
    obtain ⟨G'', fg, sg, hx⟩ := hy x H'' y
    have L'' := L'.grow fg sg
    have Lw := L''.wipe vs
    have s0 : S3 K ⟨fun j l => ∃ c, (wipeE δ' vs)[j]? = some (E.ow c) ∧ (wipe σ vs)[j]? = some (some (V.ref l)), H'', G''⟩ (wipe σ vs) H'' G'' (wipeE δ' vs) := ⟨Lw, .refl, fun j c l e q => .inl ⟨c, e, q⟩, fun j l ⟨c, e, q⟩ => q⟩
    refine hg _ (fun j hj l z => ?_) (wipe σ vs) H'' G'' (wipeE δ' vs) x _ _ _ s0 hx (It i _ acc δ' (List.getElem?_eq_getElem hlt) hI) fun σ2 H2 G2 δ2 n2 le2 q2 => ?_
    · obtain ⟨c, e, q⟩ := z
      rcases wipeE_get e with ⟨_, z⟩ | ⟨z, _⟩
      · cases z
      · exact z (hgs j hj)
    have hσ : ∀ j : Nat, j ∉ vs → σ2[j]? = σ[j]? := fun j hj => (n2.st j fun z => hj (hgs j z)).trans (wipe_off hj)
    have hl2 : σ2.length = σ.length := n2.ln.trans (wipe_length σ vs)
    have fAll : ∀ {A : Addr → Prop} {Ha Ga Hb Gb : Hp}, Fr (fun a => Ad σ δ1 a ∨ a = M) (L2.upd H1 M (.lst [])) G1 Ha Ga → Fr A Ha Ga Hb Gb → (∀ a, A a → Ad σ δ1 a ∨ (L2.upd H1 M (.lst [])) a = none) → Fr (fun a => Ad σ δ1 a ∨ a = M) (L2.upd H1 M (.lst [])) G1 Hb Gb := fun x y z => x.trans y fun a h => (z a h).imp .inl id
    have f2 := fAll f' fg (fun _ z => z.elim)
    have f3 := fAll f2 n2.f fun a z => .inl (le'.ad (ad_wipe z))
    have ow2 : ∀ l, Ad σ2 δ2 l → Ad σ δ1 l ∨ (L2.upd H1 M (.lst [])) l = none := fun l z => (n2.ow l z).elim (fun z => .inl (le'.ad (ad_wipe z))) fun z => .inr (f2.free z)
    have nD2 : ∀ l, Ad σ2 δ2 l → l ≠ M := fun l z e => by
      subst e
      rcases ow2 l z with z | z
      · exact nX hM δ1 .refl z
      · rw [upd_same] at z
        cases z
    have keepD : ∀ {A : Addr → Prop} {Ha Ga Hb Gb : Hp}, Fr A Ha Ga Hb Gb → ¬ A M → Ha M = some (.lst (al.map V.ref)) → Ga M = none → Hb M = some (.lst (al.map V.ref)) ∧ Gb M = none := fun f na h g => ⟨f.h M _ na h, (f.n M na (by rw [h]; exact fun z => nomatch z)).trans g⟩
    obtain ⟨d1, g1⟩ := keepD fg (fun z => z) hH hG
    obtain ⟨d2, g2⟩ := keepD n2.f (fun z => nX hM δ' le' (ad_wipe z)) d1 g1
    have r1 := ra.fr fg fun a _ z => z
    have r2 := r1.fr n2.f fun a ha z => nX (r1.at_ ha).1 δ' le' (ad_wipe z)
    have nA2 : ∀ a ∈ al, ¬ Ad σ2 δ2 a := fun a ha z => (n2.ow a z).elim (fun z => nX (r1.at_ ha).1 δ' le' (ad_wipe z)) fun z => (r1.at_ ha).2.2 z
    refine ⟨?_, ht σ2 H2 G2 δ2 _ _ n2.s.L q2 fun b δ3 H3 G3 L3 f4 le3 q3 => ?_⟩
    · refine List.ext_getElem? fun j => ?_
      by_cases hj : j ∈ vs
      · by_cases hjl : j < σ.length
        · rw [wipe_at hj hjl, wipe_at hj (by rw [hl2]; exact hjl)]
        · rw [List.getElem?_eq_none (by rw [wipe_length]; omega), List.getElem?_eq_none (by rw [wipe_length]; omega)]
      · rw [wipe_off hj, wipe_off hj, hσ j hj]
    have f5 := fAll f3 f4 ow2
    obtain ⟨d3, g3⟩ := keepD f4 (fun z => nD2 M z rfl) d2 g2
    have r3 := r2.fr f4 nA2
    have bk : ∀ {δn : En} {Hn Gn : Hp}, Rel K σ2 Hn Gn δn → Le δn δ2 → Fr (fun a => Ad σ δ1 a ∨ a = M) (L2.upd H1 M (.lst [])) G1 Hn Gn → Sub G' Gn → Rel K σ Hn Gn (backE δ' δn vs) ∧ Le (backE δ' δn vs) δ1 ∧ ∀ v : Nat, v ∈ vs → (backE δ' δn vs)[v]? = δ1[v]? := fun {δn Hn Gn} Ln len fn sn => by
      have hd : δ'.length = δn.length := by rw [← L'.len, ← Ln.len, hl2]
      refine ⟨L'.back no' Ln sn hσ hl2, fun j c e => ?_, fun v hv => (backE_in hd hv).trans (dv v hv)⟩
      rcases backE_get hd e with ⟨h1, h2⟩ | ⟨h1, h2⟩
      · exact absurd h2 (noOw_at no' h1 c)
      · obtain ⟨c2, h3⟩ := len j c h2
        obtain ⟨c3, h4⟩ := le2 j c2 h3
        rcases wipeE_get h4 with ⟨_, z⟩ | ⟨_, z⟩
        · cases z
        · exact le' j c3 z
    cases b with
    | true =>
      refine he σ2 H3 G3 δ3 _ _ L3 q3 fun r δ4 y H4 G4 L4 f6 le4 rr q4 => ?_
      obtain ⟨xs, rfl, hlen, q4⟩ := q4
      obtain ⟨l, rfl, nl, gl, ws, hl4, tl4⟩ := rr
      have nA3 : ∀ a, Ad σ2 δ3 a → Ad σ2 δ2 a := fun a z => le3.ad z
      obtain ⟨d4, g4⟩ := keepD f6 (fun z => nD2 M (nA3 _ z) rfl) d3 g3
      have f8 := fAll f5 f6 fun a z => ow2 a (nA3 a z)
      have sG : Sub G' G4 := (((fg.sub.trans n2.f.sub).trans f4.sub).trans f6.sub)
      obtain ⟨Lb, leb, db⟩ := bk L4 (le4.trans le3) f8 sG
      have r4 := r3.fr f6 fun a ha z => nA2 a ha (nA3 a z)
      have nlM : l ≠ M := fun z => by rw [z, d3] at nl; cases nl
      have nla : l ∉ al := fun z => (r3.at_ z).2.2 nl
      have h1l : H1 l = none := by
        have := f5.free nl
        rw [upd_ne nlM] at this
        exact this
      have fu : Fr (fun a => a = M) H4 G4 (L2.upd H4 M (.lst (al.map V.ref ++ [V.ref l]))) G4 := fr_upd rfl
      have nM := List.nodup_cons.mp nd
      have r5 : Rws K H1 (L2.upd H4 M (.lst (al.map V.ref ++ [V.ref l]))) G4 (al ++ [l]) (acc ++ [xs]) := by
        have r6 := r4.fr fu fun a ha z => nM.1 (by rw [← z]; exact ha)
        refine ⟨by rw [List.length_append, List.length_append, r4.len]; rfl, fun j a r e1 e2 => ?_⟩
        by_cases hj : j < al.length
        · rw [List.getElem?_append_left hj] at e1
          rw [List.getElem?_append_left (by rw [← r4.len]; exact hj)] at e2
          exact r6.row j a r e1 e2
        · rw [List.getElem?_append_right (by omega)] at e1
          rw [List.getElem?_append_right (by rw [← r4.len]; omega), ← r4.len] at e2
          have hj0 : j - al.length = 0 := by
            have := (List.getElem?_eq_some_iff.mp e1).1
            simp at this
            omega
          rw [hj0] at e1 e2
          simp at e1 e2
          subst e1
          subst e2
          exact ⟨h1l, gl, ws, by rw [upd_ne nlM]; exact hl4, tl4⟩
      refine ⟨al.map V.ref, d4, by rw [List.length_map, r4.len]; exact hlen, G4, backE δ' δ4 vs, acc ++ [xs], al ++ [l], Lb.other g4 (nX hM _ leb), f8.trans fu fun a z => .inl (.inr z), leb, db, ?_, g4, r5, ?_, q4⟩
      · rw [upd_same, List.map_append]
        rfl
      · refine List.nodup_cons.mpr ⟨fun z => ?_, List.nodup_append.mpr ⟨nM.2, by simp, fun a ha b hb e => ?_⟩⟩
        · rcases List.mem_append.mp z with z | z
          · exact nM.1 z
          · simp at z
            exact nlM z.symm
        · simp at hb
          subst hb
          subst e
          exact nla ha
    | false =>
      have sG : Sub G' G3 := ((fg.sub.trans n2.f.sub).trans f4.sub)
      obtain ⟨Lb, leb, db⟩ := bk L3 le3 f5 sG
      exact ⟨G3, backE δ' δ3 vs, acc, al, Lb, f5, leb, db, d3, g3, r3, nd, q3⟩
  · have e : i = items.length := by omega
    subst e
    have fF : Fr (Ad σ δ) H G H' G' := (f1.trans fD' fun a z => ?_).trans f' fun a z => ?_
    · refine .inl ⟨ok.2, ?_⟩
      have n0 : Nxt K F [] σ H G δ σ H' G' δ' := .step s L' fF (le'.trans le1)
      have hpm : ∀ l, ¬ F.P m l := hp m List.mem_cons_self
      have n1 : Nxt K F (m :: bs) σ H G δ (σ.set m (some (.ref M))) H' G' (δ'.set m .no) := (n0.setN hpm).mono fun j hj => by
        simp at hj
        subst hj
        exact List.mem_cons_self
      have ad' : ∀ l, Ad (σ.set m (some (.ref M))) (δ'.set m .no) l → Ad σ δ' l := fun l ⟨j, c, e, q⟩ => by
        rcases set_get e with ⟨_, z, _⟩ | ⟨ne, e2⟩
        · cases z
        · rw [List.getElem?_set_ne ne] at q
          exact ⟨j, c, e2, q⟩
      refine rest F hps (fun j hj => hp j (List.mem_cons_of_mem _ hj)) (m :: bs) σ H G δ (fun j hj => List.mem_cons_of_mem _ hj) _ H' G' _ acc Z De n1 ⟨M, al, ⟨?_, hH, hG, fun a ha => ?_, nd, fun z => nX hM δ' le' (ad' _ z), ?_, fun j a r e1 e2 => ?_⟩⟩ (Ie acc δ' hI) gd
      · rw [List.getElem?_set_self (by rw [l1]; exact hml)]
      · have h1 : H1 a = none := by
          rcases List.mem_cons.mp ha with rfl | ha
          · exact hM
          · exact (ra.at_ ha).1
        exact ⟨s.f.free (f1.free h1), f1.free h1⟩
      · rw [List.length_map]
        exact ra.len
      · rw [List.getElem?_map] at e2
        obtain ⟨r', e3, e4⟩ := Option.map_eq_some_iff.mp e2
        cases e4
        obtain ⟨h1, h2, h3⟩ := ra.row j a r e1 e3
        exact ⟨fun z => nX h1 δ' le' (ad' _ z), h2, h3⟩
    · rcases z with z | rfl
      · exact .inl (le1.ad z)
      · exact .inr (f1.free hM)
    · rcases z with z | rfl
      · exact .inl (le1.ad z)
      · exact .inr (f1.free hM)
end
end L3
/-! L3, part Z: steps over grids. -/
namespace L3
open PySem PySem.Spec PyProof.Rows L2
section
variable {Q : R → En → Prop} {QB : Bool → En → Prop} {δ : En} {T U : DT} {C : DTT} {rt : R → En → Prop} {bk ct : En → Prop} {n : En → Prop} {rows : List (List D)} {Z : DE}
/-- a grid made by a comprehension -/
def GrK (m : Nat) (Gd : DG) (C : DTT) (Te : DT) (vs : List Nat) (U : List (List D) → En → Prop) (items : List D) (cs : List (Nat × Cn)) (δ1 : En) : Prop := m < δ1.length ∧ noOw δ1 vs = true ∧ (∀ p ∈ cs, p.1 ∉ vs) ∧ ∃ I : Nat → List (List D) → En → Prop, I 0 [] δ1 ∧ (∀ k acc δ, I k acc δ → ∀ p ∈ cs, δ[p.1]? = some (E.ow p.2)) ∧
  (∀ k x acc δ, items[k]? = some x → I k acc δ → Gd x (wipeE δ vs) fun δ2 => C δ2 fun b δ3 => if b = true then Te δ3 fun r δ4 => ∃ xs, r = .fr (.l xs) ∧ acc.length < sizeLine ∧ I (k + 1) (acc ++ [xs]) (backE δ δ4 vs) else I (k + 1) acc (backE δ δ3 vs)) ∧
  (∀ acc δ, I items.length acc δ → ∃ δ', δ.set m .no = δ' ∧ U acc δ')
theorem y_grid {m : Nat} {S : DI} {Gd : DG} {Te : DT} {vs : List Nat} {U : YP} (k : S δ fun items cs δ1 => GrK m Gd C Te vs (fun rows δ => U Z δ rows) items cs δ1) : sgrid m S Gd C Te vs U Z δ := by
  unfold GrK at k
  simp only [exists_eq_left'] at k
  exact k
/-- each item becomes a new list, the slots stay -/
theorem grid_map {m : Nat} {Gd : DG} {Te : DT} {vs : List Nat} {items : List D} {cs : List (Nat × Cn)} {U : List (List D) → En → Prop} (f : Nat → List D) (hm : m < δ.length) (no : noOw δ vs = true) (hcs : ∀ p ∈ cs, p.1 ∉ vs) (hi : ∀ p ∈ cs, δ[p.1]? = some (E.ow p.2))
    (ht : ∀ k x, items[k]? = some x → Gd x (wipeE δ vs) fun δ2 => Te δ2 fun r δ4 => ∃ xs, r = .fr (.l xs) ∧ ((List.range k).map f).length < sizeLine ∧ (backE δ δ4 vs = δ ∧ (List.range k).map f ++ [xs] = (List.range (k + 1)).map f))
    (he : ∃ δ', δ.set m .no = δ' ∧ U ((List.range items.length).map f) δ') : GrK m Gd tyes Te vs U items cs δ := by
  refine ⟨hm, no, hcs, fun k acc δ' => δ' = δ ∧ acc = (List.range k).map f, ⟨rfl, rfl⟩, fun k acc δ' h => by rw [h.1]; exact hi, fun k x acc δ' e h => ?_, fun acc δ' h => by rw [h.1, h.2]; exact he⟩
  obtain ⟨rfl, rfl⟩ := h
  have h2 := ht k x e
  simp only [tyes, if_true]
  exact h2
theorem y_list {xs : List D} {P : List D → Prop} (k : P xs) : ∃ ys, R.fr (.l xs) = .fr (.l ys) ∧ P ys := ⟨xs, rfl, k⟩
theorem y_pseq {A : YS} {B : YP} (k : A ⟨B Z, Z.rt, fun _ _ => False, fun _ _ => False⟩ δ rows) : ypseq A B Z δ rows := k
theorem y_free {m : Nat} {S : DS} (k : ∃ δ', δ.set m (.ow (.l (rows.map D.lst))) = δ' ∧ S Z δ') : ypfree m S Z δ rows := by
  obtain ⟨_, rfl, k⟩ := k
  exact k
variable {yn : En → List (List D) → Prop} {ybk yct : En → List (List D) → Prop}
theorem y_plain {S : DS} (k : S ⟨fun δ' => yn δ' rows, rt, fun δ' => ybk δ' rows, fun δ' => yct δ' rows⟩ δ) : yplain S ⟨yn, rt, ybk, yct⟩ δ rows := k
theorem y_seq {A B : YS} (k : A ⟨B ⟨yn, rt, ybk, yct⟩, rt, ybk, yct⟩ δ rows) : yseq A B ⟨yn, rt, ybk, yct⟩ δ rows := k
theorem y_if {A B : YS} (k : C δ fun b δ1 => (b = true → A ⟨yn, rt, ybk, yct⟩ δ1 rows) ∧ (b = false → B ⟨yn, rt, ybk, yct⟩ δ1 rows)) : yif C A B ⟨yn, rt, ybk, yct⟩ δ rows := by
  have : ∀ (c : Bool) (A B : Prop), ((c = true → A) ∧ (c = false → B)) = if c = true then A else B := fun c A B => by cases c <;> simp
  simp only [this] at k
  exact k
def YForK (as : List Nat) (Gd : DG) (B : YS) (Z : DEY) (rows : List (List D)) (items : List D) (cs : List (Nat × Cn)) (δ1 : En) : Prop := (∀ p ∈ cs, p.1 ∉ as) ∧ ∃ I : Nat → En → List (List D) → Prop, I 0 δ1 rows ∧ (∀ k δ rows, I k δ rows → ∀ p ∈ cs, δ[p.1]? = some (E.ow p.2)) ∧
  (∀ k x δ rows, items[k]? = some x → I k δ rows → Gd x δ fun δ' => B ⟨I (k + 1), Z.rt, Z.nx, I (k + 1)⟩ δ' rows) ∧ (∀ δ rows, I items.length δ rows → Z.nx δ rows)
theorem y_for {as : List Nat} {SI : DI} {Gd : DG} {B : YS} (k : SI δ fun items cs δ1 => YForK as Gd B ⟨yn, rt, ybk, yct⟩ rows items cs δ1) : yfor as SI Gd B ⟨yn, rt, ybk, yct⟩ δ rows := k
theorem yfor_by {as : List Nat} {Gd : DG} {B : YS} {items : List D} {cs : List (Nat × Cn)} (I : Nat → En → List (List D) → Prop) (h0 : I 0 δ rows) (hcs : ∀ p ∈ cs, p.1 ∉ as) (hi : ∀ k δ rows, I k δ rows → ∀ p ∈ cs, δ[p.1]? = some (E.ow p.2))
    (ht : ∀ k x δ rows, items[k]? = some x → I k δ rows → Gd x δ fun δ' => B ⟨I (k + 1), rt, yn, I (k + 1)⟩ δ' rows) (he : ∀ δ rows, I items.length δ rows → yn δ rows) : YForK as Gd B ⟨yn, rt, ybk, yct⟩ rows items cs δ := ⟨hcs, I, h0, hi, ht, he⟩
theorem yforA_by {h : Nat} {B : DS} (I : Nat → En → List (List D) → Prop) (h0 : I 0 δ rows) (hl : ∀ k δ rs, I k δ rs → rs.length = rows.length)
    (ht : ∀ k r δ rs, rs[k]? = some r → I k δ rs → ∃ δ0, δ.set h (.ow (.l r)) = δ0 ∧ B ⟨fun δ' => ∃ r', δ'[h]? = some (.ow (.l r')) ∧ ∃ δ2, δ'.set h .no = δ2 ∧ I (k + 1) δ2 (rs.set k r'), rt, fun δ' => ∃ r', δ'[h]? = some (.ow (.l r')) ∧ ∃ δ2, δ'.set h .no = δ2 ∧ yn δ2 (rs.set k r'), fun δ' => ∃ r', δ'[h]? = some (.ow (.l r')) ∧ ∃ δ2, δ'.set h .no = δ2 ∧ I (k + 1) δ2 (rs.set k r')⟩ δ0)
    (he : ∀ δ rs, I rows.length δ rs → yn δ rs) : yforA h B ⟨yn, rt, ybk, yct⟩ δ rows := by
  simp only [exists_eq_left'] at ht
  exact ⟨I, h0, hl, ht, he⟩
theorem y_back {h : Nat} {r : List D} {P : List D → Prop} (e : δ[h]? = some (E.ow (.l r))) (k : P r) : ∃ r', δ[h]? = some (E.ow (.l r')) ∧ P r' := ⟨r, e, k⟩
end
end L3
/-! L3, the end: keywords, isinstance, the law's start. -/
namespace L3
open PySem PySem.Spec PyProof.Rows L2
/-- f(e, .., k = v, ..) of a def without defaults -/
theorem fk_bind {K : PySem.W.Frag} {x qual : Str} {params : Arguments} {body : List Stmt} {scope : Scope} {kws : List (Str × V)} {f : Addr} {fd : FuncData} {ps ks : List Str} {us ws zs : List Value} (F : FunD K x qual params body scope [] kws f fd)
    (h : ∀ (kV doc pm : Value) (an : Option Addr) (cdv ct : Value), bindArgs (PySem.W.fnOf x qual params body scope .none kV doc pm an cdv ct) ⟨us, ks.zip ws⟩ = pure (ps.zip zs)) (s : Shared) : BindsTo s fd ⟨us, ks.zip ws⟩ (ps.zip zs) := by
  obtain ⟨oc, od, dV, kV, doc, pm, an, cdv, ct, osl, rfl, lk, hcd, hD, hK⟩ := F.ex
  rcases hD with ⟨_, rfl⟩ | ⟨e, _⟩
  · exact .of_eq (h kV doc pm an cdv ct)
  · exact absurd rfl e
theorem ins_ok {K : PySem.W.Frag} {cn : Str} (c : Cls K (He.ga K cn)) (h : insB K cn = true) : IsOwn K cn := by
  obtain ⟨h1, h⟩ := He.ba h
  obtain ⟨h2, h⟩ := He.ba h
  obtain ⟨h3, h⟩ := He.ba h
  obtain ⟨h4, h5⟩ := He.ba h
  exact ⟨c, He.eqO_ok h1, He.eqO_ok h2, of_decide_eq_true h3, of_decide_eq_true h4, of_decide_eq_true h5⟩
end L3
/-! L3, part AA: own operators, divmod, sorted, lists unpacked, parallel stores of any length. -/
namespace L3
open PySem PySem.Spec PyProof.Rows L2
/-! ### a + b by an own method -/
def rBinO (C : Addr) (sp : Sp) (W : XK) : R2 := fun x y H Q => ∃ a b dx dy fs gs, x = .ref a ∧ y = .ref b ∧ H a = some (.ins C dx fs) ∧ H b = some (.ins C dy gs) ∧ sp [.ref a, .ref b] H Q W
theorem op_binO {op : Operator} {X : Cx} {CX : CXT} {n : Nat} {C f : Addr} {fd : FuncData} {ps : List Str} {sp : Sp} {W : XK} (F : FnOk X.prog X.w X.K X.mg X.base CX n f fd ps sp) (hr : Room n X.A) (hc : PySem.W.selfFirst X.K C = true)
    (hs : PySem.W.findIn X.K (.ref C) (PySem.dunder op.info.2) = some (some (.ref f))) (hf : PySem.W.isFn X.K (.ref f) = true) (hb : Binds X.K fd ps []) (hx : Passes CX X W) : OpR X (binaryOp op) (rBinO C sp W) := by
  intro pins s σ H x y u v Q I rx ry d
  obtain ⟨a, b, dx, dy, fs, gs, rfl, rfl, ha, hb', hsp⟩ := d
  cases rx
  cases ry
  obtain ⟨mA, J, _⟩ := ins_get I.hok ha
  obtain ⟨mB, J', _⟩ := ins_get I.hok hb'
  obtain ⟨od, J, _⟩ := J.look
  obtain ⟨od', J', _⟩ := J'.look
  obtain ⟨m, hF⟩ := I.fr
  refine PySem.W.binop_K hF I.ok.mod.kin J J'.type hc hs hf ?_
  have hl := F.len _ _ _ _ hsp
  have r2 : Vals [V.ref a, V.ref b] [Value.ref a, Value.ref b] := .cons rfl (.cons rfl .nil)
  refine wpAny_call (codeAny_mono (F.run X.A X.stack s H ⟨[.ref a, .ref b], []⟩ [.ref a, .ref b] [.ref a, .ref b] _ W hr I.env0 (by
    have := hb s [.ref a, .ref b] I.kIn (by simpa using hl)
    simpa using this) r2 hsp) fun r s' hq => ?_)
  cases r with
  | error e => exact hx pins σ H s e s' I hq
  | ok fl =>
    cases fl with
    | ret w =>
      obtain ⟨z, H', I', rz, q⟩ := I.after hq
      cases w with
      | notImplemented =>
        cases z <;> first | exact rz.elim | (obtain ⟨_, rz⟩ := rz; cases rz) | cases rz
      | _ => exact ⟨z, H', I', rz, q⟩
    | next => exact False.elim hq
    | brk => exact False.elim hq
    | cont => exact False.elim hq
theorem pe_binO {X : Cx} {cn m : Str} {k : Nat} {sp : DSp} {op : Operator} {a b : Expr} {ta tb : TE} {pos : Pos} (h : MP X.prog X.w X.K X.mg X.base cn m k 2 sp) (hc : PySem.W.selfFirst X.K (He.ga X.K cn) = true) (hm : PySem.dunder op.info.2 = m) (hr : Room k X.A) (ha : PE X a ta) (hb : PE X b tb) :
    PE X (.BinOp a op b pos) (tOp (rBinO (He.ga X.K cn) (up X.K 2 sp) E0) ta tb) := by
  obtain ⟨fd, ps, F, bb⟩ := h.ex
  exact pe_op (op_binO F hr hc (by rw [hm]; exact h.me.at_) h.me.fn bb pass0) ha hb
section
variable {K : PySem.W.Frag}
def tbinO (cn : Str) (sp : DSp) (Ta Tb : DT) : DT := fun δ Q => Ta δ fun x δ1 => Tb δ1 fun y δ2 => ∃ ns ds ns' ds', x.dat δ2 = some (.obj cn ns ds) ∧ y.dat δ2 = some (.obj cn ns' ds') ∧
  (rfs [x, y]).Nodup ∧ ∃ es, passes δ2 [x, y] [false, false] = some es ∧ sp es fun r es' => Q r (puts δ2 [x, y] es')
theorem snd_binO {cn : Str} {sp : DSp} {ta tb : TE} {Ta Tb : DT} {W : XK} (a : Snd K ta Ta) (b : Snd K tb Tb) : Snd K (tOp (rBinO (He.ga K cn) (up K 2 sp) W) ta tb) (tbinO cn sp Ta Tb) := fun σ H G δ Q Q3 L h k => by
  refine a σ H G δ _ _ L h fun x δ1 v H1 G1 L1 f1 le1 rx h1 => ?_
  refine b σ H1 G1 δ1 _ _ L1 h1 fun y δ2 u H2 G2 L2 f2 le2 ry h2 => ?_
  obtain ⟨ns, ds, ns', ds', ex, ey, nd, es, he, hs⟩ := h2
  have f12 : Fr (Ad σ δ) H G H2 G2 := f1.trans f2 fun a h => .inl (le1.ad h)
  have rx2 := rx.on L f1 le1 f2
  obtain ⟨l, dx, vs, rfl, h3, h4, h5⟩ := sh_of L2 rx2 ex
  obtain ⟨l', dx', vs', rfl, h3', h4', h5'⟩ := sh_of L2 ry ey
  refine ⟨l, l', dx, dx', _, _, rfl, rfl, h3, h3', ?_⟩
  refine call_core L L2 f12 (le2.trans le1) (.cons rx2 (.cons (ry.base fun a h => f1.free h) .nil fun c e j c' e' => by simp at e') fun c e j c' e' e2 => ?_) nd rfl he hs fun r es' v H' G' l f le r _ q => k _ _ v H' G' l f le r q
  subst e
  cases j with
  | zero =>
    simp at e'
    subst e'
    simp at e2
    subst e2
    obtain ⟨p, e3, n, g, hc⟩ := rx
    obtain ⟨p', h5', n', _⟩ := ry
    cases e3
    cases h5'
    exact hc.some n'
  | succ j => simp at e'
/-! ### divmod, sorted -/
def divmodF : List D → (R → Prop) → Prop
  | [.int i, .int j], Q => CDiv i j ∧ Q (.va (.tup [.int (i / j), .int (i % j)]))
  | _, _ => False
theorem snd_divmod : SndC K (fun xs H Q => ∃ i j, xs = [.int i, .int j] ∧ CDiv i j ∧ ∀ p, H p = none → Q (.ref p) (L2.upd H p (.tup [.int (i / j), .int (i % j)]))) divmodF := fun H G vs ds Q Q3 s h hF k => by
  unfold divmodF at hF
  split at hF
  · cases h with
    | cons h t =>
      cases t with
      | cons h2 t =>
        cases t
        obtain rfl := h
        obtain rfl := h2
        exact ⟨_, _, rfl, hF.1, k.tuple s (.cons (.int _) (.cons (.int _) .nil)) hF.2⟩
  · exact hF.elim
def sortI (ns : List Int) : List Int := ns.mergeSort (fun a b => decide (a ≤ b))
theorem sortI_perm (ns : List Int) : (sortI ns).Perm ns := List.mergeSort_perm _ _
theorem sortI_le (ns : List Int) : (sortI ns).Pairwise (· ≤ ·) := by
  have := List.pairwise_mergeSort (le := fun a b : Int => decide (a ≤ b)) (by simp; omega) (by simp; omega) ns
  simpa [sortI] using this
theorem sortI_uniq {ns ns' : List Int} (p : ns'.Perm ns) (h : ns'.Pairwise (· ≤ ·)) : ns' = sortI ns :=
  (p.trans (sortI_perm ns).symm).eq_of_pairwise (fun a b _ _ x y => Int.le_antisymm x y) h (sortI_le ns)
def sortedF : List D → (R → Prop) → Prop := fun ds Q => ∃ ns : List Int, ds = [.lst (ns.map D.int)] ∧ Q (.fr (.l ((sortI ns).map D.int)))
theorem snd_sorted : SndC K (rSortedI K) sortedF := fun H G vs ds Q Q3 s h hF k => by
  obtain ⟨ns, rfl, q⟩ := hF
  cases h with
  | cons h t =>
    cases t
    obtain ⟨a, vs, rfl, h1, t1⟩ := h
    rw [t1.ints] at h1
    refine ⟨a, ns, rfl, SqL.of h1, fun ns' p hp hs hn => ?_⟩
    rw [sortI_uniq hp hs]
    exact k.list s (atl_ints (sortI ns)) q p hn
/-! ### a, b, c = xs -/
def dLst (n : Nat) (T : DGs) : DG := fun d δ Q => ∃ ds, d = .lst ds ∧ ds.length = n ∧ T ds δ Q
theorem sndg_lst {n : Nat} {as : List Nat} {g : TGs} {T : DGs} (a : SndGs K as g T) : SndG K as (gLst K n g) (dLst n T) := fun F hp σ H G δ v d Q Q3 s h q k => by
  obtain ⟨ds, rfl, hl, q⟩ := q
  cases h with
  | lst h t => exact ⟨_, _, rfl, SqL.of (s.L.sub _ _ h), by rw [t.length]; exact hl, a F hp σ H G δ _ ds Q Q3 s t q k⟩
/-! ### a, b, .. = x, y, .. by a tuple -/
def putEs (δ : En) : List Bool → List R → Option En
  | [], [] => some []
  | m :: ms, r :: rs => (putE δ m r).bind fun e => (putEs δ ms rs).map fun es => e :: es
  | _, _ => none
def setEs (δ : En) : List Nat → En → En
  | i :: is, e :: es => setEs (δ.set i e) is es
  | _, _ => δ
def sparN (is : List Nat) (ms : List Bool) (TA : DTA) : DS := fun Z δ => TA δ fun rs δ1 => rs.length = is.length ∧ rs.length ≤ sizeLine ∧ ∃ es, putEs δ1 ms rs = some es ∧ Z.nx (setEs δ1 is es)
def gNames (is : List Nat) : TGs := is.foldr (fun i g => gCons (gName i) g) gNil
theorem par_go {F : FE} {σ : L2.St} {H G H2 G2 : Hp} {δ : En} (hf : ∀ a, H a = none → F.HE a = none) : ∀ {is : List Nat} {vs : List V} {es : En} {σk : L2.St} {δk : En} {as : List Nat} {Q : L2.St → Hp → Prop}, Nxt K F as σ H G δ σk H2 G2 δk → vs.length = is.length → es.length = is.length → (∀ i ∈ is, ∀ l, ¬ F.P i l) →
    (∀ (j : Nat) v e, vs[j]? = some v → es[j]? = some e → PutOk K H H2 G2 v e) → (∀ (j : Nat) l c, vs[j]? = some (.ref l) → es[j]? = some (.ow c) → ¬ Ad σk δk l) →
    (∀ (i j : Nat) l c c', vs[i]? = some (V.ref l) → es[i]? = some (.ow c) → vs[j]? = some (V.ref l) → es[j]? = some (.ow c') → i = j) →
    (∀ σ', Nxt K F (as ++ is) σ H G δ σ' H2 G2 (setEs δk is es) → Q σ' H2) → gNames is vs σk H2 Q
  | [], [], [], σk, δk, as, Q, n, _, _, _, _, _, _, k => ⟨rfl, k σk (by rw [List.append_nil]; exact n)⟩
  | i :: is, v :: vs, e :: es, σk, δk, as, Q, n, l1, l2, hp, po, na, ap, k => by
    have p0 := po 0 v e rfl rfl
    have n1 := n.put (hp i List.mem_cons_self) hf p0 fun l ev ⟨c, ec⟩ => na 0 l c (by rw [ev]; rfl) (by rw [ec]; rfl)
    refine ⟨v, vs, rfl, par_go hf n1 (by simpa using l1) (by simpa using l2) (fun j hj => hp j (List.mem_cons_of_mem _ hj)) (fun j v e h1 h2 => po (j + 1) v e (by simpa using h1) (by simpa using h2)) (fun j l c h1 h2 z => ?_) (fun a b l c c' h1 h2 h3 h4 => ?_) fun σ' m => k σ' ?_⟩
    · rcases ad_put n.s.L.len z with z | ⟨z1, c1, z2⟩
      · exact na (j + 1) l c (by simpa using h1) (by simpa using h2) z
      · have := ap 0 (j + 1) l c1 c (by rw [z1]; rfl) (by rw [z2]; rfl) (by simpa using h1) (by simpa using h2)
        cases this
    · have := ap (a + 1) (b + 1) l c c' (by simpa using h1) (by simpa using h2) (by simpa using h3) (by simpa using h4)
      omega
    · rw [List.append_assoc] at m
      exact m
  | [], _ :: _, _, _, _, _, _, _, l, _, _, _, _, _, _ => by cases l
  | [], [], _ :: _, _, _, _, _, _, _, l, _, _, _, _, _ => by cases l
  | _ :: _, [], _, _, _, _, _, _, l, _, _, _, _, _, _ => by cases l
  | _ :: _, _ :: _, [], _, _, _, _, _, _, l, _, _, _, _, _ => by cases l
theorem putEs_get {δ : En} : ∀ {ms : List Bool} {rs : List R} {es : En}, putEs δ ms rs = some es → es.length = rs.length ∧ ∀ (j : Nat) e, es[j]? = some e → ∃ r m, rs[j]? = some r ∧ ms[j]? = some m ∧ putE δ m r = some e
  | [], [], es, h => by
    cases h
    exact ⟨rfl, fun j e z => by simp at z⟩
  | m :: ms, r :: rs, es, h => by
    obtain ⟨e0, h1, h2⟩ := Option.bind_eq_some_iff.mp h
    obtain ⟨es', h3, rfl⟩ := Option.map_eq_some_iff.mp h2
    obtain ⟨l, g⟩ := putEs_get h3
    refine ⟨by rw [List.length_cons, List.length_cons, l], fun j e z => ?_⟩
    cases j with
    | zero =>
      cases z
      exact ⟨r, m, rfl, rfl, h1⟩
    | succ j => exact g j e (by simpa using z)
  | [], _ :: _, _, h => by cases h
  | _ :: _, [], _, h => by cases h
theorem snds_parN {is : List Nat} {n : Nat} {t : TA} {TA : DTA} (ms : List Bool) (a : SndA K t TA) (hn : is.length = n) : SndS K is (tAsg (tTup t) (gTup K n (gNames is))) (sparN is ms TA) := fun F hp σ H G δ D3 Z s h g => by
  refine a σ H G δ _ _ s.L h fun rs δ1 vs H1 G1 L1 f1 le1 rr q => ?_
  obtain ⟨hl, hsz, es, pe, q⟩ := q
  obtain ⟨le, ge⟩ := putEs_get pe
  have lv := rr.length
  refine ⟨by rw [lv]; exact hsz, fun p hpn => ?_⟩
  obtain ⟨G2, M2, f2, ok⟩ := puts_ok s.L L1 f1 le1 rr ms
  obtain ⟨fp, sp⟩ := gr_new (G := G2) (o := .tup vs) M2.sub hpn
  have M3 := M2.grow fp sp
  have n : Nxt K F [] σ H G δ σ (L2.upd H1 p (.tup vs)) G2 δ1 :=   .step s M3 (f2.trans fp fun _ z => False.elim z) le1
  have up : ∀ {v e}, PutOk K H H1 G2 v e → PutOk K H (L2.upd H1 p (.tup vs)) G2 v e := fun {v e} x => by
    rcases x with ⟨d, rfl, h⟩ | ⟨c, l, rfl, rfl, h0, g0, hc⟩
    · exact .inl ⟨d, rfl, h⟩
    · exact .inr ⟨c, l, rfl, rfl, h0, g0, hc.mono (fun o z => fp.h l o (fun z => z) z) .refl⟩
  have key : ∀ (j : Nat) v e, vs[j]? = some v → es[j]? = some e → PutOk K H (L2.upd H1 p (.tup vs)) G2 v e ∧ ∀ c, e = .ow c → rs[j]? = some (.fr c) := fun j v e h1 h2 => by
    obtain ⟨r, m, e1, e2, e3⟩ := ge j e h2
    obtain ⟨k1, k2⟩ := ok j r m v e e1 e2 h1 e3
    exact ⟨up k1, fun c ec => by rw [← (k2 c ec).1]; exact e1⟩
  refine ⟨p, vs, rfl, SqT.of upd_same, by rw [lv, hl, hn], par_go (fun a z => s.f.free z) n (by rw [lv, hl]) (by rw [le, hl]) hp (fun j v e h1 h2 => (key j v e h1 h2).1) (fun j l c h1 h2 z => ?_) (fun i j l c c' h1 h2 h3 h4 => ?_) fun σ' m => g.nx _ _ _ _ m q⟩
  · have hr := (key j _ _ h1 h2).2 c rfl
    obtain ⟨v, q1, l', q2, q3, _⟩ := rr.get hr
    rw [h1] at q1
    cases q1
    cases q2
    exact s.L.there (le1.ad z) q3
  · exact rr.apart ((key i _ _ h1 h2).2 c rfl) ((key j _ _ h3 h4).2 c' rfl) h1 h3
end
/-! ### steps -/
section
variable {Q : R → En → Prop} {δ : En} {T U : DT} {TA : DTA} {n : En → Prop} {rt : R → En → Prop} {bk ct : En → Prop} {q : R → Prop} {N : En → Prop} {d : D}
theorem p_binO {cn : Str} {sp : DSp} (k : T δ fun x δ1 => U δ1 fun y δ2 => ∃ ns ds ns' ds', x.dat δ2 = some (.obj cn ns ds) ∧ y.dat δ2 = some (.obj cn ns' ds') ∧
    ∃ es, passes δ2 [x, y] [false, false] = some es ∧ (rfs [x, y]).Nodup ∧ sp es fun r es' => ∃ δ', puts δ2 [x, y] es' = δ' ∧ Q r δ') : tbinO cn sp T U δ Q := by
  simp only [exists_eq_left'] at k
  unfold tbinO
  have : ∀ (rs : List R) δ1 (P : En → Prop), (∃ es, passes δ1 rs [false, false] = some es ∧ (rfs rs).Nodup ∧ P es) = ((rfs rs).Nodup ∧ ∃ es, passes δ1 rs [false, false] = some es ∧ P es) := fun rs δ1 P => propext ⟨fun ⟨es, a, b, c⟩ => ⟨b, es, a, c⟩, fun ⟨b, es, a, c⟩ => ⟨es, a, b, c⟩⟩
  simp only [this] at k
  exact k
theorem f_divmod {i j : Int} (h : CDiv i j) (k : q (.va (.tup [.int (i / j), .int (i % j)]))) : divmodF [.int i, .int j] q := ⟨h, k⟩
theorem f_sorted {ns : List Int} (k : q (.fr (.l ((sortI ns).map D.int)))) : sortedF [.lst (ns.map D.int)] q := ⟨ns, rfl, k⟩
theorem g_lst {m : Nat} {W : DGs} {ds : List D} (h : ds.length = m) (k : W ds δ N) : dLst m W (.lst ds) δ N := ⟨ds, rfl, h, k⟩
theorem s_parN {is : List Nat} {ms : List Bool} (k : TA δ fun rs δ1 => rs.length = is.length ∧ rs.length ≤ sizeLine ∧ ∃ es, putEs δ1 ms rs = some es ∧ ∃ δ', setEs δ1 is es = δ' ∧ n δ') : sparN is ms TA ⟨n, rt, bk, ct⟩ δ := by
  simp only [exists_eq_left'] at k
  exact k
theorem s_putN {rs : List R} {a b : Nat} {ms : List Bool} {es : En} {P : En → Prop} (h0 : rs.length = a) (h1 : rs.length ≤ b) (h2 : putEs δ ms rs = some es) (k : P es) : rs.length = a ∧ rs.length ≤ b ∧ ∃ es, putEs δ ms rs = some es ∧ P es := ⟨h0, h1, es, h2, k⟩
end
end L3
/-! L3, part KA: rounds: the parts of a net, whether their signs fit, how many fit; products, nets beside one another. -/
namespace L3
open PySem PySem.Spec PyProof.Rows L2
def sadj (n : Net) (x y : Nat) (s : Int) : Prop := ∃ r ∈ n, r[x]? = some ((y : Int), s)
theorem adj_s {n : Net} {x y : Nat} : adj n x y ↔ ∃ s, sadj n x y s := ⟨fun ⟨r, hr, s, e⟩ => ⟨s, r, hr, e⟩, fun ⟨s, r, hr, e⟩ => ⟨r, hr, s, e⟩⟩
theorem sadj_adj {n : Net} {x y : Nat} {s : Int} (h : sadj n x y s) : adj n x y := adj_s.mpr ⟨s, h⟩
section
variable {many size : Nat} {n : Net}
theorem sadj_symm (h : GoodNet many size n) {x y : Nat} {s : Int} (a : sadj n x y s) : sadj n y x s := by
  obtain ⟨r, hr, e⟩ := a
  have hx : x < size := by rw [← (h.row r hr).len]; exact (List.getElem?_eq_some_iff.mp e).1
  obtain ⟨y', s', e1, hy, _, e2⟩ := (h.row r hr).ok x hx
  rw [e] at e1
  have q := Option.some.inj e1
  have q1 : (y : Int) = y' := congrArg Prod.fst q
  have q2 : s = s' := congrArg Prod.snd q
  have : y = y' := by omega
  subst this
  subst q2
  exact ⟨r, hr, e2⟩
theorem sadj_sign (h : GoodNet many size n) {x y : Nat} {s : Int} (a : sadj n x y s) : s = 1 ∨ s = -1 := by
  obtain ⟨r, hr, e⟩ := a
  have hx : x < size := by rw [← (h.row r hr).len]; exact (List.getElem?_eq_some_iff.mp e).1
  obtain ⟨y', s', e1, hy, hs, e2⟩ := (h.row r hr).ok x hx
  rw [e] at e1
  have q2 : s = s' := congrArg Prod.snd (Option.some.inj e1)
  rw [q2]
  exact hs
theorem reach_trans {x y z : Nat} (a : Reach n x y) (b : Reach n y z) : Reach n x z := fun K k c => b K (a K k c) c
theorem reach_one {x y : Nat} (a : adj n x y) : Reach n x y := fun K k c => c _ _ k a
theorem reach_symm (h : GoodNet many size n) {x y : Nat} (a : Reach n x y) : Reach n y x := a (fun z => Reach n z x) reach_refl fun p q k pq => reach_adj (adj_symm h pq) k
theorem reach_lt (h : GoodNet many size n) {x y : Nat} (a : Reach n x y) (hx : x < size) : y < size := a (fun z => z < size) hx fun p q _ pq => (adj_lt h pq).2
/-- a sign for each copy that is reached, as the steps say -/
def Pot (n : Net) (x : Nat) (f : Nat → Int) : Prop := f x = 1 ∧ ∀ p q s, Reach n x p → sadj n p q s → f q = f p * s
def Bal (n : Net) (x : Nat) : Prop := ∃ f, Pot n x f
theorem pot_one (h : GoodNet many size n) {x : Nat} {f : Nat → Int} (p : Pot n x f) {y : Nat} (a : Reach n x y) : f y = 1 ∨ f y = -1 := by
  have := a (fun z => Reach n x z ∧ (f z = 1 ∨ f z = -1)) ⟨reach_refl, .inl p.1⟩ fun u v k uv => by
    obtain ⟨s, hs⟩ := adj_s.mp uv
    refine ⟨reach_trans k.1 (reach_one uv), ?_⟩
    rw [p.2 u v s k.1 hs]
    rcases k.2 with e | e <;> rcases sadj_sign h hs with e' | e' <;> rw [e, e'] <;> decide
  exact this.2
theorem bal_on (h : GoodNet many size n) {x y : Nat} (b : Bal n x) (a : Reach n x y) : Bal n y := by
  obtain ⟨f, p⟩ := b
  have e := pot_one h p a
  refine ⟨fun z => f z * f y, ?_, fun u v s k uv => ?_⟩
  · show f y * f y = 1
    rcases e with e | e <;> rw [e] <;> decide
  · show f v * f y = f u * f y * s
    rw [p.2 u v s (reach_trans a k) uv, Int.mul_assoc, Int.mul_assoc, Int.mul_comm s]
def IsHead (n : Net) (z : Nat) : Prop := ∀ y, Reach n z y → z ≤ y
theorem head_of (h : GoodNet many size n) (x : Nat) : ∃ z, Reach n x z ∧ IsHead n z := by
  obtain ⟨m, h1, h2⟩ := least (P := fun z => Reach n x z) x reach_refl
  exact ⟨m, h1, fun y r => h2 y (reach_trans h1 r)⟩
theorem head_eq (h : GoodNet many size n) {x y : Nat} (hx : IsHead n x) (hy : IsHead n y) (r : Reach n x y) : x = y := Nat.le_antisymm (hx y r) (hy x (reach_symm h r))
open Classical in
noncomputable def heads (n : Net) (size : Nat) : List Nat := (List.range size).filter fun z => decide (IsHead n z)
open Classical in
noncomputable def kinN (n : Net) (size : Nat) : Nat := ((heads n size).filter fun z => decide (Bal n z)).length
open Classical in
noncomputable def comp (n : Net) (size x : Nat) : List Nat := (List.range size).filter fun y => decide (Reach n x y)
open Classical in
noncomputable def balB (n : Net) (x : Nat) : Bool := decide (Bal n x)
open Classical in
noncomputable def kins (n : Net) (size : Nat) : List Nat := (heads n size).filter fun z => decide (Bal n z)
theorem mem_kins {z : Nat} : z ∈ kins n size ↔ z < size ∧ IsHead n z ∧ Bal n z := by
  unfold kins heads
  simp only [List.mem_filter, List.mem_range, decide_eq_true_eq, and_assoc]
theorem kins_nodup : (kins n size).Nodup := by
  unfold kins heads
  exact (List.nodup_range.filter _).filter _
theorem kins_len : (kins n size).length = kinN n size := rfl
end
theorem map_nodup {α β : Type} {f : α → β} : ∀ {l : List α}, l.Nodup → (∀ a ∈ l, ∀ b ∈ l, f a = f b → a = b) → (l.map f).Nodup
  | [], _, _ => List.nodup_nil
  | a :: l, nd, h => by
    obtain ⟨n1, n2⟩ := List.nodup_cons.mp nd
    refine List.nodup_cons.mpr ⟨fun z => ?_, map_nodup n2 fun a ha b hb => h a (List.mem_cons_of_mem _ ha) b (List.mem_cons_of_mem _ hb)⟩
    obtain ⟨b, hb, e⟩ := List.mem_map.mp z
    have := h b (List.mem_cons_of_mem _ hb) a List.mem_cons_self e
    subst this
    exact n1 hb
/-- the moves of the one net are those of the other one under new numbers -/
structure Emb (size : Nat) (n n' : Net) (φ : Nat → Nat) : Prop where
  inj : ∀ x y, x < size → y < size → φ x = φ y → x = y
  fwd : ∀ x y s, x < size → sadj n x y s → sadj n' (φ x) (φ y) s
  bwd : ∀ x z s, x < size → sadj n' (φ x) z s → ∃ y, y < size ∧ z = φ y ∧ sadj n x y s
section
variable {many size many' size' : Nat} {n n' : Net} {φ : Nat → Nat}
theorem Emb.reach (e : Emb size n n' φ) (h : GoodNet many size n) {x y : Nat} (hx : x < size) (r : Reach n x y) : Reach n' (φ x) (φ y) := by
  have := r (fun z => z < size ∧ Reach n' (φ x) (φ z)) ⟨hx, reach_refl⟩ fun a b k ab => by
    obtain ⟨s, hs⟩ := adj_s.mp ab
    exact ⟨(adj_lt h ab).2, reach_trans k.2 (reach_one (sadj_adj (e.fwd a b s k.1 hs)))⟩
  exact this.2
theorem Emb.back (e : Emb size n n' φ) {x z : Nat} (hx : x < size) (r : Reach n' (φ x) z) : ∃ y, y < size ∧ z = φ y ∧ Reach n x y := 
  r (fun z => ∃ y, y < size ∧ z = φ y ∧ Reach n x y) ⟨x, hx, rfl, reach_refl⟩ fun a b ⟨y, hy, ey, k⟩ ab => by
    subst ey
    obtain ⟨s, hs⟩ := adj_s.mp ab
    obtain ⟨w, hw, ew, a2⟩ := e.bwd y b s hy hs
    exact ⟨w, hw, ew, reach_trans k (reach_one (sadj_adj a2))⟩
theorem Emb.back2 (e : Emb size n n' φ) {x y : Nat} (hx : x < size) (hy : y < size) (r : Reach n' (φ x) (φ y)) : Reach n x y := by
  obtain ⟨w, hw, ew, k⟩ := e.back hx r
  rw [e.inj y w hy hw ew]
  exact k
open Classical in
theorem Emb.bal (e : Emb size n n' φ) (h : GoodNet many size n) {x : Nat} (hx : x < size) : Bal n x ↔ Bal n' (φ x) := by
  constructor
  · rintro ⟨f, p1, p2⟩
    have val : ∀ y, y < size → (if q : ∃ u, u < size ∧ φ y = φ u then f q.choose else 1) = f y := fun y hy => by
      have q : ∃ u, u < size ∧ φ y = φ u := ⟨y, hy, rfl⟩
      rw [dif_pos q]
      exact congrArg f (e.inj y q.choose hy q.choose_spec.1 q.choose_spec.2).symm
    refine ⟨fun z => if q : ∃ u, u < size ∧ z = φ u then f q.choose else 1, (val x hx).trans p1, fun p q s r a => ?_⟩
    obtain ⟨y, hy, rfl, k⟩ := e.back hx r
    obtain ⟨w, hw, rfl, a2⟩ := e.bwd y q s hy a
    exact (val w hw).trans ((p2 y w s k a2).trans (congrArg (· * s) (val y hy).symm))
  · rintro ⟨f, p1, p2⟩
    refine ⟨fun z => f (φ z), p1, fun p q s r a => ?_⟩
    have hp : p < size := reach_lt h r hx
    exact p2 (φ p) (φ q) s (e.reach h hx r) (e.fwd p q s hp a)
theorem kin_le (h : GoodNet many size n) (h' : GoodNet many' size' n') (e : Emb size n n' φ) (lt : ∀ x, x < size → φ x < size') : kinN n size ≤ kinN n' size' := by
  rw [← kins_len, ← kins_len, ← List.length_map (f := fun z => (head_of h' (φ z)).choose)]
  refine nodup_sub_len (map_nodup kins_nodup fun a ha b hb q => ?_) fun z hz => ?_
  · obtain ⟨a1, a2, a3⟩ := mem_kins.mp ha
    obtain ⟨b1, b2, b3⟩ := mem_kins.mp hb
    have r1 := (head_of h' (φ a)).choose_spec.1
    have r2 := (head_of h' (φ b)).choose_spec.1
    rw [← q] at r2
    exact head_eq h a2 b2 (e.back2 a1 b1 (reach_trans r1 (reach_symm h' r2)))
  · obtain ⟨a, ha, rfl⟩ := List.mem_map.mp hz
    obtain ⟨a1, a2, a3⟩ := mem_kins.mp ha
    obtain ⟨r1, r2⟩ := (head_of h' (φ a)).choose_spec
    exact mem_kins.mpr ⟨reach_lt h' r1 (lt a a1), r2, bal_on h' ((e.bal h a1).mp a3) r1⟩
theorem kin_sum {many1 size1 many2 size2 : Nat} {n1 n2 : Net} {φ ψ : Nat → Nat} (h1 : GoodNet many1 size1 n1) (h2 : GoodNet many2 size2 n2) (h' : GoodNet many' size' n') (e1 : Emb size1 n1 n' φ) (e2 : Emb size2 n2 n' ψ) (lt1 : ∀ x, x < size1 → φ x < size') (lt2 : ∀ x, x < size2 → ψ x < size')
    (cov : ∀ z, z < size' → (∃ x, x < size1 ∧ z = φ x) ∨ ∃ x, x < size2 ∧ z = ψ x) (dj : ∀ x y, x < size1 → y < size2 → φ x ≠ ψ y) : kinN n' size' = kinN n1 size1 + kinN n2 size2 := by
  have cross : ∀ x y, x < size1 → y < size2 → ¬ Reach n' (φ x) (ψ y) := fun x y hx hy r => by
    obtain ⟨w, hw, ew, _⟩ := e1.back hx r
    exact dj w y hw hy ew.symm
  refine Nat.le_antisymm ?_ ?_
  · let g : Nat → Nat ⊕ Nat := fun z => if q : ∃ x, x < size1 ∧ z = φ x then .inl (head_of h1 q.choose).choose else if q : ∃ x, x < size2 ∧ z = ψ x then .inr (head_of h2 q.choose).choose else .inl 0
    have gl : ∀ z, (∃ x, x < size1 ∧ z = φ x) → ∃ x, x < size1 ∧ z = φ x ∧ g z = .inl (head_of h1 x).choose := fun z q => ⟨q.choose, q.choose_spec.1, q.choose_spec.2, by show (if q : ∃ x, x < size1 ∧ z = φ x then _ else _) = _; rw [dif_pos q]⟩
    have gr : ∀ z, ¬ (∃ x, x < size1 ∧ z = φ x) → (∃ x, x < size2 ∧ z = ψ x) → ∃ x, x < size2 ∧ z = ψ x ∧ g z = .inr (head_of h2 x).choose := fun z nq q => ⟨q.choose, q.choose_spec.1, q.choose_spec.2, by
      show (if q : ∃ x, x < size1 ∧ z = φ x then _ else _) = _
      rw [dif_neg nq]
      show (if q : ∃ x, x < size2 ∧ z = ψ x then _ else _) = _
      rw [dif_pos q]⟩
    have cases_ : ∀ z, z < size' → (∃ x, x < size1 ∧ z = φ x ∧ g z = .inl (head_of h1 x).choose) ∨ ∃ x, x < size2 ∧ z = ψ x ∧ g z = .inr (head_of h2 x).choose := fun z hz => by
      by_cases q : ∃ x, x < size1 ∧ z = φ x
      · exact .inl (gl z q)
      · exact .inr (gr z q ((cov z hz).resolve_left q))
    rw [← kins_len, ← List.length_map (f := g)]
    have len : kinN n1 size1 + kinN n2 size2 = ((kins n1 size1).map (Sum.inl (β := Nat)) ++ (kins n2 size2).map Sum.inr).length := by
      rw [List.length_append, List.length_map, List.length_map, kins_len, kins_len]
    rw [len]
    refine nodup_sub_len (map_nodup kins_nodup fun a ha b hb q => ?_) fun z hz => ?_
    · obtain ⟨a1, a2, a3⟩ := mem_kins.mp ha
      obtain ⟨b1, b2, b3⟩ := mem_kins.mp hb
      rcases cases_ a a1 with ⟨x, hx, rfl, ex⟩ | ⟨x, hx, rfl, ex⟩
      · rcases cases_ b b1 with ⟨y, hy, rfl, ey⟩ | ⟨y, hy, rfl, ey⟩
        · rw [ex, ey] at q
          have q := Sum.inl.inj q
          have r1 := (head_of h1 x).choose_spec.1
          have r2 := (head_of h1 y).choose_spec.1
          rw [← q] at r2
          exact head_eq h' a2 b2 (e1.reach h1 hx (reach_trans r1 (reach_symm h1 r2)))
        · rw [ex, ey] at q
          cases q
      · rcases cases_ b b1 with ⟨y, hy, rfl, ey⟩ | ⟨y, hy, rfl, ey⟩
        · rw [ex, ey] at q
          cases q
        · rw [ex, ey] at q
          have q := Sum.inr.inj q
          have r1 := (head_of h2 x).choose_spec.1
          have r2 := (head_of h2 y).choose_spec.1
          rw [← q] at r2
          exact head_eq h' a2 b2 (e2.reach h2 hx (reach_trans r1 (reach_symm h2 r2)))
    · obtain ⟨a, ha, rfl⟩ := List.mem_map.mp hz
      obtain ⟨a1, a2, a3⟩ := mem_kins.mp ha
      rcases cases_ a a1 with ⟨x, hx, rfl, ex⟩ | ⟨x, hx, rfl, ex⟩
      · rw [ex]
        obtain ⟨r1, r2⟩ := (head_of h1 x).choose_spec
        exact List.mem_append_left _ (List.mem_map.mpr ⟨_, mem_kins.mpr ⟨reach_lt h1 r1 hx, r2, bal_on h1 ((e1.bal h1 hx).mpr a3) r1⟩, rfl⟩)
      · rw [ex]
        obtain ⟨r1, r2⟩ := (head_of h2 x).choose_spec
        exact List.mem_append_right _ (List.mem_map.mpr ⟨_, mem_kins.mpr ⟨reach_lt h2 r1 hx, r2, bal_on h2 ((e2.bal h2 hx).mpr a3) r1⟩, rfl⟩)
  · have len : kinN n1 size1 + kinN n2 size2 = ((kins n1 size1).map (fun z => (head_of h' (φ z)).choose) ++ (kins n2 size2).map fun z => (head_of h' (ψ z)).choose).length := by
      rw [List.length_append, List.length_map, List.length_map, kins_len, kins_len]
    rw [len, ← kins_len]
    refine nodup_sub_len (List.nodup_append.mpr ⟨map_nodup kins_nodup fun a ha b hb q => ?_, map_nodup kins_nodup fun a ha b hb q => ?_, fun a ha b hb q => ?_⟩) fun z hz => ?_
    · obtain ⟨a1, a2, a3⟩ := mem_kins.mp ha
      obtain ⟨b1, b2, b3⟩ := mem_kins.mp hb
      have r1 := (head_of h' (φ a)).choose_spec.1
      have r2 := (head_of h' (φ b)).choose_spec.1
      rw [← q] at r2
      exact head_eq h1 a2 b2 (e1.back2 a1 b1 (reach_trans r1 (reach_symm h' r2)))
    · obtain ⟨a1, a2, a3⟩ := mem_kins.mp ha
      obtain ⟨b1, b2, b3⟩ := mem_kins.mp hb
      have r1 := (head_of h' (ψ a)).choose_spec.1
      have r2 := (head_of h' (ψ b)).choose_spec.1
      rw [← q] at r2
      exact head_eq h2 a2 b2 (e2.back2 a1 b1 (reach_trans r1 (reach_symm h' r2)))
    · obtain ⟨x, hx, rfl⟩ := List.mem_map.mp ha
      obtain ⟨y, hy, rfl⟩ := List.mem_map.mp hb
      have r1 := (head_of h' (φ x)).choose_spec.1
      have r2 := (head_of h' (ψ y)).choose_spec.1
      have q' : (head_of h' (φ x)).choose = (head_of h' (ψ y)).choose := q
      rw [← q'] at r2
      exact cross x y (mem_kins.mp hx).1 (mem_kins.mp hy).1 (reach_trans r1 (reach_symm h' r2))
    · rcases List.mem_append.mp hz with hz | hz
      · obtain ⟨a, ha, rfl⟩ := List.mem_map.mp hz
        obtain ⟨a1, a2, a3⟩ := mem_kins.mp ha
        obtain ⟨r1, r2⟩ := (head_of h' (φ a)).choose_spec
        exact mem_kins.mpr ⟨reach_lt h' r1 (lt1 a a1), r2, bal_on h' ((e1.bal h1 a1).mp a3) r1⟩
      · obtain ⟨a, ha, rfl⟩ := List.mem_map.mp hz
        obtain ⟨a1, a2, a3⟩ := mem_kins.mp ha
        obtain ⟨r1, r2⟩ := (head_of h' (ψ a)).choose_spec
        exact mem_kins.mpr ⟨reach_lt h' r1 (lt2 a a1), r2, bal_on h' ((e2.bal h2 a1).mp a3) r1⟩
end
end L3
/-! L3, part KB: products of nets, nets beside one another. -/
namespace L3
open PySem PySem.Spec PyProof.Rows L2
/-- the pair (y, x) has the number y * wide + x -/
def prodP (wide : Nat) (p q : Int × Int) : Int × Int := (q.1 * (wide : Int) + p.1, p.2 * q.2)
def prodR (wide : Nat) (r q : Row) : Row := (List.range (q.length * wide)).map fun p => prodP wide (r.getD (p % wide) (0, 1)) (q.getD (p / wide) (0, 1))
def prodN (wide : Nat) (a b : Net) : Net := (List.range a.length).map fun k => prodR wide (a.getD k []) (b.getD k [])
theorem div_lt {p a b : Nat} (h : p < a * b) : p / b < a := Nat.div_lt_of_lt_mul (by rw [Nat.mul_comm]; exact h)
theorem mod_lt' {p a b : Nat} (h : p < a * b) : p % b < b := Nat.mod_lt _ (by
  rcases Nat.eq_zero_or_pos b with e | e
  · rw [e, Nat.mul_zero] at h; omega
  · exact e)
theorem pair_lt {x y a b : Nat} (hx : x < b) (hy : y < a) : y * b + x < a * b := by
  have : (y + 1) * b ≤ a * b := Nat.mul_le_mul_right b hy
  rw [Nat.add_mul] at this
  omega
theorem pair_div {x y b : Nat} (hx : x < b) : (y * b + x) / b = y := by
  rw [Nat.mul_comm, Nat.mul_add_div (by omega), Nat.div_eq_of_lt hx, Nat.add_zero]
theorem pair_mod {x y b : Nat} (hx : x < b) : (y * b + x) % b = x := by
  rw [Nat.mul_comm, Nat.mul_add_mod, Nat.mod_eq_of_lt hx]
theorem pair_eq (p b : Nat) : p / b * b + p % b = p := by rw [Nat.mul_comm]; exact Nat.div_add_mod p b
section
variable {many s1 s2 : Nat} {a b : Net}
theorem prodR_len {wide : Nat} {r q : Row} : (prodR wide r q).length = q.length * wide := by simp [prodR]
theorem prodR_get {wide : Nat} {r q : Row} {p : Nat} {u v : Int × Int} (hp : p < q.length * wide) (h1 : r[p % wide]? = some u) (h2 : q[p / wide]? = some v) : (prodR wide r q)[p]? = some (prodP wide u v) := by
  unfold prodR
  rw [List.getElem?_map, List.getElem?_range hp, Option.map_some, List.getD_eq_getElem?_getD, List.getD_eq_getElem?_getD, h1, h2]
  rfl
theorem good_prodR {r q : Row} (g : GoodRow s1 r) (g' : GoodRow s2 q) : GoodRow (s2 * s1) (prodR s1 r q) where
  len := by rw [prodR_len, g'.len]
  ok := fun p hp => by
    have hx := mod_lt' hp
    have hy := div_lt hp
    obtain ⟨z, s, e1, hz, hs, e2⟩ := g.ok _ hx
    obtain ⟨w, t, e3, hw, ht, e4⟩ := g'.ok _ hy
    have lq := g'.len
    refine ⟨w * s1 + z, s * t, ?_, pair_lt hz hw, ?_, ?_⟩
    · rw [prodR_get (by rw [lq]; exact hp) e1 e3]
      unfold prodP
      simp
    · rcases hs with rfl | rfl <;> rcases ht with rfl | rfl <;> decide
    · have h1 := pair_mod (y := w) hz
      have h2 := pair_div (y := w) hz
      rw [prodR_get (p := w * s1 + z) (by rw [lq]; exact pair_lt hz hw) (by rw [h1]; exact e2) (by rw [h2]; exact e4)]
      unfold prodP
      have := pair_eq p s1
      have e5 : ((p / s1 : Nat) : Int) * (s1 : Int) + ((p % s1 : Nat) : Int) = (p : Int) := by exact_mod_cast this
      simp only [e5]
theorem prodN_get {wide : Nat} {k : Nat} {r q : Row} (h1 : a[k]? = some r) (h2 : b[k]? = some q) : (prodN wide a b)[k]? = some (prodR wide r q) := by
  unfold prodN
  rw [List.getElem?_map, List.getElem?_range (List.getElem?_eq_some_iff.mp h1).1, Option.map_some, List.getD_eq_getElem?_getD, List.getD_eq_getElem?_getD, h1, h2]
  rfl
theorem good_prodN (g : GoodNet many s1 a) (g' : GoodNet many s2 b) (hs : s2 * s1 ≤ 1000) : GoodNet many (s2 * s1) (prodN s1 a b) :=
  ⟨by simp [prodN, g.len], g.m0, g.m1, Nat.mul_pos g'.s0 g.s0, hs, fun r hr => by
    obtain ⟨k, e⟩ := List.mem_iff_getElem?.mp hr
    have hk' : k < many := by
      have := (List.getElem?_eq_some_iff.mp e).1
      simp [prodN, g.len] at this
      exact this
    obtain ⟨q1, e1, g1⟩ := g.get hk'
    obtain ⟨q2, e2, g2⟩ := g'.get hk'
    rw [prodN_get e1 e2] at e
    cases e
    exact good_prodR g1 g2⟩
theorem sadj_k {n : Net} {x y : Nat} {s : Int} : sadj n x y s ↔ ∃ (k : Nat) (r : Row), n[k]? = some r ∧ r[x]? = some ((y : Int), s) := ⟨fun ⟨r, hr, e⟩ => by
    obtain ⟨k, h⟩ := List.mem_iff_getElem?.mp hr
    exact ⟨k, r, h, e⟩, fun ⟨k, r, h, e⟩ => ⟨r, List.mem_of_getElem? h, e⟩⟩
/-- the steps of a product -/
theorem sadj_prod (g : GoodNet many s1 a) (g' : GoodNet many s2 b) {p q : Nat} {s : Int} (hp : p < s2 * s1) : sadj (prodN s1 a b) p q s ↔
    ∃ (k : Nat) (r1 r2 : Row) (z w : Nat) (s' t : Int), a[k]? = some r1 ∧ b[k]? = some r2 ∧ r1[p % s1]? = some ((z : Int), s') ∧ r2[p / s1]? = some ((w : Int), t) ∧ z < s1 ∧ w < s2 ∧ q = w * s1 + z ∧ s = s' * t := by
  rw [sadj_k]
  constructor
  · rintro ⟨k, r, h, e⟩
    have hk : k < many := by
      have := (List.getElem?_eq_some_iff.mp h).1
      simp [prodN, g.len] at this
      exact this
    obtain ⟨q1, e1, g1⟩ := g.get hk
    obtain ⟨q2, e2, g2⟩ := g'.get hk
    rw [prodN_get e1 e2] at h
    cases h
    obtain ⟨z, s', h1, hz, _, _⟩ := g1.ok _ (mod_lt' hp)
    obtain ⟨w, t, h2, hw, _, _⟩ := g2.ok _ (div_lt hp)
    rw [prodR_get (by rw [g2.len]; exact hp) h1 h2] at e
    have e' := Option.some.inj e
    have ea : (w : Int) * (s1 : Int) + (z : Int) = (q : Int) := congrArg Prod.fst e'
    have eb : s' * t = s := congrArg Prod.snd e'
    exact ⟨k, q1, q2, z, w, s', t, e1, e2, h1, h2, hz, hw, by exact_mod_cast ea.symm, eb.symm⟩
  · rintro ⟨k, r1, r2, z, w, s', t, e1, e2, h1, h2, hz, hw, rfl, rfl⟩
    have g2 := g'.row _ (List.mem_of_getElem? e2)
    refine ⟨k, prodR s1 r1 r2, prodN_get e1 e2, ?_⟩
    rw [prodR_get (by rw [g2.len]; exact hp) h1 h2]
    unfold prodP
    simp
/-- both orders -/
theorem emb_swap (g : GoodNet many s1 a) (g' : GoodNet many s2 b) : Emb (s2 * s1) (prodN s1 a b) (prodN s2 b a) (fun p => p % s1 * s2 + p / s1) where
  inj := fun x y hx hy e => by
    have e' : x % s1 * s2 + x / s1 = y % s1 * s2 + y / s1 := e
    have h1 := pair_div (y := x % s1) (div_lt hx)
    have h2 := pair_div (y := y % s1) (div_lt hy)
    have h3 := pair_mod (y := x % s1) (div_lt hx)
    have h4 := pair_mod (y := y % s1) (div_lt hy)
    rw [e'] at h1 h3
    have a1 : x % s1 = y % s1 := h1.symm.trans h2
    have a2 : x / s1 = y / s1 := h3.symm.trans h4
    rw [← pair_eq x s1, ← pair_eq y s1, a1, a2]
  fwd := fun x y s hx h => by
    obtain ⟨k, r1, r2, z, w, s', t, e1, e2, h1, h2, hz, hw, rfl, rfl⟩ := (sadj_prod g g' hx).mp h
    refine (sadj_prod g' g (pair_lt (div_lt hx) (mod_lt' hx))).mpr ⟨k, r2, r1, w, z, t, s', e2, e1, ?_, ?_, hw, hz, ?_, Int.mul_comm _ _⟩
    · rw [pair_mod (div_lt hx)]
      exact h2
    · rw [pair_div (div_lt hx)]
      exact h1
    · show (w * s1 + z) % s1 * s2 + (w * s1 + z) / s1 = z * s2 + w
      rw [pair_mod hz, pair_div hz]
  bwd := fun x q s hx h => by
    obtain ⟨k, r1, r2, z, w, s', t, e1, e2, h1, h2, hz, hw, rfl, rfl⟩ := (sadj_prod g' g (pair_lt (div_lt hx) (mod_lt' hx))).mp h
    rw [pair_mod (div_lt hx)] at h1
    rw [pair_div (div_lt hx)] at h2
    refine ⟨z * s1 + w, pair_lt hw hz, ?_, (sadj_prod g g' hx).mpr ⟨k, r2, r1, w, z, t, s', e2, e1, h2, h1, hw, hz, rfl, Int.mul_comm _ _⟩⟩
    show w * s2 + z = (z * s1 + w) % s1 * s2 + (z * s1 + w) / s1
    rw [pair_mod hw, pair_div hw]
theorem kin_comm (g : GoodNet many s1 a) (g' : GoodNet many s2 b) (hs : s2 * s1 ≤ 1000) : kinN (prodN s1 a b) (s2 * s1) = kinN (prodN s2 b a) (s1 * s2) := by
  have h1 := good_prodN g g' hs
  have h2 := good_prodN g' g (by rw [Nat.mul_comm]; exact hs)
  exact Nat.le_antisymm (kin_le h1 h2 (emb_swap g g') fun x hx => pair_lt (div_lt hx) (mod_lt' hx)) (kin_le h2 h1 (emb_swap g' g) fun x hx => pair_lt (div_lt hx) (mod_lt' hx))
/-! ### beside -/
def shiftR (by_ : Nat) (r : Row) : Row := r.map fun p => (p.1 + (by_ : Int), p.2)
def besideN (by_ : Nat) (a c : Net) : Net := (List.range a.length).map fun k => a.getD k [] ++ shiftR by_ (c.getD k [])
variable {s3 : Nat} {c : Net}
theorem besideN_get {by_ k : Nat} {r q : Row} (h1 : a[k]? = some r) (h2 : c[k]? = some q) : (besideN by_ a c)[k]? = some (r ++ shiftR by_ q) := by
  unfold besideN
  rw [List.getElem?_map, List.getElem?_range (List.getElem?_eq_some_iff.mp h1).1, Option.map_some, List.getD_eq_getElem?_getD, List.getD_eq_getElem?_getD, h1, h2]
  rfl
theorem shiftR_get {by_ x : Nat} {q : Row} {y s : Int} (h : q[x]? = some (y, s)) : (shiftR by_ q)[x]? = some (y + (by_ : Int), s) := by
  unfold shiftR
  rw [List.getElem?_map, h]
  rfl
theorem good_besideR {r q : Row} (g : GoodRow s1 r) (g' : GoodRow s3 q) : GoodRow (s1 + s3) (r ++ shiftR s1 q) where
  len := by simp [shiftR, g.len, g'.len]
  ok := fun x hx => by
    have l := g.len
    by_cases h : x < s1
    · obtain ⟨y, s, e1, hy, hs, e2⟩ := g.ok x h
      exact ⟨y, s, by rw [List.getElem?_append_left (by omega)]; exact e1, by omega, hs, by rw [List.getElem?_append_left (by omega)]; exact e2⟩
    · obtain ⟨y, s, e1, hy, hs, e2⟩ := g'.ok (x - s1) (by omega)
      refine ⟨y + s1, s, ?_, by omega, hs, ?_⟩
      · rw [List.getElem?_append_right (by omega), l, shiftR_get e1]
        simp
      · rw [List.getElem?_append_right (by omega), l, Nat.add_sub_cancel, shiftR_get e2]
        congr 2
        omega
theorem good_besideN (g : GoodNet many s1 a) (g' : GoodNet many s3 c) (hs : s1 + s3 ≤ 1000) : GoodNet many (s1 + s3) (besideN s1 a c) :=
  ⟨by simp [besideN, g.len], g.m0, g.m1, by have := g.s0; omega, hs, fun r hr => by
    obtain ⟨k, e⟩ := List.mem_iff_getElem?.mp hr
    have hk : k < many := by
      have := (List.getElem?_eq_some_iff.mp e).1
      simp [besideN, g.len] at this
      exact this
    obtain ⟨q1, e1, g1⟩ := g.get hk
    obtain ⟨q2, e2, g2⟩ := g'.get hk
    rw [besideN_get e1 e2] at e
    cases e
    exact good_besideR g1 g2⟩
theorem emb_left (g : GoodNet many s1 a) (g3 : GoodNet many s3 c) (hs : s1 + s3 ≤ 1000) : Emb s1 a (besideN s1 a c) (fun x => x) where
  inj := fun x y _ _ e => e
  fwd := fun x y s hx h => by
    obtain ⟨k, r, e, h⟩ := sadj_k.mp h
    have hk : k < many := by rw [← g.len]; exact (List.getElem?_eq_some_iff.mp e).1
    obtain ⟨q2, e2, g2⟩ := g3.get hk
    refine sadj_k.mpr ⟨k, _, besideN_get e e2, ?_⟩
    rw [List.getElem?_append_left (by rw [(g.row r (List.mem_of_getElem? e)).len]; exact hx)]
    exact h
  bwd := fun x z s hx h => by
    obtain ⟨k, r, e, h⟩ := sadj_k.mp h
    have hk : k < many := by
      have := (List.getElem?_eq_some_iff.mp e).1
      simp [besideN, g.len] at this
      exact this
    obtain ⟨q1, e1, g1⟩ := g.get hk
    obtain ⟨q2, e2, g2⟩ := g3.get hk
    rw [besideN_get e1 e2] at e
    cases e
    rw [List.getElem?_append_left (by rw [g1.len]; exact hx)] at h
    obtain ⟨y, s', h1, hy, _, _⟩ := g1.ok x hx
    rw [h] at h1
    have : (z : Int) = y := congrArg Prod.fst (Option.some.inj h1)
    exact ⟨z, by omega, rfl, sadj_k.mpr ⟨k, q1, e1, h⟩⟩
theorem emb_right (g : GoodNet many s1 a) (g3 : GoodNet many s3 c) (hs : s1 + s3 ≤ 1000) : Emb s3 c (besideN s1 a c) (fun x => s1 + x) where
  inj := fun x y _ _ (e : s1 + x = s1 + y) => by omega
  fwd := fun x y s hx h => by
    obtain ⟨k, r, e, h⟩ := sadj_k.mp h
    have hk : k < many := by rw [← g3.len]; exact (List.getElem?_eq_some_iff.mp e).1
    obtain ⟨q1, e1, g1⟩ := g.get hk
    refine sadj_k.mpr ⟨k, _, besideN_get e1 e, ?_⟩
    show _ = some (((s1 + y : Nat) : Int), s)
    rw [List.getElem?_append_right (by rw [g1.len]; omega), g1.len, Nat.add_sub_cancel_left, shiftR_get h]
    congr 2
    omega
  bwd := fun x z s hx h => by
    obtain ⟨k, r, e, h⟩ := sadj_k.mp h
    have hk : k < many := by
      have := (List.getElem?_eq_some_iff.mp e).1
      simp [besideN, g.len] at this
      exact this
    obtain ⟨q1, e1, g1⟩ := g.get hk
    obtain ⟨q2, e2, g2⟩ := g3.get hk
    rw [besideN_get e1 e2] at e
    cases e
    obtain ⟨y, s', h1, hy, _, _⟩ := g2.ok x hx
    rw [List.getElem?_append_right (by rw [g1.len]; omega), g1.len, Nat.add_sub_cancel_left, shiftR_get h1] at h
    have h' := Option.some.inj h
    have ea : (y : Int) + (s1 : Int) = z := congrArg Prod.fst h'
    have eb : s' = s := congrArg Prod.snd h'
    subst eb
    exact ⟨y, hy, by omega, sadj_k.mpr ⟨k, q2, e2, h1⟩⟩
/-- an embedding carries over to products on the right -/
theorem emb_prod {s4 : Nat} {d : Net} {φ : Nat → Nat} (g : GoodNet many s1 a) (gd : GoodNet many s4 d) (gb : GoodNet many s2 b) (hk : ∀ (k : Nat) r r', a[k]? = some r → d[k]? = some r' → ∀ x, x < s1 → ∀ (y : Nat) s, r[x]? = some ((y : Int), s) → r'[φ x]? = some ((φ y : Int), s)) (lt : ∀ x, x < s1 → φ x < s4) (inj : ∀ x y, x < s1 → y < s1 → φ x = φ y → x = y) :
    Emb (s2 * s1) (prodN s1 a b) (prodN s4 d b) (fun p => p / s1 * s4 + φ (p % s1)) where
  inj := fun x y hx hy e => by
    have e' : x / s1 * s4 + φ (x % s1) = y / s1 * s4 + φ (y % s1) := e
    have lx := lt _ (mod_lt' hx)
    have ly := lt _ (mod_lt' hy)
    have h1 := pair_div (y := x / s1) lx
    have h2 := pair_div (y := y / s1) ly
    have h3 := pair_mod (y := x / s1) lx
    have h4 := pair_mod (y := y / s1) ly
    rw [e'] at h1 h3
    have a1 : x / s1 = y / s1 := h1.symm.trans h2
    have a2 : x % s1 = y % s1 := inj _ _ (mod_lt' hx) (mod_lt' hy) (h3.symm.trans h4)
    rw [← pair_eq x s1, ← pair_eq y s1, a1, a2]
  fwd := fun x y s hx h => by
    obtain ⟨k, r1, r2, z, w, s', t, e1, e2, h1, h2, hz, hw, rfl, rfl⟩ := (sadj_prod g gb hx).mp h
    have hkm : k < many := by rw [← g.len]; exact (List.getElem?_eq_some_iff.mp e1).1
    obtain ⟨r', e3, g3⟩ := gd.get hkm
    have lx := lt _ (mod_lt' hx)
    refine (sadj_prod gd gb (pair_lt lx (div_lt hx))).mpr ⟨k, r', r2, φ z, w, s', t, e3, e2, ?_, ?_, lt z hz, hw, ?_, rfl⟩
    · rw [pair_mod lx]
      exact hk k r1 r' e1 e3 _ (mod_lt' hx) z s' h1
    · rw [pair_div lx]
      exact h2
    · show (w * s1 + z) / s1 * s4 + φ ((w * s1 + z) % s1) = w * s4 + φ z
      rw [pair_mod hz, pair_div hz]
  bwd := fun x q s hx h => by
    have lx := lt _ (mod_lt' hx)
    obtain ⟨k, r', r2, z, w, s', t, e3, e2, h1, h2, hz, hw, rfl, rfl⟩ := (sadj_prod gd gb (pair_lt lx (div_lt hx))).mp h
    rw [pair_mod lx] at h1
    rw [pair_div lx] at h2
    have hkm : k < many := by rw [← gd.len]; exact (List.getElem?_eq_some_iff.mp e3).1
    obtain ⟨r1, e1, g1⟩ := g.get hkm
    obtain ⟨y, s'', e4, hy, _, _⟩ := g1.ok _ (mod_lt' hx)
    have := hk k r1 r' e1 e3 _ (mod_lt' hx) y s'' e4
    rw [h1] at this
    have q := Option.some.inj this
    have ea : (z : Int) = φ y := congrArg Prod.fst q
    have eb : s' = s'' := congrArg Prod.snd q
    have ez : z = φ y := by omega
    subst ez
    subst eb
    refine ⟨w * s1 + y, pair_lt hy hw, ?_, (sadj_prod g gb hx).mpr ⟨k, r1, r2, y, w, s', t, e1, e2, e4, h2, hy, hw, rfl, rfl⟩⟩
    show w * s4 + φ y = (w * s1 + y) / s1 * s4 + φ ((w * s1 + y) % s1)
    rw [pair_mod hy, pair_div hy]
theorem kin_beside (g : GoodNet many s1 a) (g3 : GoodNet many s3 c) (gb : GoodNet many s2 b) (hs : s2 * (s1 + s3) ≤ 1000) : kinN (prodN (s1 + s3) (besideN s1 a c) b) (s2 * (s1 + s3)) = kinN (prodN s1 a b) (s2 * s1) + kinN (prodN s3 c b) (s2 * s3) := by
  have b0 := gb.s0
  have le1 : s1 + s3 ≤ 1000 := Nat.le_trans (Nat.le_mul_of_pos_left _ b0) hs
  have h1 : s2 * s1 ≤ 1000 := Nat.le_trans (Nat.mul_le_mul_left _ (by omega)) hs
  have h3 : s2 * s3 ≤ 1000 := Nat.le_trans (Nat.mul_le_mul_left _ (by omega)) hs
  have gd := good_besideN g g3 le1
  have kl : ∀ (k : Nat) r r', a[k]? = some r → (besideN s1 a c)[k]? = some r' → ∀ x, x < s1 → ∀ (y : Nat) s, r[x]? = some ((y : Int), s) → r'[x]? = some ((y : Int), s) := fun k r r' e e' x hx y s h => by
    have hk : k < many := by rw [← g.len]; exact (List.getElem?_eq_some_iff.mp e).1
    obtain ⟨q2, e2, g2⟩ := g3.get hk
    rw [besideN_get e e2] at e'
    cases e'
    rw [List.getElem?_append_left (by rw [(g.row r (List.mem_of_getElem? e)).len]; exact hx)]
    exact h
  have kr : ∀ (k : Nat) r r', c[k]? = some r → (besideN s1 a c)[k]? = some r' → ∀ x, x < s3 → ∀ (y : Nat) s, r[x]? = some ((y : Int), s) → r'[s1 + x]? = some (((s1 + y : Nat) : Int), s) := fun k r r' e e' x hx y s h => by
    have hk : k < many := by rw [← g3.len]; exact (List.getElem?_eq_some_iff.mp e).1
    obtain ⟨q1, e1, g1⟩ := g.get hk
    rw [besideN_get e1 e] at e'
    cases e'
    rw [List.getElem?_append_right (by rw [g1.len]; omega), g1.len, Nat.add_sub_cancel_left, shiftR_get h]
    congr 2
    omega
  refine kin_sum (good_prodN g gb h1) (good_prodN g3 gb h3) (good_prodN gd gb hs) (emb_prod (φ := fun x => x) g gd gb kl (fun x hx => by omega) fun x y _ _ e => e) (emb_prod (φ := fun x => s1 + x) g3 gd gb kr (fun x hx => by omega) fun x y _ _ (e : s1 + x = s1 + y) => by omega)
    (fun x hx => pair_lt (by have := mod_lt' hx; omega) (div_lt hx)) (fun x hx => pair_lt (by have := mod_lt' hx; omega) (div_lt hx)) (fun z hz => ?_) fun x y hx hy e => ?_
  · have hm := mod_lt' hz
    have hd := div_lt hz
    by_cases q : z % (s1 + s3) < s1
    · refine .inl ⟨z / (s1 + s3) * s1 + z % (s1 + s3), pair_lt q hd, ?_⟩
      show z = (z / (s1 + s3) * s1 + z % (s1 + s3)) / s1 * (s1 + s3) + (z / (s1 + s3) * s1 + z % (s1 + s3)) % s1
      rw [pair_div q, pair_mod q, pair_eq]
    · have q' : z % (s1 + s3) - s1 < s3 := by omega
      refine .inr ⟨z / (s1 + s3) * s3 + (z % (s1 + s3) - s1), pair_lt q' hd, ?_⟩
      show z = (z / (s1 + s3) * s3 + (z % (s1 + s3) - s1)) / s3 * (s1 + s3) + (s1 + (z / (s1 + s3) * s3 + (z % (s1 + s3) - s1)) % s3)
      rw [pair_div q', pair_mod q', show s1 + (z % (s1 + s3) - s1) = z % (s1 + s3) by omega, pair_eq]
  · have e' : x / s1 * (s1 + s3) + x % s1 = y / s3 * (s1 + s3) + (s1 + y % s3) := e
    have l1 := mod_lt' hx
    have l2 := mod_lt' hy
    have h1 := pair_mod (y := x / s1) (show x % s1 < s1 + s3 by omega)
    have h2 := pair_mod (y := y / s3) (show s1 + y % s3 < s1 + s3 by omega)
    rw [e', h2] at h1
    omega
/-- the diagonal -/
theorem sadj_diag (g : GoodNet many s1 a) {x q : Nat} {s : Int} (hx : x < s1) (h : sadj (prodN s1 a a) (x * s1 + x) q s) : ∃ y, y < s1 ∧ q = y * s1 + y ∧ s = 1 ∧ adj a x y := by
  obtain ⟨k, r1, r2, z, w, s', t, e1, e2, h1, h2, hz, hw, rfl, rfl⟩ := (sadj_prod g g (pair_lt hx hx)).mp h
  rw [pair_mod hx] at h1
  rw [pair_div hx] at h2
  rw [e1] at e2
  cases e2
  rw [h1] at h2
  have q := Option.some.inj h2
  have ea : (z : Int) = w := congrArg Prod.fst q
  have eb : s' = t := congrArg Prod.snd q
  have ez : z = w := by omega
  subst ez
  subst eb
  have a1 : sadj a x z s' := sadj_k.mpr ⟨k, r1, e1, h1⟩
  refine ⟨z, hz, rfl, ?_, sadj_adj a1⟩
  rcases sadj_sign g a1 with e | e <;> rw [e] <;> decide
theorem reach_diag (g : GoodNet many s1 a) {x q : Nat} (hx : x < s1) (h : Reach (prodN s1 a a) (x * s1 + x) q) : ∃ y, y < s1 ∧ q = y * s1 + y ∧ Reach a x y :=
  h (fun q => ∃ y, y < s1 ∧ q = y * s1 + y ∧ Reach a x y) ⟨x, hx, rfl, reach_refl⟩ fun u v ⟨y, hy, ey, k⟩ uv => by
    subst ey
    obtain ⟨s, hs⟩ := adj_s.mp uv
    obtain ⟨w, hw, ew, _, a2⟩ := sadj_diag g hy hs
    exact ⟨w, hw, ew, reach_trans k (reach_one a2)⟩
theorem kin_parts (g : GoodNet many s1 a) (hs : s1 * s1 ≤ 1000) {f : Nat → Nat} (hf : Fixed a f) : (partsOf s1 f).length ≤ kinN (prodN s1 a a) (s1 * s1) := by
  have h' := good_prodN g g hs
  unfold partsOf
  rw [List.length_map, ← kins_len, ← List.length_map (f := fun z => (head_of h' (z * s1 + z)).choose)]
  have eqf : ∀ x y, Reach a x y → f x = f y := fun x y r => r (fun z => f x = f z) rfl fun p q k pq => k.trans (hf.1 p q pq)
  refine nodup_sub_len (map_nodup (List.nodup_range.filter _) fun u hu v hv q => ?_) fun z hz => ?_
  · obtain ⟨u1, u2⟩ := List.mem_filter.mp hu
    obtain ⟨v1, v2⟩ := List.mem_filter.mp hv
    have u1 := List.mem_range.mp u1
    have v1 := List.mem_range.mp v1
    have u2 : f u = u := by simpa using u2
    have v2 : f v = v := by simpa using v2
    have r1 := (head_of h' (u * s1 + u)).choose_spec.1
    have r2 := (head_of h' (v * s1 + v)).choose_spec.1
    rw [← q] at r2
    obtain ⟨y, hy, ey, k1⟩ := reach_diag g u1 r1
    obtain ⟨w, hw, ew, k2⟩ := reach_diag g v1 r2
    have e2 : y * s1 + y = w * s1 + w := ey.symm.trans ew
    have e3 := pair_mod (y := y) hy
    rw [e2, pair_mod hw] at e3
    subst e3
    have := eqf _ _ k1
    have := eqf _ _ k2
    omega
  · obtain ⟨u, hu, rfl⟩ := List.mem_map.mp hz
    obtain ⟨u1, _⟩ := List.mem_filter.mp hu
    have u1 := List.mem_range.mp u1
    obtain ⟨r1, r2⟩ := (head_of h' (u * s1 + u)).choose_spec
    refine mem_kins.mpr ⟨reach_lt h' r1 (pair_lt u1 u1), r2, bal_on h' ⟨fun _ => 1, rfl, fun p q s r pq => ?_⟩ r1⟩
    obtain ⟨y, hy, rfl, _⟩ := reach_diag g u1 r
    obtain ⟨_, _, _, e, _⟩ := sadj_diag g hy pq
    rw [e]
    rfl
end
end L3
/-! L3, part KC: going through a round. -/
namespace L3
open PySem PySem.Spec PyProof.Rows L2
def updI (f : Nat → Int) (x : Nat) (v : Int) : Nat → Int := fun y => if y = x then v else f y
theorem updI_at {f : Nat → Int} {x : Nat} {v : Int} : updI f x v x = v := by unfold updI; rw [if_pos rfl]
theorem updI_ne {f : Nat → Int} {x y : Nat} {v : Int} (h : y ≠ x) : updI f x v y = f y := by unfold updI; rw [if_neg h]
def sgI (size : Nat) (f : Nat → Int) : List Int := (List.range size).map f
theorem sgI_len {size : Nat} {f : Nat → Int} : (sgI size f).length = size := by simp [sgI]
theorem sgI_get {size : Nat} {f : Nat → Int} {x : Nat} (h : x < size) : (sgI size f)[x]? = some (f x) := by
  unfold sgI
  rw [List.getElem?_map, List.getElem?_range h]
  rfl
theorem sgI_at {size : Nat} {f : Nat → Int} {x : Nat} (h : x < size) : L2.atI ((sgI size f).map D.int) (x : Int) = some (.int (f x)) := map_at (by omega) (sgI_get h)
theorem sgI_set {size : Nat} {f : Nat → Int} {x : Nat} {v : Int} : ((sgI size f).map D.int).set x (.int v) = (sgI size (updI f x v)).map D.int := by
  rw [show D.int v = D.int v from rfl, map_set (f := D.int) (x := v)]
  congr 1
  unfold sgI
  refine List.ext_getElem? fun i => ?_
  rw [List.getElem?_set, List.getElem?_map, List.getElem?_map, List.length_map, List.length_range]
  by_cases hi : i < size
  · rw [List.getElem?_range hi]
    by_cases e : x = i
    · subst e
      simp [hi, updI]
    · simp [e, updI, Ne.symm e]
  · rw [List.getElem?_eq_none (by simpa using hi)]
    by_cases e : x = i
    · subst e
      simp [hi]
    · simp [e]
/-- on the way through the round of low: the pairs before at_ are done, at at_ the sides before k -/
structure Rnd (n : Net) (size low : Nat) (S0 : Nat → Int) (at_ k : Nat) (met : List Nat) (sg : Nat → Int) (truth : Bool) : Prop where
  nd : met.Nodup
  hd : low ∈ met
  one : sg low = 1
  mem : ∀ q ∈ met, q < size ∧ Reach n low q ∧ (sg q = 1 ∨ sg q = -1)
  off : ∀ q, q ∉ met → sg q = S0 q
  done : ∀ (i j p : Nat) r (q : Nat) t, (i < at_ ∨ (i = at_ ∧ j < k)) → met[i]? = some p → n[j]? = some r → r[p]? = some ((q : Int), t) → q ∈ met ∧ (truth = true → sg q = sg p * t)
  bad : truth = false → ¬ Bal n low
  pot : ∀ f, Pot n low f → ∀ q ∈ met, sg q = f q
section
variable {many size low : Nat} {n : Net} {S0 : Nat → Int}
theorem Rnd.start (hl : low < size) : Rnd n size low S0 0 0 [low] (updI S0 low 1) true where
  nd := by simp
  hd := by simp
  one := updI_at
  mem := fun q hq => by
    simp at hq
    subst hq
    exact ⟨hl, reach_refl, .inl updI_at⟩
  off := fun q hq => updI_ne (by simpa using hq)
  done := fun i j p r q t h => by omega
  bad := fun h => by cases h
  pot := fun f hf q hq => by
    simp at hq
    subst hq
    rw [updI_at]
    exact hf.1.symm
variable {at_ k : Nat} {met : List Nat} {sg : Nat → Int} {truth : Bool}
theorem Rnd.size_ (x : Rnd n size low S0 at_ k met sg truth) : met.length ≤ size := by
  have := nodup_sub_len (m := List.range size) x.nd fun q hq => List.mem_range.mpr (x.mem q hq).1
  rwa [List.length_range] at this
/-- a copy that is met for the first time -/
theorem Rnd.new (g : GoodNet many size n) (x : Rnd n size low S0 at_ k met sg truth) {p q : Nat} {r : Row} {t : Int} (hp : met[at_]? = some p) (hr : n[k]? = some r) (e : r[p]? = some ((q : Int), t)) (z : sg q = 0) : Rnd n size low S0 at_ (k + 1) (met ++ [q]) (updI sg q (sg p * t)) truth := by
  have pm := List.mem_of_getElem? hp
  obtain ⟨p1, p2, p3⟩ := x.mem p pm
  have a : sadj n p q t := sadj_k.mpr ⟨k, r, hr, e⟩
  have qn : q ∉ met := fun h => by
    rcases (x.mem q h).2.2 with e | e <;> rw [e] at z <;> cases z
  have ne : ∀ y ∈ met, y ≠ q := fun y hy e => qn (by rw [← e]; exact hy)
  have la := (List.getElem?_eq_some_iff.mp hp).1
  refine ⟨?_, List.mem_append_left _ x.hd, ?_, fun y hy => ?_, fun y hy => ?_, fun i j p' r' q' t' h h1 h2 h3 => ?_, x.bad, fun f hf y hy => ?_⟩
  · exact List.nodup_append.mpr ⟨x.nd, by simp, fun c hc b hb => by simp at hb; rw [hb]; exact ne c hc⟩
  · rw [updI_ne (ne low x.hd)]
    exact x.one
  · rcases List.mem_append.mp hy with hy | hy
    · rw [updI_ne (ne y hy)]
      exact x.mem y hy
    · simp at hy
      subst hy
      refine ⟨(adj_lt g (sadj_adj a)).2, reach_trans p2 (reach_one (sadj_adj a)), ?_⟩
      rw [updI_at]
      rcases p3 with e | e <;> rcases sadj_sign g a with e' | e' <;> rw [e, e'] <;> decide
  · have hy1 : y ∉ met := fun h => hy (List.mem_append_left _ h)
    have hy2 : y ≠ q := fun h => hy (by rw [h]; simp)
    rw [updI_ne hy2]
    exact x.off y hy1
  · have hi : i < met.length := by omega
    rw [List.getElem?_append_left hi] at h1
    have pm' := List.mem_of_getElem? h1
    by_cases w : i < at_ ∨ (i = at_ ∧ j < k)
    · obtain ⟨m1, m2⟩ := x.done i j p' r' q' t' w h1 h2 h3
      refine ⟨List.mem_append_left _ m1, fun ht => ?_⟩
      rw [updI_ne (ne q' m1), updI_ne (ne p' pm')]
      exact m2 ht
    · have hia : i = at_ := by omega
      have hjk : j = k := by omega
      subst hia
      subst hjk
      rw [hp] at h1
      cases h1
      rw [hr] at h2
      cases h2
      rw [e] at h3
      have h3 := Option.some.inj h3
      have e1 : (q : Int) = q' := congrArg Prod.fst h3
      have e2 : t = t' := congrArg Prod.snd h3
      have e1 : q = q' := by omega
      subst e1
      subst e2
      refine ⟨by simp, fun _ => ?_⟩
      rw [updI_at, updI_ne (ne p pm)]
  · rcases List.mem_append.mp hy with hy | hy
    · rw [updI_ne (ne y hy)]
      exact x.pot f hf y hy
    · simp at hy
      subst hy
      rw [updI_at, x.pot f hf p pm]
      exact (hf.2 p y t p2 a).symm
theorem Rnd.inMet (x : Rnd n size low S0 at_ k met sg truth) (hS : ∀ q, Reach n low q → S0 q = 0) {p q : Nat} {t : Int} (pm : p ∈ met) (a : sadj n p q t) (z : sg q ≠ 0) : q ∈ met := by
  refine Decidable.byContradiction fun h => z ?_
  rw [x.off q h]
  exact hS q (reach_trans (x.mem p pm).2.1 (reach_one (sadj_adj a)))
theorem Rnd.old (x : Rnd n size low S0 at_ k met sg truth) (hS : ∀ q, Reach n low q → S0 q = 0) {p q : Nat} {r : Row} {t : Int} (hp : met[at_]? = some p) (hr : n[k]? = some r) (e : r[p]? = some ((q : Int), t)) (z : sg q ≠ 0) :
    Rnd n size low S0 at_ (k + 1) met sg (truth && decide (sg q = sg p * t)) := by
  have pm := List.mem_of_getElem? hp
  have a : sadj n p q t := sadj_k.mpr ⟨k, r, hr, e⟩
  have qm := x.inMet hS pm a z
  refine ⟨x.nd, x.hd, x.one, x.mem, x.off, fun i j p' r' q' t' h h1 h2 h3 => ?_, fun hf => ?_, x.pot⟩
  · by_cases w : i < at_ ∨ (i = at_ ∧ j < k)
    · obtain ⟨m1, m2⟩ := x.done i j p' r' q' t' w h1 h2 h3
      exact ⟨m1, fun ht => m2 (Bool.and_eq_true_iff.mp ht).1⟩
    · have hia : i = at_ := by omega
      have hjk : j = k := by omega
      subst hia
      subst hjk
      rw [hp] at h1
      cases h1
      rw [hr] at h2
      cases h2
      rw [e] at h3
      have h3 := Option.some.inj h3
      have e1 : (q : Int) = q' := congrArg Prod.fst h3
      have e2 : t = t' := congrArg Prod.snd h3
      have e1 : q = q' := by omega
      subst e1
      subst e2
      exact ⟨qm, fun ht => of_decide_eq_true (Bool.and_eq_true_iff.mp ht).2⟩
  · rcases Bool.and_eq_false_iff.mp hf with h | h
    · exact x.bad h
    · rintro ⟨f, pf⟩
      refine of_decide_eq_false h ?_
      rw [x.pot f pf q qm, x.pot f pf p pm]
      exact pf.2 p q t (x.mem p pm).2.1 a
theorem Rnd.turn (x : Rnd n size low S0 at_ n.length met sg truth) : Rnd n size low S0 (at_ + 1) 0 met sg truth :=
  ⟨x.nd, x.hd, x.one, x.mem, x.off, fun i j p r q t h h1 h2 h3 => x.done i j p r q t (by
    have := (List.getElem?_eq_some_iff.mp h2).1
    omega) h1 h2 h3, x.bad, x.pot⟩
/-- behind a round -/
structure RndEnd (n : Net) (size low : Nat) (S0 : Nat → Int) (met : List Nat) (sg : Nat → Int) (truth : Bool) : Prop where
  nd : met.Nodup
  mem : ∀ q, q ∈ met ↔ Reach n low q
  lt : ∀ q ∈ met, q < size
  off : ∀ q, ¬ Reach n low q → sg q = S0 q
  one : ∀ q, Reach n low q → sg q = 1 ∨ sg q = -1
  tr : truth = balB n low
  pot : Bal n low → Pot n low sg
theorem Rnd.fin (x : Rnd n size low S0 at_ 0 met sg truth) (h : met.length ≤ at_) : RndEnd n size low S0 met sg truth := by
  have cl : ∀ p q t, p ∈ met → sadj n p q t → q ∈ met ∧ (truth = true → sg q = sg p * t) := fun p q t pm a => by
    obtain ⟨j, r, h1, h2⟩ := sadj_k.mp a
    obtain ⟨i, hi⟩ := List.mem_iff_getElem?.mp pm
    have := (List.getElem?_eq_some_iff.mp hi).1
    exact x.done i j p r q t (.inl (by omega)) hi h1 h2
  have mm : ∀ q, q ∈ met ↔ Reach n low q := fun q => ⟨fun hq => (x.mem q hq).2.1, fun r => r (fun z => z ∈ met) x.hd fun a b k ab => by
    obtain ⟨s, hs⟩ := adj_s.mp ab
    exact (cl a b s k hs).1⟩
  have po : truth = true → Pot n low sg := fun ht => ⟨x.one, fun p q s r a => (cl p q s ((mm p).mpr r) a).2 ht⟩
  refine ⟨x.nd, mm, fun q hq => (x.mem q hq).1, fun q hq => x.off q fun z => hq ((mm q).mp z), fun q hq => (x.mem q ((mm q).mpr hq)).2.2, ?_, fun b => ?_⟩
  · unfold balB
    cases ht : truth with
    | true => exact (@decide_eq_true _ (Classical.propDecidable _) ⟨sg, po ht⟩).symm
    | false => exact (@decide_eq_false _ (Classical.propDecidable _) (x.bad ht)).symm
  · cases ht : truth with
    | true => exact po ht
    | false => exact absurd b (x.bad ht)
theorem comp_sorted (h : ∀ q, q ∈ met ↔ Reach n low q) (nd : met.Nodup) (lt : ∀ q ∈ met, q < size) : sortI (met.map fun q : Nat => (q : Int)) = (comp n size low).map fun q : Nat => (q : Int) := by
  have nc : (comp n size low).Nodup := List.nodup_range.filter _
  have p : (comp n size low).Perm met := (List.perm_ext_iff_of_nodup nc nd).mpr fun q => by
    unfold comp
    simp only [List.mem_filter, List.mem_range, decide_eq_true_eq]
    exact ⟨fun z => (h q).mpr z.2, fun z => ⟨lt q z, (h q).mp z⟩⟩
  refine (sortI_uniq (p.map _) ?_).symm
  refine List.pairwise_map.mpr ?_
  have : (comp n size low).Pairwise (· < ·) := List.Pairwise.filter _ List.pairwise_lt_range
  exact this.imp fun {a b} h => by omega
theorem RndEnd.sorted {met : List Nat} {sg : Nat → Int} {truth : Bool} (x : RndEnd n size low S0 met sg truth) : sortI (met.map fun q : Nat => (q : Int)) = (comp n size low).map fun q : Nat => (q : Int) := comp_sorted x.mem x.nd x.lt
/-! ### all rounds -/
structure Crs (n : Net) (size low : Nat) (sg : Nat → Int) : Prop where
  zero : ∀ q, q < size → (sg q ≠ 0 ↔ ∃ z, z < low ∧ Reach n z q)
  one : ∀ q, q < size → sg q = 0 ∨ sg q = 1 ∨ sg q = -1
  pot : ∀ z, z < low → IsHead n z → Bal n z → Pot n z sg
theorem Crs.start : Crs n size 0 fun _ => 0 := ⟨fun q _ => ⟨fun h => absurd rfl h, fun ⟨z, h, _⟩ => by omega⟩, fun _ _ => .inl rfl, fun z h => by omega⟩
theorem Crs.head (g : GoodNet many size n) {sg : Nat → Int} (x : Crs n size low sg) (hl : low < size) : sg low = 0 ↔ IsHead n low := by
  constructor
  · intro h y r
    refine Decidable.byContradiction fun hn => ?_
    exact (x.zero low hl).mpr ⟨y, by omega, reach_symm g r⟩ h
  · intro h
    refine Decidable.byContradiction fun hn => ?_
    obtain ⟨z, hz, r⟩ := (x.zero low hl).mp hn
    have := h z (reach_symm g r)
    omega
theorem Crs.fresh (g : GoodNet many size n) {sg : Nat → Int} (x : Crs n size low sg) (hl : low < size) (h : sg low = 0) : ∀ q, Reach n low q → sg q = 0 := fun q r => by
  refine Decidable.byContradiction fun hn => ?_
  obtain ⟨z, hz, r2⟩ := (x.zero q (reach_lt g r hl)).mp hn
  exact (x.zero low hl).mpr ⟨z, hz, reach_trans r2 (reach_symm g r)⟩ h
theorem pot_congr {z : Nat} {f f' : Nat → Int} (p : Pot n z f) (h : ∀ q, Reach n z q → f' q = f q) : Pot n z f' :=
  ⟨(h z reach_refl).trans p.1, fun a b s r ab => by rw [h b (reach_trans r (reach_one (sadj_adj ab))), h a r]; exact p.2 a b s r ab⟩
theorem Crs.round (g : GoodNet many size n) {sg sg' : Nat → Int} {met : List Nat} {truth : Bool} (x : Crs n size low sg) (hl : low < size) (h : sg low = 0) (e : RndEnd n size low sg met sg' truth) : Crs n size (low + 1) sg' where
  zero := fun q hq => by
    by_cases r : Reach n low q
    · refine ⟨fun _ => ⟨low, by omega, r⟩, fun _ => ?_⟩
      rcases e.one q r with e | e <;> rw [e] <;> decide
    · rw [e.off q r, x.zero q hq]
      refine ⟨fun ⟨z, hz, r2⟩ => ⟨z, by omega, r2⟩, fun ⟨z, hz, r2⟩ => ⟨z, ?_, r2⟩⟩
      have : z ≠ low := fun e => r (by rw [← e]; exact r2)
      omega
  one := fun q hq => by
    by_cases r : Reach n low q
    · exact .inr (e.one q r)
    · rw [e.off q r]
      exact x.one q hq
  pot := fun z hz hh b => by
    by_cases w : z = low
    · subst w
      exact e.pot b
    · refine pot_congr (x.pot z (by omega) hh b) fun q r => e.off q fun r2 => ?_
      exact w (head_eq g hh ((x.head g hl).mp h) (reach_trans r (reach_symm g r2)))
theorem Crs.skip (g : GoodNet many size n) {sg : Nat → Int} (x : Crs n size low sg) (hl : low < size) (h : sg low ≠ 0) : Crs n size (low + 1) sg where
  zero := fun q hq => by
    rw [x.zero q hq]
    obtain ⟨z0, hz0, r0⟩ := (x.zero low hl).mp h
    refine ⟨fun ⟨z, hz, r⟩ => ⟨z, by omega, r⟩, fun ⟨z, hz, r⟩ => ?_⟩
    by_cases w : z = low
    · subst w
      exact ⟨z0, hz0, reach_trans r0 r⟩
    · exact ⟨z, by omega, r⟩
  one := x.one
  pot := fun z hz hh b => by
    by_cases w : z = low
    · subst w
      exact absurd ((x.head g hl).mpr hh) h
    · exact x.pot z (by omega) hh b
theorem heads_yes {low : Nat} (h : IsHead n low) : heads n (low + 1) = heads n low ++ [low] := by
  unfold heads
  rw [List.range_succ, List.filter_append]
  simp [h]
theorem heads_no {low : Nat} (h : ¬ IsHead n low) : heads n (low + 1) = heads n low := by
  unfold heads
  rw [List.range_succ, List.filter_append]
  simp [h]
end
def natsD (l : List Nat) : List D := l.map fun q : Nat => D.int (q : Int)
theorem natsD_eq (l : List Nat) : natsD l = (l.map fun q : Nat => (q : Int)).map D.int := by unfold natsD; rw [List.map_map]; rfl
theorem natsD_len {l : List Nat} : (natsD l).length = l.length := by simp [natsD]
theorem natsD_snoc {l : List Nat} {q : Nat} : natsD l ++ [.int (q : Int)] = natsD (l ++ [q]) := by simp [natsD]
noncomputable def roundD (n : Net) (size z : Nat) : D := .tup [.bl (balB n z), .lst (natsD (comp n size z))]
theorem heads_take {n : Net} {size j z : Nat} (e : (heads n size)[j]? = some z) : (heads n size).take (j + 1) = (heads n size).take j ++ [z] := by
  rw [List.take_add_one, e]
  rfl
theorem heads_len {n : Net} {size : Nat} : (heads n size).length ≤ size := Nat.le_trans (List.length_filter_le _ _) (by simp)
theorem pu_sides {ls : List Str} (h : GoodSides ls) : Pu 1 (strsT ls) := Pu.mapT fun x hx => .str x (h.ok x hx).sok
theorem noOw1 {δ : En} {i : Nat} {e : E} (h : δ[i]? = some e) (n : NoO e) : noOw δ [i] = true := by
  unfold noOw
  simp only [List.all_cons, List.all_nil, Bool.and_true, h]
  cases e with
  | ow c => exact absurd rfl (n c)
  | _ => rfl
theorem noOw2 {δ : En} {i j : Nat} {e e' : E} (h : δ[i]? = some e) (n : NoO e) (h' : δ[j]? = some e') (n' : NoO e') : noOw δ [i, j] = true := by
  have a := noOw1 h n
  have b := noOw1 h' n'
  unfold noOw at a b ⊢
  simp only [List.all_cons, List.all_nil, Bool.and_true] at a b ⊢
  rw [a, b]
  rfl
theorem parts_ok {many size : Nat} {net : Net} (hn : GoodNet many size net) {f : Nat → Nat} (fx : Fixed net f) : 0 < (partsOf size f).length ∧ (partsOf size f).length ≤ 1000 ∧ ∀ p ∈ partsOf size f, p.length ≤ 1000 ∧ (∀ x ∈ p, 0 ≤ x ∧ x < (size : Int)) ∧ turnedN (sgn p) net = net := by
  have s0 := hn.s0
  have s1 := hn.s1
  refine ⟨?_, ?_, fun p hp => ?_⟩
  · unfold partsOf
    rw [List.length_map]
    exact List.length_pos_of_mem (a := 0) (List.mem_filter.mpr ⟨List.mem_range.mpr s0, by simp [fx.2]⟩)
  · unfold partsOf
    rw [List.length_map]
    exact Nat.le_trans (List.length_filter_le _ _) (by simpa using s1)
  · obtain ⟨z, _, rfl⟩ := List.mem_map.mp hp
    refine ⟨?_, fun x hx => ?_, part_turned hn fx z⟩
    · unfold partOf
      rw [List.length_map]
      exact Nat.le_trans (List.length_filter_le _ _) (by simpa using s1)
    · unfold partOf at hx
      obtain ⟨x, hx', rfl⟩ := List.mem_map.mp hx
      have := List.mem_range.mp (List.mem_filter.mp hx').1
      omega
end L3
/-! L3, part KD: parts, words and returns. -/
namespace L3
open PySem PySem.Spec PyProof.Rows L2
/-- f is the least copy that is reached -/
structure Low (n : Net) (f : Nat → Nat) : Prop where
  re : ∀ x, Reach n x (f x)
  min : ∀ x y, Reach n x y → f x ≤ y
section
variable {many size : Nat} {n : Net} {f : Nat → Nat}
theorem low_of (h : GoodNet many size n) : ∃ f, Low n f := by
  obtain ⟨M, hx, hM, hR⟩ := low_ex h
  refine ⟨M, hR, fun x y r => ?_⟩
  have : M y = M x := r (fun z => M z = M x) rfl fun a b ka ab => by rw [hM a b ab, ka]
  have := hx y
  omega
theorem Low.le (w : Low n f) (x : Nat) : f x ≤ x := w.min x x reach_refl
theorem Low.same (h : GoodNet many size n) (w : Low n f) {x y : Nat} (r : Reach n x y) : f x = f y := by
  have h1 := w.min x (f y) (reach_trans r (w.re y))
  have h2 := w.min y (f x) (reach_trans (reach_symm h r) (w.re x))
  omega
theorem Low.idem (h : GoodNet many size n) (w : Low n f) (x : Nat) : f (f x) = f x := (w.same h (w.re x)).symm
theorem Low.iff (h : GoodNet many size n) (w : Low n f) {x y : Nat} : Reach n x y ↔ f x = f y := ⟨w.same h, fun e => reach_trans (w.re x) (by rw [e]; exact reach_symm h (w.re y))⟩
theorem Low.adj (h : GoodNet many size n) (w : Low n f) {x y : Nat} (a : adj n x y) : f x = f y := w.same h (reach_one a)
theorem Low.of_fixed (h : GoodNet many size n) {M : Nat → Nat} (w : Low n M) (fx : Fixed n f) (le : ∀ x, f x ≤ x) (lo : ∀ x, M x ≤ f x) : f = M := by
  funext x
  have e : f x = f (M x) := w.re x (fun z => f x = f z) rfl fun a b ka ab => by rw [ka, fx.1 a b ab]
  have := le (M x)
  have := lo x
  omega
end
def partL (size : Nat) (f : Nat → Nat) (z : Nat) : List Nat := (List.range size).filter fun x => f x == z
def headL (size : Nat) (f : Nat → Nat) : List Nat := (List.range size).filter fun z => f z == z
def partD (size : Nat) (f : Nat → Nat) (z : Nat) : D := .lst (natsD (partL size f z))
theorem mem_partL {size : Nat} {f : Nat → Nat} {z x : Nat} : x ∈ partL size f z ↔ x < size ∧ f x = z := by simp [partL]
theorem mem_headL {size : Nat} {f : Nat → Nat} {z : Nat} : z ∈ headL size f ↔ z < size ∧ f z = z := by simp [headL]
theorem partL_nodup {size : Nat} {f : Nat → Nat} {z : Nat} : (partL size f z).Nodup := List.Pairwise.filter _ List.nodup_range
theorem headL_nodup {size : Nat} {f : Nat → Nat} : (headL size f).Nodup := List.Pairwise.filter _ List.nodup_range
theorem partL_len {size : Nat} {f : Nat → Nat} {z : Nat} : (partL size f z).length ≤ size := Nat.le_trans (List.length_filter_le _ _) (by simp)
theorem headL_len {size : Nat} {f : Nat → Nat} : (headL size f).length ≤ size := Nat.le_trans (List.length_filter_le _ _) (by simp)
theorem headL_succ {f : Nat → Nat} {j : Nat} : headL (j + 1) f = if f j = j then headL j f ++ [j] else headL j f := by
  unfold headL
  rw [List.range_succ, List.filter_append]
  by_cases e : f j = j
  · rw [if_pos e]
    simp [e]
  · rw [if_neg e]
    simp [e]
theorem partsOf_eq {size : Nat} {f : Nat → Nat} : (partsOf size f).map (fun p => D.lst (p.map D.int)) = (headL size f).map (partD size f) := by
  unfold partsOf headL partD
  rw [List.map_map]
  refine List.map_congr_left fun z _ => ?_
  show D.lst ((partOf size f z).map D.int) = _
  rw [natsD_eq]
  rfl
theorem partL_sorted {size : Nat} {f : Nat → Nat} {z : Nat} {met : List Nat} (nd : met.Nodup) (h : ∀ q, q ∈ met ↔ q < size ∧ f q = z) : sortI (met.map fun q : Nat => (q : Int)) = (partL size f z).map fun q : Nat => (q : Int) := by
  have p : (partL size f z).Perm met := (List.perm_ext_iff_of_nodup partL_nodup nd).mpr fun q => by rw [mem_partL, h]
  refine (sortI_uniq (p.map _) ?_).symm
  refine List.pairwise_map.mpr ?_
  have : (partL size f z).Pairwise (· < ·) := List.Pairwise.filter _ List.pairwise_lt_range
  exact this.imp fun {a b} h => by omega
theorem any_ints {c : Int} : ∀ {ns : List Int}, ((ns.map PyData.int).any fun z => PyData.eqv z (.int c)) = decide (c ∈ ns)
  | [] => rfl
  | a :: l => by
    rw [List.map_cons, List.any_cons, any_ints, eqv_int]
    by_cases h : c = a
    · subst h; simp
    · have : ¬ a = c := fun z => h z.symm
      rw [decide_eq_false this, Bool.false_or]
      exact decide_eq_decide.mpr ⟨fun z => List.mem_cons_of_mem _ z, fun z => (List.mem_cons.mp z).resolve_left h⟩
theorem in_ints {c : Int} {ns : List Int} {P : Bool → Prop} (k : P (decide (c ∈ ns))) : inF (.int c) (.lst (ns.map D.int)) P := by
  obtain ⟨p, hp1, hp2⟩ := (pu_ints ns).shaped (by omega)
  rw [D.py, pys_ints] at hp1
  cases hp1
  refine ⟨.int c, ns.map PyData.int, rfl, pys_ints, rfl, hp2, ?_⟩
  rw [any_ints]
  exact k
theorem f_inN {q : R → Prop} {c : Nat} {l : List Nat} (k : q (.va (.bl (decide (c ∈ l))))) : bF inF (.int (c : Nat)) (.lst (natsD l)) q := by
  rw [natsD_eq]
  refine in_ints (P := fun b => q (.va (.bl b))) ?_
  rw [show decide ((c : Int) ∈ l.map fun q : Nat => (q : Int)) = decide (c ∈ l) from decide_eq_decide.mpr ⟨fun h => by
    obtain ⟨y, hy, e⟩ := List.mem_map.mp h
    have : y = c := by omega
    subst this
    exact hy, fun h => List.mem_map.mpr ⟨c, h, rfl⟩⟩]
  exact k
theorem f_ninN {q : R → Prop} {c : Nat} {l : List Nat} (k : q (.va (.bl (!decide (c ∈ l))))) : bF ninF (.int (c : Nat)) (.lst (natsD l)) q := by
  rw [natsD_eq]
  refine in_ints (P := fun b => q (.va (.bl (!b)))) ?_
  rw [show decide ((c : Int) ∈ l.map fun q : Nat => (q : Int)) = decide (c ∈ l) from decide_eq_decide.mpr ⟨fun h => by
    obtain ⟨y, hy, e⟩ := List.mem_map.mp h
    have : y = c := by omega
    subst this
    exact hy, fun h => List.mem_map.mpr ⟨c, h, rfl⟩⟩]
  exact k
theorem f_eqN {q : R → Prop} {l m : List Nat} (k : q (.va (.bl (decide (l = m))))) : bF eqF (.lst (natsD l)) (.lst (natsD m)) q := by
  refine f_eqP (n := 1) (m := 1) (b := decide (l = m)) (by rw [natsD_eq]; exact pu_ints _) (by rw [natsD_eq]; exact pu_ints _) (by omega) (by omega) ?_ k
  rw [decide_eq_true_eq]
  refine ⟨fun e => by rw [e], fun e => ?_⟩
  have e := D.lst.inj e
  unfold natsD at e
  exact List.map_inj_right (fun a b (h : D.int (a : Nat) = D.int (b : Nat)) => by
    have := D.int.inj h
    omega) |>.mp e
theorem filter_one {a : Nat} : ∀ {l : List Nat}, l.Nodup → a ∈ l → l.filter (fun z => a == z) = [a]
  | [], _, h => by cases h
  | b :: l, nd, h => by
    obtain ⟨n1, n2⟩ := List.nodup_cons.mp nd
    by_cases e : a = b
    · subst e
      rw [List.filter_cons_of_pos (by simp)]
      congr 1
      rw [List.filter_eq_nil_iff]
      intro c hc z
      have : a = c := by simpa using z
      exact n1 (by rw [this]; exact hc)
    · rw [List.filter_cons_of_neg (by simpa using e)]
      exact filter_one n2 ((List.mem_cons.mp h).resolve_left e)
theorem Low.mem {many size : Nat} {n : Net} {f : Nat → Nat} (w : Low n f) (g : GoodNet many size n) {x : Nat} (hx : x < size) : f x ∈ headL size f := mem_headL.mpr ⟨Nat.lt_of_le_of_lt (w.le x) hx, w.idem g x⟩
theorem Low.one {many size : Nat} {n : Net} {f : Nat → Nat} (w : Low n f) (g : GoodNet many size n) {x : Nat} (hx : x < size) : (headL size f).filter (fun z => decide (x ∈ partL size f z)) = [f x] := by
  rw [← filter_one headL_nodup (w.mem g hx)]
  refine List.filter_congr fun z _ => ?_
  rw [Bool.eq_iff_iff, decide_eq_true_eq, mem_partL, beq_iff_eq]
  exact ⟨fun h => h.2, fun h => ⟨hx, h⟩⟩
theorem lk_nats {l : List Nat} (h : l.length ≤ 1000000) : Lk 1 (.lst (natsD l)) := by
  rw [natsD_eq]
  exact lk_ints (by rw [List.length_map]; exact h)
theorem lk_parts {size : Nat} {f : Nat → Nat} (h : size ≤ 1000) : Lk 3 (.lst ((headL size f).map (partD size f))) := (Lk.lst (n := 1) (fun y hy => by
  obtain ⟨z, hz, rfl⟩ := List.mem_map.mp hy
  exact lk_nats (by have := partL_len (size := size) (f := f) (z := z); omega)) (by rw [List.length_map]; have := headL_len (size := size) (f := f); omega)).mono (by omega)
/-! ### tables of truth -/
def boolD (size : Nat) (b : Nat → Bool) : List D := (List.range size).map fun x => D.bl (b x)
theorem boolD_len {size : Nat} {b : Nat → Bool} : (boolD size b).length = size := by simp [boolD]
theorem boolD_at {size : Nat} {b : Nat → Bool} {x : Nat} (h : x < size) : L2.atI (boolD size b) (x : Int) = some (.bl (b x)) := atI_get (by omega) (by
  rw [Int.toNat_natCast]
  unfold boolD
  rw [List.getElem?_map, List.getElem?_range h]
  rfl)
theorem boolD_set {size : Nat} {b : Nat → Bool} {x : Nat} {v : Bool} : (boolD size b).set x (.bl v) = boolD size fun y => if y = x then v else b y := by
  unfold boolD
  refine List.ext_getElem? fun i => ?_
  rw [List.getElem?_set, List.getElem?_map, List.getElem?_map, List.length_map, List.length_range]
  by_cases hi : i < size
  · rw [List.getElem?_range hi]
    by_cases e : x = i
    · subst e
      simp [hi]
    · simp [e, Ne.symm e]
  · rw [List.getElem?_eq_none (by simpa using hi)]
    by_cases e : x = i
    · subst e
      simp [hi]
    · simp [e]
theorem boolD_congr {size : Nat} {b c : Nat → Bool} (h : ∀ x, x < size → b x = c x) : boolD size b = boolD size c := List.map_congr_left fun x hx => by rw [h x (List.mem_range.mp hx)]
/-! ### words -/
def stp (n : Net) (k x : Nat) : Nat × Int := let p := (n.getD k []).getD x (0, 1); (p.1.toNat, p.2)
def ledN (n : Net) : List Nat → Nat × Int → Nat × Int
  | [], p => p
  | k :: w, p => ledN n w ((stp n k p.1).1, p.2 * (stp n k p.1).2)
theorem ledN_snoc {n : Net} {k : Nat} : ∀ {w : List Nat} {p : Nat × Int}, ledN n (w ++ [k]) p = ((stp n k (ledN n w p).1).1, (ledN n w p).2 * (stp n k (ledN n w p).1).2)
  | [], _ => rfl
  | _ :: w, _ => ledN_snoc (w := w)
section
variable {many size : Nat} {n : Net}
theorem stp_get {k x y : Nat} {r : Row} {s : Int} (hr : n[k]? = some r) (e : r[x]? = some ((y : Int), s)) : stp n k x = (y, s) := by
  have h1 : n.getD k [] = r := by rw [List.getD_eq_getElem?_getD, hr]; rfl
  have h2 : r.getD x (0, 1) = ((y : Int), s) := by rw [List.getD_eq_getElem?_getD, e]; rfl
  unfold stp
  rw [h1, h2]
  rfl
theorem stp_adj (h : GoodNet many size n) {k x : Nat} (hk : k < many) (hx : x < size) : adj n x (stp n k x).1 ∧ (stp n k x).1 < size ∧ ((stp n k x).2 = 1 ∨ (stp n k x).2 = -1) := by
  obtain ⟨r, hr, g⟩ := h.get hk
  obtain ⟨y, s, e, hy, hs, _⟩ := g.ok x hx
  rw [stp_get hr e]
  exact ⟨⟨r, List.mem_of_getElem? hr, s, e⟩, hy, hs⟩
theorem ledN_ok (h : GoodNet many size n) : ∀ {w : List Nat}, (∀ k ∈ w, k < many) → ∀ {p : Nat × Int}, p.1 < size → (ledN n w p).1 < size ∧ Reach n p.1 (ledN n w p).1
  | [], _, p, hp => ⟨hp, reach_refl⟩
  | k :: w, hw, p, hp => by
    obtain ⟨a, l, _⟩ := stp_adj h (hw k List.mem_cons_self) hp
    obtain ⟨h1, h2⟩ := ledN_ok h (w := w) (fun j hj => hw j (List.mem_cons_of_mem _ hj)) (p := ((stp n k p.1).1, p.2 * (stp n k p.1).2)) l
    exact ⟨h1, reach_trans (reach_one a) h2⟩
end
def ledP (n : Net) (w : List Nat) (x : Nat) : D := .tup [.int ((ledN n w (x, 1)).1 : Nat), .int (ledN n w (x, 1)).2]
def ledD (n : Net) (w : List Nat) (size : Nat) : List D := (List.range size).map (ledP n w)
theorem ledD_len {n : Net} {w : List Nat} {size : Nat} : (ledD n w size).length = size := by simp [ledD]
theorem ledD_get {n : Net} {w : List Nat} {size j : Nat} {y : D} (e : (ledD n w size)[j]? = some y) : j < size ∧ y = .tup [.int ((ledN n w (j, 1)).1 : Nat), .int (ledN n w (j, 1)).2] := by
  have hj := (List.getElem?_eq_some_iff.mp e).1
  rw [ledD_len] at hj
  unfold ledD at e
  rw [List.getElem?_map, List.getElem?_range hj] at e
  exact ⟨hj, (Option.some.inj e).symm⟩
theorem ledD_take {n : Net} {w : List Nat} {size j : Nat} (hj : j < size) : (ledD n w size).take (j + 1) = (ledD n w size).take j ++ [.tup [.int ((ledN n w (j, 1)).1 : Nat), .int (ledN n w (j, 1)).2]] := by
  rw [List.take_add_one]
  unfold ledD
  rw [List.getElem?_map, List.getElem?_range hj]
  rfl
def sumZ (l : List Int) : Int := l.foldr (· + ·) 0
theorem sumZ_nil : sumZ [] = 0 := rfl
theorem sumZ_cons {a : Int} {l : List Int} : sumZ (a :: l) = a + sumZ l := rfl
theorem sumZ_append : ∀ {l m : List Int}, sumZ (l ++ m) = sumZ l + sumZ m
  | [], m => by rw [List.nil_append, sumZ_nil, Int.zero_add]
  | a :: l, m => by rw [List.cons_append, sumZ_cons, sumZ_cons, sumZ_append, Int.add_assoc]
def homeS (n : Net) (w : List Nat) (x : Nat) : Int := if (ledN n w (x, 1)).1 = x then (ledN n w (x, 1)).2 else 0
def retN (n : Net) (size : Nat) (w : List Nat) : Int := sumZ ((List.range size).map (homeS n w))
theorem sumZ_sum {l : List Int} : l.sum = sumZ l := rfl
theorem sumZ_filter {α : Type} {p : α → Bool} {g : α → Int} : ∀ {l : List α}, sumZ ((l.filter p).map g) = sumZ (l.map fun x => if p x = true then g x else 0)
  | [] => rfl
  | a :: l => by
    by_cases h : p a = true
    · rw [List.filter_cons_of_pos h, List.map_cons, List.map_cons, sumZ_cons, sumZ_cons, if_pos h, sumZ_filter]
    · rw [List.filter_cons_of_neg h, List.map_cons, sumZ_cons, if_neg h, Int.zero_add, sumZ_filter]
/-! ### a sum over the parts -/
theorem sumZ_zero {α : Type} {g : α → Int} : ∀ {l : List α}, (∀ x ∈ l, g x = 0) → sumZ (l.map g) = 0
  | [], _ => rfl
  | a :: l, h => by rw [List.map_cons, sumZ_cons, h a List.mem_cons_self, sumZ_zero fun x hx => h x (List.mem_cons_of_mem _ hx)]; rfl
theorem sumZ_add {α : Type} {g h : α → Int} : ∀ {l : List α}, sumZ (l.map fun x => g x + h x) = sumZ (l.map g) + sumZ (l.map h)
  | [] => rfl
  | a :: l => by
    rw [List.map_cons, List.map_cons, List.map_cons, sumZ_cons, sumZ_cons, sumZ_cons, sumZ_add]
    omega
theorem sumZ_one {z : Nat} {v : Int} : ∀ {l : List Nat}, l.Nodup → z ∈ l → sumZ (l.map fun y => if z = y then v else 0) = v
  | [], _, h => by cases h
  | a :: l, nd, h => by
    obtain ⟨n1, n2⟩ := List.nodup_cons.mp nd
    rw [List.map_cons, sumZ_cons]
    by_cases e : z = a
    · subst e
      rw [if_pos rfl, sumZ_zero fun x hx => if_neg fun e => n1 (by rw [e]; exact hx), Int.add_zero]
    · rcases List.mem_cons.mp h with h | h
      · exact absurd h e
      · rw [if_neg e, Int.zero_add, sumZ_one n2 h]
theorem sum_parts {f : Nat → Nat} {g : Nat → Int} {Z : List Nat} (nd : Z.Nodup) : ∀ {l : List Nat}, (∀ x ∈ l, f x ∈ Z) → sumZ (Z.map fun z => sumZ ((l.filter fun x => f x == z).map g)) = sumZ (l.map g)
  | [], _ => sumZ_zero fun x _ => rfl
  | a :: l, h => by
    have e : ∀ z, sumZ (((a :: l).filter fun x => f x == z).map g) = (if f a = z then g a else 0) + sumZ ((l.filter fun x => f x == z).map g) := fun z => by
      by_cases w : f a = z
      · rw [List.filter_cons_of_pos (by simpa using w), List.map_cons, sumZ_cons, if_pos w]
      · rw [List.filter_cons_of_neg (by simpa using w), if_neg w, Int.zero_add]
    rw [show (fun z => sumZ (((a :: l).filter fun x => f x == z).map g)) = fun z => (if f a = z then g a else 0) + sumZ ((l.filter fun x => f x == z).map g) from funext e, sumZ_add, sumZ_one nd (h a List.mem_cons_self), sum_parts nd fun x hx => h x (List.mem_cons_of_mem _ hx), List.map_cons, sumZ_cons]
/-! ### the net of a part -/
def partR (folk : List Nat) (r : Row) : Row := folk.map fun x => (((folk.idxOf (r.getD x (0, 1)).1.toNat : Nat) : Int), (r.getD x (0, 1)).2)
def partN (folk : List Nat) (n : Net) : Net := n.map (partR folk)
theorem partR_get {folk : List Nat} {r : Row} {i x y : Nat} {s : Int} (h : folk[i]? = some x) (e : r[x]? = some ((y : Int), s)) : (partR folk r)[i]? = some (((folk.idxOf y : Nat) : Int), s) := by
  unfold partR
  rw [List.getElem?_map, h]
  show some (((folk.idxOf (r.getD x (0, 1)).1.toNat : Nat) : Int), (r.getD x (0, 1)).2) = _
  rw [List.getD_eq_getElem?_getD, e]
  rfl
theorem idx_cast {y : Nat} : ∀ {folk : List Nat}, (folk.map fun q : Nat => (q : Int)).idxOf (y : Int) = folk.idxOf y
  | [] => rfl
  | a :: l => by
    have e : ((a : Int) == (y : Int)) = (a == y) := by
      rw [Bool.eq_iff_iff, beq_iff_eq, beq_iff_eq]
      omega
    rw [List.map_cons, List.idxOf_cons, List.idxOf_cons, idx_cast, e]
theorem mem_cast {y : Nat} {folk : List Nat} (h : y ∈ folk) : (y : Int) ∈ folk.map fun q : Nat => (q : Int) := List.mem_map.mpr ⟨y, h, rfl⟩
/-- a list of copies that no step leads out of -/
structure Folk (size : Nat) (n : Net) (folk : List Nat) : Prop where
  nd : folk.Nodup
  lt : ∀ x ∈ folk, x < size
  ne : folk ≠ []
  cl : ∀ x ∈ folk, ∀ y, adj n x y → y ∈ folk
theorem idx_get {folk : List Nat} {y : Nat} (h : y ∈ folk) : folk[folk.idxOf y]? = some y := by
  have := List.idxOf_lt_length_of_mem h
  rw [List.getElem?_eq_getElem this, List.getElem_idxOf]
theorem idx_of {folk : List Nat} {i x : Nat} (nd : folk.Nodup) (h : folk[i]? = some x) : folk.idxOf x = i := by
  have h1 := idx_get (List.mem_of_getElem? h)
  obtain ⟨l1, e1⟩ := List.getElem?_eq_some_iff.mp h
  obtain ⟨l2, e2⟩ := List.getElem?_eq_some_iff.mp h1
  rcases Nat.lt_trichotomy (folk.idxOf x) i with h | h | h
  · exact absurd (e2.trans e1.symm) (List.pairwise_iff_getElem.mp nd _ _ l2 l1 h)
  · exact h
  · exact absurd (e1.trans e2.symm) (List.pairwise_iff_getElem.mp nd _ _ l1 l2 h)
section
variable {many size : Nat} {n : Net} {folk : List Nat}
theorem Folk.row (h : Folk size n folk) {r : Row} (g : GoodRow size r) (hr : r ∈ n) : GoodRow folk.length (partR folk r) where
  len := by simp [partR]
  ok := fun i hi => by
    have hx := List.getElem?_eq_getElem hi
    generalize folk[i] = x at hx
    have xm := List.mem_of_getElem? hx
    obtain ⟨y, s, e1, hy, hs, e2⟩ := g.ok x (h.lt x xm)
    have ym := h.cl x xm y ⟨r, hr, s, e1⟩
    have := List.idxOf_lt_length_of_mem ym
    refine ⟨folk.idxOf y, s, partR_get hx e1, this, hs, ?_⟩
    rw [partR_get (idx_get ym) e2, idx_of h.nd hx]
theorem Folk.net (h : Folk size n folk) (g : GoodNet many size n) : GoodNet many folk.length (partN folk n) where
  len := by unfold partN; rw [List.length_map]; exact g.len
  m0 := g.m0
  m1 := g.m1
  s0 := List.length_pos_iff.mpr h.ne
  s1 := by
    have := nodup_sub_len (m := List.range size) h.nd fun x hx => List.mem_range.mpr (h.lt x hx)
    rw [List.length_range] at this
    exact Nat.le_trans this g.s1
  row := fun r hr => by
    obtain ⟨r', hr', rfl⟩ := List.mem_map.mp hr
    exact h.row (g.row r' hr') hr'
theorem Folk.stp (h : Folk size n folk) (g : GoodNet many size n) {k i x : Nat} (hk : k < many) (hi : folk[i]? = some x) : stp (partN folk n) k i = (folk.idxOf (stp n k x).1, (stp n k x).2) ∧ (stp n k x).1 ∈ folk := by
  obtain ⟨r, hr, gr⟩ := g.get hk
  have xm := List.mem_of_getElem? hi
  obtain ⟨y, s, e1, hy, hs, e2⟩ := gr.ok x (h.lt x xm)
  rw [stp_get hr e1]
  refine ⟨stp_get (r := partR folk r) (by unfold partN; rw [List.getElem?_map, hr]; rfl) (partR_get hi e1), h.cl x xm y ⟨r, List.mem_of_getElem? hr, s, e1⟩⟩
theorem Folk.led (h : Folk size n folk) (g : GoodNet many size n) : ∀ {w : List Nat}, (∀ k ∈ w, k < many) → ∀ {i x : Nat} {s : Int}, folk[i]? = some x → ledN (partN folk n) w (i, s) = (folk.idxOf (ledN n w (x, s)).1, (ledN n w (x, s)).2) ∧ (ledN n w (x, s)).1 ∈ folk
  | [], _, i, x, s, hi => by
    refine ⟨?_, List.mem_of_getElem? hi⟩
    show (i, s) = (folk.idxOf x, s)
    rw [idx_of h.nd hi]
  | k :: w, hw, i, x, s, hi => by
    obtain ⟨e, m⟩ := h.stp g (hw k List.mem_cons_self) hi
    unfold ledN
    rw [show ((i, s) : Nat × Int).1 = i from rfl, e]
    exact h.led g (w := w) (fun j hj => hw j (List.mem_cons_of_mem _ hj)) (idx_get m)
theorem Folk.ret (h : Folk size n folk) (g : GoodNet many size n) {w : List Nat} (hw : ∀ k ∈ w, k < many) : retN (partN folk n) folk.length w = sumZ (folk.map (homeS n w)) := by
  unfold retN
  congr 1
  refine List.ext_getElem? fun i => ?_
  rw [List.getElem?_map, List.getElem?_map]
  by_cases hi : i < folk.length
  · have hx := List.getElem?_eq_getElem hi
    rw [List.getElem?_range hi]
    rw [hx]
    generalize folk[i] = x at hx
    show some (homeS (partN folk n) w i) = some (homeS n w x)
    unfold homeS
    obtain ⟨e, m⟩ := h.led g hw (s := 1) hx
    rw [e]
    by_cases w2 : (ledN n w (x, 1)).1 = x
    · rw [if_pos w2, if_pos (by rw [w2]; exact idx_of h.nd hx)]
    · rw [if_neg w2, if_neg fun e2 => w2 (by
        have := idx_get m
        rw [show folk.idxOf (ledN n w (x, 1)).1 = i from e2, hx] at this
        exact (Option.some.inj this).symm)]
  · rw [List.getElem?_eq_none (by simpa using hi), List.getElem?_eq_none (by simpa using hi)]
    rfl
variable {f : Nat → Nat}
theorem Low.isFolk (w : Low n f) (g : GoodNet many size n) {z : Nat} (hz : z ∈ headL size f) : Folk size n (partL size f z) where
  nd := partL_nodup
  lt := fun x hx => (mem_partL.mp hx).1
  ne := List.ne_nil_of_mem (mem_partL.mpr (mem_headL.mp hz))
  cl := fun x hx y a => mem_partL.mpr ⟨(adj_lt g a).2, by rw [← w.adj g a]; exact (mem_partL.mp hx).2⟩
theorem Low.sum (w : Low n f) (g : GoodNet many size n) {way : List Nat} (hw : ∀ k ∈ way, k < many) : sumZ ((headL size f).map fun z => retN (partN (partL size f z) n) (partL size f z).length way) = retN n size way := by
  rw [List.map_congr_left (g := fun z => sumZ ((partL size f z).map (homeS n way))) fun z hz => (w.isFolk g hz).ret g hw]
  refine sum_parts (f := f) headL_nodup fun x hx => mem_headL.mpr ⟨Nat.lt_of_le_of_lt (w.le x) (List.mem_range.mp hx), w.idem g x⟩
end
end L3
/-! L3, part AB: dict comprehensions. -/
namespace L3
open PySem PySem.Spec PyProof.Rows L2
section
variable {K : PySem.W.Frag}
def tdcomp (S : DI) (Gd : DG) (C : DTT) (Tk Tv : DT) (vs : List Nat) : DT := fun δ Q => S δ fun items cs δ1 => noOw δ1 vs = true ∧ (∀ p ∈ cs, p.1 ∉ vs) ∧ ∃ I : Nat → List (Key × D) → En → Prop, I 0 [] δ1 ∧ (∀ k acc δ, I k acc δ → ∀ p ∈ cs, δ[p.1]? = some (E.ow p.2)) ∧
  (∀ k x acc δ, items[k]? = some x → I k acc δ → Gd x (wipeE δ vs) fun δ2 => C δ2 fun b δ3 => if b = true then Tk δ3 fun r δ4 => Tv δ4 fun r' δ5 => ∃ d ky z, r = .va d ∧ keyD d = some ky ∧ r' = .va z ∧ acc.length < sizeLine ∧ I (k + 1) (putD acc ky z) (backE δ δ5 vs) else I (k + 1) acc (backE δ δ3 vs)) ∧
  (∀ acc δ, I items.length acc δ → Q (.fr (.d acc)) δ)
theorem snd_dcomp {gs vs : List Nat} {wi : TI} {g : TG} {tt : TT} {tk tv : TE} {S : DI} {Gd : DG} {C : DTT} {Tk Tv : DT} (hi : SndI K wi S) (hg : SndG K gs g Gd) (ht : SndT K tt C) (hk : Snd K tk Tk) (hv : Snd K tv Tv) (hgs : ∀ i ∈ gs, i ∈ vs) :
    Snd K (tDc wi g tt tk tv vs) (tdcomp S Gd C Tk Tv vs) := fun σ H G δ Q Q3 L h k => by
  refine hi σ H G δ _ _ L h fun items cs δ1 J H1 G1 L1 f1 le1 it q => ?_
  obtain ⟨no, nc, I, I0, Ic, It, Ie⟩ := q
  intro D hD
  have nD : ∀ δ', Le δ' δ1 → ¬ Ad σ δ' D := fun δ' le z => L1.there (le.ad z) hD
  obtain ⟨fD, sD⟩ := gr_new (G := G1) (o := .dK []) L1.sub hD
  refine ⟨fun i m H' => m = items.length - i ∧ i ≤ items.length ∧ ∃ G' δ' acc va, Rel K σ H' G' δ' ∧ Fr (fun a => Ad σ δ1 a ∨ a = D) (L2.upd H1 D (.dK [])) G1 H' G' ∧ Le δ' δ1 ∧ (∀ v : Nat, v ∈ vs → δ'[v]? = δ1[v]?) ∧ H' D = some (.dK va) ∧ G' D = none ∧ AtKV K G' va acc ∧ I i acc δ',
    ⟨items.length, by simp, Nat.zero_le _, G1, δ1, [], [], L1.grow fD sD, .refl, .refl, fun _ _ => rfl, upd_same, g_none L1.sub hD, .nil, I0⟩, ?_⟩
  rintro i m H' ⟨rfl, hi, G', δ', acc, va, L', f', le', dv, hH, hG, ha, hI⟩
  have no' : noOw δ' vs = true := List.all_eq_true.mpr fun v hv => by
    rw [dv v hv]
    exact List.all_eq_true.mp no v hv
  have ok := it σ H' G' δ' L' f'.sub fun p hp => ⟨Ic i acc δ' hI p hp, rfl⟩
  have fD' : Fr (fun a => Ad σ δ1 a ∨ a = D) H1 G1 (L2.upd H1 D (.dK [])) G1 := fD.fr
  by_cases hlt : i < items.length
  · obtain ⟨hgo, hy⟩ := ok.1 i items[i] (List.getElem?_eq_getElem hlt)
    refine .inr ⟨hgo, fun H2 => ∃ G2 δ2 acc va, Rel K σ H2 G2 δ2 ∧ Fr (fun a => Ad σ δ1 a ∨ a = D) (L2.upd H1 D (.dK [])) G1 H2 G2 ∧ Le δ2 δ1 ∧ (∀ v : Nat, v ∈ vs → δ2[v]? = δ1[v]?) ∧ H2 D = some (.dK va) ∧ G2 D = none ∧ AtKV K G2 va acc ∧ I (i + 1) acc δ2,
      fun H2 z => ⟨items.length - (i + 1), by omega, rfl, hlt, z⟩, fun x H'' y => ?_⟩
    obtain ⟨G'', fg, sg, hx⟩ := hy x H'' y
    have L'' := L'.grow fg sg
    have Lw := L''.wipe vs
    have s0 : S3 K ⟨fun j l => ∃ c, (wipeE δ' vs)[j]? = some (E.ow c) ∧ (wipe σ vs)[j]? = some (some (V.ref l)), H'', G''⟩ (wipe σ vs) H'' G'' (wipeE δ' vs) := ⟨Lw, .refl, fun j c l e q => .inl ⟨c, e, q⟩, fun j l ⟨c, e, q⟩ => q⟩
    refine hg _ (fun j hj l z => ?_) (wipe σ vs) H'' G'' (wipeE δ' vs) x _ _ _ s0 hx (It i _ acc δ' (List.getElem?_eq_getElem hlt) hI) fun σ2 H2 G2 δ2 n2 le2 q2 => ?_
    · obtain ⟨c, e, q⟩ := z
      rcases wipeE_get e with ⟨_, z⟩ | ⟨z, _⟩
      · cases z
      · exact z (hgs j hj)
    have hσ : ∀ j : Nat, j ∉ vs → σ2[j]? = σ[j]? := fun j hj => (n2.st j fun z => hj (hgs j z)).trans (wipe_off hj)
    have hl2 : σ2.length = σ.length := n2.ln.trans (wipe_length σ vs)
    have fAll : ∀ {A : Addr → Prop} {Ha Ga Hb Gb : Hp}, Fr (fun a => Ad σ δ1 a ∨ a = D) (L2.upd H1 D (.dK [])) G1 Ha Ga → Fr A Ha Ga Hb Gb → (∀ a, A a → Ad σ δ1 a ∨ (L2.upd H1 D (.dK [])) a = none) → Fr (fun a => Ad σ δ1 a ∨ a = D) (L2.upd H1 D (.dK [])) G1 Hb Gb := fun x y z => x.trans y fun a h => (z a h).imp .inl id
    have f2 := fAll f' fg (fun _ z => z.elim)
    have f3 := fAll f2 n2.f fun a z => .inl (le'.ad (ad_wipe z))
    have ow2 : ∀ l, Ad σ2 δ2 l → Ad σ δ1 l ∨ (L2.upd H1 D (.dK [])) l = none := fun l z => (n2.ow l z).elim (fun z => .inl (le'.ad (ad_wipe z))) fun z => .inr (f2.free z)
    have nD2 : ∀ l, Ad σ2 δ2 l → l ≠ D := fun l z e => by
      subst e
      rcases ow2 l z with z | z
      · exact nD δ1 .refl z
      · rw [upd_same] at z
        cases z
    have keepD : ∀ {A : Addr → Prop} {Ha Ga Hb Gb : Hp}, Fr A Ha Ga Hb Gb → ¬ A D → Ha D = some (.dK va) → Ga D = none → Hb D = some (.dK va) ∧ Gb D = none := fun f na h g => ⟨f.h D _ na h, (f.n D na (by rw [h]; exact fun z => nomatch z)).trans g⟩
    obtain ⟨d1, g1⟩ := keepD fg (fun z => z) hH hG
    obtain ⟨d2, g2⟩ := keepD n2.f (fun z => nD δ' le' (ad_wipe z)) d1 g1
    refine ⟨?_, ht σ2 H2 G2 δ2 _ _ n2.s.L q2 fun b δ3 H3 G3 L3 f4 le3 q3 => ?_⟩
    · refine List.ext_getElem? fun j => ?_
      by_cases hj : j ∈ vs
      · by_cases hjl : j < σ.length
        · rw [wipe_at hj hjl, wipe_at hj (by rw [hl2]; exact hjl)]
        · rw [List.getElem?_eq_none (by rw [wipe_length]; omega), List.getElem?_eq_none (by rw [wipe_length]; omega)]
      · rw [wipe_off hj, wipe_off hj, hσ j hj]
    have f5 := fAll f3 f4 ow2
    obtain ⟨d3, g3⟩ := keepD f4 (fun z => nD2 D z rfl) d2 g2
    have bk : ∀ {δn : En} {Hn Gn : Hp}, Rel K σ2 Hn Gn δn → Le δn δ2 → Fr (fun a => Ad σ δ1 a ∨ a = D) (L2.upd H1 D (.dK [])) G1 Hn Gn → Sub G' Gn → Rel K σ Hn Gn (backE δ' δn vs) ∧ Le (backE δ' δn vs) δ1 ∧ ∀ v : Nat, v ∈ vs → (backE δ' δn vs)[v]? = δ1[v]? := fun {δn Hn Gn} Ln len fn sn => by
      have hd : δ'.length = δn.length := by rw [← L'.len, ← Ln.len, hl2]
      refine ⟨L'.back no' Ln sn hσ hl2, fun j c e => ?_, fun v hv => (backE_in hd hv).trans (dv v hv)⟩
      rcases backE_get hd e with ⟨h1, h2⟩ | ⟨h1, h2⟩
      · exact absurd h2 (noOw_at no' h1 c)
      · obtain ⟨c2, h3⟩ := len j c h2
        obtain ⟨c3, h4⟩ := le2 j c2 h3
        rcases wipeE_get h4 with ⟨_, z⟩ | ⟨_, z⟩
        · cases z
        · exact le' j c3 z
    cases b with
    | true =>
      refine hk σ2 H3 G3 δ3 _ _ L3 q3 fun r δ4 y H4 G4 L4 f6 le4 rr q4 => ?_
      refine hv σ2 H4 G4 δ4 _ _ L4 q4 fun r' δ5 z H5 G5 L5 f7 le5 rr' q5 => ?_
      obtain ⟨d, ky, zd, rfl, ek, rfl, hlen, q5⟩ := q5
      have ev := sh_key (sh_of L4 rr rfl) ek
      subst ev
      have nD3 : ¬ Ad σ2 δ3 D := fun z => nD2 D (le3.ad z) rfl
      have nD4 : ¬ Ad σ2 δ4 D := fun z => nD3 (le4.ad z)
      obtain ⟨d4, g4⟩ := keepD f6 nD3 d3 g3
      obtain ⟨d5, g5⟩ := keepD f7 nD4 d4 g4
      have f8 := fAll (fAll f5 f6 fun a z => ow2 a (le3.ad z)) f7 fun a z => ow2 a (le3.ad (le4.ad z))
      have sG : Sub G' G5 := ((((fg.sub.trans n2.f.sub).trans f4.sub).trans f6.sub).trans f7.sub)
      obtain ⟨Lb, leb, db⟩ := bk L5 (le5.trans (le4.trans le3)) f8 sG
      have hz : va.length < sizeLine := by rw [ha.length]; exact hlen
      refine ⟨va, ky, rfl, d5, hz, G5, backE δ' δ5 vs, putD acc ky zd, putK va ky z, Lb.other g5 (nD _ leb), f8.trans (fr_upd (A := fun a => a = D) rfl) fun a z => .inl (.inr z), leb, db, upd_same, g5, (AtKV.mono sG ha).put rr', q5⟩
    | false =>
      have sG : Sub G' G3 := ((fg.sub.trans n2.f.sub).trans f4.sub)
      obtain ⟨Lb, leb, db⟩ := bk L3 le3 f5 sG
      exact ⟨G3, backE δ' δ3 vs, acc, va, Lb, f5, leb, db, d3, g3, AtKV.mono sG ha, q3⟩
  · have e : i = items.length := by omega
    subst e
    refine .inl ⟨ok.2, k (.fr (.d acc)) δ' _ H' G' L' ((f1.trans fD' fun a z => ?_).trans f' fun a z => ?_) (le'.trans le1) ⟨D, rfl, f1.free hD, hG, va, hH, ha⟩ (Ie acc δ' hI)⟩
    · rcases z with z | rfl
      · exact .inl (le1.ad z)
      · exact .inr (f1.free hD)
    · rcases z with z | rfl
      · exact .inl (le1.ad z)
      · exact .inr (f1.free hD)
end
variable {δ : En} {Q : R → En → Prop} {C : DTT}
def CompDK (Gd : DG) (C : DTT) (Tk Tv : DT) (vs : List Nat) (Q : R → En → Prop) (items : List D) (cs : List (Nat × Cn)) (δ1 : En) : Prop := noOw δ1 vs = true ∧ (∀ p ∈ cs, p.1 ∉ vs) ∧ ∃ I : Nat → List (Key × D) → En → Prop, I 0 [] δ1 ∧ (∀ k acc δ, I k acc δ → ∀ p ∈ cs, δ[p.1]? = some (E.ow p.2)) ∧
  (∀ k x acc δ, items[k]? = some x → I k acc δ → Gd x (wipeE δ vs) fun δ2 => C δ2 fun b δ3 => if b = true then Tk δ3 fun r δ4 => Tv δ4 fun r' δ5 => ∃ d ky z, r = .va d ∧ keyD d = some ky ∧ r' = .va z ∧ acc.length < sizeLine ∧ I (k + 1) (putD acc ky z) (backE δ δ5 vs) else I (k + 1) acc (backE δ δ3 vs)) ∧
  (∀ acc δ, I items.length acc δ → Q (.fr (.d acc)) δ)
theorem e_dget {Td Ty : DT} (k : Td δ fun x δ1 => Ty δ1 fun y δ2 => ∃ d k kvs z, y.dat δ2 = some d ∧ keyD d = some k ∧ x.dct δ2 = some kvs ∧ valD kvs k = some z ∧ Q (.va z) δ2) : tdget Td Ty δ Q := k
theorem valD_map {k : Key} {v : D} {j : Key} : ∀ {kvs : List (Key × D)}, valD (kvs.map fun kv => if kv.1 = k then (kv.1, v) else kv) j = if j = k then (valD kvs j).map fun _ => v else valD kvs j
  | [] => by simp [valD]
  | p :: kvs => by
    have ih := valD_map (k := k) (v := v) (j := j) (kvs := kvs)
    unfold valD at ih ⊢
    rw [List.map_cons, List.find?_cons, List.find?_cons]
    by_cases h : p.1 = k
    · rw [if_pos h]
      by_cases h2 : p.1 = j
      · have : j = k := by rw [← h2, h]
        simp [h2, this]
      · have : j ≠ k := fun e => h2 (by rw [h, e])
        simp only [h2, decide_false]
        exact ih
    · rw [if_neg h]
      by_cases h2 : p.1 = j
      · have : j ≠ k := fun e => h (by rw [h2, e])
        simp [h2, this]
      · simp only [h2, decide_false]
        exact ih
theorem valD_put {k : Key} {v : D} {kvs : List (Key × D)} {j : Key} : valD (putD kvs k v) j = if j = k then some v else valD kvs j := by
  unfold putD
  by_cases h : (kvs.any fun kv => decide (kv.1 = k)) = true
  · rw [if_pos h, valD_map]
    by_cases e : j = k
    · subst e
      rw [if_pos rfl, if_pos rfl]
      obtain ⟨p, hp, e⟩ := List.any_eq_true.mp h
      have : (kvs.find? fun kv => decide (kv.1 = j)).isSome = true := List.find?_isSome.mpr ⟨p, hp, e⟩
      obtain ⟨q, hq⟩ := Option.isSome_iff_exists.mp this
      unfold valD
      rw [hq]
      rfl
    · rw [if_neg e, if_neg e]
  · rw [if_neg h]
    unfold valD
    rw [List.find?_append]
    by_cases e : j = k
    · subst e
      rw [if_pos rfl]
      have : kvs.find? (fun kv => decide (kv.1 = j)) = none := by
        rw [List.find?_eq_none]
        intro p hp z
        exact h (List.any_eq_true.mpr ⟨p, hp, z⟩)
      rw [this]
      simp
    · rw [if_neg e]
      have : ¬ k = j := fun z => e z.symm
      cases hq : kvs.find? (fun kv => decide (kv.1 = j)) with
      | some q => rfl
      | none => simp [this]
theorem putD_len {k : Key} {v : D} {kvs : List (Key × D)} : (putD kvs k v).length ≤ kvs.length + 1 := by
  unfold putD
  split
  · rw [List.length_map]; omega
  · simp
theorem e_dcomp {SI : DI} {Gd : DG} {Tk Tv : DT} {vs : List Nat} (k : SI δ fun items cs δ1 => CompDK Gd C Tk Tv vs Q items cs δ1) : tdcomp SI Gd C Tk Tv vs δ Q := k
theorem dcomp_by {Gd : DG} {Tk Tv : DT} {vs : List Nat} {items : List D} {cs : List (Nat × Cn)} (I : Nat → List (Key × D) → En → Prop) (h0 : I 0 [] δ) (no : noOw δ vs = true) (hcs : ∀ p ∈ cs, p.1 ∉ vs) (hi : ∀ k acc δ, I k acc δ → ∀ p ∈ cs, δ[p.1]? = some (E.ow p.2))
    (ht : ∀ k x acc δ, items[k]? = some x → I k acc δ → Gd x (wipeE δ vs) fun δ2 => C δ2 fun b δ3 => (b = true → Tk δ3 fun r δ4 => Tv δ4 fun r' δ5 => ∃ d ky z, r = .va d ∧ keyD d = some ky ∧ r' = .va z ∧ acc.length < sizeLine ∧ I (k + 1) (putD acc ky z) (backE δ δ5 vs)) ∧ (b = false → I (k + 1) acc (backE δ δ3 vs)))
    (he : ∀ acc δ, I items.length acc δ → Q (.fr (.d acc)) δ) : CompDK Gd C Tk Tv vs Q items cs δ := by
  have e : ∀ (c : Bool) (A B : Prop), ((c = true → A) ∧ (c = false → B)) = if c = true then A else B := fun c A B => by cases c <;> simp
  simp only [e] at ht
  exact ⟨no, hcs, I, h0, hi, ht, he⟩
end L3
/-! L3, part BA: what stands still, cut down to what some values need. -/
namespace L3
open PySem PySem.Spec PyProof.Rows L2
section
variable {K : PySem.W.Frag}
/-- s is d or stands within d -/
inductive Sb : D → D → Prop
  | refl (d : D) : Sb d d
  | lst {s x : D} {xs : List D} : x ∈ xs → Sb s x → Sb s (.lst xs)
  | tup {s x : D} {xs : List D} : x ∈ xs → Sb s x → Sb s (.tup xs)
  | obj {s x : D} {cn : Str} {ns : List Str} {xs : List D} : x ∈ xs → Sb s x → Sb s (.obj cn ns xs)
  | frz {s x : D} {xs : List D} : x ∈ xs → Sb s x → Sb s (.frz xs)
/-- the object at a holds d -/
inductive Hs (K : PySem.W.Frag) (G : Hp) (a : Addr) : D → Prop
  | lst {vs : List V} {ds : List D} : G a = some (.lst vs) → AtL K G vs ds → Hs K G a (.lst ds)
  | tup {vs : List V} {ds : List D} : Rd G a (.tup vs) → AtL K G vs ds → Hs K G a (.tup ds)
  | obj {dx : Addr} {cn : Str} {ns : List Str} {vs : List V} {ds : List D} : G a = some (.ins (He.ga K cn) dx (ns.zip vs)) → ns.length = vs.length → AtL K G vs ds → Hs K G a (.obj cn ns ds)
  | frz {vs : List V} {ds : List D} : Rd G a (.lst vs) → AtL K G vs ds → Hs K G a (.frz ds)
theorem Hs.mono {G G' : Hp} (s : Sub G G') {a : Addr} : ∀ {d : D}, Hs K G a d → Hs K G' a d
  | _, .lst h t => .lst (s _ _ h) (t.mono s)
  | _, .tup h t => .tup (s.rd h) (t.mono s)
  | _, .obj h l t => .obj (s _ _ h) l (t.mono s)
  | _, .frz h t => .frz (s.rd h) (t.mono s)
open Classical in
/-- the part of G that holds values of P -/
noncomputable def cut (K : PySem.W.Frag) (G : Hp) (P : D → Prop) : Hp := fun a => if ∃ s, P s ∧ Hs K G a s then G a else none
theorem cut_sub {G : Hp} {P : D → Prop} : Sub (cut K G P) G := fun a o h => by
  unfold cut at h
  split at h
  · exact h
  · cases h
theorem cut_on {G : Hp} {P : D → Prop} {a : Addr} {s : D} (hp : P s) (h : Hs K G a s) : cut K G P a = G a := by
  unfold cut
  rw [if_pos ⟨s, hp, h⟩]
theorem cut_why {G : Hp} {P : D → Prop} {a : Addr} (h : cut K G P a ≠ none) : ∃ s, P s ∧ Hs K G a s := by
  unfold cut at h
  split at h
  · rename_i z
    exact z
  · exact absurd rfl h
theorem rd_cut {G G' : Hp} {a : Addr} {u : HO} (e : G' a = G a) (h : Rd G a u) : Rd G' a u := by
  rcases h with h | ⟨o, h⟩
  · exact .inl (e.trans h)
  · exact .inr ⟨o, e.trans h⟩
mutual
theorem cut_at {G : Hp} {P : D → Prop} : ∀ {v : V} {d : D}, At K G v d → (∀ s, Sb s d → P s) → At K (cut K G P) v d
  | _, _, .non, _ => .non
  | _, _, .bl b, _ => .bl b
  | _, _, .int i, _ => .int i
  | _, _, .str x, _ => .str x
  | _, _, .lst h t, p => .lst ((cut_on (p _ (.refl _)) (.lst h t)).trans h) (cut_atL t fun x hx s hs => p s (.lst hx hs))
  | _, _, .tup h t, p => .tup (by
      rcases h with h | h
      · exact .inl (rd_cut (cut_on (p _ (.refl _)) (.tup h t)) h)
      · exact .inr h) (cut_atL t fun x hx s hs => p s (.tup hx hs))
  | _, _, .obj h l t, p => .obj ((cut_on (p _ (.refl _)) (.obj h l t)).trans h) l (cut_atL t fun x hx s hs => p s (.obj hx hs))
  | _, _, .frz h t, p => .frz (by
      rcases h with h | h
      · exact .inl (rd_cut (cut_on (p _ (.refl _)) (.frz h t)) h)
      · exact .inr h) (cut_atL t fun x hx s hs => p s (.frz hx hs))
theorem cut_atL {G : Hp} {P : D → Prop} : ∀ {vs : List V} {ds : List D}, AtL K G vs ds → (∀ x ∈ ds, ∀ s, Sb s x → P s) → AtL K (cut K G P) vs ds
  | _, _, .nil, _ => .nil
  | _, _, .cons a t, p => .cons (cut_at a (p _ List.mem_cons_self)) (cut_atL t fun x hx => p x (List.mem_cons_of_mem _ hx))
end
theorem cut_hs {G : Hp} {P : D → Prop} {a : Addr} : ∀ {d : D}, Hs K G a d → (∀ s, Sb s d → P s) → Hs K (cut K G P) a d
  | _, .lst h t, p => .lst ((cut_on (p _ (.refl _)) (.lst h t)).trans h) (cut_atL t fun x hx s hs => p s (.lst hx hs))
  | _, .tup h t, p => .tup (rd_cut (cut_on (p _ (.refl _)) (.tup h t)) h) (cut_atL t fun x hx s hs => p s (.tup hx hs))
  | _, .obj h l t, p => .obj ((cut_on (p _ (.refl _)) (.obj h l t)).trans h) l (cut_atL t fun x hx s hs => p s (.obj hx hs))
  | _, .frz h t, p => .frz (rd_cut (cut_on (p _ (.refl _)) (.frz h t)) h) (cut_atL t fun x hx s hs => p s (.frz hx hs))
end
end L3
/-! L3, part BB: a told value that will be spoilt (scratch): it lies in no slot of ours. -/
namespace L3
open PySem PySem.Spec PyProof.Rows L2
section
variable {K : PySem.W.Frag}
/-- slot m holds d in a part N of the heap that is new since HE, HB but for values of P -/
def Scr (K : PySem.W.Frag) (HE HB : Hp) (P : D → Prop) (σ : L2.St) (H G : Hp) (δ : En) (m : Nat) (d : D) : Prop :=
  ∃ (v : V) (N : Hp), σ[m]? = some (some v) ∧ At K N v d ∧ Sub N H ∧ (∀ l, v = .ref l → N l ≠ none ∧ HE l = none ∧ HB l = none ∧ G l = none) ∧ (∀ a, N a ≠ none → ¬ Ad σ δ a) ∧ ∀ a, N a ≠ none → (HE a = none ∧ HB a = none ∧ G a = none) ∨ ∃ s, P s ∧ Hs K N a s
theorem Scr.nxt {F : FE} {HE HB : Hp} {P : D → Prop} {σ σ' : L2.St} {H G H' G' : Hp} {δ δ' : En} {m : Nat} {d : D} {bs : List Nat} (g : Scr K HE HB P σ H G δ m d) (n : Nxt K F bs σ H G δ σ' H' G' δ') (hm : m ∉ bs) : Scr K HE HB P σ' H' G' δ' m d := by
  obtain ⟨v, N, e, hv, sN, top, na, why⟩ := g
  have hH : ∀ a, N a ≠ none → H a ≠ none := fun a h => by
    cases q : N a with
    | none => exact absurd q h
    | some o => rw [sN a o q]; exact fun z => nomatch z
  refine ⟨v, N, (n.st m hm).trans e, hv, fun a o q => n.f.h a o (na a (by rw [q]; exact fun z => nomatch z)) (sN a o q), fun l e => ?_, fun a h z => (n.ow a z).elim (na a h) (hH a h), fun a h => ?_⟩
  · obtain ⟨h0, h1, h2, h3⟩ := top l e
    exact ⟨h0, h1, h2, (n.f.n l (na l h0) (hH l h0)).trans h3⟩
  rcases why a h with ⟨h1, h2, h3⟩ | h4
  · exact .inl ⟨h1, h2, (n.f.n a (na a h) (hH a h)).trans h3⟩
  · exact .inr h4
/-- nothing of our own in sight -/
def hideE : E → E
  | .ow _ => .no
  | e => e
def hide (δ : En) : En := δ.map hideE
theorem hide_len {δ : En} : (hide δ).length = δ.length := by simp [hide]
theorem hide_va {δ : En} {i : Nat} {d : D} (h : (hide δ)[i]? = some (E.va d)) : δ[i]? = some (E.va d) := by
  unfold hide at h
  rw [List.getElem?_map] at h
  cases q : δ[i]? with
  | none => rw [q] at h; cases h
  | some e =>
    rw [q] at h
    cases e with
    | ow c => cases h
    | no => cases h
    | va d' => exact h
theorem hide_ow {δ : En} {i : Nat} {c : Cn} (h : (hide δ)[i]? = some (E.ow c)) : False := by
  unfold hide at h
  rw [List.getElem?_map] at h
  cases q : δ[i]? with
  | none => rw [q] at h; cases h
  | some e =>
    rw [q] at h
    cases e with
    | ow c => cases h
    | no => cases h
    | va d' => cases h
/-- where nothing is owned, an expression changes nothing -/
theorem Rel.quiet {F : FE} {σ : L2.St} {H G G0 H1 G1 : Hp} {δ δh : En} (s : S3 K F σ H G δ) (f : Fr (Ad σ δh) H G0 H1 G1) (no : ∀ (i : Nat) (c : Cn), δh[i]? ≠ some (E.ow c)) : Nxt K F [] σ H G δ σ H1 G δ := by
  have k : ∀ a o, H a = some o → H1 a = some o := fun a o e => f.h a o (fun ⟨i, c, q, _⟩ => no i c q) e
  have f1 : Fr (Ad σ δ) H G H1 G := ⟨fun a o _ e => k a o e, fun _ _ h => h, fun _ _ _ => rfl, f.d⟩
  refine .step s ⟨s.L.len, fun a o e => k a o (s.L.sub a o e), s.L.va, fun i c e => ?_, s.L.dj⟩ f1 .refl
  obtain ⟨l, h1, h2, h3⟩ := s.L.ow i c e
  exact ⟨l, h1, h2, h3.mono (fun o q => k l o q) .refl⟩
/-- our slots and the scratch slot, for a look -/
theorem Scr.look {HE HB : Hp} {P : D → Prop} {σ : L2.St} {H G : Hp} {δ : En} {m : Nat} {d : D} (g : Scr K HE HB P σ H G δ m d) (L : Rel K σ H G δ) : ∃ GU, Rel K σ H GU ((hide δ).set m (.va d)) := by
  obtain ⟨v, N, e, hv, sN, top, na, why⟩ := g
  let GU : Hp := fun a => match G a with
    | some o => some o
    | none => N a
  have s1 : Sub G GU := fun a o h => by
    show (match G a with | some o => some o | none => N a) = some o
    rw [h]
  have s2 : Sub N GU := fun a o h => by
    show (match G a with | some o => some o | none => N a) = some o
    cases q : G a with
    | none => exact h
    | some o' =>
      have := L.sub a o' q
      rw [sN a o h] at this
      exact this.symm
  refine ⟨GU, by rw [List.length_set, hide_len]; exact L.len, fun a o h => ?_, fun i d' q => ?_, fun i c q => ?_, fun i j l c c' q => ?_⟩
  · have h : (match G a with | some o => some o | none => N a) = some o := h
    cases q : G a with
    | none => rw [q] at h; exact sN a o h
    | some o' =>
      rw [q] at h
      cases h
      exact L.sub a o q
  · rcases set_get q with ⟨rfl, z, _⟩ | ⟨ne, q2⟩
    · cases z
      exact ⟨v, e, hv.mono s2⟩
    · obtain ⟨u, h1, h2⟩ := L.va i d' (hide_va q2)
      exact ⟨u, h1, h2.mono s1⟩
  · rcases set_get q with ⟨rfl, z, _⟩ | ⟨ne, q2⟩
    · cases z
    · exact (hide_ow q2).elim
  · rcases set_get q with ⟨rfl, z, _⟩ | ⟨ne, q2⟩
    · cases z
    · exact (hide_ow q2).elim
theorem look_no {δ : En} {m : Nat} {d : D} (i : Nat) (c : Cn) : ((hide δ).set m (.va d))[i]? ≠ some (E.ow c) := fun q => by
  rcases set_get q with ⟨rfl, z, _⟩ | ⟨ne, q2⟩
  · cases z
  · exact hide_ow q2
/-- statements that end without the scratch slot -/
abbrev ZP := (D → Prop) → DE → En → D → Prop
def SndZP (K : PySem.W.Frag) (ps : List Nat) (m : Nat) (bs : List Nat) (t : TS) (T : ZP) : Prop := ∀ (F : FE), (∀ i l, F.P i l → i ∈ ps) → (∀ i ∈ bs, ∀ l, ¬ F.P i l) → ∀ (as0 : List Nat) (σ0 : L2.St) (H0 G0 : Hp) (δ0 : En), (∀ i ∈ bs, i ∈ as0) →
  ∀ (P : D → Prop) (σ : L2.St) (H G : Hp) (δ : En) (d : D) (D3 : DE) (D : Ends), Nxt K F as0 σ0 H0 G0 δ0 σ H G δ → Scr K F.HE H0 P σ H G δ m d → T P D3 δ d → Good K F as0 σ0 H0 G0 δ0 D3 D → t D σ H
/-- a plain statement, then more -/
def zplain (T : DS) (U : ZP) : ZP := fun P Z δ d => T { nx := fun δ' => U P Z δ' d, rt := Z.rt } δ
theorem sndzp_plain {ps bs cs : List Nat} {m : Nat} {t u : TS} {T : DS} {U : ZP} (a : SndSP K ps bs t T) (b : SndZP K ps m cs u U) (hm : m ∉ bs) : SndZP K ps m (bs ++ cs) (tSeq t u) (zplain T U) := fun F hps hp as0 σ0 H0 G0 δ0 hb P σ H G δ d D3 D n g h gd => by
  have tr : ∀ {σ1 H1 G1 δ1}, Nxt K F bs σ H G δ σ1 H1 G1 δ1 → Nxt K F as0 σ0 H0 G0 δ0 σ1 H1 G1 δ1 := fun x => (n.trans x).mono fun i hi => (List.mem_append.mp hi).elim id fun z => hb i (List.mem_append_left _ z)
  exact a F hps (fun i hi => hp i (List.mem_append_left _ hi)) σ H G δ _ _ n.s h
    ⟨fun _ _ _ _ x q => b F hps (fun i hi => hp i (List.mem_append_right _ hi)) as0 σ0 H0 G0 δ0 (fun i hi => hb i (List.mem_append_right _ hi)) _ _ _ _ _ _ _ _ (tr x) (g.nxt x hm) q gd, fun _ _ _ _ x q => q.elim, fun _ _ _ _ x q => q.elim, fun _ _ _ _ _ _ x rr nr q => gd.rt _ _ _ _ _ _ (tr x) rr nr q⟩
/-- if c: (never), c with the scratch slot in sight -/
def zcheck (m : Nat) (c : DTT) (U : ZP) : ZP := fun P Z δ d => c ((hide δ).set m (.va d)) fun b _ => b = false ∧ U P Z δ d
theorem sndzp_check {ps cs : List Nat} {m : Nat} {c : TT} {t u : TS} {C : DTT} {U : ZP} (hc : SndT K c C) (b : SndZP K ps m cs u U) : SndZP K ps m cs (tSeq (tIfS c t tNext) u) (zcheck m C U) := fun F hps hp as0 σ0 H0 G0 δ0 hb P σ H G δ d D3 D n g h gd => by
  obtain ⟨GU, LU⟩ := g.look n.s.L
  refine hc σ H GU _ _ _ LU h fun k δ1 H1 G1 L1 f1 le1 q => ?_
  obtain ⟨rfl, q⟩ := q
  have x := Rel.quiet n.s f1 look_no
  exact b F hps hp as0 σ0 H0 G0 δ0 hb _ _ _ _ _ _ _ _ ((n.trans x).mono fun i hi => (List.mem_append.mp hi).elim id fun z => nomatch z) (g.nxt x (by simp)) q gd
/-- only the slots ks in sight -/
def keep (δ : En) (ks : List Nat) : En := (List.range δ.length).map fun i => if i ∈ ks then (match δ[i]? with | some (.va d) => .va d | _ => .no) else .no
theorem keep_va {δ : En} {ks : List Nat} {i : Nat} {d : D} (h : (keep δ ks)[i]? = some (E.va d)) : i ∈ ks ∧ δ[i]? = some (E.va d) := by
  unfold keep at h
  rw [List.getElem?_map] at h
  have hi : i < δ.length := by
    refine Decidable.byContradiction fun z => ?_
    rw [List.getElem?_eq_none (by simpa using z)] at h
    cases h
  rw [List.getElem?_range hi] at h
  have h : (if i ∈ ks then (match δ[i]? with | some (.va d) => E.va d | _ => .no) else .no) = E.va d := Option.some.inj h
  by_cases z : i ∈ ks
  · rw [if_pos z] at h
    refine ⟨z, ?_⟩
    split at h
    · rename_i e q
      cases h
      exact q
    · cases h
  · rw [if_neg z] at h
    cases h
theorem keep_ow {δ : En} {ks : List Nat} (i : Nat) (c : Cn) : (keep δ ks)[i]? ≠ some (E.ow c) := fun h => by
  unfold keep at h
  rw [List.getElem?_map] at h
  cases q : (List.range δ.length)[i]? with
  | none => rw [q] at h; cases h
  | some j =>
    rw [q] at h
    have h : (if j ∈ ks then (match δ[j]? with | some (.va d) => E.va d | _ => .no) else .no) = E.ow c := Option.some.inj h
    split at h
    · split at h <;> cases h
    · cases h
/-- what the slots ks hold -/
def Holds (δ : En) (ks : List Nat) (s : D) : Prop := ∃ i d, i ∈ ks ∧ δ[i]? = some (E.va d) ∧ Sb s d
theorem Sb.trans {r s d : D} (a : Sb r s) (b : Sb s d) : Sb r d := by
  induction b with
  | refl => exact a
  | lst h _ ih => exact .lst h ih
  | tup h _ ih => exact .tup h ih
  | obj h _ ih => exact .obj h ih
  | frz h _ ih => exact .frz h ih
/-- m = e, e seeing the slots ks alone: a new list, scratch from now on -/
def sscr (m : Nat) (ks : List Nat) (T : DT) (U : ZP) : DS := fun Z δ => m < δ.length ∧ T (keep δ ks) fun r _ => ∃ xs, r = .fr (.l xs) ∧ U (Holds δ ks) Z (δ.set m .no) (.lst xs)
theorem sndsp_scr {ps bs ks : List Nat} {m : Nat} {te : TE} {u : TS} {T : DT} {U : ZP} (a : Snd K te T) (b : SndZP K ps m bs u U) : SndSP K ps (m :: bs) (tSeq (tAsg te (gName m)) u) (sscr m ks T U) := fun F hps hp σ H G δ D3 D s h gd => by
  obtain ⟨hm, h⟩ := h
  have L0 : Rel K σ H (cut K G (Holds δ ks)) (keep δ ks) := ⟨by unfold keep; rw [List.length_map, List.length_range]; exact s.L.len, fun a o q => s.L.sub a o (cut_sub a o q), fun i d q => by
    obtain ⟨hi, e⟩ := keep_va q
    obtain ⟨v, h1, h2⟩ := s.L.va i d e
    exact ⟨v, h1, cut_at h2 fun s hs => ⟨i, d, hi, e, hs⟩⟩, fun i c q => absurd q (keep_ow i c), fun i j l c c' q => absurd q (keep_ow i c)⟩
  refine a σ H _ _ _ _ L0 h fun r δ1 v H1 G1 L1 f1 le1 rr q => ?_
  obtain ⟨xs, rfl, q⟩ := q
  obtain ⟨l, rfl, n0, g0, vs, hl, tl⟩ := rr
  have x := Rel.quiet s f1 keep_ow
  have n1 := x.setN (i := m) (v := some (.ref l)) (hp m List.mem_cons_self)
  have hGl : ∀ {a : Addr}, H a = none → G a = none := fun {a} h => by
    cases q : G a with
    | none => rfl
    | some o => rw [s.L.sub a o q] at h; cases h
  have hEl : ∀ {a : Addr}, H a = none → F.HE a = none := fun h => s.f.free h
  have s1 : Sub G1 (L2.upd G1 l (.lst vs)) := fun a o h => by
    have : a ≠ l := fun z => by rw [z, g0] at h; cases h
    rw [upd_ne this]
    exact h
  have old : ∀ {a : Addr}, a ≠ l → L2.upd G1 l (.lst vs) a ≠ none → H a ≠ none → cut K G (Holds δ ks) a ≠ none := fun {a} ne h h2 => by
    rw [upd_ne ne, f1.n a (fun ⟨i, c, e, _⟩ => keep_ow i c e) h2] at h
    exact h
  have scr : Scr K F.HE H (Holds δ ks) (σ.set m (some (.ref l))) H1 G (δ.set m .no) m (.lst xs) := by
    refine ⟨.ref l, L2.upd G1 l (.lst vs), List.getElem?_set_self (by rw [s.L.len]; exact hm), .lst upd_same (tl.mono s1), fun a o h => ?_, fun l' e => by
      cases e
      exact ⟨(by rw [upd_same]; exact (fun z => nomatch z)), hEl n0, n0, hGl n0⟩, fun a h z => ?_, fun a h => ?_⟩
    · by_cases e : a = l
      · subst e
        rw [upd_same] at h
        cases h
        exact hl
      · rw [upd_ne e] at h
        exact L1.sub a o h
    · obtain ⟨j, c, e, q⟩ := z
      rcases set_get e with ⟨_, z, _⟩ | ⟨ne, e2⟩
      · cases z
      · rw [List.getElem?_set_ne ne] at q
        have ad : Ad σ δ a := ⟨j, c, e2, q⟩
        have ha := s.L.there ad
        by_cases e : a = l
        · rw [e] at ha
          exact ha n0
        · have := old e h ha
          cases z : cut K G (Holds δ ks) a with
          | none => exact this z
          | some o =>
            have := cut_sub a o z
            rw [s.L.gnone ad] at this
            cases this
    · by_cases e : a = l
      · subst e
        exact .inl ⟨hEl n0, n0, hGl n0⟩
      · cases ha : H a with
        | none => exact .inl ⟨hEl ha, rfl, hGl ha⟩
        | some o =>
          obtain ⟨s', hs, hat⟩ := cut_why (old e h (by rw [ha]; exact fun z => nomatch z))
          exact .inr ⟨s', hs, ((cut_hs hat fun r hr => by
            obtain ⟨i, d, h1, h2, h3⟩ := hs
            exact ⟨i, d, h1, h2, hr.trans h3⟩).mono f1.sub).mono s1⟩
  exact b F hps (fun i hi => hp i (List.mem_cons_of_mem _ hi)) (m :: bs) σ H G δ (fun i hi => List.mem_cons_of_mem _ hi) _ _ _ _ _ _ _ _ (n1.mono fun i hi => by
    have : i = m := by simpa using hi
    rw [this]
    exact List.mem_cons_self) scr q gd
end
end L3
/-! L3, part BC: a told list of lists is spoilt. -/
namespace L3
open PySem PySem.Spec PyProof.Rows L2
section
variable {K : PySem.W.Frag}
/-- the two are never one object -/
def Clash (s d : D) : Prop := ∀ (K : PySem.W.Frag) (N : Hp) (a : Addr), Hs K N a s → At K N (.ref a) d → False
/-- an object that nobody knows changes -/
theorem Nxt.spoil {F : FE} {as : List Nat} {σ0 σ : L2.St} {H0 G0 H G : Hp} {δ0 δ : En} {a : Addr} {o : HO} (n : Nxt K F as σ0 H0 G0 δ0 σ H G δ) (na : ¬ Ad σ δ a) (g : G a = none) (he : F.HE a = none) (hb : H0 a = none) : Nxt K F as σ0 H0 G0 δ0 σ (L2.upd H a o) G δ := by
  have keep : ∀ b u, b ≠ a → H b = some u → L2.upd H a o b = some u := fun b u ne e => by rw [upd_ne ne]; exact e
  have L : Rel K σ (L2.upd H a o) G δ := ⟨n.s.L.len, fun b u e => keep b u (fun z => by rw [z, g] at e; cases e) (n.s.L.sub b u e), n.s.L.va, fun i c e => by
    obtain ⟨l, h1, h2, h3⟩ := n.s.L.ow i c e
    have ne : l ≠ a := fun z => na (by rw [← z]; exact ⟨i, c, e, h1⟩)
    exact ⟨l, h1, h2, h3.mono (fun u q => keep l u ne q) .refl⟩, n.s.L.dj⟩
  have fr : ∀ {A : Addr → Prop} {Hb Gb : Hp}, Fr A Hb Gb H G → Hb a = none → Fr A Hb Gb (L2.upd H a o) G := fun f hn => ⟨fun b u nb e => keep b u (fun z => by rw [z, hn] at e; cases e) (f.h b u nb e), f.g, f.n, fun b e => by
    have ne : b ≠ a := fun z => e (by rw [z]; exact hn)
    rw [upd_ne ne]
    exact f.d b e⟩
  exact ⟨⟨L, fr n.s.f he, n.s.own, n.s.par⟩, fr n.f hb, n.ow, n.st, n.ln⟩
/-- a value made with no slot in sight -/
theorem quiet_arg {F : FE} {σ : L2.St} {H G : Hp} {δ : En} {tc : TE} {Tc : DT} {Q : VK} (a : Snd K tc Tc) (s : S3 K F σ H G δ) (h : Tc (List.replicate δ.length .no) fun _ _ => True) (k : ∀ v H1, Nxt K F [] σ H G δ σ H1 G δ → (∀ b o, H b = some o → H1 b = some o) → Q v H1) : tc σ H Q := by
  have no : ∀ (i : Nat) (c : Cn), (List.replicate δ.length E.no)[i]? ≠ some (E.ow c) := fun i c e => by
    rw [List.getElem?_replicate] at e
    split at e <;> cases e
  have nv : ∀ (i : Nat) (d : D), (List.replicate δ.length E.no)[i]? ≠ some (E.va d) := fun i c e => by
    rw [List.getElem?_replicate] at e
    split at e <;> cases e
  have L0 : Rel K σ H (fun _ => none) (List.replicate δ.length .no) := ⟨by rw [List.length_replicate]; exact s.L.len, fun b o e => (by cases e), fun i d e => absurd e (nv i d), fun i c e => absurd e (no i c), fun i j l c c' e => absurd e (no i c)⟩
  refine a σ H _ _ _ _ L0 h fun r δ1 v H1 G1 L1 f1 le1 rr q => ?_
  exact k v H1 (Rel.quiet s f1 no) fun b o e => f1.h b o (fun ⟨i, c, q, _⟩ => no i c q) e
/-- h = m[0]; h.append(..); m.append(..): both are known no more -/
def zspoil (m h : Nat) (T1 T2 : DT) (U : DS) : ZP := fun P Z δ d => h < δ.length ∧ h ≠ m ∧ (∃ es ds, d = .lst (.lst es :: ds) ∧ es.length + 2 < sizeLine ∧ ds.length + 3 < sizeLine ∧ ∀ s, P s → Clash s (.lst es)) ∧ T1 (List.replicate δ.length .no) (fun _ _ => True) ∧ T2 (List.replicate δ.length .no) (fun _ _ => True) ∧ U Z (δ.set h .no)
theorem sndzp_spoil {ps bs : List Nat} {m h : Nat} {t1 t2 : TE} {T1 T2 : DT} {u : TS} {U : DS} (a1 : Snd K t1 T1) (a2 : Snd K t2 T2) (b : SndSP K ps bs u U) :
    SndZP K ps m (h :: bs) (tSeq (tAsg (tOp (rIx K) (tVar m) (tC (.int 0))) (gName h)) (tSeq (tDrop (tBM K "list" rAppend (tVar h) (tCons t1 tNil))) (tSeq (tDrop (tBM K "list" rAppend (tVar m) (tCons t2 tNil))) u))) (zspoil m h T1 T2 U) := fun F hps hp as0 σ0 H0 G0 δ0 hb P σ H G δ d D3 D n g hq gd => by
  obtain ⟨hh, hm, ⟨es, ds, rfl, l1, l2, cl⟩, q1, q2, q⟩ := hq
  obtain ⟨v, N, ev, hv, sN, top, na, why⟩ := g
  cases hv with
  | lst hl tl =>
    rename_i l vs
    cases tl with
    | cons ha tr =>
      cases ha with
      | lst hw tw =>
        rename_i vr a ws
        have new : ∀ {p : Addr} {dd : L3.D}, At K N (.ref p) dd → N p ≠ none → (∀ s, P s → Clash s dd) → F.HE p = none ∧ H0 p = none ∧ G p = none := fun {p dd} hp hn c => by
          rcases why p hn with z | ⟨s, hs, hat⟩
          · exact z
          · exact (c s hs K N p hat hp).elim
        have nl : N l ≠ none := by rw [hl]; exact fun z => nomatch z
        have nA : N a ≠ none := by rw [hw]; exact fun z => nomatch z
        obtain ⟨_, el, bl, gl⟩ := top l rfl
        obtain ⟨ea, ba, ga⟩ := new (.lst hw tw) nA cl
        have lw : ws.length = es.length := tw.length
        have lr : vr.length = ds.length := tr.length
        have hhσ : h < σ.length := by rw [n.s.L.len]; exact hh
        have hph : ∀ l, ¬ F.P h l := hp h List.mem_cons_self
        refine ⟨.ref l, ev, .inl ⟨l, _, 0, .ref a, rfl, rfl, SqL.of (sN l _ hl), atI_get (by omega) rfl, ?_⟩⟩
        have n1 := (n.setN (i := h) (v := some (.ref a)) hph).mono (bs := as0) fun i hi => (List.mem_append.mp hi).elim id fun z => by
          have : i = h := by simpa using z
          rw [this]
          exact hb h List.mem_cons_self
        have adn : ∀ {p : Addr}, N p ≠ none → ¬ Ad (σ.set h (some (.ref a))) (δ.set h .no) p := fun {p} hn ⟨j, c, e, q⟩ => by
          rcases set_get e with ⟨_, z, _⟩ | ⟨ne, e2⟩
          · cases z
          · rw [List.getElem?_set_ne ne] at q
            exact na p hn ⟨j, c, e2, q⟩
        refine ⟨.ref a, List.getElem?_set_self hhσ, ty_lst (sN a _ hw), ?_⟩
        refine quiet_arg a1 n1.s (by rw [List.length_set]; exact q1) fun y1 H1 x1 k1 => ?_
        refine ⟨a, ws, y1, rfl, rfl, k1 a _ (sN a _ hw), by omega, ?_⟩
        have n2 := ((n1.trans x1).mono (bs := as0) fun i hi => (List.mem_append.mp hi).elim id fun z => nomatch z).spoil (a := a) (o := .lst (ws ++ [y1])) (adn nA) ga ea ba
        have hl2 : ∃ ws2, L2.upd H1 a (.lst (ws ++ [y1])) l = some (.lst ws2) ∧ ws2.length + 1 < sizeLine := by
          by_cases z : l = a
          · subst z
            exact ⟨_, upd_same, by rw [List.length_append]; simp; omega⟩
          · exact ⟨_, by rw [upd_ne z]; exact k1 l _ (sN l _ hl), by simp; omega⟩
        obtain ⟨ws2, e2, l3⟩ := hl2
        refine ⟨.ref l, by rw [List.getElem?_set_ne hm]; exact ev, ty_lst e2, ?_⟩
        refine quiet_arg a2 n2.s (by rw [List.length_set]; exact q2) fun y2 H3 x3 k3 => ?_
        refine ⟨l, ws2, y2, rfl, rfl, k3 l _ e2, by omega, ?_⟩
        have n3 := ((n2.trans x3).mono (bs := as0) fun i hi => (List.mem_append.mp hi).elim id fun z => nomatch z).spoil (a := l) (o := .lst (ws2 ++ [y2])) (adn nl) gl el bl
        have tr' : ∀ {σ1 H1 G1 δ1}, Nxt K F bs _ _ G _ σ1 H1 G1 δ1 → Nxt K F as0 σ0 H0 G0 δ0 σ1 H1 G1 δ1 := fun x => (n3.trans x).mono fun i hi => (List.mem_append.mp hi).elim id fun z => hb i (List.mem_cons_of_mem _ z)
        exact b F hps (fun i hi => hp i (List.mem_cons_of_mem _ hi)) _ _ _ _ _ _ n3.s q ⟨fun _ _ _ _ x q => gd.nx _ _ _ _ (tr' x) q, fun _ _ _ _ x q => gd.bk _ _ _ _ (tr' x) q, fun _ _ _ _ x q => gd.ct _ _ _ _ (tr' x) q, fun _ _ _ _ _ _ x rr nr q => gd.rt _ _ _ _ _ _ (tr' x) rr nr q⟩
end
section
theorem clash_int (i : Int) (d : D) : Clash (.int i) d := fun K N a h _ => by cases h
theorem clash_str (x : Str) (d : D) : Clash (.str x) d := fun K N a h _ => by cases h
theorem clash_bl (b : Bool) (d : D) : Clash (.bl b) d := fun K N a h _ => by cases h
theorem clash_non (d : D) : Clash .non d := fun K N a h _ => by cases h
theorem clash_tup (xs ds : List D) : Clash (.tup xs) (.lst ds) := fun K N a h k => by
  cases h with
  | tup h t =>
    cases k with
    | lst k u =>
      rcases h with h | ⟨o, h⟩ <;> rw [k] at h <;> cases h
theorem clash_obj (cn : Str) (ns : List Str) (xs ds : List D) : Clash (.obj cn ns xs) (.lst ds) := fun K N a h k => by
  cases h with
  | obj h l t =>
    cases k with
    | lst k u => rw [k] at h; cases h
/-- no value is both -/
def Apart (x y : D) : Prop := ∀ (K : PySem.W.Frag) (N : Hp) (v : V), At K N v x → At K N v y → False
theorem clash_lst {x y : D} {xs ds : List D} (h : Apart x y) : Clash (.lst (x :: xs)) (.lst (y :: ds)) := fun K N a h1 h2 => by
  cases h1 with
  | lst e1 t1 =>
    cases h2 with
    | lst e2 t2 =>
      rw [e1] at e2
      cases e2
      cases t1 with
      | cons a1 _ =>
        cases t2 with
        | cons a2 _ => exact h K N _ a1 a2
theorem clash_nil {y : D} {ds : List D} : Clash (.lst []) (.lst (y :: ds)) := fun K N a h1 h2 => by
  cases h1 with
  | lst e1 t1 =>
    cases h2 with
    | lst e2 t2 =>
      rw [e1] at e2
      cases e2
      cases t1
      cases t2
theorem apart_lst {x y : D} {xs ds : List D} (h : Apart x y) : Apart (.lst (x :: xs)) (.lst (y :: ds)) := fun K N v h1 h2 => by
  cases h1 with
  | lst e1 t1 =>
    cases h2 with
    | lst e2 t2 =>
      rw [e1] at e2
      cases e2
      cases t1 with
      | cons a1 _ =>
        cases t2 with
        | cons a2 _ => exact h K N _ a1 a2
theorem apart_tup_int (xs : List D) (i : Int) : Apart (.tup xs) (.int i) := fun K N v h1 h2 => by
  cases h1
  cases h2
theorem apart_lst_int (xs : List D) (i : Int) : Apart (.lst xs) (.int i) := fun K N v h1 h2 => by
  cases h1
  cases h2
end
/-! ### steps -/
section
variable {Q : R → En → Prop} {P : D → Prop} {δ : En} {d : D} {Z : DE} {nx : En → Prop} {rt : R → En → Prop} {bk ct : En → Prop}
theorem z_scr {m : Nat} {ks : List Nat} {T : DT} {U : ZP} (h : m < δ.length) (k : ∃ δk, keep δ ks = δk ∧ T δk fun r _ => ∃ xs, r = .fr (.l xs) ∧ ∃ δ', δ.set m .no = δ' ∧ U (Holds δ ks) Z δ' (.lst xs)) : sscr m ks T U Z δ := by
  obtain ⟨_, rfl, k⟩ := k
  simp only [exists_eq_left'] at k
  exact ⟨h, k⟩
theorem z_plain {T : DS} {U : ZP} (k : T ⟨fun δ' => U P Z δ' d, Z.rt, fun _ => False, fun _ => False⟩ δ) : zplain T U P Z δ d := k
theorem z_check {m : Nat} {c : DTT} {U : ZP} (k : ∃ δk, (hide δ).set m (.va d) = δk ∧ c δk fun b _ => b = false ∧ U P Z δ d) : zcheck m c U P Z δ d := by
  obtain ⟨_, rfl, k⟩ := k
  exact k
theorem z_spoil {m h : Nat} {T1 T2 : DT} {U : DS} (h1 : h < δ.length) (h2 : h ≠ m) (h3 : ∃ es ds, d = .lst (.lst es :: ds) ∧ es.length + 2 < sizeLine ∧ ds.length + 3 < sizeLine ∧ ∀ s, P s → Clash s (.lst es)) (h4 : T1 (List.replicate δ.length .no) (fun _ _ => True)) (h5 : T2 (List.replicate δ.length .no) (fun _ _ => True)) (k : ∃ δ', δ.set h .no = δ' ∧ U Z δ') : zspoil m h T1 T2 U P Z δ d := by
  obtain ⟨_, rfl, k⟩ := k
  exact ⟨h1, h2, h3, h4, h5, k⟩
end
end L3
/-! L3, part S: a goal's step by its shape. -/
namespace L3
open PySem PySem.Spec PyProof.Rows L2
class Stp (P : Prop) (Q : outParam Prop) : Prop where
  go : Q → P
class Tag (P : Prop) (Q : outParam Prop) : Prop where
  go : Q → P
def B0 (P : Prop) : Prop := P
def B1 (P : Prop) : Prop := P
theorem b0 {P : Prop} (h : P) : B0 P := h
theorem b1 {P : Prop} (h : P) : B1 P := h
section
variable {Q : R → En → Prop} {QB : Bool → En → Prop} {QA : List R → En → Prop} {δ : En} {d : D} {c : Cn} {T U V : DT} {C C2 : DTT} {TA : DTA} {F : D → D → (R → Prop) → Prop} {F1 : D → (R → Prop) → Prop}
variable {q : R → Prop}
variable {n : En → Prop} {rt : R → En → Prop} {bk ct : En → Prop} {S S2 : DS}
instance  : Stp (seq S S2 ⟨n, rt, bk, ct⟩ δ) (S ⟨S2 ⟨n, rt, bk, ct⟩, rt, bk, ct⟩ δ) := ⟨s_seq⟩
end
section
variable {Q : R → En → Prop} {QB : Bool → En → Prop} {QA : List R → En → Prop} {δ : En} {d : D} {c : Cn} {T U V : DT} {C C2 : DTT} {TA : DTA} {F : D → D → (R → Prop) → Prop} {F1 : D → (R → Prop) → Prop}
variable {q : R → Prop}
variable {n : En → Prop} {rt : R → En → Prop} {bk ct : En → Prop} {S S2 : DS}
instance  : Stp (snext ⟨n, rt, bk, ct⟩ δ) (n δ) := ⟨s_next⟩
end
section
variable {Q : R → En → Prop} {QB : Bool → En → Prop} {QA : List R → En → Prop} {δ : En} {d : D} {c : Cn} {T U V : DT} {C C2 : DTT} {TA : DTA} {F : D → D → (R → Prop) → Prop} {F1 : D → (R → Prop) → Prop}
variable {q : R → Prop}
variable {n : En → Prop} {rt : R → En → Prop} {bk ct : En → Prop} {S S2 : DS}
instance  : Stp (sbreak ⟨n, rt, bk, ct⟩ δ) (bk δ) := ⟨s_break⟩
end
section
variable {Q : R → En → Prop} {QB : Bool → En → Prop} {QA : List R → En → Prop} {δ : En} {d : D} {c : Cn} {T U V : DT} {C C2 : DTT} {TA : DTA} {F : D → D → (R → Prop) → Prop} {F1 : D → (R → Prop) → Prop}
variable {q : R → Prop}
variable {n : En → Prop} {rt : R → En → Prop} {bk ct : En → Prop} {S S2 : DS}
instance  : Stp (scont ⟨n, rt, bk, ct⟩ δ) (ct δ) := ⟨s_cont⟩
end
section
variable {Q : R → En → Prop} {QB : Bool → En → Prop} {QA : List R → En → Prop} {δ : En} {d : D} {c : Cn} {T U V : DT} {C C2 : DTT} {TA : DTA} {F : D → D → (R → Prop) → Prop} {F1 : D → (R → Prop) → Prop}
variable {q : R → Prop}
variable {n : En → Prop} {rt : R → En → Prop} {bk ct : En → Prop} {S S2 : DS}
instance  : Stp (sexpr T ⟨n, rt, bk, ct⟩ δ) (T δ fun _ δ1 => n δ1) := ⟨s_expr⟩
end
section
variable {Q : R → En → Prop} {QB : Bool → En → Prop} {QA : List R → En → Prop} {δ : En} {d : D} {c : Cn} {T U V : DT} {C C2 : DTT} {TA : DTA} {F : D → D → (R → Prop) → Prop} {F1 : D → (R → Prop) → Prop}
variable {q : R → Prop}
variable {n : En → Prop} {rt : R → En → Prop} {bk ct : En → Prop} {S S2 : DS}
instance  : Stp (sif C S S2 ⟨n, rt, bk, ct⟩ δ) (C δ fun b δ1 => (b = true → S ⟨n, rt, bk, ct⟩ δ1) ∧ (b = false → S2 ⟨n, rt, bk, ct⟩ δ1)) := ⟨s_if⟩
end
section
variable {Q : R → En → Prop} {QB : Bool → En → Prop} {QA : List R → En → Prop} {δ : En} {d : D} {c : Cn} {T U V : DT} {C C2 : DTT} {TA : DTA} {F : D → D → (R → Prop) → Prop} {F1 : D → (R → Prop) → Prop}
variable {q : R → Prop}
variable {n : En → Prop} {rt : R → En → Prop} {bk ct : En → Prop} {S S2 : DS}
instance {ps : List Nat} : Stp (sret ps T ⟨n, rt, bk, ct⟩ δ) (T δ fun r δ1 => ∃ r', r.out δ1 = some r' ∧ (∀ i, r = .rf i → i ∉ ps) ∧ rt r' δ1) := ⟨s_ret⟩
end
section
variable {Q : R → En → Prop} {QB : Bool → En → Prop} {QA : List R → En → Prop} {δ : En} {d : D} {c : Cn} {T U V : DT} {C C2 : DTT} {TA : DTA} {F : D → D → (R → Prop) → Prop} {F1 : D → (R → Prop) → Prop}
variable {q : R → Prop}
variable {n : En → Prop} {rt : R → En → Prop} {bk ct : En → Prop} {S S2 : DS}
instance  : Stp (sretN ⟨n, rt, bk, ct⟩ δ) (rt (.va .non) δ) := ⟨s_retN⟩
end
section
variable {Q : R → En → Prop} {QB : Bool → En → Prop} {QA : List R → En → Prop} {δ : En} {d : D} {c : Cn} {T U V : DT} {C C2 : DTT} {TA : DTA} {F : D → D → (R → Prop) → Prop} {F1 : D → (R → Prop) → Prop}
variable {q : R → Prop}
variable {n : En → Prop} {rt : R → En → Prop} {bk ct : En → Prop} {S S2 : DS}
instance {i : Nat} : Stp (sset i T ⟨n, rt, bk, ct⟩ δ) (T δ fun r δ1 => ∃ d, r.still δ1 = some d ∧ ∃ δ', δ1.set i (.va d) = δ' ∧ n δ') := ⟨s_set⟩
end
section
variable {Q : R → En → Prop} {QB : Bool → En → Prop} {QA : List R → En → Prop} {δ : En} {d : D} {c : Cn} {T U V : DT} {C C2 : DTT} {TA : DTA} {F : D → D → (R → Prop) → Prop} {F1 : D → (R → Prop) → Prop}
variable {q : R → Prop}
variable {n : En → Prop} {rt : R → En → Prop} {bk ct : En → Prop} {S S2 : DS}
instance {i : Nat} : Stp (ssetO i T ⟨n, rt, bk, ct⟩ δ) (T δ fun r δ1 => ∃ c, r = .fr c ∧ ∃ δ', δ1.set i (.ow c) = δ' ∧ n δ') := ⟨s_setO⟩
end
section
variable {Q : R → En → Prop} {QB : Bool → En → Prop} {QA : List R → En → Prop} {δ : En} {d : D} {c : Cn} {T U V : DT} {C C2 : DTT} {TA : DTA} {F : D → D → (R → Prop) → Prop} {F1 : D → (R → Prop) → Prop}
variable {q : R → Prop}
variable {n : En → Prop} {rt : R → En → Prop} {bk ct : En → Prop} {S S2 : DS}
instance {U : DG} : Stp (sasg T U ⟨n, rt, bk, ct⟩ δ) (T δ fun r δ1 => ∃ d, r.still δ1 = some d ∧ U d δ1 n) := ⟨s_asg⟩
end
section
variable {Q : R → En → Prop} {QB : Bool → En → Prop} {QA : List R → En → Prop} {δ : En} {d : D} {c : Cn} {T U V : DT} {C C2 : DTT} {TA : DTA} {F : D → D → (R → Prop) → Prop} {F1 : D → (R → Prop) → Prop}
variable {q : R → Prop}
variable {n : En → Prop} {rt : R → En → Prop} {bk ct : En → Prop} {S S2 : DS}
instance {i j : Nat} {m1 m2 : Bool} : Stp (spar2 i j m1 m2 TA ⟨n, rt, bk, ct⟩ δ) (TA δ fun rs δ1 => ∃ r1 r2 e1 e2, rs = [r1, r2] ∧ putE δ1 m1 r1 = some e1 ∧ putE δ1 m2 r2 = some e2 ∧ ∃ δ', (δ1.set i e1).set j e2 = δ' ∧ n δ') := ⟨s_par2⟩
end
section
variable {Q : R → En → Prop} {QB : Bool → En → Prop} {QA : List R → En → Prop} {δ : En} {d : D} {c : Cn} {T U V : DT} {C C2 : DTT} {TA : DTA} {F : D → D → (R → Prop) → Prop} {F1 : D → (R → Prop) → Prop}
instance  : Stp (tc d δ Q) (Q (.va d) δ) := ⟨e_tc⟩
end
section
variable {Q : R → En → Prop} {QB : Bool → En → Prop} {QA : List R → En → Prop} {δ : En} {d : D} {c : Cn} {T U V : DT} {C C2 : DTT} {TA : DTA} {F : D → D → (R → Prop) → Prop} {F1 : D → (R → Prop) → Prop}
instance  : Stp (ta0 δ QA) (QA [] δ) := ⟨e_ta0⟩
end
section
variable {Q : R → En → Prop} {QB : Bool → En → Prop} {QA : List R → En → Prop} {δ : En} {d : D} {c : Cn} {T U V : DT} {C C2 : DTT} {TA : DTA} {F : D → D → (R → Prop) → Prop} {F1 : D → (R → Prop) → Prop}
instance  : Stp (tac T TA δ QA) (T δ fun r δ1 => TA δ1 fun rs δ2 => QA (r :: rs) δ2) := ⟨e_tac⟩
end
section
variable {Q : R → En → Prop} {QB : Bool → En → Prop} {QA : List R → En → Prop} {δ : En} {d : D} {c : Cn} {T U V : DT} {C C2 : DTT} {TA : DTA} {F : D → D → (R → Prop) → Prop} {F1 : D → (R → Prop) → Prop}
instance  : Stp (tb2 F T U δ Q) (T δ fun x δ1 => U δ1 fun y δ2 => ∃ d e, x.dat δ2 = some d ∧ y.dat δ2 = some e ∧ F d e fun r => Q r δ2) := ⟨e_tb2⟩
end
section
variable {Q : R → En → Prop} {QB : Bool → En → Prop} {QA : List R → En → Prop} {δ : En} {d : D} {c : Cn} {T U V : DT} {C C2 : DTT} {TA : DTA} {F : D → D → (R → Prop) → Prop} {F1 : D → (R → Prop) → Prop}
instance  : Stp (tb1 F1 T δ Q) (T δ fun x δ1 => ∃ d, x.dat δ1 = some d ∧ F1 d fun r => Q r δ1) := ⟨e_tb1⟩
end
section
variable {Q : R → En → Prop} {QB : Bool → En → Prop} {QA : List R → En → Prop} {δ : En} {d : D} {c : Cn} {T U V : DT} {C C2 : DTT} {TA : DTA} {F : D → D → (R → Prop) → Prop} {F1 : D → (R → Prop) → Prop}
instance {G : List D → (R → Prop) → Prop} : Stp (tcb G TA δ Q) (TA δ fun rs δ1 => ∃ ds, dats δ1 rs = some ds ∧ G ds fun r => Q r δ1) := ⟨e_tcb⟩
end
section
variable {Q : R → En → Prop} {QB : Bool → En → Prop} {QA : List R → En → Prop} {δ : En} {d : D} {c : Cn} {T U V : DT} {C C2 : DTT} {TA : DTA} {F : D → D → (R → Prop) → Prop} {F1 : D → (R → Prop) → Prop}
instance  : Stp (ttup TA δ Q) (TA δ fun rs δ1 => ∃ ds, stills δ1 rs = some ds ∧ ds.length ≤ sizeLine ∧ Q (.va (.tup ds)) δ1) := ⟨e_ttup⟩
end
section
variable {Q : R → En → Prop} {QB : Bool → En → Prop} {QA : List R → En → Prop} {δ : En} {d : D} {c : Cn} {T U V : DT} {C C2 : DTT} {TA : DTA} {F : D → D → (R → Prop) → Prop} {F1 : D → (R → Prop) → Prop}
instance  : Stp (tlst TA δ Q) (TA δ fun rs δ1 => ∃ ds, stills δ1 rs = some ds ∧ ds.length ≤ sizeLine ∧ Q (.fr (.l ds)) δ1) := ⟨e_tlst⟩
end
section
variable {Q : R → En → Prop} {QB : Bool → En → Prop} {QA : List R → En → Prop} {δ : En} {d : D} {c : Cn} {T U V : DT} {C C2 : DTT} {TA : DTA} {F : D → D → (R → Prop) → Prop} {F1 : D → (R → Prop) → Prop}
instance  : Stp (tt T δ QB) (T δ fun r δ1 => ∃ b, r = .va (.bl b) ∧ QB b δ1) := ⟨e_tt⟩
end
section
variable {Q : R → En → Prop} {QB : Bool → En → Prop} {QA : List R → En → Prop} {δ : En} {d : D} {c : Cn} {T U V : DT} {C C2 : DTT} {TA : DTA} {F : D → D → (R → Prop) → Prop} {F1 : D → (R → Prop) → Prop}
instance  : Stp (ttru T δ QB) (T δ fun r δ1 => ∃ d b, r.dat δ1 = some d ∧ truD d = some b ∧ QB b δ1) := ⟨e_ttru⟩
end
section
variable {Q : R → En → Prop} {QB : Bool → En → Prop} {QA : List R → En → Prop} {δ : En} {d : D} {c : Cn} {T U V : DT} {C C2 : DTT} {TA : DTA} {F : D → D → (R → Prop) → Prop} {F1 : D → (R → Prop) → Prop}
instance  : Stp (tand C C2 δ QB) (C δ fun c δ1 => (c = true → C2 δ1 QB) ∧ (c = false → QB false δ1)) := ⟨e_tand⟩
end
section
variable {Q : R → En → Prop} {QB : Bool → En → Prop} {QA : List R → En → Prop} {δ : En} {d : D} {c : Cn} {T U V : DT} {C C2 : DTT} {TA : DTA} {F : D → D → (R → Prop) → Prop} {F1 : D → (R → Prop) → Prop}
instance  : Stp (tor C C2 δ QB) (C δ fun c δ1 => (c = true → QB true δ1) ∧ (c = false → C2 δ1 QB)) := ⟨e_tor⟩
end
section
variable {Q : R → En → Prop} {QB : Bool → En → Prop} {QA : List R → En → Prop} {δ : En} {d : D} {c : Cn} {T U V : DT} {C C2 : DTT} {TA : DTA} {F : D → D → (R → Prop) → Prop} {F1 : D → (R → Prop) → Prop}
instance  : Stp (tnot C δ QB) (C δ fun c δ1 => QB (!c) δ1) := ⟨e_tnot⟩
end
section
variable {Q : R → En → Prop} {QB : Bool → En → Prop} {QA : List R → En → Prop} {δ : En} {d : D} {c : Cn} {T U V : DT} {C C2 : DTT} {TA : DTA} {F : D → D → (R → Prop) → Prop} {F1 : D → (R → Prop) → Prop}
instance  : Stp (tandV T U δ Q) (T δ fun r δ1 => ∃ c, r = .va (.bl c) ∧ (c = true → U δ1 Q) ∧ (c = false → Q (.va (.bl false)) δ1)) := ⟨e_tandV⟩
end
section
variable {Q : R → En → Prop} {QB : Bool → En → Prop} {QA : List R → En → Prop} {δ : En} {d : D} {c : Cn} {T U V : DT} {C C2 : DTT} {TA : DTA} {F : D → D → (R → Prop) → Prop} {F1 : D → (R → Prop) → Prop}
instance  : Stp (torV T U δ Q) (T δ fun r δ1 => ∃ c, r = .va (.bl c) ∧ (c = true → Q (.va (.bl true)) δ1) ∧ (c = false → U δ1 Q)) := ⟨e_torV⟩
end
section
variable {Q : R → En → Prop} {QB : Bool → En → Prop} {QA : List R → En → Prop} {δ : En} {d : D} {c : Cn} {T U V : DT} {C C2 : DTT} {TA : DTA} {F : D → D → (R → Prop) → Prop} {F1 : D → (R → Prop) → Prop}
instance  : Stp (tnotV T δ Q) (T δ fun r δ1 => ∃ c, r = .va (.bl c) ∧ Q (.va (.bl (!c))) δ1) := ⟨e_tnotV⟩
end
section
variable {Q : R → En → Prop} {QB : Bool → En → Prop} {QA : List R → En → Prop} {δ : En} {d : D} {c : Cn} {T U V : DT} {C C2 : DTT} {TA : DTA} {F : D → D → (R → Prop) → Prop} {F1 : D → (R → Prop) → Prop}
instance  : Stp (tif C T U δ Q) (C δ fun b δ1 => (b = true → T δ1 Q) ∧ (b = false → U δ1 Q)) := ⟨e_tif⟩
end
section
variable {Q : R → En → Prop} {QB : Bool → En → Prop} {QA : List R → En → Prop} {δ : En} {d : D} {c : Cn} {T U V : DT} {C C2 : DTT} {TA : DTA} {F : D → D → (R → Prop) → Prop} {F1 : D → (R → Prop) → Prop}
instance {p p' : Int → Int → Bool} : Stp (tchain p p' T U V δ Q) (T δ fun x δ1 => U δ1 fun y δ2 => ∃ i j, x = .va (.int i) ∧ y = .va (.int j) ∧ (p i j = true → V δ2 fun z δ3 => ∃ k, z = .va (.int k) ∧ Q (.va (.bl (p' j k))) δ3) ∧ (p i j = false → Q (.va (.bl false)) δ2)) := ⟨e_tchain⟩
end
section
variable {Q : R → En → Prop} {QB : Bool → En → Prop} {QA : List R → En → Prop} {δ : En} {d : D} {c : Cn} {T U V : DT} {C C2 : DTT} {TA : DTA} {F : D → D → (R → Prop) → Prop} {F1 : D → (R → Prop) → Prop}
instance {QO : Option Int → En → Prop} : Stp (tno δ QO) (QO none δ) := ⟨e_tno⟩
end
section
variable {Q : R → En → Prop} {QB : Bool → En → Prop} {QA : List R → En → Prop} {δ : En} {d : D} {c : Cn} {T U V : DT} {C C2 : DTT} {TA : DTA} {F : D → D → (R → Prop) → Prop} {F1 : D → (R → Prop) → Prop}
instance {QO : Option Int → En → Prop} : Stp (tpart T δ QO) (T δ fun r δ1 => ∃ i, r = .va (.int i) ∧ QO (some i) δ1) := ⟨e_tpart⟩
end
section
variable {Q : R → En → Prop} {QB : Bool → En → Prop} {QA : List R → En → Prop} {δ : En} {d : D} {c : Cn} {T U V : DT} {C C2 : DTT} {TA : DTA} {F : D → D → (R → Prop) → Prop} {F1 : D → (R → Prop) → Prop}
instance {Tl Th : DTO} : Stp (tslice T Tl Th δ Q) (T δ fun r δ1 => Tl δ1 fun lo δ2 => Th δ2 fun hi δ3 => ∃ d, r.dat δ3 = some d ∧ slF d lo hi fun r => Q r δ3) := ⟨e_tslice⟩
end
section
variable {Q : R → En → Prop} {QB : Bool → En → Prop} {QA : List R → En → Prop} {δ : En} {d : D} {c : Cn} {T U V : DT} {C C2 : DTT} {TA : DTA} {F : D → D → (R → Prop) → Prop} {F1 : D → (R → Prop) → Prop}
instance {n : Tn} : Stp (tisi n T δ Q) (T δ fun r δ1 => ∃ k b, r.kn δ1 = some k ∧ isT n k = b ∧ Q (.va (.bl b)) δ1) := ⟨e_tisi⟩
end
section
variable {Q : R → En → Prop} {QB : Bool → En → Prop} {QA : List R → En → Prop} {δ : En} {d : D} {c : Cn} {T U V : DT} {C C2 : DTT} {TA : DTA} {F : D → D → (R → Prop) → Prop} {F1 : D → (R → Prop) → Prop}
instance {n m : Tn} : Stp (tisi2 n m T δ Q) (T δ fun r δ1 => ∃ k b, r.kn δ1 = some k ∧ (isT n k || isT m k) = b ∧ Q (.va (.bl b)) δ1) := ⟨e_tisi2⟩
end
section
variable {Q : R → En → Prop} {QB : Bool → En → Prop} {QA : List R → En → Prop} {δ : En} {d : D} {c : Cn} {T U V : DT} {C C2 : DTT} {TA : DTA} {F : D → D → (R → Prop) → Prop} {F1 : D → (R → Prop) → Prop}
instance {b : Bool} {P : Bool → Prop} : Stp (∃ b', R.va (.bl b) = .va (.bl b') ∧ P b') (P b) := ⟨e_bl⟩
end
section
variable {Q : R → En → Prop} {QB : Bool → En → Prop} {QA : List R → En → Prop} {δ : En} {d : D} {c : Cn} {T U V : DT} {C C2 : DTT} {TA : DTA} {F : D → D → (R → Prop) → Prop} {F1 : D → (R → Prop) → Prop}
instance {i j : Int} {P : Int → Int → Prop} : Stp (∃ i' j', R.va (.int i) = .va (.int i') ∧ R.va (.int j) = .va (.int j') ∧ P i' j') (P i j) := ⟨e_ii⟩
end
section
variable {Q : R → En → Prop} {QB : Bool → En → Prop} {QA : List R → En → Prop} {δ : En} {d : D} {c : Cn} {T U V : DT} {C C2 : DTT} {TA : DTA} {F : D → D → (R → Prop) → Prop} {F1 : D → (R → Prop) → Prop}
instance {i : Int} {P : Int → Prop} : Stp (∃ i', R.va (.int i) = .va (.int i') ∧ P i') (P i) := ⟨e_i⟩
end
section
variable {Q : R → En → Prop} {QB : Bool → En → Prop} {QA : List R → En → Prop} {δ : En} {d : D} {c : Cn} {T U V : DT} {C C2 : DTT} {TA : DTA} {F : D → D → (R → Prop) → Prop} {F1 : D → (R → Prop) → Prop}
variable {q : R → Prop}
variable {n : En → Prop} {rt : R → En → Prop} {bk ct : En → Prop} {S S2 : DS}
instance {c : Cn} {P : Cn → Prop} : Stp (∃ c', R.fr c = .fr c' ∧ P c') (P c) := ⟨s_fr⟩
end
section
variable {Q : R → En → Prop} {QB : Bool → En → Prop} {QA : List R → En → Prop} {δ : En} {d : D} {c : Cn} {T U V : DT} {C C2 : DTT} {TA : DTA} {F : D → D → (R → Prop) → Prop} {F1 : D → (R → Prop) → Prop}
variable {q : R → Prop}
variable {n : En → Prop} {rt : R → En → Prop} {bk ct : En → Prop} {S S2 : DS}
instance {d : D} {P : D → Prop} : Stp (∃ d', R.va d = .va d' ∧ P d') (P d) := ⟨s_va⟩
end
section
variable {Q : R → En → Prop} {QB : Bool → En → Prop} {QA : List R → En → Prop} {δ : En} {d : D} {c : Cn} {T U V : DT} {C C2 : DTT} {TA : DTA} {F : D → D → (R → Prop) → Prop} {F1 : D → (R → Prop) → Prop}
variable {q : R → Prop}
variable {n : En → Prop} {rt : R → En → Prop} {bk ct : En → Prop} {S S2 : DS}
variable {N : En → Prop}
instance {i : Nat} : Stp (dName i d δ N) (∃ δ', δ.set i (.va d) = δ' ∧ N δ') := ⟨g_name⟩
end
section
variable {Q : R → En → Prop} {QB : Bool → En → Prop} {QA : List R → En → Prop} {δ : En} {d : D} {c : Cn} {T U V : DT} {C C2 : DTT} {TA : DTA} {F : D → D → (R → Prop) → Prop} {F1 : D → (R → Prop) → Prop}
variable {q : R → Prop}
variable {n : En → Prop} {rt : R → En → Prop} {bk ct : En → Prop} {S S2 : DS}
variable {N : En → Prop}
instance  : Stp (dNil [] δ N) (N δ) := ⟨g_nil⟩
end
section
variable {Q : R → En → Prop} {QB : Bool → En → Prop} {QA : List R → En → Prop} {δ : En} {d : D} {c : Cn} {T U V : DT} {C C2 : DTT} {TA : DTA} {F : D → D → (R → Prop) → Prop} {F1 : D → (R → Prop) → Prop}
variable {q : R → Prop}
variable {n : En → Prop} {rt : R → En → Prop} {bk ct : En → Prop} {S S2 : DS}
variable {N : En → Prop}
instance {U : DG} {W : DGs} {d : D} {r : List D} : Stp (dCons U W (d :: r) δ N) (U d δ fun δ1 => W r δ1 N) := ⟨g_cons⟩
end
section
variable {Q : R → En → Prop} {QB : Bool → En → Prop} {QA : List R → En → Prop} {δ : En} {d : D} {c : Cn} {T U V : DT} {C C2 : DTT} {TA : DTA} {F : D → D → (R → Prop) → Prop} {F1 : D → (R → Prop) → Prop}
variable {q : R → Prop}
variable {n : En → Prop} {rt : R → En → Prop} {bk ct : En → Prop} {S S2 : DS}
variable {N : En → Prop}
instance {To Ti : DT} : Stp (dSub To Ti d δ N) (To δ fun ro δ1 => Ti δ1 fun ri δ2 => ∃ i xs k j, ro = .rf i ∧ δ2[i]? = some (E.ow (.l xs)) ∧ ri = .va (.int k) ∧ ixN xs.length k = some j ∧ ∃ δ', δ2.set i (.ow (.l (xs.set j d))) = δ' ∧ N δ') := ⟨g_sub⟩
end
section
variable {Q : R → En → Prop} {QB : Bool → En → Prop} {QA : List R → En → Prop} {δ : En} {d : D} {c : Cn} {T U V : DT} {C C2 : DTT} {TA : DTA} {F : D → D → (R → Prop) → Prop} {F1 : D → (R → Prop) → Prop}
variable {q : R → Prop}
instance {i j : Int} : Stp (plusF (.int i) (.int j) q) (q (.va (.int (i + j)))) := ⟨f_plus⟩
end
section
variable {Q : R → En → Prop} {QB : Bool → En → Prop} {QA : List R → En → Prop} {δ : En} {d : D} {c : Cn} {T U V : DT} {C C2 : DTT} {TA : DTA} {F : D → D → (R → Prop) → Prop} {F1 : D → (R → Prop) → Prop}
variable {q : R → Prop}
instance {i j : Int} : Stp (minusF (.int i) (.int j) q) (q (.va (.int (i - j)))) := ⟨f_minus⟩
end
section
variable {Q : R → En → Prop} {QB : Bool → En → Prop} {QA : List R → En → Prop} {δ : En} {d : D} {c : Cn} {T U V : DT} {C C2 : DTT} {TA : DTA} {F : D → D → (R → Prop) → Prop} {F1 : D → (R → Prop) → Prop}
variable {q : R → Prop}
instance {i : Int} : Stp (negF (.int i) q) (q (.va (.int (-i)))) := ⟨f_neg⟩
end
section
variable {Q : R → En → Prop} {QB : Bool → En → Prop} {QA : List R → En → Prop} {δ : En} {d : D} {c : Cn} {T U V : DT} {C C2 : DTT} {TA : DTA} {F : D → D → (R → Prop) → Prop} {F1 : D → (R → Prop) → Prop}
variable {q : R → Prop}
instance {p : Int → Int → Bool} {i j : Int} : Stp (bF (iF p) (.int i) (.int j) q) (q (.va (.bl (p i j)))) := ⟨f_cmp⟩
end
section
variable {Q : R → En → Prop} {QB : Bool → En → Prop} {QA : List R → En → Prop} {δ : En} {d : D} {c : Cn} {T U V : DT} {C C2 : DTT} {TA : DTA} {F : D → D → (R → Prop) → Prop} {F1 : D → (R → Prop) → Prop}
variable {q : R → Prop}
instance {xs : List D} {lo hi : Option Int} : Stp (slF (.lst xs) lo hi q) (q (.fr (.l (cutL xs lo hi)))) := ⟨f_slL⟩
end
section
variable {Q : R → En → Prop} {QB : Bool → En → Prop} {QA : List R → En → Prop} {δ : En} {d : D} {c : Cn} {T U V : DT} {C C2 : DTT} {TA : DTA} {F : D → D → (R → Prop) → Prop} {F1 : D → (R → Prop) → Prop}
variable {q : R → Prop}
instance {xs : List D} {lo hi : Option Int} : Stp (slF (.frz xs) lo hi q) (q (.fr (.l (cutL xs lo hi)))) := ⟨f_slZ⟩
end
section
variable {Q : R → En → Prop} {QB : Bool → En → Prop} {QA : List R → En → Prop} {δ : En} {d : D} {c : Cn} {T U V : DT} {C C2 : DTT} {TA : DTA} {F : D → D → (R → Prop) → Prop} {F1 : D → (R → Prop) → Prop}
variable {q : R → Prop}
instance {xs : List D} {lo hi : Option Int} : Stp (slF (.tup xs) lo hi q) (q (.va (.tup (cutL xs lo hi)))) := ⟨f_slT⟩
end
section
variable {Q : R → En → Prop} {QB : Bool → En → Prop} {QA : List R → En → Prop} {δ : En} {d : D} {c : Cn} {T U V : DT} {C C2 : DTT} {TA : DTA} {F : D → D → (R → Prop) → Prop} {F1 : D → (R → Prop) → Prop}
variable {q : R → Prop}
instance {xs : List D} : Stp (lenF [.lst xs] q) (q (.va (.int xs.length))) := ⟨f_lenL⟩
end
section
variable {Q : R → En → Prop} {QB : Bool → En → Prop} {QA : List R → En → Prop} {δ : En} {d : D} {c : Cn} {T U V : DT} {C C2 : DTT} {TA : DTA} {F : D → D → (R → Prop) → Prop} {F1 : D → (R → Prop) → Prop}
variable {q : R → Prop}
instance {xs : List D} : Stp (lenF [.tup xs] q) (q (.va (.int xs.length))) := ⟨f_lenT⟩
end
section
variable {Q : R → En → Prop} {QB : Bool → En → Prop} {QA : List R → En → Prop} {δ : En} {d : D} {c : Cn} {T U V : DT} {C C2 : DTT} {TA : DTA} {F : D → D → (R → Prop) → Prop} {F1 : D → (R → Prop) → Prop}
variable {q : R → Prop}
instance {xs : List D} : Stp (lenF [.frz xs] q) (q (.va (.int xs.length))) := ⟨f_lenZ⟩
end
section
variable {Q : R → En → Prop} {QB : Bool → En → Prop} {QA : List R → En → Prop} {δ : En} {d : D} {c : Cn} {T U V : DT} {C C2 : DTT} {TA : DTA} {F : D → D → (R → Prop) → Prop} {F1 : D → (R → Prop) → Prop}
variable {q : R → Prop}
instance {xs : List D} : Stp (listF [.lst xs] q) (q (.fr (.l xs))) := ⟨f_listL⟩
end
section
variable {Q : R → En → Prop} {QB : Bool → En → Prop} {QA : List R → En → Prop} {δ : En} {d : D} {c : Cn} {T U V : DT} {C C2 : DTT} {TA : DTA} {F : D → D → (R → Prop) → Prop} {F1 : D → (R → Prop) → Prop}
variable {q : R → Prop}
instance {xs : List D} : Stp (listF [.tup xs] q) (q (.fr (.l xs))) := ⟨f_listT⟩
end
section
variable {Q : R → En → Prop} {QB : Bool → En → Prop} {QA : List R → En → Prop} {δ : En} {d : D} {c : Cn} {T U V : DT} {C C2 : DTT} {TA : DTA} {F : D → D → (R → Prop) → Prop} {F1 : D → (R → Prop) → Prop}
variable {q : R → Prop}
instance {xs : List D} : Stp (listF [.frz xs] q) (q (.fr (.l xs))) := ⟨f_listZ⟩
end
section
variable {Q : R → En → Prop} {QB : Bool → En → Prop} {QA : List R → En → Prop} {δ : En} {d : D} {c : Cn} {T U V : DT} {C C2 : DTT} {TA : DTA} {F : D → D → (R → Prop) → Prop} {F1 : D → (R → Prop) → Prop}
variable {q : R → Prop}
instance {xs : List D} : Stp (tupleF [.lst xs] q) (q (.va (.tup xs))) := ⟨f_tupL⟩
end
section
variable {Q : R → En → Prop} {QB : Bool → En → Prop} {QA : List R → En → Prop} {δ : En} {d : D} {c : Cn} {T U V : DT} {C C2 : DTT} {TA : DTA} {F : D → D → (R → Prop) → Prop} {F1 : D → (R → Prop) → Prop}
variable {q : R → Prop}
instance {xs : List D} : Stp (tupleF [.tup xs] q) (q (.va (.tup xs))) := ⟨f_tupT⟩
end
section
variable {Q : R → En → Prop} {QB : Bool → En → Prop} {QA : List R → En → Prop} {δ : En} {d : D} {c : Cn} {T U V : DT} {C C2 : DTT} {TA : DTA} {F : D → D → (R → Prop) → Prop} {F1 : D → (R → Prop) → Prop}
variable {q : R → Prop}
instance {i : Int} : Stp (intF [.int i] q) (q (.va (.int i))) := ⟨f_int⟩
end
section
variable {Q : R → En → Prop} {QB : Bool → En → Prop} {QA : List R → En → Prop} {δ : En} {d : D} {c : Cn} {T U V : DT} {C C2 : DTT} {TA : DTA} {F : D → D → (R → Prop) → Prop} {F1 : D → (R → Prop) → Prop}
variable {q : R → Prop}
instance {i j : Int} : Stp (max2F [.int i, .int j] q) (q (.va (.int (if j > i then j else i)))) := ⟨f_max2⟩
end
section
variable {Q : R → En → Prop} {QB : Bool → En → Prop} {QA : List R → En → Prop} {δ : En} {d : D} {c : Cn} {T U V : DT} {C C2 : DTT} {TA : DTA} {F : D → D → (R → Prop) → Prop} {F1 : D → (R → Prop) → Prop}
variable {q : R → Prop}
instance {i j : Int} : Stp (min2F [.int i, .int j] q) (q (.va (.int (if j < i then j else i)))) := ⟨f_min2⟩
end
section
variable {Q : R → En → Prop} {QB : Bool → En → Prop} {QA : List R → En → Prop} {δ : En} {d : D} {c : Cn} {T U V : DT} {C C2 : DTT} {TA : DTA} {F : D → D → (R → Prop) → Prop} {F1 : D → (R → Prop) → Prop}
variable {q : R → Prop}
instance {i j : Int} : Stp (bF eqF (.int i) (.int j) q) (q (.va (.bl (decide (i = j))))) := ⟨f_eqI⟩
end
section
variable {Q : R → En → Prop} {QB : Bool → En → Prop} {QA : List R → En → Prop} {δ : En} {d : D} {c : Cn} {T U V : DT} {C C2 : DTT} {TA : DTA} {F : D → D → (R → Prop) → Prop} {F1 : D → (R → Prop) → Prop}
variable {q : R → Prop}
instance {i j : Int} : Stp (bF neF (.int i) (.int j) q) (q (.va (.bl (!decide (i = j))))) := ⟨f_neI⟩
end
section
variable {Q : R → En → Prop} {QB : Bool → En → Prop} {QA : List R → En → Prop} {δ : En} {d : D} {c : Cn} {T U V : DT} {C C2 : DTT} {TA : DTA} {F : D → D → (R → Prop) → Prop} {F1 : D → (R → Prop) → Prop}
variable {q : R → Prop}
variable {n : En → Prop} {rt : R → En → Prop} {bk ct : En → Prop} {S S2 : DS}
instance {i j : Int} : Stp (ipaddF (.int i) (.int j) q) (q (.va (.int (i + j)))) := ⟨s_iadd⟩
end
section
variable {Q : R → En → Prop} {QB : Bool → En → Prop} {QA : List R → En → Prop} {δ : En} {d : D} {c : Cn} {T U V : DT} {C C2 : DTT} {TA : DTA} {F : D → D → (R → Prop) → Prop} {F1 : D → (R → Prop) → Prop}
variable {q : R → Prop}
variable {n : En → Prop} {rt : R → En → Prop} {bk ct : En → Prop} {S S2 : DS}
instance {i j : Int} : Stp (ipsubF (.int i) (.int j) q) (q (.va (.int (i - j)))) := ⟨s_isub⟩
end
section
variable {Q : R → En → Prop} {QB : Bool → En → Prop} {QA : List R → En → Prop} {δ : En} {d : D} {c : Cn} {T U V : DT} {C C2 : DTT} {TA : DTA} {F : D → D → (R → Prop) → Prop} {F1 : D → (R → Prop) → Prop}
variable {q : R → Prop}
variable {n : En → Prop} {rt : R → En → Prop} {bk ct : En → Prop} {S S2 : DS}
instance {i j l : Nat} {m1 m2 m3 : Bool} : Stp (spar3 i j l m1 m2 m3 TA ⟨n, rt, bk, ct⟩ δ) (TA δ fun rs δ1 => ∃ r1 r2 r3 e1 e2 e3, rs = [r1, r2, r3] ∧ putE δ1 m1 r1 = some e1 ∧ putE δ1 m2 r2 = some e2 ∧ putE δ1 m3 r3 = some e3 ∧ ∃ δ', ((δ1.set i e1).set j e2).set l e3 = δ' ∧ n δ') := ⟨s_par3⟩
end
section
variable {Q : R → En → Prop} {QB : Bool → En → Prop} {QA : List R → En → Prop} {δ : En} {d : D} {c : Cn} {T U V : DT} {C C2 : DTT} {TA : DTA} {F : D → D → (R → Prop) → Prop} {F1 : D → (R → Prop) → Prop}
variable {q : R → Prop}
variable {n : En → Prop} {rt : R → En → Prop} {bk ct : En → Prop} {S S2 : DS}
variable {N : En → Prop}
variable {f : List D → List D → (D → List D → Prop) → Prop}
instance  : Stp (tlm f T TA δ Q) (T δ fun ro δ1 => ∃ i xs0, ro = .rf i ∧ δ1[i]? = some (E.ow (.l xs0)) ∧ TA δ1 fun rs δ2 => ∃ xs ds, δ2[i]? = some (E.ow (.l xs)) ∧ stills δ2 rs = some ds ∧ f xs ds fun d ys => ∃ δ', δ2.set i (.ow (.l ys)) = δ' ∧ Q (.va d) δ') := ⟨e_tlm⟩
end
section
variable {Q : R → En → Prop} {QB : Bool → En → Prop} {QA : List R → En → Prop} {δ : En} {d : D} {c : Cn} {T U V : DT} {C C2 : DTT} {TA : DTA} {F : D → D → (R → Prop) → Prop} {F1 : D → (R → Prop) → Prop}
variable {q : R → Prop}
variable {n : En → Prop} {rt : R → En → Prop} {bk ct : En → Prop} {S S2 : DS}
variable {N : En → Prop}
variable {f : List D → List D → (D → List D → Prop) → Prop}
instance  : Stp (textend T U δ Q) (T δ fun ro δ1 => ∃ i xs0, ro = .rf i ∧ δ1[i]? = some (E.ow (.l xs0)) ∧ U δ1 fun r δ2 => ∃ xs ys, δ2[i]? = some (E.ow (.l xs)) ∧ r.dat δ2 = some (.lst ys) ∧ (∀ j, r = .rf j → j ≠ i) ∧ xs.length + ys.length ≤ sizeLine ∧ ∃ δ', δ2.set i (.ow (.l (xs ++ ys))) = δ' ∧ Q (.va .non) δ') := ⟨e_textend⟩
end
section
variable {Q : R → En → Prop} {QB : Bool → En → Prop} {QA : List R → En → Prop} {δ : En} {d : D} {c : Cn} {T U V : DT} {C C2 : DTT} {TA : DTA} {F : D → D → (R → Prop) → Prop} {F1 : D → (R → Prop) → Prop}
variable {q : R → Prop}
variable {n : En → Prop} {rt : R → En → Prop} {bk ct : En → Prop} {S S2 : DS}
variable {N : En → Prop}
variable {f : List D → List D → (D → List D → Prop) → Prop}
instance {sp : DSp} {ms : List Bool} : Stp (tcall sp ms TA δ Q) (TA δ fun rs δ1 => ∃ es, passes δ1 rs ms = some es ∧ (rfs rs).Nodup ∧ sp es fun r es' => ∃ δ', puts δ1 rs es' = δ' ∧ Q r δ') := ⟨e_tcall⟩
end
section
variable {Q : R → En → Prop} {QB : Bool → En → Prop} {QA : List R → En → Prop} {δ : En} {d : D} {c : Cn} {T U V : DT} {C C2 : DTT} {TA : DTA} {F : D → D → (R → Prop) → Prop} {F1 : D → (R → Prop) → Prop}
variable {q : R → Prop}
variable {n : En → Prop} {rt : R → En → Prop} {bk ct : En → Prop} {S S2 : DS}
variable {N : En → Prop}
variable {f : List D → List D → (D → List D → Prop) → Prop}
variable {QI : List D → List (Nat × Cn) → En → Prop}
instance  : Stp (ilist T δ QI) (T δ fun r δ1 => ∃ xs cs, srcL δ1 r = some (xs, cs) ∧ QI xs cs δ1) := ⟨i_list⟩
end
section
variable {Q : R → En → Prop} {QB : Bool → En → Prop} {QA : List R → En → Prop} {δ : En} {d : D} {c : Cn} {T U V : DT} {C C2 : DTT} {TA : DTA} {F : D → D → (R → Prop) → Prop} {F1 : D → (R → Prop) → Prop}
variable {q : R → Prop}
variable {n : En → Prop} {rt : R → En → Prop} {bk ct : En → Prop} {S S2 : DS}
variable {N : En → Prop}
variable {f : List D → List D → (D → List D → Prop) → Prop}
variable {QI : List D → List (Nat × Cn) → En → Prop}
instance  : Stp (itup T δ QI) (T δ fun r δ1 => ∃ xs, r = .va (.tup xs) ∧ QI xs [] δ1) := ⟨i_tup⟩
end
section
variable {Q : R → En → Prop} {QB : Bool → En → Prop} {QA : List R → En → Prop} {δ : En} {d : D} {c : Cn} {T U V : DT} {C C2 : DTT} {TA : DTA} {F : D → D → (R → Prop) → Prop} {F1 : D → (R → Prop) → Prop}
variable {q : R → Prop}
variable {n : En → Prop} {rt : R → En → Prop} {bk ct : En → Prop} {S S2 : DS}
variable {N : En → Prop}
variable {f : List D → List D → (D → List D → Prop) → Prop}
variable {QI : List D → List (Nat × Cn) → En → Prop}
instance {xs : List D} {P : List D → Prop} : Stp (∃ xs', R.va (.tup xs) = .va (.tup xs') ∧ P xs') (P xs) := ⟨i_tupx⟩
end
section
variable {Q : R → En → Prop} {QB : Bool → En → Prop} {QA : List R → En → Prop} {δ : En} {d : D} {c : Cn} {T U V : DT} {C C2 : DTT} {TA : DTA} {F : D → D → (R → Prop) → Prop} {F1 : D → (R → Prop) → Prop}
variable {q : R → Prop}
variable {n : En → Prop} {rt : R → En → Prop} {bk ct : En → Prop} {S S2 : DS}
variable {N : En → Prop}
variable {f : List D → List D → (D → List D → Prop) → Prop}
variable {QI : List D → List (Nat × Cn) → En → Prop}
instance  : Stp (istr T δ QI) (T δ fun r δ1 => ∃ x : Str, r = .va (.str x) ∧ QI (x.cps.toList.map fun c => D.str ⟨#[c]⟩) [] δ1) := ⟨i_str⟩
end
section
variable {Q : R → En → Prop} {QB : Bool → En → Prop} {QA : List R → En → Prop} {δ : En} {d : D} {c : Cn} {T U V : DT} {C C2 : DTT} {TA : DTA} {F : D → D → (R → Prop) → Prop} {F1 : D → (R → Prop) → Prop}
variable {q : R → Prop}
variable {n : En → Prop} {rt : R → En → Prop} {bk ct : En → Prop} {S S2 : DS}
variable {N : En → Prop}
variable {f : List D → List D → (D → List D → Prop) → Prop}
variable {QI : List D → List (Nat × Cn) → En → Prop}
instance {x : Str} {P : Str → Prop} : Stp (∃ x', R.va (.str x) = .va (.str x') ∧ P x') (P x) := ⟨i_strx⟩
end
section
variable {Q : R → En → Prop} {QB : Bool → En → Prop} {QA : List R → En → Prop} {δ : En} {d : D} {c : Cn} {T U V : DT} {C C2 : DTT} {TA : DTA} {F : D → D → (R → Prop) → Prop} {F1 : D → (R → Prop) → Prop}
variable {q : R → Prop}
variable {n : En → Prop} {rt : R → En → Prop} {bk ct : En → Prop} {S S2 : DS}
variable {N : En → Prop}
variable {f : List D → List D → (D → List D → Prop) → Prop}
variable {QI : List D → List (Nat × Cn) → En → Prop}
instance  : Stp (irng1 T δ QI) (T δ fun r δ1 => ∃ j, r = .va (.int j) ∧ (-(2 ^ 62) ≤ j ∧ j < 2 ^ 62) ∧ QI (rangeD 0 j.toNat) [] δ1) := ⟨i_rng1⟩
end
section
variable {Q : R → En → Prop} {QB : Bool → En → Prop} {QA : List R → En → Prop} {δ : En} {d : D} {c : Cn} {T U V : DT} {C C2 : DTT} {TA : DTA} {F : D → D → (R → Prop) → Prop} {F1 : D → (R → Prop) → Prop}
variable {q : R → Prop}
variable {n : En → Prop} {rt : R → En → Prop} {bk ct : En → Prop} {S S2 : DS}
variable {N : En → Prop}
variable {f : List D → List D → (D → List D → Prop) → Prop}
variable {QI : List D → List (Nat × Cn) → En → Prop}
instance  : Stp (irng2 T U δ QI) (T δ fun r δ1 => U δ1 fun u δ2 => ∃ i j, r = .va (.int i) ∧ u = .va (.int j) ∧ (-(2 ^ 62) ≤ i ∧ i < 2 ^ 62 ∧ -(2 ^ 62) ≤ j ∧ j < 2 ^ 62) ∧ QI (rangeD i (j - i).toNat) [] δ2) := ⟨i_rng2⟩
end
section
variable {Q : R → En → Prop} {QB : Bool → En → Prop} {QA : List R → En → Prop} {δ : En} {d : D} {c : Cn} {T U V : DT} {C C2 : DTT} {TA : DTA} {F : D → D → (R → Prop) → Prop} {F1 : D → (R → Prop) → Prop}
variable {q : R → Prop}
variable {n : En → Prop} {rt : R → En → Prop} {bk ct : En → Prop} {S S2 : DS}
variable {N : En → Prop}
variable {f : List D → List D → (D → List D → Prop) → Prop}
variable {QI : List D → List (Nat × Cn) → En → Prop}
instance  : Stp (ienum T δ QI) (T δ fun r δ1 => ∃ xs cs, srcL δ1 r = some (xs, cs) ∧ QI (enumD 0 xs) cs δ1) := ⟨i_enum⟩
end
section
variable {Q : R → En → Prop} {QB : Bool → En → Prop} {QA : List R → En → Prop} {δ : En} {d : D} {c : Cn} {T U V : DT} {C C2 : DTT} {TA : DTA} {F : D → D → (R → Prop) → Prop} {F1 : D → (R → Prop) → Prop}
variable {q : R → Prop}
variable {n : En → Prop} {rt : R → En → Prop} {bk ct : En → Prop} {S S2 : DS}
variable {N : En → Prop}
variable {f : List D → List D → (D → List D → Prop) → Prop}
variable {QI : List D → List (Nat × Cn) → En → Prop}
instance  : Stp (izip T U δ QI) (T δ fun r δ1 => U δ1 fun u δ2 => ∃ xs cs ys cs', srcL δ2 r = some (xs, cs) ∧ srcL δ2 u = some (ys, cs') ∧ QI (zipD xs ys) (cs ++ cs') δ2) := ⟨i_zip⟩
end
section
variable {Q : R → En → Prop} {QB : Bool → En → Prop} {QA : List R → En → Prop} {δ : En} {d : D} {c : Cn} {T U V : DT} {C C2 : DTT} {TA : DTA} {F : D → D → (R → Prop) → Prop} {F1 : D → (R → Prop) → Prop}
variable {q : R → Prop}
variable {n : En → Prop} {rt : R → En → Prop} {bk ct : En → Prop} {S S2 : DS}
variable {N : En → Prop}
variable {f : List D → List D → (D → List D → Prop) → Prop}
variable {QI : List D → List (Nat × Cn) → En → Prop}
instance {as : List Nat} {SI : DI} {Gd : DG} {B : DS} : Stp (sfor as SI Gd B ⟨n, rt, bk, ct⟩ δ) (SI δ fun items cs δ1 => ForK as Gd B ⟨n, rt, bk, ct⟩ items cs δ1) := ⟨s_for⟩
end
section
variable {Q : R → En → Prop} {QB : Bool → En → Prop} {QA : List R → En → Prop} {δ : En} {d : D} {c : Cn} {T U V : DT} {C C2 : DTT} {TA : DTA} {F : D → D → (R → Prop) → Prop} {F1 : D → (R → Prop) → Prop}
variable {q : R → Prop}
variable {n : En → Prop} {rt : R → En → Prop} {bk ct : En → Prop} {S S2 : DS}
variable {N : En → Prop}
variable {f : List D → List D → (D → List D → Prop) → Prop}
variable {QI : List D → List (Nat × Cn) → En → Prop}
instance {SI : DI} {Gd : DG} {Te : DT} {vs : List Nat} : Stp (tcomp SI Gd C Te vs δ Q) (SI δ fun items cs δ1 => CompK Gd C Te vs Q items cs δ1) := ⟨e_comp⟩
end
section
variable {δ : En} {Q : R → En → Prop} {C : DTT}
instance {SI : DI} {Gd : DG} {Tk Tv : DT} {vs : List Nat} : Stp (tdcomp SI Gd C Tk Tv vs δ Q) (SI δ fun items cs δ1 => CompDK Gd C Tk Tv vs Q items cs δ1) := ⟨e_dcomp⟩
end
section
variable {δ : En} {Q : R → En → Prop} {C : DTT}
instance {Td Ty : DT} : Stp (tdget Td Ty δ Q) (Td δ fun x δ1 => Ty δ1 fun y δ2 => ∃ d k kvs z, y.dat δ2 = some d ∧ keyD d = some k ∧ x.dct δ2 = some kvs ∧ valD kvs k = some z ∧ Q (.va z) δ2) := ⟨e_dget⟩
end
section
variable {Q : R → En → Prop} {δ : En} {T U : DT} {TA TB : DTA} {n : En → Prop} {rt : R → En → Prop} {bk ct : En → Prop}
instance {cn : Str} : Stp (tisC cn T δ Q) (T δ fun r δ1 => ∃ ns ds, r.dat δ1 = some (.obj cn ns ds) ∧ Q (.va (.bl true)) δ1) := ⟨p_isC⟩
end
section
variable {Q : R → En → Prop} {δ : En} {T U : DT} {TA : DTA} {n : En → Prop} {rt : R → En → Prop} {bk ct : En → Prop} {q : R → Prop} {N : En → Prop} {d : D}
instance {cn : Str} {sp : DSp} : Stp (tbinO cn sp T U δ Q) (T δ fun x δ1 => U δ1 fun y δ2 => ∃ ns ds ns' ds', x.dat δ2 = some (.obj cn ns ds) ∧ y.dat δ2 = some (.obj cn ns' ds') ∧ ∃ es, passes δ2 [x, y] [false, false] = some es ∧ (rfs [x, y]).Nodup ∧ sp es fun r es' => ∃ δ', puts δ2 [x, y] es' = δ' ∧ Q r δ') := ⟨p_binO⟩
end
section
variable {Q : R → En → Prop} {δ : En} {T U : DT} {TA : DTA} {n : En → Prop} {rt : R → En → Prop} {bk ct : En → Prop} {q : R → Prop} {N : En → Prop} {d : D}
instance {ns : List Int} : Stp (sortedF [.lst (ns.map D.int)] q) (q (.fr (.l ((sortI ns).map D.int)))) := ⟨f_sorted⟩
end
section
variable {Q : R → En → Prop} {δ : En} {T U : DT} {TA : DTA} {n : En → Prop} {rt : R → En → Prop} {bk ct : En → Prop} {q : R → Prop} {N : En → Prop} {d : D}
instance {is : List Nat} {ms : List Bool} : Stp (sparN is ms TA ⟨n, rt, bk, ct⟩ δ) (TA δ fun rs δ1 => rs.length = is.length ∧ rs.length ≤ sizeLine ∧ ∃ es, putEs δ1 ms rs = some es ∧ ∃ δ', setEs δ1 is es = δ' ∧ n δ') := ⟨s_parN⟩
end
section
variable {Q : R → En → Prop} {QB : Bool → En → Prop} {δ : En} {T U : DT} {C : DTT} {rt : R → En → Prop} {bk ct : En → Prop} {n : En → Prop} {rows : List (List D)} {Z : DE}
instance {m : Nat} {S : DI} {Gd : DG} {Te : DT} {vs : List Nat} {U : YP} : Stp (sgrid m S Gd C Te vs U Z δ) (S δ fun items cs δ1 => GrK m Gd C Te vs (fun rows δ => U Z δ rows) items cs δ1) := ⟨y_grid⟩
end
section
variable {Q : R → En → Prop} {QB : Bool → En → Prop} {δ : En} {T U : DT} {C : DTT} {rt : R → En → Prop} {bk ct : En → Prop} {n : En → Prop} {rows : List (List D)} {Z : DE}
instance {xs : List D} {P : List D → Prop} : Stp (∃ ys, R.fr (.l xs) = .fr (.l ys) ∧ P ys) (P xs) := ⟨y_list⟩
end
section
variable {Q : R → En → Prop} {QB : Bool → En → Prop} {δ : En} {T U : DT} {C : DTT} {rt : R → En → Prop} {bk ct : En → Prop} {n : En → Prop} {rows : List (List D)} {Z : DE}
instance {A : YS} {B : YP} : Stp (ypseq A B Z δ rows) (A ⟨B Z, Z.rt, fun _ _ => False, fun _ _ => False⟩ δ rows) := ⟨y_pseq⟩
end
section
variable {Q : R → En → Prop} {QB : Bool → En → Prop} {δ : En} {T U : DT} {C : DTT} {rt : R → En → Prop} {bk ct : En → Prop} {n : En → Prop} {rows : List (List D)} {Z : DE}
instance {m : Nat} {S : DS} : Stp (ypfree m S Z δ rows) (∃ δ', δ.set m (.ow (.l (rows.map D.lst))) = δ' ∧ S Z δ') := ⟨y_free⟩
end
section
variable {Q : R → En → Prop} {QB : Bool → En → Prop} {δ : En} {T U : DT} {C : DTT} {rt : R → En → Prop} {bk ct : En → Prop} {n : En → Prop} {rows : List (List D)} {Z : DE}
variable {yn : En → List (List D) → Prop} {ybk yct : En → List (List D) → Prop}
instance {S : DS} : Stp (yplain S ⟨yn, rt, ybk, yct⟩ δ rows) (S ⟨fun δ' => yn δ' rows, rt, fun δ' => ybk δ' rows, fun δ' => yct δ' rows⟩ δ) := ⟨y_plain⟩
end
section
variable {Q : R → En → Prop} {QB : Bool → En → Prop} {δ : En} {T U : DT} {C : DTT} {rt : R → En → Prop} {bk ct : En → Prop} {n : En → Prop} {rows : List (List D)} {Z : DE}
variable {yn : En → List (List D) → Prop} {ybk yct : En → List (List D) → Prop}
instance {A B : YS} : Stp (yseq A B ⟨yn, rt, ybk, yct⟩ δ rows) (A ⟨B ⟨yn, rt, ybk, yct⟩, rt, ybk, yct⟩ δ rows) := ⟨y_seq⟩
end
section
variable {Q : R → En → Prop} {QB : Bool → En → Prop} {δ : En} {T U : DT} {C : DTT} {rt : R → En → Prop} {bk ct : En → Prop} {n : En → Prop} {rows : List (List D)} {Z : DE}
variable {yn : En → List (List D) → Prop} {ybk yct : En → List (List D) → Prop}
instance {A B : YS} : Stp (yif C A B ⟨yn, rt, ybk, yct⟩ δ rows) (C δ fun b δ1 => (b = true → A ⟨yn, rt, ybk, yct⟩ δ1 rows) ∧ (b = false → B ⟨yn, rt, ybk, yct⟩ δ1 rows)) := ⟨y_if⟩
end
section
variable {Q : R → En → Prop} {QB : Bool → En → Prop} {δ : En} {T U : DT} {C : DTT} {rt : R → En → Prop} {bk ct : En → Prop} {n : En → Prop} {rows : List (List D)} {Z : DE}
variable {yn : En → List (List D) → Prop} {ybk yct : En → List (List D) → Prop}
instance {as : List Nat} {SI : DI} {Gd : DG} {B : YS} : Stp (yfor as SI Gd B ⟨yn, rt, ybk, yct⟩ δ rows) (SI δ fun items cs δ1 => YForK as Gd B ⟨yn, rt, ybk, yct⟩ rows items cs δ1) := ⟨y_for⟩
end
section
variable {Q : R → En → Prop} {δ : En} {T U : DT}
instance {cn : Str} {sp : DSp} : Stp (teqO cn sp T U δ Q) (T δ fun x δ1 => U δ1 fun y δ2 => ∃ ns ds ns' ds', x.dat δ2 = some (.obj cn ns ds) ∧ y.dat δ2 = some (.obj cn ns' ds') ∧ ∃ es, passes δ2 [x, y] [false, false] = some es ∧ (rfs [x, y]).Nodup ∧ sp es fun r es' => ∃ b, r = .va (.bl b) ∧ ∃ δ', puts δ2 [x, y] es' = δ' ∧ Q (.va (.bl b)) δ') := ⟨p_eqO⟩
end
section
variable {Q : R → En → Prop} {δ : En} {T U : DT} {TA TB : DTA} {n : En → Prop} {rt : R → En → Prop} {bk ct : En → Prop}
instance {cn f : Str} : Stp (tfldc cn f T δ Q) (T δ fun r δ1 => ∃ ns ds d, r.dat δ1 = some (.obj cn ns ds) ∧ (ns.zip ds).lookup f = some d ∧ Q (.va d) δ1) := ⟨p_fld⟩
end
section
variable {Q : R → En → Prop} {δ : En} {T U : DT} {TA TB : DTA} {n : En → Prop} {rt : R → En → Prop} {bk ct : En → Prop}
instance {cn m : Str} {sp : DSp} {ms : List Bool} : Stp (tmeth cn m sp ms T TA δ Q) (T δ fun r δ0 => ∃ ns ds, r.dat δ0 = some (.obj cn ns ds) ∧ (ns.zip ds).lookup m = none ∧ TA δ0 fun rs δ1 => ∃ es, passes δ1 (r :: rs) ms = some es ∧ (rfs (r :: rs)).Nodup ∧ sp es fun r' es' => ∃ δ', puts δ1 (r :: rs) es' = δ' ∧ Q r' δ') := ⟨p_meth⟩
end
section
variable {Q : R → En → Prop} {δ : En} {T U : DT} {TA TB : DTA} {n : En → Prop} {rt : R → En → Prop} {bk ct : En → Prop}
instance {cn : Str} {sp : DSp} {ms : List Bool} : Stp (tmake cn sp ms TA δ Q) (TA δ fun rs δ1 => ∃ es, passes δ1 (.fr (.o cn []) :: rs) (true :: ms) = some es ∧ (rfs rs).Nodup ∧ sp es fun r es' => r = .va .non ∧ ∃ cn' fs es'', es' = .ow (.o cn' fs) :: es'' ∧ ∃ δ', puts δ1 rs es'' = δ' ∧ Q (.fr (.o cn' fs)) δ') := ⟨p_make⟩
end
section
variable {Q : R → En → Prop} {δ : En} {T U : DT} {TA TB : DTA} {n : En → Prop} {rt : R → En → Prop} {bk ct : En → Prop}
instance {cn m : Str} {sp : GSp} : Stp (tlistm cn m sp T δ Q) (T δ fun r δ1 => ∃ ns xs, r = .va (.obj cn ns xs) ∧ (ns.zip xs).lookup m = none ∧ sp [.va (.obj cn ns xs)] fun ds => Q (.fr (.l ds)) δ1) := ⟨p_listm⟩
end
section
variable {Q : R → En → Prop} {δ : En} {T U : DT} {TA TB : DTA} {n : En → Prop} {rt : R → En → Prop} {bk ct : En → Prop}
instance {sp : DSp} {ms : List Bool} {np nk : Nat} {is : List Nat} : Stp (tcallP sp ms np nk is TA TB δ Q) (TA δ fun rs δ1 => rs.length = np ∧ TB δ1 fun us δ2 => us.length = nk ∧ ∃ es, passes δ2 (pk is (rs ++ us)) ms = some es ∧ (rfs (pk is (rs ++ us))).Nodup ∧ sp es fun r es' => ∃ δ', puts δ2 (pk is (rs ++ us)) es' = δ' ∧ Q r δ') := ⟨p_callP⟩
end
section
variable {Q : R → En → Prop} {δ : En} {T U : DT} {TA TB : DTA} {n : En → Prop} {rt : R → En → Prop} {bk ct : En → Prop}
instance {cn f : Str} : Stp (ssetf cn f T U ⟨n, rt, bk, ct⟩ δ) (U δ fun r δ1 => T δ1 fun ro δ2 => ∃ i fs d, ro = .rf i ∧ δ2[i]? = some (E.ow (.o cn fs)) ∧ r.still δ2 = some d ∧ (∀ j, r ≠ .rf j) ∧ fs.length < 1000 ∧ ∃ δ', δ2.set i (.ow (.o cn (putFD f d fs))) = δ' ∧ n δ') := ⟨p_setf⟩
end
section
variable {Q : R → En → Prop} {δ : En} {T U : DT} {TA TB : DTA} {n : En → Prop} {rt : R → En → Prop} {bk ct : En → Prop}
instance  : Stp (tdnew δ Q) (Q (.fr (.d [])) δ) := ⟨d_new⟩
end
section
variable {Q : R → En → Prop} {δ : En} {T U : DT} {TA TB : DTA} {n : En → Prop} {rt : R → En → Prop} {bk ct : En → Prop}
instance  : Stp (tdin T U δ Q) (T δ fun y δ1 => U δ1 fun x δ2 => ∃ d k kvs, y.dat δ2 = some d ∧ keyD d = some k ∧ x.dct δ2 = some kvs ∧ Q (.va (.bl (valD kvs k).isSome)) δ2) := ⟨d_in⟩
end
section
variable {Q : R → En → Prop} {δ : En} {T U : DT} {TA TB : DTA} {n : En → Prop} {rt : R → En → Prop} {bk ct : En → Prop}
instance  : Stp (tdnotin T U δ Q) (T δ fun y δ1 => U δ1 fun x δ2 => ∃ d k kvs, y.dat δ2 = some d ∧ keyD d = some k ∧ x.dct δ2 = some kvs ∧ Q (.va (.bl (!(valD kvs k).isSome))) δ2) := ⟨d_nin⟩
end
section
variable {Q : R → En → Prop} {δ : En} {T U : DT} {TA TB : DTA} {n : En → Prop} {rt : R → En → Prop} {bk ct : En → Prop}
instance  : Stp (tdget T U δ Q) (T δ fun x δ1 => U δ1 fun y δ2 => ∃ d k kvs z, y.dat δ2 = some d ∧ keyD d = some k ∧ x.dct δ2 = some kvs ∧ valD kvs k = some z ∧ Q (.va z) δ2) := ⟨d_get⟩
end
section
variable {Q : R → En → Prop} {δ : En} {T U : DT} {TA TB : DTA} {n : En → Prop} {rt : R → En → Prop} {bk ct : En → Prop}
instance {V : DT} : Stp (sdput T U V ⟨n, rt, bk, ct⟩ δ) (V δ fun r δ1 => T δ1 fun x δ2 => U δ2 fun y δ3 => ∃ i kvs d k z, x = .rf i ∧ δ3[i]? = some (E.ow (.d kvs)) ∧ y.dat δ3 = some d ∧ keyD d = some k ∧ r = .va z ∧ kvs.length < sizeLine ∧ ∃ δ', δ3.set i (.ow (.d (putD kvs k z))) = δ' ∧ n δ') := ⟨d_put⟩
end
section
variable {Q : R → En → Prop} {δ : En} {T U : DT} {TA TB : DTA} {n : En → Prop} {rt : R → En → Prop} {bk ct : En → Prop}
instance  : Stp (tjoin T U δ Q) (T δ fun ro δ1 => ∃ a, ro = .va (.str a) ∧ U δ1 fun r δ2 => ∃ ys : List Str, (r.dat δ2 = some (.lst (ys.map D.str)) ∨ r.dat δ2 = some (.tup (ys.map D.str))) ∧ (ys.map (·.length)).sum + ys.length * a.length ≤ 16777216 ∧ Q (.va (.str (Txt.join a ys))) δ2) := ⟨e_tjoin⟩
end
section
variable {q : R → Prop}
instance  : Stp (bF eqF (.bl true) (.bl true) q) (q (.va (.bl true))) := ⟨f_ett⟩
end
section
variable {q : R → Prop}
instance  : Stp (bF eqF (.bl false) (.bl false) q) (q (.va (.bl true))) := ⟨f_eff⟩
end
section
variable {q : R → Prop}
instance  : Stp (bF eqF (.bl true) (.bl false) q) (q (.va (.bl false))) := ⟨f_etf⟩
end
section
variable {q : R → Prop}
instance  : Stp (bF eqF (.bl false) (.bl true) q) (q (.va (.bl false))) := ⟨f_eft⟩
end
section
variable {q : R → Prop}
instance  : Stp (bF neF (.bl true) (.bl true) q) (q (.va (.bl false))) := ⟨f_ntt⟩
end
section
variable {q : R → Prop}
instance  : Stp (bF neF (.bl false) (.bl false) q) (q (.va (.bl false))) := ⟨f_nff⟩
end
section
variable {q : R → Prop}
instance  : Stp (bF neF (.bl true) (.bl false) q) (q (.va (.bl true))) := ⟨f_ntf⟩
end
section
variable {q : R → Prop}
instance  : Stp (bF neF (.bl false) (.bl true) q) (q (.va (.bl true))) := ⟨f_nft⟩
end
section
variable {Q : R → En → Prop} {δ : En} {T U : DT} {TA TB : DTA} {n : En → Prop} {rt : R → En → Prop} {bk ct : En → Prop}
instance {QI : List D → List (Nat × Cn) → En → Prop} : Stp (izipA T U δ QI) (T δ fun r δ1 => U δ1 fun u δ2 => (∃ xs cs ys cs', srcL δ2 r = some (xs, cs) ∧ srcL δ2 u = some (ys, cs') ∧ QI (zipD xs ys) (cs ++ cs') δ2) ∨ ∃ xs ys, r = .va (.tup xs) ∧ u = .va (.tup ys) ∧ QI (zipD xs ys) [] δ2) := ⟨i_zipA⟩
end
section
variable {Q : R → En → Prop} {δ : En} {T U : DT} {TA TB : DTA} {n : En → Prop} {rt : R → En → Prop} {bk ct : En → Prop}
instance  : Stp (tcount T U δ Q) (T δ fun ro δ1 => ∃ xs0, ro.dat δ1 = some (.lst xs0) ∧ U δ1 fun r δ2 => ∃ (ns : List Int) (n : Int), ro.dat δ2 = some (.lst (ns.map D.int)) ∧ r = .va (.int n) ∧ Q (.va (.int (ns.count n : Nat))) δ2) := ⟨e_tcount⟩
end
section
variable {Q : R → En → Prop} {δ : En} {T U : DT} {TA TB : DTA} {n : En → Prop} {rt : R → En → Prop} {bk ct : En → Prop}
instance  : Stp (tindex T U δ Q) (T δ fun ro δ1 => ∃ xs0, ro.dat δ1 = some (.lst xs0) ∧ U δ1 fun r δ2 => ∃ xs d p ps j z, ro.dat δ2 = some (.lst xs) ∧ r.dat δ2 = some d ∧ d.py = some p ∧ D.pys xs = some ps ∧ SeqAt.shaped (.list ps) = true ∧ SeqAt.shaped p = true ∧ ps[j]? = some z ∧ PyData.eqv z p = true ∧ (∀ (m : Nat) z', m < j → ps[m]? = some z' → PyData.eqv z' p = false) ∧ Q (.va (.int (j : Nat))) δ2) := ⟨e_tindex⟩
end
section
variable {Q : R → En → Prop} {QB : Bool → En → Prop} {QA : List R → En → Prop} {δ : En} {d : D} {c : Cn} {T U V : DT} {C C2 : DTT} {TA : DTA} {F : D → D → (R → Prop) → Prop} {F1 : D → (R → Prop) → Prop}
instance  : Stp (tyes δ QB) (QB true δ) := ⟨e_tyes⟩
end
section
variable {δ : En} {T : DT} {QI : List D → List (Nat × Cn) → En → Prop}
instance  : Stp (ienumA T δ QI) (T δ fun r δ1 => (∃ xs cs, srcL δ1 r = some (xs, cs) ∧ QI (enumD 0 xs) cs δ1) ∨ ∃ xs, r = .va (.tup xs) ∧ QI (enumD 0 xs) [] δ1) := ⟨i_enumA⟩
end
section
variable {Q : R → En → Prop} {QB : Bool → En → Prop} {QA : List R → En → Prop} {δ : En} {d : D} {c : Cn} {T U V : DT} {C C2 : DTT} {TA : DTA} {F : D → D → (R → Prop) → Prop} {F1 : D → (R → Prop) → Prop}
instance {A B : Prop} : Stp (((true : Bool) = true → A) ∧ ((true : Bool) = false → B)) (A) := ⟨br_t⟩
end
section
variable {Q : R → En → Prop} {QB : Bool → En → Prop} {QA : List R → En → Prop} {δ : En} {d : D} {c : Cn} {T U V : DT} {C C2 : DTT} {TA : DTA} {F : D → D → (R → Prop) → Prop} {F1 : D → (R → Prop) → Prop}
instance {A B : Prop} : Stp (((false : Bool) = true → A) ∧ ((false : Bool) = false → B)) (B) := ⟨br_f⟩
end
section
variable {Q : R → En → Prop} {QB : Bool → En → Prop} {QA : List R → En → Prop} {δ : En} {d : D} {c : Cn} {T U V : DT} {C C2 : DTT} {TA : DTA} {F : D → D → (R → Prop) → Prop} {F1 : D → (R → Prop) → Prop}
instance {A B : Prop} {b : Bool} : Stp (((!b) = true → A) ∧ ((!b) = false → B)) ((b = true → B) ∧ (b = false → A)) := ⟨br_n⟩
end
section
variable {Q : R → En → Prop} {δ : En} {T U : DT} {TA TB : DTA} {n : En → Prop} {rt : R → En → Prop} {bk ct : En → Prop}
instance {a : Str} {P : Str → Prop} : Stp (∃ a', R.va (.str a) = .va (.str a') ∧ P a') (P a) := ⟨p_join0⟩
end
section
variable {Q : R → En → Prop} {δ : En} {T U : DT} {TA TB : DTA} {n : En → Prop} {rt : R → En → Prop} {bk ct : En → Prop}
instance {r u : R} {P : List D → List (Nat × Cn) → List D → List (Nat × Cn) → Prop} {B : Prop} : Tag ((∃ xs cs ys cs', srcL δ r = some (xs, cs) ∧ srcL δ u = some (ys, cs') ∧ P xs cs ys cs') ∨ B) (B0 (B0 (B0 (B0 (B0 (B0 ((∃ xs cs ys cs', srcL δ r = some (xs, cs) ∧ srcL δ u = some (ys, cs') ∧ P xs cs ys cs') ∨ B))))))) := ⟨id⟩
end
section
variable {δ : En} {T : DT} {QI : List D → List (Nat × Cn) → En → Prop}
instance {r : R} {P : List D → List (Nat × Cn) → Prop} {B : Prop} : Tag ((∃ xs cs, srcL δ r = some (xs, cs) ∧ P xs cs) ∨ B) (B0 (B0 (B0 (B0 (B0 (B1 ((∃ xs cs, srcL δ r = some (xs, cs) ∧ P xs cs) ∨ B))))))) := ⟨id⟩
end
section
variable {Q : R → En → Prop} {QB : Bool → En → Prop} {QA : List R → En → Prop} {δ : En} {d : D} {c : Cn} {T U V : DT} {C C2 : DTT} {TA : DTA} {F : D → D → (R → Prop) → Prop} {F1 : D → (R → Prop) → Prop}
variable {q : R → Prop}
instance {xs : List D} {i : Int} : Tag (ixF (.lst xs) (.int i) q) (B0 (B0 (B0 (B0 (B1 (B0 (ixF (.lst xs) (.int i) q))))))) := ⟨id⟩
end
section
variable {Q : R → En → Prop} {QB : Bool → En → Prop} {QA : List R → En → Prop} {δ : En} {d : D} {c : Cn} {T U V : DT} {C C2 : DTT} {TA : DTA} {F : D → D → (R → Prop) → Prop} {F1 : D → (R → Prop) → Prop}
instance {rs : List R} {P : List D → Prop} : Tag (∃ ds, dats δ rs = some ds ∧ P ds) (B0 (B0 (B0 (B0 (B1 (B1 (∃ ds, dats δ rs = some ds ∧ P ds))))))) := ⟨id⟩
end
section
variable {Q : R → En → Prop} {QB : Bool → En → Prop} {QA : List R → En → Prop} {δ : En} {d : D} {c : Cn} {T U V : DT} {C C2 : DTT} {TA : DTA} {F : D → D → (R → Prop) → Prop} {F1 : D → (R → Prop) → Prop}
instance {rs : List R} {P : List D → Prop} : Tag (∃ ds, stills δ rs = some ds ∧ ds.length ≤ sizeLine ∧ P ds) (B0 (B0 (B0 (B1 (B0 (B0 (∃ ds, stills δ rs = some ds ∧ ds.length ≤ sizeLine ∧ P ds))))))) := ⟨id⟩
end
section
variable {Q : R → En → Prop} {δ : En} {T U : DT} {TA TB : DTA} {n : En → Prop} {rt : R → En → Prop} {bk ct : En → Prop}
instance {rs rs' : List R} {ms : List Bool} {P : En → Prop} : Tag (∃ es, passes δ rs ms = some es ∧ (rfs rs').Nodup ∧ P es) (B0 (B0 (B0 (B1 (B0 (B1 (∃ es, passes δ rs ms = some es ∧ (rfs rs').Nodup ∧ P es))))))) := ⟨id⟩
end
section
variable {Q : R → En → Prop} {QB : Bool → En → Prop} {QA : List R → En → Prop} {δ : En} {d : D} {c : Cn} {T U V : DT} {C C2 : DTT} {TA : DTA} {F : D → D → (R → Prop) → Prop} {F1 : D → (R → Prop) → Prop}
variable {q : R → Prop}
variable {n : En → Prop} {rt : R → En → Prop} {bk ct : En → Prop} {S S2 : DS}
variable {N : En → Prop}
variable {f : List D → List D → (D → List D → Prop) → Prop}
instance {i : Nat} {rs : List R} {P : List D → List D → Prop} : Tag (∃ xs ds, δ[i]? = some (E.ow (.l xs)) ∧ stills δ rs = some ds ∧ P xs ds) (B0 (B0 (B0 (B1 (B1 (B0 (∃ xs ds, δ[i]? = some (E.ow (.l xs)) ∧ stills δ rs = some ds ∧ P xs ds))))))) := ⟨id⟩
end
section
variable {Q : R → En → Prop} {δ : En} {T U : DT} {TA TB : DTA} {n : En → Prop} {rt : R → En → Prop} {bk ct : En → Prop}
instance {xs : List R} {m : Nat} {P : Prop} : Tag (xs.length = m ∧ P) (B0 (B0 (B0 (B1 (B1 (B1 (xs.length = m ∧ P))))))) := ⟨id⟩
end
section
variable {Q : R → En → Prop} {QB : Bool → En → Prop} {QA : List R → En → Prop} {δ : En} {d : D} {c : Cn} {T U V : DT} {C C2 : DTT} {TA : DTA} {F : D → D → (R → Prop) → Prop} {F1 : D → (R → Prop) → Prop}
instance {i : Nat} : Tag (tv i δ Q) (B0 (B0 (B1 (B0 (B0 (B0 (tv i δ Q))))))) := ⟨id⟩
end
section
variable {Q : R → En → Prop} {QB : Bool → En → Prop} {QA : List R → En → Prop} {δ : En} {d : D} {c : Cn} {T U V : DT} {C C2 : DTT} {TA : DTA} {F : D → D → (R → Prop) → Prop} {F1 : D → (R → Prop) → Prop}
instance {i : Nat} : Tag (tvz i δ Q) (B0 (B0 (B1 (B0 (B0 (B1 (tvz i δ Q))))))) := ⟨id⟩
end
section
variable {Q : R → En → Prop} {QB : Bool → En → Prop} {QA : List R → En → Prop} {δ : En} {d : D} {c : Cn} {T U V : DT} {C C2 : DTT} {TA : DTA} {F : D → D → (R → Prop) → Prop} {F1 : D → (R → Prop) → Prop}
instance {x : R} {P : D → Prop} : Tag (∃ d, x.dat δ = some d ∧ P d) (B0 (B0 (B1 (B0 (B1 (B0 (∃ d, x.dat δ = some d ∧ P d))))))) := ⟨id⟩
end
section
variable {Q : R → En → Prop} {QB : Bool → En → Prop} {QA : List R → En → Prop} {δ : En} {d : D} {c : Cn} {T U V : DT} {C C2 : DTT} {TA : DTA} {F : D → D → (R → Prop) → Prop} {F1 : D → (R → Prop) → Prop}
variable {q : R → Prop}
variable {n : En → Prop} {rt : R → En → Prop} {bk ct : En → Prop} {S S2 : DS}
instance {δ : En} {P : En → Prop} : Tag (∃ δ', δ = δ' ∧ P δ') (B0 (B0 (B1 (B0 (B1 (B1 (∃ δ', δ = δ' ∧ P δ'))))))) := ⟨id⟩
end
section
variable {Q : R → En → Prop} {QB : Bool → En → Prop} {QA : List R → En → Prop} {δ : En} {d : D} {c : Cn} {T U V : DT} {C C2 : DTT} {TA : DTA} {F : D → D → (R → Prop) → Prop} {F1 : D → (R → Prop) → Prop}
variable {q : R → Prop}
variable {n : En → Prop} {rt : R → En → Prop} {bk ct : En → Prop} {S S2 : DS}
variable {N : En → Prop}
variable {f : List D → List D → (D → List D → Prop) → Prop}
instance {i : Nat} {P : Nat → Prop} : Tag (∃ i' xs0, R.rf i = .rf i' ∧ δ[i']? = some (E.ow (.l xs0)) ∧ P i') (B0 (B0 (B1 (B1 (B0 (B0 (∃ i' xs0, R.rf i = .rf i' ∧ δ[i']? = some (E.ow (.l xs0)) ∧ P i'))))))) := ⟨id⟩
end
section
variable {Q : R → En → Prop} {QB : Bool → En → Prop} {QA : List R → En → Prop} {δ : En} {d : D} {c : Cn} {T U V : DT} {C C2 : DTT} {TA : DTA} {F : D → D → (R → Prop) → Prop} {F1 : D → (R → Prop) → Prop}
variable {q : R → Prop}
variable {n : En → Prop} {rt : R → En → Prop} {bk ct : En → Prop} {S S2 : DS}
variable {N : En → Prop}
variable {f : List D → List D → (D → List D → Prop) → Prop}
variable {QI : List D → List (Nat × Cn) → En → Prop}
instance {r : R} {P : List D → List (Nat × Cn) → Prop} : Tag (∃ xs cs, srcL δ r = some (xs, cs) ∧ P xs cs) (B0 (B0 (B1 (B1 (B0 (B1 (∃ xs cs, srcL δ r = some (xs, cs) ∧ P xs cs))))))) := ⟨id⟩
end
section
variable {Q : R → En → Prop} {QB : Bool → En → Prop} {QA : List R → En → Prop} {δ : En} {d : D} {c : Cn} {T U V : DT} {C C2 : DTT} {TA : DTA} {F : D → D → (R → Prop) → Prop} {F1 : D → (R → Prop) → Prop}
variable {q : R → Prop}
variable {n : En → Prop} {rt : R → En → Prop} {bk ct : En → Prop} {S S2 : DS}
variable {N : En → Prop}
variable {f : List D → List D → (D → List D → Prop) → Prop}
variable {QI : List D → List (Nat × Cn) → En → Prop}
instance {r u : R} {P : List D → List (Nat × Cn) → List D → List (Nat × Cn) → Prop} : Tag (∃ xs cs ys cs', srcL δ r = some (xs, cs) ∧ srcL δ u = some (ys, cs') ∧ P xs cs ys cs') (B0 (B0 (B1 (B1 (B1 (B0 (∃ xs cs ys cs', srcL δ r = some (xs, cs) ∧ srcL δ u = some (ys, cs') ∧ P xs cs ys cs'))))))) := ⟨id⟩
end
section
variable {Q : R → En → Prop} {QB : Bool → En → Prop} {QA : List R → En → Prop} {δ : En} {d : D} {c : Cn} {T U V : DT} {C C2 : DTT} {TA : DTA} {F : D → D → (R → Prop) → Prop} {F1 : D → (R → Prop) → Prop}
variable {q : R → Prop}
variable {n : En → Prop} {rt : R → En → Prop} {bk ct : En → Prop} {S S2 : DS}
instance {r1 r2 r3 : R} {m1 m2 m3 : Bool} {P : E → E → E → Prop} : Tag (∃ r1' r2' r3' e1 e2 e3, [r1, r2, r3] = [r1', r2', r3'] ∧ putE δ m1 r1' = some e1 ∧ putE δ m2 r2' = some e2 ∧ putE δ m3 r3' = some e3 ∧ P e1 e2 e3) (B0 (B0 (B1 (B1 (B1 (B1 (∃ r1' r2' r3' e1 e2 e3, [r1, r2, r3] = [r1', r2', r3'] ∧ putE δ m1 r1' = some e1 ∧ putE δ m2 r2' = some e2 ∧ putE δ m3 r3' = some e3 ∧ P e1 e2 e3))))))) := ⟨id⟩
end
section
variable {Q : R → En → Prop} {δ : En} {T U : DT} {TA TB : DTA} {n : En → Prop} {rt : R → En → Prop} {bk ct : En → Prop}
instance {r : R} {cn : Str} {P : Prop} : Tag (∃ ns ds, r.dat δ = some (.obj cn ns ds) ∧ P) (B0 (B1 (B0 (B0 (B0 (B0 (∃ ns ds, r.dat δ = some (.obj cn ns ds) ∧ P))))))) := ⟨id⟩
end
section
variable {Q : R → En → Prop} {δ : En} {T U : DT} {TA : DTA} {n : En → Prop} {rt : R → En → Prop} {bk ct : En → Prop} {q : R → Prop} {N : En → Prop} {d : D}
instance {m : Nat} {W : DGs} {ds : List D} : Tag (dLst m W (.lst ds) δ N) (B0 (B1 (B0 (B0 (B0 (B1 (dLst m W (.lst ds) δ N))))))) := ⟨id⟩
end
section
variable {Q : R → En → Prop} {QB : Bool → En → Prop} {δ : En} {T U : DT} {C : DTT} {rt : R → En → Prop} {bk ct : En → Prop} {n : En → Prop} {rows : List (List D)} {Z : DE}
variable {yn : En → List (List D) → Prop} {ybk yct : En → List (List D) → Prop}
instance {h : Nat} {P : List D → Prop} : Tag (∃ r', δ[h]? = some (E.ow (.l r')) ∧ P r') (B0 (B1 (B0 (B0 (B1 (B0 (∃ r', δ[h]? = some (E.ow (.l r')) ∧ P r'))))))) := ⟨id⟩
end
section
variable {Q : R → En → Prop} {δ : En} {T U : DT}
instance {r u : R} {cn : Str} {P : Prop} : Tag (∃ ns ds ns' ds', r.dat δ = some (.obj cn ns ds) ∧ u.dat δ = some (.obj cn ns' ds') ∧ P) (B0 (B1 (B0 (B0 (B1 (B1 (∃ ns ds ns' ds', r.dat δ = some (.obj cn ns ds) ∧ u.dat δ = some (.obj cn ns' ds') ∧ P))))))) := ⟨id⟩
end
section
variable {Q : R → En → Prop} {δ : En} {T U : DT} {TA TB : DTA} {n : En → Prop} {rt : R → En → Prop} {bk ct : En → Prop}
instance {r : R} {cn f : Str} {P : D → Prop} : Tag (∃ ns ds d, r.dat δ = some (.obj cn ns ds) ∧ (ns.zip ds).lookup f = some d ∧ P d) (B0 (B1 (B0 (B1 (B0 (B0 (∃ ns ds d, r.dat δ = some (.obj cn ns ds) ∧ (ns.zip ds).lookup f = some d ∧ P d))))))) := ⟨id⟩
end
section
variable {Q : R → En → Prop} {δ : En} {T U : DT} {TA TB : DTA} {n : En → Prop} {rt : R → En → Prop} {bk ct : En → Prop}
instance {r : R} {cn m : Str} {P : Prop} : Tag (∃ ns ds, r.dat δ = some (.obj cn ns ds) ∧ (ns.zip ds).lookup m = none ∧ P) (B0 (B1 (B0 (B1 (B0 (B1 (∃ ns ds, r.dat δ = some (.obj cn ns ds) ∧ (ns.zip ds).lookup m = none ∧ P))))))) := ⟨id⟩
end
section
variable {Q : R → En → Prop} {δ : En} {T U : DT} {TA TB : DTA} {n : En → Prop} {rt : R → En → Prop} {bk ct : En → Prop}
instance {r : R} {cn : Str} {i : Nat} {P : Nat → List (Str × D) → D → Prop} : Tag (∃ i' fs d, R.rf i = .rf i' ∧ δ[i']? = some (E.ow (.o cn fs)) ∧ r.still δ = some d ∧ (∀ j, r ≠ .rf j) ∧ fs.length < 1000 ∧ P i' fs d) (B0 (B1 (B0 (B1 (B1 (B0 (∃ i' fs d, R.rf i = .rf i' ∧ δ[i']? = some (E.ow (.o cn fs)) ∧ r.still δ = some d ∧ (∀ j, r ≠ .rf j) ∧ fs.length < 1000 ∧ P i' fs d))))))) := ⟨id⟩
end
section
variable {Q : R → En → Prop} {δ : En} {T U : DT} {TA TB : DTA} {n : En → Prop} {rt : R → En → Prop} {bk ct : En → Prop}
instance {cn m : Str} {ns : List Str} {xs : List D} {P : List Str → List D → Prop} : Tag (∃ ns' xs', R.va (.obj cn ns xs) = .va (.obj cn ns' xs') ∧ (ns'.zip xs').lookup m = none ∧ P ns' xs') (B0 (B1 (B0 (B1 (B1 (B1 (∃ ns' xs', R.va (.obj cn ns xs) = .va (.obj cn ns' xs') ∧ (ns'.zip xs').lookup m = none ∧ P ns' xs'))))))) := ⟨id⟩
end
section
variable {Q : R → En → Prop} {QB : Bool → En → Prop} {QA : List R → En → Prop} {δ : En} {d : D} {c : Cn} {T U V : DT} {C C2 : DTT} {TA : DTA} {F : D → D → (R → Prop) → Prop} {F1 : D → (R → Prop) → Prop}
instance {r : R} {n : Tn} {P : Bool → Prop} : Tag (∃ k b, r.kn δ = some k ∧ isT n k = b ∧ P b) (B0 (B1 (B1 (B0 (B0 (B0 (∃ k b, r.kn δ = some k ∧ isT n k = b ∧ P b))))))) := ⟨id⟩
end
section
variable {Q : R → En → Prop} {QB : Bool → En → Prop} {QA : List R → En → Prop} {δ : En} {d : D} {c : Cn} {T U V : DT} {C C2 : DTT} {TA : DTA} {F : D → D → (R → Prop) → Prop} {F1 : D → (R → Prop) → Prop}
instance {r : R} {n m : Tn} {P : Bool → Prop} : Tag (∃ k b, r.kn δ = some k ∧ (isT n k || isT m k) = b ∧ P b) (B0 (B1 (B1 (B0 (B0 (B1 (∃ k b, r.kn δ = some k ∧ (isT n k || isT m k) = b ∧ P b))))))) := ⟨id⟩
end
section
variable {Q : R → En → Prop} {QB : Bool → En → Prop} {QA : List R → En → Prop} {δ : En} {d : D} {c : Cn} {T U V : DT} {C C2 : DTT} {TA : DTA} {F : D → D → (R → Prop) → Prop} {F1 : D → (R → Prop) → Prop}
variable {q : R → Prop}
variable {n : En → Prop} {rt : R → En → Prop} {bk ct : En → Prop} {S S2 : DS}
instance {r : R} {P : D → Prop} : Tag (∃ d, r.still δ = some d ∧ P d) (B0 (B1 (B1 (B0 (B1 (B0 (∃ d, r.still δ = some d ∧ P d))))))) := ⟨id⟩
end
section
variable {Q : R → En → Prop} {QB : Bool → En → Prop} {QA : List R → En → Prop} {δ : En} {d : D} {c : Cn} {T U V : DT} {C C2 : DTT} {TA : DTA} {F : D → D → (R → Prop) → Prop} {F1 : D → (R → Prop) → Prop}
variable {q : R → Prop}
variable {n : En → Prop} {rt : R → En → Prop} {bk ct : En → Prop} {S S2 : DS}
instance {i : Nat} : Tag (saug i F T ⟨n, rt, bk, ct⟩ δ) (B0 (B1 (B1 (B0 (B1 (B1 (saug i F T ⟨n, rt, bk, ct⟩ δ))))))) := ⟨id⟩
end
section
variable {Q : R → En → Prop} {QB : Bool → En → Prop} {QA : List R → En → Prop} {δ : En} {d : D} {c : Cn} {T U V : DT} {C C2 : DTT} {TA : DTA} {F : D → D → (R → Prop) → Prop} {F1 : D → (R → Prop) → Prop}
variable {q : R → Prop}
instance {xs : List D} {i : Int} : Tag (ixF (.tup xs) (.int i) q) (B0 (B1 (B1 (B1 (B0 (B0 (ixF (.tup xs) (.int i) q))))))) := ⟨id⟩
end
section
variable {Q : R → En → Prop} {QB : Bool → En → Prop} {QA : List R → En → Prop} {δ : En} {d : D} {c : Cn} {T U V : DT} {C C2 : DTT} {TA : DTA} {F : D → D → (R → Prop) → Prop} {F1 : D → (R → Prop) → Prop}
variable {q : R → Prop}
variable {n : En → Prop} {rt : R → En → Prop} {bk ct : En → Prop} {S S2 : DS}
variable {N : En → Prop}
instance {m : Nat} {U : DGs} {ds : List D} : Tag (dTup m U (.tup ds) δ N) (B0 (B1 (B1 (B1 (B0 (B1 (dTup m U (.tup ds) δ N))))))) := ⟨id⟩
end
section
variable {Q : R → En → Prop} {QB : Bool → En → Prop} {QA : List R → En → Prop} {δ : En} {d : D} {c : Cn} {T U V : DT} {C C2 : DTT} {TA : DTA} {F : D → D → (R → Prop) → Prop} {F1 : D → (R → Prop) → Prop}
variable {q : R → Prop}
instance {d : D} : Tag (bF isF d .non q) (B0 (B1 (B1 (B1 (B1 (B0 (bF isF d .non q))))))) := ⟨id⟩
end
section
variable {Q : R → En → Prop} {QB : Bool → En → Prop} {QA : List R → En → Prop} {δ : En} {d : D} {c : Cn} {T U V : DT} {C C2 : DTT} {TA : DTA} {F : D → D → (R → Prop) → Prop} {F1 : D → (R → Prop) → Prop}
variable {q : R → Prop}
instance {d : D} : Tag (bF nisF d .non q) (B0 (B1 (B1 (B1 (B1 (B1 (bF nisF d .non q))))))) := ⟨id⟩
end
section
variable {Q : R → En → Prop} {δ : En} {T U : DT} {TA TB : DTA} {n : En → Prop} {rt : R → En → Prop} {bk ct : En → Prop}
instance {ro : R} {P : Prop} : Tag (∃ xs0, ro.dat δ = some (.lst xs0) ∧ P) (B1 (B0 (B0 (B0 (B0 (B0 (∃ xs0, ro.dat δ = some (.lst xs0) ∧ P))))))) := ⟨id⟩
end
section
variable {Q : R → En → Prop} {QB : Bool → En → Prop} {QA : List R → En → Prop} {δ : En} {d : D} {c : Cn} {T U V : DT} {C C2 : DTT} {TA : DTA} {F : D → D → (R → Prop) → Prop} {F1 : D → (R → Prop) → Prop}
instance {x y : R} {P : D → D → Prop} : Tag (∃ d e, x.dat δ = some d ∧ y.dat δ = some e ∧ P d e) (B1 (B0 (B0 (B0 (B0 (B1 (∃ d e, x.dat δ = some d ∧ y.dat δ = some e ∧ P d e))))))) := ⟨id⟩
end
section
variable {Q : R → En → Prop} {QB : Bool → En → Prop} {QA : List R → En → Prop} {δ : En} {d : D} {c : Cn} {T U V : DT} {C C2 : DTT} {TA : DTA} {F : D → D → (R → Prop) → Prop} {F1 : D → (R → Prop) → Prop}
variable {q : R → Prop}
variable {n : En → Prop} {rt : R → En → Prop} {bk ct : En → Prop} {S S2 : DS}
instance {r1 r2 : R} {m1 m2 : Bool} {P : E → E → Prop} : Tag (∃ r1' r2' e1 e2, [r1, r2] = [r1', r2'] ∧ putE δ m1 r1' = some e1 ∧ putE δ m2 r2' = some e2 ∧ P e1 e2) (B1 (B0 (B0 (B0 (B1 (B0 (∃ r1' r2' e1 e2, [r1, r2] = [r1', r2'] ∧ putE δ m1 r1' = some e1 ∧ putE δ m2 r2' = some e2 ∧ P e1 e2))))))) := ⟨id⟩
end
section
variable {Q : R → En → Prop} {QB : Bool → En → Prop} {QA : List R → En → Prop} {δ : En} {d : D} {c : Cn} {T U V : DT} {C C2 : DTT} {TA : DTA} {F : D → D → (R → Prop) → Prop} {F1 : D → (R → Prop) → Prop}
instance {r : R} {P : Bool → Prop} : Tag (∃ d b, r.dat δ = some d ∧ truD d = some b ∧ P b) (B1 (B0 (B0 (B0 (B1 (B1 (∃ d b, r.dat δ = some d ∧ truD d = some b ∧ P b))))))) := ⟨id⟩
end
section
variable {Q : R → En → Prop} {QB : Bool → En → Prop} {QA : List R → En → Prop} {δ : En} {d : D} {c : Cn} {T U V : DT} {C C2 : DTT} {TA : DTA} {F : D → D → (R → Prop) → Prop} {F1 : D → (R → Prop) → Prop}
variable {q : R → Prop}
variable {n : En → Prop} {rt : R → En → Prop} {bk ct : En → Prop} {S S2 : DS}
variable {N : En → Prop}
instance {i : Nat} {k : Int} {P : Nat → List D → Nat → Prop} : Tag (∃ i' xs k' j, R.rf i = .rf i' ∧ δ[i']? = some (E.ow (.l xs)) ∧ R.va (.int k) = .va (.int k') ∧ ixN xs.length k' = some j ∧ P i' xs j) (B1 (B0 (B0 (B1 (B0 (B0 (∃ i' xs k' j, R.rf i = .rf i' ∧ δ[i']? = some (E.ow (.l xs)) ∧ R.va (.int k) = .va (.int k') ∧ ixN xs.length k' = some j ∧ P i' xs j))))))) := ⟨id⟩
end
section
variable {Q : R → En → Prop} {QB : Bool → En → Prop} {QA : List R → En → Prop} {δ : En} {d : D} {c : Cn} {T U V : DT} {C C2 : DTT} {TA : DTA} {F : D → D → (R → Prop) → Prop} {F1 : D → (R → Prop) → Prop}
variable {q : R → Prop}
variable {n : En → Prop} {rt : R → En → Prop} {bk ct : En → Prop} {S S2 : DS}
instance {r : R} {ps : List Nat} {P : R → Prop} : Tag (∃ r', r.out δ = some r' ∧ (∀ i, r = .rf i → i ∉ ps) ∧ P r') (B1 (B0 (B0 (B1 (B0 (B1 (∃ r', r.out δ = some r' ∧ (∀ i, r = .rf i → i ∉ ps) ∧ P r'))))))) := ⟨id⟩
end
section
variable {Q : R → En → Prop} {QB : Bool → En → Prop} {QA : List R → En → Prop} {δ : En} {d : D} {c : Cn} {T U V : DT} {C C2 : DTT} {TA : DTA} {F : D → D → (R → Prop) → Prop} {F1 : D → (R → Prop) → Prop}
variable {q : R → Prop}
instance {i j : Int} : Tag (modF (.int i) (.int j) q) (B1 (B0 (B0 (B1 (B1 (B0 (modF (.int i) (.int j) q))))))) := ⟨id⟩
end
section
variable {Q : R → En → Prop} {QB : Bool → En → Prop} {QA : List R → En → Prop} {δ : En} {d : D} {c : Cn} {T U V : DT} {C C2 : DTT} {TA : DTA} {F : D → D → (R → Prop) → Prop} {F1 : D → (R → Prop) → Prop}
variable {q : R → Prop}
instance {i j : Int} : Tag (fdivF (.int i) (.int j) q) (B1 (B0 (B0 (B1 (B1 (B1 (fdivF (.int i) (.int j) q))))))) := ⟨id⟩
end
section
variable {Q : R → En → Prop} {QB : Bool → En → Prop} {QA : List R → En → Prop} {δ : En} {d : D} {c : Cn} {T U V : DT} {C C2 : DTT} {TA : DTA} {F : D → D → (R → Prop) → Prop} {F1 : D → (R → Prop) → Prop}
variable {q : R → Prop}
instance {i j : Int} : Tag (timesF (.int i) (.int j) q) (B1 (B0 (B1 (B0 (B0 (B0 (timesF (.int i) (.int j) q))))))) := ⟨id⟩
end
section
variable {Q : R → En → Prop} {QB : Bool → En → Prop} {QA : List R → En → Prop} {δ : En} {d : D} {c : Cn} {T U V : DT} {C C2 : DTT} {TA : DTA} {F : D → D → (R → Prop) → Prop} {F1 : D → (R → Prop) → Prop}
variable {q : R → Prop}
instance {i j : Int} : Tag (powF (.int i) (.int j) q) (B1 (B0 (B1 (B0 (B0 (B1 (powF (.int i) (.int j) q))))))) := ⟨id⟩
end
end L3
set_option Elab.async false
set_option linter.all false
set_option maxRecDepth 100000
set_option maxHeartbeats 4000000
namespace L3
open PySem PySem.Spec PyProof.Rows L2
def sp_law_bag : DSp := fun δ Q => ∃ (ns : List Int) (s : Int), δ = [.va (.frz (ns.map D.int)), .va (.int s)] ∧ 0 ≤ s ∧ s < 2147483629 ∧ ∀ bg, IsBag bg → Q (.fr (.l bg)) δ

def sp_law_draw : DSp := fun δ Q => ∃ bg n, δ = [.ow (.l bg), .va (.int n)] ∧ IsBag bg ∧ 0 < n ∧ n < 1073741824 ∧ ∀ bg' d, IsBag bg' → 0 ≤ d → d < n → Q (.va (.int d)) [.ow (.l bg'), .va (.int n)]

def sp_law_of : DSp := fun δ Q => ∃ bg e, δ = [.ow (.l bg), e] ∧ IsBag bg ∧ ((∃ xs : List D, (e = .va (.lst xs) ∨ e = .va (.tup xs) ∨ e = .ow (.l xs)) ∧ 0 < xs.length ∧ xs.length < 1073741824 ∧ ∀ bg' x, IsBag bg' → x ∈ xs → Q (.va x) [.ow (.l bg'), e]) ∨
  (∃ x : Str, e = .va (.str x) ∧ 0 < x.length ∧ x.length < 1000000 ∧ ∀ bg' c, IsBag bg' → c ∈ x.cps.toList → Q (.va (.str ⟨#[c]⟩)) [.ow (.l bg'), .va (.str x)]))

def sp_law_labels : DSp := fun δ Q => ∃ (bg : List D) (size : Nat), δ = [.ow (.l bg), .va (.int (size : Nat))] ∧ IsBag bg ∧ 0 < size ∧ size ≤ 4 ∧ ∀ bg' ls, IsBag bg' → GoodSides ls → ls.length = size → Q (.va (strsT ls)) [.ow (.l bg'), .va (.int (size : Nat))]

def sp_law_step_row : DSp := fun δ Q => ∃ (bg : List D) (size : Nat) (mood : Int), δ = [.ow (.l bg), .va (.int (size : Nat)), .va (.int mood)] ∧ IsBag bg ∧ 0 < size ∧ size ≤ 1000 ∧ ∀ bg' r, IsBag bg' → GoodRow size r → Q (.fr (.l (r.map pairD))) [.ow (.l bg'), .va (.int (size : Nat)), .va (.int mood)]

def sp_law_net : DSp := fun δ Q => ∃ (bg : List D) (many size : Nat), δ = [.ow (.l bg), .va (.int (many : Nat)), .va (.int (size : Nat))] ∧ IsBag bg ∧ 0 < many ∧ many ≤ 4 ∧ 0 < size ∧ size ≤ 1000 ∧ ∀ bg' net, IsBag bg' → GoodNet many size net → Q (.fr (.l (net.map rowD))) [.ow (.l bg'), .va (.int (many : Nat)), .va (.int (size : Nat))]

def sp_law_named_net : DSp := fun δ Q => ∃ (many size : Nat) (net : Net) (e : E) (ns : List Int), δ = [.va (netD net), e] ∧ (e = .va (.lst (ns.map D.int)) ∨ e = .ow (.l (ns.map D.int))) ∧ GoodNet many size net ∧ Naming size ns ∧ Q (.fr (.l ((namedN ns net).map rowD))) δ

def sp_law_order : DSp := fun δ Q => ∃ (bg : List D) (size : Nat), δ = [.ow (.l bg), .va (.int (size : Nat))] ∧ IsBag bg ∧ 0 < size ∧ size ≤ 1000 ∧ ∀ bg' ns, IsBag bg' → Naming size ns → Q (.fr (.l (ns.map D.int))) [.ow (.l bg'), .va (.int (size : Nat))]

def sp_law_scattered : DSp := fun δ Q => ∃ (bg : List D) (many size : Nat) (net : Net), δ = [.ow (.l bg), .va (netD net)] ∧ IsBag bg ∧ GoodNet many size net ∧ ∀ bg' net', IsBag bg' → GoodNet many size net' → Q (.fr (.l (net'.map rowD))) [.ow (.l bg'), .va (netD net)]

def sp_law_beside : DSp := fun δ Q => ∃ (many s1 s3 : Nat) (a c : Net), δ = [.va (netD a), .va (netD c)] ∧ GoodNet many s1 a ∧ GoodNet many s3 c ∧ s1 + s3 ≤ 1000 ∧ Q (.fr (.l ((besideN s1 a c).map rowD))) δ

def sp_law_many_parts : DSp := fun δ Q => ∃ (bg : List D) (many : Nat) (dear : Bool), δ = [.ow (.l bg), .va (.int (many : Nat)), .va (.bl dear)] ∧ IsBag bg ∧ 0 < many ∧ many ≤ 4 ∧ ∀ bg' size net, IsBag bg' → size ≤ 48 → GoodNet many size net → Q (.fr (.l (net.map rowD))) [.ow (.l bg'), .va (.int (many : Nat)), .va (.bl dear)]

def sp_has_step_rows : DSp := fun δ Q => ∃ (many size : Nat) (net : Net), δ = [.va (.int (many : Nat)), .va (netD net)] ∧ GoodNet many size net ∧ Q (.va (.bl true)) δ

def sp_is_number : DSp := fun δ Q => ∃ i, δ = [.va (.int i)] ∧ Q (.va (.bl true)) δ

def sp_is_index : DSp := fun δ Q => ∃ i n, δ = [.va (.int i), .va (.int n)] ∧ Q (.va (.bl (decide (0 ≤ i ∧ i < n)))) δ

def sp_is_sign : DSp := fun δ Q => ∃ i, δ = [.va (.int i)] ∧ (i = 1 ∨ i = -1) ∧ Q (.va (.bl true)) δ

def sp_is_step : DSp := fun δ Q => ∃ (x s n : Int), δ = [.va (pairD (x, s)), .va (.int n)] ∧ 0 ≤ x ∧ x < n ∧ (s = 1 ∨ s = -1) ∧ Q (.va (.bl true)) δ

def sp_wrong_step : DSp := fun δ Q => ∃ (many size : Nat) (net : Net), δ = [.va (.int (many : Nat)), .va (netD net)] ∧ GoodNet many size net ∧ Q (.va .non) δ

def sp_is_side_name : DSp := fun δ Q => ∃ x, δ = [.va (.str x)] ∧ GoodName x ∧ Q (.va (.bl true)) δ

def sp_is_sides : DSp := fun δ Q => ∃ ls, δ = [.va (strsT ls)] ∧ GoodSides ls ∧ Q (.va (.bl true)) δ

def sp_Plan_init__ : DSp := fun δ Q => ∃ (ls : List Str) (size : Nat) (net : Net), δ = [.ow (.o "Plan" []), .va (strsT ls), .va (netD net)] ∧ GoodSides ls ∧ GoodNet ls.length size net ∧ Q (.va .non) [.ow (.o "Plan" (planF ls size net)), .va (strsT ls), .va (netD net)]

def sp_law_plan : DSp := fun δ Q => ∃ (ls : List Str) (size : Nat) (net : Net), δ = [.va (strsT ls), .va (netD net)] ∧ GoodSides ls ∧ GoodNet ls.length size net ∧ Q (.fr (.o "Plan" (planF ls size net))) δ

def sp_law_parts : DSp := fun δ Q => ∃ (many size : Nat) (net : Net), δ = [.va (netD net)] ∧ GoodNet many size net ∧ ∃ f, Low net f ∧ Q (.fr (.l ((headL size f).map (partD size f)))) δ

def sp_Plan_step : DSp := fun δ Q => ∃ (ls : List Str) (size : Nat) (net : Net) (k x : Nat) (r : Row) (p : Int × Int), δ = [.va (planD ls size net), .va (.int (k : Nat)), .va (.int (x : Nat))] ∧ net[k]? = some r ∧ r[x]? = some p ∧ Q (.va (pairD p)) δ

def sp_walk : DSp := fun δ Q => ∃ (ls : List Str) (size : Nat) (net : Net) (start : Nat), δ = [.va (planD ls size net), .va (.int (start : Nat))] ∧ GoodSides ls ∧ GoodNet ls.length size net ∧ start < size ∧
  ∀ (met : List Nat) (nm sg : Nat → Int) (tr : Bool), RndEnd net size start (fun _ => 0) met sg tr → (∀ q, q < size → (nm q < 0 ↔ q ∉ met)) → (∀ i q, met[i]? = some q → nm q = (i : Nat)) → Q (.va (.tup [.lst (natsD met), .lst ((sgI size nm).map D.int), .lst ((sgI size sg).map D.int)])) δ

def sp_parts : DSp := fun δ Q => ∃ (ls : List Str) (size : Nat) (net : Net) (f : Nat → Nat), δ = [.va (planD ls size net)] ∧ GoodSides ls ∧ GoodNet ls.length size net ∧ Low net f ∧ Q (.fr (.l ((headL size f).map (partD size f)))) δ

def sp_law_like (n : Nat) : DSp := fun δ Q => ∃ (d : D) (e1 e2 : E), δ = [e1, e2] ∧ zE (some e1) = some d ∧ zE (some e2) = some d ∧ Lk n d ∧ Q (.va (.bl true)) δ
def pv_law_like : Nat → DSp
  | 0 => fun _ _ => False
  | n + 1 => sp_law_like n

def sp_law_reached : DSp := fun δ Q => ∃ (many size : Nat) (net : Net) (f : Nat → Nat) (z : Nat), δ = [.va (netD net), .va (.int (z : Nat))] ∧ GoodNet many size net ∧ Low net f ∧ z < size ∧ Q (.fr (.l (natsD (partL size f (f z))))) δ

def sp_law_parts_so : DSp := fun δ Q => ∃ (many size : Nat) (net : Net) (f : Nat → Nat), δ = [.va (.lst ((headL size f).map (partD size f))), .va (netD net)] ∧ GoodNet many size net ∧ Low net f ∧ Q (.va (.bl true)) δ

def sp_part_plan : DSp := fun δ Q => ∃ (ls : List Str) (size : Nat) (net : Net) (f : Nat → Nat) (j z : Nat), δ = [.va (planD ls size net), .va (.int (j : Nat))] ∧ GoodSides ls ∧ GoodNet ls.length size net ∧ Low net f ∧ (headL size f)[j]? = some z ∧ Q (.fr (.o "Plan" (planF ls (partL size f z).length (partN (partL size f z) net)))) δ

def sp_law_quads : DSp := fun δ Q => ∃ (many size : Nat) (net : Net), δ = [.va (netD net)] ∧ GoodNet many size net ∧ Q (.fr (.l (quads 0 net))) δ

def sp_Plan_steps : GSp := fun δ Q => ∃ (ls : List Str) (size : Nat) (net : Net), δ = [.va (planD ls size net)] ∧ GoodNet ls.length size net ∧ Q (quads 0 net)

def sp_law_plan_so : DSp := fun δ Q => ∃ (ls : List Str) (size : Nat) (net : Net), δ = [.va (planD ls size net), .va (strsT ls), .va (netD net)] ∧ GoodSides ls ∧ GoodNet ls.length size net ∧ Q (.va (.bl true)) δ

def sp_law_part_net : DSp := fun δ Q => ∃ (many size : Nat) (net : Net) (folk : List Nat), δ = [.va (netD net), .va (.lst (natsD folk))] ∧ GoodNet many size net ∧ Folk size net folk ∧ Q (.fr (.l ((partN folk net).map rowD))) δ

def sp_law_part_plans_so : DSp := fun δ Q => ∃ (ls : List Str) (size : Nat) (net : Net) (f : Nat → Nat), δ = [.va (planD ls size net), .va (strsT ls), .va (netD net), .va (.lst ((headL size f).map (partD size f)))] ∧ GoodSides ls ∧ GoodNet ls.length size net ∧ Low net f ∧ Q (.va (.bl true)) δ

def sp_law_led : DSp := fun δ Q => ∃ (many size : Nat) (net : Net) (w : List Nat) (x : Nat), δ = [.va (netD net), .va (.tup (natsD w)), .va (.int (x : Nat))] ∧ GoodNet many size net ∧ (∀ k ∈ w, k < many) ∧ w.length ≤ 1000 ∧ x < size ∧ Q (.va (ledP net w x)) δ

def sp_law_return : DSp := fun δ Q => ∃ (many size : Nat) (net : Net) (w : List Nat), δ = [.va (netD net), .va (.tup (natsD w))] ∧ GoodNet many size net ∧ (∀ k ∈ w, k < many) ∧ w.length ≤ 1000 ∧ Q (.va (.int (retN net size w))) δ

def sp_fixed_signs : DSp := fun δ Q => ∃ (many size : Nat) (net : Net) (w : List Nat), δ = [.va (.lst (ledD net w size))] ∧ GoodNet many size net ∧ Q (.va (.int (retN net size w))) δ

def sp_stays : DSp := fun δ Q => ∃ (size : Nat), δ = [.va (.int (size : Nat))] ∧ size ≤ 1000 ∧ Q (.fr (.l (ledD [] [] size))) δ

def sp_is_word : DSp := fun δ Q => ∃ (ls : List Str) (w : List Nat), δ = [.va (strsT ls), .va (.tup (natsD w))] ∧ GoodSides ls ∧ (∀ k ∈ w, k < ls.length) ∧ w.length ≤ 1000 ∧ Q (.va (.bl true)) δ

def sp_led_on : DSp := fun δ Q => ∃ (ls : List Str) (size : Nat) (net : Net) (w : List Nat) (k : Nat), δ = [.va (planD ls size net), .va (.lst (ledD net w size)), .va (.int (k : Nat))] ∧ GoodSides ls ∧ GoodNet ls.length size net ∧ (∀ k ∈ w, k < ls.length) ∧ k < ls.length ∧ Q (.fr (.l (ledD net (w ++ [k]) size))) δ

def sp_led_copies : DSp := fun δ Q => ∃ (ls : List Str) (size : Nat) (net : Net) (w : List Nat), δ = [.va (planD ls size net), .va (.tup (natsD w))] ∧ GoodSides ls ∧ GoodNet ls.length size net ∧ (∀ k ∈ w, k < ls.length) ∧ w.length ≤ 1000 ∧ Q (.va (.lst (ledD net w size))) δ

def sp_return_of : DSp := fun δ Q => ∃ (ls : List Str) (size : Nat) (net : Net) (w : List Nat), δ = [.va (planD ls size net), .va (.tup (natsD w))] ∧ GoodSides ls ∧ GoodNet ls.length size net ∧ (∀ k ∈ w, k < ls.length) ∧ w.length ≤ 1000 ∧ Q (.va (.int (retN net size w))) δ

def sp_law_whole : DSp := fun δ Q => ∃ i : Int, δ = [.va (.int i)] ∧ Q (.va (.bl true)) δ

def sp_law_sums_so : DSp := fun δ Q => ∃ (ls : List Str) (size : Nat) (net : Net) (w : List Nat) (f : Nat → Nat), δ = [.va (planD ls size net), .va (netD net), .va (.tup (natsD w)), .va (.lst ((headL size f).map (partD size f)))] ∧ GoodSides ls ∧ GoodNet ls.length size net ∧ (∀ k ∈ w, k < ls.length) ∧ w.length ≤ 1000 ∧ Low net f ∧ Q (.va (.bl true)) δ

def sp_law_way : DSp := fun δ Q => ∃ (bg : List D) (many size : Nat), δ = [.ow (.l bg), .va (.int (many : Nat)), .va (.int (size : Nat))] ∧ IsBag bg ∧ 0 < many ∧ many ≤ 8 ∧ size ≤ 1000 ∧ ∀ bg' (w : List Nat), IsBag bg' → w.length = size → (∀ k ∈ w, k < many) → Q (.va (.tup (natsD w))) [.ow (.l bg'), .va (.int (many : Nat)), .va (.int (size : Nat))]

def sp_law : DSp := fun δ Q => ∃ ns : List Int, δ = [.va (.frz (ns.map D.int))] ∧ ns.length ≤ 63 ∧ Q (.va (.bl true)) δ

end L3
set_option Elab.async false
set_option linter.all false
set_option maxRecDepth 100000
set_option maxHeartbeats 4000000
namespace L3
open PySem PySem.Spec PyProof.Rows L2
local macro_rules | `(tactic| walk_at "s") => `(tactic| first | with_reducible refine Stp.go ?_ | ((with_reducible refine Tag.go ?_); (first | ((with_reducible refine b0 ?_); (first | ((with_reducible refine b0 ?_); (first | ((with_reducible refine b0 ?_); (first | ((with_reducible refine b0 ?_); (first | ((with_reducible refine b0 ?_); (first | ((with_reducible refine b0 ?_); (first | (with_reducible refine i_zt ?_) | ((with_reducible apply i_zl); (next => rfl); (next => rfl)))) | ((with_reducible refine b1 ?_); (first | (with_reducible refine i_et ?_) | ((with_reducible apply i_el); (next => rfl)))))) | ((with_reducible refine b1 ?_); (first | ((with_reducible refine b0 ?_); (first | ((with_reducible apply f_ixL); (next => (rfl))) | ((with_reducible apply f_ixI); (next => first | assumption | omega); (next => first | assumption | (simp only [List.length_map] at *; omega))))) | ((with_reducible refine b1 ?_); (first | ((with_reducible apply e_da1); (next => rfl)) | ((with_reducible apply e_da2); (next => rfl); (next => rfl)) | ((with_reducible apply e_da3); (next => rfl); (next => rfl); (next => rfl)) | ((with_reducible apply e_dats); (next => (rfl))))))))) | ((with_reducible refine b1 ?_); (first | ((with_reducible refine b0 ?_); (first | ((with_reducible refine b0 ?_); (first | ((with_reducible apply e_st1); (next => rfl)) | ((with_reducible apply e_st2); (next => rfl); (next => rfl)) | ((with_reducible apply e_st3); (next => rfl); (next => rfl); (next => rfl)) | ((with_reducible apply e_st4); (next => rfl); (next => rfl); (next => rfl); (next => rfl)) | ((with_reducible apply e_st5); (next => rfl); (next => rfl); (next => rfl); (next => rfl); (next => rfl)) | ((with_reducible apply e_stills); (next => (simp only [stills, R.still, Option.bind_some, Option.map_some]; rfl)); (next => first | decide | simp [sizeLine])))) | ((with_reducible refine b1 ?_); (first | ((with_reducible apply e_pa1); (next => rfl); (next => simp [rfs])) | ((with_reducible apply e_pa2); (next => rfl); (next => rfl); (next => simp [rfs])) | ((with_reducible apply e_pa3); (next => rfl); (next => rfl); (next => rfl); (next => simp [rfs])) | ((with_reducible apply e_pa4); (next => rfl); (next => rfl); (next => rfl); (next => rfl); (next => simp [rfs])) | ((with_reducible apply e_pa5); (next => rfl); (next => rfl); (next => rfl); (next => rfl); (next => rfl); (next => simp [rfs])) | ((with_reducible apply e_pass); (next => rfl); (next => simp [rfs])) | ((with_reducible apply p_pass0); (next => rfl); (next => simp [rfs])) | ((with_reducible apply c_pass); (next => (simp only [pk, List.nil_append, List.cons_append, List.filterMap_cons, List.filterMap_nil, List.getElem?_cons_zero, List.getElem?_cons_succ]; rfl))))))) | ((with_reducible refine b1 ?_); (first | ((with_reducible refine b0 ?_); (first | ((with_reducible apply e_lx1); (next => rfl); (next => rfl)) | ((with_reducible apply e_lx2); (next => rfl); (next => rfl); (next => rfl)) | ((with_reducible apply e_lm2); (next => rfl); (next => rfl)))) | ((with_reducible refine b1 ?_); (first | ((with_reducible apply s_putN); (next => rfl); (next => (first | decide | simp [sizeLine])); (next => rfl)) | ((with_reducible apply c_len); (next => rfl)))))))))) | ((with_reducible refine b1 ?_); (first | ((with_reducible refine b0 ?_); (first | ((with_reducible refine b0 ?_); (first | ((with_reducible refine b0 ?_); (first | ((with_reducible apply e_tv); (next => (rfl))) | ((with_reducible apply e_tvo); (next => (rfl))))) | ((with_reducible refine b1 ?_); (first | ((with_reducible apply e_tvz); (next => (rfl))) | ((with_reducible apply e_tvzo); (next => (rfl)); (next => (rfl)); (next => ((try simp only [Int.reduceToNat, List.set_cons_succ, List.set_cons_zero, puts]); rfl))))))) | ((with_reducible refine b1 ?_); (first | ((with_reducible refine b0 ?_); (first | ((with_reducible apply e_dat1); (next => (rfl))))) | ((with_reducible refine b1 ?_); (first | ((with_reducible apply s_norm); (next => ((try simp only [Int.reduceToNat, List.set_cons_succ, List.set_cons_zero, puts]); rfl))))))))) | ((with_reducible refine b1 ?_); (first | ((with_reducible refine b0 ?_); (first | ((with_reducible refine b0 ?_); (first | ((with_reducible apply e_lm1); (next => rfl)))) | ((with_reducible refine b1 ?_); (first | ((with_reducible apply i_src); (next => rfl)))))) | ((with_reducible refine b1 ?_); (first | ((with_reducible refine b0 ?_); (first | ((with_reducible apply i_src2); (next => rfl); (next => rfl)))) | ((with_reducible refine b1 ?_); (first | ((with_reducible apply s_put3); (next => rfl); (next => rfl); (next => rfl)))))))))))) | ((with_reducible refine b1 ?_); (first | ((with_reducible refine b0 ?_); (first | ((with_reducible refine b0 ?_); (first | ((with_reducible refine b0 ?_); (first | ((with_reducible refine b0 ?_); (first | ((with_reducible apply p_obj); (next => rfl)))) | ((with_reducible refine b1 ?_); (first | ((with_reducible apply g_lst); (next => (rfl))))))) | ((with_reducible refine b1 ?_); (first | ((with_reducible refine b0 ?_); (first | ((with_reducible apply y_back); (next => rfl)))) | ((with_reducible refine b1 ?_); (first | ((with_reducible apply p_obj2); (next => rfl); (next => rfl)))))))) | ((with_reducible refine b1 ?_); (first | ((with_reducible refine b0 ?_); (first | ((with_reducible refine b0 ?_); (first | ((with_reducible apply p_fld1); (next => rfl); (next => rfl)))) | ((with_reducible refine b1 ?_); (first | ((with_reducible apply p_meth1); (next => rfl); (next => rfl)))))) | ((with_reducible refine b1 ?_); (first | ((with_reducible refine b0 ?_); (first | ((with_reducible apply p_self); (next => rfl); (next => rfl); (next => (intro j h; cases h)); (next => ((repeat refine lt_put ?_); simp))))) | ((with_reducible refine b1 ?_); (first | ((with_reducible apply p_listm1); (next => rfl)))))))))) | ((with_reducible refine b1 ?_); (first | ((with_reducible refine b0 ?_); (first | ((with_reducible refine b0 ?_); (first | ((with_reducible refine b0 ?_); (first | ((with_reducible apply e_kn1); (next => (rfl)); (next => (simp only [isT, Bool.or_false, Bool.false_or, Bool.or_true, Bool.true_or]; rfl))))) | ((with_reducible refine b1 ?_); (first | ((with_reducible apply e_kn2); (next => (rfl)); (next => (simp only [isT, Bool.or_false, Bool.false_or, Bool.or_true, Bool.true_or]; rfl))))))) | ((with_reducible refine b1 ?_); (first | ((with_reducible refine b0 ?_); (first | ((with_reducible apply s_still); (next => (rfl))))) | ((with_reducible refine b1 ?_); (first | ((with_reducible apply s_aug); (next => (rfl))))))))) | ((with_reducible refine b1 ?_); (first | ((with_reducible refine b0 ?_); (first | ((with_reducible refine b0 ?_); (first | ((with_reducible apply f_ixT); (next => (rfl))))) | ((with_reducible refine b1 ?_); (first | ((with_reducible apply g_tup); (next => (rfl))))))) | ((with_reducible refine b1 ?_); (first | ((with_reducible refine b0 ?_); (first | ((with_reducible apply f_isB); (next => ((try simp only [isNone]); rfl))))) | ((with_reducible refine b1 ?_); (first | ((with_reducible apply f_nisB); (next => ((try simp only [isNone, Bool.not_true, Bool.not_false]); rfl))))))))))))))) | ((with_reducible refine b1 ?_); (((with_reducible refine b0 ?_); (first | ((with_reducible refine b0 ?_); (first | ((with_reducible refine b0 ?_); (first | ((with_reducible refine b0 ?_); (first | ((with_reducible refine b0 ?_); (first | ((with_reducible apply c_x0); (next => rfl)))) | ((with_reducible refine b1 ?_); (first | ((with_reducible apply e_dat2); (next => (rfl)); (next => (rfl))))))) | ((with_reducible refine b1 ?_); (first | ((with_reducible refine b0 ?_); (first | ((with_reducible apply s_put2); (next => (rfl)); (next => (rfl))))) | ((with_reducible refine b1 ?_); (first | ((with_reducible apply e_tru); (next => (rfl)); (next => (rfl))))))))) | ((with_reducible refine b1 ?_); (first | ((with_reducible refine b0 ?_); (first | ((with_reducible refine b0 ?_); (first | ((with_reducible apply g_at); (next => (rfl)); (next => (rfl))))) | ((with_reducible refine b1 ?_); (first | ((with_reducible apply s_out); (next => (rfl)); (next => (exact no_rf rfl))))))) | ((with_reducible refine b1 ?_); (first | ((with_reducible refine b0 ?_); (first | ((with_reducible apply f_mod); (next => (first | decide | omega))))) | ((with_reducible refine b1 ?_); (first | ((with_reducible apply f_fdiv); (next => ((unfold CDiv; first | decide | omega)))))))))))) | ((with_reducible refine b1 ?_); (((with_reducible refine b0 ?_); (((with_reducible refine b0 ?_); (first | ((with_reducible refine b0 ?_); (first | ((with_reducible apply f_times); (next => ((unfold CMul; first | decide | omega)))))) | ((with_reducible refine b1 ?_); (first | ((with_reducible apply f_pow); (next => (first | decide | (unfold CPow; omega)))))))))))))))))))
local macro_rules | `(tactic| walk_at "r") => `(tactic| repeat walk_at "s")
local macro_rules | `(tactic| walk_at "a") => `(tactic| repeat' (first | walk_at "s" | with_reducible refine br_p (fun _ => ?_) (fun _ => ?_) | with_reducible refine br_b (fun _ => ?_) (fun _ => ?_)))
local macro_rules | `(tactic| walk_at "b") => `(tactic| with_reducible refine br_p (fun hc => ?_) (fun hc => ?_))
local macro_rules | `(tactic| walk_at "x") => `(tactic| all_goals (try (exfalso; first | contradiction | omega | (simp only [List.length_map, Int.natCast_inj, Bool.false_eq_true, Bool.true_eq_false, Option.isSome_none, Option.isSome_some, decide_eq_true_eq, decide_eq_false_iff_not] at *; first | contradiction | omega))))

/-! ### _law_bag -/
def T_law_bag : DS := seq (sset 2 (tv 1)) (seq (sfor [2, 3] (ilist (tslice (tv 0) (tno) (tpart (tc (.int 63))))) (dName 3) (sset 2 (tb2 modF (tcb intF (tac (tb2 plusF (tb2 plusF (tb2 timesF (tv 2) (tc (.int 48271))) (tb2 modF (tcb intF (tac (tv 3) (ta0))) (tc (.int 2147483587)))) (tc (.int 311))) (ta0))) (tc (.int 2147483629))))) (sret [] (tlst (tac (tcb listF (tac (tslice (tv 0) (tno) (tpart (tc (.int 63)))) (ta0))) (tac (tc (.int 0)) (tac (tc (.int 0)) (tac (tv 2) (tac (tc (.int 0)) (ta0)))))))))
theorem cut63 (ns : List Int) : cutL (ns.map D.int) none (some 63) = (ns.take 63).map D.int := by
  unfold cutL
  rw [List.map_take, List.length_map]
  have h1 : HT.sIx ns.length 0 none = 0 := rfl
  rw [h1, List.drop_zero, Nat.sub_zero]
  have h2 : HT.sIx ns.length ns.length (some 63) = min 63 ns.length := by
    unfold HT.sIx
    simp
  rw [h2]
  by_cases h : 63 ≤ ns.length
  · rw [Nat.min_eq_left h]
  · rw [Nat.min_eq_right (by omega), List.take_of_length_le (by simp), List.take_of_length_le (by simp; omega)]
theorem pf_law_bag : ∀ δ Q3, sp_law_bag δ Q3 → δ.length = 2 → (∀ (i : Nat) c, δ[i]? = some (E.ow c) → i ∈ ([] : List Nat) ∧ i ∉ ([2, 3] : List Nat)) ∧ T_law_bag { nx := fun δ' => Q3 (.va .non) (outs δ δ'), rt := fun r δ' => Q3 r (outs δ δ') } (δ ++ List.replicate 2 E.no) := by
  rintro δ Q3 ⟨ns, s, rfl, s0, s1, k⟩ hl
  refine ⟨own_by rfl, ?_⟩
  simp only [List.replicate, List.cons_append, List.nil_append]
  unfold T_law_bag
  walk_at "a"
  refine for_by (fun _ δ => ∃ m e, δ = [.va (.frz (ns.map D.int)), .va (.int s), .va (.int m), e] ∧ 0 ≤ m ∧ m < 2147483629) ⟨_, _, rfl, s0, s1⟩ (fun p hp => nomatch hp) (fun _ _ _ p hp => nomatch hp) ?_ ?_
  · rintro j x δ e ⟨m, e', rfl, m0, m1⟩
    rw [cut63] at e
    obtain ⟨i, _, rfl⟩ := map_some e
    walk_at "a"
    exact ⟨_, _, rfl, Int.emod_nonneg _ (by decide), Int.emod_lt_of_pos _ (by decide)⟩
  · rintro δ ⟨m, e', rfl, m0, m1⟩
    walk_at "a"
    rw [cut63]
    exact k _ ⟨_, _, _, _, _, rfl, by rw [List.length_take]; omega, by omega, by omega, m0, m1⟩

-- slots [(0, 'script'), (1, 'salt'), (2, 'mix'), (3, 'item')]; stored [2, 3]

/-! ### _law_draw -/
def T_law_draw : DS := seq (sasg (tb2 plusF (tb2 ixF (tv 0) (tc (.int 4))) (tc (.int 1))) (dSub (tv 0) (tc (.int 4)))) (seq (sif (tand (tt (tb2 (bF eqF) (tb2 ixF (tv 0) (tc (.int 2))) (tc (.int 0)))) (tt (tb2 (bF (iF (fun i j => decide (i < j)))) (tb2 ixF (tv 0) (tc (.int 1))) (tcb lenF (tac (tb2 ixF (tv 0) (tc (.int 0))) (ta0)))))) (seq (sset 2 (tb2 ixF (tb2 ixF (tv 0) (tc (.int 0))) (tb2 ixF (tv 0) (tc (.int 1))))) (seq (sasg (tb2 plusF (tb2 ixF (tv 0) (tc (.int 1))) (tc (.int 1))) (dSub (tv 0) (tc (.int 1)))) (sif (tt (tb2 (bF (iF (fun i j => decide (j ≤ i)))) (tv 2) (tb2 powF (tc (.int 10)) (tc (.int 18))))) (sasg (tv 2) (dSub (tv 0) (tc (.int 2)))) (sasg (tb2 modF (tcb intF (tac (tb2 plusF (tb2 plusF (tb2 timesF (tb2 ixF (tv 0) (tc (.int 3))) (tc (.int 69621))) (tb2 timesF (tb2 modF (tcb intF (tac (tv 2) (ta0))) (tc (.int 2147483549))) (tc (.int 30103)))) (tc (.int 97))) (ta0))) (tc (.int 2147483629))) (dSub (tv 0) (tc (.int 3))))))) (snext)) (seq (sif (tt (tb2 (bF (iF (fun i j => decide (j < i)))) (tb2 ixF (tv 0) (tc (.int 2))) (tc (.int 0)))) (seq (sset 3 (tb2 modF (tcb intF (tac (tb2 ixF (tv 0) (tc (.int 2))) (ta0))) (tv 1))) (seq (sasg (tb2 fdivF (tb2 ixF (tv 0) (tc (.int 2))) (tv 1)) (dSub (tv 0) (tc (.int 2)))) (sret [0] (tv 3)))) (snext)) (seq (sasg (tb2 modF (tcb intF (tac (tb2 plusF (tb2 plusF (tb2 powF (tb2 ixF (tv 0) (tc (.int 3))) (tc (.int 3))) (tb2 timesF (tb2 ixF (tv 0) (tc (.int 4))) (tc (.int 1299709)))) (tc (.int 60013))) (ta0))) (tc (.int 2147483629))) (dSub (tv 0) (tc (.int 3)))) (sret [0] (tb2 modF (tcb intF (tac (tb2 plusF (tb2 fdivF (tb2 ixF (tv 0) (tc (.int 3))) (tc (.int 97))) (tb2 timesF (tb2 modF (tcb intF (tac (tb2 ixF (tv 0) (tc (.int 3))) (ta0))) (tc (.int 7901))) (tc (.int 67)))) (ta0))) (tv 1))))))
theorem pf_law_draw : ∀ δ Q3, sp_law_draw δ Q3 → δ.length = 2 → (∀ (i : Nat) c, δ[i]? = some (E.ow c) → i ∈ ([0] : List Nat) ∧ i ∉ ([2, 3] : List Nat)) ∧ T_law_draw { nx := fun δ' => Q3 (.va .non) (outs δ δ'), rt := fun r δ' => Q3 r (outs δ δ') } (δ ++ List.replicate 2 E.no) := by
  rintro δ Q3 ⟨bg, n, rfl, ⟨ns, i, r, m, c, rfl, h1, h2, h3, h4, h5⟩, n0, n1, k⟩ hl
  refine ⟨own_by rfl, ?_⟩
  simp only [List.replicate, List.cons_append, List.nil_append]
  unfold T_law_draw
  unfold bagD
  walk_at "a"
  all_goals
    refine k _ _ ⟨_, _, _, _, _, rfl, ?_, ?_, ?_, ?_, ?_⟩ ?_ ?_
  all_goals first
    | assumption
    | omega
    | exact Int.ediv_nonneg (by omega) (by omega)
    | exact Int.emod_nonneg _ (by omega)
    | exact Int.emod_lt_of_pos _ (by omega)
    | (simp only [Int.reduceToNat, Int.reducePow] at *; omega)

-- slots [(0, 'bag'), (1, 'size'), (2, 'item'), (3, 'digit')]; stored [2, 3]

/-! ### _law_of -/
def T_law_of : DS := sret [0, 1] (tb2 ixF (tv 1) (tcall sp_law_draw [true, false] (tac (tv 0) (tac (tcb lenF (tac (tv 1) (ta0))) (ta0)))))
theorem pf_law_of : ∀ δ Q3, sp_law_of δ Q3 → δ.length = 2 → (∀ (i : Nat) c, δ[i]? = some (E.ow c) → i ∈ ([0, 1] : List Nat) ∧ i ∉ ([] : List Nat)) ∧ T_law_of { nx := fun δ' => Q3 (.va .non) (outs δ δ'), rt := fun r δ' => Q3 r (outs δ δ') } (δ ++ List.replicate 0 E.no) := by
  rintro δ Q3 ⟨bg, e, rfl, hb, ⟨xs, he, h0, h1, k⟩ | ⟨x, rfl, h0, h1, k⟩⟩ hl
  · rcases he with rfl | rfl | rfl
    all_goals
      refine ⟨own_by rfl, ?_⟩
      simp only [List.replicate, List.cons_append, List.nil_append]
      unfold T_law_of
      walk_at "a"
      refine ⟨bg, _, rfl, hb, by omega, by omega, fun bg' d hb' d0 d1 => ?_⟩
      have hd : d.toNat < xs.length := by omega
      walk_at "a"
      first
        | refine f_ixL (atI_get d0 (List.getElem?_eq_getElem hd)) ?_
        | refine f_ixT (atI_get d0 (List.getElem?_eq_getElem hd)) ?_
      walk_at "a"
      exact k _ _ hb' (List.getElem_mem hd)
  · refine ⟨own_by rfl, ?_⟩
    simp only [List.replicate, List.cons_append, List.nil_append]
    unfold T_law_of
    walk_at "a"
    refine f_lenS (by unfold sizeLine; omega) ?_
    walk_at "a"
    refine ⟨bg, _, rfl, hb, by omega, by omega, fun bg' d hb' d0 d1 => ?_⟩
    have hd : d.toNat < x.cps.toList.length := by
      have : x.cps.toList.length = x.length := by simp [Str.length]
      omega
    walk_at "a"
    refine ⟨by unfold sizeLine; omega, _, atI_get d0 (List.getElem?_eq_getElem hd), ?_⟩
    walk_at "a"
    exact k _ _ hb' (List.getElem_mem hd)

-- slots [(0, 'bag'), (1, 'things')]; stored []

/-! ### _law_labels -/
def T_law_labels : DS := seq (ssetO 2 (tlst (ta0))) (seq (sfor [3, 4] (irng1 (tv 1)) (dName 3) (seq (sif (tt (tb2 (bF eqF) (tcall sp_law_draw [true, false] (tac (tv 0) (tac (tc (.int 3)) (ta0)))) (tc (.int 0)))) (sset 4 (tcall sp_law_of [true, true] (tac (tv 0) (tac (tlst (tac (tc (.str "p")) (tac (tc (.str "q")) (tac (tc (.str "a")) (tac (tc (.str "aa")) (tac (tc (.str "ab")) (tac (tc (.str "end")) (tac (tc (.str "tie")) (tac (tc (.str "z")) (tac (tc (.str "zzz")) (tac (tc (.str "b")) (tac (tc (.str "ba")) (ta0))))))))))))) (ta0))))) (sset 4 (tjoin (tc (.str "")) (tcomp (irng1 (tb2 plusF (tc (.int 1)) (tcall sp_law_draw [true, false] (tac (tv 0) (tac (tc (.int 3)) (ta0)))))) (dName 5) (tyes) (tcall sp_law_of [true, true] (tac (tv 0) (tac (tc (.str "abcdefghijklmnopqrstuvwxyz")) (ta0)))) [5])))) (seq (sif (tt (tb2 (bF inF) (tv 4) (tv 2))) (sset 4 (tb2 ixF (tcomp (istr (tc (.str "abcdefgh"))) (dName 5) (tt (tb2 (bF ninF) (tv 5) (tv 2))) (tv 5) [5]) (tc (.int 0)))) (snext)) (sexpr (tlm appF (tv 2) (tac (tv 4) (ta0))))))) (sret [0] (tcb tupleF (tac (tv 2) (ta0)))))
def eight : List Nat := (Str.ofString "abcdefgh").cps.toList
theorem eight_ok : ∀ c ∈ eight, goodB ⟨#[c]⟩ = true := by decide +kernel
theorem pf_law_labels : ∀ δ Q3, sp_law_labels δ Q3 → δ.length = 2 → (∀ (i : Nat) c, δ[i]? = some (E.ow c) → i ∈ ([0] : List Nat) ∧ i ∉ ([2, 3, 4] : List Nat)) ∧ T_law_labels { nx := fun δ' => Q3 (.va .non) (outs δ δ'), rt := fun r δ' => Q3 r (outs δ δ') } (δ ++ List.replicate 4 E.no) := by
  rintro δ Q3 ⟨bg, size, rfl, hb, s0, s1, k⟩ hl
  refine ⟨own_by rfl, ?_⟩
  simp only [List.replicate, List.cons_append, List.nil_append]
  unfold T_law_labels
  walk_at "a"
  refine ⟨by omega, ?_⟩
  refine for_by (fun j δ => ∃ (bg' : List D) (ls : List Str) (e3 e4 : E), δ = [.ow (.l bg'), .va (.int (size : Nat)), .ow (.l (ls.map D.str)), e3, e4, .no] ∧ IsBag bg' ∧ ls.length = j ∧ ls.Nodup ∧ ∀ x ∈ ls, GoodName x) ⟨bg, [], _, _, rfl, hb, rfl, by simp, by simp⟩ (fun p hp => nomatch hp) (fun _ _ _ p hp => nomatch hp) ?_ ?_
  · rintro j y δ e ⟨bg', ls, e3, e4, rfl, hb', l1, nd, ok⟩
    obtain ⟨hj, rfl⟩ := rangeD_get e
    walk_at "a"
    refine ⟨bg', _, rfl, hb', by omega, by omega, fun bg2 d hb2 d0 d1 => ?_⟩
    walk_at "a"
    · refine ⟨bg2, _, rfl, hb2, .inl ⟨_, .inr (.inr rfl), by simp, by simp, fun bg3 x hb3 hx => ?_⟩⟩
      obtain ⟨x, gx, rfl⟩ : ∃ x' : Str, GoodName x' ∧ x = .str x' := by
        simp only [List.mem_cons, List.not_mem_nil, or_false] at hx
        rcases hx with rfl | rfl | rfl | rfl | rfl | rfl | rfl | rfl | rfl | rfl | rfl <;> exact ⟨_, good_of (by decide +kernel), rfl⟩
      walk_at "a"
      refine f_inStr gx.sok (fun y hy => (ok y hy).sok) ?_
      walk_at "a"
      · refine comp_by (fun j acc δ => ∃ xs : List Str, acc = xs.map D.str ∧ δ = [.ow (.l bg3), .va (.int (size : Nat)), .ow (.l (ls.map D.str)), .va (.int (0 + ((ls.length : Nat) : Int))), .va (.str x), .no] ∧ xs.length ≤ j ∧ (∀ x ∈ xs, GoodName x ∧ x ∉ ls) ∧ ∀ i : Nat, i < j → ∀ c, eight[i]? = some c → (⟨#[c]⟩ : Str) ∈ ls ∨ (⟨#[c]⟩ : Str) ∈ xs) ?_ rfl (fun p hp => nomatch hp) (fun _ _ _ _ p hp => nomatch hp) ?_ ?_
        · exact ⟨[], rfl, by rw [l1], by simp, by simp, fun i hi => by omega⟩
        · rintro i y acc δ e ⟨xs, rfl, rfl, xl, g, cov⟩
          obtain ⟨c, hc, rfl⟩ := map_some e
          have hc8 : c ∈ eight := List.mem_of_getElem? hc
          have gc : GoodName ⟨#[c]⟩ := good_of (eight_ok c hc8)
          have il : i < 8 := (List.getElem?_eq_some_iff.mp hc).1
          walk_at "a"
          refine f_ninStr gc.sok (fun y hy => (ok y hy).sok) ?_
          walk_at "a"
          · rename_i hin
            refine ⟨xs, rfl, rfl, by omega, g, fun m hm c' hc' => ?_⟩
            by_cases q : m < i
            · exact cov m q c' hc'
            · have : m = i := by omega
              subst this
              rw [show eight[m]? = some c from hc] at hc'
              cases hc'
              exact .inl hin
          · rename_i hin
            refine ⟨by simp; unfold sizeLine; omega, xs ++ [⟨#[c]⟩], by rw [List.map_append]; rfl, rfl, by simp; omega, fun z hz => ?_, fun m hm c' hc' => ?_⟩
            · rcases List.mem_append.mp hz with hz | hz
              · exact g z hz
              · simp at hz
                subst hz
                exact ⟨gc, hin⟩
            · by_cases q : m < i
              · exact (cov m q c' hc').elim .inl fun h => .inr (List.mem_append_left _ h)
              · have : m = i := by omega
                subst this
                rw [show eight[m]? = some c from hc] at hc'
                cases hc'
                exact .inr (List.mem_append_right _ (by simp))
        · rintro acc δ ⟨xs, rfl, rfl, xl, g, cov⟩
          obtain ⟨x', xs, rfl⟩ : ∃ a as, xs = a :: as := by
            cases xs with
            | cons a as => exact ⟨a, as, rfl⟩
            | nil =>
              exfalso
              have := nodup_sub_len (l := eight.map fun c => (⟨#[c]⟩ : Str)) (m := ls) (by decide +kernel) fun z hz => by
                obtain ⟨c, hc, rfl⟩ := List.mem_map.mp hz
                obtain ⟨m, hm, em⟩ := List.mem_iff_getElem.mp hc
                have := cov m (by rw [List.length_map]; exact hm) c (by rw [List.getElem?_eq_getElem hm, em])
                rcases this with h | h
                · exact h
                · cases h
              have h8 : (eight.map fun c => (⟨#[c]⟩ : Str)).length = 8 := by decide +kernel
              omega
          obtain ⟨gx', hx'⟩ := g x' List.mem_cons_self
          walk_at "a"
          refine f_ixL (map_at (x := x') (by decide) rfl) ?_
          walk_at "a"
          refine f_app (by rw [List.length_map]; unfold sizeLine; omega) ?_
          walk_at "a"
          refine ⟨bg3, ls ++ [x'], _, _, by rw [List.map_append]; rfl, hb3, by simp; omega, ?_, fun y hy => ?_⟩
          · refine List.nodup_append.mpr ⟨nd, by simp, fun a ha b hb z => ?_⟩
            simp at hb
            subst hb
            subst z
            exact hx' ha
          · rcases List.mem_append.mp hy with hy | hy
            · exact ok y hy
            · simp at hy
              subst hy
              exact gx'
      · rename_i hx
        refine f_app (by simp; unfold sizeLine; omega) ?_
        walk_at "a"
        refine ⟨bg3, ls ++ [x], _, _, by rw [List.map_append]; rfl, hb3, by simp; omega, ?_, fun y hy => ?_⟩
        · refine List.nodup_append.mpr ⟨nd, by simp, fun a ha b hb z => ?_⟩
          simp at hb
          subst hb
          subst z
          exact hx ha
        · rcases List.mem_append.mp hy with hy | hy
          · exact ok y hy
          · simp at hy
            subst hy
            exact gx
    · refine ⟨bg2, 3, rfl, hb2, by omega, by omega, fun bg3 d2 hb3 d20 d21 => ?_⟩
      walk_at "a"
      refine ⟨by omega, ?_⟩
      refine comp_by (fun j' acc δ => ∃ (bg4 : List D) (cs : List Nat), acc = cs.map (fun c => D.str ⟨#[c]⟩) ∧ δ = [.ow (.l bg4), .va (.int (size : Nat)), .ow (.l (ls.map D.str)), .va (.int (0 + ((ls.length : Nat) : Int))), e4, .no] ∧ IsBag bg4 ∧ cs.length = j' ∧ ∀ c ∈ cs, c ∈ letters.cps.toList) ⟨bg3, [], rfl, by rw [l1], hb3, rfl, by simp⟩ rfl (fun p hp => nomatch hp) (fun _ _ _ _ p hp => nomatch hp) ?_ ?_
      · rintro i y acc δ e ⟨bg4, cs, rfl, rfl, hb4, cl, cm⟩
        obtain ⟨hi, rfl⟩ := rangeD_get e
        walk_at "a"
        refine ⟨bg4, _, rfl, hb4, .inr ⟨_, rfl, by decide +kernel, by decide +kernel, fun bg5 c hb5 hc => ?_⟩⟩
        walk_at "a"
        refine ⟨by rw [List.length_map]; unfold sizeLine; omega, bg5, cs ++ [c], by rw [List.map_append]; rfl, rfl, hb5, by simp; omega, fun z hz => ?_⟩
        rcases List.mem_append.mp hz with hz | hz
        · exact cm z hz
        · simp at hz
          subst hz
          exact hc
      · rintro acc δ ⟨bg4, cs, rfl, rfl, hb4, cl, cm⟩
        rw [rangeD_len] at cl
        have gx := good_join (cs := cs) (by omega) (by omega) cm
        walk_at "a"
        refine ⟨cs.map fun c => (⟨#[c]⟩ : Str), .inl (by rw [List.map_map]; rfl), ?_, ?_⟩
        · have e1 : ∀ cs : List Nat, (List.map (fun x : Str => x.length) (cs.map fun c => (⟨#[c]⟩ : Str))).sum = cs.length := by
            intro cs
            induction cs with
            | nil => rfl
            | cons a r ih => simp only [List.map_cons, List.sum_cons, ih, List.length_cons]; show 1 + _ = _; omega
          rw [e1, show (Str.ofString "").length = 0 from by decide +kernel]
          omega
        generalize Txt.join (Str.ofString "") (cs.map fun c => (⟨#[c]⟩ : Str)) = x at gx ⊢
        walk_at "a"
        refine f_inStr gx.sok (fun y hy => (ok y hy).sok) ?_
        walk_at "a"
        · refine comp_by (fun j acc δ => ∃ xs : List Str, acc = xs.map D.str ∧ δ = [.ow (.l bg4), .va (.int (size : Nat)), .ow (.l (ls.map D.str)), .va (.int (0 + ((ls.length : Nat) : Int))), .va (.str x), .no] ∧ xs.length ≤ j ∧ (∀ x ∈ xs, GoodName x ∧ x ∉ ls) ∧ ∀ i : Nat, i < j → ∀ c, eight[i]? = some c → (⟨#[c]⟩ : Str) ∈ ls ∨ (⟨#[c]⟩ : Str) ∈ xs) ?_ rfl (fun p hp => nomatch hp) (fun _ _ _ _ p hp => nomatch hp) ?_ ?_
          · exact ⟨[], rfl, by rw [l1], by simp, by simp, fun i hi => by omega⟩
          · rintro i y acc δ e ⟨xs, rfl, rfl, xl, g, cov⟩
            obtain ⟨c, hc, rfl⟩ := map_some e
            have hc8 : c ∈ eight := List.mem_of_getElem? hc
            have gc : GoodName ⟨#[c]⟩ := good_of (eight_ok c hc8)
            have il : i < 8 := (List.getElem?_eq_some_iff.mp hc).1
            walk_at "a"
            refine f_ninStr gc.sok (fun y hy => (ok y hy).sok) ?_
            walk_at "a"
            · rename_i hin
              refine ⟨xs, rfl, rfl, by omega, g, fun m hm c' hc' => ?_⟩
              by_cases q : m < i
              · exact cov m q c' hc'
              · have : m = i := by omega
                subst this
                rw [show eight[m]? = some c from hc] at hc'
                cases hc'
                exact .inl hin
            · rename_i hin
              refine ⟨by simp; unfold sizeLine; omega, xs ++ [⟨#[c]⟩], by rw [List.map_append]; rfl, rfl, by simp; omega, fun z hz => ?_, fun m hm c' hc' => ?_⟩
              · rcases List.mem_append.mp hz with hz | hz
                · exact g z hz
                · simp at hz
                  subst hz
                  exact ⟨gc, hin⟩
              · by_cases q : m < i
                · exact (cov m q c' hc').elim .inl fun h => .inr (List.mem_append_left _ h)
                · have : m = i := by omega
                  subst this
                  rw [show eight[m]? = some c from hc] at hc'
                  cases hc'
                  exact .inr (List.mem_append_right _ (by simp))
          · rintro acc δ ⟨xs, rfl, rfl, xl, g, cov⟩
            obtain ⟨x', xs, rfl⟩ : ∃ a as, xs = a :: as := by
              cases xs with
              | cons a as => exact ⟨a, as, rfl⟩
              | nil =>
                exfalso
                have := nodup_sub_len (l := eight.map fun c => (⟨#[c]⟩ : Str)) (m := ls) (by decide +kernel) fun z hz => by
                  obtain ⟨c, hc, rfl⟩ := List.mem_map.mp hz
                  obtain ⟨m, hm, em⟩ := List.mem_iff_getElem.mp hc
                  have := cov m (by rw [List.length_map]; exact hm) c (by rw [List.getElem?_eq_getElem hm, em])
                  rcases this with h | h
                  · exact h
                  · cases h
                have h8 : (eight.map fun c => (⟨#[c]⟩ : Str)).length = 8 := by decide +kernel
                omega
            obtain ⟨gx', hx'⟩ := g x' List.mem_cons_self
            walk_at "a"
            refine f_ixL (map_at (x := x') (by decide) rfl) ?_
            walk_at "a"
            refine f_app (by rw [List.length_map]; unfold sizeLine; omega) ?_
            walk_at "a"
            refine ⟨bg4, ls ++ [x'], _, _, by rw [List.map_append]; rfl, hb4, by simp; omega, ?_, fun y hy => ?_⟩
            · refine List.nodup_append.mpr ⟨nd, by simp, fun a ha b hb z => ?_⟩
              simp at hb
              subst hb
              subst z
              exact hx' ha
            · rcases List.mem_append.mp hy with hy | hy
              · exact ok y hy
              · simp at hy
                subst hy
                exact gx'
        · rename_i hx
          refine f_app (by simp; unfold sizeLine; omega) ?_
          walk_at "a"
          refine ⟨bg4, ls ++ [x], _, _, by rw [List.map_append]; rfl, hb4, by simp; omega, ?_, fun y hy => ?_⟩
          · refine List.nodup_append.mpr ⟨nd, by simp, fun a ha b hb z => ?_⟩
            simp at hb
            subst hb
            subst z
            exact hx ha
          · rcases List.mem_append.mp hy with hy | hy
            · exact ok y hy
            · simp at hy
              subst hy
              exact gx
  · rintro δ ⟨bg', ls, e3, e4, rfl, hb', l1, nd, ok⟩
    rw [rangeD_len, Int.toNat_natCast] at l1
    walk_at "a"
    exact k _ _ hb' ⟨by omega, by omega, nd, ok⟩ l1

-- slots [(0, 'bag'), (1, 'size'), (2, 'mine'), (3, 'k'), (4, 'label'), (5, 'x')]; stored [2, 3, 4]

/-! ### _law_step_row -/
def T_law_step_row : DS := seq (ssetO 3 (tcomp (irng1 (tv 1)) (dName 6) (tyes) (ttup (tac (tv 6) (tac (tc (.int 1)) (ta0)))) [6])) (seq (ssetO 4 (tcomp (irng1 (tv 1)) (dName 6) (tyes) (tv 6) [6])) (seq (sfor [5, 6, 7, 8, 9] (irng1 (tv 1)) (dName 5) (sif (tt (tb2 (bF neF) (tv 4) (tlst (ta0)))) (seq (sset 6 (tlm popF1 (tv 4) (tac (tc (.int 0)) (ta0)))) (seq (sset 7 (tcall sp_law_draw [true, false] (tac (tv 0) (tac (tc (.int 8)) (ta0))))) (sif (tand (tt (tb2 (bF (iF (fun i j => decide (j < i)))) (tv 7) (tc (.int 2)))) (tt (tb2 (bF neF) (tv 4) (tlst (ta0))))) (seq (sset 8 (tlm popF1 (tv 4) (tac (tcall sp_law_draw [true, false] (tac (tv 0) (tac (tcb lenF (tac (tv 4) (ta0))) (ta0)))) (ta0)))) (seq (sset 9 (tif (tand (tt (tb2 (bF eqF) (tv 2) (tc (.int 0)))) (tt (tb2 (bF eqF) (tcall sp_law_draw [true, false] (tac (tv 0) (tac (tc (.int 4)) (ta0)))) (tc (.int 0))))) (tb2 minusF (tc (.int 0)) (tc (.int 1))) (tc (.int 1)))) (sasg (ttup (tac (ttup (tac (tv 8) (tac (tv 9) (ta0)))) (tac (ttup (tac (tv 6) (tac (tv 9) (ta0)))) (ta0)))) (dTup 2 (dCons (dSub (tv 3) (tv 6)) (dCons (dSub (tv 3) (tv 8)) (dNil))))))) (sasg (ttup (tac (tv 6) (tac (tif (tand (tt (tb2 (bF (iF (fun i j => decide (i < j)))) (tv 2) (tc (.int 2)))) (tt (tb2 (bF eqF) (tb2 modF (tcb intF (tac (tv 7) (ta0))) (tc (.int 2))) (tc (.int 1))))) (tb2 minusF (tc (.int 0)) (tc (.int 1))) (tc (.int 1))) (ta0)))) (dSub (tv 3) (tv 6)))))) (snext))) (sret [0] (tv 3))))
def row_inv (size : Nat) (mood : Int) (δ : En) : Prop := ∃ (bg' : List D) (r : Row) (free : List Int) (e5 e6 e7 e8 e9 : E), δ = [.ow (.l bg'), .va (.int (size : Nat)), .va (.int mood), .ow (.l (r.map pairD)), .ow (.l (free.map D.int)), e5, e6, e7, e8, e9] ∧ IsBag bg' ∧ GoodRow size r ∧ free.Nodup ∧ free.length ≤ 1000 ∧ ∀ z ∈ free, ∃ n : Nat, z = (n : Nat) ∧ n < size ∧ r[n]? = some ((n : Int), 1)
theorem pf_law_step_row : ∀ δ Q3, sp_law_step_row δ Q3 → δ.length = 3 → (∀ (i : Nat) c, δ[i]? = some (E.ow c) → i ∈ ([0] : List Nat) ∧ i ∉ ([3, 4, 5, 6, 7, 8, 9] : List Nat)) ∧ T_law_step_row { nx := fun δ' => Q3 (.va .non) (outs δ δ'), rt := fun r δ' => Q3 r (outs δ δ') } (δ ++ List.replicate 7 E.no) := by
  rintro δ Q3 ⟨bg, size, mood, rfl, hb, s0, s1, k⟩ hl
  refine ⟨own_by rfl, ?_⟩
  simp only [List.replicate, List.cons_append, List.nil_append]
  unfold T_law_step_row
  walk_at "a"
  refine ⟨by omega, ?_⟩
  refine comp_map (fun x => pairD ((x : Nat), 1)) rfl (fun p hp => nomatch hp) (fun p hp => nomatch hp) (fun i z e => ?_) ?_
  · obtain ⟨hi, rfl⟩ := rangeD_get e
    walk_at "a"
    exact m_end2 (by unfold sizeLine; omega) rfl (by simp [pairD])
  · rw [rangeD_len, Int.toNat_natCast]
    walk_at "a"
    refine ⟨by omega, ?_⟩
    refine comp_map (fun x => D.int (x : Nat)) rfl (fun p hp => nomatch hp) (fun p hp => nomatch hp) (fun i z e => ?_) ?_
    · obtain ⟨hi, rfl⟩ := rangeD_get e
      walk_at "a"
      exact m_end2 (by unfold sizeLine; omega) rfl (by simp)
    · rw [rangeD_len, Int.toNat_natCast]
      walk_at "a"
      refine ⟨by omega, ?_⟩
      have e1 : (List.range size).map (fun x : Nat => pairD ((x : Int), 1)) = ((List.range size).map fun x : Nat => ((x : Int), (1 : Int))).map pairD := by rw [List.map_map]; rfl
      have e2 : (List.range size).map (fun x => D.int (x : Nat)) = ((List.range size).map fun x : Nat => (x : Int)).map D.int := by rw [List.map_map]; rfl
      rw [e1, e2]
      refine for_by (fun _ δ => row_inv size mood δ)
        ⟨bg, _, _, _, _, _, _, _, rfl, hb, good_id, ?_, by simp; omega, ?_⟩ (fun p hp => nomatch hp) (fun _ _ _ p hp => nomatch hp) ?_ ?_
      · exact ints_nodup
      · intro z hz
        obtain ⟨n, hn, rfl⟩ := List.mem_map.mp hz
        have hn' := List.mem_range.mp hn
        exact ⟨n, rfl, hn', by rw [List.getElem?_map, List.getElem?_range hn']; rfl⟩
      · rintro j y δ e ⟨bg', r, free, e5, e6, e7, e8, e9, rfl, hb', g, nd, hf, fr⟩
        obtain ⟨hj, rfl⟩ := rangeD_get e
        have gl := g.len
        walk_at "a"
        refine f_neP (b := decide (free = [])) (pu_ints free) (pu_nil (n := 0)) (by omega) (by omega) nil_iff ?_
        walk_at "a"
        · exact ⟨bg', r, free, _, _, _, _, _, rfl, hb', g, nd, hf, fr⟩
        · rename_i hne
          obtain ⟨x, free', rfl⟩ : ∃ x fr, free = x :: fr := by
            cases free with
            | nil => exact absurd rfl hne
            | cons a as => exact ⟨a, as, rfl⟩
          obtain ⟨x, rfl, hx, ex⟩ := fr x List.mem_cons_self
          obtain ⟨nd1, nd2⟩ := List.nodup_cons.mp nd
          have hf' : free'.length ≤ 1000 := by simp at hf; omega
          have fin : ∀ (bg3 : List D) (s : Int) (e5 e6 e7 e8 e9 : E), IsBag bg3 → (s = 1 ∨ s = -1) → row_inv size mood [.ow (.l bg3), .va (.int (size : Nat)), .va (.int mood), .ow (.l ((r.map pairD).set x (.tup [.int (x : Nat), .int s]))), .ow (.l (free'.map D.int)), e5, e6, e7, e8, e9] := fun bg3 s e5 e6 e7 e8 e9 hb3 hs => by
            refine ⟨bg3, r.set x ((x : Int), s), free', e5, e6, e7, e8, e9, by rw [rowset], hb3, good_rim g hx ex hs, nd2, hf', fun z hz => ?_⟩
            obtain ⟨n, rfl, hn, en⟩ := fr z (List.mem_cons_of_mem _ hz)
            refine ⟨n, rfl, hn, ?_⟩
            rw [set_at (by omega), if_neg (by rintro rfl; exact nd1 hz)]
            exact en
          have fin2 : ∀ (bg3 : List D) (s : Int) (k y : Nat) (e5 e6 e7 e8 e9 : E), IsBag bg3 → (s = 1 ∨ s = -1) → free'[k]? = some (y : Int) → row_inv size mood [.ow (.l bg3), .va (.int (size : Nat)), .va (.int mood), .ow (.l (((r.map pairD).set x (.tup [.int (y : Nat), .int s])).set y (.tup [.int (x : Nat), .int s]))), .ow (.l ((free'.eraseIdx k).map D.int)), e5, e6, e7, e8, e9] := fun bg3 s k y e5 e6 e7 e8 e9 hb3 hs ek => by
            have hy := List.mem_of_getElem? ek
            obtain ⟨n, en, hn, ey⟩ := fr (y : Int) (List.mem_cons_of_mem _ hy)
            obtain rfl : y = n := by omega
            have ne : x ≠ y := by rintro rfl; exact nd1 hy
            obtain ⟨m1, m2⟩ := nodup_eraseIdx (i := k) nd2
            refine ⟨bg3, (r.set x ((y : Int), s)).set y ((x : Int), s), free'.eraseIdx k, e5, e6, e7, e8, e9, by rw [rowset, rowset], hb3, good_seam g hx hn ne ex ey hs, m1, Nat.le_trans (List.length_eraseIdx_le ..) hf', fun z hz => ?_⟩
            obtain ⟨n, rfl, hn, en⟩ := fr z (List.mem_cons_of_mem _ (mem_eraseIdx hz))
            refine ⟨n, rfl, hn, ?_⟩
            rw [set_at (by rw [List.length_set]; omega), if_neg (by rintro rfl; exact m2 _ ek hz), set_at (by omega), if_neg (by rintro rfl; exact nd1 (mem_eraseIdx hz))]
            exact en
          refine f_popI (by omega) (by simp) (by omega) ?_
          simp only [Int.toNat_zero, List.getD_cons_zero, List.eraseIdx_cons_zero]
          walk_at "a"
          refine ⟨bg', _, rfl, hb', by omega, by omega, fun bg2 pick hb2 p0 p1 => ?_⟩
          walk_at "a"
          · refine f_neP (b := decide (free' = [])) (pu_ints free') (pu_nil (n := 0)) (by omega) (by omega) nil_iff ?_
            walk_at "a"
            any_goals
              refine g_at (i := 3) rfl (ix_nat (by rw [List.length_map]; omega)) ?_
              walk_at "a"
              exact fin _ _ _ _ _ _ _ hb2 (by decide)
            rename_i hne2
            refine ⟨bg2, _, rfl, hb2, ?_, by simp; omega, fun bg3 d hb3 d0 d1 => ?_⟩
            · have : free'.length ≠ 0 := fun z => hne2 (List.eq_nil_of_length_eq_zero z)
              simp; omega
            rw [List.length_map] at d1
            walk_at "a"
            refine f_popI d0 d1 (by omega) ?_
            have hd : d.toNat < free'.length := by omega
            have ed : free'[d.toNat]? = some free'[d.toNat] := List.getElem?_eq_getElem hd
            obtain ⟨y, ey, hy, _⟩ := fr free'[d.toNat] (List.mem_cons_of_mem _ (List.getElem_mem hd))
            have eg : free'.getD d.toNat 0 = (y : Int) := by rw [List.getD_eq_getElem?_getD, ed]; exact ey
            rw [ey] at ed
            rw [eg]
            walk_at "a"
            · refine ⟨bg3, _, rfl, hb3, by omega, by omega, fun bg4 d4 hb4 d40 d41 => ?_⟩
              walk_at "a"
              all_goals
                refine g_at (i := 3) rfl (ix_nat (by rw [List.length_map]; omega)) ?_
                walk_at "a"
                refine g_at (i := 3) rfl (ix_nat (by rw [List.length_set, List.length_map]; omega)) ?_
                walk_at "a"
                exact fin2 _ _ _ _ _ _ _ _ _ hb4 (by decide) ed
            · refine g_at (i := 3) rfl (ix_nat (by rw [List.length_map]; omega)) ?_
              walk_at "a"
              refine g_at (i := 3) rfl (ix_nat (by rw [List.length_set, List.length_map]; omega)) ?_
              walk_at "a"
              exact fin2 _ _ _ _ _ _ _ _ _ hb3 (by decide) ed
          all_goals
            refine g_at (i := 3) rfl (ix_nat (by rw [List.length_map]; omega)) ?_
            walk_at "a"
            exact fin _ _ _ _ _ _ _ hb2 (by decide)
      · rintro δ ⟨bg', r, free, e5, e6, e7, e8, e9, rfl, hb', g, nd, hf, fr⟩
        walk_at "a"
        exact k _ _ hb' g

-- slots [(0, 'bag'), (1, 'size'), (2, 'mood'), (3, 'mine'), (4, 'free'), (5, 'lap'), (6, 'x'), (7, 'pick'), (8, 'y'), (9, 'sign')]; stored [3, 4, 5, 6, 7, 8, 9]

/-! ### _law_net -/
def T_law_net : DS := seq (sset 3 (tcall sp_law_of [true, true] (tac (tv 0) (tac (tlst (tac (tc (.int 0)) (tac (tc (.int 0)) (tac (tc (.int 1)) (tac (tc (.int 2)) (tac (tc (.int 0)) (ta0))))))) (ta0))))) (sret [0] (tcomp (irng1 (tv 1)) (dName 4) (tyes) (tcall sp_law_step_row [true, false, false] (tac (tv 0) (tac (tv 2) (tac (tv 3) (ta0))))) [4]))
theorem pf_law_net : ∀ δ Q3, sp_law_net δ Q3 → δ.length = 3 → (∀ (i : Nat) c, δ[i]? = some (E.ow c) → i ∈ ([0] : List Nat) ∧ i ∉ ([3] : List Nat)) ∧ T_law_net { nx := fun δ' => Q3 (.va .non) (outs δ δ'), rt := fun r δ' => Q3 r (outs δ δ') } (δ ++ List.replicate 2 E.no) := by
  rintro δ Q3 ⟨bg, many, size, rfl, hb, m0, m1, s0, s1, k⟩ hl
  refine ⟨own_by rfl, ?_⟩
  simp only [List.replicate, List.cons_append, List.nil_append]
  unfold T_law_net
  walk_at "a"
  refine ⟨bg, _, rfl, hb, .inl ⟨_, .inr (.inr rfl), by decide, by decide, fun bg2 x hb2 hx => ?_⟩⟩
  obtain ⟨mood, rfl⟩ : ∃ m : Int, x = .int m := by
    simp only [List.mem_cons, List.not_mem_nil, or_false] at hx
    rcases hx with rfl | rfl | rfl | rfl | rfl <;> exact ⟨_, rfl⟩
  walk_at "a"
  refine ⟨by omega, ?_⟩
  refine comp_by (fun j acc δ => ∃ (bg' : List D) (net : Net), IsBag bg' ∧ δ = [.ow (.l bg'), .va (.int (many : Nat)), .va (.int (size : Nat)), .va (.int mood), .no] ∧ acc = net.map rowD ∧ net.length = j ∧ ∀ r ∈ net, GoodRow size r)
    ⟨bg2, [], hb2, rfl, rfl, rfl, fun r hr => by cases hr⟩ rfl (fun p hp => nomatch hp) (fun _ _ _ _ p hp => nomatch hp) ?_ ?_
  · rintro j y acc δ e ⟨bg', net, hb', rfl, rfl, l1, g⟩
    obtain ⟨hj, rfl⟩ := rangeD_get e
    walk_at "a"
    refine ⟨bg', size, mood, rfl, hb', s0, s1, fun bg3 r hb3 gr => ?_⟩
    walk_at "a"
    refine ⟨by simp; unfold sizeLine; omega, bg3, net ++ [r], hb3, rfl, by rw [List.map_append]; rfl, by simp; omega, fun r' hr' => ?_⟩
    rcases List.mem_append.mp hr' with h | h
    · exact g r' h
    · simp at h
      subst h
      exact gr
  · rintro acc δ ⟨bg', net, hb', rfl, rfl, l1, g⟩
    rw [rangeD_len, Int.toNat_natCast] at l1
    walk_at "a"
    exact k _ _ hb' ⟨l1, m0, by omega, s0, s1, g⟩

-- slots [(0, 'bag'), (1, 'many_sides'), (2, 'size'), (3, 'mood'), (4, 'k')]; stored [3]

/-! ### _law_named_net -/
def T_law_named_net : DS := seq (ssetO 2 (tlst (ta0))) (seq (sfor [3, 4, 5] (ilist (tv 0)) (dName 3) (seq (ssetO 4 (tcomp (ilist (tv 1)) (dName 5) (tyes) (ttup (tac (tv 5) (tac (tc (.int 1)) (ta0)))) [5])) (seq (sfor [5] (irng1 (tcb lenF (tac (tv 1) (ta0)))) (dName 5) (sasg (ttup (tac (tb2 ixF (tv 1) (tb2 ixF (tb2 ixF (tv 3) (tv 5)) (tc (.int 0)))) (tac (tb2 ixF (tb2 ixF (tv 3) (tv 5)) (tc (.int 1))) (ta0)))) (dSub (tv 4) (tb2 ixF (tv 1) (tv 5))))) (sexpr (tlm appF (tv 2) (tac (tvz 4) (ta0))))))) (sret [1] (tv 2)))
theorem pf_law_named_net : ∀ δ Q3, sp_law_named_net δ Q3 → δ.length = 2 → (∀ (i : Nat) c, δ[i]? = some (E.ow c) → i ∈ ([1] : List Nat) ∧ i ∉ ([2, 3, 4, 5] : List Nat)) ∧ T_law_named_net { nx := fun δ' => Q3 (.va .non) (outs δ δ'), rt := fun r δ' => Q3 r (outs δ δ') } (δ ++ List.replicate 4 E.no) := by
  rintro δ Q3 ⟨many, size, net, e0, ns, rfl, he, h, hn, k⟩ hl
  have m1 := h.m1
  have s1 := h.s1
  have hlen := h.len
  have nl := hn.len
  rcases he with rfl | rfl
  · refine ⟨own_by rfl, ?_⟩
    simp only [List.replicate, List.cons_append, List.nil_append]
    unfold T_law_named_net
    rw [netD_eq]
    walk_at "a"
    refine for_by (fun j δ => ∃ e3 e4 e5, NoO e5 ∧ δ = [.va (.lst (net.map rowD)), .va (.lst (ns.map D.int)), .ow (.l (((namedN ns net).take j).map rowD)), e3, e4, e5]) ⟨_, _, _, noO_no, rfl⟩ (by simp) (by rintro k δ ⟨e3, e4, e5, ne, rfl⟩ p hp; simp at hp) ?_ ?_
    · rintro j y δ e ⟨e3, e4, e5, ne, rfl⟩
      obtain ⟨r, hr, rfl⟩ := map_some e
      have hj := (List.getElem?_eq_some_iff.mp hr).1
      have g := h.row r (List.mem_of_getElem? hr)
      have gl := g.len
      walk_at "a"
      have init : (List.range (ns.map D.int).length).map (fun x => pairD (ns.getD x 0, 1)) = ((ns.map fun x => (x, (1 : Int)))).map pairD := by
        rw [List.length_map, map_range_getD (f := fun x => pairD (x, 1)), List.map_map]
        rfl
      refine comp_map (fun x => pairD (ns.getD x 0, 1)) (by cases e5 <;> first | rfl | exact absurd rfl (ne _)) (by simp) (by simp) (fun i z e => ?_) ?_
      · obtain ⟨c, hc, rfl⟩ := map_some e
        have hi := (List.getElem?_eq_some_iff.mp hc).1
        walk_at "a"
        refine m_end2 (by unfold sizeLine; omega) rfl ?_
        rw [List.getD_eq_getElem?_getD, hc]
        rfl
      · rw [init]
        walk_at "a"
        refine ⟨by simp; omega, ?_⟩
        refine for_by (fun i δ => ∃ (acc : Row) (e5 : E), NamedTo size ns r i acc ∧ NoO e5 ∧ δ = [.va (.lst (net.map rowD)), .va (.lst (ns.map D.int)), .ow (.l (((namedN ns net).take j).map rowD)), .va (rowD r), .ow (.l (acc.map pairD)), e5]) ⟨ns.map fun x => (x, (1 : Int)), _, ⟨by simp [nl], fun x i p hx => by omega⟩, ne, rfl⟩ (fun p hp => nomatch hp) (fun _ _ _ p hp => nomatch hp) ?_ ?_
        · rintro i y δ e ⟨acc, e5, na, ne, rfl⟩
          obtain ⟨hi, rfl⟩ := rangeD_get e
          rw [List.length_map, Int.toNat_natCast] at hi
          obtain ⟨y, s, e1, hy, hsg, e2⟩ := g.ok i (by omega)
          obtain ⟨v, ev, hv, dv⟩ := hn.get (x := i) (by omega)
          obtain ⟨w, ew, hw, dw⟩ := hn.get hy
          have al := na.1
          have at2 : L2.atI (r.map pairD) (i : Int) = some (pairD ((y : Int), s)) := map_at (by omega) (by rw [Int.toNat_natCast]; exact e1)
          rw [Int.zero_add, rowD_eq r]
          walk_at "a"
          refine f_ixL at2 ?_
          rw [show pairD ((y : Int), s) = .tup [.int (y : Int), .int s] from rfl]
          walk_at "a"
          try refine f_ixL (map_at (f := D.int) (by omega) (by rw [Int.toNat_natCast]; exact ew)) ?_
          walk_at "a"
          refine f_ixL at2 ?_
          rw [show pairD ((y : Int), s) = .tup [.int (y : Int), .int s] from rfl]
          walk_at "a"
          try refine f_ixL (map_at (f := D.int) (by omega) (by rw [Int.toNat_natCast]; exact ev)) ?_
          walk_at "a"
          simp only [Int.toNat_natCast, dv, dw]
          refine g_at (i := 4) rfl (ix_nat (by rw [List.length_map]; omega)) ?_
          walk_at "a"
          have st := na.step hn ev e1
          have e5 : namedP ns ((y : Int), s) = ((w : Int), s) := by unfold namedP; rw [Int.toNat_natCast, dw]
          rw [e5] at st
          exact ⟨acc.set v ((w : Int), s), .va (.int (i : Nat)), st, noO_va, by rw [rowset]⟩
        · rintro δ ⟨acc, e5, na, ne, rfl⟩
          rw [rangeD_len, List.length_map, Int.toNat_natCast, nl] at na
          obtain rfl := na.done hn gl
          walk_at "a"
          refine f_app (by simp; unfold sizeLine; omega) ?_
          walk_at "a"
          have er : (namedN ns net)[j]? = some (namedR ns r) := by unfold namedN; rw [List.getElem?_map, hr]; rfl
          rw [List.take_add_one, er, Option.toList_some, List.map_append]
          exact ⟨_, _, _, ne, rfl⟩
    · rintro δ ⟨e3, e4, e5, ne, rfl⟩
      have gn := good_namedN hn h
      rw [List.length_map, List.take_of_length_le (by rw [gn.len]; omega)]
      walk_at "a"
      exact k
  · refine ⟨own_by rfl, ?_⟩
    simp only [List.replicate, List.cons_append, List.nil_append]
    unfold T_law_named_net
    rw [netD_eq]
    walk_at "a"
    refine for_by (fun j δ => ∃ e3 e4 e5, NoO e5 ∧ δ = [.va (.lst (net.map rowD)), .ow (.l (ns.map D.int)), .ow (.l (((namedN ns net).take j).map rowD)), e3, e4, e5]) ⟨_, _, _, noO_no, rfl⟩ (by simp) (by rintro k δ ⟨e3, e4, e5, ne, rfl⟩ p hp; simp at hp) ?_ ?_
    · rintro j y δ e ⟨e3, e4, e5, ne, rfl⟩
      obtain ⟨r, hr, rfl⟩ := map_some e
      have hj := (List.getElem?_eq_some_iff.mp hr).1
      have g := h.row r (List.mem_of_getElem? hr)
      have gl := g.len
      walk_at "a"
      have init : (List.range (ns.map D.int).length).map (fun x => pairD (ns.getD x 0, 1)) = ((ns.map fun x => (x, (1 : Int)))).map pairD := by
        rw [List.length_map, map_range_getD (f := fun x => pairD (x, 1)), List.map_map]
        rfl
      refine comp_map (fun x => pairD (ns.getD x 0, 1)) (by cases e5 <;> first | rfl | exact absurd rfl (ne _)) (by simp) (by simp) (fun i z e => ?_) ?_
      · obtain ⟨c, hc, rfl⟩ := map_some e
        have hi := (List.getElem?_eq_some_iff.mp hc).1
        walk_at "a"
        refine m_end2 (by unfold sizeLine; omega) rfl ?_
        rw [List.getD_eq_getElem?_getD, hc]
        rfl
      · rw [init]
        walk_at "a"
        refine ⟨by simp; omega, ?_⟩
        refine for_by (fun i δ => ∃ (acc : Row) (e5 : E), NamedTo size ns r i acc ∧ NoO e5 ∧ δ = [.va (.lst (net.map rowD)), .ow (.l (ns.map D.int)), .ow (.l (((namedN ns net).take j).map rowD)), .va (rowD r), .ow (.l (acc.map pairD)), e5]) ⟨ns.map fun x => (x, (1 : Int)), _, ⟨by simp [nl], fun x i p hx => by omega⟩, ne, rfl⟩ (fun p hp => nomatch hp) (fun _ _ _ p hp => nomatch hp) ?_ ?_
        · rintro i y δ e ⟨acc, e5, na, ne, rfl⟩
          obtain ⟨hi, rfl⟩ := rangeD_get e
          rw [List.length_map, Int.toNat_natCast] at hi
          obtain ⟨y, s, e1, hy, hsg, e2⟩ := g.ok i (by omega)
          obtain ⟨v, ev, hv, dv⟩ := hn.get (x := i) (by omega)
          obtain ⟨w, ew, hw, dw⟩ := hn.get hy
          have al := na.1
          have at2 : L2.atI (r.map pairD) (i : Int) = some (pairD ((y : Int), s)) := map_at (by omega) (by rw [Int.toNat_natCast]; exact e1)
          rw [Int.zero_add, rowD_eq r]
          walk_at "a"
          refine f_ixL at2 ?_
          rw [show pairD ((y : Int), s) = .tup [.int (y : Int), .int s] from rfl]
          walk_at "a"
          try refine f_ixL (map_at (f := D.int) (by omega) (by rw [Int.toNat_natCast]; exact ew)) ?_
          walk_at "a"
          refine f_ixL at2 ?_
          rw [show pairD ((y : Int), s) = .tup [.int (y : Int), .int s] from rfl]
          walk_at "a"
          try refine f_ixL (map_at (f := D.int) (by omega) (by rw [Int.toNat_natCast]; exact ev)) ?_
          walk_at "a"
          simp only [Int.toNat_natCast, dv, dw]
          refine g_at (i := 4) rfl (ix_nat (by rw [List.length_map]; omega)) ?_
          walk_at "a"
          have st := na.step hn ev e1
          have e5 : namedP ns ((y : Int), s) = ((w : Int), s) := by unfold namedP; rw [Int.toNat_natCast, dw]
          rw [e5] at st
          exact ⟨acc.set v ((w : Int), s), .va (.int (i : Nat)), st, noO_va, by rw [rowset]⟩
        · rintro δ ⟨acc, e5, na, ne, rfl⟩
          rw [rangeD_len, List.length_map, Int.toNat_natCast, nl] at na
          obtain rfl := na.done hn gl
          walk_at "a"
          refine f_app (by simp; unfold sizeLine; omega) ?_
          walk_at "a"
          have er : (namedN ns net)[j]? = some (namedR ns r) := by unfold namedN; rw [List.getElem?_map, hr]; rfl
          rw [List.take_add_one, er, Option.toList_some, List.map_append]
          exact ⟨_, _, _, ne, rfl⟩
    · rintro δ ⟨e3, e4, e5, ne, rfl⟩
      have gn := good_namedN hn h
      rw [List.length_map, List.take_of_length_le (by rw [gn.len]; omega)]
      walk_at "a"
      exact k

-- slots [(0, 'net'), (1, 'names'), (2, 'mine'), (3, 'moves'), (4, 'here'), (5, 'x')]; stored [2, 3, 4, 5]

/-! ### _law_order -/
def T_law_order : DS := seq (ssetO 2 (tcomp (irng1 (tv 1)) (dName 3) (tyes) (tv 3) [3])) (sret [0] (tcomp (irng1 (tv 1)) (dName 4) (tyes) (tlm popF1 (tv 2) (tac (tcall sp_law_draw [true, false] (tac (tv 0) (tac (tcb lenF (tac (tv 2) (ta0))) (ta0)))) (ta0))) [4]))
theorem pf_law_order : ∀ δ Q3, sp_law_order δ Q3 → δ.length = 2 → (∀ (i : Nat) c, δ[i]? = some (E.ow c) → i ∈ ([0] : List Nat) ∧ i ∉ ([2] : List Nat)) ∧ T_law_order { nx := fun δ' => Q3 (.va .non) (outs δ δ'), rt := fun r δ' => Q3 r (outs δ δ') } (δ ++ List.replicate 3 E.no) := by
  rintro δ Q3 ⟨bg, size, rfl, hb, s0, s1, k⟩ hl
  refine ⟨own_by rfl, ?_⟩
  simp only [List.replicate, List.cons_append, List.nil_append]
  unfold T_law_order
  walk_at "a"
  refine ⟨by omega, ?_⟩
  refine comp_map (fun x => D.int (x : Nat)) rfl (fun p hp => nomatch hp) (fun p hp => nomatch hp) (fun i z e => ?_) ?_
  · obtain ⟨hi, rfl⟩ := rangeD_get e
    walk_at "a"
    exact m_end2 (by unfold sizeLine; omega) rfl (by simp)
  · rw [rangeD_len, Int.toNat_natCast]
    walk_at "a"
    refine ⟨by omega, ?_⟩
    have e2 : (List.range size).map (fun x => D.int (x : Nat)) = ((List.range size).map fun x : Nat => (x : Int)).map D.int := by rw [List.map_map]; rfl
    rw [e2]
    refine comp_by (fun j acc δ => ∃ (bg' : List D) (rest ns : List Int), IsBag bg' ∧ δ = [.ow (.l bg'), .va (.int (size : Nat)), .ow (.l (rest.map D.int)), .no, .no] ∧ acc = ns.map D.int ∧ ns.length = j ∧ rest.length + j = size ∧ ns.Nodup ∧ rest.Nodup ∧ (∀ x ∈ ns, x ∉ rest) ∧ ∀ x, x ∈ ns ∨ x ∈ rest → 0 ≤ x ∧ x < (size : Int))
      ⟨bg, _, [], hb, rfl, rfl, rfl, by simp, by simp, ?_, by simp, ?_⟩ rfl (fun p hp => nomatch hp) (fun _ _ _ _ p hp => nomatch hp) ?_ ?_
    · exact ints_nodup
    · intro x hx
      rcases hx with hx | hx
      · cases hx
      · obtain ⟨n, hn, rfl⟩ := List.mem_map.mp hx
        have := List.mem_range.mp hn
        omega
    · rintro j y acc δ e ⟨bg', rest, ns, hb', rfl, rfl, l1, l2, n1, n2, dj, bd⟩
      obtain ⟨hj, rfl⟩ := rangeD_get e
      walk_at "a"
      refine ⟨bg', _, rfl, hb', by simp; omega, by simp; omega, fun bg2 d hb2 d0 d1 => ?_⟩
      rw [List.length_map] at d1
      walk_at "a"
      refine f_popI d0 d1 (by omega) ?_
      walk_at "a"
      have hd : d.toNat < rest.length := by omega
      have ed : rest[d.toNat]? = some rest[d.toNat] := List.getElem?_eq_getElem hd
      have eg : rest.getD d.toNat 0 = rest[d.toNat] := by rw [List.getD_eq_getElem?_getD, ed]; rfl
      obtain ⟨m1, m2⟩ := nodup_eraseIdx (i := d.toNat) n2
      have hm := List.getElem_mem hd
      refine ⟨by simp; unfold sizeLine; omega, bg2, rest.eraseIdx d.toNat, ns ++ [rest[d.toNat]], hb2, rfl, by rw [List.map_append, eg]; rfl, by simp; omega, ?_, ?_, m1, ?_, ?_⟩
      · rw [List.length_eraseIdx_of_lt hd]; omega
      · refine List.nodup_append.mpr ⟨n1, by simp, fun a ha b hb3 => ?_⟩
        simp at hb3
        subst hb3
        rintro rfl
        exact dj _ ha hm
      · intro x hx
        rcases List.mem_append.mp hx with hx | hx
        · exact fun z => dj x hx (mem_eraseIdx z)
        · simp at hx
          subst hx
          exact m2 _ ed
      · intro x hx
        rcases hx with hx | hx
        · rcases List.mem_append.mp hx with hx | hx
          · exact bd x (.inl hx)
          · simp at hx
            subst hx
            exact bd _ (.inr hm)
        · exact bd x (.inr (mem_eraseIdx hx))
    · rintro acc δ ⟨bg', rest, ns, hb', rfl, rfl, l1, l2, n1, n2, dj, bd⟩
      rw [rangeD_len, Int.toNat_natCast] at l1
      walk_at "a"
      exact k _ _ hb' ⟨l1, n1, fun x hx => bd x (.inl hx)⟩

-- slots [(0, 'bag'), (1, 'size'), (2, 'rest'), (3, 'x'), (4, 'k')]; stored [2]

/-! ### _law_scattered -/
def T_law_scattered : DS := sret [0] (tcall sp_law_named_net [false, true] (tac (tv 1) (tac (tcall sp_law_order [true, false] (tac (tv 0) (tac (tcb lenF (tac (tb2 ixF (tv 1) (tc (.int 0))) (ta0))) (ta0)))) (ta0))))
theorem pf_law_scattered : ∀ δ Q3, sp_law_scattered δ Q3 → δ.length = 2 → (∀ (i : Nat) c, δ[i]? = some (E.ow c) → i ∈ ([0] : List Nat) ∧ i ∉ ([] : List Nat)) ∧ T_law_scattered { nx := fun δ' => Q3 (.va .non) (outs δ δ'), rt := fun r δ' => Q3 r (outs δ δ') } (δ ++ List.replicate 0 E.no) := by
  rintro δ Q3 ⟨bg, many, size, net, rfl, hb, hg, k⟩ hn
  obtain ⟨r0, hr0, gr0⟩ := hg.get hg.m0
  have s0 := hg.s0
  have s1 := hg.s1
  refine ⟨own_by rfl, ?_⟩
  simp only [List.replicate, List.cons_append, List.nil_append]
  unfold T_law_scattered
  rw [netD_eq net]
  walk_at "a"
  refine f_ixL (map_at (by omega) hr0) ?_
  rw [rowD_eq r0]
  walk_at "a"
  rw [List.length_map, gr0.len]
  refine ⟨bg, size, rfl, hb, s0, s1, fun bg1 names hb1 hnm => ?_⟩
  walk_at "a"
  refine ⟨many, size, net, _, names, rfl, .inr rfl, hg, hnm, ?_⟩
  walk_at "a"
  exact k _ _ hb1 (good_namedN hnm hg)

-- slots [(0, 'bag'), (1, 'net')]; stored []

/-! ### _law_beside -/
def T_law_beside : DS := seq (sset 2 (tcb lenF (tac (tb2 ixF (tv 0) (tc (.int 0))) (ta0)))) (sret [] (tcomp (irng1 (tcb lenF (tac (tv 0) (ta0)))) (dName 3) (tyes) (tb2 plusF (tcb listF (tac (tb2 ixF (tv 0) (tv 3)) (ta0))) (tcomp (ilist (tb2 ixF (tv 1) (tv 3))) (dName 4) (tyes) (ttup (tac (tb2 plusF (tb2 ixF (tv 4) (tc (.int 0))) (tv 2)) (tac (tb2 ixF (tv 4) (tc (.int 1))) (ta0)))) [4])) [3]))
theorem pf_law_beside : ∀ δ Q3, sp_law_beside δ Q3 → δ.length = 2 → (∀ (i : Nat) c, δ[i]? = some (E.ow c) → i ∈ ([] : List Nat) ∧ i ∉ ([2] : List Nat)) ∧ T_law_beside { nx := fun δ' => Q3 (.va .non) (outs δ δ'), rt := fun r δ' => Q3 r (outs δ δ') } (δ ++ List.replicate 3 E.no) := by
  rintro δ Q3 ⟨many, s1, s3, a, c, rfl, ga, gc, h13, k⟩ hn
  obtain ⟨r0, hr0, g0⟩ := ga.get ga.m0
  refine ⟨own_by rfl, ?_⟩
  simp only [List.replicate, List.cons_append, List.nil_append]
  unfold T_law_beside
  rw [netD_eq]
  walk_at "a"
  refine f_ixL (map_at (by omega) hr0) ?_
  rw [rowD_eq r0]
  walk_at "a"
  have m1 := ga.m1
  rw [List.length_map, List.length_map, ga.len, g0.len]
  refine ⟨by omega, ?_⟩
  refine comp_map (fun k => rowD (a.getD k [] ++ shiftR s1 (c.getD k []))) rfl (fun p hp => nomatch hp) (fun p hp => nomatch hp) (fun j y e => ?_) ?_
  · obtain ⟨hj, rfl⟩ := rangeD_get e
    rw [Int.toNat_natCast] at hj
    obtain ⟨r1, f1, g1⟩ := ga.get hj
    obtain ⟨r2, f2, g2⟩ := gc.get hj
    have l1 := g1.len
    have l2 := g2.len
    rw [Int.zero_add]
    walk_at "a"
    refine f_ixL (map_at (Int.natCast_nonneg _) f1) ?_
    rw [rowD_eq r1]
    walk_at "a"
    rw [netD_eq]
    refine f_ixL (map_at (Int.natCast_nonneg _) f2) ?_
    rw [rowD_eq r2]
    walk_at "a"
    refine comp_map (fun i => pairD ((shiftR s1 r2).getD i (0, 0))) rfl (fun p hp => nomatch hp) (fun p hp => nomatch hp) (fun i y e => ?_) ?_
    · obtain ⟨q, hq, rfl⟩ := map_some e
      have hi := (List.getElem?_eq_some_iff.mp hq).1
      unfold pairD
      walk_at "a"
      refine m_end2 (by unfold sizeLine; omega) rfl ?_
      rw [List.getD_eq_getElem?_getD, shiftR_get hq]
      rfl
    · have e2 : (List.range r2.length).map (fun i => pairD ((shiftR s1 r2).getD i (0, 0))) = (shiftR s1 r2).map pairD := by
        rw [show r2.length = (shiftR s1 r2).length by simp [shiftR], map_range_getD]
      rw [List.length_map, e2]
      walk_at "a"
      refine f_plusL (by rw [List.length_map, List.length_map, l1]; unfold shiftR sizeLine; rw [List.length_map, l2]; omega) ?_
      rw [← List.map_append]
      walk_at "a"
      refine m_end2 (by unfold sizeLine; omega) rfl ?_
      rw [List.getD_eq_getElem?_getD, List.getD_eq_getElem?_getD, f1, f2]
      rfl
  · have e2 : (List.range many).map (fun k => rowD (a.getD k [] ++ shiftR s1 (c.getD k []))) = (besideN s1 a c).map rowD := by
      unfold besideN
      rw [List.map_map, ga.len]
      rfl
    rw [rangeD_len, Int.toNat_natCast, e2]
    walk_at "a"
    exact k

-- slots [(0, 'left'), (1, 'right'), (2, 'size'), (3, 'k'), (4, 'x')]; stored [2]

/-! ### _law_many_parts -/
def T_law_many_parts : DS := seq (sset 3 (tcall sp_law_net [true, false, false] (tac (tv 0) (tac (tv 1) (tac (tif (ttru (tv 2)) (tc (.int 16)) (tcall sp_law_of [true, true] (tac (tv 0) (tac (tlst (tac (tc (.int 2)) (tac (tc (.int 3)) (tac (tc (.int 1)) (tac (tc (.int 4)) (ta0)))))) (ta0))))) (ta0)))))) (seq (sfor [3, 4] (irng1 (tif (ttru (tv 2)) (tc (.int 2)) (tcall sp_law_draw [true, false] (tac (tv 0) (tac (tc (.int 4)) (ta0)))))) (dName 4) (sset 3 (tcall sp_law_beside [false, false] (tac (tv 3) (tac (tcall sp_law_net [true, false, false] (tac (tv 0) (tac (tv 1) (tac (tif (ttru (tv 2)) (tc (.int 16)) (tcall sp_law_of [true, true] (tac (tv 0) (tac (tlst (tac (tc (.int 2)) (tac (tc (.int 1)) (tac (tc (.int 3)) (tac (tc (.int 4)) (tac (tc (.int 1)) (ta0))))))) (ta0))))) (ta0))))) (ta0)))))) (sret [0] (tcall sp_law_scattered [true, false] (tac (tv 0) (tac (tv 3) (ta0))))))
theorem pf_law_many_parts : ∀ δ Q3, sp_law_many_parts δ Q3 → δ.length = 3 → (∀ (i : Nat) c, δ[i]? = some (E.ow c) → i ∈ ([0] : List Nat) ∧ i ∉ ([3, 4] : List Nat)) ∧ T_law_many_parts { nx := fun δ' => Q3 (.va .non) (outs δ δ'), rt := fun r δ' => Q3 r (outs δ δ') } (δ ++ List.replicate 2 E.no) := by
  rintro δ Q3 ⟨bg, many, dear, rfl, hb, m0, m1, k⟩ hn
  refine ⟨own_by rfl, ?_⟩
  simp only [List.replicate, List.cons_append, List.nil_append]
  unfold T_law_many_parts
  cases dear with
  | true =>
    walk_at "a"
    walk_at "x"
    refine ⟨bg, many, 16, rfl, hb, m0, m1, by omega, by omega, fun bg1 net hb1 hg => ?_⟩
    walk_at "a"
    walk_at "x"
    refine ⟨by omega, ?_⟩
    refine for_by (fun j δ => ∃ (bg : List D) (size : Nat) (net : Net) (e4 : E), δ = [.ow (.l bg), .va (.int (many : Nat)), .va (.bl true), .va (netD net), e4] ∧ IsBag bg ∧ GoodNet many size net ∧ size ≤ 16 + 16 * j) ⟨bg1, 16, net, _, rfl, hb1, hg, by omega⟩ (fun p hp => nomatch hp) (fun _ _ _ p hp => nomatch hp) ?_ ?_
    · rintro j y δ e ⟨bg2, size, net, e4, rfl, hb2, hg, hsz⟩
      obtain ⟨hj, rfl⟩ := rangeD_get e
      have hj2 : j < 2 := hj
      walk_at "a"
      walk_at "x"
      refine ⟨bg2, many, 16, rfl, hb2, m0, m1, by omega, by omega, fun bg3 net3 hb3 hg3 => ?_⟩
      walk_at "a"
      refine ⟨many, size, 16, net, net3, rfl, hg, hg3, by omega, ?_⟩
      walk_at "a"
      exact ⟨bg3, size + 16, _, _, rfl, hb3, good_besideN hg hg3 (by omega), by omega⟩
    · rintro δ ⟨bg2, size, net, e4, rfl, hb2, hg, hsz⟩
      have hsz : size ≤ 16 + 16 * 2 := hsz
      walk_at "a"
      refine ⟨bg2, many, size, net, rfl, hb2, hg, fun bg3 net3 hb3 hg3 => ?_⟩
      walk_at "a"
      exact k _ size net3 hb3 (by omega) hg3
  | false =>
    walk_at "a"
    walk_at "x"
    refine ⟨bg, _, rfl, hb, .inl ⟨_, .inr (.inr rfl), by simp, by simp, fun bg4 x hb4 hx => ?_⟩⟩
    have hx' : ∃ q : Nat, x = .int q ∧ 0 < q ∧ q ≤ 4 := by
      simp only [List.mem_cons, List.not_mem_nil, or_false] at hx
      rcases hx with rfl | rfl | rfl | rfl
      · exact ⟨2, rfl, by omega, by omega⟩
      · exact ⟨3, rfl, by omega, by omega⟩
      · exact ⟨1, rfl, by omega, by omega⟩
      · exact ⟨4, rfl, by omega, by omega⟩
    obtain ⟨q, rfl, q0, q1⟩ := hx'
    walk_at "a"
    refine ⟨bg4, many, q, rfl, hb4, m0, m1, q0, by omega, fun bg1 net hb1 hg => ?_⟩
    walk_at "a"
    walk_at "x"
    refine ⟨bg1, 4, rfl, hb1, by omega, by omega, fun bg5 d hb5 d0 d1 => ?_⟩
    walk_at "a"
    refine ⟨by omega, ?_⟩
    refine for_by (fun j δ => ∃ (bg : List D) (size : Nat) (net : Net) (e4 : E), δ = [.ow (.l bg), .va (.int (many : Nat)), .va (.bl false), .va (netD net), e4] ∧ IsBag bg ∧ GoodNet many size net ∧ size ≤ 4 + 4 * j) ⟨bg5, q, net, _, rfl, hb5, hg, by omega⟩ (fun p hp => nomatch hp) (fun _ _ _ p hp => nomatch hp) ?_ ?_
    · rintro j y δ e ⟨bg2, size, net, e4, rfl, hb2, hg, hsz⟩
      obtain ⟨hj, rfl⟩ := rangeD_get e
      have hj2 : j < 4 := by omega
      walk_at "a"
      walk_at "x"
      refine ⟨bg2, _, rfl, hb2, .inl ⟨_, .inr (.inr rfl), by simp, by simp, fun bg4 x hb4 hx => ?_⟩⟩
      have hx' : ∃ q : Nat, x = .int q ∧ 0 < q ∧ q ≤ 4 := by
        simp only [List.mem_cons, List.not_mem_nil, or_false] at hx
        rcases hx with rfl | rfl | rfl | rfl | rfl
        · exact ⟨2, rfl, by omega, by omega⟩
        · exact ⟨1, rfl, by omega, by omega⟩
        · exact ⟨3, rfl, by omega, by omega⟩
        · exact ⟨4, rfl, by omega, by omega⟩
        · exact ⟨1, rfl, by omega, by omega⟩
      obtain ⟨q, rfl, q0, q1⟩ := hx'
      walk_at "a"
      refine ⟨bg4, many, q, rfl, hb4, m0, m1, q0, by omega, fun bg3 net3 hb3 hg3 => ?_⟩
      walk_at "a"
      refine ⟨many, size, q, net, net3, rfl, hg, hg3, by omega, ?_⟩
      walk_at "a"
      exact ⟨bg3, size + q, _, _, rfl, hb3, good_besideN hg hg3 (by omega), by omega⟩
    · rintro δ ⟨bg2, size, net, e4, rfl, hb2, hg, hsz⟩
      rw [rangeD_len] at hsz
      have hsz : size ≤ 4 + 4 * 4 := by omega
      walk_at "a"
      refine ⟨bg2, many, size, net, rfl, hb2, hg, fun bg3 net3 hb3 hg3 => ?_⟩
      walk_at "a"
      exact k _ size net3 hb3 (by omega) hg3

-- slots [(0, 'bag'), (1, 'many_sides'), (2, 'dear'), (3, 'net'), (4, 'k')]; stored [3, 4]

/-! ### has_step_rows -/
def T_has_step_rows : DS := seq (sif (tor (tnot (tt (tisi2 .list .tuple (tv 1)))) (tt (tb2 (bF neF) (tcb lenF (tac (tv 1) (ta0))) (tv 0)))) (sret [] (tc (.bl false))) (snext)) (seq (ssetO 2 (tlst (ta0))) (seq (sfor [3] (ilist (tv 1)) (dName 3) (seq (sif (tnot (tt (tisi2 .list .tuple (tv 3)))) (sret [] (tc (.bl false))) (snext)) (sexpr (tlm appF (tv 2) (tac (tcb lenF (tac (tv 3) (ta0))) (ta0)))))) (sret [] (tandV (tb2 (bF (iF (fun i j => decide (j < i)))) (tb2 ixF (tv 2) (tc (.int 0))) (tc (.int 0))) (tcb allF (tac (tcomp (ilist (tv 2)) (dName 4) (tyes) (tb2 (bF eqF) (tv 4) (tb2 ixF (tv 2) (tc (.int 0)))) [4]) (ta0)))))))
theorem pf_has_step_rows : ∀ δ Q3, sp_has_step_rows δ Q3 → δ.length = 2 → (∀ (i : Nat) c, δ[i]? = some (E.ow c) → i ∈ ([] : List Nat) ∧ i ∉ ([2, 3] : List Nat)) ∧ T_has_step_rows { nx := fun δ' => Q3 (.va .non) (outs δ δ'), rt := fun r δ' => Q3 r (outs δ δ') } (δ ++ List.replicate 3 E.no) := by
  rintro δ Q3 ⟨many, size, net, rfl, h, k⟩ hl
  have m0 := h.m0
  have m1 := h.m1
  have hl := h.len
  refine ⟨own_by rfl, ?_⟩
  simp only [List.replicate, List.cons_append, List.nil_append]
  unfold T_has_step_rows
  unfold netD
  walk_at "a"
  walk_at "x"
  · refine for_by (fun j δ => ∃ e, δ = [.va (.int (many : Nat)), .va (.lst (net.map rowD)), .ow (.l ((List.range j).map fun _ => D.int (size : Nat))), e, .no]) ⟨_, rfl⟩ (fun p hp => nomatch hp) (fun _ _ _ p hp => nomatch hp) ?_ ?_
    · rintro j y δ e ⟨e', rfl⟩
      obtain ⟨r, hr, rfl⟩ := map_some e
      have hj : j < net.length := (List.getElem?_eq_some_iff.mp hr).1
      have g := h.row r (List.mem_of_getElem? hr)
      rw [rowD_eq r]
      walk_at "a"
      refine f_app (by simp; unfold sizeLine; omega) ?_
      walk_at "a"
      rw [List.length_map, g.len, List.range_succ, List.map_append]
      exact ⟨_, rfl⟩
    · rintro δ ⟨e', rfl⟩
      rw [List.length_map, hl]
      have at0 : L2.atI ((List.range many).map fun _ => D.int (size : Nat)) 0 = some (.int (size : Nat)) := map_at (x := 0) (by decide) (by rw [List.getElem?_range (by simpa using m0)]; rfl)
      walk_at "a"
      refine f_ixL at0 ?_
      have s0 := h.s0
      walk_at "a"
      walk_at "x"
      · refine comp_map (fun _ => .bl true) rfl (fun p hp => by simp at hp; subst hp; simp) (fun p hp => by simp at hp; subst hp; rfl) (fun j y e => ?_) ?_
        · obtain ⟨i, hi, rfl⟩ := map_some e
          have hj : j < many := by
            have := (List.getElem?_eq_some_iff.mp hi).1
            simpa using this
          walk_at "a"
          refine f_ixL at0 ?_
          walk_at "a"
          refine m_end2 ?_ ?_ ?_
          · unfold sizeLine; omega
          · rfl
          · simp
        · walk_at "a"
          refine f_allT ?_
          walk_at "a"
          exact k

-- slots [(0, 'many'), (1, 'steps'), (2, 'lengths'), (3, 'row'), (4, 'length')]; stored [2, 3]

/-! ### is_number -/
def T_is_number : DS := sret [] (tandV (tisi .int (tv 0)) (tnotV (tisi .bool (tv 0))))
theorem pf_is_number : ∀ δ Q3, sp_is_number δ Q3 → δ.length = 1 → (∀ (i : Nat) c, δ[i]? = some (E.ow c) → i ∈ ([] : List Nat) ∧ i ∉ ([] : List Nat)) ∧ T_is_number { nx := fun δ' => Q3 (.va .non) (outs δ δ'), rt := fun r δ' => Q3 r (outs δ δ') } (δ ++ List.replicate 0 E.no) := by
  rintro δ Q3 ⟨i, rfl, k⟩ hl
  refine ⟨own_by rfl, ?_⟩
  simp only [List.replicate, List.cons_append, List.nil_append]
  unfold T_is_number
  walk_at "a"
  all_goals exact k

-- slots [(0, 'value')]; stored []

/-! ### is_index -/
def T_is_index : DS := sret [] (tandV (tcall sp_is_number [false] (tac (tv 0) (ta0))) (tchain (fun i j => decide (i ≤ j)) (fun i j => decide (i < j)) (tc (.int 0)) (tv 0) (tv 1)))
theorem pf_is_index : ∀ δ Q3, sp_is_index δ Q3 → δ.length = 2 → (∀ (i : Nat) c, δ[i]? = some (E.ow c) → i ∈ ([] : List Nat) ∧ i ∉ ([] : List Nat)) ∧ T_is_index { nx := fun δ' => Q3 (.va .non) (outs δ δ'), rt := fun r δ' => Q3 r (outs δ δ') } (δ ++ List.replicate 0 E.no) := by
  rintro δ Q3 ⟨i, n, rfl, k⟩ hl
  refine ⟨own_by rfl, ?_⟩
  simp only [List.replicate, List.cons_append, List.nil_append]
  unfold T_is_index
  walk_at "a"
  refine ⟨_, rfl, ?_⟩
  walk_at "a"
  all_goals
    rename_i h
    simpa [outs, h] using k

-- slots [(0, 'value'), (1, 'many')]; stored []

/-! ### is_sign -/
def T_is_sign : DS := sret [] (tandV (tcall sp_is_number [false] (tac (tv 0) (ta0))) (torV (tb2 (bF eqF) (tv 0) (tc (.int 1))) (tb2 (bF eqF) (tv 0) (tb1 negF (tc (.int 1))))))
theorem pf_is_sign : ∀ δ Q3, sp_is_sign δ Q3 → δ.length = 1 → (∀ (i : Nat) c, δ[i]? = some (E.ow c) → i ∈ ([] : List Nat) ∧ i ∉ ([] : List Nat)) ∧ T_is_sign { nx := fun δ' => Q3 (.va .non) (outs δ δ'), rt := fun r δ' => Q3 r (outs δ δ') } (δ ++ List.replicate 0 E.no) := by
  rintro δ Q3 ⟨i, rfl, h, k⟩ hl
  refine ⟨own_by rfl, ?_⟩
  simp only [List.replicate, List.cons_append, List.nil_append]
  unfold T_is_sign
  walk_at "a"
  refine ⟨_, rfl, ?_⟩
  walk_at "a"
  · exact k
  · rename_i h1
    have e : i = -1 := by omega
    simpa [outs, e] using k

-- slots [(0, 'value')]; stored []

/-! ### is_step -/
def T_is_step : DS := sret [] (tandV (tisi .tuple (tv 0)) (tandV (tb2 (bF eqF) (tcb lenF (tac (tv 0) (ta0))) (tc (.int 2))) (tandV (tcall sp_is_index [false, false] (tac (tb2 ixF (tv 0) (tc (.int 0))) (tac (tv 1) (ta0)))) (tcall sp_is_sign [false] (tac (tb2 ixF (tv 0) (tc (.int 1))) (ta0))))))
theorem pf_is_step : ∀ δ Q3, sp_is_step δ Q3 → δ.length = 2 → (∀ (i : Nat) c, δ[i]? = some (E.ow c) → i ∈ ([] : List Nat) ∧ i ∉ ([] : List Nat)) ∧ T_is_step { nx := fun δ' => Q3 (.va .non) (outs δ δ'), rt := fun r δ' => Q3 r (outs δ δ') } (δ ++ List.replicate 0 E.no) := by
  rintro δ Q3 ⟨x, s, n, rfl, x0, x1, hs, k⟩ hl
  refine ⟨own_by rfl, ?_⟩
  simp only [List.replicate, List.cons_append, List.nil_append]
  unfold T_is_step
  unfold pairD
  walk_at "a"
  · refine ⟨_, _, rfl, ?_⟩
    rw [decide_eq_true (And.intro x0 x1)]
    walk_at "a"
    refine ⟨_, rfl, hs, ?_⟩
    walk_at "a"
    exact k
  · rename_i h
    exact absurd rfl h

-- slots [(0, 'value'), (1, 'copies')]; stored []

/-! ### wrong_step -/
def T_wrong_step : DS := seq (sif (tnot (tt (tcall sp_has_step_rows [false, false] (tac (tv 0) (tac (tv 1) (ta0)))))) (sret [] (ttup (tac (tb1 negF (tc (.int 1))) (tac (tb1 negF (tc (.int 1))) (ta0))))) (snext)) (seq (sset 2 (tcb lenF (tac (tb2 ixF (tv 1) (tc (.int 0))) (ta0)))) (seq (sfor [3, 4, 5, 6] (ienum (tv 1)) (dTup 2 (dCons (dName 3) (dCons (dName 4) (dNil)))) (sfor [5, 6] (ienum (tv 4)) (dTup 2 (dCons (dName 5) (dCons (dName 6) (dNil)))) (sif (tnot (tt (tcall sp_is_step [false, false] (tac (tv 6) (tac (tv 2) (ta0)))))) (sret [] (ttup (tac (tv 3) (tac (tv 5) (ta0))))) (snext)))) (seq (sfor [3, 4, 5, 7, 8] (ienum (tv 1)) (dTup 2 (dCons (dName 3) (dCons (dName 4) (dNil)))) (sfor [5, 7, 8] (ienum (tv 4)) (dTup 2 (dCons (dName 5) (dCons (dTup 2 (dCons (dName 7) (dCons (dName 8) (dNil)))) (dNil)))) (sif (tt (tb2 (bF neF) (tb2 ixF (tv 4) (tv 7)) (ttup (tac (tv 5) (tac (tv 8) (ta0)))))) (sret [] (ttup (tac (tv 3) (tac (tv 5) (ta0))))) (snext)))) (sret [] (tc .non)))))
theorem pf_wrong_step : ∀ δ Q3, sp_wrong_step δ Q3 → δ.length = 2 → (∀ (i : Nat) c, δ[i]? = some (E.ow c) → i ∈ ([] : List Nat) ∧ i ∉ ([2, 3, 4, 5, 6, 7, 8] : List Nat)) ∧ T_wrong_step { nx := fun δ' => Q3 (.va .non) (outs δ δ'), rt := fun r δ' => Q3 r (outs δ δ') } (δ ++ List.replicate 7 E.no) := by
  rintro δ Q3 ⟨many, size, net, rfl, h, k⟩ hl
  have m0 := h.m0
  have m1 := h.m1
  have hlen := h.len
  obtain ⟨r0, hr0, g0⟩ := h.get m0
  refine ⟨own_by rfl, ?_⟩
  simp only [List.replicate, List.cons_append, List.nil_append]
  unfold T_wrong_step
  walk_at "a"
  refine ⟨_, size, _, rfl, h, ?_⟩
  unfold netD
  walk_at "a"
  walk_at "x"
  refine f_ixL (map_at (by omega) hr0) ?_
  unfold rowD
  walk_at "a"
  rw [List.length_map, g0.len]
  refine for_by (fun j δ => ∃ e3 e4 e5 e6 e7 e8, δ = [.va (.int (many : Nat)), .va (.lst (net.map rowD)), .va (.int (size : Nat)), e3, e4, e5, e6, e7, e8]) ⟨_, _, _, _, _, _, rfl⟩ (fun p hp => nomatch hp) (fun _ _ _ p hp => nomatch hp) ?_ ?_
  · rintro j y δ e ⟨e3, e4, e5, e6, e7, e8, rfl⟩
    obtain ⟨z, hz, rfl⟩ := enumD_get e
    obtain ⟨r, hr, rfl⟩ := map_some hz
    have g := h.row r (List.mem_of_getElem? hr)
    unfold rowD
    walk_at "a"
    refine for_by (fun i δ => ∃ e5 e6, δ = [.va (.int (many : Nat)), .va (.lst (net.map rowD)), .va (.int (size : Nat)), .va (.int ((0 + j : Nat) : Nat)), .va (.lst (r.map pairD)), e5, e6, e7, e8]) ⟨_, _, rfl⟩ (fun p hp => nomatch hp) (fun _ _ _ p hp => nomatch hp) ?_ ?_
    · rintro i y δ e ⟨e5, e6, rfl⟩
      obtain ⟨z, hz, rfl⟩ := enumD_get e
      obtain ⟨p, hp, rfl⟩ := map_some hz
      have hi : i < size := by rw [← g.len]; exact (List.getElem?_eq_some_iff.mp hp).1
      obtain ⟨x, s, e1, hx, hs, e2⟩ := g.ok i hi
      rw [hp] at e1
      cases e1
      walk_at "a"
      refine ⟨_, _, _, rfl, by omega, by omega, hs, ?_⟩
      walk_at "a"
      exact ⟨_, _, rfl⟩
    · rintro δ ⟨e5, e6, rfl⟩
      exact ⟨_, _, _, _, _, _, rfl⟩
  · rintro δ ⟨e3, e4, e5, e6, e7, e8, rfl⟩
    walk_at "a"
    refine for_by (fun j δ => ∃ e3 e4 e5 e6 e7 e8, δ = [.va (.int (many : Nat)), .va (.lst (net.map rowD)), .va (.int (size : Nat)), e3, e4, e5, e6, e7, e8]) ⟨_, _, _, _, _, _, rfl⟩ (fun p hp => nomatch hp) (fun _ _ _ p hp => nomatch hp) ?_ ?_
    · rintro j y δ e ⟨e3, e4, e5, e6, e7, e8, rfl⟩
      obtain ⟨z, hz, rfl⟩ := enumD_get e
      obtain ⟨r, hr, rfl⟩ := map_some hz
      have g := h.row r (List.mem_of_getElem? hr)
      unfold rowD
      walk_at "a"
      refine for_by (fun i δ => ∃ e5 e7 e8, δ = [.va (.int (many : Nat)), .va (.lst (net.map rowD)), .va (.int (size : Nat)), .va (.int ((0 + j : Nat) : Nat)), .va (.lst (r.map pairD)), e5, e6, e7, e8]) ⟨_, _, _, rfl⟩ (fun p hp => nomatch hp) (fun _ _ _ p hp => nomatch hp) ?_ ?_
      · rintro i y δ e ⟨e5, e7, e8, rfl⟩
        obtain ⟨z, hz, rfl⟩ := enumD_get e
        obtain ⟨p, hp, rfl⟩ := map_some hz
        have hi : i < size := by rw [← g.len]; exact (List.getElem?_eq_some_iff.mp hp).1
        obtain ⟨x, s, e1, hx, hs, e2⟩ := g.ok i hi
        rw [hp] at e1
        cases e1
        unfold pairD
        walk_at "a"
        refine f_ixL (map_at (f := pairD) (by omega) (x := ((i : Int), s)) e2) ?_
        walk_at "a"
        refine f_neP (b := true) (pu_pair ((i : Int), s)) (pu_pair ((0 + i : Nat), s)) (by omega) (by omega) (by simp [pairD]) ?_
        walk_at "a"
        exact ⟨_, _, _, rfl⟩
      · rintro δ ⟨e5, e7, e8, rfl⟩
        exact ⟨_, _, _, _, _, _, rfl⟩
    · rintro δ ⟨e3, e4, e5, e6, e7, e8, rfl⟩
      walk_at "a"
      exact k

-- slots [(0, 'many'), (1, 'steps'), (2, 'copies'), (3, 'side'), (4, 'row'), (5, 'copy'), (6, 'item'), (7, 'other'), (8, 'sign')]; stored [2, 3, 4, 5, 6, 7, 8]

/-! ### is_side_name -/
def T_is_side_name : DS := seq (sif (tor (tnot (tt (tisi .str (tv 0)))) (tnot (tt (tchain (fun i j => decide (i ≤ j)) (fun i j => decide (i ≤ j)) (tc (.int 1)) (tcb lenF (tac (tv 0) (ta0))) (tc (.int 3)))))) (sret [] (tc (.bl false))) (snext)) (sret [] (tcb allF (tac (tcomp (istr (tv 0)) (dName 1) (tyes) (tb2 (bF inF) (tv 1) (tc (.str "abcdefghijklmnopqrstuvwxyz"))) [1]) (ta0))))
theorem pf_is_side_name : ∀ δ Q3, sp_is_side_name δ Q3 → δ.length = 1 → (∀ (i : Nat) c, δ[i]? = some (E.ow c) → i ∈ ([] : List Nat) ∧ i ∉ ([] : List Nat)) ∧ T_is_side_name { nx := fun δ' => Q3 (.va .non) (outs δ δ'), rt := fun r δ' => Q3 r (outs δ δ') } (δ ++ List.replicate 1 E.no) := by
  rintro δ Q3 ⟨x, rfl, h, k⟩ hl
  have l0 := h.l0
  have l1 := h.l1
  refine ⟨own_by rfl, ?_⟩
  simp only [List.replicate, List.cons_append, List.nil_append]
  unfold T_is_side_name
  walk_at "a"
  refine f_lenS (by unfold sizeLine; omega) ?_
  walk_at "a"
  walk_at "x"
  · refine comp_map (fun _ => .bl true) rfl (fun p hp => nomatch hp) (fun p hp => nomatch hp) (fun j y e => ?_) ?_
    · obtain ⟨c, hc, rfl⟩ := map_some e
      walk_at "a"
      refine f_inS (occ_letters c (h.ok c (List.mem_of_getElem? hc))) ?_
      have hj : j < x.cps.toList.length := (List.getElem?_eq_some_iff.mp hc).1
      exact m_end (k := j) rfl (by simp [Str.length] at l1; simp at hj; unfold sizeLine; omega) rfl rfl
    · walk_at "a"
      refine f_allT ?_
      walk_at "a"
      exact k

-- slots [(0, 'value'), (1, 'letter')]; stored []

/-! ### is_sides -/
def T_is_sides : DS := seq (sif (tor (tnot (tt (tisi .tuple (tv 0)))) (tt (tb2 (bF eqF) (tcb lenF (tac (tv 0) (ta0))) (tc (.int 0))))) (sret [] (tc (.bl false))) (snext)) (seq (ssetO 1 (tdnew)) (seq (sfor [2] (itup (tv 0)) (dName 2) (seq (sif (tor (tnot (tt (tcall sp_is_side_name [false] (tac (tv 2) (ta0))))) (tt (tdin (tv 2) (tv 1)))) (sret [] (tc (.bl false))) (snext)) (sdput (tv 1) (tv 2) (tc (.bl true))))) (sret [] (tc (.bl true)))))
theorem pf_is_sides : ∀ δ Q3, sp_is_sides δ Q3 → δ.length = 1 → (∀ (i : Nat) c, δ[i]? = some (E.ow c) → i ∈ ([] : List Nat) ∧ i ∉ ([1, 2] : List Nat)) ∧ T_is_sides { nx := fun δ' => Q3 (.va .non) (outs δ δ'), rt := fun r δ' => Q3 r (outs δ δ') } (δ ++ List.replicate 2 E.no) := by
  rintro δ Q3 ⟨ls, rfl, h, k⟩ hl
  have m0 := h.m0
  have m1 := h.m1
  refine ⟨own_by rfl, ?_⟩
  simp only [List.replicate, List.cons_append, List.nil_append]
  unfold T_is_sides
  unfold strsT
  walk_at "a"
  · rename_i h1
    simp at h1
    exact absurd h1 (by intro z; rw [z] at m0; simp at m0)
  · refine for_by (fun j δ => ∃ e, δ = [.va (.tup (ls.map D.str)), .ow (.d ((ls.take j).map fun x => (.inr x, .bl true))), e]) ⟨.no, by simp⟩ (fun p hp => nomatch hp) (fun _ _ _ p hp => nomatch hp) ?_ ?_
    · rintro j y δ e ⟨e', rfl⟩
      obtain ⟨x, hx, rfl⟩ := map_some e
      have hj : j < ls.length := (List.getElem?_eq_some_iff.mp hx).1
      have fresh : ∀ p ∈ (ls.take j).map fun x => ((.inr x : Key), (D.bl true)), p.1 ≠ .inr x := fun p hp z => by
        obtain ⟨y, hy, rfl⟩ := List.mem_map.mp hp
        have e2 : y = x := by injection z
        subst e2
        obtain ⟨i, hi, ei⟩ := List.mem_take_iff_getElem.mp hy
        have := nodup_inj h.nd (i := i) (j := j) (by rw [List.getElem?_eq_getElem (by omega), ei]) hx
        omega
      walk_at "a"
      refine ⟨_, rfl, h.ok x (List.mem_of_getElem? hx), ?_⟩
      walk_at "a"
      refine ⟨_, _, _, rfl, rfl, rfl, ?_⟩
      rw [vd_none fresh]
      walk_at "a"
      · rename_i z
        cases z
      · refine ⟨_, _, _, _, _, rfl, rfl, rfl, rfl, rfl, by simp; unfold sizeLine; omega, _, rfl, ?_⟩
        rw [pd_new fresh, List.take_add_one, hx, Option.toList_some, List.map_append]
        exact ⟨_, rfl⟩
    · rintro δ ⟨e', rfl⟩
      walk_at "a"
      exact k

-- slots [(0, 'value'), (1, 'met'), (2, 'name')]; stored [1, 2]

/-! ### Plan.__init__ -/
def T_Plan_init__ : DS := seq (sif (tnot (tt (tcall sp_is_sides [false] (tac (tv 1) (ta0))))) (snever) (snext)) (seq (sset 3 (tcall sp_wrong_step [false, false] (tac (tcb lenF (tac (tv 1) (ta0))) (tac (tv 2) (ta0))))) (seq (sif (tt (tb2 (bF nisF) (tv 3) (tc .non))) (snever) (snext)) (seq (ssetf "Plan" "sides" (tv 0) (tv 1)) (seq (ssetf "Plan" "copies" (tv 0) (tcb lenF (tac (tb2 ixF (tv 2) (tc (.int 0))) (ta0)))) (ssetf "Plan" "_steps" (tv 0) (tcomp (ilist (tv 2)) (dName 4) (tyes) (tcb listF (tac (tv 4) (ta0))) [4]))))))
theorem pf_Plan_init__ : ∀ δ Q3, sp_Plan_init__ δ Q3 → δ.length = 3 → (∀ (i : Nat) c, δ[i]? = some (E.ow c) → i ∈ ([0] : List Nat) ∧ i ∉ ([3] : List Nat)) ∧ T_Plan_init__ { nx := fun δ' => Q3 (.va .non) (outs δ δ'), rt := fun r δ' => Q3 r (outs δ δ') } (δ ++ List.replicate 2 E.no) := by
  rintro δ Q3 ⟨ls, size, net, rfl, hs, h, k⟩ hl
  have m0 := h.m0
  have m1 := h.m1
  have hlen := h.len
  obtain ⟨r0, hr0, g0⟩ := h.get m0
  refine ⟨own_by rfl, ?_⟩
  simp only [List.replicate, List.cons_append, List.nil_append]
  unfold T_Plan_init__
  walk_at "a"
  refine ⟨_, rfl, hs, ?_⟩
  unfold strsT
  walk_at "a"
  refine ⟨ls.length, size, net, by rw [List.length_map], h, ?_⟩
  walk_at "a"
  unfold netD
  refine f_ixL (map_at (by omega) hr0) ?_
  rw [rowD_eq r0]
  walk_at "a"
  rw [List.length_map, g0.len]
  walk_at "a"
  refine comp_map (fun j => rowD (net.getD j [])) rfl (fun p hp => nomatch hp) (fun p hp => nomatch hp) (fun j y e => ?_) ?_
  · obtain ⟨r, hr, rfl⟩ := map_some e
    have hj := (List.getElem?_eq_some_iff.mp hr).1
    rw [rowD_eq r]
    walk_at "a"
    refine m_end2 ?_ ?_ ?_
    · unfold sizeLine; omega
    · rfl
    · rw [List.getD_eq_getElem?_getD, hr]; rfl
  · rw [List.length_map, map_range_getD]
    walk_at "a"
    exact k

-- slots [(0, 'self'), (1, 'sides'), (2, 'steps'), (3, 'wrong'), (4, 'row')]; stored [3]

/-! ### _law_plan -/
def T_law_plan : DS := sret [] (tmake "Plan" sp_Plan_init__ [false, false] (tac (tv 0) (tac (tcomp (ilist (tv 1)) (dName 2) (tyes) (tcb listF (tac (tv 2) (ta0))) [2]) (ta0))))
theorem pf_law_plan : ∀ δ Q3, sp_law_plan δ Q3 → δ.length = 2 → (∀ (i : Nat) c, δ[i]? = some (E.ow c) → i ∈ ([] : List Nat) ∧ i ∉ ([] : List Nat)) ∧ T_law_plan { nx := fun δ' => Q3 (.va .non) (outs δ δ'), rt := fun r δ' => Q3 r (outs δ δ') } (δ ++ List.replicate 1 E.no) := by
  rintro δ Q3 ⟨ls, size, net, rfl, hs, h, k⟩ hl
  have m0 := h.m0
  have m1 := h.m1
  have hlen := h.len
  refine ⟨own_by rfl, ?_⟩
  simp only [List.replicate, List.cons_append, List.nil_append]
  unfold T_law_plan
  unfold netD
  walk_at "a"
  refine comp_map (fun j => rowD (net.getD j [])) rfl (fun p hp => nomatch hp) (fun p hp => nomatch hp) (fun j y e => ?_) ?_
  · obtain ⟨r, hr, rfl⟩ := map_some e
    have hj := (List.getElem?_eq_some_iff.mp hr).1
    rw [rowD_eq r]
    walk_at "a"
    refine m_end2 ?_ ?_ ?_
    · unfold sizeLine; omega
    · rfl
    · rw [List.getD_eq_getElem?_getD, hr]; rfl
  · rw [List.length_map, map_range_getD]
    walk_at "a"
    refine ⟨ls, size, net, rfl, hs, h, ?_⟩
    refine ⟨rfl, _, _, _, rfl, ?_⟩
    walk_at "a"
    exact k

-- slots [(0, 'labels'), (1, 'net'), (2, 'x')]; stored []

/-! ### _law_parts -/
def T_law_parts : DS := seq (ssetO 1 (tcomp (irng1 (tcb lenF (tac (tb2 ixF (tv 0) (tc (.int 0))) (ta0)))) (dName 5) (tyes) (tv 5) [5])) (seq (sfor [2, 3, 4, 5] (irng1 (tcb lenF (tac (tv 1) (ta0)))) (dName 2) (seq (sset 3 (tcb listF (tac (tv 1) (ta0)))) (seq (sfor [4, 5] (ilist (tv 0)) (dName 4) (sfor [5] (irng1 (tcb lenF (tac (tv 1) (ta0)))) (dName 5) (sif (tt (tb2 (bF (iF (fun i j => decide (i < j)))) (tb2 ixF (tv 1) (tb2 ixF (tb2 ixF (tv 4) (tv 5)) (tc (.int 0)))) (tb2 ixF (tv 1) (tv 5)))) (sasg (tb2 ixF (tv 1) (tb2 ixF (tb2 ixF (tv 4) (tv 5)) (tc (.int 0)))) (dSub (tv 1) (tv 5))) (snext)))) (sif (tt (tb2 (bF eqF) (tv 1) (tv 3))) (sbreak) (snext))))) (sret [] (tcomp (irng1 (tcb lenF (tac (tv 1) (ta0)))) (dName 6) (tt (tb2 (bF eqF) (tb2 ixF (tv 1) (tv 6)) (tv 6))) (tcomp (irng1 (tcb lenF (tac (tv 1) (ta0)))) (dName 5) (tt (tb2 (bF eqF) (tb2 ixF (tv 1) (tv 5)) (tv 6))) (tv 5) [5]) [6])))
theorem noOw5 {a b c d f g : E} {e : E} (h : NoO e) : noOw [a, b, c, d, f, e, g] [5] = true := by
  cases e with
  | ow c => exact absurd rfl (h c)
  | _ => rfl
theorem pf_law_parts : ∀ δ Q3, sp_law_parts δ Q3 → δ.length = 1 → (∀ (i : Nat) c, δ[i]? = some (E.ow c) → i ∈ ([] : List Nat) ∧ i ∉ ([1, 2, 3, 4, 5] : List Nat)) ∧ T_law_parts { nx := fun δ' => Q3 (.va .non) (outs δ δ'), rt := fun r δ' => Q3 r (outs δ δ') } (δ ++ List.replicate 6 E.no) := by
  rintro δ Q3 ⟨many, size, net, rfl, hn, M, hF, k⟩ hl
  have m1 := hn.m1
  have m0 := hn.m0
  have s0 := hn.s0
  have s1 := hn.s1
  have hlen := hn.len
  have hMx := hF.le
  have hM : ∀ x y, adj net x y → M y = M x := fun x y a => (hF.adj hn a).symm
  have hR := hF.re
  obtain ⟨r0, hr0, g0⟩ := hn.get m0
  have gl0 := g0.len
  refine ⟨own_by rfl, ?_⟩
  simp only [List.replicate, List.cons_append, List.nil_append]
  unfold T_law_parts
  rw [netD_eq]
  walk_at "a"
  refine f_ixL (map_at (x := r0) (by decide) hr0) ?_
  rw [rowD_eq]
  walk_at "a"
  refine ⟨by simp; omega, ?_⟩
  refine comp_map (fun x => D.int (x : Nat)) rfl (fun p hp => nomatch hp) (fun p hp => nomatch hp) (fun j y e => ?_) ?_
  · obtain ⟨hj, rfl⟩ := rangeD_get e
    rw [List.length_map] at hj
    walk_at "a"
    refine m_end2 (by unfold sizeLine; omega) rfl (by rw [Int.zero_add])
  rw [rangeD_len, List.length_map, Int.toNat_natCast, gl0]
  rw [show (List.range size).map (fun x => D.int (x : Nat)) = lowD size fun x => x from rfl]
  walk_at "a"
  rw [lowD_len]
  refine ⟨by omega, ?_⟩
  refine for_byE (fun j δ => ∃ f e2 e3 e4 e5, δ = [.va (.lst (net.map rowD)), .ow (.l (lowD size f)), e2, e3, e4, e5, .no] ∧ NoO e5 ∧ LowOk M f ∧ (j + 1 ≤ settled size M f ∨ size ≤ settled size M f))
    (fun δ => ∃ f e2 e3 e4 e5, δ = [.va (.lst (net.map rowD)), .ow (.l (lowD size f)), e2, e3, e4, e5, .no] ∧ NoO e5 ∧ LowOk M f ∧ Fixed net f)
    ⟨_, _, _, _, _, rfl, noO_no, ⟨hMx, fun x => Nat.le_refl _⟩, .inl (settled_pos s0 (hMx 0) ⟨hMx, fun x => Nat.le_refl _⟩)⟩ (fun p hp => nomatch hp) (fun _ _ _ p hp => nomatch hp) ?_ ?_ ?_
  · rintro nn hE j y δ e ⟨f, e2, e3, e4, e5, rfl, n5, hf, hs⟩
    walk_at "a"
    refine for_by (fun i δ => ∃ g e4 e5, δ = [.va (.lst (net.map rowD)), .ow (.l (lowD size g)), .va y, .va (.lst (lowD size f)), e4, e5, .no] ∧ NoO e5 ∧ LowOk M g ∧ (∀ x, g x ≤ f x) ∧ ∀ i', i' < i → ∀ r, net[i']? = some r → ∀ (x y : Nat) s, r[x]? = some ((y : Int), s) → g x ≤ f y)
      ⟨f, _, _, rfl, n5, hf, fun x => Nat.le_refl _, fun i' h => by omega⟩ (fun p hp => nomatch hp) (fun _ _ _ p hp => nomatch hp) ?_ ?_
    · rintro i z δ ez ⟨g, e4', e5', rfl, n5', hg, le, vis⟩
      obtain ⟨r, hr, rfl⟩ := map_some ez
      have gr := hn.row r (List.mem_of_getElem? hr)
      walk_at "a"
      rw [rowD_eq, lowD_len]
      refine ⟨by omega, ?_⟩
      refine for_by (fun x δ => ∃ g e5, δ = [.va (.lst (net.map rowD)), .ow (.l (lowD size g)), .va y, .va (.lst (lowD size f)), .va (.lst (r.map pairD)), e5, .no] ∧ NoO e5 ∧ LowOk M g ∧ (∀ x, g x ≤ f x) ∧ (∀ i', i' < i → ∀ r, net[i']? = some r → ∀ (x y : Nat) s, r[x]? = some ((y : Int), s) → g x ≤ f y) ∧ ∀ x', x' < x → ∀ (y : Nat) s, r[x']? = some ((y : Int), s) → g x' ≤ f y)
        ⟨g, _, rfl, n5', hg, le, vis, fun x' h => by omega⟩ (fun p hp => nomatch hp) (fun _ _ _ p hp => nomatch hp) ?_ ?_
      · rintro x w δ ew ⟨h, e5'', rfl, n5'', hh, leh, vish, now⟩
        obtain ⟨hx, rfl⟩ := rangeD_get ew
        rw [Int.toNat_natCast] at hx
        rw [Int.zero_add]
        obtain ⟨y', s, e1, hy, _, _⟩ := gr.ok x hx
        have at1 : L2.atI (r.map pairD) (x : Int) = some (pairD ((y' : Int), s)) := map_at (by omega) e1
        have low1 : L2.atI (lowD size h) (x : Int) = some (.int (h x : Nat)) := lowD_at hx
        have low2 : L2.atI (lowD size h) (y' : Int) = some (.int (h y' : Nat)) := lowD_at hy
        have ab : adj net x y' := ⟨r, List.mem_of_getElem? hr, s, e1⟩
        have eqy : ∀ (y : Nat) (s' : Int), r[x]? = some ((y : Int), s') → y = y' := fun y s' e => by
          rw [e1] at e
          have : (y' : Int) = y := by injection e with e; exact congrArg Prod.fst e
          omega
        walk_at "a"
        refine f_ixL at1 ?_
        rw [show pairD ((y' : Int), s) = .tup [.int (y' : Int), .int s] from rfl]
        walk_at "a"
        refine f_ixL low2 ?_
        walk_at "a"
        refine f_ixL low1 ?_
        walk_at "a"
        · refine f_ixL at1 ?_
          rw [show pairD ((y' : Int), s) = .tup [.int (y' : Int), .int s] from rfl]
          walk_at "a"
          refine f_ixL low2 ?_
          walk_at "a"
          rename_i hlt
          refine g_at rfl (by unfold ixN; rw [lowD_len, if_pos (by omega), if_pos (by omega)]) ?_
          rw [Int.toNat_natCast, lowD_set]
          have ul : ∀ z, upd h x (h y') z ≤ h z := upd_le (by omega)
          have ux : upd h x (h y') x = h y' := by unfold upd; rw [if_pos rfl]
          refine ⟨_, rfl, upd h x (h y'), _, rfl, noO_va, hh.upd hM ab (by omega), fun z => Nat.le_trans (ul z) (leh z), fun i' hi' r hr x y s e => Nat.le_trans (ul x) (vish i' hi' r hr x y s e), fun x' hx' y s' e => ?_⟩
          by_cases q : x' < x
          · exact Nat.le_trans (ul x') (now x' q y s' e)
          · have : x' = x := by omega
            subst this
            have := eqy y s' e
            subst this
            rw [ux]
            exact leh y
        · rename_i hlt
          refine ⟨h, _, rfl, noO_va, hh, leh, vish, fun x' hx' y s' e => ?_⟩
          by_cases q : x' < x
          · exact now x' q y s' e
          · have : x' = x := by omega
            subst this
            have := eqy y s' e
            subst this
            have := leh y
            omega
      · rintro δ ⟨h, e5'', rfl, n5'', hh, leh, vish, now⟩
        rw [rangeD_len, Int.toNat_natCast] at now
        refine ⟨h, _, _, rfl, n5'', hh, leh, fun i' hi' r' hr' x' y s' e => ?_⟩
        by_cases q : i' < i
        · exact vish i' q r' hr' x' y s' e
        · have : i' = i := by omega
          subst this
          rw [show net[i']? = some r from hr] at hr'
          cases hr'
          refine now x' ?_ y s' e
          rw [← gr.len]
          exact (List.getElem?_eq_some_iff.mp e).1
    · rintro δ ⟨g, e4', e5', rfl, n5', hg, le, vis⟩
      walk_at "a"
      have all : ∀ x y, adj net x y → g x ≤ f y := by
        rintro x y ⟨r, hr, s, e⟩
        obtain ⟨i, hi, er⟩ := List.mem_iff_getElem.mp hr
        exact vis i (by rw [List.length_map]; exact hi) r (by rw [List.getElem?_eq_getElem hi, er]) x y s e
      by_cases hq : lowD size g = lowD size f
      · refine f_eqP (b := true) lowD_pu lowD_pu (by omega) (by omega) (by simp [hq]) ?_
        walk_at "a"
        exact hE _ ⟨g, _, _, _, _, rfl, n5', hg, fixed_same hn hg all (lowD_inj hq)⟩
      · refine f_eqP (b := false) lowD_pu lowD_pu (by omega) (by omega) (by simp [hq]) ?_
        walk_at "a"
        exact ⟨g, _, _, _, _, rfl, n5', hg, lap_grows hn hM hR hf hg le all hs⟩
  · rintro δ ⟨f, e2, e3, e4, e5, rfl, n5, hf, hs⟩
    rw [rangeD_len, Int.toNat_natCast] at hs
    exact ⟨f, e2, e3, e4, e5, rfl, n5, hf, fixed_all hn hM hf (by omega)⟩
  · rintro δ ⟨f, e2, e3, e4, e5, rfl, n5, hf, fx⟩
    walk_at "a"
    rw [lowD_len]
    refine ⟨by omega, ?_⟩
    refine comp_by (fun j acc δ => acc = ((List.range j).filter fun z => f z == z).map (fun z => D.lst ((partOf size f z).map D.int)) ∧ δ = [.va (.lst (net.map rowD)), .ow (.l (lowD size f)), e2, e3, e4, e5, .no]) ⟨rfl, rfl⟩ rfl (fun p hp => nomatch hp) (fun _ _ _ _ p hp => nomatch hp) ?_ ?_
    · rintro z y acc δ e ⟨rfl, rfl⟩
      obtain ⟨hz, rfl⟩ := rangeD_get e
      rw [Int.toNat_natCast] at hz
      rw [Int.zero_add]
      have low1 : L2.atI (lowD size f) (z : Int) = some (.int (f z : Nat)) := lowD_at hz
      have low2 : L2.atI (lowD size f) (z : Int) = some (.int (f z : Nat)) := lowD_at hz
      walk_at "a"
      refine f_ixL low1 ?_
      walk_at "a"
      · rename_i hzz
        have hzz : f z = z := by omega
        rw [lowD_len]
        refine ⟨by omega, ?_⟩
        refine comp_by (fun x acc δ => acc = (((List.range x).filter fun x => f x == z).map fun x : Nat => (x : Int)).map D.int ∧ δ = [.va (.lst (net.map rowD)), .ow (.l (lowD size f)), e2, e3, e4, e5, .va (.int z)]) ⟨rfl, rfl⟩ (noOw5 n5) (fun p hp => nomatch hp) (fun _ _ _ _ p hp => nomatch hp) ?_ ?_
        · rintro x y acc δ e ⟨rfl, rfl⟩
          obtain ⟨hx, rfl⟩ := rangeD_get e
          rw [Int.toNat_natCast] at hx
          rw [Int.zero_add]
          have low1 : L2.atI (lowD size f) (x : Int) = some (.int (f x : Nat)) := lowD_at hx
          walk_at "a"
          refine f_ixL low1 ?_
          walk_at "a"
          · rename_i hq
            have hq : f x = z := by omega
            refine ⟨?_, ?_, rfl⟩
            · rw [List.length_map, List.length_map]
              have := List.length_filter_le (fun x => f x == z) (List.range x)
              rw [List.length_range] at this
              unfold sizeLine
              omega
            · rw [List.range_succ, List.filter_append]
              simp [hq]
          · rename_i hq
            refine ⟨?_, rfl⟩
            rw [List.range_succ, List.filter_append]
            simp; omega
        · rintro acc δ ⟨rfl, rfl⟩
          rw [rangeD_len, Int.toNat_natCast]
          refine ⟨_, rfl, ?_, ?_, rfl⟩
          · rw [List.length_map]
            have := List.length_filter_le (fun x => f x == x) (List.range z)
            rw [List.length_range] at this
            unfold sizeLine
            omega
          · rw [List.range_succ, List.filter_append]
            simp [hzz, partOf]
      · rename_i hzz
        refine ⟨?_, rfl⟩
        rw [List.range_succ, List.filter_append]
        simp; omega
    · rintro acc δ ⟨rfl, rfl⟩
      walk_at "a"
      rw [rangeD_len, Int.toNat_natCast]
      rw [← partsOf_eq] at k
      rw [show f = M from Low.of_fixed hn hF fx hf.hi hf.lo]
      unfold partsOf at k
      rw [List.map_map] at k
      exact k

-- slots [(0, 'net'), (1, 'low'), (2, 'lap'), (3, 'elder'), (4, 'moves'), (5, 'x'), (6, 'z')]; stored [1, 2, 3, 4, 5]

/-! ### Plan.step -/
def T_Plan_step : DS := sret [] (tb2 ixF (tb2 ixF (tfldc "Plan" "_steps" (tv 0)) (tv 1)) (tv 2))
theorem pf_Plan_step : ∀ δ Q3, sp_Plan_step δ Q3 → δ.length = 3 → (∀ (i : Nat) c, δ[i]? = some (E.ow c) → i ∈ ([] : List Nat) ∧ i ∉ ([] : List Nat)) ∧ T_Plan_step { nx := fun δ' => Q3 (.va .non) (outs δ δ'), rt := fun r δ' => Q3 r (outs δ δ') } (δ ++ List.replicate 0 E.no) := by
  rintro δ Q3 ⟨ls, size, net, k, x, r, p, rfl, hr, hp, kk⟩ hl
  refine ⟨own_by rfl, ?_⟩
  simp only [List.replicate, List.cons_append, List.nil_append]
  unfold T_Plan_step
  unfold planD netD
  walk_at "a"
  refine f_ixL (map_at (by omega) hr) ?_
  unfold rowD
  walk_at "a"
  refine f_ixL (map_at (by omega) hp) ?_
  walk_at "a"
  exact kk

-- slots [(0, 'self'), (1, 'side'), (2, 'copy')]; stored []

/-! ### walk -/
def T_walk : DS := seq (ssetO 2 (tb2 timesF (tlst (tac (tb1 negF (tc (.int 1))) (ta0))) (tfldc "Plan" "copies" (tv 0)))) (seq (ssetO 3 (tb2 timesF (tlst (tac (tc (.int 0)) (ta0))) (tfldc "Plan" "copies" (tv 0)))) (seq (sasg (tc (.int 0)) (dSub (tv 2) (tv 1))) (seq (sasg (tc (.int 1)) (dSub (tv 3) (tv 1))) (seq (ssetO 4 (tlst (tac (tv 1) (ta0)))) (seq (sset 5 (tc (.int 0))) (seq (swhile (tt (tb2 (bF (iF (fun i j => decide (i < j)))) (tv 5) (tcb lenF (tac (tv 4) (ta0))))) (seq (sset 6 (tb2 ixF (tv 4) (tv 5))) (seq (saug 5 ipaddF (tc (.int 1))) (sfor [7, 8, 9] (irng1 (tcb lenF (tac (tfldc "Plan" "sides" (tv 0)) (ta0)))) (dName 7) (seq (sasg (tmeth "Plan" "step" sp_Plan_step [false, false, false] (tv 0) (tac (tv 7) (tac (tv 6) (ta0)))) (dTup 2 (dCons (dName 8) (dCons (dName 9) (dNil))))) (sif (tt (tb2 (bF (iF (fun i j => decide (i < j)))) (tb2 ixF (tv 2) (tv 8)) (tc (.int 0)))) (seq (sasg (tcb lenF (tac (tv 4) (ta0))) (dSub (tv 2) (tv 8))) (seq (sasg (tb2 timesF (tb2 ixF (tv 3) (tv 6)) (tv 9)) (dSub (tv 3) (tv 8))) (sexpr (tlm appF (tv 4) (tac (tv 8) (ta0)))))) (snext))))))) (sret [] (ttup (tac (tvz 4) (tac (tvz 2) (tac (tvz 3) (ta0))))))))))))
def atOfW (i : Nat) (δ : En) : Nat := match δ[i]? with
  | some (.va (.int k)) => k.toNat
  | _ => 0
theorem rep_sgI {size : Nat} {c : Int} : (List.replicate (Int.toNat (size : Int)) [D.int c]).flatten = (sgI size fun _ => c).map D.int := by
  rw [Int.toNat_natCast]
  unfold sgI
  rw [List.map_map]
  refine List.ext_getElem? fun i => ?_
  by_cases hi : i < size
  · rw [List.getElem?_map, List.getElem?_range hi]
    simp [List.flatten_replicate_singleton, hi]
  · rw [List.getElem?_eq_none (by simp; omega), List.getElem?_eq_none (by simp; omega)]
/-- the numbers of the copies that are met -/
structure Nums (met : List Nat) (nm : Nat → Int) : Prop where
  off : ∀ q, q ∉ met → nm q = -1
  on : ∀ i q, met[i]? = some q → nm q = (i : Nat)
theorem Nums.neg {met : List Nat} {nm : Nat → Int} (x : Nums met nm) (q : Nat) : nm q < 0 ↔ q ∉ met := ⟨fun h m => by
  obtain ⟨i, hi⟩ := List.mem_iff_getElem?.mp m
  have := x.on i q hi
  omega, fun h => by rw [x.off q h]; omega⟩
theorem Nums.start {start : Nat} : Nums [start] (updI (fun _ => -1) start 0) := ⟨fun q h => updI_ne (by simpa using h), fun i q h => by
  rcases i with _ | i
  · have : start = q := by simpa using h
    subst this
    exact updI_at
  · simp at h⟩
theorem Nums.new {met : List Nat} {nm : Nat → Int} (x : Nums met nm) {q : Nat} (h : q ∉ met) : Nums (met ++ [q]) (updI nm q (met.length : Nat)) := ⟨fun y hy => by
  have h1 : y ∉ met := fun z => hy (List.mem_append_left _ z)
  have h2 : y ≠ q := fun z => hy (by rw [z]; simp)
  rw [updI_ne h2]
  exact x.off y h1, fun i y hy => by
  rcases Nat.lt_or_ge i met.length with hi | hi
  · rw [List.getElem?_append_left hi] at hy
    have : y ≠ q := fun z => h (by rw [← z]; exact List.mem_of_getElem? hy)
    rw [updI_ne this]
    exact x.on i y hy
  · rw [List.getElem?_append_right hi] at hy
    have : i = met.length := by
      have := (List.getElem?_eq_some_iff.mp hy).1
      simp at this
      omega
    subst this
    have : q = y := by simpa using hy
    subst this
    exact updI_at⟩
theorem pf_walk : ∀ δ Q3, sp_walk δ Q3 → δ.length = 2 → (∀ (i : Nat) c, δ[i]? = some (E.ow c) → i ∈ ([] : List Nat) ∧ i ∉ ([2, 3, 4, 5, 6, 7, 8, 9] : List Nat)) ∧ T_walk { nx := fun δ' => Q3 (.va .non) (outs δ δ'), rt := fun r δ' => Q3 r (outs δ δ') } (δ ++ List.replicate 8 E.no) := by
  rintro δ Q3 ⟨ls, size, net, start, rfl, hs, gn, hl, k⟩ hn
  have m1 := gn.m1
  have s1 := gn.s1
  refine ⟨own_by rfl, ?_⟩
  simp only [List.replicate, List.cons_append, List.nil_append]
  unfold T_walk
  walk_at "a"
  refine f_rep ⟨by omega, by omega, by simp; unfold sizeLine; omega⟩ ?_
  rw [rep_sgI]
  walk_at "a"
  refine f_rep ⟨by omega, by omega, by simp; unfold sizeLine; omega⟩ ?_
  rw [rep_sgI]
  walk_at "a"
  refine g_at (i := 2) rfl (by rw [List.length_map, sgI_len]; exact ix_nat hl) ?_
  rw [sgI_set]
  walk_at "a"
  refine g_at (i := 3) rfl (by rw [List.length_map, sgI_len]; exact ix_nat hl) ?_
  rw [sgI_set]
  walk_at "a"
  refine s_while (fun δ => ∃ (i : Nat) (met : List Nat) (nm sg : Nat → Int) (tr : Bool) (e6 e7 e8 e9 : E), δ = [.va (planD ls size net), .va (.int (start : Nat)), .ow (.l ((sgI size nm).map D.int)), .ow (.l ((sgI size sg).map D.int)), .ow (.l (natsD met)), .va (.int (i : Nat)), e6, e7, e8, e9] ∧ Rnd net size start (fun _ => 0) i 0 met sg tr ∧ Nums met nm ∧ i ≤ size)
    (fun δ => size - atOfW 5 δ) ⟨0, [start], _, _, true, _, _, _, _, rfl, Rnd.start hl, Nums.start, by omega⟩ ?_
  rintro δ ⟨i, met, nm, sg, tr, e6, e7, e8, e9, rfl, x, nu, hi⟩
  have xl := x.size_
  walk_at "a"
  · rename_i hlt
    rw [natsD_len] at hlt
    have hlt : i < met.length := by omega
    have hp : met[i]? = some met[i] := List.getElem?_eq_getElem hlt
    generalize met[i] = p at hp
    obtain ⟨p1, p2, p3⟩ := x.mem p (List.mem_of_getElem? hp)
    have pp : ∀ {met' : List Nat}, met'[i]? = some p → L2.atI (natsD met') (i : Int) = some (.int (p : Nat)) := fun h => map_at (by omega) h
    refine f_ixL (pp hp) ?_
    walk_at "a"
    rw [show strsT ls = .tup (ls.map D.str) from rfl]
    walk_at "a"
    rw [List.length_map]
    refine ⟨by omega, ?_⟩
    refine for_by (fun j δ => ∃ (met' : List Nat) (nm' sg' : Nat → Int) (tr' : Bool) (e7 e8 e9 : E), δ = [.va (planD ls size net), .va (.int (start : Nat)), .ow (.l ((sgI size nm').map D.int)), .ow (.l ((sgI size sg').map D.int)), .ow (.l (natsD met')), .va (.int ((i : Int) + 1)), .va (.int (p : Nat)), e7, e8, e9] ∧ Rnd net size start (fun _ => 0) i j met' sg' tr' ∧ Nums met' nm' ∧ met'[i]? = some p)
      ⟨met, nm, sg, tr, _, _, _, rfl, x, nu, hp⟩ (fun p hp => nomatch hp) (fun _ _ _ p hp => nomatch hp) ?_ ?_
    · rintro j y δ e ⟨met', nm', sg', tr', e7, e8, e9, rfl, x', nu', hp'⟩
      obtain ⟨hj, rfl⟩ := rangeD_get e
      rw [Int.toNat_natCast] at hj
      obtain ⟨r, f, g⟩ := gn.get hj
      obtain ⟨q, t, e1, hq, _, _⟩ := g.ok p p1
      have xl' := x'.size_
      rw [Int.zero_add]
      walk_at "a"
      refine ⟨ls, size, net, j, p, r, _, rfl, f, e1, ?_⟩
      unfold pairD
      walk_at "a"
      refine f_ixL (sgI_at hq) ?_
      walk_at "a"
      · rename_i hneg
        have qn := (nu'.neg q).mp hneg
        have z0 : sg' q = 0 := x'.off q qn
        refine g_at (i := 2) rfl (by rw [List.length_map, sgI_len]; exact ix_nat hq) ?_
        rw [natsD_len, sgI_set]
        walk_at "a"
        refine f_ixL (sgI_at p1) ?_
        walk_at "a"
        refine g_at (i := 3) rfl (by rw [List.length_map, sgI_len]; exact ix_nat hq) ?_
        rw [sgI_set]
        walk_at "a"
        refine f_app (by rw [natsD_len]; unfold sizeLine; omega) ?_
        walk_at "a"
        rw [natsD_snoc]
        have hl' := (List.getElem?_eq_some_iff.mp hp').1
        exact ⟨met' ++ [q], _, _, tr', _, _, _, rfl, x'.new gn hp' f e1 z0, nu'.new qn, by rw [List.getElem?_append_left hl']; exact hp'⟩
      · rename_i hneg
        have qm : q ∈ met' := Classical.byContradiction fun h => hneg ((nu'.neg q).mpr h)
        have z0 : sg' q ≠ 0 := by rcases (x'.mem q qm).2.2 with e | e <;> rw [e] <;> decide
        exact ⟨met', nm', sg', _, _, _, _, rfl, x'.old (fun _ _ => rfl) hp' f e1 z0, nu', hp'⟩
    · rintro δ ⟨met', nm', sg', tr', e7, e8, e9, rfl, x', nu', hp'⟩
      have ln : (rangeD 0 (Int.toNat (ls.length : Int))).length = net.length := by rw [rangeD_len, Int.toNat_natCast, gn.len]
      rw [ln] at x'
      have xl' := x'.size_
      have hl' := (List.getElem?_eq_some_iff.mp hp').1
      refine ⟨⟨i + 1, met', nm', sg', tr', _, _, _, _, rfl, x'.turn, nu', by omega⟩, ?_⟩
      show size - (i + 1) < size - i
      omega
  · rename_i hlt
    rw [natsD_len] at hlt
    have e := x.fin (by omega)
    walk_at "a"
    exact k met nm sg tr e (fun q _ => nu.neg q) nu.on

-- slots [(0, 'plan'), (1, 'start'), (2, 'numbers'), (3, 'turns'), (4, 'order'), (5, 'at'), (6, 'copy'), (7, 'side'), (8, 'other'), (9, 'sign')]; stored [2, 3, 4, 5, 6, 7, 8, 9]

/-! ### parts -/
def T_parts : DS := seq (ssetO 1 (tb2 timesF (tlst (tac (tc (.bl false)) (ta0))) (tfldc "Plan" "copies" (tv 0)))) (seq (ssetO 2 (tlst (ta0))) (seq (sfor [3, 4, 5, 6, 7] (irng1 (tfldc "Plan" "copies" (tv 0))) (dName 3) (sif (tnot (ttru (tb2 ixF (tv 1) (tv 3)))) (seq (sasg (tcall sp_walk [false, false] (tac (tv 0) (tac (tv 3) (ta0)))) (dTup 3 (dCons (dName 4) (dCons (dName 5) (dCons (dName 6) (dNil)))))) (seq (sfor [7] (ilist (tv 4)) (dName 7) (sasg (tc (.bl true)) (dSub (tv 1) (tv 7)))) (sexpr (tlm appF (tv 2) (tac (tcb sortedF (tac (tv 4) (ta0))) (ta0)))))) (snext))) (sret [] (tv 2))))
theorem pf_parts : ∀ δ Q3, sp_parts δ Q3 → δ.length = 1 → (∀ (i : Nat) c, δ[i]? = some (E.ow c) → i ∈ ([] : List Nat) ∧ i ∉ ([1, 2, 3, 4, 5, 6, 7] : List Nat)) ∧ T_parts { nx := fun δ' => Q3 (.va .non) (outs δ δ'), rt := fun r δ' => Q3 r (outs δ δ') } (δ ++ List.replicate 7 E.no) := by
  rintro δ Q3 ⟨ls, size, net, f, rfl, hs, gn, hf, kk⟩ hn
  have s1 := gn.s1
  refine ⟨own_by rfl, ?_⟩
  simp only [List.replicate, List.cons_append, List.nil_append]
  unfold T_parts
  walk_at "a"
  refine f_rep ⟨by omega, by omega, by simp; unfold sizeLine; omega⟩ ?_
  have one : (List.replicate (Int.toNat (size : Int)) [D.bl false]).flatten = boolD size fun x => decide (f x < 0) := by
    rw [Int.toNat_natCast]
    unfold boolD
    refine List.ext_getElem? fun i => ?_
    by_cases hi : i < size
    · rw [List.getElem?_map, List.getElem?_range hi]
      simp [List.flatten_replicate_singleton, hi]
    · rw [List.getElem?_eq_none (by simp; omega), List.getElem?_eq_none (by simp; omega)]
  rw [one]
  walk_at "a"
  refine ⟨by omega, ?_⟩
  refine for_by (fun j δ => ∃ e3 e4 e5 e6 e7, δ = [.va (planD ls size net), .ow (.l (boolD size fun x => decide (f x < j))), .ow (.l ((headL j f).map (partD size f))), e3, e4, e5, e6, e7] ∧ NoO e3 ∧ NoO e4 ∧ NoO e5 ∧ NoO e6 ∧ NoO e7) ⟨_, _, _, _, _, rfl, noO_no, noO_no, noO_no, noO_no, noO_no⟩ (fun p hp => nomatch hp) (fun _ _ _ p hp => nomatch hp) ?_ ?_
  · rintro j y δ e ⟨e3, e4, e5, e6, e7, rfl, n3, n4, n5, n6, n7⟩
    obtain ⟨hj, rfl⟩ := rangeD_get e
    rw [Int.toNat_natCast] at hj
    rw [Int.zero_add]
    have hle := hf.le j
    walk_at "a"
    refine f_ixL (boolD_at hj) ?_
    walk_at "a"
    rotate_left
    · rename_i hnj
      have hfj : f j = j := by omega
      refine ⟨ls, size, net, j, rfl, hs, gn, hj, fun met nm sg tr re n1 n2 => ?_⟩
      have hm : ∀ q, q ∈ met ↔ q < size ∧ f q = j := fun q => by
        rw [re.mem, hf.iff gn, hfj]
        exact ⟨fun e => ⟨by
          have : Reach net j q := (hf.iff gn).mpr (by rw [hfj, e])
          exact reach_lt gn this hj, e.symm⟩, fun e => e.2.symm⟩
      walk_at "a"
      refine for_by (fun i δ => ∃ e7, δ = [.va (planD ls size net), .ow (.l (boolD size fun x => decide (f x < j) || decide (x ∈ met.take i))), .ow (.l ((headL j f).map (partD size f))), .va (.int (j : Nat)), .va (.lst (natsD met)), .va (.lst ((sgI size nm).map D.int)), .va (.lst ((sgI size sg).map D.int)), e7] ∧ NoO e7) ⟨_, by simp, n7⟩ (fun p hp => nomatch hp) (fun _ _ _ p hp => nomatch hp) ?_ ?_
      · rintro i y δ e ⟨e7, rfl, n7⟩
        obtain ⟨q, hq, rfl⟩ := map_some e
        have hqs := re.lt q (List.mem_of_getElem? hq)
        walk_at "a"
        refine g_at (i := 1) rfl (by rw [boolD_len]; exact ix_nat hqs) ?_
        rw [boolD_set]
        walk_at "a"
        refine ⟨.va (.int (q : Nat)), ?_, noO_va⟩
        rw [boolD_congr (c := fun x => decide (f x < j) || decide (x ∈ met.take (i + 1))) fun x hx => ?_]
        rw [List.take_add_one, hq]
        by_cases w : x = q <;> simp [w]
      · rintro δ ⟨e7, rfl, n7⟩
        rw [natsD_len, List.take_length]
        walk_at "a"
        rw [natsD_eq]
        walk_at "a"
        rw [partL_sorted re.nd hm, ← natsD_eq]
        walk_at "a"
        refine f_app (by rw [List.length_map]; have := headL_len (size := j) (f := f); unfold sizeLine; omega) ?_
        walk_at "a"
        refine ⟨.va (.int (j : Nat)), .va (.lst (natsD met)), .va (.lst ((sgI size nm).map D.int)), .va (.lst ((sgI size sg).map D.int)), e7, ?_, noO_va, noO_va, noO_va, noO_va, n7⟩
        rw [← natsD_eq met, headL_succ, if_pos hfj, List.map_append]
        rw [boolD_congr (c := fun x => decide (f x < j + 1)) fun x hx => ?_]
        · rfl
        · by_cases w : f x = j
          · simp [w, (hm x).mpr ⟨hx, w⟩]
          · have : x ∉ met := fun h => w ((hm x).mp h).2
            have e3 : (f x < j + 1) ↔ f x < j := by omega
            simp [this, e3]
    · rename_i hlt
      refine ⟨.va (.int (j : Nat)), e4, e5, e6, e7, ?_, noO_va, n4, n5, n6, n7⟩
      rw [headL_succ, if_neg (by omega)]
      rw [boolD_congr (c := fun x => decide (f x < j + 1)) fun x hx => ?_]
      refine decide_eq_decide.mpr ⟨fun h => by omega, fun h => ?_⟩
      have h3 := hf.idem gn x
      rcases Nat.lt_or_ge (f x) j with h2 | h2
      · exact h2
      · have h4 : f x = j := by omega
        rw [h4] at h3
        omega
  · rintro δ ⟨e3, e4, e5, e6, e7, rfl, n3, n4, n5, n6, n7⟩
    rw [rangeD_len, Int.toNat_natCast]
    walk_at "a"
    exact kk

-- slots [(0, 'plan'), (1, 'met'), (2, 'found'), (3, 'start'), (4, 'order'), (5, 'numbers'), (6, 'turns'), (7, 'copy')]; stored [1, 2, 3, 4, 5, 6, 7]

/-! ### _law_like -/
def T_law_like (s0 : DSp) : DS := seq (sif (tt (tisi2 .list .tuple (tv 1))) (seq (sif (tor (tt (tb2 (bF neF) (tisi .list (tv 0)) (tisi .list (tv 1)))) (tt (tb2 (bF neF) (tisi .tuple (tv 0)) (tisi .tuple (tv 1))))) (sret [0, 1] (tc (.bl false))) (snext)) (sret [0, 1] (tandV (tb2 (bF eqF) (tcb lenF (tac (tv 0) (ta0))) (tcb lenF (tac (tv 1) (ta0)))) (tcb allF (tac (tcomp (izipA (tv 0) (tv 1)) (dTup 2 (dCons (dName 2) (dCons (dName 3) (dNil)))) (tyes) (tcall s0 [true, true] (tac (tv 2) (tac (tv 3) (ta0)))) [2, 3]) (ta0)))))) (snext)) (seq (sif (tor (tt (tb2 (bF isF) (tv 1) (tc .non))) (tt (tb2 (bF isF) (tv 0) (tc .non)))) (sret [0, 1] (tandV (tb2 (bF isF) (tv 1) (tc .non)) (tb2 (bF isF) (tv 0) (tc .non)))) (snext)) (seq (sif (tor (tt (tisi2 .list .tuple (tv 0))) (tt (tb2 (bF neF) (tisi .bool (tv 0)) (tisi .bool (tv 1))))) (sret [0, 1] (tc (.bl false))) (snext)) (seq (sif (tor (tt (tb2 (bF neF) (tisi .str (tv 0)) (tisi .str (tv 1)))) (tt (tb2 (bF neF) (tisi .int (tv 0)) (tisi .int (tv 1))))) (sret [0, 1] (tc (.bl false))) (snext)) (sret [0, 1] (tandV (tb2 (bF eqF) (tisi .dict (tv 0)) (tisi .dict (tv 1))) (tb2 (bF eqF) (tv 0) (tv 1)))))))
theorem zE_cases {e : E} {d : D} (h : zE (some e) = some d) : e = .va d ∨ (∃ xs, e = .ow (.l xs) ∧ d = .lst xs) ∨ ∃ cn ns xs, d = .obj cn ns xs := by
  cases e with
  | no => cases h
  | va d' => cases h; exact .inl rfl
  | ow c =>
    cases c with
    | l xs => cases h; exact .inr (.inl ⟨xs, rfl, rfl⟩)
    | d kvs => cases h
    | o cn fs => cases h; exact .inr (.inr ⟨_, _, _, rfl⟩)
theorem pf_law_like : ∀ (N : Nat) δ Q3, sp_law_like N δ Q3 → δ.length = 2 → (∀ (i : Nat) c, δ[i]? = some (E.ow c) → i ∈ ([0, 1] : List Nat) ∧ i ∉ ([] : List Nat)) ∧ T_law_like (pv_law_like N) { nx := fun δ' => Q3 (.va .non) (outs δ δ'), rt := fun r δ' => Q3 r (outs δ δ') } (δ ++ List.replicate 2 E.no) := by
  rintro N δ Q3 ⟨d, e1, e2, rfl, h1, h2, h, k⟩ hl
  cases h with
  | non =>
    obtain rfl : e1 = .va .non := by rcases zE_cases h1 with h | ⟨_, _, h⟩ | ⟨_, _, _, h⟩ <;> first | exact h | cases h
    obtain rfl : e2 = .va .non := by rcases zE_cases h2 with h | ⟨_, _, h⟩ | ⟨_, _, _, h⟩ <;> first | exact h | cases h
    refine ⟨own_by rfl, ?_⟩
    simp only [List.replicate, List.cons_append, List.nil_append]
    unfold T_law_like
    walk_at "a"
    walk_at "x"
    exact k
  | bl b =>
    obtain rfl : e1 = .va (.bl b) := by rcases zE_cases h1 with h | ⟨_, _, h⟩ | ⟨_, _, _, h⟩ <;> first | exact h | cases h
    obtain rfl : e2 = .va (.bl b) := by rcases zE_cases h2 with h | ⟨_, _, h⟩ | ⟨_, _, _, h⟩ <;> first | exact h | cases h
    refine ⟨own_by rfl, ?_⟩
    simp only [List.replicate, List.cons_append, List.nil_append]
    unfold T_law_like
    walk_at "a"
    walk_at "x"
    refine f_eq (b := true) ⟨_, _, rfl, rfl, rfl, rfl, by cases b <;> rfl⟩ ?_
    walk_at "a"
    exact k
  | int i =>
    obtain rfl : e1 = .va (.int i) := by rcases zE_cases h1 with h | ⟨_, _, h⟩ | ⟨_, _, _, h⟩ <;> first | exact h | cases h
    obtain rfl : e2 = .va (.int i) := by rcases zE_cases h2 with h | ⟨_, _, h⟩ | ⟨_, _, _, h⟩ <;> first | exact h | cases h
    refine ⟨own_by rfl, ?_⟩
    simp only [List.replicate, List.cons_append, List.nil_append]
    unfold T_law_like
    walk_at "a"
    walk_at "x"
    simpa [outs] using k
  | str x hx =>
    obtain rfl : e1 = .va (.str x) := by rcases zE_cases h1 with h | ⟨_, _, h⟩ | ⟨_, _, _, h⟩ <;> first | exact h | cases h
    obtain rfl : e2 = .va (.str x) := by rcases zE_cases h2 with h | ⟨_, _, h⟩ | ⟨_, _, _, h⟩ <;> first | exact h | cases h
    refine ⟨own_by rfl, ?_⟩
    simp only [List.replicate, List.cons_append, List.nil_append]
    unfold T_law_like
    walk_at "a"
    walk_at "x"
    refine f_eqP (b := true) (n := 0) (m := 0) (.str x hx) (.str x hx) (by omega) (by omega) (by simp) ?_
    walk_at "a"
    exact k
  | @tup n xs hx hn =>
    obtain rfl : e1 = .va (.tup xs) := by rcases zE_cases h1 with h | ⟨_, _, h⟩ | ⟨_, _, _, h⟩ <;> first | exact h | cases h
    obtain rfl : e2 = .va (.tup xs) := by rcases zE_cases h2 with h | ⟨_, _, h⟩ | ⟨_, _, _, h⟩ <;> first | exact h | cases h
    refine ⟨own_by rfl, ?_⟩
    simp only [List.replicate, List.cons_append, List.nil_append]
    unfold T_law_like
    walk_at "a"
    walk_at "x"
    refine comp_map (fun _ => .bl true) rfl (fun p hp => nomatch hp) (fun p hp => nomatch hp) (fun j z e => ?_) ?_
    · obtain ⟨x, y, e1, e2, rfl⟩ := zipD_get e
      rw [e1] at e2
      cases e2
      have hj := (List.getElem?_eq_some_iff.mp e1).1
      walk_at "a"
      refine ⟨x, _, _, rfl, rfl, rfl, hx x (List.mem_of_getElem? e1), ?_⟩
      walk_at "a"
      exact m_end2 (by unfold sizeLine; omega) rfl rfl
    · walk_at "a"
      refine f_allT ?_
      walk_at "a"
      exact k
  | @lst n xs hx hn =>
    obtain rfl | rfl : e1 = .va (.lst xs) ∨ e1 = .ow (.l xs) := by
      rcases zE_cases h1 with h | ⟨_, h', h⟩ | ⟨_, _, _, h⟩
      · exact .inl h
      · cases h; exact .inr h'
      · cases h
    all_goals
      obtain rfl | rfl : e2 = .va (.lst xs) ∨ e2 = .ow (.l xs) := by
        rcases zE_cases h2 with h | ⟨_, h', h⟩ | ⟨_, _, _, h⟩
        · exact .inl h
        · cases h; exact .inr h'
        · cases h
    all_goals
      refine ⟨own_by rfl, ?_⟩
      simp only [List.replicate, List.cons_append, List.nil_append]
      unfold T_law_like
      walk_at "a"
      walk_at "x"
      refine comp_map (fun _ => .bl true) rfl (by simp) (by simp) (fun j z e => ?_) ?_
      · obtain ⟨x, y, e1, e2, rfl⟩ := zipD_get e
        rw [e1] at e2
        cases e2
        have hj := (List.getElem?_eq_some_iff.mp e1).1
        walk_at "a"
        refine ⟨x, _, _, rfl, rfl, rfl, hx x (List.mem_of_getElem? e1), ?_⟩
        walk_at "a"
        exact m_end2 (by unfold sizeLine; omega) rfl rfl
      · walk_at "a"
        refine f_allT ?_
        walk_at "a"
        exact k

-- slots [(0, 'told'), (1, 'due'), (2, 'x'), (3, 'y')]; stored []

/-! ### _law_reached -/
def T_law_reached : DS := seq (sparN [2, 3] [true, false] (tac (tlst (tac (tv 1) (ta0))) (tac (tc (.int 0)) (ta0)))) (seq (swhile (tt (tb2 (bF (iF (fun i j => decide (i < j)))) (tv 3) (tcb lenF (tac (tv 2) (ta0))))) (seq (sfor [4] (ilist (tv 0)) (dName 4) (sif (tt (tb2 (bF ninF) (tb2 ixF (tb2 ixF (tv 4) (tb2 ixF (tv 2) (tv 3))) (tc (.int 0))) (tv 2))) (sexpr (tlm appF (tv 2) (tac (tb2 ixF (tb2 ixF (tv 4) (tb2 ixF (tv 2) (tv 3))) (tc (.int 0))) (ta0)))) (snext))) (sset 3 (tb2 plusF (tv 3) (tc (.int 1)))))) (sret [] (tcomp (irng1 (tcb lenF (tac (tb2 ixF (tv 0) (tc (.int 0))) (ta0)))) (dName 5) (tt (tb2 (bF inF) (tv 5) (tv 2))) (tv 5) [5])))
def atOfQ (i : Nat) (δ : En) : Nat := match δ[i]? with
  | some (.va (.int k)) => k.toNat
  | _ => 0
/-- found on the way -/
structure Fnd (n : Net) (size z at_ : Nat) (fd : List Nat) : Prop where
  nd : fd.Nodup
  hd : z ∈ fd
  ok : ∀ q ∈ fd, q < size ∧ Reach n z q
  cl : ∀ i p, i < at_ → fd[i]? = some p → ∀ y, adj n p y → y ∈ fd
theorem Fnd.size_ {n : Net} {size z at_ : Nat} {fd : List Nat} (x : Fnd n size z at_ fd) : fd.length ≤ size := by
  have := nodup_sub_len (m := List.range size) x.nd fun q hq => List.mem_range.mpr (x.ok q hq).1
  rwa [List.length_range] at this
theorem Fnd.add {n : Net} {size z at_ : Nat} {fd : List Nat} (x : Fnd n size z at_ fd) {q : Nat} (h : q ∉ fd) (hq : q < size) (r : Reach n z q) (ha : at_ ≤ fd.length) : Fnd n size z at_ (fd ++ [q]) where
  nd := List.nodup_append.mpr ⟨x.nd, by simp, fun c hc b hb => by simp at hb; rw [hb]; exact fun e => h (by rw [← e]; exact hc)⟩
  hd := List.mem_append_left _ x.hd
  ok := fun y hy => by
    rcases List.mem_append.mp hy with hy | hy
    · exact x.ok y hy
    · simp at hy
      subst hy
      exact ⟨hq, r⟩
  cl := fun i p hi hp y a => by
    rw [List.getElem?_append_left (by omega)] at hp
    exact List.mem_append_left _ (x.cl i p hi hp y a)
theorem pf_law_reached : ∀ δ Q3, sp_law_reached δ Q3 → δ.length = 2 → (∀ (i : Nat) c, δ[i]? = some (E.ow c) → i ∈ ([] : List Nat) ∧ i ∉ ([2, 3, 4] : List Nat)) ∧ T_law_reached { nx := fun δ' => Q3 (.va .non) (outs δ δ'), rt := fun r δ' => Q3 r (outs δ δ') } (δ ++ List.replicate 4 E.no) := by
  rintro δ Q3 ⟨many, size, net, f, z, rfl, gn, hf, hz, kk⟩ hn
  have s1 := gn.s1
  have m1 := gn.m1
  have s0 := gn.s0
  obtain ⟨r0, hr0, g0⟩ := gn.get gn.m0
  refine ⟨own_by rfl, ?_⟩
  simp only [List.replicate, List.cons_append, List.nil_append]
  unfold T_law_reached
  walk_at "a"
  refine s_while (fun δ => ∃ (i : Nat) (fd : List Nat) (e4 : E), δ = [.va (netD net), .va (.int (z : Nat)), .ow (.l (natsD fd)), .va (.int (i : Nat)), e4, .no] ∧ Fnd net size z i fd ∧ i ≤ fd.length)
    (fun δ => size - atOfQ 3 δ) ⟨0, [z], _, rfl, ⟨by simp, by simp, fun q hq => by simp at hq; subst hq; exact ⟨hz, reach_refl⟩, fun i p hi => by omega⟩, by simp⟩ ?_
  rintro δ ⟨i, fd, e4, rfl, x, hi⟩
  have xl := x.size_
  walk_at "a"
  · rename_i hlt
    rw [natsD_len] at hlt
    have hlt : i < fd.length := by omega
    have hp : fd[i]? = some fd[i] := List.getElem?_eq_getElem hlt
    generalize fd[i] = p at hp
    obtain ⟨p1, p2⟩ := x.ok p (List.mem_of_getElem? hp)
    have pp : ∀ {fd' : List Nat}, fd'[i]? = some p → L2.atI (natsD fd') (i : Int) = some (.int (p : Nat)) := fun h => map_at (by omega) h
    rw [netD_eq]
    walk_at "a"
    refine for_by (fun j δ => ∃ (fd' : List Nat) (e4 : E), δ = [.va (netD net), .va (.int (z : Nat)), .ow (.l (natsD fd')), .va (.int (i : Nat)), e4, .no] ∧ Fnd net size z i fd' ∧ fd'[i]? = some p ∧ ∀ j', j' < j → ∀ r, net[j']? = some r → ∀ (y : Nat) t, r[p]? = some ((y : Int), t) → y ∈ fd')
      ⟨fd, _, rfl, x, hp, fun j' h => by omega⟩ (fun p hp => nomatch hp) (fun _ _ _ p hp => nomatch hp) ?_ ?_
    · rintro j y δ e ⟨fd', e4, rfl, x', hp', now⟩
      obtain ⟨r, hr, rfl⟩ := map_some e
      have g := gn.row r (List.mem_of_getElem? hr)
      obtain ⟨q, t, e1, hq, _, _⟩ := g.ok p p1
      have xl' := x'.size_
      have il := (List.getElem?_eq_some_iff.mp hp').1
      have ar : adj net p q := ⟨r, List.mem_of_getElem? hr, t, e1⟩
      have step : ∀ fd2 : List Nat, (∀ y ∈ fd', y ∈ fd2) → q ∈ fd2 → ∀ j', j' < j + 1 → ∀ r, net[j']? = some r → ∀ (y : Nat) t, r[p]? = some ((y : Int), t) → y ∈ fd2 := fun fd2 h1 h2 j' hj' r' hr' y t' e => by
        by_cases w : j' < j
        · exact h1 y (now j' w r' hr' y t' e)
        · have : j' = j := by omega
          subst this
          rw [hr] at hr'
          cases hr'
          rw [e1] at e
          have : (q : Int) = y := congrArg Prod.fst (Option.some.inj e)
          have : q = y := by omega
          rw [← this]
          exact h2
      rw [rowD_eq r]
      walk_at "a"
      refine f_ixL (pp hp') ?_
      walk_at "a"
      refine f_ixL (map_at (Int.natCast_nonneg _) e1) ?_
      unfold pairD
      walk_at "a"
      refine f_ninN ?_
      walk_at "a"
      rotate_left
      · rename_i hnm
        have hnm : q ∉ fd' := by simpa using hnm
        refine f_ixL (pp hp') ?_
        walk_at "a"
        refine f_ixL (map_at (Int.natCast_nonneg _) e1) ?_
        walk_at "a"
        refine f_app (by rw [natsD_len]; unfold sizeLine; omega) ?_
        walk_at "a"
        rw [natsD_snoc]
        exact ⟨fd' ++ [q], _, rfl, x'.add hnm hq (reach_trans p2 (reach_one ar)) (by omega), by rw [List.getElem?_append_left il]; exact hp', step _ (fun y hy => List.mem_append_left _ hy) (by simp)⟩
      · rename_i hnm
        have hnm : q ∈ fd' := by simpa using hnm
        exact ⟨fd', _, rfl, x', hp', step _ (fun y hy => hy) hnm⟩
    · rintro δ ⟨fd', e4, rfl, x', hp', now⟩
      have xl' := x'.size_
      have il := (List.getElem?_eq_some_iff.mp hp').1
      walk_at "a"
      refine ⟨⟨i + 1, fd', _, rfl, ⟨x'.nd, x'.hd, x'.ok, fun i' p' hi' hp2 y a => ?_⟩, by omega⟩, ?_⟩
      · by_cases w : i' < i
        · exact x'.cl i' p' w hp2 y a
        · have : i' = i := by omega
          subst this
          rw [hp'] at hp2
          cases hp2
          obtain ⟨r, hr, t, e⟩ := a
          obtain ⟨j, hj⟩ := List.mem_iff_getElem?.mp hr
          exact now j (by rw [List.length_map]; exact (List.getElem?_eq_some_iff.mp hj).1) r hj y t e
      · show size - (i + 1) < size - i
        omega
  · rename_i hlt
    rw [natsD_len] at hlt
    have hlt : i = fd.length := by omega
    have mm : ∀ q, q ∈ fd ↔ Reach net z q := fun q => ⟨fun hq => (x.ok q hq).2, fun r => r (fun z => z ∈ fd) x.hd fun a b k ab => by
      obtain ⟨i', hi'⟩ := List.mem_iff_getElem?.mp k
      exact x.cl i' a (by have := (List.getElem?_eq_some_iff.mp hi').1; omega) hi' b ab⟩
    rw [netD_eq]
    walk_at "a"
    refine f_ixL (map_at (by omega) hr0) ?_
    rw [rowD_eq r0]
    walk_at "a"
    rw [List.length_map, g0.len]
    refine ⟨by omega, ?_⟩
    refine comp_by (fun j acc δ => acc = natsD ((List.range j).filter fun x => decide (x ∈ fd)) ∧ δ = [.va (.lst (net.map rowD)), .va (.int (z : Nat)), .ow (.l (natsD fd)), .va (.int (i : Nat)), e4, .no]) ⟨rfl, rfl⟩ rfl (fun p hp => nomatch hp) (fun _ _ _ _ p hp => nomatch hp) ?_ ?_
    · rintro j y acc δ e ⟨rfl, rfl⟩
      obtain ⟨hj, rfl⟩ := rangeD_get e
      rw [Int.toNat_natCast] at hj
      rw [Int.zero_add]
      have len : (natsD ((List.range j).filter fun x => decide (x ∈ fd))).length < sizeLine := by
        rw [natsD_len]
        have := List.length_filter_le (fun x => decide (x ∈ fd)) (List.range j)
        rw [List.length_range] at this
        unfold sizeLine
        omega
      walk_at "a"
      refine f_inN ?_
      walk_at "a"
      · rename_i hm
        have hm : j ∈ fd := by simpa using hm
        refine ⟨len, ?_, rfl⟩
        rw [List.range_succ, List.filter_append, natsD_snoc]
        simp [hm]
      · rename_i hm
        have hm : j ∉ fd := by simpa using hm
        refine ⟨?_, rfl⟩
        rw [List.range_succ, List.filter_append]
        simp [hm]
    · rintro acc δ ⟨rfl, rfl⟩
      rw [rangeD_len, Int.toNat_natCast]
      have e2 : (List.range size).filter (fun x => decide (x ∈ fd)) = partL size f (f z) := by
        unfold partL
        refine List.filter_congr fun x _ => ?_
        rw [Bool.eq_iff_iff, decide_eq_true_eq, beq_iff_eq, mm, hf.iff gn]
        exact eq_comm
      rw [e2]
      walk_at "a"
      exact kk

-- slots [(0, 'net'), (1, 'z'), (2, 'found'), (3, 'spot'), (4, 'moves'), (5, 'x')]; stored [2, 3, 4]

/-! ### _law_parts_so -/
def T_law_parts_so : DS := seq (sset 2 (tcb lenF (tac (tb2 ixF (tv 1) (tc (.int 0))) (ta0)))) (seq (sif (tnot (tt (tcall (sp_law_like 3) [true, true] (tac (tv 0) (tac (tcall sp_law_parts [false] (tac (tv 1) (ta0))) (ta0)))))) (sret [] (tc (.bl false))) (snext)) (seq (sif (tnot (tt (tcb allF (tac (tcomp (irng1 (tv 2)) (dName 4) (tyes) (tb2 (bF eqF) (tcb lenF (tac (tcomp (ilist (tv 0)) (dName 5) (tt (tb2 (bF inF) (tv 4) (tv 5))) (tv 5) [5]) (ta0))) (tc (.int 1))) [4]) (ta0))))) (sret [] (tc (.bl false))) (snext)) (sret [] (tcb allF (tac (tcomp (ilist (tv 0)) (dName 3) (tyes) (tb2 (bF eqF) (tcall sp_law_reached [false, false] (tac (tv 1) (tac (tb2 ixF (tv 3) (tc (.int 0))) (ta0)))) (tv 3)) [3]) (ta0))))))
theorem pf_law_parts_so : ∀ δ Q3, sp_law_parts_so δ Q3 → δ.length = 2 → (∀ (i : Nat) c, δ[i]? = some (E.ow c) → i ∈ ([] : List Nat) ∧ i ∉ ([2] : List Nat)) ∧ T_law_parts_so { nx := fun δ' => Q3 (.va .non) (outs δ δ'), rt := fun r δ' => Q3 r (outs δ δ') } (δ ++ List.replicate 4 E.no) := by
  rintro δ Q3 ⟨many, size, net, f, rfl, gn, hf, kk⟩ hn
  have s1 := gn.s1
  obtain ⟨r0, hr0, g0⟩ := gn.get gn.m0
  refine ⟨own_by rfl, ?_⟩
  simp only [List.replicate, List.cons_append, List.nil_append]
  unfold T_law_parts_so
  rw [netD_eq net]
  walk_at "a"
  refine f_ixL (map_at (by omega) hr0) ?_
  rw [rowD_eq r0]
  walk_at "a"
  rw [List.length_map, g0.len]
  refine ⟨many, size, net, rfl, gn, f, hf, ?_⟩
  walk_at "a"
  refine ⟨_, _, _, rfl, rfl, rfl, lk_parts s1, ?_⟩
  walk_at "a"
  refine ⟨by omega, ?_⟩
  refine comp_map (fun _ => .bl true) rfl (fun p hp => nomatch hp) (fun p hp => nomatch hp) (fun x y e => ?_) ?_
  · obtain ⟨hx, rfl⟩ := rangeD_get e
    rw [Int.toNat_natCast] at hx
    rw [Int.zero_add]
    walk_at "a"
    refine comp_by (fun j acc δ => acc = (((headL size f).take j).filter fun z => decide (x ∈ partL size f z)).map (partD size f) ∧ δ = [.va (.lst ((headL size f).map (partD size f))), .va (.lst (net.map rowD)), .va (.int (size : Nat)), .no, .va (.int (x : Nat)), .no]) ⟨rfl, rfl⟩ rfl (fun p hp => nomatch hp) (fun _ _ _ _ p hp => nomatch hp) ?_ ?_
    · rintro j y acc δ e ⟨rfl, rfl⟩
      obtain ⟨z, hz, rfl⟩ := map_some e
      have hj := (List.getElem?_eq_some_iff.mp hz).1
      have hl := headL_len (size := size) (f := f)
      have len : ((((headL size f).take j).filter fun z => decide (x ∈ partL size f z)).map (partD size f)).length < sizeLine := by
        rw [List.length_map]
        have := List.length_filter_le (fun z => decide (x ∈ partL size f z)) ((headL size f).take j)
        rw [List.length_take] at this
        unfold sizeLine
        omega
      rw [show partD size f z = D.lst (natsD (partL size f z)) from rfl]
      walk_at "a"
      refine f_inN ?_
      walk_at "a"
      · rename_i hm
        refine ⟨len, ?_, rfl⟩
        rw [List.take_add_one, hz, Option.toList_some, List.filter_append, List.map_append, List.filter_cons_of_pos (by simpa using hm)]
        rfl
      · rename_i hm
        refine ⟨?_, rfl⟩
        rw [List.take_add_one, hz, Option.toList_some, List.filter_append, List.map_append, List.filter_cons_of_neg (by simpa using hm)]
        simp
    · rintro acc δ ⟨rfl, rfl⟩
      rw [List.length_map, List.take_length, hf.one gn hx]
      walk_at "a"
      exact m_end2 (by unfold sizeLine; omega) rfl rfl
  · walk_at "a"
    refine f_allT ?_
    walk_at "a"
    refine comp_map (fun _ => .bl true) rfl (fun p hp => nomatch hp) (fun p hp => nomatch hp) (fun i y e => ?_) ?_
    · obtain ⟨z, hz, rfl⟩ := map_some e
      have hzm := mem_headL.mp (List.mem_of_getElem? hz)
      have hi := (List.getElem?_eq_some_iff.mp hz).1
      have hl := headL_len (size := size) (f := f)
      have h0 : ∃ q, (partL size f z)[0]? = some q := by
        cases hq : partL size f z with
        | nil => exact absurd hq (hf.isFolk gn (List.mem_of_getElem? hz)).ne
        | cons a l => exact ⟨a, rfl⟩
      obtain ⟨q, hq⟩ := h0
      obtain ⟨q1, q2⟩ := mem_partL.mp (List.mem_of_getElem? hq)
      unfold partD
      walk_at "a"
      refine f_ixL (map_at (by omega) hq) ?_
      walk_at "a"
      refine ⟨many, size, net, f, q, rfl, gn, hf, q1, ?_⟩
      walk_at "a"
      rw [q2]
      refine f_eqN ?_
      rw [decide_eq_true rfl]
      walk_at "a"
      exact m_end2 (by unfold sizeLine; omega) rfl rfl
    · walk_at "a"
      refine f_allT ?_
      walk_at "a"
      exact kk

-- slots [(0, 'told'), (1, 'net'), (2, 'size'), (3, 'folk'), (4, 'x'), (5, 'z')]; stored [2]

/-! ### part_plan -/
def T_part_plan : DS := seq (sset 2 (tb2 ixF (tcall sp_parts [false] (tac (tv 0) (ta0))) (tv 1))) (seq (ssetO 3 (tdcomp (ienum (tv 2)) (dTup 2 (dCons (dName 7) (dCons (dName 8) (dNil)))) (tyes) (tv 8) (tv 7) [7, 8])) (seq (ssetO 4 (tlst (ta0))) (seq (sfor [5, 6] (irng1 (tcb lenF (tac (tfldc "Plan" "sides" (tv 0)) (ta0)))) (dName 5) (seq (sset 6 (tcomp (ilist (tv 2)) (dName 8) (tyes) (tmeth "Plan" "step" sp_Plan_step [false, false, false] (tv 0) (tac (tv 5) (tac (tv 8) (ta0)))) [8])) (sexpr (tlm appF (tv 4) (tac (tcomp (ilist (tv 6)) (dTup 2 (dCons (dName 9) (dCons (dName 10) (dNil)))) (tyes) (ttup (tac (tdget (tv 3) (tv 9)) (tac (tv 10) (ta0)))) [9, 10]) (ta0)))))) (sret [] (tmake "Plan" sp_Plan_init__ [false, false] (tac (tfldc "Plan" "sides" (tv 0)) (tac (tvz 4) (ta0))))))))
theorem pf_part_plan : ∀ δ Q3, sp_part_plan δ Q3 → δ.length = 2 → (∀ (i : Nat) c, δ[i]? = some (E.ow c) → i ∈ ([] : List Nat) ∧ i ∉ ([2, 3, 4, 5, 6] : List Nat)) ∧ T_part_plan { nx := fun δ' => Q3 (.va .non) (outs δ δ'), rt := fun r δ' => Q3 r (outs δ δ') } (δ ++ List.replicate 9 E.no) := by
  rintro δ Q3 ⟨ls, size, net, f, j, z, rfl, hs, gn, hf, hz, kk⟩ hn
  have s1 := gn.s1
  have m1 := gn.m1
  have fo := hf.isFolk gn (List.mem_of_getElem? hz)
  refine ⟨own_by rfl, ?_⟩
  simp only [List.replicate, List.cons_append, List.nil_append]
  unfold T_part_plan
  walk_at "a"
  refine ⟨ls, size, net, f, rfl, hs, gn, hf, ?_⟩
  walk_at "a"
  refine f_ixL (map_at (by omega) hz) ?_
  unfold partD
  walk_at "a"
  generalize hfo : partL size f z = folk at fo ⊢
  have fl : folk.length ≤ 1000 := by rw [← hfo]; exact Nat.le_trans partL_len s1
  have gp := fo.net gn
  refine dcomp_by (fun i acc δ => δ = [.va (planD ls size net), .va (.int (j : Nat)), .va (.lst (natsD folk)), .no, .no, .no, .no, .no, .no, .no, .no] ∧ acc.length ≤ i ∧ ∀ y q, y < i → folk[y]? = some q → valD acc (.inl (q : Nat)) = some (.int (y : Nat))) ⟨rfl, Nat.zero_le _, fun y q h => by omega⟩ rfl (fun p hp => nomatch hp) (fun _ _ _ _ p hp => nomatch hp) ?_ ?_
  · rintro i y acc δ e ⟨rfl, la, va⟩
    obtain ⟨d, hd, rfl⟩ := enumD_get e
    obtain ⟨q, hq, rfl⟩ := map_some hd
    have hi := (List.getElem?_eq_some_iff.mp hq).1
    rw [Nat.zero_add]
    walk_at "a"
    refine ⟨_, _, _, rfl, rfl, rfl, by unfold sizeLine; omega, rfl, by have := putD_len (k := .inl (q : Nat)) (v := .int (i : Nat)) (kvs := acc); omega, fun y r hy hr => ?_⟩
    rw [valD_put]
    by_cases w : y = i
    · subst w
      rw [hq] at hr
      cases hr
      rw [if_pos rfl]
    · rw [if_neg fun z => w ?_]
      · exact va y r (by omega) hr
      · have : r = q := by
          have : (r : Int) = q := Sum.inl.inj z
          omega
        subst this
        exact (idx_of fo.nd hr).symm.trans (idx_of fo.nd hq)
  · rintro acc δ ⟨rfl, la, va⟩
    rw [enumD_len, natsD_len] at *
    have num : ∀ q, q ∈ folk → valD acc (.inl (q : Nat)) = some (.int (folk.idxOf q : Nat)) := fun q hq => va _ q (List.idxOf_lt_length_of_mem hq) (idx_get hq)
    walk_at "a"
    rw [show strsT ls = .tup (ls.map D.str) from rfl]
    walk_at "a"
    rw [List.length_map]
    refine ⟨by omega, ?_⟩
    refine for_by (fun k δ => ∃ e5 e6, δ = [.va (planD ls size net), .va (.int (j : Nat)), .va (.lst (natsD folk)), .ow (.d acc), .ow (.l (((partN folk net).take k).map rowD)), e5, e6, .no, .no, .no, .no] ∧ NoO e5 ∧ NoO e6) ⟨_, _, rfl, noO_no, noO_no⟩ (fun p hp => nomatch hp) (fun _ _ _ p hp => nomatch hp) ?_ ?_
    · rintro k y δ e ⟨e5, e6, rfl, n5, n6⟩
      obtain ⟨hk, rfl⟩ := rangeD_get e
      rw [Int.toNat_natCast] at hk
      obtain ⟨r, hr, g⟩ := gn.get hk
      rw [Int.zero_add]
      walk_at "a"
      refine comp_map (fun i => pairD (r.getD (folk.getD i 0) (0, 1))) rfl (fun p hp => nomatch hp) (fun p hp => nomatch hp) (fun i y e => ?_) ?_
      · obtain ⟨q, hq, rfl⟩ := map_some e
        have hi := (List.getElem?_eq_some_iff.mp hq).1
        have hqs := fo.lt q (List.mem_of_getElem? hq)
        obtain ⟨y, t, e1, hy, _, _⟩ := g.ok q hqs
        walk_at "a"
        refine ⟨ls, size, net, k, q, r, _, rfl, hr, e1, ?_⟩
        walk_at "a"
        refine m_end2 (by unfold sizeLine; omega) rfl ?_
        rw [List.getD_eq_getElem?_getD (l := folk), hq]
        show pairD _ = pairD (r.getD q (0, 1))
        rw [List.getD_eq_getElem?_getD, e1]
        rfl
      rw [natsD_len]
      walk_at "a"
      refine comp_map (fun i => pairD ((partR folk r).getD i (0, 1))) rfl (fun p hp => nomatch hp) (fun p hp => nomatch hp) (fun i y e => ?_) ?_
      · obtain ⟨i', hi', rfl⟩ := map_some e
        rw [List.getElem?_range (by
          have := (List.getElem?_eq_some_iff.mp hi').1
          rw [List.length_range] at this
          have := (List.getElem?_eq_some_iff.mp e).1
          rw [List.length_map, List.length_range] at this
          exact this)] at hi'
        cases hi'
        have hi : i < folk.length := by
          have := (List.getElem?_eq_some_iff.mp e).1
          rw [List.length_map, List.length_range] at this
          exact this
        have hq : folk[i]? = some folk[i] := List.getElem?_eq_getElem hi
        generalize folk[i] = q at hq
        have qm := List.mem_of_getElem? hq
        have hqs := fo.lt q qm
        obtain ⟨y, t, e1, hy, _, _⟩ := g.ok q hqs
        have ym := fo.cl q qm y ⟨r, List.mem_of_getElem? hr, t, e1⟩
        have ev : pairD (r.getD (folk.getD i 0) (0, 1)) = .tup [.int (y : Nat), .int t] := by
          rw [List.getD_eq_getElem?_getD (l := folk), hq]
          show pairD (r.getD q (0, 1)) = _
          rw [List.getD_eq_getElem?_getD, e1]
          rfl
        rw [ev]
        walk_at "a"
        refine ⟨_, _, _, _, rfl, rfl, rfl, num y ym, ?_⟩
        walk_at "a"
        refine m_end2 (by unfold sizeLine; omega) rfl ?_
        rw [List.getD_eq_getElem?_getD, partR_get hq e1]
        rfl
      have e2 : (List.range folk.length).map (fun i => pairD ((partR folk r).getD i (0, 1))) = (partR folk r).map pairD := by
        rw [show folk.length = (partR folk r).length by simp [partR], map_range_getD]
      rw [List.length_map, List.length_range, e2]
      walk_at "a"
      refine f_app (by rw [List.length_map]; have := List.length_take_le k (partN folk net); unfold sizeLine; omega) ?_
      walk_at "a"
      have en : (partN folk net)[k]? = some (partR folk r) := by unfold partN; rw [List.getElem?_map, hr]; rfl
      have e3 : ((partN folk net).take (k + 1)).map rowD = ((partN folk net).take k).map rowD ++ [rowD (partR folk r)] := by
        rw [List.take_add_one, en, Option.toList_some, List.map_append (l₁ := (partN folk net).take k)]
        rfl
      rw [e3]
      exact ⟨_, _, rfl, noO_va, noO_va⟩
    · rintro δ ⟨e5, e6, rfl, n5, n6⟩
      rw [rangeD_len, Int.toNat_natCast, List.take_of_length_le (by rw [gp.len]; exact Nat.le_refl _)]
      walk_at "a"
      refine ⟨ls, folk.length, partN folk net, rfl, hs, gp, ?_⟩
      refine ⟨rfl, _, _, _, rfl, ?_⟩
      walk_at "a"
      rw [hfo] at kk
      exact kk

-- slots [(0, 'plan'), (1, 'at'), (2, 'part'), (3, 'numbers'), (4, 'rows'), (5, 'side'), (6, 'led'), (7, 'number'), (8, 'copy'), (9, 'other'), (10, 'sign')]; stored [2, 3, 4, 5, 6]

/-! ### _law_quads -/
def T_law_quads : DS := seq (ssetO 1 (tlst (ta0))) (seq (sfor [2] (irng1 (tcb lenF (tac (tv 0) (ta0)))) (dName 2) (sexpr (textend (tv 1) (tcomp (irng1 (tcb lenF (tac (tb2 ixF (tv 0) (tv 2)) (ta0)))) (dName 3) (tyes) (ttup (tac (tv 2) (tac (tv 3) (tac (tb2 ixF (tb2 ixF (tb2 ixF (tv 0) (tv 2)) (tv 3)) (tc (.int 0))) (tac (tb2 ixF (tb2 ixF (tb2 ixF (tv 0) (tv 2)) (tv 3)) (tc (.int 1))) (ta0)))))) [3])))) (sret [] (tv 1)))
theorem pf_law_quads : ∀ δ Q3, sp_law_quads δ Q3 → δ.length = 1 → (∀ (i : Nat) c, δ[i]? = some (E.ow c) → i ∈ ([] : List Nat) ∧ i ∉ ([1, 2] : List Nat)) ∧ T_law_quads { nx := fun δ' => Q3 (.va .non) (outs δ δ'), rt := fun r δ' => Q3 r (outs δ δ') } (δ ++ List.replicate 3 E.no) := by
  rintro δ Q3 ⟨many, size, net, rfl, h, k⟩ hl
  have m1 := h.m1
  have s1 := h.s1
  have hlen := h.len
  refine ⟨own_by rfl, ?_⟩
  simp only [List.replicate, List.cons_append, List.nil_append]
  unfold T_law_quads
  unfold netD
  walk_at "a"
  refine ⟨by simp; omega, ?_⟩
  refine for_by (fun j δ => ∃ e, δ = [.va (.lst (net.map rowD)), .ow (.l (quads 0 (net.take j))), e, .no]) ⟨_, rfl⟩ (fun p hp => nomatch hp) (fun _ _ _ p hp => nomatch hp) ?_ ?_
  · rintro j y δ e ⟨e', rfl⟩
    obtain ⟨hj, rfl⟩ := rangeD_get e
    rw [List.length_map] at hj
    have hj' : j < net.length := by omega
    obtain ⟨r, hr, g⟩ := h.get (i := j) (by omega)
    have hq : (quads 0 (net.take j)).length = j * size := by
      rw [quads_len (size := size) fun r hr => (h.row r (List.mem_of_mem_take hr)).len, List.length_take, Nat.min_eq_left (by omega)]
    have hb : j * size ≤ 8 * 1000 := Nat.mul_le_mul (by omega) s1
    have gl := g.len
    rw [Int.zero_add]
    have at1 : L2.atI (net.map rowD) (j : Int) = some (rowD r) := map_at (by omega) hr
    walk_at "a"
    refine f_ixL at1 ?_
    rw [rowD_eq r]
    walk_at "a"
    refine ⟨by simp; omega, ?_⟩
    refine comp_map (fun x => D.tup [.int (j : Nat), .int ((0 + x : Nat) : Nat), .int (r.getD x (0, 1)).1, .int (r.getD x (0, 1)).2]) rfl (fun p hp => nomatch hp) (fun p hp => nomatch hp) (fun i z e => ?_) ?_
    · obtain ⟨hi, rfl⟩ := rangeD_get e
      rw [List.length_map] at hi
      have hi' : i < r.length := by omega
      have hp : r[i]? = some r[i] := List.getElem?_eq_getElem hi'
      rw [Int.zero_add]
      have at2 : L2.atI (r.map pairD) (i : Int) = some (pairD r[i]) := map_at (by omega) hp
      walk_at "a"
      refine f_ixL at1 ?_
      rw [rowD_eq r]
      walk_at "a"
      refine f_ixL at2 ?_
      unfold pairD
      walk_at "a"
      refine f_ixL at1 ?_
      rw [rowD_eq r]
      walk_at "a"
      refine f_ixL at2 ?_
      unfold pairD
      walk_at "a"
      refine m_end2 (by unfold sizeLine; omega) rfl ?_
      rw [List.getD_eq_getElem?_getD, hp, Nat.zero_add]
      rfl
    · rw [rangeD_len, List.length_map]
      walk_at "a"
      rw [Int.toNat_natCast, ← quads1_map]
      refine ⟨_, _, rfl, rfl, fun _ h => (nomatch h), by rw [hq, quads1_len]; unfold sizeLine; omega, _, rfl, ?_⟩
      simp only [List.set_cons_succ, List.set_cons_zero]
      rw [List.take_add_one, hr, Option.toList_some, quads_snoc, List.length_take, Nat.min_eq_left (by omega), Nat.zero_add]
      exact ⟨_, rfl⟩
  · rintro δ ⟨e', rfl⟩
    walk_at "a"
    rw [rangeD_len, List.length_map, Int.toNat_natCast, List.take_length]
    exact k

-- slots [(0, 'net'), (1, 'mine'), (2, 'k'), (3, 'x')]; stored [1, 2]

/-! ### Plan.steps -/
def T_Plan_steps : DGn := gseq (gfor [1, 2, 3, 4, 5] (ienum (tfldc "Plan" "_steps" (tv 0))) (dTup 2 (dCons (dName 1) (dCons (dName 2) (dNil)))) (gseq (gfor [3, 4, 5] (ienum (tv 2)) (dTup 2 (dCons (dName 3) (dCons (dTup 2 (dCons (dName 4) (dCons (dName 5) (dNil)))) (dNil)))) (gseq (gyield (ttup (tac (tv 1) (tac (tv 3) (tac (tv 4) (tac (tv 5) (ta0))))))) (gnil))) (gnil))) (gnil)
theorem pf_Plan_steps : ∀ δ Q3, sp_Plan_steps δ Q3 → δ.length = 1 → (∀ (i : Nat) c, δ[i]? ≠ some (E.ow c)) ∧ T_Plan_steps { nx := fun ds _ => Q3 ds, rt := Q3 } [] (δ ++ List.replicate 5 E.no) := by
  rintro δ Q3 ⟨ls, size, net, rfl, h, kk⟩ hl
  refine ⟨by intro i c h; rcases i with _ | i <;> simp at h, ?_⟩
  have m1 := h.m1
  have s1 := h.s1
  have hlen := h.len
  simp only [List.replicate, List.cons_append, List.nil_append]
  unfold T_Plan_steps
  unfold planD netD
  refine g_seq ?_
  refine g_for ?_
  walk_at "a"
  generalize strsT ls = LS
  refine gfor_by (fun j ds δ => ds = quads 0 (net.take j) ∧ ∃ e1 e2 e3 e4 e5, δ = [.va (.obj "Plan" ["sides", "copies", "_steps"] [LS, .int (size : Nat), .lst (net.map rowD)]), e1, e2, e3, e4, e5]) ⟨rfl, _, _, _, _, _, rfl⟩ (fun p hp => nomatch hp) (fun _ _ _ _ p hp => nomatch hp) ?_ ?_
  · rintro j y ds δ e ⟨rfl, e1, e2, e3, e4, e5, rfl⟩
    obtain ⟨z, hz, rfl⟩ := enumD_get e
    obtain ⟨r, hr, rfl⟩ := map_some hz
    have g := h.row r (List.mem_of_getElem? hr)
    have hj := (List.getElem?_eq_some_iff.mp hr).1
    have hq : (quads 0 (net.take j)).length = j * size := by
      rw [quads_len (size := size) fun r hr => (h.row r (List.mem_of_mem_take hr)).len, List.length_take, Nat.min_eq_left (by omega)]
    have hb : j * size ≤ 8 * 1000 := Nat.mul_le_mul (by omega) s1
    unfold rowD
    walk_at "a"
    refine g_seq ?_
    refine g_for ?_
    walk_at "a"
    refine gfor_by (fun i ds δ => ds = quads 0 (net.take j) ++ quads1 j 0 (r.take i) ∧ ∃ e3 e4 e5, δ = [.va (.obj "Plan" ["sides", "copies", "_steps"] [LS, .int (size : Nat), .lst (net.map rowD)]), .va (.int ((0 + j : Nat) : Nat)), .va (.lst (r.map pairD)), e3, e4, e5]) ⟨by simp [quads1], _, _, _, rfl⟩ (fun p hp => nomatch hp) (fun _ _ _ _ p hp => nomatch hp) ?_ ?_
    · rintro i y ds δ e ⟨rfl, e3, e4, e5, rfl⟩
      obtain ⟨z, hz, rfl⟩ := enumD_get e
      obtain ⟨p, hp, rfl⟩ := map_some hz
      have hi : i < r.length := (List.getElem?_eq_some_iff.mp hp).1
      have hi2 := g.len
      unfold pairD
      walk_at "a"
      refine g_seq ?_
      refine g_yield (by rw [List.length_append, hq, quads1_len, List.length_take]; unfold sizeLine; omega) ?_
      walk_at "a"
      refine ⟨?_, _, _, _, rfl⟩
      rw [List.take_add_one, hp, Option.toList_some, quads1_snoc, List.length_take, Nat.min_eq_left (by omega), List.append_assoc, Nat.zero_add, Nat.zero_add]
    · rintro ds δ ⟨rfl, e3, e4, e5, rfl⟩
      refine ⟨?_, _, _, _, _, _, rfl⟩
      rw [enumD_len, List.length_map, List.take_length, List.take_add_one, hr, Option.toList_some, quads_snoc, List.length_take, Nat.min_eq_left (by omega), Nat.zero_add]
  · rintro ds δ ⟨rfl, e1, e2, e3, e4, e5, rfl⟩
    show Q3 _
    rw [enumD_len, List.length_map, List.take_length]
    exact kk

-- slots [(0, 'self'), (1, 'side'), (2, 'row'), (3, 'copy'), (4, 'other'), (5, 'sign')]; stored [1, 2, 3, 4, 5]

/-! ### _law_plan_so -/
def T_law_plan_so : DS := seq (sif (tor (tnot (tt (tisC "Plan" (tv 0)))) (tnot (tt (tcall (sp_law_like 3) [true, true] (tac (tlst (tac (tfldc "Plan" "sides" (tv 0)) (tac (tfldc "Plan" "copies" (tv 0)) (ta0)))) (tac (tlst (tac (tv 1) (tac (tcb lenF (tac (tb2 ixF (tv 2) (tc (.int 0))) (ta0))) (ta0)))) (ta0))))))) (sret [] (tc (.bl false))) (snext)) (sret [] (tcall (sp_law_like 3) [true, true] (tac (tlistm "Plan" "steps" sp_Plan_steps (tv 0)) (tac (tcall sp_law_quads [false] (tac (tv 2) (ta0))) (ta0)))))
theorem pf_law_plan_so : ∀ δ Q3, sp_law_plan_so δ Q3 → δ.length = 3 → (∀ (i : Nat) c, δ[i]? = some (E.ow c) → i ∈ ([] : List Nat) ∧ i ∉ ([] : List Nat)) ∧ T_law_plan_so { nx := fun δ' => Q3 (.va .non) (outs δ δ'), rt := fun r δ' => Q3 r (outs δ δ') } (δ ++ List.replicate 0 E.no) := by
  rintro δ Q3 ⟨ls, size, net, rfl, hs, h, k⟩ hl
  obtain ⟨r0, hr0, g0⟩ := h.get h.m0
  refine ⟨own_by rfl, ?_⟩
  simp only [List.replicate, List.cons_append, List.nil_append]
  unfold T_law_plan_so
  unfold planD
  walk_at "a"
  rw [netD_eq]
  refine f_ixL (map_at (by omega) hr0) ?_
  rw [rowD_eq r0]
  walk_at "a"
  rw [List.length_map, g0.len]
  refine ⟨_, _, _, rfl, rfl, rfl, lk_head hs _, ?_⟩
  walk_at "a"
  refine ⟨ls, size, net, rfl, h, ?_⟩
  walk_at "a"
  refine ⟨_, size, net, rfl, h, ?_⟩
  walk_at "a"
  refine ⟨_, _, _, rfl, rfl, rfl, lk_quads h, ?_⟩
  walk_at "a"
  exact k

-- slots [(0, 'told'), (1, 'labels'), (2, 'net')]; stored []

/-! ### _law_part_net -/
def T_law_part_net : DS := sret [] (tcomp (ilist (tv 0)) (dName 2) (tyes) (tcomp (ilist (tv 1)) (dName 3) (tyes) (ttup (tac (tindex (tv 1) (tb2 ixF (tb2 ixF (tv 2) (tv 3)) (tc (.int 0)))) (tac (tb2 ixF (tb2 ixF (tv 2) (tv 3)) (tc (.int 1))) (ta0)))) [3]) [2])
theorem pf_law_part_net : ∀ δ Q3, sp_law_part_net δ Q3 → δ.length = 2 → (∀ (i : Nat) c, δ[i]? = some (E.ow c) → i ∈ ([] : List Nat) ∧ i ∉ ([] : List Nat)) ∧ T_law_part_net { nx := fun δ' => Q3 (.va .non) (outs δ δ'), rt := fun r δ' => Q3 r (outs δ δ') } (δ ++ List.replicate 2 E.no) := by
  rintro δ Q3 ⟨many, size, net, folk, rfl, gn, fo, kk⟩ hn
  have s1 := gn.s1
  have m1 := gn.m1
  have fl := (fo.net gn).s1
  refine ⟨own_by rfl, ?_⟩
  simp only [List.replicate, List.cons_append, List.nil_append]
  unfold T_law_part_net
  rw [netD_eq net]
  walk_at "a"
  refine comp_map (fun k => rowD ((partN folk net).getD k [])) rfl (fun p hp => nomatch hp) (fun p hp => nomatch hp) (fun k y e => ?_) ?_
  · obtain ⟨r, hr, rfl⟩ := map_some e
    have hk := (List.getElem?_eq_some_iff.mp hr).1
    have g := gn.row r (List.mem_of_getElem? hr)
    rw [rowD_eq r]
    walk_at "a"
    refine comp_map (fun i => pairD ((partR folk r).getD i (0, 1))) rfl (fun p hp => nomatch hp) (fun p hp => nomatch hp) (fun i y e => ?_) ?_
    · obtain ⟨q, hq, rfl⟩ := map_some e
      have hi := (List.getElem?_eq_some_iff.mp hq).1
      have qm := List.mem_of_getElem? hq
      have hqs := fo.lt q qm
      obtain ⟨y, t, e1, hy, _, _⟩ := g.ok q hqs
      have ym := fo.cl q qm y ⟨r, List.mem_of_getElem? hr, t, e1⟩
      rw [natsD_eq folk]
      walk_at "a"
      refine f_ixL (map_at (Int.natCast_nonneg _) e1) ?_
      unfold pairD
      walk_at "a"
      refine index_ints (ns := folk.map fun q : Nat => (q : Int)) (c := (y : Int)) (by rfl) (by rfl) (mem_cast ym) ?_
      rw [idx_cast]
      walk_at "a"
      refine f_ixL (map_at (Int.natCast_nonneg _) e1) ?_
      walk_at "a"
      refine m_end2 (by unfold sizeLine; omega) rfl ?_
      rw [List.getD_eq_getElem?_getD, partR_get hq e1]
      rfl
    · have e2 : (List.range folk.length).map (fun i => pairD ((partR folk r).getD i (0, 1))) = (partR folk r).map pairD := by
        rw [show folk.length = (partR folk r).length by simp [partR], map_range_getD]
      rw [natsD_len, e2]
      walk_at "a"
      refine m_end2 (by have := gn.len; unfold sizeLine; omega) rfl ?_
      have en : (partN folk net)[k]? = some (partR folk r) := by unfold partN; rw [List.getElem?_map, hr]; rfl
      rw [List.getD_eq_getElem?_getD, en]
      rfl
  · have e2 : (List.range net.length).map (fun k => rowD ((partN folk net).getD k [])) = (partN folk net).map rowD := by
      rw [show net.length = (partN folk net).length by simp [partN], map_range_getD]
    rw [List.length_map, e2]
    walk_at "a"
    exact kk

-- slots [(0, 'net'), (1, 'folk'), (2, 'moves'), (3, 'x')]; stored []

/-! ### _law_part_plans_so -/
def T_law_part_plans_so : DS := seq (sfor [4, 5] (irng1 (tcb lenF (tac (tv 3) (ta0)))) (dName 4) (seq (sset 5 (tif (tt (tb2 (bF eqF) (tv 4) (tc (.int 1)))) (tcallP sp_part_plan [false, false] 0 2 [1, 0] (ta0) (tac (tv 4) (tac (tv 0) (ta0)))) (tcall sp_part_plan [false, false] (tac (tv 0) (tac (tv 4) (ta0)))))) (sif (tnot (tt (tcall sp_law_plan_so [false, false, false] (tac (tv 5) (tac (tv 1) (tac (tcall sp_law_part_net [false, false] (tac (tv 2) (tac (tb2 ixF (tv 3) (tv 4)) (ta0)))) (ta0))))))) (sret [] (tc (.bl false))) (snext)))) (sret [] (tc (.bl true)))
theorem pf_law_part_plans_so : ∀ δ Q3, sp_law_part_plans_so δ Q3 → δ.length = 4 → (∀ (i : Nat) c, δ[i]? = some (E.ow c) → i ∈ ([] : List Nat) ∧ i ∉ ([4, 5] : List Nat)) ∧ T_law_part_plans_so { nx := fun δ' => Q3 (.va .non) (outs δ δ'), rt := fun r δ' => Q3 r (outs δ δ') } (δ ++ List.replicate 2 E.no) := by
  rintro δ Q3 ⟨ls, size, net, f, rfl, hs, gn, hf, kk⟩ hn
  have s1 := gn.s1
  refine ⟨own_by rfl, ?_⟩
  simp only [List.replicate, List.cons_append, List.nil_append]
  unfold T_law_part_plans_so
  walk_at "a"
  have hl := headL_len (size := size) (f := f)
  refine ⟨by rw [List.length_map]; omega, ?_⟩
  refine for_by (fun j δ => ∃ e4 e5, δ = [.va (planD ls size net), .va (strsT ls), .va (netD net), .va (.lst ((headL size f).map (partD size f))), e4, e5] ∧ NoO e4 ∧ NoO e5) ⟨_, _, rfl, noO_no, noO_no⟩ (fun p hp => nomatch hp) (fun _ _ _ p hp => nomatch hp) ?_ ?_
  · rintro j y δ e ⟨e4, e5, rfl, n4, n5⟩
    obtain ⟨hj, rfl⟩ := rangeD_get e
    rw [Int.toNat_natCast, List.length_map] at hj
    have hz : (headL size f)[j]? = some (headL size f)[j] := List.getElem?_eq_getElem hj
    generalize (headL size f)[j] = z at hz
    have fo := hf.isFolk gn (List.mem_of_getElem? hz)
    rw [Int.zero_add]
    refine g_name (s_norm rfl ?_)
    refine seqJ (fun δ => δ = [.va (planD ls size net), .va (strsT ls), .va (netD net), .va (.lst ((headL size f).map (partD size f))), .va (.int (j : Nat)), .va (planD ls (partL size f z).length (partN (partL size f z) net))]) (fun m hm => ?_) ?_
    · walk_at "a"
      · refine ⟨ls, size, net, f, j, z, rfl, hs, gn, hf, hz, ?_⟩
        walk_at "a"
        exact hm _ rfl
      · refine ⟨ls, size, net, f, j, z, rfl, hs, gn, hf, hz, ?_⟩
        walk_at "a"
        exact hm _ rfl
    rintro δ rfl
    walk_at "a"
    refine f_ixL (map_at (by omega) hz) ?_
    unfold partD
    walk_at "a"
    refine ⟨ls.length, size, net, partL size f z, rfl, gn, fo, ?_⟩
    walk_at "a"
    refine ⟨ls, (partL size f z).length, partN (partL size f z) net, rfl, hs, fo.net gn, ?_⟩
    walk_at "a"
    exact ⟨_, _, rfl, noO_va, noO_va⟩
  · rintro δ ⟨e4, e5, rfl, n4, n5⟩
    walk_at "a"
    exact kk

-- slots [(0, 'held'), (1, 'labels'), (2, 'net'), (3, 'folks'), (4, 'k'), (5, 'told')]; stored [4, 5]

/-! ### _law_led -/
def T_law_led : DS := seq (sset 3 (tc (.int 1))) (seq (sfor [2, 3, 4, 5] (itup (tv 1)) (dName 4) (seq (sset 5 (tb2 ixF (tb2 ixF (tv 0) (tv 4)) (tv 2))) (spar2 2 3 false false (tac (tb2 ixF (tv 5) (tc (.int 0))) (tac (tb2 timesF (tv 3) (tb2 ixF (tv 5) (tc (.int 1)))) (ta0)))))) (sret [] (ttup (tac (tv 2) (tac (tv 3) (ta0))))))
theorem pf_law_led : ∀ δ Q3, sp_law_led δ Q3 → δ.length = 3 → (∀ (i : Nat) c, δ[i]? = some (E.ow c) → i ∈ ([] : List Nat) ∧ i ∉ ([2, 3, 4, 5] : List Nat)) ∧ T_law_led { nx := fun δ' => Q3 (.va .non) (outs δ δ'), rt := fun r δ' => Q3 r (outs δ δ') } (δ ++ List.replicate 3 E.no) := by
  rintro δ Q3 ⟨many, size, net, w, x, rfl, gn, hw, wl, hx, kk⟩ hn
  refine ⟨own_by rfl, ?_⟩
  simp only [List.replicate, List.cons_append, List.nil_append]
  unfold T_law_led
  walk_at "a"
  refine for_by (fun j δ => ∃ e4 e5, δ = [.va (netD net), .va (.tup (natsD w)), .va (.int ((ledN net (w.take j) (x, 1)).1 : Nat)), .va (.int (ledN net (w.take j) (x, 1)).2), e4, e5]) ⟨_, _, rfl⟩ (fun p hp => nomatch hp) (fun _ _ _ p hp => nomatch hp) ?_ ?_
  · rintro j y δ e ⟨e4, e5, rfl⟩
    obtain ⟨c, hc, rfl⟩ := map_some e
    have hw' : ∀ k ∈ w.take j, k < many := fun k hk => hw k (List.mem_of_mem_take hk)
    obtain ⟨l1, _⟩ := ledN_ok gn hw' (p := (x, 1)) hx
    obtain ⟨r, hr, g⟩ := gn.get (hw c (List.mem_of_getElem? hc))
    obtain ⟨y, s, e1, hy, hsg, _⟩ := g.ok _ l1
    rw [netD_eq]
    walk_at "a"
    refine f_ixL (map_at (Int.natCast_nonneg _) hr) ?_
    rw [rowD_eq r]
    walk_at "a"
    refine f_ixL (map_at (Int.natCast_nonneg _) e1) ?_
    unfold pairD
    walk_at "a"
    rw [List.take_add_one, hc, Option.toList_some, ledN_snoc, stp_get hr e1]
    exact ⟨_, _, rfl⟩
  · rintro δ ⟨e4, e5, rfl⟩
    rw [natsD_len, List.take_length]
    walk_at "a"
    exact kk

-- slots [(0, 'net'), (1, 'way'), (2, 'x'), (3, 'sign'), (4, 'k'), (5, 'pair')]; stored [2, 3, 4, 5]

/-! ### _law_return -/
def T_law_return : DS := seq (sset 2 (tc (.int 0))) (seq (sfor [2, 3, 4] (irng1 (tcb lenF (tac (tb2 ixF (tv 0) (tc (.int 0))) (ta0)))) (dName 3) (seq (sset 4 (tcall sp_law_led [false, false, false] (tac (tv 0) (tac (tv 1) (tac (tv 3) (ta0)))))) (sif (tt (tb2 (bF eqF) (tb2 ixF (tv 4) (tc (.int 0))) (tv 3))) (sset 2 (tb2 plusF (tv 2) (tb2 ixF (tv 4) (tc (.int 1))))) (snext)))) (sret [] (tv 2)))
theorem pf_law_return : ∀ δ Q3, sp_law_return δ Q3 → δ.length = 2 → (∀ (i : Nat) c, δ[i]? = some (E.ow c) → i ∈ ([] : List Nat) ∧ i ∉ ([2, 3, 4] : List Nat)) ∧ T_law_return { nx := fun δ' => Q3 (.va .non) (outs δ δ'), rt := fun r δ' => Q3 r (outs δ δ') } (δ ++ List.replicate 3 E.no) := by
  rintro δ Q3 ⟨many, size, net, w, rfl, gn, hw, wl, kk⟩ hn
  have s1 := gn.s1
  obtain ⟨r0, hr0, g0⟩ := gn.get gn.m0
  refine ⟨own_by rfl, ?_⟩
  simp only [List.replicate, List.cons_append, List.nil_append]
  unfold T_law_return
  rw [netD_eq net]
  walk_at "a"
  refine f_ixL (map_at (by omega) hr0) ?_
  rw [rowD_eq r0]
  walk_at "a"
  rw [List.length_map, g0.len]
  refine ⟨by omega, ?_⟩
  refine for_by (fun j δ => ∃ e3 e4, δ = [.va (netD net), .va (.tup (natsD w)), .va (.int (sumZ ((List.range j).map (homeS net w)))), e3, e4]) ⟨_, _, rfl⟩ (fun p hp => nomatch hp) (fun _ _ _ p hp => nomatch hp) ?_ ?_
  · rintro j y δ e ⟨e3, e4, rfl⟩
    obtain ⟨hj, rfl⟩ := rangeD_get e
    rw [Int.toNat_natCast] at hj
    rw [Int.zero_add]
    walk_at "a"
    refine ⟨many, size, net, w, j, rfl, gn, hw, wl, hj, ?_⟩
    unfold ledP
    walk_at "a"
    · rename_i hq
      have hq : (ledN net w (j, 1)).1 = j := by omega
      have e5 : sumZ ((List.range (j + 1)).map (homeS net w)) = sumZ ((List.range j).map (homeS net w)) + (ledN net w (j, 1)).2 := by
        rw [List.range_succ, List.map_append, sumZ_append]
        show _ + (homeS net w j + 0) = _
        unfold homeS
        rw [if_pos hq]
        omega
      rw [e5]
      exact ⟨_, _, rfl⟩
    · rename_i hq
      have hq : (ledN net w (j, 1)).1 ≠ j := by omega
      have e5 : sumZ ((List.range (j + 1)).map (homeS net w)) = sumZ ((List.range j).map (homeS net w)) := by
        rw [List.range_succ, List.map_append, sumZ_append]
        show _ + (homeS net w j + 0) = _
        unfold homeS
        rw [if_neg hq]
        omega
      rw [e5]
      exact ⟨_, _, rfl⟩
  · rintro δ ⟨e3, e4, rfl⟩
    rw [rangeD_len, Int.toNat_natCast]
    walk_at "a"
    exact kk

-- slots [(0, 'net'), (1, 'way'), (2, 'total'), (3, 'x'), (4, 'told')]; stored [2, 3, 4]

/-! ### fixed_signs -/
def T_fixed_signs : DS := sret [] (tcb sumF (tac (tcomp (ienum (tv 0)) (dTup 2 (dCons (dName 1) (dCons (dTup 2 (dCons (dName 2) (dCons (dName 3) (dNil)))) (dNil)))) (tt (tb2 (bF eqF) (tv 2) (tv 1))) (tv 3) [1, 2, 3]) (ta0)))
theorem pf_fixed_signs : ∀ δ Q3, sp_fixed_signs δ Q3 → δ.length = 1 → (∀ (i : Nat) c, δ[i]? = some (E.ow c) → i ∈ ([] : List Nat) ∧ i ∉ ([] : List Nat)) ∧ T_fixed_signs { nx := fun δ' => Q3 (.va .non) (outs δ δ'), rt := fun r δ' => Q3 r (outs δ δ') } (δ ++ List.replicate 3 E.no) := by
  rintro δ Q3 ⟨many, size, net, w, rfl, gn, kk⟩ hn
  refine ⟨own_by rfl, ?_⟩
  simp only [List.replicate, List.cons_append, List.nil_append]
  unfold T_fixed_signs
  walk_at "a"
  have s1 := gn.s1
  refine comp_by (fun j acc δ => acc = (((List.range j).filter fun x => (ledN net w (x, 1)).1 == x).map fun x => (ledN net w (x, 1)).2).map D.int ∧ δ = [.va (.lst (ledD net w size)), .no, .no, .no]) ⟨rfl, rfl⟩ rfl (fun p hp => nomatch hp) (fun _ _ _ _ p hp => nomatch hp) ?_ ?_
  · rintro j y acc δ e ⟨rfl, rfl⟩
    obtain ⟨x, hx, rfl⟩ := enumD_get e
    obtain ⟨hj, rfl⟩ := ledD_get hx
    rw [Nat.zero_add]
    have len : ((((List.range j).filter fun x => (ledN net w (x, 1)).1 == x).map fun x => (ledN net w (x, 1)).2).map D.int).length < sizeLine := by
      rw [List.length_map, List.length_map]
      have := List.length_filter_le (fun x => (ledN net w (x, 1)).1 == x) (List.range j)
      rw [List.length_range] at this
      unfold sizeLine
      omega
    walk_at "a"
    · rename_i hq
      have hq : (ledN net w (j, 1)).1 = j := by omega
      refine ⟨len, ?_, rfl⟩
      rw [List.range_succ, List.filter_append]
      simp [hq]
    · rename_i hq
      have hq : (ledN net w (j, 1)).1 ≠ j := by omega
      refine ⟨?_, rfl⟩
      rw [List.range_succ, List.filter_append]
      simp [hq]
  · rintro acc δ ⟨rfl, rfl⟩
    rw [enumD_len, ledD_len]
    walk_at "a"
    refine ⟨_, rfl, ?_⟩
    rw [sumZ_sum, sumZ_filter]
    have e : (fun x => if ((ledN net w (x, 1)).1 == x) = true then (ledN net w (x, 1)).2 else 0) = homeS net w := by
      funext x
      unfold homeS
      simp only [beq_iff_eq]
    rw [e]
    walk_at "a"
    exact kk

-- slots [(0, 'led'), (1, 'copy'), (2, 'other'), (3, 'sign')]; stored []

/-! ### stays -/
def T_stays : DS := sret [] (tcomp (irng1 (tv 0)) (dName 1) (tyes) (ttup (tac (tv 1) (tac (tc (.int 1)) (ta0)))) [1])
theorem pf_stays : ∀ δ Q3, sp_stays δ Q3 → δ.length = 1 → (∀ (i : Nat) c, δ[i]? = some (E.ow c) → i ∈ ([] : List Nat) ∧ i ∉ ([] : List Nat)) ∧ T_stays { nx := fun δ' => Q3 (.va .non) (outs δ δ'), rt := fun r δ' => Q3 r (outs δ δ') } (δ ++ List.replicate 1 E.no) := by
  rintro δ Q3 ⟨size, rfl, s1, k⟩ hn
  refine ⟨own_by rfl, ?_⟩
  simp only [List.replicate, List.cons_append, List.nil_append]
  unfold T_stays
  walk_at "a"
  refine ⟨by omega, ?_⟩
  refine comp_map (fun x => D.tup [.int (x : Nat), .int 1]) rfl (fun p hp => nomatch hp) (fun p hp => nomatch hp) (fun j y e => ?_) ?_
  · obtain ⟨hj, rfl⟩ := rangeD_get e
    rw [Int.zero_add]
    walk_at "a"
    exact m_end2 (by rw [Int.toNat_natCast] at hj; unfold sizeLine; omega) rfl rfl
  rw [rangeD_len, Int.toNat_natCast]
  walk_at "a"
  exact k

-- slots [(0, 'copies'), (1, 'copy')]; stored []

/-! ### is_word -/
def T_is_word : DS := seq (sif (tnot (tt (tisi .tuple (tv 1)))) (sret [] (tc (.bl false))) (snext)) (seq (sset 2 (tcb lenF (tac (tv 0) (ta0)))) (sret [] (tcb allF (tac (tcomp (itup (tv 1)) (dName 3) (tyes) (tcall sp_is_index [false, false] (tac (tv 3) (tac (tv 2) (ta0)))) [3]) (ta0)))))
theorem pf_is_word : ∀ δ Q3, sp_is_word δ Q3 → δ.length = 2 → (∀ (i : Nat) c, δ[i]? = some (E.ow c) → i ∈ ([] : List Nat) ∧ i ∉ ([2] : List Nat)) ∧ T_is_word { nx := fun δ' => Q3 (.va .non) (outs δ δ'), rt := fun r δ' => Q3 r (outs δ δ') } (δ ++ List.replicate 2 E.no) := by
  rintro δ Q3 ⟨ls, w, rfl, hs, hw, wl, kk⟩ hn
  refine ⟨own_by rfl, ?_⟩
  simp only [List.replicate, List.cons_append, List.nil_append]
  unfold T_is_word
  walk_at "a"
  rw [show strsT ls = .tup (ls.map D.str) from rfl]
  walk_at "a"
  refine comp_map (fun _ => .bl true) rfl (fun p hp => nomatch hp) (fun p hp => nomatch hp) (fun j y e => ?_) ?_
  · obtain ⟨c, hc, rfl⟩ := map_some e
    have hj := (List.getElem?_eq_some_iff.mp hc).1
    have hc2 := hw c (List.mem_of_getElem? hc)
    walk_at "a"
    rw [List.length_map]
    refine ⟨_, _, rfl, ?_⟩
    rw [decide_eq_true (show (0 : Int) ≤ (c : Int) ∧ (c : Int) < (ls.length : Int) by omega)]
    walk_at "a"
    exact m_end2 (by unfold sizeLine; omega) rfl rfl
  · walk_at "a"
    refine f_allT ?_
    walk_at "a"
    exact kk

-- slots [(0, 'sides'), (1, 'value'), (2, 'many'), (3, 'letter')]; stored [2]

/-! ### led_on -/
def T_led_on : DS := seq (ssetO 3 (tlst (ta0))) (seq (sfor [4, 5, 6, 7] (ilist (tv 1)) (dTup 2 (dCons (dName 4) (dCons (dName 5) (dNil)))) (seq (sasg (tmeth "Plan" "step" sp_Plan_step [false, false, false] (tv 0) (tac (tv 2) (tac (tv 4) (ta0)))) (dTup 2 (dCons (dName 6) (dCons (dName 7) (dNil))))) (sexpr (tlm appF (tv 3) (tac (ttup (tac (tv 6) (tac (tb2 timesF (tv 5) (tv 7)) (ta0)))) (ta0)))))) (sret [] (tv 3)))
theorem pf_led_on : ∀ δ Q3, sp_led_on δ Q3 → δ.length = 3 → (∀ (i : Nat) c, δ[i]? = some (E.ow c) → i ∈ ([] : List Nat) ∧ i ∉ ([3, 4, 5, 6, 7] : List Nat)) ∧ T_led_on { nx := fun δ' => Q3 (.va .non) (outs δ δ'), rt := fun r δ' => Q3 r (outs δ δ') } (δ ++ List.replicate 5 E.no) := by
  rintro δ Q3 ⟨ls, size, net, w, k, rfl, hs, gn, hw, hk, kk⟩ hn
  have s1 := gn.s1
  refine ⟨own_by rfl, ?_⟩
  simp only [List.replicate, List.cons_append, List.nil_append]
  unfold T_led_on
  walk_at "a"
  refine for_by (fun j δ => ∃ e4 e5 e6 e7, δ = [.va (planD ls size net), .va (.lst (ledD net w size)), .va (.int (k : Nat)), .ow (.l ((ledD net (w ++ [k]) size).take j)), e4, e5, e6, e7]) ⟨_, _, _, _, rfl⟩ (fun p hp => nomatch hp) (fun _ _ _ p hp => nomatch hp) ?_ ?_
  · rintro j y δ e ⟨e4, e5, e6, e7, rfl⟩
    obtain ⟨hj, rfl⟩ := ledD_get e
    obtain ⟨l1, _⟩ := ledN_ok gn hw (p := (j, 1)) hj
    obtain ⟨r, hr, g⟩ := gn.get hk
    obtain ⟨y, s, e1, hy, hsg, _⟩ := g.ok _ l1
    walk_at "a"
    refine ⟨ls, size, net, k, _, r, _, rfl, hr, e1, ?_⟩
    unfold pairD
    walk_at "a"
    refine f_app (by have := List.length_take_le j (ledD net (w ++ [k]) size); unfold sizeLine; omega) ?_
    walk_at "a"
    rw [ledD_take hj, ledN_snoc, stp_get hr e1]
    exact ⟨_, _, _, _, rfl⟩
  · rintro δ ⟨e4, e5, e6, e7, rfl⟩
    rw [ledD_len, List.take_of_length_le (by rw [ledD_len]; exact Nat.le_refl _)]
    walk_at "a"
    exact kk

-- slots [(0, 'plan'), (1, 'led'), (2, 'side'), (3, 'further'), (4, 'copy'), (5, 'sign'), (6, 'other'), (7, 'turn')]; stored [3, 4, 5, 6, 7]

/-! ### led_copies -/
def T_led_copies : DS := seq (sif (tnot (ttru (tcall sp_is_word [false, false] (tac (tfldc "Plan" "sides" (tv 0)) (tac (tv 1) (ta0)))))) (snever) (snext)) (seq (sset 2 (tcall sp_stays [false] (tac (tfldc "Plan" "copies" (tv 0)) (ta0)))) (seq (sfor [2, 3] (itup (tv 1)) (dName 3) (sset 2 (tcall sp_led_on [false, false, false] (tac (tv 0) (tac (tv 2) (tac (tv 3) (ta0))))))) (sret [] (tv 2))))
theorem pf_led_copies : ∀ δ Q3, sp_led_copies δ Q3 → δ.length = 2 → (∀ (i : Nat) c, δ[i]? = some (E.ow c) → i ∈ ([] : List Nat) ∧ i ∉ ([2, 3] : List Nat)) ∧ T_led_copies { nx := fun δ' => Q3 (.va .non) (outs δ δ'), rt := fun r δ' => Q3 r (outs δ δ') } (δ ++ List.replicate 2 E.no) := by
  rintro δ Q3 ⟨ls, size, net, w, rfl, hs, gn, hw, wl, kk⟩ hn
  have s1 := gn.s1
  refine ⟨own_by rfl, ?_⟩
  simp only [List.replicate, List.cons_append, List.nil_append]
  unfold T_led_copies
  walk_at "a"
  refine ⟨ls, w, rfl, hs, hw, wl, ?_⟩
  walk_at "a"
  refine ⟨size, rfl, s1, ?_⟩
  walk_at "a"
  rw [show ledD [] [] size = ledD net [] size from rfl]
  refine for_by (fun j δ => ∃ e3, δ = [.va (planD ls size net), .va (.tup (natsD w)), .va (.lst (ledD net (w.take j) size)), e3]) ⟨_, rfl⟩ (fun p hp => nomatch hp) (fun _ _ _ p hp => nomatch hp) ?_ ?_
  · rintro j y δ e ⟨e3, rfl⟩
    obtain ⟨c, hc, rfl⟩ := map_some e
    walk_at "a"
    refine ⟨ls, size, net, w.take j, c, rfl, hs, gn, fun k hk => hw k (List.mem_of_mem_take hk), hw c (List.mem_of_getElem? hc), ?_⟩
    walk_at "a"
    rw [List.take_add_one, hc]
    exact ⟨_, rfl⟩
  · rintro δ ⟨e3, rfl⟩
    rw [natsD_len, List.take_length]
    walk_at "a"
    exact kk

-- slots [(0, 'plan'), (1, 'word'), (2, 'led'), (3, 'side')]; stored [2, 3]

/-! ### return_of -/
def T_return_of : DS := sret [] (tcall sp_fixed_signs [false] (tac (tcall sp_led_copies [false, false] (tac (tv 0) (tac (tv 1) (ta0)))) (ta0)))
theorem pf_return_of : ∀ δ Q3, sp_return_of δ Q3 → δ.length = 2 → (∀ (i : Nat) c, δ[i]? = some (E.ow c) → i ∈ ([] : List Nat) ∧ i ∉ ([] : List Nat)) ∧ T_return_of { nx := fun δ' => Q3 (.va .non) (outs δ δ'), rt := fun r δ' => Q3 r (outs δ δ') } (δ ++ List.replicate 0 E.no) := by
  rintro δ Q3 ⟨ls, size, net, w, rfl, hs, gn, hw, wl, kk⟩ hn
  refine ⟨own_by rfl, ?_⟩
  simp only [List.replicate, List.cons_append, List.nil_append]
  unfold T_return_of
  walk_at "a"
  refine ⟨ls, size, net, w, rfl, hs, gn, hw, wl, ?_⟩
  walk_at "a"
  refine ⟨ls.length, size, net, w, rfl, gn, ?_⟩
  walk_at "a"
  exact kk

-- slots [(0, 'plan'), (1, 'word')]; stored []

/-! ### _law_whole -/
def T_law_whole : DS := sret [] (tandV (tisi .int (tv 0)) (tnotV (tisi .bool (tv 0))))
theorem pf_law_whole : ∀ δ Q3, sp_law_whole δ Q3 → δ.length = 1 → (∀ (i : Nat) c, δ[i]? = some (E.ow c) → i ∈ ([] : List Nat) ∧ i ∉ ([] : List Nat)) ∧ T_law_whole { nx := fun δ' => Q3 (.va .non) (outs δ δ'), rt := fun r δ' => Q3 r (outs δ δ') } (δ ++ List.replicate 0 E.no) := by
  rintro δ Q3 ⟨i, rfl, k⟩ hn
  refine ⟨own_by rfl, ?_⟩
  simp only [List.replicate, List.cons_append, List.nil_append]
  unfold T_law_whole
  walk_at "a"
  walk_at "x"
  exact k

-- slots [(0, 'item')]; stored []

/-! ### _law_sums_so -/
def T_law_sums_so : DS := seq (sset 4 (tcall sp_law_return [false, false] (tac (tv 1) (tac (tv 2) (ta0))))) (seq (sif (tt (tb2 (bF neF) (tcb sumF (tac (tcomp (ilist (tv 3)) (dName 7) (tyes) (tcall sp_law_return [false, false] (tac (tcall sp_law_part_net [false, false] (tac (tv 1) (tac (tv 7) (ta0)))) (tac (tv 2) (ta0)))) [7]) (ta0))) (tv 4))) (sret [] (tc (.bl false))) (snext)) (seq (sset 5 (tcomp (irng1 (tcb lenF (tac (tv 3) (ta0)))) (dName 6) (tyes) (tcall sp_return_of [false, false] (tac (tcall sp_part_plan [false, false] (tac (tv 0) (tac (tv 6) (ta0)))) (tac (tv 2) (ta0)))) [6])) (sret [] (tandV (tcb allF (tac (tcomp (ilist (tv 5)) (dName 8) (tyes) (tcall sp_law_whole [false] (tac (tv 8) (ta0))) [8]) (ta0))) (tandV (tb2 (bF eqF) (tcb sumF (tac (tv 5) (ta0))) (tv 4)) (tcall (sp_law_like 3) [true, true] (tac (tcall sp_return_of [false, false] (tac (tv 0) (tac (tv 2) (ta0)))) (tac (tv 4) (ta0)))))))))
theorem pf_law_sums_so : ∀ δ Q3, sp_law_sums_so δ Q3 → δ.length = 4 → (∀ (i : Nat) c, δ[i]? = some (E.ow c) → i ∈ ([] : List Nat) ∧ i ∉ ([4, 5] : List Nat)) ∧ T_law_sums_so { nx := fun δ' => Q3 (.va .non) (outs δ δ'), rt := fun r δ' => Q3 r (outs δ δ') } (δ ++ List.replicate 5 E.no) := by
  rintro δ Q3 ⟨ls, size, net, w, f, rfl, hs, gn, hw, wl, hf, kk⟩ hn
  have s1 := gn.s1
  refine ⟨own_by rfl, ?_⟩
  simp only [List.replicate, List.cons_append, List.nil_append]
  unfold T_law_sums_so
  walk_at "a"
  have hl := headL_len (size := size) (f := f)
  have rs : ∀ z ∈ headL size f, retN (partN (partL size f z) net) (partL size f z).length w = retN (partN (partL size f z) net) (partL size f z).length w := fun z _ => rfl
  refine ⟨ls.length, size, net, w, rfl, gn, hw, wl, ?_⟩
  walk_at "a"
  refine comp_map (fun i => .int (((headL size f).map fun z => retN (partN (partL size f z) net) (partL size f z).length w).getD i 0)) rfl (fun p hp => nomatch hp) (fun p hp => nomatch hp) (fun i y e => ?_) ?_
  · obtain ⟨z, hz, rfl⟩ := map_some e
    have hi := (List.getElem?_eq_some_iff.mp hz).1
    have fo := hf.isFolk gn (List.mem_of_getElem? hz)
    unfold partD
    walk_at "a"
    refine ⟨ls.length, size, net, partL size f z, rfl, gn, fo, ?_⟩
    walk_at "a"
    refine ⟨ls.length, (partL size f z).length, partN (partL size f z) net, w, rfl, fo.net gn, hw, wl, ?_⟩
    walk_at "a"
    refine m_end2 (by unfold sizeLine; omega) rfl ?_
    rw [List.getD_eq_getElem?_getD, List.getElem?_map, hz]
    rfl
  have e1 : (List.range ((headL size f).map (partD size f)).length).map (fun i => D.int (((headL size f).map fun z => retN (partN (partL size f z) net) (partL size f z).length w).getD i 0)) = ((headL size f).map fun z => retN (partN (partL size f z) net) (partL size f z).length w).map D.int := by
    rw [show ((headL size f).map (partD size f)).length = ((headL size f).map fun z => retN (partN (partL size f z) net) (partL size f z).length w).length by simp, map_range_getD]
  rw [e1]
  walk_at "a"
  refine ⟨_, rfl, ?_⟩
  rw [sumZ_sum, hf.sum gn hw]
  walk_at "a"
  rotate_left
  · rename_i hb
    exact absurd rfl hb
  refine ⟨by rw [List.length_map]; omega, ?_⟩
  refine comp_map (fun i => .int (((headL size f).map fun z => retN (partN (partL size f z) net) (partL size f z).length w).getD i 0)) rfl (fun p hp => nomatch hp) (fun p hp => nomatch hp) (fun i y e => ?_) ?_
  · obtain ⟨hi, rfl⟩ := rangeD_get e
    rw [List.length_map, Int.toNat_natCast] at hi
    have hz : (headL size f)[i]? = some (headL size f)[i] := List.getElem?_eq_getElem hi
    generalize (headL size f)[i] = z at hz
    have fo := hf.isFolk gn (List.mem_of_getElem? hz)
    rw [Int.zero_add]
    walk_at "a"
    refine ⟨ls, size, net, f, i, z, rfl, hs, gn, hf, hz, ?_⟩
    walk_at "a"
    refine ⟨ls, (partL size f z).length, partN (partL size f z) net, w, rfl, hs, fo.net gn, hw, wl, ?_⟩
    walk_at "a"
    refine m_end2 (by unfold sizeLine; omega) rfl ?_
    rw [List.getD_eq_getElem?_getD, List.getElem?_map, hz]
    rfl
  rw [rangeD_len, Int.toNat_natCast, e1]
  walk_at "a"
  refine comp_map (fun _ => .bl true) rfl (fun p hp => nomatch hp) (fun p hp => nomatch hp) (fun i y e => ?_) ?_
  · obtain ⟨c, hc, rfl⟩ := map_some e
    have hi := (List.getElem?_eq_some_iff.mp hc).1
    rw [List.length_map] at hi
    walk_at "a"
    refine ⟨c, rfl, ?_⟩
    walk_at "a"
    exact m_end2 (by unfold sizeLine; omega) rfl rfl
  walk_at "a"
  refine f_allT ?_
  walk_at "a"
  walk_at "x"
  refine ⟨_, rfl, ?_⟩
  rw [sumZ_sum, hf.sum gn hw]
  walk_at "a"
  walk_at "x"
  refine ⟨ls, size, net, w, rfl, hs, gn, hw, wl, ?_⟩
  walk_at "a"
  refine ⟨_, _, _, rfl, rfl, rfl, .int _, ?_⟩
  walk_at "a"
  exact kk

-- slots [(0, 'held'), (1, 'net'), (2, 'way'), (3, 'folks'), (4, 'due'), (5, 'told'), (6, 'k'), (7, 'folk'), (8, 'x')]; stored [4, 5]

/-! ### _law_way -/
def T_law_way : DS := sret [0] (tcb tupleF (tac (tcomp (irng1 (tv 2)) (dName 3) (tyes) (tcall sp_law_draw [true, false] (tac (tv 0) (tac (tv 1) (ta0)))) [3]) (ta0)))
theorem pf_law_way : ∀ δ Q3, sp_law_way δ Q3 → δ.length = 3 → (∀ (i : Nat) c, δ[i]? = some (E.ow c) → i ∈ ([0] : List Nat) ∧ i ∉ ([] : List Nat)) ∧ T_law_way { nx := fun δ' => Q3 (.va .non) (outs δ δ'), rt := fun r δ' => Q3 r (outs δ δ') } (δ ++ List.replicate 1 E.no) := by
  rintro δ Q3 ⟨bg, many, size, rfl, hb, m0, m1, s1, k⟩ hl
  refine ⟨own_by rfl, ?_⟩
  simp only [List.replicate, List.cons_append, List.nil_append]
  unfold T_law_way
  walk_at "a"
  refine ⟨by omega, ?_⟩
  refine comp_by (fun j acc δ => ∃ (bg' : List D) (w : List Nat), IsBag bg' ∧ δ = [.ow (.l bg'), .va (.int (many : Nat)), .va (.int (size : Nat)), .no] ∧ acc = natsD w ∧ w.length = j ∧ ∀ k ∈ w, k < many)
    ⟨bg, [], hb, rfl, rfl, rfl, fun r hr => by cases hr⟩ rfl (fun p hp => nomatch hp) (fun _ _ _ _ p hp => nomatch hp) ?_ ?_
  · rintro j y acc δ e ⟨bg', w, hb', rfl, rfl, l1, g⟩
    obtain ⟨hj, rfl⟩ := rangeD_get e
    walk_at "a"
    refine ⟨bg', (many : Int), rfl, hb', by omega, by omega, fun bg3 d hb3 d0 d1 => ?_⟩
    obtain ⟨q, rfl⟩ := Int.eq_ofNat_of_zero_le d0
    walk_at "a"
    refine ⟨by rw [natsD_len]; unfold sizeLine; omega, bg3, w ++ [q], hb3, rfl, natsD_snoc, by simp; omega, fun r' hr' => ?_⟩
    rcases List.mem_append.mp hr' with h | h
    · exact g r' h
    · simp at h
      subst h
      omega
  · rintro acc δ ⟨bg', w, hb', rfl, rfl, l1, g⟩
    rw [rangeD_len, Int.toNat_natCast] at l1
    walk_at "a"
    exact k _ w hb' l1 g

-- slots [(0, 'bag'), (1, 'many_sides'), (2, 'size'), (3, 'k')]; stored []

/-! ### law -/
def T_law : DS := seq (ssetO 1 (tcall sp_law_bag [false, false] (tac (tv 0) (tac (tc (.int 1618708)) (ta0))))) (seq (sset 2 (tb2 (bF eqF) (tcall sp_law_draw [true, false] (tac (tv 1) (tac (tc (.int 10)) (ta0)))) (tc (.int 0)))) (seq (sfor [3, 4, 5, 6, 7, 8, 9, 10] (irng1 (tc (.int 3))) (dName 3) (seq (sset 4 (tcall sp_law_labels [true, false] (tac (tv 1) (tac (tcall sp_law_of [true, true] (tac (tv 1) (tac (tlst (tac (tc (.int 2)) (tac (tc (.int 1)) (tac (tc (.int 3)) (tac (tc (.int 2)) (ta0)))))) (ta0)))) (ta0))))) (seq (sset 5 (tcall sp_law_many_parts [true, false, false] (tac (tv 1) (tac (tcb lenF (tac (tv 4) (ta0))) (tac (tandV (tv 2) (tb2 (bF eqF) (tv 3) (tc (.int 0)))) (ta0)))))) (seq (sset 6 (tcall sp_law_plan [false, false] (tac (tv 4) (tac (tv 5) (ta0))))) (seq (sset 7 (tcall sp_law_parts [false] (tac (tv 5) (ta0)))) (sscr 8 [6, 3] (tif (tt (tb2 (bF eqF) (tv 3) (tc (.int 1)))) (tcallP sp_parts [false] 0 1 [0] (ta0) (tac (tv 6) (ta0))) (tcall sp_parts [false] (tac (tv 6) (ta0)))) (zcheck 8 (tor (tnot (tt (tcall sp_law_parts_so [false, false] (tac (tv 8) (tac (tv 5) (ta0)))))) (tnot (tt (tcall sp_law_part_plans_so [false, false, false, false] (tac (tv 6) (tac (tv 4) (tac (tv 5) (tac (tv 7) (ta0))))))))) (zplain (sfor [9] (irng1 (tc (.int 3))) (dName 9) (sif (tnot (tt (tcall sp_law_sums_so [false, false, false, false] (tac (tv 6) (tac (tv 5) (tac (tcall sp_law_way [true, false, false] (tac (tv 1) (tac (tcb lenF (tac (tv 4) (ta0))) (tac (tcall sp_law_of [true, true] (tac (tv 1) (tac (tlst (tac (tc (.int 2)) (tac (tc (.int 1)) (tac (tc (.int 0)) (tac (tc (.int 4)) (tac (tc (.int 3)) (tac (tc (.int 7)) (ta0)))))))) (ta0)))) (ta0))))) (tac (tv 7) (ta0)))))))) (sret [] (tc (.bl false))) (snext))) (zspoil 8 10 (tc (.int 99)) (tlst (ta0)) (sif (tor (tnot (tt (tcall sp_law_parts_so [false, false] (tac (tcall sp_parts [false] (tac (tv 6) (ta0))) (tac (tv 5) (ta0)))))) (tnot (tt (tcall sp_law_plan_so [false, false, false] (tac (tv 6) (tac (tv 4) (tac (tv 5) (ta0)))))))) (sret [] (tc (.bl false))) (snext))))))))))) (sret [] (tc (.bl true)))))
theorem sb_str {s : D} {x : Str} (h : Sb s (.str x)) : s = .str x := by cases h; rfl
theorem sb_int {s : D} {i : Int} (h : Sb s (.int i)) : s = .int i := by cases h; rfl
theorem plan_clash {ls : List Str} {size : Nat} {net : Net} (g : GoodNet ls.length size net) {s : D} (h : Sb s (planD ls size net)) (i : Int) (is : List D) : Clash s (.lst (.int i :: is)) := by
  have s0 := g.s0
  have m0 := g.m0
  unfold planD at h
  cases h with
  | refl => exact clash_obj _ _ _ _
  | obj hx h =>
    simp only [planF, List.map_cons, List.map_nil, List.mem_cons, List.not_mem_nil, or_false] at hx
    rcases hx with rfl | rfl | rfl
    · unfold strsT at h
      cases h with
      | refl => exact clash_tup _ _
      | tup hy h =>
        obtain ⟨x, _, rfl⟩ := List.mem_map.mp hy
        rw [sb_str h]
        exact clash_str _ _
    · rw [sb_int h]
      exact clash_int _ _
    · unfold netD at h
      cases h with
      | refl =>
        cases hn : net with
        | nil => rw [hn] at g; have := g.len; simp at this; omega
        | cons r rs => exact clash_lst (apart_lst_int _ _)
      | lst hy h =>
        obtain ⟨r, hr, rfl⟩ := List.mem_map.mp hy
        have gr := g.row r hr
        unfold rowD at h
        cases h with
        | refl =>
          cases hq : r with
          | nil => rw [hq] at gr; have := gr.len; simp at this; omega
          | cons p ps => exact clash_lst (apart_tup_int _ _)
        | lst hz h =>
          obtain ⟨p, _, rfl⟩ := List.mem_map.mp hz
          unfold pairD at h
          cases h with
          | refl => exact clash_tup _ _
          | tup hw h =>
            simp only [List.mem_cons, List.not_mem_nil, or_false] at hw
            rcases hw with rfl | rfl
            · rw [sb_int h]; exact clash_int _ _
            · rw [sb_int h]; exact clash_int _ _
theorem pf_law : ∀ δ Q3, sp_law δ Q3 → δ.length = 1 → (∀ (i : Nat) c, δ[i]? = some (E.ow c) → i ∈ ([] : List Nat) ∧ i ∉ ([1, 2, 3, 4, 5, 6, 7, 8, 9, 10] : List Nat)) ∧ T_law { nx := fun δ' => Q3 (.va .non) (outs δ δ'), rt := fun r δ' => Q3 r (outs δ δ') } (δ ++ List.replicate 10 E.no) := by
  rintro δ Q3 ⟨ns, rfl, nl, k⟩ hl
  refine ⟨own_by rfl, ?_⟩
  simp only [List.replicate, List.cons_append, List.nil_append]
  unfold T_law
  walk_at "a"
  refine ⟨ns, 1618708, rfl, by omega, by omega, fun bg hb => ?_⟩
  walk_at "a"
  refine ⟨bg, 10, rfl, hb, by omega, by omega, fun bg1 dear hb1 d0 d1 => ?_⟩
  walk_at "a"
  refine ⟨by omega, ?_⟩
  generalize decide (dear = 0) = dr
  refine for_by (fun j δ => ∃ bg e3 e4 e5 e6 e7 e8 e9 e10, δ = [.va (.frz (ns.map D.int)), .ow (.l bg), .va (.bl dr), e3, e4, e5, e6, e7, e8, e9, e10] ∧ IsBag bg) ⟨bg1, _, _, _, _, _, _, _, _, rfl, hb1⟩ (fun p hp => nomatch hp) (fun _ _ _ p hp => nomatch hp) ?_ ?_
  · rintro j y δ e ⟨bg2, e3, e4, e5, e6, e7, e8, e9, e10, rfl, hb2⟩
    obtain ⟨hj, rfl⟩ := rangeD_get e
    rw [Int.zero_add]
    refine g_name (s_norm rfl ?_)
    refine seqJ (fun δ => ∃ bg ls, δ = [.va (.frz (ns.map D.int)), .ow (.l bg), .va (.bl dr), .va (.int (j : Nat)), .va (strsT ls), e5, e6, e7, e8, e9, e10] ∧ IsBag bg ∧ GoodSides ls ∧ ls.length ≤ 4) (fun m hm => ?_) ?_
    · walk_at "a"
      refine ⟨bg2, _, rfl, hb2, .inl ⟨_, .inr (.inr rfl), by simp, by simp, fun bg4 x hb4 hx => ?_⟩⟩
      have hx' : ∃ q : Nat, x = .int q ∧ 0 < q ∧ q ≤ 4 := by
        simp only [List.mem_cons, List.not_mem_nil, or_false] at hx
        rcases hx with rfl | rfl | rfl | rfl
        · exact ⟨2, rfl, by omega, by omega⟩
        · exact ⟨1, rfl, by omega, by omega⟩
        · exact ⟨3, rfl, by omega, by omega⟩
        · exact ⟨2, rfl, by omega, by omega⟩
      obtain ⟨q, rfl, q0, q1⟩ := hx'
      walk_at "a"
      refine ⟨bg4, q, rfl, hb4, q0, q1, fun bg5 ls hb5 hs hl => ?_⟩
      walk_at "a"
      exact hm _ ⟨_, ls, rfl, hb5, hs, by omega⟩
    rintro δ ⟨bg4, ls, rfl, hb4, hs, l4⟩
    have m0 := hs.m0
    refine seqJ (fun δ => ∃ bg size net, δ = [.va (.frz (ns.map D.int)), .ow (.l bg), .va (.bl dr), .va (.int (j : Nat)), .va (strsT ls), .va (netD net), e6, e7, e8, e9, e10] ∧ IsBag bg ∧ GoodNet ls.length size net ∧ size ≤ 48) (fun m hm => ?_) ?_
    · rw [show strsT ls = .tup (ls.map D.str) from rfl]
      walk_at "a"
      all_goals
        refine ⟨bg4, ls.length, _, by rw [List.length_map], hb4, m0, l4, fun bg' size net hb' s48 hg => ?_⟩
        rw [List.length_map]
        walk_at "a"
        exact hm _ ⟨_, size, net, rfl, hb', hg, s48⟩
    rintro δ ⟨bg5, size, net, rfl, hb5, gn, s48⟩
    obtain ⟨f, hf⟩ := low_of gn
    have hl := headL_len (size := size) (f := f)
    walk_at "a"
    refine ⟨ls, size, net, rfl, hs, gn, ?_⟩
    walk_at "a"
    refine ⟨ls.length, size, net, rfl, gn, f, hf, ?_⟩
    walk_at "a"
    refine z_scr (by simp) ⟨[.no, .no, .no, .va (.int (j : Nat)), .no, .no, .va (planD ls size net), .no, .no, .no, .no], rfl, ?_⟩
    walk_at "a"
    all_goals
      refine ⟨ls, size, net, f, rfl, hs, gn, hf, ?_⟩
      walk_at "a"
      refine z_check ⟨[.va (.frz (ns.map D.int)), .no, .va (.bl dr), .va (.int (j : Nat)), .va (strsT ls), .va (netD net), .va (planD ls size net), .va (.lst ((headL size f).map (partD size f))), .va (.lst ((headL size f).map (partD size f))), hideE e9, hideE e10], rfl, ?_⟩
      walk_at "a"
      refine ⟨ls.length, size, net, f, rfl, gn, hf, ?_⟩
      walk_at "a"
      refine ⟨ls, size, net, f, rfl, hs, gn, hf, ?_⟩
      walk_at "a"
      refine ⟨rfl, z_plain ?_⟩
      walk_at "a"
      refine ⟨by omega, ?_⟩
      refine for_by (fun i δ => ∃ bg e9, δ = [.va (.frz (ns.map D.int)), .ow (.l bg), .va (.bl dr), .va (.int (j : Nat)), .va (strsT ls), .va (netD net), .va (planD ls size net), .va (.lst ((headL size f).map (partD size f))), .no, e9, e10] ∧ IsBag bg) ⟨bg5, _, rfl, hb5⟩ (fun p hp => nomatch hp) (fun _ _ _ p hp => nomatch hp) ?_ ?_
      · rintro i y δ e ⟨bg6, e9', rfl, hb6⟩
        rw [show strsT ls = .tup (ls.map D.str) from rfl]
        walk_at "a"
        refine ⟨bg6, _, rfl, hb6, .inl ⟨_, .inr (.inr rfl), by simp, by simp, fun bg7 x hb7 hx => ?_⟩⟩
        have hx' : ∃ q : Nat, x = .int q ∧ q ≤ 7 := by
          simp only [List.mem_cons, List.not_mem_nil, or_false] at hx
          rcases hx with rfl | rfl | rfl | rfl | rfl | rfl
          · exact ⟨2, rfl, by omega⟩
          · exact ⟨1, rfl, by omega⟩
          · exact ⟨0, rfl, by omega⟩
          · exact ⟨4, rfl, by omega⟩
          · exact ⟨3, rfl, by omega⟩
          · exact ⟨7, rfl, by omega⟩
        obtain ⟨q, rfl, q1⟩ := hx'
        walk_at "a"
        rw [List.length_map]
        refine ⟨bg7, ls.length, q, rfl, hb7, m0, by omega, by omega, fun bg8 w hb8 wl hw => ?_⟩
        walk_at "a"
        refine ⟨ls, size, net, w, f, rfl, hs, gn, hw, by omega, hf, ?_⟩
        walk_at "a"
        exact ⟨_, _, rfl, hb8⟩
      · rintro δ ⟨bg6, e9', rfl, hb6⟩
        have h0 : 0 ∈ headL size f := mem_headL.mpr ⟨gn.s0, by have := hf.le 0; omega⟩
        obtain ⟨z, zs, hz⟩ : ∃ z zs, headL size f = z :: zs := by
          cases hq : headL size f with
          | nil => rw [hq] at h0; cases h0
          | cons z zs => exact ⟨z, zs, rfl⟩
        obtain ⟨q, qs, hq⟩ : ∃ q qs, partL size f z = q :: qs := by
          cases hq : partL size f z with
          | nil => exact absurd hq (hf.isFolk gn (by rw [hz]; exact List.mem_cons_self)).ne
          | cons q qs => exact ⟨q, qs, rfl⟩
        have lq := partL_len (size := size) (f := f) (z := z)
        rw [hq] at lq
        rw [hz] at hl
        refine z_spoil (by simp) (by decide) ⟨natsD (q :: qs), zs.map (partD size f), ?_, ?_, ?_, fun s hs => ?_⟩ trivial ?_ ⟨_, rfl, ?_⟩
        · rw [hz, List.map_cons]
          unfold partD
          rw [hq]
        · rw [natsD_len]; unfold sizeLine; simp at lq ⊢; omega
        · rw [List.length_map]; unfold sizeLine; simp at hl; omega
        · obtain ⟨i, d, hi, he, hsb⟩ := hs
          simp only [List.mem_cons, List.not_mem_nil, or_false] at hi
          rcases hi with rfl | rfl
          · cases he
            exact plan_clash gn hsb _ _
          · cases he
            rw [sb_int hsb]
            exact clash_int _ _
        · walk_at "a"
          trivial
        walk_at "a"
        refine ⟨ls, size, net, f, rfl, hs, gn, hf, ?_⟩
        walk_at "a"
        refine ⟨ls.length, size, net, f, rfl, gn, hf, ?_⟩
        walk_at "a"
        refine ⟨ls, size, net, rfl, hs, gn, ?_⟩
        walk_at "a"
        exact ⟨_, _, _, _, _, _, _, _, _, rfl, hb6⟩
  · rintro δ ⟨bg2, e3, e4, e5, e6, e7, e8, e9, e10, rfl, hb2⟩
    walk_at "a"
    exact k

-- slots [(0, 'script'), (1, 'bag'), (2, 'dear'), (3, 'lap'), (4, 'labels'), (5, 'net'), (6, 'held'), (7, 'folks'), (8, 'told'), (9, 'k'), (10, 'here')]; stored [1, 2, 3, 4, 5, 6, 7, 8, 9, 10]

end L3
set_option Elab.async false
set_option linter.all false
set_option maxRecDepth 100000
set_option maxHeartbeats 4000000
namespace L3
open PySem PySem.Spec PyProof.Rows L2
def flds_Plan : List Str := ["sides", "copies", "_steps"]
section
variable {P : Program} {w : World} {K : PySem.W.Frag} {mg : Str → Option Value} {base : Heap}
theorem sc_law_bag : FnScope ["script", "salt", "mix", "item"] ["script", "salt"] (defScope (top 43)) := ⟨rfl, rfl, rfl, by decide +kernel, rfl, by decide +kernel, by decide +kernel⟩
theorem okn_law_bag {fd : FuncData} (F : FunD K "_law_bag" "_law_bag" (defArgs (top 43)) (defBody (top 43)) (defScope (top 43)) [] [] (He.ga K "_law_bag") fd) (at_ : mg "_law_bag" = some (.ref (He.ga K "_law_bag"))) (B : Blt mg)  : FnOk P w K mg base CX0 1 (He.ga K "_law_bag") fd ["script", "salt"] (up K 2 sp_law_bag) := by
  have sc := sc_law_bag
  refine F.ok sc (fun _ _ _ _ h => h.1) (fun cdv A outer s H vs Q E hr h => ?_)
  exact ⟨_, PSs.nox (pss_cons (ps_set (i := 2) sc.nd rfl (Or.inl rfl) (pv 1)) (pss_cons (ps_for PassesOwn.never rfl (pi_list (pe_slice sl_any (pv 0) (po_none) (po_some (pe_int)))) (pg_name (i := 3) sc.nd rfl (Or.inl rfl)) (pss_one (ps_set (i := 2) sc.nd rfl (Or.inl rfl) (pe_op op_mod (pe_callTy call_int1 (by rfl) B.int (by decide +kernel) (pa_cons (pe_op op_plus (pe_op op_plus (pe_op op_times (pv 2) (pe_int)) (pe_op op_mod (pe_callTy call_int1 (by rfl) B.int (by decide +kernel) (pa_cons (pv 3) (pa_nil))) (pe_int))) (pe_int)) (pa_nil))) (pe_int))))) (pss_one (ps_ret (pe_lst (pa_cons (pe_callTy call_list_of (by rfl) B.list (by decide +kernel) (pa_cons (pe_slice sl_any (pv 0) (po_none) (po_some (pe_int))) (pa_nil))) (pa_cons (pe_int) (pa_cons (pe_int) (pa_cons (pv 2) (pa_cons (pe_int) (pa_nil))))))))))),
    body_ok (SndSP.mono (bs := [2, 3]) (sndp_seq ((snds_set (snd_var)).p) (sndp_seq (sndp_for (as := [2, 3]) (sndi_list (snd_slice (snd_var) (sndo_none) (sndo_some (snd_int)))) (sndg_name) ((snds_set (snd_op snd_mod (snd_cb snd_int1 (snda_cons (snd_op snd_plus (snd_op snd_plus (snd_op snd_times (snd_var) (snd_int)) (snd_op snd_mod (snd_cb snd_int1 (snda_cons (snd_var) (snda_nil))) (snd_int))) (snd_int)) (snda_nil))) (snd_int))).p) (by decide)) (snds_ret (ps := []) (snd_lst (snda_cons (snd_cb snd_list (snda_cons (snd_slice (snd_var) (sndo_none) (sndo_some (snd_int))) (snda_nil))) (snda_cons (snd_int) (snda_cons (snd_int) (snda_cons (snd_var) (snda_cons (snd_int) (snda_nil)))))))))) (by decide)) pf_law_bag vs H Q E h⟩
theorem ok_law_bag (F : ∃ fd, FunD K "_law_bag" "_law_bag" (defArgs (top 43)) (defBody (top 43)) (defScope (top 43)) [] [] (He.ga K "_law_bag") fd) (at_ : mg "_law_bag" = some (.ref (He.ga K "_law_bag"))) (B : Blt mg)  : FP P w K mg base "_law_bag" 1 2 sp_law_bag := by
  obtain ⟨fd, F⟩ := F
  exact ⟨⟨fd, ["script", "salt"], okn_law_bag F at_ B , F.bindsN fun _ _ _ _ _ _ us hl => match us, hl with | [_, _], _ => rfl⟩, F.kp, at_⟩
theorem sc_law_draw : FnScope ["bag", "size", "item", "digit"] ["bag", "size"] (defScope (top 44)) := ⟨rfl, rfl, rfl, by decide +kernel, rfl, by decide +kernel, by decide +kernel⟩
theorem okn_law_draw {fd : FuncData} (F : FunD K "_law_draw" "_law_draw" (defArgs (top 44)) (defBody (top 44)) (defScope (top 44)) [] [] (He.ga K "_law_draw") fd) (at_ : mg "_law_draw" = some (.ref (He.ga K "_law_draw"))) (B : Blt mg)  : FnOk P w K mg base CX0 1 (He.ga K "_law_draw") fd ["bag", "size"] (up K 2 sp_law_draw) := by
  have sc := sc_law_draw
  refine F.ok sc (fun _ _ _ _ h => h.1) (fun cdv A outer s H vs Q E hr h => ?_)
  exact ⟨_, PSs.nox (pss_cons (ps_asg (pe_op op_plus (pe_ix ix_seq (pv 0) (pe_int) (fun _ _ => rfl)) (pe_int)) (pg_sub (pv 0) (pe_int) set_list)) (pss_cons (ps_if (PW.pt (pw_and (pt_cmpR (op_eqD hr.units) (pe_ix ix_seq (pv 0) (pe_int) (fun _ _ => rfl)) (pe_int) (nomark _)) (pw_and1 (pt_cmpR op_lt (pe_ix ix_seq (pv 0) (pe_int) (fun _ _ => rfl)) (pe_callB call_len (by rfl) B.len boot_len (pa_cons (pe_ix ix_seq (pv 0) (pe_int) (fun _ _ => rfl)) (pa_nil))) (nomark _))))) (pss_cons (ps_set (i := 2) sc.nd rfl (Or.inl rfl) (pe_ix ix_seq (pe_ix ix_seq (pv 0) (pe_int) (fun _ _ => rfl)) (pe_ix ix_seq (pv 0) (pe_int) (fun _ _ => rfl)) (fun _ _ => rfl))) (pss_cons (ps_asg (pe_op op_plus (pe_ix ix_seq (pv 0) (pe_int) (fun _ _ => rfl)) (pe_int)) (pg_sub (pv 0) (pe_int) set_list)) (pss_one (ps_if (pt_cmpR op_ge (pv 2) (pe_op op_pow (pe_int) (pe_int)) (nomark _)) (pss_one (ps_asg (pv 2) (pg_sub (pv 0) (pe_int) set_list))) (pss_one (ps_asg (pe_op op_mod (pe_callTy call_int1 (by rfl) B.int (by decide +kernel) (pa_cons (pe_op op_plus (pe_op op_plus (pe_op op_times (pe_ix ix_seq (pv 0) (pe_int) (fun _ _ => rfl)) (pe_int)) (pe_op op_times (pe_op op_mod (pe_callTy call_int1 (by rfl) B.int (by decide +kernel) (pa_cons (pv 2) (pa_nil))) (pe_int)) (pe_int))) (pe_int)) (pa_nil))) (pe_int)) (pg_sub (pv 0) (pe_int) set_list))))))) (pss_nil)) (pss_cons (ps_if (pt_cmpR op_gt (pe_ix ix_seq (pv 0) (pe_int) (fun _ _ => rfl)) (pe_int) (nomark _)) (pss_cons (ps_set (i := 3) sc.nd rfl (Or.inl rfl) (pe_op op_mod (pe_callTy call_int1 (by rfl) B.int (by decide +kernel) (pa_cons (pe_ix ix_seq (pv 0) (pe_int) (fun _ _ => rfl)) (pa_nil))) (pv 1))) (pss_cons (ps_asg (pe_op op_fdiv (pe_ix ix_seq (pv 0) (pe_int) (fun _ _ => rfl)) (pv 1)) (pg_sub (pv 0) (pe_int) set_list)) (pss_one (ps_ret (pv 3))))) (pss_nil)) (pss_cons (ps_asg (pe_op op_mod (pe_callTy call_int1 (by rfl) B.int (by decide +kernel) (pa_cons (pe_op op_plus (pe_op op_plus (pe_op op_pow (pe_ix ix_seq (pv 0) (pe_int) (fun _ _ => rfl)) (pe_int)) (pe_op op_times (pe_ix ix_seq (pv 0) (pe_int) (fun _ _ => rfl)) (pe_int))) (pe_int)) (pa_nil))) (pe_int)) (pg_sub (pv 0) (pe_int) set_list)) (pss_one (ps_ret (pe_op op_mod (pe_callTy call_int1 (by rfl) B.int (by decide +kernel) (pa_cons (pe_op op_plus (pe_op op_fdiv (pe_ix ix_seq (pv 0) (pe_int) (fun _ _ => rfl)) (pe_int)) (pe_op op_times (pe_op op_mod (pe_callTy call_int1 (by rfl) B.int (by decide +kernel) (pa_cons (pe_ix ix_seq (pv 0) (pe_int) (fun _ _ => rfl)) (pa_nil))) (pe_int)) (pe_int))) (pa_nil))) (pv 1)))))))),
    body_ok (SndSP.mono (bs := [2, 3]) (sndp_seq ((snds_asg (snd_op snd_plus (snd_op snd_ix (snd_var) (snd_int)) (snd_int)) (sndg_sub (snd_var) (snd_int))).p) (sndp_seq (sndp_if (sndt_and (sndt_test (snd_op snd_eq (snd_op snd_ix (snd_var) (snd_int)) (snd_int))) (sndt_test (snd_op (snd_icmp (p := fun i j => decide (i < j))) (snd_op snd_ix (snd_var) (snd_int)) (snd_cb snd_len (snda_cons (snd_op snd_ix (snd_var) (snd_int)) (snda_nil)))))) (sndp_seq ((snds_set (snd_op snd_ix (snd_op snd_ix (snd_var) (snd_int)) (snd_op snd_ix (snd_var) (snd_int)))).p) (sndp_seq ((snds_asg (snd_op snd_plus (snd_op snd_ix (snd_var) (snd_int)) (snd_int)) (sndg_sub (snd_var) (snd_int))).p) (sndp_if (sndt_test (snd_op (snd_icmp (p := fun i j => decide (j ≤ i))) (snd_var) (snd_op snd_pow (snd_int) (snd_int)))) ((snds_asg (snd_var) (sndg_sub (snd_var) (snd_int))).p) ((snds_asg (snd_op snd_mod (snd_cb snd_int1 (snda_cons (snd_op snd_plus (snd_op snd_plus (snd_op snd_times (snd_op snd_ix (snd_var) (snd_int)) (snd_int)) (snd_op snd_times (snd_op snd_mod (snd_cb snd_int1 (snda_cons (snd_var) (snda_nil))) (snd_int)) (snd_int))) (snd_int)) (snda_nil))) (snd_int)) (sndg_sub (snd_var) (snd_int))).p)))) (snds_next.p)) (sndp_seq (sndp_if (sndt_test (snd_op (snd_icmp (p := fun i j => decide (j < i))) (snd_op snd_ix (snd_var) (snd_int)) (snd_int))) (sndp_seq ((snds_set (snd_op snd_mod (snd_cb snd_int1 (snda_cons (snd_op snd_ix (snd_var) (snd_int)) (snda_nil))) (snd_var))).p) (sndp_seq ((snds_asg (snd_op snd_fdiv (snd_op snd_ix (snd_var) (snd_int)) (snd_var)) (sndg_sub (snd_var) (snd_int))).p) (snds_ret (ps := [0]) (snd_var)))) (snds_next.p)) (sndp_seq ((snds_asg (snd_op snd_mod (snd_cb snd_int1 (snda_cons (snd_op snd_plus (snd_op snd_plus (snd_op snd_pow (snd_op snd_ix (snd_var) (snd_int)) (snd_int)) (snd_op snd_times (snd_op snd_ix (snd_var) (snd_int)) (snd_int))) (snd_int)) (snda_nil))) (snd_int)) (sndg_sub (snd_var) (snd_int))).p) (snds_ret (ps := [0]) (snd_op snd_mod (snd_cb snd_int1 (snda_cons (snd_op snd_plus (snd_op snd_fdiv (snd_op snd_ix (snd_var) (snd_int)) (snd_int)) (snd_op snd_times (snd_op snd_mod (snd_cb snd_int1 (snda_cons (snd_op snd_ix (snd_var) (snd_int)) (snda_nil))) (snd_int)) (snd_int))) (snda_nil))) (snd_var))))))) (by decide)) pf_law_draw vs H Q E h⟩
theorem ok_law_draw (F : ∃ fd, FunD K "_law_draw" "_law_draw" (defArgs (top 44)) (defBody (top 44)) (defScope (top 44)) [] [] (He.ga K "_law_draw") fd) (at_ : mg "_law_draw" = some (.ref (He.ga K "_law_draw"))) (B : Blt mg)  : FP P w K mg base "_law_draw" 1 2 sp_law_draw := by
  obtain ⟨fd, F⟩ := F
  exact ⟨⟨fd, ["bag", "size"], okn_law_draw F at_ B , F.bindsN fun _ _ _ _ _ _ us hl => match us, hl with | [_, _], _ => rfl⟩, F.kp, at_⟩
theorem sc_law_of : FnScope ["bag", "things"] ["bag", "things"] (defScope (top 45)) := ⟨rfl, rfl, rfl, by decide +kernel, rfl, by decide +kernel, by decide +kernel⟩
theorem okn_law_of {fd : FuncData} (F : FunD K "_law_of" "_law_of" (defArgs (top 45)) (defBody (top 45)) (defScope (top 45)) [] [] (He.ga K "_law_of") fd) (at_ : mg "_law_of" = some (.ref (He.ga K "_law_of"))) (B : Blt mg) (g_law_draw : FP P w K mg base "_law_draw" 1 2 sp_law_draw) : FnOk P w K mg base CX0 2 (He.ga K "_law_of") fd ["bag", "things"] (up K 2 sp_law_of) := by
  have sc := sc_law_of
  refine F.ok sc (fun _ _ _ _ h => h.1) (fun cdv A outer s H vs Q E hr h => ?_)
  exact ⟨_, PSs.nox (pss_one (ps_ret (pe_ix ix_seq (pv 1) (pe_f g_law_draw (Room.mono hr (by decide)) (by rfl) (pa_cons (pv 0) (pa_cons (pe_callB call_len (by rfl) B.len boot_len (pa_cons (pv 1) (pa_nil))) (pa_nil)))) (fun _ _ => rfl)))),
    body_ok (SndSP.mono (bs := []) (snds_ret (ps := [0, 1]) (snd_op snd_ix (snd_var) (snd_call (ms := [true, false]) rfl (snda_cons (snd_var) (snda_cons (snd_cb snd_len (snda_cons (snd_var) (snda_nil))) (snda_nil)))))) (by decide)) pf_law_of vs H Q E h⟩
theorem ok_law_of (F : ∃ fd, FunD K "_law_of" "_law_of" (defArgs (top 45)) (defBody (top 45)) (defScope (top 45)) [] [] (He.ga K "_law_of") fd) (at_ : mg "_law_of" = some (.ref (He.ga K "_law_of"))) (B : Blt mg) (g_law_draw : FP P w K mg base "_law_draw" 1 2 sp_law_draw) : FP P w K mg base "_law_of" 2 2 sp_law_of := by
  obtain ⟨fd, F⟩ := F
  exact ⟨⟨fd, ["bag", "things"], okn_law_of F at_ B g_law_draw, F.bindsN fun _ _ _ _ _ _ us hl => match us, hl with | [_, _], _ => rfl⟩, F.kp, at_⟩
theorem sc_law_labels : FnScope ["bag", "size", "mine", "k", "label", "x"] ["bag", "size"] (defScope (top 48)) := ⟨rfl, rfl, rfl, by decide +kernel, rfl, by decide +kernel, by decide +kernel⟩
theorem okn_law_labels {fd : FuncData} (F : FunD K "_law_labels" "_law_labels" (defArgs (top 48)) (defBody (top 48)) (defScope (top 48)) [] [] (He.ga K "_law_labels") fd) (at_ : mg "_law_labels" = some (.ref (He.ga K "_law_labels"))) (B : Blt mg) (g_law_draw : FP P w K mg base "_law_draw" 1 2 sp_law_draw) (g_law_of : FP P w K mg base "_law_of" 2 2 sp_law_of) : FnOk P w K mg base CX0 3 (He.ga K "_law_labels") fd ["bag", "size"] (up K 2 sp_law_labels) := by
  have sc := sc_law_labels
  refine F.ok sc (fun _ _ _ _ h => h.1) (fun cdv A outer s H vs Q E hr h => ?_)
  exact ⟨_, PSs.nox (pss_cons (ps_set (i := 2) sc.nd rfl (Or.inr rfl) (pe_lst (pa_nil))) (pss_cons (ps_for PassesOwn.never rfl (pi_range1 (by rfl) B.range (pa_cons (pv 1) pa_nil)) (pg_name (i := 3) sc.nd rfl (Or.inl rfl)) (pss_cons (ps_if (pt_cmpR (op_eqD hr.units) (pe_f g_law_draw (Room.mono hr (by decide)) (by rfl) (pa_cons (pv 0) (pa_cons (pe_int) (pa_nil)))) (pe_int) (nomark _)) (pss_one (ps_set (i := 4) sc.nd rfl (Or.inl rfl) (pe_f g_law_of (Room.mono hr (by decide)) (by rfl) (pa_cons (pv 0) (pa_cons (pe_lst (pa_cons (pe_str) (pa_cons (pe_str) (pa_cons (pe_str) (pa_cons (pe_str) (pa_cons (pe_str) (pa_cons (pe_str) (pa_cons (pe_str) (pa_cons (pe_str) (pa_cons (pe_str) (pa_cons (pe_str) (pa_cons (pe_str) (pa_nil))))))))))))) (pa_nil)))))) (pss_one (ps_set (i := 4) sc.nd rfl (Or.inl rfl) (pe_bm PySem.F.plainAttrs_str PySem.F.slot_str_join PySem.F.type_str_join mt_join (pe_str) (pa_cons (pe_lc (own := [("x", 5)]) (g := gName 5) rfl sc.nd (pi_range1 (by rfl) B.range (pa_cons (pe_op op_plus (pe_int) (pe_f g_law_draw (Room.mono hr (by decide)) (by rfl) (pa_cons (pv 0) (pa_cons (pe_int) (pa_nil))))) pa_nil)) (blkOk_by (by kernel_rfl)) (fun _ _ _ _ _ => pg_name (i := 5) sc.nd rfl (Or.inl rfl)) (fun _ _ _ _ _ => pts_nil) (fun _ _ _ _ _ => pe_f g_law_of (Room.mono hr (by decide)) (by rfl) (pa_cons (pv 0) (pa_cons (pe_str) (pa_nil))))) pa_nil))))) (pss_cons (ps_if (pt_cmpR (op_inU (Room.u65 hr)) (pv 4) (pv 2) (by rfl)) (pss_one (ps_set (i := 4) sc.nd rfl (Or.inl rfl) (pe_ix ix_seq (pe_lc (own := [("x", 5)]) (g := gName 5) rfl sc.nd (pi_str (pe_str)) (blkOk_by (by kernel_rfl)) (fun _ _ _ _ _ => pg_name (i := 5) sc.nd rfl (Or.inl rfl)) (fun _ _ _ _ _ => pts_one (pt_cmpR (op_ninU (Room.u65 hr)) (pv 5) (pv 2) (by rfl))) (fun _ _ _ _ _ => pv 5)) (pe_int) (fun _ _ => rfl)))) (pss_nil)) (pss_one (ps_expr (pe_bm PySem.F.plainAttrs_list PySem.F.slot_list_append PySem.F.type_list_append mt_append (pv 2) (pa_cons (pv 4) (pa_nil)))))))) (pss_one (ps_ret (pe_callTy call_tuple_of (by rfl) B.tuple (by decide +kernel) (pa_cons (pv 2) (pa_nil))))))),
    body_ok (SndSP.mono (bs := [2, 3, 4]) (sndp_seq ((snds_setO (snd_lst (snda_nil))).p) (sndp_seq (sndp_for (as := [3, 4]) (sndi_rng1 (snd_var)) (sndg_name) (sndp_seq (sndp_if (sndt_test (snd_op snd_eq (snd_call (ms := [true, false]) rfl (snda_cons (snd_var) (snda_cons (snd_int) (snda_nil)))) (snd_int))) ((snds_set (snd_call (ms := [true, true]) rfl (snda_cons (snd_var) (snda_cons (snd_lst (snda_cons (snd_str) (snda_cons (snd_str) (snda_cons (snd_str) (snda_cons (snd_str) (snda_cons (snd_str) (snda_cons (snd_str) (snda_cons (snd_str) (snda_cons (snd_str) (snda_cons (snd_str) (snda_cons (snd_str) (snda_cons (snd_str) (snda_nil))))))))))))) (snda_nil))))).p) ((snds_set (snd_join (snd_str) (snd_comp (vs := [5]) (sndi_rng1 (snd_op snd_plus (snd_int) (snd_call (ms := [true, false]) rfl (snda_cons (snd_var) (snda_cons (snd_int) (snda_nil)))))) (sndg_name) (sndt_yes) (snd_call (ms := [true, true]) rfl (snda_cons (snd_var) (snda_cons (snd_str) (snda_nil)))) (by decide)))).p)) (sndp_seq (sndp_if (sndt_test (snd_op snd_in (snd_var) (snd_var))) ((snds_set (snd_op snd_ix (snd_comp (vs := [5]) (sndi_str (snd_str)) (sndg_name) (sndt_test (snd_op snd_nin (snd_var) (snd_var))) (snd_var) (by decide)) (snd_int))).p) (snds_next.p)) ((snds_expr (snd_lm sndm_append (snd_var) (snda_cons (snd_var) (snda_nil)))).p))) (by decide)) (snds_ret (ps := [0]) (snd_cb snd_tuple (snda_cons (snd_var) (snda_nil)))))) (by decide)) pf_law_labels vs H Q E h⟩
theorem ok_law_labels (F : ∃ fd, FunD K "_law_labels" "_law_labels" (defArgs (top 48)) (defBody (top 48)) (defScope (top 48)) [] [] (He.ga K "_law_labels") fd) (at_ : mg "_law_labels" = some (.ref (He.ga K "_law_labels"))) (B : Blt mg) (g_law_draw : FP P w K mg base "_law_draw" 1 2 sp_law_draw) (g_law_of : FP P w K mg base "_law_of" 2 2 sp_law_of) : FP P w K mg base "_law_labels" 3 2 sp_law_labels := by
  obtain ⟨fd, F⟩ := F
  exact ⟨⟨fd, ["bag", "size"], okn_law_labels F at_ B g_law_draw g_law_of, F.bindsN fun _ _ _ _ _ _ us hl => match us, hl with | [_, _], _ => rfl⟩, F.kp, at_⟩
theorem sc_law_step_row : FnScope ["bag", "size", "mood", "mine", "free", "lap", "x", "pick", "y", "sign"] ["bag", "size", "mood"] (defScope (top 49)) := ⟨rfl, rfl, rfl, by decide +kernel, rfl, by decide +kernel, by decide +kernel⟩
theorem okn_law_step_row {fd : FuncData} (F : FunD K "_law_step_row" "_law_step_row" (defArgs (top 49)) (defBody (top 49)) (defScope (top 49)) [] [] (He.ga K "_law_step_row") fd) (at_ : mg "_law_step_row" = some (.ref (He.ga K "_law_step_row"))) (B : Blt mg) (g_law_draw : FP P w K mg base "_law_draw" 1 2 sp_law_draw) : FnOk P w K mg base CX0 2 (He.ga K "_law_step_row") fd ["bag", "size", "mood"] (up K 3 sp_law_step_row) := by
  have sc := sc_law_step_row
  refine F.ok sc (fun _ _ _ _ h => h.1) (fun cdv A outer s H vs Q E hr h => ?_)
  exact ⟨_, PSs.nox (pss_cons (ps_setLc (i := 3) (own := [("x", 6)]) (g := gName 6) rfl sc.nd rfl rfl (sw_true rfl rfl rfl (by decide +kernel)) (pi_range1 (by rfl) B.range (pa_cons (pv 1) pa_nil)) (blkOk_by (by kernel_rfl)) (fun _ _ _ _ _ => pg_name (i := 6) sc.nd rfl (Or.inl rfl)) (fun _ _ _ _ _ => pts_nil) (fun _ _ _ _ _ => pe_tup (pa_cons (pv 6) (pa_cons (pe_int) (pa_nil))))) (pss_cons (ps_setLc (i := 4) (own := [("x", 6)]) (g := gName 6) rfl sc.nd rfl rfl (sw_true rfl rfl rfl (by decide +kernel)) (pi_range1 (by rfl) B.range (pa_cons (pv 1) pa_nil)) (blkOk_by (by kernel_rfl)) (fun _ _ _ _ _ => pg_name (i := 6) sc.nd rfl (Or.inl rfl)) (fun _ _ _ _ _ => pts_nil) (fun _ _ _ _ _ => pv 6)) (pss_cons (ps_for PassesOwn.never rfl (pi_range1 (by rfl) B.range (pa_cons (pv 1) pa_nil)) (pg_name (i := 5) sc.nd rfl (Or.inl rfl)) (pss_one (ps_if (pt_cmpR (op_neD hr.units) (pv 4) (pe_lst (pa_nil)) (nomark _)) (pss_cons (ps_set (i := 6) sc.nd rfl (Or.inl rfl) (pe_bm PySem.F.plainAttrs_list PySem.F.slot_list_pop PySem.F.type_list_pop mt_popAt (pv 4) (pa_cons (pe_int) (pa_nil)))) (pss_cons (ps_set (i := 7) sc.nd rfl (Or.inl rfl) (pe_f g_law_draw (Room.mono hr (by decide)) (by rfl) (pa_cons (pv 0) (pa_cons (pe_int) (pa_nil))))) (pss_one (ps_if (PW.pt (pw_and (pt_cmpR op_gt (pv 7) (pe_int) (nomark _)) (pw_and1 (pt_cmpR (op_neD hr.units) (pv 4) (pe_lst (pa_nil)) (nomark _))))) (pss_cons (ps_set (i := 8) sc.nd rfl (Or.inl rfl) (pe_bm PySem.F.plainAttrs_list PySem.F.slot_list_pop PySem.F.type_list_pop mt_popAt (pv 4) (pa_cons (pe_f g_law_draw (Room.mono hr (by decide)) (by rfl) (pa_cons (pv 0) (pa_cons (pe_callB call_len (by rfl) B.len boot_len (pa_cons (pv 4) (pa_nil))) (pa_nil)))) (pa_nil)))) (pss_cons (ps_set (i := 9) sc.nd rfl (Or.inl rfl) (pe_ifExp (PW.pt (pw_and (pt_cmpR (op_eqD hr.units) (pv 2) (pe_int) (nomark _)) (pw_and1 (pt_cmpR (op_eqD hr.units) (pe_f g_law_draw (Room.mono hr (by decide)) (by rfl) (pa_cons (pv 0) (pa_cons (pe_int) (pa_nil)))) (pe_int) (nomark _))))) (pe_op op_sub (pe_int) (pe_int)) (pe_int))) (pss_one (ps_asg (pe_tup (pa_cons (pe_tup (pa_cons (pv 8) (pa_cons (pv 9) (pa_nil)))) (pa_cons (pe_tup (pa_cons (pv 6) (pa_cons (pv 9) (pa_nil)))) (pa_nil)))) (pg_tup rfl (pgs_cons (pg_sub (pv 3) (pv 6) set_list) (pgs_cons (pg_sub (pv 3) (pv 8) set_list) (pgs_nil)))))))) (pss_one (ps_asg (pe_tup (pa_cons (pv 6) (pa_cons (pe_ifExp (PW.pt (pw_and (pt_cmpR op_lt (pv 2) (pe_int) (nomark _)) (pw_and1 (pt_cmpR (op_eqD hr.units) (pe_op op_mod (pe_callTy call_int1 (by rfl) B.int (by decide +kernel) (pa_cons (pv 7) (pa_nil))) (pe_int)) (pe_int) (nomark _))))) (pe_op op_sub (pe_int) (pe_int)) (pe_int)) (pa_nil)))) (pg_sub (pv 3) (pv 6) set_list))))))) (pss_nil)))) (pss_one (ps_ret (pv 3)))))),
    body_ok (SndSP.mono (bs := [3, 4, 5, 6, 7, 8, 9]) (sndp_seq ((snds_setO (snd_comp (vs := [6]) (sndi_rng1 (snd_var)) (sndg_name) (sndt_yes) (snd_tup (snda_cons (snd_var) (snda_cons (snd_int) (snda_nil)))) (by decide))).p) (sndp_seq ((snds_setO (snd_comp (vs := [6]) (sndi_rng1 (snd_var)) (sndg_name) (sndt_yes) (snd_var) (by decide))).p) (sndp_seq (sndp_for (as := [5, 6, 7, 8, 9]) (sndi_rng1 (snd_var)) (sndg_name) (sndp_if (sndt_test (snd_op snd_ne (snd_var) (snd_lst (snda_nil)))) (sndp_seq ((snds_set (snd_lm sndm_pop1 (snd_var) (snda_cons (snd_int) (snda_nil)))).p) (sndp_seq ((snds_set (snd_call (ms := [true, false]) rfl (snda_cons (snd_var) (snda_cons (snd_int) (snda_nil))))).p) (sndp_if (sndt_and (sndt_test (snd_op (snd_icmp (p := fun i j => decide (j < i))) (snd_var) (snd_int))) (sndt_test (snd_op snd_ne (snd_var) (snd_lst (snda_nil))))) (sndp_seq ((snds_set (snd_lm sndm_pop1 (snd_var) (snda_cons (snd_call (ms := [true, false]) rfl (snda_cons (snd_var) (snda_cons (snd_cb snd_len (snda_cons (snd_var) (snda_nil))) (snda_nil)))) (snda_nil)))).p) (sndp_seq ((snds_set (snd_if (sndt_and (sndt_test (snd_op snd_eq (snd_var) (snd_int))) (sndt_test (snd_op snd_eq (snd_call (ms := [true, false]) rfl (snda_cons (snd_var) (snda_cons (snd_int) (snda_nil)))) (snd_int)))) (snd_op snd_minus (snd_int) (snd_int)) (snd_int))).p) ((snds_asg (snd_tup (snda_cons (snd_tup (snda_cons (snd_var) (snda_cons (snd_var) (snda_nil)))) (snda_cons (snd_tup (snda_cons (snd_var) (snda_cons (snd_var) (snda_nil)))) (snda_nil)))) (sndg_tup (n := 2) (sndgs_cons (sndg_sub (snd_var) (snd_var)) (sndgs_cons (sndg_sub (snd_var) (snd_var)) (sndgs_nil))))).p))) ((snds_asg (snd_tup (snda_cons (snd_var) (snda_cons (snd_if (sndt_and (sndt_test (snd_op (snd_icmp (p := fun i j => decide (i < j))) (snd_var) (snd_int))) (sndt_test (snd_op snd_eq (snd_op snd_mod (snd_cb snd_int1 (snda_cons (snd_var) (snda_nil))) (snd_int)) (snd_int)))) (snd_op snd_minus (snd_int) (snd_int)) (snd_int)) (snda_nil)))) (sndg_sub (snd_var) (snd_var))).p)))) (snds_next.p)) (by decide)) (snds_ret (ps := [0]) (snd_var))))) (by decide)) pf_law_step_row vs H Q E h⟩
theorem ok_law_step_row (F : ∃ fd, FunD K "_law_step_row" "_law_step_row" (defArgs (top 49)) (defBody (top 49)) (defScope (top 49)) [] [] (He.ga K "_law_step_row") fd) (at_ : mg "_law_step_row" = some (.ref (He.ga K "_law_step_row"))) (B : Blt mg) (g_law_draw : FP P w K mg base "_law_draw" 1 2 sp_law_draw) : FP P w K mg base "_law_step_row" 2 3 sp_law_step_row := by
  obtain ⟨fd, F⟩ := F
  exact ⟨⟨fd, ["bag", "size", "mood"], okn_law_step_row F at_ B g_law_draw, F.bindsN fun _ _ _ _ _ _ us hl => match us, hl with | [_, _, _], _ => rfl⟩, F.kp, at_⟩
theorem sc_law_net : FnScope ["bag", "many_sides", "size", "mood", "k"] ["bag", "many_sides", "size"] (defScope (top 50)) := ⟨rfl, rfl, rfl, by decide +kernel, rfl, by decide +kernel, by decide +kernel⟩
theorem okn_law_net {fd : FuncData} (F : FunD K "_law_net" "_law_net" (defArgs (top 50)) (defBody (top 50)) (defScope (top 50)) [] [] (He.ga K "_law_net") fd) (at_ : mg "_law_net" = some (.ref (He.ga K "_law_net"))) (B : Blt mg) (g_law_of : FP P w K mg base "_law_of" 2 2 sp_law_of) (g_law_step_row : FP P w K mg base "_law_step_row" 2 3 sp_law_step_row) : FnOk P w K mg base CX0 3 (He.ga K "_law_net") fd ["bag", "many_sides", "size"] (up K 3 sp_law_net) := by
  have sc := sc_law_net
  refine F.ok sc (fun _ _ _ _ h => h.1) (fun cdv A outer s H vs Q E hr h => ?_)
  exact ⟨_, PSs.nox (pss_cons (ps_set (i := 3) sc.nd rfl (Or.inr rfl) (pe_f g_law_of (Room.mono hr (by decide)) (by rfl) (pa_cons (pv 0) (pa_cons (pe_lst (pa_cons (pe_int) (pa_cons (pe_int) (pa_cons (pe_int) (pa_cons (pe_int) (pa_cons (pe_int) (pa_nil))))))) (pa_nil))))) (pss_one (ps_ret (pe_lc (own := [("k", 4)]) (g := gName 4) rfl sc.nd (pi_range1 (by rfl) B.range (pa_cons (pv 1) pa_nil)) (blkOk_by (by kernel_rfl)) (fun _ _ _ _ _ => pg_name (i := 4) sc.nd rfl (Or.inl rfl)) (fun _ _ _ _ _ => pts_nil) (fun _ _ _ _ _ => pe_f g_law_step_row (Room.mono hr (by decide)) (by rfl) (pa_cons (pv 0) (pa_cons (pv 2) (pa_cons (pv 3) (pa_nil))))))))),
    body_ok (SndSP.mono (bs := [3]) (sndp_seq ((snds_set (snd_call (ms := [true, true]) rfl (snda_cons (snd_var) (snda_cons (snd_lst (snda_cons (snd_int) (snda_cons (snd_int) (snda_cons (snd_int) (snda_cons (snd_int) (snda_cons (snd_int) (snda_nil))))))) (snda_nil))))).p) (snds_ret (ps := [0]) (snd_comp (vs := [4]) (sndi_rng1 (snd_var)) (sndg_name) (sndt_yes) (snd_call (ms := [true, false, false]) rfl (snda_cons (snd_var) (snda_cons (snd_var) (snda_cons (snd_var) (snda_nil))))) (by decide)))) (by decide)) pf_law_net vs H Q E h⟩
theorem ok_law_net (F : ∃ fd, FunD K "_law_net" "_law_net" (defArgs (top 50)) (defBody (top 50)) (defScope (top 50)) [] [] (He.ga K "_law_net") fd) (at_ : mg "_law_net" = some (.ref (He.ga K "_law_net"))) (B : Blt mg) (g_law_of : FP P w K mg base "_law_of" 2 2 sp_law_of) (g_law_step_row : FP P w K mg base "_law_step_row" 2 3 sp_law_step_row) : FP P w K mg base "_law_net" 3 3 sp_law_net := by
  obtain ⟨fd, F⟩ := F
  exact ⟨⟨fd, ["bag", "many_sides", "size"], okn_law_net F at_ B g_law_of g_law_step_row, F.bindsN fun _ _ _ _ _ _ us hl => match us, hl with | [_, _, _], _ => rfl⟩, F.kp, at_⟩
theorem sc_law_named_net : FnScope ["net", "names", "mine", "moves", "here", "x"] ["net", "names"] (defScope (top 59)) := ⟨rfl, rfl, rfl, by decide +kernel, rfl, by decide +kernel, by decide +kernel⟩
theorem okn_law_named_net {fd : FuncData} (F : FunD K "_law_named_net" "_law_named_net" (defArgs (top 59)) (defBody (top 59)) (defScope (top 59)) [] [] (He.ga K "_law_named_net") fd) (at_ : mg "_law_named_net" = some (.ref (He.ga K "_law_named_net"))) (B : Blt mg)  : FnOk P w K mg base CX0 1 (He.ga K "_law_named_net") fd ["net", "names"] (up K 2 sp_law_named_net) := by
  have sc := sc_law_named_net
  refine F.ok sc (fun _ _ _ _ h => h.1) (fun cdv A outer s H vs Q E hr h => ?_)
  exact ⟨_, PSs.nox (pss_cons (ps_set (i := 2) sc.nd rfl (Or.inl rfl) (pe_lst (pa_nil))) (pss_cons (ps_for PassesOwn.never rfl (pi_list (pv 0)) (pg_name (i := 3) sc.nd rfl (Or.inl rfl)) (pss_cons (ps_setLc (i := 4) (own := [("x", 5)]) (g := gName 5) rfl sc.nd rfl rfl (sw_true rfl rfl rfl (by decide +kernel)) (pi_list (pv 1)) (blkOk_by (by kernel_rfl)) (fun _ _ _ _ _ => pg_name (i := 5) sc.nd rfl (Or.inl rfl)) (fun _ _ _ _ _ => pts_nil) (fun _ _ _ _ _ => pe_tup (pa_cons (pv 5) (pa_cons (pe_int) (pa_nil))))) (pss_cons (ps_for PassesOwn.never rfl (pi_range1 (by rfl) B.range (pa_cons (pe_callB call_len (by rfl) B.len boot_len (pa_cons (pv 1) (pa_nil))) pa_nil)) (pg_name (i := 5) sc.nd rfl (Or.inl rfl)) (pss_one (ps_asg (pe_tup (pa_cons (pe_ix ix_seq (pv 1) (pe_ix ix_seq (pe_ix ix_seq (pv 3) (pv 5) (fun _ _ => rfl)) (pe_int) (fun _ _ => rfl)) (fun _ _ => rfl)) (pa_cons (pe_ix ix_seq (pe_ix ix_seq (pv 3) (pv 5) (fun _ _ => rfl)) (pe_int) (fun _ _ => rfl)) (pa_nil)))) (pg_sub (pv 4) (pe_ix ix_seq (pv 1) (pv 5) (fun _ _ => rfl)) set_list)))) (pss_one (ps_expr (pe_bm PySem.F.plainAttrs_list PySem.F.slot_list_append PySem.F.type_list_append mt_append (pv 2) (pa_cons (pv 4) (pa_nil)))))))) (pss_one (ps_ret (pv 2))))),
    body_ok (SndSP.mono (bs := [2, 3, 4, 5]) (sndp_seq ((snds_setO (snd_lst (snda_nil))).p) (sndp_seq (sndp_for (as := [3, 4, 5]) (sndi_list (snd_var)) (sndg_name) (sndp_seq ((snds_setO (snd_comp (vs := [5]) (sndi_list (snd_var)) (sndg_name) (sndt_yes) (snd_tup (snda_cons (snd_var) (snda_cons (snd_int) (snda_nil)))) (by decide))).p) (sndp_seq (sndp_for (as := [5]) (sndi_rng1 (snd_cb snd_len (snda_cons (snd_var) (snda_nil)))) (sndg_name) ((snds_asg (snd_tup (snda_cons (snd_op snd_ix (snd_var) (snd_op snd_ix (snd_op snd_ix (snd_var) (snd_var)) (snd_int))) (snda_cons (snd_op snd_ix (snd_op snd_ix (snd_var) (snd_var)) (snd_int)) (snda_nil)))) (sndg_sub (snd_var) (snd_op snd_ix (snd_var) (snd_var)))).p) (by decide)) ((snds_expr (snd_lm sndm_append (snd_var) (snda_cons (snd_varz) (snda_nil)))).p))) (by decide)) (snds_ret (ps := [1]) (snd_var)))) (by decide)) pf_law_named_net vs H Q E h⟩
theorem ok_law_named_net (F : ∃ fd, FunD K "_law_named_net" "_law_named_net" (defArgs (top 59)) (defBody (top 59)) (defScope (top 59)) [] [] (He.ga K "_law_named_net") fd) (at_ : mg "_law_named_net" = some (.ref (He.ga K "_law_named_net"))) (B : Blt mg)  : FP P w K mg base "_law_named_net" 1 2 sp_law_named_net := by
  obtain ⟨fd, F⟩ := F
  exact ⟨⟨fd, ["net", "names"], okn_law_named_net F at_ B , F.bindsN fun _ _ _ _ _ _ us hl => match us, hl with | [_, _], _ => rfl⟩, F.kp, at_⟩
theorem sc_law_order : FnScope ["bag", "size", "rest", "x", "k"] ["bag", "size"] (defScope (top 60)) := ⟨rfl, rfl, rfl, by decide +kernel, rfl, by decide +kernel, by decide +kernel⟩
theorem okn_law_order {fd : FuncData} (F : FunD K "_law_order" "_law_order" (defArgs (top 60)) (defBody (top 60)) (defScope (top 60)) [] [] (He.ga K "_law_order") fd) (at_ : mg "_law_order" = some (.ref (He.ga K "_law_order"))) (B : Blt mg) (g_law_draw : FP P w K mg base "_law_draw" 1 2 sp_law_draw) : FnOk P w K mg base CX0 2 (He.ga K "_law_order") fd ["bag", "size"] (up K 2 sp_law_order) := by
  have sc := sc_law_order
  refine F.ok sc (fun _ _ _ _ h => h.1) (fun cdv A outer s H vs Q E hr h => ?_)
  exact ⟨_, PSs.nox (pss_cons (ps_set (i := 2) sc.nd rfl (Or.inr rfl) (pe_lc (own := [("x", 3)]) (g := gName 3) rfl sc.nd (pi_range1 (by rfl) B.range (pa_cons (pv 1) pa_nil)) (blkOk_by (by kernel_rfl)) (fun _ _ _ _ _ => pg_name (i := 3) sc.nd rfl (Or.inl rfl)) (fun _ _ _ _ _ => pts_nil) (fun _ _ _ _ _ => pv 3))) (pss_one (ps_ret (pe_lc (own := [("k", 4)]) (g := gName 4) rfl sc.nd (pi_range1 (by rfl) B.range (pa_cons (pv 1) pa_nil)) (blkOk_by (by kernel_rfl)) (fun _ _ _ _ _ => pg_name (i := 4) sc.nd rfl (Or.inl rfl)) (fun _ _ _ _ _ => pts_nil) (fun _ _ _ _ _ => pe_bm PySem.F.plainAttrs_list PySem.F.slot_list_pop PySem.F.type_list_pop mt_popAt (pv 2) (pa_cons (pe_f g_law_draw (Room.mono hr (by decide)) (by rfl) (pa_cons (pv 0) (pa_cons (pe_callB call_len (by rfl) B.len boot_len (pa_cons (pv 2) (pa_nil))) (pa_nil)))) (pa_nil))))))),
    body_ok (SndSP.mono (bs := [2]) (sndp_seq ((snds_setO (snd_comp (vs := [3]) (sndi_rng1 (snd_var)) (sndg_name) (sndt_yes) (snd_var) (by decide))).p) (snds_ret (ps := [0]) (snd_comp (vs := [4]) (sndi_rng1 (snd_var)) (sndg_name) (sndt_yes) (snd_lm sndm_pop1 (snd_var) (snda_cons (snd_call (ms := [true, false]) rfl (snda_cons (snd_var) (snda_cons (snd_cb snd_len (snda_cons (snd_var) (snda_nil))) (snda_nil)))) (snda_nil))) (by decide)))) (by decide)) pf_law_order vs H Q E h⟩
theorem ok_law_order (F : ∃ fd, FunD K "_law_order" "_law_order" (defArgs (top 60)) (defBody (top 60)) (defScope (top 60)) [] [] (He.ga K "_law_order") fd) (at_ : mg "_law_order" = some (.ref (He.ga K "_law_order"))) (B : Blt mg) (g_law_draw : FP P w K mg base "_law_draw" 1 2 sp_law_draw) : FP P w K mg base "_law_order" 2 2 sp_law_order := by
  obtain ⟨fd, F⟩ := F
  exact ⟨⟨fd, ["bag", "size"], okn_law_order F at_ B g_law_draw, F.bindsN fun _ _ _ _ _ _ us hl => match us, hl with | [_, _], _ => rfl⟩, F.kp, at_⟩
theorem sc_law_scattered : FnScope ["bag", "net"] ["bag", "net"] (defScope (top 64)) := ⟨rfl, rfl, rfl, by decide +kernel, rfl, by decide +kernel, by decide +kernel⟩
theorem okn_law_scattered {fd : FuncData} (F : FunD K "_law_scattered" "_law_scattered" (defArgs (top 64)) (defBody (top 64)) (defScope (top 64)) [] [] (He.ga K "_law_scattered") fd) (at_ : mg "_law_scattered" = some (.ref (He.ga K "_law_scattered"))) (B : Blt mg) (g_law_order : FP P w K mg base "_law_order" 2 2 sp_law_order) (g_law_named_net : FP P w K mg base "_law_named_net" 1 2 sp_law_named_net) : FnOk P w K mg base CX0 3 (He.ga K "_law_scattered") fd ["bag", "net"] (up K 2 sp_law_scattered) := by
  have sc := sc_law_scattered
  refine F.ok sc (fun _ _ _ _ h => h.1) (fun cdv A outer s H vs Q E hr h => ?_)
  exact ⟨_, PSs.nox (pss_one (ps_ret (pe_f g_law_named_net (Room.mono hr (by decide)) (by rfl) (pa_cons (pv 1) (pa_cons (pe_f g_law_order (Room.mono hr (by decide)) (by rfl) (pa_cons (pv 0) (pa_cons (pe_callB call_len (by rfl) B.len boot_len (pa_cons (pe_ix ix_seq (pv 1) (pe_int) (fun _ _ => rfl)) (pa_nil))) (pa_nil)))) (pa_nil)))))),
    body_ok (SndSP.mono (bs := []) (snds_ret (ps := [0]) (snd_call (ms := [false, true]) rfl (snda_cons (snd_var) (snda_cons (snd_call (ms := [true, false]) rfl (snda_cons (snd_var) (snda_cons (snd_cb snd_len (snda_cons (snd_op snd_ix (snd_var) (snd_int)) (snda_nil))) (snda_nil)))) (snda_nil))))) (by decide)) pf_law_scattered vs H Q E h⟩
theorem ok_law_scattered (F : ∃ fd, FunD K "_law_scattered" "_law_scattered" (defArgs (top 64)) (defBody (top 64)) (defScope (top 64)) [] [] (He.ga K "_law_scattered") fd) (at_ : mg "_law_scattered" = some (.ref (He.ga K "_law_scattered"))) (B : Blt mg) (g_law_order : FP P w K mg base "_law_order" 2 2 sp_law_order) (g_law_named_net : FP P w K mg base "_law_named_net" 1 2 sp_law_named_net) : FP P w K mg base "_law_scattered" 3 2 sp_law_scattered := by
  obtain ⟨fd, F⟩ := F
  exact ⟨⟨fd, ["bag", "net"], okn_law_scattered F at_ B g_law_order g_law_named_net, F.bindsN fun _ _ _ _ _ _ us hl => match us, hl with | [_, _], _ => rfl⟩, F.kp, at_⟩
theorem sc_law_beside : FnScope ["left", "right", "size", "k", "x"] ["left", "right"] (defScope (top 61)) := ⟨rfl, rfl, rfl, by decide +kernel, rfl, by decide +kernel, by decide +kernel⟩
theorem okn_law_beside {fd : FuncData} (F : FunD K "_law_beside" "_law_beside" (defArgs (top 61)) (defBody (top 61)) (defScope (top 61)) [] [] (He.ga K "_law_beside") fd) (at_ : mg "_law_beside" = some (.ref (He.ga K "_law_beside"))) (B : Blt mg)  : FnOk P w K mg base CX0 1 (He.ga K "_law_beside") fd ["left", "right"] (up K 2 sp_law_beside) := by
  have sc := sc_law_beside
  refine F.ok sc (fun _ _ _ _ h => h.1) (fun cdv A outer s H vs Q E hr h => ?_)
  exact ⟨_, PSs.nox (pss_cons (ps_set (i := 2) sc.nd rfl (Or.inr rfl) (pe_callB call_len (by rfl) B.len boot_len (pa_cons (pe_ix ix_seq (pv 0) (pe_int) (fun _ _ => rfl)) (pa_nil)))) (pss_one (ps_ret (pe_lc (own := [("k", 3)]) (g := gName 3) rfl sc.nd (pi_range1 (by rfl) B.range (pa_cons (pe_callB call_len (by rfl) B.len boot_len (pa_cons (pv 0) (pa_nil))) pa_nil)) (blkOk_by (by kernel_rfl)) (fun _ _ _ _ _ => pg_name (i := 3) sc.nd rfl (Or.inl rfl)) (fun _ _ _ _ _ => pts_nil) (fun _ _ _ _ _ => pe_op op_plus (pe_callTy call_list_of (by rfl) B.list (by decide +kernel) (pa_cons (pe_ix ix_seq (pv 0) (pv 3) (fun _ _ => rfl)) (pa_nil))) (pe_lc (own := [("x", 4)]) (g := gName 4) rfl sc.nd (pi_list (pe_ix ix_seq (pv 1) (pv 3) (fun _ _ => rfl))) (blkOk_by (by kernel_rfl)) (fun _ _ _ _ _ => pg_name (i := 4) sc.nd rfl (Or.inl rfl)) (fun _ _ _ _ _ => pts_nil) (fun _ _ _ _ _ => pe_tup (pa_cons (pe_op op_plus (pe_ix ix_seq (pv 4) (pe_int) (fun _ _ => rfl)) (pv 2)) (pa_cons (pe_ix ix_seq (pv 4) (pe_int) (fun _ _ => rfl)) (pa_nil)))))))))),
    body_ok (SndSP.mono (bs := [2]) (sndp_seq ((snds_set (snd_cb snd_len (snda_cons (snd_op snd_ix (snd_var) (snd_int)) (snda_nil)))).p) (snds_ret (ps := []) (snd_comp (vs := [3]) (sndi_rng1 (snd_cb snd_len (snda_cons (snd_var) (snda_nil)))) (sndg_name) (sndt_yes) (snd_op snd_plus (snd_cb snd_list (snda_cons (snd_op snd_ix (snd_var) (snd_var)) (snda_nil))) (snd_comp (vs := [4]) (sndi_list (snd_op snd_ix (snd_var) (snd_var))) (sndg_name) (sndt_yes) (snd_tup (snda_cons (snd_op snd_plus (snd_op snd_ix (snd_var) (snd_int)) (snd_var)) (snda_cons (snd_op snd_ix (snd_var) (snd_int)) (snda_nil)))) (by decide))) (by decide)))) (by decide)) pf_law_beside vs H Q E h⟩
theorem ok_law_beside (F : ∃ fd, FunD K "_law_beside" "_law_beside" (defArgs (top 61)) (defBody (top 61)) (defScope (top 61)) [] [] (He.ga K "_law_beside") fd) (at_ : mg "_law_beside" = some (.ref (He.ga K "_law_beside"))) (B : Blt mg)  : FP P w K mg base "_law_beside" 1 2 sp_law_beside := by
  obtain ⟨fd, F⟩ := F
  exact ⟨⟨fd, ["left", "right"], okn_law_beside F at_ B , F.bindsN fun _ _ _ _ _ _ us hl => match us, hl with | [_, _], _ => rfl⟩, F.kp, at_⟩
theorem sc_law_many_parts : FnScope ["bag", "many_sides", "dear", "net", "k"] ["bag", "many_sides", "dear"] (defScope (top 65)) := ⟨rfl, rfl, rfl, by decide +kernel, rfl, by decide +kernel, by decide +kernel⟩
theorem okn_law_many_parts {fd : FuncData} (F : FunD K "_law_many_parts" "_law_many_parts" (defArgs (top 65)) (defBody (top 65)) (defScope (top 65)) [] [] (He.ga K "_law_many_parts") fd) (at_ : mg "_law_many_parts" = some (.ref (He.ga K "_law_many_parts"))) (B : Blt mg) (g_law_of : FP P w K mg base "_law_of" 2 2 sp_law_of) (g_law_net : FP P w K mg base "_law_net" 3 3 sp_law_net) (g_law_draw : FP P w K mg base "_law_draw" 1 2 sp_law_draw) (g_law_beside : FP P w K mg base "_law_beside" 1 2 sp_law_beside) (g_law_scattered : FP P w K mg base "_law_scattered" 3 2 sp_law_scattered) : FnOk P w K mg base CX0 4 (He.ga K "_law_many_parts") fd ["bag", "many_sides", "dear"] (up K 3 sp_law_many_parts) := by
  have sc := sc_law_many_parts
  refine F.ok sc (fun _ _ _ _ h => h.1) (fun cdv A outer s H vs Q E hr h => ?_)
  exact ⟨_, PSs.nox (pss_cons (ps_set (i := 3) sc.nd rfl (Or.inl rfl) (pe_f g_law_net (Room.mono hr (by decide)) (by rfl) (pa_cons (pv 0) (pa_cons (pv 1) (pa_cons (pe_ifExp (pt_truth (pv 2) (fun _ => rfl)) (pe_int) (pe_f g_law_of (Room.mono hr (by decide)) (by rfl) (pa_cons (pv 0) (pa_cons (pe_lst (pa_cons (pe_int) (pa_cons (pe_int) (pa_cons (pe_int) (pa_cons (pe_int) (pa_nil)))))) (pa_nil))))) (pa_nil)))))) (pss_cons (ps_for PassesOwn.never rfl (pi_range1 (by rfl) B.range (pa_cons (pe_ifExp (pt_truth (pv 2) (fun _ => rfl)) (pe_int) (pe_f g_law_draw (Room.mono hr (by decide)) (by rfl) (pa_cons (pv 0) (pa_cons (pe_int) (pa_nil))))) pa_nil)) (pg_name (i := 4) sc.nd rfl (Or.inl rfl)) (pss_one (ps_set (i := 3) sc.nd rfl (Or.inl rfl) (pe_f g_law_beside (Room.mono hr (by decide)) (by rfl) (pa_cons (pv 3) (pa_cons (pe_f g_law_net (Room.mono hr (by decide)) (by rfl) (pa_cons (pv 0) (pa_cons (pv 1) (pa_cons (pe_ifExp (pt_truth (pv 2) (fun _ => rfl)) (pe_int) (pe_f g_law_of (Room.mono hr (by decide)) (by rfl) (pa_cons (pv 0) (pa_cons (pe_lst (pa_cons (pe_int) (pa_cons (pe_int) (pa_cons (pe_int) (pa_cons (pe_int) (pa_cons (pe_int) (pa_nil))))))) (pa_nil))))) (pa_nil))))) (pa_nil))))))) (pss_one (ps_ret (pe_f g_law_scattered (Room.mono hr (by decide)) (by rfl) (pa_cons (pv 0) (pa_cons (pv 3) (pa_nil)))))))),
    body_ok (SndSP.mono (bs := [3, 4]) (sndp_seq ((snds_set (snd_call (ms := [true, false, false]) rfl (snda_cons (snd_var) (snda_cons (snd_var) (snda_cons (snd_if (sndt_truth (snd_var)) (snd_int) (snd_call (ms := [true, true]) rfl (snda_cons (snd_var) (snda_cons (snd_lst (snda_cons (snd_int) (snda_cons (snd_int) (snda_cons (snd_int) (snda_cons (snd_int) (snda_nil)))))) (snda_nil))))) (snda_nil)))))).p) (sndp_seq (sndp_for (as := [3, 4]) (sndi_rng1 (snd_if (sndt_truth (snd_var)) (snd_int) (snd_call (ms := [true, false]) rfl (snda_cons (snd_var) (snda_cons (snd_int) (snda_nil)))))) (sndg_name) ((snds_set (snd_call (ms := [false, false]) rfl (snda_cons (snd_var) (snda_cons (snd_call (ms := [true, false, false]) rfl (snda_cons (snd_var) (snda_cons (snd_var) (snda_cons (snd_if (sndt_truth (snd_var)) (snd_int) (snd_call (ms := [true, true]) rfl (snda_cons (snd_var) (snda_cons (snd_lst (snda_cons (snd_int) (snda_cons (snd_int) (snda_cons (snd_int) (snda_cons (snd_int) (snda_cons (snd_int) (snda_nil))))))) (snda_nil))))) (snda_nil))))) (snda_nil))))).p) (by decide)) (snds_ret (ps := [0]) (snd_call (ms := [true, false]) rfl (snda_cons (snd_var) (snda_cons (snd_var) (snda_nil))))))) (by decide)) pf_law_many_parts vs H Q E h⟩
theorem ok_law_many_parts (F : ∃ fd, FunD K "_law_many_parts" "_law_many_parts" (defArgs (top 65)) (defBody (top 65)) (defScope (top 65)) [] [] (He.ga K "_law_many_parts") fd) (at_ : mg "_law_many_parts" = some (.ref (He.ga K "_law_many_parts"))) (B : Blt mg) (g_law_of : FP P w K mg base "_law_of" 2 2 sp_law_of) (g_law_net : FP P w K mg base "_law_net" 3 3 sp_law_net) (g_law_draw : FP P w K mg base "_law_draw" 1 2 sp_law_draw) (g_law_beside : FP P w K mg base "_law_beside" 1 2 sp_law_beside) (g_law_scattered : FP P w K mg base "_law_scattered" 3 2 sp_law_scattered) : FP P w K mg base "_law_many_parts" 4 3 sp_law_many_parts := by
  obtain ⟨fd, F⟩ := F
  exact ⟨⟨fd, ["bag", "many_sides", "dear"], okn_law_many_parts F at_ B g_law_of g_law_net g_law_draw g_law_beside g_law_scattered, F.bindsN fun _ _ _ _ _ _ us hl => match us, hl with | [_, _, _], _ => rfl⟩, F.kp, at_⟩
theorem sc_has_step_rows : FnScope ["many", "steps", "lengths", "row", "length"] ["many", "steps"] (defScope (top 27)) := ⟨rfl, rfl, rfl, by decide +kernel, rfl, by decide +kernel, by decide +kernel⟩
theorem okn_has_step_rows {fd : FuncData} (F : FunD K "has_step_rows" "has_step_rows" (defArgs (top 27)) (defBody (top 27)) (defScope (top 27)) [] [] (He.ga K "has_step_rows") fd) (at_ : mg "has_step_rows" = some (.ref (He.ga K "has_step_rows"))) (B : Blt mg)  : FnOk P w K mg base CX0 1 (He.ga K "has_step_rows") fd ["many", "steps"] (up K 2 sp_has_step_rows) := by
  have sc := sc_has_step_rows
  refine F.ok sc (fun _ _ _ _ h => h.1) (fun cdv A outer s H vs Q E hr h => ?_)
  exact ⟨_, PSs.nox (pss_cons (ps_if (PW.pt (pw_or (pt_not (pt_val (pe_callB call_isiT (by rfl) B.isinstance (by decide +kernel) (pa_cons (pv 1) (pa_cons (pe_tup (pa_cons (pe_bltn (v := .ty "list") (u := .type "list") (by rfl) B.list (by decide +kernel) rfl) (pa_cons (pe_bltn (v := .ty "tuple") (u := .type "tuple") (by rfl) B.tuple (by decide +kernel) rfl) pa_nil))) pa_nil))))) (pw_or1 (pt_cmpR (op_neD hr.units) (pe_callB call_len (by rfl) B.len boot_len (pa_cons (pv 1) (pa_nil))) (pv 0) (nomark _))))) (pss_one (ps_ret (pe_bl))) (pss_nil)) (pss_cons (ps_set (i := 2) sc.nd rfl (Or.inr rfl) (pe_lst (pa_nil))) (pss_cons (ps_for PassesOwn.never rfl (pi_list (pv 1)) (pg_name (i := 3) sc.nd rfl (Or.inl rfl)) (pss_cons (ps_if (pt_not (pt_val (pe_callB call_isiT (by rfl) B.isinstance (by decide +kernel) (pa_cons (pv 3) (pa_cons (pe_tup (pa_cons (pe_bltn (v := .ty "list") (u := .type "list") (by rfl) B.list (by decide +kernel) rfl) (pa_cons (pe_bltn (v := .ty "tuple") (u := .type "tuple") (by rfl) B.tuple (by decide +kernel) rfl) pa_nil))) pa_nil))))) (pss_one (ps_ret (pe_bl))) (pss_nil)) (pss_one (ps_expr (pe_bm PySem.F.plainAttrs_list PySem.F.slot_list_append PySem.F.type_list_append mt_append (pv 2) (pa_cons (pe_callB call_len (by rfl) B.len boot_len (pa_cons (pv 3) (pa_nil))) (pa_nil))))))) (pss_one (ps_ret (pe_and (pe_cmpR op_gt (pe_ix ix_seq (pv 2) (pe_int) (fun _ _ => rfl)) (pe_int) (nomark _)) (pe_one (pe_callB (cr_all rfl) (by rfl) B.all (by decide +kernel) (pa_cons (pe_lc (own := [("length", 4)]) (g := gName 4) rfl sc.nd (pi_list (pv 2)) (blkOk_by (by kernel_rfl)) (fun _ _ _ _ _ => pg_name (i := 4) sc.nd rfl (Or.inl rfl)) (fun _ _ _ _ _ => pts_nil) (fun _ _ _ _ _ => pe_cmpR (op_eqD hr.units) (pv 4) (pe_ix ix_seq (pv 2) (pe_int) (fun _ _ => rfl)) (nomark _))) (pa_nil)))))))))),
    body_ok (SndSP.mono (bs := [2, 3]) (sndp_seq (sndp_if (sndt_or (sndt_not (sndt_val (snd_isi2 .list .tuple rfl rfl (snd_var)))) (sndt_test (snd_op snd_ne (snd_cb snd_len (snda_cons (snd_var) (snda_nil))) (snd_var)))) (snds_ret (ps := []) (snd_bl)) (snds_next.p)) (sndp_seq ((snds_setO (snd_lst (snda_nil))).p) (sndp_seq (sndp_for (as := [3]) (sndi_list (snd_var)) (sndg_name) (sndp_seq (sndp_if (sndt_not (sndt_val (snd_isi2 .list .tuple rfl rfl (snd_var)))) (snds_ret (ps := []) (snd_bl)) (snds_next.p)) ((snds_expr (snd_lm sndm_append (snd_var) (snda_cons (snd_cb snd_len (snda_cons (snd_var) (snda_nil))) (snda_nil)))).p)) (by decide)) (snds_ret (ps := []) (snd_andV (snd_op (snd_icmp (p := fun i j => decide (j < i))) (snd_op snd_ix (snd_var) (snd_int)) (snd_int)) (snd_cb snd_all (snda_cons (snd_comp (vs := [4]) (sndi_list (snd_var)) (sndg_name) (sndt_yes) (snd_op snd_eq (snd_var) (snd_op snd_ix (snd_var) (snd_int))) (by decide)) (snda_nil)))))))) (by decide)) pf_has_step_rows vs H Q E h⟩
theorem ok_has_step_rows (F : ∃ fd, FunD K "has_step_rows" "has_step_rows" (defArgs (top 27)) (defBody (top 27)) (defScope (top 27)) [] [] (He.ga K "has_step_rows") fd) (at_ : mg "has_step_rows" = some (.ref (He.ga K "has_step_rows"))) (B : Blt mg)  : FP P w K mg base "has_step_rows" 1 2 sp_has_step_rows := by
  obtain ⟨fd, F⟩ := F
  exact ⟨⟨fd, ["many", "steps"], okn_has_step_rows F at_ B , F.bindsN fun _ _ _ _ _ _ us hl => match us, hl with | [_, _], _ => rfl⟩, F.kp, at_⟩
theorem sc_is_number : FnScope ["value"] ["value"] (defScope (top 8)) := ⟨rfl, rfl, rfl, by decide +kernel, rfl, by decide +kernel, by decide +kernel⟩
theorem okn_is_number {fd : FuncData} (F : FunD K "is_number" "is_number" (defArgs (top 8)) (defBody (top 8)) (defScope (top 8)) [] [] (He.ga K "is_number") fd) (at_ : mg "is_number" = some (.ref (He.ga K "is_number"))) (B : Blt mg)  : FnOk P w K mg base CX0 1 (He.ga K "is_number") fd ["value"] (up K 1 sp_is_number) := by
  have sc := sc_is_number
  refine F.ok sc (fun _ _ _ _ h => h.1) (fun cdv A outer s H vs Q E hr h => ?_)
  exact ⟨_, PSs.nox (pss_one (ps_ret (pe_and (pe_callB call_isi (by rfl) B.isinstance (by decide +kernel) (pa_cons (pv 0) (pa_cons (pe_bltn (v := .ty "int") (u := .type "int") (by rfl) B.int (by decide +kernel) rfl) pa_nil))) (pe_one (pe_not (pe_callB call_isi (by rfl) B.isinstance (by decide +kernel) (pa_cons (pv 0) (pa_cons (pe_bltn (v := .ty "bool") (u := .type "bool") (by rfl) B.bool (by decide +kernel) rfl) pa_nil)))))))),
    body_ok (SndSP.mono (bs := []) (snds_ret (ps := []) (snd_andV (snd_isi .int rfl (snd_var)) (snd_notV (snd_isi .bool rfl (snd_var))))) (by decide)) pf_is_number vs H Q E h⟩
theorem ok_is_number (F : ∃ fd, FunD K "is_number" "is_number" (defArgs (top 8)) (defBody (top 8)) (defScope (top 8)) [] [] (He.ga K "is_number") fd) (at_ : mg "is_number" = some (.ref (He.ga K "is_number"))) (B : Blt mg)  : FP P w K mg base "is_number" 1 1 sp_is_number := by
  obtain ⟨fd, F⟩ := F
  exact ⟨⟨fd, ["value"], okn_is_number F at_ B , F.bindsN fun _ _ _ _ _ _ us hl => match us, hl with | [_], _ => rfl⟩, F.kp, at_⟩
theorem sc_is_index : FnScope ["value", "many"] ["value", "many"] (defScope (top 9)) := ⟨rfl, rfl, rfl, by decide +kernel, rfl, by decide +kernel, by decide +kernel⟩
theorem okn_is_index {fd : FuncData} (F : FunD K "is_index" "is_index" (defArgs (top 9)) (defBody (top 9)) (defScope (top 9)) [] [] (He.ga K "is_index") fd) (at_ : mg "is_index" = some (.ref (He.ga K "is_index"))) (B : Blt mg) (g_is_number : FP P w K mg base "is_number" 1 1 sp_is_number) : FnOk P w K mg base CX0 2 (He.ga K "is_index") fd ["value", "many"] (up K 2 sp_is_index) := by
  have sc := sc_is_index
  refine F.ok sc (fun _ _ _ _ h => h.1) (fun cdv A outer s H vs Q E hr h => ?_)
  exact ⟨_, PSs.nox (pss_one (ps_ret (pe_and (pe_f g_is_number (Room.mono hr (by decide)) (by rfl) (pa_cons (pv 0) (pa_nil))) (pe_one (pe_chain op_le op_lt (pe_int) (pv 0) (pv 1)))))),
    body_ok (SndSP.mono (bs := []) (snds_ret (ps := []) (snd_andV (snd_call (ms := [false]) rfl (snda_cons (snd_var) (snda_nil))) (snd_chain (p := fun i j => decide (i ≤ j)) (p' := fun i j => decide (i < j)) (snd_int) (snd_var) (snd_var)))) (by decide)) pf_is_index vs H Q E h⟩
theorem ok_is_index (F : ∃ fd, FunD K "is_index" "is_index" (defArgs (top 9)) (defBody (top 9)) (defScope (top 9)) [] [] (He.ga K "is_index") fd) (at_ : mg "is_index" = some (.ref (He.ga K "is_index"))) (B : Blt mg) (g_is_number : FP P w K mg base "is_number" 1 1 sp_is_number) : FP P w K mg base "is_index" 2 2 sp_is_index := by
  obtain ⟨fd, F⟩ := F
  exact ⟨⟨fd, ["value", "many"], okn_is_index F at_ B g_is_number, F.bindsN fun _ _ _ _ _ _ us hl => match us, hl with | [_, _], _ => rfl⟩, F.kp, at_⟩
theorem sc_is_sign : FnScope ["value"] ["value"] (defScope (top 10)) := ⟨rfl, rfl, rfl, by decide +kernel, rfl, by decide +kernel, by decide +kernel⟩
theorem okn_is_sign {fd : FuncData} (F : FunD K "is_sign" "is_sign" (defArgs (top 10)) (defBody (top 10)) (defScope (top 10)) [] [] (He.ga K "is_sign") fd) (at_ : mg "is_sign" = some (.ref (He.ga K "is_sign"))) (B : Blt mg) (g_is_number : FP P w K mg base "is_number" 1 1 sp_is_number) : FnOk P w K mg base CX0 2 (He.ga K "is_sign") fd ["value"] (up K 1 sp_is_sign) := by
  have sc := sc_is_sign
  refine F.ok sc (fun _ _ _ _ h => h.1) (fun cdv A outer s H vs Q E hr h => ?_)
  exact ⟨_, PSs.nox (pss_one (ps_ret (pe_and (pe_f g_is_number (Room.mono hr (by decide)) (by rfl) (pa_cons (pv 0) (pa_nil))) (pe_one (pe_or (pe_cmpR (op_eqD hr.units) (pv 0) (pe_int) (nomark _)) (pe_one (pe_cmpR (op_eqD hr.units) (pv 0) (pe_un un_neg (pe_int)) (nomark _)))))))),
    body_ok (SndSP.mono (bs := []) (snds_ret (ps := []) (snd_andV (snd_call (ms := [false]) rfl (snda_cons (snd_var) (snda_nil))) (snd_orV (snd_op snd_eq (snd_var) (snd_int)) (snd_op snd_eq (snd_var) (snd_un snd_neg (snd_int)))))) (by decide)) pf_is_sign vs H Q E h⟩
theorem ok_is_sign (F : ∃ fd, FunD K "is_sign" "is_sign" (defArgs (top 10)) (defBody (top 10)) (defScope (top 10)) [] [] (He.ga K "is_sign") fd) (at_ : mg "is_sign" = some (.ref (He.ga K "is_sign"))) (B : Blt mg) (g_is_number : FP P w K mg base "is_number" 1 1 sp_is_number) : FP P w K mg base "is_sign" 2 1 sp_is_sign := by
  obtain ⟨fd, F⟩ := F
  exact ⟨⟨fd, ["value"], okn_is_sign F at_ B g_is_number, F.bindsN fun _ _ _ _ _ _ us hl => match us, hl with | [_], _ => rfl⟩, F.kp, at_⟩
theorem sc_is_step : FnScope ["value", "copies"] ["value", "copies"] (defScope (top 28)) := ⟨rfl, rfl, rfl, by decide +kernel, rfl, by decide +kernel, by decide +kernel⟩
theorem okn_is_step {fd : FuncData} (F : FunD K "is_step" "is_step" (defArgs (top 28)) (defBody (top 28)) (defScope (top 28)) [] [] (He.ga K "is_step") fd) (at_ : mg "is_step" = some (.ref (He.ga K "is_step"))) (B : Blt mg) (g_is_index : FP P w K mg base "is_index" 2 2 sp_is_index) (g_is_sign : FP P w K mg base "is_sign" 2 1 sp_is_sign) : FnOk P w K mg base CX0 3 (He.ga K "is_step") fd ["value", "copies"] (up K 2 sp_is_step) := by
  have sc := sc_is_step
  refine F.ok sc (fun _ _ _ _ h => h.1) (fun cdv A outer s H vs Q E hr h => ?_)
  exact ⟨_, PSs.nox (pss_one (ps_ret (pe_and (pe_callB call_isi (by rfl) B.isinstance (by decide +kernel) (pa_cons (pv 0) (pa_cons (pe_bltn (v := .ty "tuple") (u := .type "tuple") (by rfl) B.tuple (by decide +kernel) rfl) pa_nil))) (pe_and (pe_cmpR (op_eqD hr.units) (pe_callB call_len (by rfl) B.len boot_len (pa_cons (pv 0) (pa_nil))) (pe_int) (nomark _)) (pe_and (pe_f g_is_index (Room.mono hr (by decide)) (by rfl) (pa_cons (pe_ix ix_seq (pv 0) (pe_int) (fun _ _ => rfl)) (pa_cons (pv 1) (pa_nil)))) (pe_one (pe_f g_is_sign (Room.mono hr (by decide)) (by rfl) (pa_cons (pe_ix ix_seq (pv 0) (pe_int) (fun _ _ => rfl)) (pa_nil))))))))),
    body_ok (SndSP.mono (bs := []) (snds_ret (ps := []) (snd_andV (snd_isi .tuple rfl (snd_var)) (snd_andV (snd_op snd_eq (snd_cb snd_len (snda_cons (snd_var) (snda_nil))) (snd_int)) (snd_andV (snd_call (ms := [false, false]) rfl (snda_cons (snd_op snd_ix (snd_var) (snd_int)) (snda_cons (snd_var) (snda_nil)))) (snd_call (ms := [false]) rfl (snda_cons (snd_op snd_ix (snd_var) (snd_int)) (snda_nil))))))) (by decide)) pf_is_step vs H Q E h⟩
theorem ok_is_step (F : ∃ fd, FunD K "is_step" "is_step" (defArgs (top 28)) (defBody (top 28)) (defScope (top 28)) [] [] (He.ga K "is_step") fd) (at_ : mg "is_step" = some (.ref (He.ga K "is_step"))) (B : Blt mg) (g_is_index : FP P w K mg base "is_index" 2 2 sp_is_index) (g_is_sign : FP P w K mg base "is_sign" 2 1 sp_is_sign) : FP P w K mg base "is_step" 3 2 sp_is_step := by
  obtain ⟨fd, F⟩ := F
  exact ⟨⟨fd, ["value", "copies"], okn_is_step F at_ B g_is_index g_is_sign, F.bindsN fun _ _ _ _ _ _ us hl => match us, hl with | [_, _], _ => rfl⟩, F.kp, at_⟩
theorem sc_wrong_step : FnScope ["many", "steps", "copies", "side", "row", "copy", "item", "other", "sign"] ["many", "steps"] (defScope (top 29)) := ⟨rfl, rfl, rfl, by decide +kernel, rfl, by decide +kernel, by decide +kernel⟩
theorem okn_wrong_step {fd : FuncData} (F : FunD K "wrong_step" "wrong_step" (defArgs (top 29)) (defBody (top 29)) (defScope (top 29)) [] [] (He.ga K "wrong_step") fd) (at_ : mg "wrong_step" = some (.ref (He.ga K "wrong_step"))) (B : Blt mg) (g_has_step_rows : FP P w K mg base "has_step_rows" 1 2 sp_has_step_rows) (g_is_step : FP P w K mg base "is_step" 3 2 sp_is_step) : FnOk P w K mg base CX0 4 (He.ga K "wrong_step") fd ["many", "steps"] (up K 2 sp_wrong_step) := by
  have sc := sc_wrong_step
  refine F.ok sc (fun _ _ _ _ h => h.1) (fun cdv A outer s H vs Q E hr h => ?_)
  exact ⟨_, PSs.nox (pss_cons (ps_if (pt_not (pt_val (pe_f g_has_step_rows (Room.mono hr (by decide)) (by rfl) (pa_cons (pv 0) (pa_cons (pv 1) (pa_nil)))))) (pss_one (ps_ret (pe_tup (pa_cons (pe_un un_neg (pe_int)) (pa_cons (pe_un un_neg (pe_int)) (pa_nil)))))) (pss_nil)) (pss_cons (ps_set (i := 2) sc.nd rfl (Or.inl rfl) (pe_callB call_len (by rfl) B.len boot_len (pa_cons (pe_ix ix_seq (pv 1) (pe_int) (fun _ _ => rfl)) (pa_nil)))) (pss_cons (ps_for PassesOwn.never rfl (pi_enum (by rfl) B.enumerate (pa_cons (pv 1) pa_nil)) (pg_tup rfl (pgs_cons (pg_name (i := 3) sc.nd rfl (Or.inl rfl)) (pgs_cons (pg_name (i := 4) sc.nd rfl (Or.inl rfl)) (pgs_nil)))) (pss_one (ps_for PassesOwn.never rfl (pi_enum (by rfl) B.enumerate (pa_cons (pv 4) pa_nil)) (pg_tup rfl (pgs_cons (pg_name (i := 5) sc.nd rfl (Or.inl rfl)) (pgs_cons (pg_name (i := 6) sc.nd rfl (Or.inl rfl)) (pgs_nil)))) (pss_one (ps_if (pt_not (pt_val (pe_f g_is_step (Room.mono hr (by decide)) (by rfl) (pa_cons (pv 6) (pa_cons (pv 2) (pa_nil)))))) (pss_one (ps_ret (pe_tup (pa_cons (pv 3) (pa_cons (pv 5) (pa_nil)))))) (pss_nil)))))) (pss_cons (ps_for PassesOwn.never rfl (pi_enum (by rfl) B.enumerate (pa_cons (pv 1) pa_nil)) (pg_tup rfl (pgs_cons (pg_name (i := 3) sc.nd rfl (Or.inl rfl)) (pgs_cons (pg_name (i := 4) sc.nd rfl (Or.inl rfl)) (pgs_nil)))) (pss_one (ps_for PassesOwn.never rfl (pi_enum (by rfl) B.enumerate (pa_cons (pv 4) pa_nil)) (pg_tup rfl (pgs_cons (pg_name (i := 5) sc.nd rfl (Or.inl rfl)) (pgs_cons (pg_tup rfl (pgs_cons (pg_name (i := 7) sc.nd rfl (Or.inl rfl)) (pgs_cons (pg_name (i := 8) sc.nd rfl (Or.inl rfl)) (pgs_nil)))) (pgs_nil)))) (pss_one (ps_if (pt_cmpR (op_neD hr.units) (pe_ix ix_seq (pv 4) (pv 7) (fun _ _ => rfl)) (pe_tup (pa_cons (pv 5) (pa_cons (pv 8) (pa_nil)))) (nomark _)) (pss_one (ps_ret (pe_tup (pa_cons (pv 3) (pa_cons (pv 5) (pa_nil)))))) (pss_nil)))))) (pss_one (ps_ret (pe_non))))))),
    body_ok (SndSP.mono (bs := [2, 3, 4, 5, 6, 7, 8]) (sndp_seq (sndp_if (sndt_not (sndt_val (snd_call (ms := [false, false]) rfl (snda_cons (snd_var) (snda_cons (snd_var) (snda_nil)))))) (snds_ret (ps := []) (snd_tup (snda_cons (snd_un snd_neg (snd_int)) (snda_cons (snd_un snd_neg (snd_int)) (snda_nil))))) (snds_next.p)) (sndp_seq ((snds_set (snd_cb snd_len (snda_cons (snd_op snd_ix (snd_var) (snd_int)) (snda_nil)))).p) (sndp_seq (sndp_for (as := [3, 4, 5, 6]) (sndi_enum (snd_var)) (sndg_tup (n := 2) (sndgs_cons (sndg_name) (sndgs_cons (sndg_name) (sndgs_nil)))) (sndp_for (as := [5, 6]) (sndi_enum (snd_var)) (sndg_tup (n := 2) (sndgs_cons (sndg_name) (sndgs_cons (sndg_name) (sndgs_nil)))) (sndp_if (sndt_not (sndt_val (snd_call (ms := [false, false]) rfl (snda_cons (snd_var) (snda_cons (snd_var) (snda_nil)))))) (snds_ret (ps := []) (snd_tup (snda_cons (snd_var) (snda_cons (snd_var) (snda_nil))))) (snds_next.p)) (by decide)) (by decide)) (sndp_seq (sndp_for (as := [3, 4, 5, 7, 8]) (sndi_enum (snd_var)) (sndg_tup (n := 2) (sndgs_cons (sndg_name) (sndgs_cons (sndg_name) (sndgs_nil)))) (sndp_for (as := [5, 7, 8]) (sndi_enum (snd_var)) (sndg_tup (n := 2) (sndgs_cons (sndg_name) (sndgs_cons (sndg_tup (n := 2) (sndgs_cons (sndg_name) (sndgs_cons (sndg_name) (sndgs_nil)))) (sndgs_nil)))) (sndp_if (sndt_test (snd_op snd_ne (snd_op snd_ix (snd_var) (snd_var)) (snd_tup (snda_cons (snd_var) (snda_cons (snd_var) (snda_nil)))))) (snds_ret (ps := []) (snd_tup (snda_cons (snd_var) (snda_cons (snd_var) (snda_nil))))) (snds_next.p)) (by decide)) (by decide)) (snds_ret (ps := []) (snd_non)))))) (by decide)) pf_wrong_step vs H Q E h⟩
theorem ok_wrong_step (F : ∃ fd, FunD K "wrong_step" "wrong_step" (defArgs (top 29)) (defBody (top 29)) (defScope (top 29)) [] [] (He.ga K "wrong_step") fd) (at_ : mg "wrong_step" = some (.ref (He.ga K "wrong_step"))) (B : Blt mg) (g_has_step_rows : FP P w K mg base "has_step_rows" 1 2 sp_has_step_rows) (g_is_step : FP P w K mg base "is_step" 3 2 sp_is_step) : FP P w K mg base "wrong_step" 4 2 sp_wrong_step := by
  obtain ⟨fd, F⟩ := F
  exact ⟨⟨fd, ["many", "steps"], okn_wrong_step F at_ B g_has_step_rows g_is_step, F.bindsN fun _ _ _ _ _ _ us hl => match us, hl with | [_, _], _ => rfl⟩, F.kp, at_⟩
theorem sc_is_side_name : FnScope ["value", "letter"] ["value"] (defScope (top 14)) := ⟨rfl, rfl, rfl, by decide +kernel, rfl, by decide +kernel, by decide +kernel⟩
theorem okn_is_side_name {fd : FuncData} (F : FunD K "is_side_name" "is_side_name" (defArgs (top 14)) (defBody (top 14)) (defScope (top 14)) [] [] (He.ga K "is_side_name") fd) (at_ : mg "is_side_name" = some (.ref (He.ga K "is_side_name"))) (B : Blt mg) (c_LONGEST_NAME : ∃ t, mg "LONGEST_NAME" = some (.int 3 t)) (c_LETTERS : ∃ t, mg "LETTERS" = some (.str "abcdefghijklmnopqrstuvwxyz" t)) : FnOk P w K mg base CX0 1 (He.ga K "is_side_name") fd ["value"] (up K 1 sp_is_side_name) := by
  have sc := sc_is_side_name
  refine F.ok sc (fun _ _ _ _ h => h.1) (fun cdv A outer s H vs Q E hr h => ?_)
  exact ⟨_, PSs.nox (pss_cons (ps_if (PW.pt (pw_or (pt_not (pt_val (pe_callB call_isi (by rfl) B.isinstance (by decide +kernel) (pa_cons (pv 0) (pa_cons (pe_bltn (v := .ty "str") (u := .type "str") (by rfl) B.str (by decide +kernel) rfl) pa_nil))))) (pw_or1 (pt_not (pt_chain op_le op_le (pe_int) (pe_callB call_len (by rfl) B.len boot_len (pa_cons (pv 0) (pa_nil))) (pe_gi c_LONGEST_NAME rfl)))))) (pss_one (ps_ret (pe_bl))) (pss_nil)) (pss_one (ps_ret (pe_callB (cr_all rfl) (by rfl) B.all (by decide +kernel) (pa_cons (pe_lc (own := [("letter", 1)]) (g := gName 1) rfl sc.nd (pi_str (pv 0)) (blkOk_by (by kernel_rfl)) (fun _ _ _ _ _ => pg_name (i := 1) sc.nd rfl (Or.inl rfl)) (fun _ _ _ _ _ => pts_nil) (fun _ _ _ _ _ => pe_cmpR (op_inU (Room.u65 hr)) (pv 1) (pe_gs c_LETTERS rfl) (by rfl))) (pa_nil)))))),
    body_ok (SndSP.mono (bs := []) (sndp_seq (sndp_if (sndt_or (sndt_not (sndt_val (snd_isi .str rfl (snd_var)))) (sndt_not (sndt_test (snd_chain (p := fun i j => decide (i ≤ j)) (p' := fun i j => decide (i ≤ j)) (snd_int) (snd_cb snd_len (snda_cons (snd_var) (snda_nil))) (snd_int))))) (snds_ret (ps := []) (snd_bl)) (snds_next.p)) (snds_ret (ps := []) (snd_cb snd_all (snda_cons (snd_comp (vs := [1]) (sndi_str (snd_var)) (sndg_name) (sndt_yes) (snd_op snd_in (snd_var) (snd_str)) (by decide)) (snda_nil))))) (by decide)) pf_is_side_name vs H Q E h⟩
theorem ok_is_side_name (F : ∃ fd, FunD K "is_side_name" "is_side_name" (defArgs (top 14)) (defBody (top 14)) (defScope (top 14)) [] [] (He.ga K "is_side_name") fd) (at_ : mg "is_side_name" = some (.ref (He.ga K "is_side_name"))) (B : Blt mg) (c_LONGEST_NAME : ∃ t, mg "LONGEST_NAME" = some (.int 3 t)) (c_LETTERS : ∃ t, mg "LETTERS" = some (.str "abcdefghijklmnopqrstuvwxyz" t)) : FP P w K mg base "is_side_name" 1 1 sp_is_side_name := by
  obtain ⟨fd, F⟩ := F
  exact ⟨⟨fd, ["value"], okn_is_side_name F at_ B c_LONGEST_NAME c_LETTERS, F.bindsN fun _ _ _ _ _ _ us hl => match us, hl with | [_], _ => rfl⟩, F.kp, at_⟩
theorem sc_is_sides : FnScope ["value", "met", "name"] ["value"] (defScope (top 15)) := ⟨rfl, rfl, rfl, by decide +kernel, rfl, by decide +kernel, by decide +kernel⟩
theorem okn_is_sides {fd : FuncData} (F : FunD K "is_sides" "is_sides" (defArgs (top 15)) (defBody (top 15)) (defScope (top 15)) [] [] (He.ga K "is_sides") fd) (at_ : mg "is_sides" = some (.ref (He.ga K "is_sides"))) (B : Blt mg) (g_is_side_name : FP P w K mg base "is_side_name" 1 1 sp_is_side_name) : FnOk P w K mg base CX0 2 (He.ga K "is_sides") fd ["value"] (up K 1 sp_is_sides) := by
  have sc := sc_is_sides
  refine F.ok sc (fun _ _ _ _ h => h.1) (fun cdv A outer s H vs Q E hr h => ?_)
  exact ⟨_, PSs.nox (pss_cons (ps_if (PW.pt (pw_or (pt_not (pt_val (pe_callB call_isi (by rfl) B.isinstance (by decide +kernel) (pa_cons (pv 0) (pa_cons (pe_bltn (v := .ty "tuple") (u := .type "tuple") (by rfl) B.tuple (by decide +kernel) rfl) pa_nil))))) (pw_or1 (pt_cmpR (op_eqD hr.units) (pe_callB call_len (by rfl) B.len boot_len (pa_cons (pv 0) (pa_nil))) (pe_int) (nomark _))))) (pss_one (ps_ret (pe_bl))) (pss_nil)) (pss_cons (ps_set (i := 1) sc.nd rfl (Or.inl rfl) (pe_dnewK)) (pss_cons (ps_for PassesOwn.never rfl (pi_tup (pv 0)) (pg_name (i := 2) sc.nd rfl (Or.inl rfl)) (pss_cons (ps_if (PW.pt (pw_or (pt_not (pt_val (pe_f g_is_side_name (Room.mono hr (by decide)) (by rfl) (pa_cons (pv 2) (pa_nil))))) (pw_or1 (pt_cmp (pc_din (hu_of hr) (pv 2) (pv 1)))))) (pss_one (ps_ret (pe_bl))) (pss_nil)) (pss_one (ps_dput (hu_of hr) (pv 1) (pv 2) (pe_bl) rfl)))) (pss_one (ps_ret (pe_bl)))))),
    body_ok (SndSP.mono (bs := [1, 2]) (sndp_seq (sndp_if (sndt_or (sndt_not (sndt_val (snd_isi .tuple rfl (snd_var)))) (sndt_test (snd_op snd_eq (snd_cb snd_len (snda_cons (snd_var) (snda_nil))) (snd_int)))) (snds_ret (ps := []) (snd_bl)) (snds_next.p)) (sndp_seq ((snds_setO (snd_dnew)).p) (sndp_seq (sndp_for (as := [2]) (sndi_tup (snd_var)) (sndg_name) (sndp_seq (sndp_if (sndt_or (sndt_not (sndt_val (snd_call (ms := [false]) rfl (snda_cons (snd_var) (snda_nil))))) (sndt_val (snd_din (snd_var) (snd_var)))) (snds_ret (ps := []) (snd_bl)) (snds_next.p)) ((snds_dput (snd_var) (snd_var) (snd_bl)).p)) (by decide)) (snds_ret (ps := []) (snd_bl))))) (by decide)) pf_is_sides vs H Q E h⟩
theorem ok_is_sides (F : ∃ fd, FunD K "is_sides" "is_sides" (defArgs (top 15)) (defBody (top 15)) (defScope (top 15)) [] [] (He.ga K "is_sides") fd) (at_ : mg "is_sides" = some (.ref (He.ga K "is_sides"))) (B : Blt mg) (g_is_side_name : FP P w K mg base "is_side_name" 1 1 sp_is_side_name) : FP P w K mg base "is_sides" 2 1 sp_is_sides := by
  obtain ⟨fd, F⟩ := F
  exact ⟨⟨fd, ["value"], okn_is_sides F at_ B g_is_side_name, F.bindsN fun _ _ _ _ _ _ us hl => match us, hl with | [_], _ => rfl⟩, F.kp, at_⟩
theorem sc_Plan_init__ : FnScope ["self", "sides", "steps", "wrong", "row"] ["self", "sides", "steps"] (defScope (inClass (top 30) 0)) := ⟨rfl, rfl, rfl, by decide +kernel, rfl, by decide +kernel, by decide +kernel⟩
theorem ok_Plan_init__ (F : ∃ fd, FunD K "__init__" "Plan.__init__" (defArgs (inClass (top 30) 0)) (defBody (inClass (top 30) 0)) (defScope (inClass (top 30) 0)) [] [] (He.ma K (He.ga K "Plan") "__init__") fd) (mk : Mk K (He.ga K "Plan") (He.ma K (He.ga K "Plan") "__init__")) (at_ : mg "Plan" = some (.ref (He.ga K "Plan"))) (B : Blt mg) (g_is_sides : FP P w K mg base "is_sides" 2 1 sp_is_sides) (g_wrong_step : FP P w K mg base "wrong_step" 4 2 sp_wrong_step) (k_Plan : ClsF K "Plan" flds_Plan) : KP P w K mg base "Plan" 5 3 sp_Plan_init__ := by
  have sc := sc_Plan_init__
  obtain ⟨fd, F⟩ := F
  refine ⟨⟨fd, ["self", "sides", "steps"], F.ok sc (fun _ _ _ _ h => h.1) (fun cdv A outer s H vs Q E hr h => ?_), F.bindsN fun _ _ _ _ _ _ us hl => match us, hl with | [_, _, _], _ => rfl⟩, mk, at_⟩
  exact ⟨_, PSs.nox (pss_cons (ps_if (pt_not (pt_val (pe_f g_is_sides (Room.mono hr (by decide)) (by rfl) (pa_cons (pv 1) (pa_nil))))) (pss_one (ps_never)) (pss_nil)) (pss_cons (ps_set (i := 3) sc.nd rfl (Or.inl rfl) (pe_f g_wrong_step (Room.mono hr (by decide)) (by rfl) (pa_cons (pe_callB call_len (by rfl) B.len boot_len (pa_cons (pv 1) (pa_nil))) (pa_cons (pv 2) (pa_nil))))) (pss_cons (ps_if (pt_cmpR op_notN (pv 3) (pe_non) (nomark _)) (pss_one (ps_never)) (pss_nil)) (pss_cons (ps_fld (pv 0) (pv 1) rfl) (pss_cons (ps_fld (pv 0) (pe_callB call_len (by rfl) B.len boot_len (pa_cons (pe_ix ix_seq (pv 2) (pe_int) (fun _ _ => rfl)) (pa_nil))) rfl) (pss_one (ps_fld (pv 0) (pe_lc (own := [("row", 4)]) (g := gName 4) rfl sc.nd (pi_list (pv 2)) (blkOk_by (by kernel_rfl)) (fun _ _ _ _ _ => pg_name (i := 4) sc.nd rfl (Or.inl rfl)) (fun _ _ _ _ _ => pts_nil) (fun _ _ _ _ _ => pe_callTy call_list_of (by rfl) B.list (by decide +kernel) (pa_cons (pv 4) (pa_nil)))) rfl))))))),
    body_ok (SndSP.mono (bs := [3]) (sndp_seq (sndp_if (sndt_not (sndt_val (snd_call (ms := [false]) rfl (snda_cons (snd_var) (snda_nil))))) (snds_never.p) (snds_next.p)) (sndp_seq ((snds_set (snd_call (ms := [false, false]) rfl (snda_cons (snd_cb snd_len (snda_cons (snd_var) (snda_nil))) (snda_cons (snd_var) (snda_nil))))).p) (sndp_seq (sndp_if (sndt_test (snd_op snd_notN (snd_var) (snd_non))) (snds_never.p) (snds_next.p)) (sndp_seq ((snds_setf (cn := "Plan") k_Plan.c (k_Plan.n _ (by simp [flds_Plan])) (snd_var) (snd_var)).p) (sndp_seq ((snds_setf (cn := "Plan") k_Plan.c (k_Plan.n _ (by simp [flds_Plan])) (snd_var) (snd_cb snd_len (snda_cons (snd_op snd_ix (snd_var) (snd_int)) (snda_nil)))).p) ((snds_setf (cn := "Plan") k_Plan.c (k_Plan.n _ (by simp [flds_Plan])) (snd_var) (snd_comp (vs := [4]) (sndi_list (snd_var)) (sndg_name) (sndt_yes) (snd_cb snd_list (snda_cons (snd_var) (snda_nil))) (by decide))).p)))))) (by decide)) pf_Plan_init__ vs H Q E h⟩
theorem sc_law_plan : FnScope ["labels", "net", "x"] ["labels", "net"] (defScope (top 51)) := ⟨rfl, rfl, rfl, by decide +kernel, rfl, by decide +kernel, by decide +kernel⟩
theorem okn_law_plan {fd : FuncData} (F : FunD K "_law_plan" "_law_plan" (defArgs (top 51)) (defBody (top 51)) (defScope (top 51)) [] [] (He.ga K "_law_plan") fd) (at_ : mg "_law_plan" = some (.ref (He.ga K "_law_plan"))) (B : Blt mg) (n_Plan : KP P w K mg base "Plan" 5 3 sp_Plan_init__) : FnOk P w K mg base CX0 7 (He.ga K "_law_plan") fd ["labels", "net"] (up K 2 sp_law_plan) := by
  have sc := sc_law_plan
  refine F.ok sc (fun _ _ _ _ h => h.1) (fun cdv A outer s H vs Q E hr h => ?_)
  exact ⟨_, PSs.nox (pss_one (ps_ret (pe_new n_Plan (Room.mono hr (by decide)) (by rfl) (pa_cons (pv 0) (pa_cons (pe_lc (own := [("x", 2)]) (g := gName 2) rfl sc.nd (pi_list (pv 1)) (blkOk_by (by kernel_rfl)) (fun _ _ _ _ _ => pg_name (i := 2) sc.nd rfl (Or.inl rfl)) (fun _ _ _ _ _ => pts_nil) (fun _ _ _ _ _ => pe_callTy call_list_of (by rfl) B.list (by decide +kernel) (pa_cons (pv 2) (pa_nil)))) (pa_nil)))))),
    body_ok (SndSP.mono (bs := []) (snds_ret (ps := []) (snd_make (ms := [false, false]) rfl (snda_cons (snd_var) (snda_cons (snd_comp (vs := [2]) (sndi_list (snd_var)) (sndg_name) (sndt_yes) (snd_cb snd_list (snda_cons (snd_var) (snda_nil))) (by decide)) (snda_nil))))) (by decide)) pf_law_plan vs H Q E h⟩
theorem ok_law_plan (F : ∃ fd, FunD K "_law_plan" "_law_plan" (defArgs (top 51)) (defBody (top 51)) (defScope (top 51)) [] [] (He.ga K "_law_plan") fd) (at_ : mg "_law_plan" = some (.ref (He.ga K "_law_plan"))) (B : Blt mg) (n_Plan : KP P w K mg base "Plan" 5 3 sp_Plan_init__) : FP P w K mg base "_law_plan" 7 2 sp_law_plan := by
  obtain ⟨fd, F⟩ := F
  exact ⟨⟨fd, ["labels", "net"], okn_law_plan F at_ B n_Plan, F.bindsN fun _ _ _ _ _ _ us hl => match us, hl with | [_, _], _ => rfl⟩, F.kp, at_⟩
theorem sc_law_parts : FnScope ["net", "low", "lap", "elder", "moves", "x", "z"] ["net"] (defScope (top 57)) := ⟨rfl, rfl, rfl, by decide +kernel, rfl, by decide +kernel, by decide +kernel⟩
theorem okn_law_parts {fd : FuncData} (F : FunD K "_law_parts" "_law_parts" (defArgs (top 57)) (defBody (top 57)) (defScope (top 57)) [] [] (He.ga K "_law_parts") fd) (at_ : mg "_law_parts" = some (.ref (He.ga K "_law_parts"))) (B : Blt mg)  : FnOk P w K mg base CX0 1 (He.ga K "_law_parts") fd ["net"] (up K 1 sp_law_parts) := by
  have sc := sc_law_parts
  refine F.ok sc (fun _ _ _ _ h => h.1) (fun cdv A outer s H vs Q E hr h => ?_)
  exact ⟨_, PSs.nox (pss_cons (ps_set (i := 1) sc.nd rfl (Or.inr rfl) (pe_lc (own := [("x", 5)]) (g := gName 5) rfl sc.nd (pi_range1 (by rfl) B.range (pa_cons (pe_callB call_len (by rfl) B.len boot_len (pa_cons (pe_ix ix_seq (pv 0) (pe_int) (fun _ _ => rfl)) (pa_nil))) pa_nil)) (blkOk_by (by kernel_rfl)) (fun _ _ _ _ _ => pg_name (i := 5) sc.nd rfl (Or.inl rfl)) (fun _ _ _ _ _ => pts_nil) (fun _ _ _ _ _ => pv 5))) (pss_cons (ps_for PassesOwn.never rfl (pi_range1 (by rfl) B.range (pa_cons (pe_callB call_len (by rfl) B.len boot_len (pa_cons (pv 1) (pa_nil))) pa_nil)) (pg_name (i := 2) sc.nd rfl (Or.inl rfl)) (pss_cons (ps_set (i := 3) sc.nd rfl (Or.inl rfl) (pe_callTy call_list_of (by rfl) B.list (by decide +kernel) (pa_cons (pv 1) (pa_nil)))) (pss_cons (ps_for PassesOwn.never rfl (pi_list (pv 0)) (pg_name (i := 4) sc.nd rfl (Or.inl rfl)) (pss_one (ps_for PassesOwn.never rfl (pi_range1 (by rfl) B.range (pa_cons (pe_callB call_len (by rfl) B.len boot_len (pa_cons (pv 1) (pa_nil))) pa_nil)) (pg_name (i := 5) sc.nd rfl (Or.inl rfl)) (pss_one (ps_if (pt_cmpR op_lt (pe_ix ix_seq (pv 1) (pe_ix ix_seq (pe_ix ix_seq (pv 4) (pv 5) (fun _ _ => rfl)) (pe_int) (fun _ _ => rfl)) (fun _ _ => rfl)) (pe_ix ix_seq (pv 1) (pv 5) (fun _ _ => rfl)) (nomark _)) (pss_one (ps_asg (pe_ix ix_seq (pv 1) (pe_ix ix_seq (pe_ix ix_seq (pv 4) (pv 5) (fun _ _ => rfl)) (pe_int) (fun _ _ => rfl)) (fun _ _ => rfl)) (pg_sub (pv 1) (pv 5) set_list))) (pss_nil)))))) (pss_one (ps_if (pt_cmpR (op_eqD hr.units) (pv 1) (pv 3) (nomark _)) (pss_one (ps_break)) (pss_nil)))))) (pss_one (ps_ret (pe_lc (own := [("z", 6)]) (g := gName 6) rfl sc.nd (pi_range1 (by rfl) B.range (pa_cons (pe_callB call_len (by rfl) B.len boot_len (pa_cons (pv 1) (pa_nil))) pa_nil)) (blkOk_by (by kernel_rfl)) (fun _ _ _ _ _ => pg_name (i := 6) sc.nd rfl (Or.inr rfl)) (fun _ _ _ _ _ => pts_one (pt_cmpR (op_eqD hr.units) (pe_ix ix_seq (pv 1) (pv 6) (fun _ _ => rfl)) (pv 6) (nomark _))) (fun _ _ _ _ _ => pe_lc (own := [("x", 5)]) (g := gName 5) rfl sc.nd (pi_range1 (by rfl) B.range (pa_cons (pe_callB call_len (by rfl) B.len boot_len (pa_cons (pv 1) (pa_nil))) pa_nil)) (blkOk_by (by kernel_rfl)) (fun _ _ _ _ _ => pg_name (i := 5) sc.nd rfl (Or.inl rfl)) (fun _ _ _ _ _ => pts_one (pt_cmpR (op_eqD hr.units) (pe_ix ix_seq (pv 1) (pv 5) (fun _ _ => rfl)) (pv 6) (nomark _))) (fun _ _ _ _ _ => pv 5))))))),
    body_ok (SndSP.mono (bs := [1, 2, 3, 4, 5]) (sndp_seq ((snds_setO (snd_comp (vs := [5]) (sndi_rng1 (snd_cb snd_len (snda_cons (snd_op snd_ix (snd_var) (snd_int)) (snda_nil)))) (sndg_name) (sndt_yes) (snd_var) (by decide))).p) (sndp_seq (sndp_for (as := [2, 3, 4, 5]) (sndi_rng1 (snd_cb snd_len (snda_cons (snd_var) (snda_nil)))) (sndg_name) (sndp_seq ((snds_set (snd_cb snd_list (snda_cons (snd_var) (snda_nil)))).p) (sndp_seq (sndp_for (as := [4, 5]) (sndi_list (snd_var)) (sndg_name) (sndp_for (as := [5]) (sndi_rng1 (snd_cb snd_len (snda_cons (snd_var) (snda_nil)))) (sndg_name) (sndp_if (sndt_test (snd_op (snd_icmp (p := fun i j => decide (i < j))) (snd_op snd_ix (snd_var) (snd_op snd_ix (snd_op snd_ix (snd_var) (snd_var)) (snd_int))) (snd_op snd_ix (snd_var) (snd_var)))) ((snds_asg (snd_op snd_ix (snd_var) (snd_op snd_ix (snd_op snd_ix (snd_var) (snd_var)) (snd_int))) (sndg_sub (snd_var) (snd_var))).p) (snds_next.p)) (by decide)) (by decide)) (sndp_if (sndt_test (snd_op snd_eq (snd_var) (snd_var))) (snds_break.p) (snds_next.p)))) (by decide)) (snds_ret (ps := []) (snd_comp (vs := [6]) (sndi_rng1 (snd_cb snd_len (snda_cons (snd_var) (snda_nil)))) (sndg_name) (sndt_test (snd_op snd_eq (snd_op snd_ix (snd_var) (snd_var)) (snd_var))) (snd_comp (vs := [5]) (sndi_rng1 (snd_cb snd_len (snda_cons (snd_var) (snda_nil)))) (sndg_name) (sndt_test (snd_op snd_eq (snd_op snd_ix (snd_var) (snd_var)) (snd_var))) (snd_var) (by decide)) (by decide))))) (by decide)) pf_law_parts vs H Q E h⟩
theorem ok_law_parts (F : ∃ fd, FunD K "_law_parts" "_law_parts" (defArgs (top 57)) (defBody (top 57)) (defScope (top 57)) [] [] (He.ga K "_law_parts") fd) (at_ : mg "_law_parts" = some (.ref (He.ga K "_law_parts"))) (B : Blt mg)  : FP P w K mg base "_law_parts" 1 1 sp_law_parts := by
  obtain ⟨fd, F⟩ := F
  exact ⟨⟨fd, ["net"], okn_law_parts F at_ B , F.bindsN fun _ _ _ _ _ _ us hl => match us, hl with | [_], _ => rfl⟩, F.kp, at_⟩
theorem sc_Plan_step : FnScope ["self", "side", "copy"] ["self", "side", "copy"] (defScope (inClass (top 30) 1)) := ⟨rfl, rfl, rfl, by decide +kernel, rfl, by decide +kernel, by decide +kernel⟩
theorem ok_Plan_step (F : ∃ fd, FunD K "step" "Plan.step" (defArgs (inClass (top 30) 1)) (defBody (inClass (top 30) 1)) (defScope (inClass (top 30) 1)) [] [] (He.ma K (He.ga K "Plan") "step") fd) (me : Meth K (He.ga K "Plan") "step" (He.ma K (He.ga K "Plan") "step")) (cl : Cls K (He.ga K "Plan")) (B : Blt mg) (k_Plan : ClsF K "Plan" flds_Plan) : MP P w K mg base "Plan" "step" 1 3 sp_Plan_step := by
  have sc := sc_Plan_step
  obtain ⟨fd, F⟩ := F
  refine ⟨⟨fd, ["self", "side", "copy"], F.ok sc (fun _ _ _ _ h => h.1) (fun cdv A outer s H vs Q E hr h => ?_), F.bindsN fun _ _ _ _ _ _ us hl => match us, hl with | [_, _, _], _ => rfl⟩, me, cl⟩
  exact ⟨_, PSs.nox (pss_one (ps_ret (pe_ix ix_seq (pe_ix ix_seq (pe_fld (pv 0) (by rfl)) (pv 1) (fun _ _ => rfl)) (pv 2) (fun _ _ => rfl)))),
    body_ok (SndSP.mono (bs := []) (snds_ret (ps := []) (snd_op snd_ix (snd_op snd_ix (snd_fld (cn := "Plan") k_Plan.c (k_Plan.n _ (by simp [flds_Plan])) (snd_var)) (snd_var)) (snd_var))) (by decide)) pf_Plan_step vs H Q E h⟩
theorem sc_walk : FnScope ["plan", "start", "numbers", "turns", "order", "at", "copy", "side", "other", "sign"] ["plan", "start"] (defScope (top 32)) := ⟨rfl, rfl, rfl, by decide +kernel, rfl, by decide +kernel, by decide +kernel⟩
theorem okn_walk {fd : FuncData} (F : FunD K "walk" "walk" (defArgs (top 32)) (defBody (top 32)) (defScope (top 32)) [] [] (He.ga K "walk") fd) (at_ : mg "walk" = some (.ref (He.ga K "walk"))) (B : Blt mg) (m_Plan_step : MP P w K mg base "Plan" "step" 1 3 sp_Plan_step) (k_Plan : ClsF K "Plan" flds_Plan) : FnOk P w K mg base CX0 2 (He.ga K "walk") fd ["plan", "start"] (up K 2 sp_walk) := by
  have sc := sc_walk
  refine F.ok sc (fun _ _ _ _ h => h.1) (fun cdv A outer s H vs Q E hr h => ?_)
  exact ⟨_, PSs.nox (pss_cons (ps_set (i := 2) sc.nd rfl (Or.inl rfl) (pe_op op_times (pe_lst (pa_cons (pe_un un_neg (pe_int)) (pa_nil))) (pe_fld (pv 0) (by rfl)))) (pss_cons (ps_set (i := 3) sc.nd rfl (Or.inl rfl) (pe_op op_times (pe_lst (pa_cons (pe_int) (pa_nil))) (pe_fld (pv 0) (by rfl)))) (pss_cons (ps_asg (pe_int) (pg_sub (pv 2) (pv 1) set_list)) (pss_cons (ps_asg (pe_int) (pg_sub (pv 3) (pv 1) set_list)) (pss_cons (ps_set (i := 4) sc.nd rfl (Or.inl rfl) (pe_lst (pa_cons (pv 1) (pa_nil)))) (pss_cons (ps_set (i := 5) sc.nd rfl (Or.inl rfl) (pe_int)) (pss_cons (ps_while PassesOwn.never (pt_cmpR op_lt (pv 5) (pe_callB call_len (by rfl) B.len boot_len (pa_cons (pv 4) (pa_nil))) (nomark _)) (pss_cons (ps_set (i := 6) sc.nd rfl (Or.inl rfl) (pe_ix ix_seq (pv 4) (pv 5) (fun _ _ => rfl))) (pss_cons (ps_aug (i := 5) sc.nd rfl (Or.inl rfl) (pe_int) ip_add) (pss_one (ps_for PassesOwn.never rfl (pi_range1 (by rfl) B.range (pa_cons (pe_callB call_len (by rfl) B.len boot_len (pa_cons (pe_fld (pv 0) (by rfl)) (pa_nil))) pa_nil)) (pg_name (i := 7) sc.nd rfl (Or.inl rfl)) (pss_cons (ps_asg (pe_m m_Plan_step (Room.mono hr (by decide)) (pv 0) (pa_cons (pv 7) (pa_cons (pv 6) (pa_nil)))) (pg_tup rfl (pgs_cons (pg_name (i := 8) sc.nd rfl (Or.inl rfl)) (pgs_cons (pg_name (i := 9) sc.nd rfl (Or.inl rfl)) (pgs_nil))))) (pss_one (ps_if (pt_cmpR op_lt (pe_ix ix_seq (pv 2) (pv 8) (fun _ _ => rfl)) (pe_int) (nomark _)) (pss_cons (ps_asg (pe_callB call_len (by rfl) B.len boot_len (pa_cons (pv 4) (pa_nil))) (pg_sub (pv 2) (pv 8) set_list)) (pss_cons (ps_asg (pe_op op_times (pe_ix ix_seq (pv 3) (pv 6) (fun _ _ => rfl)) (pv 9)) (pg_sub (pv 3) (pv 8) set_list)) (pss_one (ps_expr (pe_bm PySem.F.plainAttrs_list PySem.F.slot_list_append PySem.F.type_list_append mt_append (pv 4) (pa_cons (pv 8) (pa_nil))))))) (pss_nil))))))))) (pss_one (ps_ret (pe_tup (pa_cons (pv 4) (pa_cons (pv 2) (pa_cons (pv 3) (pa_nil)))))))))))))),
    body_ok (SndSP.mono (bs := [2, 3, 4, 5, 6, 7, 8, 9]) (sndp_seq ((snds_setO (snd_op snd_times (snd_lst (snda_cons (snd_un snd_neg (snd_int)) (snda_nil))) (snd_fld (cn := "Plan") k_Plan.c (k_Plan.n _ (by simp [flds_Plan])) (snd_var)))).p) (sndp_seq ((snds_setO (snd_op snd_times (snd_lst (snda_cons (snd_int) (snda_nil))) (snd_fld (cn := "Plan") k_Plan.c (k_Plan.n _ (by simp [flds_Plan])) (snd_var)))).p) (sndp_seq ((snds_asg (snd_int) (sndg_sub (snd_var) (snd_var))).p) (sndp_seq ((snds_asg (snd_int) (sndg_sub (snd_var) (snd_var))).p) (sndp_seq ((snds_setO (snd_lst (snda_cons (snd_var) (snda_nil)))).p) (sndp_seq ((snds_set (snd_int)).p) (sndp_seq (sndp_while (sndt_test (snd_op (snd_icmp (p := fun i j => decide (i < j))) (snd_var) (snd_cb snd_len (snda_cons (snd_var) (snda_nil))))) (sndp_seq ((snds_set (snd_op snd_ix (snd_var) (snd_var))).p) (sndp_seq ((snds_aug snd_ipadd (snd_int)).p) (sndp_for (as := [7, 8, 9]) (sndi_rng1 (snd_cb snd_len (snda_cons (snd_fld (cn := "Plan") k_Plan.c (k_Plan.n _ (by simp [flds_Plan])) (snd_var)) (snda_nil)))) (sndg_name) (sndp_seq ((snds_asg (snd_meth (ms := [false, false, false]) rfl (snd_var) (snda_cons (snd_var) (snda_cons (snd_var) (snda_nil)))) (sndg_tup (n := 2) (sndgs_cons (sndg_name) (sndgs_cons (sndg_name) (sndgs_nil))))).p) (sndp_if (sndt_test (snd_op (snd_icmp (p := fun i j => decide (i < j))) (snd_op snd_ix (snd_var) (snd_var)) (snd_int))) (sndp_seq ((snds_asg (snd_cb snd_len (snda_cons (snd_var) (snda_nil))) (sndg_sub (snd_var) (snd_var))).p) (sndp_seq ((snds_asg (snd_op snd_times (snd_op snd_ix (snd_var) (snd_var)) (snd_var)) (sndg_sub (snd_var) (snd_var))).p) ((snds_expr (snd_lm sndm_append (snd_var) (snda_cons (snd_var) (snda_nil)))).p))) (snds_next.p))) (by decide))))) (snds_ret (ps := []) (snd_tup (snda_cons (snd_varz) (snda_cons (snd_varz) (snda_cons (snd_varz) (snda_nil))))))))))))) (by decide)) pf_walk vs H Q E h⟩
theorem ok_walk (F : ∃ fd, FunD K "walk" "walk" (defArgs (top 32)) (defBody (top 32)) (defScope (top 32)) [] [] (He.ga K "walk") fd) (at_ : mg "walk" = some (.ref (He.ga K "walk"))) (B : Blt mg) (m_Plan_step : MP P w K mg base "Plan" "step" 1 3 sp_Plan_step) (k_Plan : ClsF K "Plan" flds_Plan) : FP P w K mg base "walk" 2 2 sp_walk := by
  obtain ⟨fd, F⟩ := F
  exact ⟨⟨fd, ["plan", "start"], okn_walk F at_ B m_Plan_step k_Plan, F.bindsN fun _ _ _ _ _ _ us hl => match us, hl with | [_, _], _ => rfl⟩, F.kp, at_⟩
theorem sc_parts : FnScope ["plan", "met", "found", "start", "order", "numbers", "turns", "copy"] ["plan"] (defScope (top 34)) := ⟨rfl, rfl, rfl, by decide +kernel, rfl, by decide +kernel, by decide +kernel⟩
theorem okn_parts {fd : FuncData} (F : FunD K "parts" "parts" (defArgs (top 34)) (defBody (top 34)) (defScope (top 34)) [] [] (He.ga K "parts") fd) (at_ : mg "parts" = some (.ref (He.ga K "parts"))) (B : Blt mg) (g_walk : FP P w K mg base "walk" 2 2 sp_walk) (k_Plan : ClsF K "Plan" flds_Plan) : FnOk P w K mg base CX0 3 (He.ga K "parts") fd ["plan"] (up K 1 sp_parts) := by
  have sc := sc_parts
  refine F.ok sc (fun _ _ _ _ h => h.1) (fun cdv A outer s H vs Q E hr h => ?_)
  exact ⟨_, PSs.nox (pss_cons (ps_set (i := 1) sc.nd rfl (Or.inl rfl) (pe_op op_times (pe_lst (pa_cons (pe_bl) (pa_nil))) (pe_fld (pv 0) (by rfl)))) (pss_cons (ps_set (i := 2) sc.nd rfl (Or.inl rfl) (pe_lst (pa_nil))) (pss_cons (ps_for PassesOwn.never rfl (pi_range1 (by rfl) B.range (pa_cons (pe_fld (pv 0) (by rfl)) pa_nil)) (pg_name (i := 3) sc.nd rfl (Or.inl rfl)) (pss_one (ps_if (pt_not (pt_truth (pe_ix ix_seq (pv 1) (pv 3) (fun _ _ => rfl)) (fun _ => rfl))) (pss_cons (ps_asg (pe_f g_walk (Room.mono hr (by decide)) (by rfl) (pa_cons (pv 0) (pa_cons (pv 3) (pa_nil)))) (pg_tup rfl (pgs_cons (pg_name (i := 4) sc.nd rfl (Or.inl rfl)) (pgs_cons (pg_name (i := 5) sc.nd rfl (Or.inl rfl)) (pgs_cons (pg_name (i := 6) sc.nd rfl (Or.inl rfl)) (pgs_nil)))))) (pss_cons (ps_for PassesOwn.never rfl (pi_list (pv 4)) (pg_name (i := 7) sc.nd rfl (Or.inl rfl)) (pss_one (ps_asg (pe_bl) (pg_sub (pv 1) (pv 7) set_list)))) (pss_one (ps_expr (pe_bm PySem.F.plainAttrs_list PySem.F.slot_list_append PySem.F.type_list_append mt_append (pv 2) (pa_cons (pe_callB cr_sortedI (by rfl) B.sorted (by decide +kernel) (pa_cons (pv 4) (pa_nil))) (pa_nil))))))) (pss_nil)))) (pss_one (ps_ret (pv 2)))))),
    body_ok (SndSP.mono (bs := [1, 2, 3, 4, 5, 6, 7]) (sndp_seq ((snds_setO (snd_op snd_times (snd_lst (snda_cons (snd_bl) (snda_nil))) (snd_fld (cn := "Plan") k_Plan.c (k_Plan.n _ (by simp [flds_Plan])) (snd_var)))).p) (sndp_seq ((snds_setO (snd_lst (snda_nil))).p) (sndp_seq (sndp_for (as := [3, 4, 5, 6, 7]) (sndi_rng1 (snd_fld (cn := "Plan") k_Plan.c (k_Plan.n _ (by simp [flds_Plan])) (snd_var))) (sndg_name) (sndp_if (sndt_not (sndt_truth (snd_op snd_ix (snd_var) (snd_var)))) (sndp_seq ((snds_asg (snd_call (ms := [false, false]) rfl (snda_cons (snd_var) (snda_cons (snd_var) (snda_nil)))) (sndg_tup (n := 3) (sndgs_cons (sndg_name) (sndgs_cons (sndg_name) (sndgs_cons (sndg_name) (sndgs_nil)))))).p) (sndp_seq (sndp_for (as := [7]) (sndi_list (snd_var)) (sndg_name) ((snds_asg (snd_bl) (sndg_sub (snd_var) (snd_var))).p) (by decide)) ((snds_expr (snd_lm sndm_append (snd_var) (snda_cons (snd_cb snd_sorted (snda_cons (snd_var) (snda_nil))) (snda_nil)))).p))) (snds_next.p)) (by decide)) (snds_ret (ps := []) (snd_var))))) (by decide)) pf_parts vs H Q E h⟩
theorem ok_parts (F : ∃ fd, FunD K "parts" "parts" (defArgs (top 34)) (defBody (top 34)) (defScope (top 34)) [] [] (He.ga K "parts") fd) (at_ : mg "parts" = some (.ref (He.ga K "parts"))) (B : Blt mg) (g_walk : FP P w K mg base "walk" 2 2 sp_walk) (k_Plan : ClsF K "Plan" flds_Plan) : FP P w K mg base "parts" 3 1 sp_parts := by
  obtain ⟨fd, F⟩ := F
  exact ⟨⟨fd, ["plan"], okn_parts F at_ B g_walk k_Plan, F.bindsN fun _ _ _ _ _ _ us hl => match us, hl with | [_], _ => rfl⟩, F.kp, at_⟩
theorem okk_parts_0_0 (F : ∃ fd, FunD K "parts" "parts" (defArgs (top 34)) (defBody (top 34)) (defScope (top 34)) [] [] (He.ga K "parts") fd) (at_ : mg "parts" = some (.ref (He.ga K "parts"))) (B : Blt mg) (g_walk : FP P w K mg base "walk" 2 2 sp_walk) (k_Plan : ClsF K "Plan" flds_Plan) : FK P w K mg base "parts" 3 1 sp_parts 0 ["plan"] [0] := by
  obtain ⟨fd, F⟩ := F
  exact ⟨⟨fd, ["plan"], okn_parts F at_ B g_walk k_Plan, fun s us ws _ l1 l2 => fk_bind F (ks := ["plan"]) (us := us) (ws := ws) (zs := pk [0] (us ++ ws)) (fun _ _ _ _ _ _ => match us, l1, ws, l2 with | [], _, [_], _ => rfl) s⟩, F.kp, at_⟩
theorem sc_law_like : FnScope ["told", "due", "x", "y"] ["told", "due"] (defScope (top 46)) := ⟨rfl, rfl, rfl, by decide +kernel, rfl, by decide +kernel, by decide +kernel⟩
theorem okr_law_like (F : ∃ fd, FunD K "_law_like" "_law_like" (defArgs (top 46)) (defBody (top 46)) (defScope (top 46)) [] [] (He.ga K "_law_like") fd) (at_ : mg "_law_like" = some (.ref (He.ga K "_law_like"))) (B : Blt mg)  (s0 sp : DSp) (lv : Nat) (g_law_like : FP P w K mg base "_law_like" lv 2 s0) (pf : ∀ δ Q3, sp δ Q3 → δ.length = 2 → (∀ (i : Nat) c, δ[i]? = some (E.ow c) → i ∈ ([0, 1] : List Nat) ∧ i ∉ ([] : List Nat)) ∧ T_law_like s0 { nx := fun δ' => Q3 (.va .non) (outs δ δ'), rt := fun r δ' => Q3 r (outs δ δ') } (δ ++ List.replicate 2 E.no)) : FP P w K mg base "_law_like" (lv + 1) 2 sp := by
  have sc := sc_law_like
  obtain ⟨fd, F⟩ := F
  refine ⟨⟨fd, ["told", "due"], F.ok sc (fun _ _ _ _ h => h.1) (fun cdv A outer s H vs Q E hr h => ?_), F.bindsN fun _ _ _ _ _ _ us hl => match us, hl with | [_, _], _ => rfl⟩, F.kp, at_⟩
  exact ⟨_, PSs.nox (pss_cons (ps_if (pt_val (pe_callB call_isiT (by rfl) B.isinstance (by decide +kernel) (pa_cons (pv 1) (pa_cons (pe_tup (pa_cons (pe_bltn (v := .ty "list") (u := .type "list") (by rfl) B.list (by decide +kernel) rfl) (pa_cons (pe_bltn (v := .ty "tuple") (u := .type "tuple") (by rfl) B.tuple (by decide +kernel) rfl) pa_nil))) pa_nil)))) (pss_cons (ps_if (PW.pt (pw_or (pt_cmpR (op_neD hr.units) (pe_callB call_isi (by rfl) B.isinstance (by decide +kernel) (pa_cons (pv 0) (pa_cons (pe_bltn (v := .ty "list") (u := .type "list") (by rfl) B.list (by decide +kernel) rfl) pa_nil))) (pe_callB call_isi (by rfl) B.isinstance (by decide +kernel) (pa_cons (pv 1) (pa_cons (pe_bltn (v := .ty "list") (u := .type "list") (by rfl) B.list (by decide +kernel) rfl) pa_nil))) (nomark _)) (pw_or1 (pt_cmpR (op_neD hr.units) (pe_callB call_isi (by rfl) B.isinstance (by decide +kernel) (pa_cons (pv 0) (pa_cons (pe_bltn (v := .ty "tuple") (u := .type "tuple") (by rfl) B.tuple (by decide +kernel) rfl) pa_nil))) (pe_callB call_isi (by rfl) B.isinstance (by decide +kernel) (pa_cons (pv 1) (pa_cons (pe_bltn (v := .ty "tuple") (u := .type "tuple") (by rfl) B.tuple (by decide +kernel) rfl) pa_nil))) (nomark _))))) (pss_one (ps_ret (pe_bl))) (pss_nil)) (pss_one (ps_ret (pe_and (pe_cmpR (op_eqD hr.units) (pe_callB call_len (by rfl) B.len boot_len (pa_cons (pv 0) (pa_nil))) (pe_callB call_len (by rfl) B.len boot_len (pa_cons (pv 1) (pa_nil))) (nomark _)) (pe_one (pe_callB (cr_all rfl) (by rfl) B.all (by decide +kernel) (pa_cons (pe_lc (own := [("x", 2), ("y", 3)]) (g := gTup K 2 (gCons (gName 2) (gCons (gName 3) (gNil)))) rfl sc.nd (RZ.pi_zipA (by rfl) B.zip (pa_cons (pv 0) (pa_cons (pv 1) pa_nil))) (blkOk_by (by kernel_rfl)) (fun _ _ _ _ _ => pg_tup rfl (pgs_cons (pg_name (i := 2) sc.nd rfl (Or.inl rfl)) (pgs_cons (pg_name (i := 3) sc.nd rfl (Or.inl rfl)) (pgs_nil)))) (fun _ _ _ _ _ => pts_nil) (fun _ _ _ _ _ => pe_f g_law_like hr (by rfl) (pa_cons (pv 2) (pa_cons (pv 3) (pa_nil))))) (pa_nil)))))))) (pss_nil)) (pss_cons (ps_if (PW.pt (pw_or (pt_cmpR op_isN (pv 1) (pe_non) (nomark _)) (pw_or1 (pt_cmpR op_isN (pv 0) (pe_non) (nomark _))))) (pss_one (ps_ret (pe_and (pe_cmpR op_isN (pv 1) (pe_non) (nomark _)) (pe_one (pe_cmpR op_isN (pv 0) (pe_non) (nomark _)))))) (pss_nil)) (pss_cons (ps_if (PW.pt (pw_or (pt_val (pe_callB call_isiT (by rfl) B.isinstance (by decide +kernel) (pa_cons (pv 0) (pa_cons (pe_tup (pa_cons (pe_bltn (v := .ty "list") (u := .type "list") (by rfl) B.list (by decide +kernel) rfl) (pa_cons (pe_bltn (v := .ty "tuple") (u := .type "tuple") (by rfl) B.tuple (by decide +kernel) rfl) pa_nil))) pa_nil)))) (pw_or1 (pt_cmpR (op_neD hr.units) (pe_callB call_isi (by rfl) B.isinstance (by decide +kernel) (pa_cons (pv 0) (pa_cons (pe_bltn (v := .ty "bool") (u := .type "bool") (by rfl) B.bool (by decide +kernel) rfl) pa_nil))) (pe_callB call_isi (by rfl) B.isinstance (by decide +kernel) (pa_cons (pv 1) (pa_cons (pe_bltn (v := .ty "bool") (u := .type "bool") (by rfl) B.bool (by decide +kernel) rfl) pa_nil))) (nomark _))))) (pss_one (ps_ret (pe_bl))) (pss_nil)) (pss_cons (ps_if (PW.pt (pw_or (pt_cmpR (op_neD hr.units) (pe_callB call_isi (by rfl) B.isinstance (by decide +kernel) (pa_cons (pv 0) (pa_cons (pe_bltn (v := .ty "str") (u := .type "str") (by rfl) B.str (by decide +kernel) rfl) pa_nil))) (pe_callB call_isi (by rfl) B.isinstance (by decide +kernel) (pa_cons (pv 1) (pa_cons (pe_bltn (v := .ty "str") (u := .type "str") (by rfl) B.str (by decide +kernel) rfl) pa_nil))) (nomark _)) (pw_or1 (pt_cmpR (op_neD hr.units) (pe_callB call_isi (by rfl) B.isinstance (by decide +kernel) (pa_cons (pv 0) (pa_cons (pe_bltn (v := .ty "int") (u := .type "int") (by rfl) B.int (by decide +kernel) rfl) pa_nil))) (pe_callB call_isi (by rfl) B.isinstance (by decide +kernel) (pa_cons (pv 1) (pa_cons (pe_bltn (v := .ty "int") (u := .type "int") (by rfl) B.int (by decide +kernel) rfl) pa_nil))) (nomark _))))) (pss_one (ps_ret (pe_bl))) (pss_nil)) (pss_one (ps_ret (pe_and (pe_cmpR (op_eqD hr.units) (pe_callB call_isi (by rfl) B.isinstance (by decide +kernel) (pa_cons (pv 0) (pa_cons (pe_bltn (v := .ty "dict") (u := .type "dict") (by rfl) B.dict (by decide +kernel) rfl) pa_nil))) (pe_callB call_isi (by rfl) B.isinstance (by decide +kernel) (pa_cons (pv 1) (pa_cons (pe_bltn (v := .ty "dict") (u := .type "dict") (by rfl) B.dict (by decide +kernel) rfl) pa_nil))) (nomark _)) (pe_one (pe_cmpR (op_eqD hr.units) (pv 0) (pv 1) (nomark _)))))))))),
    body_ok (SndSP.mono (bs := []) (sndp_seq (sndp_if (sndt_val (snd_isi2 .list .tuple rfl rfl (snd_var))) (sndp_seq (sndp_if (sndt_or (sndt_test (snd_op snd_ne (snd_isi .list rfl (snd_var)) (snd_isi .list rfl (snd_var)))) (sndt_test (snd_op snd_ne (snd_isi .tuple rfl (snd_var)) (snd_isi .tuple rfl (snd_var))))) (snds_ret (ps := [0, 1]) (snd_bl)) (snds_next.p)) (snds_ret (ps := [0, 1]) (snd_andV (snd_op snd_eq (snd_cb snd_len (snda_cons (snd_var) (snda_nil))) (snd_cb snd_len (snda_cons (snd_var) (snda_nil)))) (snd_cb snd_all (snda_cons (snd_comp (vs := [2, 3]) (sndi_zipA (snd_var) (snd_var)) (sndg_tup (n := 2) (sndgs_cons (sndg_name) (sndgs_cons (sndg_name) (sndgs_nil)))) (sndt_yes) (snd_call (ms := [true, true]) rfl (snda_cons (snd_var) (snda_cons (snd_var) (snda_nil)))) (by decide)) (snda_nil)))))) (snds_next.p)) (sndp_seq (sndp_if (sndt_or (sndt_test (snd_op snd_isN (snd_var) (snd_non))) (sndt_test (snd_op snd_isN (snd_var) (snd_non)))) (snds_ret (ps := [0, 1]) (snd_andV (snd_op snd_isN (snd_var) (snd_non)) (snd_op snd_isN (snd_var) (snd_non)))) (snds_next.p)) (sndp_seq (sndp_if (sndt_or (sndt_val (snd_isi2 .list .tuple rfl rfl (snd_var))) (sndt_test (snd_op snd_ne (snd_isi .bool rfl (snd_var)) (snd_isi .bool rfl (snd_var))))) (snds_ret (ps := [0, 1]) (snd_bl)) (snds_next.p)) (sndp_seq (sndp_if (sndt_or (sndt_test (snd_op snd_ne (snd_isi .str rfl (snd_var)) (snd_isi .str rfl (snd_var)))) (sndt_test (snd_op snd_ne (snd_isi .int rfl (snd_var)) (snd_isi .int rfl (snd_var))))) (snds_ret (ps := [0, 1]) (snd_bl)) (snds_next.p)) (snds_ret (ps := [0, 1]) (snd_andV (snd_op snd_eq (snd_isi .dict rfl (snd_var)) (snd_isi .dict rfl (snd_var))) (snd_op snd_eq (snd_var) (snd_var)))))))) (by decide)) pf vs H Q E h⟩
theorem ok_law_like (F : ∃ fd, FunD K "_law_like" "_law_like" (defArgs (top 46)) (defBody (top 46)) (defScope (top 46)) [] [] (He.ga K "_law_like") fd) (at_ : mg "_law_like" = some (.ref (He.ga K "_law_like"))) (B : Blt mg)  : ∀ N, FP P w K mg base "_law_like" (N + 1) 2 (sp_law_like N) := by
  intro N
  have none : FP P w K mg base "_law_like" 0 2 (fun _ _ => False) := by
    obtain ⟨fd, F⟩ := F
    exact ⟨⟨fd, ["told", "due"], ⟨fun _ _ _ _ h => h.1, fun _ _ _ _ _ _ _ _ _ _ _ _ _ h => by obtain ⟨_, _, _, _, _, h, _⟩ := h; exact h.elim⟩, F.bindsN fun _ _ _ _ _ _ us hl => match us, hl with | [_, _], _ => rfl⟩, F.kp, at_⟩
  induction N with
  | zero => exact okr_law_like F at_ B  _ _ 0 none (pf_law_like 0)
  | succ N ih => exact okr_law_like F at_ B  _ _ (N + 1) ih (pf_law_like (N + 1))
theorem sc_law_reached : FnScope ["net", "z", "found", "spot", "moves", "x"] ["net", "z"] (defScope (top 62)) := ⟨rfl, rfl, rfl, by decide +kernel, rfl, by decide +kernel, by decide +kernel⟩
theorem okn_law_reached {fd : FuncData} (F : FunD K "_law_reached" "_law_reached" (defArgs (top 62)) (defBody (top 62)) (defScope (top 62)) [] [] (He.ga K "_law_reached") fd) (at_ : mg "_law_reached" = some (.ref (He.ga K "_law_reached"))) (B : Blt mg)  : FnOk P w K mg base CX0 1 (He.ga K "_law_reached") fd ["net", "z"] (up K 2 sp_law_reached) := by
  have sc := sc_law_reached
  refine F.ok sc (fun _ _ _ _ h => h.1) (fun cdv A outer s H vs Q E hr h => ?_)
  exact ⟨_, PSs.nox (pss_cons (ps_asg (pe_tup (pa_cons (pe_lst (pa_cons (pv 1) (pa_nil))) (pa_cons (pe_int) (pa_nil)))) (pg_tup rfl (pgs_cons (pg_name (i := 2) sc.nd rfl (Or.inr rfl)) (pgs_cons (pg_name (i := 3) sc.nd rfl (Or.inl rfl)) (pgs_nil))))) (pss_cons (ps_while PassesOwn.never (pt_cmpR op_lt (pv 3) (pe_callB call_len (by rfl) B.len boot_len (pa_cons (pv 2) (pa_nil))) (nomark _)) (pss_cons (ps_for PassesOwn.never rfl (pi_list (pv 0)) (pg_name (i := 4) sc.nd rfl (Or.inl rfl)) (pss_one (ps_if (pt_cmpR (op_ninU (Room.u65 hr)) (pe_ix ix_seq (pe_ix ix_seq (pv 4) (pe_ix ix_seq (pv 2) (pv 3) (fun _ _ => rfl)) (fun _ _ => rfl)) (pe_int) (fun _ _ => rfl)) (pv 2) (by rfl)) (pss_one (ps_expr (pe_bm PySem.F.plainAttrs_list PySem.F.slot_list_append PySem.F.type_list_append mt_append (pv 2) (pa_cons (pe_ix ix_seq (pe_ix ix_seq (pv 4) (pe_ix ix_seq (pv 2) (pv 3) (fun _ _ => rfl)) (fun _ _ => rfl)) (pe_int) (fun _ _ => rfl)) (pa_nil))))) (pss_nil)))) (pss_one (ps_set (i := 3) sc.nd rfl (Or.inl rfl) (pe_op op_plus (pv 3) (pe_int)))))) (pss_one (ps_ret (pe_lc (own := [("x", 5)]) (g := gName 5) rfl sc.nd (pi_range1 (by rfl) B.range (pa_cons (pe_callB call_len (by rfl) B.len boot_len (pa_cons (pe_ix ix_seq (pv 0) (pe_int) (fun _ _ => rfl)) (pa_nil))) pa_nil)) (blkOk_by (by kernel_rfl)) (fun _ _ _ _ _ => pg_name (i := 5) sc.nd rfl (Or.inl rfl)) (fun _ _ _ _ _ => pts_one (pt_cmpR (op_inU (Room.u65 hr)) (pv 5) (pv 2) (by rfl))) (fun _ _ _ _ _ => pv 5)))))),
    body_ok (SndSP.mono (bs := [2, 3, 4]) (sndp_seq ((snds_parN (is := [2, 3]) (n := 2) [true, false] (snda_cons (snd_lst (snda_cons (snd_var) (snda_nil))) (snda_cons (snd_int) (snda_nil))) rfl).p) (sndp_seq (sndp_while (sndt_test (snd_op (snd_icmp (p := fun i j => decide (i < j))) (snd_var) (snd_cb snd_len (snda_cons (snd_var) (snda_nil))))) (sndp_seq (sndp_for (as := [4]) (sndi_list (snd_var)) (sndg_name) (sndp_if (sndt_test (snd_op snd_nin (snd_op snd_ix (snd_op snd_ix (snd_var) (snd_op snd_ix (snd_var) (snd_var))) (snd_int)) (snd_var))) ((snds_expr (snd_lm sndm_append (snd_var) (snda_cons (snd_op snd_ix (snd_op snd_ix (snd_var) (snd_op snd_ix (snd_var) (snd_var))) (snd_int)) (snda_nil)))).p) (snds_next.p)) (by decide)) ((snds_set (snd_op snd_plus (snd_var) (snd_int))).p))) (snds_ret (ps := []) (snd_comp (vs := [5]) (sndi_rng1 (snd_cb snd_len (snda_cons (snd_op snd_ix (snd_var) (snd_int)) (snda_nil)))) (sndg_name) (sndt_test (snd_op snd_in (snd_var) (snd_var))) (snd_var) (by decide))))) (by decide)) pf_law_reached vs H Q E h⟩
theorem ok_law_reached (F : ∃ fd, FunD K "_law_reached" "_law_reached" (defArgs (top 62)) (defBody (top 62)) (defScope (top 62)) [] [] (He.ga K "_law_reached") fd) (at_ : mg "_law_reached" = some (.ref (He.ga K "_law_reached"))) (B : Blt mg)  : FP P w K mg base "_law_reached" 1 2 sp_law_reached := by
  obtain ⟨fd, F⟩ := F
  exact ⟨⟨fd, ["net", "z"], okn_law_reached F at_ B , F.bindsN fun _ _ _ _ _ _ us hl => match us, hl with | [_, _], _ => rfl⟩, F.kp, at_⟩
theorem sc_law_parts_so : FnScope ["told", "net", "size", "folk", "x", "z"] ["told", "net"] (defScope (top 63)) := ⟨rfl, rfl, rfl, by decide +kernel, rfl, by decide +kernel, by decide +kernel⟩
theorem okn_law_parts_so {fd : FuncData} (F : FunD K "_law_parts_so" "_law_parts_so" (defArgs (top 63)) (defBody (top 63)) (defScope (top 63)) [] [] (He.ga K "_law_parts_so") fd) (at_ : mg "_law_parts_so" = some (.ref (He.ga K "_law_parts_so"))) (B : Blt mg) (g_law_parts : FP P w K mg base "_law_parts" 1 1 sp_law_parts) (g_law_like : FP P w K mg base "_law_like" 4 2 (sp_law_like 3)) (g_law_reached : FP P w K mg base "_law_reached" 1 2 sp_law_reached) : FnOk P w K mg base CX0 5 (He.ga K "_law_parts_so") fd ["told", "net"] (up K 2 sp_law_parts_so) := by
  have sc := sc_law_parts_so
  refine F.ok sc (fun _ _ _ _ h => h.1) (fun cdv A outer s H vs Q E hr h => ?_)
  exact ⟨_, PSs.nox (pss_cons (ps_set (i := 2) sc.nd rfl (Or.inl rfl) (pe_callB call_len (by rfl) B.len boot_len (pa_cons (pe_ix ix_seq (pv 1) (pe_int) (fun _ _ => rfl)) (pa_nil)))) (pss_cons (ps_if (pt_not (pt_val (pe_f g_law_like (Room.mono hr (by decide)) (by rfl) (pa_cons (pv 0) (pa_cons (pe_f g_law_parts (Room.mono hr (by decide)) (by rfl) (pa_cons (pv 1) (pa_nil))) (pa_nil)))))) (pss_one (ps_ret (pe_bl))) (pss_nil)) (pss_cons (ps_if (pt_not (pt_val (pe_callB (cr_all rfl) (by rfl) B.all (by decide +kernel) (pa_cons (pe_lc (own := [("x", 4)]) (g := gName 4) rfl sc.nd (pi_range1 (by rfl) B.range (pa_cons (pv 2) pa_nil)) (blkOk_by (by kernel_rfl)) (fun _ _ _ _ _ => pg_name (i := 4) sc.nd rfl (Or.inr rfl)) (fun _ _ _ _ _ => pts_nil) (fun _ _ _ _ _ => pe_cmpR (op_eqD hr.units) (pe_callB call_len (by rfl) B.len boot_len (pa_cons (pe_lc (own := [("z", 5)]) (g := gName 5) rfl sc.nd (pi_list (pv 0)) (blkOk_by (by kernel_rfl)) (fun _ _ _ _ _ => pg_name (i := 5) sc.nd rfl (Or.inl rfl)) (fun _ _ _ _ _ => pts_one (pt_cmpR (op_inU (Room.u65 hr)) (pv 4) (pv 5) (by rfl))) (fun _ _ _ _ _ => pv 5)) (pa_nil))) (pe_int) (nomark _))) (pa_nil))))) (pss_one (ps_ret (pe_bl))) (pss_nil)) (pss_one (ps_ret (pe_callB (cr_all rfl) (by rfl) B.all (by decide +kernel) (pa_cons (pe_lc (own := [("folk", 3)]) (g := gName 3) rfl sc.nd (pi_list (pv 0)) (blkOk_by (by kernel_rfl)) (fun _ _ _ _ _ => pg_name (i := 3) sc.nd rfl (Or.inl rfl)) (fun _ _ _ _ _ => pts_nil) (fun _ _ _ _ _ => pe_cmpR (op_eqD hr.units) (pe_f g_law_reached (Room.mono hr (by decide)) (by rfl) (pa_cons (pv 1) (pa_cons (pe_ix ix_seq (pv 3) (pe_int) (fun _ _ => rfl)) (pa_nil)))) (pv 3) (nomark _))) (pa_nil)))))))),
    body_ok (SndSP.mono (bs := [2]) (sndp_seq ((snds_set (snd_cb snd_len (snda_cons (snd_op snd_ix (snd_var) (snd_int)) (snda_nil)))).p) (sndp_seq (sndp_if (sndt_not (sndt_val (snd_call (ms := [true, true]) rfl (snda_cons (snd_var) (snda_cons (snd_call (ms := [false]) rfl (snda_cons (snd_var) (snda_nil))) (snda_nil)))))) (snds_ret (ps := []) (snd_bl)) (snds_next.p)) (sndp_seq (sndp_if (sndt_not (sndt_val (snd_cb snd_all (snda_cons (snd_comp (vs := [4]) (sndi_rng1 (snd_var)) (sndg_name) (sndt_yes) (snd_op snd_eq (snd_cb snd_len (snda_cons (snd_comp (vs := [5]) (sndi_list (snd_var)) (sndg_name) (sndt_test (snd_op snd_in (snd_var) (snd_var))) (snd_var) (by decide)) (snda_nil))) (snd_int)) (by decide)) (snda_nil))))) (snds_ret (ps := []) (snd_bl)) (snds_next.p)) (snds_ret (ps := []) (snd_cb snd_all (snda_cons (snd_comp (vs := [3]) (sndi_list (snd_var)) (sndg_name) (sndt_yes) (snd_op snd_eq (snd_call (ms := [false, false]) rfl (snda_cons (snd_var) (snda_cons (snd_op snd_ix (snd_var) (snd_int)) (snda_nil)))) (snd_var)) (by decide)) (snda_nil))))))) (by decide)) pf_law_parts_so vs H Q E h⟩
theorem ok_law_parts_so (F : ∃ fd, FunD K "_law_parts_so" "_law_parts_so" (defArgs (top 63)) (defBody (top 63)) (defScope (top 63)) [] [] (He.ga K "_law_parts_so") fd) (at_ : mg "_law_parts_so" = some (.ref (He.ga K "_law_parts_so"))) (B : Blt mg) (g_law_parts : FP P w K mg base "_law_parts" 1 1 sp_law_parts) (g_law_like : FP P w K mg base "_law_like" 4 2 (sp_law_like 3)) (g_law_reached : FP P w K mg base "_law_reached" 1 2 sp_law_reached) : FP P w K mg base "_law_parts_so" 5 2 sp_law_parts_so := by
  obtain ⟨fd, F⟩ := F
  exact ⟨⟨fd, ["told", "net"], okn_law_parts_so F at_ B g_law_parts g_law_like g_law_reached, F.bindsN fun _ _ _ _ _ _ us hl => match us, hl with | [_, _], _ => rfl⟩, F.kp, at_⟩
theorem sc_part_plan : FnScope ["plan", "at", "part", "numbers", "rows", "side", "led", "number", "copy", "other", "sign"] ["plan", "at"] (defScope (top 35)) := ⟨rfl, rfl, rfl, by decide +kernel, rfl, by decide +kernel, by decide +kernel⟩
theorem okn_part_plan {fd : FuncData} (F : FunD K "part_plan" "part_plan" (defArgs (top 35)) (defBody (top 35)) (defScope (top 35)) [] [] (He.ga K "part_plan") fd) (at_ : mg "part_plan" = some (.ref (He.ga K "part_plan"))) (B : Blt mg) (g_parts : FP P w K mg base "parts" 3 1 sp_parts) (m_Plan_step : MP P w K mg base "Plan" "step" 1 3 sp_Plan_step) (n_Plan : KP P w K mg base "Plan" 5 3 sp_Plan_init__) (k_Plan : ClsF K "Plan" flds_Plan) : FnOk P w K mg base CX0 7 (He.ga K "part_plan") fd ["plan", "at"] (up K 2 sp_part_plan) := by
  have sc := sc_part_plan
  refine F.ok sc (fun _ _ _ _ h => h.1) (fun cdv A outer s H vs Q E hr h => ?_)
  exact ⟨_, PSs.nox (pss_cons (ps_set (i := 2) sc.nd rfl (Or.inl rfl) (pe_ix ix_seq (pe_f g_parts (Room.mono hr (by decide)) (by rfl) (pa_cons (pv 0) (pa_nil))) (pv 1) (fun _ _ => rfl))) (pss_cons (ps_set (i := 3) sc.nd rfl (Or.inr rfl) (pe_dc (own := [("number", 7), ("copy", 8)]) (g := gTup K 2 (gCons (gName 7) (gCons (gName 8) (gNil)))) rfl sc.nd (pi_enum (by rfl) B.enumerate (pa_cons (pv 2) pa_nil)) (blkOk_by (by kernel_rfl)) (fun _ _ _ _ _ => pg_tup rfl (pgs_cons (pg_name (i := 7) sc.nd rfl (Or.inl rfl)) (pgs_cons (pg_name (i := 8) sc.nd rfl (Or.inl rfl)) (pgs_nil)))) (fun _ _ _ _ _ => pts_nil) (fun _ _ _ _ _ => pv 8) (fun _ _ _ _ _ => pv 7))) (pss_cons (ps_set (i := 4) sc.nd rfl (Or.inl rfl) (pe_lst (pa_nil))) (pss_cons (ps_for PassesOwn.never rfl (pi_range1 (by rfl) B.range (pa_cons (pe_callB call_len (by rfl) B.len boot_len (pa_cons (pe_fld (pv 0) (by rfl)) (pa_nil))) pa_nil)) (pg_name (i := 5) sc.nd rfl (Or.inr rfl)) (pss_cons (ps_setLc (i := 6) (own := [("copy", 8)]) (g := gName 8) rfl sc.nd rfl rfl (sw_true rfl rfl rfl (by decide +kernel)) (pi_list (pv 2)) (blkOk_by (by kernel_rfl)) (fun _ _ _ _ _ => pg_name (i := 8) sc.nd rfl (Or.inl rfl)) (fun _ _ _ _ _ => pts_nil) (fun _ _ _ _ _ => pe_m m_Plan_step (Room.mono hr (by decide)) (pv 0) (pa_cons (pv 5) (pa_cons (pv 8) (pa_nil))))) (pss_one (ps_expr (pe_bm PySem.F.plainAttrs_list PySem.F.slot_list_append PySem.F.type_list_append mt_append (pv 4) (pa_cons (pe_lc (own := [("other", 9), ("sign", 10)]) (g := gTup K 2 (gCons (gName 9) (gCons (gName 10) (gNil)))) rfl sc.nd (pi_list (pv 6)) (blkOk_by (by kernel_rfl)) (fun _ _ _ _ _ => pg_tup rfl (pgs_cons (pg_name (i := 9) sc.nd rfl (Or.inl rfl)) (pgs_cons (pg_name (i := 10) sc.nd rfl (Or.inl rfl)) (pgs_nil)))) (fun _ _ _ _ _ => pts_nil) (fun _ _ _ _ _ => pe_tup (pa_cons (pe_dget (hu_of hr) (pv 3) (pv 9) (fun _ _ => rfl)) (pa_cons (pv 10) (pa_nil))))) (pa_nil))))))) (pss_one (ps_ret (pe_new n_Plan (Room.mono hr (by decide)) (by rfl) (pa_cons (pe_fld (pv 0) (by rfl)) (pa_cons (pv 4) (pa_nil)))))))))),
    body_ok (SndSP.mono (bs := [2, 3, 4, 5, 6]) (sndp_seq ((snds_set (snd_op snd_ix (snd_call (ms := [false]) rfl (snda_cons (snd_var) (snda_nil))) (snd_var))).p) (sndp_seq ((snds_setO (snd_dcomp (vs := [7, 8]) (sndi_enum (snd_var)) (sndg_tup (n := 2) (sndgs_cons (sndg_name) (sndgs_cons (sndg_name) (sndgs_nil)))) (sndt_yes) (snd_var) (snd_var) (by decide))).p) (sndp_seq ((snds_setO (snd_lst (snda_nil))).p) (sndp_seq (sndp_for (as := [5, 6]) (sndi_rng1 (snd_cb snd_len (snda_cons (snd_fld (cn := "Plan") k_Plan.c (k_Plan.n _ (by simp [flds_Plan])) (snd_var)) (snda_nil)))) (sndg_name) (sndp_seq ((snds_set (snd_comp (vs := [8]) (sndi_list (snd_var)) (sndg_name) (sndt_yes) (snd_meth (ms := [false, false, false]) rfl (snd_var) (snda_cons (snd_var) (snda_cons (snd_var) (snda_nil)))) (by decide))).p) ((snds_expr (snd_lm sndm_append (snd_var) (snda_cons (snd_comp (vs := [9, 10]) (sndi_list (snd_var)) (sndg_tup (n := 2) (sndgs_cons (sndg_name) (sndgs_cons (sndg_name) (sndgs_nil)))) (sndt_yes) (snd_tup (snda_cons (snd_dget (snd_var) (snd_var)) (snda_cons (snd_var) (snda_nil)))) (by decide)) (snda_nil)))).p)) (by decide)) (snds_ret (ps := []) (snd_make (ms := [false, false]) rfl (snda_cons (snd_fld (cn := "Plan") k_Plan.c (k_Plan.n _ (by simp [flds_Plan])) (snd_var)) (snda_cons (snd_varz) (snda_nil))))))))) (by decide)) pf_part_plan vs H Q E h⟩
theorem ok_part_plan (F : ∃ fd, FunD K "part_plan" "part_plan" (defArgs (top 35)) (defBody (top 35)) (defScope (top 35)) [] [] (He.ga K "part_plan") fd) (at_ : mg "part_plan" = some (.ref (He.ga K "part_plan"))) (B : Blt mg) (g_parts : FP P w K mg base "parts" 3 1 sp_parts) (m_Plan_step : MP P w K mg base "Plan" "step" 1 3 sp_Plan_step) (n_Plan : KP P w K mg base "Plan" 5 3 sp_Plan_init__) (k_Plan : ClsF K "Plan" flds_Plan) : FP P w K mg base "part_plan" 7 2 sp_part_plan := by
  obtain ⟨fd, F⟩ := F
  exact ⟨⟨fd, ["plan", "at"], okn_part_plan F at_ B g_parts m_Plan_step n_Plan k_Plan, F.bindsN fun _ _ _ _ _ _ us hl => match us, hl with | [_, _], _ => rfl⟩, F.kp, at_⟩
theorem okk_part_plan_10_0 (F : ∃ fd, FunD K "part_plan" "part_plan" (defArgs (top 35)) (defBody (top 35)) (defScope (top 35)) [] [] (He.ga K "part_plan") fd) (at_ : mg "part_plan" = some (.ref (He.ga K "part_plan"))) (B : Blt mg) (g_parts : FP P w K mg base "parts" 3 1 sp_parts) (m_Plan_step : MP P w K mg base "Plan" "step" 1 3 sp_Plan_step) (n_Plan : KP P w K mg base "Plan" 5 3 sp_Plan_init__) (k_Plan : ClsF K "Plan" flds_Plan) : FK P w K mg base "part_plan" 7 2 sp_part_plan 0 ["at", "plan"] [1, 0] := by
  obtain ⟨fd, F⟩ := F
  exact ⟨⟨fd, ["plan", "at"], okn_part_plan F at_ B g_parts m_Plan_step n_Plan k_Plan, fun s us ws _ l1 l2 => fk_bind F (ks := ["at", "plan"]) (us := us) (ws := ws) (zs := pk [1, 0] (us ++ ws)) (fun _ _ _ _ _ _ => match us, l1, ws, l2 with | [], _, [_, _], _ => rfl) s⟩, F.kp, at_⟩
theorem sc_law_quads : FnScope ["net", "mine", "k", "x"] ["net"] (defScope (top 52)) := ⟨rfl, rfl, rfl, by decide +kernel, rfl, by decide +kernel, by decide +kernel⟩
theorem okn_law_quads {fd : FuncData} (F : FunD K "_law_quads" "_law_quads" (defArgs (top 52)) (defBody (top 52)) (defScope (top 52)) [] [] (He.ga K "_law_quads") fd) (at_ : mg "_law_quads" = some (.ref (He.ga K "_law_quads"))) (B : Blt mg)  : FnOk P w K mg base CX0 1 (He.ga K "_law_quads") fd ["net"] (up K 1 sp_law_quads) := by
  have sc := sc_law_quads
  refine F.ok sc (fun _ _ _ _ h => h.1) (fun cdv A outer s H vs Q E hr h => ?_)
  exact ⟨_, PSs.nox (pss_cons (ps_set (i := 1) sc.nd rfl (Or.inl rfl) (pe_lst (pa_nil))) (pss_cons (ps_for PassesOwn.never rfl (pi_range1 (by rfl) B.range (pa_cons (pe_callB call_len (by rfl) B.len boot_len (pa_cons (pv 0) (pa_nil))) pa_nil)) (pg_name (i := 2) sc.nd rfl (Or.inr rfl)) (pss_one (ps_expr (pe_bm PySem.F.plainAttrs_list PySem.F.slot_list_extend PySem.F.type_list_extend mt_extend (pv 1) (pa_cons (pe_lc (own := [("x", 3)]) (g := gName 3) rfl sc.nd (pi_range1 (by rfl) B.range (pa_cons (pe_callB call_len (by rfl) B.len boot_len (pa_cons (pe_ix ix_seq (pv 0) (pv 2) (fun _ _ => rfl)) (pa_nil))) pa_nil)) (blkOk_by (by kernel_rfl)) (fun _ _ _ _ _ => pg_name (i := 3) sc.nd rfl (Or.inl rfl)) (fun _ _ _ _ _ => pts_nil) (fun _ _ _ _ _ => pe_tup (pa_cons (pv 2) (pa_cons (pv 3) (pa_cons (pe_ix ix_seq (pe_ix ix_seq (pe_ix ix_seq (pv 0) (pv 2) (fun _ _ => rfl)) (pv 3) (fun _ _ => rfl)) (pe_int) (fun _ _ => rfl)) (pa_cons (pe_ix ix_seq (pe_ix ix_seq (pe_ix ix_seq (pv 0) (pv 2) (fun _ _ => rfl)) (pv 3) (fun _ _ => rfl)) (pe_int) (fun _ _ => rfl)) (pa_nil))))))) pa_nil))))) (pss_one (ps_ret (pv 1))))),
    body_ok (SndSP.mono (bs := [1, 2]) (sndp_seq ((snds_setO (snd_lst (snda_nil))).p) (sndp_seq (sndp_for (as := [2]) (sndi_rng1 (snd_cb snd_len (snda_cons (snd_var) (snda_nil)))) (sndg_name) ((snds_expr (snd_extend (snd_var) (snd_comp (vs := [3]) (sndi_rng1 (snd_cb snd_len (snda_cons (snd_op snd_ix (snd_var) (snd_var)) (snda_nil)))) (sndg_name) (sndt_yes) (snd_tup (snda_cons (snd_var) (snda_cons (snd_var) (snda_cons (snd_op snd_ix (snd_op snd_ix (snd_op snd_ix (snd_var) (snd_var)) (snd_var)) (snd_int)) (snda_cons (snd_op snd_ix (snd_op snd_ix (snd_op snd_ix (snd_var) (snd_var)) (snd_var)) (snd_int)) (snda_nil)))))) (by decide)))).p) (by decide)) (snds_ret (ps := []) (snd_var)))) (by decide)) pf_law_quads vs H Q E h⟩
theorem ok_law_quads (F : ∃ fd, FunD K "_law_quads" "_law_quads" (defArgs (top 52)) (defBody (top 52)) (defScope (top 52)) [] [] (He.ga K "_law_quads") fd) (at_ : mg "_law_quads" = some (.ref (He.ga K "_law_quads"))) (B : Blt mg)  : FP P w K mg base "_law_quads" 1 1 sp_law_quads := by
  obtain ⟨fd, F⟩ := F
  exact ⟨⟨fd, ["net"], okn_law_quads F at_ B , F.bindsN fun _ _ _ _ _ _ us hl => match us, hl with | [_], _ => rfl⟩, F.kp, at_⟩
theorem sc_Plan_steps : GScope ["self", "side", "row", "copy", "other", "sign"] ["self"] (defScope (inClass (top 30) 2)) := ⟨rfl, rfl, rfl, by decide +kernel, rfl, by decide +kernel, by decide +kernel⟩
theorem ok_Plan_steps (F : ∃ fd, FunD K "steps" "Plan.steps" (defArgs (inClass (top 30) 2)) (defBody (inClass (top 30) 2)) (defScope (inClass (top 30) 2)) [] [] (He.ma K (He.ga K "Plan") "steps") fd) (me : Meth K (He.ga K "Plan") "steps" (He.ma K (He.ga K "Plan") "steps")) (cl : Cls K (He.ga K "Plan")) (B : Blt mg) (k_Plan : ClsF K "Plan" flds_Plan) : GMP P w K mg base "Plan" "steps" 1 1 sp_Plan_steps := by
  have sc := sc_Plan_steps
  obtain ⟨fd, F⟩ := F
  refine ⟨⟨fd, ["self"], ?_, F.bindsN fun _ _ _ _ _ _ us hl => match us, hl with | [_], _ => rfl⟩, me, cl⟩
  obtain ⟨oc, od, dV, kV, doc, pm, an, cdv, ct, osl, rfl, lk, hcd, _, _⟩ := F.ex
  refine gfn_of lk hcd sc (fun _ _ _ _ h => h.1) (fun A outer s H vs Q E pn hr h => ?_)
  exact ⟨_, gss_cons (gs_for owns_gcx rfl (pi_enum (by rfl) B.enumerate (pa_cons (pe_fld (pv 0) (by rfl)) pa_nil)) (pg_tup rfl (pgs_cons (pg_name (i := 1) sc.nd rfl (Or.inl rfl)) (pgs_cons (pg_name (i := 2) sc.nd rfl (Or.inl rfl)) (pgs_nil)))) (gss_cons (gs_for owns_gcx rfl (pi_enum (by rfl) B.enumerate (pa_cons (pv 2) pa_nil)) (pg_tup rfl (pgs_cons (pg_name (i := 3) sc.nd rfl (Or.inl rfl)) (pgs_cons (pg_tup rfl (pgs_cons (pg_name (i := 4) sc.nd rfl (Or.inl rfl)) (pgs_cons (pg_name (i := 5) sc.nd rfl (Or.inl rfl)) (pgs_nil)))) (pgs_nil)))) (gss_cons (gs_yield (pe_tup (pa_cons (pv 1) (pa_cons (pv 3) (pa_cons (pv 4) (pa_cons (pv 5) (pa_nil))))))) (gss_nil))) (gss_nil))) (gss_nil), gbody_ok (SndGn.mono (bs := [1, 2, 3, 4, 5]) (sndg_seq (sndg_for (as := [1, 2, 3, 4, 5]) (sndi_enum (snd_fld (cn := "Plan") k_Plan.c (k_Plan.n _ (by simp [flds_Plan])) (snd_var))) (sndg_tup (n := 2) (sndgs_cons (sndg_name) (sndgs_cons (sndg_name) (sndgs_nil)))) (sndg_seq (sndg_for (as := [3, 4, 5]) (sndi_enum (snd_var)) (sndg_tup (n := 2) (sndgs_cons (sndg_name) (sndgs_cons (sndg_tup (n := 2) (sndgs_cons (sndg_name) (sndgs_cons (sndg_name) (sndgs_nil)))) (sndgs_nil)))) (sndg_seq (sndg_yield (snd_tup (snda_cons (snd_var) (snda_cons (snd_var) (snda_cons (snd_var) (snda_cons (snd_var) (snda_nil))))))) (sndg_nil)) (by decide)) (sndg_nil)) (by decide)) (sndg_nil)) (by decide)) pf_Plan_steps vs H Q E h⟩
theorem sc_law_plan_so : FnScope ["told", "labels", "net"] ["told", "labels", "net"] (defScope (top 53)) := ⟨rfl, rfl, rfl, by decide +kernel, rfl, by decide +kernel, by decide +kernel⟩
theorem okn_law_plan_so {fd : FuncData} (F : FunD K "_law_plan_so" "_law_plan_so" (defArgs (top 53)) (defBody (top 53)) (defScope (top 53)) [] [] (He.ga K "_law_plan_so") fd) (at_ : mg "_law_plan_so" = some (.ref (He.ga K "_law_plan_so"))) (B : Blt mg) (g_law_like : FP P w K mg base "_law_like" 4 2 (sp_law_like 3)) (g_law_quads : FP P w K mg base "_law_quads" 1 1 sp_law_quads) (gm_Plan_steps : GMP P w K mg base "Plan" "steps" 1 1 sp_Plan_steps) (ic_Plan : IsOwn K "Plan") (at_Plan : mg "Plan" = some (.ref (He.ga K "Plan"))) (k_Plan : ClsF K "Plan" flds_Plan) : FnOk P w K mg base CX0 5 (He.ga K "_law_plan_so") fd ["told", "labels", "net"] (up K 3 sp_law_plan_so) := by
  have sc := sc_law_plan_so
  refine F.ok sc (fun _ _ _ _ h => h.1) (fun cdv A outer s H vs Q E hr h => ?_)
  exact ⟨_, PSs.nox (pss_cons (ps_if (PW.pt (pw_or (pt_not (pt_val (pe_callB call_isi (by rfl) B.isinstance (by decide +kernel) (pa_cons (pv 0) (pa_cons (pe_own (by rfl) at_Plan) pa_nil))))) (pw_or1 (pt_not (pt_val (pe_f g_law_like (Room.mono hr (by decide)) (by rfl) (pa_cons (pe_lst (pa_cons (pe_fld (pv 0) (by rfl)) (pa_cons (pe_fld (pv 0) (by rfl)) (pa_nil)))) (pa_cons (pe_lst (pa_cons (pv 1) (pa_cons (pe_callB call_len (by rfl) B.len boot_len (pa_cons (pe_ix ix_seq (pv 2) (pe_int) (fun _ _ => rfl)) (pa_nil))) (pa_nil)))) (pa_nil))))))))) (pss_one (ps_ret (pe_bl))) (pss_nil)) (pss_one (ps_ret (pe_f g_law_like (Room.mono hr (by decide)) (by rfl) (pa_cons (pe_lm gm_Plan_steps (Room.mono hr (by decide)) (by rfl) B.list (pv 0)) (pa_cons (pe_f g_law_quads (Room.mono hr (by decide)) (by rfl) (pa_cons (pv 2) (pa_nil))) (pa_nil))))))),
    body_ok (SndSP.mono (bs := []) (sndp_seq (sndp_if (sndt_or (sndt_not (sndt_val (snd_isC (cn := "Plan") ic_Plan (snd_var)))) (sndt_not (sndt_val (snd_call (ms := [true, true]) rfl (snda_cons (snd_lst (snda_cons (snd_fld (cn := "Plan") k_Plan.c (k_Plan.n _ (by simp [flds_Plan])) (snd_var)) (snda_cons (snd_fld (cn := "Plan") k_Plan.c (k_Plan.n _ (by simp [flds_Plan])) (snd_var)) (snda_nil)))) (snda_cons (snd_lst (snda_cons (snd_var) (snda_cons (snd_cb snd_len (snda_cons (snd_op snd_ix (snd_var) (snd_int)) (snda_nil))) (snda_nil)))) (snda_nil))))))) (snds_ret (ps := []) (snd_bl)) (snds_next.p)) (snds_ret (ps := []) (snd_call (ms := [true, true]) rfl (snda_cons (snd_listm (cn := "Plan") (m := "steps") (snd_var)) (snda_cons (snd_call (ms := [false]) rfl (snda_cons (snd_var) (snda_nil))) (snda_nil)))))) (by decide)) pf_law_plan_so vs H Q E h⟩
theorem ok_law_plan_so (F : ∃ fd, FunD K "_law_plan_so" "_law_plan_so" (defArgs (top 53)) (defBody (top 53)) (defScope (top 53)) [] [] (He.ga K "_law_plan_so") fd) (at_ : mg "_law_plan_so" = some (.ref (He.ga K "_law_plan_so"))) (B : Blt mg) (g_law_like : FP P w K mg base "_law_like" 4 2 (sp_law_like 3)) (g_law_quads : FP P w K mg base "_law_quads" 1 1 sp_law_quads) (gm_Plan_steps : GMP P w K mg base "Plan" "steps" 1 1 sp_Plan_steps) (ic_Plan : IsOwn K "Plan") (at_Plan : mg "Plan" = some (.ref (He.ga K "Plan"))) (k_Plan : ClsF K "Plan" flds_Plan) : FP P w K mg base "_law_plan_so" 5 3 sp_law_plan_so := by
  obtain ⟨fd, F⟩ := F
  exact ⟨⟨fd, ["told", "labels", "net"], okn_law_plan_so F at_ B g_law_like g_law_quads gm_Plan_steps ic_Plan at_Plan k_Plan, F.bindsN fun _ _ _ _ _ _ us hl => match us, hl with | [_, _, _], _ => rfl⟩, F.kp, at_⟩
theorem sc_law_part_net : FnScope ["net", "folk", "moves", "x"] ["net", "folk"] (defScope (top 58)) := ⟨rfl, rfl, rfl, by decide +kernel, rfl, by decide +kernel, by decide +kernel⟩
theorem okn_law_part_net {fd : FuncData} (F : FunD K "_law_part_net" "_law_part_net" (defArgs (top 58)) (defBody (top 58)) (defScope (top 58)) [] [] (He.ga K "_law_part_net") fd) (at_ : mg "_law_part_net" = some (.ref (He.ga K "_law_part_net"))) (B : Blt mg)  : FnOk P w K mg base CX0 1 (He.ga K "_law_part_net") fd ["net", "folk"] (up K 2 sp_law_part_net) := by
  have sc := sc_law_part_net
  refine F.ok sc (fun _ _ _ _ h => h.1) (fun cdv A outer s H vs Q E hr h => ?_)
  exact ⟨_, PSs.nox (pss_one (ps_ret (pe_lc (own := [("moves", 2)]) (g := gName 2) rfl sc.nd (pi_list (pv 0)) (blkOk_by (by kernel_rfl)) (fun _ _ _ _ _ => pg_name (i := 2) sc.nd rfl (Or.inr rfl)) (fun _ _ _ _ _ => pts_nil) (fun _ _ _ _ _ => pe_lc (own := [("x", 3)]) (g := gName 3) rfl sc.nd (pi_list (pv 1)) (blkOk_by (by kernel_rfl)) (fun _ _ _ _ _ => pg_name (i := 3) sc.nd rfl (Or.inl rfl)) (fun _ _ _ _ _ => pts_nil) (fun _ _ _ _ _ => pe_tup (pa_cons (pe_bm PySem.F.plainAttrs_list PySem.F.slot_list_index PySem.F.type_list_index (mt_indexD (Room.u65 hr)) (pv 1) (pa_cons (pe_ix ix_seq (pe_ix ix_seq (pv 2) (pv 3) (fun _ _ => rfl)) (pe_int) (fun _ _ => rfl)) pa_nil)) (pa_cons (pe_ix ix_seq (pe_ix ix_seq (pv 2) (pv 3) (fun _ _ => rfl)) (pe_int) (fun _ _ => rfl)) (pa_nil)))))))),
    body_ok (SndSP.mono (bs := []) (snds_ret (ps := []) (snd_comp (vs := [2]) (sndi_list (snd_var)) (sndg_name) (sndt_yes) (snd_comp (vs := [3]) (sndi_list (snd_var)) (sndg_name) (sndt_yes) (snd_tup (snda_cons (snd_index (snd_var) (snd_op snd_ix (snd_op snd_ix (snd_var) (snd_var)) (snd_int))) (snda_cons (snd_op snd_ix (snd_op snd_ix (snd_var) (snd_var)) (snd_int)) (snda_nil)))) (by decide)) (by decide))) (by decide)) pf_law_part_net vs H Q E h⟩
theorem ok_law_part_net (F : ∃ fd, FunD K "_law_part_net" "_law_part_net" (defArgs (top 58)) (defBody (top 58)) (defScope (top 58)) [] [] (He.ga K "_law_part_net") fd) (at_ : mg "_law_part_net" = some (.ref (He.ga K "_law_part_net"))) (B : Blt mg)  : FP P w K mg base "_law_part_net" 1 2 sp_law_part_net := by
  obtain ⟨fd, F⟩ := F
  exact ⟨⟨fd, ["net", "folk"], okn_law_part_net F at_ B , F.bindsN fun _ _ _ _ _ _ us hl => match us, hl with | [_, _], _ => rfl⟩, F.kp, at_⟩
theorem sc_law_part_plans_so : FnScope ["held", "labels", "net", "folks", "k", "told"] ["held", "labels", "net", "folks"] (defScope (top 66)) := ⟨rfl, rfl, rfl, by decide +kernel, rfl, by decide +kernel, by decide +kernel⟩
theorem okn_law_part_plans_so {fd : FuncData} (F : FunD K "_law_part_plans_so" "_law_part_plans_so" (defArgs (top 66)) (defBody (top 66)) (defScope (top 66)) [] [] (He.ga K "_law_part_plans_so") fd) (at_ : mg "_law_part_plans_so" = some (.ref (He.ga K "_law_part_plans_so"))) (B : Blt mg) (g_part_plan : FP P w K mg base "part_plan" 7 2 sp_part_plan) (g_law_part_net : FP P w K mg base "_law_part_net" 1 2 sp_law_part_net) (g_law_plan_so : FP P w K mg base "_law_plan_so" 5 3 sp_law_plan_so) (q_part_plan_10_0 : FK P w K mg base "part_plan" 7 2 sp_part_plan 0 ["at", "plan"] [1, 0]) : FnOk P w K mg base CX0 8 (He.ga K "_law_part_plans_so") fd ["held", "labels", "net", "folks"] (up K 4 sp_law_part_plans_so) := by
  have sc := sc_law_part_plans_so
  refine F.ok sc (fun _ _ _ _ h => h.1) (fun cdv A outer s H vs Q E hr h => ?_)
  exact ⟨_, PSs.nox (pss_cons (ps_for PassesOwn.never rfl (pi_range1 (by rfl) B.range (pa_cons (pe_callB call_len (by rfl) B.len boot_len (pa_cons (pv 3) (pa_nil))) pa_nil)) (pg_name (i := 4) sc.nd rfl (Or.inl rfl)) (pss_cons (ps_set (i := 5) sc.nd rfl (Or.inl rfl) (pe_ifExp (pt_cmpR (op_eqD hr.units) (pv 4) (pe_int) (nomark _)) (pe_fk0 q_part_plan_10_0 (Room.mono hr (by decide)) (by rfl) (pk_cons (pv 4) (pk_cons (pv 0) (pk_nil))) rfl) (pe_f g_part_plan (Room.mono hr (by decide)) (by rfl) (pa_cons (pv 0) (pa_cons (pv 4) (pa_nil)))))) (pss_one (ps_if (pt_not (pt_val (pe_f g_law_plan_so (Room.mono hr (by decide)) (by rfl) (pa_cons (pv 5) (pa_cons (pv 1) (pa_cons (pe_f g_law_part_net (Room.mono hr (by decide)) (by rfl) (pa_cons (pv 2) (pa_cons (pe_ix ix_seq (pv 3) (pv 4) (fun _ _ => rfl)) (pa_nil)))) (pa_nil))))))) (pss_one (ps_ret (pe_bl))) (pss_nil))))) (pss_one (ps_ret (pe_bl)))),
    body_ok (SndSP.mono (bs := [4, 5]) (sndp_seq (sndp_for (as := [4, 5]) (sndi_rng1 (snd_cb snd_len (snda_cons (snd_var) (snda_nil)))) (sndg_name) (sndp_seq ((snds_set (snd_if (sndt_test (snd_op snd_eq (snd_var) (snd_int))) (snd_callP (ms := [false, false]) (np := 0) (nk := 2) (is := [1, 0]) rfl (by decide) (by decide) (snda_nil) (snda_cons (snd_var) (snda_cons (snd_var) (snda_nil)))) (snd_call (ms := [false, false]) rfl (snda_cons (snd_var) (snda_cons (snd_var) (snda_nil)))))).p) (sndp_if (sndt_not (sndt_val (snd_call (ms := [false, false, false]) rfl (snda_cons (snd_var) (snda_cons (snd_var) (snda_cons (snd_call (ms := [false, false]) rfl (snda_cons (snd_var) (snda_cons (snd_op snd_ix (snd_var) (snd_var)) (snda_nil)))) (snda_nil))))))) (snds_ret (ps := []) (snd_bl)) (snds_next.p))) (by decide)) (snds_ret (ps := []) (snd_bl))) (by decide)) pf_law_part_plans_so vs H Q E h⟩
theorem ok_law_part_plans_so (F : ∃ fd, FunD K "_law_part_plans_so" "_law_part_plans_so" (defArgs (top 66)) (defBody (top 66)) (defScope (top 66)) [] [] (He.ga K "_law_part_plans_so") fd) (at_ : mg "_law_part_plans_so" = some (.ref (He.ga K "_law_part_plans_so"))) (B : Blt mg) (g_part_plan : FP P w K mg base "part_plan" 7 2 sp_part_plan) (g_law_part_net : FP P w K mg base "_law_part_net" 1 2 sp_law_part_net) (g_law_plan_so : FP P w K mg base "_law_plan_so" 5 3 sp_law_plan_so) (q_part_plan_10_0 : FK P w K mg base "part_plan" 7 2 sp_part_plan 0 ["at", "plan"] [1, 0]) : FP P w K mg base "_law_part_plans_so" 8 4 sp_law_part_plans_so := by
  obtain ⟨fd, F⟩ := F
  exact ⟨⟨fd, ["held", "labels", "net", "folks"], okn_law_part_plans_so F at_ B g_part_plan g_law_part_net g_law_plan_so q_part_plan_10_0, F.bindsN fun _ _ _ _ _ _ us hl => match us, hl with | [_, _, _, _], _ => rfl⟩, F.kp, at_⟩
theorem sc_law_led : FnScope ["net", "way", "x", "sign", "k", "pair"] ["net", "way", "x"] (defScope (top 55)) := ⟨rfl, rfl, rfl, by decide +kernel, rfl, by decide +kernel, by decide +kernel⟩
theorem okn_law_led {fd : FuncData} (F : FunD K "_law_led" "_law_led" (defArgs (top 55)) (defBody (top 55)) (defScope (top 55)) [] [] (He.ga K "_law_led") fd) (at_ : mg "_law_led" = some (.ref (He.ga K "_law_led"))) (B : Blt mg)  : FnOk P w K mg base CX0 1 (He.ga K "_law_led") fd ["net", "way", "x"] (up K 3 sp_law_led) := by
  have sc := sc_law_led
  refine F.ok sc (fun _ _ _ _ h => h.1) (fun cdv A outer s H vs Q E hr h => ?_)
  exact ⟨_, PSs.nox (pss_cons (ps_set (i := 3) sc.nd rfl (Or.inl rfl) (pe_int)) (pss_cons (ps_for PassesOwn.never rfl (pi_tup (pv 1)) (pg_name (i := 4) sc.nd rfl (Or.inl rfl)) (pss_cons (ps_set (i := 5) sc.nd rfl (Or.inl rfl) (pe_ix ix_seq (pe_ix ix_seq (pv 0) (pv 4) (fun _ _ => rfl)) (pv 2) (fun _ _ => rfl))) (pss_one (ps_par (i := 2) (j := 3) rfl sc.nd rfl rfl (by decide) rfl rfl (pa_cons (pe_ix ix_seq (pv 5) (pe_int) (fun _ _ => rfl)) (pa_cons (pe_op op_times (pv 3) (pe_ix ix_seq (pv 5) (pe_int) (fun _ _ => rfl))) (pa_nil))) (by rfl))))) (pss_one (ps_ret (pe_tup (pa_cons (pv 2) (pa_cons (pv 3) (pa_nil)))))))),
    body_ok (SndSP.mono (bs := [2, 3, 4, 5]) (sndp_seq ((snds_set (snd_int)).p) (sndp_seq (sndp_for (as := [2, 3, 4, 5]) (sndi_tup (snd_var)) (sndg_name) (sndp_seq ((snds_set (snd_op snd_ix (snd_op snd_ix (snd_var) (snd_var)) (snd_var))).p) ((snds_par2 false false (snda_cons (snd_op snd_ix (snd_var) (snd_int)) (snda_cons (snd_op snd_times (snd_var) (snd_op snd_ix (snd_var) (snd_int))) (snda_nil)))).p)) (by decide)) (snds_ret (ps := []) (snd_tup (snda_cons (snd_var) (snda_cons (snd_var) (snda_nil))))))) (by decide)) pf_law_led vs H Q E h⟩
theorem ok_law_led (F : ∃ fd, FunD K "_law_led" "_law_led" (defArgs (top 55)) (defBody (top 55)) (defScope (top 55)) [] [] (He.ga K "_law_led") fd) (at_ : mg "_law_led" = some (.ref (He.ga K "_law_led"))) (B : Blt mg)  : FP P w K mg base "_law_led" 1 3 sp_law_led := by
  obtain ⟨fd, F⟩ := F
  exact ⟨⟨fd, ["net", "way", "x"], okn_law_led F at_ B , F.bindsN fun _ _ _ _ _ _ us hl => match us, hl with | [_, _, _], _ => rfl⟩, F.kp, at_⟩
theorem sc_law_return : FnScope ["net", "way", "total", "x", "told"] ["net", "way"] (defScope (top 56)) := ⟨rfl, rfl, rfl, by decide +kernel, rfl, by decide +kernel, by decide +kernel⟩
theorem okn_law_return {fd : FuncData} (F : FunD K "_law_return" "_law_return" (defArgs (top 56)) (defBody (top 56)) (defScope (top 56)) [] [] (He.ga K "_law_return") fd) (at_ : mg "_law_return" = some (.ref (He.ga K "_law_return"))) (B : Blt mg) (g_law_led : FP P w K mg base "_law_led" 1 3 sp_law_led) : FnOk P w K mg base CX0 2 (He.ga K "_law_return") fd ["net", "way"] (up K 2 sp_law_return) := by
  have sc := sc_law_return
  refine F.ok sc (fun _ _ _ _ h => h.1) (fun cdv A outer s H vs Q E hr h => ?_)
  exact ⟨_, PSs.nox (pss_cons (ps_set (i := 2) sc.nd rfl (Or.inl rfl) (pe_int)) (pss_cons (ps_for PassesOwn.never rfl (pi_range1 (by rfl) B.range (pa_cons (pe_callB call_len (by rfl) B.len boot_len (pa_cons (pe_ix ix_seq (pv 0) (pe_int) (fun _ _ => rfl)) (pa_nil))) pa_nil)) (pg_name (i := 3) sc.nd rfl (Or.inl rfl)) (pss_cons (ps_set (i := 4) sc.nd rfl (Or.inl rfl) (pe_f g_law_led (Room.mono hr (by decide)) (by rfl) (pa_cons (pv 0) (pa_cons (pv 1) (pa_cons (pv 3) (pa_nil)))))) (pss_one (ps_if (pt_cmpR (op_eqD hr.units) (pe_ix ix_seq (pv 4) (pe_int) (fun _ _ => rfl)) (pv 3) (nomark _)) (pss_one (ps_set (i := 2) sc.nd rfl (Or.inl rfl) (pe_op op_plus (pv 2) (pe_ix ix_seq (pv 4) (pe_int) (fun _ _ => rfl))))) (pss_nil))))) (pss_one (ps_ret (pv 2))))),
    body_ok (SndSP.mono (bs := [2, 3, 4]) (sndp_seq ((snds_set (snd_int)).p) (sndp_seq (sndp_for (as := [2, 3, 4]) (sndi_rng1 (snd_cb snd_len (snda_cons (snd_op snd_ix (snd_var) (snd_int)) (snda_nil)))) (sndg_name) (sndp_seq ((snds_set (snd_call (ms := [false, false, false]) rfl (snda_cons (snd_var) (snda_cons (snd_var) (snda_cons (snd_var) (snda_nil)))))).p) (sndp_if (sndt_test (snd_op snd_eq (snd_op snd_ix (snd_var) (snd_int)) (snd_var))) ((snds_set (snd_op snd_plus (snd_var) (snd_op snd_ix (snd_var) (snd_int)))).p) (snds_next.p))) (by decide)) (snds_ret (ps := []) (snd_var)))) (by decide)) pf_law_return vs H Q E h⟩
theorem ok_law_return (F : ∃ fd, FunD K "_law_return" "_law_return" (defArgs (top 56)) (defBody (top 56)) (defScope (top 56)) [] [] (He.ga K "_law_return") fd) (at_ : mg "_law_return" = some (.ref (He.ga K "_law_return"))) (B : Blt mg) (g_law_led : FP P w K mg base "_law_led" 1 3 sp_law_led) : FP P w K mg base "_law_return" 2 2 sp_law_return := by
  obtain ⟨fd, F⟩ := F
  exact ⟨⟨fd, ["net", "way"], okn_law_return F at_ B g_law_led, F.bindsN fun _ _ _ _ _ _ us hl => match us, hl with | [_, _], _ => rfl⟩, F.kp, at_⟩
theorem sc_fixed_signs : FnScope ["led", "copy", "other", "sign"] ["led"] (defScope (top 40)) := ⟨rfl, rfl, rfl, by decide +kernel, rfl, by decide +kernel, by decide +kernel⟩
theorem okn_fixed_signs {fd : FuncData} (F : FunD K "fixed_signs" "fixed_signs" (defArgs (top 40)) (defBody (top 40)) (defScope (top 40)) [] [] (He.ga K "fixed_signs") fd) (at_ : mg "fixed_signs" = some (.ref (He.ga K "fixed_signs"))) (B : Blt mg)  : FnOk P w K mg base CX0 1 (He.ga K "fixed_signs") fd ["led"] (up K 1 sp_fixed_signs) := by
  have sc := sc_fixed_signs
  refine F.ok sc (fun _ _ _ _ h => h.1) (fun cdv A outer s H vs Q E hr h => ?_)
  exact ⟨_, PSs.nox (pss_one (ps_ret (pe_callB (cr_sum rfl) (by rfl) B.sum (by decide +kernel) (pa_cons (pe_lc (own := [("copy", 1), ("other", 2), ("sign", 3)]) (g := gTup K 2 (gCons (gName 1) (gCons (gTup K 2 (gCons (gName 2) (gCons (gName 3) (gNil)))) (gNil)))) rfl sc.nd (pi_enum (by rfl) B.enumerate (pa_cons (pv 0) pa_nil)) (blkOk_by (by kernel_rfl)) (fun _ _ _ _ _ => pg_tup rfl (pgs_cons (pg_name (i := 1) sc.nd rfl (Or.inl rfl)) (pgs_cons (pg_tup rfl (pgs_cons (pg_name (i := 2) sc.nd rfl (Or.inl rfl)) (pgs_cons (pg_name (i := 3) sc.nd rfl (Or.inl rfl)) (pgs_nil)))) (pgs_nil)))) (fun _ _ _ _ _ => pts_one (pt_cmpR (op_eqD hr.units) (pv 2) (pv 1) (nomark _))) (fun _ _ _ _ _ => pv 3)) (pa_nil))))),
    body_ok (SndSP.mono (bs := []) (snds_ret (ps := []) (snd_cb snd_sum (snda_cons (snd_comp (vs := [1, 2, 3]) (sndi_enum (snd_var)) (sndg_tup (n := 2) (sndgs_cons (sndg_name) (sndgs_cons (sndg_tup (n := 2) (sndgs_cons (sndg_name) (sndgs_cons (sndg_name) (sndgs_nil)))) (sndgs_nil)))) (sndt_test (snd_op snd_eq (snd_var) (snd_var))) (snd_var) (by decide)) (snda_nil)))) (by decide)) pf_fixed_signs vs H Q E h⟩
theorem ok_fixed_signs (F : ∃ fd, FunD K "fixed_signs" "fixed_signs" (defArgs (top 40)) (defBody (top 40)) (defScope (top 40)) [] [] (He.ga K "fixed_signs") fd) (at_ : mg "fixed_signs" = some (.ref (He.ga K "fixed_signs"))) (B : Blt mg)  : FP P w K mg base "fixed_signs" 1 1 sp_fixed_signs := by
  obtain ⟨fd, F⟩ := F
  exact ⟨⟨fd, ["led"], okn_fixed_signs F at_ B , F.bindsN fun _ _ _ _ _ _ us hl => match us, hl with | [_], _ => rfl⟩, F.kp, at_⟩
theorem sc_stays : FnScope ["copies", "copy"] ["copies"] (defScope (top 37)) := ⟨rfl, rfl, rfl, by decide +kernel, rfl, by decide +kernel, by decide +kernel⟩
theorem okn_stays {fd : FuncData} (F : FunD K "stays" "stays" (defArgs (top 37)) (defBody (top 37)) (defScope (top 37)) [] [] (He.ga K "stays") fd) (at_ : mg "stays" = some (.ref (He.ga K "stays"))) (B : Blt mg)  : FnOk P w K mg base CX0 1 (He.ga K "stays") fd ["copies"] (up K 1 sp_stays) := by
  have sc := sc_stays
  refine F.ok sc (fun _ _ _ _ h => h.1) (fun cdv A outer s H vs Q E hr h => ?_)
  exact ⟨_, PSs.nox (pss_one (ps_ret (pe_lc (own := [("copy", 1)]) (g := gName 1) rfl sc.nd (pi_range1 (by rfl) B.range (pa_cons (pv 0) pa_nil)) (blkOk_by (by kernel_rfl)) (fun _ _ _ _ _ => pg_name (i := 1) sc.nd rfl (Or.inl rfl)) (fun _ _ _ _ _ => pts_nil) (fun _ _ _ _ _ => pe_tup (pa_cons (pv 1) (pa_cons (pe_int) (pa_nil))))))),
    body_ok (SndSP.mono (bs := []) (snds_ret (ps := []) (snd_comp (vs := [1]) (sndi_rng1 (snd_var)) (sndg_name) (sndt_yes) (snd_tup (snda_cons (snd_var) (snda_cons (snd_int) (snda_nil)))) (by decide))) (by decide)) pf_stays vs H Q E h⟩
theorem ok_stays (F : ∃ fd, FunD K "stays" "stays" (defArgs (top 37)) (defBody (top 37)) (defScope (top 37)) [] [] (He.ga K "stays") fd) (at_ : mg "stays" = some (.ref (He.ga K "stays"))) (B : Blt mg)  : FP P w K mg base "stays" 1 1 sp_stays := by
  obtain ⟨fd, F⟩ := F
  exact ⟨⟨fd, ["copies"], okn_stays F at_ B , F.bindsN fun _ _ _ _ _ _ us hl => match us, hl with | [_], _ => rfl⟩, F.kp, at_⟩
theorem sc_is_word : FnScope ["sides", "value", "many", "letter"] ["sides", "value"] (defScope (top 16)) := ⟨rfl, rfl, rfl, by decide +kernel, rfl, by decide +kernel, by decide +kernel⟩
theorem okn_is_word {fd : FuncData} (F : FunD K "is_word" "is_word" (defArgs (top 16)) (defBody (top 16)) (defScope (top 16)) [] [] (He.ga K "is_word") fd) (at_ : mg "is_word" = some (.ref (He.ga K "is_word"))) (B : Blt mg) (g_is_index : FP P w K mg base "is_index" 2 2 sp_is_index) : FnOk P w K mg base CX0 3 (He.ga K "is_word") fd ["sides", "value"] (up K 2 sp_is_word) := by
  have sc := sc_is_word
  refine F.ok sc (fun _ _ _ _ h => h.1) (fun cdv A outer s H vs Q E hr h => ?_)
  exact ⟨_, PSs.nox (pss_cons (ps_if (pt_not (pt_val (pe_callB call_isi (by rfl) B.isinstance (by decide +kernel) (pa_cons (pv 1) (pa_cons (pe_bltn (v := .ty "tuple") (u := .type "tuple") (by rfl) B.tuple (by decide +kernel) rfl) pa_nil))))) (pss_one (ps_ret (pe_bl))) (pss_nil)) (pss_cons (ps_set (i := 2) sc.nd rfl (Or.inr rfl) (pe_callB call_len (by rfl) B.len boot_len (pa_cons (pv 0) (pa_nil)))) (pss_one (ps_ret (pe_callB (cr_all rfl) (by rfl) B.all (by decide +kernel) (pa_cons (pe_lc (own := [("letter", 3)]) (g := gName 3) rfl sc.nd (pi_tup (pv 1)) (blkOk_by (by kernel_rfl)) (fun _ _ _ _ _ => pg_name (i := 3) sc.nd rfl (Or.inl rfl)) (fun _ _ _ _ _ => pts_nil) (fun _ _ _ _ _ => pe_f g_is_index (Room.mono hr (by decide)) (by rfl) (pa_cons (pv 3) (pa_cons (pv 2) (pa_nil))))) (pa_nil))))))),
    body_ok (SndSP.mono (bs := [2]) (sndp_seq (sndp_if (sndt_not (sndt_val (snd_isi .tuple rfl (snd_var)))) (snds_ret (ps := []) (snd_bl)) (snds_next.p)) (sndp_seq ((snds_set (snd_cb snd_len (snda_cons (snd_var) (snda_nil)))).p) (snds_ret (ps := []) (snd_cb snd_all (snda_cons (snd_comp (vs := [3]) (sndi_tup (snd_var)) (sndg_name) (sndt_yes) (snd_call (ms := [false, false]) rfl (snda_cons (snd_var) (snda_cons (snd_var) (snda_nil)))) (by decide)) (snda_nil)))))) (by decide)) pf_is_word vs H Q E h⟩
theorem ok_is_word (F : ∃ fd, FunD K "is_word" "is_word" (defArgs (top 16)) (defBody (top 16)) (defScope (top 16)) [] [] (He.ga K "is_word") fd) (at_ : mg "is_word" = some (.ref (He.ga K "is_word"))) (B : Blt mg) (g_is_index : FP P w K mg base "is_index" 2 2 sp_is_index) : FP P w K mg base "is_word" 3 2 sp_is_word := by
  obtain ⟨fd, F⟩ := F
  exact ⟨⟨fd, ["sides", "value"], okn_is_word F at_ B g_is_index, F.bindsN fun _ _ _ _ _ _ us hl => match us, hl with | [_, _], _ => rfl⟩, F.kp, at_⟩
theorem sc_led_on : FnScope ["plan", "led", "side", "further", "copy", "sign", "other", "turn"] ["plan", "led", "side"] (defScope (top 38)) := ⟨rfl, rfl, rfl, by decide +kernel, rfl, by decide +kernel, by decide +kernel⟩
theorem okn_led_on {fd : FuncData} (F : FunD K "led_on" "led_on" (defArgs (top 38)) (defBody (top 38)) (defScope (top 38)) [] [] (He.ga K "led_on") fd) (at_ : mg "led_on" = some (.ref (He.ga K "led_on"))) (B : Blt mg) (m_Plan_step : MP P w K mg base "Plan" "step" 1 3 sp_Plan_step) : FnOk P w K mg base CX0 2 (He.ga K "led_on") fd ["plan", "led", "side"] (up K 3 sp_led_on) := by
  have sc := sc_led_on
  refine F.ok sc (fun _ _ _ _ h => h.1) (fun cdv A outer s H vs Q E hr h => ?_)
  exact ⟨_, PSs.nox (pss_cons (ps_set (i := 3) sc.nd rfl (Or.inl rfl) (pe_lst (pa_nil))) (pss_cons (ps_for PassesOwn.never rfl (pi_list (pv 1)) (pg_tup rfl (pgs_cons (pg_name (i := 4) sc.nd rfl (Or.inl rfl)) (pgs_cons (pg_name (i := 5) sc.nd rfl (Or.inl rfl)) (pgs_nil)))) (pss_cons (ps_asg (pe_m m_Plan_step (Room.mono hr (by decide)) (pv 0) (pa_cons (pv 2) (pa_cons (pv 4) (pa_nil)))) (pg_tup rfl (pgs_cons (pg_name (i := 6) sc.nd rfl (Or.inl rfl)) (pgs_cons (pg_name (i := 7) sc.nd rfl (Or.inl rfl)) (pgs_nil))))) (pss_one (ps_expr (pe_bm PySem.F.plainAttrs_list PySem.F.slot_list_append PySem.F.type_list_append mt_append (pv 3) (pa_cons (pe_tup (pa_cons (pv 6) (pa_cons (pe_op op_times (pv 5) (pv 7)) (pa_nil)))) (pa_nil))))))) (pss_one (ps_ret (pv 3))))),
    body_ok (SndSP.mono (bs := [3, 4, 5, 6, 7]) (sndp_seq ((snds_setO (snd_lst (snda_nil))).p) (sndp_seq (sndp_for (as := [4, 5, 6, 7]) (sndi_list (snd_var)) (sndg_tup (n := 2) (sndgs_cons (sndg_name) (sndgs_cons (sndg_name) (sndgs_nil)))) (sndp_seq ((snds_asg (snd_meth (ms := [false, false, false]) rfl (snd_var) (snda_cons (snd_var) (snda_cons (snd_var) (snda_nil)))) (sndg_tup (n := 2) (sndgs_cons (sndg_name) (sndgs_cons (sndg_name) (sndgs_nil))))).p) ((snds_expr (snd_lm sndm_append (snd_var) (snda_cons (snd_tup (snda_cons (snd_var) (snda_cons (snd_op snd_times (snd_var) (snd_var)) (snda_nil)))) (snda_nil)))).p)) (by decide)) (snds_ret (ps := []) (snd_var)))) (by decide)) pf_led_on vs H Q E h⟩
theorem ok_led_on (F : ∃ fd, FunD K "led_on" "led_on" (defArgs (top 38)) (defBody (top 38)) (defScope (top 38)) [] [] (He.ga K "led_on") fd) (at_ : mg "led_on" = some (.ref (He.ga K "led_on"))) (B : Blt mg) (m_Plan_step : MP P w K mg base "Plan" "step" 1 3 sp_Plan_step) : FP P w K mg base "led_on" 2 3 sp_led_on := by
  obtain ⟨fd, F⟩ := F
  exact ⟨⟨fd, ["plan", "led", "side"], okn_led_on F at_ B m_Plan_step, F.bindsN fun _ _ _ _ _ _ us hl => match us, hl with | [_, _, _], _ => rfl⟩, F.kp, at_⟩
theorem sc_led_copies : FnScope ["plan", "word", "led", "side"] ["plan", "word"] (defScope (top 39)) := ⟨rfl, rfl, rfl, by decide +kernel, rfl, by decide +kernel, by decide +kernel⟩
theorem okn_led_copies {fd : FuncData} (F : FunD K "led_copies" "led_copies" (defArgs (top 39)) (defBody (top 39)) (defScope (top 39)) [] [] (He.ga K "led_copies") fd) (at_ : mg "led_copies" = some (.ref (He.ga K "led_copies"))) (B : Blt mg) (g_is_word : FP P w K mg base "is_word" 3 2 sp_is_word) (g_stays : FP P w K mg base "stays" 1 1 sp_stays) (g_led_on : FP P w K mg base "led_on" 2 3 sp_led_on) (k_Plan : ClsF K "Plan" flds_Plan) : FnOk P w K mg base CX0 4 (He.ga K "led_copies") fd ["plan", "word"] (up K 2 sp_led_copies) := by
  have sc := sc_led_copies
  refine F.ok sc (fun _ _ _ _ h => h.1) (fun cdv A outer s H vs Q E hr h => ?_)
  exact ⟨_, PSs.nox (pss_cons (ps_if (pt_not (pt_truth (pe_f g_is_word (Room.mono hr (by decide)) (by rfl) (pa_cons (pe_fld (pv 0) (by rfl)) (pa_cons (pv 1) (pa_nil)))) (fun _ => rfl))) (pss_one (ps_never)) (pss_nil)) (pss_cons (ps_set (i := 2) sc.nd rfl (Or.inl rfl) (pe_f g_stays (Room.mono hr (by decide)) (by rfl) (pa_cons (pe_fld (pv 0) (by rfl)) (pa_nil)))) (pss_cons (ps_for PassesOwn.never rfl (pi_tup (pv 1)) (pg_name (i := 3) sc.nd rfl (Or.inl rfl)) (pss_one (ps_set (i := 2) sc.nd rfl (Or.inl rfl) (pe_f g_led_on (Room.mono hr (by decide)) (by rfl) (pa_cons (pv 0) (pa_cons (pv 2) (pa_cons (pv 3) (pa_nil)))))))) (pss_one (ps_ret (pv 2)))))),
    body_ok (SndSP.mono (bs := [2, 3]) (sndp_seq (sndp_if (sndt_not (sndt_truth (snd_call (ms := [false, false]) rfl (snda_cons (snd_fld (cn := "Plan") k_Plan.c (k_Plan.n _ (by simp [flds_Plan])) (snd_var)) (snda_cons (snd_var) (snda_nil)))))) (snds_never.p) (snds_next.p)) (sndp_seq ((snds_set (snd_call (ms := [false]) rfl (snda_cons (snd_fld (cn := "Plan") k_Plan.c (k_Plan.n _ (by simp [flds_Plan])) (snd_var)) (snda_nil)))).p) (sndp_seq (sndp_for (as := [2, 3]) (sndi_tup (snd_var)) (sndg_name) ((snds_set (snd_call (ms := [false, false, false]) rfl (snda_cons (snd_var) (snda_cons (snd_var) (snda_cons (snd_var) (snda_nil)))))).p) (by decide)) (snds_ret (ps := []) (snd_var))))) (by decide)) pf_led_copies vs H Q E h⟩
theorem ok_led_copies (F : ∃ fd, FunD K "led_copies" "led_copies" (defArgs (top 39)) (defBody (top 39)) (defScope (top 39)) [] [] (He.ga K "led_copies") fd) (at_ : mg "led_copies" = some (.ref (He.ga K "led_copies"))) (B : Blt mg) (g_is_word : FP P w K mg base "is_word" 3 2 sp_is_word) (g_stays : FP P w K mg base "stays" 1 1 sp_stays) (g_led_on : FP P w K mg base "led_on" 2 3 sp_led_on) (k_Plan : ClsF K "Plan" flds_Plan) : FP P w K mg base "led_copies" 4 2 sp_led_copies := by
  obtain ⟨fd, F⟩ := F
  exact ⟨⟨fd, ["plan", "word"], okn_led_copies F at_ B g_is_word g_stays g_led_on k_Plan, F.bindsN fun _ _ _ _ _ _ us hl => match us, hl with | [_, _], _ => rfl⟩, F.kp, at_⟩
theorem sc_return_of : FnScope ["plan", "word"] ["plan", "word"] (defScope (top 41)) := ⟨rfl, rfl, rfl, by decide +kernel, rfl, by decide +kernel, by decide +kernel⟩
theorem okn_return_of {fd : FuncData} (F : FunD K "return_of" "return_of" (defArgs (top 41)) (defBody (top 41)) (defScope (top 41)) [] [] (He.ga K "return_of") fd) (at_ : mg "return_of" = some (.ref (He.ga K "return_of"))) (B : Blt mg) (g_led_copies : FP P w K mg base "led_copies" 4 2 sp_led_copies) (g_fixed_signs : FP P w K mg base "fixed_signs" 1 1 sp_fixed_signs) : FnOk P w K mg base CX0 5 (He.ga K "return_of") fd ["plan", "word"] (up K 2 sp_return_of) := by
  have sc := sc_return_of
  refine F.ok sc (fun _ _ _ _ h => h.1) (fun cdv A outer s H vs Q E hr h => ?_)
  exact ⟨_, PSs.nox (pss_one (ps_ret (pe_f g_fixed_signs (Room.mono hr (by decide)) (by rfl) (pa_cons (pe_f g_led_copies (Room.mono hr (by decide)) (by rfl) (pa_cons (pv 0) (pa_cons (pv 1) (pa_nil)))) (pa_nil))))),
    body_ok (SndSP.mono (bs := []) (snds_ret (ps := []) (snd_call (ms := [false]) rfl (snda_cons (snd_call (ms := [false, false]) rfl (snda_cons (snd_var) (snda_cons (snd_var) (snda_nil)))) (snda_nil)))) (by decide)) pf_return_of vs H Q E h⟩
theorem ok_return_of (F : ∃ fd, FunD K "return_of" "return_of" (defArgs (top 41)) (defBody (top 41)) (defScope (top 41)) [] [] (He.ga K "return_of") fd) (at_ : mg "return_of" = some (.ref (He.ga K "return_of"))) (B : Blt mg) (g_led_copies : FP P w K mg base "led_copies" 4 2 sp_led_copies) (g_fixed_signs : FP P w K mg base "fixed_signs" 1 1 sp_fixed_signs) : FP P w K mg base "return_of" 5 2 sp_return_of := by
  obtain ⟨fd, F⟩ := F
  exact ⟨⟨fd, ["plan", "word"], okn_return_of F at_ B g_led_copies g_fixed_signs, F.bindsN fun _ _ _ _ _ _ us hl => match us, hl with | [_, _], _ => rfl⟩, F.kp, at_⟩
theorem sc_law_whole : FnScope ["item"] ["item"] (defScope (top 47)) := ⟨rfl, rfl, rfl, by decide +kernel, rfl, by decide +kernel, by decide +kernel⟩
theorem okn_law_whole {fd : FuncData} (F : FunD K "_law_whole" "_law_whole" (defArgs (top 47)) (defBody (top 47)) (defScope (top 47)) [] [] (He.ga K "_law_whole") fd) (at_ : mg "_law_whole" = some (.ref (He.ga K "_law_whole"))) (B : Blt mg)  : FnOk P w K mg base CX0 1 (He.ga K "_law_whole") fd ["item"] (up K 1 sp_law_whole) := by
  have sc := sc_law_whole
  refine F.ok sc (fun _ _ _ _ h => h.1) (fun cdv A outer s H vs Q E hr h => ?_)
  exact ⟨_, PSs.nox (pss_one (ps_ret (pe_and (pe_callB call_isi (by rfl) B.isinstance (by decide +kernel) (pa_cons (pv 0) (pa_cons (pe_bltn (v := .ty "int") (u := .type "int") (by rfl) B.int (by decide +kernel) rfl) pa_nil))) (pe_one (pe_not (pe_callB call_isi (by rfl) B.isinstance (by decide +kernel) (pa_cons (pv 0) (pa_cons (pe_bltn (v := .ty "bool") (u := .type "bool") (by rfl) B.bool (by decide +kernel) rfl) pa_nil)))))))),
    body_ok (SndSP.mono (bs := []) (snds_ret (ps := []) (snd_andV (snd_isi .int rfl (snd_var)) (snd_notV (snd_isi .bool rfl (snd_var))))) (by decide)) pf_law_whole vs H Q E h⟩
theorem ok_law_whole (F : ∃ fd, FunD K "_law_whole" "_law_whole" (defArgs (top 47)) (defBody (top 47)) (defScope (top 47)) [] [] (He.ga K "_law_whole") fd) (at_ : mg "_law_whole" = some (.ref (He.ga K "_law_whole"))) (B : Blt mg)  : FP P w K mg base "_law_whole" 1 1 sp_law_whole := by
  obtain ⟨fd, F⟩ := F
  exact ⟨⟨fd, ["item"], okn_law_whole F at_ B , F.bindsN fun _ _ _ _ _ _ us hl => match us, hl with | [_], _ => rfl⟩, F.kp, at_⟩
theorem sc_law_sums_so : FnScope ["held", "net", "way", "folks", "due", "told", "k", "folk", "x"] ["held", "net", "way", "folks"] (defScope (top 67)) := ⟨rfl, rfl, rfl, by decide +kernel, rfl, by decide +kernel, by decide +kernel⟩
theorem okn_law_sums_so {fd : FuncData} (F : FunD K "_law_sums_so" "_law_sums_so" (defArgs (top 67)) (defBody (top 67)) (defScope (top 67)) [] [] (He.ga K "_law_sums_so") fd) (at_ : mg "_law_sums_so" = some (.ref (He.ga K "_law_sums_so"))) (B : Blt mg) (g_law_return : FP P w K mg base "_law_return" 2 2 sp_law_return) (g_law_part_net : FP P w K mg base "_law_part_net" 1 2 sp_law_part_net) (g_part_plan : FP P w K mg base "part_plan" 7 2 sp_part_plan) (g_return_of : FP P w K mg base "return_of" 5 2 sp_return_of) (g_law_whole : FP P w K mg base "_law_whole" 1 1 sp_law_whole) (g_law_like : FP P w K mg base "_law_like" 4 2 (sp_law_like 3)) : FnOk P w K mg base CX0 8 (He.ga K "_law_sums_so") fd ["held", "net", "way", "folks"] (up K 4 sp_law_sums_so) := by
  have sc := sc_law_sums_so
  refine F.ok sc (fun _ _ _ _ h => h.1) (fun cdv A outer s H vs Q E hr h => ?_)
  exact ⟨_, PSs.nox (pss_cons (ps_set (i := 4) sc.nd rfl (Or.inl rfl) (pe_f g_law_return (Room.mono hr (by decide)) (by rfl) (pa_cons (pv 1) (pa_cons (pv 2) (pa_nil))))) (pss_cons (ps_if (pt_cmpR (op_neD hr.units) (pe_callB (cr_sum rfl) (by rfl) B.sum (by decide +kernel) (pa_cons (pe_lc (own := [("folk", 7)]) (g := gName 7) rfl sc.nd (pi_list (pv 3)) (blkOk_by (by kernel_rfl)) (fun _ _ _ _ _ => pg_name (i := 7) sc.nd rfl (Or.inl rfl)) (fun _ _ _ _ _ => pts_nil) (fun _ _ _ _ _ => pe_f g_law_return (Room.mono hr (by decide)) (by rfl) (pa_cons (pe_f g_law_part_net (Room.mono hr (by decide)) (by rfl) (pa_cons (pv 1) (pa_cons (pv 7) (pa_nil)))) (pa_cons (pv 2) (pa_nil))))) (pa_nil))) (pv 4) (nomark _)) (pss_one (ps_ret (pe_bl))) (pss_nil)) (pss_cons (ps_setLc (i := 5) (own := [("k", 6)]) (g := gName 6) rfl sc.nd rfl rfl (sw_true rfl rfl rfl (by decide +kernel)) (pi_range1 (by rfl) B.range (pa_cons (pe_callB call_len (by rfl) B.len boot_len (pa_cons (pv 3) (pa_nil))) pa_nil)) (blkOk_by (by kernel_rfl)) (fun _ _ _ _ _ => pg_name (i := 6) sc.nd rfl (Or.inl rfl)) (fun _ _ _ _ _ => pts_nil) (fun _ _ _ _ _ => pe_f g_return_of (Room.mono hr (by decide)) (by rfl) (pa_cons (pe_f g_part_plan (Room.mono hr (by decide)) (by rfl) (pa_cons (pv 0) (pa_cons (pv 6) (pa_nil)))) (pa_cons (pv 2) (pa_nil))))) (pss_one (ps_ret (pe_and (pe_callB (cr_all rfl) (by rfl) B.all (by decide +kernel) (pa_cons (pe_lc (own := [("x", 8)]) (g := gName 8) rfl sc.nd (pi_list (pv 5)) (blkOk_by (by kernel_rfl)) (fun _ _ _ _ _ => pg_name (i := 8) sc.nd rfl (Or.inl rfl)) (fun _ _ _ _ _ => pts_nil) (fun _ _ _ _ _ => pe_f g_law_whole (Room.mono hr (by decide)) (by rfl) (pa_cons (pv 8) (pa_nil)))) (pa_nil))) (pe_and (pe_cmpR (op_eqD hr.units) (pe_callB (cr_sum rfl) (by rfl) B.sum (by decide +kernel) (pa_cons (pv 5) (pa_nil))) (pv 4) (nomark _)) (pe_one (pe_f g_law_like (Room.mono hr (by decide)) (by rfl) (pa_cons (pe_f g_return_of (Room.mono hr (by decide)) (by rfl) (pa_cons (pv 0) (pa_cons (pv 2) (pa_nil)))) (pa_cons (pv 4) (pa_nil)))))))))))),
    body_ok (SndSP.mono (bs := [4, 5]) (sndp_seq ((snds_set (snd_call (ms := [false, false]) rfl (snda_cons (snd_var) (snda_cons (snd_var) (snda_nil))))).p) (sndp_seq (sndp_if (sndt_test (snd_op snd_ne (snd_cb snd_sum (snda_cons (snd_comp (vs := [7]) (sndi_list (snd_var)) (sndg_name) (sndt_yes) (snd_call (ms := [false, false]) rfl (snda_cons (snd_call (ms := [false, false]) rfl (snda_cons (snd_var) (snda_cons (snd_var) (snda_nil)))) (snda_cons (snd_var) (snda_nil)))) (by decide)) (snda_nil))) (snd_var))) (snds_ret (ps := []) (snd_bl)) (snds_next.p)) (sndp_seq ((snds_set (snd_comp (vs := [6]) (sndi_rng1 (snd_cb snd_len (snda_cons (snd_var) (snda_nil)))) (sndg_name) (sndt_yes) (snd_call (ms := [false, false]) rfl (snda_cons (snd_call (ms := [false, false]) rfl (snda_cons (snd_var) (snda_cons (snd_var) (snda_nil)))) (snda_cons (snd_var) (snda_nil)))) (by decide))).p) (snds_ret (ps := []) (snd_andV (snd_cb snd_all (snda_cons (snd_comp (vs := [8]) (sndi_list (snd_var)) (sndg_name) (sndt_yes) (snd_call (ms := [false]) rfl (snda_cons (snd_var) (snda_nil))) (by decide)) (snda_nil))) (snd_andV (snd_op snd_eq (snd_cb snd_sum (snda_cons (snd_var) (snda_nil))) (snd_var)) (snd_call (ms := [true, true]) rfl (snda_cons (snd_call (ms := [false, false]) rfl (snda_cons (snd_var) (snda_cons (snd_var) (snda_nil)))) (snda_cons (snd_var) (snda_nil)))))))))) (by decide)) pf_law_sums_so vs H Q E h⟩
theorem ok_law_sums_so (F : ∃ fd, FunD K "_law_sums_so" "_law_sums_so" (defArgs (top 67)) (defBody (top 67)) (defScope (top 67)) [] [] (He.ga K "_law_sums_so") fd) (at_ : mg "_law_sums_so" = some (.ref (He.ga K "_law_sums_so"))) (B : Blt mg) (g_law_return : FP P w K mg base "_law_return" 2 2 sp_law_return) (g_law_part_net : FP P w K mg base "_law_part_net" 1 2 sp_law_part_net) (g_part_plan : FP P w K mg base "part_plan" 7 2 sp_part_plan) (g_return_of : FP P w K mg base "return_of" 5 2 sp_return_of) (g_law_whole : FP P w K mg base "_law_whole" 1 1 sp_law_whole) (g_law_like : FP P w K mg base "_law_like" 4 2 (sp_law_like 3)) : FP P w K mg base "_law_sums_so" 8 4 sp_law_sums_so := by
  obtain ⟨fd, F⟩ := F
  exact ⟨⟨fd, ["held", "net", "way", "folks"], okn_law_sums_so F at_ B g_law_return g_law_part_net g_part_plan g_return_of g_law_whole g_law_like, F.bindsN fun _ _ _ _ _ _ us hl => match us, hl with | [_, _, _, _], _ => rfl⟩, F.kp, at_⟩
theorem sc_law_way : FnScope ["bag", "many_sides", "size", "k"] ["bag", "many_sides", "size"] (defScope (top 54)) := ⟨rfl, rfl, rfl, by decide +kernel, rfl, by decide +kernel, by decide +kernel⟩
theorem okn_law_way {fd : FuncData} (F : FunD K "_law_way" "_law_way" (defArgs (top 54)) (defBody (top 54)) (defScope (top 54)) [] [] (He.ga K "_law_way") fd) (at_ : mg "_law_way" = some (.ref (He.ga K "_law_way"))) (B : Blt mg) (g_law_draw : FP P w K mg base "_law_draw" 1 2 sp_law_draw) : FnOk P w K mg base CX0 2 (He.ga K "_law_way") fd ["bag", "many_sides", "size"] (up K 3 sp_law_way) := by
  have sc := sc_law_way
  refine F.ok sc (fun _ _ _ _ h => h.1) (fun cdv A outer s H vs Q E hr h => ?_)
  exact ⟨_, PSs.nox (pss_one (ps_ret (pe_callTy call_tuple_of (by rfl) B.tuple (by decide +kernel) (pa_cons (pe_lc (own := [("k", 3)]) (g := gName 3) rfl sc.nd (pi_range1 (by rfl) B.range (pa_cons (pv 2) pa_nil)) (blkOk_by (by kernel_rfl)) (fun _ _ _ _ _ => pg_name (i := 3) sc.nd rfl (Or.inl rfl)) (fun _ _ _ _ _ => pts_nil) (fun _ _ _ _ _ => pe_f g_law_draw (Room.mono hr (by decide)) (by rfl) (pa_cons (pv 0) (pa_cons (pv 1) (pa_nil))))) (pa_nil))))),
    body_ok (SndSP.mono (bs := []) (snds_ret (ps := [0]) (snd_cb snd_tuple (snda_cons (snd_comp (vs := [3]) (sndi_rng1 (snd_var)) (sndg_name) (sndt_yes) (snd_call (ms := [true, false]) rfl (snda_cons (snd_var) (snda_cons (snd_var) (snda_nil)))) (by decide)) (snda_nil)))) (by decide)) pf_law_way vs H Q E h⟩
theorem ok_law_way (F : ∃ fd, FunD K "_law_way" "_law_way" (defArgs (top 54)) (defBody (top 54)) (defScope (top 54)) [] [] (He.ga K "_law_way") fd) (at_ : mg "_law_way" = some (.ref (He.ga K "_law_way"))) (B : Blt mg) (g_law_draw : FP P w K mg base "_law_draw" 1 2 sp_law_draw) : FP P w K mg base "_law_way" 2 3 sp_law_way := by
  obtain ⟨fd, F⟩ := F
  exact ⟨⟨fd, ["bag", "many_sides", "size"], okn_law_way F at_ B g_law_draw, F.bindsN fun _ _ _ _ _ _ us hl => match us, hl with | [_, _, _], _ => rfl⟩, F.kp, at_⟩
theorem sc_law : FnScope ["script", "bag", "dear", "lap", "labels", "net", "held", "folks", "told", "k", "here"] ["script"] (defScope (top 68)) := ⟨rfl, rfl, rfl, by decide +kernel, rfl, by decide +kernel, by decide +kernel⟩
theorem okn_law {fd : FuncData} (F : FunD K "law" "law" (defArgs (top 68)) (defBody (top 68)) (defScope (top 68)) [] [] (He.ga K "law") fd) (at_ : mg "law" = some (.ref (He.ga K "law"))) (B : Blt mg) (g_law_bag : FP P w K mg base "_law_bag" 1 2 sp_law_bag) (g_law_draw : FP P w K mg base "_law_draw" 1 2 sp_law_draw) (g_law_of : FP P w K mg base "_law_of" 2 2 sp_law_of) (g_law_labels : FP P w K mg base "_law_labels" 3 2 sp_law_labels) (g_law_many_parts : FP P w K mg base "_law_many_parts" 4 3 sp_law_many_parts) (g_law_plan : FP P w K mg base "_law_plan" 7 2 sp_law_plan) (g_law_parts : FP P w K mg base "_law_parts" 1 1 sp_law_parts) (g_parts : FP P w K mg base "parts" 3 1 sp_parts) (g_law_parts_so : FP P w K mg base "_law_parts_so" 5 2 sp_law_parts_so) (g_law_part_plans_so : FP P w K mg base "_law_part_plans_so" 8 4 sp_law_part_plans_so) (g_law_way : FP P w K mg base "_law_way" 2 3 sp_law_way) (g_law_sums_so : FP P w K mg base "_law_sums_so" 8 4 sp_law_sums_so) (g_law_plan_so : FP P w K mg base "_law_plan_so" 5 3 sp_law_plan_so) (q_parts_0_0 : FK P w K mg base "parts" 3 1 sp_parts 0 ["plan"] [0]) : FnOk P w K mg base CX0 9 (He.ga K "law") fd ["script"] (up K 1 sp_law) := by
  have sc := sc_law
  refine F.ok sc (fun _ _ _ _ h => h.1) (fun cdv A outer s H vs Q E hr h => ?_)
  exact ⟨_, PSs.nox (pss_cons (ps_set (i := 1) sc.nd rfl (Or.inl rfl) (pe_f g_law_bag (Room.mono hr (by decide)) (by rfl) (pa_cons (pv 0) (pa_cons (pe_int) (pa_nil))))) (pss_cons (ps_set (i := 2) sc.nd rfl (Or.inl rfl) (pe_cmpR (op_eqD hr.units) (pe_f g_law_draw (Room.mono hr (by decide)) (by rfl) (pa_cons (pv 1) (pa_cons (pe_int) (pa_nil)))) (pe_int) (nomark _))) (pss_cons (ps_for PassesOwn.never rfl (pi_range1 (by rfl) B.range (pa_cons (pe_int) pa_nil)) (pg_name (i := 3) sc.nd rfl (Or.inl rfl)) (pss_cons (ps_set (i := 4) sc.nd rfl (Or.inl rfl) (pe_f g_law_labels (Room.mono hr (by decide)) (by rfl) (pa_cons (pv 1) (pa_cons (pe_f g_law_of (Room.mono hr (by decide)) (by rfl) (pa_cons (pv 1) (pa_cons (pe_lst (pa_cons (pe_int) (pa_cons (pe_int) (pa_cons (pe_int) (pa_cons (pe_int) (pa_nil)))))) (pa_nil)))) (pa_nil))))) (pss_cons (ps_set (i := 5) sc.nd rfl (Or.inl rfl) (pe_f g_law_many_parts (Room.mono hr (by decide)) (by rfl) (pa_cons (pv 1) (pa_cons (pe_callB call_len (by rfl) B.len boot_len (pa_cons (pv 4) (pa_nil))) (pa_cons (pe_and (pv 2) (pe_one (pe_cmpR (op_eqD hr.units) (pv 3) (pe_int) (nomark _)))) (pa_nil)))))) (pss_cons (ps_set (i := 6) sc.nd rfl (Or.inl rfl) (pe_f g_law_plan (Room.mono hr (by decide)) (by rfl) (pa_cons (pv 4) (pa_cons (pv 5) (pa_nil))))) (pss_cons (ps_set (i := 7) sc.nd rfl (Or.inl rfl) (pe_f g_law_parts (Room.mono hr (by decide)) (by rfl) (pa_cons (pv 5) (pa_nil)))) (pss_cons (ps_set (i := 8) sc.nd rfl (Or.inl rfl) (pe_ifExp (pt_cmpR (op_eqD hr.units) (pv 3) (pe_int) (nomark _)) (pe_fk0 q_parts_0_0 (Room.mono hr (by decide)) (by rfl) (pk_cons (pv 6) (pk_nil)) rfl) (pe_f g_parts (Room.mono hr (by decide)) (by rfl) (pa_cons (pv 6) (pa_nil))))) (pss_cons (ps_if (PW.pt (pw_or (pt_not (pt_val (pe_f g_law_parts_so (Room.mono hr (by decide)) (by rfl) (pa_cons (pv 8) (pa_cons (pv 5) (pa_nil)))))) (pw_or1 (pt_not (pt_val (pe_f g_law_part_plans_so (Room.mono hr (by decide)) (by rfl) (pa_cons (pv 6) (pa_cons (pv 4) (pa_cons (pv 5) (pa_cons (pv 7) (pa_nil))))))))))) (pss_one (ps_ret (pe_bl))) (pss_nil)) (pss_cons (ps_for PassesOwn.never rfl (pi_range1 (by rfl) B.range (pa_cons (pe_int) pa_nil)) (pg_name (i := 9) sc.nd rfl (Or.inl rfl)) (pss_one (ps_if (pt_not (pt_val (pe_f g_law_sums_so (Room.mono hr (by decide)) (by rfl) (pa_cons (pv 6) (pa_cons (pv 5) (pa_cons (pe_f g_law_way (Room.mono hr (by decide)) (by rfl) (pa_cons (pv 1) (pa_cons (pe_callB call_len (by rfl) B.len boot_len (pa_cons (pv 4) (pa_nil))) (pa_cons (pe_f g_law_of (Room.mono hr (by decide)) (by rfl) (pa_cons (pv 1) (pa_cons (pe_lst (pa_cons (pe_int) (pa_cons (pe_int) (pa_cons (pe_int) (pa_cons (pe_int) (pa_cons (pe_int) (pa_cons (pe_int) (pa_nil)))))))) (pa_nil)))) (pa_nil))))) (pa_cons (pv 7) (pa_nil)))))))) (pss_one (ps_ret (pe_bl))) (pss_nil)))) (pss_cons (ps_set (i := 10) sc.nd rfl (Or.inl rfl) (pe_ix ix_seq (pv 8) (pe_int) (fun _ _ => rfl))) (pss_cons (ps_expr (pe_bm PySem.F.plainAttrs_list PySem.F.slot_list_append PySem.F.type_list_append mt_append (pv 10) (pa_cons (pe_int) pa_nil))) (pss_cons (ps_expr (pe_bm PySem.F.plainAttrs_list PySem.F.slot_list_append PySem.F.type_list_append mt_append (pv 8) (pa_cons (pe_lst (pa_nil)) pa_nil))) (pss_one (ps_if (PW.pt (pw_or (pt_not (pt_val (pe_f g_law_parts_so (Room.mono hr (by decide)) (by rfl) (pa_cons (pe_f g_parts (Room.mono hr (by decide)) (by rfl) (pa_cons (pv 6) (pa_nil))) (pa_cons (pv 5) (pa_nil)))))) (pw_or1 (pt_not (pt_val (pe_f g_law_plan_so (Room.mono hr (by decide)) (by rfl) (pa_cons (pv 6) (pa_cons (pv 4) (pa_cons (pv 5) (pa_nil)))))))))) (pss_one (ps_ret (pe_bl))) (pss_nil)))))))))))))) (pss_one (ps_ret (pe_bl)))))),
    body_ok (SndSP.mono (bs := [1, 2, 3, 4, 5, 6, 7, 8, 9, 10]) (sndp_seq ((snds_setO (snd_call (ms := [false, false]) rfl (snda_cons (snd_var) (snda_cons (snd_int) (snda_nil))))).p) (sndp_seq ((snds_set (snd_op snd_eq (snd_call (ms := [true, false]) rfl (snda_cons (snd_var) (snda_cons (snd_int) (snda_nil)))) (snd_int))).p) (sndp_seq (sndp_for (as := [3, 4, 5, 6, 7, 8, 9, 10]) (sndi_rng1 (snd_int)) (sndg_name) (sndp_seq ((snds_set (snd_call (ms := [true, false]) rfl (snda_cons (snd_var) (snda_cons (snd_call (ms := [true, true]) rfl (snda_cons (snd_var) (snda_cons (snd_lst (snda_cons (snd_int) (snda_cons (snd_int) (snda_cons (snd_int) (snda_cons (snd_int) (snda_nil)))))) (snda_nil)))) (snda_nil))))).p) (sndp_seq ((snds_set (snd_call (ms := [true, false, false]) rfl (snda_cons (snd_var) (snda_cons (snd_cb snd_len (snda_cons (snd_var) (snda_nil))) (snda_cons (snd_andV (snd_var) (snd_op snd_eq (snd_var) (snd_int))) (snda_nil)))))).p) (sndp_seq ((snds_set (snd_call (ms := [false, false]) rfl (snda_cons (snd_var) (snda_cons (snd_var) (snda_nil))))).p) (sndp_seq ((snds_set (snd_call (ms := [false]) rfl (snda_cons (snd_var) (snda_nil)))).p) (sndsp_scr (m := 8) (ks := [6, 3]) (snd_if (sndt_test (snd_op snd_eq (snd_var) (snd_int))) (snd_callP (ms := [false]) (np := 0) (nk := 1) (is := [0]) rfl (by decide) (by decide) (snda_nil) (snda_cons (snd_var) (snda_nil))) (snd_call (ms := [false]) rfl (snda_cons (snd_var) (snda_nil)))) (sndzp_check (sndt_or (sndt_not (sndt_val (snd_call (ms := [false, false]) rfl (snda_cons (snd_var) (snda_cons (snd_var) (snda_nil)))))) (sndt_not (sndt_val (snd_call (ms := [false, false, false, false]) rfl (snda_cons (snd_var) (snda_cons (snd_var) (snda_cons (snd_var) (snda_cons (snd_var) (snda_nil))))))))) (sndzp_plain (sndp_for (as := [9]) (sndi_rng1 (snd_int)) (sndg_name) (sndp_if (sndt_not (sndt_val (snd_call (ms := [false, false, false, false]) rfl (snda_cons (snd_var) (snda_cons (snd_var) (snda_cons (snd_call (ms := [true, false, false]) rfl (snda_cons (snd_var) (snda_cons (snd_cb snd_len (snda_cons (snd_var) (snda_nil))) (snda_cons (snd_call (ms := [true, true]) rfl (snda_cons (snd_var) (snda_cons (snd_lst (snda_cons (snd_int) (snda_cons (snd_int) (snda_cons (snd_int) (snda_cons (snd_int) (snda_cons (snd_int) (snda_cons (snd_int) (snda_nil)))))))) (snda_nil)))) (snda_nil))))) (snda_cons (snd_var) (snda_nil)))))))) (snds_ret (ps := []) (snd_bl)) (snds_next.p)) (by decide)) (sndzp_spoil (m := 8) (h := 10) (snd_int) (snd_lst (snda_nil)) (sndp_if (sndt_or (sndt_not (sndt_val (snd_call (ms := [false, false]) rfl (snda_cons (snd_call (ms := [false]) rfl (snda_cons (snd_var) (snda_nil))) (snda_cons (snd_var) (snda_nil)))))) (sndt_not (sndt_val (snd_call (ms := [false, false, false]) rfl (snda_cons (snd_var) (snda_cons (snd_var) (snda_cons (snd_var) (snda_nil)))))))) (snds_ret (ps := []) (snd_bl)) (snds_next.p))) (by decide)))))))) (by decide)) (snds_ret (ps := []) (snd_bl))))) (by decide)) pf_law vs H Q E h⟩
theorem ok_law (F : ∃ fd, FunD K "law" "law" (defArgs (top 68)) (defBody (top 68)) (defScope (top 68)) [] [] (He.ga K "law") fd) (at_ : mg "law" = some (.ref (He.ga K "law"))) (B : Blt mg) (g_law_bag : FP P w K mg base "_law_bag" 1 2 sp_law_bag) (g_law_draw : FP P w K mg base "_law_draw" 1 2 sp_law_draw) (g_law_of : FP P w K mg base "_law_of" 2 2 sp_law_of) (g_law_labels : FP P w K mg base "_law_labels" 3 2 sp_law_labels) (g_law_many_parts : FP P w K mg base "_law_many_parts" 4 3 sp_law_many_parts) (g_law_plan : FP P w K mg base "_law_plan" 7 2 sp_law_plan) (g_law_parts : FP P w K mg base "_law_parts" 1 1 sp_law_parts) (g_parts : FP P w K mg base "parts" 3 1 sp_parts) (g_law_parts_so : FP P w K mg base "_law_parts_so" 5 2 sp_law_parts_so) (g_law_part_plans_so : FP P w K mg base "_law_part_plans_so" 8 4 sp_law_part_plans_so) (g_law_way : FP P w K mg base "_law_way" 2 3 sp_law_way) (g_law_sums_so : FP P w K mg base "_law_sums_so" 8 4 sp_law_sums_so) (g_law_plan_so : FP P w K mg base "_law_plan_so" 5 3 sp_law_plan_so) (q_parts_0_0 : FK P w K mg base "parts" 3 1 sp_parts 0 ["plan"] [0]) : FP P w K mg base "law" 9 1 sp_law := by
  obtain ⟨fd, F⟩ := F
  exact ⟨⟨fd, ["script"], okn_law F at_ B g_law_bag g_law_draw g_law_of g_law_labels g_law_many_parts g_law_plan g_law_parts g_parts g_law_parts_so g_law_part_plans_so g_law_way g_law_sums_so g_law_plan_so q_parts_0_0, F.bindsN fun _ _ _ _ _ _ us hl => match us, hl with | [_], _ => rfl⟩, F.kp, at_⟩
end
end L3
namespace L3
open PySem PySem.Spec PyProof.Rows L2
theorem facts {P : Program} {w : World} {K : PySem.W.Frag} {h : Heap} {mg : Str → Option Value} {f : Addr} (X : K.In h) (G : h.Ns mainGlobals mg) (hfa : mg ("law" : Str) = some (.ref f)) (c : He.SaysD fas fns K) (cx : exs K = true) :
    ∃ fd : FuncData, (∀ (s : Shared) (v : Value), BindsTo s fd ⟨[v], []⟩ [("script", v)]) ∧ ∀ base : Heap, K.In base → base.Ns mainGlobals mg → FnOk P w K mg base CX0 9 f fd ["script"] (up K 1 sp_law) := by
  obtain ⟨fd, F⟩ := c.def_ 45 (d := dd_law) rfl
  have at_law := He.glo_ok X G (c.fact 74 (f := .glo "law") rfl)
  have e := hfa.symm.trans at_law
  cases e
  refine ⟨fd, fun s v => FunD.bindsA (ps := ["script"]) F (fun _ _ _ _ _ _ us hl => match us, hl with | [_], _ => rfl) s [v] rfl, fun base _ _ => ?_⟩
  have B : Blt mg := ⟨He.free_ok X G (c.fact 0 (f := .free "len") rfl), He.free_ok X G (c.fact 1 (f := .free "range") rfl), He.free_ok X G (c.fact 2 (f := .free "isinstance") rfl), He.free_ok X G (c.fact 3 (f := .free "int") rfl), He.free_ok X G (c.fact 4 (f := .free "bool") rfl), He.free_ok X G (c.fact 5 (f := .free "str") rfl), He.free_ok X G (c.fact 6 (f := .free "list") rfl), He.free_ok X G (c.fact 7 (f := .free "tuple") rfl), He.free_ok X G (c.fact 8 (f := .free "dict") rfl), He.free_ok X G (c.fact 9 (f := .free "all") rfl), He.free_ok X G (c.fact 10 (f := .free "any") rfl), He.free_ok X G (c.fact 11 (f := .free "sum") rfl), He.free_ok X G (c.fact 12 (f := .free "enumerate") rfl), He.free_ok X G (c.fact 13 (f := .free "zip") rfl), He.free_ok X G (c.fact 14 (f := .free "max") rfl), He.free_ok X G (c.fact 15 (f := .free "min") rfl), He.free_ok X G (c.fact 16 (f := .free "abs") rfl), He.free_ok X G (c.fact 17 (f := .free "sorted") rfl), He.free_ok X G (c.fact 18 (f := .free "reversed") rfl), He.free_ok X G (c.fact 19 (f := .free "set") rfl), He.free_ok X G (c.fact 20 (f := .free "repr") rfl), He.free_ok X G (c.fact 21 (f := .free "divmod") rfl)⟩
  have cl_Plan : Cls K (He.ga K "Plan") := He.cls_ok (c.fact 22 (f := .cls "Plan") rfl)
  have at_Plan : mg "Plan" = some (.ref (He.ga K "Plan")) := He.glo_ok X G (c.fact 23 (f := .glo "Plan") rfl)
  have kf_Plan : ClsF K "Plan" flds_Plan := ⟨cl_Plan, fun f hf => by
    simp only [flds_Plan, List.mem_cons, List.not_mem_nil, or_false] at hf
    rcases hf with rfl | rfl | rfl
    · exact He.noat_ok (c.fact 24 (f := .noat "Plan" "sides") rfl)
    · exact He.noat_ok (c.fact 25 (f := .noat "Plan" "copies") rfl)
    · exact He.noat_ok (c.fact 26 (f := .noat "Plan" "_steps") rfl)⟩
  have ic_Plan : IsOwn K "Plan" := ins_ok cl_Plan (cx)
  have c_LONGEST_NAME := He.int_ok X G (c.fact 27 (f := .int "LONGEST_NAME" (3)) rfl)
  have c_LETTERS := He.str_ok X G (c.fact 28 (f := .str "LETTERS" "abcdefghijklmnopqrstuvwxyz") rfl)
  have F_law_bag := c.def_ 0 (d := dd_law_bag) rfl
  have at_law_bag : mg "_law_bag" = some (.ref (He.ga K "_law_bag")) := He.glo_ok X G (c.fact 29 (f := .glo "_law_bag") rfl)
  have h_law_bag := ok_law_bag (P := P) (w := w) (base := base) F_law_bag at_law_bag B 
  have F_law_draw := c.def_ 1 (d := dd_law_draw) rfl
  have at_law_draw : mg "_law_draw" = some (.ref (He.ga K "_law_draw")) := He.glo_ok X G (c.fact 30 (f := .glo "_law_draw") rfl)
  have h_law_draw := ok_law_draw (P := P) (w := w) (base := base) F_law_draw at_law_draw B 
  have F_law_of := c.def_ 2 (d := dd_law_of) rfl
  have at_law_of : mg "_law_of" = some (.ref (He.ga K "_law_of")) := He.glo_ok X G (c.fact 31 (f := .glo "_law_of") rfl)
  have h_law_of := ok_law_of (P := P) (w := w) (base := base) F_law_of at_law_of B h_law_draw
  have F_law_labels := c.def_ 3 (d := dd_law_labels) rfl
  have at_law_labels : mg "_law_labels" = some (.ref (He.ga K "_law_labels")) := He.glo_ok X G (c.fact 32 (f := .glo "_law_labels") rfl)
  have h_law_labels := ok_law_labels (P := P) (w := w) (base := base) F_law_labels at_law_labels B h_law_draw h_law_of
  have F_law_step_row := c.def_ 4 (d := dd_law_step_row) rfl
  have at_law_step_row : mg "_law_step_row" = some (.ref (He.ga K "_law_step_row")) := He.glo_ok X G (c.fact 33 (f := .glo "_law_step_row") rfl)
  have h_law_step_row := ok_law_step_row (P := P) (w := w) (base := base) F_law_step_row at_law_step_row B h_law_draw
  have F_law_net := c.def_ 5 (d := dd_law_net) rfl
  have at_law_net : mg "_law_net" = some (.ref (He.ga K "_law_net")) := He.glo_ok X G (c.fact 34 (f := .glo "_law_net") rfl)
  have h_law_net := ok_law_net (P := P) (w := w) (base := base) F_law_net at_law_net B h_law_of h_law_step_row
  have F_law_named_net := c.def_ 6 (d := dd_law_named_net) rfl
  have at_law_named_net : mg "_law_named_net" = some (.ref (He.ga K "_law_named_net")) := He.glo_ok X G (c.fact 35 (f := .glo "_law_named_net") rfl)
  have h_law_named_net := ok_law_named_net (P := P) (w := w) (base := base) F_law_named_net at_law_named_net B 
  have F_law_order := c.def_ 7 (d := dd_law_order) rfl
  have at_law_order : mg "_law_order" = some (.ref (He.ga K "_law_order")) := He.glo_ok X G (c.fact 36 (f := .glo "_law_order") rfl)
  have h_law_order := ok_law_order (P := P) (w := w) (base := base) F_law_order at_law_order B h_law_draw
  have F_law_scattered := c.def_ 8 (d := dd_law_scattered) rfl
  have at_law_scattered : mg "_law_scattered" = some (.ref (He.ga K "_law_scattered")) := He.glo_ok X G (c.fact 37 (f := .glo "_law_scattered") rfl)
  have h_law_scattered := ok_law_scattered (P := P) (w := w) (base := base) F_law_scattered at_law_scattered B h_law_order h_law_named_net
  have F_law_beside := c.def_ 9 (d := dd_law_beside) rfl
  have at_law_beside : mg "_law_beside" = some (.ref (He.ga K "_law_beside")) := He.glo_ok X G (c.fact 38 (f := .glo "_law_beside") rfl)
  have h_law_beside := ok_law_beside (P := P) (w := w) (base := base) F_law_beside at_law_beside B 
  have F_law_many_parts := c.def_ 10 (d := dd_law_many_parts) rfl
  have at_law_many_parts : mg "_law_many_parts" = some (.ref (He.ga K "_law_many_parts")) := He.glo_ok X G (c.fact 39 (f := .glo "_law_many_parts") rfl)
  have h_law_many_parts := ok_law_many_parts (P := P) (w := w) (base := base) F_law_many_parts at_law_many_parts B h_law_of h_law_net h_law_draw h_law_beside h_law_scattered
  have F_has_step_rows := c.def_ 11 (d := dd_has_step_rows) rfl
  have at_has_step_rows : mg "has_step_rows" = some (.ref (He.ga K "has_step_rows")) := He.glo_ok X G (c.fact 40 (f := .glo "has_step_rows") rfl)
  have h_has_step_rows := ok_has_step_rows (P := P) (w := w) (base := base) F_has_step_rows at_has_step_rows B 
  have F_is_number := c.def_ 12 (d := dd_is_number) rfl
  have at_is_number : mg "is_number" = some (.ref (He.ga K "is_number")) := He.glo_ok X G (c.fact 41 (f := .glo "is_number") rfl)
  have h_is_number := ok_is_number (P := P) (w := w) (base := base) F_is_number at_is_number B 
  have F_is_index := c.def_ 13 (d := dd_is_index) rfl
  have at_is_index : mg "is_index" = some (.ref (He.ga K "is_index")) := He.glo_ok X G (c.fact 42 (f := .glo "is_index") rfl)
  have h_is_index := ok_is_index (P := P) (w := w) (base := base) F_is_index at_is_index B h_is_number
  have F_is_sign := c.def_ 14 (d := dd_is_sign) rfl
  have at_is_sign : mg "is_sign" = some (.ref (He.ga K "is_sign")) := He.glo_ok X G (c.fact 43 (f := .glo "is_sign") rfl)
  have h_is_sign := ok_is_sign (P := P) (w := w) (base := base) F_is_sign at_is_sign B h_is_number
  have F_is_step := c.def_ 15 (d := dd_is_step) rfl
  have at_is_step : mg "is_step" = some (.ref (He.ga K "is_step")) := He.glo_ok X G (c.fact 44 (f := .glo "is_step") rfl)
  have h_is_step := ok_is_step (P := P) (w := w) (base := base) F_is_step at_is_step B h_is_index h_is_sign
  have F_wrong_step := c.def_ 16 (d := dd_wrong_step) rfl
  have at_wrong_step : mg "wrong_step" = some (.ref (He.ga K "wrong_step")) := He.glo_ok X G (c.fact 45 (f := .glo "wrong_step") rfl)
  have h_wrong_step := ok_wrong_step (P := P) (w := w) (base := base) F_wrong_step at_wrong_step B h_has_step_rows h_is_step
  have F_is_side_name := c.def_ 17 (d := dd_is_side_name) rfl
  have at_is_side_name : mg "is_side_name" = some (.ref (He.ga K "is_side_name")) := He.glo_ok X G (c.fact 46 (f := .glo "is_side_name") rfl)
  have h_is_side_name := ok_is_side_name (P := P) (w := w) (base := base) F_is_side_name at_is_side_name B c_LONGEST_NAME c_LETTERS
  have F_is_sides := c.def_ 18 (d := dd_is_sides) rfl
  have at_is_sides : mg "is_sides" = some (.ref (He.ga K "is_sides")) := He.glo_ok X G (c.fact 47 (f := .glo "is_sides") rfl)
  have h_is_sides := ok_is_sides (P := P) (w := w) (base := base) F_is_sides at_is_sides B h_is_side_name
  have F_Plan_init__ := c.def_ 19 (d := dd_Plan_init__) rfl
  have h_Plan_init__ := ok_Plan_init__ (P := P) (w := w) (base := base) F_Plan_init__ (He.mkr_ok (c.fact 48 (f := .mkr "Plan") rfl)) at_Plan B h_is_sides h_wrong_step kf_Plan
  have F_law_plan := c.def_ 20 (d := dd_law_plan) rfl
  have at_law_plan : mg "_law_plan" = some (.ref (He.ga K "_law_plan")) := He.glo_ok X G (c.fact 49 (f := .glo "_law_plan") rfl)
  have h_law_plan := ok_law_plan (P := P) (w := w) (base := base) F_law_plan at_law_plan B h_Plan_init__
  have F_law_parts := c.def_ 21 (d := dd_law_parts) rfl
  have at_law_parts : mg "_law_parts" = some (.ref (He.ga K "_law_parts")) := He.glo_ok X G (c.fact 50 (f := .glo "_law_parts") rfl)
  have h_law_parts := ok_law_parts (P := P) (w := w) (base := base) F_law_parts at_law_parts B 
  have F_Plan_step := c.def_ 22 (d := dd_Plan_step) rfl
  have h_Plan_step := ok_Plan_step (P := P) (w := w) (base := base) F_Plan_step (He.meth_ok (c.fact 51 (f := .meth "Plan" "step") rfl)) cl_Plan B kf_Plan
  have F_walk := c.def_ 23 (d := dd_walk) rfl
  have at_walk : mg "walk" = some (.ref (He.ga K "walk")) := He.glo_ok X G (c.fact 52 (f := .glo "walk") rfl)
  have h_walk := ok_walk (P := P) (w := w) (base := base) F_walk at_walk B h_Plan_step kf_Plan
  have F_parts := c.def_ 24 (d := dd_parts) rfl
  have at_parts : mg "parts" = some (.ref (He.ga K "parts")) := He.glo_ok X G (c.fact 53 (f := .glo "parts") rfl)
  have h_parts := ok_parts (P := P) (w := w) (base := base) F_parts at_parts B h_walk kf_Plan
  have hk_parts_0_0 := okk_parts_0_0 (P := P) (w := w) (base := base) F_parts at_parts B h_walk kf_Plan
  have F_law_like := c.def_ 25 (d := dd_law_like) rfl
  have at_law_like : mg "_law_like" = some (.ref (He.ga K "_law_like")) := He.glo_ok X G (c.fact 54 (f := .glo "_law_like") rfl)
  have h_law_like := ok_law_like (P := P) (w := w) (base := base) F_law_like at_law_like B  3
  have F_law_reached := c.def_ 26 (d := dd_law_reached) rfl
  have at_law_reached : mg "_law_reached" = some (.ref (He.ga K "_law_reached")) := He.glo_ok X G (c.fact 55 (f := .glo "_law_reached") rfl)
  have h_law_reached := ok_law_reached (P := P) (w := w) (base := base) F_law_reached at_law_reached B 
  have F_law_parts_so := c.def_ 27 (d := dd_law_parts_so) rfl
  have at_law_parts_so : mg "_law_parts_so" = some (.ref (He.ga K "_law_parts_so")) := He.glo_ok X G (c.fact 56 (f := .glo "_law_parts_so") rfl)
  have h_law_parts_so := ok_law_parts_so (P := P) (w := w) (base := base) F_law_parts_so at_law_parts_so B h_law_parts h_law_like h_law_reached
  have F_part_plan := c.def_ 28 (d := dd_part_plan) rfl
  have at_part_plan : mg "part_plan" = some (.ref (He.ga K "part_plan")) := He.glo_ok X G (c.fact 57 (f := .glo "part_plan") rfl)
  have h_part_plan := ok_part_plan (P := P) (w := w) (base := base) F_part_plan at_part_plan B h_parts h_Plan_step h_Plan_init__ kf_Plan
  have hk_part_plan_10_0 := okk_part_plan_10_0 (P := P) (w := w) (base := base) F_part_plan at_part_plan B h_parts h_Plan_step h_Plan_init__ kf_Plan
  have F_law_quads := c.def_ 29 (d := dd_law_quads) rfl
  have at_law_quads : mg "_law_quads" = some (.ref (He.ga K "_law_quads")) := He.glo_ok X G (c.fact 58 (f := .glo "_law_quads") rfl)
  have h_law_quads := ok_law_quads (P := P) (w := w) (base := base) F_law_quads at_law_quads B 
  have F_Plan_steps := c.def_ 30 (d := dd_Plan_steps) rfl
  have h_Plan_steps := ok_Plan_steps (P := P) (w := w) (base := base) F_Plan_steps (He.meth_ok (c.fact 59 (f := .meth "Plan" "steps") rfl)) cl_Plan B kf_Plan
  have F_law_plan_so := c.def_ 31 (d := dd_law_plan_so) rfl
  have at_law_plan_so : mg "_law_plan_so" = some (.ref (He.ga K "_law_plan_so")) := He.glo_ok X G (c.fact 60 (f := .glo "_law_plan_so") rfl)
  have h_law_plan_so := ok_law_plan_so (P := P) (w := w) (base := base) F_law_plan_so at_law_plan_so B h_law_like h_law_quads h_Plan_steps ic_Plan at_Plan kf_Plan
  have F_law_part_net := c.def_ 32 (d := dd_law_part_net) rfl
  have at_law_part_net : mg "_law_part_net" = some (.ref (He.ga K "_law_part_net")) := He.glo_ok X G (c.fact 61 (f := .glo "_law_part_net") rfl)
  have h_law_part_net := ok_law_part_net (P := P) (w := w) (base := base) F_law_part_net at_law_part_net B 
  have F_law_part_plans_so := c.def_ 33 (d := dd_law_part_plans_so) rfl
  have at_law_part_plans_so : mg "_law_part_plans_so" = some (.ref (He.ga K "_law_part_plans_so")) := He.glo_ok X G (c.fact 62 (f := .glo "_law_part_plans_so") rfl)
  have h_law_part_plans_so := ok_law_part_plans_so (P := P) (w := w) (base := base) F_law_part_plans_so at_law_part_plans_so B h_part_plan h_law_part_net h_law_plan_so hk_part_plan_10_0
  have F_law_led := c.def_ 34 (d := dd_law_led) rfl
  have at_law_led : mg "_law_led" = some (.ref (He.ga K "_law_led")) := He.glo_ok X G (c.fact 63 (f := .glo "_law_led") rfl)
  have h_law_led := ok_law_led (P := P) (w := w) (base := base) F_law_led at_law_led B 
  have F_law_return := c.def_ 35 (d := dd_law_return) rfl
  have at_law_return : mg "_law_return" = some (.ref (He.ga K "_law_return")) := He.glo_ok X G (c.fact 64 (f := .glo "_law_return") rfl)
  have h_law_return := ok_law_return (P := P) (w := w) (base := base) F_law_return at_law_return B h_law_led
  have F_fixed_signs := c.def_ 36 (d := dd_fixed_signs) rfl
  have at_fixed_signs : mg "fixed_signs" = some (.ref (He.ga K "fixed_signs")) := He.glo_ok X G (c.fact 65 (f := .glo "fixed_signs") rfl)
  have h_fixed_signs := ok_fixed_signs (P := P) (w := w) (base := base) F_fixed_signs at_fixed_signs B 
  have F_stays := c.def_ 37 (d := dd_stays) rfl
  have at_stays : mg "stays" = some (.ref (He.ga K "stays")) := He.glo_ok X G (c.fact 66 (f := .glo "stays") rfl)
  have h_stays := ok_stays (P := P) (w := w) (base := base) F_stays at_stays B 
  have F_is_word := c.def_ 38 (d := dd_is_word) rfl
  have at_is_word : mg "is_word" = some (.ref (He.ga K "is_word")) := He.glo_ok X G (c.fact 67 (f := .glo "is_word") rfl)
  have h_is_word := ok_is_word (P := P) (w := w) (base := base) F_is_word at_is_word B h_is_index
  have F_led_on := c.def_ 39 (d := dd_led_on) rfl
  have at_led_on : mg "led_on" = some (.ref (He.ga K "led_on")) := He.glo_ok X G (c.fact 68 (f := .glo "led_on") rfl)
  have h_led_on := ok_led_on (P := P) (w := w) (base := base) F_led_on at_led_on B h_Plan_step
  have F_led_copies := c.def_ 40 (d := dd_led_copies) rfl
  have at_led_copies : mg "led_copies" = some (.ref (He.ga K "led_copies")) := He.glo_ok X G (c.fact 69 (f := .glo "led_copies") rfl)
  have h_led_copies := ok_led_copies (P := P) (w := w) (base := base) F_led_copies at_led_copies B h_is_word h_stays h_led_on kf_Plan
  have F_return_of := c.def_ 41 (d := dd_return_of) rfl
  have at_return_of : mg "return_of" = some (.ref (He.ga K "return_of")) := He.glo_ok X G (c.fact 70 (f := .glo "return_of") rfl)
  have h_return_of := ok_return_of (P := P) (w := w) (base := base) F_return_of at_return_of B h_led_copies h_fixed_signs
  have F_law_whole := c.def_ 42 (d := dd_law_whole) rfl
  have at_law_whole : mg "_law_whole" = some (.ref (He.ga K "_law_whole")) := He.glo_ok X G (c.fact 71 (f := .glo "_law_whole") rfl)
  have h_law_whole := ok_law_whole (P := P) (w := w) (base := base) F_law_whole at_law_whole B 
  have F_law_sums_so := c.def_ 43 (d := dd_law_sums_so) rfl
  have at_law_sums_so : mg "_law_sums_so" = some (.ref (He.ga K "_law_sums_so")) := He.glo_ok X G (c.fact 72 (f := .glo "_law_sums_so") rfl)
  have h_law_sums_so := ok_law_sums_so (P := P) (w := w) (base := base) F_law_sums_so at_law_sums_so B h_law_return h_law_part_net h_part_plan h_return_of h_law_whole h_law_like
  have F_law_way := c.def_ 44 (d := dd_law_way) rfl
  have at_law_way : mg "_law_way" = some (.ref (He.ga K "_law_way")) := He.glo_ok X G (c.fact 73 (f := .glo "_law_way") rfl)
  have h_law_way := ok_law_way (P := P) (w := w) (base := base) F_law_way at_law_way B h_law_draw
  exact okn_law F at_law B h_law_bag h_law_draw h_law_of h_law_labels h_law_many_parts h_law_plan h_law_parts h_parts h_law_parts_so h_law_part_plans_so h_law_way h_law_sums_so h_law_plan_so hk_parts_0_0
theorem law_start {K : PySem.W.Frag} {H : Hp} {a : Addr} {ns : List Int} (hS : SqL K H a (ns.map V.int)) (hl : ns.length ≤ 63) : up K 1 sp_law [.ref a] H (fun v _ => v = .bl true) fun _ _ _ => False := by
  refine ⟨rfl, H, [.va (.frz (ns.map D.int))], fun r _ => r = .va (.bl true), ⟨rfl, .refl, fun i d e => ?_, fun i c e => ?_, fun i j l c c' e => ?_⟩, ⟨ns, rfl, hl, rfl⟩, fun r δ' v H' G' _ _ _ rr _ q => ?_⟩
  · cases i with
    | zero =>
      cases e
      exact ⟨_, rfl, .frz hS (atl_ints ns)⟩
    | succ i => simp at e
  · cases i with
    | zero => cases e
    | succ i => simp at e
  · cases i with
    | zero => cases e
    | succ i => simp at e
  · subst q
    exact rr_bl rr
end L3
open PySem PySem.W PySem.Calls PyProof.Rows
theorem PySem.Challenge.cw_sametones_k08_whole_parts_beside_own_rea_holds : PySem.Challenge.rw_sametones_k08_whole_parts_beside_own_rea.Holds := by
  w_on; o_law
  refine HandSHeadRun.head_any (r := L3.RO) (q := view L3.RO.prog [68]) (H := L3.hook) (ob := L3.look) (M := 40000) (loose := L3.looseN) (d := HandSHeadRun.topDef L3.RO.prog 68) (kwd := []) L3.look_eq
    (by kernel_rfl) (fun s => by kernel_rfl) L3.runs (by kernel_rfl) (by kernel_rfl) (by kernel_rfl) (by rfl) (by first | assumption | decide +kernel) (by decide +kernel) ⟨rfl, rfl, rfl, rfl, rfl, by decide +kernel⟩ ?hw ?hc
  case hw => w_witness2
  case hc =>
    refine L2.walk_ofE (l := PySem.Challenge.rw_sametones_k08_whole_parts_beside_own_rea) (n := 63) (k := 9) (x := "script") (CX := L2.CX0) rfl (by decide) (by kernel_rfl) ⟨rfl, by decide, by decide⟩ ?F (fun _ _ _ _ z => z)
    intro w mg fa h Y G hmg0
    obtain ⟨K, KX, c⟩ := Y
    have hmg : mg ("law" : PySem.Str) = some (.ref fa) := by
      have e : (HandSHeadRun.topDef L3.RO.prog 68).name = ("law" : PySem.Str) := by kernel_rfl
      rw [← e]
      exact hmg0
    have cd : He.SaysD L3.fas L3.fns K := congrArg (fun z : He.AlT => z.1) c.t
    obtain ⟨fd, hb, hF⟩ := L3.facts (P := (PySem.Challenge.rw_sametones_k08_whole_parts_beside_own_rea).prog) (w := w) KX G hmg cd c.more
    exact ⟨K, fd, L3.up K 1 L3.sp_law, KX, hb, fun H a ns hl _ hS => L3.law_start hS hl, hF⟩

