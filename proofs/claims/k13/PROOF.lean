import PyProof.Rows.All
import Wide.All
import OpenK.AllK
import Wide.FinOn
import HandS.Base
import HandS.Call
import HandS.Ends
import HandS.Words
import HandS.WordsExc
import HandS.Defaults
import HandS.Property
import HandS.ClsMeth
import HandS.HeadHook1
import HandS.HeadHook2
import HandS.HeadHook3
import HandS.HeadNt
import HandS.ForMost
import HandS.GenCall
import PySem.Challenge.RW_chaircarry_k13_repeated_calls
import KE.KStateDown
import HandS.Head0
import HandS.Head1
import HandS.Head2
import HandS.HeadEnd
import KE.KUnpackStar
import KE.GoesEnum
import HandS.List
import HandS.Iter
import HandS.Walk
import HandS.Flt
import HandS.More
import HandS.Star
import HandS.Exc
import HandS.TryOnly
import HandS.ExcOwn
import HandS.IsInst
import HandS.Wide
import HandS.Style
import HandS.Conv
import HandS.Flow
import HandS.Deep
import PyProof.WalkInts
import PyProof.P3Eq
import HandS.GenList
import HandS.Comp
set_option Elab.async false
set_option linter.all false
set_option autoImplicit false
set_option maxRecDepth 100000
set_option maxHeartbeats 4000000
namespace ChH
open PySem PySem.Spec PyProof.Rows L2 He
/-! ### the facts of a head: Fa's, further Bools, defs at any address -/
abbrev Fx : Type := PySem.W.Frag → Bool
def obsC (fa : List Fa) (xs : List Fx) (fn : List He5.DefA) (K : PySem.W.Frag) : AlD := ((fa.all fun f => f.ok K) && (xs.all fun x => x K) && fn.all fun d => d.ok K, fn.map fun d => He5.fnA K (d.at_ K))
def SaysC (fa : List Fa) (xs : List Fx) (fn : List He5.DefA) (K : PySem.W.Frag) : Prop := obsC fa xs fn K = He5.valA fn
def obsCG (n : Nat) (fa : List Fa) (xs : List Fx) (fn : List He5.DefA) (g : Addr → Option Obj) : AlD := obsC fa xs fn (frG g (He5.asA g n))
def hookC (n : Nat) (fa : List Fa) (xs : List Fx) (fn : List He5.DefA) : PySem.W.Hook where
  α := AlD
  obs := fun s => obsCG n fa xs fn s.heap.get?
  val := fun _ => He5.valA fn
  says := fun _ h => ∃ K : PySem.W.Frag, K.In h ∧ SaysC fa xs fn K
  of := fun _ _ e => ⟨_, frG_in, e⟩
  keeps := fun _ _ _ ⟨K, hK, c⟩ k => ⟨K, hK.keeps k, c⟩
theorem obsCG_eq {n : Nat} {fa : List Fa} {xs : List Fx} {fn : List He5.DefA} {g : Addr → Option Obj} {s : Shared} (h : ∀ a, g a = s.heap.get? a) : obsCG n fa xs fn g = (hookC n fa xs fn).obs s := by
  rw [show g = s.heap.get? from funext h]
  rfl
def fdOf (K : PySem.W.Frag) (a : Addr) : FuncData := match K.lookup a with
  | some ⟨_, _, .func fd, _⟩ => fd
  | _ => default
section
variable {fa : List Fa} {xs : List Fx} {fn : List He5.DefA} {K : PySem.W.Frag}
theorem says_1 (c : SaysC fa xs fn K) : ((fa.all fun f => f.ok K) && (xs.all fun x => x K) && fn.all fun d => d.ok K) = true := congrArg (fun z : AlD => z.1) c
theorem SaysC.fact (c : SaysC fa xs fn K) (i : Nat) {f : Fa} (h : fa[i]? = some f := by rfl) : f.ok K = true :=
  List.all_eq_true.mp (ba (ba (says_1 c)).1).1 f (List.mem_of_getElem? h)
theorem SaysC.ex (c : SaysC fa xs fn K) (i : Nat) {x : Fx} (h : xs[i]? = some x := by rfl) : x K = true :=
  List.all_eq_true.mp (ba (ba (says_1 c)).1).2 x (List.mem_of_getElem? h)
theorem SaysC.df (c : SaysC fa xs fn K) (i : Nat) {d : He5.DefA} (h : fn[i]? = some d := by rfl) : FunD K d.name d.qual d.params d.body d.scope (d.dvs K) (d.kws K) (d.at_ K) (fdOf K (d.at_ K)) := by
  have e : fn.map (fun d => He5.fnA K (d.at_ K)) = fn.map He5.DefA.val := congrArg (fun z : AlD => z.2) c
  have e2 : (fn.map fun d => He5.fnA K (d.at_ K))[i]? = (fn.map He5.DefA.val)[i]? := by rw [e]
  rw [List.getElem?_map, List.getElem?_map, h] at e2
  obtain ⟨fd, F⟩ := He5.DefA.funD (Option.some.inj e2) (List.all_eq_true.mp (ba (says_1 c)).2 d (List.mem_of_getElem? h))
  have ed : fdOf K (d.at_ K) = fd := by
    obtain ⟨oc, od, dV, kV, doc, pm, an, cdv, ct, osl, e, l, _⟩ := F.ex
    unfold fdOf
    rw [l]
  rw [ed]
  exact F
end
/-! ### a property, a class's constant, a class read -/
def prB (C m : Str) (K : PySem.W.Frag) : Bool := eqO (PySem.W.findIn K (.ref (ga K C)) m) (some (some (.ref (ma K (ga K C) m)))) && (eqO (PySem.W.specialIn K (.ref (ma K (ga K C) m)) "__get__") (some (some (.builtin "property.__get__"))) &&
  (decide (PySem.W.takesIn K (.ref (ma K (ga K C) m)) = some true) && (match PySem.W.recIn K (ma K (ga K C) m) "property" with
    | some (.ref _ :: _) => true
    | _ => false)))
abbrev gp (C m : Str) (K : PySem.W.Frag) : Addr := He5.wf K (ga K C) "property" m
theorem pr_ok {K : PySem.W.Frag} {C m : Str} (h : prB C m K = true) : PropOf K (ga K C) m (ma K (ga K C) m) (gp C m K) := by
  obtain ⟨h1, h⟩ := ba h
  obtain ⟨h2, h⟩ := ba h
  obtain ⟨h3, h4⟩ := ba h
  refine ⟨eqO_ok h1, eqO_ok h2, of_decide_eq_true h3, ?_⟩
  unfold gp He5.wf
  split at h4
  · rename_i f r e
    exact ⟨r, by rw [e]⟩
  · cases h4
def rdB (C : Str) (K : PySem.W.Frag) : Bool := PySem.W.readsIn K (ga K C) (.type "type") && eqO (PySem.W.specialIn K (.ref (ga K C)) "__getattribute__") (some (some (.builtin "type.__getattribute__")))
theorem rd_ok {K : PySem.W.Frag} {C : Str} (h : rdB C K = true) : ClX.CRead K (ga K C) (.type "type") := by
  obtain ⟨h1, h2⟩ := ba h
  exact ⟨h1, eqO_ok h2⟩
def cvB (C f : Str) (v : Dv) (K : PySem.W.Frag) : Bool := match PySem.W.findCls K (.ref (ga K C)) (.type "type") f with
  | some (.val u) => relB (v.v K) u
  | _ => false
theorem cv_ok {K : PySem.W.Frag} {C f : Str} {v : Dv} (h : cvB C f v K = true) : ∃ u, ClX.CVal K (ga K C) (.type "type") f (v.v K) u := by
  unfold cvB at h
  split at h
  · rename_i u e
    exact ⟨u, e, relB_ok h⟩
  · cases h
/-- a def's function object is that of its def (a class's method, by name) -/
def keB (C : Str) (K : PySem.W.Frag) : Bool := PySem.W.keepIn K (.ref (ga K C))
end ChH
/-! ### a classmethod -/
namespace ChH
open PySem PySem.Spec PyProof.Rows L2 He
abbrev gc (C m : Str) (K : PySem.W.Frag) : Addr := He5.wf K (ga K C) "classmethod" m
def cmB (C m : Str) (K : PySem.W.Frag) : Bool := (match PySem.W.findCls K (.ref (ga K C)) (.type "type") m with
  | some (.get (.builtin b) (.ref p) .none (.ref c)) => decide (b = "classmethod.__get__") && (decide (p = ma K (ga K C) m) && decide (c = ga K C))
  | _ => false) && ((match PySem.W.recIn K (ma K (ga K C) m) "classmethod" with
    | some (.ref _ :: _) => true
    | _ => false) && PySem.W.fnIn K (gc C m K))
theorem cm_ok {K : PySem.W.Frag} {C m : Str} (h : cmB C m K = true) : ClX.CMet K (ga K C) (.type "type") m (ma K (ga K C) m) (gc C m K) := by
  obtain ⟨h1, h⟩ := ba h
  obtain ⟨h2, h3⟩ := ba h
  refine ⟨?_, ?_, h3⟩
  · split at h1
    · rename_i b p c e
      obtain ⟨a1, h1⟩ := ba h1
      obtain ⟨a2, a3⟩ := ba h1
      rw [e, of_decide_eq_true a1, of_decide_eq_true a2, of_decide_eq_true a3]
    · cases h1
  · unfold gc He5.wf
    split at h2
    · rename_i f r e
      exact ⟨r, by rw [e]⟩
    · cases h2
end ChH

set_option Elab.async false
set_option linter.all false
set_option autoImplicit false
set_option maxRecDepth 100000
set_option pp.maxSteps 1500
set_option maxHeartbeats 4000000
namespace K13
open PySem PySem.Spec PyProof.Rows L2 He ChH
/-! ### the text by places -/
def top (i : Nat) : Stmt := PySem.Challenge.pw_chaircarry_k13_repeated_calls.main.body.getD i (.Pass ⟨0, 0, 0, 0⟩)
abbrev s_is_number : Stmt := top 10
abbrev s_is_step : Stmt := top 11
abbrev s_Plan_init : Stmt := inClass (top 12) 2
abbrev s_Plan_steps : Stmt := inClass (top 12) 4
abbrev s_Plan_is_turning : Stmt := inClass (top 12) 5
abbrev s_Plan_joined : Stmt := inClass (top 12) 6
abbrev s_sides_of : Stmt := top 13
abbrev s_validate_house : Stmt := top 14
abbrev s_validate_number : Stmt := top 15
abbrev s_Effect_init : Stmt := inClass (top 18) 0
abbrev s_Effect_at_least : Stmt := inClass (top 18) 1
abbrev s_Effect_at_most : Stmt := inClass (top 18) 2
abbrev s_Effect_mirrored : Stmt := inClass (top 18) 3
abbrev s_Effect_followed : Stmt := inClass (top 18) 4
abbrev s_Effect_carried : Stmt := inClass (top 18) 5
abbrev s_Effect_place : Stmt := inClass (top 18) 6
abbrev s_Effect_end : Stmt := inClass (top 18) 7
abbrev s_nothing : Stmt := top 19
abbrev s_effect_of : Stmt := top 20
abbrev s_power : Stmt := top 21
abbrev s_validate_start : Stmt := top 22
abbrev s_total_carried : Stmt := top 23
abbrev s_summary : Stmt := top 24
abbrev s_first_difference : Stmt := top 25
abbrev s_carryings : Stmt := top 26
abbrev s_moved : Stmt := top 27
abbrev s_longest_way : Stmt := top 29
abbrev s_places_of : Stmt := top 30
abbrev s_shortened : Stmt := top 31
abbrev s_is_possible : Stmt := top 32
abbrev s_way_of : Stmt := top 33
abbrev s_step_to : Stmt := top 34
abbrev s_simple_steps : Stmt := top 35
abbrev s_simple_plan : Stmt := top 36
abbrev s_needs_of : Stmt := top 40
abbrev s_carried_in_two_rounds : Stmt := top 41
abbrev s_halves : Stmt := top 42
abbrev s_long_run : Stmt := top 43
abbrev s_fewest_chairs : Stmt := top 44
abbrev s_sparing_chairs : Stmt := top 45
abbrev s_best_chairs : Stmt := top 46
abbrev s_find_evidence : Stmt := top 48
abbrev s__law_start : Stmt := top 50
abbrev s__law_drawn : Stmt := top 51
abbrev s__law_same : Stmt := top 52
abbrev s__law_random_steps : Stmt := top 53
abbrev s__law_plan : Stmt := top 54
abbrev s__law_query : Stmt := top 55
abbrev s_law : Stmt := top 56
/-! ### what the head tells -/
def faL : List Fa := [.glo "InvalidPlan", .glo "TooFewChairs", .glo "InvalidNumber", .str "RED" "red", .str "BLUE" "blue", .str "TURN" "turn", .glo "is_number", .glo "is_step", .glo "Plan", .glo "sides_of", .glo "validate_house", .glo "validate_number", .int "MAX_ROUNDS_effects" 1000000000000000000, .glo "Effect", .glo "nothing", .glo "effect_of", .glo "power", .glo "validate_start", .glo "total_carried", .glo "summary", .glo "first_difference", .glo "carryings", .glo "moved", .glo "longest_way", .glo "places_of", .glo "shortened", .glo "is_possible", .glo "way_of", .glo "step_to", .glo "simple_steps", .glo "simple_plan", .int "MAX_PRICE" 1000000000, .int "MAX_ROUNDS_chairs" 1000000000, .glo "needs_of", .glo "carried_in_two_rounds", .glo "halves", .glo "long_run", .glo "fewest_chairs", .glo "sparing_chairs", .glo "best_chairs", .glo "find_evidence", .glo "_law_start", .glo "_law_drawn", .glo "_law_same", .glo "_law_random_steps", .glo "_law_plan", .glo "_law_query", .glo "law", .free "abs", .free "bool", .free "enumerate", .free "int", .free "isinstance", .free "len", .free "list", .free "max", .free "min", .free "property", .free "range", .free "sorted", .free "tuple", .cls "Plan", .noat "Plan" "parts", .mkr "Plan", .meth "Plan" "joined", .cls "Effect", .noat "Effect" "chairs", .noat "Effect" "low", .noat "Effect" "high", .noat "Effect" "extra", .noat "Effect" "goal", .noat "Effect" "turned", .mkr "Effect", .meth "Effect" "at_least", .meth "Effect" "at_most", .meth "Effect" "mirrored", .meth "Effect" "followed", .meth "Effect" "carried", .meth "Effect" "place", .meth "Effect" "end"]
def xsL : List ChH.Fx := [prB "Plan" "steps", prB "Plan" "is_turning", rdB "Plan", cvB "Plan" "MAX_STEPS" (.int 60), cvB "Plan" "MAX_CHAIRS" (.int 1000000000000000000)]
def d_is_number : He5.DefA := ⟨fun K => ga K "is_number", "is_number", "is_number", defArgs s_is_number, defBody s_is_number, defScope s_is_number, [], []⟩
def d_is_step : He5.DefA := ⟨fun K => ga K "is_step", "is_step", "is_step", defArgs s_is_step, defBody s_is_step, defScope s_is_step, [], []⟩
def d_Plan_init : He5.DefA := ⟨fun K => ma K (ga K "Plan") "__init__", "__init__", "Plan.__init__", defArgs s_Plan_init, defBody s_Plan_init, defScope s_Plan_init, [], []⟩
def d_Plan_steps : He5.DefA := ⟨fun K => gp "Plan" "steps" K, "steps", "Plan.steps", defArgs s_Plan_steps, defBody s_Plan_steps, defScope s_Plan_steps, [], []⟩
def d_Plan_is_turning : He5.DefA := ⟨fun K => gp "Plan" "is_turning" K, "is_turning", "Plan.is_turning", defArgs s_Plan_is_turning, defBody s_Plan_is_turning, defScope s_Plan_is_turning, [], []⟩
def d_Plan_joined : He5.DefA := ⟨fun K => ma K (ga K "Plan") "joined", "joined", "Plan.joined", defArgs s_Plan_joined, defBody s_Plan_joined, defScope s_Plan_joined, [], []⟩
def d_sides_of : He5.DefA := ⟨fun K => ga K "sides_of", "sides_of", "sides_of", defArgs s_sides_of, defBody s_sides_of, defScope s_sides_of, [], []⟩
def d_validate_house : He5.DefA := ⟨fun K => ga K "validate_house", "validate_house", "validate_house", defArgs s_validate_house, defBody s_validate_house, defScope s_validate_house, [], []⟩
def d_validate_number : He5.DefA := ⟨fun K => ga K "validate_number", "validate_number", "validate_number", defArgs s_validate_number, defBody s_validate_number, defScope s_validate_number, [], []⟩
def d_Effect_init : He5.DefA := ⟨fun K => ma K (ga K "Effect") "__init__", "__init__", "Effect.__init__", defArgs s_Effect_init, defBody s_Effect_init, defScope s_Effect_init, [], []⟩
def d_Effect_at_least : He5.DefA := ⟨fun K => ma K (ga K "Effect") "at_least", "at_least", "Effect.at_least", defArgs s_Effect_at_least, defBody s_Effect_at_least, defScope s_Effect_at_least, [], []⟩
def d_Effect_at_most : He5.DefA := ⟨fun K => ma K (ga K "Effect") "at_most", "at_most", "Effect.at_most", defArgs s_Effect_at_most, defBody s_Effect_at_most, defScope s_Effect_at_most, [], []⟩
def d_Effect_mirrored : He5.DefA := ⟨fun K => ma K (ga K "Effect") "mirrored", "mirrored", "Effect.mirrored", defArgs s_Effect_mirrored, defBody s_Effect_mirrored, defScope s_Effect_mirrored, [], []⟩
def d_Effect_followed : He5.DefA := ⟨fun K => ma K (ga K "Effect") "followed", "followed", "Effect.followed", defArgs s_Effect_followed, defBody s_Effect_followed, defScope s_Effect_followed, [], []⟩
def d_Effect_carried : He5.DefA := ⟨fun K => ma K (ga K "Effect") "carried", "carried", "Effect.carried", defArgs s_Effect_carried, defBody s_Effect_carried, defScope s_Effect_carried, [], []⟩
def d_Effect_place : He5.DefA := ⟨fun K => ma K (ga K "Effect") "place", "place", "Effect.place", defArgs s_Effect_place, defBody s_Effect_place, defScope s_Effect_place, [], []⟩
def d_Effect_end : He5.DefA := ⟨fun K => ma K (ga K "Effect") "end", "end", "Effect.end", defArgs s_Effect_end, defBody s_Effect_end, defScope s_Effect_end, [], []⟩
def d_nothing : He5.DefA := ⟨fun K => ga K "nothing", "nothing", "nothing", defArgs s_nothing, defBody s_nothing, defScope s_nothing, [], []⟩
def d_effect_of : He5.DefA := ⟨fun K => ga K "effect_of", "effect_of", "effect_of", defArgs s_effect_of, defBody s_effect_of, defScope s_effect_of, [], []⟩
def d_power : He5.DefA := ⟨fun K => ga K "power", "power", "power", defArgs s_power, defBody s_power, defScope s_power, [], []⟩
def d_validate_start : He5.DefA := ⟨fun K => ga K "validate_start", "validate_start", "validate_start", defArgs s_validate_start, defBody s_validate_start, defScope s_validate_start, [], []⟩
def d_total_carried : He5.DefA := ⟨fun K => ga K "total_carried", "total_carried", "total_carried", defArgs s_total_carried, defBody s_total_carried, defScope s_total_carried, [], []⟩
def d_summary : He5.DefA := ⟨fun K => ga K "summary", "summary", "summary", defArgs s_summary, defBody s_summary, defScope s_summary, [], []⟩
def d_first_difference : He5.DefA := ⟨fun K => ga K "first_difference", "first_difference", "first_difference", defArgs s_first_difference, defBody s_first_difference, defScope s_first_difference, [], []⟩
def d_carryings : He5.DefA := ⟨fun K => ga K "carryings", "carryings", "carryings", defArgs s_carryings, defBody s_carryings, defScope s_carryings, [], []⟩
def d_moved : He5.DefA := ⟨fun K => ga K "moved", "moved", "moved", defArgs s_moved, defBody s_moved, defScope s_moved, [], []⟩
def d_longest_way : He5.DefA := ⟨fun K => ga K "longest_way", "longest_way", "longest_way", defArgs s_longest_way, defBody s_longest_way, defScope s_longest_way, [], []⟩
def d_places_of : He5.DefA := ⟨fun K => ga K "places_of", "places_of", "places_of", defArgs s_places_of, defBody s_places_of, defScope s_places_of, [], []⟩
def d_shortened : He5.DefA := ⟨fun K => ga K "shortened", "shortened", "shortened", defArgs s_shortened, defBody s_shortened, defScope s_shortened, [], []⟩
def d_is_possible : He5.DefA := ⟨fun K => ga K "is_possible", "is_possible", "is_possible", defArgs s_is_possible, defBody s_is_possible, defScope s_is_possible, [], []⟩
def d_way_of : He5.DefA := ⟨fun K => ga K "way_of", "way_of", "way_of", defArgs s_way_of, defBody s_way_of, defScope s_way_of, [], []⟩
def d_step_to : He5.DefA := ⟨fun K => ga K "step_to", "step_to", "step_to", defArgs s_step_to, defBody s_step_to, defScope s_step_to, [], []⟩
def d_simple_steps : He5.DefA := ⟨fun K => ga K "simple_steps", "simple_steps", "simple_steps", defArgs s_simple_steps, defBody s_simple_steps, defScope s_simple_steps, [], []⟩
def d_simple_plan : He5.DefA := ⟨fun K => ga K "simple_plan", "simple_plan", "simple_plan", defArgs s_simple_plan, defBody s_simple_plan, defScope s_simple_plan, [], []⟩
def d_needs_of : He5.DefA := ⟨fun K => ga K "needs_of", "needs_of", "needs_of", defArgs s_needs_of, defBody s_needs_of, defScope s_needs_of, [], []⟩
def d_carried_in_two_rounds : He5.DefA := ⟨fun K => ga K "carried_in_two_rounds", "carried_in_two_rounds", "carried_in_two_rounds", defArgs s_carried_in_two_rounds, defBody s_carried_in_two_rounds, defScope s_carried_in_two_rounds, [], []⟩
def d_halves : He5.DefA := ⟨fun K => ga K "halves", "halves", "halves", defArgs s_halves, defBody s_halves, defScope s_halves, [], []⟩
def d_long_run : He5.DefA := ⟨fun K => ga K "long_run", "long_run", "long_run", defArgs s_long_run, defBody s_long_run, defScope s_long_run, [], []⟩
def d_fewest_chairs : He5.DefA := ⟨fun K => ga K "fewest_chairs", "fewest_chairs", "fewest_chairs", defArgs s_fewest_chairs, defBody s_fewest_chairs, defScope s_fewest_chairs, [], []⟩
def d_sparing_chairs : He5.DefA := ⟨fun K => ga K "sparing_chairs", "sparing_chairs", "sparing_chairs", defArgs s_sparing_chairs, defBody s_sparing_chairs, defScope s_sparing_chairs, [], []⟩
def d_best_chairs : He5.DefA := ⟨fun K => ga K "best_chairs", "best_chairs", "best_chairs", defArgs s_best_chairs, defBody s_best_chairs, defScope s_best_chairs, [], []⟩
def d_find_evidence : He5.DefA := ⟨fun K => ga K "find_evidence", "find_evidence", "find_evidence", defArgs s_find_evidence, defBody s_find_evidence, defScope s_find_evidence, [], []⟩
def d__law_start : He5.DefA := ⟨fun K => ga K "_law_start", "_law_start", "_law_start", defArgs s__law_start, defBody s__law_start, defScope s__law_start, [], []⟩
def d__law_drawn : He5.DefA := ⟨fun K => ga K "_law_drawn", "_law_drawn", "_law_drawn", defArgs s__law_drawn, defBody s__law_drawn, defScope s__law_drawn, [], []⟩
def d__law_same : He5.DefA := ⟨fun K => ga K "_law_same", "_law_same", "_law_same", defArgs s__law_same, defBody s__law_same, defScope s__law_same, [], []⟩
def d__law_random_steps : He5.DefA := ⟨fun K => ga K "_law_random_steps", "_law_random_steps", "_law_random_steps", defArgs s__law_random_steps, defBody s__law_random_steps, defScope s__law_random_steps, [], []⟩
def d__law_plan : He5.DefA := ⟨fun K => ga K "_law_plan", "_law_plan", "_law_plan", defArgs s__law_plan, defBody s__law_plan, defScope s__law_plan, [], []⟩
def d__law_query : He5.DefA := ⟨fun K => ga K "_law_query", "_law_query", "_law_query", defArgs s__law_query, defBody s__law_query, defScope s__law_query, [], []⟩
def d_law : He5.DefA := ⟨fun K => ga K "law", "law", "law", defArgs s_law, defBody s_law, defScope s_law, [], []⟩
def dfL : List He5.DefA := [d_is_number, d_is_step, d_Plan_init, d_Plan_steps, d_Plan_is_turning, d_Plan_joined, d_sides_of, d_validate_house, d_validate_number, d_Effect_init, d_Effect_at_least, d_Effect_at_most, d_Effect_mirrored, d_Effect_followed, d_Effect_carried, d_Effect_place, d_Effect_end, d_nothing, d_effect_of, d_power, d_validate_start, d_total_carried, d_summary, d_first_difference, d_carryings, d_moved, d_longest_way, d_places_of, d_shortened, d_is_possible, d_way_of, d_step_to, d_simple_steps, d_simple_plan, d_needs_of, d_carried_in_two_rounds, d_halves, d_long_run, d_fewest_chairs, d_sparing_chairs, d_best_chairs, d_find_evidence, d__law_start, d__law_drawn, d__law_same, d__law_random_steps, d__law_plan, d__law_query, d_law]
structure Wd (K : PySem.W.Frag) (mg : Str → Option Value) : Prop where
  kin : ∃ h : Heap, K.In h ∧ h.Ns mainGlobals mg
  s : ChH.SaysC faL xsL dfL K
section
variable {K : PySem.W.Frag} {mg : Str → Option Value}
theorem Wd.glo (W : Wd K mg) {x : Str} (c : (Fa.glo x).ok K = true) : mg x = some (.ref (ga K x)) := let ⟨_, X, G⟩ := W.kin; He.glo_ok X G c
theorem Wd.free (W : Wd K mg) {x : Str} (c : (Fa.free x).ok K = true) : mg x = none := let ⟨_, X, G⟩ := W.kin; He.free_ok X G c
theorem Wd.str (W : Wd K mg) {x z : Str} (c : (Fa.str x z).ok K = true) : ∃ t, mg x = some (.str z t) := let ⟨_, X, G⟩ := W.kin; He.str_ok X G c
theorem Wd.int (W : Wd K mg) {x : Str} {z : Int} (c : (Fa.int x z).ok K = true) : ∃ t, mg x = some (.int z t) := let ⟨_, X, G⟩ := W.kin; He.int_ok X G c
theorem Wd.g_InvalidPlan (W : Wd K mg) : mg "InvalidPlan" = some (.ref (ga K "InvalidPlan")) := W.glo (W.s.fact 0)
theorem Wd.g_TooFewChairs (W : Wd K mg) : mg "TooFewChairs" = some (.ref (ga K "TooFewChairs")) := W.glo (W.s.fact 1)
theorem Wd.g_InvalidNumber (W : Wd K mg) : mg "InvalidNumber" = some (.ref (ga K "InvalidNumber")) := W.glo (W.s.fact 2)
theorem Wd.t_RED (W : Wd K mg) : ∃ t, mg "RED" = some (.str "red" t) := W.str (W.s.fact 3)
theorem Wd.t_BLUE (W : Wd K mg) : ∃ t, mg "BLUE" = some (.str "blue" t) := W.str (W.s.fact 4)
theorem Wd.t_TURN (W : Wd K mg) : ∃ t, mg "TURN" = some (.str "turn" t) := W.str (W.s.fact 5)
theorem Wd.g_is_number (W : Wd K mg) : mg "is_number" = some (.ref (ga K "is_number")) := W.glo (W.s.fact 6)
theorem Wd.g_is_step (W : Wd K mg) : mg "is_step" = some (.ref (ga K "is_step")) := W.glo (W.s.fact 7)
theorem Wd.g_Plan (W : Wd K mg) : mg "Plan" = some (.ref (ga K "Plan")) := W.glo (W.s.fact 8)
theorem Wd.g_sides_of (W : Wd K mg) : mg "sides_of" = some (.ref (ga K "sides_of")) := W.glo (W.s.fact 9)
theorem Wd.g_validate_house (W : Wd K mg) : mg "validate_house" = some (.ref (ga K "validate_house")) := W.glo (W.s.fact 10)
theorem Wd.g_validate_number (W : Wd K mg) : mg "validate_number" = some (.ref (ga K "validate_number")) := W.glo (W.s.fact 11)
theorem Wd.i_MAX_ROUNDS_effects (W : Wd K mg) : ∃ t, mg "MAX_ROUNDS_effects" = some (.int 1000000000000000000 t) := W.int (W.s.fact 12)
theorem Wd.g_Effect (W : Wd K mg) : mg "Effect" = some (.ref (ga K "Effect")) := W.glo (W.s.fact 13)
theorem Wd.g_nothing (W : Wd K mg) : mg "nothing" = some (.ref (ga K "nothing")) := W.glo (W.s.fact 14)
theorem Wd.g_effect_of (W : Wd K mg) : mg "effect_of" = some (.ref (ga K "effect_of")) := W.glo (W.s.fact 15)
theorem Wd.g_power (W : Wd K mg) : mg "power" = some (.ref (ga K "power")) := W.glo (W.s.fact 16)
theorem Wd.g_validate_start (W : Wd K mg) : mg "validate_start" = some (.ref (ga K "validate_start")) := W.glo (W.s.fact 17)
theorem Wd.g_total_carried (W : Wd K mg) : mg "total_carried" = some (.ref (ga K "total_carried")) := W.glo (W.s.fact 18)
theorem Wd.g_summary (W : Wd K mg) : mg "summary" = some (.ref (ga K "summary")) := W.glo (W.s.fact 19)
theorem Wd.g_first_difference (W : Wd K mg) : mg "first_difference" = some (.ref (ga K "first_difference")) := W.glo (W.s.fact 20)
theorem Wd.g_carryings (W : Wd K mg) : mg "carryings" = some (.ref (ga K "carryings")) := W.glo (W.s.fact 21)
theorem Wd.g_moved (W : Wd K mg) : mg "moved" = some (.ref (ga K "moved")) := W.glo (W.s.fact 22)
theorem Wd.g_longest_way (W : Wd K mg) : mg "longest_way" = some (.ref (ga K "longest_way")) := W.glo (W.s.fact 23)
theorem Wd.g_places_of (W : Wd K mg) : mg "places_of" = some (.ref (ga K "places_of")) := W.glo (W.s.fact 24)
theorem Wd.g_shortened (W : Wd K mg) : mg "shortened" = some (.ref (ga K "shortened")) := W.glo (W.s.fact 25)
theorem Wd.g_is_possible (W : Wd K mg) : mg "is_possible" = some (.ref (ga K "is_possible")) := W.glo (W.s.fact 26)
theorem Wd.g_way_of (W : Wd K mg) : mg "way_of" = some (.ref (ga K "way_of")) := W.glo (W.s.fact 27)
theorem Wd.g_step_to (W : Wd K mg) : mg "step_to" = some (.ref (ga K "step_to")) := W.glo (W.s.fact 28)
theorem Wd.g_simple_steps (W : Wd K mg) : mg "simple_steps" = some (.ref (ga K "simple_steps")) := W.glo (W.s.fact 29)
theorem Wd.g_simple_plan (W : Wd K mg) : mg "simple_plan" = some (.ref (ga K "simple_plan")) := W.glo (W.s.fact 30)
theorem Wd.i_MAX_PRICE (W : Wd K mg) : ∃ t, mg "MAX_PRICE" = some (.int 1000000000 t) := W.int (W.s.fact 31)
theorem Wd.i_MAX_ROUNDS_chairs (W : Wd K mg) : ∃ t, mg "MAX_ROUNDS_chairs" = some (.int 1000000000 t) := W.int (W.s.fact 32)
theorem Wd.g_needs_of (W : Wd K mg) : mg "needs_of" = some (.ref (ga K "needs_of")) := W.glo (W.s.fact 33)
theorem Wd.g_carried_in_two_rounds (W : Wd K mg) : mg "carried_in_two_rounds" = some (.ref (ga K "carried_in_two_rounds")) := W.glo (W.s.fact 34)
theorem Wd.g_halves (W : Wd K mg) : mg "halves" = some (.ref (ga K "halves")) := W.glo (W.s.fact 35)
theorem Wd.g_long_run (W : Wd K mg) : mg "long_run" = some (.ref (ga K "long_run")) := W.glo (W.s.fact 36)
theorem Wd.g_fewest_chairs (W : Wd K mg) : mg "fewest_chairs" = some (.ref (ga K "fewest_chairs")) := W.glo (W.s.fact 37)
theorem Wd.g_sparing_chairs (W : Wd K mg) : mg "sparing_chairs" = some (.ref (ga K "sparing_chairs")) := W.glo (W.s.fact 38)
theorem Wd.g_best_chairs (W : Wd K mg) : mg "best_chairs" = some (.ref (ga K "best_chairs")) := W.glo (W.s.fact 39)
theorem Wd.g_find_evidence (W : Wd K mg) : mg "find_evidence" = some (.ref (ga K "find_evidence")) := W.glo (W.s.fact 40)
theorem Wd.g__law_start (W : Wd K mg) : mg "_law_start" = some (.ref (ga K "_law_start")) := W.glo (W.s.fact 41)
theorem Wd.g__law_drawn (W : Wd K mg) : mg "_law_drawn" = some (.ref (ga K "_law_drawn")) := W.glo (W.s.fact 42)
theorem Wd.g__law_same (W : Wd K mg) : mg "_law_same" = some (.ref (ga K "_law_same")) := W.glo (W.s.fact 43)
theorem Wd.g__law_random_steps (W : Wd K mg) : mg "_law_random_steps" = some (.ref (ga K "_law_random_steps")) := W.glo (W.s.fact 44)
theorem Wd.g__law_plan (W : Wd K mg) : mg "_law_plan" = some (.ref (ga K "_law_plan")) := W.glo (W.s.fact 45)
theorem Wd.g__law_query (W : Wd K mg) : mg "_law_query" = some (.ref (ga K "_law_query")) := W.glo (W.s.fact 46)
theorem Wd.g_law (W : Wd K mg) : mg "law" = some (.ref (ga K "law")) := W.glo (W.s.fact 47)
theorem Wd.f_abs (W : Wd K mg) : mg "abs" = none := W.free (W.s.fact 48)
theorem Wd.f_bool (W : Wd K mg) : mg "bool" = none := W.free (W.s.fact 49)
theorem Wd.f_enumerate (W : Wd K mg) : mg "enumerate" = none := W.free (W.s.fact 50)
theorem Wd.f_int (W : Wd K mg) : mg "int" = none := W.free (W.s.fact 51)
theorem Wd.f_isinstance (W : Wd K mg) : mg "isinstance" = none := W.free (W.s.fact 52)
theorem Wd.f_len (W : Wd K mg) : mg "len" = none := W.free (W.s.fact 53)
theorem Wd.f_list (W : Wd K mg) : mg "list" = none := W.free (W.s.fact 54)
theorem Wd.f_max (W : Wd K mg) : mg "max" = none := W.free (W.s.fact 55)
theorem Wd.f_min (W : Wd K mg) : mg "min" = none := W.free (W.s.fact 56)
theorem Wd.f_property (W : Wd K mg) : mg "property" = none := W.free (W.s.fact 57)
theorem Wd.f_range (W : Wd K mg) : mg "range" = none := W.free (W.s.fact 58)
theorem Wd.f_sorted (W : Wd K mg) : mg "sorted" = none := W.free (W.s.fact 59)
theorem Wd.f_tuple (W : Wd K mg) : mg "tuple" = none := W.free (W.s.fact 60)
theorem Wd.c_Plan (W : Wd K mg) : Cls K (ga K "Plan") := He.cls_ok (W.s.fact 61)
theorem Wd.n_Plan_parts (W : Wd K mg) : NoAttr K (ga K "Plan") "parts" := He.noat_ok (W.s.fact 62)
theorem Wd.mk_Plan (W : Wd K mg) : Mk K (ga K "Plan") (ma K (ga K "Plan") "__init__") := He.mkr_ok (W.s.fact 63)
theorem Wd.m_Plan_joined (W : Wd K mg) : Meth K (ga K "Plan") "joined" (ma K (ga K "Plan") "joined") := He.meth_ok (W.s.fact 64)
theorem Wd.p_Plan_steps (W : Wd K mg) : PropOf K (ga K "Plan") "steps" (ma K (ga K "Plan") "steps") (gp "Plan" "steps" K) := pr_ok (W.s.ex 0)
theorem Wd.p_Plan_is_turning (W : Wd K mg) : PropOf K (ga K "Plan") "is_turning" (ma K (ga K "Plan") "is_turning") (gp "Plan" "is_turning" K) := pr_ok (W.s.ex 1)
theorem Wd.r_Plan (W : Wd K mg) : ClX.CRead K (ga K "Plan") (.type "type") := rd_ok (W.s.ex 2)
theorem Wd.v_Plan_MAX_STEPS (W : Wd K mg) : ∃ u, ClX.CVal K (ga K "Plan") (.type "type") "MAX_STEPS" (.int 60) u := cv_ok (W.s.ex 3)
theorem Wd.v_Plan_MAX_CHAIRS (W : Wd K mg) : ∃ u, ClX.CVal K (ga K "Plan") (.type "type") "MAX_CHAIRS" (.int 1000000000000000000) u := cv_ok (W.s.ex 4)
theorem Wd.c_Effect (W : Wd K mg) : Cls K (ga K "Effect") := He.cls_ok (W.s.fact 65)
theorem Wd.n_Effect_chairs (W : Wd K mg) : NoAttr K (ga K "Effect") "chairs" := He.noat_ok (W.s.fact 66)
theorem Wd.n_Effect_low (W : Wd K mg) : NoAttr K (ga K "Effect") "low" := He.noat_ok (W.s.fact 67)
theorem Wd.n_Effect_high (W : Wd K mg) : NoAttr K (ga K "Effect") "high" := He.noat_ok (W.s.fact 68)
theorem Wd.n_Effect_extra (W : Wd K mg) : NoAttr K (ga K "Effect") "extra" := He.noat_ok (W.s.fact 69)
theorem Wd.n_Effect_goal (W : Wd K mg) : NoAttr K (ga K "Effect") "goal" := He.noat_ok (W.s.fact 70)
theorem Wd.n_Effect_turned (W : Wd K mg) : NoAttr K (ga K "Effect") "turned" := He.noat_ok (W.s.fact 71)
theorem Wd.mk_Effect (W : Wd K mg) : Mk K (ga K "Effect") (ma K (ga K "Effect") "__init__") := He.mkr_ok (W.s.fact 72)
theorem Wd.m_Effect_at_least (W : Wd K mg) : Meth K (ga K "Effect") "at_least" (ma K (ga K "Effect") "at_least") := He.meth_ok (W.s.fact 73)
theorem Wd.m_Effect_at_most (W : Wd K mg) : Meth K (ga K "Effect") "at_most" (ma K (ga K "Effect") "at_most") := He.meth_ok (W.s.fact 74)
theorem Wd.m_Effect_mirrored (W : Wd K mg) : Meth K (ga K "Effect") "mirrored" (ma K (ga K "Effect") "mirrored") := He.meth_ok (W.s.fact 75)
theorem Wd.m_Effect_followed (W : Wd K mg) : Meth K (ga K "Effect") "followed" (ma K (ga K "Effect") "followed") := He.meth_ok (W.s.fact 76)
theorem Wd.m_Effect_carried (W : Wd K mg) : Meth K (ga K "Effect") "carried" (ma K (ga K "Effect") "carried") := He.meth_ok (W.s.fact 77)
theorem Wd.m_Effect_place (W : Wd K mg) : Meth K (ga K "Effect") "place" (ma K (ga K "Effect") "place") := He.meth_ok (W.s.fact 78)
theorem Wd.m_Effect_end (W : Wd K mg) : Meth K (ga K "Effect") "end" (ma K (ga K "Effect") "end") := He.meth_ok (W.s.fact 79)
theorem Wd.F_is_number (W : Wd K mg) : FunD K "is_number" "is_number" (defArgs s_is_number) (defBody s_is_number) (defScope s_is_number) [] [] (ga K "is_number") (ChH.fdOf K (ga K "is_number")) := W.s.df 0 (d := d_is_number)
theorem Wd.k_is_number (W : Wd K mg) : PySem.W.keepIn K (.ref (ga K "is_number")) = true := W.F_is_number.kp
theorem Wd.F_is_step (W : Wd K mg) : FunD K "is_step" "is_step" (defArgs s_is_step) (defBody s_is_step) (defScope s_is_step) [] [] (ga K "is_step") (ChH.fdOf K (ga K "is_step")) := W.s.df 1 (d := d_is_step)
theorem Wd.k_is_step (W : Wd K mg) : PySem.W.keepIn K (.ref (ga K "is_step")) = true := W.F_is_step.kp
theorem Wd.F_Plan_init (W : Wd K mg) : FunD K "__init__" "Plan.__init__" (defArgs s_Plan_init) (defBody s_Plan_init) (defScope s_Plan_init) [] [] (ma K (ga K "Plan") "__init__") (ChH.fdOf K (ma K (ga K "Plan") "__init__")) := W.s.df 2 (d := d_Plan_init)
theorem Wd.F_Plan_steps (W : Wd K mg) : FunD K "steps" "Plan.steps" (defArgs s_Plan_steps) (defBody s_Plan_steps) (defScope s_Plan_steps) [] [] (gp "Plan" "steps" K) (ChH.fdOf K (gp "Plan" "steps" K)) := W.s.df 3 (d := d_Plan_steps)
theorem Wd.F_Plan_is_turning (W : Wd K mg) : FunD K "is_turning" "Plan.is_turning" (defArgs s_Plan_is_turning) (defBody s_Plan_is_turning) (defScope s_Plan_is_turning) [] [] (gp "Plan" "is_turning" K) (ChH.fdOf K (gp "Plan" "is_turning" K)) := W.s.df 4 (d := d_Plan_is_turning)
theorem Wd.F_Plan_joined (W : Wd K mg) : FunD K "joined" "Plan.joined" (defArgs s_Plan_joined) (defBody s_Plan_joined) (defScope s_Plan_joined) [] [] (ma K (ga K "Plan") "joined") (ChH.fdOf K (ma K (ga K "Plan") "joined")) := W.s.df 5 (d := d_Plan_joined)
theorem Wd.F_sides_of (W : Wd K mg) : FunD K "sides_of" "sides_of" (defArgs s_sides_of) (defBody s_sides_of) (defScope s_sides_of) [] [] (ga K "sides_of") (ChH.fdOf K (ga K "sides_of")) := W.s.df 6 (d := d_sides_of)
theorem Wd.k_sides_of (W : Wd K mg) : PySem.W.keepIn K (.ref (ga K "sides_of")) = true := W.F_sides_of.kp
theorem Wd.F_validate_house (W : Wd K mg) : FunD K "validate_house" "validate_house" (defArgs s_validate_house) (defBody s_validate_house) (defScope s_validate_house) [] [] (ga K "validate_house") (ChH.fdOf K (ga K "validate_house")) := W.s.df 7 (d := d_validate_house)
theorem Wd.k_validate_house (W : Wd K mg) : PySem.W.keepIn K (.ref (ga K "validate_house")) = true := W.F_validate_house.kp
theorem Wd.F_validate_number (W : Wd K mg) : FunD K "validate_number" "validate_number" (defArgs s_validate_number) (defBody s_validate_number) (defScope s_validate_number) [] [] (ga K "validate_number") (ChH.fdOf K (ga K "validate_number")) := W.s.df 8 (d := d_validate_number)
theorem Wd.k_validate_number (W : Wd K mg) : PySem.W.keepIn K (.ref (ga K "validate_number")) = true := W.F_validate_number.kp
theorem Wd.F_Effect_init (W : Wd K mg) : FunD K "__init__" "Effect.__init__" (defArgs s_Effect_init) (defBody s_Effect_init) (defScope s_Effect_init) [] [] (ma K (ga K "Effect") "__init__") (ChH.fdOf K (ma K (ga K "Effect") "__init__")) := W.s.df 9 (d := d_Effect_init)
theorem Wd.F_Effect_at_least (W : Wd K mg) : FunD K "at_least" "Effect.at_least" (defArgs s_Effect_at_least) (defBody s_Effect_at_least) (defScope s_Effect_at_least) [] [] (ma K (ga K "Effect") "at_least") (ChH.fdOf K (ma K (ga K "Effect") "at_least")) := W.s.df 10 (d := d_Effect_at_least)
theorem Wd.F_Effect_at_most (W : Wd K mg) : FunD K "at_most" "Effect.at_most" (defArgs s_Effect_at_most) (defBody s_Effect_at_most) (defScope s_Effect_at_most) [] [] (ma K (ga K "Effect") "at_most") (ChH.fdOf K (ma K (ga K "Effect") "at_most")) := W.s.df 11 (d := d_Effect_at_most)
theorem Wd.F_Effect_mirrored (W : Wd K mg) : FunD K "mirrored" "Effect.mirrored" (defArgs s_Effect_mirrored) (defBody s_Effect_mirrored) (defScope s_Effect_mirrored) [] [] (ma K (ga K "Effect") "mirrored") (ChH.fdOf K (ma K (ga K "Effect") "mirrored")) := W.s.df 12 (d := d_Effect_mirrored)
theorem Wd.F_Effect_followed (W : Wd K mg) : FunD K "followed" "Effect.followed" (defArgs s_Effect_followed) (defBody s_Effect_followed) (defScope s_Effect_followed) [] [] (ma K (ga K "Effect") "followed") (ChH.fdOf K (ma K (ga K "Effect") "followed")) := W.s.df 13 (d := d_Effect_followed)
theorem Wd.F_Effect_carried (W : Wd K mg) : FunD K "carried" "Effect.carried" (defArgs s_Effect_carried) (defBody s_Effect_carried) (defScope s_Effect_carried) [] [] (ma K (ga K "Effect") "carried") (ChH.fdOf K (ma K (ga K "Effect") "carried")) := W.s.df 14 (d := d_Effect_carried)
theorem Wd.F_Effect_place (W : Wd K mg) : FunD K "place" "Effect.place" (defArgs s_Effect_place) (defBody s_Effect_place) (defScope s_Effect_place) [] [] (ma K (ga K "Effect") "place") (ChH.fdOf K (ma K (ga K "Effect") "place")) := W.s.df 15 (d := d_Effect_place)
theorem Wd.F_Effect_end (W : Wd K mg) : FunD K "end" "Effect.end" (defArgs s_Effect_end) (defBody s_Effect_end) (defScope s_Effect_end) [] [] (ma K (ga K "Effect") "end") (ChH.fdOf K (ma K (ga K "Effect") "end")) := W.s.df 16 (d := d_Effect_end)
theorem Wd.F_nothing (W : Wd K mg) : FunD K "nothing" "nothing" (defArgs s_nothing) (defBody s_nothing) (defScope s_nothing) [] [] (ga K "nothing") (ChH.fdOf K (ga K "nothing")) := W.s.df 17 (d := d_nothing)
theorem Wd.k_nothing (W : Wd K mg) : PySem.W.keepIn K (.ref (ga K "nothing")) = true := W.F_nothing.kp
theorem Wd.F_effect_of (W : Wd K mg) : FunD K "effect_of" "effect_of" (defArgs s_effect_of) (defBody s_effect_of) (defScope s_effect_of) [] [] (ga K "effect_of") (ChH.fdOf K (ga K "effect_of")) := W.s.df 18 (d := d_effect_of)
theorem Wd.k_effect_of (W : Wd K mg) : PySem.W.keepIn K (.ref (ga K "effect_of")) = true := W.F_effect_of.kp
theorem Wd.F_power (W : Wd K mg) : FunD K "power" "power" (defArgs s_power) (defBody s_power) (defScope s_power) [] [] (ga K "power") (ChH.fdOf K (ga K "power")) := W.s.df 19 (d := d_power)
theorem Wd.k_power (W : Wd K mg) : PySem.W.keepIn K (.ref (ga K "power")) = true := W.F_power.kp
theorem Wd.F_validate_start (W : Wd K mg) : FunD K "validate_start" "validate_start" (defArgs s_validate_start) (defBody s_validate_start) (defScope s_validate_start) [] [] (ga K "validate_start") (ChH.fdOf K (ga K "validate_start")) := W.s.df 20 (d := d_validate_start)
theorem Wd.k_validate_start (W : Wd K mg) : PySem.W.keepIn K (.ref (ga K "validate_start")) = true := W.F_validate_start.kp
theorem Wd.F_total_carried (W : Wd K mg) : FunD K "total_carried" "total_carried" (defArgs s_total_carried) (defBody s_total_carried) (defScope s_total_carried) [] [] (ga K "total_carried") (ChH.fdOf K (ga K "total_carried")) := W.s.df 21 (d := d_total_carried)
theorem Wd.k_total_carried (W : Wd K mg) : PySem.W.keepIn K (.ref (ga K "total_carried")) = true := W.F_total_carried.kp
theorem Wd.F_summary (W : Wd K mg) : FunD K "summary" "summary" (defArgs s_summary) (defBody s_summary) (defScope s_summary) [] [] (ga K "summary") (ChH.fdOf K (ga K "summary")) := W.s.df 22 (d := d_summary)
theorem Wd.k_summary (W : Wd K mg) : PySem.W.keepIn K (.ref (ga K "summary")) = true := W.F_summary.kp
theorem Wd.F_first_difference (W : Wd K mg) : FunD K "first_difference" "first_difference" (defArgs s_first_difference) (defBody s_first_difference) (defScope s_first_difference) [] [] (ga K "first_difference") (ChH.fdOf K (ga K "first_difference")) := W.s.df 23 (d := d_first_difference)
theorem Wd.k_first_difference (W : Wd K mg) : PySem.W.keepIn K (.ref (ga K "first_difference")) = true := W.F_first_difference.kp
theorem Wd.F_carryings (W : Wd K mg) : FunD K "carryings" "carryings" (defArgs s_carryings) (defBody s_carryings) (defScope s_carryings) [] [] (ga K "carryings") (ChH.fdOf K (ga K "carryings")) := W.s.df 24 (d := d_carryings)
theorem Wd.k_carryings (W : Wd K mg) : PySem.W.keepIn K (.ref (ga K "carryings")) = true := W.F_carryings.kp
theorem Wd.F_moved (W : Wd K mg) : FunD K "moved" "moved" (defArgs s_moved) (defBody s_moved) (defScope s_moved) [] [] (ga K "moved") (ChH.fdOf K (ga K "moved")) := W.s.df 25 (d := d_moved)
theorem Wd.k_moved (W : Wd K mg) : PySem.W.keepIn K (.ref (ga K "moved")) = true := W.F_moved.kp
theorem Wd.F_longest_way (W : Wd K mg) : FunD K "longest_way" "longest_way" (defArgs s_longest_way) (defBody s_longest_way) (defScope s_longest_way) [] [] (ga K "longest_way") (ChH.fdOf K (ga K "longest_way")) := W.s.df 26 (d := d_longest_way)
theorem Wd.k_longest_way (W : Wd K mg) : PySem.W.keepIn K (.ref (ga K "longest_way")) = true := W.F_longest_way.kp
theorem Wd.F_places_of (W : Wd K mg) : FunD K "places_of" "places_of" (defArgs s_places_of) (defBody s_places_of) (defScope s_places_of) [] [] (ga K "places_of") (ChH.fdOf K (ga K "places_of")) := W.s.df 27 (d := d_places_of)
theorem Wd.k_places_of (W : Wd K mg) : PySem.W.keepIn K (.ref (ga K "places_of")) = true := W.F_places_of.kp
theorem Wd.F_shortened (W : Wd K mg) : FunD K "shortened" "shortened" (defArgs s_shortened) (defBody s_shortened) (defScope s_shortened) [] [] (ga K "shortened") (ChH.fdOf K (ga K "shortened")) := W.s.df 28 (d := d_shortened)
theorem Wd.k_shortened (W : Wd K mg) : PySem.W.keepIn K (.ref (ga K "shortened")) = true := W.F_shortened.kp
theorem Wd.F_is_possible (W : Wd K mg) : FunD K "is_possible" "is_possible" (defArgs s_is_possible) (defBody s_is_possible) (defScope s_is_possible) [] [] (ga K "is_possible") (ChH.fdOf K (ga K "is_possible")) := W.s.df 29 (d := d_is_possible)
theorem Wd.k_is_possible (W : Wd K mg) : PySem.W.keepIn K (.ref (ga K "is_possible")) = true := W.F_is_possible.kp
theorem Wd.F_way_of (W : Wd K mg) : FunD K "way_of" "way_of" (defArgs s_way_of) (defBody s_way_of) (defScope s_way_of) [] [] (ga K "way_of") (ChH.fdOf K (ga K "way_of")) := W.s.df 30 (d := d_way_of)
theorem Wd.k_way_of (W : Wd K mg) : PySem.W.keepIn K (.ref (ga K "way_of")) = true := W.F_way_of.kp
theorem Wd.F_step_to (W : Wd K mg) : FunD K "step_to" "step_to" (defArgs s_step_to) (defBody s_step_to) (defScope s_step_to) [] [] (ga K "step_to") (ChH.fdOf K (ga K "step_to")) := W.s.df 31 (d := d_step_to)
theorem Wd.k_step_to (W : Wd K mg) : PySem.W.keepIn K (.ref (ga K "step_to")) = true := W.F_step_to.kp
theorem Wd.F_simple_steps (W : Wd K mg) : FunD K "simple_steps" "simple_steps" (defArgs s_simple_steps) (defBody s_simple_steps) (defScope s_simple_steps) [] [] (ga K "simple_steps") (ChH.fdOf K (ga K "simple_steps")) := W.s.df 32 (d := d_simple_steps)
theorem Wd.k_simple_steps (W : Wd K mg) : PySem.W.keepIn K (.ref (ga K "simple_steps")) = true := W.F_simple_steps.kp
theorem Wd.F_simple_plan (W : Wd K mg) : FunD K "simple_plan" "simple_plan" (defArgs s_simple_plan) (defBody s_simple_plan) (defScope s_simple_plan) [] [] (ga K "simple_plan") (ChH.fdOf K (ga K "simple_plan")) := W.s.df 33 (d := d_simple_plan)
theorem Wd.k_simple_plan (W : Wd K mg) : PySem.W.keepIn K (.ref (ga K "simple_plan")) = true := W.F_simple_plan.kp
theorem Wd.F_needs_of (W : Wd K mg) : FunD K "needs_of" "needs_of" (defArgs s_needs_of) (defBody s_needs_of) (defScope s_needs_of) [] [] (ga K "needs_of") (ChH.fdOf K (ga K "needs_of")) := W.s.df 34 (d := d_needs_of)
theorem Wd.k_needs_of (W : Wd K mg) : PySem.W.keepIn K (.ref (ga K "needs_of")) = true := W.F_needs_of.kp
theorem Wd.F_carried_in_two_rounds (W : Wd K mg) : FunD K "carried_in_two_rounds" "carried_in_two_rounds" (defArgs s_carried_in_two_rounds) (defBody s_carried_in_two_rounds) (defScope s_carried_in_two_rounds) [] [] (ga K "carried_in_two_rounds") (ChH.fdOf K (ga K "carried_in_two_rounds")) := W.s.df 35 (d := d_carried_in_two_rounds)
theorem Wd.k_carried_in_two_rounds (W : Wd K mg) : PySem.W.keepIn K (.ref (ga K "carried_in_two_rounds")) = true := W.F_carried_in_two_rounds.kp
theorem Wd.F_halves (W : Wd K mg) : FunD K "halves" "halves" (defArgs s_halves) (defBody s_halves) (defScope s_halves) [] [] (ga K "halves") (ChH.fdOf K (ga K "halves")) := W.s.df 36 (d := d_halves)
theorem Wd.k_halves (W : Wd K mg) : PySem.W.keepIn K (.ref (ga K "halves")) = true := W.F_halves.kp
theorem Wd.F_long_run (W : Wd K mg) : FunD K "long_run" "long_run" (defArgs s_long_run) (defBody s_long_run) (defScope s_long_run) [] [] (ga K "long_run") (ChH.fdOf K (ga K "long_run")) := W.s.df 37 (d := d_long_run)
theorem Wd.k_long_run (W : Wd K mg) : PySem.W.keepIn K (.ref (ga K "long_run")) = true := W.F_long_run.kp
theorem Wd.F_fewest_chairs (W : Wd K mg) : FunD K "fewest_chairs" "fewest_chairs" (defArgs s_fewest_chairs) (defBody s_fewest_chairs) (defScope s_fewest_chairs) [] [] (ga K "fewest_chairs") (ChH.fdOf K (ga K "fewest_chairs")) := W.s.df 38 (d := d_fewest_chairs)
theorem Wd.k_fewest_chairs (W : Wd K mg) : PySem.W.keepIn K (.ref (ga K "fewest_chairs")) = true := W.F_fewest_chairs.kp
theorem Wd.F_sparing_chairs (W : Wd K mg) : FunD K "sparing_chairs" "sparing_chairs" (defArgs s_sparing_chairs) (defBody s_sparing_chairs) (defScope s_sparing_chairs) [] [] (ga K "sparing_chairs") (ChH.fdOf K (ga K "sparing_chairs")) := W.s.df 39 (d := d_sparing_chairs)
theorem Wd.k_sparing_chairs (W : Wd K mg) : PySem.W.keepIn K (.ref (ga K "sparing_chairs")) = true := W.F_sparing_chairs.kp
theorem Wd.F_best_chairs (W : Wd K mg) : FunD K "best_chairs" "best_chairs" (defArgs s_best_chairs) (defBody s_best_chairs) (defScope s_best_chairs) [] [] (ga K "best_chairs") (ChH.fdOf K (ga K "best_chairs")) := W.s.df 40 (d := d_best_chairs)
theorem Wd.k_best_chairs (W : Wd K mg) : PySem.W.keepIn K (.ref (ga K "best_chairs")) = true := W.F_best_chairs.kp
theorem Wd.F_find_evidence (W : Wd K mg) : FunD K "find_evidence" "find_evidence" (defArgs s_find_evidence) (defBody s_find_evidence) (defScope s_find_evidence) [] [] (ga K "find_evidence") (ChH.fdOf K (ga K "find_evidence")) := W.s.df 41 (d := d_find_evidence)
theorem Wd.k_find_evidence (W : Wd K mg) : PySem.W.keepIn K (.ref (ga K "find_evidence")) = true := W.F_find_evidence.kp
theorem Wd.F__law_start (W : Wd K mg) : FunD K "_law_start" "_law_start" (defArgs s__law_start) (defBody s__law_start) (defScope s__law_start) [] [] (ga K "_law_start") (ChH.fdOf K (ga K "_law_start")) := W.s.df 42 (d := d__law_start)
theorem Wd.k__law_start (W : Wd K mg) : PySem.W.keepIn K (.ref (ga K "_law_start")) = true := W.F__law_start.kp
theorem Wd.F__law_drawn (W : Wd K mg) : FunD K "_law_drawn" "_law_drawn" (defArgs s__law_drawn) (defBody s__law_drawn) (defScope s__law_drawn) [] [] (ga K "_law_drawn") (ChH.fdOf K (ga K "_law_drawn")) := W.s.df 43 (d := d__law_drawn)
theorem Wd.k__law_drawn (W : Wd K mg) : PySem.W.keepIn K (.ref (ga K "_law_drawn")) = true := W.F__law_drawn.kp
theorem Wd.F__law_same (W : Wd K mg) : FunD K "_law_same" "_law_same" (defArgs s__law_same) (defBody s__law_same) (defScope s__law_same) [] [] (ga K "_law_same") (ChH.fdOf K (ga K "_law_same")) := W.s.df 44 (d := d__law_same)
theorem Wd.k__law_same (W : Wd K mg) : PySem.W.keepIn K (.ref (ga K "_law_same")) = true := W.F__law_same.kp
theorem Wd.F__law_random_steps (W : Wd K mg) : FunD K "_law_random_steps" "_law_random_steps" (defArgs s__law_random_steps) (defBody s__law_random_steps) (defScope s__law_random_steps) [] [] (ga K "_law_random_steps") (ChH.fdOf K (ga K "_law_random_steps")) := W.s.df 45 (d := d__law_random_steps)
theorem Wd.k__law_random_steps (W : Wd K mg) : PySem.W.keepIn K (.ref (ga K "_law_random_steps")) = true := W.F__law_random_steps.kp
theorem Wd.F__law_plan (W : Wd K mg) : FunD K "_law_plan" "_law_plan" (defArgs s__law_plan) (defBody s__law_plan) (defScope s__law_plan) [] [] (ga K "_law_plan") (ChH.fdOf K (ga K "_law_plan")) := W.s.df 46 (d := d__law_plan)
theorem Wd.k__law_plan (W : Wd K mg) : PySem.W.keepIn K (.ref (ga K "_law_plan")) = true := W.F__law_plan.kp
theorem Wd.F__law_query (W : Wd K mg) : FunD K "_law_query" "_law_query" (defArgs s__law_query) (defBody s__law_query) (defScope s__law_query) [] [] (ga K "_law_query") (ChH.fdOf K (ga K "_law_query")) := W.s.df 47 (d := d__law_query)
theorem Wd.k__law_query (W : Wd K mg) : PySem.W.keepIn K (.ref (ga K "_law_query")) = true := W.F__law_query.kp
theorem Wd.F_law (W : Wd K mg) : FunD K "law" "law" (defArgs s_law) (defBody s_law) (defScope s_law) [] [] (ga K "law") (ChH.fdOf K (ga K "law")) := W.s.df 48 (d := d_law)
theorem Wd.k_law (W : Wd K mg) : PySem.W.keepIn K (.ref (ga K "law")) = true := W.F_law.kp
end
/-! ### names -/
abbrev N_is_number : List Str := ["value"]
theorem sc_is_number : FnScope N_is_number ["value"] (defScope s_is_number) := ⟨rfl, rfl, rfl, by decide +kernel, rfl, by decide +kernel, by decide +kernel⟩
abbrev N_is_step : List Str := ["step"]
theorem sc_is_step : FnScope N_is_step ["step"] (defScope s_is_step) := ⟨rfl, rfl, rfl, by decide +kernel, rfl, by decide +kernel, by decide +kernel⟩
abbrev N_Plan_init : List Str := ["self", "steps", "index", "step"]
theorem sc_Plan_init : FnScope N_Plan_init ["self", "steps"] (defScope s_Plan_init) := ⟨rfl, rfl, rfl, by decide +kernel, rfl, by decide +kernel, by decide +kernel⟩
abbrev N_Plan_steps : List Str := ["self"]
theorem sc_Plan_steps : FnScope N_Plan_steps ["self"] (defScope s_Plan_steps) := ⟨rfl, rfl, rfl, by decide +kernel, rfl, by decide +kernel, by decide +kernel⟩
abbrev N_Plan_is_turning : List Str := ["self", "step"]
theorem sc_Plan_is_turning : FnScope N_Plan_is_turning ["self"] (defScope s_Plan_is_turning) := ⟨rfl, rfl, rfl, by decide +kernel, rfl, by decide +kernel, by decide +kernel⟩
abbrev N_Plan_joined : List Str := ["self", "others", "steps", "other"]
theorem sc_Plan_joined : FnScope N_Plan_joined ["self", "others"] (defScope s_Plan_joined) := ⟨rfl, rfl, rfl, by decide +kernel, rfl, by decide +kernel, by decide +kernel⟩
abbrev N_sides_of : List Str := ["plan", "found", "side", "word", "needs"]
theorem sc_sides_of : FnScope N_sides_of ["plan"] (defScope s_sides_of) := ⟨rfl, rfl, rfl, by decide +kernel, rfl, by decide +kernel, by decide +kernel⟩
abbrev N_validate_house : List Str := ["plan", "chairs", "index", "side", "need"]
theorem sc_validate_house : FnScope N_validate_house ["plan", "chairs"] (defScope s_validate_house) := ⟨rfl, rfl, rfl, by decide +kernel, rfl, by decide +kernel, by decide +kernel⟩
abbrev N_validate_number : List Str := ["number", "smallest", "largest"]
theorem sc_validate_number : FnScope N_validate_number ["number", "smallest", "largest"] (defScope s_validate_number) := ⟨rfl, rfl, rfl, by decide +kernel, rfl, by decide +kernel, by decide +kernel⟩
abbrev N_Effect_init : List Str := ["self", "chairs", "low", "high", "extra", "goal", "turned"]
theorem sc_Effect_init : FnScope N_Effect_init ["self", "chairs", "low", "high", "extra", "goal", "turned"] (defScope s_Effect_init) := ⟨rfl, rfl, rfl, by decide +kernel, rfl, by decide +kernel, by decide +kernel⟩
abbrev N_Effect_at_least : List Str := ["self", "need"]
theorem sc_Effect_at_least : FnScope N_Effect_at_least ["self", "need"] (defScope s_Effect_at_least) := ⟨rfl, rfl, rfl, by decide +kernel, rfl, by decide +kernel, by decide +kernel⟩
abbrev N_Effect_at_most : List Str := ["self", "most"]
theorem sc_Effect_at_most : FnScope N_Effect_at_most ["self", "most"] (defScope s_Effect_at_most) := ⟨rfl, rfl, rfl, by decide +kernel, rfl, by decide +kernel, by decide +kernel⟩
abbrev N_Effect_mirrored : List Str := ["self", "goal"]
theorem sc_Effect_mirrored : FnScope N_Effect_mirrored ["self"] (defScope s_Effect_mirrored) := ⟨rfl, rfl, rfl, by decide +kernel, rfl, by decide +kernel, by decide +kernel⟩
abbrev N_Effect_followed : List Str := ["self", "other", "later", "found", "goal", "turned"]
theorem sc_Effect_followed : FnScope N_Effect_followed ["self", "other"] (defScope s_Effect_followed) := ⟨rfl, rfl, rfl, by decide +kernel, rfl, by decide +kernel, by decide +kernel⟩
abbrev N_Effect_carried : List Str := ["self", "start"]
theorem sc_Effect_carried : FnScope N_Effect_carried ["self", "start"] (defScope s_Effect_carried) := ⟨rfl, rfl, rfl, by decide +kernel, rfl, by decide +kernel, by decide +kernel⟩
abbrev N_Effect_place : List Str := ["self", "start"]
theorem sc_Effect_place : FnScope N_Effect_place ["self", "start"] (defScope s_Effect_place) := ⟨rfl, rfl, rfl, by decide +kernel, rfl, by decide +kernel, by decide +kernel⟩
abbrev N_Effect_end : List Str := ["self", "start", "place"]
theorem sc_Effect_end : FnScope N_Effect_end ["self", "start"] (defScope s_Effect_end) := ⟨rfl, rfl, rfl, by decide +kernel, rfl, by decide +kernel, by decide +kernel⟩
abbrev N_nothing : List Str := ["chairs"]
theorem sc_nothing : FnScope N_nothing ["chairs"] (defScope s_nothing) := ⟨rfl, rfl, rfl, by decide +kernel, rfl, by decide +kernel, by decide +kernel⟩
abbrev N_effect_of : List Str := ["plan", "chairs", "found", "side", "need"]
theorem sc_effect_of : FnScope N_effect_of ["plan", "chairs"] (defScope s_effect_of) := ⟨rfl, rfl, rfl, by decide +kernel, rfl, by decide +kernel, by decide +kernel⟩
abbrev N_power : List Str := ["effect", "times", "found", "square"]
theorem sc_power : FnScope N_power ["effect", "times"] (defScope s_power) := ⟨rfl, rfl, rfl, by decide +kernel, rfl, by decide +kernel, by decide +kernel⟩
abbrev N_validate_start : List Str := ["chairs", "start"]
theorem sc_validate_start : FnScope N_validate_start ["chairs", "start"] (defScope s_validate_start) := ⟨rfl, rfl, rfl, by decide +kernel, rfl, by decide +kernel, by decide +kernel⟩
abbrev N_total_carried : List Str := ["plan", "chairs", "start", "rounds"]
theorem sc_total_carried : FnScope N_total_carried ["plan", "chairs", "start", "rounds"] (defScope s_total_carried) := ⟨rfl, rfl, rfl, by decide +kernel, rfl, by decide +kernel, by decide +kernel⟩
abbrev N_summary : List Str := ["plan", "chairs", "found"]
theorem sc_summary : FnScope N_summary ["plan", "chairs"] (defScope s_summary) := ⟨rfl, rfl, rfl, by decide +kernel, rfl, by decide +kernel, by decide +kernel⟩
abbrev N_first_difference : List Str := ["plan", "other", "chairs", "one", "two", "places", "bend", "start"]
theorem sc_first_difference : FnScope N_first_difference ["plan", "other", "chairs"] (defScope s_first_difference) := ⟨rfl, rfl, rfl, by decide +kernel, rfl, by decide +kernel, by decide +kernel⟩
abbrev N_carryings : List Str := ["plan", "chairs", "start", "first", "last", "sides", "rounds", "index", "place", "side", "need", "number", "later"]
theorem sc_carryings : GScope N_carryings ["plan", "chairs", "start", "first", "last"] (defScope s_carryings) := ⟨rfl, rfl, rfl, by decide +kernel, rfl, by decide +kernel, by decide +kernel⟩
abbrev N_moved : List Str := ["chairs", "place", "side", "need"]
theorem sc_moved : FnScope N_moved ["chairs", "place", "side", "need"] (defScope s_moved) := ⟨rfl, rfl, rfl, by decide +kernel, rfl, by decide +kernel, by decide +kernel⟩
abbrev N_longest_way : List Str := ["chairs", "begin", "goal", "moves", "up", "last"]
theorem sc_longest_way : FnScope N_longest_way ["chairs", "begin", "goal", "moves", "up"] (defScope s_longest_way) := ⟨rfl, rfl, rfl, by decide +kernel, rfl, by decide +kernel, by decide +kernel⟩
abbrev N_places_of : List Str := ["chairs", "begin", "goal", "moves", "up", "found", "move"]
theorem sc_places_of : FnScope N_places_of ["chairs", "begin", "goal", "moves", "up"] (defScope s_places_of) := ⟨rfl, rfl, rfl, by decide +kernel, rfl, by decide +kernel, by decide +kernel⟩
abbrev N_shortened : List Str := ["begin", "places", "slack", "found", "index", "step", "nearest", "less"]
theorem sc_shortened : FnScope N_shortened ["begin", "places", "slack"] (defScope s_shortened) := ⟨rfl, rfl, rfl, by decide +kernel, rfl, by decide +kernel, by decide +kernel⟩
abbrev N_is_possible : List Str := ["chairs", "begin", "goal", "moves", "up", "last_free"]
theorem sc_is_possible : FnScope N_is_possible ["chairs", "begin", "goal", "moves", "up"] (defScope s_is_possible) := ⟨rfl, rfl, rfl, by decide +kernel, rfl, by decide +kernel, by decide +kernel⟩
abbrev N_way_of : List Str := ["chairs", "begin", "goal", "length", "moves", "up", "longest"]
theorem sc_way_of : FnScope N_way_of ["chairs", "begin", "goal", "length"] (defScope s_way_of) := ⟨rfl, rfl, rfl, by decide +kernel, rfl, by decide +kernel, by decide +kernel⟩
abbrev N_step_to : List Str := ["chairs", "place", "up"]
theorem sc_step_to : FnScope N_step_to ["chairs", "place", "up"] (defScope s_step_to) := ⟨rfl, rfl, rfl, by decide +kernel, rfl, by decide +kernel, by decide +kernel⟩
abbrev N_simple_steps : List Str := ["effect", "chairs", "steps", "up", "places", "place"]
theorem sc_simple_steps : FnScope N_simple_steps ["effect"] (defScope s_simple_steps) := ⟨rfl, rfl, rfl, by decide +kernel, rfl, by decide +kernel, by decide +kernel⟩
abbrev N_simple_plan : List Str := ["plan", "chairs", "effect", "steps"]
theorem sc_simple_plan : FnScope N_simple_plan ["plan", "chairs"] (defScope s_simple_plan) := ⟨rfl, rfl, rfl, by decide +kernel, rfl, by decide +kernel, by decide +kernel⟩
abbrev N_needs_of : List Str := ["plan", "first", "other", "side", "need"]
theorem sc_needs_of : FnScope N_needs_of ["plan"] (defScope s_needs_of) := ⟨rfl, rfl, rfl, by decide +kernel, rfl, by decide +kernel, by decide +kernel⟩
abbrev N_carried_in_two_rounds : List Str := ["plan", "chairs", "effect"]
theorem sc_carried_in_two_rounds : FnScope N_carried_in_two_rounds ["plan", "chairs"] (defScope s_carried_in_two_rounds) := ⟨rfl, rfl, rfl, by decide +kernel, rfl, by decide +kernel, by decide +kernel⟩
abbrev N_halves : List Str := ["number"]
theorem sc_halves : FnScope N_halves ["number"] (defScope s_halves) := ⟨rfl, rfl, rfl, by decide +kernel, rfl, by decide +kernel, by decide +kernel⟩
abbrev N_long_run : List Str := ["plan", "chairs"]
theorem sc_long_run : FnScope N_long_run ["plan", "chairs"] (defScope s_long_run) := ⟨rfl, rfl, rfl, by decide +kernel, rfl, by decide +kernel, by decide +kernel⟩
abbrev N_fewest_chairs : List Str := ["plan"]
theorem sc_fewest_chairs : FnScope N_fewest_chairs ["plan"] (defScope s_fewest_chairs) := ⟨rfl, rfl, rfl, by decide +kernel, rfl, by decide +kernel, by decide +kernel⟩
abbrev N_sparing_chairs : List Str := ["plan", "first", "other"]
theorem sc_sparing_chairs : FnScope N_sparing_chairs ["plan"] (defScope s_sparing_chairs) := ⟨rfl, rfl, rfl, by decide +kernel, rfl, by decide +kernel, by decide +kernel⟩
abbrev N_best_chairs : List Str := ["plan", "price", "carry_price", "rounds", "low", "high", "middle", "spared"]
theorem sc_best_chairs : FnScope N_best_chairs ["plan", "price", "carry_price", "rounds"] (defScope s_best_chairs) := ⟨rfl, rfl, rfl, by decide +kernel, rfl, by decide +kernel, by decide +kernel⟩
abbrev N_find_evidence : List Str := ["plan", "chairs", "start", "found", "place", "last", "index", "side", "need", "later"]
theorem sc_find_evidence : FnScope N_find_evidence ["plan", "chairs", "start"] (defScope s_find_evidence) := ⟨rfl, rfl, rfl, by decide +kernel, rfl, by decide +kernel, by decide +kernel⟩
abbrev N__law_start : List Str := ["_law_script", "_law_mixed", "_law_cell"]
theorem sc__law_start : FnScope N__law_start ["_law_script"] (defScope s__law_start) := ⟨rfl, rfl, rfl, by decide +kernel, rfl, by decide +kernel, by decide +kernel⟩
abbrev N__law_drawn : List Str := ["_law_state", "_law_count", "_law_result", "_law_cell"]
theorem sc__law_drawn : FnScope N__law_drawn ["_law_state", "_law_count"] (defScope s__law_drawn) := ⟨rfl, rfl, rfl, by decide +kernel, rfl, by decide +kernel, by decide +kernel⟩
abbrev N__law_same : List Str := ["_law_result", "_law_expected", "_law_k"]
theorem sc__law_same : FnScope N__law_same ["_law_result", "_law_expected"] (defScope s__law_same) := ⟨rfl, rfl, rfl, by decide +kernel, rfl, by decide +kernel, by decide +kernel⟩
abbrev N__law_random_steps : List Str := ["_law_state", "_law_most", "_law_high", "_law_result", "_law_turns", "_law_k", "_law_need"]
theorem sc__law_random_steps : FnScope N__law_random_steps ["_law_state", "_law_most", "_law_high"] (defScope s__law_random_steps) := ⟨rfl, rfl, rfl, by decide +kernel, rfl, by decide +kernel, by decide +kernel⟩
abbrev N__law_plan : List Str := ["_law_steps", "_law_result", "_law_step"]
theorem sc__law_plan : FnScope N__law_plan ["_law_steps"] (defScope s__law_plan) := ⟨rfl, rfl, rfl, by decide +kernel, rfl, by decide +kernel, by decide +kernel⟩
abbrev N__law_query : List Str := ["_law_plan_here", "_law_chairs", "_law_start_here", "_law_branch", "_law_count"]
theorem sc__law_query : FnScope N__law_query ["_law_plan_here", "_law_chairs", "_law_start_here", "_law_branch"] (defScope s__law_query) := ⟨rfl, rfl, rfl, by decide +kernel, rfl, by decide +kernel, by decide +kernel⟩
abbrev N_law : List Str := ["_law_script", "_law_state", "_law_rows", "_law_k", "_law_chairs", "_law_steps", "_law_branch", "_law_expected", "_law_apart", "_law_turn", "_law_actual", "_law_row"]
theorem sc_law : FnScope N_law ["_law_script"] (defScope s_law) := ⟨rfl, rfl, rfl, by decide +kernel, rfl, by decide +kernel, by decide +kernel⟩

end K13

set_option Elab.async false
set_option linter.all false
set_option autoImplicit false
set_option maxRecDepth 100000
set_option pp.maxSteps 1500
set_option maxHeartbeats 0
namespace K13
open PySem PySem.Spec PyProof.Rows L2 He ChH
abbrev R : PySem.W.OpenRow := PySem.W.OpenLaw.row PySem.Challenge.rw_chaircarry_k13_repeated_calls
abbrev hk : PySem.W.Hook := hookC 5 faL xsL dfL
def ob (s : PySem.W.SharedT) : He.AlD := obsCG 5 faL xsL dfL (HandSHeadRun.getT s)
theorem ob_eq (s : PySem.W.SharedT) : ob s = hk.obs s.abs := obsCG_eq (HandSHeadRun.getT_eq s)
def loose : List Str := (["_wall", "__name__", "_wall", "ChairError", "InvalidPlan", "TooFewChairs", "InvalidNumber", "RED", "BLUE", "TURN", "is_number", "is_step", "Plan", "sides_of", "validate_house", "validate_number", "MAX_ROUNDS_effects", "Effect", "nothing", "effect_of"] : List Str) ++ (["power", "validate_start", "total_carried", "summary", "first_difference", "carryings", "moved", "longest_way", "places_of", "shortened", "is_possible", "way_of", "step_to", "simple_steps", "simple_plan", "MAX_PRICE", "MAX_ROUNDS_chairs", "needs_of", "carried_in_two_rounds", "halves"] : List Str) ++ (["long_run", "fewest_chairs", "sparing_chairs", "best_chairs", "find_evidence", "_law_start", "_law_drawn", "_law_same", "_law_random_steps", "_law_plan", "_law_query"] : List Str)
theorem run (w : World) : HandSHeadRun.RunEq R (PySem.W.view R.prog [56]) hk ob 8000 loose w := by
  intro os
  kernel_rfl
end K13

set_option Elab.async false
set_option linter.all false
set_option autoImplicit false
set_option maxRecDepth 100000
set_option maxHeartbeats 4000000
namespace Ch
open PySem PySem.Spec PyProof.Rows L2
/-! ### a star among the targets: a, *b = a tuple -/
section
variable {prog : Program} {w : World} {A : Around} {E : Value → Shared → Prop} {s : Shared}
theorem star_tup {t : Addr} {its : Array Value} {n i : Nat} {Q : List Value → Shared → Prop} (ht : IsTup s.heap t its) (hand : A.handled = none) (hin : i < n) (hle : n ≤ its.size + 1) (hsz : its.size ≤ 16384)
    (k : ∀ (g : Heap) (tk : Nat), (∀ b o, s.heap.get? b = some o → g.get? b = some o) → Q (its.toList.take i ++ [.ref g.objs.size] ++ (its.toList.drop i).drop (its.size + 1 - n)) { s with heap := g.push { cls := .type "list", data := .seq ((its.toList.drop i).take (its.size + 1 - n)).toArray }, toks := tk }) :
    wpAny (model prog w) A (unpackItems (.ref t) n (some i)) Q E s := by
  have tlt : t < s.heap.objs.size := by
    obtain ⟨o, ho, _⟩ := ht
    exact Heap.lt_size ho
  have tne : t ≠ s.heap.objs.size := Nat.ne_of_lt tlt
  unfold unpackItems
  refine wpAny_bind ?_
  unfold notIterableAtAll
  refine wpAny_bind (wpAny_specialOf ht.typeIs slot_tuple_iter.lookup (wpAny_pure ?_))
  simp only [Bool.false_eq_true, if_false]
  refine wpAny_bind (wpAny_holding (iter_tuple ht (?_)))
  refine wpAny_bind (wpAny_holding (draw_tuple tne i 0 _ _ ⟨_, Heap.get?_push_size _ rfl, rfl, rfl⟩ (ht.push _) (by omega) fun g1 it1 sb1 => ?_))
  have ht1 : IsTup g1 t its := (ht.push _).extBut sb1.extBut tne
  rw [Nat.zero_add] at it1
  obtain ⟨oi, hoi, hoi2⟩ := id it1
  obtain ⟨ot, hot, _⟩ := id ht1
  rw [List.drop_zero]
  have lf : (its.toList.take i).length = i := by
    rw [List.length_take, Array.length_toList]
    omega
  have lr : (its.toList.drop i).length = its.size - i := by
    rw [List.length_drop, Array.length_toList]
  rw [if_neg (show ¬ ((its.toList.take i).length < i) by omega)]
  refine wpAny_bind (wpAny_holding (PySem.W.kun_collect (s := { s with heap := g1 }) (T := "tuple_iterator") (Or.inr (Or.inr (Or.inr rfl))) (Walks.tuple (A := A.in1) hand s.heap.objs.size t tne its) (fun _ _ st => st.1.typeIs) (k := i) (by omega) ⟨it1, ht1⟩ (Heap.lt_size hoi) (Heap.lt_size hot) (fun g2 tk kp => ?_) (by rw [sizeLine_eq]; omega)))
  have lm : (its.toList.drop i).length - (n - 1 - i) = its.size + 1 - n := by omega
  show wpAny _ _ (if (its.toList.drop i).length < n - 1 - i then _ else _) _ _ _
  rw [if_neg (by omega)]
  show wpAny _ _ (newList ((its.toList.drop i).take ((its.toList.drop i).length - (n - 1 - i))) >>= fun d => pure (its.toList.take i ++ [d] ++ (its.toList.drop i).drop ((its.toList.drop i).length - (n - 1 - i)))) _ _ _
  rw [lm]
  have keep : ∀ b o, s.heap.get? b = some o → g2.get? b = some o := fun b o e => by
    have hb : b ≠ s.heap.objs.size := Nat.ne_of_lt (Heap.lt_size e)
    exact kp b o hb (sb1.extBut b o hb (Heap.get?_push_of_some _ e))
  refine wpAny_bind (wpAny_newList (s := { s with heap := g2, toks := tk }) (wpAny_pure (k g2 tk keep)) ?_)
  rw [List.length_take, lr, sizeLine_eq]
  omega
end
section
variable {X : Cx} {pos : Pos}
theorem pgs_star {e : Expr} {p : Pos} {es : List Expr} {t : TG} {u : TGs} (h1 : PG X e t) (h2 : PGs X es u)
    (hs : (assignEach (.Starred e p :: es) X.env).map (·.2) = assign e X.env :: (assignEach es X.env).map (·.2) := by rfl) : PGs X (.Starred e p :: es) (gCons t u) := by
  refine ⟨fun pins s σ H vs us Q I r ⟨v, vr, ev, h⟩ => ?_⟩
  subst ev
  cases r with
  | cons ra rb =>
    rw [hs]
    exact assignInOrder_cons (thn (h1.run pins s σ H _ _ _ I ra h) fun _ s1 ⟨σ1, H1, I1, q1⟩ => h2.run pins s1 σ1 H1 _ _ Q I1 rb q1)
/-- n targets, the i-th with a star, a tuple of fewer or more items -/
def gStar (K : PySem.W.Frag) (n i : Nat) (t : TGs) : TG := fun v σ H Q => ∃ a xs, v = .ref a ∧ SqT K H a xs ∧ i < n ∧ n ≤ xs.length + 1 ∧ xs.length ≤ 16384 ∧
  ∀ d, H d = none → t (xs.take i ++ [.ref d] ++ (xs.drop i).drop (xs.length + 1 - n)) σ (upd H d (.lst ((xs.drop i).take (xs.length + 1 - n)))) Q
theorem pg_star {es : List Expr} {k : Nat} {t : TGs} {n i : Nat} (hc : X.calm = true) (h : PGs X es t)
    (hn : (assignEach es X.env).length = n := by rfl) (hst : (assignEach es X.env).findIdx? (·.1) = some i := by rfl) : PG X (.Tuple es k pos) (gStar X.K n i t) := by
  refine ⟨fun pins s σ H v u Q I r ⟨a, xs, ev, hq, hin, hle, hsz, q⟩ => ?_⟩
  subst ev
  cases r
  obtain ⟨its, rv, ht, _⟩ := I.tuple hq
  have el : its.length = xs.length := rv.length.symm
  rw [assign_Tuple]
  refine wpAny_bind (wpAny_standAt ?_)
  unfold unpack
  rw [hn, hst]
  refine wpAny_bind (wpAny_holding (star_tup ht (I.ok.hd hc) hin (by simp [el]; omega) (by simp [el]; omega) fun g tk keep => ?_))
  have esz : its.toArray.size + 1 - n = xs.length + 1 - n := by simp [el]
  rw [esz]
  have I1 : Inv X pins σ H { s with heap := g, toks := tk } := I.kept (t' := tk) keep
  have hf : H g.objs.size = none := I1.hok.fresh (Nat.le_refl _)
  have I2 : Inv X pins σ (upd H g.objs.size (.lst ((xs.drop i).take (xs.length + 1 - n)))) { s with heap := g.push { cls := .type "list", data := .seq ((its.toArray.toList.drop i).take (xs.length + 1 - n)).toArray }, toks := tk } := by
    refine I1.laid (t' := tk) (fun b u e => Heap.get?_push_of_some _ e) (Nat.le_refl _) ⟨?_, (its.drop i).take (xs.length + 1 - n), 0, (rv.drop i).take _, Heap.get?_push_size _ rfl⟩
    rw [List.length_take, List.length_drop, sizeLine_eq]
    omega
  refine h.run pins _ σ _ _ _ Q I2 ?_ (q _ hf)
  exact Vals.append (Vals.append (rv.take i) (.cons rfl .nil)) ((rv.drop i).drop _)
end
end Ch

set_option Elab.async false
set_option linter.all false
set_option autoImplicit false
set_option maxRecDepth 100000
set_option maxHeartbeats 4000000
namespace Ch
open PySem PySem.Spec PyProof.Rows L2
/-! ### a < b < c < d as a test -/
def tChain3 (r1 r2 r3 : R2) (ta tb tc td : TE) : TE := fun σ H Q => ta σ H fun x H1 => tb σ H1 fun y H2 => r1 x y H2 fun z H3 => ∃ k, z = .bl k ∧
  (if k = true then tc σ H3 fun x2 H4 => r2 y x2 H4 fun z2 H5 => ∃ k2, z2 = .bl k2 ∧ (if k2 = true then td σ H5 fun x3 H6 => r3 x2 x3 H6 Q else Q (.bl false) H5) else Q (.bl false) H3)
section
variable {X : Cx} {a b c d : Expr} {ta tb tc td : TE} {pos : Pos}
theorem pt_chain3 {o1 o2 o3 : CmpOp} {r1 r2 r3 : R2} (h1 : OpR X (compareOp o1) r1) (h2 : OpR X (compareOp o2) r2) (h3 : OpR X (compareOp o3) r3) (ha : PE X a ta) (hb : PE X b tb) (hc : PE X c tc) (hd : PE X d td)
    (hm : lastMarks [o1, o2, o3] [b, c, d] = false := by with_unfolding_all rfl) : PT X (.Compare a [o1, o2, o3] [b, c, d] pos) (tTest (tChain3 r1 r2 r3 ta tb tc td)) := by
  refine ⟨fun pins s σ H Q I h => isTrue_chain (thn (ha.run pins s σ H _ I h) fun v s1 ⟨x, H1, I1, e1, q1⟩ => test_link (thn (hb.run pins s1 σ H1 _ I1 q1) fun u s2 ⟨y, H2, I2, e2, q2⟩ =>
    thn (h1 pins s2 σ H2 x y v u _ I2 e1 e2 q2) fun w1 s3 ⟨z, H3, I3, e3, k, ek, q3⟩ => ?_)) hm⟩
  subst ek
  cases e3
  refine wpAny_truthy_bool ?_
  cases k with
  | false =>
    obtain ⟨k', ek', q'⟩ := q3
    cases ek'
    exact ite_ff ⟨H3, I3, q'⟩
  | true =>
    refine ite_tt (test_link (thn (hc.run pins s3 σ H3 _ I3 q3) fun w2 s4 ⟨x2, H4, I4, e4, q4⟩ => thn (h2 pins s4 σ H4 y x2 u w2 _ I4 e2 e4 q4) fun w3 s5 ⟨z2, H5, I5, e5, k2, ek2, q5⟩ => ?_))
    subst ek2
    cases e5
    refine wpAny_truthy_bool ?_
    cases k2 with
    | false =>
      obtain ⟨k', ek', q'⟩ := q5
      cases ek'
      exact ite_ff ⟨H5, I5, q'⟩
    | true =>
      refine ite_tt (test_last (thn (hd.run pins s5 σ H5 _ I5 q5) fun w4 s6 ⟨x3, H6, I6, e6, q6⟩ => thn (h3 pins s6 σ H6 x2 x3 w2 w4 _ I6 e4 e6 q6) fun w5 s7 ⟨z3, H7, I7, e7, k3, ek3, q7⟩ => ?_))
      subst ek3
      cases e7
      exact wpAny_truthy_bool ⟨H7, I7, q7⟩
end
end Ch

set_option Elab.async false
set_option linter.all false
set_option autoImplicit false
set_option maxRecDepth 100000
set_option maxHeartbeats 4000000
namespace Ch
open PySem PySem.Spec PyProof.Rows L2
open Sem (wp)
/-! ### enumerate of a tuple -/
theorem en_new1 {v : Value} {ob : Obj} {G : Heap → Prop} (B : Begins v ob G) :
    Meets (Builtin.«enumerate.__new__» ⟨[.type "enumerate", v], []⟩) (fun _ R s => G s.heap ∧
      R (.ok (.ret (.ref (s.heap.push ob).objs.size))) { s with heap := (s.heap.push ob).push { cls := .type "enumerate", data := .fields #[.none, .bool false, .ref s.heap.objs.size, rawInt 0, .none, .none] } }) :=
  .of_wp fun prog w A R st ⟨hG, hR⟩ => by
    obtain ⟨hp, ge, dr, tk, os⟩ := st
    have hsub := sub_enumerate
    have itq : ∀ {A1 : Around} {E : Value → Shared → Prop} {Q : Value → Shared → Prop}, Q (.ref hp.objs.size) ⟨hp.push ob, ge, dr, tk, os⟩ → wpAny (model prog w) A1 (pyIter v) Q E ⟨hp, ge, dr, tk, os⟩ :=
      fun q => B.iter prog w _ _ ⟨hp, ge, dr, tk, os⟩ _ hG q
    wp_walk using itq
    refine wpAny_stack_any fun sk => wpAny_pure (?_)
    split
    · rename_i c _ _ _ _ _
      cases (c == Value.type "enumerate")
      all_goals
        wp_walk using itq
        exact ⟨_, rfl, hR⟩
    · wp_walk using itq
      exact ⟨_, rfl, hR⟩
section
variable {prog : Program} {w : World} {A : Around} {E : Value → Shared → Prop} {s : Shared}
theorem en_call1 {v : Value} {ob : Obj} {G : Heap → Prop} {Q : Value → Shared → Prop} (B : Begins v ob G) (hG : G s.heap)
    (k : ∀ g : Heap, IsEnum g (s.heap.objs.size + 1) s.heap.objs.size 0 .none → g.get? s.heap.objs.size = some ob → (∀ b o, s.heap.get? b = some o → g.get? b = some o) → Q (.ref (s.heap.objs.size + 1)) { s with heap := g }) :
    wpAny (model prog w) A (call (.type "enumerate") [v]) Q E s := by
  refine callType_new F.called_enumerate (by decide) (F.typeCall_enumerate_1 _) (F.newCall_enumerate_1 _) (fun obj => F.args_object_init_2 obj _) F.entry_enumerate_new (en_new1 B) ⟨hG, ?_⟩
  have sz : (s.heap.push ob).objs.size = s.heap.objs.size + 1 := Heap.size_push ..
  show _ ∧ _
  rw [sz]
  have ie : IsEnum ((s.heap.push ob).push { cls := .type "enumerate", data := .fields #[.none, .bool false, .ref s.heap.objs.size, rawInt 0, .none, .none] }) (s.heap.objs.size + 1) s.heap.objs.size 0 .none := by
    have q := Heap.get?_push_size (s.heap.push ob) (o := { cls := .type "enumerate", data := .fields #[.none, .bool false, .ref s.heap.objs.size, rawInt 0, .none, .none] }) rfl
    rw [sz] at q
    exact q
  exact ⟨⟨_, ie, rfl⟩, k _ ie (Heap.get?_push_of_some _ (Heap.get?_push_size _ B.free)) fun b o x => Heap.get?_push_of_some _ (Heap.get?_push_of_some _ x)⟩
end
/-- the tuple at a, each item in a new pair -/
def IteT (K : PySem.W.Frag) (a : Addr) : It :=
  ⟨fun i H => ∃ (xs : List V) (x : V), SqT K H a xs ∧ xs[i]? = some x, fun i H v H' => ∃ T x, v = .ref T ∧ H T = none ∧ H' = upd H T (.tup [.int (i : Nat), x]) ∧ ∀ xs, SqT K H a xs → xs[i]? = some x, fun i H => ∃ xs : List V, SqT K H a xs ∧ xs.length ≤ i⟩
theorem turn_enumT {P : Program} {w : World} {K : PySem.W.Frag} {elts : List Expr} {kk : Nat} {tpos : Pos} (a e it : Addr) :
    Turn P w K (.Tuple elts kk tpos) (IteT K a) [e, it] e (fun i h => (∃ old, IsEnum h e it ((i : Nat) : Int) old) ∧ h.IsTupleIter it a i ∧ e ≠ it ∧ e ≠ a ∧ a ≠ it) where
  mem := List.mem_cons_self
  obj := fun i h st b hb => by
    obtain ⟨⟨old, he⟩, ⟨o, ho, hc, hd⟩, _⟩ := st
    rcases List.mem_cons.mp hb with z | z
    · rw [z]
      exact ⟨_, he, fun v q => nomatch q⟩
    · rw [List.mem_singleton.mp z]
      exact ⟨o, ho, fun v q => by rw [hd] at q; cases q⟩
  keep := fun i h h' ⟨⟨old, he⟩, hi, hn⟩ k => ⟨⟨old, k e (by simp) _ he⟩, hi.at fun o q => k it (by simp) o q, hn⟩
  item := by
    intro X hP hw hK hc i pins s σ H E I hf ⟨⟨old, he⟩, hit, hne, hea, hai⟩ ⟨xs, x, hq, hx⟩
    subst hP hw hK
    obtain ⟨its, rv, p, hz⟩ := I.tuple hq
    obtain ⟨u, hu, ru⟩ := rv.get hx
    have pt : s.heap.IsTuple a its.toArray := p
    have hel : e < s.heap.objs.size := Heap.lt_size he
    have hil : it < s.heap.objs.size := by
      obtain ⟨_, q, _⟩ := hit
      exact Heap.lt_size q
    have hlt : i < its.toArray.size := by
      have := (List.getElem?_eq_some_iff.mp hu).1
      simpa using this
    refine wpAny_pyNext_enum_itemD (Draws.tuple (A := X.A.in1) (I.ok.hd hc) it a hai its.toArray) he ⟨hit, pt⟩ hlt hne (by simp [hne, hea]) fun u' g tk hPu ho st' hT hsz hk => ?_
    have eu : u' = u := by
      have h1 : its.toArray[i]? = some u' := hPu
      rw [List.getElem?_toArray, hu] at h1
      exact (Option.some.inj h1).symm
    subst eu
    refine ⟨_, rfl, wpAny_letOwnedTupleGo_enum (s := { s with heap := g, toks := tk + 1 }) ho fun g2 he' sb => ?_⟩
    have hT2 : g2.get? s.heap.objs.size = some { cls := .type "tuple", data := .seq #[.int i tk, u'] } := (sb.2 _ (Nat.ne_of_gt hel)).trans hT
    have new : ObjOk X.prog X.w (upd H s.heap.objs.size (.tup [.int (i : Nat), x])) g2 s.heap.objs.size (.tup [.int (i : Nat), x]) :=
      ⟨by show 2 ≤ sizeLine; decide, [.int i tk, u'], .cons ⟨_, rfl⟩ (.cons ru .nil), ⟨_, hT2, rfl, _, rfl⟩⟩
    have I1 : Inv X pins σ (upd H s.heap.objs.size (.tup [.int (i : Nat), x])) { s with heap := g2, toks := tk + 1 } :=
      I.turnedNew (ch := [e, it]) (fun b ob hb q => by
        have n1 : b ≠ e := fun z => hb (by simp [z])
        have n2 : b ≠ it := fun z => hb (by simp [z])
        exact (sb.2 b n1).trans (hk b ob n1 n2 q)) hf (Nat.le_refl _) new
    refine ⟨.ref s.heap.objs.size, _, I1, rfl, ⟨_, x, rfl, I.hok.fresh (Nat.le_refl _), rfl, fun ys hy => by rw [I.tuple_inj hy hq]; exact hx⟩, ⟨⟨u', ?_⟩, st'.1.at fun o q => (sb.2 it (Ne.symm hne)).trans q, hne, hea, hai⟩, fun b hb => ?_⟩
    · rw [show ((i + 1 : Nat) : Int) = (i : Int) + 1 by omega]
      exact he'
    · have lb : b < s.heap.objs.size := by
        rcases List.mem_cons.mp hb with z | z
        · rw [z]
          exact hel
        · rw [List.mem_singleton.mp z]
          exact hil
      rw [upd_ne (Nat.ne_of_lt lb)]
      exact (hf b hb).1
  done := by
    intro X hP hw hK hc i pins s σ H E I hf ⟨⟨old, he⟩, hit, hne, hea, hai⟩ ⟨xs, hq, hx⟩
    subst hP hw hK
    obtain ⟨its, rv, p, hz⟩ := I.tuple hq
    have pt : s.heap.IsTuple a its.toArray := p
    obtain ⟨f0, f1, f2, f3, f4, f5⟩ := hf it (by simp)
    have hl := rv.length
    have hd : s.heap.IsTupleIter it a i := hit
    refine wpAny_pyNext_enum_endD (fp := [it, a]) (n := i) (P := fun _ _ => False) (St := fun j g => j = i ∧ g.IsTupleIter it a i ∧ g.IsTuple a its.toArray) ?_ he ⟨rfl, hit, pt⟩ fun g eb => ⟨rfl, I.turned (t' := s.toks) (fun b o hb q => eb b o hb q) f0 f1 f3 f4 f5⟩
    exact {
      live := fun _ _ st => let ⟨o, ho, _⟩ := st.2.1; ⟨o, ho⟩
      frame := fun _ _ _ st hk => ⟨st.1, st.2.1.at fun o q => hk it (by simp) o q, st.2.2.at fun o q => hk a (by simp) o q⟩
      item := fun j s2 Q2 E2 hj st _ => absurd st.1 (Nat.ne_of_lt hj)
      done := fun s2 Q2 E2 st hE => wpAny_nextOf_tuple_end (I.ok.hd hc) st.2.1 st.2.2 (by simp; omega) hE }
  self := fun A i s Q E st h => let ⟨⟨_, he⟩, _⟩ := st; wpAny_pyIter_enum he h
def iEnumT (K : PySem.W.Frag) (ta : TA) : TI := fun σ H R => ta σ H fun vs H1 => ∃ a xs, vs = [.ref a] ∧ SqT K H1 a xs ∧ R (IteT K a) H1
theorem pi_enumT {X : Cx} {e : Expr} {ta : TA} {p pos tpos : Pos} {elts : List Expr} {kk : Nat} (hg : Gl X "enumerate") (hm : X.mg "enumerate" = none) (ha : PA X [e] ta) (hs : starEach [e] X.env = [(false, eval e X.env)] := by rfl) :
    PI X (.Tuple elts kk tpos) (.Call (.Name "enumerate" p) [e] [] pos) (iEnumT X.K ta) := by
  refine ⟨fun pins s σ H R I h => ?_⟩
  refine Call_ (ld_blt I hg hm boot_enumerate (PyProof.Rows.callWith_type1 (thn (ha.run pos pins s σ H _ I h) fun us s1 ⟨vs, H1, I1, r1, a, xs, ex, hq, q⟩ => ?_) hs rfl))
  subst ex
  obtain ⟨u, rfl, ru⟩ := vals1 r1
  obtain rfl : u = Value.ref a := ru
  obtain ⟨its, rv, p', hz⟩ := I1.tuple hq
  have pt : s1.heap.IsTuple a its.toArray := p'
  have al : a < s1.heap.objs.size := by
    obtain ⟨o, ho, _⟩ := pt
    exact Heap.lt_size ho
  refine en_call1 (begins_tuple a its.toArray) pt fun g he hit hk => wpAny_pyIter_enum he ?_
  have I2 : Inv X pins σ H1 { s1 with heap := g } := I1.kept (t' := s1.toks) hk
  refine ⟨s1.heap.objs.size + 1, [s1.heap.objs.size + 1, s1.heap.objs.size], _, _, H1, rfl, I2, turn_enumT a (s1.heap.objs.size + 1) s1.heap.objs.size, ⟨⟨.none, he⟩, ⟨_, hit, rfl, rfl⟩, Nat.succ_ne_self _, Nat.ne_of_gt (Nat.lt_succ_of_lt al), Nat.ne_of_lt al⟩, fun b hb => ?_, q⟩
  have lb : s1.heap.objs.size ≤ b := by
    rcases List.mem_cons.mp hb with z | z
    · rw [z]
      exact Nat.le_add_right _ _
    · rw [List.mem_singleton.mp z]
      exact Nat.le_refl _
  exact I1.fpOk lb (I1.hok.fresh lb)
theorem walk_enumT {K : PySem.W.Frag} {a : Addr} {xs : List V} : Walk (IteT K a) xs.length (fun H => SqT K H a xs) (YPair (fun i => some (.int (i : Nat))) (fun i => xs[i]?)) where
  goes := fun i H hi hG => ⟨xs, xs[i], hG, List.getElem?_eq_getElem hi⟩
  stops := fun H hG => ⟨xs, hG, Nat.le_refl _⟩
  yields := fun i H v H' hi hG ⟨T, x, ev, hT, eH, hx⟩ => ⟨T, _, x, ev, hT, eH, rfl, hx xs hG⟩
/-! ### max of three ints -/
theorem call_max3 {X : Cx} (hc : X.calm = true) : CallR X (.builtin "max") (fun xs H Q => ∃ i j k : Int, xs = [.int i, .int j, .int k] ∧ Q (.int (if k > (if j > i then j else i) then k else (if j > i then j else i))) H) := by
  intro pins s σ H xs us Q I r ⟨i, j, k, e, q⟩
  refine call_max3Nu hc pins s σ H xs us Q I r ⟨.int i, .int j, .int k, _, e, ?_, q⟩
  have two : ∀ a b : Int, nuMax2 (.int a) (.int b) = some (.int (if b > a then b else a)) := fun a b => by
    show some (if decide (a < b) = true then V.int b else V.int a) = _
    by_cases h : a < b
    · rw [decide_eq_true h, if_pos rfl, if_pos h]
    · rw [decide_eq_false h, if_neg Bool.false_ne_true, if_neg h]
  unfold nuMax3
  rw [two, Option.bind_some, two]
end Ch

set_option Elab.async false
set_option linter.all false
set_option autoImplicit false
set_option maxRecDepth 100000
set_option maxHeartbeats 4000000
namespace Ch
open PySem PySem.Spec PyProof.Rows L2
/-! ### calls by positional promises -/
def tCallR (sp : Sp) (E : XK) (t : TA) : TE := fun σ H Q => t σ H fun vs H1 => sp vs H1 Q E
def tMethR (C : Addr) (m : Str) (sp : Sp) (E : XK) (ta : TE) (t : TA) : TE := fun σ H Q => ta σ H fun x H1 => ∃ a dx fs, x = .ref a ∧ H1 a = some (.ins C dx fs) ∧ fs.lookup m = none ∧ t σ H1 fun vs H2 => sp (.ref a :: vs) H2 Q E
def tPropR (C : Addr) (sp : Sp) (E : XK) (ta : TE) : TE := fun σ H Q => ta σ H fun x H1 => ∃ a dx fs, x = .ref a ∧ H1 a = some (.ins C dx fs) ∧ sp [.ref a] H1 Q E
def tMk (C : Addr) (sp : Sp) (E : XK) (t : TA) : TE := fun σ H Q => t σ H fun vs H1 => ∀ x dx, H1 x = none → H1 dx = none → dx ≠ x → sp (.ref x :: vs) (upd (upd H1 dx (.own x)) x (.ins C dx [])) (fun v H2 => v = .non ∧ Q (.ref x) H2) E
section
variable {X : Cx} {CX : CXT} {k : Nat} {f C g p : Addr} {sp : Sp} {E : XK} {x m : Str} {np pos apos : Pos} {e o : Expr} {es : List Expr} {ta : TE} {t : TA}
theorem pe_callR (F : FnR X.prog X.w X.K X.mg X.base CX k f sp) (hr : Room k X.A) (hm : X.mg x = some (.ref f)) (hk : PySem.W.keepIn X.K (.ref f) = true) (hx : Passes CX X E) (hg : Gl X x) (ha : PA X (e :: es) t)
    (hd : (x == ("__debug__" : Str)) = false := by decide) (he : starEach (e :: es) X.env = (false, eval e X.env) :: starEach es X.env := by rfl) (hpl : (backTo pos (starEach es X.env)).any (·.1) = false := by rfl) :
    PE X (.Call (.Name x np) (e :: es) [] pos) (tCallR sp E t) :=
  ⟨fun pins s σ H Q I h => wpAny_Call_Name_kw (ld_glob I hg hm (PySem.W.callWith_K (h₀ := X.base) I.ok.mod.kin hk (thn (ha.run pos pins s σ H _ I h) fun us s1 ⟨vs, H1, I1, r, q⟩ => ⟨I1.kIn, wpAny_call (run_fnR F hr hx I1 r q)⟩) he hpl) hd)⟩
theorem pe_callR0 (F : FnR X.prog X.w X.K X.mg X.base CX k f sp) (hr : Room k X.A) (hm : X.mg x = some (.ref f)) (hk : PySem.W.keepIn X.K (.ref f) = true) (hx : Passes CX X E) (hg : Gl X x)
    (hd : (x == ("__debug__" : Str)) = false := by decide) : PE X (.Call (.Name x np) [] [] pos) (tCallR sp E tNil) :=
  ⟨fun pins s σ H Q I h => wpAny_Call_Name_kw (ld_glob I hg hm (PySem.W.callWith_K0 I.kIn hk (wpAny_call (run_fnR (us := []) F hr hx I .nil h))) hd)⟩
theorem pe_methR {pl : Sem Bool} (c : Cls X.K C) (hm : Meth X.K C m f) (F : FnR X.prog X.w X.K X.mg X.base CX k f sp) (hr : Room k X.A) (hx : Passes CX X E) (ho : PE X o ta) (ha : PA X (e :: es) t)
    (hst : starEach (e :: es) X.env = (false, eval e X.env) :: starEach es X.env := by rfl) (hpl : (backTo pos (starEach es X.env)).any (·.1) = false := by rfl)
    (ht : eval (.Call (.Attribute o m apos) (e :: es) [] pos) X.env = (do
      let rv ← eval o X.env
      standAt apos.atName
      let (fn, first) ← holding [rv] (getMethod rv m pl)
      callWith pos fn first (backTo pos (starEach (e :: es) X.env)) (backToKw pos (keywordEach [] X.env))) := by rfl) :
    PE X (.Call (.Attribute o m apos) (e :: es) [] pos) (tMethR C m sp E ta t) := by
  refine ⟨fun pins s σ H Q I h => PySem.W.methodCall_KW (pl := pl) (thn (ho.run pins s σ H _ I h) fun u s1 ⟨y, H1, I1, ry, a, dx, fs, ey, ea, l, q⟩ => ?_) ht⟩
  subst ey
  obtain rfl : u = Value.ref a := ry
  refine getmeth_ok I1 ea c hm l (PySem.W.callWith_K (first := [.ref a]) (h₀ := X.base) I.ok.mod.kin hm.kp (thn (ha.run pos pins s1 σ H1 _ I1 q) fun us s2 ⟨vs, H2, I2, r, q2⟩ => ⟨I2.kIn, ?_⟩) hst hpl)
  exact wpAny_call (run_fnR (us := .ref a :: us) (vs := .ref a :: vs) F hr hx I2 (.cons rfl r) q2)
theorem pe_methR0 {pl : Sem Bool} (c : Cls X.K C) (hm : Meth X.K C m f) (F : FnR X.prog X.w X.K X.mg X.base CX k f sp) (hr : Room k X.A) (hx : Passes CX X E) (ho : PE X o ta)
    (ht : eval (.Call (.Attribute o m apos) [] [] pos) X.env = (do
      let rv ← eval o X.env
      standAt apos.atName
      let (fn, first) ← holding [rv] (getMethod rv m pl)
      callWith pos fn first (backTo pos (starEach [] X.env)) (backToKw pos (keywordEach [] X.env))) := by rfl) :
    PE X (.Call (.Attribute o m apos) [] [] pos) (tMethR C m sp E ta tNil) := by
  refine ⟨fun pins s σ H Q I h => PySem.W.methodCall_KW (pl := pl) (thn (ho.run pins s σ H _ I h) fun u s1 ⟨y, H1, I1, ry, a, dx, fs, ey, ea, l, q⟩ => ?_) ht⟩
  subst ey
  obtain rfl : u = Value.ref a := ry
  exact getmeth_ok I1 ea c hm l (PySem.W.callWith_K0 (first := [.ref a]) I1.kIn hm.kp (wpAny_call (run_fnR (us := [.ref a]) (vs := [.ref a]) F hr hx I1 (.cons rfl .nil) q)))
/-- C(e, ..), C(), C(*e) -/
theorem pe_mk (M : Mk X.K C f) (F : FnR X.prog X.w X.K X.mg X.base CX k f sp) (hr : Room (k + 1) X.A) (hm : X.mg x = some (.ref C)) (hx : Passes CX X E) (hg : Gl X x) (ha : PA X (e :: es) t) (hd : (x == ("__debug__" : Str)) = false := by decide)
    (he : starEach (e :: es) X.env = (false, eval e X.env) :: starEach es X.env := by rfl) (hpl : (backTo pos (starEach es X.env)).any (·.1) = false := by rfl) : PE X (.Call (.Name x np) (e :: es) [] pos) (tMk C sp E t) :=
  StX.pe_makeR M F hr hg hm hx ha hd he hpl
theorem pe_mk0 (M : Mk X.K C f) (F : FnR X.prog X.w X.K X.mg X.base CX k f sp) (hr : Room (k + 1) X.A) (hm : X.mg x = some (.ref C)) (hx : Passes CX X E) (hg : Gl X x) (hd : (x == ("__debug__" : Str)) = false := by decide) :
    PE X (.Call (.Name x np) [] [] pos) (tMk C sp E tNil) :=
  ⟨fun pins s σ H Q I h => wpAny_Call_Name_kw (ld_glob I hg hm (PySem.W.callWith_K0 I.kIn M.kp (StX.run_makeR (us := []) M F hr hx I .nil h)) hd)⟩
def tStarA (K : PySem.W.Frag) (te : TE) : TA := fun σ H Q => te σ H fun y H1 => ∃ a xs, y = .ref a ∧ (SqT K H1 a xs ∨ SqL K H1 a xs) ∧ Q xs H1
theorem pe_mkS {sp_ : Pos} (M : Mk X.K C f) (F : FnR X.prog X.w X.K X.mg X.base CX k f sp) (hr : Room (k + 1) X.A) (hm : X.mg x = some (.ref C)) (hx : Passes CX X E) (hg : Gl X x) (he : PE X e ta) (hd : (x == ("__debug__" : Str)) = false := by decide)
    (hst : starEach [.Starred e sp_] X.env = [(true, eval e X.env)] := by rfl) : PE X (.Call (.Name x np) [.Starred e sp_] [] pos) (tMk C sp E (tStarA X.K ta)) := by
  refine ⟨fun pins s σ H Q I h => wpAny_Call_Name_kw (ld_glob I hg hm (PySem.W.callWith_S (h₀ := X.base) I.ok.mod.kin M.kp (thn (he.run pins s σ H _ I h) fun v s1 ⟨y, H1, I1, ry, a, xs, ey, hxs, q⟩ => ?_) hst) hd)⟩
  subst ey
  obtain rfl : v = Value.ref a := ry
  exact StX.star_any I1 hxs fun us s2 I2 rv => ⟨I2.kIn, StX.run_makeR M F hr hx I2 rv q⟩
/-- a property whose getter raises nothing -/
theorem pe_propR (c : Cls X.K C) (hp : PropOf X.K C m p g) (F : FnR X.prog X.w X.K X.mg X.base CX0 k g sp) (hr : Room (k + 1) X.A) (ho : PE X o ta) (hab : attributeBase o m X.env (eval o X.env) = eval o X.env := by rfl) : PE X (.Attribute o m pos) (tPropR C sp E0 ta) := by
  refine ⟨fun pins s σ H Q I h => attr_of hab (thn (ho.run pins s σ H _ I h) fun u s1 ⟨y, H1, I1, ry, a, dx, fs, ey, ea, q⟩ => ?_)⟩
  subst ey
  obtain rfl : u = Value.ref a := ry
  obtain ⟨mA, J, hl, wi, _⟩ := ins_get I1.hok ea
  obtain ⟨rest, hrec⟩ := hp.rec_
  have hc : (PySem.W.clsIn X.K C).isSome = true := by
    obtain ⟨cd, hcd, _⟩ := PySem.W.any_some c.hd
    rw [hcd]
    rfl
  obtain ⟨od, Ja, _⟩ := J.look
  refine PySem.W.get_bind I1.kIn Ja (PySem.W.plainGet_of (c.get m)).1 (PySem.W.findObj_data hc hp.at_ hp.get hp.tak) (PySem.W.plainGet_of (c.get m)).2 (wpAny_call (PySem.W.prop_get (s := { s1 with toks := s1.toks + 1 }) I1.kIn hrec ?_))
  have I2 : Inv X pins σ H1 { s1 with toks := s1.toks + 1 } := I1.tok _
  refine codeAny_mono (F X.A.in1 X.stack { s1 with toks := s1.toks + 1 } H1 [.ref a] [.ref a] Q E0 hr.in1 I2.env0.in1 (.cons rfl .nil) q) fun r s' hq => ?_
  cases r with
  | error er =>
    have hz : CX0 X.stack H1 { s1 with toks := s1.toks + 1 } E0 er s' := hq
    exact False.elim hz
  | ok fl =>
    cases fl with
    | ret u1 =>
      obtain ⟨v, H', I3, rv, q3⟩ := I2.after hq
      show wpAny _ _ (handedOut u1) _ _ _
      rw [PySem.W.handedOut_of (handed_of rv)]
      exact wpAny_pure ⟨v, H', I3, rv, q3⟩
    | next => exact False.elim hq
    | brk => exact False.elim hq
    | cont => exact False.elim hq
end
/-! ### defs to such promises -/
section
variable {P : Program} {w : World} {K : PySem.W.Frag} {mg : Str → Option Value} {base : Heap} {x qual : Str} {params : Arguments} {body : List Stmt} {scope : Scope} {kws : List (Str × V)} {f : Addr} {fd : FuncData}
/-- a def without defaults and stars -/
theorem def_ok {CX : CXT} {N ps : List Str} {k : Nat} {sp : Sp} (F : FunD K x qual params body scope [] kws f fd) (S : FnScope N ps scope)
    (hb : ∀ (kV doc pm : Value) (an : Option Addr) (cdv ct : Value) (us : List Value), us.length = ps.length → bindArgs (PySem.W.fnOf x qual params body scope .none kV doc pm an cdv ct) ⟨us, []⟩ = pure (ps.zip us))
    (len : ∀ vs H Q E, sp vs H Q E → vs.length = ps.length)
    (body_ok : ∀ (cdv : Value) (A : Around) (outer : List Env) (s : Shared) (H : Hp) (vs : List V) (Q : VK) (E : XK), Room k (A.deeper (envOfC qual scope s.heap.objs.size f cdv)) → sp vs H Q E →
      ∃ t, PSs (cxOf CX P w K mg base N qual scope f cdv A outer s H E) body t ∧ t { nx := fun _ H' => Q .non H', rt := Q } (start N vs) H) : FnOk P w K mg base CX (k + 1) f fd ps sp ∧ FnR P w K mg base CX (k + 1) f sp := by
  have G : FnOk P w K mg base CX (k + 1) f fd ps sp := F.ok S len body_ok
  refine ⟨G, (G.raw (F.bindsN hb) .nil).imp fun vs H Q E h => ?_⟩
  rw [List.append_nil]
  exact h
/-- def f(a, .., *v) -/
theorem star_ok {CX : CXT} {N ps : List Str} {k : Nat} {sp : Sp} {pv : Str} (F : FunD K x qual params body scope [] kws f fd) (S : FnScope N (ps ++ [pv]) scope) (hCX : StX.CXUp CX)
    (hb : ∀ (kV doc pm : Value) (an : Option Addr) (cdv ct : Value) (us rest : List Value), us.length = ps.length → bindArgs (PySem.W.fnOf x qual params body scope .none kV doc pm an cdv ct) ⟨us ++ rest, []⟩ = (newTuple rest >>= fun t => pure (ps.zip us ++ [(pv, t)])))
    (body_ok : ∀ (cdv : Value) (A : Around) (outer : List Env) (s : Shared) (H : Hp) (vs : List V) (Q : VK) (E : XK), Room k (A.deeper (envOfC qual scope s.heap.objs.size f cdv)) → sp vs H Q E →
      ∃ t, PSs (cxOf CX P w K mg base N qual scope f cdv A outer s H E) body t ∧ t { nx := fun _ H' => Q .non H', rt := Q } (start N vs) H) :
    FnR P w K mg base CX (k + 1) f (fun vs H Q E => ∃ ws rest, vs = ws ++ rest ∧ ws.length = ps.length ∧ rest.length ≤ sizeLine ∧ ∀ p, H p = none → sp (ws ++ [V.ref p]) (upd H p (.tup rest)) Q E) := by
  obtain ⟨oc, od, dV, kV, doc, pm, an, cdv, ct, osl, e1, lk, hcd, hD, hK⟩ := F.ex
  rcases hD with ⟨_, e2⟩ | ⟨ne, _⟩
  · subst e1 e2
    exact StX.fn_star lk hcd S hCX (hb kV doc pm an cdv ct) fun A outer s H vs Q E hr hsp => body_ok cdv A outer s H vs Q E hr hsp
  · exact absurd rfl ne
end
end Ch

set_option Elab.async false
set_option linter.all false
set_option autoImplicit false
set_option maxRecDepth 100000
set_option maxHeartbeats 4000000
namespace Ch
open PySem PySem.Spec PyProof.Rows L2
/-! ### heaps -/
theorem Same.new {H : Hp} {p : Addr} {o : HO} (h : H p = none) : Same H (upd H p o) := fun b u e => by
  rw [upd_ne (ne_of_none e h)]
  exact e
theorem Same.seqT {K : PySem.W.Frag} {H H' : Hp} {a : Addr} {xs : List V} (e : Same H H') (h : SqT K H a xs) : SqT K H' a xs := by
  rcases h with (h | ⟨o, h⟩) | h
  · exact .inl (.inl (e _ _ h))
  · exact .inl (.inr ⟨o, e _ _ h⟩)
  · exact .inr h
theorem Same.mut {H H' : Hp} {p : Addr} {o : HO} (e : Same H H') (h : H p = none) : Same H (upd H' p o) := fun b u q => by
  rw [upd_ne (ne_of_none q h)]
  exact e b u q
theorem tr {H H1 H2 : Hp} {a : Addr} {o : HO} (e : Same H H1) (h : H a = some o) : H1 a = some o := e a o h
theorem up {H : Hp} {a p : Addr} {o u : HO} (h : H a = some o) (n : H p = none) : (upd H p u) a = some o := by
  rw [upd_ne (ne_of_none h n)]
  exact h
theorem fr {H H1 : Hp} {a p : Addr} {o : HO} (e : Same H H1) (n : H1 p = none) (h : H a = some o) : a ≠ p := ne_of_none (e a o h) n
/-! ### operators of several kinds of values -/
variable {X : Cx}
def rPlus : R2 := fun x y H Q => (∃ i j, x = .int i ∧ y = .int j ∧ Q (.int (i + j)) H) ∨ rCat x y H Q ∨ (∃ i j, x = .str i ∧ y = .str j ∧ i.length + j.length ≤ sizeLine ∧ Q (.str (i ++ j)) H)
theorem op_plus : OpR X (binaryOp .Add) rPlus := op_add.or (op_cat.or op_add_str)
def rTimes : R2 := fun x y H Q => (∃ i j, x = .int i ∧ y = .int j ∧ CMul i j ∧ Q (.int (i * j)) H) ∨ rI CMulW (fun i j => .int (i * j)) x y H Q ∨ rRep x y H Q
theorem op_times : OpR X (binaryOp .Mult) rTimes := op_mul.or (op_mulW.or op_rep)
def rMinus : R2 := rI0 fun i j => .int (i - j)
theorem op_minus : OpR X (binaryOp .Sub) rMinus := op_sub
def rModP : R2 := rI (fun _ j => 0 < j) fun i j => .int (i % j)
theorem op_modP : OpR X (binaryOp .Mod) rModP := op_mod
def rDivP : R2 := rI CDivW fun i j => .int (i / j)
theorem op_divP : OpR X (binaryOp .FloorDiv) rDivP := op_fdivW
def rPowP : R2 := rI CPow fun i j => .int (i ^ j.toNat)
theorem op_powP : OpR X (binaryOp .Pow) rPowP := op_pow
def rEqU (K : PySem.W.Frag) : R2 := fun x y H Q => rEq x y H Q ∨ rEqD K x y H Q
theorem op_eqU (hu : X.A.units + 64 < cLine) : OpR X (compareOp .Eq) (rEqU X.K) := op_eq.or (op_eqD hu)
def rNeU (K : PySem.W.Frag) : R2 := fun x y H Q => rNe x y H Q ∨ rNeD K x y H Q
theorem op_neU (hu : X.A.units + 64 < cLine) : OpR X (compareOp .NotEq) (rNeU X.K) := op_ne.or (op_neD hu)
def rLtI : R2 := rI0 fun i j => .bl (decide (i < j))
def rLeI : R2 := rI0 fun i j => .bl (decide (i ≤ j))
def rGtI : R2 := rI0 fun i j => .bl (decide (j < i))
def rGeI : R2 := rI0 fun i j => .bl (decide (j ≤ i))
theorem op_ltI : OpR X (compareOp .Lt) rLtI := op_lt
theorem op_leI : OpR X (compareOp .LtE) rLeI := op_le
theorem op_gtI : OpR X (compareOp .Gt) rGtI := op_gt
theorem op_geI : OpR X (compareOp .GtE) rGeI := op_ge
def rInU (K : PySem.W.Frag) : R2 := fun x y H Q => rIn K false x y H Q ∨ (∃ i j, x = .str i ∧ y = .str j ∧ Q (.bl (!(Builtin.Str.occurrences j i 0 j.length 1).isEmpty)) H)
theorem op_inU : OpR X (compareOp .In) (rInU X.K) := op_in_seq.or op_in_str
def rNotInU (K : PySem.W.Frag) : R2 := fun x y H Q => rIn K true x y H Q ∨ (∃ i j, x = .str i ∧ y = .str j ∧ Q (.bl (!(!(Builtin.Str.occurrences j i 0 j.length 1).isEmpty))) H)
theorem op_notInU : OpR X (compareOp .NotIn) (rNotInU X.K) := op_notIn_seq.or op_notIn_str
/-! ### built-ins by named readings -/
def rLn (K : PySem.W.Frag) : List V → Hp → VK → Prop := fun xs H Q => ∃ x n, xs = [x] ∧ LenV K x H n ∧ Q (.int n) H
theorem c_len : CallR X (.builtin "len") (rLn X.K) := call_len
def rI1 : List V → Hp → VK → Prop := fun xs H Q => (∃ i, xs = [.int i] ∧ Q (.int i) H) ∨ ∃ k, xs = [.bl k] ∧ Q (.int (if k then 1 else 0)) H
theorem c_int : CallR X (.type "int") rI1 := call_int1
def rMx2 : List V → Hp → VK → Prop := fun xs H Q => ∃ i j : Int, xs = [.int i, .int j] ∧ Q (.int (if j > i then j else i)) H
theorem c_max2 (hc : X.calm = true) : CallR X (.builtin "max") rMx2 := call_max2 hc
def rMn2 : List V → Hp → VK → Prop := fun xs H Q => ∃ i j : Int, xs = [.int i, .int j] ∧ Q (.int (if j < i then j else i)) H
theorem c_min2 (hc : X.calm = true) : CallR X (.builtin "min") rMn2 := call_min2 hc
def rMx3 : List V → Hp → VK → Prop := fun xs H Q => ∃ i j k : Int, xs = [.int i, .int j, .int k] ∧ Q (.int (if k > (if j > i then j else i) then k else (if j > i then j else i))) H
theorem c_max3 (hc : X.calm = true) : CallR X (.builtin "max") rMx3 := call_max3 hc
def rAb : List V → Hp → VK → Prop := fun xs H Q => ∃ i : Int, xs = [.int i] ∧ Q (.int (if i < 0 then -i else i)) H
theorem c_abs : CallR X (.builtin "abs") rAb := call_abs
def rLs (K : PySem.W.Frag) : List V → Hp → VK → Prop := fun xs H Q => ∃ p ys, xs = [.ref p] ∧ (SqL K H p ys ∨ SqT K H p ys) ∧ ∀ l, H l = none → Q (.ref l) (upd H l (.lst ys))
theorem c_list : CallR X (.type "list") (rLs X.K) := call_list_of
def rTu (K : PySem.W.Frag) : List V → Hp → VK → Prop := fun xs H Q => ∃ p ys, xs = [.ref p] ∧ ((SqL K H p ys ∧ ∀ l, H l = none → Q (.ref l) (upd H l (.tup ys))) ∨ (SqT K H p ys ∧ Q (.ref p) H))
theorem c_tuple : CallR X (.type "tuple") (rTu X.K) := call_tuple_of
/-- a module's text -/
theorem pe_gs {x z : Str} {pos : Pos} (h : ∃ t, X.mg x = some (.str z t)) (hg : Gl X x) (hd : (x == ("__debug__" : Str)) = false := by decide) : PE X (.Name x pos) (tC (.str z)) := by
  obtain ⟨t, e⟩ := h
  exact pe_glob hg e ⟨t, rfl⟩ hd
theorem pe_gi {x : Str} {z : Int} {pos : Pos} (h : ∃ t, X.mg x = some (.int z t)) (hg : Gl X x) (hd : (x == ("__debug__" : Str)) = false := by decide) : PE X (.Name x pos) (tC (.int z)) := by
  obtain ⟨t, e⟩ := h
  exact pe_glob hg e ⟨t, rfl⟩ hd
theorem pe_gr {x : Str} {a : Addr} {pos : Pos} (h : X.mg x = some (.ref a)) (hg : Gl X x) (hd : (x == ("__debug__" : Str)) = false := by decide) : PE X (.Name x pos) (tC (.ref a)) := pe_glob hg h rfl hd
/-- e.NAME, e a class -/
def tCV (v : V) : TE := tC v
theorem pe_cv {x f : Str} {C : Addr} {v : V} {np pos : Pos} (h : X.mg x = some (.ref C)) (r : ClX.CRead X.K C (.type "type")) (k : ∃ u, ClX.CVal X.K C (.type "type") f v u) (hg : Gl X x) (hd : (x == ("__debug__" : Str)) = false := by decide)
    (hb : attributeBase (.Name x np) f X.env (eval (.Name x np) X.env) = eval (.Name x np) X.env := by rfl) : PE X (.Attribute (.Name x np) f pos) (tC v) := by
  obtain ⟨u, k⟩ := k
  exact ⟨fun pins s σ H Q I q => (ClX.pe_cval (pe_gr h hg hd) hb).run pins s σ H Q I ⟨C, .type "type", v, u, rfl, r, k, q⟩⟩
/-! ### steps -/
section
variable {σ : L2.St} {H : Hp} {Q : VK} {QT : Bool → Hp → Prop} {QA : List V → Hp → Prop} {QS : L2.St → Hp → Prop} {D : Ends} {ta tb tc td te : TE} {t u tx ty : TT} {t1 t2 : TS} {r r' r'' : R2} {a : TA} {v x y z : V} {i j k : Int} {p q l : Addr} {b c : Bool} {xs ys : List V} {K : PySem.W.Frag} {sp : Sp} {E : XK} {C dx : Addr} {f m : Str} {fs : List (Str × V)} {n : Nat} {g : TG}
theorem x_var {n : Nat} (h : σ[n]? = some (some v)) (k : Q v H) : tVar n σ H Q := ⟨v, h, k⟩
theorem x_c (k : Q v H) : tC v σ H Q := k
theorem x_op (k : ta σ H fun x H1 => tb σ H1 fun y H2 => r x y H2 Q) : tOp r ta tb σ H Q := k
theorem x_un {r : V → Hp → VK → Prop} (k : ta σ H fun x H1 => r x H1 Q) : tUn r ta σ H Q := k
theorem x_test (k : te σ H fun x H' => ∃ k, x = .bl k ∧ QT k H') : tTest te σ H QT := k
theorem x_B (k : te σ H fun x H' => ∃ k, x = .bl k ∧ QT k H') : tB te σ H QT := k
theorem x_bl (k : QT b H) : ∃ k, V.bl b = .bl k ∧ QT k H := ⟨b, rfl, k⟩
theorem x_ex {R : Bool → Prop} (k : R b) : ∃ c, V.bl b = .bl c ∧ R c := ⟨b, rfl, k⟩
theorem x_nT {A B : Prop} (k : B) : if (!true) = true then A else B := k
theorem x_nF {A B : Prop} (k : A) : if (!false) = true then A else B := k
theorem x_and (k : t σ H fun c H1 => if c = true then u σ H1 QT else QT false H1) : tAnd t u σ H QT := k
theorem x_or (k : t σ H fun c H1 => if c = true then QT true H1 else u σ H1 QT) : tOr t u σ H QT := k
theorem x_not (k : t σ H fun c H1 => QT (!c) H1) : tNot t σ H QT := k
theorem x_andV (k : ta σ H fun x H1 => ∃ c, x = .bl c ∧ if c = true then tb σ H1 Q else Q (.bl false) H1) : tAndV ta tb σ H Q := k
theorem x_orV (k : ta σ H fun x H1 => ∃ c, x = .bl c ∧ if c = true then Q (.bl true) H1 else tb σ H1 Q) : tOrV ta tb σ H Q := k
theorem x_notV (k : ta σ H fun x H1 => ∃ c, x = .bl c ∧ Q (.bl (!c)) H1) : tNotV ta σ H Q := k
theorem x_ifE (k : t σ H fun c H1 => if c = true then ta σ H1 Q else tb σ H1 Q) : tIf t ta tb σ H Q := k
theorem x_chain (k : ta σ H fun x H1 => tb σ H1 fun y H2 => r x y H2 fun z H3 => ∃ k, z = .bl k ∧ (if k = true then tc σ H3 fun w' H4 => r' y w' H4 Q else Q (.bl false) H3)) : tChain r r' ta tb tc σ H Q := k
theorem x_chain3 (k : ta σ H fun x H1 => tb σ H1 fun y H2 => r x y H2 fun z H3 => ∃ k, z = .bl k ∧ (if k = true then tc σ H3 fun x2 H4 => r' y x2 H4 fun z2 H5 => ∃ k2, z2 = .bl k2 ∧ (if k2 = true then td σ H5 fun x3 H6 => r'' x2 x3 H6 Q else Q (.bl false) H5) else Q (.bl false) H3)) : tChain3 r r' r'' ta tb tc td σ H Q := k
theorem x_next (k : D.nx σ H) : tNext D σ H := k
theorem x_seq (k : t1 { D with nx := t2 D } σ H) : tSeq t1 t2 D σ H := k
theorem x_drop (k : te σ H fun _ H1 => D.nx σ H1) : tDrop te D σ H := k
theorem x_ret (k : te σ H D.rt) : tRet te D σ H := k
theorem x_ifS (k : t σ H fun b H1 => if b = true then t1 D σ H1 else t2 D σ H1) : tIfS t t1 t2 D σ H := k
theorem x_asg (k : te σ H fun x H1 => g x σ H1 D.nx) : tAsg te g D σ H := k
theorem x_gname {n : Nat} (k : QS (σ.set n (some v)) H) : gName n v σ H QS := k
theorem x_cons (k : te σ H fun x H1 => a σ H1 fun xs H2 => QA (x :: xs) H2) : tCons te a σ H QA := k
theorem x_nil (k : QA [] H) : tNil σ H QA := k
theorem x_tup (k : a σ H fun xs H1 => xs.length ≤ sizeLine ∧ ∀ p, H1 p = none → Q (.ref p) (upd H1 p (.tup xs))) : tTup a σ H Q := k
theorem x_lst (k : a σ H fun xs H1 => xs.length ≤ sizeLine ∧ ∀ p, H1 p = none → Q (.ref p) (upd H1 p (.lst xs))) : tLst a σ H Q := k
theorem x_cb {r : List V → Hp → VK → Prop} (k : a σ H fun vs H1 => r vs H1 Q) : tCB r a σ H Q := k
theorem x_call (k : a σ H fun vs H1 => sp vs H1 Q E) : tCallR sp E a σ H Q := k
theorem x_mk (k : a σ H fun vs H1 => ∀ x dx, H1 x = none → H1 dx = none → dx ≠ x → sp (.ref x :: vs) (upd (upd H1 dx (.own x)) x (.ins C dx [])) (fun v H2 => v = .non ∧ Q (.ref x) H2) E) : tMk C sp E a σ H Q := k
def rMeth (C : Addr) (m : Str) (k : Addr → Hp → Prop) (x : V) (H : Hp) : Prop := ∃ a dx fs, x = .ref a ∧ H a = some (.ins C dx fs) ∧ fs.lookup m = none ∧ k a H
theorem x_meth (k : ta σ H (rMeth C m fun p H1 => a σ H1 fun vs H2 => sp (.ref p :: vs) H2 Q E)) : tMethR C m sp E ta a σ H Q := k
theorem x_methAt {kk : Addr → Hp → Prop} (h : H p = some (.ins C dx fs)) (l : fs.lookup m = none) (k : kk p H) : rMeth C m kk (.ref p) H := ⟨p, dx, fs, rfl, h, l, k⟩
def rProp (C : Addr) (sp : Sp) (E : XK) (x : V) (H : Hp) (Q : VK) : Prop := ∃ a dx fs, x = .ref a ∧ H a = some (.ins C dx fs) ∧ sp [.ref a] H Q E
theorem x_prop (k : ta σ H fun x H1 => rProp C sp E x H1 Q) : tPropR C sp E ta σ H Q := k
theorem x_propAt (h : H p = some (.ins C dx fs)) (k : sp [.ref p] H Q E) : rProp C sp E (.ref p) H Q := ⟨p, dx, fs, rfl, h, k⟩
def rFld (K : PySem.W.Frag) (f : Str) (x : V) (H : Hp) (Q : VK) : Prop := ∃ a C dx fs v, x = .ref a ∧ H a = some (.ins C dx fs) ∧ Cls K C ∧ NoAttr K C f ∧ fs.lookup f = some v ∧ Q v H
theorem x_fld (k : ta σ H fun x H1 => rFld K f x H1 Q) : tFld K ta f σ H Q := k
theorem x_fldAt (h : H p = some (.ins C dx fs)) (c : Cls K C) (na : NoAttr K C f) (l : fs.lookup f = some v) (k : Q v H) : rFld K f (.ref p) H Q := ⟨p, C, dx, fs, v, rfl, h, c, na, l, k⟩
def rSet (K : PySem.W.Frag) (f : Str) (y x : V) (H : Hp) (k : Hp → Prop) : Prop := ∃ a C dx fs, x = .ref a ∧ H a = some (.ins C dx fs) ∧ Cls K C ∧ NoAttr K C f ∧ fs.length < 1000 ∧ k (upd H a (.ins C dx (putF f y fs)))
theorem x_setf (k : te σ H fun y H1 => ta σ H1 fun x H2 => rSet K f y x H2 fun H3 => D.nx σ H3) : sFld K ta te f D σ H := k
theorem x_setAt {kk : Hp → Prop} (h : H p = some (.ins C dx fs)) (c : Cls K C) (na : NoAttr K C f) (l : fs.length < 1000) (k : kk (upd H p (.ins C dx (putF f v fs)))) : rSet K f v (.ref p) H kk := ⟨p, C, dx, fs, rfl, h, c, na, l, k⟩
theorem x_starA (k : te σ H fun y H1 => ∃ a xs, y = .ref a ∧ (SqT K H1 a xs ∨ SqL K H1 a xs) ∧ QA xs H1) : tStarA K te σ H QA := k
/-! values -/
theorem x_plusI (k : Q (.int (i + j)) H) : rPlus (.int i) (.int j) H Q := .inl ⟨i, j, rfl, rfl, k⟩
theorem x_plusL (h1 : H p = some (.lst xs)) (h2 : H q = some (.lst ys)) (h3 : xs.length + ys.length ≤ sizeLine) (k : ∀ r, H r = none → Q (.ref r) (upd H r (.lst (xs ++ ys)))) : rPlus (.ref p) (.ref q) H Q := .inr (.inl ⟨p, q, xs, ys, rfl, rfl, h1, h2, h3, k⟩)
theorem x_minus (k : Q (.int (i - j)) H) : rMinus (.int i) (.int j) H Q := ⟨i, j, rfl, rfl, k⟩
theorem x_timesI (h : CMul i j) (k : Q (.int (i * j)) H) : rTimes (.int i) (.int j) H Q := .inl ⟨i, j, rfl, rfl, h, k⟩
theorem x_timesW (h : CMulW i j) (k : Q (.int (i * j)) H) : rTimes (.int i) (.int j) H Q := .inr (.inl ⟨i, j, rfl, rfl, h, k⟩)
theorem x_mod (h : 0 < j) (k : Q (.int (i % j)) H) : rModP (.int i) (.int j) H Q := ⟨i, j, rfl, rfl, h, k⟩
theorem x_div (h : CDivW i j) (k : Q (.int (i / j)) H) : rDivP (.int i) (.int j) H Q := ⟨i, j, rfl, rfl, h, k⟩
theorem x_pow (h : CPow i j) (k : Q (.int (i ^ j.toNat)) H) : rPowP (.int i) (.int j) H Q := ⟨i, j, rfl, rfl, h, k⟩
theorem x_lt (k : Q (.bl (decide (i < j))) H) : rLtI (.int i) (.int j) H Q := ⟨i, j, rfl, rfl, k⟩
theorem x_le (k : Q (.bl (decide (i ≤ j))) H) : rLeI (.int i) (.int j) H Q := ⟨i, j, rfl, rfl, k⟩
theorem x_gt (k : Q (.bl (decide (j < i))) H) : rGtI (.int i) (.int j) H Q := ⟨i, j, rfl, rfl, k⟩
theorem x_ge (k : Q (.bl (decide (j ≤ i))) H) : rGeI (.int i) (.int j) H Q := ⟨i, j, rfl, rfl, k⟩
theorem x_eqI (k : Q (.bl (decide (i = j))) H) : rEqU K (.int i) (.int j) H Q := .inl ⟨rfl, by rw [show decide (V.int i = V.int j) = decide (i = j) by simp]; exact k⟩
theorem x_neI (k : Q (.bl (!decide (i = j))) H) : rNeU K (.int i) (.int j) H Q := .inl ⟨rfl, by rw [show decide (V.int i = V.int j) = decide (i = j) by simp]; exact k⟩
theorem x_eqS {i j : Str} (k : Q (.bl (decide (i = j))) H) : rEqU K (.str i) (.str j) H Q := .inl ⟨rfl, by rw [show decide (V.str i = V.str j) = decide (i = j) by simp]; exact k⟩
theorem x_eqB {i j : Bool} (k : Q (.bl (decide (i = j))) H) : rEqU K (.bl i) (.bl j) H Q := .inl ⟨rfl, by rw [show decide (V.bl i = V.bl j) = decide (i = j) by simp]; exact k⟩
theorem x_neB {i j : Bool} (k : Q (.bl (!decide (i = j))) H) : rNeU K (.bl i) (.bl j) H Q := .inl ⟨rfl, by rw [show decide (V.bl i = V.bl j) = decide (i = j) by simp]; exact k⟩
theorem x_eqDp {d e : PyData} (h1 : Dp K H x d) (h2 : Dp K H y e) (h3 : SeqAt.shaped d = true) (h4 : SeqAt.shaped e = true) (k : Q (.bl (PyData.eqv d e)) H) : rEqU K x y H Q := .inr ⟨d, e, h1, h2, h3, h4, k⟩
theorem x_neDp {d e : PyData} (h1 : Dp K H x d) (h2 : Dp K H y e) (h3 : SeqAt.shaped d = true) (h4 : SeqAt.shaped e = true) (k : Q (.bl (!PyData.eqv d e)) H) : rNeU K x y H Q := .inr ⟨d, e, h1, h2, h3, h4, k⟩
theorem x_isN {x : V} (k : Q (.bl (decide (x = .non))) H) (e : te σ H fun y H1 => Q (.bl (decide (y = .non))) H1) : tIsN te σ H Q := e
theorem x_isNe (e : te σ H fun y H1 => Q (.bl (decide (y = .non))) H1) : tIsN te σ H Q := e
theorem x_notNe (e : te σ H fun y H1 => Q (.bl (!decide (y = .non))) H1) : tNotN te σ H Q := e
theorem x_ixL (h : SqL K H p xs) (a : atI xs i = some v) (k : Q v H) : rIx K (.ref p) (.int i) H Q := .inl ⟨p, xs, i, v, rfl, rfl, h, a, k⟩
theorem x_ixT (h : SqT K H p xs) (a : atI xs i = some v) (k : Q v H) : rIx K (.ref p) (.int i) H Q := .inr (.inl ⟨p, xs, i, v, rfl, rfl, h, a, k⟩)
theorem x_inT (h : SqT K H p xs) (h1 : flatV x = true) (h2 : xs.all flatV = true) (k : Q (.bl (inV x xs)) H) : rInU K x (.ref p) H Q := .inl ⟨p, xs, rfl, .inr h, h1, h2, k⟩
theorem x_inL (h : SqL K H p xs) (h1 : flatV x = true) (h2 : xs.all flatV = true) (k : Q (.bl (inV x xs)) H) : rInU K x (.ref p) H Q := .inl ⟨p, xs, rfl, .inl h, h1, h2, k⟩
theorem x_lenL (h : SqL K H p xs) (k : Q (.int xs.length) H) : rLn K [.ref p] H Q := ⟨.ref p, xs.length, rfl, .inl ⟨xs, h, rfl⟩, k⟩
theorem x_lenT (h : SqT K H p xs) (k : Q (.int xs.length) H) : rLn K [.ref p] H Q := ⟨.ref p, xs.length, rfl, .inr ⟨xs, h, rfl⟩, k⟩
theorem x_int (k : Q (.int i) H) : rI1 [.int i] H Q := .inl ⟨i, rfl, k⟩
theorem x_intB (k : Q (.int (if b then 1 else 0)) H) : rI1 [.bl b] H Q := .inr ⟨b, rfl, k⟩
theorem x_max2 (k : Q (.int (if j > i then j else i)) H) : rMx2 [.int i, .int j] H Q := ⟨i, j, rfl, k⟩
theorem x_min2 (k : Q (.int (if j < i then j else i)) H) : rMn2 [.int i, .int j] H Q := ⟨i, j, rfl, k⟩
theorem x_max3 {w : Int} (k : Q (.int (if w > (if j > i then j else i) then w else (if j > i then j else i))) H) : rMx3 [.int i, .int j, .int w] H Q := ⟨i, j, w, rfl, k⟩
theorem x_abs (k : Q (.int (if i < 0 then -i else i)) H) : rAb [.int i] H Q := ⟨i, rfl, k⟩
theorem x_listL (h : SqL K H p xs) (k : ∀ l, H l = none → Q (.ref l) (upd H l (.lst xs))) : rLs K [.ref p] H Q := ⟨p, xs, rfl, .inl h, k⟩
theorem x_listT (h : SqT K H p xs) (k : ∀ l, H l = none → Q (.ref l) (upd H l (.lst xs))) : rLs K [.ref p] H Q := ⟨p, xs, rfl, .inr h, k⟩
theorem x_neg (k : Q (.int (-i)) H) : rU (fun i => .int (-i)) (.int i) H Q := ⟨i, rfl, k⟩
/-! ways -/
theorem x_if {A B : Prop} (hT : b = true → A) (hF : b = false → B) : if b = true then A else B := by
  cases b with
  | true => exact hT rfl
  | false => exact hF rfl
theorem x_ifd {c A B : Prop} [Decidable c] (hT : c → A) (hF : ¬ c → B) : if decide c = true then A else B := by
  by_cases h : c
  · rw [decide_eq_true h]
    exact hT h
  · rw [decide_eq_false h]
    exact hF h
theorem x_ifnd {c A B : Prop} [Decidable c] (hT : ¬ c → A) (hF : c → B) : if (!decide c) = true then A else B := by
  by_cases h : c
  · rw [decide_eq_true h]
    exact hF h
  · rw [decide_eq_false h]
    exact hT h
theorem x_T {A B : Prop} (h : A) : if true = true then A else B := h
theorem x_F {A B : Prop} (h : B) : if false = true then A else B := h
end
end Ch
namespace Ch
open PySem PySem.Spec PyProof.Rows L2
section
variable {H : Hp} {Q : VK} {K : PySem.W.Frag} {p : Addr} {xs : List V} {i : Int} {b : Bool} {z : Str}
theorem x_isiB {x : V} {a n : String} {r : Bool} (t : TyX K H x (.type a)) (h : kitB a n = some r) (k : Q (.bl r) H) : rIsi K [x, .ty n] H Q := ⟨x, .ty n, .type a, .type n, r, rfl, .ty n, t, kit_ty h, k⟩
theorem x_isi_ii (k : Q (.bl true) H) : rIsi K [.int i, .ty "int"] H Q := x_isiB (.base (.int i)) (by decide +kernel) k
theorem x_isi_ib (k : Q (.bl false) H) : rIsi K [.int i, .ty "bool"] H Q := x_isiB (.base (.int i)) (by decide +kernel) k
theorem x_isi_bi (k : Q (.bl true) H) : rIsi K [.bl b, .ty "int"] H Q := x_isiB (.base (.bl b)) (by decide +kernel) k
theorem x_isi_bb (k : Q (.bl true) H) : rIsi K [.bl b, .ty "bool"] H Q := x_isiB (.base (.bl b)) (by decide +kernel) k
theorem x_isi_tt (h : H p = some (.tup xs)) (k : Q (.bl true) H) : rIsi K [.ref p, .ty "tuple"] H Q := x_isiB (.base (.tup h)) (by decide +kernel) k
theorem x_isi_lt (h : H p = some (.lst xs)) (k : Q (.bl false) H) : rIsi K [.ref p, .ty "tuple"] H Q := x_isiB (.base (.lst h)) (by decide +kernel) k
theorem x_isi_tl (h : H p = some (.tup xs)) (k : Q (.bl false) H) : rIsi K [.ref p, .ty "list"] H Q := x_isiB (.base (.tup h)) (by decide +kernel) k
theorem x_isi_ll (h : H p = some (.lst xs)) (k : Q (.bl true) H) : rIsi K [.ref p, .ty "list"] H Q := x_isiB (.base (.lst h)) (by decide +kernel) k
theorem sz {xs : List V} (h : Nat.ble xs.length sizeLine = true) : xs.length ≤ sizeLine := Nat.le_of_ble_eq_true h
theorem sz5 {n : Nat} (h : n ≤ 100000) : n ≤ sizeLine := Nat.le_trans h (by decide)
theorem sz5' {n : Nat} (h : n < 100000) : n < sizeLine := Nat.lt_of_lt_of_le h (by decide)
end
end Ch
/-! ### loops -/
namespace Ch
open PySem PySem.Spec PyProof.Rows L2
def ForB (J : It) (g : TG) (tb : TS) (D : Ends) (σ : L2.St) (H1 : Hp) : Prop := ∃ W : Nat → Nat → L2.St → Hp → Prop, (∃ m, W 0 m σ H1) ∧ ∀ i m σ H, W i m σ H →
  (J.stop i H ∧ D.nx σ H) ∨ (J.go i H ∧ ∃ N : L2.St → Hp → Prop, (∀ σ' H', N σ' H' → ∃ m', m' < m ∧ W (i + 1) m' σ' H') ∧ ∀ x H', J.yld i H x H' → g x σ H' fun σ2 H2 => tb { D with nx := N, ct := N, bk := D.nx } σ2 H2)
def rIL (K : PySem.W.Frag) (x : V) (H : Hp) (R : It → Hp → Prop) : Prop := ∃ a, x = .ref a ∧ (∃ xs, SqL K H a xs) ∧ R (Itl K a) H
def rIT (K : PySem.W.Frag) (x : V) (H : Hp) (R : It → Hp → Prop) : Prop := ∃ a, x = .ref a ∧ (∃ xs, SqT K H a xs) ∧ R (Itt K a) H
def rIE (K : PySem.W.Frag) (vs : List V) (H : Hp) (R : It → Hp → Prop) : Prop := ∃ a xs, vs = [.ref a] ∧ SqL K H a xs ∧ R (Ite K a) H
def rIU (K : PySem.W.Frag) (vs : List V) (H : Hp) (R : It → Hp → Prop) : Prop := ∃ a xs, vs = [.ref a] ∧ SqT K H a xs ∧ R (IteT K a) H
def rIR1 (vs : List V) (H : Hp) (R : It → Hp → Prop) : Prop := ∃ j : Int, vs = [.int j] ∧ -(2 ^ 62) ≤ j ∧ j < 2 ^ 62 ∧ R (Itr 0 j.toNat) H
def rIR2 (vs : List V) (H : Hp) (R : It → Hp → Prop) : Prop := ∃ i j : Int, vs = [.int i, .int j] ∧ (-(2 ^ 62) ≤ i ∧ i < 2 ^ 62 ∧ -(2 ^ 62) ≤ j ∧ j < 2 ^ 62) ∧ R (Itr i (j - i).toNat) H
section
variable {σ : L2.St} {H : Hp} {R : It → Hp → Prop} {D : Ends} {wi : TI} {g : TG} {tb : TS} {tl : TE} {ta : TA} {K : PySem.W.Frag} {p : Addr} {xs : List V} {i j : Int}
theorem x_for (k : wi σ H fun J H1 => ForB J g tb D σ H1) : tFor wi g tb D σ H := k
theorem x_iL (k : tl σ H fun x H1 => rIL K x H1 R) : iList K tl σ H R := k
theorem x_iT (k : tl σ H fun x H1 => rIT K x H1 R) : iTup K tl σ H R := k
theorem x_iE (k : ta σ H fun x H1 => rIE K x H1 R) : iEnum K ta σ H R := k
theorem x_iU (k : ta σ H fun x H1 => rIU K x H1 R) : iEnumT K ta σ H R := k
theorem x_iR1 (k : ta σ H fun x H1 => rIR1 x H1 R) : iRng1 ta σ H R := k
theorem x_iR2 (k : ta σ H fun x H1 => rIR2 x H1 R) : iRng2 ta σ H R := k
theorem x_iLAt (h : SqL K H p xs) (k : R (Itl K p) H) : rIL K (.ref p) H R := ⟨p, rfl, ⟨xs, h⟩, k⟩
theorem x_iTAt (h : SqT K H p xs) (k : R (Itt K p) H) : rIT K (.ref p) H R := ⟨p, rfl, ⟨xs, h⟩, k⟩
theorem x_iEAt (h : SqL K H p xs) (k : R (Ite K p) H) : rIE K [.ref p] H R := ⟨p, xs, rfl, h, k⟩
theorem x_iUAt (h : SqT K H p xs) (k : R (IteT K p) H) : rIU K [.ref p] H R := ⟨p, xs, rfl, h, k⟩
theorem x_iR1At (h0 : -(2 ^ 62) ≤ j) (h1 : j < 2 ^ 62) (k : R (Itr 0 j.toNat) H) : rIR1 [.int j] H R := ⟨j, rfl, h0, h1, k⟩
theorem x_iR2At (h : -(2 ^ 62) ≤ i ∧ i < 2 ^ 62 ∧ -(2 ^ 62) ≤ j ∧ j < 2 ^ 62) (k : R (Itr i (j - i).toNat) H) : rIR2 [.int i, .int j] H R := ⟨i, j, rfl, h, k⟩
theorem x_loop {J : It} {n : Nat} {G : Hp → Prop} {Y : Nat → Hp → V → Hp → Prop} (w : Walk J n G Y) (Pv : Nat → L2.St → Hp → Prop) (h0 : Pv 0 σ H) (hG : ∀ i σ H, i ≤ n → Pv i σ H → G H)
    (hs : ∀ i x σ H H', i < n → Pv i σ H → Y i H x H' → g x σ H' fun σ2 H2 => tb { D with nx := Pv (i + 1), ct := Pv (i + 1), bk := D.nx } σ2 H2) (hd : ∀ σ H, Pv n σ H → D.nx σ H) : ForB J g tb D σ H := for_it w Pv h0 hG hs hd
/-! targets -/
theorem x_gTup {n : Nat} {t : TGs} {QS : L2.St → Hp → Prop} (h : H p = some (.tup xs)) (e : xs.length = n) (k : t xs σ H QS) : gTup K n t (.ref p) σ H QS := ⟨p, xs, rfl, SqT.of h, e, k⟩
theorem x_gTupT {n : Nat} {t : TGs} {QS : L2.St → Hp → Prop} (h : SqT K H p xs) (e : xs.length = n) (k : t xs σ H QS) : gTup K n t (.ref p) σ H QS := ⟨p, xs, rfl, h, e, k⟩
theorem x_gStar {n i : Nat} {t : TGs} {QS : L2.St → Hp → Prop} (h : H p = some (.tup xs)) (h1 : i < n) (h2 : n ≤ xs.length + 1) (h3 : xs.length ≤ 16384) (k : ∀ d, H d = none → t (xs.take i ++ [.ref d] ++ (xs.drop i).drop (xs.length + 1 - n)) σ (upd H d (.lst ((xs.drop i).take (xs.length + 1 - n)))) QS) : gStar K n i t (.ref p) σ H QS :=
  ⟨p, xs, rfl, SqT.of h, h1, h2, h3, k⟩
theorem x_star1 {t : TGs} {a : V} {QS : L2.St → Hp → Prop} (h : H p = some (.tup [a])) (k : ∀ d, H d = none → t [a, .ref d] σ (upd H d (.lst [])) QS) : gStar K 2 1 t (.ref p) σ H QS := ⟨p, [a], rfl, SqT.of h, by decide, Nat.le_refl 2, Nat.le_of_ble_eq_true rfl, k⟩
theorem x_star2 {t : TGs} {a b : V} {QS : L2.St → Hp → Prop} (h : H p = some (.tup [a, b])) (k : ∀ d, H d = none → t [a, .ref d] σ (upd H d (.lst [b])) QS) : gStar K 2 1 t (.ref p) σ H QS := ⟨p, [a, b], rfl, SqT.of h, by decide, Nat.le_of_ble_eq_true rfl, Nat.le_of_ble_eq_true rfl, k⟩
theorem x_gcons {t : TG} {u : TGs} {v : V} {vs : List V} {QS : L2.St → Hp → Prop} (k : t v σ H fun σ' H' => u vs σ' H' QS) : gCons t u (v :: vs) σ H QS := ⟨v, vs, rfl, k⟩
theorem x_gnil {QS : L2.St → Hp → Prop} (k : QS σ H) : gNil [] σ H QS := ⟨rfl, k⟩
theorem x_par {i j : Nat} (k : ta σ H fun vs H1 => ∃ u v, vs = [u, v] ∧ D.nx ((σ.set i (some u)).set j (some v)) H1) : tPar i j ta D σ H := k
theorem x_app {l : Addr} {v : V} {Q : VK} (h : H l = some (.lst xs)) (h1 : xs.length < sizeLine) (k : Q .non (upd H l (.lst (xs ++ [v])))) : rAppend (.ref l) [v] H Q := ⟨l, xs, v, rfl, rfl, h, h1, k⟩
def rBM (K : PySem.W.Frag) (T : String) (r : V → List V → Hp → VK → Prop) (x : V) (H : Hp) (t : (List V → Hp → Prop) → Prop) (Q : VK) : Prop := tyV K T x H ∧ t fun xs H2 => r x xs H2 Q
theorem x_bm {T : String} {r : V → List V → Hp → VK → Prop} {to : TE} {Q : VK} (k : to σ H fun x H1 => tyV K T x H1 ∧ ta σ H1 fun xs H2 => r x xs H2 Q) : tBM K T r to ta σ H Q := k
theorem x_bm0 {T : String} {r : V → List V → Hp → VK → Prop} {to : TE} {Q : VK} (k : to σ H fun x H1 => tyV K T x H1 ∧ r x [] H1 Q) : tBM0 K T r to σ H Q := k
theorem ty_lst {l : Addr} (h : H l = some (.lst xs)) : tyV K "list" (.ref l) H := .inl ⟨rfl, _, SqL.of h⟩
end
end Ch
/-! ### comprehensions -/
namespace Ch
open PySem PySem.Spec PyProof.Rows L2
def LcB (J : It) (g : TG) (tt : TT) (te : TE) (vs : List Nat) (σ : L2.St) (H1 : Hp) (Q : VK) : Prop := ∀ D, H1 D = none → ∃ W : Nat → Nat → Hp → Prop, (∃ m, W 0 m (upd H1 D (.lst []))) ∧ ∀ i m H, W i m H →
  (J.stop i H ∧ Q (.ref D) H) ∨ (J.go i H ∧ ∃ Nx : Hp → Prop, (∀ H', Nx H' → ∃ m', m' < m ∧ W (i + 1) m' H') ∧ ∀ x H', J.yld i H x H' → g x (wipe σ vs) H' fun σ2 H2 => wipe σ2 vs = wipe σ vs ∧ tt σ2 H2 fun b H3 =>
    if b = true then te σ2 H3 fun y H4 => ∃ acc, H4 D = some (.lst acc) ∧ acc.length < sizeLine ∧ Nx (upd H4 D (.lst (acc ++ [y]))) else Nx H3)
section
variable {σ : L2.St} {H : Hp} {Q : VK} {wi : TI} {g : TG} {tt : TT} {te : TE} {vs : List Nat} {J : It} {n : Nat} {G : Hp → Prop} {Y : Nat → Hp → V → Hp → Prop} {QT : Bool → Hp → Prop}
theorem x_lc (k : wi σ H fun J H1 => LcB J g tt te vs σ H1 Q) : tLc wi g tt te vs σ H Q := k
theorem x_yes (k : QT true H) : tYes σ H QT := k
/-- a comprehension that only makes new things: A tells of the items so far -/
theorem x_lcA (w : Walk J n G Y) (A : Nat → List V → Hp → Prop) (stab : ∀ i acc H D xs ys, H D = some (.lst xs) → A i acc H → A i acc (upd H D (.lst ys))) (h0 : ∀ D, H D = none → A 0 [] (upd H D (.lst []))) (hn : n ≤ 100000) (hG : ∀ H', Same H H' → G H')
    (hs : ∀ i x acc H1 H' (NT : V → Hp → Prop) (NF : Hp → Prop), (∀ y H4, Same H1 H4 → A (i + 1) (acc ++ [y]) H4 → NT y H4) → (∀ H3, Same H1 H3 → A (i + 1) acc H3 → NF H3) → i < n → Same H H1 → A i acc H1 → Y i H1 x H' →
      g x (wipe σ vs) H' fun σ2 H2 => wipe σ2 vs = wipe σ vs ∧ tt σ2 H2 fun b H3 => if b = true then te σ2 H3 NT else NF H3)
    (k : ∀ D acc H', H D = none → Same H H' → H' D = some (.lst acc) → A n acc H' → acc.length ≤ n → Q (.ref D) H') : LcB J g tt te vs σ H Q := by
  intro D hD
  refine lc_it w (fun i H1 => ∃ acc, H1 D = some (.lst acc) ∧ Same H H1 ∧ A i acc H1 ∧ acc.length ≤ i) ⟨[], upd_same, Same.new hD, h0 D hD, Nat.le_refl _⟩ (fun i H1 _ ⟨_, _, s1, _⟩ => hG H1 s1) ?_ ?_
  · rintro i x H1 H' hi ⟨acc, e1, s1, a1, l1⟩ y
    refine hs i x acc H1 H' _ _ ?_ ?_ hi s1 a1 y
    · intro y H4 s4 a4
      refine ⟨acc, s4 _ _ e1, by show acc.length < 2 ^ 24; omega, acc ++ [y], upd_same, Same.mut (s1.trans s4) hD, stab _ _ _ _ _ _ (s4 _ _ e1) a4, ?_⟩
      rw [List.length_append]
      exact Nat.succ_le_succ l1
    · intro H3 s3 a3
      exact ⟨acc, s3 _ _ e1, s1.trans s3, a3, Nat.le_succ_of_le l1⟩
  · rintro H1 ⟨acc, e1, s1, a1, l1⟩
    exact k D acc H1 hD s1 e1 a1 l1
end
end Ch
/-! ### the rules with the written part named -/
namespace Ch
open PySem PySem.Spec PyProof.Rows L2
section
variable {X : Cx} {e o a b tg iter value : Expr} {es : List Expr} {ta tb te tv : TE} {t : TA} {tgs : TGs} {f x : Str} {pos pos' p tpos : Pos} {n i kk : Nat} {elts : List Expr}
theorem op_eqK (K : PySem.W.Frag) (hu : X.A.units + 64 < cLine) (hK : X.K = K := by rfl) : OpR X (compareOp .Eq) (rEqU K) := by subst hK; exact op_eqU hu
theorem op_neK (K : PySem.W.Frag) (hu : X.A.units + 64 < cLine) (hK : X.K = K := by rfl) : OpR X (compareOp .NotEq) (rNeU K) := by subst hK; exact op_neU hu
theorem op_inK (K : PySem.W.Frag) (hK : X.K = K := by rfl) : OpR X (compareOp .In) (rInU K) := by subst hK; exact op_inU
theorem op_notInK (K : PySem.W.Frag) (hK : X.K = K := by rfl) : OpR X (compareOp .NotIn) (rNotInU K) := by subst hK; exact op_notInU
theorem ix_K (K : PySem.W.Frag) (hK : X.K = K := by rfl) : IxR X (rIx K) := by subst hK; exact ix_seq
theorem c_lenK (K : PySem.W.Frag) (hK : X.K = K := by rfl) : CallR X (.builtin "len") (rLn K) := by subst hK; exact c_len
theorem c_listK (K : PySem.W.Frag) (hK : X.K = K := by rfl) : CallR X (.type "list") (rLs K) := by subst hK; exact c_list
theorem c_tupleK (K : PySem.W.Frag) (hK : X.K = K := by rfl) : CallR X (.type "tuple") (rTu K) := by subst hK; exact c_tuple
theorem c_isiK (K : PySem.W.Frag) (hK : X.K = K := by rfl) : CallR X (.builtin "isinstance") (rIsi K) := by subst hK; exact call_isi
theorem c_isiTK (K : PySem.W.Frag) (hK : X.K = K := by rfl) : CallR X (.builtin "isinstance") (rIsiT K) := by subst hK; exact call_isiT
theorem c_sumK (K : PySem.W.Frag) (hc : X.calm = true) (hK : X.K = K := by rfl) : CallR X (.builtin "sum") (rSum K) := by subst hK; exact cr_sum hc
theorem pe_fldK (K : PySem.W.Frag) (he : PE X e ta) (hb : attributeBase e f X.env (eval e X.env) = eval e X.env := by rfl) (hK : X.K = K := by rfl) : PE X (.Attribute e f pos) (tFld K ta f) := by subst hK; exact pe_fld he hb
theorem ps_fldK (K : PySem.W.Frag) (ha : PE X o ta) (hv : PE X value tv) (hs : swapsWith value (some (.Attribute o f pos')) pos.line X.env = pure false := by rfl) (hK : X.K = K := by rfl) : PS X (.Assign [.Attribute o f pos'] value pos) (sFld K ta tv f) := by subst hK; exact ps_fld ha hv hs
theorem pi_listK (K : PySem.W.Frag) (hl : PE X e te) (hK : X.K = K := by rfl) : PI X tg e (iList K te) := by subst hK; exact pi_list hl
theorem pi_tupK (K : PySem.W.Frag) (hl : PE X e te) (hK : X.K = K := by rfl) : PI X tg e (iTup K te) := by subst hK; exact pi_tup hl
theorem pi_enumK (K : PySem.W.Frag) (hm : X.mg "enumerate" = none) (ha : PA X [e] t) (hK : X.K = K := by rfl) (hg : Gl X "enumerate" := by rfl) (hs : starEach [e] X.env = [(false, eval e X.env)] := by rfl) : PI X (.Tuple elts kk tpos) (.Call (.Name "enumerate" p) [e] [] pos) (iEnum K t) := by subst hK; exact pi_enum hg hm ha hs
theorem pi_enumTK (K : PySem.W.Frag) (hm : X.mg "enumerate" = none) (ha : PA X [e] t) (hK : X.K = K := by rfl) (hg : Gl X "enumerate" := by rfl) (hs : starEach [e] X.env = [(false, eval e X.env)] := by rfl) : PI X (.Tuple elts kk tpos) (.Call (.Name "enumerate" p) [e] [] pos) (iEnumT K t) := by subst hK; exact pi_enumT hg hm ha hs
theorem pg_tupK (K : PySem.W.Frag) (hc : X.calm = true) (h : PGs X es tgs) (hn : (assignEach es X.env).length = n := by rfl) (hst : (assignEach es X.env).findIdx? (·.1) = none := by rfl) (hK : X.K = K := by rfl) : PG X (.Tuple es kk pos) (gTup K n tgs) := by subst hK; exact pg_tup hc h hn hst
theorem pg_starK (K : PySem.W.Frag) (hc : X.calm = true) (h : PGs X es tgs) (hn : (assignEach es X.env).length = n := by rfl) (hst : (assignEach es X.env).findIdx? (·.1) = some i := by rfl) (hK : X.K = K := by rfl) : PG X (.Tuple es kk pos) (gStar K n i tgs) := by subst hK; exact pg_star hc h hn hst
theorem sl_listK (K : PySem.W.Frag) (hK : X.K = K := by rfl) : SlR X (rSlL K) := by subst hK; exact sl_list
theorem sl_tupK (K : PySem.W.Frag) (hK : X.K = K := by rfl) : SlR X (rSlT K) := by subst hK; exact sl_tup
theorem pe_bmK {T : String} {id : String} {r : V → List V → Hp → VK → Prop} {apos : Pos} {ea : Expr} (K : PySem.W.Frag) (pa : PlainAttrs T) (slot : Slot T f id) (hty : typeOf (.builtin id) = pure (.type "method_descriptor")) (hm : MtR X id r) (ho : PE X o ta) (ha : PA X (ea :: es) t) (hK : X.K = K := by rfl)
    (h3 : attributeBase o f X.env (eval o X.env) = eval o X.env := by rfl)
    (h4 : ((backTo pos (starEach (ea :: es) X.env)).all (fun x => !x.1) && (backToKw pos (keywordEach [] X.env)).all (fun x => x.1.isSome) && decide ((ea :: es).length + ([] : List Keyword).length + (if ([] : List Keyword).isEmpty then 0 else 1) < 30)) = true := by rfl)
    (h5 : (apos.endLine == pos.line) = true := by rfl) (h1 : starEach (ea :: es) X.env = (false, eval ea X.env) :: starEach es X.env := by rfl) (h2 : (backTo pos (starEach es X.env)).any (·.1) = false := by rfl) : PE X (.Call (.Attribute o f apos) (ea :: es) [] pos) (tBM K T r ta t) := by
  subst hK
  exact pe_bm pa slot hty hm ho ha h3 h4 h5 h1 h2
theorem pe_bm0K {T : String} {id : String} {r : V → List V → Hp → VK → Prop} {apos : Pos} (K : PySem.W.Frag) (pa : PlainAttrs T) (slot : Slot T f id) (hty : typeOf (.builtin id) = pure (.type "method_descriptor")) (hm : MtR X id r) (ho : PE X o ta) (hK : X.K = K := by rfl)
    (h3 : attributeBase o f X.env (eval o X.env) = eval o X.env := by rfl) (h5 : (apos.endLine == pos.line) = true := by rfl) : PE X (.Call (.Attribute o f apos) [] [] pos) (tBM0 K T r ta) := by
  subst hK
  exact pe_bm0 pa slot hty hm ho h3 h5
end
end Ch
namespace Ch
open PySem PySem.Spec PyProof.Rows L2
section
variable {σ : L2.St} {H : Hp} {v : V} {to ti : TE} {t : V → V → V → Hp → (Hp → Prop) → Prop} {QS : L2.St → Hp → Prop} {QH : Hp → Prop} {p : Addr} {xs : List V} {i : Int} {j : Nat}
theorem x_gSub (k : to σ H fun o H1 => ti σ H1 fun i H2 => t o i v H2 fun H3 => QS σ H3) : gSub to ti t v σ H QS := k
theorem x_setL (h : H p = some (.lst xs)) (e : ixN xs.length i = some j) (k : QH (upd H p (.lst (xs.set j v)))) : rSetL (.ref p) (.int i) v H QH := ⟨p, xs, i, j, rfl, rfl, h, e, k⟩
end
end Ch
namespace Ch
open L2
/-- two ways meet: what holds of every heap like that -/
theorem x_meet {G : Prop} {T : Hp → Prop} (R : Hp → Prop) (h1 : ∀ H, R H → T H) (h2 : (∀ H, R H → T H) → G) : G := h2 h1
end Ch
namespace Ch
open PySem PySem.Spec PyProof.Rows L2
theorem x_par3 {i j l : Nat} {ta : TA} {D : Ends} {σ : L2.St} {H : Hp} (k : ta σ H fun vs H1 => ∃ u v w, vs = [u, v, w] ∧ D.nx (((σ.set i (some u)).set j (some v)).set l (some w)) H1) : tPar3 i j l ta D σ H := k
theorem x_sum {K : PySem.W.Frag} {H : Hp} {Q : VK} {p : Addr} {ns : List Int} (h : SqL K H p (ns.map V.int)) (k : Q (.int ns.sum) H) : rSum K [.ref p] H Q := ⟨p, ns, rfl, h, k⟩
end Ch
namespace Ch
open PySem PySem.Spec PyProof.Rows L2
section
variable {σ : L2.St} {H : Hp} {Q : VK} {g : TG} {tt : TT} {te : TE} {vs : List Nat} {J : It} {n : Nat} {G : Hp → Prop} {Y : Nat → Hp → V → Hp → Prop}
/-- a comprehension by a word about the whole heap -/
theorem x_lcG (w : Walk J n G Y) (Pv : Addr → Nat → Hp → Prop) (h0 : ∀ D, H D = none → Pv D 0 (upd H D (.lst []))) (hG : ∀ D i H1, i ≤ n → Pv D i H1 → G H1)
    (hs : ∀ D i x H1 H', H D = none → i < n → Pv D i H1 → Y i H1 x H' → g x (wipe σ vs) H' fun σ2 H2 => wipe σ2 vs = wipe σ vs ∧ tt σ2 H2 fun b H3 =>
      if b = true then te σ2 H3 fun y H4 => ∃ acc, H4 D = some (.lst acc) ∧ acc.length < sizeLine ∧ Pv D (i + 1) (upd H4 D (.lst (acc ++ [y]))) else Pv D (i + 1) H3)
    (hd : ∀ D H1, H D = none → Pv D n H1 → Q (.ref D) H1) : LcB J g tt te vs σ H Q := fun D hD =>
  lc_it w (Pv D) (h0 D hD) (hG D) (fun i x H1 H' hi p y => hs D i x H1 H' hD hi p y) fun H1 p => hd D H1 hD p
theorem x_meet2 {G : Prop} {T : Addr → Hp → Prop} (R : Addr → Hp → Prop) (h1 : ∀ q H, R q H → T q H) (h2 : (∀ q H, R q H → T q H) → G) : G := h2 h1
theorem x_lstRg {te : L2.St → Hp → (Int → Int → Hp → Prop) → Prop} (k : te σ H fun a b H1 => RgOk a b ∧ ∀ q, H1 q = none → Q (.ref q) (upd H1 q (.lst (rgV a b)))) : tLstRg te σ H Q := k
def rRg1 (x : V) (H : Hp) (R : Int → Int → Hp → Prop) : Prop := ∃ n, x = .int n ∧ R 0 n H
theorem x_rg1 {ta : TE} {R : Int → Int → Hp → Prop} (k : ta σ H fun x H1 => rRg1 x H1 R) : tRg1 ta σ H R := k
theorem x_rg1At {R : Int → Int → Hp → Prop} {n : Int} (k : R 0 n H) : rRg1 (.int n) H R := ⟨n, rfl, k⟩
end
end Ch
namespace Ch
open PySem PySem.Spec PyProof.Rows L2
/-- if c: x = e, what is known of x behind it -/
theorem x_whenSet {c : Prop} [Decidable c] {D : Ends} {σ : L2.St} {H : Hp} {i : Nat} {te : TE} (R : V → Hp → Prop) (v0 : V) (h0 : σ.set i (some v0) = σ) (hF : ¬ c → R v0 H) (hT : c → te σ H R) (mono : ∀ Q : VK, (∀ v H', R v H' → Q v H') → te σ H R → te σ H Q) (h1 : ∀ v H', R v H' → D.nx (σ.set i (some v)) H') :
    if decide c = true then tAsg te (gName i) D σ H else tNext D σ H := by
  by_cases h : c
  · rw [decide_eq_true h]
    exact mono _ h1 (hT h)
  · rw [decide_eq_false h]
    show D.nx σ H
    have g := h1 v0 H (hF h)
    rw [h0] at g
    exact g
/-- the same, e told for any end -/
theorem x_whenSet' {c : Prop} [Decidable c] {D : Ends} {σ : L2.St} {H : Hp} {i : Nat} {te : TE} (R : V → Hp → Prop) (v0 : V) (h0 : σ.set i (some v0) = σ) (hF : ¬ c → R v0 H) (hT : c → ∀ Q : VK, (∀ v H', R v H' → Q v H') → te σ H Q) (h1 : ∀ v H', R v H' → D.nx (σ.set i (some v)) H') :
    if decide c = true then tAsg te (gName i) D σ H else tNext D σ H := by
  by_cases h : c
  · rw [decide_eq_true h]
    exact hT h _ h1
  · rw [decide_eq_false h]
    show D.nx σ H
    have g := h1 v0 H (hF h)
    rw [h0] at g
    exact g
end Ch
namespace Ch
open PySem PySem.Spec PyProof.Rows L2
section
variable {c : TT} {tb : TS} {D : Ends} {σ : L2.St} {H : Hp}
/-- while, a word with a measure -/
theorem x_while (W : Nat → L2.St → Hp → Prop) (m : Nat) (h0 : W m σ H) (hs : ∀ m σ H, W m σ H → c σ H fun b H1 => if b = true then ∃ N : L2.St → Hp → Prop, (∀ σ' H', N σ' H' → ∃ m', m' < m ∧ W m' σ' H') ∧ tb { D with nx := N, ct := N, bk := D.nx } σ H1 else D.nx σ H1) : tWhile c tb D σ H := ⟨W, ⟨m, h0⟩, hs⟩
theorem x_turn {W : Nat → L2.St → Hp → Prop} {m : Nat} (k : tb { D with nx := fun σ' H' => ∃ m', m' < m ∧ W m' σ' H', ct := fun σ' H' => ∃ m', m' < m ∧ W m' σ' H', bk := D.nx } σ H) : ∃ N : L2.St → Hp → Prop, (∀ σ' H', N σ' H' → ∃ m', m' < m ∧ W m' σ' H') ∧ tb { D with nx := N, ct := N, bk := D.nx } σ H := ⟨_, fun _ _ h => h, k⟩
end
end Ch
namespace Ch
open PySem PySem.Spec PyProof.Rows L2
/-- x = e1 if c else e2, what is known of x behind it -/
theorem x_ifSet {b : Bool} {σ : L2.St} {H : Hp} {ta tb : TE} {k : VK} (R : V → Hp → Prop) (hT : b = true → ∀ Q : VK, (∀ v H', R v H' → Q v H') → ta σ H Q) (hF : b = false → ∀ Q : VK, (∀ v H', R v H' → Q v H') → tb σ H Q) (h1 : ∀ v H', R v H' → k v H') :
    if b = true then ta σ H k else tb σ H k := by
  cases b with
  | true => exact hT rfl _ h1
  | false => exact hF rfl _ h1
theorem x_ifSetd {c : Prop} [Decidable c] {σ : L2.St} {H : Hp} {ta tb : TE} {k : VK} (R : V → Hp → Prop) (hT : c → ∀ Q : VK, (∀ v H', R v H' → Q v H') → ta σ H Q) (hF : ¬ c → ∀ Q : VK, (∀ v H', R v H' → Q v H') → tb σ H Q) (h1 : ∀ v H', R v H' → k v H') :
    if decide c = true then ta σ H k else tb σ H k := x_ifSet R (fun e => hT (of_decide_eq_true e)) (fun e => hF (of_decide_eq_false e)) h1
end Ch
namespace Ch
open PySem PySem.Spec PyProof.Rows L2
section
variable {X : Cx} {H : Hp} {Q : VK} {K : PySem.W.Frag} {p : Addr} {ns : List Int}
theorem c_minLK (K : PySem.W.Frag) (hc : X.calm = true) (hK : X.K = K := by rfl) : CallR X (.builtin "min") (rMin K) := by subst hK; exact cr_min hc
theorem c_maxLK (K : PySem.W.Frag) (hc : X.calm = true) (hK : X.K = K := by rfl) : CallR X (.builtin "max") (rMax K) := by subst hK; exact cr_max hc
theorem c_sortedK (K : PySem.W.Frag) (hK : X.K = K := by rfl) : CallR X (.builtin "sorted") (rSorted K) := by subst hK; exact cr_sorted
theorem x_minL (h : SqL K H p (ns.map V.int)) (h0 : 0 < ns.length) (k : ∀ m, m ∈ ns → (∀ y ∈ ns, m ≤ y) → Q (.int m) H) : rMin K [.ref p] H Q := ⟨p, ns, rfl, h, h0, k⟩
theorem x_maxL (h : SqL K H p (ns.map V.int)) (h0 : 0 < ns.length) (k : ∀ m, m ∈ ns → (∀ y ∈ ns, y ≤ m) → Q (.int m) H) : rMax K [.ref p] H Q := ⟨p, ns, rfl, h, h0, k⟩
theorem x_sorted (h : SqL K H p (ns.map V.int)) (h0 : ns.length < 64) (k : ∀ (ms : List Int) (q : Addr), ms.Perm ns → ms.Pairwise (· ≤ ·) → H q = none → Q (.ref q) (upd H q (.lst (ms.map V.int)))) : rSorted K [.ref p] H Q := ⟨p, ns, rfl, h, h0, k⟩
/-- a list of ints made by a range -/
def rgI (f : Int → Int) (n : Nat) : List Int := (List.range n).map fun j => f (j : Nat)
theorem rgI_len {f : Int → Int} {n : Nat} : (rgI f n).length = n := by unfold rgI; rw [List.length_map, List.length_range]
theorem rgI_snoc {f : Int → Int} {n : Nat} : rgI f (n + 1) = rgI f n ++ [f (n : Nat)] := by unfold rgI; rw [List.range_succ, List.map_append]; rfl
theorem rgI_at {f : Int → Int} {n : Nat} {y : Int} (h0 : 0 ≤ y) (h1 : y < n) : atI ((rgI f n).map V.int) y = some (.int (f y)) := by
  have e : y = ((y.toNat : Nat) : Int) := (Int.toNat_of_nonneg h0).symm
  rw [e]
  refine atI_nat ?_
  unfold rgI
  rw [List.getElem?_map, List.getElem?_map, List.getElem?_range (by omega)]
  rfl
theorem rgI_mem {f : Int → Int} {n : Nat} {z : Int} : z ∈ rgI f n ↔ ∃ y : Int, 0 ≤ y ∧ y < n ∧ f y = z := by
  unfold rgI
  constructor
  · intro h
    obtain ⟨j, hj, e⟩ := List.mem_map.mp h
    exact ⟨(j : Nat), by omega, by have := List.mem_range.mp hj; omega, e⟩
  · rintro ⟨y, h0, h1, e⟩
    refine List.mem_map.mpr ⟨y.toNat, List.mem_range.mpr (by omega), ?_⟩
    rw [Int.toNat_of_nonneg h0]
    exact e
end
end Ch

set_option linter.all false
set_option maxRecDepth 100000
set_option maxHeartbeats 4000000
namespace ChM
/-! ### the mirror of plans and effects -/
inductive Stp where
  | turn
  | mt (r : Bool) (n : Int)
  deriving DecidableEq
/-- (side, need) of each step -/
def sides : Int → List Stp → List (Int × Int)
  | _, [] => []
  | s, .turn :: r => (0, 0) :: sides (0 - s) r
  | s, .mt b n :: r => ((if b then s else 0 - s), n) :: sides s r
def fitsS (c : Int) (l : List Stp) : Prop := ∀ b n, Stp.mt b n ∈ l → 0 ≤ n ∧ n ≤ c
def turns : List Stp → Nat
  | [] => 0
  | .turn :: r => turns r + 1
  | .mt _ _ :: r => turns r
def turning (l : List Stp) : Bool := turns l % 2 == 1
structure Eff where
  c : Int
  lo : Int
  hi : Int
  ex : Int
  goal : Option Int
  tu : Bool
def mkE (c lo hi ex : Int) (g : Option Int) (t : Bool) : Eff := ⟨c, lo, hi, ex, if g = none ∧ lo = hi then some lo else g, t⟩
/-- max and min as Python's two-place ones say them -/
def mx (a b : Int) : Int := if b > a then b else a
def mn (a b : Int) : Int := if b < a then b else a
def Eff.atLeast (e : Eff) (n : Int) : Eff := match e.goal with
  | none => if n ≤ e.hi then mkE e.c (mx e.lo n) e.hi 0 none e.tu else mkE e.c e.hi e.hi (n - e.hi) (some n) e.tu
  | some g => if n ≤ g then e else mkE e.c e.lo e.hi (e.ex + n - g) (some n) e.tu
def Eff.mir (e : Eff) : Eff := mkE e.c (e.c - e.hi) (e.c - e.lo) e.ex (e.goal.map fun g => e.c - g) e.tu
def Eff.atMost (e : Eff) (m : Int) : Eff := (e.mir.atLeast (e.c - m)).mir
def Eff.carried (e : Eff) (x : Int) : Int := mx (mx (e.lo - x) (x - e.hi)) 0 + e.ex
def Eff.place (e : Eff) (x : Int) : Int := match e.goal with
  | none => mn (mx x e.lo) e.hi
  | some g => g
def Eff.fin (e : Eff) (x : Int) : Int := if e.tu then e.c - e.place x else e.place x
structure Eff.Ok (e : Eff) : Prop where
  lo0 : 0 ≤ e.lo
  lh : e.lo ≤ e.hi
  hc : e.hi ≤ e.c
  ex0 : 0 ≤ e.ex
  no : e.goal = none → e.ex = 0 ∧ e.lo < e.hi
  yes : ∀ g, e.goal = some g → 0 ≤ g ∧ g ≤ e.c
def nothing (c : Int) : Eff := mkE c 0 c 0 none false
def moved (c x s n : Int) : Int := if s = 1 then mx x n else if s = -1 then mn x (c - n) else x
def effStep (c : Int) (e : Eff) (p : Int × Int) : Eff := if p.1 = 1 then e.atLeast p.2 else if p.1 = -1 then e.atMost (c - p.2) else e
def effFold (c : Int) (l : List (Int × Int)) : Eff := l.foldl (effStep c) (nothing c)
def effOf (c : Int) (l : List Stp) : Eff :=
  let e := effFold c (sides 1 l)
  mkE c e.lo e.hi e.ex e.goal (turning l)
theorem mx_def (a b : Int) : (mx a b = a ∧ b ≤ a) ∨ (mx a b = b ∧ a < b) := by
  unfold mx
  split <;> omega
theorem mn_def (a b : Int) : (mn a b = a ∧ a ≤ b) ∨ (mn a b = b ∧ b < a) := by
  unfold mn
  split <;> omega
theorem mkE_none {c lo hi ex : Int} {t : Bool} (h : lo < hi) : mkE c lo hi ex none t = ⟨c, lo, hi, ex, none, t⟩ := by
  unfold mkE
  rw [if_neg (by omega)]
theorem mkE_eq {c lo ex : Int} {t : Bool} : mkE c lo lo ex none t = ⟨c, lo, lo, ex, some lo, t⟩ := by
  unfold mkE
  rw [if_pos ⟨rfl, rfl⟩]
theorem mkE_some {c lo hi ex g : Int} {t : Bool} : mkE c lo hi ex (some g) t = ⟨c, lo, hi, ex, some g, t⟩ := by
  unfold mkE
  rw [if_neg (by intro h; cases h.1)]
theorem mkE_cases {c lo hi : Int} {t : Bool} (h0 : 0 ≤ lo) (h1 : lo ≤ hi) (h2 : hi ≤ c) :
    (mkE c lo hi 0 none t).Ok ∧ ∀ x, (mkE c lo hi 0 none t).place x = mn (mx x lo) hi := by
  by_cases e : lo = hi
  · subst e
    rw [mkE_eq]
    refine ⟨⟨h0, h1, h2, Int.le_refl 0, (fun z => nomatch z), fun g hg => ?_⟩, fun x => ?_⟩
    · cases hg
      exact ⟨h0, h2⟩
    · show lo = mn (mx x lo) lo
      have := mx_def x lo
      have := mn_def (mx x lo) lo
      omega
  · rw [mkE_none (by omega)]
    exact ⟨⟨h0, h1, h2, Int.le_refl 0, fun _ => ⟨rfl, by show lo < hi; omega⟩, (fun g hg => nomatch hg)⟩, fun x => rfl⟩
theorem Ok_some {c lo hi ex g : Int} {t : Bool} (h0 : 0 ≤ lo) (h1 : lo ≤ hi) (h2 : hi ≤ c) (h3 : 0 ≤ ex) (h4 : 0 ≤ g) (h5 : g ≤ c) : (mkE c lo hi ex (some g) t).Ok := by
  rw [mkE_some]
  exact ⟨h0, h1, h2, h3, (fun z => nomatch z), fun g1 hg => by cases hg; exact ⟨h4, h5⟩⟩
@[simp] theorem mkE_c {c lo hi ex : Int} {g : Option Int} {t : Bool} : (mkE c lo hi ex g t).c = c := rfl
@[simp] theorem mkE_lo {c lo hi ex : Int} {g : Option Int} {t : Bool} : (mkE c lo hi ex g t).lo = lo := rfl
@[simp] theorem mkE_hi {c lo hi ex : Int} {g : Option Int} {t : Bool} : (mkE c lo hi ex g t).hi = hi := rfl
@[simp] theorem mkE_ex {c lo hi ex : Int} {g : Option Int} {t : Bool} : (mkE c lo hi ex g t).ex = ex := rfl
@[simp] theorem mkE_tu {c lo hi ex : Int} {g : Option Int} {t : Bool} : (mkE c lo hi ex g t).tu = t := rfl
theorem place_some {e : Eff} {g x : Int} (h : e.goal = some g) : e.place x = g := by
  unfold Eff.place
  rw [h]
theorem place_none {e : Eff} {x : Int} (h : e.goal = none) : e.place x = mn (mx x e.lo) e.hi := by
  unfold Eff.place
  rw [h]
theorem place_range {e : Eff} (h : e.Ok) {x : Int} (h0 : 0 ≤ x) (h1 : x ≤ e.c) : 0 ≤ e.place x ∧ e.place x ≤ e.c := by
  have a := h.lo0
  have b := h.lh
  have d := h.hc
  cases g : e.goal with
  | none =>
    rw [place_none g]
    have := mx_def x e.lo
    have := mn_def (mx x e.lo) e.hi
    omega
  | some y =>
    rw [place_some g]
    exact h.yes y g
theorem atLeast_ok {e : Eff} (h : e.Ok) {n : Int} (h0 : 0 ≤ n) (h1 : n ≤ e.c) :
    (e.atLeast n).Ok ∧ (e.atLeast n).c = e.c ∧ (e.atLeast n).tu = e.tu ∧ ∀ x, (e.atLeast n).place x = mx (e.place x) n ∧ (e.atLeast n).carried x = e.carried x + (mx (e.place x) n - e.place x) := by
  have a := h.lo0
  have b := h.lh
  have d := h.hc
  cases g : e.goal with
  | none =>
    obtain ⟨z, l⟩ := h.no g
    unfold Eff.atLeast
    rw [g]
    dsimp only
    by_cases q : n ≤ e.hi
    · rw [if_pos q]
      have m := mx_def e.lo n
      obtain ⟨o, p⟩ := mkE_cases (c := e.c) (lo := mx e.lo n) (hi := e.hi) (t := e.tu) (by omega) (by omega) d
      refine ⟨o, rfl, rfl, fun x => ⟨?_, ?_⟩⟩
      · rw [p, place_none g]
        have := mx_def x e.lo
        have := mx_def x (mx e.lo n)
        have := mn_def (mx x (mx e.lo n)) e.hi
        have := mn_def (mx x e.lo) e.hi
        have := mx_def (mn (mx x e.lo) e.hi) n
        omega
      · rw [place_none g]
        unfold Eff.carried
        simp only [mkE_lo, mkE_hi, mkE_ex]
        have := mx_def x e.lo
        have := mn_def (mx x e.lo) e.hi
        have := mx_def (mn (mx x e.lo) e.hi) n
        have := mx_def (mx e.lo n - x) (x - e.hi)
        have := mx_def (mx (mx e.lo n - x) (x - e.hi)) 0
        have := mx_def (e.lo - x) (x - e.hi)
        have := mx_def (mx (e.lo - x) (x - e.hi)) 0
        omega
    · rw [if_neg q]
      refine ⟨Ok_some (by omega) (by omega) d (by omega) h0 h1, rfl, rfl, fun x => ⟨?_, ?_⟩⟩
      · rw [place_none g, mkE_some]
        show n = _
        have := mx_def x e.lo
        have := mn_def (mx x e.lo) e.hi
        have := mx_def (mn (mx x e.lo) e.hi) n
        omega
      · rw [place_none g]
        unfold Eff.carried
        simp only [mkE_lo, mkE_hi, mkE_ex]
        have := mx_def x e.lo
        have := mn_def (mx x e.lo) e.hi
        have := mx_def (mn (mx x e.lo) e.hi) n
        have := mx_def (e.hi - x) (x - e.hi)
        have := mx_def (mx (e.hi - x) (x - e.hi)) 0
        have := mx_def (e.lo - x) (x - e.hi)
        have := mx_def (mx (e.lo - x) (x - e.hi)) 0
        omega
  | some y =>
    obtain ⟨y0, y1⟩ := h.yes y g
    unfold Eff.atLeast
    rw [g]
    dsimp only
    by_cases q : n ≤ y
    · rw [if_pos q]
      refine ⟨h, rfl, rfl, fun x => ?_⟩
      rw [place_some g]
      have := mx_def y n
      omega
    · rw [if_neg q]
      have := h.ex0
      refine ⟨Ok_some a b d (by omega) h0 h1, rfl, rfl, fun x => ⟨?_, ?_⟩⟩
      · rw [place_some g, mkE_some]
        show n = _
        have := mx_def y n
        omega
      · rw [place_some g]
        unfold Eff.carried
        simp only [mkE_lo, mkE_hi, mkE_ex]
        have := mx_def y n
        omega
theorem mir_ok {e : Eff} (h : e.Ok) : e.mir.Ok ∧ e.mir.c = e.c ∧ e.mir.tu = e.tu ∧ ∀ x, e.mir.place x = e.c - e.place (e.c - x) ∧ e.mir.carried x = e.carried (e.c - x) := by
  have a := h.lo0
  have b := h.lh
  have d := h.hc
  have car : ∀ x, e.mir.carried x = e.carried (e.c - x) := fun x => by
    unfold Eff.carried Eff.mir
    simp only [mkE_lo, mkE_hi, mkE_ex]
    have := mx_def (e.c - e.hi - x) (x - (e.c - e.lo))
    have := mx_def (mx (e.c - e.hi - x) (x - (e.c - e.lo))) 0
    have := mx_def (e.lo - (e.c - x)) (e.c - x - e.hi)
    have := mx_def (mx (e.lo - (e.c - x)) (e.c - x - e.hi)) 0
    omega
  cases g : e.goal with
  | none =>
    obtain ⟨z, l⟩ := h.no g
    have em : e.mir = mkE e.c (e.c - e.hi) (e.c - e.lo) 0 none e.tu := by
      unfold Eff.mir
      rw [g, z] <;> rfl
    obtain ⟨o, p⟩ := mkE_cases (c := e.c) (lo := e.c - e.hi) (hi := e.c - e.lo) (t := e.tu) (by omega) (by omega) (by omega)
    refine ⟨by rw [em]; exact o, rfl, rfl, fun x => ⟨?_, car x⟩⟩
    rw [em, p, place_none g]
    have := mx_def x (e.c - e.hi)
    have := mn_def (mx x (e.c - e.hi)) (e.c - e.lo)
    have := mx_def (e.c - x) e.lo
    have := mn_def (mx (e.c - x) e.lo) e.hi
    omega
  | some y =>
    obtain ⟨y0, y1⟩ := h.yes y g
    have em : e.mir = mkE e.c (e.c - e.hi) (e.c - e.lo) e.ex (some (e.c - y)) e.tu := by
      unfold Eff.mir
      rw [g] <;> rfl
    refine ⟨by rw [em]; exact Ok_some (by omega) (by omega) (by omega) h.ex0 (by omega) (by omega), rfl, rfl, fun x => ⟨?_, car x⟩⟩
    rw [em, mkE_some, place_some g] <;> rfl
theorem atMost_ok {e : Eff} (h : e.Ok) {m : Int} (h0 : 0 ≤ m) (h1 : m ≤ e.c) :
    (e.atMost m).Ok ∧ (e.atMost m).c = e.c ∧ (e.atMost m).tu = e.tu ∧ ∀ x, (e.atMost m).place x = mn (e.place x) m ∧ (e.atMost m).carried x = e.carried x + (e.place x - mn (e.place x) m) := by
  obtain ⟨o1, c1, t1, p1⟩ := mir_ok h
  obtain ⟨o2, c2, t2, p2⟩ := atLeast_ok o1 (n := e.c - m) (by omega) (by rw [c1]; omega)
  obtain ⟨o3, c3, t3, p3⟩ := mir_ok o2
  refine ⟨o3, by unfold Eff.atMost; rw [c3, c2, c1], by unfold Eff.atMost; rw [t3, t2, t1], fun x => ?_⟩
  obtain ⟨a3, b3⟩ := p3 x
  rw [c2, c1] at a3 b3
  obtain ⟨a2, b2⟩ := p2 (e.c - x)
  obtain ⟨a1, b1⟩ := p1 (e.c - x)
  have ex : e.c - (e.c - x) = x := by omega
  rw [ex] at a1 b1
  unfold Eff.atMost
  rw [a3, b3, a2, b2, a1, b1]
  have := mx_def (e.c - e.place x) (e.c - m)
  have := mn_def (e.place x) m
  omega
theorem nothing_ok {c : Int} (h : 0 ≤ c) : (nothing c).Ok ∧ ∀ x, 0 ≤ x → x ≤ c → (nothing c).place x = x ∧ (nothing c).carried x = 0 := by
  obtain ⟨o, p⟩ := mkE_cases (c := c) (lo := 0) (hi := c) (t := false) (by omega) h (by omega)
  refine ⟨o, fun x h0 h1 => ⟨?_, ?_⟩⟩
  · show (mkE c 0 c 0 none false).place x = x
    rw [p]
    have := mx_def x 0
    have := mn_def (mx x 0) c
    omega
  · show (mkE c 0 c 0 none false).carried x = 0
    unfold Eff.carried
    simp only [mkE_lo, mkE_hi, mkE_ex]
    have := mx_def (0 - x) (x - c)
    have := mx_def (mx (0 - x) (x - c)) 0
    omega
/-! ### steps one by one -/
def absI (a : Int) : Int := if a < 0 then -a else a
def simP (c : Int) : List (Int × Int) → Int → Int
  | [], x => x
  | p :: r, x => simP c r (moved c x p.1 p.2)
def simC (c : Int) : List (Int × Int) → Int → Int
  | [], _ => 0
  | p :: r, x => absI (moved c x p.1 p.2 - x) + simC c r (moved c x p.1 p.2)
def fits (c : Int) (l : List (Int × Int)) : Prop := ∀ p ∈ l, (p.1 = 1 ∨ p.1 = -1 ∨ p.1 = 0) ∧ 0 ≤ p.2 ∧ p.2 ≤ c
theorem effStep_ok {c : Int} {e : Eff} (h : e.Ok) (hc : e.c = c) {p : Int × Int} (hs : p.1 = 1 ∨ p.1 = -1 ∨ p.1 = 0) (h0 : 0 ≤ p.2) (h1 : p.2 ≤ c) :
    (effStep c e p).Ok ∧ (effStep c e p).c = c ∧ (effStep c e p).tu = e.tu ∧ ∀ x, (effStep c e p).place x = moved c (e.place x) p.1 p.2 ∧
      (effStep c e p).carried x = e.carried x + absI (moved c (e.place x) p.1 p.2 - e.place x) := by
  unfold effStep moved
  rcases hs with s | s | s
  · rw [if_pos s]
    obtain ⟨a, b, d, f⟩ := atLeast_ok h h0 (by omega)
    refine ⟨a, b.trans hc, d, fun x => ?_⟩
    rw [if_pos s, (f x).1, (f x).2]
    refine ⟨rfl, ?_⟩
    unfold absI
    have := mx_def (e.place x) p.2
    split <;> omega
  · rw [if_neg (by omega), if_pos s]
    obtain ⟨a, b, d, f⟩ := atMost_ok h (m := c - p.2) (by omega) (by omega)
    refine ⟨a, b.trans hc, d, fun x => ?_⟩
    rw [if_neg (by omega), if_pos s, (f x).1, (f x).2]
    refine ⟨rfl, ?_⟩
    unfold absI
    have := mn_def (e.place x) (c - p.2)
    split <;> omega
  · rw [if_neg (by omega), if_neg (by omega)]
    refine ⟨h, hc, rfl, fun x => ?_⟩
    rw [if_neg (by omega), if_neg (by omega)]
    refine ⟨rfl, ?_⟩
    unfold absI
    split <;> omega
theorem fold_ok {c : Int} : ∀ (l : List (Int × Int)) (e : Eff), e.Ok → e.c = c → fits c l →
    (l.foldl (effStep c) e).Ok ∧ (l.foldl (effStep c) e).c = c ∧ (l.foldl (effStep c) e).tu = e.tu ∧ ∀ x, (l.foldl (effStep c) e).place x = simP c l (e.place x) ∧ (l.foldl (effStep c) e).carried x = e.carried x + simC c l (e.place x)
  | [], e, h, hc, _ => ⟨h, hc, rfl, fun x => ⟨rfl, by show e.carried x = e.carried x + 0; omega⟩⟩
  | p :: r, e, h, hc, hf => by
    obtain ⟨hs, h0, h1⟩ := hf p List.mem_cons_self
    obtain ⟨a, b, d, f⟩ := effStep_ok h hc hs h0 h1
    obtain ⟨a2, b2, d2, f2⟩ := fold_ok r (effStep c e p) a b fun q hq => hf q (List.mem_cons_of_mem _ hq)
    refine ⟨a2, b2, d2.trans d, fun x => ?_⟩
    rw [List.foldl_cons, (f2 x).1, (f2 x).2, (f x).1, (f x).2]
    refine ⟨rfl, ?_⟩
    show _ = e.carried x + (absI (moved c (e.place x) p.1 p.2 - e.place x) + simC c r (moved c (e.place x) p.1 p.2))
    omega
theorem mkE_self {e : Eff} (h : e.Ok) (t : Bool) : mkE e.c e.lo e.hi e.ex e.goal t = { e with tu := t } := by
  unfold mkE
  cases g : e.goal with
  | none =>
    have := (h.no g).2
    rw [if_neg (by omega)]
  | some y =>
    rw [if_neg (by intro z; cases z.1)]
theorem sides_fits {c : Int} : ∀ (l : List Stp) (s : Int), (s = 1 ∨ s = -1) → 0 ≤ c → fitsS c l → fits c (sides s l)
  | [], _, _, _, _ => fun p hp => nomatch hp
  | .turn :: r, s, hs, h0, h => fun p hp => by
    rcases List.mem_cons.mp hp with e | hp
    · subst e
      exact ⟨.inr (.inr rfl), by show (0 : Int) ≤ 0; omega, h0⟩
    · exact sides_fits r (0 - s) (by omega) h0 (fun b n hm => h b n (List.mem_cons_of_mem _ hm)) p hp
  | .mt b n :: r, s, hs, h0, h => fun p hp => by
    rcases List.mem_cons.mp hp with e | hp
    · subst e
      refine ⟨?_, h b n List.mem_cons_self⟩
      show (if b = true then s else 0 - s) = 1 ∨ (if b = true then s else 0 - s) = -1 ∨ (if b = true then s else 0 - s) = 0
      split <;> omega
    · exact sides_fits r s hs h0 (fun b n hm => h b n (List.mem_cons_of_mem _ hm)) p hp
theorem effOf_ok {c : Int} {l : List Stp} (hc : 0 ≤ c) (hl : fitsS c l) :
    (effOf c l).Ok ∧ (effOf c l).c = c ∧ (effOf c l).tu = turning l ∧ ∀ x, 0 ≤ x → x ≤ c → (effOf c l).place x = simP c (sides 1 l) x ∧ (effOf c l).carried x = simC c (sides 1 l) x := by
  obtain ⟨n0, n1⟩ := nothing_ok hc
  obtain ⟨a, b, d, f⟩ := fold_ok (sides 1 l) (nothing c) n0 rfl (sides_fits l 1 (.inl rfl) hc hl)
  have e : effOf c l = ⟨c, (effFold c (sides 1 l)).lo, (effFold c (sides 1 l)).hi, (effFold c (sides 1 l)).ex, (effFold c (sides 1 l)).goal, turning l⟩ := by
    show mkE c (effFold c (sides 1 l)).lo (effFold c (sides 1 l)).hi (effFold c (sides 1 l)).ex (effFold c (sides 1 l)).goal (turning l) = _
    have h := mkE_self (e := effFold c (sides 1 l)) a (turning l)
    have hb : (effFold c (sides 1 l)).c = c := b
    rw [hb] at h
    exact h
  rw [e]
  have hcc : (effFold c (sides 1 l)).c = c := b
  have hhc : (effFold c (sides 1 l)).hi ≤ c := Int.le_trans a.hc (Int.le_of_eq hcc)
  refine ⟨⟨a.lo0, a.lh, hhc, a.ex0, a.no, fun g hg => ⟨(a.yes g hg).1, Int.le_trans (a.yes g hg).2 (Int.le_of_eq hcc)⟩⟩, rfl, rfl, fun x h0 h1 => ?_⟩
  obtain ⟨p1, p2⟩ := f x
  rw [(n1 x h0 h1).1, (n1 x h0 h1).2] at *
  refine ⟨p1, ?_⟩
  have p2' : (effFold c (sides 1 l)).carried x = 0 + simC c (sides 1 l) x := p2
  show (effFold c (sides 1 l)).carried x = _
  rw [p2']
  omega
end ChM

set_option linter.all false
set_option autoImplicit false
set_option maxRecDepth 100000
set_option maxHeartbeats 4000000
namespace ChM
/-! ### a simulation of the two rooms -/
def play1 (p : Int × Int) : Stp → (Int × Int) × Int
  | .turn => ((p.2, p.1), 0)
  | .mt true n => ((p.1 + mx 0 (n - p.1), p.2 - mx 0 (n - p.1)), mx 0 (n - p.1))
  | .mt false n => ((p.1 - mx 0 (n - p.2), p.2 + mx 0 (n - p.2)), mx 0 (n - p.2))
def playS : Int × Int → List Stp → Int × Int
  | p, [] => p
  | p, s :: r => playS (play1 p s).1 r
def playC : Int × Int → List Stp → List Int
  | _, [] => []
  | p, s :: r => (play1 p s).2 :: playC (play1 p s).1 r
theorem playS_snoc : ∀ (l : List Stp) (p : Int × Int) (s : Stp), playS p (l ++ [s]) = (play1 (playS p l) s).1
  | [], _, _ => rfl
  | x :: r, p, s => playS_snoc r (play1 p x).1 s
theorem playC_snoc : ∀ (l : List Stp) (p : Int × Int) (s : Stp), playC p (l ++ [s]) = playC p l ++ [(play1 (playS p l) s).2]
  | [], _, _ => rfl
  | x :: r, p, s => congrArg (_ :: ·) (playC_snoc r (play1 p x).1 s)
theorem playC_len : ∀ (l : List Stp) (p : Int × Int), (playC p l).length = l.length
  | [], _ => rfl
  | x :: r, p => congrArg (· + 1) (playC_len r (play1 p x).1)
def sideAt : Int → List Stp → Int
  | s, [] => s
  | s, .turn :: r => sideAt (0 - s) r
  | s, .mt _ _ :: r => sideAt s r
theorem sides_len : ∀ (l : List Stp) (s : Int), (sides s l).length = l.length
  | [], _ => rfl
  | .turn :: r, s => congrArg (· + 1) (sides_len r (0 - s))
  | .mt _ _ :: r, s => congrArg (· + 1) (sides_len r s)
theorem sides_snoc : ∀ (l : List Stp) (s : Int) (x : Stp), sides s (l ++ [x]) = sides s l ++ sides (sideAt s l) [x]
  | [], _, _ => rfl
  | .turn :: r, s, x => by show (0, 0) :: sides (0 - s) (r ++ [x]) = (0, 0) :: sides (0 - s) r ++ _; rw [sides_snoc]; rfl
  | .mt b n :: r, s, x => by show (_, n) :: sides s (r ++ [x]) = (_, n) :: sides s r ++ _; rw [sides_snoc]; rfl
theorem sideAt_snoc : ∀ (l : List Stp) (s : Int) (x : Stp), sideAt s (l ++ [x]) = sideAt (sideAt s l) [x]
  | [], _, _ => rfl
  | .turn :: r, s, x => sideAt_snoc r (0 - s) x
  | .mt b n :: r, s, x => sideAt_snoc r s x
theorem turns_app (a b : List Stp) : turns (a ++ b) = turns a + turns b := by
  induction a with
  | nil => show turns b = 0 + turns b; omega
  | cons s r ih =>
    cases s with
    | turn => show turns (r ++ b) + 1 = turns r + 1 + turns b; omega
    | mt c n => exact ih
theorem turns_step {l : List Stp} {i : Nat} {s : Stp} (h : l[i]? = some s) : turns (l.take (i + 1)) = turns (l.take i) + (if s = .turn then 1 else 0) := by
  rw [List.take_add_one, h, turns_app]
  cases s <;> rfl
theorem turns_le : ∀ l : List Stp, turns l ≤ l.length
  | [] => Nat.le_refl _
  | .turn :: r => Nat.succ_le_succ (turns_le r)
  | .mt _ _ :: r => Nat.le_succ_of_le (turns_le r)
theorem sideAt_turns : ∀ (l : List Stp) (s : Int), sideAt s l = if turns l % 2 = 1 then 0 - s else s
  | [], s => rfl
  | .turn :: r, s => by
    show sideAt (0 - s) r = if (turns r + 1) % 2 = 1 then 0 - s else s
    rw [sideAt_turns r (0 - s)]
    by_cases h : turns r % 2 = 1
    · rw [if_pos h, if_neg (by omega)]
      omega
    · rw [if_neg h, if_pos (by omega)]
  | .mt _ _ :: r, s => sideAt_turns r s
theorem sideAt_turning (l : List Stp) : sideAt 1 l = if turning l then -1 else 1 := by
  rw [sideAt_turns]
  unfold turning
  by_cases h : turns l % 2 = 1
  · rw [h]
    rfl
  · rw [if_neg h, beq_false_of_ne h]
    rfl
/-- the place of the room that is red at first -/
def placeOf (s : Int) (p : Int × Int) : Int := if s = 1 then p.1 else p.2
theorem play_sim {c : Int} : ∀ (l : List Stp) (s : Int) (p : Int × Int), (s = 1 ∨ s = -1) → p.1 + p.2 = c →
    (playS p l).1 + (playS p l).2 = c ∧ placeOf (sideAt s l) (playS p l) = simP c (sides s l) (placeOf s p) ∧ (playC p l).sum = simC c (sides s l) (placeOf s p)
  | [], s, p, _, h => ⟨h, rfl, rfl⟩
  | .turn :: r, s, p, hs, h => by
    obtain ⟨a, b, d⟩ := play_sim r (0 - s) (p.2, p.1) (by omega) (by show p.2 + p.1 = c; omega)
    have e : placeOf (0 - s) (p.2, p.1) = placeOf s p := by
      unfold placeOf
      rcases hs with rfl | rfl
      · rw [if_neg (by decide), if_pos rfl]
      · rw [if_pos (by decide), if_neg (by decide)]
    have m : moved c (placeOf s p) 0 0 = placeOf s p := by
      unfold moved
      rw [if_neg (by decide), if_neg (by decide)]
    rw [e] at b d
    refine ⟨a, ?_, ?_⟩
    · show placeOf (sideAt (0 - s) r) (playS (p.2, p.1) r) = simP c (sides (0 - s) r) (moved c (placeOf s p) 0 0)
      rw [m, b]
    · show (0 :: playC (p.2, p.1) r).sum = absI (moved c (placeOf s p) 0 0 - placeOf s p) + simC c (sides (0 - s) r) (moved c (placeOf s p) 0 0)
      rw [m, List.sum_cons, d]
      unfold absI
      rw [if_neg (by omega)]
      omega
  | .mt true n :: r, s, p, hs, h => by
    have hm := mx_def 0 (n - p.1)
    obtain ⟨a, b, d⟩ := play_sim r s (p.1 + mx 0 (n - p.1), p.2 - mx 0 (n - p.1)) hs (by show p.1 + mx 0 (n - p.1) + (p.2 - mx 0 (n - p.1)) = c; omega)
    have m : moved c (placeOf s p) s n = placeOf s (p.1 + mx 0 (n - p.1), p.2 - mx 0 (n - p.1)) ∧ absI (moved c (placeOf s p) s n - placeOf s p) = mx 0 (n - p.1) := by
      unfold moved placeOf absI
      rcases hs with rfl | rfl
      · rw [if_pos rfl, if_pos rfl, if_pos rfl]
        have := mx_def p.1 n
        dsimp only
        split <;> omega
      · rw [if_neg (by decide), if_pos rfl, if_neg (by decide), if_neg (by decide)]
        have := mn_def p.2 (c - n)
        dsimp only
        split <;> omega
    refine ⟨a, ?_, ?_⟩
    · show placeOf (sideAt s r) _ = simP c (sides s r) (moved c (placeOf s p) s n)
      rw [m.1]
      exact b
    · show (mx 0 (n - p.1) :: playC _ r).sum = absI (moved c (placeOf s p) s n - placeOf s p) + simC c (sides s r) (moved c (placeOf s p) s n)
      rw [m.2, m.1, List.sum_cons, ← d]
      rfl
  | .mt false n :: r, s, p, hs, h => by
    have hm := mx_def 0 (n - p.2)
    obtain ⟨a, b, d⟩ := play_sim r s (p.1 - mx 0 (n - p.2), p.2 + mx 0 (n - p.2)) hs (by show p.1 - mx 0 (n - p.2) + (p.2 + mx 0 (n - p.2)) = c; omega)
    have m : moved c (placeOf s p) (0 - s) n = placeOf s (p.1 - mx 0 (n - p.2), p.2 + mx 0 (n - p.2)) ∧ absI (moved c (placeOf s p) (0 - s) n - placeOf s p) = mx 0 (n - p.2) := by
      unfold moved placeOf absI
      rcases hs with rfl | rfl
      · rw [if_neg (by decide), if_pos (by decide), if_pos rfl, if_pos rfl]
        have := mn_def p.1 (c - n)
        dsimp only
        split <;> omega
      · rw [if_pos (by decide), if_neg (by decide), if_neg (by decide)]
        have := mx_def p.2 n
        dsimp only
        split <;> omega
    refine ⟨a, ?_, ?_⟩
    · show placeOf (sideAt s r) _ = simP c (sides s r) (moved c (placeOf s p) (0 - s) n)
      rw [m.1]
      exact b
    · show (mx 0 (n - p.2) :: playC _ r).sum = absI (moved c (placeOf s p) (0 - s) n - placeOf s p) + simC c (sides s r) (moved c (placeOf s p) (0 - s) n)
      rw [m.2, m.1, List.sum_cons, ← d]
      rfl
/-- a summary is right -/
theorem summary_right {c x : Int} {l : List Stp} (hl : fitsS c l) (h0 : 0 ≤ x) (h1 : x ≤ c) :
    (playC (x, c - x) l).sum = (effOf c l).carried x ∧ (playS (x, c - x) l).1 = (effOf c l).fin x := by
  have hc : 0 ≤ c := by omega
  obtain ⟨o, oc, ot, f⟩ := effOf_ok hc hl
  obtain ⟨f1, f2⟩ := f x h0 h1
  obtain ⟨a, b, d⟩ := play_sim (c := c) l 1 (x, c - x) (.inl rfl) (by show x + (c - x) = c; omega)
  have e : placeOf 1 (x, c - x) = x := rfl
  rw [e] at b d
  refine ⟨by rw [d, f2], ?_⟩
  unfold Eff.fin
  rw [f1, ot, ← b, oc, sideAt_turning]
  unfold placeOf
  cases turning l with
  | true =>
    simp
    omega
  | false => simp
end ChM

set_option linter.all false
set_option autoImplicit false
set_option maxRecDepth 100000
set_option maxHeartbeats 4000000
namespace ChM
/-! ### effects one after another, rounds -/
def Eff.later (a b : Eff) : Eff := if a.tu then b.mir else b
def goal2 (x y : Option Int) : Option Int := match y with
  | none => x
  | some g => some g
def Eff.followed (a b : Eff) : Eff := mkE a.c ((a.atLeast (a.later b).lo).atMost (a.later b).hi).lo ((a.atLeast (a.later b).lo).atMost (a.later b).hi).hi (((a.atLeast (a.later b).lo).atMost (a.later b).hi).ex + (a.later b).ex) (goal2 ((a.atLeast (a.later b).lo).atMost (a.later b).hi).goal (a.later b).goal) (!decide (a.tu = b.tu))
theorem after_ok {a l : Eff} (ha : a.Ok) (hl : l.Ok) (hc : l.c = a.c) (t : Bool) :
    ∀ R, R = mkE a.c ((a.atLeast l.lo).atMost l.hi).lo ((a.atLeast l.lo).atMost l.hi).hi (((a.atLeast l.lo).atMost l.hi).ex + l.ex) (goal2 ((a.atLeast l.lo).atMost l.hi).goal l.goal) t →
    R.Ok ∧ ∀ x, R.place x = l.place (a.place x) ∧ R.carried x = a.carried x + l.carried (a.place x) := by
  intro R eR
  have l0 := hl.lo0
  have l1 := hl.lh
  have l2 := hl.hc
  have l3 := hl.ex0
  obtain ⟨o1, c1, t1, f1⟩ := atLeast_ok ha (n := l.lo) l0 (by omega)
  obtain ⟨o2, c2, t2, f2⟩ := atMost_ok o1 (m := l.hi) (by omega) (by omega)
  generalize hF : (a.atLeast l.lo).atMost l.hi = F at *
  have cF : F.c = a.c := c2.trans c1
  have pF : ∀ x, F.place x = mn (mx (a.place x) l.lo) l.hi := fun x => by rw [(f2 x).1, (f1 x).1]
  have kF : ∀ x, F.carried x = a.carried x + (mx (mx (l.lo - a.place x) (a.place x - l.hi)) 0) := fun x => by
    rw [(f2 x).2, (f1 x).1, (f1 x).2]
    have := mx_def (a.place x) l.lo
    have := mn_def (mx (a.place x) l.lo) l.hi
    have := mx_def (l.lo - a.place x) (a.place x - l.hi)
    have := mx_def (mx (l.lo - a.place x) (a.place x - l.hi)) 0
    omega
  have f0 := o2.lo0
  have g1 := o2.lh
  have g2 := o2.hc
  have g3 := o2.ex0
  have lc : ∀ x, l.carried x = mx (mx (l.lo - x) (x - l.hi)) 0 + l.ex := fun x => rfl
  have Fc : ∀ x, F.carried x = mx (mx (F.lo - x) (x - F.hi)) 0 + F.ex := fun x => rfl
  cases gl : l.goal with
  | none =>
    obtain ⟨e0, e1⟩ := hl.no gl
    rw [gl] at eR
    have eR2 : R = mkE a.c F.lo F.hi (F.ex + l.ex) F.goal t := eR
    rw [e0, Int.add_zero] at eR2
    have hR : R = { F with tu := t } := by
      rw [eR2, ← cF]
      exact mkE_self o2 t
    have lp : ∀ x, l.place x = mn (mx x l.lo) l.hi := fun x => place_none gl
    refine ⟨?_, fun x => ?_⟩
    · rw [hR]
      exact ⟨f0, g1, g2, g3, o2.no, o2.yes⟩
    · have q1 : R.place x = F.place x := by rw [hR]; rfl
      have q2 : R.carried x = F.carried x := by rw [hR]; rfl
      rw [q1, q2, pF, kF, lp, lc, e0]
      refine ⟨rfl, by omega⟩
  | some g =>
    obtain ⟨y0, y1⟩ := hl.yes g gl
    rw [gl] at eR
    have eR2 : R = mkE a.c F.lo F.hi (F.ex + l.ex) (some g) t := eR
    refine ⟨?_, fun x => ?_⟩
    · rw [eR2]
      exact Ok_some f0 g1 (by omega) (by omega) y0 (by omega)
    · have q1 : R.place x = g := by rw [eR2, mkE_some]; rfl
      have q2 : R.carried x = F.carried x + l.ex := by
        rw [eR2]
        unfold Eff.carried
        simp only [mkE_lo, mkE_hi, mkE_ex]
        omega
      rw [q1, q2, kF, place_some gl, lc]
      refine ⟨rfl, by omega⟩
theorem later_ok {a b : Eff} (hb : b.Ok) : (a.later b).Ok ∧ (a.later b).c = b.c := by
  obtain ⟨o, c, _, _⟩ := mir_ok hb
  unfold Eff.later
  split
  · exact ⟨o, c⟩
  · exact ⟨hb, rfl⟩
theorem fin_range {e : Eff} (h : e.Ok) {x : Int} (h0 : 0 ≤ x) (h1 : x ≤ e.c) : 0 ≤ e.fin x ∧ e.fin x ≤ e.c := by
  obtain ⟨a, b⟩ := place_range h h0 h1
  unfold Eff.fin
  split <;> omega
theorem carried_nonneg {e : Eff} (h : e.Ok) (x : Int) : 0 ≤ e.carried x := by
  have := h.ex0
  unfold Eff.carried
  have := mx_def (mx (e.lo - x) (x - e.hi)) 0
  omega
theorem followed_ok {a b : Eff} (ha : a.Ok) (hb : b.Ok) (hc : b.c = a.c) :
    (a.followed b).Ok ∧ (a.followed b).c = a.c ∧ (a.followed b).tu = !decide (a.tu = b.tu) ∧ ∀ x, (a.followed b).fin x = b.fin (a.fin x) ∧ (a.followed b).carried x = a.carried x + b.carried (a.fin x) := by
  obtain ⟨lo, lc⟩ := later_ok (a := a) hb
  obtain ⟨o, f⟩ := after_ok ha lo (lc.trans hc) (!decide (a.tu = b.tu)) (a.followed b) rfl
  have cc : (a.followed b).c = a.c := rfl
  have ct : (a.followed b).tu = !decide (a.tu = b.tu) := rfl
  refine ⟨o, cc, ct, fun x => ?_⟩
  obtain ⟨f1, f2⟩ := f x
  unfold Eff.fin
  rw [cc, ct, f1, f2]
  obtain ⟨_, _, _, m⟩ := mir_ok hb
  obtain ⟨m1, m2⟩ := m (a.place x)
  unfold Eff.later
  cases ta : a.tu with
  | true =>
    simp only [if_pos]
    rw [m1, m2, hc]
    refine ⟨?_, rfl⟩
    cases tb : b.tu
    · simp
      omega
    · simp
  | false =>
    simp only [Bool.false_eq_true, if_false, if_neg]
    cases tb : b.tu
    · simp
    · simp [hc]
/-- rounds of an effect -/
def runF (e : Eff) : Nat → Int → Int
  | 0, x => x
  | n + 1, x => runF e n (e.fin x)
def runC (e : Eff) : Nat → Int → Int
  | 0, _ => 0
  | n + 1, x => e.carried x + runC e n (e.fin x)
theorem runF_add (e : Eff) : ∀ (i j : Nat) (x : Int), runF e (i + j) x = runF e j (runF e i x)
  | 0, j, x => by rw [Nat.zero_add]; rfl
  | i + 1, j, x => by
    rw [show i + 1 + j = (i + j) + 1 by omega]
    exact runF_add e i j (e.fin x)
theorem runC_add (e : Eff) : ∀ (i j : Nat) (x : Int), runC e (i + j) x = runC e i x + runC e j (runF e i x)
  | 0, j, x => by
    rw [Nat.zero_add]
    show runC e j x = 0 + runC e j x
    omega
  | i + 1, j, x => by
    rw [show i + 1 + j = (i + j) + 1 by omega]
    show e.carried x + runC e (i + j) (e.fin x) = (e.carried x + runC e i (e.fin x)) + runC e j (runF e i (e.fin x))
    rw [runC_add e i j (e.fin x)]
    omega
theorem run_range {e : Eff} (h : e.Ok) : ∀ (n : Nat) {x : Int}, 0 ≤ x → x ≤ e.c → 0 ≤ runF e n x ∧ runF e n x ≤ e.c
  | 0, x, h0, h1 => ⟨h0, h1⟩
  | n + 1, x, h0, h1 => run_range h n (fin_range h h0 h1).1 (fin_range h h0 h1).2
structure IsPow (e : Eff) (n : Nat) (f : Eff) : Prop where
  ok : f.Ok
  c : f.c = e.c
  tu : f.tu = (e.tu && n % 2 == 1)
  fin : ∀ x, 0 ≤ x → x ≤ e.c → f.fin x = runF e n x
  car : ∀ x, 0 ≤ x → x ≤ e.c → f.carried x = runC e n x
theorem isPow_zero {e : Eff} (h : e.Ok) : IsPow e 0 (nothing e.c) := by
  have hc : 0 ≤ e.c := Int.le_trans h.lo0 (Int.le_trans h.lh h.hc)
  obtain ⟨o, f⟩ := nothing_ok hc
  refine ⟨o, rfl, by cases e.tu <;> rfl, fun x h0 h1 => ?_, fun x h0 h1 => (f x h0 h1).2⟩
  show (if false = true then _ else (nothing e.c).place x) = x
  rw [if_neg (by decide)]
  exact (f x h0 h1).1
theorem isPow_one {e : Eff} (h : e.Ok) : IsPow e 1 e := ⟨h, rfl, by cases e.tu <;> rfl, fun _ _ _ => rfl, fun x _ _ => by show _ = e.carried x + 0; omega⟩
theorem isPow_add {e a b : Eff} (h : e.Ok) {i j : Nat} (ha : IsPow e i a) (hb : IsPow e j b) : IsPow e (i + j) (a.followed b) := by
  obtain ⟨o, c, t, f⟩ := followed_ok ha.ok hb.ok (hb.c.trans ha.c.symm)
  refine ⟨o, c.trans ha.c, ?_, fun x h0 h1 => ?_, fun x h0 h1 => ?_⟩
  · rw [t, ha.tu, hb.tu]
    cases e.tu with
    | false => rfl
    | true =>
      have hi : i % 2 = 0 ∨ i % 2 = 1 := by omega
      have hj : j % 2 = 0 ∨ j % 2 = 1 := by omega
      have hij : (i + j) % 2 = (i % 2 + j % 2) % 2 := Nat.add_mod i j 2
      rw [hij]
      rcases hi with hi | hi <;> rcases hj with hj | hj <;> rw [hi, hj] <;> decide
  · obtain ⟨r0, r1⟩ := run_range h i h0 h1
    rw [(f x).1, ha.fin x h0 h1, hb.fin _ r0 r1, runF_add]
  · obtain ⟨r0, r1⟩ := run_range h i h0 h1
    rw [(f x).2, ha.fin x h0 h1, ha.car x h0 h1, hb.car _ r0 r1, runC_add]
/-! ### rounds of a plan are a longer plan -/
def times (l : List Stp) : Nat → List Stp
  | 0 => []
  | n + 1 => l ++ times l n
theorem playS_app : ∀ (a b : List Stp) (p : Int × Int), playS p (a ++ b) = playS (playS p a) b
  | [], _, _ => rfl
  | x :: r, b, p => playS_app r b (play1 p x).1
theorem playC_app : ∀ (a b : List Stp) (p : Int × Int), playC p (a ++ b) = playC p a ++ playC (playS p a) b
  | [], _, _ => rfl
  | x :: r, b, p => congrArg (_ :: ·) (playC_app r b (play1 p x).1)
theorem play_keep (l : List Stp) : ∀ (p : Int × Int), (playS p l).1 + (playS p l).2 = p.1 + p.2 := by
  induction l with
  | nil => exact fun p => rfl
  | cons s r ih =>
    intro p
    show (playS (play1 p s).1 r).1 + (playS (play1 p s).1 r).2 = _
    rw [ih]
    cases s with
    | turn => show p.2 + p.1 = _; omega
    | mt b n =>
      cases b
      · show p.1 - mx 0 (n - p.2) + (p.2 + mx 0 (n - p.2)) = _; omega
      · show p.1 + mx 0 (n - p.1) + (p.2 - mx 0 (n - p.1)) = _; omega
theorem play_pair {l : List Stp} {c x : Int} : playS (x, c - x) l = ((playS (x, c - x) l).1, c - (playS (x, c - x) l).1) := by
  have := play_keep l (x, c - x)
  have e : (x, c - x).1 + (x, c - x).2 = c := by show x + (c - x) = c; omega
  rw [e] at this
  generalize playS (x, c - x) l = p at this
  cases p with
  | mk u v =>
    show (u, v) = (u, c - u)
    rw [show v = c - u by show v = _; have : u + v = c := this; omega]
theorem rounds_right {c : Int} {l : List Stp} (hl : fitsS c l) : ∀ (n : Nat) {x : Int}, 0 ≤ x → x ≤ c →
    (playC (x, c - x) (times l n)).sum = runC (effOf c l) n x ∧ (playS (x, c - x) (times l n)).1 = runF (effOf c l) n x
  | 0, x, _, _ => ⟨rfl, rfl⟩
  | n + 1, x, h0, h1 => by
    obtain ⟨s1, s2⟩ := summary_right hl h0 h1
    obtain ⟨o, oc, _, _⟩ := effOf_ok (by omega : 0 ≤ c) hl
    have r := fin_range o h0 (by omega)
    obtain ⟨q1, q2⟩ := rounds_right hl n r.1 (by omega)
    show (playC (x, c - x) (l ++ times l n)).sum = _ ∧ (playS (x, c - x) (l ++ times l n)).1 = _
    rw [playS_app, playC_app, play_pair, s2, List.sum_append, q1, q2, s1]
    exact ⟨rfl, rfl⟩
end ChM

set_option linter.all false
set_option autoImplicit false
set_option maxRecDepth 100000
set_option maxHeartbeats 4000000
namespace ChM
/-! ### needs, two rounds -/
def mxL (l : List Int) : Int := l.foldr (fun a m => if a > m then a else m) 0
theorem mxL_ge : ∀ l : List Int, 0 ≤ mxL l ∧ ∀ y ∈ l, y ≤ mxL l
  | [] => ⟨Int.le_refl 0, fun y hy => nomatch hy⟩
  | a :: r => by
    obtain ⟨h0, h1⟩ := mxL_ge r
    have e : mxL (a :: r) = if a > mxL r then a else mxL r := rfl
    rw [e]
    refine ⟨by split <;> omega, fun y hy => ?_⟩
    rcases List.mem_cons.mp hy with z | z
    · subst z
      split <;> omega
    · have := h1 y z
      split <;> omega
theorem mxL_mem : ∀ l : List Int, mxL l ∈ l ++ [0]
  | [] => List.mem_singleton.mpr rfl
  | a :: r => by
    have e : mxL (a :: r) = if a > mxL r then a else mxL r := rfl
    rw [e]
    split
    · exact List.mem_cons_self
    · exact List.mem_cons_of_mem _ (mxL_mem r)
theorem mxL_one {l : List Int} {m : Int} (h : m ∈ l ++ [0]) (hm : ∀ y ∈ l ++ [0], y ≤ m) : m = mxL l := by
  have a := hm _ (mxL_mem l)
  obtain ⟨h0, h1⟩ := mxL_ge l
  rcases List.mem_append.mp h with z | z
  · have := h1 m z
    omega
  · have : m = 0 := List.mem_singleton.mp z
    omega
def needL (s : Int) (ps : List (Int × Int)) : List Int := (ps.filter fun p => p.1 = s).map (·.2)
theorem needL_snoc (s : Int) (ps : List (Int × Int)) (p : Int × Int) : needL s (ps ++ [p]) = needL s ps ++ (if p.1 = s then [p.2] else []) := by
  unfold needL
  rw [List.filter_append, List.map_append]
  by_cases h : p.1 = s
  · simp [h]
  · simp [h]
theorem needL_mem {s n : Int} {ps : List (Int × Int)} (h : (s, n) ∈ ps) : n ∈ needL s ps := List.mem_map.mpr ⟨(s, n), List.mem_filter.mpr ⟨h, by simp⟩, rfl⟩
def needsOf (l : List Stp) : Int × Int :=
  if turning l then (mx (mxL (needL 1 (sides 1 l))) (mxL (needL (-1) (sides 1 l))), mx (mxL (needL 1 (sides 1 l))) (mxL (needL (-1) (sides 1 l)))) else (mxL (needL 1 (sides 1 l)), mxL (needL (-1) (sides 1 l)))
def fewest (l : List Stp) : Int := mx (needsOf l).1 (needsOf l).2
def sparing (l : List Stp) : Int := (needsOf l).1 + (needsOf l).2
theorem sides_mem : ∀ (l : List Stp) (s : Int) (b : Bool) (n : Int), (s = 1 ∨ s = -1) → Stp.mt b n ∈ l → (1, n) ∈ sides s l ∨ (-1, n) ∈ sides s l
  | [], _, _, _, _, h => nomatch h
  | .turn :: r, s, b, n, hs, h => by
    rcases List.mem_cons.mp h with z | z
    · cases z
    · rcases sides_mem r (0 - s) b n (by omega) z with q | q
      · exact .inl (List.mem_cons_of_mem _ q)
      · exact .inr (List.mem_cons_of_mem _ q)
  | .mt c m :: r, s, b, n, hs, h => by
    rcases List.mem_cons.mp h with z | z
    · cases z
      have e : sides s (.mt c m :: r) = ((if c then s else 0 - s), m) :: sides s r := rfl
      rw [e]
      rcases hs with rfl | rfl <;> cases c
      · exact .inr List.mem_cons_self
      · exact .inl List.mem_cons_self
      · exact .inl List.mem_cons_self
      · exact .inr List.mem_cons_self
    · rcases sides_mem r s b n hs z with q | q
      · exact .inl (List.mem_cons_of_mem _ q)
      · exact .inr (List.mem_cons_of_mem _ q)
theorem fewest_ge (l : List Stp) : (∀ y ∈ needL 1 (sides 1 l), y ≤ fewest l) ∧ (∀ y ∈ needL (-1) (sides 1 l), y ≤ fewest l) ∧ 0 ≤ fewest l := by
  obtain ⟨a0, a1⟩ := mxL_ge (needL 1 (sides 1 l))
  obtain ⟨b0, b1⟩ := mxL_ge (needL (-1) (sides 1 l))
  unfold fewest needsOf
  have := mx_def (mxL (needL 1 (sides 1 l))) (mxL (needL (-1) (sides 1 l)))
  generalize mxL (needL 1 (sides 1 l)) = a at *
  generalize mxL (needL (-1) (sides 1 l)) = b at *
  split
  · have := mx_def (mx a b) (mx a b)
    refine ⟨fun y hy => ?_, fun y hy => ?_, ?_⟩
    · have := a1 y hy; show y ≤ mx (mx a b) (mx a b); omega
    · have := b1 y hy; show y ≤ mx (mx a b) (mx a b); omega
    · show 0 ≤ mx (mx a b) (mx a b); omega
  · refine ⟨fun y hy => ?_, fun y hy => ?_, ?_⟩
    · have := a1 y hy; show y ≤ mx a b; omega
    · have := b1 y hy; show y ≤ mx a b; omega
    · show 0 ≤ mx a b; omega
theorem fits_fewest {l : List Stp} {c : Int} (hg : ∀ b n, Stp.mt b n ∈ l → 0 ≤ n) (h : fewest l ≤ c) : fitsS c l := fun b n hm => by
  obtain ⟨a, d, _⟩ := fewest_ge l
  refine ⟨hg b n hm, ?_⟩
  rcases sides_mem l 1 b n (.inl rfl) hm with q | q
  · exact Int.le_trans (a n (needL_mem q)) h
  · exact Int.le_trans (d n (needL_mem q)) h
/-- two rounds in the long run -/
def twoR (c : Int) (l : List Stp) : Int := runC (effOf c l) 2 (runF (effOf c l) 2 0)
theorem two_any {e f : Eff} (he : e.Ok) (hp : IsPow e 2 f) {x : Int} (x0 : 0 ≤ x) (x1 : x ≤ e.c) : (match f.goal with | none => 0 | some g => f.carried g) = runC e 2 (runF e 2 x) := by
  have r := run_range he 2 x0 x1
  have ft : f.tu = false := by rw [hp.tu]; cases e.tu <;> rfl
  have fp : f.fin x = f.place x := by unfold Eff.fin; rw [ft]; rfl
  rw [← hp.car _ r.1 r.2, ← hp.fin x x0 x1, fp]
  cases g : f.goal with
  | some y =>
    rw [place_some g]
  | none =>
    obtain ⟨z, l⟩ := hp.ok.no g
    rw [place_none g]
    unfold Eff.carried
    rw [z]
    have := mx_def x f.lo
    have := mn_def (mx x f.lo) f.hi
    generalize mn (mx x f.lo) f.hi = p at *
    have := mx_def (f.lo - p) (p - f.hi)
    have := mx_def (mx (f.lo - p) (p - f.hi)) 0
    show (0 : Int) = mx (mx (f.lo - p) (p - f.hi)) 0 + 0
    omega
def halvesV (n : Int) : Int × Int := if n % 2 = 1 then (n, 2) else (n / 2, 1)
end ChM

set_option linter.all false
set_option autoImplicit false
set_option maxRecDepth 100000
set_option maxHeartbeats 4000000
namespace ChM
/-! ### ways of carrying, told by their places -/
def okAt (c : Int) (p : Int × Int) (y : Int) : Prop := (p.1 = 1 → p.2 ≤ y) ∧ (p.1 = -1 → y ≤ c - p.2)
def WayIn (c : Int) : List (Int × Int) → List Int → Prop
  | [], [] => True
  | p :: r, y :: ys => okAt c p y ∧ WayIn c r ys
  | _, _ => False
def lenW : Int → List Int → Int
  | _, [] => 0
  | x, y :: ys => absI (y - x) + lenW y ys
def endW : Int → List Int → Int
  | x, [] => x
  | _, y :: ys => endW y ys
theorem absI_spec (a : Int) : (absI a = a ∧ 0 ≤ a) ∨ (absI a = -a ∧ a < 0) := by
  unfold absI
  split <;> omega
theorem lenW_nonneg : ∀ (ys : List Int) (x : Int), 0 ≤ lenW x ys
  | [], _ => Int.le_refl 0
  | y :: ys, x => by
    have := lenW_nonneg ys y
    have := absI_spec (y - x)
    show 0 ≤ absI (y - x) + lenW y ys
    omega
theorem moved_between {c : Int} {q : Int × Int} {y p : Int} (hs : q.1 = 1 ∨ q.1 = -1 ∨ q.1 = 0) (h : okAt c q y) : absI (moved c p q.1 q.2 - p) + absI (y - moved c p q.1 q.2) = absI (y - p) := by
  obtain ⟨h1, h2⟩ := h
  have a1 := absI_spec (moved c p q.1 q.2 - p)
  have a2 := absI_spec (y - moved c p q.1 q.2)
  have a3 := absI_spec (y - p)
  have m : moved c p q.1 q.2 = if q.1 = 1 then mx p q.2 else if q.1 = -1 then mn p (c - q.2) else p := rfl
  rcases hs with s | s | s
  · rw [if_pos s] at m
    have := h1 s
    have := mx_def p q.2
    omega
  · rw [if_neg (by omega), if_pos s] at m
    have := h2 s
    have := mn_def p (c - q.2)
    omega
  · rw [if_neg (by omega), if_neg (by omega)] at m
    omega
/-- no way is shorter than the lazy one and the way that is left -/
theorem way_ge {c : Int} : ∀ (ps : List (Int × Int)) (ys : List Int) (p y : Int), fits c ps → WayIn c ps ys → simC c ps p + absI (endW y ys - simP c ps p) ≤ lenW y ys + absI (y - p)
  | [], [], p, y, _, _ => by
    show 0 + absI (y - p) ≤ 0 + absI (y - p)
    omega
  | [], _ :: _, _, _, _, h => nomatch (show False from h)
  | _ :: _, [], _, _, _, h => nomatch (show False from h)
  | q :: r, y1 :: ys, p, y, hf, ⟨h1, h2⟩ => by
    have ih := way_ge r ys (moved c p q.1 q.2) y1 (fun z hz => hf z (List.mem_cons_of_mem _ hz)) h2
    have b := moved_between (p := p) (hf q List.mem_cons_self).1 h1
    have a1 := absI_spec (y1 - p)
    have a2 := absI_spec (y1 - y)
    have a3 := absI_spec (y - p)
    show absI (moved c p q.1 q.2 - p) + simC c r (moved c p q.1 q.2) + absI (endW y1 ys - simP c r (moved c p q.1 q.2)) ≤ absI (y1 - y) + lenW y1 ys + absI (y - p)
    omega
def lazyW (c : Int) : List (Int × Int) → Int → List Int
  | [], _ => []
  | q :: r, x => moved c x q.1 q.2 :: lazyW c r (moved c x q.1 q.2)
theorem lazy_in {c : Int} : ∀ (ps : List (Int × Int)) (x : Int), WayIn c ps (lazyW c ps x) ∧ lenW x (lazyW c ps x) = simC c ps x ∧ endW x (lazyW c ps x) = simP c ps x
  | [], _ => ⟨trivial, rfl, rfl⟩
  | q :: r, x => by
    obtain ⟨a, b, d⟩ := lazy_in r (moved c x q.1 q.2)
    refine ⟨⟨⟨fun s => ?_, fun s => ?_⟩, a⟩, ?_, d⟩
    · unfold moved
      rw [if_pos s]
      have := mx_def x q.2
      omega
    · unfold moved
      rw [if_neg (by omega), if_pos s]
      have := mn_def x (c - q.2)
      omega
    · show absI (moved c x q.1 q.2 - x) + lenW (moved c x q.1 q.2) (lazyW c r (moved c x q.1 q.2)) = absI (moved c x q.1 q.2 - x) + simC c r (moved c x q.1 q.2)
      rw [b]
/-! ### two rounds -/
theorem sides_app : ∀ (l m : List Stp) (s : Int), sides s (l ++ m) = sides s l ++ sides (sideAt s l) m
  | [], _, _ => rfl
  | .turn :: r, m, s => by show (0, 0) :: sides (0 - s) (r ++ m) = (0, 0) :: (sides (0 - s) r ++ sides (sideAt (0 - s) r) m); rw [sides_app r m (0 - s)]
  | .mt b n :: r, m, s => by show (_, n) :: sides s (r ++ m) = (_, n) :: (sides s r ++ sides (sideAt s r) m); rw [sides_app r m s]
theorem times_fits {c : Int} {l : List Stp} (h : fitsS c l) : ∀ n, fitsS c (times l n)
  | 0 => fun b n hm => nomatch hm
  | n + 1 => fun b m hm => by
    rcases List.mem_append.mp hm with z | z
    · exact h b m z
    · exact times_fits h n b m z
theorem times_turns (l : List Stp) : ∀ n, turns (times l n) = n * turns l
  | 0 => (Nat.zero_mul _).symm
  | n + 1 => by
    show turns (l ++ times l n) = _
    rw [turns_app, times_turns l n, Nat.succ_mul]
    omega
def ps2 (l : List Stp) : List (Int × Int) := sides 1 (times l 2)
theorem two_eff2 {c : Int} {l : List Stp} (hc : 0 ≤ c) (hl : fitsS c l) :
    ∃ f : Eff, f.Ok ∧ f.c = c ∧ (∀ x, 0 ≤ x → x ≤ c → f.carried x = simC c (ps2 l) x ∧ f.place x = simP c (ps2 l) x ∧ runC (effOf c l) 2 x = f.carried x ∧ runF (effOf c l) 2 x = f.place x) := by
  have hf := times_fits hl 2
  obtain ⟨o, oc, ot, of⟩ := effOf_ok hc hf
  refine ⟨effOf c (times l 2), o, oc, fun x h0 h1 => ?_⟩
  obtain ⟨p, q⟩ := of x h0 h1
  obtain ⟨r1, r2⟩ := rounds_right hl 2 h0 h1
  obtain ⟨s1, s2⟩ := summary_right hf h0 h1
  have tf : (effOf c (times l 2)).tu = false := by
    rw [ot]
    unfold turning
    rw [times_turns]
    have : 2 * turns l % 2 = 0 := by omega
    rw [this]
    rfl
  have ff : (effOf c (times l 2)).fin x = (effOf c (times l 2)).place x := by unfold Eff.fin; rw [tf]; rfl
  refine ⟨q, p, ?_, ?_⟩
  · rw [← r1, ← s1]
  · rw [← r2, ← ff, ← s2]
theorem two_way {c : Int} {l : List Stp} (hc : 0 ≤ c) (hl : fitsS c l) : ∃ a ys, 0 ≤ a ∧ a ≤ c ∧ WayIn c (ps2 l) ys ∧ endW a ys = a ∧ lenW a ys = twoR c l := by
  obtain ⟨f, o, oc, h⟩ := two_eff2 hc hl
  obtain ⟨_, _, _, e2⟩ := h 0 (Int.le_refl 0) hc
  have r := place_range o (Int.le_refl 0) (by omega)
  rw [oc] at r
  obtain ⟨k1, k2, k3, _⟩ := h (f.place 0) r.1 r.2
  obtain ⟨w1, w2, w3⟩ := lazy_in (c := c) (ps2 l) (f.place 0)
  refine ⟨f.place 0, _, r.1, r.2, w1, ?_, ?_⟩
  · rw [w3, ← k2]
    cases g : f.goal with
    | some y => rw [place_some g, place_some g]
    | none =>
      have := (o.no g).2
      rw [place_none g, place_none g]
      have := mx_def 0 f.lo
      have := mn_def (mx 0 f.lo) f.hi
      have := mx_def (mn (mx 0 f.lo) f.hi) f.lo
      have := mn_def (mx (mn (mx 0 f.lo) f.hi) f.lo) f.hi
      omega
  · rw [w2, ← k1, ← k3, ← e2]
    rfl
theorem two_le {c : Int} {l : List Stp} (hc : 0 ≤ c) (hl : fitsS c l) {a : Int} {ys : List Int} (a0 : 0 ≤ a) (a1 : a ≤ c) (w : WayIn c (ps2 l) ys) (e : endW a ys = a) : twoR c l ≤ lenW a ys := by
  obtain ⟨f, o, oc, h⟩ := two_eff2 hc hl
  have hf : fits c (ps2 l) := sides_fits _ 1 (.inl rfl) hc (times_fits hl 2)
  have g := way_ge (ps2 l) ys a a hf w
  obtain ⟨k1, k2, _, _⟩ := h a a0 a1
  rw [e, ← k1, ← k2] at g
  obtain ⟨_, _, _, e2⟩ := h 0 (Int.le_refl 0) hc
  have r := place_range o (Int.le_refl 0) (by omega)
  rw [oc] at r
  obtain ⟨_, _, k3, _⟩ := h (f.place 0) r.1 r.2
  have tw : twoR c l = f.carried (f.place 0) := by
    unfold twoR
    rw [e2, k3]
  rw [tw]
  have z := absI_spec (a - a)
  have ab := absI_spec (a - f.place a)
  have n := lenW_nonneg ys a
  cases gg : f.goal with
  | none =>
    obtain ⟨ex, lt⟩ := o.no gg
    have c1 : f.carried (f.place 0) = mx (mx (f.lo - f.place 0) (f.place 0 - f.hi)) 0 + f.ex := rfl
    rw [c1, ex]
    rw [place_none gg]
    have := mx_def 0 f.lo
    have := mn_def (mx 0 f.lo) f.hi
    generalize mn (mx 0 f.lo) f.hi = q at *
    have := mx_def (f.lo - q) (q - f.hi)
    have := mx_def (mx (f.lo - q) (q - f.hi)) 0
    omega
  | some y =>
    rw [place_some gg] at ab ⊢
    rw [place_some gg] at g
    have c1 : f.carried y = mx (mx (f.lo - y) (y - f.hi)) 0 + f.ex := rfl
    have c2 : f.carried a = mx (mx (f.lo - a) (a - f.hi)) 0 + f.ex := rfl
    have := mx_def (f.lo - y) (y - f.hi)
    have := mx_def (mx (f.lo - y) (y - f.hi)) 0
    have := mx_def (f.lo - a) (a - f.hi)
    have := mx_def (mx (f.lo - a) (a - f.hi)) 0
    omega
theorem two_nonneg {c : Int} {l : List Stp} (hc : 0 ≤ c) (hl : fitsS c l) : 0 ≤ twoR c l := by
  obtain ⟨a, ys, _, _, _, _, e⟩ := two_way hc hl
  rw [← e]
  exact lenW_nonneg ys a
theorem wayIn_le {c d : Int} (h : c ≤ d) : ∀ (ps : List (Int × Int)) (ys : List Int), WayIn c ps ys → WayIn d ps ys
  | [], [], _ => trivial
  | [], _ :: _, h => nomatch (show False from h)
  | _ :: _, [], h => nomatch (show False from h)
  | _ :: r, _ :: ys, ⟨⟨a, b⟩, w⟩ => ⟨⟨a, fun s => by have := b s; omega⟩, wayIn_le h r ys w⟩
theorem fitsS_le {c d : Int} {l : List Stp} (h : fitsS c l) (e : c ≤ d) : fitsS d l := fun b n hm => ⟨(h b n hm).1, Int.le_trans (h b n hm).2 e⟩
theorem two_mono {c d : Int} {l : List Stp} (hc : 0 ≤ c) (hl : fitsS c l) (h : c ≤ d) : twoR d l ≤ twoR c l := by
  obtain ⟨a, ys, a0, a1, w, e, el⟩ := two_way hc hl
  rw [← el]
  exact two_le (by omega) (fitsS_le hl h) a0 (by omega) (wayIn_le h _ _ w) e
/-! ### savings never grow -/
def midL (k : Int) : List Int → List Int → List Int
  | y :: ys, z :: zs => (y + z + k) / 2 :: midL k ys zs
  | _, _ => []
theorem mid_in {c : Int} {k : Int} (hk : k = 0 ∨ k = 1) : ∀ (ps : List (Int × Int)) (ys zs : List Int), WayIn c ps ys → WayIn (c + 2) ps zs → WayIn (c + 1) ps (midL k ys zs)
  | [], [], [], _, _ => trivial
  | [], _ :: _, _, h, _ => nomatch (show False from h)
  | [], [], _ :: _, _, h => nomatch (show False from h)
  | _ :: _, [], _, h, _ => nomatch (show False from h)
  | _ :: _, _ :: _, [], _, h => nomatch (show False from h)
  | p :: r, y :: ys, z :: zs, ⟨⟨a1, b1⟩, w1⟩, ⟨⟨a2, b2⟩, w2⟩ => ⟨⟨fun s => by have := a1 s; have := a2 s; omega, fun s => by have := b1 s; have := b2 s; omega⟩, mid_in hk r ys zs w1 w2⟩
theorem mid_end {c d : Int} {k : Int} : ∀ (ps : List (Int × Int)) (ys zs : List Int) (a b : Int), WayIn c ps ys → WayIn d ps zs → endW ((a + b + k) / 2) (midL k ys zs) = (endW a ys + endW b zs + k) / 2
  | [], [], [], _, _, _, _ => rfl
  | [], _ :: _, _, _, _, h, _ => nomatch (show False from h)
  | [], [], _ :: _, _, _, _, h => nomatch (show False from h)
  | _ :: _, [], _, _, _, h, _ => nomatch (show False from h)
  | _ :: _, _ :: _, [], _, _, _, h => nomatch (show False from h)
  | p :: r, y :: ys, z :: zs, _, _, ⟨_, w1⟩, ⟨_, w2⟩ => mid_end r ys zs y z w1 w2
theorem mid_len {c d : Int} : ∀ (ps : List (Int × Int)) (ys zs : List Int) (a b : Int), WayIn c ps ys → WayIn d ps zs → lenW ((a + b + 0) / 2) (midL 0 ys zs) + lenW ((a + b + 1) / 2) (midL 1 ys zs) ≤ lenW a ys + lenW b zs
  | [], [], [], _, _, _, _ => Int.le_refl _
  | [], _ :: _, _, _, _, h, _ => nomatch (show False from h)
  | [], [], _ :: _, _, _, _, h => nomatch (show False from h)
  | _ :: _, [], _, _, _, h, _ => nomatch (show False from h)
  | _ :: _, _ :: _, [], _, _, _, h => nomatch (show False from h)
  | p :: r, y :: ys, z :: zs, a, b, ⟨_, w1⟩, ⟨_, w2⟩ => by
    have ih := mid_len r ys zs y z w1 w2
    have e1 := absI_spec ((y + z + 0) / 2 - (a + b + 0) / 2)
    have e2 := absI_spec ((y + z + 1) / 2 - (a + b + 1) / 2)
    have e3 := absI_spec (y - a)
    have e4 := absI_spec (z - b)
    show absI ((y + z + 0) / 2 - (a + b + 0) / 2) + lenW ((y + z + 0) / 2) (midL 0 ys zs) + (absI ((y + z + 1) / 2 - (a + b + 1) / 2) + lenW ((y + z + 1) / 2) (midL 1 ys zs)) ≤ absI (y - a) + lenW y ys + (absI (z - b) + lenW z zs)
    omega
theorem two_convex {c : Int} {l : List Stp} (hc : 0 ≤ c) (hl : fitsS c l) : 2 * twoR (c + 1) l ≤ twoR c l + twoR (c + 2) l := by
  obtain ⟨a, ys, a0, a1, w1, e1, l1⟩ := two_way hc hl
  obtain ⟨b, zs, b0, b1, w2, e2, l2⟩ := two_way (c := c + 2) (by omega) (fitsS_le hl (by omega))
  have hl1 : fitsS (c + 1) l := fitsS_le hl (by omega)
  have m := mid_len (ps2 l) ys zs a b w1 w2
  have x := two_le (c := c + 1) (by omega) hl1 (a := (a + b + 0) / 2) (by omega) (by omega) (mid_in (.inl rfl) _ _ _ w1 w2) (by rw [mid_end (ps2 l) ys zs a b w1 w2, e1, e2])
  have y := two_le (c := c + 1) (by omega) hl1 (a := (a + b + 1) / 2) (by omega) (by omega) (mid_in (.inr rfl) _ _ _ w1 w2) (by rw [mid_end (ps2 l) ys zs a b w1 w2, e1, e2])
  omega
def savR (c : Int) (l : List Stp) : Int := twoR c l - twoR (c + 1) l
theorem sav_step {c : Int} {l : List Stp} (hc : 0 ≤ c) (hl : fitsS c l) : savR (c + 1) l ≤ savR c l := by
  have := two_convex hc hl
  unfold savR
  rw [show c + 1 + 1 = c + 2 by omega]
  omega
theorem sav_anti {c : Int} {l : List Stp} (hc : 0 ≤ c) (hl : fitsS c l) : ∀ n : Nat, savR (c + n) l ≤ savR c l
  | 0 => by rw [show c + ((0 : Nat) : Int) = c by omega]; exact Int.le_refl _
  | n + 1 => by
    have := sav_anti hc hl n
    have := sav_step (c := c + n) (by omega) (fitsS_le hl (by omega))
    rw [show c + ((n + 1 : Nat) : Int) = c + n + 1 by omega]
    omega
theorem sav_le {c d : Int} {l : List Stp} (hc : 0 ≤ c) (hl : fitsS c l) (h : c ≤ d) : savR d l ≤ savR c l := by
  have := sav_anti hc hl (d - c).toNat
  rw [show c + ((d - c).toNat : Int) = d by omega] at this
  exact this
theorem sav_nonneg {c : Int} {l : List Stp} (hc : 0 ≤ c) (hl : fitsS c l) : 0 ≤ savR c l := by
  have := two_mono hc hl (show c ≤ c + 1 by omega)
  unfold savR
  omega
/-! ### needs in two rounds -/
theorem sides_neg : ∀ (l : List Stp) (s : Int), sides (0 - s) l = (sides s l).map fun p => (0 - p.1, p.2)
  | [], _ => rfl
  | .turn :: r, s => by
    show (0, 0) :: sides (0 - (0 - s)) r = (0 - 0, 0) :: (sides (0 - s) r).map _
    rw [sides_neg r (0 - s)]
    rfl
  | .mt b n :: r, s => by
    show ((if b then 0 - s else 0 - (0 - s)), n) :: sides (0 - s) r = (0 - (if b then s else 0 - s), n) :: (sides s r).map _
    rw [sides_neg r s]
    cases b <;> rfl
theorem ps2_eq (l : List Stp) : ps2 l = sides 1 l ++ (if turning l = true then (sides 1 l).map (fun p => (0 - p.1, p.2)) else sides 1 l) := by
  show sides 1 (l ++ (l ++ [])) = _
  rw [List.append_nil, sides_app, sideAt_turns]
  unfold turning
  by_cases h : turns l % 2 = 1
  · rw [if_pos h, sides_neg l 1, if_pos (by rw [h]; rfl)]
  · rw [if_neg h, if_neg (by intro z; exact h (by simpa using z))]
theorem needL_in {s n : Int} {ps : List (Int × Int)} (h : n ∈ needL s ps) : (s, n) ∈ ps := by
  unfold needL at h
  obtain ⟨p, hp, e⟩ := List.mem_map.mp h
  obtain ⟨h1, h2⟩ := List.mem_filter.mp hp
  have : p.1 = s := by simpa using h2
  cases p
  cases this
  cases e
  exact h1
theorem mxL_at (l : List Int) : mxL l = 0 ∨ mxL l ∈ l := by
  rcases List.mem_append.mp (mxL_mem l) with h | h
  · exact .inr h
  · exact .inl (List.mem_singleton.mp h)
theorem needs_two (l : List Stp) : (∀ n, (1, n) ∈ ps2 l → n ≤ (needsOf l).1) ∧ (∀ n, (-1, n) ∈ ps2 l → n ≤ (needsOf l).2) ∧ ((needsOf l).1 = 0 ∨ (1, (needsOf l).1) ∈ ps2 l) ∧ ((needsOf l).2 = 0 ∨ (-1, (needsOf l).2) ∈ ps2 l) ∧ 0 ≤ (needsOf l).1 ∧ 0 ≤ (needsOf l).2 := by
  obtain ⟨a0, a1⟩ := mxL_ge (needL 1 (sides 1 l))
  obtain ⟨b0, b1⟩ := mxL_ge (needL (-1) (sides 1 l))
  have am := mxL_at (needL 1 (sides 1 l))
  have bm := mxL_at (needL (-1) (sides 1 l))
  have u1 : ∀ n, (1, n) ∈ sides 1 l → n ≤ mxL (needL 1 (sides 1 l)) := fun n h => a1 n (needL_mem h)
  have u2 : ∀ n, (-1, n) ∈ sides 1 l → n ≤ mxL (needL (-1) (sides 1 l)) := fun n h => b1 n (needL_mem h)
  have am' : mxL (needL 1 (sides 1 l)) = 0 ∨ (1, mxL (needL 1 (sides 1 l))) ∈ sides 1 l := am.imp id needL_in
  have bm' : mxL (needL (-1) (sides 1 l)) = 0 ∨ (-1, mxL (needL (-1) (sides 1 l))) ∈ sides 1 l := bm.imp id needL_in
  rw [ps2_eq]
  unfold needsOf
  generalize mxL (needL 1 (sides 1 l)) = A at *
  generalize mxL (needL (-1) (sides 1 l)) = B at *
  by_cases h : turning l = true
  · rw [if_pos h, if_pos h]
    have fl : ∀ s n : Int, (s, n) ∈ (sides 1 l).map (fun p => (0 - p.1, p.2)) ↔ (0 - s, n) ∈ sides 1 l := fun s n => by
      constructor
      · intro q
        obtain ⟨p, hp, e⟩ := List.mem_map.mp q
        cases p with
        | mk u v =>
          cases e
          rw [show 0 - (0 - u) = u by omega]
          exact hp
      · intro q
        exact List.mem_map.mpr ⟨_, q, by show (0 - (0 - s), n) = (s, n); rw [show 0 - (0 - s) = s by omega]⟩
    have m := mx_def A B
    refine ⟨fun n hn => ?_, fun n hn => ?_, ?_, ?_, by show 0 ≤ mx A B; omega, by show 0 ≤ mx A B; omega⟩
    · show n ≤ mx A B
      rcases List.mem_append.mp hn with q | q
      · have := u1 n q; omega
      · have := u2 n ((fl 1 n).mp q); omega
    · show n ≤ mx A B
      rcases List.mem_append.mp hn with q | q
      · have := u2 n q; omega
      · have := u1 n ((fl (-1) n).mp q); omega
    · show mx A B = 0 ∨ (1, mx A B) ∈ _
      rcases m with ⟨e, _⟩ | ⟨e, _⟩ <;> rw [e]
      · exact am'.imp id fun q => List.mem_append_left _ q
      · exact bm'.imp id fun q => List.mem_append_right _ ((fl 1 B).mpr q)
    · show mx A B = 0 ∨ (-1, mx A B) ∈ _
      rcases m with ⟨e, _⟩ | ⟨e, _⟩ <;> rw [e]
      · exact am'.imp id fun q => List.mem_append_right _ ((fl (-1) A).mpr q)
      · exact bm'.imp id fun q => List.mem_append_left _ q
  · rw [if_neg h, if_neg h]
    refine ⟨fun n hn => ?_, fun n hn => ?_, am'.imp id fun q => List.mem_append_left _ q, bm'.imp id fun q => List.mem_append_left _ q, a0, b0⟩
    · rcases List.mem_append.mp hn with q | q <;> exact u1 n q
    · rcases List.mem_append.mp hn with q | q <;> exact u2 n q
theorem const_in {c a : Int} : ∀ (ps : List (Int × Int)), (∀ n, (1, n) ∈ ps → n ≤ a) → (∀ n, (-1, n) ∈ ps → a ≤ c - n) → ∃ ys, WayIn c ps ys ∧ endW a ys = a ∧ lenW a ys = 0
  | [], _, _ => ⟨[], trivial, rfl, rfl⟩
  | (s, n) :: r, h1, h2 => by
    obtain ⟨ys, w, e, z⟩ := const_in r (fun m hm => h1 m (List.mem_cons_of_mem _ hm)) (fun m hm => h2 m (List.mem_cons_of_mem _ hm))
    refine ⟨a :: ys, ⟨⟨fun q => ?_, fun q => ?_⟩, w⟩, e, ?_⟩
    · have q : s = 1 := q
      subst q
      exact h1 n List.mem_cons_self
    · have q : s = -1 := q
      subst q
      exact h2 n List.mem_cons_self
    · show absI (a - a) + lenW a ys = 0
      rw [z]
      have := absI_spec (a - a)
      omega
theorem const_of {c : Int} : ∀ (ps : List (Int × Int)) (ys : List Int) (a : Int), WayIn c ps ys → lenW a ys = 0 → (∀ n, (1, n) ∈ ps → n ≤ a) ∧ (∀ n, (-1, n) ∈ ps → a ≤ c - n)
  | [], [], _, _, _ => ⟨(fun n h => nomatch h), (fun n h => nomatch h)⟩
  | [], _ :: _, _, h, _ => nomatch (show False from h)
  | _ :: _, [], _, h, _ => nomatch (show False from h)
  | (s, m) :: r, y :: ys, a, ⟨⟨h1, h2⟩, w⟩, e => by
    have e : absI (y - a) + lenW y ys = 0 := e
    have n0 := lenW_nonneg ys y
    have ab := absI_spec (y - a)
    have ya : y = a := by omega
    subst ya
    obtain ⟨i1, i2⟩ := const_of r ys y w (by omega)
    refine ⟨fun n hn => ?_, fun n hn => ?_⟩
    · rcases List.mem_cons.mp hn with q | q
      · cases q; exact h1 rfl
      · exact i1 n q
    · rcases List.mem_cons.mp hn with q | q
      · cases q; exact h2 rfl
      · exact i2 n q
theorem spare_zero {c : Int} {l : List Stp} (hl : fitsS c l) (h : sparing l ≤ c) : twoR c l = 0 := by
  obtain ⟨n1, n2, _, _, p1, p2⟩ := needs_two l
  unfold sparing at h
  obtain ⟨ys, w, e, z⟩ := const_in (c := c) (a := (needsOf l).1) (ps2 l) n1 (fun n hn => by have := n2 n hn; omega)
  have a := two_le (by omega) hl p1 (by omega) w e
  have b := two_nonneg (c := c) (by omega) hl
  omega
theorem spare_pos {c : Int} {l : List Stp} (hc : 0 ≤ c) (hl : fitsS c l) (h : c < sparing l) : 0 < twoR c l := by
  obtain ⟨_, _, m1, m2, p1, p2⟩ := needs_two l
  have b := two_nonneg hc hl
  rcases Int.lt_or_le 0 (twoR c l) with q | q
  · exact q
  · exfalso
    obtain ⟨a, ys, a0, a1, w, _, el⟩ := two_way hc hl
    obtain ⟨i1, i2⟩ := const_of (ps2 l) ys a w (by omega)
    unfold sparing at h
    have u : (needsOf l).1 ≤ a := by
      rcases m1 with z | z
      · omega
      · exact i1 _ z
    have v : a ≤ c - (needsOf l).2 := by
      rcases m2 with z | z
      · omega
      · exact i2 _ z
    omega
/-! ### the fewest chairs -/
def needsL : List Stp → List Int
  | [] => []
  | .turn :: r => needsL r
  | .mt _ n :: r => n :: needsL r
theorem needsL_mem {n : Int} : ∀ {l : List Stp}, n ∈ needsL l ↔ ∃ b, Stp.mt b n ∈ l
  | [] => ⟨(fun h => nomatch h), (fun ⟨b, h⟩ => nomatch h)⟩
  | .turn :: r => ⟨fun h => by obtain ⟨b, q⟩ := (needsL_mem (l := r)).mp h; exact ⟨b, List.mem_cons_of_mem _ q⟩, fun ⟨b, h⟩ => by
    rcases List.mem_cons.mp h with q | q
    · cases q
    · exact (needsL_mem (l := r)).mpr ⟨b, q⟩⟩
  | .mt c m :: r => ⟨fun h => by
    rcases List.mem_cons.mp h with q | q
    · subst q; exact ⟨c, List.mem_cons_self⟩
    · obtain ⟨b, q⟩ := (needsL_mem (l := r)).mp q; exact ⟨b, List.mem_cons_of_mem _ q⟩, fun ⟨b, h⟩ => by
    rcases List.mem_cons.mp h with q | q
    · cases q; exact List.mem_cons_self
    · exact List.mem_cons_of_mem _ ((needsL_mem (l := r)).mpr ⟨b, q⟩)⟩
theorem sides_need : ∀ (l : List Stp) (s t n : Int), (t, n) ∈ sides s l → t ≠ 0 → n ∈ needsL l
  | [], _, _, _, h, _ => nomatch h
  | .turn :: r, s, t, n, h, ht => by
    rcases List.mem_cons.mp h with q | q
    · cases q; exact absurd rfl ht
    · exact sides_need r (0 - s) t n q ht
  | .mt b m :: r, s, t, n, h, ht => by
    rcases List.mem_cons.mp h with q | q
    · cases q; exact List.mem_cons_self
    · exact List.mem_cons_of_mem _ (sides_need r s t n q ht)
theorem fewest_is {l : List Stp} {m : Int} (hm : m ∈ needsL l ++ [0]) (hx : ∀ y ∈ needsL l ++ [0], y ≤ m) : fewest l = m := by
  obtain ⟨a, d, z⟩ := fewest_ge l
  have le : m ≤ fewest l := by
    rcases List.mem_append.mp hm with q | q
    · obtain ⟨b, hb⟩ := needsL_mem.mp q
      rcases sides_mem l 1 b m (.inl rfl) hb with y | y
      · exact a m (needL_mem y)
      · exact d m (needL_mem y)
    · have : m = 0 := List.mem_singleton.mp q
      omega
  have am := mxL_at (needL 1 (sides 1 l))
  have bm := mxL_at (needL (-1) (sides 1 l))
  have z0 := hx 0 (List.mem_append_right _ List.mem_cons_self)
  have ua : mxL (needL 1 (sides 1 l)) ≤ m := by
    rcases am with q | q
    · omega
    · exact hx _ (List.mem_append_left _ (sides_need l 1 1 _ (needL_in q) (by decide)))
  have ub : mxL (needL (-1) (sides 1 l)) ≤ m := by
    rcases bm with q | q
    · omega
    · exact hx _ (List.mem_append_left _ (sides_need l 1 (-1) _ (needL_in q) (by decide)))
  have ge : fewest l ≤ m := by
    unfold fewest needsOf
    have := mx_def (mxL (needL 1 (sides 1 l))) (mxL (needL (-1) (sides 1 l)))
    generalize mxL (needL 1 (sides 1 l)) = A at *
    generalize mxL (needL (-1) (sides 1 l)) = B at *
    split
    · have := mx_def (mx A B) (mx A B)
      show mx (mx A B) (mx A B) ≤ m
      omega
    · show mx A B ≤ m
      omega
  omega
theorem spare_le (l : List Stp) : sparing l ≤ 2 * fewest l := by
  unfold sparing fewest
  have := mx_def (needsOf l).1 (needsOf l).2
  omega
theorem spare_ge (l : List Stp) : fewest l ≤ sparing l := by
  obtain ⟨_, _, _, _, p1, p2⟩ := needs_two l
  unfold sparing fewest
  have := mx_def (needsOf l).1 (needsOf l).2
  omega
theorem few_fits {c : Int} {l : List Stp} (hc : 0 ≤ c) (hl : fitsS c l) : fewest l ≤ c := by
  have all : ∀ y ∈ needsL l, y ≤ c := fun y hy => by
    obtain ⟨b, hb⟩ := needsL_mem.mp hy
    exact (hl b y hb).2
  have u1 := mxL_at (needL 1 (sides 1 l))
  have u2 := mxL_at (needL (-1) (sides 1 l))
  have w1 : mxL (needL 1 (sides 1 l)) ≤ c := by
    rcases u1 with q | q
    · omega
    · exact all _ (sides_need l 1 1 _ (needL_in q) (by decide))
  have w2 : mxL (needL (-1) (sides 1 l)) ≤ c := by
    rcases u2 with q | q
    · omega
    · exact all _ (sides_need l 1 (-1) _ (needL_in q) (by decide))
  unfold fewest needsOf
  have := mx_def (mxL (needL 1 (sides 1 l))) (mxL (needL (-1) (sides 1 l)))
  generalize mxL (needL 1 (sides 1 l)) = A at *
  generalize mxL (needL (-1) (sides 1 l)) = B at *
  split
  · have := mx_def (mx A B) (mx A B)
    show mx (mx A B) (mx A B) ≤ c
    omega
  · show mx A B ≤ c
    omega
theorem halves_ok (n : Int) : ((halvesV n).2 = 2 ∧ n % 2 = 1 ∧ (halvesV n).1 = n) ∨ ((halvesV n).2 = 1 ∧ 2 * (halvesV n).1 = n) := by
  unfold halvesV
  by_cases h : n % 2 = 1
  · rw [if_pos h]; exact .inl ⟨rfl, h, rfl⟩
  · rw [if_neg h]; refine .inr ⟨rfl, ?_⟩; show 2 * (n / 2) = n; omega
theorem halves_back (n : Int) : (halvesV n).1 * 2 / (halvesV n).2 = n := by
  rcases halves_ok n with ⟨a, _, c⟩ | ⟨a, c⟩ <;> rw [a] <;> omega
/-! ### from any start, in the long run -/
theorem long_any {c : Int} {l : List Stp} (hc : 0 ≤ c) (hl : fitsS c l) {x : Int} (x0 : 0 ≤ x) (x1 : x ≤ c) (n : Nat) : runC (effOf c l) 2 (runF (effOf c l) (n + 2) x) = twoR c l := by
  obtain ⟨o, oc, _, _⟩ := effOf_ok hc hl
  have ip := isPow_add o (isPow_one o) (isPow_one o)
  have r := run_range o n x0 (by rw [oc]; exact x1)
  rw [runF_add]
  rw [← two_any o ip r.1 r.2]
  exact two_any o ip (Int.le_refl 0) (by omega)
/-! ### prices -/
def priceC (l : List Stp) (pr cr c : Int) : Int := 2 * pr * c + cr * twoR c l
theorem price_step (l : List Stp) (pr cr c : Int) : priceC l pr cr (c + 1) = priceC l pr cr c + 2 * pr - cr * savR c l := by
  unfold priceC savR
  rw [Int.mul_add, Int.mul_sub, Int.mul_one]
  omega
theorem price_up {l : List Stp} {pr cr b : Int} (h : ∀ j, b ≤ j → cr * savR j l ≤ 2 * pr) : ∀ n : Nat, priceC l pr cr b ≤ priceC l pr cr (b + n)
  | 0 => by rw [show b + ((0 : Nat) : Int) = b by omega]; exact Int.le_refl _
  | n + 1 => by
    have := price_up h n
    have := h (b + n) (by omega)
    rw [show b + ((n + 1 : Nat) : Int) = b + n + 1 by omega, price_step]
    omega
theorem price_down {l : List Stp} {pr cr b f : Int} (h : ∀ j, f ≤ j → j < b → 2 * pr < cr * savR j l) : ∀ n : Nat, f ≤ b - n → priceC l pr cr b + n ≤ priceC l pr cr (b - n)
  | 0, _ => by rw [show b - ((0 : Nat) : Int) = b by omega]; omega
  | n + 1, hf => by
    have := price_down h n (by omega)
    have := h (b - ((n + 1 : Nat) : Int)) hf (by omega)
    have e := price_step l pr cr (b - ((n + 1 : Nat) : Int))
    rw [show b - ((n + 1 : Nat) : Int) + 1 = b - n by omega] at e
    omega
theorem best_is {l : List Stp} {pr cr b : Int} (hg : ∀ b n, Stp.mt b n ∈ l → 0 ≤ n) (p0 : 0 ≤ pr) (c0 : 0 ≤ cr) (b0 : fewest l ≤ b) (b1 : b ≤ sparing l) (h1 : b = fewest l ∨ 2 * pr < cr * savR (b - 1) l) (h2 : b = sparing l ∨ cr * savR b l ≤ 2 * pr) {c : Int} (hc : fewest l ≤ c) :
    priceC l pr cr b ≤ priceC l pr cr c ∧ (c < b → priceC l pr cr b < priceC l pr cr c) := by
  have f0 := (fewest_ge l).2.2
  have fit : ∀ c, fewest l ≤ c → fitsS c l := fun c h => fits_fewest hg h
  have up : ∀ j, b ≤ j → cr * savR j l ≤ 2 * pr := fun j hj => by
    rcases h2 with e | e
    · have z : savR j l = 0 := by
        unfold savR
        rw [spare_zero (fit j (by omega)) (by omega), spare_zero (fit (j + 1) (by omega)) (by omega)]
        rfl
      rw [z, Int.mul_zero]
      omega
    · have := sav_le (by omega) (fit b b0) hj
      have := Int.mul_le_mul_of_nonneg_left this c0
      omega
  have dn : ∀ j, fewest l ≤ j → j < b → 2 * pr < cr * savR j l := fun j hj hb => by
    rcases h1 with e | e
    · omega
    · have := sav_le (by omega) (fit j hj) (show j ≤ b - 1 by omega)
      have := Int.mul_le_mul_of_nonneg_left this c0
      omega
  rcases Int.lt_or_le c b with q | q
  · have := price_down dn (b - c).toNat (by omega)
    rw [show b - ((b - c).toNat : Int) = c by omega] at this
    exact ⟨by omega, fun _ => by omega⟩
  · have := price_up up (c - b).toNat
    rw [show b + ((c - b).toNat : Int) = c by omega] at this
    exact ⟨this, fun z => by omega⟩
end ChM

set_option linter.all false
set_option autoImplicit false
/-! ### a plan repeated, step by step -/
namespace ChM
theorem times_snoc (l : List Stp) : ∀ n, times l (n + 1) = times l n ++ l
  | 0 => by show l ++ [] = [] ++ l; simp
  | n + 1 => by
    show l ++ times l (n + 1) = (l ++ times l n) ++ l
    rw [times_snoc l n, List.append_assoc]
theorem times_len (l : List Stp) : ∀ n, (times l n).length = n * l.length
  | 0 => by simp [times]
  | n + 1 => by
    show (l ++ times l n).length = _
    rw [List.length_append, times_len l n, Nat.succ_mul]
    omega
theorem times_add (l : List Stp) : ∀ n m, times l (n + m) = times l n ++ times l m
  | 0, m => by rw [Nat.zero_add]; rfl
  | n + 1, m => by
    rw [show n + 1 + m = (n + m) + 1 by omega]
    show l ++ times l (n + m) = (l ++ times l n) ++ times l m
    rw [times_add l n m, List.append_assoc]
def preS (l : List Stp) (j : Nat) : List Stp := times l (j / l.length) ++ l.take (j % l.length)
theorem preS_succ {l : List Stp} (h0 : 0 < l.length) (j : Nat) {st : Stp} (h : l[j % l.length]? = some st) : preS l (j + 1) = preS l j ++ [st] := by
  have hm := Nat.mod_lt j h0
  have hd := Nat.div_add_mod j l.length
  have tk : l.take (j % l.length + 1) = l.take (j % l.length) ++ [st] := by rw [List.take_add_one, h]; rfl
  unfold preS
  by_cases q : j % l.length + 1 = l.length
  · have e1 : (j + 1) / l.length = j / l.length + 1 := by
      have : j + 1 = (j / l.length + 1) * l.length := by
        rw [Nat.succ_mul, Nat.mul_comm]
        omega
      rw [this, Nat.mul_div_cancel _ h0]
    have e2 : (j + 1) % l.length = 0 := by
      have : j + 1 = (j / l.length + 1) * l.length := by
        rw [Nat.succ_mul, Nat.mul_comm]
        omega
      rw [this, Nat.mul_mod_left]
    rw [e1, e2, times_snoc, List.take_zero, List.append_nil, List.append_assoc, ← tk, q, List.take_length]
  · have lt : j % l.length + 1 < l.length := by omega
    have e1 : (j + 1) / l.length = j / l.length ∧ (j + 1) % l.length = j % l.length + 1 := by
      have ej : j + 1 = (j % l.length + 1) + l.length * (j / l.length) := by omega
      constructor
      · rw [ej, Nat.add_mul_div_left _ _ h0, Nat.div_eq_of_lt lt, Nat.zero_add]
      · rw [ej, Nat.add_mul_mod_self_left, Nat.mod_eq_of_lt lt]
    rw [e1.1, e1.2, tk, List.append_assoc]
theorem preS_zero (l : List Stp) : preS l 0 = [] := by
  unfold preS
  rw [Nat.zero_div, Nat.zero_mod]
  rfl
theorem preS_round {l : List Stp} (h0 : 0 < l.length) (r i : Nat) : preS l (r * l.length + i) = times l r ++ preS l i := by
  unfold preS
  rw [show r * l.length + i = i + l.length * r by rw [Nat.mul_comm]; omega, Nat.add_mul_div_left _ _ h0, Nat.add_mul_mod_self_left, Nat.add_comm (i / l.length) r, times_add, List.append_assoc]
theorem times_take {l : List Stp} (h0 : 0 < l.length) : ∀ (m N : Nat), m ≤ N * l.length → (times l N).take m = preS l m
  | 0, N, _ => by rw [preS_zero, List.take_zero]
  | m + 1, N, h => by
    have ih := times_take h0 m N (by omega)
    have hm := Nat.mod_lt m h0
    obtain ⟨st, hst⟩ : ∃ st, l[m % l.length]? = some st := ⟨_, List.getElem?_eq_getElem hm⟩
    rw [preS_succ h0 m hst, List.take_add_one, ih]
    congr 1
    have hd := Nat.div_add_mod m l.length
    have hq : m / l.length < N := by
      refine Nat.div_lt_of_lt_mul ?_
      rw [Nat.mul_comm]
      omega
    obtain ⟨k, rfl⟩ : ∃ k, N = m / l.length + (k + 1) := ⟨N - m / l.length - 1, by omega⟩
    have e : times l (m / l.length + (k + 1)) = times l (m / l.length) ++ (l ++ times l k) := times_add l _ _
    have e2 : m = (times l (m / l.length)).length + m % l.length := by
      rw [times_len, Nat.mul_comm]
      omega
    have e3 : (times l (m / l.length + (k + 1)))[m]? = l[m % l.length]? := by
      rw [e, List.getElem?_append_right (by rw [times_len, Nat.mul_comm]; omega), times_len, Nat.mul_comm (m / l.length),
        show m - l.length * (m / l.length) = m % l.length by omega, List.getElem?_append_left hm]
    rw [e3, hst]
    rfl
/-- both rooms behind j steps -/
def runS (c : Int) (l : List Stp) (x : Int) (j : Nat) : Int × Int := playS (x, c - x) (preS l j)
/-- what step j (from 0) carries -/
def cntS (c : Int) (l : List Stp) (x : Int) (j : Nat) : Int := match l[j % l.length]? with
  | some st => (play1 (runS c l x j) st).2
  | none => 0
def plcS (c : Int) (l : List Stp) (x : Int) (j : Nat) : Int := placeOf (sideAt 1 (l.take (j % l.length))) (runS c l x j)
section
variable {c x : Int} {l : List Stp}
theorem runS_succ (h0 : 0 < l.length) (j : Nat) {st : Stp} (h : l[j % l.length]? = some st) : runS c l x (j + 1) = (play1 (runS c l x j) st).1 := by
  unfold runS
  rw [preS_succ h0 j h, playS_snoc]
theorem runS_sum (j : Nat) : (runS c l x j).1 + (runS c l x j).2 = c := by
  unfold runS
  rw [play_keep]
  show x + (c - x) = c
  omega
theorem sideAt_or : ∀ (l : List Stp) (s : Int), (s = 1 ∨ s = -1) → sideAt s l = 1 ∨ sideAt s l = -1
  | [], s, h => h
  | .turn :: r, s, h => sideAt_or r (0 - s) (by omega)
  | .mt _ _ :: r, s, h => sideAt_or r s h
theorem side_at {i : Nat} {st : Stp} (h : l[i]? = some st) : ∃ p, (sides 1 l)[i]? = some p ∧ sides (sideAt 1 (l.take i)) [st] = [p] := by
  have hi : i < l.length := (List.getElem?_eq_some_iff.mp h).1
  have e : l = l.take i ++ (st :: l.drop (i + 1)) := by
    have q : l[i] = st := (List.getElem?_eq_some_iff.mp h).2
    rw [← q, List.getElem_cons_drop, List.take_append_drop]
  obtain ⟨p, hp⟩ : ∃ p, sides (sideAt 1 (l.take i)) [st] = [p] := by
    cases st <;> exact ⟨_, rfl⟩
  refine ⟨p, ?_, hp⟩
  have q : sides 1 l = sides 1 (l.take i) ++ (sides (sideAt 1 (l.take i)) [st] ++ sides (sideAt (sideAt 1 (l.take i)) [st]) (l.drop (i + 1))) := by
    rw [← sides_app, ← sides_app]
    rw [List.singleton_append, ← e]
  rw [q, List.getElem?_append_right (by rw [sides_len, List.length_take]; omega), sides_len, List.length_take, show i - min i l.length = 0 by omega, hp]
  rfl
theorem cnt_step (h0 : 0 < l.length) {j : Nat} {p : Int × Int} (hp : (sides 1 l)[j % l.length]? = some p) :
    cntS c l x j = absI (moved c (plcS c l x j) p.1 p.2 - plcS c l x j) ∧
    plcS c l x (j + 1) = (if j % l.length + 1 = l.length then (if turning l = true then c - moved c (plcS c l x j) p.1 p.2 else moved c (plcS c l x j) p.1 p.2) else moved c (plcS c l x j) p.1 p.2) := by
  have hm := Nat.mod_lt j h0
  obtain ⟨st, hst⟩ : ∃ st, l[j % l.length]? = some st := ⟨_, List.getElem?_eq_getElem hm⟩
  obtain ⟨p', hp', hs⟩ := side_at hst
  rw [hp] at hp'
  cases hp'
  have so := sideAt_or (l.take (j % l.length)) 1 (.inl rfl)
  obtain ⟨_, g2, g3⟩ := play_sim (c := c) [st] (sideAt 1 (l.take (j % l.length))) (runS c l x j) so (runS_sum j)
  rw [hs] at g2 g3
  have g2' : placeOf (sideAt (sideAt 1 (l.take (j % l.length))) [st]) (play1 (runS c l x j) st).1 = moved c (plcS c l x j) p.1 p.2 := g2
  have g3' : (play1 (runS c l x j) st).2 + 0 = absI (moved c (plcS c l x j) p.1 p.2 - plcS c l x j) + 0 := g3
  rw [← runS_succ h0 j hst, ← sideAt_snoc] at g2'
  have tk : l.take (j % l.length + 1) = l.take (j % l.length) ++ [st] := by rw [List.take_add_one, hst]; rfl
  rw [← tk] at g2'
  refine ⟨?_, ?_⟩
  · unfold cntS
    rw [hst]
    show (play1 (runS c l x j) st).2 = _
    omega
  · by_cases q : j % l.length + 1 = l.length
    · rw [if_pos q]
      rw [q, List.take_length, sideAt_turning] at g2'
      have e2 : (j + 1) % l.length = 0 := by
        have hd := Nat.div_add_mod j l.length
        have : j + 1 = (j / l.length + 1) * l.length := by
          rw [Nat.succ_mul, Nat.mul_comm]
          omega
        rw [this, Nat.mul_mod_left]
      have e3 : plcS c l x (j + 1) = (runS c l x (j + 1)).1 := by
        unfold plcS
        rw [e2]
        rfl
      have hsum := runS_sum (c := c) (x := x) (l := l) (j + 1)
      by_cases t : turning l = true
      · rw [if_pos t] at g2' ⊢
        have : placeOf (-1) (runS c l x (j + 1)) = (runS c l x (j + 1)).2 := rfl
        rw [this] at g2'
        rw [e3, ← g2']
        omega
      · rw [if_neg t] at g2' ⊢
        rw [e3, ← g2']
        rfl
    · rw [if_neg q]
      have lt : j % l.length + 1 < l.length := by omega
      have e1 : (j + 1) % l.length = j % l.length + 1 := by
        have hd := Nat.div_add_mod j l.length
        have ej : j + 1 = (j % l.length + 1) + l.length * (j / l.length) := by omega
        rw [ej, Nat.add_mul_mod_self_left, Nat.mod_eq_of_lt lt]
      unfold plcS
      rw [e1]
      exact g2'
theorem runS_round (h0 : 0 < l.length) (hl : fitsS c l) (x0 : 0 ≤ x) (x1 : x ≤ c) (r i : Nat) : runS c l x (r * l.length + i) = runS c l (runF (effOf c l) r x) i := by
  unfold runS
  rw [preS_round h0, playS_app, play_pair, (rounds_right hl r x0 x1).2]
theorem cntS_round (h0 : 0 < l.length) (hl : fitsS c l) (x0 : 0 ≤ x) (x1 : x ≤ c) (r i : Nat) : cntS c l x (r * l.length + i) = cntS c l (runF (effOf c l) r x) i := by
  have e : (r * l.length + i) % l.length = i % l.length := by
    rw [show r * l.length + i = i + l.length * r by rw [Nat.mul_comm]; omega, Nat.add_mul_mod_self_left]
  unfold cntS
  rw [e, runS_round h0 hl x0 x1]
theorem plcS_round (h0 : 0 < l.length) (hl : fitsS c l) (x0 : 0 ≤ x) (x1 : x ≤ c) (r i : Nat) (hi : i < l.length) : plcS c l x (r * l.length + i) = simP c ((sides 1 l).take i) (runF (effOf c l) r x) := by
  have e : (r * l.length + i) % l.length = i := by
    rw [show r * l.length + i = i + l.length * r by rw [Nat.mul_comm]; omega, Nat.add_mul_mod_self_left, Nat.mod_eq_of_lt hi]
  unfold plcS
  rw [e, runS_round h0 hl x0 x1]
  obtain ⟨_, g2, _⟩ := play_sim (c := c) (l.take i) 1 (runF (effOf c l) r x, c - runF (effOf c l) r x) (.inl rfl) (by show _ + (c - _) = c; omega)
  have e2 : runS c l (runF (effOf c l) r x) i = playS (runF (effOf c l) r x, c - runF (effOf c l) r x) (l.take i) := by
    unfold runS preS
    rw [Nat.div_eq_of_lt hi, Nat.mod_eq_of_lt hi]
    rfl
  rw [e2, g2]
  congr 1
  have q : l = l.take i ++ l.drop i := (List.take_append_drop i l).symm
  have q2 : sides 1 l = sides 1 (l.take i) ++ sides (sideAt 1 (l.take i)) (l.drop i) := by
    rw [← sides_app, ← q]
  rw [q2, List.take_left' (by rw [sides_len, List.length_take]; omega)]
theorem cnts_play (h0 : 0 < l.length) : ∀ m : Nat, (List.range m).map (fun i => cntS c l x i) = playC (x, c - x) (preS l m)
  | 0 => by rw [preS_zero]; rfl
  | m + 1 => by
    have hm := Nat.mod_lt m h0
    obtain ⟨st, hst⟩ : ∃ st, l[m % l.length]? = some st := ⟨_, List.getElem?_eq_getElem hm⟩
    rw [List.range_succ, List.map_append, cnts_play h0 m, preS_succ h0 m hst, playC_snoc]
    congr 1
    show [cntS c l x m] = _
    unfold cntS
    rw [hst]
    rfl
end
end ChM

set_option linter.all false
set_option autoImplicit false
set_option maxRecDepth 100000
set_option maxHeartbeats 4000000
namespace ChM
/-! ### effects written out -/
theorem eff_ext {e f : Eff} (h1 : e.c = f.c) (h2 : e.lo = f.lo) (h3 : e.hi = f.hi) (h4 : e.ex = f.ex) (h5 : e.goal = f.goal) (h6 : e.tu = f.tu) : e = f := by
  cases e; cases f
  cases h1; cases h2; cases h3; cases h4; cases h5; cases h6
  rfl
theorem mir_some (c lo hi ex g : Int) (t : Bool) : (⟨c, lo, hi, ex, some g, t⟩ : Eff).mir = ⟨c, c - hi, c - lo, ex, some (c - g), t⟩ := mkE_some
theorem mir_none (c lo hi ex : Int) (t : Bool) (h : lo < hi) : (⟨c, lo, hi, ex, none, t⟩ : Eff).mir = ⟨c, c - hi, c - lo, ex, none, t⟩ := mkE_none (show c - hi < c - lo by omega)
theorem atLeast_some (c lo hi ex g n : Int) (t : Bool) : (⟨c, lo, hi, ex, some g, t⟩ : Eff).atLeast n = if n ≤ g then ⟨c, lo, hi, ex, some g, t⟩ else ⟨c, lo, hi, ex + n - g, some n, t⟩ := by
  unfold Eff.atLeast
  dsimp only
  rw [mkE_some]
theorem atMost_some (c lo hi ex g m : Int) (t : Bool) : (⟨c, lo, hi, ex, some g, t⟩ : Eff).atMost m = if g ≤ m then ⟨c, lo, hi, ex, some g, t⟩ else ⟨c, lo, hi, ex + g - m, some m, t⟩ := by
  unfold Eff.atMost
  rw [mir_some, atLeast_some]
  show Eff.mir (if c - m ≤ c - g then _ else _) = _
  by_cases h : g ≤ m
  · rw [if_pos (by omega), if_pos h, mir_some]
    refine eff_ext rfl ?_ ?_ rfl ?_ rfl
    · show c - (c - lo) = lo; omega
    · show c - (c - hi) = hi; omega
    · show some (c - (c - g)) = some g; congr 1; omega
  · rw [if_neg (by omega), if_neg h, mir_some]
    refine eff_ext rfl ?_ ?_ ?_ ?_ rfl
    · show c - (c - lo) = lo; omega
    · show c - (c - hi) = hi; omega
    · show ex + (c - m) - (c - g) = ex + g - m; omega
    · show some (c - (c - m)) = some m; congr 1; omega
theorem atLeast_none (c lo hi ex n : Int) (t : Bool) : (⟨c, lo, hi, ex, none, t⟩ : Eff).atLeast n = if n ≤ hi then mkE c (mx lo n) hi 0 none t else ⟨c, hi, hi, n - hi, some n, t⟩ := by
  unfold Eff.atLeast
  dsimp only
  rw [mkE_some]
theorem atMost_none (c lo hi ex m : Int) (t : Bool) (h : lo < hi) : (⟨c, lo, hi, ex, none, t⟩ : Eff).atMost m = if lo ≤ m then mkE c lo (mn hi m) 0 none t else ⟨c, lo, lo, lo - m, some m, t⟩ := by
  unfold Eff.atMost
  rw [mir_none _ _ _ _ _ h, atLeast_none]
  show Eff.mir (if c - m ≤ c - lo then _ else _) = _
  by_cases q : lo ≤ m
  · rw [if_pos (by omega), if_pos q]
    have a := mx_def (c - hi) (c - m)
    have b := mn_def hi m
    by_cases e : lo = mn hi m
    · rw [← e, mkE_eq]
      have e2 : mx (c - hi) (c - m) = c - lo := by omega
      rw [e2, mkE_eq, mir_some]
      refine eff_ext rfl ?_ ?_ rfl ?_ rfl
      · show c - (c - lo) = lo; omega
      · show c - (c - lo) = lo; omega
      · show some (c - (c - lo)) = some lo; congr 1; omega
    · rw [mkE_none (show lo < mn hi m by omega), mkE_none (show mx (c - hi) (c - m) < c - lo by omega), mir_none _ _ _ _ _ (by omega)]
      refine eff_ext rfl ?_ ?_ rfl rfl rfl
      · show c - (c - lo) = lo; omega
      · show c - mx (c - hi) (c - m) = mn hi m; omega
  · rw [if_neg (by omega), if_neg q, mir_some]
    refine eff_ext rfl ?_ ?_ ?_ ?_ rfl
    · show c - (c - lo) = lo; omega
    · show c - (c - lo) = lo; omega
    · show c - m - (c - lo) = lo - m; omega
    · show some (c - (c - m)) = some m; congr 1; omega
theorem nothing_pos {c : Int} (h : 0 < c) : nothing c = ⟨c, 0, c, 0, none, false⟩ := mkE_none h
/-! ### known houses -/
theorem two_eff {a b s : Int} (a1 : 1 ≤ a) (b1 : 1 ≤ b) (s1 : 1 ≤ s) (sa : s ≤ a) (sb : s ≤ b) : effOf (a + b - s) [.mt true a, .mt false b] = ⟨a + b - s, a, a, s, some (a - s), false⟩ := by
  have es : sides 1 [.mt true a, .mt false b] = [(1, a), (-1, b)] := rfl
  have m0 : mx 0 a = a := by have := mx_def 0 a; omega
  have st1 : effStep (a + b - s) (nothing (a + b - s)) (1, a) = mkE (a + b - s) a (a + b - s) 0 none false := by
    rw [nothing_pos (by omega)]
    unfold effStep
    rw [if_pos rfl, atLeast_none, if_pos (by show a ≤ a + b - s; omega), m0]
  have st2 : effStep (a + b - s) (mkE (a + b - s) a (a + b - s) 0 none false) (-1, b) = ⟨a + b - s, a, a, s, some (a - s), false⟩ := by
    unfold effStep
    rw [if_neg (show ¬ ((-1 : Int) = 1) by decide), if_pos rfl]
    show Eff.atMost _ (a + b - s - b) = _
    by_cases h : a = a + b - s
    · rw [← h, mkE_eq, atMost_some, if_neg (by omega)]
      refine eff_ext rfl rfl rfl ?_ ?_ rfl
      · show 0 + a - (a - b) = s; omega
      · show some (a - b) = some (a - s); congr 1; omega
    · rw [mkE_none (by omega), atMost_none _ _ _ _ _ _ (by omega), if_neg (by omega)]
      refine eff_ext rfl rfl rfl ?_ ?_ rfl
      · show a - (a + b - s - b) = s; omega
      · show some (a + b - s - b) = some (a - s); congr 1; omega
  have ef : effFold (a + b - s) (sides 1 [.mt true a, .mt false b]) = ⟨a + b - s, a, a, s, some (a - s), false⟩ := by
    rw [es]
    show effStep _ (effStep _ (nothing (a + b - s)) (1, a)) (-1, b) = _
    rw [st1, st2]
  show mkE (a + b - s) (effFold (a + b - s) (sides 1 [.mt true a, .mt false b])).lo _ _ _ _ = _
  rw [ef]
  exact mkE_some
theorem turn_eff {a s : Int} (a1 : 1 ≤ a) (s1 : 1 ≤ s) (sa : s ≤ a) : effOf (2 * a - s) [.mt true a, .turn] = ⟨2 * a - s, a, 2 * a - s, 0, (if a < 2 * a - s then none else some a), true⟩ := by
  have es : sides 1 [.mt true a, .turn] = [(1, a), (0, 0)] := rfl
  have m0 : mx 0 a = a := by have := mx_def 0 a; omega
  have ef : effFold (2 * a - s) (sides 1 [.mt true a, .turn]) = mkE (2 * a - s) a (2 * a - s) 0 none false := by
    rw [es]
    show effStep (2 * a - s) (effStep (2 * a - s) (nothing (2 * a - s)) (1, a)) (0, 0) = _
    rw [nothing_pos (by omega)]
    have t1 : effStep (2 * a - s) ⟨2 * a - s, 0, 2 * a - s, 0, none, false⟩ (1, a) = mkE (2 * a - s) a (2 * a - s) 0 none false := by
      unfold effStep
      rw [if_pos rfl, atLeast_none, if_pos (by show a ≤ 2 * a - s; omega), m0]
    rw [t1]
    unfold effStep
    rw [if_neg (show ¬ ((0 : Int) = 1) by decide), if_neg (show ¬ ((0 : Int) = -1) by decide)]
  show mkE (2 * a - s) (effFold (2 * a - s) (sides 1 [.mt true a, .turn])).lo (effFold (2 * a - s) (sides 1 [.mt true a, .turn])).hi (effFold (2 * a - s) (sides 1 [.mt true a, .turn])).ex (effFold (2 * a - s) (sides 1 [.mt true a, .turn])).goal true = _
  rw [ef]
  by_cases h : a < 2 * a - s
  · rw [if_pos h, mkE_none h]
    exact mkE_none h
  · have e : a = 2 * a - s := by omega
    rw [if_neg h, ← e, mkE_eq]
    exact mkE_some
end ChM

set_option Elab.async false
set_option linter.all false
set_option autoImplicit false
set_option maxRecDepth 100000
set_option maxHeartbeats 4000000
namespace Ch
open PySem PySem.Spec PyProof.Rows L2 ChM
/-! ### steps, plans -/
def roomS (b : Bool) : Str := if b then "red" else "blue"
def stepV : Stp → List V
  | .turn => [.str "turn"]
  | .mt b n => [.str (roomS b), .int n]
def StepsAt (H : Hp) : List V → List Stp → Prop := Paired fun v s => ∃ p, v = .ref p ∧ H p = some (.tup (stepV s))
theorem pr_len {α β : Type} {R : α → β → Prop} : ∀ {xs : List α} {ys : List β}, Paired R xs ys → xs.length = ys.length
  | _, _, .nil => rfl
  | _, _, .cons _ t => congrArg (· + 1) (pr_len t)
theorem pr_at {α β : Type} {R : α → β → Prop} : ∀ {xs : List α} {ys : List β} {i : Nat} {x : α}, Paired R xs ys → xs[i]? = some x → ∃ y, ys[i]? = some y ∧ R x y
  | _, _, _, _, .nil, e => nomatch e
  | _, _, 0, x, .cons r _, e => ⟨_, rfl, by cases e; exact r⟩
  | _, _, i + 1, x, .cons _ t, e => pr_at (i := i) t e
theorem pr_atR {α β : Type} {R : α → β → Prop} : ∀ {xs : List α} {ys : List β} {i : Nat} {y : β}, Paired R xs ys → ys[i]? = some y → ∃ x, xs[i]? = some x ∧ R x y
  | _, _, _, _, .nil, e => nomatch e
  | _, _, 0, x, .cons r _, e => ⟨_, rfl, by cases e; exact r⟩
  | _, _, i + 1, x, .cons _ t, e => pr_atR (i := i) t e
theorem pr_app {α β : Type} {R : α → β → Prop} : ∀ {xs xs' : List α} {ys ys' : List β}, Paired R xs ys → Paired R xs' ys' → Paired R (xs ++ xs') (ys ++ ys')
  | _, _, _, _, .nil, t => t
  | _, _, _, _, .cons r t, u => .cons r (pr_app t u)
theorem pr_im {α β : Type} {R R' : α → β → Prop} (f : ∀ a b, R a b → R' a b) : ∀ {xs : List α} {ys : List β}, Paired R xs ys → Paired R' xs ys
  | _, _, .nil => .nil
  | _, _, .cons r t => .cons (f _ _ r) (pr_im f t)
theorem pr_take {α β : Type} {R : α → β → Prop} : ∀ (n : Nat) {xs : List α} {ys : List β}, Paired R xs ys → Paired R (xs.take n) (ys.take n)
  | 0, _, _, _ => by rw [List.take_zero, List.take_zero]; exact .nil
  | n + 1, _, _, .nil => .nil
  | n + 1, _, _, .cons r t => .cons r (pr_take n t)
theorem pr_drop {α β : Type} {R : α → β → Prop} : ∀ (n : Nat) {xs : List α} {ys : List β}, Paired R xs ys → Paired R (xs.drop n) (ys.drop n)
  | 0, _, _, t => t
  | n + 1, _, _, .nil => .nil
  | n + 1, _, _, .cons r t => pr_drop n t
theorem pr_snoc {α β : Type} {R : α → β → Prop} {xs : List α} {ys : List β} {x : α} {y : β} (t : Paired R xs ys) (r : R x y) : Paired R (xs ++ [x]) (ys ++ [y]) := pr_app t (.cons r .nil)
theorem StepsAt.mono {H H' : Hp} {vs : List V} {l : List Stp} (e : Same H H') (h : StepsAt H vs l) : StepsAt H' vs l := pr_im (fun _ _ ⟨p, e1, e2⟩ => ⟨p, e1, e p _ e2⟩) h
structure PlanAt (C : Addr) (H : Hp) (p : Addr) (l : List Stp) : Prop where
  ex : ∃ dx t vs, H p = some (.ins C dx [("parts", .ref t)]) ∧ H t = some (.tup vs) ∧ StepsAt H vs l
theorem PlanAt.mono {C : Addr} {H H' : Hp} {p : Addr} {l : List Stp} (e : Same H H') (h : PlanAt C H p l) : PlanAt C H' p l := by
  obtain ⟨dx, t, vs, h1, h2, h3⟩ := h.ex
  exact ⟨dx, t, vs, e _ _ h1, e _ _ h2, h3.mono e⟩
/-- a step that a plan may have -/
def goodS (s : Stp) : Prop := ∀ b n, s = .mt b n → 0 ≤ n ∧ n ≤ 1000000000000000000
def goodP (l : List Stp) : Prop := (∀ s ∈ l, goodS s) ∧ l.length ≤ 60
theorem roomS_cases (b : Bool) : (b = true ∧ roomS b = "red") ∨ (b = false ∧ roomS b = "blue") := by
  cases b
  · exact .inr ⟨rfl, rfl⟩
  · exact .inl ⟨rfl, rfl⟩
/-- (side, need) -/
def pairV (p : Int × Int) : List V := [.int p.1, .int p.2]
def PairsAt (H : Hp) : List V → List (Int × Int) → Prop := Paired fun v s => ∃ p, v = .ref p ∧ H p = some (.tup (pairV s))
theorem PairsAt.mono {H H' : Hp} {vs : List V} {l : List (Int × Int)} (e : Same H H') (h : PairsAt H vs l) : PairsAt H' vs l := pr_im (fun _ _ ⟨p, e1, e2⟩ => ⟨p, e1, e p _ e2⟩) h
/-- a list at r, that is written -/
theorem PairsAt.mono2 {H H' : Hp} {vs : List V} {l : List (Int × Int)} {r : Addr} {xs : List V} {o : HO} (h : PairsAt H vs l) (e : Same H H') (hr : H' r = some (.lst xs)) : PairsAt (upd H' r o) vs l :=
  pr_im (fun _ _ ⟨p, e1, e2⟩ => ⟨p, e1, by rw [upd_ne (ne_of (e p _ e2) hr (by intro z; cases z))]; exact e p _ e2⟩) h
theorem StepsAt.mono2 {H H' : Hp} {vs : List V} {l : List Stp} {r : Addr} {xs : List V} {o : HO} (h : StepsAt H vs l) (e : Same H H') (hr : H' r = some (.lst xs)) : StepsAt (upd H' r o) vs l :=
  pr_im (fun _ _ ⟨p, e1, e2⟩ => ⟨p, e1, by rw [upd_ne (ne_of (e p _ e2) hr (by intro z; cases z))]; exact e p _ e2⟩) h
theorem PlanAt.mono2 {C : Addr} {H H' : Hp} {p r : Addr} {l : List Stp} {xs : List V} {o : HO} (h : PlanAt C H p l) (e : Same H H') (hr : H' r = some (.lst xs)) : PlanAt C (upd H' r o) p l := by
  obtain ⟨dx, t, vs, h1, h2, h3⟩ := h.ex
  exact ⟨dx, t, vs, by rw [upd_ne (ne_of (e p _ h1) hr (by intro z; cases z))]; exact e p _ h1, by rw [upd_ne (ne_of (e t _ h2) hr (by intro z; cases z))]; exact e t _ h2, h3.mono2 e hr⟩
/-! ### effects -/
def goalV : Option Int → V
  | none => .non
  | some g => .int g
def effF (e : Eff) : List (Str × V) := [("chairs", .int e.c), ("low", .int e.lo), ("high", .int e.hi), ("extra", .int e.ex), ("goal", goalV e.goal), ("turned", .bl e.tu)]
def EffAt (C : Addr) (H : Hp) (p : Addr) (e : Eff) : Prop := ∃ dx, H p = some (.ins C dx (effF e))
theorem EffAt.mono {C : Addr} {H H' : Hp} {p : Addr} {e : Eff} (s : Same H H') (h : EffAt C H p e) : EffAt C H' p e := let ⟨dx, q⟩ := h; ⟨dx, s _ _ q⟩
section
variable {H : Hp} {Q : VK} {K : PySem.W.Frag} {C p q : Addr} {e : Eff} {f : Str} {v : V}
theorem x_eff (h : EffAt C H p e) (c : Cls K C) (na : NoAttr K C f) (l : (effF e).lookup f = some v) (k : Q v H) : rFld K f (.ref p) H Q := let ⟨_, q⟩ := h; x_fldAt q c na l k
theorem eff_chairs : (effF e).lookup ("chairs" : Str) = some (.int e.c) := by unfold effF; kernel_rfl
theorem eff_low : (effF e).lookup ("low" : Str) = some (.int e.lo) := by unfold effF; kernel_rfl
theorem eff_high : (effF e).lookup ("high" : Str) = some (.int e.hi) := by unfold effF; kernel_rfl
theorem eff_extra : (effF e).lookup ("extra" : Str) = some (.int e.ex) := by unfold effF; kernel_rfl
theorem eff_goal : (effF e).lookup ("goal" : Str) = some (goalV e.goal) := by unfold effF; kernel_rfl
theorem eff_turned : (effF e).lookup ("turned" : Str) = some (.bl e.tu) := by unfold effF; kernel_rfl
/-- step == ("turn",) -/
def stepD : Stp → PyData
  | .turn => .tuple [.str "turn"]
  | .mt b n => .tuple [.str (roomS b), .int n]
theorem step_dp {s : Stp} (h : H p = some (.tup (stepV s))) : Dp K H (.ref p) (stepD s) := by
  cases s with
  | turn => exact .tup (SqT.of h) (.cons (.str _) .nil)
  | mt b n => exact .tup (SqT.of h) (.cons (.str _) (.cons (.int _) .nil))
theorem eq_turn {s : Stp} (h1 : H p = some (.tup (stepV s))) (h2 : H q = some (.tup [.str "turn"])) (k : Q (.bl (decide (s = .turn))) H) : rEqU K (.ref p) (.ref q) H Q := by
  refine x_eqDp (step_dp h1) (step_dp (s := .turn) h2) ?_ (by decide +kernel) ?_
  · cases s with
    | turn => decide +kernel
    | mt b n => cases b <;> kernel_rfl
  · cases s with
    | turn => exact k
    | mt b n =>
      have ez : PyData.eqv (stepD (.mt b n)) (stepD .turn) = false := by
        show (PyData.eqv (.str (roomS b)) (.str "turn") && false) = false
        rw [Bool.and_false]
      rw [ez]
      exact k
theorem step_len {s : Stp} : (stepV s).length = if s = .turn then 1 else 2 := by
  cases s <;> rfl
end
end Ch
/-! ### the draws' state: a list at st, written in place -/
namespace Ch
open PySem PySem.Spec PyProof.Rows L2 ChM
def SameB (st : Addr) (H H' : Hp) : Prop := ∀ b o, b ≠ st → H b = some o → H' b = some o
theorem SameB.refl (st : Addr) (H : Hp) : SameB st H H := fun _ _ _ h => h
theorem SameB.trans {st : Addr} {H H1 H2 : Hp} (a : SameB st H H1) (b : SameB st H1 H2) : SameB st H H2 := fun c o n h => b c o n (a c o n h)
theorem SameB.of {st : Addr} {H H' : Hp} (s : Same H H') : SameB st H H' := fun c o _ h => s c o h
theorem SameB.upd {st : Addr} {H : Hp} {o : HO} : SameB st H (upd H st o) := fun b u n h => by
  rw [upd_ne n]
  exact h
structure StAt (K : PySem.W.Frag) (H : Hp) (st a : Addr) (ns : List Int) : Prop where
  lst : ∃ pos m r : Int, H st = some (.lst [.ref a, .int pos, .int m, .int r]) ∧ 0 ≤ pos
  scr : ∀ H', SameB st H H' → SqL K H' a (ns.map V.int)
theorem StAt.mono {K : PySem.W.Frag} {H H' : Hp} {st a : Addr} {ns : List Int} (h : StAt K H st a ns) (s : Same H H') : StAt K H' st a ns := by
  obtain ⟨pos, m, r, h1, h2⟩ := h.lst
  exact ⟨⟨pos, m, r, s _ _ h1, h2⟩, fun H2 s2 => h.scr H2 ((SameB.of s).trans s2)⟩
theorem StAt.scr0 {K : PySem.W.Frag} {H : Hp} {st a : Addr} {ns : List Int} (h : StAt K H st a ns) : SqL K H a (ns.map V.int) := h.scr H (SameB.refl _ _)
theorem StAt.put {K : PySem.W.Frag} {H : Hp} {st a : Addr} {ns : List Int} {pos m r : Int} (h : StAt K H st a ns) (h0 : 0 ≤ pos) : StAt K (upd H st (.lst [.ref a, .int pos, .int m, .int r])) st a ns :=
  ⟨⟨pos, m, r, upd_same, h0⟩, fun H' s => h.scr H' (SameB.upd.trans s)⟩
theorem StAt.new {K : PySem.W.Frag} {H : Hp} {st a : Addr} {ns : List Int} {pos m r : Int} (hs : SqL K H a (ns.map V.int)) (hn : H st = none) (h0 : 0 ≤ pos) : StAt K (upd H st (.lst [.ref a, .int pos, .int m, .int r])) st a ns := by
  refine ⟨⟨pos, m, r, upd_same, h0⟩, fun H' s => ?_⟩
  have key : ∀ b o, H b = some o → H' b = some o := fun b o e => by
    have hb : b ≠ st := ne_of_none e hn
    refine s b o hb ?_
    rw [upd_ne hb]
    exact e
  rcases hs with (h | ⟨o, h⟩) | h
  · exact .inl (.inl (key _ _ h))
  · exact .inl (.inr ⟨o, key _ _ h⟩)
  · exact .inr h
/-- not the state: another kind of object, or one that came later -/
theorem StAt.ne {K : PySem.W.Frag} {H : Hp} {st a p : Addr} {ns : List Int} {o : HO} (h : StAt K H st a ns) (hp : H p = some o) (hd : ∀ xs, o ≠ .lst xs) : p ≠ st := by
  obtain ⟨_, _, _, h1, _⟩ := h.lst
  exact ne_of hp h1 (hd _)
theorem StAt.neN {K : PySem.W.Frag} {H : Hp} {st a p : Addr} {ns : List Int} (h : StAt K H st a ns) (hp : H p = none) : p ≠ st := by
  obtain ⟨_, _, _, h1, _⟩ := h.lst
  exact (ne_of_none h1 hp).symm
theorem StepsAt.monoB {K : PySem.W.Frag} {H H' : Hp} {st a : Addr} {ns : List Int} {vs : List V} {l : List Stp} (h : StAt K H st a ns) (s : SameB st H H') (hs : StepsAt H vs l) : StepsAt H' vs l :=
  pr_im (fun _ _ ⟨p, e1, e2⟩ => ⟨p, e1, s p _ (h.ne e2 fun xs z => nomatch z) e2⟩) hs
theorem PlanAt.monoB {K : PySem.W.Frag} {H H' : Hp} {st a C p : Addr} {ns : List Int} {l : List Stp} (h : StAt K H st a ns) (s : SameB st H H') (hp : PlanAt C H p l) : PlanAt C H' p l := by
  obtain ⟨dx, t, vs, h1, h2, h3⟩ := hp.ex
  exact ⟨dx, t, vs, s _ _ (h.ne h1 fun xs z => nomatch z) h1, s _ _ (h.ne h2 fun xs z => nomatch z) h2, StepsAt.monoB h s h3⟩
theorem SameB.free {K : PySem.W.Frag} {H H' : Hp} {st a p : Addr} {ns : List Int} (h : StAt K H' st a ns) (s : SameB st H H') (hp : H' p = none) : H p = none := by
  cases e : H p with
  | none => rfl
  | some o =>
    have := s p o (h.neN hp) e
    rw [hp] at this
    cases this
end Ch
namespace Ch
open PySem PySem.Spec PyProof.Rows L2 ChM
theorem StAt.putD {K : PySem.W.Frag} {H H1 : Hp} {st a D : Addr} {ns : List Int} {o : HO} (S0 : StAt K H st a ns) (S : StAt K H1 st a ns) (hD : H D = none) (sB : SameB st H H1) : StAt K (upd H1 D o) st a ns ∧ SameB st H (upd H1 D o) := by
  have sN : SameB st H (upd H1 D o) := fun b u hb e => by
    rw [upd_ne (ne_of_none e hD)]
    exact sB b u hb e
  obtain ⟨p1, p2, p3, p4, p5⟩ := S.lst
  exact ⟨⟨⟨p1, p2, p3, by rw [upd_ne (S0.neN hD).symm]; exact p4, p5⟩, fun H' s' => S0.scr H' (sN.trans s')⟩, sN⟩
end Ch

set_option linter.all false
set_option autoImplicit false
set_option maxRecDepth 100000
set_option maxHeartbeats 4000000
namespace ChM
open Ch
/-! ### simple plans, in plain -/
def lastW (c g : Int) (m : Nat) : Int := if m % 2 = 0 then c - g else g
def longW (c b g : Int) (m : Nat) (up : Bool) : Int := if up then c - b + c * ((m : Int) - 2) + lastW c g m else c - (c - b) + c * ((m : Int) - 2) + lastW c (c - g) m
def placesL (c g : Int) (m : Nat) (up : Bool) : List Int := rgI (fun j => if decide (decide (j % 2 = 0) = up) then c else 0) (m - 1) ++ [g]
def shortGo : Int → List Int → Int → List Int
  | _, [], _ => []
  | _, [z], _ => [z]
  | pv, z :: nx :: r, sl =>
    let st : Int := if z > pv then 1 else -1
    let less := mn sl (absI (z - mx (pv * st) (nx * st) * st) - 1)
    (z - less * st) :: shortGo (z - less * st) (nx :: r) (sl - less)
def possW (c b g : Int) (m : Nat) (up : Bool) : Bool := if up then decide (b < c) && (if m % 2 = 0 then decide (g < c) else decide (g > 0)) else decide (b > 0) && (if m % 2 = 0 then decide (g > 0) else decide (g < c))
/-- so many moves do, the first goes so -/
def doesW (c b g L : Int) (m : Nat) (up : Bool) : Prop := possW c b g m up = true ∧ L ≤ longW c b g m up
def WayOf (c b g L : Int) (up : Bool) (zs : List Int) : Prop :=
  (L = absI (g - b) ∧ up = decide (g > b) ∧ zs = [g]) ∨
  (L ≠ absI (g - b) ∧ ∃ m : Nat, 2 ≤ m ∧ doesW c b g L m up ∧ (∀ m' u, 2 ≤ m' → m' < m → ¬ doesW c b g L m' u) ∧ (up = false → ¬ doesW c b g L m true) ∧ zs = shortGo b (placesL c g m up) ((longW c b g m up - L) / 2))
def stepTo (c z : Int) (up : Bool) : Stp := if up then .mt true z else .mt false (c - z)
def zsteps (c : Int) : Bool → List Int → List Stp
  | _, [] => []
  | up, z :: r => stepTo c z up :: zsteps c (!up) r
def SimpleOf (e : Eff) (l : List Stp) : Prop :=
  (e.ex = 0 ∧ l = (if e.lo > 0 then [stepTo e.c e.lo true] else []) ++ (if e.hi < e.c then [stepTo e.c e.hi false] else [])) ∨
  (e.ex ≠ 0 ∧ ∃ g up zs, e.goal = some g ∧ WayOf e.c e.lo g e.ex up zs ∧ l = stepTo e.c e.lo (!up) :: zsteps e.c up zs)
theorem shortGo_len : ∀ (zs : List Int) (pv sl : Int), (shortGo pv zs sl).length = zs.length
  | [], _, _ => rfl
  | [_], _, _ => rfl
  | z :: nx :: r, pv, sl => congrArg (· + 1) (shortGo_len (nx :: r) _ _)
theorem zsteps_snoc (c : Int) : ∀ (zs : List Int) (up : Bool) (z : Int), zsteps c up (zs ++ [z]) = zsteps c up zs ++ [stepTo c z (if zs.length % 2 = 0 then up else !up)]
  | [], up, z => rfl
  | y :: r, up, z => by
    show stepTo c y up :: zsteps c (!up) (r ++ [z]) = stepTo c y up :: (zsteps c (!up) r ++ _)
    rw [zsteps_snoc c r (!up) z]
    congr 3
    show _ = stepTo c z (if (r.length + 1) % 2 = 0 then up else !up)
    congr 1
    by_cases h : r.length % 2 = 0
    · rw [if_pos h, if_neg (by omega)]
    · rw [if_neg h, if_pos (by omega), Bool.not_not]
theorem zsteps_len (c : Int) : ∀ (zs : List Int) (up : Bool), (zsteps c up zs).length = zs.length
  | [], _ => rfl
  | y :: r, up => congrArg (· + 1) (zsteps_len c r (!up))
/-! ### zigzags -/
def Zig : Bool → Int → List Int → Prop
  | _, _, [] => True
  | up, pv, z :: r => (if up = true then pv < z else z < pv) ∧ Zig (!up) z r
def inR (c : Int) (l : List Int) : Prop := ∀ z ∈ l, 0 ≤ z ∧ z ≤ c
theorem inR_cons {c z : Int} {l : List Int} (h : 0 ≤ z ∧ z ≤ c) (t : inR c l) : inR c (z :: l) := fun y hy => by
  rcases List.mem_cons.mp hy with e | e
  · subst e; exact h
  · exact t y e
theorem inR_tail {c z : Int} {l : List Int} (h : inR c (z :: l)) : (0 ≤ z ∧ z ≤ c) ∧ inR c l := ⟨h z List.mem_cons_self, fun y hy => h y (List.mem_cons_of_mem _ hy)⟩
/-- how much one place gives way -/
def lessAt (up : Bool) (pv z nx sl : Int) : Int := if up = true then mn sl (z - mx pv nx - 1) else mn sl (mn pv nx - z - 1)
theorem short_up {pv z nx sl : Int} {r : List Int} (h1 : pv < z) (h2 : nx < z) : shortGo pv (z :: nx :: r) sl = (z - lessAt true pv z nx sl) :: shortGo (z - lessAt true pv z nx sl) (nx :: r) (sl - lessAt true pv z nx sl) := by
  have e : mn sl (absI (z - mx (pv * 1) (nx * 1) * 1) - 1) = lessAt true pv z nx sl := by
    unfold lessAt
    rw [if_pos rfl, Int.mul_one, Int.mul_one, Int.mul_one]
    have := mx_def pv nx
    congr 1
    unfold absI
    rw [if_neg (by omega)]
  show (let st : Int := if z > pv then 1 else -1
    let less := mn sl (absI (z - mx (pv * st) (nx * st) * st) - 1)
    (z - less * st) :: shortGo (z - less * st) (nx :: r) (sl - less)) = _
  rw [if_pos h1]
  dsimp only
  rw [e, Int.mul_one]
theorem short_dn {pv z nx sl : Int} {r : List Int} (h1 : z < pv) (h2 : z < nx) : shortGo pv (z :: nx :: r) sl = (z + lessAt false pv z nx sl) :: shortGo (z + lessAt false pv z nx sl) (nx :: r) (sl - lessAt false pv z nx sl) := by
  have e : mn sl (absI (z - mx (pv * -1) (nx * -1) * -1) - 1) = lessAt false pv z nx sl := by
    unfold lessAt
    rw [if_neg (by decide)]
    have := mx_def (pv * -1) (nx * -1)
    have := mn_def pv nx
    congr 1
    unfold absI
    split <;> omega
  show (let st : Int := if z > pv then 1 else -1
    let less := mn sl (absI (z - mx (pv * st) (nx * st) * st) - 1)
    (z - less * st) :: shortGo (z - less * st) (nx :: r) (sl - less)) = _
  rw [if_neg (show ¬ z > pv by omega)]
  dsimp only
  rw [e, show z - lessAt false pv z nx sl * -1 = z + lessAt false pv z nx sl by omega]
theorem shortGo_zig (c : Int) : ∀ (zs : List Int) (up : Bool) (pv sl : Int), Zig up pv zs → inR c zs → 0 ≤ sl → Zig up pv (shortGo pv zs sl) ∧ inR c (shortGo pv zs sl)
  | [], _, _, _, _, _, _ => ⟨trivial, fun z hz => nomatch hz⟩
  | [z], _, _, _, h, hr, _ => ⟨h, hr⟩
  | z :: nx :: r, up, pv, sl, h, hr, hs => by
    obtain ⟨h1, h2, h3⟩ := h
    obtain ⟨rz, rt⟩ := inR_tail hr
    obtain ⟨rn, _⟩ := inR_tail rt
    cases up with
    | true =>
      have h1 : pv < z := h1
      have h2 : nx < z := h2
      rw [short_up h1 h2]
      have hl : lessAt true pv z nx sl = mn sl (z - mx pv nx - 1) := rfl
      generalize lessAt true pv z nx sl = le at *
      have := mx_def pv nx
      have := mn_def sl (z - mx pv nx - 1)
      obtain ⟨a, b⟩ := shortGo_zig c (nx :: r) false (z - le) (sl - le) ⟨by show nx < z - le; omega, h3⟩ rt (by omega)
      exact ⟨⟨by show pv < z - le; omega, a⟩, inR_cons (by omega) b⟩
    | false =>
      have h1 : z < pv := h1
      have h2 : z < nx := h2
      rw [short_dn h1 h2]
      have hl : lessAt false pv z nx sl = mn sl (mn pv nx - z - 1) := rfl
      generalize lessAt false pv z nx sl = le at *
      have := mn_def pv nx
      have := mn_def sl (mn pv nx - z - 1)
      obtain ⟨a, b⟩ := shortGo_zig c (nx :: r) true (z + le) (sl - le) ⟨by show z + le < nx; omega, h3⟩ rt (by omega)
      exact ⟨⟨by show z + le < pv; omega, a⟩, inR_cons (by omega) b⟩
def placesR (c g : Int) : Nat → Bool → List Int
  | 0, _ => [g]
  | k + 1, up => (if up = true then c else 0) :: placesR c g k (!up)
theorem rgI_cons {f : Int → Int} {n : Nat} : rgI f (n + 1) = f 0 :: rgI (fun j => f (j + 1)) n := by
  unfold rgI
  rw [List.range_succ_eq_map, List.map_cons, List.map_map]
  refine congrArg (f 0 :: ·) ?_
  refine List.map_congr_left fun j _ => ?_
  show f ((j + 1 : Nat) : Int) = f ((j : Int) + 1)
  rw [Int.natCast_add]; rfl
theorem places_eq (c g : Int) : ∀ (k : Nat) (up : Bool), placesL c g (k + 1) up = placesR c g k up
  | 0, _ => rfl
  | k + 1, up => by
    show rgI (fun j => if decide (decide (j % 2 = 0) = up) then c else 0) (k + 1) ++ [g] = (if up = true then c else 0) :: placesR c g k (!up)
    rw [rgI_cons, List.cons_append, ← places_eq c g k (!up)]
    congr 1
    · cases up <;> rfl
    · show _ = rgI (fun j => if decide (decide (j % 2 = 0) = !up) then c else 0) k ++ [g]
      congr 2
      funext j
      have e : decide (decide ((j + 1) % 2 = 0) = up) = decide (decide (j % 2 = 0) = !up) := by
        by_cases h : j % 2 = 0
        · rw [decide_eq_true h, decide_eq_false (show ¬ (j + 1) % 2 = 0 by omega)]
          cases up <;> rfl
        · rw [decide_eq_false h, decide_eq_true (show (j + 1) % 2 = 0 by omega)]
          cases up <;> rfl
      rw [e]
theorem placesR_len (c g : Int) : ∀ (k : Nat) (up : Bool), (placesR c g k up).length = k + 1
  | 0, _ => rfl
  | k + 1, up => congrArg (· + 1) (placesR_len c g k (!up))
theorem placesR_in {c g : Int} (hc : 0 ≤ c) (hg : 0 ≤ g ∧ g ≤ c) : ∀ (k : Nat) (up : Bool), inR c (placesR c g k up)
  | 0, _ => inR_cons hg fun z hz => nomatch hz
  | k + 1, up => inR_cons (by cases up <;> simp [hc]) (placesR_in hc hg k (!up))
/-- the direction of the last of so many moves -/
def lastUp : Nat → Bool → Bool
  | 0, up => up
  | k + 1, up => lastUp k (!up)
theorem lastUp_par : ∀ (k : Nat) (up : Bool), lastUp k up = if k % 2 = 0 then up else !up
  | 0, _ => rfl
  | k + 1, up => by
    show lastUp k (!up) = _
    rw [lastUp_par k (!up)]
    by_cases h : k % 2 = 0
    · rw [if_pos h, if_neg (by omega)]
    · rw [if_neg h, if_pos (by omega), Bool.not_not]
theorem places_zigI {c g : Int} (hc : 0 < c) : ∀ (k : Nat) (up : Bool), (if lastUp k up = true then 0 < g else g < c) → Zig up (if up = true then 0 else c) (placesR c g k up)
  | 0, true, h => ⟨h, trivial⟩
  | 0, false, h => ⟨h, trivial⟩
  | k + 1, true, h => ⟨hc, places_zigI hc k false h⟩
  | k + 1, false, h => ⟨hc, places_zigI hc k true h⟩
theorem places_zig {c b g : Int} (hc : 0 < c) {k : Nat} {up : Bool} (hb : if up = true then b < c else 0 < b) (h : if lastUp (k + 1) up = true then 0 < g else g < c) : Zig up b (placesR c g (k + 1) up) := by
  cases up with
  | true => exact ⟨hb, places_zigI hc k false h⟩
  | false => exact ⟨hb, places_zigI hc k true h⟩
theorem possW_spec {c b g : Int} {k : Nat} {up : Bool} : possW c b g (k + 2) up = true ↔ (if up = true then b < c else 0 < b) ∧ (if lastUp (k + 1) up = true then 0 < g else g < c) := by
  rw [lastUp_par]
  unfold possW
  by_cases h : (k + 2) % 2 = 0
  · have h' : ¬ (k + 1) % 2 = 0 := by omega
    cases up <;> simp [h, h']
  · have h' : (k + 1) % 2 = 0 := by omega
    have h2 : (k + 2) % 2 = 1 := by omega
    cases up <;> simp [h', h2]
/-- what a way tells of its places -/
theorem way_zig {c b g L : Int} {up : Bool} {zs : List Int} (hb : 0 ≤ b ∧ b ≤ c) (hg : 0 ≤ g ∧ g ≤ c) (hL : L ≠ 0) (h : WayOf c b g L up zs) : Zig up b zs ∧ inR c zs := by
  rcases h with ⟨e, eu, ez⟩ | ⟨ne, m, m2, ⟨hp, hl⟩, _, _, ez⟩
  · subst eu ez
    refine ⟨⟨?_, trivial⟩, inR_cons hg fun z hz => nomatch hz⟩
    by_cases q : g > b
    · rw [if_pos (decide_eq_true q)]; exact q
    · rw [if_neg (by rw [decide_eq_false q]; decide)]
      unfold absI at e
      split at e <;> omega
  · obtain ⟨k, rfl⟩ : ∃ k, m = k + 2 := ⟨m - 2, by omega⟩
    obtain ⟨h1, h2⟩ := possW_spec.mp hp
    have hc : 0 < c := by
      cases up
      · have : 0 < b := h1; omega
      · have : b < c := h1; omega
    rw [places_eq c g (k + 1) up] at ez
    subst ez
    exact shortGo_zig c _ up b _ (places_zig hc h1 h2) (placesR_in (by omega) hg _ _) (by omega)
theorem stepTo_good {c z : Int} {up : Bool} (c1 : c ≤ 1000000000000000000) (h : 0 ≤ z ∧ z ≤ c) : goodS (stepTo c z up) := by
  intro b n e
  unfold stepTo at e
  split at e <;> cases e <;> omega
theorem zsteps_good {c : Int} (c1 : c ≤ 1000000000000000000) : ∀ (zs : List Int) (up : Bool), inR c zs → ∀ s ∈ zsteps c up zs, goodS s
  | [], _, _, s, hs => nomatch hs
  | z :: r, up, h, s, hs => by
    obtain ⟨hz, hr⟩ := inR_tail h
    rcases List.mem_cons.mp hs with e | e
    · subst e
      exact stepTo_good c1 hz
    · exact zsteps_good c1 r (!up) hr s e
theorem simple_good {e : Eff} (h : e.Ok) (c1 : e.c ≤ 1000000000000000000) {l : List Stp} (hs : SimpleOf e l) : ∀ s ∈ l, goodS s := by
  have a := h.lo0
  have b := h.lh
  have d := h.hc
  rcases hs with ⟨_, el⟩ | ⟨ne, g, up, zs, eg, hw, el⟩
  · subst el
    intro s hs
    rcases List.mem_append.mp hs with q | q
    · split at q
      · rw [List.mem_singleton.mp q]; exact stepTo_good c1 (by omega)
      · exact nomatch q
    · split at q
      · rw [List.mem_singleton.mp q]; exact stepTo_good c1 (by omega)
      · exact nomatch q
  · subst el
    obtain ⟨_, hr⟩ := way_zig (c := e.c) (by omega) (h.yes g eg) ne hw
    intro s hs
    rcases List.mem_cons.mp hs with q | q
    · subst q; exact stepTo_good c1 (by omega)
    · exact zsteps_good c1 zs up hr s q
/-! ### no plan has fewer steps -/
def longR (c g : Int) : Int → Nat → Bool → Int
  | b, 0, up => if up = true then g - b else b - g
  | b, k + 1, up => if up = true then c - b + longR c g c k false else b + longR c g 0 k true
theorem longR_t (c g b : Int) (k : Nat) : longR c g b (k + 1) true = c - b + longR c g c k false := if_pos rfl
theorem longR_f (c g b : Int) (k : Nat) : longR c g b (k + 1) false = b + longR c g 0 k true := if_neg (by decide)
theorem longR_ext (c g d : Int) : ∀ (k : Nat) (b : Int) (up : Bool), (lastUp k up = true → longR c (g + d) b k up = longR c g b k up + d) ∧ (lastUp k up = false → longR c (g - d) b k up = longR c g b k up + d)
  | 0, b, true => ⟨fun _ => by show g + d - b = g - b + d; omega, fun h => nomatch h⟩
  | 0, b, false => ⟨(fun h => nomatch h), fun _ => by show b - (g - d) = b - g + d; omega⟩
  | k + 1, b, true => by
    obtain ⟨p, q⟩ := longR_ext c g d k c false
    rw [longR_t, longR_t, longR_t]
    exact ⟨fun h => by rw [p h]; omega, fun h => by rw [q h]; omega⟩
  | k + 1, b, false => by
    obtain ⟨p, q⟩ := longR_ext c g d k 0 true
    rw [longR_f, longR_f, longR_f]
    exact ⟨fun h => by rw [p h]; omega, fun h => by rw [q h]; omega⟩
theorem longR_rev {c g d : Int} (g0 : 0 ≤ g) (g1 : g ≤ c) : ∀ (k : Nat) (b : Int) (up : Bool), (lastUp k up = true → longR c g b k up + d ≤ longR c (g - d) b (k + 1) up) ∧ (lastUp k up = false → longR c g b k up + d ≤ longR c (g + d) b (k + 1) up)
  | 0, b, true => ⟨fun _ => by show g - b + d ≤ c - b + (c - (g - d)); omega, fun h => nomatch h⟩
  | 0, b, false => ⟨(fun h => nomatch h), fun _ => by show b - g + d ≤ b + (g + d - 0); omega⟩
  | k + 1, b, true => by
    obtain ⟨p, q⟩ := longR_rev (d := d) g0 g1 k c false
    rw [longR_t, longR_t, longR_t]
    exact ⟨fun h => by have := p h; omega, fun h => by have := q h; omega⟩
  | k + 1, b, false => by
    obtain ⟨p, q⟩ := longR_rev (d := d) g0 g1 k 0 true
    rw [longR_f, longR_f, longR_f]
    exact ⟨fun h => by have := p h; omega, fun h => by have := q h; omega⟩
theorem longR_ends (c g : Int) : ∀ k : Nat, longR c g c k false = c * k + (if lastUp k false = true then g else c - g) ∧ longR c g 0 k true = c * k + (if lastUp k true = true then g else c - g)
  | 0 => by
    refine ⟨?_, ?_⟩
    · show c - g = c * 0 + (c - g); omega
    · show g - 0 = c * 0 + g; omega
  | k + 1 => by
    obtain ⟨p, q⟩ := longR_ends c g k
    have e : c * ((k + 1 : Nat) : Int) = c * k + c := by rw [Int.natCast_add, Int.mul_add]; show c * k + c * 1 = _; rw [Int.mul_one]
    rw [longR_f, longR_t, p, q, e]
    refine ⟨?_, ?_⟩
    · show c + (c * k + (if lastUp k true = true then g else c - g)) = c * k + c + (if lastUp k true = true then g else c - g); omega
    · show c - 0 + (c * k + (if lastUp k false = true then g else c - g)) = c * k + c + (if lastUp k false = true then g else c - g); omega
theorem longW_eq (c b g : Int) (k : Nat) (up : Bool) : longW c b g (k + 2) up = longR c g b (k + 1) up := by
  obtain ⟨p, q⟩ := longR_ends c g k
  have e : (((k + 2 : Nat) : Int) - 2) = k := by omega
  have ep : (k + 2) % 2 = 0 ↔ k % 2 = 0 := by omega
  unfold longW lastW
  rw [e]
  rw [lastUp_par] at p q
  cases up with
  | true =>
    rw [if_pos rfl, longR_t, p]
    by_cases h : k % 2 = 0
    · rw [if_pos (ep.mpr h), if_pos h, if_neg (by decide)]; omega
    · rw [if_neg (fun z => h (ep.mp z)), if_neg h, if_pos (by decide)]; omega
  | false =>
    rw [if_neg (by decide), longR_f, q]
    by_cases h : k % 2 = 0
    · rw [if_pos (ep.mpr h), if_pos h, if_pos (by decide)]; omega
    · rw [if_neg (fun z => h (ep.mp z)), if_neg h, if_neg (by decide)]; omega
def endsN (c lo hi : Int) : Nat := (if lo > 0 then 1 else 0) + (if hi < c then 1 else 0)
/-- k + 1 moves, the first one up or down, come from b to g and carry x -/
def Reach (c b g x : Int) : Nat → Bool → Prop
  | 0, up => 0 < x ∧ x = longR c g b 0 up
  | k + 1, up => x ≤ longR c g b (k + 1) up ∧ (if up = true then b < c else 0 < b) ∧ (if lastUp (k + 1) up = true then 0 < g else g < c)
theorem reach_start {c b g x : Int} (b0 : 0 ≤ b ∧ b ≤ c) (g0 : 0 ≤ g ∧ g ≤ c) : ∀ {k : Nat} {up : Bool}, Reach c b g x k up → if up = true then b < c else 0 < b
  | 0, true, ⟨h0, h⟩ => by have h : x = g - b := h; show b < c; omega
  | 0, false, ⟨h0, h⟩ => by have h : x = b - g := h; show 0 < b; omega
  | k + 1, _, h => h.2.1
theorem reach_up {c b g x d : Int} (b0 : 0 ≤ b ∧ b ≤ c) (g0 : 0 ≤ g ∧ g ≤ c) (d0 : 0 < d) {k : Nat} {up : Bool} (h : Reach c b g x k up) : ∃ k', k' ≤ k + 1 ∧ Reach c b (g + d) (x + d) k' up := by
  cases hl : lastUp k up with
  | true =>
    refine ⟨k, Nat.le_succ k, ?_⟩
    have ee := (longR_ext c g d k b up).1 hl
    cases k with
    | zero =>
      obtain ⟨h1, h2⟩ := h
      exact ⟨by omega, by omega⟩
    | succ k =>
      obtain ⟨h1, h2, h3⟩ := h
      refine ⟨by omega, h2, ?_⟩
      rw [if_pos hl]; omega
  | false =>
    refine ⟨k + 1, Nat.le_refl _, ?_⟩
    have ee := (longR_rev (d := d) g0.1 g0.2 k b up).2 hl
    have hs := reach_start b0 g0 h
    have hx : x ≤ longR c g b k up := by
      cases k with
      | zero => exact Int.le_of_eq h.2
      | succ k => exact h.1
    refine ⟨by omega, hs, ?_⟩
    have : lastUp (k + 1) up = true := by
      rw [lastUp_par] at hl ⊢
      by_cases q : k % 2 = 0
      · rw [if_pos q] at hl; rw [if_neg (by omega), hl]; rfl
      · rw [if_neg q] at hl; rw [if_pos (by omega)]; cases up <;> simp_all
    rw [if_pos this]; omega
theorem reach_dn {c b g x d : Int} (b0 : 0 ≤ b ∧ b ≤ c) (g0 : 0 ≤ g ∧ g ≤ c) (d0 : 0 < d) {k : Nat} {up : Bool} (h : Reach c b g x k up) : ∃ k', k' ≤ k + 1 ∧ Reach c b (g - d) (x + d) k' up := by
  cases hl : lastUp k up with
  | false =>
    refine ⟨k, Nat.le_succ k, ?_⟩
    have ee := (longR_ext c g d k b up).2 hl
    cases k with
    | zero =>
      obtain ⟨h1, h2⟩ := h
      exact ⟨by omega, by omega⟩
    | succ k =>
      obtain ⟨h1, h2, h3⟩ := h
      refine ⟨by omega, h2, ?_⟩
      rw [if_neg (by rw [hl]; decide)]; omega
  | true =>
    refine ⟨k + 1, Nat.le_refl _, ?_⟩
    have ee := (longR_rev (d := d) g0.1 g0.2 k b up).1 hl
    have hs := reach_start b0 g0 h
    have hx : x ≤ longR c g b k up := by
      cases k with
      | zero => exact Int.le_of_eq h.2
      | succ k => exact h.1
    refine ⟨by omega, hs, ?_⟩
    have : lastUp (k + 1) up = false := by
      rw [lastUp_par] at hl ⊢
      by_cases q : k % 2 = 0
      · rw [if_pos q] at hl; rw [if_neg (by omega), hl]; rfl
      · rw [if_neg q] at hl; rw [if_pos (by omega)]; cases up <;> simp_all
    rw [if_neg (by rw [this]; decide)]; omega
/-- n meetings may have made this -/
structure Few (e : Eff) (n : Nat) : Prop where
  eq : ∀ g, e.goal = some g → e.lo = e.hi
  z : e.ex = 0 → endsN e.c e.lo e.hi ≤ n ∧ ∀ g, e.goal = some g → g = e.lo
  p : e.ex ≠ 0 → ∀ g, e.goal = some g → ∃ k up, k + 2 ≤ n ∧ Reach e.c e.lo g e.ex k up
theorem Few.le {e : Eff} {n m : Nat} (h : Few e n) (q : n ≤ m) : Few e m :=
  ⟨h.eq, fun z => ⟨Nat.le_trans (h.z z).1 q, (h.z z).2⟩, fun z g hg => let ⟨k, up, a, b⟩ := h.p z g hg; ⟨k, up, Nat.le_trans a q, b⟩⟩
theorem ends_lo {c lo lo' hi : Int} : endsN c lo' hi ≤ endsN c lo hi + 1 := by unfold endsN; split <;> split <;> omega
theorem ends_hi {c lo hi hi' : Int} : endsN c lo hi' ≤ endsN c lo hi + 1 := by unfold endsN; split <;> split <;> split <;> omega
theorem few_mk {c lo hi : Int} {t : Bool} {n : Nat} (h : endsN c lo hi ≤ n) : Few (mkE c lo hi 0 none t) n := by
  by_cases e : lo = hi
  · subst e
    rw [mkE_eq]
    exact ⟨fun _ _ => rfl, fun _ => ⟨h, fun g hg => by cases hg; rfl⟩, fun z => absurd rfl z⟩
  · have : mkE c lo hi 0 none t = ⟨c, lo, hi, 0, none, t⟩ := by unfold mkE; rw [if_neg (fun z => e z.2)]
    rw [this]
    exact ⟨(fun g hg => nomatch hg), fun _ => ⟨h, (fun g hg => nomatch hg)⟩, fun z => absurd rfl z⟩
theorem few_least {e : Eff} (he : e.Ok) {n : Nat} (h : Few e n) {a : Int} (a0 : 0 ≤ a) (a1 : a ≤ e.c) : Few (e.atLeast a) (n + 1) := by
  obtain ⟨c, lo, hi, ex, goal, t⟩ := e
  have l0 := he.lo0
  have l1 := he.lh
  have l2 := he.hc
  have l3 := he.ex0
  dsimp only at l0 l1 l2 l3 a1
  cases goal with
  | none =>
    obtain ⟨z, _⟩ := he.no rfl
    have z : ex = 0 := z
    subst z
    have hz := (h.z rfl).1
    dsimp only at hz
    rw [atLeast_none]
    split
    · exact few_mk (Nat.le_trans ends_lo (Nat.succ_le_succ hz))
    · rename_i q
      refine ⟨fun _ _ => rfl, fun z => ?_, fun _ g hg => ?_⟩
      · exfalso
        have z : a - hi = 0 := z
        omega
      · cases hg
        refine ⟨0, true, ?_, by show 0 < a - hi; omega, rfl⟩
        have : 1 ≤ endsN c lo hi := by unfold endsN; rw [if_pos (show hi < c by omega)]; omega
        omega
  | some g =>
    obtain ⟨g0, g1⟩ := he.yes g rfl
    dsimp only at g0 g1
    have elh : lo = hi := h.eq g rfl
    subst elh
    rw [atLeast_some]
    split
    · exact h.le (Nat.le_succ n)
    · rename_i q
      refine ⟨fun _ _ => rfl, fun z => ?_, fun _ g2 hg => ?_⟩
      · have z : ex + a - g = 0 := z
        omega
      · cases hg
        by_cases e0 : ex = 0
        · subst e0
          obtain ⟨hz, hgl⟩ := h.z rfl
          obtain rfl : g = lo := hgl g rfl
          dsimp only at hz
          refine ⟨0, true, ?_, by show 0 < 0 + a - g; omega, by show 0 + a - g = a - g; omega⟩
          have : 1 ≤ endsN c g g := by unfold endsN; rw [if_pos (show g < c by omega)]; omega
          omega
        · obtain ⟨k, up, hk, hr⟩ := h.p e0 g rfl
          obtain ⟨k2, hk2, hr2⟩ := reach_up (d := a - g) ⟨l0, by show lo ≤ c; omega⟩ ⟨g0, g1⟩ (by omega) hr
          dsimp only at hr2
          rw [show g + (a - g) = a by omega, show ex + (a - g) = ex + a - g by omega] at hr2
          exact ⟨k2, up, by omega, hr2⟩
theorem few_most {e : Eff} (he : e.Ok) {n : Nat} (h : Few e n) {a : Int} (a0 : 0 ≤ a) (a1 : a ≤ e.c) : Few (e.atMost a) (n + 1) := by
  obtain ⟨c, lo, hi, ex, goal, t⟩ := e
  have l0 := he.lo0
  have l1 := he.lh
  have l2 := he.hc
  have l3 := he.ex0
  dsimp only at l0 l1 l2 l3 a1
  cases goal with
  | none =>
    obtain ⟨z, lt⟩ := he.no rfl
    have z : ex = 0 := z
    have lt : lo < hi := lt
    subst z
    have hz := (h.z rfl).1
    dsimp only at hz
    rw [atMost_none _ _ _ _ _ _ lt]
    split
    · exact few_mk (Nat.le_trans ends_hi (Nat.succ_le_succ hz))
    · rename_i q
      refine ⟨fun _ _ => rfl, fun z => ?_, fun _ g hg => ?_⟩
      · exfalso
        have z : lo - a = 0 := z
        have q : ¬ lo ≤ a := q
        omega
      · cases hg
        have q : ¬ lo ≤ a := q
        refine ⟨0, false, ?_, by show 0 < lo - a; omega, rfl⟩
        have : 1 ≤ endsN c lo hi := by unfold endsN; rw [if_pos (show lo > 0 by omega)]; omega
        omega
  | some g =>
    obtain ⟨g0, g1⟩ := he.yes g rfl
    dsimp only at g0 g1
    have elh : lo = hi := h.eq g rfl
    subst elh
    rw [atMost_some]
    split
    · exact h.le (Nat.le_succ n)
    · rename_i q
      refine ⟨fun _ _ => rfl, fun z => ?_, fun _ g2 hg => ?_⟩
      · have z : ex + g - a = 0 := z
        omega
      · cases hg
        by_cases e0 : ex = 0
        · subst e0
          obtain ⟨hz, hgl⟩ := h.z rfl
          obtain rfl : g = lo := hgl g rfl
          dsimp only at hz
          refine ⟨0, false, ?_, by show 0 < 0 + g - a; omega, by show 0 + g - a = g - a; omega⟩
          have : 1 ≤ endsN c g g := by unfold endsN; rw [if_pos (show g > 0 by omega)]; omega
          omega
        · obtain ⟨k, up, hk, hr⟩ := h.p e0 g rfl
          obtain ⟨k2, hk2, hr2⟩ := reach_dn (d := g - a) ⟨l0, by show lo ≤ c; omega⟩ ⟨g0, g1⟩ (by omega) hr
          dsimp only at hr2
          rw [show g - (g - a) = a by omega, show ex + (g - a) = ex + g - a by omega] at hr2
          exact ⟨k2, up, by omega, hr2⟩
def mtc (ps : List (Int × Int)) : Nat := (ps.filter fun p => p.1 ≠ 0).length
theorem mtc_sides : ∀ (l : List Stp) (s : Int), (s = 1 ∨ s = -1) → mtc (sides s l) + turns l = l.length
  | [], _, _ => rfl
  | .turn :: r, s, hs => by
    have := mtc_sides r (0 - s) (by omega)
    have e : mtc (sides s (.turn :: r)) = mtc (sides (0 - s) r) := by
      show (List.filter _ ((0, 0) :: sides (0 - s) r)).length = _
      rw [List.filter_cons_of_neg (by simp)]; rfl
    rw [e]
    show _ + (turns r + 1) = r.length + 1
    omega
  | .mt b n :: r, s, hs => by
    have := mtc_sides r s hs
    have e : mtc (sides s (.mt b n :: r)) = mtc (sides s r) + 1 := by
      show (List.filter _ (((if b then s else 0 - s), n) :: sides s r)).length = _
      rw [List.filter_cons_of_pos (by cases b <;> simp <;> omega)]; rfl
    rw [e]
    show _ + turns r = r.length + 1
    omega
theorem few_fold {c : Int} : ∀ (ps : List (Int × Int)) (e : Eff) (n : Nat), e.Ok → e.c = c → fits c ps → Few e n → Few (ps.foldl (effStep c) e) (n + mtc ps)
  | [], e, n, _, _, _, h => h
  | p :: r, e, n, he, hc, hf, h => by
    obtain ⟨hs, h0, h1⟩ := hf p List.mem_cons_self
    obtain ⟨a, b, _, _⟩ := effStep_ok he hc hs h0 h1
    have hr : fits c r := fun q hq => hf q (List.mem_cons_of_mem _ hq)
    rw [List.foldl_cons]
    rcases hs with s | s | s
    · have e1 : effStep c e p = e.atLeast p.2 := by unfold effStep; rw [if_pos s]
      have m : mtc (p :: r) = mtc r + 1 := by unfold mtc; rw [List.filter_cons_of_pos (by simp; omega)]; rfl
      rw [m, show n + (mtc r + 1) = n + 1 + mtc r by omega]
      refine few_fold r _ _ a b hr ?_
      rw [e1]
      exact few_least he h h0 (by omega)
    · have e1 : effStep c e p = e.atMost (c - p.2) := by unfold effStep; rw [if_neg (by omega), if_pos s]
      have m : mtc (p :: r) = mtc r + 1 := by unfold mtc; rw [List.filter_cons_of_pos (by simp; omega)]; rfl
      rw [m, show n + (mtc r + 1) = n + 1 + mtc r by omega]
      refine few_fold r _ _ a b hr ?_
      rw [e1]
      exact few_most he h (by omega) (by omega)
    · have e1 : effStep c e p = e := by unfold effStep; rw [if_neg (by omega), if_neg (by omega)]
      have m : mtc (p :: r) = mtc r := by unfold mtc; rw [List.filter_cons_of_neg (by simp; omega)]
      rw [m]
      refine few_fold r _ _ a b hr ?_
      rw [e1]
      exact h
theorem effOf_few {c : Int} {l : List Stp} (hc : 0 ≤ c) (hl : fitsS c l) : Few (effOf c l) (mtc (sides 1 l)) := by
  obtain ⟨n0, _⟩ := nothing_ok hc
  have hf := sides_fits l 1 (.inl rfl) hc hl
  obtain ⟨a, b, _, _⟩ := fold_ok (c := c) (sides 1 l) (nothing c) n0 rfl hf
  have fz : Few (nothing c) 0 := few_mk (by unfold endsN; rw [if_neg (by omega), if_neg (by omega)]; exact Nat.le_refl _)
  have f := few_fold (c := c) (sides 1 l) (nothing c) 0 n0 rfl hf fz
  rw [Nat.zero_add] at f
  have hb : (effFold c (sides 1 l)).c = c := b
  have e : effOf c l = ⟨c, (effFold c (sides 1 l)).lo, (effFold c (sides 1 l)).hi, (effFold c (sides 1 l)).ex, (effFold c (sides 1 l)).goal, turning l⟩ := by
    have h := mkE_self (e := effFold c (sides 1 l)) a (turning l)
    rw [hb] at h
    exact h
  rw [e]
  have e2 : (effFold c (sides 1 l)).c = c := hb
  exact ⟨f.eq, fun z => by have := f.z z; rw [show ((sides 1 l).foldl (effStep c) (nothing c)).c = c from hb] at this; exact this, fun z => by have := f.p z; rw [show ((sides 1 l).foldl (effStep c) (nothing c)).c = c from hb] at this; exact this⟩
theorem reach_does {c b g x : Int} {k : Nat} {up : Bool} (h : Reach c b g x k up) (ne : x ≠ absI (g - b)) : ∃ k', k = k' + 1 ∧ doesW c b g x (k' + 2) up := by
  cases k with
  | zero =>
    exfalso
    obtain ⟨h0, h1⟩ := h
    refine ne ?_
    unfold absI
    cases up
    · have h1 : x = b - g := h1
      rw [if_pos (by omega)]; omega
    · have h1 : x = g - b := h1
      rw [if_neg (by omega)]; omega
  | succ k =>
    obtain ⟨h1, h2, h3⟩ := h
    exact ⟨k, rfl, possW_spec.mpr ⟨h2, h3⟩, by rw [longW_eq]; exact h1⟩
theorem placesL_len (c g : Int) {m : Nat} (h : 2 ≤ m) (up : Bool) : (placesL c g m up).length = m := by
  obtain ⟨k, rfl⟩ : ∃ k, m = k + 1 := ⟨m - 1, by omega⟩
  rw [places_eq, placesR_len]
theorem few_simple {e : Eff} {n : Nat} (h : Few e n) {l : List Stp} (hs : SimpleOf e l) : l.length ≤ n := by
  rcases hs with ⟨e0, el⟩ | ⟨ne, g, up, zs, eg, hw, el⟩
  · subst el
    refine Nat.le_trans (Nat.le_of_eq ?_) (h.z e0).1
    unfold endsN
    rw [List.length_append]
    congr 1 <;> split <;> rfl
  · subst el
    obtain ⟨k, u, hk, hr⟩ := h.p ne g eg
    show (zsteps e.c up zs).length + 1 ≤ n
    rw [zsteps_len]
    rcases hw with ⟨_, _, ez⟩ | ⟨nl, m, m2, _, hmin, _, ez⟩
    · subst ez
      show 1 + 1 ≤ n
      omega
    · obtain ⟨k', rfl, hd⟩ := reach_does hr nl
      have : m ≤ k' + 2 := by
        rcases Nat.lt_or_ge (k' + 2) m with q | q
        · exact absurd hd (hmin _ u (by omega) q)
        · exact q
      rw [ez, shortGo_len, placesL_len _ _ m2]
      omega
theorem few_ex {e : Eff} {n : Nat} (h : Few e n) (ne : e.ex ≠ 0) {g : Int} (eg : e.goal = some g) (nl : e.ex ≠ absI (g - e.lo)) : ∃ m u, 2 ≤ m ∧ m ≤ n ∧ doesW e.c e.lo g e.ex m u := by
  obtain ⟨k, u, hk, hr⟩ := h.p ne g eg
  obtain ⟨k', rfl, hd⟩ := reach_does hr nl
  exact ⟨k' + 2, u, by omega, by omega, hd⟩
def turnL (b : Bool) : List Stp := if b then [.turn] else []
/-- the simple plan has no more steps -/
theorem simple_le {c : Int} {l l' : List Stp} (hc : 0 ≤ c) (hl : fitsS c l) (hs : SimpleOf (effOf c l) l') : (l' ++ turnL (turning l)).length ≤ l.length := by
  have a := few_simple (effOf_few hc hl) hs
  have b := mtc_sides l 1 (.inl rfl)
  rw [List.length_append]
  cases ht : turning l with
  | false => show l'.length + 0 ≤ _; omega
  | true =>
    have : turns l ≠ 0 := fun z => by
      unfold turning at ht
      rw [z] at ht
      cases ht
    show l'.length + 1 ≤ _
    omega
theorem simple_goodP {c : Int} {l l' : List Stp} (hc : 0 ≤ c) (c1 : c ≤ 1000000000000000000) (hl : fitsS c l) (h60 : l.length ≤ 60) (hs : SimpleOf (effOf c l) l') : goodP (l' ++ turnL (turning l)) := by
  obtain ⟨o, oc, _, _⟩ := effOf_ok hc hl
  refine ⟨fun s hs' => ?_, Nat.le_trans (simple_le hc hl hs) h60⟩
  rcases List.mem_append.mp hs' with q | q
  · exact simple_good o (by rw [oc]; exact c1) hs s q
  · unfold turnL at q
    split at q
    · rw [List.mem_singleton.mp q]; intro b n z; cases z
    · exact nomatch q
theorem simple_ex {c : Int} {l : List Stp} (hc : 0 ≤ c) (hl : fitsS c l) (h60 : l.length ≤ 60) (ne : (effOf c l).ex ≠ 0) (g : Int) (eg : (effOf c l).goal = some g) (nl : (effOf c l).ex ≠ absI (g - (effOf c l).lo)) : ∃ m u, 2 ≤ m ∧ m ≤ 9000 ∧ doesW (effOf c l).c (effOf c l).lo g (effOf c l).ex m u := by
  obtain ⟨m, u, a, b, d⟩ := few_ex (effOf_few hc hl) ne eg nl
  have := mtc_sides l 1 (.inl rfl)
  exact ⟨m, u, a, by omega, d⟩
/-- there is one simple plan -/
theorem way_one {c b g L : Int} {u v : Bool} {xs ys : List Int} (h : WayOf c b g L u xs) (k : WayOf c b g L v ys) : u = v ∧ xs = ys := by
  rcases h with ⟨e, eu, ez⟩ | ⟨ne, m, m2, hd, hm, hu, ez⟩ <;> rcases k with ⟨e', eu', ez'⟩ | ⟨ne', m', m2', hd', hm', hu', ez'⟩
  · exact ⟨eu.trans eu'.symm, ez.trans ez'.symm⟩
  · exact absurd e ne'
  · exact absurd e' ne
  · have em : m = m' := by
      rcases Nat.lt_trichotomy m m' with q | q | q
      · exact absurd hd (hm' m u m2 q)
      · exact q
      · exact absurd hd' (hm m' v m2' q)
    subst em
    have euv : u = v := by
      cases u <;> cases v
      · rfl
      · exact absurd hd' (hu rfl)
      · exact absurd hd (hu' rfl)
      · rfl
    subst euv
    exact ⟨rfl, ez.trans ez'.symm⟩
theorem simple_one {e : Eff} {l m : List Stp} (h : SimpleOf e l) (k : SimpleOf e m) : l = m := by
  rcases h with ⟨e0, el⟩ | ⟨ne, g, u, zs, eg, hw, el⟩ <;> rcases k with ⟨e0', el'⟩ | ⟨ne', g', u', zs', eg', hw', el'⟩
  · exact el.trans el'.symm
  · exact absurd e0 ne'
  · exact absurd e0' ne
  · rw [eg] at eg'
    cases eg'
    obtain ⟨rfl, rfl⟩ := way_one hw hw'
    exact el.trans el'.symm
end ChM

set_option Elab.async false
set_option linter.all false
set_option autoImplicit false
set_option maxRecDepth 100000
set_option maxHeartbeats 4000000
/-! ### == of lists and tuples of numbers -/
namespace Ch
open PySem PySem.Spec PyProof.Rows L2 ChM
def Lay (n : Nat) (d : PyData) : Prop := d.canLay0 = true ∧ d.depth ≤ n
theorem lay_all {n : Nat} : ∀ {ds : List PyData}, (∀ d ∈ ds, Lay n d) → PyData.canLayAll0 ds = true ∧ PyData.depthAll ds ≤ n
  | [], _ => by simp [PyData.canLayAll0, PyData.depthAll]
  | d :: ds, h => by
    obtain ⟨a, b⟩ := lay_all (ds := ds) fun e he => h e (List.mem_cons_of_mem _ he)
    obtain ⟨c, e⟩ := h d List.mem_cons_self
    refine ⟨by simp [PyData.canLayAll0, a, c], ?_⟩
    simp only [PyData.depthAll]
    omega
theorem lay_list {n : Nat} {ds : List PyData} (h : ∀ d ∈ ds, Lay n d) : Lay (n + 1) (.list ds) := by
  obtain ⟨a, b⟩ := lay_all h
  refine ⟨by simp only [PyData.canLay0]; exact a, ?_⟩
  simp only [PyData.depth]
  omega
theorem lay_tup {n : Nat} {ds : List PyData} (h : ∀ d ∈ ds, Lay n d) : Lay (n + 1) (.tuple ds) := by
  obtain ⟨a, b⟩ := lay_all h
  refine ⟨by simp only [PyData.canLay0]; exact a, ?_⟩
  simp only [PyData.depth]
  omega
theorem lay_int (n : Nat) (i : Int) : Lay n (.int i) := ⟨by simp [PyData.canLay0], by simp [PyData.depth]⟩
theorem lay_str (n : Nat) (i : Str) (h : PyData.strOk i = true) : Lay n (.str i) := ⟨by simp only [PyData.canLay0]; exact h, by simp [PyData.depth]⟩
theorem lay_bool (n : Nat) (i : Bool) : Lay n (.bool i) := ⟨by simp [PyData.canLay0], by simp [PyData.depth]⟩
theorem lay_none (n : Nat) : Lay n .none := ⟨by simp [PyData.canLay0], by simp [PyData.depth]⟩
theorem Lay.shaped {n : Nat} {d : PyData} (h : Lay n d) (hn : n ≤ 64 := by decide) : SeqAt.shaped d = true := by
  show (d.canLay0 && decide (d.depth ≤ 64)) = true
  rw [Bool.and_eq_true]
  exact ⟨h.1, decide_eq_true (Nat.le_trans h.2 hn)⟩
theorem lay_map {α : Type} {n : Nat} {f : α → PyData} (h : ∀ a, Lay n (f a)) (xs : List α) : ∀ d ∈ xs.map f, Lay n d := fun d hd => by
  obtain ⟨a, _, rfl⟩ := List.mem_map.mp hd
  exact h a
theorem eqvAll_map {α : Type} [DecidableEq α] {f : α → PyData} (h : ∀ a b, PyData.eqv (f a) (f b) = decide (a = b)) : ∀ xs ys : List α, PyData.eqvAll (xs.map f) (ys.map f) = decide (xs = ys)
  | [], [] => by simp [PyData.eqvAll]
  | [], _ :: _ => by simp [PyData.eqvAll]
  | _ :: _, [] => by simp [PyData.eqvAll]
  | x :: xs, y :: ys => by
    simp only [List.map_cons, PyData.eqvAll]
    rw [h, eqvAll_map h xs ys]
    by_cases e : x = y <;> by_cases e2 : xs = ys <;> simp [e, e2]
theorem eqv_int (a b : Int) : PyData.eqv (.int a) (.int b) = decide (a = b) := by
  simp only [PyData.eqv]
  by_cases e : a = b <;> simp [e]
theorem eqv_str (a b : Str) : PyData.eqv (.str a) (.str b) = decide (a = b) := by
  simp only [PyData.eqv]
  by_cases e : a = b
  · simp [e]
  · rw [decide_eq_false e]
    exact beq_false_of_ne e
theorem dpAll_ints {K : PySem.W.Frag} {H : Hp} : ∀ ns : List Int, DpAll K H (ns.map V.int) (ns.map PyData.int)
  | [] => .nil
  | n :: ns => .cons (.int n) (dpAll_ints ns)
section
variable {H : Hp} {Q : VK} {K : PySem.W.Frag} {p q : Addr} {ns ms : List Int} {a b c d : Int}
theorem x_neL (h1 : SqL K H p (ns.map V.int)) (h2 : SqL K H q (ms.map V.int)) (k : Q (.bl (!decide (ns = ms))) H) : rNeU K (.ref p) (.ref q) H Q := by
  refine x_neDp (.lst h1 (dpAll_ints ns)) (.lst h2 (dpAll_ints ms)) (lay_list (lay_map (lay_int 0) ns)).shaped (lay_list (lay_map (lay_int 0) ms)).shaped ?_
  have e : PyData.eqv (.list (ns.map PyData.int)) (.list (ms.map PyData.int)) = decide (ns = ms) := by
    simp only [PyData.eqv]
    exact eqvAll_map eqv_int ns ms
  rw [e]
  exact k
theorem x_eqL (h1 : SqL K H p (ns.map V.int)) (h2 : SqL K H q (ms.map V.int)) (k : Q (.bl (decide (ns = ms))) H) : rEqU K (.ref p) (.ref q) H Q := by
  refine x_eqDp (.lst h1 (dpAll_ints ns)) (.lst h2 (dpAll_ints ms)) (lay_list (lay_map (lay_int 0) ns)).shaped (lay_list (lay_map (lay_int 0) ms)).shaped ?_
  have e : PyData.eqv (.list (ns.map PyData.int)) (.list (ms.map PyData.int)) = decide (ns = ms) := by
    simp only [PyData.eqv]
    exact eqvAll_map eqv_int ns ms
  rw [e]
  exact k
theorem x_neTu (h1 : SqT K H p (ns.map V.int)) (h2 : SqT K H q (ms.map V.int)) (k : Q (.bl (!decide (ns = ms))) H) : rNeU K (.ref p) (.ref q) H Q := by
  refine x_neDp (.tup h1 (dpAll_ints ns)) (.tup h2 (dpAll_ints ms)) (lay_tup (lay_map (lay_int 0) ns)).shaped (lay_tup (lay_map (lay_int 0) ms)).shaped ?_
  have e : PyData.eqv (.tuple (ns.map PyData.int)) (.tuple (ms.map PyData.int)) = decide (ns = ms) := by
    simp only [PyData.eqv]
    exact eqvAll_map eqv_int ns ms
  rw [e]
  exact k
theorem x_eqTu (h1 : SqT K H p (ns.map V.int)) (h2 : SqT K H q (ms.map V.int)) (k : Q (.bl (decide (ns = ms))) H) : rEqU K (.ref p) (.ref q) H Q := by
  refine x_eqDp (.tup h1 (dpAll_ints ns)) (.tup h2 (dpAll_ints ms)) (lay_tup (lay_map (lay_int 0) ns)).shaped (lay_tup (lay_map (lay_int 0) ms)).shaped ?_
  have e : PyData.eqv (.tuple (ns.map PyData.int)) (.tuple (ms.map PyData.int)) = decide (ns = ms) := by
    simp only [PyData.eqv]
    exact eqvAll_map eqv_int ns ms
  rw [e]
  exact k
/-- (a, b) != (c, d) -/
theorem x_neP (h1 : H p = some (.tup [.int a, .int b])) (h2 : H q = some (.tup [.int c, .int d])) (k : Q (.bl (!decide (a = c ∧ b = d))) H) : rNeU K (.ref p) (.ref q) H Q := by
  refine x_neTu (ns := [a, b]) (ms := [c, d]) (SqT.of h1) (SqT.of h2) ?_
  rw [show decide ([a, b] = [c, d]) = decide (a = c ∧ b = d) by simp]
  exact k
theorem x_eqP (h1 : H p = some (.tup [.int a, .int b])) (h2 : H q = some (.tup [.int c, .int d])) (k : Q (.bl (decide (a = c ∧ b = d))) H) : rEqU K (.ref p) (.ref q) H Q := by
  refine x_eqTu (ns := [a, b]) (ms := [c, d]) (SqT.of h1) (SqT.of h2) ?_
  rw [show decide ([a, b] = [c, d]) = decide (a = c ∧ b = d) by simp]
  exact k
/-- numbers or None -/
theorem x_neG {x y : Option Int} (k : Q (.bl (!decide (x = y))) H) : rNeU K (goalV x) (goalV y) H Q := by
  refine .inl ⟨by cases x <;> cases y <;> rfl, ?_⟩
  rw [show decide (goalV x = goalV y) = decide (x = y) by cases x <;> cases y <;> simp [goalV]]
  exact k
theorem x_eqG {x y : Option Int} (k : Q (.bl (decide (x = y))) H) : rEqU K (goalV x) (goalV y) H Q := by
  refine .inl ⟨by cases x <;> cases y <;> rfl, ?_⟩
  rw [show decide (goalV x = goalV y) = decide (x = y) by cases x <;> cases y <;> simp [goalV]]
  exact k
/-- slices -/
theorem x_sl {r : V → Option Int → Option Int → Hp → VK → Prop} {te : TE} {tl th : TO} {σ : L2.St} (k : te σ H fun x H1 => tl σ H1 fun l H2 => th σ H2 fun u H3 => r x l u H3 Q) : L2.tSl r te tl th σ H Q := k
theorem x_slL {xs : List V} {lo hi : Option Int} (h : SqL K H p xs) (k : ∀ q, H q = none → Q (.ref q) (upd H q (.lst (cutV xs lo hi)))) : rSlL K (.ref p) lo hi H Q := ⟨p, xs, rfl, h, k⟩
theorem x_noPart {σ : L2.St} {QO : Option Int → Hp → Prop} (k : QO none H) : tNoPart σ H QO := k
theorem x_part {σ : L2.St} {te : TE} {QO : Option Int → Hp → Prop} (k : te σ H fun x H1 => ∃ i, x = .int i ∧ QO (some i) H1) : tPart te σ H QO := k
theorem x_partI {i : Int} {R : Int → Prop} (k : R i) : ∃ j, V.int i = .int j ∧ R j := ⟨i, rfl, k⟩
theorem x_rep {xs : List V} {n : Int} (h : H p = some (.lst xs)) (h0 : -(2 ^ 63) ≤ n) (h1 : n < 2 ^ 63) (h2 : xs.length * n.toNat ≤ sizeLine) (k : ∀ q, H q = none → Q (.ref q) (upd H q (.lst (List.replicate n.toNat xs).flatten))) : rTimes (.ref p) (.int n) H Q := .inr (.inr ⟨p, n, xs, rfl, rfl, h, h0, h1, h2, k⟩)
end
/-- a slice of paired lists -/
theorem pr_cut {β : Type} {R : V → β → Prop} {xs : List V} {ys : List β} (lo hi : Option Int) (h : Paired R xs ys) : Paired R (cutV xs lo hi) ((ys.drop (HT.sIx xs.length 0 lo)).take (HT.sIx xs.length xs.length hi - HT.sIx xs.length 0 lo)) := pr_take _ (pr_drop _ h)
end Ch
/-! ### new objects, the heap behind them named -/
namespace Ch
open PySem PySem.Spec PyProof.Rows L2 ChM
section
variable {H : Hp} {Q : VK} {K : PySem.W.Frag} {p q : Addr} {xs ys : List V} {o : HO} {n : Nat} {R : Addr → Hp → Prop}
theorem n_new (h : n ≤ sizeLine) (k : ∀ p H', H p = none → Same H H' → H' p = some o → R p H') : n ≤ sizeLine ∧ ∀ p, H p = none → R p (upd H p o) := ⟨h, fun p hp => k p _ hp (Same.new hp) upd_same⟩
theorem n_new0 (k : ∀ p H', H p = none → Same H H' → H' p = some o → R p H') : ∀ p, H p = none → R p (upd H p o) := fun p hp => k p _ hp (Same.new hp) upd_same
theorem n_slL {lo hi : Option Int} (h : SqL K H p xs) (k : ∀ q H', H q = none → Same H H' → H' q = some (.lst (cutV xs lo hi)) → Q (.ref q) H') : rSlL K (.ref p) lo hi H Q := x_slL h fun q hq => k q _ hq (Same.new hq) upd_same
theorem n_plusL (h1 : H p = some (.lst xs)) (h2 : H q = some (.lst ys)) (h3 : xs.length + ys.length ≤ sizeLine) (k : ∀ r H', H r = none → Same H H' → H' r = some (.lst (xs ++ ys)) → Q (.ref r) H') : rPlus (.ref p) (.ref q) H Q := x_plusL h1 h2 h3 fun q hq => k q _ hq (Same.new hq) upd_same
theorem n_rep {i : Int} (h : H p = some (.lst xs)) (h0 : -(2 ^ 63) ≤ i) (h1 : i < 2 ^ 63) (h2 : xs.length * i.toNat ≤ sizeLine) (k : ∀ q H', H q = none → Same H H' → H' q = some (.lst (List.replicate i.toNat xs).flatten) → Q (.ref q) H') : rTimes (.ref p) (.int i) H Q := x_rep h h0 h1 h2 fun q hq => k q _ hq (Same.new hq) upd_same
theorem fits_sub {h : Int} {l l' : List Stp} (hl : fitsS h l) (hs : ∀ s ∈ l', s ∈ l) : fitsS h l' := fun b n hm => hl b n (hs _ hm)
theorem mem_cut {α : Type} {l : List α} {a b : Nat} {s : α} (h : s ∈ (l.drop a).take b) : s ∈ l := List.mem_of_mem_drop (List.mem_of_mem_take h)
theorem fits_app {h : Int} {l m : List Stp} (hl : fitsS h l) (hm : fitsS h m) : fitsS h (l ++ m) := fun b n hx => by
  rcases List.mem_append.mp hx with z | z
  · exact hl b n z
  · exact hm b n z
end
end Ch
namespace Ch
open PySem PySem.Spec PyProof.Rows L2
theorem nws {H H' : Hp} {p : Addr} {o : HO} (h : upd H p o = H') (hp : H p = none) : Same H H' ∧ H' p = some o := by
  subst h
  exact ⟨Same.new hp, upd_same⟩
end Ch
namespace Ch
open PySem PySem.Spec PyProof.Rows L2 ChM
theorem StepsAt.put {H : Hp} {p : Addr} {vs : List V} {l : List Stp} (s : Stp) (h : H p = some (.tup (stepV s))) (t : StepsAt H vs l) : StepsAt H (.ref p :: vs) (s :: l) := .cons ⟨p, rfl, h⟩ t
end Ch
/-! ### ways that meet -/
namespace Ch
open PySem PySem.Spec PyProof.Rows L2
section
variable {σ : L2.St} {H : Hp} {D : Ends} {t : TT} {t1 t2 : TS} {b : Bool}
/-- if: what is known of everything behind it -/
theorem x_ifM (R : L2.St → Hp → Prop) (hT : b = true → ∀ N : L2.St → Hp → Prop, (∀ σ' H', R σ' H' → N σ' H') → t1 { D with nx := N } σ H) (hF : b = false → ∀ N : L2.St → Hp → Prop, (∀ σ' H', R σ' H' → N σ' H') → t2 { D with nx := N } σ H) (h1 : ∀ σ' H', R σ' H' → D.nx σ' H') :
    if b = true then t1 D σ H else t2 D σ H := by
  cases b with
  | true => exact hT rfl _ h1
  | false => exact hF rfl _ h1
theorem x_ifMd {c : Prop} [Decidable c] (R : L2.St → Hp → Prop) (hT : c → ∀ N : L2.St → Hp → Prop, (∀ σ' H', R σ' H' → N σ' H') → t1 { D with nx := N } σ H) (hF : ¬ c → ∀ N : L2.St → Hp → Prop, (∀ σ' H', R σ' H' → N σ' H') → t2 { D with nx := N } σ H) (h1 : ∀ σ' H', R σ' H' → D.nx σ' H') :
    if decide c = true then t1 D σ H else t2 D σ H := x_ifM R (fun e => hT (of_decide_eq_true e)) (fun e => hF (of_decide_eq_false e)) h1
/-- an if that is passed by -/
theorem x_skip (R : Hp → Prop) (hf : ∀ QT : Bool → Hp → Prop, (∀ H', R H' → QT false H') → t σ H QT) (h1 : ∀ H', R H' → t2 D σ H') : tIfS t t1 t2 D σ H := hf _ fun H' r => h1 H' r
end
end Ch
namespace Ch
open PySem PySem.Spec PyProof.Rows L2
/-- c or e, true in any way -/
theorem x_orK {c : Prop} [Decidable c] {tb : TE} {σ : L2.St} {H : Hp} {k : VK} (hF : ¬ c → ∀ Q' : VK, Q' (.bl true) H → tb σ H Q') (h : k (.bl true) H) : if decide c = true then k (.bl true) H else tb σ H k := by
  by_cases e : c
  · rw [decide_eq_true e]
    exact h
  · rw [decide_eq_false e]
    exact hF e _ h
theorem x_aug {i : Nat} {te : TE} {ti : TIp} {D : Ends} {σ : L2.St} {H : Hp} {v : V} (h : σ[i]? = some (some v)) (k : te σ H fun y H1 => ti v y H1 fun z H2 => D.nx (σ.set i (some z)) H2) : tAug i te ti D σ H := ⟨v, h, k⟩
theorem x_ipI {f : Int → Int → Int} {i j : Int} {H : Hp} {Q : VK} (k : Q (.int (f i j)) H) : ipI f (.int i) (.int j) H Q := ⟨i, j, rfl, rfl, k⟩
end Ch

set_option Elab.async false
set_option linter.all false
set_option autoImplicit false
set_option maxRecDepth 100000
set_option maxHeartbeats 4000000
/-! ### max of a tuple of ints -/
namespace Ch
open PySem PySem.Spec PyProof.Rows L2
section
variable {prog : Program} {w : World} {A : Around} {E : Value → Shared → Prop} {s : Shared}
theorem max_intTup {l : Addr} {xs : Array (Int × Tok)} {Q : Value → Shared → Prop} (hh : A.handled = none) (hl : s.heap.IsTuple l (intItems xs)) (hne : 0 < xs.size)
    (h : ∀ v h' tk, (intItems xs)[argBest (fun i j => decide (numAt xs i > numAt xs j)) (xs.size - 1)]? = some v → (∀ b o, s.heap.get? b = some o → h'.get? b = some o) → Q v { s with heap := h', toks := tk }) :
    wpAny (model prog w) A (call (.builtin "max") [.ref l]) Q E s := by
  have hlt : l < s.heap.objs.size := by
    obtain ⟨o, ho, _⟩ := hl
    exact Heap.lt_size ho
  refine call_max_walk (wpAny_pyIter_tuple hl ?_)
  refine ⟨_, [_, l], [_], _, _, _, _, rfl, Walks.tuple (A := A.in1) hh _ l (Nat.ne_of_lt hlt) (intItems xs),
    ⟨⟨_, Heap.get?_push_size _ rfl, rfl, rfl⟩, hl.push _⟩, fun c hc => ?_, by simpa [intItems] using hne, CmpOf.ints_gt (numAt xs) (fun _ _ => intItems_at), fun v h' tk hP hk => ?_⟩
  · show c < (s.heap.push _).objs.size
    rw [Heap.size_push]
    rcases List.mem_cons.mp hc with rfl | hc
    · exact Nat.lt_succ_self _
    · rcases List.mem_cons.mp hc with rfl | hc
      · exact Nat.lt_succ_of_lt hlt
      · cases hc
  · refine h v h' tk (by simpa [intItems] using hP) fun b o e => hk b o (fun hm => ?_) (Heap.get?_push_of_some _ e)
    rcases List.mem_cons.mp hm with e1 | hm
    · exact absurd (e1 ▸ Heap.lt_size e) (Nat.lt_irrefl _)
    · cases hm
theorem maxT_raw {l : Addr} {its : List Value} {ns : List Int} {Q : Value → Shared → Prop} (hh : A.handled = none) (hl : s.heap.IsTuple l its.toArray) (hi : IntsAre its ns) (hne : 0 < ns.length)
    (h : ∀ h' tk M t', (∀ b o, s.heap.get? b = some o → h'.get? b = some o) → M ∈ ns → (∀ a, a ∈ ns → a ≤ M) → Q (.int M t') { s with heap := h', toks := tk }) : wpAny (model prog w) A (call (.builtin "max") [.ref l]) Q E s := by
  obtain ⟨xs, e⟩ := hi.allInts.items
  have hn : numsOf (intItems xs).toList = ns := by rw [← e]; exact hi.numsOf
  rw [nums_intItems] at hn
  subst hn
  rw [e] at hl
  have hsz : 0 < xs.size := by simpa using hne
  refine max_intTup hh hl hsz fun v h' tk hv hk => ?_
  obtain ⟨t, rfl⟩ := intItems_at hv
  obtain ⟨h1, h2⟩ := argBest_gt (numAt xs) (xs.size - 1)
  refine h h' tk _ t hk ?_ fun a ha => ?_
  · rw [numAt_eq]; exact PySem.getD_mem (by rw [List.length_map, Array.length_toList]; omega)
  · obtain ⟨j, hj, rfl⟩ := mem_getD ha
    rw [List.length_map, Array.length_toList] at hj
    rw [← numAt_eq]; exact h2 j (by omega)
end
def rMaxT (K : PySem.W.Frag) : List V → Hp → VK → Prop := fun vs H Q => ∃ (a : Addr) (ns : List Int), vs = [V.ref a] ∧ SqT K H a (ns.map V.int) ∧ 0 < ns.length ∧ ∀ m, m ∈ ns → (∀ y, y ∈ ns → y ≤ m) → Q (.int m) H
theorem cr_maxT {X : Cx} (hc : X.calm = true) : CallR X (.builtin "max") (rMaxT X.K) := by
  intro pins s σ H vs us Q I r h
  obtain ⟨a, ns, rfl, hs, hne, q⟩ := h
  obtain ⟨its, rv, hl, _⟩ := I.tuple hs
  rw [Vals.ref1 r]
  exact maxT_raw (I.ok.hd hc) hl rv.ints hne fun h' tk m t' hk h1 h2 => ⟨.int _, H, I.kept hk, ⟨_, rfl⟩, q m h1 h2⟩
theorem c_maxTK {X : Cx} (K : PySem.W.Frag) (hc : X.calm = true) (hK : X.K = K := by rfl) : CallR X (.builtin "max") (rMaxT K) := by subst hK; exact cr_maxT hc
theorem x_maxT {H : Hp} {Q : VK} {K : PySem.W.Frag} {p : Addr} {ns : List Int} (h : SqT K H p (ns.map V.int)) (h0 : 0 < ns.length) (k : ∀ m, m ∈ ns → (∀ y ∈ ns, y ≤ m) → Q (.int m) H) : rMaxT K [.ref p] H Q := ⟨p, ns, rfl, h, h0, k⟩
end Ch
/-! ### xs[i] op= e -/
namespace Ch
open PySem PySem.Spec PyProof.Rows L2
def rGetL (K : PySem.W.Frag) : V → V → Hp → VK → Prop := fun x y H Q => ∃ p xs i v, x = .ref p ∧ y = .int i ∧ SqL K H p xs ∧ 0 ≤ i ∧ atI xs i = some v ∧ Q v H
theorem get_list {X : Cx} : PGet X (rGetL X.K) := by
  intro pins s σ H x y v u Q I rx ry h
  obtain ⟨p, xs, i, z, rfl, rfl, hq, h0, he, q⟩ := h
  cases rx
  obtain ⟨t, rfl⟩ := ry
  obtain ⟨its, r, pl, hz⟩ := I.list hq
  obtain ⟨j, h1, h2, h3, h4, h5⟩ := atI_get he
  obtain ⟨w, ew, rw'⟩ := r.get h2
  have hl := r.length
  have hn := line63
  have hj : i.toNat = j := by
    rw [seqIndex_of h0 h5] at h1
    exact Option.some.inj h1
  exact wpAny_getItem_list pl.isList h0 (by omega) (by rw [hj]; simpa using ew) ⟨z, H, I, rw', q⟩
theorem get_listK {X : Cx} (K : PySem.W.Frag) (hK : X.K = K := by rfl) : PGet X (rGetL K) := by subst hK; exact get_list
section
variable {σ : L2.St} {H : Hp} {D : Ends} {K : PySem.W.Frag} {p : Addr} {xs : List V} {i : Int} {v : V} {Q : VK}
theorem x_augS {to ti te : TE} {tget : V → V → Hp → VK → Prop} {tip : TIp} {tset : TSet} (k : to σ H fun o H1 => ti σ H1 fun i H2 => tget o i H2 fun x H3 => te σ H3 fun y H4 => tip x y H4 fun z H5 => tset o i z H5 fun H6 => D.nx σ H6) : tAugS to ti te tget tip tset D σ H := k
theorem x_getL (h : SqL K H p xs) (h0 : 0 ≤ i) (e : atI xs i = some v) (k : Q v H) : rGetL K (.ref p) (.int i) H Q := ⟨p, xs, i, v, rfl, rfl, h, h0, e, k⟩
end
end Ch
/-! ### cls(*e), cls a local name -/
namespace Ch
open PySem PySem.Spec PyProof.Rows L2
def tMkV (i : Nat) (C : Addr) (sp : Sp) (E : XK) (t : TA) : TE := fun σ H Q => σ[i]? = some (some (.ref C)) ∧ tMk C sp E t σ H Q
theorem pe_mkSV {X : Cx} {CX : CXT} {k i : Nat} {f C : Addr} {sp : Sp} {E : XK} {x : Str} {np pos sp_ : Pos} {e : Expr} {ta : TE} (M : Mk X.K C f) (F : FnR X.prog X.w X.K X.mg X.base CX k f sp) (hr : Room (k + 1) X.A) (hx : Passes CX X E) (hN : X.N[i]? = some x) (hv : Vis X.env.scope x) (he : PE X e ta)
    (hd : (x == ("__debug__" : Str)) = false := by decide) (hcd : (x == ("__classdict__" : Str)) = false := by decide)
    (hst : starEach [.Starred e sp_] X.env = [(true, eval e X.env)] := by rfl) : PE X (.Call (.Name x np) [.Starred e sp_] [] pos) (tMkV i C sp E (tStarA X.K ta)) := by
  refine ⟨fun pins s σ H Q I h => ?_⟩
  obtain ⟨hs, h⟩ := h
  refine wpAny_Call_Name_kw (thn ((pe_var (pos := np) (i := i) hN hv hd hcd).run pins s σ H (fun v H1 => v = .ref C ∧ H1 = H) I ⟨.ref C, hs, rfl, rfl⟩) fun u s1 ⟨v, H1, I1, r1, ev, eH⟩ => ?_)
  subst ev
  rw [eH] at I1
  cases r1
  refine PySem.W.callWith_S (h₀ := X.base) I1.ok.mod.kin M.kp (thn (he.run pins s1 σ H _ I1 h) fun v s1 ⟨y, H1, I1, ry, a, xs, ey, hxs, q⟩ => ?_) hst
  subst ey
  obtain rfl : v = Value.ref a := ry
  exact StX.star_any I1 hxs fun us s2 I2 rv => ⟨I2.kIn, StX.run_makeR M F hr hx I2 rv q⟩
end Ch

set_option Elab.async false
set_option linter.all false
set_option autoImplicit false
set_option maxRecDepth 100000
set_option maxHeartbeats 4000000
/-! ### tuples and lists of the same plain values -/
namespace Ch
open PySem PySem.Spec PyProof.Rows L2 ChM
def pdV : V → PyData
  | .bl b => .bool b
  | .int i => .int i
  | .str z => .str z
  | _ => .none
def plV : V → Bool
  | .non => true
  | .bl _ => true
  | .int _ => true
  | .str z => PyData.strOk z
  | _ => false
theorem pdV_dp {K : PySem.W.Frag} {H : Hp} {v : V} (h : plV v = true) : Dp K H v (pdV v) := by
  cases v <;> first | exact .non | exact .bl _ | exact .int _ | exact .str _ | exact nomatch (show false = true from h)
theorem pdV_lay {v : V} (h : plV v = true) (n : Nat) : Lay n (pdV v) := by
  cases v <;> first | exact lay_none n | exact lay_bool n _ | exact lay_int n _ | exact lay_str n _ h | exact nomatch (show false = true from h)
theorem pdV_all {K : PySem.W.Frag} {H : Hp} : ∀ {vs : List V}, vs.all plV = true → DpAll K H vs (vs.map pdV)
  | [], _ => .nil
  | v :: vs, h => by
    rw [List.all_cons, Bool.and_eq_true] at h
    exact .cons (pdV_dp h.1) (pdV_all h.2)
theorem pdV_lays {vs : List V} (h : vs.all plV = true) : ∀ d ∈ vs.map pdV, Lay 0 d := fun d hd => by
  obtain ⟨v, hv, rfl⟩ := List.mem_map.mp hd
  exact pdV_lay (List.all_eq_true.mp h v hv) 0
theorem goalV_pl (g : Option Int) : plV (goalV g) = true := by cases g <;> rfl
section
variable {H : Hp} {Q : VK} {K : PySem.W.Frag} {p q : Addr} {vs : List V}
theorem x_neSame (h1 : SqT K H p vs) (h2 : SqT K H q vs) (hv : vs.all plV = true) (k : Q (.bl false) H) : rNeU K (.ref p) (.ref q) H Q := by
  have l := lay_tup (pdV_lays hv)
  refine x_neDp (.tup h1 (pdV_all hv)) (.tup h2 (pdV_all hv)) l.shaped l.shaped ?_
  rw [PySem.SeqAt.eqv_refl _ l.1]
  exact k
theorem x_neSameL (h1 : SqL K H p vs) (h2 : SqL K H q vs) (hv : vs.all plV = true) (k : Q (.bl false) H) : rNeU K (.ref p) (.ref q) H Q := by
  have l := lay_list (pdV_lays hv)
  refine x_neDp (.lst h1 (pdV_all hv)) (.lst h2 (pdV_all hv)) l.shaped l.shaped ?_
  rw [PySem.SeqAt.eqv_refl _ l.1]
  exact k
end
theorem x_cmeth {σ : L2.St} {H : Hp} {Q : VK} {C : Addr} {sp : Sp} {E : XK} {t : TA} (k : t σ H fun vs H1 => sp (.ref C :: vs) H1 Q E) : ClX.tCMeth C sp E (tC (.ref C)) t σ H Q := ⟨rfl, k⟩
/-- c and u, false in any way -/
theorem x_andM {b : Bool} {u : TT} {σ : L2.St} {H : Hp} {QT : Bool → Hp → Prop} (R : Hp → Prop) (hT : b = true → ∀ QT' : Bool → Hp → Prop, (∀ H', R H' → QT' false H') → u σ H QT') (hF : b = false → R H) (h1 : ∀ H', R H' → QT false H') :
    if b = true then u σ H QT else QT false H := by
  cases b with
  | true => exact hT rfl _ h1
  | false => exact h1 _ (hF rfl)
theorem x_andMd {c : Prop} [Decidable c] {u : TT} {σ : L2.St} {H : Hp} {QT : Bool → Hp → Prop} (R : Hp → Prop) (hT : c → ∀ QT' : Bool → Hp → Prop, (∀ H', R H' → QT' false H') → u σ H QT') (hF : ¬ c → R H) (h1 : ∀ H', R H' → QT false H') :
    if decide c = true then u σ H QT else QT false H := x_andM R (fun e => hT (of_decide_eq_true e)) (fun e => hF (of_decide_eq_false e)) h1
theorem x_neS {K : PySem.W.Frag} {H : Hp} {Q : VK} {i j : Str} (k : Q (.bl (!decide (i = j))) H) : rNeU K (.str i) (.str j) H Q := .inl ⟨rfl, by rw [show decide (V.str i = V.str j) = decide (i = j) by simp]; exact k⟩
theorem x_notinT {K : PySem.W.Frag} {H : Hp} {Q : VK} {x : V} {p : Addr} {xs : List V} (h : SqT K H p xs) (h1 : flatV x = true) (h2 : xs.all flatV = true) (k : Q (.bl (!inV x xs)) H) : rNotInU K x (.ref p) H Q := .inl ⟨p, xs, rfl, .inr h, h1, h2, k⟩
theorem x_notinL {K : PySem.W.Frag} {H : Hp} {Q : VK} {x : V} {p : Addr} {xs : List V} (h : SqL K H p xs) (h1 : flatV x = true) (h2 : xs.all flatV = true) (k : Q (.bl (!inV x xs)) H) : rNotInU K x (.ref p) H Q := .inl ⟨p, xs, rfl, .inl h, h1, h2, k⟩
/-- lists of the same tuples -/
theorem dp_rep {K : PySem.W.Frag} {H : Hp} {d : PyData} : ∀ {xs : List V}, (∀ x ∈ xs, Dp K H x d) → DpAll K H xs (List.replicate xs.length d)
  | [], _ => .nil
  | x :: xs, h => .cons (h x List.mem_cons_self) (dp_rep fun y hy => h y (List.mem_cons_of_mem _ hy))
theorem x_neTups {K : PySem.W.Frag} {H : Hp} {Q : VK} {p q : Addr} {xs ys vs : List V} (h1 : SqL K H p xs) (h2 : SqL K H q ys) (hl : xs.length = ys.length) (hx : ∀ x ∈ xs, ∃ a, x = .ref a ∧ H a = some (.tup vs)) (hy : ∀ y ∈ ys, ∃ a, y = .ref a ∧ H a = some (.tup vs)) (hv : vs.all plV = true)
    (k : Q (.bl false) H) : rNeU K (.ref p) (.ref q) H Q := by
  have one : ∀ x : V, (∃ a, x = .ref a ∧ H a = some (.tup vs)) → Dp K H x (.tuple (vs.map pdV)) := fun x ⟨a, e, h⟩ => by
    subst e
    exact .tup (SqT.of h) (pdV_all hv)
  have l : Lay 2 (.list (List.replicate xs.length (.tuple (vs.map pdV)))) := lay_list fun d hd => by
    rw [List.eq_of_mem_replicate hd]
    exact lay_tup (pdV_lays hv)
  refine x_neDp (.lst h1 (dp_rep fun x h => one x (hx x h))) (.lst h2 (by rw [hl]; exact dp_rep fun y h => one y (hy y h))) l.shaped l.shaped ?_
  rw [PySem.SeqAt.eqv_refl _ l.1]
  exact k
end Ch

set_option Elab.async false
set_option linter.all false
set_option autoImplicit false
set_option maxRecDepth 100000
set_option maxHeartbeats 4000000
/-! ### fields as targets of a tuple; objects that are written in place -/
namespace Ch
open PySem PySem.Spec PyProof.Rows L2 ChM
/-- o.f = v, in a row of targets -/
def gFldK (K : PySem.W.Frag) (to : TE) (f : Str) : TG := fun v σ H Q => to σ H fun x H1 => rSet K f v x H1 fun H2 => Q σ H2
theorem pg_fldK {X : Cx} {o : Expr} {f : Str} {to : TE} {pos : Pos} (K : PySem.W.Frag) (ho : PE X o to) (hK : X.K = K := by rfl) : PG X (.Attribute o f pos) (gFldK K to f) := by
  subst hK
  refine ⟨fun pins s σ H v u Q I r h => ?_⟩
  rw [assign_Attribute]
  refine wpAny_bind (wpAny_holding (thn (ho.run pins s σ H _ I h) fun ov s1 ⟨x, H1, I1, r1, a, C, dx, fs, ex, ea, c, n, l, q1⟩ => ?_))
  subst ex
  obtain rfl : ov = Value.ref a := r1
  refine wpAny_bind (wpAny_standAt (wpAny_bind (wpAny_holding (setattr_ok I1 ea c n l r fun s2 I2 => ?_))))
  exact wpAny_release ⟨σ, _, I2, q1⟩
theorem x_gfldK {K : PySem.W.Frag} {to : TE} {f : Str} {v : V} {σ : L2.St} {H : Hp} {Q : L2.St → Hp → Prop} (k : to σ H fun x H1 => rSet K f v x H1 fun H2 => Q σ H2) : gFldK K to f v σ H Q := k
/-- o.f op= e -/
theorem ps_augFK {X : Cx} {o value : Expr} {f : Str} {ta tv : TE} {op : Operator} {rd : V → V → Hp → VK → Prop} {tpos pos : Pos} (K : PySem.W.Frag) (ha : PE X o ta) (hv : PE X value tv) (hop : InOp X op rd) (hK : X.K = K := by rfl) : PS X (.AugAssign (.Attribute o f tpos) op value pos) (sFldAug K ta tv rd f) := by
  subst hK
  exact ps_fldaug ha hv hop
theorem x_augF {K : PySem.W.Frag} {ta tv : TE} {rd : V → V → Hp → VK → Prop} {f : Str} {D : Ends} {σ : L2.St} {H : Hp} {p C dx : Addr} {fs : List (Str × V)} {v : V}
    (h : ta σ H fun x H1 => ∃ a C dx fs v, x = .ref a ∧ H1 a = some (.ins C dx fs) ∧ Cls K C ∧ NoAttr K C f ∧ fs.lookup f = some v ∧ tv σ H1 fun y H2 => rd v y H2 fun z H3 => ∃ dx' fs', H3 a = some (.ins C dx' fs') ∧ fs'.length < 1000 ∧ D.nx σ (upd H3 a (.ins C dx' (putF f z fs')))) : sFldAug K ta tv rd f D σ H := h
theorem cut_to (xs : List V) (i : Nat) (h : i ≤ xs.length) : cutV xs none (some (i : Int)) = xs.take i := by
  unfold cutV
  rw [HT.sIx_none, HT.sIx_nat, List.drop_zero, Nat.sub_zero, Nat.min_eq_left h]
/-- t[:i], not the whole -/
theorem n_slTo {K : PySem.W.Frag} {H : Hp} {Q : VK} {p : Addr} {xs : List V} {i : Nat} (h : SqT K H p xs) (hi : i < xs.length) (k : ∀ q H', H q = none → Same H H' → H' q = some (.tup (xs.take i)) → Q (.ref q) H') : rSlT K (.ref p) none (some (i : Int)) H Q := by
  refine ⟨p, xs, rfl, h, fun z => ?_, fun q hq => ?_⟩
  · have z2 := z.2
    rw [HT.sIx_nat] at z2
    omega
  · rw [cut_to xs i (Nat.le_of_lt hi)]
    exact k q _ hq (Same.new hq) upd_same
/-- all but two objects -/
def Same2 (p q : Addr) (H H' : Hp) : Prop := ∀ b o, b ≠ p → b ≠ q → H b = some o → H' b = some o
theorem Same2.refl (p q : Addr) (H : Hp) : Same2 p q H H := fun _ _ _ _ h => h
theorem Same2.trans {p q : Addr} {H H1 H2 : Hp} (a : Same2 p q H H1) (b : Same2 p q H1 H2) : Same2 p q H H2 := fun c o n m h => b c o n m (a c o n m h)
theorem Same2.of {p q : Addr} {H H' : Hp} (s : Same H H') : Same2 p q H H' := fun c o _ _ h => s c o h
theorem Same2.upd1 {p q : Addr} {H : Hp} {o : HO} : Same2 p q H (upd H p o) := fun b u n _ h => by
  rw [upd_ne n]
  exact h
theorem Same2.upd2 {p q : Addr} {H : Hp} {o : HO} : Same2 p q H (upd H q o) := fun b u _ n h => by
  rw [upd_ne n]
  exact h
/-- a heap that knew neither -/
theorem Same2.base {p q st : Addr} {H0 H H' : Hp} (s : Same2 p q H H') (hp : H0 p = none) (hq : H0 q = none) (b : SameB st H0 H) : SameB st H0 H' := fun a o n e => s a o (ne_of_none e hp) (ne_of_none e hq) (b a o n e)
/-- the draws' state, told by a heap that is kept but for it -/
theorem StAt.base {K : PySem.W.Frag} {H0 H : Hp} {st a : Addr} {ns : List Int} (S0 : StAt K H0 st a ns) (b : SameB st H0 H) {pos m r : Int} (h : H st = some (.lst [.ref a, .int pos, .int m, .int r])) (h0 : 0 ≤ pos) : StAt K H st a ns :=
  ⟨⟨pos, m, r, h, h0⟩, fun H' s => S0.scr H' (b.trans s)⟩
theorem StAt.same2 {K : PySem.W.Frag} {H0 H H' : Hp} {st a p q : Addr} {ns : List Int} (S0 : StAt K H0 st a ns) (b : SameB st H0 H) (S : StAt K H st a ns) (s : Same2 p q H H') (hp : H0 p = none) (hq : H0 q = none) : StAt K H' st a ns := by
  obtain ⟨pos, m, r, h, h0⟩ := S.lst
  exact S0.base (s.base hp hq b) (s _ _ (S0.neN hp).symm (S0.neN hq).symm h) h0
end Ch

set_option Elab.async false
set_option linter.all false
set_option autoImplicit false
set_option maxRecDepth 100000
set_option maxHeartbeats 4000000
/-! ### generators whose consumer holds more than its list: while the generator sleeps, the objects at Cs may change, too -/
namespace G2
open PySem PySem.Spec PyProof.Rows L2 GenW
structure Slept2 (S : Addr) (Cs : List Addr) (v : Value) (s s' : Shared) : Prop where
  os : s'.os = s.os
  bare : AllBare s'.gens
  keep : ∀ b o, b ≠ S → b ∉ Cs → s.heap.get? b = some o → s'.heap.get? b = some o
  own : ∀ acc c, s.heap.get? S = some (lstObj acc c) → ∃ c', s'.heap.get? S = some (lstObj (acc.push v) c')
  oth : ∀ b ∈ Cs, ∃ o, s'.heap.get? b = some o ∧ ∀ v, o.data ≠ .cell v
/-- running: ys is out and stands in the list at S; the objects at Cs are as they were when it was woken (s₀) -/
def GI2 (X : Cx) (S : Addr) (Cs : List Addr) (s₀ : Shared) (ip : List (Addr × Obj)) (ys : List V) (σ : L2.St) (H : Hp) (s : Shared) : Prop :=
  ∃ (acc : Array Value) (c : Nat), Vals ys acc.toList ∧ Inv X ((S, lstObj acc c) :: (pinsAt Cs s₀.heap ++ ip)) σ H s ∧ ∀ b ∈ Cs, ∃ o, s₀.heap.get? b = some o ∧ ∀ v, o.data ≠ .cell v
section
variable {X : Cx} {S : Addr} {Cs : List Addr} {s₀ s s' : Shared} {ip : List (Addr × Obj)} {ys : List V} {σ : L2.St} {H : Hp}
theorem GI2.list (h : GI2 X S Cs s₀ ip ys σ H s) : H S = none ∧ S ≠ X.env.locals ∧ S ∉ X.fs ∧ ∃ (acc : Array Value) (c : Nat), Vals ys acc.toList ∧ s.heap.get? S = some (lstObj acc c) := by
  obtain ⟨acc, c, r, I, _⟩ := h
  obtain ⟨h1, h2, h3, h4, _⟩ := I.pin (S, lstObj acc c) (List.mem_append_right _ List.mem_cons_self)
  exact ⟨h2, h3, h4, acc, c, r, h1⟩
theorem GI2.oth (h : GI2 X S Cs s₀ ip ys σ H s) {b : Addr} (hb : b ∈ Cs) : H b = none ∧ b ≠ X.env.locals ∧ b ∉ X.fs ∧ ∃ o, s₀.heap.get? b = some o ∧ s.heap.get? b = some o ∧ ∀ v, o.data ≠ .cell v := by
  obtain ⟨acc, c, r, I, hC⟩ := h
  obtain ⟨o, e, d⟩ := hC b hb
  obtain ⟨h1, h2, h3, h4, _⟩ := I.pin (b, o) (List.mem_append_right _ (List.mem_cons_of_mem _ (List.mem_append_left _ (mem_pinsAt hb e))))
  exact ⟨h2, h3, h4, o, e, h1, d⟩
theorem GI2.none (h : GI2 X S Cs s₀ ip ys σ H s) {b : Addr} (hb : b ∈ S :: Cs) : H b = none := by
  rcases List.mem_cons.mp hb with z | z
  · rw [z]; exact h.list.1
  · exact (h.oth z).1
theorem GI2.woken {x : V} {v : Value} (hS : S ∉ Cs) (hpn : ∀ p ∈ X.pn, p.1 ∉ S :: Cs) (hip : ∀ p ∈ ip, p.1 ∉ S :: Cs) (hA : ∀ b ∈ S :: Cs, Apart X b) (h : GI2 X S Cs s₀ ip ys σ H s) (rv : RelV x v) (z : Slept2 S Cs v s s') :
    GI2 X S Cs s' ip (ys ++ [x]) σ H s' := by
  have hN := fun b hb => h.none (b := b) hb
  obtain ⟨_, hSL, hSf, _⟩ := h.list
  have hO := fun b hb => h.oth (b := b) hb
  obtain ⟨acc, c, r, I, hC⟩ := h
  have eS : s.heap.get? S = some (lstObj acc c) := (I.pin (S, lstObj acc c) (List.mem_append_right _ List.mem_cons_self)).1
  have I0 : Inv X ip σ H s := I.pins_of fun p hp => I.pin p (List.mem_append_right _ (List.mem_cons_of_mem _ (List.mem_append_right _ hp)))
  have nt : ∀ b u, H b = some u → b ∉ S :: Cs := fun b u q hb => by rw [hN b hb] at q; cases q
  obtain ⟨z1, z2, z3, z4, z5⟩ := z
  obtain ⟨c', eS'⟩ := z4 acc c eS
  obtain ⟨hh, g, d, t, o⟩ := s'
  have ho : o = s.os := z1
  subst ho
  have kp : ∀ b ob, b ∉ S :: Cs → s.heap.get? b = some ob → hh.get? b = some ob := fun b ob hb q => z3 b ob (fun e => hb (by rw [e]; exact List.mem_cons_self)) (fun e => hb (List.mem_cons_of_mem _ e)) q
  have J : Inv X ip σ H { s with heap := hh, gens := g, drawn := d, toks := t } := by
    refine I0.step (g' := g) (t' := t) (d' := d) (ch := S :: Cs) (fun b hb => ?_)
      (fun b ob _ _ hc q _ => kp b ob hc q) (fun b ob _ _ hc q _ => ⟨ob.slots, kp b ob hc q⟩) (fun _ _ _ _ n => n) (fun b ob hc q => ⟨ob, kp b ob hc q⟩)
      (fun _ _ q => q) (fun _ _ _ q => q) (fun b ps q => ⟨#[], by rw [q]; simp⟩) (fun m hm => ?_) (fun b u q => ?_) z2
    · obtain ⟨a1, a2, a3⟩ := hA b hb
      refine ⟨.inr a1, a2, a3, fun p hp e => ?_⟩
      rcases List.mem_append.mp hp with hp | hp
      · exact hpn p hp (by rw [e]; exact hb)
      · exact hip p hp (by rw [e]; exact hb)
    · obtain ⟨ob, es, ep, ho, r⟩ := hm
      refine ⟨ob, es, ep, kp _ ob (fun hb => ?_) ho, r⟩
      exact (hA _ hb).2.1 rfl
    · refine (I0.hok b u q).stay (fun c v hc y => kp c v ?_ y) (fun _ y => y) fun _ _ y => y
      rcases hc with y | y
      · rw [y]; exact nt b u q
      · exact nt c _ y
  refine ⟨acc.push v, c', ?_, J.pins_of fun p hp => ?_, z5⟩
  · rw [Array.toList_push]
    exact r.append (.cons rv .nil)
  · rcases List.mem_cons.mp hp with hp | hp
    · rw [hp]
      exact ⟨eS', hN S List.mem_cons_self, hSL, hSf, fun v q => by cases q⟩
    · rcases List.mem_append.mp hp with hp | hp
      · obtain ⟨hb, e⟩ := of_pinsAt hp
        obtain ⟨o', e', d'⟩ := z5 p.1 hb
        obtain ⟨h1, h2, h3, _⟩ := hO p.1 hb
        have e2 : hh.get? p.1 = some p.2 := e
        have e3 : hh.get? p.1 = some o' := e'
        rw [e2] at e3
        cases e3
        exact ⟨e, h1, h2, h3, d'⟩
      · exact J.pin p (List.mem_append_right _ hp)
end
/-! #### the protocol -/
def GY2 (X : Cx) (S : Addr) (Cs : List Addr) : Protocol := fun n s₀ v s kap =>
  ∃ ys x ip σ H, n + 1 + ys.length = sizeLine ∧ RelV x v ∧ GI2 X S Cs s₀ ip ys σ H s ∧ ∀ s', Slept2 S Cs v s s' → kap (.send .none) s'
def GR2 (X : Cx) (S : Addr) (Cs : List Addr) (Q : List V → VK) (F : Value → Shared → Prop) : GenEnd := fun n s₀ r s => match r with
  | .ok (.ret u) => ∃ ys v ip σ H, n + ys.length = sizeLine ∧ GI2 X S Cs s₀ ip ys σ H s ∧ RelV v u ∧ Q ys v H
  | .ok _ => False
  | .error e => F e s
def GSP2 (X : Cx) (S : Addr) (Cs : List Addr) (s₀ : Shared) (ip : List (Addr × Obj)) (D : GEnds) (ys : List V) (f : Flow) (s : Shared) : Prop :=
  match f with
  | .next => ∃ σ H, GI2 X S Cs s₀ ip ys σ H s ∧ D.nx ys σ H
  | .brk => ∃ σ H, GI2 X S Cs s₀ ip ys σ H s ∧ D.bk ys σ H
  | .cont => ∃ σ H, GI2 X S Cs s₀ ip ys σ H s ∧ D.ct ys σ H
  | .ret u => ∃ v σ H, GI2 X S Cs s₀ ip ys σ H s ∧ RelV v u ∧ D.rt ys v H
structure GC2 (X : Cx) (S : Addr) (Cs : List Addr) (ip : List (Addr × Obj)) (A : Around) (c : Code) (fs : List Frame) (gd : Bool → Bool) : Prop where
  dis : S ∉ Cs
  pn : ∀ p ∈ X.pn, p.1 ∉ S :: Cs
  ip : ∀ p ∈ ip, p.1 ∉ S :: Cs
  apart : ∀ b ∈ S :: Cs, Apart X b
  over : A.over c fs = X.A
  split : splitAtGen fs = none
  guard : fs.any Frame.guarded = false
  gd : gd false = false
structure GK2 (X : Cx) (S : Addr) (Cs : List Addr) (ip : List (Addr × Obj)) (A : Around) (R : GenEnd) (c : Code) (fs : List Frame) (K : Flow → Sem PySem.Fin) (J : Value → Sem PySem.Fin) (D : GEnds) : Prop where
  ok : ∀ (n : Nat) (ys : List V) (s₀ s : Shared) (f : Flow), n + ys.length = sizeLine → GSP2 X S Cs s₀ ip D ys f s → Seg (model X.prog X.w) A R (GY2 X S Cs) n s₀ c (K f) fs s
  exc : ∀ (n : Nat) (s₀ : Shared) (e : Value) (s : Shared), X.xe e s → Seg (model X.prog X.w) A R (GY2 X S Cs) n s₀ c (J e) fs s
structure GS2 (X : Cx) (st : Stmt) (t : TGn) : Prop where
  run : ∀ (A : Around) (S : Addr) (Cs : List Addr) (ip : List (Addr × Obj)) (R : GenEnd) (n : Nat) (ys : List V) (s₀ : Shared) (c : Code) (fs : List Frame) (K : Flow → Sem PySem.Fin) (J : Value → Sem PySem.Fin) (gd : Bool → Bool) (lv : List Value → List Value) (s : Shared) (σ : L2.St) (H : Hp) (D : GEnds),
    GC2 X S Cs ip A c fs gd → n + ys.length = sizeLine → GK2 X S Cs ip A R c fs K J D → GI2 X S Cs s₀ ip ys σ H s → t D ys σ H →
    Seg (model X.prog X.w) A R (GY2 X S Cs) n s₀ c ((exec st X.env).wrap K J gd lv) fs s
structure GSs2 (X : Cx) (st : List Stmt) (t : TGn) : Prop where
  run : ∀ (A : Around) (S : Addr) (Cs : List Addr) (ip : List (Addr × Obj)) (R : GenEnd) (n : Nat) (ys : List V) (s₀ : Shared) (c : Code) (fs : List Frame) (K : Flow → Sem PySem.Fin) (J : Value → Sem PySem.Fin) (gd : Bool → Bool) (lv : List Value → List Value) (s : Shared) (σ : L2.St) (H : Hp) (D : GEnds),
    GC2 X S Cs ip A c fs gd → n + ys.length = sizeLine → GK2 X S Cs ip A R c fs K J D → GI2 X S Cs s₀ ip ys σ H s → t D ys σ H →
    Seg (model X.prog X.w) A R (GY2 X S Cs) n s₀ c ((execs st X.env).wrap K J gd lv) fs s
section
variable {X : Cx} {st : Stmt} {rest : List Stmt}
theorem sp_gsp2 {S : Addr} {Cs : List Addr} {s₀ : Shared} {acc : Array Value} {c : Nat} {ip : List (Addr × Obj)} {s : Shared} {D : GEnds} {ys : List V} {f : Flow} (r : Vals ys acc.toList) (hC : ∀ b ∈ Cs, ∃ o, s₀.heap.get? b = some o ∧ ∀ v, o.data ≠ .cell v)
    (h : SP X ((S, lstObj acc c) :: (pinsAt Cs s₀.heap ++ ip)) (D.at ys) f s) : GSP2 X S Cs s₀ ip D ys f s := by
  cases f with
  | next => obtain ⟨σ, H, I, q⟩ := h; exact ⟨σ, H, ⟨acc, c, r, I, hC⟩, q⟩
  | brk => obtain ⟨σ, H, I, q⟩ := h; exact ⟨σ, H, ⟨acc, c, r, I, hC⟩, q⟩
  | cont => obtain ⟨σ, H, I, q⟩ := h; exact ⟨σ, H, ⟨acc, c, r, I, hC⟩, q⟩
  | ret u => obtain ⟨v, σ, H, I, r1, q⟩ := h; exact ⟨v, σ, H, ⟨acc, c, r, I, hC⟩, r1, q⟩
theorem gs2_ps {t : TS} (h : PS X st t) : GS2 X st (tPlain t) := by
  refine ⟨fun A S Cs ip R n ys s₀ c fs K J gd lv s σ H D g hn k hI ht => ?_⟩
  obtain ⟨acc, cc, r, I, hC⟩ := hI
  refine seg_wrap ?_
  rw [g.over]
  exact wpAny_mono (h.run _ s σ H (D.at ys) I ht) (fun f s' hs => k.ok n ys s₀ s' f hn (sp_gsp2 r hC hs)) fun x s' hx => k.exc n s₀ x s' hx
theorem gss2_pss {t : TS} (h : PSs X rest t) : GSs2 X rest (tPlain t) := by
  refine ⟨fun A S Cs ip R n ys s₀ c fs K J gd lv s σ H D g hn k hI ht => ?_⟩
  obtain ⟨acc, cc, r, I, hC⟩ := hI
  refine seg_wrap ?_
  rw [g.over]
  exact wpAny_mono (h.run _ s σ H (D.at ys) I ht) (fun f s' hs => k.ok n ys s₀ s' f hn (sp_gsp2 r hC hs)) fun x s' hx => k.exc n s₀ x s' hx
theorem gss2_nil : GSs2 X [] tG0 := by
  refine ⟨fun A S Cs ip R n ys s₀ c fs K J gd lv s σ H D g hn k hI ht => ?_⟩
  exact seg_execs_nil (k.ok n ys s₀ s .next hn ⟨σ, H, hI, ht⟩)
theorem gss2_cons {t u : TGn} (a : GS2 X st t) (b : GSs2 X rest u) : GSs2 X (st :: rest) (tGThen t u) := by
  refine ⟨fun A S Cs ip R n ys s₀ c fs K J gd lv s σ H D g hn k hI ht => ?_⟩
  refine seg_execs_cons ?_
  refine a.run A S Cs ip R n ys s₀ c fs _ J gd lv s σ H { D with nx := fun ys' σ' H' => u D ys' σ' H' } g hn ⟨fun n' ys' s₀' s' f hn' hs => ?_, k.exc⟩ hI ht
  cases f with
  | next =>
    obtain ⟨σ', H', I', q⟩ := hs
    exact b.run A S Cs ip R n' ys' s₀' c fs K J gd lv s' σ' H' D g hn' k I' q
  | brk => exact k.ok n' ys' s₀' s' .brk hn' hs
  | cont => exact k.ok n' ys' s₀' s' .cont hn' hs
  | ret u => exact k.ok n' ys' s₀' s' (.ret u) hn' hs
theorem gs2_yield {e : Expr} {yp pos : Pos} {te : TE} (he : PE X e te) (hco : X.env.scope.isCoroutine = false := by rfl) (hi : interactive X.env = false := by rfl) : GS2 X (.Expr (.Yield (some e) yp) pos) (tGYield te) := by
  refine ⟨fun A S Cs ip R n ys s₀ c fs K J gd lv s σ H D g hn k hI ht => ?_⟩
  obtain ⟨hlt, ht⟩ := ht
  obtain ⟨n, rfl⟩ : ∃ m, n = m + 1 := ⟨n - 1, by omega⟩
  obtain ⟨acc, cc, r, I, hC⟩ := hI
  refine seg_Expr_Yield g.split g.gd g.guard ?_ hco hi
  rw [g.over]
  refine wpAny_mono (he.run _ s σ H _ I ht) (fun v s' hv => ?_) fun x s' hx => k.exc _ s₀ x s' hx
  obtain ⟨x, H1, I1, rv, q⟩ := hv
  have G1 : GI2 X S Cs s₀ ip ys σ H1 s' := ⟨acc, cc, r, I1, hC⟩
  intro kap hk
  refine ⟨ys, x, ip, σ, H1, hn, rv, G1, fun s'' z => hk .none s'' ?_⟩
  refine k.ok n (ys ++ [x]) s'' s'' .next ?_ ⟨σ, H1, G1.woken g.dis g.pn g.ip g.apart rv z, q⟩
  rw [List.length_append, List.length_singleton]; omega
end
/-! #### for -/
section
variable {prog : Program} {w : World} {A : Around} {R : GenEnd} {Y : Protocol} {n : Nat} {s₀ : Shared} {c : Code} {fs : List Frame} {s : Shared} {env : Env} {K : Flow → Sem PySem.Fin} {J : Value → Sem PySem.Fin} {gd : Bool → Bool} {lv : List Value → List Value}
abbrev noted (env : Env) (x : Value) : Sem PySem.Fin := (do noteFrame x env; theTreesLotGoes x : Sem Unit).bind fun _ => .raise x
theorem seg_For {target iter : Expr} {body : List Stmt} {pos : Pos}
    (h : wpAny (model prog w) (A.over c fs) (eval iter env) (fun v s1 => wpAny (model prog w) (A.over c fs) (pyIter v) (fun it s2 => ∀ p, Seg (model prog w) A R Y n s₀ (.forLoop target it body [] env) ((model prog w).den (.forLoop target it body [] env))
      (.ret (fun r => ((match r with | .ok f => (.pure f : Sem Flow) | .error e => .raise e).onRaise (cameBack env)).wrap K J gd lv) none (gd false) (lv []) c p [] :: fs) s2)
        (fun x s' => Seg (model prog w) A R Y n s₀ c (J x) fs s') s1) (fun x s' => Seg (model prog w) A R Y n s₀ c (J x) fs s') s)
    (hs : ∀ x, foldedSetIterable iter env x = pure x) :
    Seg (model prog w) A R Y n s₀ c ((exec (.For target iter body [] pos) env).wrap K J gd lv) fs s := by
  rw [exec_For]
  refine seg_bind_wrap (wpAny_standAt ?_)
  refine seg_bind_wrap (wpAny_mono h (fun v s1 h1 => ?_) fun _ _ z => z)
  refine seg_bind_wrap (wpAny_of_eq (hs v) ?_)
  refine seg_bind_wrap (wpAny_standAt ?_)
  refine seg_bind_wrap (wpAny_holding (wpAny_mono h1 (fun it s2 h2 => ?_) fun _ _ z => z))
  exact seg_call h2
theorem seg_forLoop {target : Expr} {it : Value} {body : List Stmt}
    (h : wpAny (model prog w) (A.over (.forLoop target it body [] env) fs) (pyNext it) (fun r s1 => match r with
      | none => Seg (model prog w) A R Y n s₀ (.block [] env) ((model prog w).den (.block [] env)) fs s1
      | some v => wpAny (model prog w) (A.over (.forLoop target it body [] env) fs) (letOwnedTupleGo target it v) (fun _ s2 => wpAny (model prog w) (A.over (.forLoop target it body [] env) fs) (assign target env v) (fun _ s3 =>
          Seg (model prog w) A R Y n s₀ (.forLoop target it body [] env) ((execs body env).wrap (fun f => match f with
            | .next | .cont => .pure (.again (.forLoop target it body [] env))
            | .brk => .pure (.done .next)
            | .ret v => .pure (.done (.ret v))) (noted env) id id) fs s3)
          (fun x s' => Seg (model prog w) A R Y n s₀ (.forLoop target it body [] env) (noted env x) fs s') s2) (fun x s' => Seg (model prog w) A R Y n s₀ (.forLoop target it body [] env) (noted env x) fs s') s1)
      (fun x s' => Seg (model prog w) A R Y n s₀ (.forLoop target it body [] env) (noted env x) fs s') s) :
    Seg (model prog w) A R Y n s₀ (.forLoop target it body [] env) ((model prog w).den (.forLoop target it body [] env)) fs s := by
  show Seg _ A R Y n s₀ _ ((forTurn target it body [] env).onRaise (fun x => do noteFrame x env; theTreesLotGoes x)) fs s
  unfold forTurn
  rw [Sem.onRaise_eq_wrap]
  refine seg_bind_wrap (wpAny_standAt ?_)
  refine seg_bind_wrap (wpAny_onRaise (wpAny_mono h (fun r s1 h1 => ?_) fun _ _ h' => wpAny_standAt h'))
  cases r with
  | none => exact seg_again rfl h1
  | some v =>
    refine seg_bind_wrap (wpAny_mono h1 (fun _ s2 h2 => ?_) fun _ _ z => z)
    refine seg_bind_wrap (wpAny_mono h2 (fun _ s3 h3 => ?_) fun _ _ z => z)
    rw [Sem.bind_eq_wrap', Sem.wrap_wrap]
    rw [Sem.wrap_congr (execs body env) _ _ (K' := fun f => match f with
            | .next | .cont => .pure (.again (.forLoop target it body [] env))
            | .brk => .pure (.done .next)
            | .ret v => .pure (.done (.ret v))) (H' := noted env) (fun f => by cases f <;> rfl) (fun e => by first | rfl | exact Sem.bind_eq_wrap _ _)]
    exact h3
end
end G2

set_option Elab.async false
set_option linter.all false
set_option autoImplicit false
set_option maxRecDepth 100000
set_option maxHeartbeats 4000000
namespace G2
open PySem PySem.Spec PyProof.Rows L2 GenW
/-- for, around yields -/
def tGFor (wi : TI) (g : TG) (tb : TGn) : TGn := fun D ys σ H => wi σ H fun J H1 => ∃ W : Nat → Nat → List V → L2.St → Hp → Prop, (∃ m, W 0 m ys σ H1) ∧ ∀ i m ys σ H, W i m ys σ H →
  (J.stop i H ∧ D.nx ys σ H) ∨ (J.go i H ∧ ∃ N : List V → L2.St → Hp → Prop, (∀ ys' σ' H', N ys' σ' H' → ∃ m', m' < m ∧ W (i + 1) m' ys' σ' H') ∧ ∀ x H', J.yld i H x H' → g x σ H' fun σ2 H2 => tb { D with nx := N, ct := N, bk := D.nx } ys σ2 H2)
section
variable {X : Cx}
theorem gc_loop2 {S : Addr} {Cs : List Addr} {ip ip' : List (Addr × Obj)} {A : Around} {c c' : Code} {fs : List Frame} {gd : Bool → Bool} {k : Result → Sem PySem.Fin} {l kp : List Value} {p : Pos} (g : GC2 X S Cs ip A c fs gd) (hip : ∀ p ∈ ip', p.1 ∉ S :: Cs) (hw : c'.weight = 0) (hu : c'.cUnits = 0) :
    GC2 X S Cs ip' A c' (.ret k none (gd false) l c p kp :: fs) id where
  dis := g.dis
  pn := g.pn
  ip := hip
  apart := g.apart
  over := (over_loop hw hu).trans g.over
  split := by
    show (splitAtGen fs).map _ = none
    rw [g.split]; rfl
  guard := by
    show (gd false || fs.any Frame.guarded) = false
    rw [g.gd, g.guard]; rfl
  gd := rfl
theorem seg_back {S : Addr} {Cs : List Addr} {ip : List (Addr × Obj)} {A : Around} {R : GenEnd} {c : Code} {fs : List Frame} {K : Flow → Sem PySem.Fin} {J : Value → Sem PySem.Fin} {gd : Bool → Bool} {lv : List Value → List Value} {D : GEnds} {n : Nat} {s₀ s : Shared} {e : Value}
    (g : GC2 X S Cs ip A c fs gd) (k : GK2 X S Cs ip A R c fs K J D) (h : cameBackBy (model X.prog X.w) X.A X.env X.xe e s) :
    Seg (model X.prog X.w) A R (GY2 X S Cs) n s₀ c (((Sem.raise e : Sem Flow).onRaise (cameBack X.env)).wrap K J gd lv) fs s := by
  show Seg _ _ _ _ _ _ _ (((cameBack X.env e).bind fun _ => (Sem.raise e : Sem Flow)).wrap K J gd lv) _ _
  rw [Sem.bind_eq_wrap, Sem.wrap_wrap]
  refine seg_wrap ?_
  rw [g.over]
  exact wpAny_mono h (fun _ s' hx => k.exc n s₀ e s' hx) fun x s' hx => k.exc n s₀ x s' hx
theorem gs2_for {tg iter : Expr} {body : List Stmt} {wi : TI} {g : TG} {tb : TGn} {pos : Pos} (hp : PassesOwn (model X.prog X.w) X.A X.env X.xe) (hc : X.calm = true) (hi : PI X tg iter wi) (hg : PG X tg g) (hb : GSs2 X body tb)
    (hs : ∀ x, foldedSetIterable iter X.env x = pure x := by intro _; rfl) : GS2 X (.For tg iter body [] pos) (tGFor wi g tb) := by
  refine ⟨fun A S Cs ip R n ys s₀ c fs K J gd lv s σ H D gc hn k hI h => ?_⟩
  obtain ⟨acc0, cc0, r0, I, hC0⟩ := hI
  refine seg_For ?_ hs
  rw [gc.over]
  refine wpAny_mono (hi.run _ s σ H _ I h) (fun v s1 h1 => wpAny_mono h1 (fun itv s2 h2 p => ?_) fun x s' hx => k.exc n s₀ x s' hx) fun x s' hx => k.exc n s₀ x s' hx
  obtain ⟨it, fp, tn, J', H2, e, I2, T, st2, f2, W, ⟨m0, w0⟩, turn⟩ := h2
  subst e
  -- the iterator's own objects are none of the consumer's
  have fS : ∀ b ∈ fp, b ∉ S :: Cs := fun b hb z => by
    obtain ⟨_, _, _, _, _, f6⟩ := f2 b hb
    rcases List.mem_cons.mp z with z | z
    · exact f6 (S, lstObj acc0 cc0) (List.mem_append_right _ List.mem_cons_self) z.symm
    · obtain ⟨o, e, _⟩ := hC0 b z
      exact f6 (b, o) (List.mem_append_right _ (List.mem_cons_of_mem _ (List.mem_append_left _ (mem_pinsAt z e)))) rfl
  have fI : ∀ b ∈ fp, ∀ p ∈ X.pn ++ ip, p.1 ≠ b := fun b hb p hp => by
    obtain ⟨_, _, _, _, _, f6⟩ := f2 b hb
    rcases List.mem_append.mp hp with z | z
    · exact f6 p (List.mem_append_left _ z)
    · exact f6 p (List.mem_append_right _ (List.mem_cons_of_mem _ (List.mem_append_right _ z)))
  have stat : ∀ {acc : Array Value} {cc : Nat} {s₀ : Shared} {H' : Hp}, (∀ b ∈ fp, H' b = none) → ∀ b ∈ fp, FpOk X ((S, lstObj acc cc) :: (pinsAt Cs s₀.heap ++ ip)) H' b := fun {acc cc s₀ H'} hn b hb => by
    obtain ⟨_, f2', f3, f4, f5, _⟩ := f2 b hb
    refine ⟨hn b hb, f2', f3, f4, f5, fun p hp z => ?_⟩
    rcases List.mem_append.mp hp with y | y
    · exact fI b hb p (List.mem_append_left _ y) z
    · rcases List.mem_cons.mp y with y | y
      · rw [y] at z
        exact fS b hb (by rw [← z]; exact List.mem_cons_self)
      · rcases List.mem_append.mp y with y | y
        · exact fS b hb (by rw [← z]; exact List.mem_cons_of_mem _ (of_pinsAt y).1)
        · exact fI b hb p (List.mem_append_right _ y) z
  have gl := fun (kk : Result → Sem PySem.Fin) (ip' : List (Addr × Obj)) (hip : ∀ p ∈ ip', p.1 ∉ S :: Cs) => gc_loop2 (k := kk) (c' := .forLoop tg (.ref it) body [] X.env) (l := lv []) (kp := []) (p := p) gc hip rfl rfl
  have loop : ∀ (m i n : Nat) (ys : List V) (s₀ s : Shared) (σ : L2.St) (H : Hp), n + ys.length = sizeLine → W i m ys σ H → GI2 X S Cs s₀ ip ys σ H s → tn i s.heap → (∀ b ∈ fp, H b = none) →
      Seg (model X.prog X.w) A R (GY2 X S Cs) n s₀ (.forLoop tg (.ref it) body [] X.env) ((model X.prog X.w).den (.forLoop tg (.ref it) body [] X.env))
        (.ret (fun r => ((match r with | .ok f => (.pure f : Sem Flow) | .error e => .raise e).onRaise (cameBack X.env)).wrap K J gd lv) none (gd false) (lv []) c p [] :: fs) s := by
    intro m
    induction m using Nat.strongRecOn with
    | ind m ih =>
      intro i n ys s₀ s σ H hn w hI st fr
      have ee : ∀ (n : Nat) (s₀ : Shared) (x : Value) (s' : Shared), X.xe x s' → Seg (model X.prog X.w) A R (GY2 X S Cs) n s₀ (.forLoop tg (.ref it) body [] X.env) (noted X.env x)
          (.ret (fun r => ((match r with | .ok f => (.pure f : Sem Flow) | .error e => .raise e).onRaise (cameBack X.env)).wrap K J gd lv) none (gd false) (lv []) c p [] :: fs) s' := fun n s₀ x s' hx => by
        unfold noted
        rw [Sem.bind_eq_wrap]
        refine seg_wrap ?_
        rw [(gl _ ip gc.ip).over]
        refine wpAny_bind (wpAny_mono (hp x s' hx) (fun _ s'' hcb => wpAny_theTreesLotGoes ?_) fun y s'' hcb => ?_)
        · exact seg_leaf (.error x) (seg_back gc k hcb)
        · exact seg_leaf (.error y) (seg_back gc k hcb)
      obtain ⟨acc, cc, r, I, hC⟩ := hI
      refine seg_forLoop ?_
      rw [(gl _ ip gc.ip).over]
      rcases turn i m ys σ H w with ⟨stop, qn⟩ | ⟨go, N, hN, step⟩
      · refine wpAny_mono (T.done X rfl rfl rfl hc i _ s σ H (fun _ _ => False) I (stat fr) st stop) (fun rr s1 ⟨hr, I1⟩ => ?_) fun _ _ z => z.elim
        subst hr
        exact seg_leaf (.ok .next) (k.ok n ys s₀ s1 .next hn ⟨σ, H, ⟨acc, cc, r, I1, hC⟩, qn⟩)
      · refine wpAny_mono (T.item X rfl rfl rfl hc i _ s σ H (fun _ _ => False) I (stat fr) st go) (fun rr s4 ⟨u, hr, h4⟩ => ?_) fun _ _ z => z.elim
        subst hr
        refine wpAny_mono h4 (fun _ s5 ⟨x, H5, I5, r5, y5, st5, fr5⟩ => ?_) fun _ _ z => z.elim
        have I5' := I5.pinned (stat fr5) (T.obj _ _ st5)
        refine wpAny_mono (hg.run _ s5 σ H5 x u _ I5' r5 (step x H5 y5)) (fun _ s6 ⟨σ6, H6, I6, q6⟩ => ?_) fun x s' hx => ee n s₀ x s' hx
        have ipn : ∀ p ∈ ip ++ pinsAt fp s5.heap, p.1 ∉ S :: Cs := fun p hp => (List.mem_append.mp hp).elim (gc.ip p) fun z => fS p.1 (of_pinsAt z).1
        have I6' : Inv X ((S, lstObj acc cc) :: (pinsAt Cs s₀.heap ++ (ip ++ pinsAt fp s5.heap))) σ6 H6 s6 := by
          rw [← List.append_assoc, ← List.cons_append]
          exact I6
        have less : ∀ {s₀' s7 : Shared} {ys' : List V} {σ7 : L2.St} {H7 : Hp}, GI2 X S Cs s₀' (ip ++ pinsAt fp s5.heap) ys' σ7 H7 s7 → GI2 X S Cs s₀' ip ys' σ7 H7 s7 ∧ tn (i + 1) s7.heap ∧ ∀ b ∈ fp, H7 b = none := fun {s₀' s7 ys' σ7 H7} ⟨a7, c7, r7, I7, hC7⟩ => by
          have pf : ∀ b ∈ fp, ∀ o, s5.heap.get? b = some o → s7.heap.get? b = some o ∧ H7 b = none := fun b hb o e => by
            have z := I7.pin (b, o) (List.mem_append_right _ (List.mem_cons_of_mem _ (List.mem_append_right _ (List.mem_append_right _ (mem_pinsAt hb e)))))
            exact ⟨z.1, z.2.1⟩
          refine ⟨⟨a7, c7, r7, I7.pins_of fun p hp => I7.pin p (List.mem_append_right _ ?_), hC7⟩, T.keep _ _ _ st5 fun b hb o e => (pf b hb o e).1, fun b hb => ?_⟩
          · rcases List.mem_cons.mp hp with z | z
            · rw [z]; exact List.mem_cons_self
            · rcases List.mem_append.mp z with z | z
              · exact List.mem_cons_of_mem _ (List.mem_append_left _ z)
              · exact List.mem_cons_of_mem _ (List.mem_append_right _ (List.mem_append_left _ z))
          · obtain ⟨o, e, _⟩ := T.obj _ _ st5 b hb
            exact (pf b hb o e).2
        refine hb.run A S Cs (ip ++ pinsAt fp s5.heap) R n ys s₀ _ _ _ _ id id s6 σ6 H6 { D with nx := N, ct := N, bk := D.nx } (gl _ _ ipn) hn ⟨fun n' ys' s₀' s3 f hn' hs' => ?_, fun n' s₀' x s3 hx => ee n' s₀' x s3 hx⟩ ⟨acc, cc, r, I6', hC⟩ q6
        cases f with
        | next =>
          obtain ⟨σ3, H3, I3, n3⟩ := hs'
          obtain ⟨m', hm, w3⟩ := hN ys' σ3 H3 n3
          obtain ⟨i1, i2, i3⟩ := less I3
          exact seg_again rfl (ih m' hm (i + 1) n' ys' s₀' s3 σ3 H3 hn' w3 i1 i2 i3)
        | cont =>
          obtain ⟨σ3, H3, I3, n3⟩ := hs'
          obtain ⟨m', hm, w3⟩ := hN ys' σ3 H3 n3
          obtain ⟨i1, i2, i3⟩ := less I3
          exact seg_again rfl (ih m' hm (i + 1) n' ys' s₀' s3 σ3 H3 hn' w3 i1 i2 i3)
        | brk =>
          obtain ⟨σ3, H3, I3, n3⟩ := hs'
          exact seg_leaf (.ok .next) (k.ok n' ys' s₀' s3 .next hn' ⟨σ3, H3, (less I3).1, n3⟩)
        | ret v =>
          obtain ⟨v3, σ3, H3, I3, r3, n3⟩ := hs'
          exact seg_leaf (.ok (.ret v)) (k.ok n' ys' s₀' s3 (.ret v) hn' ⟨v3, σ3, H3, (less I3).1, r3, n3⟩)
  exact loop m0 0 n ys s₀ s2 σ H2 hn w0 ⟨acc0, cc0, r0, I2, hC0⟩ st2 fun b hb => (f2 b hb).1
end
end G2

set_option Elab.async false
set_option linter.all false
set_option autoImplicit false
set_option maxRecDepth 100000
set_option maxHeartbeats 4000000
namespace G2
open PySem PySem.Spec PyProof.Rows L2 GenW
/-- an item is handed out -/
def YItem2 (s : Shared) (S : Addr) (Cs : List Addr) (a : Addr) (g : Nat) : Protocol := fun n s₀ v s1 kap =>
  s1.os = s.os ∧ AllBare s1.gens ∧ s1.heap.NoLimit ∧ s1.heap.IsGen a g ∧ (∃ (acc : Array Value) (c : Nat), s1.heap.get? S = some (lstObj acc c) ∧ n + 1 + acc.size = sizeLine) ∧ (∀ b ∈ Cs, ∀ o, s₀.heap.get? b = some o → s1.heap.get? b = some o) ∧
    ∀ s', Slept2 S Cs v s1 s' → kap (.send .none) s'
/-- the end of a run -/
def REnd2 (P : Program) (w : World) (outer : List Env) (H : Hp) (s : Shared) (ex : List Addr) (S : Addr) (Cs : List Addr) (a : Addr) (g : Nat) (Q : List V → Hp → Prop) (E : XK) : GenEnd := fun n s₀ r s1 =>
  ((r = .ok (.ret .none) ∨ r = .ok .next) ∧ (∃ H' ys acc c, s1.os = s.os ∧ AllBare s1.gens ∧ Un (frs outer) ex H H' s.heap s1.heap ∧ HOk P w H' s1.heap ∧ H' S = none ∧ (∀ b ∈ Cs, H' b = none) ∧ s1.heap.get? S = some (lstObj acc c) ∧ Vals ys acc.toList ∧ ys.length ≤ sizeLine ∧ Q ys H') ∧
    ∀ b ∈ Cs, ∀ o, s₀.heap.get? b = some o → s1.heap.get? b = some o) ∨
  ∃ e, r = .error e ∧ CX P w outer H s E e s1 ∧ s1.heap.IsGen a g
/-- what a call of a generator def gives -/
def GMade2 (P : Program) (w : World) (k : Nat) (outer : List Env) (H : Hp) (s : Shared) (ex : List Addr) (Q : List V → Hp → Prop) (E : XK) (u : Value) (s' : Shared) : Prop :=
  ∃ (a : Addr) (g : Nat) (c : Code), u = .ref a ∧ s.heap.objs.size ≤ a ∧ a < s'.heap.objs.size ∧ s'.heap.IsGen a g ∧ s'.gens[g]? = some (.fresh c) ∧ s'.os = s.os ∧ AllBare s'.gens ∧ s'.heap.NoLimit ∧ (∀ b o, s.heap.get? b = some o → s'.heap.get? b = some o) ∧
    ∀ (A : Around) (S : Addr) (Cs : List Addr) (s2 : Shared), Room k A → A.frames = some outer → S ∉ Cs → (∀ b ∈ S :: Cs, s'.heap.objs.size ≤ b) → (∀ b o, s'.heap.get? b = some o → s2.heap.get? b = some o) → (∃ c, s2.heap.get? S = some (lstObj #[] c)) →
      (∀ b ∈ Cs, ∃ o, s2.heap.get? b = some o ∧ ∀ v, o.data ≠ .cell v) → s2.os = s.os → AllBare s2.gens →
      Seg (model P w) A (REnd2 P w outer H s ex S Cs a g Q E) (YItem2 s S Cs a g) sizeLine s2 c ((model P w).den c) [] s2
structure GFn2 (P : Program) (w : World) (K : PySem.W.Frag) (mg : Str → Option Value) (base : Heap) (k : Nat) (f : Addr) (fd : FuncData) (ps : List Str) (sp : SpG) : Prop where
  len : ∀ vs H Q E, sp vs H Q E → vs.length = ps.length
  run : ∀ (A : Around) (outer : List Env) (s : Shared) (H : Hp) (args : Args) (us : List Value) (vs : List V) (Q : List V → Hp → Prop) (E : XK), Room k A → Env0 P w K mg base A outer s H → BindsTo s fd args (ps.zip us) → Vals vs us → sp vs H Q E →
    codeAny (model P w) A (.call (.ref f) args) (fun r s' => match r with | .ok (.ret u) => GMade2 P w k outer H s [] Q E u s' | _ => False) s
/-- THE RULE: a generator def, by its body -/
theorem gfn2_of {P : Program} {w : World} {K : PySem.W.Frag} {mg : Str → Option Value} {base : Heap} {k : Nat} {f : Addr} {name qual : Str} {params : Arguments} {body : List Stmt} {scope : Scope} {dV kV doc pm cdv ct oc : Value} {an od : Option Addr}
    {osl : Array (Option Value)} {N ps : List Str} {sp : SpG} (lk : K.lookup f = some ⟨oc, od, .func (PySem.W.fnOf name qual params body scope dV kV doc pm an cdv ct), osl⟩) (hcd : PySem.W.codeIn K cdv qual = true) (S : GScope N ps scope)
    (len : ∀ vs H Q E, sp vs H Q E → vs.length = ps.length)
    (hbody : ∀ (A : Around) (outer : List Env) (s : Shared) (H : Hp) (vs : List V) (Q : List V → Hp → Prop) (E : XK) (pn : List (Addr × Obj)), Room k (A.deeper (envOfC qual scope s.heap.objs.size f cdv)) → sp vs H Q E →
      ∃ t, GSs2 (gcxOf P w K mg base N qual scope f cdv A outer s H E pn) body t ∧ t { nx := fun ys _ H' => Q ys H', rt := fun ys v H' => v = .non ∧ Q ys H' } [] (start N vs) H) :
    GFn2 P w K mg base (k + 1) f (PySem.W.fnOf name qual params body scope dV kV doc pm an cdv ct) ps sp := by
  refine ⟨len, fun A outer s H args us vs Q E hr e0 hb r hsp => ?_⟩
  have hl := len _ _ _ _ hsp
  have KX : K.In s.heap := e0.mod.kin.keeps fun b o e => (e0.bs b o e).1
  have lim : s.heap.NoLimit := e0.mod.nolimit.keeps fun b o e => (e0.bs b o e).1
  have hkind : ∀ y ∈ ps.zip us, scope.names.lookup y.1 = some .local ∨ (scope.names.lookup y.1 = some .cell ∧ ((cellsFrom (s.heap.objs.size + 1) scope.names []).lookup y.1).isSome = true) := fun ⟨n, v⟩ hy => by
    rcases S.par n (List.of_mem_zip hy).1 with q | q
    · exact .inl q
    · exact .inr ⟨q, PySem.W.cellsFrom_some _ _ _ (.inl q)⟩
  refine codeAny_call_generator hr.depth (KX _ _ lk) rfl S.co S.gen rfl (PySem.W.codeRec_of KX hcd) (hb _ _ _ _ ?_)
  refine wpAny_newFunctionEnv_cells S.kind hkind fun env he s1 x => ?_
  subst he
  have lim1 : s1.heap.NoLimit := lim.keeps x.toInCall.keep
  refine ⟨lim1, ?_⟩
  obtain ⟨h1, tk, es1, hk1⟩ := x.done
  have os1 : s1.os = s.os := by rw [es1]
  have gen1 : s1.gens = s.gens := by rw [es1]
  have lt1 : s.heap.objs.size < s1.heap.objs.size := x.toInCall.ns.lt
  have sz1 : s.heap.objs.size ≤ s1.heap.objs.size := Nat.le_of_lt lt1
  have kp1 : ∀ b o, s.heap.get? b = some o → s1.heap.get? b = some o := x.toInCall.keep
  have main : ∀ (go : Obj) (nm qn : Value) (tk2 : Nat), go.cls = .type "generator" → go.data = .fields #[.int s1.gens.size 0, nm, qn] → go.slots = #[] → (∀ h : Heap, (h.push go).get? h.objs.size = some go) →
      GMade2 P w (k + 1) outer H s [] Q E (.ref s1.heap.objs.size) { s1 with gens := s1.gens.push (.fresh (.func body (envOfC qual scope s.heap.objs.size f cdv))), toks := tk2, heap := s1.heap.push go } := by
    intro go nm qn tk2 hgc hgd0 hgs hgp
    have hgen : ∀ h : Heap, h.get? s1.heap.objs.size = some go → h.IsGen s1.heap.objs.size s1.gens.size := fun h e => ⟨go, nm, qn, e, hgc, hgd0, hgs⟩
    have hpushed : (s1.heap.push go).get? s1.heap.objs.size = some go := hgp _
    refine ⟨s1.heap.objs.size, s1.gens.size, _, rfl, sz1, ?_, hgen _ hpushed, Array.getElem?_push_size .., os1, ?_, lim1.keeps fun b o e => Heap.get?_push_of_some _ e, fun b o e => Heap.get?_push_of_some _ (kp1 b o e), ?_⟩
    · show _ < (s1.heap.push _).objs.size
      rw [Heap.size_push]; exact Nat.lt_succ_self _
    · exact AllBare.push (by rw [gen1]; exact e0.bare) rfl
    intro Aw Sx Cs s2 hrw hfr hdis hSx hk2 hSo hCo hos hba
    have e0w : Env0 P w K mg base Aw outer s H := ⟨hfr, e0.mod, e0.bs, e0.bsz, e0.funs, e0.frf, e0.hok, e0.bare⟩
    obtain ⟨t, ht, hq⟩ := hbody Aw outer s H vs Q E [(s1.heap.objs.size, go)] (hrw.deeper _) hsp
    have I1 : Inv (gcxOf P w K mg base N qual scope f cdv Aw outer s H E []) [] (start N vs) H s1 := inv_startG S hrw.hd e0w hl r x
    have kp2 : ∀ b o, s1.heap.get? b = some o → s2.heap.get? b = some o := fun b o e => hk2 b o (Heap.get?_push_of_some _ e)
    have I2 : Inv (gcxOf P w K mg base N qual scope f cdv Aw outer s H E []) [] (start N vs) H s2 :=
      I1.call' (ch := []) (hos.trans os1.symm) (Un.kept kp2) (I1.hok.kept kp2) hba fun b z => by simp at z
    have hSz : ∀ b ∈ Sx :: Cs, s1.heap.objs.size < b := fun b hb => by
      have hSx' : (s1.heap.push go).objs.size ≤ b := hSx b hb
      rw [Heap.size_push] at hSx'
      exact hSx'
    obtain ⟨cS, heS⟩ := hSo
    have hea : s2.heap.get? s1.heap.objs.size = some go := hk2 s1.heap.objs.size go hpushed
    have hgd : ∀ v, go.data ≠ .cell v := fun v q => by rw [hgd0] at q; cases q
    have young : ∀ b, s1.heap.objs.size ≤ b → H b = none ∧ b ≠ s.heap.objs.size ∧ b ∉ frs outer ∧ s.heap.objs.size ≤ b ∧ ∀ y c, (cellsFrom (s.heap.objs.size + 1) scope.names []).lookup y = some c → c ≠ b := fun b hb => by
      refine ⟨I1.hok.fresh hb, Nat.ne_of_gt (Nat.lt_of_lt_of_le lt1 hb), I1.nofs hb, Nat.le_trans sz1 hb, fun y c e z => ?_⟩
      obtain ⟨v, ob, ho, _⟩ := I1.cell y c e
      have := Heap.lt_size ho
      rw [z] at this
      exact absurd (Nat.lt_of_lt_of_le this hb) (Nat.lt_irrefl _)
    have hG : GI2 (gcxOf P w K mg base N qual scope f cdv Aw outer s H E [(s1.heap.objs.size, go)]) Sx Cs s2 [] [] (start N vs) H s2 := by
      refine ⟨#[], cS, .nil, Inv.pinnedG I2 fun p hp => ?_, hCo⟩
      rcases List.mem_append.mp hp with z | z
      · rw [List.mem_singleton.mp z]
        obtain ⟨y1, y2, y3, _, _⟩ := young s1.heap.objs.size (Nat.le_refl _)
        exact ⟨hea, y1, y2, y3, hgd⟩
      · rcases List.mem_cons.mp z with z | z
        · rw [z]
          obtain ⟨y1, y2, y3, _, _⟩ := young Sx (Nat.le_of_lt (hSz Sx List.mem_cons_self))
          exact ⟨heS, y1, y2, y3, fun v q => by cases q⟩
        · rw [List.append_nil] at z
          obtain ⟨hb, e⟩ := of_pinsAt z
          obtain ⟨o, e', d⟩ := hCo p.1 hb
          rw [e] at e'
          cases e'
          obtain ⟨y1, y2, y3, _, _⟩ := young p.1 (Nat.le_of_lt (hSz p.1 (List.mem_cons_of_mem _ hb)))
          exact ⟨e, y1, y2, y3, d⟩
    have hAp : ∀ b ∈ Sx :: Cs, Apart (gcxOf P w K mg base N qual scope f cdv Aw outer s H E [(s1.heap.objs.size, go)]) b := fun b hb => by
      obtain ⟨_, y2, _, y4, y5⟩ := young b (Nat.le_of_lt (hSz b hb))
      exact ⟨y4, y2, y5⟩
    have hpn : ∀ p ∈ [(s1.heap.objs.size, go)], p.1 ∉ Sx :: Cs := fun p hp z => by
      rw [List.mem_singleton.mp hp] at z
      exact Nat.lt_irrefl _ (hSz _ z)
    have pinned : ∀ {ip : List (Addr × Obj)} {ys : List V} {s₀' s' : Shared} {σ' : L2.St} {H' : Hp}, GI2 (gcxOf P w K mg base N qual scope f cdv Aw outer s H E [(s1.heap.objs.size, go)]) Sx Cs s₀' ip ys σ' H' s' → s'.heap.IsGen s1.heap.objs.size s1.gens.size := fun {ip ys s₀' s' σ' H'} hI => by
      obtain ⟨acc, cc, _, J, _⟩ := hI
      exact hgen _ (J.pin (s1.heap.objs.size, go) (List.mem_append_left _ (List.mem_singleton.mpr rfl))).1
    refine seg_func ?_
    refine seg_imp (R := GR2 (gcxOf P w K mg base N qual scope f cdv Aw outer s H E [(s1.heap.objs.size, go)]) Sx Cs (fun ys v H' => v = .non ∧ Q ys H') fun e s' => CX P w outer H s E e s' ∧ ∀ p ∈ [(s1.heap.objs.size, go)], s'.heap.get? p.1 = some p.2)
      (Y := GY2 (gcxOf P w K mg base N qual scope f cdv Aw outer s H E [(s1.heap.objs.size, go)]) Sx Cs) (fun n s₀ r s1' hR => ?_) (fun n s₀ v s1' kap kap' hkk hY => ?_) sizeLine ?_
    · cases r with
      | error e =>
        obtain ⟨q1, q2⟩ := hR
        exact .inr ⟨e, rfl, q1, hgen _ (q2 (s1.heap.objs.size, go) (List.mem_singleton.mpr rfl))⟩
      | ok fl =>
        cases fl with
        | next => exact False.elim hR
        | brk => exact False.elim hR
        | cont => exact False.elim hR
        | ret u =>
          obtain ⟨ys, v, ip, σ', H', hn, hI, rv, ev, hQ⟩ := hR
          subst ev
          have eu : u = Value.none := rv
          subst eu
          obtain ⟨a1, _, _, acc, cc, ra, ea⟩ := hI.list
          have hO := fun b hb => hI.oth (b := b) hb
          obtain ⟨_, _, _, J, _⟩ := hI
          refine .inl ⟨.inl rfl, ⟨H', ys, acc, cc, J.os, J.bare, J.base, J.hok, a1, fun b hb => (hO b hb).1, ea, ra, by omega, hQ⟩, fun b hb o e => ?_⟩
          obtain ⟨_, _, _, o', e1, e2, _⟩ := hO b hb
          rw [e] at e1
          cases e1
          exact e2
    · obtain ⟨ys, xx, ip, σ', H', hn, h2, hI, h3⟩ := hY
      obtain ⟨_, _, _, acc, cc, ra, ea⟩ := hI.list
      have hg := pinned hI
      have hO := fun b hb => hI.oth (b := b) hb
      obtain ⟨_, _, _, J, _⟩ := hI
      have hsz : acc.size = ys.length := by
        have e1 := ra.length
        have e2 : acc.toList.length = acc.size := by simp
        omega
      refine ⟨J.os, J.bare, J.nolimit, hg, ⟨acc, cc, ea, by rw [hsz]; exact hn⟩, fun b hb o e => ?_, fun s' z => hkk _ _ (h3 s' z)⟩
      obtain ⟨_, _, _, o', e1, e2, _⟩ := hO b hb
      rw [e] at e1
      cases e1
      exact e2
    · refine ht.run Aw Sx Cs [] _ sizeLine [] s2 _ [] _ _ id id s2 (start N vs) H _ ⟨hdis, hpn, fun p hp => (by simp at hp), hAp, over_func, rfl, rfl, rfl⟩ (Nat.add_zero _) ⟨fun n ys s₀ s' fl hn hs => ?_, fun n s₀ e s' hx => ?_⟩ hG hq
      · cases fl with
        | next =>
          obtain ⟨σ', H', hI, hQ⟩ := hs
          exact seg_end (.ok (.ret .none)) ⟨ys, .non, [], σ', H', hn, hI, rfl, rfl, hQ⟩
        | brk => obtain ⟨_, _, _, q⟩ := hs; exact False.elim q
        | cont => obtain ⟨_, _, _, q⟩ := hs; exact False.elim q
        | ret u =>
          obtain ⟨v, σ', H', hI, rv, ev, hQ⟩ := hs
          exact seg_end (.ok (.ret u)) ⟨ys, v, [], σ', H', hn, hI, rv, ev, hQ⟩
      · refine seg_wrap ?_
        rw [over_func]
        refine wpAny_mono (show wpAny (model P w) (Aw.deeper (envOfC qual scope s.heap.objs.size f cdv)) (leaving (envOfC qual scope s.heap.objs.size f cdv) e) (fun _ s'' => CX P w outer H s E e s'' ∧ ∀ p ∈ [(s1.heap.objs.size, go)], s''.heap.get? p.1 = some p.2) (fun _ _ => False) s' from hx) (fun _ s'' q => ?_) fun _ s'' q => q.elim
        exact seg_end (.error e) q
  exact main _ _ _ _ rfl rfl rfl fun h => Heap.get?_push_size _ rfl
/-- with nothing but the list: as the kit tells it -/
theorem GMade2.made {P : Program} {w : World} {k : Nat} {outer : List Env} {H : Hp} {s : Shared} {ex : List Addr} {Q : List V → Hp → Prop} {E : XK} {u : Value} {s' : Shared} (h : GMade2 P w k outer H s ex Q E u s') : GMade P w k outer H s ex Q E u s' := by
  obtain ⟨a, g, c, e1, e2, e3, e4, e5, e6, e7, e8, e9, run⟩ := h
  refine ⟨a, g, c, e1, e2, e3, e4, e5, e6, e7, e8, e9, fun A S s2 hr hf hS hk ho hos hb => ?_⟩
  refine seg_imp (fun _ _ _ _ z => z.imp (fun ⟨a, ⟨H', ys, acc, c, b1, b2, b3, b4, b5, _, b6⟩, _⟩ => ⟨a, H', ys, acc, c, b1, b2, b3, b4, b5, b6⟩) id) (fun n s₀ v s1 kap kap' hkk hY => ?_) sizeLine (run A S [] s2 hr hf (fun z => nomatch z) (fun b hb => by rw [List.mem_singleton.mp hb]; exact hS) hk ho (fun b hb => nomatch hb) hos hb)
  obtain ⟨y1, y2, y3, y4, y5, _, y6⟩ := hY
  exact ⟨y1, y2, y3, y4, y5, fun s' z => hkk _ _ (y6 s' ⟨z.os, z.bare, fun b o n _ e => z.keep b o n e, z.own, fun b hb => nomatch hb⟩)⟩
theorem GFn2.gfn {P : Program} {w : World} {K : PySem.W.Frag} {mg : Str → Option Value} {base : Heap} {k : Nat} {f : Addr} {fd : FuncData} {ps : List Str} {sp : SpG} (h : GFn2 P w K mg base k f fd ps sp) : GFn P w K mg base k f fd ps sp :=
  ⟨h.len, fun A outer s H args us vs Q E hr e0 hb r hsp => codeAny_mono (h.run A outer s H args us vs Q E hr e0 hb r hsp) fun r s' z => match r, z with
    | .ok (.ret u), z => z.made
    | .ok .next, z => z
    | .ok .brk, z => z
    | .ok .cont, z => z
    | .error e, z => z⟩
/-- an expression whose value is a generator that has not begun -/
structure PGen2 (X : Cx) (k : Nat) (e : Expr) (tg : TGen) (E : XK) : Prop where
  run : ∀ (pins : List (Addr × Obj)) (s : Shared) (σ : L2.St) (H : Hp) (cont : List V → Hp → Prop), Inv X pins σ H s → tg σ H cont → wpAny (model X.prog X.w) X.A (eval e X.env)
    (fun u s' => ∃ H1 sc ex, Inv X pins σ H1 sc ∧ ExOk X pins ex ∧ GMade2 X.prog X.w k X.stack H1 sc ex cont E u s') X.xe s
section
variable {X : Cx} {k : Nat} {f : Addr} {fd : FuncData} {ps : List Str} {sp : SpG} {ds : List Value} {dvs : List V} {x : Str} {p pos' : Pos}
theorem run_gfn2 {pins : List (Addr × Obj)} {σ : L2.St} {H : Hp} {s : Shared} {us : List Value} {vs : List V} {cont : List V → Hp → Prop} {E : XK} {E1 : Value → Shared → Prop} (F : GFn2 X.prog X.w X.K X.mg X.base k f fd ps sp) (hr : Room k X.A) (hb : Binds X.K fd ps ds) (hd : Vals dvs ds)
    (I : Inv X pins σ H s) (r : Vals vs us) (h : sp (vs ++ dvs) H cont E) :
    wpAny (model X.prog X.w) X.A (call (.ref f) us) (fun u s' => ∃ H1 sc ex, Inv X pins σ H1 sc ∧ ExOk X pins ex ∧ GMade2 X.prog X.w k X.stack H1 sc ex cont E u s') E1 s := by
  have r2 : Vals (vs ++ dvs) (us ++ ds) := r.append hd
  have hl2 : (us ++ ds).length = ps.length := by rw [← r2.length]; exact F.len _ _ _ _ h
  refine wpAny_call (codeAny_mono (F.run X.A X.stack s H ⟨us, []⟩ (us ++ ds) (vs ++ dvs) cont E hr I.env0 (hb s us I.kIn hl2) r2 h) fun r s' hq => ?_)
  cases r with
  | error e => exact False.elim hq
  | ok fl =>
    cases fl with
    | ret u => exact ⟨H, s, [], I, .nil, hq⟩
    | next => exact False.elim hq
    | brk => exact False.elim hq
    | cont => exact False.elim hq
/-- f(e, ..) of a generator def -/
theorem pgen2_call {E : XK} {e : Expr} {es : List Expr} {t : TA} (F : GFn2 X.prog X.w X.K X.mg X.base k f fd ps sp) (hr : Room k X.A) (hg : Gl X x) (hm : X.mg x = some (.ref f)) (hk : PySem.W.keepIn X.K (.ref f) = true) (hb : Binds X.K fd ps ds) (hd : Vals dvs ds)
    (ha : PA X (e :: es) t) (hdb : (x == ("__debug__" : Str)) = false := by decide) (he : starEach (e :: es) X.env = (false, eval e X.env) :: starEach es X.env := by rfl) (hpl : (backTo pos' (starEach es X.env)).any (·.1) = false := by rfl) :
    PGen2 X k (.Call (.Name x p) (e :: es) [] pos') (tCallG sp dvs E t) E := by
  refine ⟨fun pins s σ H cont I h => ?_⟩
  refine wpAny_Call_Name_kw (ld_glob I hg hm ?_ hdb)
  refine PySem.W.callWith_K (h₀ := X.base) I.ok.mod.kin hk (thn (ha.run pos' pins s σ H _ I h) fun us s1 ⟨vs, H1, I1, r, q⟩ => ⟨I1.kIn, ?_⟩) he hpl
  exact run_gfn2 F hr hb hd I1 r q
theorem PGen2.pgen {e : Expr} {tg : TGen} {E : XK} (h : PGen2 X k e tg E) : PGen X k e tg E := ⟨fun pins s σ H cont I ht => wpAny_mono (h.run pins s σ H cont I ht) (fun u s' ⟨H1, sc, ex, a, b, c⟩ => ⟨H1, sc, ex, a, b, c.made⟩) fun _ _ z => z⟩
end
end G2

set_option Elab.async false
set_option linter.all false
set_option autoImplicit false
set_option maxRecDepth 100000
set_option maxHeartbeats 4000000
namespace G2
open PySem PySem.Spec PyProof.Rows L2 GenW
theorem pushCells_none : ∀ (names : List (Str × NameKind)) (h : Heap), (∀ y ∈ names, y.2 ≠ .cell) → pushCells h names = h
  | [], _, _ => rfl
  | (x, kind) :: r, h, hn => by
    unfold pushCells
    have : (kind == NameKind.cell) = false := by
      have := hn (x, kind) List.mem_cons_self
      cases kind <;> first | rfl | exact absurd rfl this
    rw [this]
    exact pushCells_none r h fun y hy => hn y (List.mem_cons_of_mem _ hy)
section
variable {X : Cx} {k : Nat}
theorem lcGen_core {pins : List (Addr × Obj)} {s : Shared} {σ : L2.St} {H : Hp} {Q : VK} {use : Option (Value → Sem Unit)} {Qf : Value → Shared → Prop} {x : Str} {p1 p2 pos pos' : Pos} {e : Expr} {scope : Scope} {tg : TGen} {E : XK} (I : Inv X pins σ H s) (h : PGen2 X k e tg E) (hE : ∀ cls d H, ¬ E cls d H) (hr : Room (k + 3) X.A) (hk : scope.kind = .function) (hn : ∀ y ∈ scope.names, y.2 ≠ .free ∧ y.2 ≠ .cell) (hx : scope.names.lookup x = some .local)
    (hu : ∀ y ∈ scope.names, scope.names.lookup y.1 = some y.2) (hd : (x == ("__debug__" : Str)) = false) (hs : ∀ v, foldedSetIterable e X.env v = pure v) (hq : tListG tg σ H Q)
    (hRR : ∀ D C s' m H', Inv X pins σ H' s' → Q (.ref D) H' → s'.heap.Ns C m → FpOk X pins H' C → compPost (model X.prog X.w) X.A X.xe use Qf (.ref D) C (.ok .next) s') :
    wpAny (model X.prog X.w) X.A (comprehension (.ListComp (.Name x p1) [⟨.Name x p2, e, [], 0⟩] scope pos) scope X.env pos' (newList []) false (eval e X.env) use) Qf X.xe s := by
  have caps : ∀ y ∈ scope.names, y.2 = .free → ∃ c, X.env.cells.lookup y.1 = some c := fun y hy e => absurd e (hn y hy).1
  refine wpAny_comprehension_free (use := use) rfl hs (closure_ok caps) hk (fun y hy e => by rw [hu y hy, e]) (thn (h.run pins s σ H _ I hq) fun u s1 ⟨H1, sc, ex, I1, hex, hG⟩ => ?_)
  obtain ⟨a, g, cd, rfl, ha1, ha2, hg, hgs, hos, hb, hl, hkp, wake⟩ := hG
  refine wpAny_pyIter_gen hg ?_
  refine wpAny_newObj_type (newEnv_comp ?_) (by show 0 ≤ sizeLine; decide)
  rw [pushCells_none _ _ fun y hy => (hn y hy).2]
  have hD4 : ((s1.heap.push { cls := .type "list", data := .seq ([] : List Value).toArray }).push { cls := .type "dict", data := .dict #[] }).get? s1.heap.objs.size = some (lstObj #[] 0) := Heap.get?_push_of_some _ (Heap.get?_push_size _ rfl)
  have hC4 : ((s1.heap.push { cls := .type "list", data := .seq ([] : List Value).toArray }).push { cls := .type "dict", data := .dict #[] }).get? (s1.heap.push { cls := .type "list", data := .seq ([] : List Value).toArray }).objs.size = some { cls := .type "dict", data := .dict #[] } := Heap.get?_push_size _ rfl
  have nC4 := Heap.Ns.new (s1.heap.push { cls := .type "list", data := .seq ([] : List Value).toArray }) (.type "dict")
  have k4 : ∀ b o, s1.heap.get? b = some o → ((s1.heap.push { cls := .type "list", data := .seq ([] : List Value).toArray }).push { cls := .type "dict", data := .dict #[] }).get? b = some o := fun b o e => Heap.get?_push_of_some _ (Heap.get?_push_of_some _ e)
  have hCz : (s1.heap.push { cls := .type "list", data := .seq ([] : List Value).toArray }).objs.size = s1.heap.objs.size + 1 := Heap.size_push _ _
  have hscz : sc.heap.objs.size ≤ s1.heap.objs.size := Nat.le_trans ha1 (Nat.le_of_lt ha2)
  have hDa : s1.heap.objs.size ≠ a := Nat.ne_of_gt ha2
  have hcl : cStatics < s1.heap.objs.size := let ⟨_, hn, _⟩ := hl; hn.lt
  generalize hh4 : (s1.heap.push { cls := .type "list", data := .seq ([] : List Value).toArray }).push { cls := .type "dict", data := .dict #[] } = h4 at *
  generalize (s1.heap.push { cls := .type "list", data := .seq ([] : List Value).toArray }).objs.size = C at *
  generalize hD : s1.heap.objs.size = D at *
  have hDlt : D < C := by omega
  have hDC : D ≠ C := Nat.ne_of_lt hDlt
  have hscD : sc.heap.objs.size ≤ D := hscz
  have hcD : cStatics < D := hcl
  have haD : a < D := ha2
  have hCa : C ≠ a := Nat.ne_of_gt (Nat.lt_trans haD hDlt)
  show codeAny _ _ (.compStart (.ListComp (.Name x p1) [⟨.Name x p2, e, [], 0⟩] scope pos) 0 (.ref a) (.ref D) (compEnvC scope (cellsFrom (C + 1) scope.names (cloFrom X.env.cells scope.names [])) C X.env))
    (compPost (model X.prog X.w) X.A X.xe use Qf (.ref D) C) { s1 with heap := h4 }
  generalize hce : compEnvC scope (cellsFrom (C + 1) scope.names (cloFrom X.env.cells scope.names [])) C X.env = ce
  have eL : ce.locals = C := by rw [← hce]; rfl
  have eK : ce.scope.kind = .function := by rw [← hce]; exact hk
  have eX : ce.kindOf x = some .local := by rw [← hce]; exact lookup_relabel_local hx
  have fC : ∀ {H' : Hp}, H' C = none → FpOk X pins H' C := fun hn => I1.fpOk (Nat.le_trans hscD (Nat.le_of_lt hDlt)) hn
  have hdp : X.A.depth < recursionLimit := by have := hr.dp; omega
  have lp : codeAny (model X.prog X.w) X.A (.compLoop (.ListComp (.Name x p1) [⟨.Name x p2, e, [], 0⟩] scope pos) 0 (.ref a) (.ref D) ce) (compPost (model X.prog X.w) X.A X.xe use Qf (.ref D) C) { s1 with heap := h4 } := by
    refine compLoop_any (fun n t => t.heap.IsGen a g ∧ t.heap.NoLimit ∧ (∃ m, t.heap.Ns C m) ∧ ∃ gs, t.gens[g]? = some gs ∧ gs.Goes (model X.prog X.w) X.A.in1 (fun n s₀ r s₁ => ((r = .ok (.ret .none) ∨ r = .ok .next) ∧ ((∃ H' ys acc c, s₁.os = sc.os ∧ AllBare s₁.gens ∧ Un (frs X.stack) ex H1 H' sc.heap s₁.heap ∧ HOk X.prog X.w H' s₁.heap ∧ H' D = none ∧ (∀ b ∈ [C], H' b = none) ∧ s₁.heap.get? D = some (lstObj acc c) ∧ Vals ys acc.toList ∧ ys.length ≤ sizeLine ∧
        ∀ p, H' p = none → Q (.ref p) (upd H' p (.lst ys))) ∧ ∀ b ∈ [C], ∀ o, s₀.heap.get? b = some o → s₁.heap.get? b = some o)) ∨
        ∃ e, r = .error e ∧ (CX X.prog X.w X.stack H1 sc E e s₁ ∧ s₁.heap.IsGen a g)) (YItem2 sc D [C] a g) n (.send .none) (t.setGen g .running)) ?_ sizeLine ?_
    · rintro n t ⟨hg0, hl0, ⟨m0, hN0⟩, gs, hgs0, hgo⟩
      have hgl : g < t.gens.size := (Array.getElem?_eq_some_iff.mp hgs0).1
      have keepC : ∀ {h' : Heap}, (∀ b ∈ [C], ∀ o, t.heap.get? b = some o → h'.get? b = some o) → h'.Ns C m0 := fun hC => hN0.at' fun o e => hC C (List.mem_singleton.mpr rfl) o e
      refine wpAny_gsz (n := g + 1) hgl (next_genG (A := X.A) hr.hd hl0 hdp hg0 hgs0 hgo (fun v s₁ gs' hbare hv => ?_) (fun s₁ hp h' hk' => ?_) fun e s₁ he => ?_)
      · intro hsz
        obtain ⟨os1, hb1, hl1, hg1, ⟨acc, c, hS1, hasz⟩, hC1, hk1⟩ := hv
        have hN1 := keepC hC1
        obtain ⟨oC, esC, epC, hoC, hdC, _⟩ := id hN1
        cases n with
        | zero =>
          refine False.elim (hk1 { s₁ with heap := s₁.heap.update D (Obj.mapSeq (·.push v)) } ⟨rfl, hb1, fun b o hb _ e => (Heap.get?_update_other _ _ (Ne.symm hb)).trans e, fun acc' c' e => ?_, fun b hb => ?_⟩)
          · rw [hS1] at e
            cases e
            exact ⟨_, Heap.get?_update_self _ hS1 rfl⟩
          · rw [List.mem_singleton.mp hb]
            exact ⟨oC, (Heap.get?_update_other _ _ hDC).trans hoC, fun v z => by rw [hdC] at z; cases z⟩
        | succ m =>
          have hsz1 : g < s₁.gens.size := by
            have q : (s₁.setGen g gs').gens.size = s₁.gens.size := setGen_size _ _ _
            have hsz' : g + 1 ≤ (s₁.setGen g gs').gens.size := hsz
            omega
          refine wpAny_of_eq (show letOwnedTupleGo (.Name x p2) (.ref a) v = pure () from rfl) ?_
          refine wpAny_assign_Name (wpAny_storeName_local (env := ce) (m := m0) eX (by rw [eL]; exact hN1) (fun h5 hN5 hs5 => ?_) (by rw [eK]; rfl))
          rw [eL] at hN5 hs5
          refine wpAny_tests_nil ?_
          rw [if_pos rfl]
          refine wpAny_Name (wpAny_loadName_local (v := v) eK eX (by rw [eL]; exact hN5) (by simp) ?_) hd
          have hS5 : h5.get? D = some (lstObj acc c) := (hs5.2 D hDC).trans hS1
          refine append_at (hsz := by omega) hS5 fun h6 hs6 hS6 => ?_
          have k6 : ∀ b o, b ≠ D → b ≠ C → s₁.heap.get? b = some o → h6.get? b = some o := fun b o hbD hbC e => (hs6.2 b hbD).trans ((hs5.2 b hbC).trans e)
          obtain ⟨o5, es5, ep5, ho5, hd5, _⟩ := id hN5
          have ho6 : h6.get? C = some o5 := (hs6.2 C (Ne.symm hDC)).trans ho5
          refine ⟨m, Nat.lt_succ_self m, ?_, ?_, ⟨_, hN5.at' fun o e => (hs6.2 C (Ne.symm hDC)).trans e⟩, gs', setGen_at hsz1, ?_⟩
          · obtain ⟨o, nm, qn, ho, r⟩ := hg1
            exact ⟨o, nm, qn, k6 a o (Ne.symm hDa) (Ne.symm hCa) ho, r⟩
          · obtain ⟨mc, hns, hnn⟩ := hl1
            exact ⟨mc, hns.at' fun o e => k6 _ o (Nat.ne_of_lt hcD) (Nat.ne_of_lt (Nat.lt_trans hcD hDlt)) e, hnn⟩
          · refine hk1 _ ⟨rfl, ?_, fun b o hb hb2 e => k6 b o hb (fun z => hb2 (List.mem_singleton.mpr z)) e, fun acc' c' e => ?_, fun b hb => ?_⟩
            · exact allBare_setGen (s := s₁.setGen g gs') (allBare_setGen hb1 hbare) rfl
            · rw [hS1] at e
              cases e
              exact ⟨_, hS6⟩
            · rw [List.mem_singleton.mp hb]
              exact ⟨o5, ho6, fun v z => by rw [hd5] at z; cases z⟩
      · intro hsz
        obtain ⟨⟨H', ys, acc, c, os1, hb1, un, hok, hSn, hCn, hS1, hv, hle, hQ⟩, hC1⟩ := hp
        have hN1 := (keepC hC1).keeps hk'
        have hC0 : H' C = none := hCn C (List.mem_singleton.mpr rfl)
        have J := I1.drained (s' := { s₁.setGen g .finished with heap := h' }) (by omega) hle (hk' _ _ hS1) hv hex os1 (allBare_setGen hb1 rfl) (un.trans (Un.kept hk')) (hok.kept hk') hSn
        have hCu : (upd H' D (.lst ys)) C = none := by rw [upd_ne (Ne.symm hDC)]; exact hC0
        exact hRR D C _ m0 _ J (hQ D hSn) hN1 (fC hCu)
      · obtain ⟨⟨_, _, _, _, _, _, _, _, _, _, _, _, z⟩, _⟩ := he
        exact False.elim (hE _ _ _ z)
    · refine ⟨hg.keeps k4, hl.keeps k4, ⟨_, nC4⟩, _, hgs, rfl, ?_⟩
      refine wake X.A.in1 D [C] _ ⟨hr.hd, ?_, ?_⟩ I1.ok.frames (fun z => hDC (List.mem_singleton.mp z)) (fun b hb => ?_) k4 ⟨0, hD4⟩ (fun b hb => ?_) hos (allBare_setGen (s := { s1 with heap := h4 }) hb rfl)
      · have := hr.dp
        show X.A.depth + 3 * k + 5 < _
        omega
      · have := hr.un
        show X.A.units + 1 + 16 * k + 200 < _
        omega
      · rcases List.mem_cons.mp hb with z | z
        · rw [z]; omega
        · rw [List.mem_singleton.mp z]; omega
      · rw [List.mem_singleton.mp hb]
        exact ⟨_, hC4, fun v z => by cases z⟩
  exact codeAny_compStart_list lp (wpAny_pyIter_gen (hg.keeps k4) lp)
/-- [x for x in g], g a generator that has not begun -/
theorem pe_lcGen {x : Str} {p1 p2 pos : Pos} {e : Expr} {scope : Scope} {tg : TGen} {E : XK} (h : PGen2 X k e tg E) (hE : ∀ cls d H, ¬ E cls d H) (hr : Room (k + 3) X.A) (hk : scope.kind = .function) (hn : ∀ y ∈ scope.names, y.2 ≠ .free ∧ y.2 ≠ .cell) (hx : scope.names.lookup x = some .local)
    (hu : ∀ y ∈ scope.names, scope.names.lookup y.1 = some y.2) (hd : (x == ("__debug__" : Str)) = false := by decide) (hs : ∀ v, foldedSetIterable e X.env v = pure v := by intro _; rfl) : PE X (.ListComp (.Name x p1) [⟨.Name x p2, e, [], 0⟩] scope pos) (tListG tg) := by
  refine ⟨fun pins s σ H Q I hq => ?_⟩
  rw [eval_ListComp]
  refine lcGen_core I h hE hr hk hn hx hu hd hs hq fun D C s' m H' I' q hn f => ⟨m, hn, fun h'' sb => ?_⟩
  obtain ⟨f0, f1, f2, f3, f4, f5⟩ := f
  exact ⟨.ref D, H', I'.turned (t' := s'.toks) (fun b o hb e => (sb.2 b hb).trans e) f0 f1 f3 f4 f5, rfl, q⟩
/-- name = [x for x in g] -/
theorem ps_lcGen {i : Nat} {y x : Str} {py p1 p2 pos spos : Pos} {e : Expr} {scope : Scope} {tg : TGen} {E : XK} (hN : X.N.Nodup) (hy : X.N[i]? = some y) (hyl : X.env.scope.names.lookup y = some .local)
    (hsw : swapsWith (.ListComp (.Name x p1) [⟨.Name x p2, e, [], 0⟩] scope pos) (some (.Name y py)) spos.line X.env = pure true) (h : PGen2 X k e tg E) (hE : ∀ cls d H, ¬ E cls d H) (hr : Room (k + 3) X.A) (hk : scope.kind = .function) (hn : ∀ y ∈ scope.names, y.2 ≠ .free ∧ y.2 ≠ .cell) (hx : scope.names.lookup x = some .local)
    (hu : ∀ y ∈ scope.names, scope.names.lookup y.1 = some y.2) (hd : (x == ("__debug__" : Str)) = false := by decide) (hs : ∀ v, foldedSetIterable e X.env v = pure v := by intro _; rfl) :
    PS X (.Assign [.Name y py] (.ListComp (.Name x p1) [⟨.Name x p2, e, [], 0⟩] scope pos) spos) (tAsg (tListG tg) (gName i)) := by
  refine ⟨fun pins s σ H D I h0 => ?_⟩
  rw [exec_Assign_Name_used _ _ _ _ hsw]
  refine wpAny_bind (wpAny_standAt (wpAny_bind ?_))
  show wpAny _ X.A (do let _ ← comprehension (.ListComp (.Name x p1) [⟨.Name x p2, e, [], 0⟩] scope pos) scope X.env (firstIterPos [⟨.Name x p2, e, [], 0⟩] pos) (newList []) false (eval e X.env) (some (assign (.Name y py) X.env))) _ _ s
  have hq : tListG tg σ H (fun x H1 => gName i x σ H1 D.nx) := h0
  refine wpAny_bind (thn (lcGen_core (Qf := fun _ s' => SP X pins D .next s') I h hE hr hk hn hx hu hd hs hq fun L C s' m H' I' q hn f => ?_) fun _ s' hq => wpAny_pure (wpAny_pure hq))
  show wpAny _ _ (assign (.Name y py) X.env (.ref L)) _ _ _
  refine wpAny_assign_Name (store_ok2 (v := V.ref L) I' hN hy (.inl hyl) rfl (fun s2 I2 ⟨a, sb, ha⟩ => ?_) (.inr hyl))
  obtain ⟨f0, f1, f2, f3, f4, f5⟩ := f
  have haC : C ≠ a := by
    rcases ha with z | z
    · rw [z]; exact f1
    · exact fun e => f4 y a z e.symm
  refine ⟨m, hn.sameBut sb haC, fun h3 sb3 => ?_⟩
  exact ⟨_, H', I2.turned (t' := s2.toks) (fun b o hb e => (sb3.2 b hb).trans e) f0 f1 f3 f4 f5, q⟩
end
end G2

set_option Elab.async false
set_option linter.all false
set_option autoImplicit false
set_option maxRecDepth 100000
set_option maxHeartbeats 4000000
namespace G2
open PySem PySem.Spec PyProof.Rows L2 GenW Ch
theorem PS.nox' {X : Cx} {st : Stmt} {t : TS} (h : PS X.nox st t) : PS X st t := ⟨fun pins s σ H D I hw =>
  wpAny_mono (h.run pins s σ H D (I.wish _) hw) (fun _ _ q => q.unwish) fun _ _ z => False.elim z⟩
/-- a generator def, told by the head -/
theorem gen_ok {P : Program} {w : World} {K : PySem.W.Frag} {mg : Str → Option Value} {base : Heap} {x qual : Str} {params : Arguments} {body : List Stmt} {scope : Scope} {kws : List (Str × V)} {f : Addr} {fd : FuncData} {N ps : List Str} {k : Nat} {sp : SpG}
    (F : FunD K x qual params body scope [] kws f fd) (S : GScope N ps scope) (len : ∀ vs H Q E, sp vs H Q E → vs.length = ps.length)
    (hbody : ∀ (cdv : Value) (A : Around) (outer : List Env) (s : Shared) (H : Hp) (vs : List V) (Q : List V → Hp → Prop) (E : XK) (pn : List (Addr × Obj)), Room k (A.deeper (envOfC qual scope s.heap.objs.size f cdv)) → sp vs H Q E →
      ∃ t, GSs2 (gcxOf P w K mg base N qual scope f cdv A outer s H E pn) body t ∧ t { nx := fun ys _ H' => Q ys H', rt := fun ys v H' => v = .non ∧ Q ys H' } [] (start N vs) H) : GFn2 P w K mg base (k + 1) f fd ps sp := by
  obtain ⟨oc, od, dV, kV, doc, pm, an, cdv, ct, osl, rfl, lk, hcd, _, _⟩ := F.ex
  exact gfn2_of lk hcd S len fun A outer s H vs Q E pn hr hsp => hbody cdv A outer s H vs Q E pn hr hsp
/-! #### readings -/
section
variable {σ : L2.St} {H : Hp} {Q : VK} {D : GEnds} {ys : List V}
theorem x_plain {t : TS} (k : t (D.at ys) σ H) : tPlain t D ys σ H := k
theorem x_gn {N : List V → L2.St → Hp → Prop} {rt : List V → VK} {bk ct : List V → L2.St → Hp → Prop} (k : N ys σ H) : (({ nx := N, rt := rt, bk := bk, ct := ct } : GEnds).at ys).nx σ H := k
theorem x_gm {N : List V → L2.St → Hp → Prop} {rt : List V → VK} {bk ct : List V → L2.St → Hp → Prop} (k : N ys σ H) : ({ nx := N, rt := rt, bk := bk, ct := ct } : GEnds).nx ys σ H := k
theorem x_g0 (k : D.nx ys σ H) : tG0 D ys σ H := k
theorem x_gthen {t u : TGn} (k : t { D with nx := fun ys' σ' H' => u D ys' σ' H' } ys σ H) : tGThen t u D ys σ H := k
theorem x_gyield {te : TE} (h : ys.length < sizeLine) (k : te σ H fun x H1 => D.nx (ys ++ [x]) σ H1) : tGYield te D ys σ H := ⟨h, k⟩
def ForG (J : It) (g : TG) (tb : TGn) (D : GEnds) (ys : List V) (σ : L2.St) (H1 : Hp) : Prop := ∃ W : Nat → Nat → List V → L2.St → Hp → Prop, (∃ m, W 0 m ys σ H1) ∧ ∀ i m ys σ H, W i m ys σ H →
  (J.stop i H ∧ D.nx ys σ H) ∨ (J.go i H ∧ ∃ N : List V → L2.St → Hp → Prop, (∀ ys' σ' H', N ys' σ' H' → ∃ m', m' < m ∧ W (i + 1) m' ys' σ' H') ∧ ∀ x H', J.yld i H x H' → g x σ H' fun σ2 H2 => tb { D with nx := N, ct := N, bk := D.nx } ys σ2 H2)
theorem x_gfor {wi : TI} {g : TG} {tb : TGn} (k : wi σ H fun J H1 => ForG J g tb D ys σ H1) : tGFor wi g tb D ys σ H := k
theorem x_gloopR {lo : Int} {n : Nat} {g : TG} {tb : TGn} (Pv : Nat → List V → L2.St → Hp → Prop) (h0 : Pv 0 ys σ H)
    (hs : ∀ i ys σ H, i < n → Pv i ys σ H → g (.int (lo + i)) σ H fun σ2 H2 => tb { D with nx := Pv (i + 1), ct := Pv (i + 1), bk := D.nx } ys σ2 H2) (hd : ∀ ys σ H, Pv n ys σ H → D.nx ys σ H) : ForG (Itr lo n) g tb D ys σ H := by
  refine ⟨fun i m ys σ H => m = n - i ∧ i ≤ n ∧ Pv i ys σ H, ⟨n, by simp, Nat.zero_le _, h0⟩, ?_⟩
  rintro i m ys σ H ⟨rfl, hi, p⟩
  by_cases hlt : i < n
  · refine .inr ⟨hlt, Pv (i + 1), fun ys' σ' H' p' => ⟨n - (i + 1), by omega, rfl, hlt, p'⟩, fun x H' y => ?_⟩
    obtain ⟨e, y⟩ := y
    subst e y
    exact hs i ys σ _ hlt p
  · have e : i = n := by omega
    subst e
    exact .inl ⟨Nat.le_refl _, hd ys σ H p⟩
theorem x_listG {tg : TGen} (k : tg σ H fun out H2 => ∀ p, H2 p = none → Q (.ref p) (upd H2 p (.lst out))) : tListG tg σ H Q := k
theorem x_callG {sp : SpG} {dvs : List V} {E : XK} {t : TA} {cont : List V → Hp → Prop} (k : t σ H fun vs H1 => sp (vs ++ dvs) H1 cont E) : tCallG sp dvs E t σ H cont := k
end
end G2

set_option Elab.async false
set_option linter.all false
set_option autoImplicit false
set_option maxRecDepth 100000
set_option pp.maxSteps 1500
set_option maxHeartbeats 4000000


namespace K13
open PySem PySem.Spec PyProof.Rows L2 He ChH Ch ChM
local macro_rules | `(tactic| walk_at "x1") => `(tactic| first
  | ((with_reducible apply x_var); exact rfl)
  | with_reducible refine x_c ?_
  | with_reducible refine x_op ?_
  | with_reducible refine x_seq ?_
  | with_reducible refine x_asg ?_
  | with_reducible refine x_gname ?_
  | with_reducible refine x_cons ?_
  | with_reducible refine x_nil ?_
  | with_reducible refine x_fld ?_
  | with_reducible refine x_ret ?_
  | with_reducible refine x_ifS ?_
  | with_reducible refine x_test ?_
  | with_reducible refine x_ex ?_
  | with_reducible refine x_call ?_
  | with_reducible refine x_mk ?_
  | with_reducible refine x_meth ?_
  | with_reducible refine x_prop ?_
  | with_reducible refine x_cb ?_
  | with_reducible refine x_tup ?_
  | with_reducible refine x_lst ?_
  | with_reducible refine x_drop ?_
  | with_reducible refine x_for ?_
  | with_reducible refine x_iL ?_
  | with_reducible refine x_iT ?_
  | with_reducible refine x_iE ?_
  | with_reducible refine x_iU ?_
  | with_reducible refine x_iR1 ?_
  | with_reducible refine x_iR2 ?_
  | with_reducible refine x_gcons ?_
  | with_reducible refine x_gnil ?_
  | with_reducible refine x_par ?_
  | with_reducible refine x_lstRg ?_
  | with_reducible refine x_rg1 ?_
  | with_reducible refine x_rg1At ?_
  | with_reducible refine x_par3 ?_
  | with_reducible refine x_bm ?_
  | with_reducible refine x_bm0 ?_
  | with_reducible refine x_gSub ?_
  | with_reducible refine x_lc ?_
  | with_reducible refine x_yes ?_
  | with_reducible refine x_setf ?_
  | with_reducible refine x_next ?_
  | with_reducible refine x_B ?_
  | with_reducible refine x_and ?_
  | with_reducible refine x_or ?_
  | with_reducible refine x_not ?_
  | with_reducible refine x_andV ?_
  | with_reducible refine x_orV ?_
  | with_reducible refine x_notV ?_
  | with_reducible refine x_ifE ?_
  | with_reducible refine x_chain ?_
  | with_reducible refine x_chain3 ?_
  | with_reducible refine x_un ?_
  | with_reducible refine x_isNe ?_
  | with_reducible refine x_notNe ?_
  | with_reducible refine x_starA ?_
  | with_reducible refine x_plusI ?_
  | with_reducible refine x_minus ?_
  | with_reducible refine x_lt ?_
  | with_reducible refine x_le ?_
  | with_reducible refine x_gt ?_
  | with_reducible refine x_ge ?_
  | with_reducible refine x_eqI ?_
  | with_reducible refine x_neI ?_
  | with_reducible refine x_eqS ?_
  | with_reducible refine x_eqB ?_
  | with_reducible refine x_neB ?_
  | with_reducible refine x_int ?_
  | with_reducible refine x_intB ?_
  | with_reducible refine x_max2 ?_
  | with_reducible refine x_min2 ?_
  | with_reducible refine x_max3 ?_
  | with_reducible refine x_abs ?_
  | with_reducible refine x_neg ?_
  | with_reducible refine x_isi_ii ?_
  | with_reducible refine x_isi_ib ?_
  | with_reducible refine x_T ?_
  | with_reducible refine x_nT ?_
  | with_reducible refine x_nF ?_
  | with_reducible refine x_F ?_)
local macro_rules | `(tactic| walk_at "x") => `(tactic| repeat walk_at "x1")

section
variable {P : Program} {w : World} {K : PySem.W.Frag} {mg : Str → Option Value} {base : Heap}
def spNum : Sp := fun vs H Q _ => ∃ n : Int, vs = [.int n] ∧ Q (.bl (decide (0 ≤ n ∧ n ≤ 1000000000000000000))) H
theorem ok_is_number (W : Wd K mg) : FnR P w K mg base CX0 1 (ga K "is_number") spNum := by
  refine (def_ok W.F_is_number sc_is_number (fun _ _ _ _ _ _ us hl => match us, hl with | [_], _ => rfl) (fun vs H Q E ⟨n, e, _⟩ => by rw [e]; rfl) fun cdv A outer s H vs Q E hr ⟨n, e, k⟩ => ?_).2
  subst e
  refine ⟨_, PSs.nox (pss_one (ps_ret (pe_and (pe_callB (c_isiK K) (by rfl) W.f_isinstance (by decide +kernel) (pa_cons (pv 0) (pa_cons (pe_bltn (v := .ty "int") (by rfl) W.f_int (by decide +kernel) rfl) pa_nil))) (pe_and (pe_not (pe_callB (c_isiK K) (by rfl) W.f_isinstance (by decide +kernel) (pa_cons (pv 0) (pa_cons (pe_bltn (v := .ty "bool") (by rfl) W.f_bool (by decide +kernel) rfl) pa_nil)))) (pe_one (pe_chain op_leI op_leI pe_int (pv 0) (pe_cv W.g_Plan W.r_Plan W.v_Plan_MAX_CHAIRS rfl))))))), ?_⟩
  walk_at "x"
  refine x_ifd (fun h => ?_) fun h => ?_
  · walk_at "x"
    rw [show decide (n ≤ 1000000000000000000) = decide (0 ≤ n ∧ n ≤ 1000000000000000000) by simp [h]]
    exact k
  · rw [show decide (0 ≤ n ∧ n ≤ 1000000000000000000) = false by simp [h]] at k
    exact k
def spStep : Sp := fun vs H Q _ => ∃ (p : Addr) (s : Stp), vs = [.ref p] ∧ H p = some (.tup (stepV s)) ∧ goodS s ∧ ∀ H', Same H H' → Q (.bl true) H'
theorem ok_is_step (W : Wd K mg) : FnR P w K mg base CX0 2 (ga K "is_step") spStep := by
  refine (def_ok W.F_is_step sc_is_step (fun _ _ _ _ _ _ us hl => match us, hl with | [_], _ => rfl) (fun vs H Q E ⟨p, s, e, _⟩ => by rw [e]; rfl) fun cdv A outer s H vs Q E hr ⟨p, st, e, hp, hg, k⟩ => ?_).2
  subst e
  refine ⟨_, PSs.nox (pss_cons (ps_if (pt_cmpR (op_eqK K hr.units) (pv 0) (pe_tup (pa_cons (pe_gs W.t_TURN rfl) pa_nil)) (nomark _)) (pss_one (ps_ret pe_bl)) pss_nil) (pss_one (ps_ret (pe_and (pe_cmpR (op_eqK K hr.units) (pe_callB (c_lenK K) (by rfl) W.f_len (by decide +kernel) (pa_cons (pv 0) pa_nil)) pe_int (nomark _)) (pe_and (pe_cmpR (op_inK K) (pe_ix (ix_K K) (pv 0) pe_int (fun _ _ => rfl)) (pe_tup (pa_cons (pe_gs W.t_RED rfl) (pa_cons (pe_gs W.t_BLUE rfl) pa_nil))) rfl) (pe_one (pe_callR (ok_is_number W) (hr.mono (by decide)) W.g_is_number W.k_is_number pass0 rfl (pa_cons (pe_ix (ix_K K) (pv 0) pe_int (fun _ _ => rfl)) pa_nil)))))))), ?_⟩
  walk_at "x"
  refine ⟨sz rfl, fun t ht => eq_turn (up hp ht) upd_same ?_⟩
  walk_at "x"
  refine x_ifd (fun e => ?_) fun e => ?_
  · walk_at "x"
    exact k _ (Same.new ht)
  · walk_at "x"
    cases st with
    | turn => exact absurd rfl e
    | mt b n =>
      obtain ⟨n0, n1⟩ := hg b n rfl
      refine x_lenT (SqT.of (up hp ht)) ?_
      walk_at "x"
      refine x_T ?_
      walk_at "x"
      refine x_ixT (SqT.of (up hp ht)) (i := 0) rfl ?_
      walk_at "x"
      refine ⟨sz rfl, fun u hu => x_inT (SqT.of upd_same) rfl rfl ?_⟩
      rw [show inV (V.str (roomS b)) [V.str "red", V.str "blue"] = true by cases b <;> decide +kernel]
      walk_at "x"
      refine x_ixT (SqT.of (up (up hp ht) hu)) (i := 1) rfl ?_
      walk_at "x"
      refine ⟨n, rfl, ?_⟩
      rw [decide_eq_true ⟨n0, n1⟩]
      exact k _ ((Same.new ht).trans (Same.new hu))
/-! ### Plan -/
abbrev CP (K : PySem.W.Frag) : Addr := ga K "Plan"
theorem ok_Plan_steps (W : Wd K mg) : FnR P w K mg base CX0 1 (gp "Plan" "steps" K) (fun vs H Q _ => ∃ p dx fs v, vs = [.ref p] ∧ H p = some (.ins (CP K) dx fs) ∧ fs.lookup ("parts" : Str) = some v ∧ Q v H) := by
  refine (def_ok W.F_Plan_steps sc_Plan_steps (fun _ _ _ _ _ _ us hl => match us, hl with | [_], _ => rfl) (fun vs H Q E ⟨p, dx, fs, v, e, _⟩ => by rw [e]; rfl) fun cdv A outer s H vs Q E hr ⟨p, dx, fs, v, e, hp, l, k⟩ => ?_).2
  subst e
  refine ⟨_, PSs.nox (pss_one (ps_ret (pe_fldK K (pv 0)))), ?_⟩
  walk_at "x"
  exact x_fldAt hp W.c_Plan W.n_Plan_parts l k
/-- __init__ on the tuple of the steps -/
def spPI (K : PySem.W.Frag) : Sp := fun vs H Q _ => ∃ (x t dx : Addr) (ps : List V) (l : List Stp), vs = [.ref x, .ref t] ∧ H x = some (.ins (CP K) dx []) ∧ H t = some (.tup ps) ∧ StepsAt H ps l ∧ goodP l ∧
  ∀ H', (∀ b o, b ≠ x → H b = some o → H' b = some o) → H' x = some (.ins (CP K) dx [("parts", .ref t)]) → Q .non H'
theorem ok_Plan_init (W : Wd K mg) : FnR P w K mg base CX0 3 (ma K (ga K "Plan") "__init__") (fun vs H Q E => ∃ ws rest, vs = ws ++ rest ∧ ws.length = ["self"].length ∧ rest.length ≤ sizeLine ∧ ∀ p, H p = none → spPI K (ws ++ [V.ref p]) (upd H p (.tup rest)) Q E) := by
  refine star_ok (ps := ["self"]) (pv := "steps") (sp := spPI K) W.F_Plan_init sc_Plan_init StX.cxUp_none (fun _ _ _ _ _ _ us rest hl => match us, rest, hl with | [_], [], _ => rfl | [_], _ :: _, _ => rfl) fun cdv A outer s H vs Q E hr ⟨x, t, dx, ps, l, e, hx, ht, hs, hg, k⟩ => ?_
  subst e
  have hl : ps.length = l.length := pr_len hs
  have h60 := hg.2
  refine ⟨_, PSs.nox (pss_cons (ps_for PassesOwn.never rfl (pi_enumTK K W.f_enumerate (pa_cons (pv 1) pa_nil)) (pg_tupK (n := 2) K rfl (pgs_cons (pg_name (i := 2) sc_Plan_init.nd rfl (Or.inl rfl)) (pgs_cons (pg_name (i := 3) sc_Plan_init.nd rfl (Or.inl rfl)) pgs_nil))) (pss_one (ps_if (PW.pt (pw_or (pt_cmpR (op_eqK K hr.units) (pv 2) (pe_cv W.g_Plan W.r_Plan W.v_Plan_MAX_STEPS rfl) (nomark _)) (pw_or1 (pt_not (pt_val (pe_callR (ok_is_step W) (hr.mono (by decide)) W.g_is_step W.k_is_step pass0 rfl (pa_cons (pv 3) pa_nil))))))) (pss_one ps_never) pss_nil))) (pss_one (ps_fldK K (pv 0) (pv 1)))), ?_⟩
  walk_at "x"
  refine x_iUAt (SqT.of ht) (x_loop walk_enumT (fun i σ H2 => (∃ a b, σ = [some (.ref x), some (.ref t), a, b]) ∧ Same H H2) ⟨⟨_, _, rfl⟩, Same.refl H⟩ (fun i σ H2 _ ⟨_, s2⟩ => SqT.of (s2 _ _ ht)) ?_ ?_)
  · rintro i y σ H2 H3 hi ⟨⟨a, b, rfl⟩, s2⟩ ⟨T, v1, v2, rfl, hT, rfl, e1, e2⟩
    cases e1
    have hi' : i < 60 := by omega
    obtain ⟨st, hst, p, rfl, hp⟩ := pr_at hs e2
    refine x_gTup upd_same rfl ?_
    walk_at "x"
    refine x_ifd (fun e => ?_) fun e => ?_
    · omega
    walk_at "x"
    have hp2 := up (u := .tup [.int (i : Nat), .ref p]) (s2 _ _ hp) hT
    refine ⟨p, st, rfl, hp2, hg.1 st (List.mem_of_getElem? hst), fun H4 s4 => ?_⟩
    walk_at "x"
    exact ⟨⟨_, _, rfl⟩, (s2.trans (Same.new hT)).trans s4⟩
  · rintro σ H2 ⟨⟨a, b, rfl⟩, s2⟩
    walk_at "x"
    refine x_setAt (s2 _ _ hx) W.c_Plan W.n_Plan_parts (by decide) ?_
    refine k _ (fun b o hb e => by rw [upd_ne hb]; exact s2 _ _ e) ?_
    rw [upd_same]
    rfl
/-- Plan(..) made -/
theorem mk_plan {vs : List V} {l : List Stp} {H : Hp} {kk : Addr → Hp → Prop} {E : XK} (hs : StepsAt H vs l) (hg : goodP l) (k : ∀ x H', H x = none → Same H H' → PlanAt (CP K) H' x l → kk x H') :
    ∀ x dx, H x = none → H dx = none → dx ≠ x → ∃ ws rest, V.ref x :: vs = ws ++ rest ∧ ws.length = ["self"].length ∧ rest.length ≤ sizeLine ∧
      ∀ p, (upd (upd H dx (.own x)) x (.ins (CP K) dx [])) p = none → spPI K (ws ++ [V.ref p]) (upd (upd (upd H dx (.own x)) x (.ins (CP K) dx [])) p (.tup rest)) (fun v H2 => v = .non ∧ kk x H2) E := by
  intro x dx hx hdx hne
  have hl : vs.length = l.length := pr_len hs
  have h60 := hg.2
  refine ⟨[.ref x], vs, rfl, rfl, sz5 (by omega), fun p hp => ?_⟩
  have s1 : Same H (upd (upd H dx (.own x)) x (.ins (CP K) dx [])) := Same.mut (Same.new hdx) hx
  have s2 := s1.trans (Same.new (o := .tup vs) hp)
  refine ⟨x, p, dx, vs, l, rfl, up upd_same hp, upd_same, hs.mono s2, hg, fun H' kp hx' => ⟨rfl, ?_⟩⟩
  have hpx : p ≠ x := by
    intro e
    rw [e, upd_same] at hp
    cases hp
  refine k x H' hx (fun b o e => kp b o (ne_of_none e hx) (s2 b o e)) ⟨dx, p, vs, hx', kp p _ hpx upd_same, ?_⟩
  refine pr_im ?_ (hs.mono s2)
  rintro v st ⟨q, e1, e2⟩
  refine ⟨q, e1, kp q _ ?_ e2⟩
  rintro rfl
  rw [upd_ne hpx.symm, upd_same] at e2
  cases e2
theorem ok_Plan_is_turning (W : Wd K mg) : FnR P w K mg base CX0 2 (gp "Plan" "is_turning" K) (fun vs H Q _ => ∃ p l, vs = [.ref p] ∧ PlanAt (CP K) H p l ∧ l.length ≤ 60 ∧ ∀ H', Same H H' → Q (.bl (turning l)) H') := by
  refine (def_ok W.F_Plan_is_turning sc_Plan_is_turning (fun _ _ _ _ _ _ us hl => match us, hl with | [_], _ => rfl) (fun vs H Q E ⟨p, l, e, _⟩ => by rw [e]; rfl) fun cdv A outer s H vs Q E hr ⟨p, l, e, hp, h60, k⟩ => ?_).2
  subst e
  obtain ⟨dx, t, vs, h1, h2, h3⟩ := hp.ex
  have hl : vs.length = l.length := pr_len h3
  refine ⟨_, PSs.nox (pss_one (ps_ret (pe_cmpR (op_eqK K hr.units) (pe_op op_modP (pe_callTy c_int (by rfl) W.f_int (by decide +kernel) (pa_cons (pe_callB (c_lenK K) (by rfl) W.f_len (by decide +kernel) (pa_cons (pe_lc (own := [("step", 1)]) (g := gName 1) rfl sc_Plan_is_turning.nd (pi_tupK K (pe_fldK K (pv 0))) (blkOk_by (own := [("step", 1)]) (N := N_Plan_is_turning) (sc := defScope s_Plan_is_turning) (by decide +kernel)) (fun _ _ _ _ _ => (pg_name (i := 1) sc_Plan_is_turning.nd rfl (Or.inl rfl))) (fun _ _ _ _ _ => (pts_one (pt_cmpR (op_eqK K hr.units) (pv 1) (pe_tup (pa_cons (pe_gs W.t_TURN rfl) pa_nil)) (nomark _)))) (fun _ _ _ _ _ => (pv 1))) pa_nil)) pa_nil)) pe_int) pe_int (nomark _)))), ?_⟩
  walk_at "x"
  refine x_fldAt h1 W.c_Plan W.n_Plan_parts rfl (x_iTAt (SqT.of h2) ?_)
  refine x_lcA walk_tup (fun i acc _ => acc.length = turns (l.take i)) (fun _ _ _ _ _ _ _ h => h) (fun _ _ => rfl) (by omega) (fun H' s1 => SqT.of (s1 _ _ h2)) ?_ ?_
  · rintro i x acc H1 H' NT NF hT hF hi s1 a1 ⟨rfl, e⟩
    obtain ⟨st, hst, q, rfl, hq⟩ := pr_at h3 e
    walk_at "x"
    refine ⟨rfl, ?_⟩
    walk_at "x"
    refine ⟨sz rfl, fun u hu => eq_turn (up (s1 _ _ hq) hu) upd_same ?_⟩
    walk_at "x"
    refine x_ifd (fun e => ?_) fun e => ?_
    · walk_at "x"
      refine hT _ _ (Same.new hu) ?_
      rw [turns_step hst, if_pos e, List.length_append, a1]
      rfl
    · refine hF _ (Same.new hu) ?_
      rw [turns_step hst, if_neg e, a1]
      rfl
  · rintro D acc H' hD s1 hD' a1 _
    walk_at "x"
    refine x_lenL (SqL.of hD') ?_
    walk_at "x"
    refine x_mod (by decide) ?_
    walk_at "x"
    rw [hl, List.take_length] at a1
    have e : decide ((acc.length : Int) % 2 = 1) = turning l := by
      rw [a1]
      unfold turning
      by_cases z : turns l % 2 = 1
      · rw [z, decide_eq_true (by omega)]
        rfl
      · rw [decide_eq_false (by omega)]
        symm
        exact beq_false_of_ne z
    rw [e]
    exact k _ s1
def spSides (K : PySem.W.Frag) : Sp := fun vs H Q _ => ∃ p l, vs = [.ref p] ∧ PlanAt (CP K) H p l ∧ l.length ≤ 60 ∧ ∀ r ps H', H r = none → Same H H' → H' r = some (.lst ps) → PairsAt H' ps (sides 1 l) → Q (.ref r) H'
theorem ok_sides_of (W : Wd K mg) : FnR P w K mg base CX0 3 (ga K "sides_of") (spSides K) := by
  refine (def_ok W.F_sides_of sc_sides_of (fun _ _ _ _ _ _ us hl => match us, hl with | [_], _ => rfl) (fun vs H Q E ⟨p, l, e, _⟩ => by rw [e]; rfl) fun cdv A outer s H vs Q E hr ⟨p, l, e, hp, h60, k⟩ => ?_).2
  subst e
  obtain ⟨dx, t, vs, h1, h2, h3⟩ := hp.ex
  have hl : vs.length = l.length := pr_len h3
  refine ⟨_, PSs.nox (pss_cons (ps_par (i := 1) (j := 2) (by rfl) sc_sides_of.nd rfl rfl (by decide) rfl rfl (pa_cons (pe_lst pa_nil) (pa_cons pe_int pa_nil)) (by rfl)) (pss_cons (ps_for PassesOwn.never rfl (pi_tupK K (pe_propR W.c_Plan W.p_Plan_steps (ok_Plan_steps W) (hr.mono (by decide)) (pv 0))) (pg_starK (n := 2) (i := 1) K rfl (pgs_cons (pg_name (i := 3) sc_sides_of.nd rfl (Or.inl rfl)) (pgs_star (pg_name (i := 4) sc_sides_of.nd rfl (Or.inl rfl)) pgs_nil))) (pss_one (ps_if (pt_cmpR (op_eqK K hr.units) (pv 3) (pe_gs W.t_TURN rfl) (nomark _)) (pss_cons (ps_set (i := 2) sc_sides_of.nd rfl (Or.inl rfl) (pe_op op_minus pe_int (pv 2))) (pss_one (ps_expr (pe_bmK K PySem.F.plainAttrs_list PySem.F.slot_list_append PySem.F.type_list_append mt_append (pv 1) (pa_cons (pe_tup (pa_cons pe_int (pa_cons pe_int pa_nil))) pa_nil))))) (pss_one (ps_expr (pe_bmK K PySem.F.plainAttrs_list PySem.F.slot_list_append PySem.F.type_list_append mt_append (pv 1) (pa_cons (pe_tup (pa_cons (pe_ifExp (pt_cmpR (op_eqK K hr.units) (pv 3) (pe_gs W.t_RED rfl) (nomark _)) (pv 2) (pe_op op_minus pe_int (pv 2))) (pa_cons (pe_ix (ix_K K) (pv 4) pe_int (fun _ _ => rfl)) pa_nil))) pa_nil))))))) (pss_one (ps_ret (pv 1))))), ?_⟩
  walk_at "x"
  refine ⟨sz rfl, fun r hr0 => ?_⟩
  walk_at "x"
  refine ⟨_, _, rfl, ?_⟩
  walk_at "x"
  refine x_propAt (up h1 hr0) ⟨p, dx, _, _, rfl, up h1 hr0, rfl, ?_⟩
  refine x_iTAt (SqT.of (up h2 hr0)) (x_loop walk_tup (fun i σ H2 => (∃ a b, σ = [some (.ref p), some (.ref r), some (.int (sideAt 1 (l.take i))), a, b]) ∧ Same H H2 ∧ ∃ ps, H2 r = some (.lst ps) ∧ PairsAt H2 ps (sides 1 (l.take i))) ⟨⟨_, _, rfl⟩, Same.new hr0, [], upd_same, .nil⟩ (fun i σ H2 _ ⟨_, s2, _⟩ => SqT.of (s2 _ _ h2)) ?_ ?_)
  · rintro i y σ H2 H3 hi ⟨⟨a, b, rfl⟩, s2, ps, hps, hpp⟩ ⟨rfl, ey⟩
    obtain ⟨st, hst, q, rfl, hq⟩ := pr_at h3 ey
    have hq2 := s2 _ _ hq
    have tk : l.take (i + 1) = l.take i ++ [st] := by rw [List.take_add_one, hst]; rfl
    have lps : ps.length = (sides 1 (l.take i)).length := pr_len hpp
    rw [sides_len, List.length_take] at lps
    cases st with
    | turn =>
      refine x_star1 hq2 fun d hd => ?_
      walk_at "x"
      refine x_T ?_
      walk_at "x"
      refine ⟨ty_lst (up hps hd), ?_⟩
      walk_at "x"
      refine ⟨sz rfl, fun u hu => ?_⟩
      walk_at "x"
      refine x_app (up (up hps hd) hu) (sz5' (by omega)) ?_
      have s3 : Same H3 (upd (upd H3 d (.lst [])) u (.tup (pairV (0, 0)))) := (Same.new hd).trans (Same.new hu)
      walk_at "x"
      refine ⟨?_, ?_, _, upd_same, ?_⟩
      · rw [tk, sideAt_snoc]
        exact ⟨_, _, rfl⟩
      · exact Same.mut (s2.trans s3) hr0
      · rw [tk, sides_snoc]
        refine pr_snoc ?_ ⟨u, rfl, ?_⟩
        · exact hpp.mono2 s3 (s3 _ _ hps)
        · rw [upd_ne (ne_of upd_same (s3 _ _ hps) (by intro z; cases z))]
          exact upd_same
    | mt c n =>
      refine x_star2 hq2 fun d hd => ?_
      walk_at "x"
      rw [show decide (roomS c = ("turn" : Str)) = false by cases c <;> decide +kernel]
      walk_at "x"
      refine ⟨ty_lst (up hps hd), ?_⟩
      walk_at "x"
      rw [show decide (roomS c = ("red" : Str)) = c by cases c <;> decide +kernel]
      have fin : ∀ (z : Int), z = (if c then sideAt 1 (l.take i) else 0 - sideAt 1 (l.take i)) → ∀ u, (upd H3 d (.lst [.int n])) u = none →
          (∃ a b, [some (V.ref p), some (.ref r), some (.int (sideAt 1 (l.take i))), some (.str (roomS c)), some (.ref d)] = [some (.ref p), some (.ref r), some (.int (sideAt 1 (l.take (i + 1)))), a, b]) ∧
          Same H (upd (upd (upd H3 d (.lst [.int n])) u (.tup [.int z, .int n])) r (.lst (ps ++ [.ref u]))) ∧
          ∃ qs, upd (upd (upd H3 d (.lst [.int n])) u (.tup [.int z, .int n])) r (.lst (ps ++ [.ref u])) r = some (.lst qs) ∧
            PairsAt (upd (upd (upd H3 d (.lst [.int n])) u (.tup [.int z, .int n])) r (.lst (ps ++ [.ref u]))) qs (sides 1 (l.take (i + 1))) := by
        intro z ez u hu
        have s3 : Same H3 (upd (upd H3 d (.lst [.int n])) u (.tup [.int z, .int n])) := (Same.new hd).trans (Same.new hu)
        refine ⟨?_, Same.mut (s2.trans s3) hr0, _, upd_same, ?_⟩
        · rw [tk, sideAt_snoc]
          exact ⟨_, _, rfl⟩
        · rw [tk, sides_snoc]
          refine pr_snoc (hpp.mono2 s3 (s3 _ _ hps)) ⟨u, rfl, ?_⟩
          rw [upd_ne (ne_of upd_same (s3 _ _ hps) (by intro z; cases z)), ez]
          exact upd_same
      have ix : ∀ (H4 : Hp), Same (upd H3 d (.lst [.int n])) H4 → SqL K H4 d [.int n] := fun H4 e => SqL.of (e _ _ upd_same)
      cases c with
      | true =>
        walk_at "x"
        refine x_ixL (ix _ (Same.refl _)) (i := 0) rfl ?_
        walk_at "x"
        refine ⟨sz rfl, fun u hu => ?_⟩
        walk_at "x"
        refine x_app (up (up hps hd) hu) (sz5' (by omega)) ?_
        walk_at "x"
        exact fin _ rfl u hu
      | false =>
        walk_at "x"
        refine x_ixL (ix _ (Same.refl _)) (i := 0) rfl ?_
        walk_at "x"
        refine ⟨sz rfl, fun u hu => ?_⟩
        walk_at "x"
        refine x_app (up (up hps hd) hu) (sz5' (by omega)) ?_
        walk_at "x"
        exact fin _ rfl u hu
  · rintro σ H2 ⟨⟨a, b, rfl⟩, s2, ps, hps, hpp⟩
    walk_at "x"
    rw [hl, List.take_length] at hpp
    exact k r ps _ hr0 s2 hps hpp
def spVH (K : PySem.W.Frag) : Sp := fun vs H Q _ => ∃ (p : Addr) (c : Int) (l : List Stp), vs = [.ref p, .int c] ∧ PlanAt (CP K) H p l ∧ l.length ≤ 60 ∧ 0 ≤ c ∧ c ≤ 1000000000000000000 ∧ fitsS c l ∧ ∀ H', Same H H' → Q .non H'
theorem ok_validate_house (W : Wd K mg) : FnR P w K mg base CX0 4 (ga K "validate_house") (spVH K) := by
  refine (def_ok W.F_validate_house sc_validate_house (fun _ _ _ _ _ _ us hl => match us, hl with | [_, _], _ => rfl) (fun vs H Q E ⟨p, c, l, e, _⟩ => by rw [e]; rfl) fun cdv A outer s H vs Q E hr ⟨p, c, l, e, hp, h60, c0, c1, hf, k⟩ => ?_).2
  subst e
  refine ⟨_, PSs.nox (pss_cons (ps_if (pt_not (pt_chain op_leI op_leI pe_int (pv 1) (pe_cv W.g_Plan W.r_Plan W.v_Plan_MAX_CHAIRS rfl))) (pss_one ps_never) pss_nil) (pss_one (ps_for PassesOwn.never rfl (pi_enumK K W.f_enumerate (pa_cons (pe_callR (ok_sides_of W) (hr.mono (by decide)) W.g_sides_of W.k_sides_of pass0 rfl (pa_cons (pv 0) pa_nil)) pa_nil)) (pg_tupK (n := 2) K rfl (pgs_cons (pg_name (i := 2) sc_validate_house.nd rfl (Or.inl rfl)) (pgs_cons (pg_tupK (n := 2) K rfl (pgs_cons (pg_name (i := 3) sc_validate_house.nd rfl (Or.inl rfl)) (pgs_cons (pg_name (i := 4) sc_validate_house.nd rfl (Or.inl rfl)) pgs_nil))) pgs_nil))) (pss_one (ps_if (pt_cmpR op_gtI (pv 4) (pv 1) (nomark _)) (pss_one ps_never) pss_nil))))), ?_⟩
  walk_at "x"
  rw [decide_eq_true c0]
  walk_at "x"
  rw [decide_eq_true c1]
  walk_at "x"
  refine ⟨p, l, rfl, hp, h60, fun r ps H1 hr0 s1 hps hpp => ?_⟩
  walk_at "x"
  have fp : fits c (sides 1 l) := sides_fits l 1 (.inl rfl) c0 hf
  refine x_iEAt (SqL.of hps) (x_loop walk_enum (fun i σ H2 => (∃ a b d, σ = [some (.ref p), some (.int c), a, b, d]) ∧ Same H1 H2) ⟨⟨_, _, _, rfl⟩, Same.refl _⟩ (fun i σ H2 _ ⟨_, s2⟩ => SqL.of (s2 _ _ hps)) ?_ ?_)
  · rintro i y σ H2 H3 hi ⟨⟨a, b, d, rfl⟩, s2⟩ ⟨T, v1, v2, rfl, hT, rfl, e1, e2⟩
    cases e1
    obtain ⟨⟨sd, n⟩, hst, q, rfl, hq⟩ := pr_at hpp e2
    have hf2 := (fp _ (List.mem_of_getElem? hst)).2.2
    refine x_gTup upd_same rfl ?_
    walk_at "x"
    refine x_gTup (up (s2 _ _ hq) hT) rfl ?_
    unfold pairV
    walk_at "x"
    refine x_ifd (fun e => ?_) fun e => ?_
    · exact absurd hf2 (by show ¬ n ≤ c; omega)
    walk_at "x"
    exact ⟨⟨_, _, _, rfl⟩, s2.trans (Same.new hT)⟩
  · rintro σ H2 ⟨⟨a, b, d, rfl⟩, s2⟩
    exact k _ (s1.trans s2)
/-- joined with one other plan -/
def spJ (K : PySem.W.Frag) : Sp := fun vs H Q _ => ∃ (p q t : Addr) (l m : List Stp), vs = [.ref p, .ref t] ∧ PlanAt (CP K) H p l ∧ PlanAt (CP K) H q m ∧ H t = some (.tup [.ref q]) ∧ goodP (l ++ m) ∧ ∀ x H', H x = none → Same H H' → PlanAt (CP K) H' x (l ++ m) → Q (.ref x) H'
theorem ok_Plan_joined (W : Wd K mg) : FnR P w K mg base CX0 5 (ma K (ga K "Plan") "joined") (fun vs H Q E => ∃ ws rest, vs = ws ++ rest ∧ ws.length = ["self"].length ∧ rest.length ≤ sizeLine ∧ ∀ p, H p = none → spJ K (ws ++ [V.ref p]) (upd H p (.tup rest)) Q E) := by
  refine star_ok (ps := ["self"]) (pv := "others") (sp := spJ K) W.F_Plan_joined sc_Plan_joined StX.cxUp_none (fun _ _ _ _ _ _ us rest hl => match us, rest, hl with | [_], [], _ => rfl | [_], _ :: _, _ => rfl) fun cdv A outer s H vs Q E hr ⟨p, q, t, l, m, e, hp, hq, ht, hg, k⟩ => ?_
  subst e
  obtain ⟨dx, tp, ps, h1, h2, h3⟩ := hp.ex
  obtain ⟨dy, tq, qs, g1, g2, g3⟩ := hq.ex
  have l1 : ps.length = l.length := pr_len h3
  have l2 : qs.length = m.length := pr_len g3
  have h60 := hg.2
  rw [List.length_append] at h60
  refine ⟨_, PSs.nox (pss_cons (ps_set (i := 2) sc_Plan_joined.nd rfl (Or.inl rfl) (pe_callTy (c_listK K) (by rfl) W.f_list (by decide +kernel) (pa_cons (pe_fldK K (pv 0)) pa_nil))) (pss_cons (ps_for PassesOwn.never rfl (pi_tupK K (pv 1)) (pg_name (i := 3) sc_Plan_joined.nd rfl (Or.inl rfl)) (pss_one (ps_expr (pe_bmK K PySem.F.plainAttrs_list PySem.F.slot_list_extend PySem.F.type_list_extend mt_extend (pv 2) (pa_cons (pe_callTy (c_listK K) (by rfl) W.f_list (by decide +kernel) (pa_cons (pe_propR W.c_Plan W.p_Plan_steps (ok_Plan_steps W) (hr.mono (by decide)) (pv 3)) pa_nil)) pa_nil))))) (pss_one (ps_ret (pe_mkS W.mk_Plan (ok_Plan_init W) (hr.mono (by decide)) W.g_Plan pass0 rfl (pv 2)))))), ?_⟩
  walk_at "x"
  refine x_fldAt h1 W.c_Plan W.n_Plan_parts rfl ?_
  walk_at "x"
  refine x_listT (SqT.of h2) fun r hr0 => ?_
  walk_at "x"
  refine x_iTAt (SqT.of (up ht hr0)) (x_loop walk_tup (fun i σ H2 => (∃ a, σ = [some (.ref p), some (.ref t), some (.ref r), a]) ∧ Same H H2 ∧ H2 r = some (.lst (if i = 0 then ps else ps ++ qs))) ⟨⟨_, rfl⟩, Same.new hr0, upd_same⟩ (fun i σ H2 _ ⟨_, s2, _⟩ => SqT.of (s2 _ _ ht)) ?_ ?_)
  · rintro i y σ H2 H3 hi ⟨⟨a, rfl⟩, s2, hrr⟩ ⟨rfl, ey⟩
    have i0 : i = 0 := by
      have : i < 1 := hi
      omega
    subst i0
    cases ey
    rw [if_pos rfl] at hrr
    walk_at "x"
    refine ⟨ty_lst hrr, ?_⟩
    walk_at "x"
    refine x_propAt (s2 _ _ g1) ⟨q, dy, _, _, rfl, s2 _ _ g1, rfl, ?_⟩
    walk_at "x"
    refine x_listT (SqT.of (s2 _ _ g2)) fun u hu => ?_
    walk_at "x"
    refine ⟨r, u, ps, qs, rfl, rfl, up hrr hu, upd_same, sz5 (by omega), ?_⟩
    walk_at "x"
    exact ⟨⟨_, rfl⟩, Same.mut (s2.trans (Same.new hu)) hr0, upd_same⟩
  · rintro σ H2 ⟨⟨a, rfl⟩, s2, hrr⟩
    walk_at "x"
    refine ⟨r, _, rfl, .inr (SqL.of hrr), ?_⟩
    refine mk_plan (l := l ++ m) (pr_app (h3.mono s2) (g3.mono s2)) hg fun x H' hx s3 hP => ?_
    exact k x H' (s2.free hx) (s2.trans s3) hP
end
end K13

set_option Elab.async false
set_option linter.all false
set_option autoImplicit false
set_option maxRecDepth 100000
set_option pp.maxSteps 1500
set_option maxHeartbeats 4000000
namespace K13
open PySem PySem.Spec PyProof.Rows L2 He ChH Ch ChM
local macro_rules | `(tactic| walk_at "x1") => `(tactic| first
  | ((with_reducible apply x_var); exact rfl)
  | with_reducible refine x_c ?_
  | with_reducible refine x_op ?_
  | with_reducible refine x_seq ?_
  | with_reducible refine x_asg ?_
  | with_reducible refine x_gname ?_
  | with_reducible refine x_cons ?_
  | with_reducible refine x_nil ?_
  | with_reducible refine x_fld ?_
  | with_reducible refine x_ret ?_
  | with_reducible refine x_ifS ?_
  | with_reducible refine x_test ?_
  | with_reducible refine x_ex ?_
  | with_reducible refine x_call ?_
  | with_reducible refine x_mk ?_
  | with_reducible refine x_meth ?_
  | with_reducible refine x_prop ?_
  | with_reducible refine x_cb ?_
  | with_reducible refine x_tup ?_
  | with_reducible refine x_lst ?_
  | with_reducible refine x_drop ?_
  | with_reducible refine x_for ?_
  | with_reducible refine x_iL ?_
  | with_reducible refine x_iT ?_
  | with_reducible refine x_iE ?_
  | with_reducible refine x_iU ?_
  | with_reducible refine x_iR1 ?_
  | with_reducible refine x_iR2 ?_
  | with_reducible refine x_gcons ?_
  | with_reducible refine x_gnil ?_
  | with_reducible refine x_par ?_
  | with_reducible refine x_lstRg ?_
  | with_reducible refine x_rg1 ?_
  | with_reducible refine x_rg1At ?_
  | with_reducible refine x_par3 ?_
  | with_reducible refine x_bm ?_
  | with_reducible refine x_bm0 ?_
  | with_reducible refine x_gSub ?_
  | with_reducible refine x_lc ?_
  | with_reducible refine x_yes ?_
  | with_reducible refine x_setf ?_
  | with_reducible refine x_next ?_
  | with_reducible refine x_B ?_
  | with_reducible refine x_and ?_
  | with_reducible refine x_or ?_
  | with_reducible refine x_not ?_
  | with_reducible refine x_andV ?_
  | with_reducible refine x_orV ?_
  | with_reducible refine x_notV ?_
  | with_reducible refine x_ifE ?_
  | with_reducible refine x_chain ?_
  | with_reducible refine x_chain3 ?_
  | with_reducible refine x_un ?_
  | with_reducible refine x_isNe ?_
  | with_reducible refine x_notNe ?_
  | with_reducible refine x_starA ?_
  | with_reducible refine x_plusI ?_
  | with_reducible refine x_minus ?_
  | with_reducible refine x_lt ?_
  | with_reducible refine x_le ?_
  | with_reducible refine x_gt ?_
  | with_reducible refine x_ge ?_
  | with_reducible refine x_eqI ?_
  | with_reducible refine x_neI ?_
  | with_reducible refine x_eqS ?_
  | with_reducible refine x_eqB ?_
  | with_reducible refine x_neB ?_
  | with_reducible refine x_int ?_
  | with_reducible refine x_intB ?_
  | with_reducible refine x_max2 ?_
  | with_reducible refine x_min2 ?_
  | with_reducible refine x_max3 ?_
  | with_reducible refine x_abs ?_
  | with_reducible refine x_neg ?_
  | with_reducible refine x_isi_ii ?_
  | with_reducible refine x_isi_ib ?_
  | with_reducible refine x_T ?_
  | with_reducible refine x_nT ?_
  | with_reducible refine x_nF ?_
  | with_reducible refine x_F ?_)
local macro_rules | `(tactic| walk_at "x") => `(tactic| repeat walk_at "x1")

local macro_rules | `(tactic| walk_at "eff") => `(tactic| first
  | refine x_eff (by assumption) (Wd.c_Effect (by assumption)) (Wd.n_Effect_chairs (by assumption)) eff_chairs ?_
  | refine x_eff (by assumption) (Wd.c_Effect (by assumption)) (Wd.n_Effect_low (by assumption)) eff_low ?_
  | refine x_eff (by assumption) (Wd.c_Effect (by assumption)) (Wd.n_Effect_high (by assumption)) eff_high ?_
  | refine x_eff (by assumption) (Wd.c_Effect (by assumption)) (Wd.n_Effect_extra (by assumption)) eff_extra ?_
  | refine x_eff (by assumption) (Wd.c_Effect (by assumption)) (Wd.n_Effect_goal (by assumption)) eff_goal ?_
  | refine x_eff (by assumption) (Wd.c_Effect (by assumption)) (Wd.n_Effect_turned (by assumption)) eff_turned ?_)
local macro_rules | `(tactic| walk_at "y") => `(tactic| repeat (first | walk_at "x1" | walk_at "eff"))

section
variable {P : Program} {w : World} {K : PySem.W.Frag} {mg : Str → Option Value} {base : Heap}
abbrev CE (K : PySem.W.Frag) : Addr := ga K "Effect"
theorem x_effM {C : Addr} {H : Hp} {p : Addr} {e : Eff} {m : Str} {kk : Addr → Hp → Prop} (h : EffAt C H p e) (l : (effF e).lookup m = none) (k : kk p H) : rMeth C m kk (.ref p) H := let ⟨_, q⟩ := h; x_methAt q l k
def spEI (K : PySem.W.Frag) : Sp := fun vs H Q _ => ∃ (x dx : Addr) (c lo hi ex : Int) (g : Option Int) (t : Bool), vs = [.ref x, .int c, .int lo, .int hi, .int ex, goalV g, .bl t] ∧ H x = some (.ins (CE K) dx []) ∧
  Q .non (upd H x (.ins (CE K) dx (effF (mkE c lo hi ex g t))))
theorem goal_non {g : Option Int} : decide (goalV g = V.non) = decide (g = none) := by
  cases g <;> rfl
theorem ok_Effect_init (W : Wd K mg) : FnR P w K mg base CX0 1 (ma K (ga K "Effect") "__init__") (spEI K) := by
  refine (def_ok W.F_Effect_init sc_Effect_init (fun _ _ _ _ _ _ us hl => match us, hl with | [_, _, _, _, _, _, _], _ => rfl) (fun vs H Q E ⟨x, dx, c, lo, hi, ex, g, t, e, _⟩ => by rw [e]; rfl) fun cdv A outer s H vs Q E hr ⟨x, dx, c, lo, hi, ex, g, t, e, hx, k⟩ => ?_).2
  subst e
  refine ⟨_, PSs.nox (pss_cons (ps_fldK K (pv 0) (pv 1)) (pss_cons (ps_fldK K (pv 0) (pv 2)) (pss_cons (ps_fldK K (pv 0) (pv 3)) (pss_cons (ps_fldK K (pv 0) (pv 4)) (pss_cons (ps_fldK K (pv 0) (pe_ifExp (PW.pt (pw_and (pt_cmp (pc_isN (pv 5))) (pw_and1 (pt_cmpR (op_eqK K hr.units) (pv 2) (pv 3) (nomark _))))) (pv 2) (pv 5))) (pss_one (ps_fldK K (pv 0) (pv 6)))))))), ?_⟩
  walk_at "x"
  refine x_setAt hx W.c_Effect W.n_Effect_chairs (by decide) ?_
  walk_at "x"
  refine x_setAt upd_same W.c_Effect W.n_Effect_low (of_decide_eq_true (by kernel_rfl)) ?_
  rw [upd_upd]
  walk_at "x"
  refine x_setAt upd_same W.c_Effect W.n_Effect_high (of_decide_eq_true (by kernel_rfl)) ?_
  rw [upd_upd]
  walk_at "x"
  refine x_setAt upd_same W.c_Effect W.n_Effect_extra (of_decide_eq_true (by kernel_rfl)) ?_
  rw [upd_upd]
  walk_at "x"
  rw [goal_non]
  have fin : ∀ g2 : Option Int, g2 = (if g = none ∧ lo = hi then some lo else g) → sFld K (tVar 0) (tVar 6) "turned" { nx := fun _ H' => Q .non H', rt := Q } [some (.ref x), some (.int c), some (.int lo), some (.int hi), some (.int ex), some (goalV g), some (.bl t)]
      (upd H x (.ins (CE K) dx (putF "goal" (goalV g2) (putF "extra" (.int ex) (putF "high" (.int hi) (putF "low" (.int lo) (putF "chairs" (.int c) []))))))) := by
    intro g2 e
    walk_at "x"
    refine x_setAt upd_same W.c_Effect W.n_Effect_turned (of_decide_eq_true (by kernel_rfl)) ?_
    rw [upd_upd]
    have ee : putF "turned" (.bl t) (putF "goal" (goalV g2) (putF "extra" (.int ex) (putF "high" (.int hi) (putF "low" (.int lo) (putF "chairs" (.int c) []))))) = effF (mkE c lo hi ex g t) := by
      unfold mkE
      rw [← e]
      kernel_rfl
    rw [ee]
    exact k
  refine x_ifd (fun e1 => ?_) fun e1 => ?_
  · walk_at "x"
    refine x_ifd (fun e2 => ?_) fun e2 => ?_
    · walk_at "x"
      refine x_setAt upd_same W.c_Effect W.n_Effect_goal (of_decide_eq_true (by kernel_rfl)) ?_
      rw [upd_upd]
      exact fin (some lo) (by rw [if_pos ⟨e1, e2⟩])
    · walk_at "x"
      refine x_setAt upd_same W.c_Effect W.n_Effect_goal (of_decide_eq_true (by kernel_rfl)) ?_
      rw [upd_upd]
      exact fin g (by rw [if_neg (fun z => e2 z.2)])
  · walk_at "x"
    refine x_setAt upd_same W.c_Effect W.n_Effect_goal (of_decide_eq_true (by kernel_rfl)) ?_
    rw [upd_upd]
    exact fin g (by rw [if_neg (fun z => e1 z.1)])
theorem mk_eff {c lo hi ex : Int} {g : Option Int} {gv : V} {t : Bool} {H : Hp} {kk : Addr → Hp → Prop} {E : XK} (eg : gv = goalV g) (k : ∀ x H', H x = none → Same H H' → EffAt (CE K) H' x (mkE c lo hi ex g t) → kk x H') :
    ∀ x dx, H x = none → H dx = none → dx ≠ x → spEI K [.ref x, .int c, .int lo, .int hi, .int ex, gv, .bl t] (upd (upd H dx (.own x)) x (.ins (CE K) dx [])) (fun v H2 => v = .non ∧ kk x H2) E := by
  intro x dx hx hdx hne
  refine ⟨x, dx, c, lo, hi, ex, g, t, by rw [eg], upd_same, rfl, ?_⟩
  rw [upd_upd]
  exact k x _ hx (Same.mut (Same.new hdx) hx) ⟨dx, upd_same⟩
def spE1 (K : PySem.W.Frag) (f : Eff → Int → Eff) : Sp := fun vs H Q _ => ∃ (p : Addr) (e : Eff) (n : Int), vs = [.ref p, .int n] ∧ EffAt (CE K) H p e ∧ ∀ x H', Same H H' → EffAt (CE K) H' x (f e n) → Q (.ref x) H'
theorem ok_Effect_at_least (W : Wd K mg) : FnR P w K mg base CX0 3 (ma K (ga K "Effect") "at_least") (spE1 K Eff.atLeast) := by
  refine (def_ok W.F_Effect_at_least sc_Effect_at_least (fun _ _ _ _ _ _ us hl => match us, hl with | [_, _], _ => rfl) (fun vs H Q E ⟨p, e, n, ev, _⟩ => by rw [ev]; rfl) fun cdv A outer s H vs Q E hr ⟨p, e, n, ev, hp, k⟩ => ?_).2
  subst ev
  refine ⟨_, PSs.nox (pss_cons (ps_if (pt_cmp (pc_isN (pe_fldK K (pv 0)))) (pss_cons (ps_if (pt_cmpR op_leI (pv 1) (pe_fldK K (pv 0)) (nomark _)) (pss_one (ps_ret (pe_mk W.mk_Effect (ok_Effect_init W) (hr.mono (by decide)) W.g_Effect pass0 rfl (pa_cons (pe_fldK K (pv 0)) (pa_cons (pe_callB (c_max2 rfl) (by rfl) W.f_max (by decide +kernel) (pa_cons (pe_fldK K (pv 0)) (pa_cons (pv 1) pa_nil))) (pa_cons (pe_fldK K (pv 0)) (pa_cons pe_int (pa_cons pe_non (pa_cons (pe_fldK K (pv 0)) pa_nil))))))))) pss_nil) (pss_one (ps_ret (pe_mk W.mk_Effect (ok_Effect_init W) (hr.mono (by decide)) W.g_Effect pass0 rfl (pa_cons (pe_fldK K (pv 0)) (pa_cons (pe_fldK K (pv 0)) (pa_cons (pe_fldK K (pv 0)) (pa_cons (pe_op op_minus (pv 1) (pe_fldK K (pv 0))) (pa_cons (pv 1) (pa_cons (pe_fldK K (pv 0)) pa_nil)))))))))) pss_nil) (pss_cons (ps_if (pt_cmpR op_leI (pv 1) (pe_fldK K (pv 0)) (nomark _)) (pss_one (ps_ret (pv 0))) pss_nil) (pss_one (ps_ret (pe_mk W.mk_Effect (ok_Effect_init W) (hr.mono (by decide)) W.g_Effect pass0 rfl (pa_cons (pe_fldK K (pv 0)) (pa_cons (pe_fldK K (pv 0)) (pa_cons (pe_fldK K (pv 0)) (pa_cons (pe_op op_minus (pe_op op_plus (pe_fldK K (pv 0)) (pv 1)) (pe_fldK K (pv 0))) (pa_cons (pv 1) (pa_cons (pe_fldK K (pv 0)) pa_nil))))))))))), ?_⟩
  unfold Eff.atLeast at k
  walk_at "y"
  rw [goal_non]
  cases g : e.goal with
  | none =>
    rw [g] at k
    dsimp only at k
    refine x_T ?_
    walk_at "y"
    refine x_ifd (fun h => ?_) fun h => ?_
    · rw [if_pos h] at k
      walk_at "y"
      exact mk_eff (g := none) rfl fun x H' _ s1 he => k x H' s1 he
    · rw [if_neg h] at k
      walk_at "y"
      exact mk_eff (g := some n) rfl fun x H' _ s1 he => k x H' s1 he
  | some y =>
    rw [g] at k
    dsimp only at k
    refine x_F ?_
    walk_at "y"
    rw [g]
    refine x_le ?_
    walk_at "y"
    refine x_ifd (fun h => ?_) fun h => ?_
    · rw [if_pos h] at k
      walk_at "y"
      exact k p H (Same.refl H) hp
    · rw [if_neg h] at k
      walk_at "y"
      rw [g]
      refine x_minus ?_
      walk_at "y"
      exact mk_eff (g := some n) rfl fun x H' _ s1 he => k x H' s1 he
theorem ok_Effect_mirrored (W : Wd K mg) : FnR P w K mg base CX0 3 (ma K (ga K "Effect") "mirrored") (fun vs H Q _ => ∃ (p : Addr) (e : Eff), vs = [.ref p] ∧ EffAt (CE K) H p e ∧ ∀ x H', Same H H' → EffAt (CE K) H' x e.mir → Q (.ref x) H') := by
  refine (def_ok W.F_Effect_mirrored sc_Effect_mirrored (fun _ _ _ _ _ _ us hl => match us, hl with | [_], _ => rfl) (fun vs H Q E ⟨p, e, ev, _⟩ => by rw [ev]; rfl) fun cdv A outer s H vs Q E hr ⟨p, e, ev, hp, k⟩ => ?_).2
  subst ev
  refine ⟨_, PSs.nox (pss_cons (ps_set (i := 1) sc_Effect_mirrored.nd rfl (Or.inl rfl) (pe_ifExp (pt_cmp (pc_isN (pe_fldK K (pv 0)))) pe_non (pe_op op_minus (pe_fldK K (pv 0)) (pe_fldK K (pv 0))))) (pss_one (ps_ret (pe_mk W.mk_Effect (ok_Effect_init W) (hr.mono (by decide)) W.g_Effect pass0 rfl (pa_cons (pe_fldK K (pv 0)) (pa_cons (pe_op op_minus (pe_fldK K (pv 0)) (pe_fldK K (pv 0))) (pa_cons (pe_op op_minus (pe_fldK K (pv 0)) (pe_fldK K (pv 0))) (pa_cons (pe_fldK K (pv 0)) (pa_cons (pv 1) (pa_cons (pe_fldK K (pv 0)) pa_nil)))))))))), ?_⟩
  unfold Eff.mir at k
  walk_at "y"
  rw [goal_non]
  cases g : e.goal with
  | none =>
    rw [g] at k
    refine x_T ?_
    walk_at "y"
    exact mk_eff (g := none) rfl fun x H' _ s1 he => k x H' s1 he
  | some y =>
    rw [g] at k
    refine x_F ?_
    walk_at "y"
    rw [g]
    refine x_minus ?_
    walk_at "y"
    exact mk_eff (g := some (e.c - y)) rfl fun x H' _ s1 he => k x H' s1 he
theorem ok_Effect_at_most (W : Wd K mg) : FnR P w K mg base CX0 4 (ma K (ga K "Effect") "at_most") (spE1 K Eff.atMost) := by
  refine (def_ok W.F_Effect_at_most sc_Effect_at_most (fun _ _ _ _ _ _ us hl => match us, hl with | [_, _], _ => rfl) (fun vs H Q E ⟨p, e, n, ev, _⟩ => by rw [ev]; rfl) fun cdv A outer s H vs Q E hr ⟨p, e, n, ev, hp, k⟩ => ?_).2
  subst ev
  refine ⟨_, PSs.nox (pss_one (ps_ret (pe_methR0 W.c_Effect W.m_Effect_mirrored (ok_Effect_mirrored W) (hr.mono (by decide)) pass0 (pe_methR W.c_Effect W.m_Effect_at_least (ok_Effect_at_least W) (hr.mono (by decide)) pass0 (pe_methR0 W.c_Effect W.m_Effect_mirrored (ok_Effect_mirrored W) (hr.mono (by decide)) pass0 (pv 0)) (pa_cons (pe_op op_minus (pe_fldK K (pv 0)) (pv 1)) pa_nil))))), ?_⟩
  walk_at "y"
  refine x_effM hp (by kernel_rfl) ?_
  walk_at "y"
  refine ⟨p, e, rfl, hp, fun x1 H1 s1 h1 => ?_⟩
  refine x_effM h1 (by kernel_rfl) ?_
  have hp1 := hp.mono s1
  walk_at "y"
  refine ⟨x1, e.mir, e.c - n, rfl, h1, fun x2 H2 s2 h2 => ?_⟩
  refine x_effM h2 (by kernel_rfl) ?_
  walk_at "y"
  exact ⟨x2, _, rfl, h2, fun x3 H3 s3 h3 => k x3 H3 ((s1.trans s2).trans s3) h3⟩
theorem ok_nothing (W : Wd K mg) : FnR P w K mg base CX0 3 (ga K "nothing") (fun vs H Q _ => ∃ c : Int, vs = [.int c] ∧ ∀ x H', Same H H' → EffAt (CE K) H' x (nothing c) → Q (.ref x) H') := by
  refine (def_ok W.F_nothing sc_nothing (fun _ _ _ _ _ _ us hl => match us, hl with | [_], _ => rfl) (fun vs H Q E ⟨c, ev, _⟩ => by rw [ev]; rfl) fun cdv A outer s H vs Q E hr ⟨c, ev, k⟩ => ?_).2
  subst ev
  refine ⟨_, PSs.nox (pss_one (ps_ret (pe_mk W.mk_Effect (ok_Effect_init W) (hr.mono (by decide)) W.g_Effect pass0 rfl (pa_cons (pv 0) (pa_cons pe_int (pa_cons (pv 0) (pa_cons pe_int (pa_cons pe_non (pa_cons pe_bl pa_nil))))))))), ?_⟩
  walk_at "y"
  exact mk_eff (g := none) rfl fun x H' _ s1 he => k x H' s1 he
def spEO (K : PySem.W.Frag) : Sp := fun vs H Q _ => ∃ (p : Addr) (c : Int) (l : List Stp), vs = [.ref p, .int c] ∧ PlanAt (CP K) H p l ∧ l.length ≤ 60 ∧ ∀ x H', Same H H' → EffAt (CE K) H' x (effOf c l) → Q (.ref x) H'
theorem ok_effect_of (W : Wd K mg) : FnR P w K mg base CX0 5 (ga K "effect_of") (spEO K) := by
  refine (def_ok W.F_effect_of sc_effect_of (fun _ _ _ _ _ _ us hl => match us, hl with | [_, _], _ => rfl) (fun vs H Q E ⟨p, c, l, ev, _⟩ => by rw [ev]; rfl) fun cdv A outer s H vs Q E hr ⟨p, c, l, ev, hp, h60, k⟩ => ?_).2
  subst ev
  refine ⟨_, PSs.nox (pss_cons (ps_set (i := 2) sc_effect_of.nd rfl (Or.inl rfl) (pe_callR (ok_nothing W) (hr.mono (by decide)) W.g_nothing W.k_nothing pass0 rfl (pa_cons (pv 1) pa_nil))) (pss_cons (ps_for PassesOwn.never rfl (pi_listK K (pe_callR (ok_sides_of W) (hr.mono (by decide)) W.g_sides_of W.k_sides_of pass0 rfl (pa_cons (pv 0) pa_nil))) (pg_tupK (n := 2) K rfl (pgs_cons (pg_name (i := 3) sc_effect_of.nd rfl (Or.inl rfl)) (pgs_cons (pg_name (i := 4) sc_effect_of.nd rfl (Or.inl rfl)) pgs_nil))) (pss_one (ps_if (pt_cmpR (op_eqK K hr.units) (pv 3) pe_int (nomark _)) (pss_one (ps_set (i := 2) sc_effect_of.nd rfl (Or.inl rfl) (pe_methR W.c_Effect W.m_Effect_at_least (ok_Effect_at_least W) (hr.mono (by decide)) pass0 (pv 2) (pa_cons (pv 4) pa_nil)))) (pss_one (ps_if (pt_cmpR (op_eqK K hr.units) (pv 3) (pe_un un_neg pe_int) (nomark _)) (pss_one (ps_set (i := 2) sc_effect_of.nd rfl (Or.inl rfl) (pe_methR W.c_Effect W.m_Effect_at_most (ok_Effect_at_most W) (hr.mono (by decide)) pass0 (pv 2) (pa_cons (pe_op op_minus (pv 1) (pv 4)) pa_nil)))) pss_nil))))) (pss_one (ps_ret (pe_mk W.mk_Effect (ok_Effect_init W) (hr.mono (by decide)) W.g_Effect pass0 rfl (pa_cons (pv 1) (pa_cons (pe_fldK K (pv 2)) (pa_cons (pe_fldK K (pv 2)) (pa_cons (pe_fldK K (pv 2)) (pa_cons (pe_fldK K (pv 2)) (pa_cons (pe_propR W.c_Plan W.p_Plan_is_turning (ok_Plan_is_turning W) (hr.mono (by decide)) (pv 0)) pa_nil))))))))))), ?_⟩
  walk_at "y"
  refine ⟨c, rfl, fun x0 H0 s0 h0 => ?_⟩
  walk_at "y"
  refine ⟨p, l, rfl, hp.mono s0, h60, fun r ps H1 hr0 s1 hps hpp => ?_⟩
  refine x_iLAt (SqL.of hps) (x_loop walk_list (fun i σ H2 => Same H1 H2 ∧ ∃ x a b, σ = [some (.ref p), some (.int c), some (.ref x), a, b] ∧ EffAt (CE K) H2 x (((sides 1 l).take i).foldl (effStep c) (nothing c))) ⟨Same.refl _, x0, _, _, rfl, h0.mono s1⟩ (fun i σ H2 _ ⟨s2, _⟩ => SqL.of (s2 _ _ hps)) ?_ ?_)
  · rintro i y σ H2 H3 hi ⟨s2, x, a, b, rfl, hx⟩ ⟨rfl, ey⟩
    obtain ⟨⟨sd, n⟩, hst, q, rfl, hq⟩ := pr_at hpp ey
    have tk : ((sides 1 l).take (i + 1)).foldl (effStep c) (nothing c) = effStep c (((sides 1 l).take i).foldl (effStep c) (nothing c)) (sd, n) := by
      rw [List.take_add_one, hst, List.foldl_append]
      rfl
    rw [tk]
    unfold effStep
    refine x_gTup (s2 _ _ hq) rfl ?_
    unfold pairV
    walk_at "y"
    refine x_ifd (fun e => ?_) fun e => ?_
    · rw [if_pos e]
      walk_at "y"
      refine x_effM hx (by kernel_rfl) ?_
      walk_at "y"
      refine ⟨x, _, n, rfl, hx, fun x2 H4 s4 h4 => ?_⟩
      walk_at "y"
      exact ⟨s2.trans s4, x2, _, _, rfl, h4⟩
    · rw [if_neg e]
      walk_at "y"
      refine x_ifd (fun e2 => ?_) fun e2 => ?_
      · rw [if_pos e2]
        walk_at "y"
        refine x_effM hx (by kernel_rfl) ?_
        walk_at "y"
        refine ⟨x, _, c - n, rfl, hx, fun x2 H4 s4 h4 => ?_⟩
        walk_at "y"
        exact ⟨s2.trans s4, x2, _, _, rfl, h4⟩
      · rw [if_neg e2]
        walk_at "y"
        exact ⟨s2, x, _, _, rfl, hx⟩
  · rintro σ H2 ⟨s2, x, a, b, rfl, hx⟩
    have hl : ps.length = (sides 1 l).length := pr_len hpp
    rw [hl, List.take_length] at hx
    have hp2 := ((hp.mono s0).mono s1).mono s2
    walk_at "y"
    obtain ⟨dx, t, vs, g1, g2, g3⟩ := hp2.ex
    refine x_propAt g1 ⟨p, l, rfl, hp2, h60, fun H3 s3 => ?_⟩
    walk_at "y"
    exact mk_eff rfl fun x3 H4 _ s4 he => k x3 H4 ((s0.trans s1).trans ((s2.trans s3).trans s4)) he
end
end K13

set_option Elab.async false
set_option linter.all false
set_option autoImplicit false
set_option maxRecDepth 100000
set_option pp.maxSteps 1500
set_option maxHeartbeats 4000000
namespace K13
open PySem PySem.Spec PyProof.Rows L2 He ChH Ch ChM
local macro_rules | `(tactic| walk_at "x1") => `(tactic| first
  | ((with_reducible apply x_var); exact rfl)
  | with_reducible refine x_c ?_
  | with_reducible refine x_op ?_
  | with_reducible refine x_seq ?_
  | with_reducible refine x_asg ?_
  | with_reducible refine x_gname ?_
  | with_reducible refine x_cons ?_
  | with_reducible refine x_nil ?_
  | with_reducible refine x_fld ?_
  | with_reducible refine x_ret ?_
  | with_reducible refine x_ifS ?_
  | with_reducible refine x_test ?_
  | with_reducible refine x_ex ?_
  | with_reducible refine x_call ?_
  | with_reducible refine x_mk ?_
  | with_reducible refine x_meth ?_
  | with_reducible refine x_prop ?_
  | with_reducible refine x_cb ?_
  | with_reducible refine x_tup ?_
  | with_reducible refine x_lst ?_
  | with_reducible refine x_drop ?_
  | with_reducible refine x_for ?_
  | with_reducible refine x_iL ?_
  | with_reducible refine x_iT ?_
  | with_reducible refine x_iE ?_
  | with_reducible refine x_iU ?_
  | with_reducible refine x_iR1 ?_
  | with_reducible refine x_iR2 ?_
  | with_reducible refine x_gcons ?_
  | with_reducible refine x_gnil ?_
  | with_reducible refine x_par ?_
  | with_reducible refine x_lstRg ?_
  | with_reducible refine x_rg1 ?_
  | with_reducible refine x_rg1At ?_
  | with_reducible refine x_par3 ?_
  | with_reducible refine x_bm ?_
  | with_reducible refine x_bm0 ?_
  | with_reducible refine x_gSub ?_
  | with_reducible refine x_lc ?_
  | with_reducible refine x_yes ?_
  | with_reducible refine x_setf ?_
  | with_reducible refine x_next ?_
  | with_reducible refine x_B ?_
  | with_reducible refine x_and ?_
  | with_reducible refine x_or ?_
  | with_reducible refine x_not ?_
  | with_reducible refine x_andV ?_
  | with_reducible refine x_orV ?_
  | with_reducible refine x_notV ?_
  | with_reducible refine x_ifE ?_
  | with_reducible refine x_chain ?_
  | with_reducible refine x_chain3 ?_
  | with_reducible refine x_un ?_
  | with_reducible refine x_isNe ?_
  | with_reducible refine x_notNe ?_
  | with_reducible refine x_starA ?_
  | with_reducible refine x_plusI ?_
  | with_reducible refine x_minus ?_
  | with_reducible refine x_lt ?_
  | with_reducible refine x_le ?_
  | with_reducible refine x_gt ?_
  | with_reducible refine x_ge ?_
  | with_reducible refine x_eqI ?_
  | with_reducible refine x_neI ?_
  | with_reducible refine x_eqS ?_
  | with_reducible refine x_eqB ?_
  | with_reducible refine x_neB ?_
  | with_reducible refine x_int ?_
  | with_reducible refine x_intB ?_
  | with_reducible refine x_max2 ?_
  | with_reducible refine x_min2 ?_
  | with_reducible refine x_max3 ?_
  | with_reducible refine x_abs ?_
  | with_reducible refine x_neg ?_
  | with_reducible refine x_isi_ii ?_
  | with_reducible refine x_isi_ib ?_
  | with_reducible refine x_T ?_
  | with_reducible refine x_nT ?_
  | with_reducible refine x_nF ?_
  | with_reducible refine x_F ?_)
local macro_rules | `(tactic| walk_at "x") => `(tactic| repeat walk_at "x1")

local macro_rules | `(tactic| walk_at "eff") => `(tactic| first
  | refine x_eff (by assumption) (Wd.c_Effect (by assumption)) (Wd.n_Effect_chairs (by assumption)) eff_chairs ?_
  | refine x_eff (by assumption) (Wd.c_Effect (by assumption)) (Wd.n_Effect_low (by assumption)) eff_low ?_
  | refine x_eff (by assumption) (Wd.c_Effect (by assumption)) (Wd.n_Effect_high (by assumption)) eff_high ?_
  | refine x_eff (by assumption) (Wd.c_Effect (by assumption)) (Wd.n_Effect_extra (by assumption)) eff_extra ?_
  | refine x_eff (by assumption) (Wd.c_Effect (by assumption)) (Wd.n_Effect_goal (by assumption)) eff_goal ?_
  | refine x_eff (by assumption) (Wd.c_Effect (by assumption)) (Wd.n_Effect_turned (by assumption)) eff_turned ?_)
local macro_rules | `(tactic| walk_at "y") => `(tactic| repeat (first | walk_at "x1" | walk_at "eff"))

section
variable {P : Program} {w : World} {K : PySem.W.Frag} {mg : Str → Option Value} {base : Heap}
theorem divF {i j : Int} (h : 0 < j) (h2 : j ≤ 2000000000000000000) : CDivW i j := wide_div (b := 62) h (by omega) (by decide) (by decide)
theorem ok_Effect_followed (W : Wd K mg) : FnR P w K mg base CX0 5 (ma K (ga K "Effect") "followed") (fun vs H Q _ => ∃ (p q : Addr) (a b : Eff), vs = [.ref p, .ref q] ∧ EffAt (CE K) H p a ∧ EffAt (CE K) H q b ∧ ∀ x H', Same H H' → EffAt (CE K) H' x (a.followed b) → Q (.ref x) H') := by
  refine (def_ok W.F_Effect_followed sc_Effect_followed (fun _ _ _ _ _ _ us hl => match us, hl with | [_, _], _ => rfl) (fun vs H Q E ⟨p, q, a, b, ev, _⟩ => by rw [ev]; rfl) fun cdv A outer s H vs Q E hr ⟨p, q, a, b, ev, hp, hq, k⟩ => ?_).2
  subst ev
  refine ⟨_, PSs.nox (pss_cons (ps_set (i := 2) sc_Effect_followed.nd rfl (Or.inl rfl) (pe_ifExp (pt_val (pe_fldK K (pv 0))) (pe_methR0 W.c_Effect W.m_Effect_mirrored (ok_Effect_mirrored W) (hr.mono (by decide)) pass0 (pv 1)) (pv 1))) (pss_cons (ps_set (i := 3) sc_Effect_followed.nd rfl (Or.inl rfl) (pe_methR W.c_Effect W.m_Effect_at_most (ok_Effect_at_most W) (hr.mono (by decide)) pass0 (pe_methR W.c_Effect W.m_Effect_at_least (ok_Effect_at_least W) (hr.mono (by decide)) pass0 (pv 0) (pa_cons (pe_fldK K (pv 2)) pa_nil)) (pa_cons (pe_fldK K (pv 2)) pa_nil))) (pss_cons (ps_set (i := 4) sc_Effect_followed.nd rfl (Or.inl rfl) (pe_ifExp (pt_cmp (pc_isN (pe_fldK K (pv 2)))) (pe_fldK K (pv 3)) (pe_fldK K (pv 2)))) (pss_cons (ps_set (i := 5) sc_Effect_followed.nd rfl (Or.inl rfl) (pe_cmpR (op_neK K hr.units) (pe_fldK K (pv 0)) (pe_fldK K (pv 1)) (nomark _))) (pss_one (ps_ret (pe_mk W.mk_Effect (ok_Effect_init W) (hr.mono (by decide)) W.g_Effect pass0 rfl (pa_cons (pe_fldK K (pv 0)) (pa_cons (pe_fldK K (pv 3)) (pa_cons (pe_fldK K (pv 3)) (pa_cons (pe_op op_plus (pe_fldK K (pv 3)) (pe_fldK K (pv 2))) (pa_cons (pv 4) (pa_cons (pv 5) pa_nil))))))))))))), ?_⟩
  walk_at "y"
  refine x_ifSet (fun v H2 => ∃ r, v = .ref r ∧ Same H H2 ∧ EffAt (CE K) H2 r (a.later b)) (fun ht Q' kQ => ?T) (fun ht Q' kQ => ?F) ?rest
  case T =>
    walk_at "y"
    refine x_effM hq (by kernel_rfl) ?_
    walk_at "y"
    refine ⟨q, b, rfl, hq, fun x1 H1 s1 h1 => ?_⟩
    exact kQ _ _ ⟨x1, rfl, s1, by unfold Eff.later; rw [if_pos ht]; exact h1⟩
  case F =>
    walk_at "y"
    exact kQ _ _ ⟨q, rfl, Same.refl H, by unfold Eff.later; rw [if_neg (by rw [ht]; decide)]; exact hq⟩
  case rest =>
    rintro _ H2 ⟨r, rfl, s2, hL⟩
    have hp2 := hp.mono s2
    have hq2 := hq.mono s2
    walk_at "y"
    refine x_effM hp2 (by kernel_rfl) ?_
    walk_at "y"
    refine ⟨p, a, _, rfl, hp2, fun x3 H3 s3 h3 => ?_⟩
    have hL3 := hL.mono s3
    refine x_effM h3 (by kernel_rfl) ?_
    walk_at "y"
    refine ⟨x3, _, _, rfl, h3, fun x4 H4 s4 h4 => ?_⟩
    have hL4 := hL3.mono s4
    have hp4 := (hp2.mono s3).mono s4
    have hq4 := (hq2.mono s3).mono s4
    have s04 := s2.trans (s3.trans s4)
    walk_at "y"
    rw [goal_non]
    cases g : (a.later b).goal with
    | none =>
      refine x_T ?_
      walk_at "y"
      exact mk_eff (g := goal2 ((a.atLeast (a.later b).lo).atMost (a.later b).hi).goal (a.later b).goal) (by rw [g]; rfl) fun x H' _ s1 he => k x H' (s04.trans s1) he
    | some y =>
      refine x_F ?_
      walk_at "y"
      exact mk_eff (g := goal2 ((a.atLeast (a.later b).lo).atMost (a.later b).hi).goal (a.later b).goal) (by rw [g]; rfl) fun x H' _ s1 he => k x H' (s04.trans s1) he
theorem ok_Effect_carried (W : Wd K mg) : FnR P w K mg base CX0 1 (ma K (ga K "Effect") "carried") (fun vs H Q _ => ∃ (p : Addr) (e : Eff) (x : Int), vs = [.ref p, .int x] ∧ EffAt (CE K) H p e ∧ Q (.int (e.carried x)) H) := by
  refine (def_ok W.F_Effect_carried sc_Effect_carried (fun _ _ _ _ _ _ us hl => match us, hl with | [_, _], _ => rfl) (fun vs H Q E ⟨p, e, x, ev, _⟩ => by rw [ev]; rfl) fun cdv A outer s H vs Q E hr ⟨p, e, x, ev, hp, k⟩ => ?_).2
  subst ev
  refine ⟨_, PSs.nox (pss_one (ps_ret (pe_op op_plus (pe_callB (c_max3 rfl) (by rfl) W.f_max (by decide +kernel) (pa_cons (pe_op op_minus (pe_fldK K (pv 0)) (pv 1)) (pa_cons (pe_op op_minus (pv 1) (pe_fldK K (pv 0))) (pa_cons pe_int pa_nil)))) (pe_fldK K (pv 0))))), ?_⟩
  walk_at "y"
  exact k
theorem ok_Effect_place (W : Wd K mg) : FnR P w K mg base CX0 1 (ma K (ga K "Effect") "place") (fun vs H Q _ => ∃ (p : Addr) (e : Eff) (x : Int), vs = [.ref p, .int x] ∧ EffAt (CE K) H p e ∧ Q (.int (e.place x)) H) := by
  refine (def_ok W.F_Effect_place sc_Effect_place (fun _ _ _ _ _ _ us hl => match us, hl with | [_, _], _ => rfl) (fun vs H Q E ⟨p, e, x, ev, _⟩ => by rw [ev]; rfl) fun cdv A outer s H vs Q E hr ⟨p, e, x, ev, hp, k⟩ => ?_).2
  subst ev
  refine ⟨_, PSs.nox (pss_one (ps_ret (pe_ifExp (pt_cmp (pc_isN (pe_fldK K (pv 0)))) (pe_callB (c_min2 rfl) (by rfl) W.f_min (by decide +kernel) (pa_cons (pe_callB (c_max2 rfl) (by rfl) W.f_max (by decide +kernel) (pa_cons (pv 1) (pa_cons (pe_fldK K (pv 0)) pa_nil))) (pa_cons (pe_fldK K (pv 0)) pa_nil))) (pe_fldK K (pv 0))))), ?_⟩
  unfold Eff.place at k
  walk_at "y"
  rw [goal_non]
  cases g : e.goal with
  | none =>
    rw [g] at k
    refine x_T ?_
    walk_at "y"
    exact k
  | some y =>
    rw [g] at k
    refine x_F ?_
    walk_at "y"
    rw [g]
    exact k
theorem ok_Effect_end (W : Wd K mg) : FnR P w K mg base CX0 2 (ma K (ga K "Effect") "end") (fun vs H Q _ => ∃ (p : Addr) (e : Eff) (x : Int), vs = [.ref p, .int x] ∧ EffAt (CE K) H p e ∧ Q (.int (e.fin x)) H) := by
  refine (def_ok W.F_Effect_end sc_Effect_end (fun _ _ _ _ _ _ us hl => match us, hl with | [_, _], _ => rfl) (fun vs H Q E ⟨p, e, x, ev, _⟩ => by rw [ev]; rfl) fun cdv A outer s H vs Q E hr ⟨p, e, x, ev, hp, k⟩ => ?_).2
  subst ev
  refine ⟨_, PSs.nox (pss_cons (ps_set (i := 2) sc_Effect_end.nd rfl (Or.inl rfl) (pe_methR W.c_Effect W.m_Effect_place (ok_Effect_place W) (hr.mono (by decide)) pass0 (pv 0) (pa_cons (pv 1) pa_nil))) (pss_one (ps_ret (pe_ifExp (pt_val (pe_fldK K (pv 0))) (pe_op op_minus (pe_fldK K (pv 0)) (pv 2)) (pv 2))))), ?_⟩
  walk_at "y"
  refine x_effM hp (by kernel_rfl) ?_
  walk_at "y"
  refine ⟨p, e, x, rfl, hp, ?_⟩
  walk_at "y"
  unfold Eff.fin at k
  refine x_if (fun ht => ?_) fun ht => ?_
  · rw [if_pos ht] at k
    walk_at "y"
    exact k
  · rw [if_neg (by rw [ht]; decide)] at k
    walk_at "y"
    exact k
theorem ok_power (W : Wd K mg) : FnR P w K mg base CX0 6 (ga K "power") (fun vs H Q _ => ∃ (p : Addr) (e : Eff) (n : Int), vs = [.ref p, .int n] ∧ EffAt (CE K) H p e ∧ e.Ok ∧ 0 ≤ n ∧ ∀ x H' f, Same H H' → EffAt (CE K) H' x f → IsPow e n.toNat f → Q (.ref x) H') := by
  refine (def_ok W.F_power sc_power (fun _ _ _ _ _ _ us hl => match us, hl with | [_, _], _ => rfl) (fun vs H Q E ⟨p, e, n, ev, _⟩ => by rw [ev]; rfl) fun cdv A outer s H vs Q E hr ⟨p, e, n, ev, hp, he, hn, k⟩ => ?_).2
  subst ev
  refine ⟨_, PSs.nox (pss_cons (ps_par (i := 2) (j := 3) (by rfl) sc_power.nd rfl rfl (by decide) rfl rfl (pa_cons (pe_callR (ok_nothing W) (hr.mono (by decide)) W.g_nothing W.k_nothing pass0 rfl (pa_cons (pe_fldK K (pv 0)) pa_nil)) (pa_cons (pv 0) pa_nil)) (by rfl)) (pss_cons (ps_while PassesOwn.never (pt_cmpR op_gtI (pv 1) pe_int (nomark _)) (pss_cons (ps_if (pt_cmpR (op_eqK K hr.units) (pe_op op_modP (pe_callTy c_int (by rfl) W.f_int (by decide +kernel) (pa_cons (pv 1) pa_nil)) pe_int) pe_int (nomark _)) (pss_one (ps_set (i := 2) sc_power.nd rfl (Or.inl rfl) (pe_methR W.c_Effect W.m_Effect_followed (ok_Effect_followed W) (hr.mono (by decide)) pass0 (pv 2) (pa_cons (pv 3) pa_nil)))) pss_nil) (pss_cons (ps_set (i := 3) sc_power.nd rfl (Or.inl rfl) (pe_methR W.c_Effect W.m_Effect_followed (ok_Effect_followed W) (hr.mono (by decide)) pass0 (pv 3) (pa_cons (pv 3) pa_nil))) (pss_one (ps_set (i := 1) sc_power.nd rfl (Or.inl rfl) (pe_op op_divP (pv 1) pe_int)))))) (pss_one (ps_ret (pv 2))))), ?_⟩
  walk_at "y"
  refine ⟨e.c, rfl, fun x0 H0 s0 h0 => ?_⟩
  walk_at "y"
  refine ⟨_, _, rfl, ?_⟩
  walk_at "y"
  refine x_while (fun m σ H1 => ∃ (q r : Addr) (t : Int) (f g : Eff) (i j : Nat), σ = [some (.ref p), some (.int t), some (.ref q), some (.ref r)] ∧ m = t.toNat ∧ 0 ≤ t ∧ Same H H1 ∧ EffAt (CE K) H1 q f ∧ EffAt (CE K) H1 r g ∧ IsPow e i f ∧ IsPow e j g ∧ i + j * t.toNat = n.toNat) n.toNat
    ⟨x0, p, n, _, e, 0, 1, rfl, rfl, hn, s0, h0, hp.mono s0, isPow_zero he, isPow_one he, by omega⟩ ?_
  rintro m σ H1 ⟨q, r, t, f, g, i, j, rfl, rfl, t0, s1, hq, hg, pf, pg, hs⟩
  walk_at "y"
  refine x_ifd (fun ht => x_turn ?_) fun ht => ?_
  · walk_at "y"
    refine x_mod (by decide) ?_
    walk_at "y"
    have key : t.toNat = 2 * (t / 2).toNat + (t % 2).toNat := by omega
    refine x_whenSet' (fun v H2 => ∃ q2 f2 i2, v = .ref q2 ∧ Same H1 H2 ∧ EffAt (CE K) H2 q2 f2 ∧ IsPow e i2 f2 ∧ i2 = i + j * (t % 2).toNat) (.ref q) rfl (fun hne => ⟨q, f, i, rfl, Same.refl _, hq, pf, ?_⟩) (fun hodd Q' kQ => ?odd) ?rest
    case odd =>
      walk_at "y"
      refine x_effM hq (by kernel_rfl) ?_
      walk_at "y"
      refine ⟨q, r, f, g, rfl, hq, hg, fun x2 H2 s2 h2 => kQ _ _ ⟨x2, _, _, rfl, s2, h2, isPow_add he pf pg, ?_⟩⟩
      rw [hodd]
      show i + j = i + j * 1
      omega
    · rw [show (t % 2).toNat = 0 by omega]
      rfl
    case rest =>
      rintro _ H2 ⟨q2, f2, i2, rfl, s2, h2, p2, ei⟩
      have hg2 := hg.mono s2
      walk_at "y"
      refine x_effM hg2 (by kernel_rfl) ?_
      walk_at "y"
      refine ⟨r, r, g, g, rfl, hg2, hg2, fun x3 H3 s3 h3 => ?_⟩
      walk_at "y"
      refine x_div (divF (by decide) (by decide)) ?_
      walk_at "y"
      refine ⟨_, ?_, q2, x3, t / 2, f2, _, i2, j + j, rfl, rfl, by omega, s1.trans (s2.trans s3), h2.mono s3, h3, p2, isPow_add he pg pg, ?_⟩
      · omega
      · rw [ei, ← hs]
        rw [key, Nat.mul_add, ← Nat.two_mul, Nat.mul_comm 2 j, Nat.mul_assoc]
        have : ((2 * (t / 2).toNat + (t % 2).toNat : Nat) : Nat) = t.toNat := key.symm
        omega
  · have t00 : t = 0 := by omega
    subst t00
    walk_at "y"
    refine k q H1 f s1 hq ?_
    have : i = n.toNat := by
      rw [← hs]
      show i = i + j * 0
      omega
    rw [← this]
    exact pf
theorem ok_validate_number (W : Wd K mg) : FnR P w K mg base CX0 1 (ga K "validate_number") (fun vs H Q _ => ∃ a b c : Int, vs = [.int a, .int b, .int c] ∧ b ≤ a ∧ a ≤ c ∧ Q .non H) := by
  refine (def_ok W.F_validate_number sc_validate_number (fun _ _ _ _ _ _ us hl => match us, hl with | [_, _, _], _ => rfl) (fun vs H Q E ⟨a, b, c, ev, _⟩ => by rw [ev]; rfl) fun cdv A outer s H vs Q E hr ⟨a, b, c, ev, h1, h2, k⟩ => ?_).2
  subst ev
  refine ⟨_, PSs.nox (pss_one (ps_if (pt_not (pt_chain op_leI op_leI (pv 1) (pv 0) (pv 2))) (pss_one ps_never) pss_nil)), ?_⟩
  walk_at "x"
  rw [decide_eq_true h1]
  walk_at "x"
  rw [decide_eq_true h2]
  walk_at "x"
  exact k
theorem ok_validate_start (W : Wd K mg) : FnR P w K mg base CX0 2 (ga K "validate_start") (fun vs H Q _ => ∃ c x : Int, vs = [.int c, .int x] ∧ 0 ≤ x ∧ x ≤ c ∧ Q .non H) := by
  refine (def_ok W.F_validate_start sc_validate_start (fun _ _ _ _ _ _ us hl => match us, hl with | [_, _], _ => rfl) (fun vs H Q E ⟨c, x, ev, _⟩ => by rw [ev]; rfl) fun cdv A outer s H vs Q E hr ⟨c, x, ev, h1, h2, k⟩ => ?_).2
  subst ev
  refine ⟨_, PSs.nox (pss_one (ps_expr (pe_callR (ok_validate_number W) (hr.mono (by decide)) W.g_validate_number W.k_validate_number pass0 rfl (pa_cons (pv 1) (pa_cons pe_int (pa_cons (pv 0) pa_nil)))))), ?_⟩
  walk_at "x"
  refine ⟨x, 0, c, rfl, h1, h2, ?_⟩
  walk_at "x"
  exact k
def spTC (K : PySem.W.Frag) (f : Eff → Nat → Int → Int) : Sp := fun vs H Q _ => ∃ (p : Addr) (c x n : Int) (l : List Stp), vs = [.ref p, .int c, .int x, .int n] ∧ PlanAt (CP K) H p l ∧ l.length ≤ 60 ∧ 0 ≤ c ∧ c ≤ 1000000000000000000 ∧ fitsS c l ∧ 0 ≤ x ∧ x ≤ c ∧ 0 ≤ n ∧ n ≤ 1000000000000000000 ∧
  ∀ H', Same H H' → Q (.int (f (effOf c l) n.toNat x)) H'
theorem ok_total_carried (W : Wd K mg) : FnR P w K mg base CX0 7 (ga K "total_carried") (spTC K runC) := by
  refine (def_ok W.F_total_carried sc_total_carried (fun _ _ _ _ _ _ us hl => match us, hl with | [_, _, _, _], _ => rfl) (fun vs H Q E ⟨p, c, x, n, l, ev, _⟩ => by rw [ev]; rfl) fun cdv A outer s H vs Q E hr ⟨p, c, x, n, l, ev, hp, h60, c0, c1, hf, x0, x1, n0, n1, k⟩ => ?_).2
  subst ev
  obtain ⟨eo, ec, _, _⟩ := effOf_ok c0 hf
  refine ⟨_, PSs.nox (pss_cons (ps_expr (pe_callR (ok_validate_house W) (hr.mono (by decide)) W.g_validate_house W.k_validate_house pass0 rfl (pa_cons (pv 0) (pa_cons (pv 1) pa_nil)))) (pss_cons (ps_expr (pe_callR (ok_validate_start W) (hr.mono (by decide)) W.g_validate_start W.k_validate_start pass0 rfl (pa_cons (pv 1) (pa_cons (pv 2) pa_nil)))) (pss_cons (ps_expr (pe_callR (ok_validate_number W) (hr.mono (by decide)) W.g_validate_number W.k_validate_number pass0 rfl (pa_cons (pv 3) (pa_cons pe_int (pa_cons (pe_gi W.i_MAX_ROUNDS_effects rfl) pa_nil))))) (pss_one (ps_ret (pe_methR W.c_Effect W.m_Effect_carried (ok_Effect_carried W) (hr.mono (by decide)) pass0 (pe_callR (ok_power W) (hr.mono (by decide)) W.g_power W.k_power pass0 rfl (pa_cons (pe_callR (ok_effect_of W) (hr.mono (by decide)) W.g_effect_of W.k_effect_of pass0 rfl (pa_cons (pv 0) (pa_cons (pv 1) pa_nil))) (pa_cons (pv 3) pa_nil))) (pa_cons (pv 2) pa_nil))))))), ?_⟩
  walk_at "y"
  refine ⟨p, c, l, rfl, hp, h60, c0, c1, hf, fun H1 s1 => ?_⟩
  walk_at "y"
  refine ⟨c, x, rfl, x0, x1, ?_⟩
  walk_at "y"
  refine ⟨n, 0, _, rfl, n0, n1, ?_⟩
  walk_at "y"
  refine ⟨p, c, l, rfl, hp.mono s1, h60, fun y H2 s2 he => ?_⟩
  walk_at "y"
  refine ⟨y, _, n, rfl, he, eo, n0, fun z H3 f s3 hf3 ip => ?_⟩
  refine x_effM hf3 (by kernel_rfl) ?_
  walk_at "y"
  refine ⟨z, f, x, rfl, hf3, ?_⟩
  rw [ip.car x x0 (by rw [ec]; exact x1)]
  exact k H3 (s1.trans (s2.trans s3))
def effT (e : Eff) : List V := [.int e.lo, .int e.hi, .int e.ex, goalV e.goal, .bl e.tu]
def spSu (K : PySem.W.Frag) : Sp := fun vs H Q _ => ∃ (p : Addr) (c : Int) (l : List Stp), vs = [.ref p, .int c] ∧ PlanAt (CP K) H p l ∧ l.length ≤ 60 ∧ 0 ≤ c ∧ c ≤ 1000000000000000000 ∧ fitsS c l ∧
  ∀ t H', H t = none → Same H H' → H' t = some (.tup (effT (effOf c l))) → Q (.ref t) H'
theorem ok_summary (W : Wd K mg) : FnR P w K mg base CX0 6 (ga K "summary") (spSu K) := by
  refine (def_ok W.F_summary sc_summary (fun _ _ _ _ _ _ us hl => match us, hl with | [_, _], _ => rfl) (fun vs H Q E ⟨p, c, l, ev, _⟩ => by rw [ev]; rfl) fun cdv A outer s H vs Q E hr ⟨p, c, l, ev, hp, h60, c0, c1, hf, k⟩ => ?_).2
  subst ev
  refine ⟨_, PSs.nox (pss_cons (ps_expr (pe_callR (ok_validate_house W) (hr.mono (by decide)) W.g_validate_house W.k_validate_house pass0 rfl (pa_cons (pv 0) (pa_cons (pv 1) pa_nil)))) (pss_cons (ps_set (i := 2) sc_summary.nd rfl (Or.inl rfl) (pe_callR (ok_effect_of W) (hr.mono (by decide)) W.g_effect_of W.k_effect_of pass0 rfl (pa_cons (pv 0) (pa_cons (pv 1) pa_nil)))) (pss_one (ps_ret (pe_tup (pa_cons (pe_fldK K (pv 2)) (pa_cons (pe_fldK K (pv 2)) (pa_cons (pe_fldK K (pv 2)) (pa_cons (pe_fldK K (pv 2)) (pa_cons (pe_fldK K (pv 2)) pa_nil)))))))))), ?_⟩
  walk_at "y"
  refine ⟨p, c, l, rfl, hp, h60, c0, c1, hf, fun H1 s1 => ?_⟩
  walk_at "y"
  refine ⟨p, c, l, rfl, hp.mono s1, h60, fun x H2 s2 he => ?_⟩
  walk_at "y"
  exact ⟨sz rfl, fun t ht => k t _ ((s1.trans s2).free ht) ((s1.trans s2).trans (Same.new ht)) upd_same⟩
end
end K13

set_option Elab.async false
set_option linter.all false
set_option autoImplicit false
set_option maxRecDepth 100000
set_option pp.maxSteps 1500
set_option maxHeartbeats 4000000
namespace K13
open PySem PySem.Spec PyProof.Rows L2 He ChH Ch ChM
local macro_rules | `(tactic| walk_at "x1") => `(tactic| first
  | ((with_reducible apply x_var); exact rfl)
  | with_reducible refine x_c ?_
  | with_reducible refine x_op ?_
  | with_reducible refine x_seq ?_
  | with_reducible refine x_asg ?_
  | with_reducible refine x_gname ?_
  | with_reducible refine x_cons ?_
  | with_reducible refine x_nil ?_
  | with_reducible refine x_fld ?_
  | with_reducible refine x_ret ?_
  | with_reducible refine x_ifS ?_
  | with_reducible refine x_test ?_
  | with_reducible refine x_ex ?_
  | with_reducible refine x_call ?_
  | with_reducible refine x_mk ?_
  | with_reducible refine x_meth ?_
  | with_reducible refine x_prop ?_
  | with_reducible refine x_cb ?_
  | with_reducible refine x_tup ?_
  | with_reducible refine x_lst ?_
  | with_reducible refine x_drop ?_
  | with_reducible refine x_for ?_
  | with_reducible refine x_iL ?_
  | with_reducible refine x_iT ?_
  | with_reducible refine x_iE ?_
  | with_reducible refine x_iU ?_
  | with_reducible refine x_iR1 ?_
  | with_reducible refine x_iR2 ?_
  | with_reducible refine x_gcons ?_
  | with_reducible refine x_gnil ?_
  | with_reducible refine x_par ?_
  | with_reducible refine x_lstRg ?_
  | with_reducible refine x_rg1 ?_
  | with_reducible refine x_rg1At ?_
  | with_reducible refine x_par3 ?_
  | with_reducible refine x_bm ?_
  | with_reducible refine x_bm0 ?_
  | with_reducible refine x_gSub ?_
  | with_reducible refine x_lc ?_
  | with_reducible refine x_yes ?_
  | with_reducible refine x_setf ?_
  | with_reducible refine x_next ?_
  | with_reducible refine x_B ?_
  | with_reducible refine x_and ?_
  | with_reducible refine x_or ?_
  | with_reducible refine x_not ?_
  | with_reducible refine x_andV ?_
  | with_reducible refine x_orV ?_
  | with_reducible refine x_notV ?_
  | with_reducible refine x_ifE ?_
  | with_reducible refine x_chain ?_
  | with_reducible refine x_chain3 ?_
  | with_reducible refine x_un ?_
  | with_reducible refine x_isNe ?_
  | with_reducible refine x_notNe ?_
  | with_reducible refine x_starA ?_
  | with_reducible refine x_plusI ?_
  | with_reducible refine x_minus ?_
  | with_reducible refine x_lt ?_
  | with_reducible refine x_le ?_
  | with_reducible refine x_gt ?_
  | with_reducible refine x_ge ?_
  | with_reducible refine x_eqI ?_
  | with_reducible refine x_neI ?_
  | with_reducible refine x_eqS ?_
  | with_reducible refine x_eqB ?_
  | with_reducible refine x_neB ?_
  | with_reducible refine x_int ?_
  | with_reducible refine x_intB ?_
  | with_reducible refine x_max2 ?_
  | with_reducible refine x_min2 ?_
  | with_reducible refine x_max3 ?_
  | with_reducible refine x_abs ?_
  | with_reducible refine x_neg ?_
  | with_reducible refine x_isi_ii ?_
  | with_reducible refine x_isi_ib ?_
  | with_reducible refine x_T ?_
  | with_reducible refine x_nT ?_
  | with_reducible refine x_nF ?_
  | with_reducible refine x_F ?_)
local macro_rules | `(tactic| walk_at "x") => `(tactic| repeat walk_at "x1")

section
variable {P : Program} {w : World} {K : PySem.W.Frag} {mg : Str → Option Value} {base : Heap}
def spLS (K : PySem.W.Frag) : Sp := fun vs H Q _ => ∃ (a : Addr) (ns : List Int), vs = [.ref a] ∧ SqL K H a (ns.map V.int) ∧ ∀ st H', H st = none → Same H H' → StAt K H' st a ns → Q (.ref st) H'
theorem ok__law_start (W : Wd K mg) : FnR P w K mg base CX0 1 (ga K "_law_start") (spLS K) := by
  refine (def_ok W.F__law_start sc__law_start (fun _ _ _ _ _ _ us hl => match us, hl with | [_], _ => rfl) (fun vs H Q E ⟨a, ns, ev, _⟩ => by rw [ev]; rfl) fun cdv A outer s H vs Q E hr ⟨a, ns, ev, hs, k⟩ => ?_).2
  subst ev
  refine ⟨_, PSs.nox (pss_cons (ps_set (i := 1) sc__law_start.nd rfl (Or.inl rfl) pe_int) (pss_cons (ps_for PassesOwn.never rfl (pi_listK K (pv 0)) (pg_name (i := 2) sc__law_start.nd rfl (Or.inl rfl)) (pss_one (ps_set (i := 1) sc__law_start.nd rfl (Or.inl rfl) (pe_op op_modP (pe_op op_plus (pe_op op_plus (pe_op op_times (pv 1) pe_int) (pv 2)) pe_int) pe_int)))) (pss_one (ps_ret (pe_lst (pa_cons (pv 0) (pa_cons pe_int (pa_cons (pv 1) (pa_cons pe_int pa_nil))))))))), ?_⟩
  walk_at "x"
  refine x_iLAt hs (x_loop walk_list (fun i σ H2 => H2 = H ∧ ∃ z b, σ = [some (.ref a), some (.int z), b]) ⟨rfl, _, _, rfl⟩ (fun i σ H2 _ ⟨e, _⟩ => by rw [e]; exact hs) ?_ ?_)
  · rintro i y σ H2 H3 hi ⟨rfl, z, b, rfl⟩ ⟨rfl, ey⟩
    rw [List.getElem?_map] at ey
    obtain ⟨n, _, rfl⟩ := Option.map_eq_some_iff.mp ey
    walk_at "x"
    refine x_timesI (.inr ⟨by decide, by decide⟩) ?_
    walk_at "x"
    refine x_mod (by decide) ?_
    walk_at "x"
    exact ⟨rfl, _, _, rfl⟩
  · rintro σ H2 ⟨rfl, z, b, rfl⟩
    walk_at "x"
    exact ⟨sz rfl, fun st hst => k st _ hst (Same.new hst) (StAt.new hs hst (Int.le_refl 0))⟩
theorem pick2 {u v : V} {z : Int} (h0 : 0 ≤ z) (h1 : z < 2) : ∃ y, atI [u, v] z = some y ∧ ((z = 0 ∧ y = u) ∨ (z = 1 ∧ y = v)) := by
  have : z = 0 ∨ z = 1 := by omega
  rcases this with rfl | rfl
  · exact ⟨u, rfl, .inl ⟨rfl, rfl⟩⟩
  · exact ⟨v, rfl, .inr ⟨rfl, rfl⟩⟩
def spLD (K : PySem.W.Frag) : Sp := fun vs H Q _ => ∃ (st a : Addr) (ns : List Int) (c : Int), vs = [.ref st, .int c] ∧ StAt K H st a ns ∧ 0 < c ∧ c ≤ 2000000000000000000 ∧ ∀ z H', 0 ≤ z → z < c → SameB st H H' → StAt K H' st a ns → Q (.int z) H'
theorem divW {i j : Int} (h : 0 < j) (h2 : j ≤ 2000000000000000000) : CDivW i j := wide_div (b := 62) h (by omega) (by decide) (by decide)
theorem ok__law_drawn (W : Wd K mg) : FnR P w K mg base CX0 1 (ga K "_law_drawn") (spLD K) := by
  refine (def_ok W.F__law_drawn sc__law_drawn (fun _ _ _ _ _ _ us hl => match us, hl with | [_, _], _ => rfl) (fun vs H Q E ⟨st, a, ns, c, ev, _⟩ => by rw [ev]; rfl) fun cdv A outer s H vs Q E hr ⟨st, a, ns, c, ev, hS, c0, c1, k⟩ => ?_).2
  subst ev
  obtain ⟨pos, m, r, hst, p0⟩ := hS.lst
  refine ⟨_, PSs.nox (pss_cons (ps_if (pt_cmpR op_gtI (pe_ix (ix_K K) (pv 0) pe_int (fun _ _ => rfl)) pe_int (nomark _)) (pss_cons (ps_set (i := 2) sc__law_drawn.nd rfl (Or.inl rfl) (pe_op op_modP (pe_ix (ix_K K) (pv 0) pe_int (fun _ _ => rfl)) (pv 1))) (pss_cons (ps_asg (pe_op op_divP (pe_ix (ix_K K) (pv 0) pe_int (fun _ _ => rfl)) (pv 1)) (pg_sub (pv 0) pe_int set_list)) (pss_one (ps_ret (pv 2))))) pss_nil) (pss_cons (ps_asg (pe_op op_plus (pe_ix (ix_K K) (pv 0) pe_int (fun _ _ => rfl)) pe_int) (pg_sub (pv 0) pe_int set_list)) (pss_cons (ps_if (pt_cmpR op_leI (pe_ix (ix_K K) (pv 0) pe_int (fun _ _ => rfl)) (pe_callB (c_lenK K) (by rfl) W.f_len (by decide +kernel) (pa_cons (pe_ix (ix_K K) (pv 0) pe_int (fun _ _ => rfl)) pa_nil)) (nomark _)) (pss_cons (ps_set (i := 3) sc__law_drawn.nd rfl (Or.inl rfl) (pe_ix (ix_K K) (pe_ix (ix_K K) (pv 0) pe_int (fun _ _ => rfl)) (pe_op op_minus (pe_ix (ix_K K) (pv 0) pe_int (fun _ _ => rfl)) pe_int) (fun _ _ => rfl))) (pss_cons (ps_asg (pe_ifExp (pt_cmpR op_geI (pv 3) (pe_op op_powP pe_int pe_int) (nomark _)) (pe_op op_divP (pv 3) (pv 1)) pe_int) (pg_sub (pv 0) pe_int set_list)) (pss_one (ps_ret (pe_op op_modP (pv 3) (pv 1)))))) pss_nil) (pss_cons (ps_asg (pe_op op_modP (pe_op op_plus (pe_op op_times (pe_ix (ix_K K) (pv 0) pe_int (fun _ _ => rfl)) pe_int) pe_int) pe_int) (pg_sub (pv 0) pe_int set_list)) (pss_one (ps_ret (pe_op op_modP (pe_op op_divP (pe_ix (ix_K K) (pv 0) pe_int (fun _ _ => rfl)) pe_int) (pv 1)))))))), ?_⟩
  walk_at "x"
  refine x_ixL (SqL.of hst) (i := 3) rfl ?_
  walk_at "x"
  refine x_ifd (fun hr => ?_) fun hr => ?_
  · walk_at "x"
    refine x_ixL (SqL.of hst) (i := 3) rfl ?_
    walk_at "x"
    refine x_mod c0 ?_
    walk_at "x"
    refine x_ixL (SqL.of hst) (i := 3) rfl ?_
    walk_at "x"
    refine x_div (divW c0 c1) ?_
    walk_at "x"
    refine x_setL hst rfl ?_
    walk_at "x"
    exact k _ _ (Int.emod_nonneg _ (by omega)) (Int.emod_lt_of_pos _ c0) SameB.upd (hS.put p0)
  · walk_at "x"
    refine x_ixL (SqL.of hst) (i := 1) rfl ?_
    walk_at "x"
    refine x_setL hst rfl ?_
    have hS1 : StAt K (upd H st (.lst [.ref a, .int (pos + 1), .int m, .int r])) st a ns := hS.put (by omega)
    have e1 : (upd H st (.lst [.ref a, .int (pos + 1), .int m, .int r])) st = some (.lst [.ref a, .int (pos + 1), .int m, .int r]) := upd_same
    have s1 : SameB st H (upd H st (.lst [.ref a, .int (pos + 1), .int m, .int r])) := SameB.upd
    show (tSeq _ _) _ _ (upd H st (.lst [.ref a, .int (pos + 1), .int m, .int r]))
    generalize upd H st (.lst [.ref a, .int (pos + 1), .int m, .int r]) = H1 at hS1 e1 s1
    walk_at "x"
    refine x_ixL (SqL.of e1) (i := 1) rfl ?_
    walk_at "x"
    refine x_ixL (SqL.of e1) (i := 0) rfl ?_
    walk_at "x"
    refine x_lenL hS1.scr0 ?_
    walk_at "x"
    refine x_ifd (fun hl => ?_) fun hl => ?_
    · walk_at "x"
      refine x_ixL (SqL.of e1) (i := 0) rfl ?_
      walk_at "x"
      refine x_ixL (SqL.of e1) (i := 1) rfl ?_
      walk_at "x"
      rw [List.length_map] at hl
      have hlt : pos.toNat < ns.length := by omega
      refine x_ixL (v := .int (ns[pos.toNat])) hS1.scr0 (at_of (j := pos.toNat) (by omega) (by rw [List.getElem?_map, List.getElem?_eq_getElem hlt]; rfl)) ?_
      walk_at "x"
      refine x_pow ⟨by decide, by decide, by decide⟩ ?_
      walk_at "x"
      have fin : ∀ r2 : Int, gSub (tVar 0) (tC (.int 3)) rSetL (.int r2) [some (.ref st), some (.int c), none, some (.int (ns[pos.toNat]))] H1 (fun σ H' => tRet (tOp rModP (tVar 3) (tVar 1)) { nx := fun _ H' => Q .non H', rt := Q } σ H') := by
        intro r2
        walk_at "x"
        refine x_setL e1 rfl ?_
        walk_at "x"
        refine x_mod c0 ?_
        exact k _ _ (Int.emod_nonneg _ (by omega)) (Int.emod_lt_of_pos _ c0) (s1.trans SameB.upd) (hS1.put (by omega))
      refine x_ifd (fun hb => ?_) fun hb => ?_
      · walk_at "x"
        refine x_div (divW c0 c1) ?_
        exact fin _
      · refine x_c ?_
        exact fin _
    · walk_at "x"
      refine x_ixL (SqL.of e1) (i := 2) rfl ?_
      walk_at "x"
      refine x_timesI (.inr ⟨by decide, by decide⟩) ?_
      walk_at "x"
      refine x_mod (by decide) ?_
      walk_at "x"
      refine x_setL e1 rfl ?_
      walk_at "x"
      refine x_ixL (SqL.of upd_same) (i := 2) rfl ?_
      walk_at "x"
      refine x_div (divW (by decide) (by decide)) ?_
      walk_at "x"
      refine x_mod c0 ?_
      exact k _ _ (Int.emod_nonneg _ (by omega)) (Int.emod_lt_of_pos _ c0) (s1.trans SameB.upd) (hS1.put (by omega))
def spRS (K : PySem.W.Frag) : Sp := fun vs H Q _ => ∃ (st a : Addr) (ns : List Int) (m h : Int), vs = [.ref st, .int m, .int h] ∧ StAt K H st a ns ∧ 0 ≤ m ∧ m ≤ 100 ∧ 0 ≤ h ∧ h ≤ 1000000000000000000 ∧
  ∀ r H' ps l, H r = none → SameB st H H' → StAt K H' st a ns → r ≠ st → H' r = some (.lst ps) → StepsAt H' ps l → (l.length : Int) ≤ m → fitsS h l → Q (.ref r) H'
theorem ok__law_random_steps (W : Wd K mg) : FnR P w K mg base CX0 2 (ga K "_law_random_steps") (spRS K) := by
  refine (def_ok W.F__law_random_steps sc__law_random_steps (fun _ _ _ _ _ _ us hl => match us, hl with | [_, _, _], _ => rfl) (fun vs H Q E ⟨st, a, ns, m, h, ev, _⟩ => by rw [ev]; rfl) fun cdv A outer s H vs Q E hr ⟨st, a, ns, m, h, ev, hS, m0, m1, h0, h1, k⟩ => ?_).2
  subst ev
  refine ⟨_, PSs.nox (pss_cons (ps_par (i := 3) (j := 4) (by rfl) sc__law_random_steps.nd rfl rfl (by decide) rfl rfl (pa_cons (pe_lst pa_nil) (pa_cons (pe_callR (ok__law_drawn W) (hr.mono (by decide)) W.g__law_drawn W.k__law_drawn pass0 rfl (pa_cons (pv 0) (pa_cons pe_int pa_nil))) pa_nil)) (by rfl)) (pss_cons (ps_for PassesOwn.never rfl (pi_range1 (by rfl) W.f_range (pa_cons (pe_callR (ok__law_drawn W) (hr.mono (by decide)) W.g__law_drawn W.k__law_drawn pass0 rfl (pa_cons (pv 0) (pa_cons (pe_op op_plus (pv 1) pe_int) pa_nil))) pa_nil)) (pg_name (i := 5) sc__law_random_steps.nd rfl (Or.inl rfl)) (pss_one (ps_if (PW.pt (pw_and (pt_cmpR (op_eqK K hr.units) (pv 4) pe_int (nomark _)) (pw_and1 (pt_cmpR (op_eqK K hr.units) (pe_callR (ok__law_drawn W) (hr.mono (by decide)) W.g__law_drawn W.k__law_drawn pass0 rfl (pa_cons (pv 0) (pa_cons pe_int pa_nil))) pe_int (nomark _))))) (pss_one (ps_expr (pe_bmK K PySem.F.plainAttrs_list PySem.F.slot_list_append PySem.F.type_list_append mt_append (pv 3) (pa_cons (pe_tup (pa_cons pe_str pa_nil)) pa_nil)))) (pss_cons (ps_set (i := 6) sc__law_random_steps.nd rfl (Or.inl rfl) (pe_ix (ix_K K) (pe_lst (pa_cons (pe_callR (ok__law_drawn W) (hr.mono (by decide)) W.g__law_drawn W.k__law_drawn pass0 rfl (pa_cons (pv 0) (pa_cons (pe_op op_plus (pv 2) pe_int) pa_nil))) (pa_cons (pe_op op_minus (pv 2) (pe_callR (ok__law_drawn W) (hr.mono (by decide)) W.g__law_drawn W.k__law_drawn pass0 rfl (pa_cons (pv 0) (pa_cons (pe_op op_plus (pe_op op_divP (pv 2) pe_int) pe_int) pa_nil)))) pa_nil))) (pe_callR (ok__law_drawn W) (hr.mono (by decide)) W.g__law_drawn W.k__law_drawn pass0 rfl (pa_cons (pv 0) (pa_cons pe_int pa_nil))) (fun _ _ => rfl))) (pss_one (ps_expr (pe_bmK K PySem.F.plainAttrs_list PySem.F.slot_list_append PySem.F.type_list_append mt_append (pv 3) (pa_cons (pe_tup (pa_cons (pe_ix (ix_K K) (pe_lst (pa_cons pe_str (pa_cons pe_str pa_nil))) (pe_callR (ok__law_drawn W) (hr.mono (by decide)) W.g__law_drawn W.k__law_drawn pass0 rfl (pa_cons (pv 0) (pa_cons pe_int pa_nil))) (fun _ _ => rfl)) (pa_cons (pv 6) pa_nil))) pa_nil)))))))) (pss_one (ps_ret (pv 3))))), ?_⟩
  walk_at "x"
  refine ⟨sz rfl, fun r hr0 => ?_⟩
  walk_at "x"
  refine ⟨st, a, ns, 3, rfl, hS.mono (Same.new hr0), by decide, by decide, fun z1 H1 z10 z11 s1 S1 => ?_⟩
  walk_at "x"
  refine ⟨_, _, rfl, ?_⟩
  walk_at "x"
  refine ⟨st, a, ns, m + 1, rfl, S1, by omega, by omega, fun z2 H2 z20 z21 s2 S2 => ?_⟩
  walk_at "x"
  refine x_iR1At (by omega) (by omega) ?_
  have hne : r ≠ st := hS.neN hr0
  have sA : SameB st H H2 := (SameB.of (Same.new hr0)).trans (s1.trans s2)
  have hrr : H2 r = some (.lst []) := s2 _ _ hne (s1 _ _ hne upd_same)
  refine x_loop walk_range (fun i σ H3 => SameB st H H3 ∧ StAt K H3 st a ns ∧ (∃ u v, σ = [some (.ref st), some (.int m), some (.int h), some (.ref r), some (.int z1), u, v]) ∧ ∃ ps l, H3 r = some (.lst ps) ∧ StepsAt H3 ps l ∧ l.length = i ∧ fitsS h l) ⟨sA, S2, ⟨_, _, rfl⟩, [], [], hrr, .nil, rfl, fun b n hm => nomatch hm⟩ (fun _ _ _ _ _ => trivial) ?_ ?_
  · rintro i y σ H4 H3 hi ⟨s3, S3, ⟨u, v, rfl⟩, ps, l, hps, hpl, hll, hfl⟩ ⟨rfl, rfl⟩
    have lps : ps.length = l.length := pr_len hpl
    walk_at "x"
    -- what a new step leads to
    have put : ∀ (H5 : Hp) (t : Addr) (sp : Stp) (b : Option V), SameB st H3 H5 → StAt K H5 st a ns → H5 t = none → (∀ b n, sp = .mt b n → 0 ≤ n ∧ n ≤ h) →
        SameB st H (upd (upd H5 t (.tup (stepV sp))) r (.lst (ps ++ [.ref t]))) ∧ StAt K (upd (upd H5 t (.tup (stepV sp))) r (.lst (ps ++ [.ref t]))) st a ns ∧
        (∃ u v, [some (V.ref st), some (.int m), some (.int h), some (.ref r), some (.int z1), some (.int (0 + (i : Int))), b] = [some (V.ref st), some (.int m), some (.int h), some (.ref r), some (.int z1), u, v]) ∧
        ∃ ps' l', (upd (upd H5 t (.tup (stepV sp))) r (.lst (ps ++ [.ref t]))) r = some (.lst ps') ∧ StepsAt (upd (upd H5 t (.tup (stepV sp))) r (.lst (ps ++ [.ref t]))) ps' l' ∧ l'.length = i + 1 ∧ fitsS h l' := by
      intro H5 t sp b s5 S5 ht hsp
      have hr5 : H5 r = some (.lst ps) := s5 _ _ hne hps
      have e5 : Same H5 (upd H5 t (.tup (stepV sp))) := Same.new ht
      have hr6 := e5 _ _ hr5
      have S6 := S5.mono e5
      have sN : SameB st H (upd (upd H5 t (.tup (stepV sp))) r (.lst (ps ++ [.ref t]))) := by
        intro b o hb e
        rw [upd_ne (ne_of_none e hr0)]
        exact e5 _ _ (s5 _ _ hb (s3 _ _ hb e))
      refine ⟨sN, ?_, ⟨_, _, rfl⟩, _, l ++ [sp], upd_same, ?_, ?_, ?_⟩
      · obtain ⟨p1, p2, p3, p4, p5⟩ := S6.lst
        exact ⟨⟨p1, p2, p3, by rw [upd_ne hne.symm]; exact p4, p5⟩, fun H' s' => hS.scr H' (sN.trans s')⟩
      · refine pr_snoc ((StepsAt.monoB S3 s5 hpl).mono2 e5 hr6) ⟨t, rfl, ?_⟩
        rw [upd_ne (ne_of upd_same hr6 (by intro z; cases z))]
        exact upd_same
      · rw [List.length_append, hll]
        rfl
      · intro b n hm
        rcases List.mem_append.mp hm with hm | hm
        · exact hfl b n hm
        · exact hsp b n (List.mem_singleton.mp hm).symm
    refine x_meet (fun H5 => SameB st H3 H5 ∧ StAt K H5 st a ns) ?meet (fun meet => x_ifd (fun hz => ?turn) fun hz => x_F (meet H3 ⟨SameB.refl _ _, S3⟩))
    case turn =>
      walk_at "x"
      refine ⟨st, a, ns, 4, rfl, S3, by decide, by decide, fun z4 H5 z40 z41 s5 S5 => ?_⟩
      walk_at "x"
      refine x_ifd (fun hz4 => ?_) fun hz4 => ?_
      · walk_at "x"
        refine ⟨ty_lst (s5 _ _ hne hps), ?_⟩
        walk_at "x"
        refine ⟨sz rfl, fun t ht => ?_⟩
        walk_at "x"
        refine x_app (up (s5 _ _ hne hps) ht) (sz5' (by omega)) ?_
        exact put H5 t .turn _ s5 S5 ht (fun b n e => nomatch e)
      · exact meet H5 ⟨s5, S5⟩
    case meet =>
      rintro H5 ⟨s5, S5⟩
      walk_at "x"
      refine ⟨st, a, ns, h + 1, rfl, S5, by omega, by omega, fun y1 H6 y10 y11 s6 S6 => ?_⟩
      walk_at "x"
      refine x_div (divW (by decide) (by decide)) ?_
      walk_at "x"
      refine ⟨st, a, ns, h / 3 + 1, rfl, S6, by omega, by omega, fun y2 H7 y20 y21 s7 S7 => ?_⟩
      walk_at "x"
      refine ⟨sz rfl, fun q hq => ?_⟩
      walk_at "x"
      refine ⟨st, a, ns, 2, rfl, S7.mono (Same.new hq), by decide, by decide, fun y3 H8 y30 y31 s8 S8 => ?_⟩
      have hq8 : H8 q = some (.lst [.int y1, .int (h - y2)]) := s8 _ _ (S7.neN hq) upd_same
      obtain ⟨y, hy, hyy⟩ := pick2 (u := .int y1) (v := .int (h - y2)) y30 y31
      refine x_ixL (SqL.of hq8) hy ?_
      have ey : ∃ n : Int, y = .int n ∧ 0 ≤ n ∧ n ≤ h := by
        rcases hyy with ⟨_, e⟩ | ⟨_, e⟩
        · exact ⟨y1, e, y10, by omega⟩
        · exact ⟨h - y2, e, by omega, by omega⟩
      obtain ⟨n, rfl, n0, n1⟩ := ey
      have s38 : SameB st H3 H8 := s5.trans (s6.trans (s7.trans ((SameB.of (Same.new hq)).trans s8)))
      walk_at "x"
      refine ⟨ty_lst (s38 _ _ hne hps), ?_⟩
      walk_at "x"
      refine ⟨sz rfl, fun q2 hq2 => ?_⟩
      walk_at "x"
      refine ⟨st, a, ns, 2, rfl, S8.mono (Same.new hq2), by decide, by decide, fun y4 H9 y40 y41 s9 S9 => ?_⟩
      have hq9 : H9 q2 = some (.lst [.str "red", .str "blue"]) := s9 _ _ (S8.neN hq2) upd_same
      obtain ⟨y', hy', hyy'⟩ := pick2 (u := .str "red") (v := .str "blue") y40 y41
      refine x_ixL (SqL.of hq9) hy' ?_
      have eb : ∃ b : Bool, y' = .str (roomS b) := by
        rcases hyy' with ⟨_, e⟩ | ⟨_, e⟩
        · exact ⟨true, e⟩
        · exact ⟨false, e⟩
      obtain ⟨b, rfl⟩ := eb
      have s39 : SameB st H3 H9 := s38.trans ((SameB.of (Same.new hq2)).trans s9)
      walk_at "x"
      refine ⟨sz rfl, fun t ht => ?_⟩
      walk_at "x"
      refine x_app (up (s39 _ _ hne hps) ht) (sz5' (by omega)) ?_
      exact put H9 t (.mt b n) _ s39 S9 ht (fun b' n' e => by cases e; exact ⟨n0, n1⟩)
  · rintro σ H3 ⟨s3, S3, ⟨u, v, rfl⟩, ps, l, hps, hpl, hll, hfl⟩
    walk_at "x"
    exact k r H3 ps l hr0 s3 S3 hne hps hpl (by omega) hfl
def spLP (K : PySem.W.Frag) : Sp := fun vs H Q _ => ∃ (r : Addr) (ps : List V) (l : List Stp), vs = [.ref r] ∧ H r = some (.lst ps) ∧ StepsAt H ps l ∧ goodP l ∧ ∀ x H', H x = none → Same H H' → PlanAt (CP K) H' x l → Q (.ref x) H'
theorem good_take {l : List Stp} (h : goodP l) (n : Nat) : goodP (l.take n) := ⟨fun s hs => h.1 s (List.mem_of_mem_take hs), Nat.le_trans (List.length_take_le' _ _) h.2⟩
theorem ok__law_plan (W : Wd K mg) : FnR P w K mg base CX0 6 (ga K "_law_plan") (spLP K) := by
  refine (def_ok W.F__law_plan sc__law_plan (fun _ _ _ _ _ _ us hl => match us, hl with | [_], _ => rfl) (fun vs H Q E ⟨r, ps, l, ev, _⟩ => by rw [ev]; rfl) fun cdv A outer s H vs Q E hr ⟨r, ps, l, ev, hps, hpl, hg, k⟩ => ?_).2
  subst ev
  have lps : ps.length = l.length := pr_len hpl
  refine ⟨_, PSs.nox (pss_cons (ps_set (i := 1) sc__law_plan.nd rfl (Or.inl rfl) (pe_mk0 W.mk_Plan (ok_Plan_init W) (hr.mono (by decide)) W.g_Plan pass0 rfl)) (pss_cons (ps_for PassesOwn.never rfl (pi_listK K (pv 0)) (pg_name (i := 2) sc__law_plan.nd rfl (Or.inl rfl)) (pss_one (ps_set (i := 1) sc__law_plan.nd rfl (Or.inl rfl) (pe_methR W.c_Plan W.m_Plan_joined (ok_Plan_joined W) (hr.mono (by decide)) pass0 (pv 1) (pa_cons (pe_mk W.mk_Plan (ok_Plan_init W) (hr.mono (by decide)) W.g_Plan pass0 rfl (pa_cons (pv 2) pa_nil)) pa_nil))))) (pss_one (ps_ret (pv 1))))), ?_⟩
  walk_at "x"
  refine mk_plan (l := []) .nil ⟨(fun s hs => nomatch hs), Nat.zero_le _⟩ fun x0 H0 hx0 s0 p0 => ?_
  walk_at "x"
  refine x_iLAt (SqL.of (s0 _ _ hps)) (x_loop walk_list (fun i σ H2 => Same H H2 ∧ ∃ x b, σ = [some (.ref r), some (.ref x), b] ∧ H x = none ∧ PlanAt (CP K) H2 x (l.take i)) ⟨s0, x0, _, rfl, hx0, p0⟩ (fun i σ H2 _ ⟨s2, _⟩ => SqL.of (s2 _ _ hps)) ?_ ?_)
  · rintro i y σ H2 H3 hi ⟨s2, x, b, rfl, hx, hP⟩ ⟨rfl, ey⟩
    obtain ⟨st, hst, q, rfl, hq⟩ := pr_at hpl ey
    have tk : l.take (i + 1) = l.take i ++ [st] := by rw [List.take_add_one, hst]; rfl
    obtain ⟨dx, t, vs, g1, g2, g3⟩ := id hP.ex
    walk_at "x"
    refine x_methAt g1 rfl ?_
    walk_at "x"
    have g60 := good_take hg (i + 1)
    rw [tk] at g60 ⊢
    refine mk_plan (l := [st]) (.cons ⟨q, rfl, s2 _ _ hq⟩ .nil) ⟨fun s hs => g60.1 s (List.mem_append_right _ hs), by show 1 ≤ 60; decide⟩ fun x1 H4 hx1 s4 p4 => ?_
    walk_at "x"
    refine ⟨[.ref x], [.ref x1], rfl, rfl, sz rfl, fun u hu => ?_⟩
    refine ⟨x, x1, u, l.take i, [st], rfl, (hP.mono s4).mono (Same.new hu), p4.mono (Same.new hu), upd_same, g60, fun x5 H5 hx5 s5 p5 => ?_⟩
    walk_at "x"
    have sA := (s2.trans s4).trans ((Same.new hu).trans s5)
    exact ⟨sA, x5, _, rfl, ((s2.trans s4).trans (Same.new hu)).free hx5, p5⟩
  · rintro σ H2 ⟨s2, x, b, rfl, hx, hP⟩
    rw [lps, List.take_length] at hP
    walk_at "x"
    exact k x H2 hx s2 hP
end
end K13

set_option Elab.async false
set_option linter.all false
set_option autoImplicit false
set_option maxRecDepth 100000
set_option pp.maxSteps 1500
set_option maxHeartbeats 4000000
namespace K13
open PySem PySem.Spec PyProof.Rows L2 He ChH Ch ChM
local macro_rules | `(tactic| walk_at "x1") => `(tactic| first
  | ((with_reducible apply x_var); exact rfl)
  | with_reducible refine x_c ?_
  | with_reducible refine x_op ?_
  | with_reducible refine x_seq ?_
  | with_reducible refine x_asg ?_
  | with_reducible refine x_gname ?_
  | with_reducible refine x_cons ?_
  | with_reducible refine x_nil ?_
  | with_reducible refine x_fld ?_
  | with_reducible refine x_ret ?_
  | with_reducible refine x_ifS ?_
  | with_reducible refine x_test ?_
  | with_reducible refine x_ex ?_
  | with_reducible refine x_call ?_
  | with_reducible refine x_mk ?_
  | with_reducible refine x_meth ?_
  | with_reducible refine x_prop ?_
  | with_reducible refine x_cb ?_
  | with_reducible refine x_tup ?_
  | with_reducible refine x_lst ?_
  | with_reducible refine x_drop ?_
  | with_reducible refine x_for ?_
  | with_reducible refine x_iL ?_
  | with_reducible refine x_iT ?_
  | with_reducible refine x_iE ?_
  | with_reducible refine x_iU ?_
  | with_reducible refine x_iR1 ?_
  | with_reducible refine x_iR2 ?_
  | with_reducible refine x_gcons ?_
  | with_reducible refine x_gnil ?_
  | with_reducible refine x_par ?_
  | with_reducible refine x_lstRg ?_
  | with_reducible refine x_rg1 ?_
  | with_reducible refine x_rg1At ?_
  | with_reducible refine x_par3 ?_
  | with_reducible refine x_bm ?_
  | with_reducible refine x_bm0 ?_
  | with_reducible refine x_gSub ?_
  | with_reducible refine x_lc ?_
  | with_reducible refine x_yes ?_
  | with_reducible refine x_setf ?_
  | with_reducible refine x_next ?_
  | with_reducible refine x_B ?_
  | with_reducible refine x_and ?_
  | with_reducible refine x_or ?_
  | with_reducible refine x_not ?_
  | with_reducible refine x_andV ?_
  | with_reducible refine x_orV ?_
  | with_reducible refine x_notV ?_
  | with_reducible refine x_ifE ?_
  | with_reducible refine x_chain ?_
  | with_reducible refine x_chain3 ?_
  | with_reducible refine x_un ?_
  | with_reducible refine x_isNe ?_
  | with_reducible refine x_notNe ?_
  | with_reducible refine x_starA ?_
  | with_reducible refine x_plusI ?_
  | with_reducible refine x_minus ?_
  | with_reducible refine x_lt ?_
  | with_reducible refine x_le ?_
  | with_reducible refine x_gt ?_
  | with_reducible refine x_ge ?_
  | with_reducible refine x_eqI ?_
  | with_reducible refine x_neI ?_
  | with_reducible refine x_eqS ?_
  | with_reducible refine x_eqB ?_
  | with_reducible refine x_neB ?_
  | with_reducible refine x_int ?_
  | with_reducible refine x_intB ?_
  | with_reducible refine x_max2 ?_
  | with_reducible refine x_min2 ?_
  | with_reducible refine x_max3 ?_
  | with_reducible refine x_abs ?_
  | with_reducible refine x_neg ?_
  | with_reducible refine x_isi_ii ?_
  | with_reducible refine x_isi_ib ?_
  | with_reducible refine x_T ?_
  | with_reducible refine x_nT ?_
  | with_reducible refine x_nF ?_
  | with_reducible refine x_F ?_)
local macro_rules | `(tactic| walk_at "x") => `(tactic| repeat walk_at "x1")

local macro_rules | `(tactic| walk_at "q1") => `(tactic| first
  | walk_at "x1"
  | with_reducible refine x_sl ?_
  | with_reducible refine x_cmeth ?_
  | with_reducible refine x_noPart ?_
  | with_reducible refine x_part ?_
  | with_reducible refine x_partI ?_)
local macro_rules | `(tactic| walk_at "q") => `(tactic| repeat walk_at "q1")

section
variable {P : Program} {w : World} {K : PySem.W.Frag} {mg : Str → Option Value} {base : Heap}
theorem ok_moved (W : Wd K mg) : FnR P w K mg base CX0 1 (ga K "moved") (fun vs H Q _ => ∃ c x s n : Int, vs = [.int c, .int x, .int s, .int n] ∧ Q (.int (moved c x s n)) H) := by
  refine (def_ok W.F_moved sc_moved (fun _ _ _ _ _ _ us hl => match us, hl with | [_, _, _, _], _ => rfl) (fun vs H Q E ⟨c, x, s, n, e, _⟩ => by rw [e]; rfl) fun cdv A outer s' H vs Q E hr ⟨c, x, s, n, e, k⟩ => ?_).2
  subst e
  refine ⟨_, PSs.nox (pss_cons (ps_if (pt_cmpR (op_eqK K hr.units) (pv 2) pe_int (nomark _)) (pss_one (ps_ret (pe_callB (c_max2 rfl) (by rfl) W.f_max (by decide +kernel) (pa_cons (pv 1) (pa_cons (pv 3) pa_nil))))) pss_nil) (pss_one (ps_ret (pe_ifExp (pt_cmpR (op_eqK K hr.units) (pv 2) (pe_un un_neg pe_int) (nomark _)) (pe_callB (c_min2 rfl) (by rfl) W.f_min (by decide +kernel) (pa_cons (pv 1) (pa_cons (pe_op op_minus (pv 0) (pv 3)) pa_nil))) (pv 1))))), ?_⟩
  unfold moved at k
  walk_at "q"
  refine x_ifd (fun h => ?_) fun h => ?_
  · rw [if_pos h] at k
    walk_at "q"
    exact k
  · rw [if_neg h] at k
    walk_at "q"
    refine x_ifd (fun h => ?_) fun h => ?_
    · rw [if_pos h] at k
      walk_at "q"
      exact k
    · rw [if_neg h] at k
      walk_at "q"
      exact k
theorem dp_pairs {H : Hp} : ∀ {ps : List V} {sd : List (Int × Int)}, PairsAt H ps sd → DpAll K H ps (sd.map fun q => PyData.tuple [.int q.1, .int q.2])
  | [], [], _ => .nil
  | _ :: _, q :: _, .cons ⟨a, e, h⟩ r => by
    subst e
    exact .cons (.tup (SqT.of h) (.cons (.int _) (.cons (.int _) .nil))) (dp_pairs r)
theorem simP_snoc {c : Int} : ∀ (l : List (Int × Int)) (q : Int × Int) (x : Int), simP c (l ++ [q]) x = moved c (simP c l x) q.1 q.2
  | [], _, _ => rfl
  | p :: r, q, x => simP_snoc r q (moved c x p.1 p.2)
theorem x_eqNone {H : Hp} {Q : VK} {p q : Addr} {ps : List V} {sd : List (Int × Int)} (h1 : SqL K H p ps) (hp : PairsAt H ps sd) (h2 : SqL K H q []) (h0 : 0 < sd.length) (k : Q (.bl false) H) : rEqU K (.ref p) (.ref q) H Q := by
  have l1 : Lay 2 (.list (sd.map fun q => PyData.tuple [.int q.1, .int q.2])) := lay_list fun d hd => by
    obtain ⟨q, _, rfl⟩ := List.mem_map.mp hd
    exact lay_tup fun d hd => by
      rcases List.mem_cons.mp hd with e | e
      · rw [e]; exact lay_int _ _
      · rw [List.mem_singleton.mp e]; exact lay_int _ _
  have l2 : Lay 2 (.list []) := lay_list fun d hd => nomatch hd
  refine x_eqDp (.lst h1 (dp_pairs hp)) (.lst h2 .nil) l1.shaped l2.shaped ?_
  cases sd with
  | nil => exact absurd h0 (by decide)
  | cons q r => exact k
theorem cut_head (xs : List V) (i : Nat) (h : i ≤ xs.length) : cutV xs none (some (i : Int)) = xs.take i := by
  unfold cutV
  rw [HT.sIx_none, HT.sIx_nat, List.drop_zero, Nat.sub_zero, Nat.min_eq_left h]
def spCar (K : PySem.W.Frag) : SpG := fun vs H Q _ => ∃ (p : Addr) (c x f t : Int) (l : List Stp), vs = [.ref p, .int c, .int x, .int f, .int t] ∧ PlanAt (CP K) H p l ∧ l.length ≤ 60 ∧ 0 < l.length ∧ fitsS c l ∧ 0 ≤ x ∧ x ≤ c ∧ c ≤ 1000000000000000000 ∧
  1 ≤ f ∧ f ≤ t ∧ t ≤ 1000000000000000000 ∧ t ≤ f + 9999 ∧ ∀ H', Same H H' → Q ((List.range (t - f + 1).toNat).map fun i => V.int (cntS c l x ((f - 1).toNat + i))) H'
theorem okg_carryings (W : Wd K mg) : G2.GFn2 P w K mg base 9 (ga K "carryings") (fdOf K (ga K "carryings")) ["plan", "chairs", "start", "first", "last"] (spCar K) := by
  refine G2.gen_ok W.F_carryings sc_carryings (fun vs H Q E ⟨p, c, x, f, t, l, e, _⟩ => by rw [e]; rfl) fun cdv A outer s H vs Q E pn hr ⟨p, c, x, f, t, l, e, hp, h60, l0, hf, x0, x1, c1, f1, ft, t1, t2, k⟩ => ?_
  subst e
  refine ⟨_, (G2.gss2_cons (G2.gs2_ps (G2.PS.nox' (ps_expr (pe_callR (ok_validate_house W) (hr.mono (by decide)) W.g_validate_house W.k_validate_house pass0 rfl (pa_cons (pv 0) (pa_cons (pv 1) pa_nil)))))) (G2.gss2_cons (G2.gs2_ps (G2.PS.nox' (ps_expr (pe_callR (ok_validate_start W) (hr.mono (by decide)) W.g_validate_start W.k_validate_start pass0 rfl (pa_cons (pv 1) (pa_cons (pv 2) pa_nil)))))) (G2.gss2_cons (G2.gs2_ps (G2.PS.nox' (ps_expr (pe_callR (ok_validate_number W) (hr.mono (by decide)) W.g_validate_number W.k_validate_number pass0 rfl (pa_cons (pv 3) (pa_cons pe_int (pa_cons (pe_gi W.i_MAX_ROUNDS_effects rfl) pa_nil))))))) (G2.gss2_cons (G2.gs2_ps (G2.PS.nox' (ps_expr (pe_callR (ok_validate_number W) (hr.mono (by decide)) W.g_validate_number W.k_validate_number pass0 rfl (pa_cons (pv 4) (pa_cons (pv 3) (pa_cons (pe_callB (c_min2 rfl) (by rfl) W.f_min (by decide +kernel) (pa_cons (pe_gi W.i_MAX_ROUNDS_effects rfl) (pa_cons (pe_op op_plus (pv 3) pe_int) pa_nil))) pa_nil))))))) (G2.gss2_cons (G2.gs2_ps (G2.PS.nox' (ps_set (i := 5) sc_carryings.nd rfl (Or.inl rfl) (pe_callR (ok_sides_of W) (hr.mono (by decide)) W.g_sides_of W.k_sides_of pass0 rfl (pa_cons (pv 0) pa_nil))))) (G2.gss2_cons (G2.gs2_ps (G2.PS.nox' (ps_if (pt_cmpR (op_eqK K hr.units) (pv 5) (pe_lst pa_nil) (nomark _)) (pss_one ps_never) pss_nil))) (G2.gss2_cons (G2.gs2_ps (G2.PS.nox' (ps_par (i := 6) (j := 7) (by rfl) sc_carryings.nd rfl rfl (by decide) rfl rfl (pa_cons (pe_op op_divP (pe_op op_minus (pv 3) pe_int) (pe_callB (c_lenK K) (by rfl) W.f_len (by decide +kernel) (pa_cons (pv 5) pa_nil))) (pa_cons (pe_op op_modP (pe_callTy c_int (by rfl) W.f_int (by decide +kernel) (pa_cons (pe_op op_minus (pv 3) pe_int) pa_nil)) (pe_callB (c_lenK K) (by rfl) W.f_len (by decide +kernel) (pa_cons (pv 5) pa_nil))) pa_nil)) (by rfl)))) (G2.gss2_cons (G2.gs2_ps (G2.PS.nox' (ps_set (i := 8) sc_carryings.nd rfl (Or.inl rfl) (pe_methR W.c_Effect W.m_Effect_end (ok_Effect_end W) (hr.mono (by decide)) pass0 (pe_callR (ok_power W) (hr.mono (by decide)) W.g_power W.k_power pass0 rfl (pa_cons (pe_callR (ok_effect_of W) (hr.mono (by decide)) W.g_effect_of W.k_effect_of pass0 rfl (pa_cons (pv 0) (pa_cons (pv 1) pa_nil))) (pa_cons (pv 6) pa_nil))) (pa_cons (pv 2) pa_nil))))) (G2.gss2_cons (G2.gs2_ps (G2.PS.nox' (ps_for PassesOwn.never rfl (pi_listK K (pe_slice (sl_listK K) (pv 5) po_none (po_some (pv 7)))) (pg_tupK (n := 2) K rfl (pgs_cons (pg_name (i := 9) sc_carryings.nd rfl (Or.inl rfl)) (pgs_cons (pg_name (i := 10) sc_carryings.nd rfl (Or.inl rfl)) pgs_nil))) (pss_one (ps_set (i := 8) sc_carryings.nd rfl (Or.inl rfl) (pe_callR (ok_moved W) (hr.mono (by decide)) W.g_moved W.k_moved pass0 rfl (pa_cons (pv 1) (pa_cons (pv 8) (pa_cons (pv 9) (pa_cons (pv 10) pa_nil)))))))))) (G2.gss2_cons (G2.gs2_for owns_gcx rfl (pi_range2 (by rfl) W.f_range (pa_cons (pv 3) (pa_cons (pe_op op_plus (pv 4) pe_int) pa_nil))) (pg_name (i := 11) sc_carryings.nd rfl (Or.inl rfl)) (G2.gss2_cons (G2.gs2_ps (G2.PS.nox' (ps_asg (pe_ix (ix_K K) (pv 5) (pv 7) (fun _ _ => rfl)) (pg_tupK (n := 2) K rfl (pgs_cons (pg_name (i := 9) sc_carryings.nd rfl (Or.inl rfl)) (pgs_cons (pg_name (i := 10) sc_carryings.nd rfl (Or.inl rfl)) pgs_nil)))))) (G2.gss2_cons (G2.gs2_ps (G2.PS.nox' (ps_set (i := 12) sc_carryings.nd rfl (Or.inl rfl) (pe_callR (ok_moved W) (hr.mono (by decide)) W.g_moved W.k_moved pass0 rfl (pa_cons (pv 1) (pa_cons (pv 8) (pa_cons (pv 9) (pa_cons (pv 10) pa_nil)))))))) (G2.gss2_cons (G2.gs2_yield (pe_callB c_abs (by rfl) W.f_abs (by decide +kernel) (pa_cons (pe_op op_minus (pv 12) (pv 8)) pa_nil))) (G2.gss2_pss (PSs.nox (pss_cons (ps_par (i := 8) (j := 7) (by rfl) sc_carryings.nd rfl rfl (by decide) rfl rfl (pa_cons (pv 12) (pa_cons (pe_op op_plus (pv 7) pe_int) pa_nil)) (by rfl)) (pss_one (ps_if (pt_cmpR (op_eqK K hr.units) (pv 7) (pe_callB (c_lenK K) (by rfl) W.f_len (by decide +kernel) (pa_cons (pv 5) pa_nil)) (nomark _)) (pss_cons (ps_set (i := 7) sc_carryings.nd rfl (Or.inl rfl) pe_int) (pss_one (ps_set (i := 8) sc_carryings.nd rfl (Or.inl rfl) (pe_ifExp (pt_val (pe_propR W.c_Plan W.p_Plan_is_turning (ok_Plan_is_turning W) (hr.mono (by decide)) (pv 0))) (pe_op op_minus (pv 1) (pv 8)) (pv 8))))) pss_nil))))))))) G2.gss2_nil)))))))))), ?_⟩
  with_reducible refine G2.x_gthen ?_
  with_reducible refine G2.x_plain ?_
  walk_at "q"
  obtain ⟨eo, ec, _, _⟩ := effOf_ok (c := c) (by omega) hf
  refine ⟨p, c, l, rfl, hp, h60, by omega, c1, hf, fun H1 s1 => ?_⟩
  with_reducible refine G2.x_gn ?_
  with_reducible refine G2.x_gthen ?_
  with_reducible refine G2.x_plain ?_
  walk_at "q"
  refine ⟨c, x, rfl, x0, x1, ?_⟩
  with_reducible refine G2.x_gn ?_
  with_reducible refine G2.x_gthen ?_
  with_reducible refine G2.x_plain ?_
  walk_at "q"
  refine ⟨f, 1, _, rfl, f1, by omega, ?_⟩
  with_reducible refine G2.x_gn ?_
  with_reducible refine G2.x_gthen ?_
  with_reducible refine G2.x_plain ?_
  walk_at "q"
  refine ⟨t, f, _, rfl, ft, by split <;> omega, ?_⟩
  with_reducible refine G2.x_gn ?_
  with_reducible refine G2.x_gthen ?_
  with_reducible refine G2.x_plain ?_
  walk_at "q"
  refine ⟨p, l, rfl, hp.mono s1, h60, fun r ps H2 hr2 s2 hps hpp => ?_⟩
  have lps : ps.length = (sides 1 l).length := pr_len hpp
  have ll : (sides 1 l).length = l.length := sides_len l 1
  walk_at "q"
  with_reducible refine G2.x_gn ?_
  with_reducible refine G2.x_gthen ?_
  with_reducible refine G2.x_plain ?_
  walk_at "q"
  refine ⟨sz rfl, fun t3 ht3 => ?_⟩; generalize hN3 : upd _ t3 _ = H3; obtain ⟨s3, e3⟩ := nws hN3 ht3
  refine x_eqNone (SqL.of (s3 _ _ hps)) (hpp.mono s3) (SqL.of e3) (by omega) ?_
  walk_at "q"
  with_reducible refine G2.x_gn ?_
  with_reducible refine G2.x_gthen ?_
  with_reducible refine G2.x_plain ?_
  walk_at "q"
  obtain ⟨j, rfl⟩ : ∃ j : Nat, f = (j : Int) + 1 := ⟨(f - 1).toNat, by omega⟩
  rw [show (j : Int) + 1 - 1 = (j : Int) by omega]
  have psl : ps.length = l.length := by omega
  refine x_lenL (SqL.of (s3 _ _ hps)) ?_
  rw [psl]
  refine x_div (divF (by omega) (by omega)) ?_
  walk_at "q"
  rw [show (j : Int) + 1 - 1 = (j : Int) by omega]
  walk_at "q"
  refine x_lenL (SqL.of (s3 _ _ hps)) ?_
  rw [psl]
  refine x_mod (by omega) ?_
  rw [← Int.natCast_ediv, ← Int.natCast_emod]
  walk_at "q"
  refine ⟨_, _, rfl, ?_⟩
  with_reducible refine G2.x_gn ?_
  with_reducible refine G2.x_gthen ?_
  with_reducible refine G2.x_plain ?_
  have hm := Nat.mod_lt j l0
  have hd := Nat.div_add_mod j l.length
  have s13 := s1.trans (s2.trans s3)
  walk_at "q"
  refine ⟨p, c, l, rfl, hp.mono s13, h60, fun y H4 s4 he => ?_⟩
  walk_at "q"
  refine ⟨y, _, ((j / l.length : Nat) : Int), rfl, he, eo, Int.natCast_nonneg _, fun z H5 g s5 hg ip => ?_⟩
  refine x_effM hg (by kernel_rfl) ?_
  walk_at "q"
  refine ⟨z, g, x, rfl, hg, ?_⟩
  rw [ip.fin x x0 (by rw [ec]; exact x1), Int.toNat_natCast]
  walk_at "q"
  with_reducible refine G2.x_gn ?_
  with_reducible refine G2.x_gthen ?_
  with_reducible refine G2.x_plain ?_
  walk_at "q"
  have s25 := (s3.trans (s4.trans s5))
  refine n_slL (SqL.of (s25 _ _ hps)) fun q6 H6 hq6 s6 e6 => ?_
  rw [cut_head ps (j % l.length) (by omega)] at e6
  have s26 := s25.trans s6
  have hp6 := hpp.mono s26
  refine x_iLAt (SqL.of e6) (x_loop walk_list (fun i σ H7 => Same H6 H7 ∧ ∃ v9 v10 v11 v12, σ = [some (.ref p), some (.int c), some (.int x), some (.int ((j : Int) + 1)), some (.int t), some (.ref r), some (.int ((j / l.length : Nat) : Int)), some (.int ((j % l.length : Nat) : Int)), some (.int (simP c ((sides 1 l).take i) (runF (effOf c l) (j / l.length) x))), v9, v10, v11, v12]) ⟨Same.refl _, _, _, _, _, rfl⟩ (fun i σ H7 _ ⟨s7, _⟩ => SqL.of (s7 _ _ e6)) ?_ ?_)
  · rintro i y7 σ H7 H8 hi ⟨s7, v9, v10, v11, v12, rfl⟩ ⟨rfl, ey⟩
    have hi' : i < j % l.length := by
      rw [List.length_take] at hi
      omega
    rw [List.getElem?_take_of_lt hi'] at ey
    obtain ⟨⟨sd, nd⟩, hst, q8, rfl, hq8⟩ := pr_at hp6 ey
    refine x_gTup (s7 _ _ hq8) rfl ?_
    unfold pairV
    walk_at "q"
    refine ⟨c, _, sd, nd, rfl, ?_⟩
    walk_at "q"
    have tk : (sides 1 l).take (i + 1) = (sides 1 l).take i ++ [(sd, nd)] := by rw [List.take_add_one, hst]; rfl
    rw [tk, simP_snoc]
    exact ⟨s7, _, _, _, _, rfl⟩
  rintro σ H7 ⟨s7, v9, v10, v11, v12, rfl⟩
  have el : (ps.take (j % l.length)).length = j % l.length := by
    rw [List.length_take]
    omega
  rw [el]
  rw [← plcS_round l0 hf x0 x1 (j / l.length) (j % l.length) hm, show j / l.length * l.length + j % l.length = j by rw [Nat.mul_comm]; omega]
  with_reducible refine G2.x_gn ?_
  with_reducible refine G2.x_gthen ?_
  with_reducible refine G2.x_gfor ?_
  walk_at "q"
  refine x_iR2At ⟨by omega, by omega, by omega, by omega⟩ ?_
  have s17 : Same H H7 := s1.trans (s2.trans (s26.trans s7))
  have hp7 := hp.mono s17
  have hps7 := s7 _ _ (s26 _ _ hps)
  have hpp7 := hp6.mono s7
  refine G2.x_gloopR (fun i ys σ H8 => Same H7 H8 ∧ ys = (List.range i).map (fun i => V.int (cntS c l x (j + i))) ∧ ∃ v9 v10 v11 v12, σ = [some (.ref p), some (.int c), some (.int x), some (.int ((j : Int) + 1)), some (.int t), some (.ref r), some (.int ((j / l.length : Nat) : Int)), some (.int (((j + i) % l.length : Nat) : Int)), some (.int (plcS c l x (j + i))), v9, v10, v11, v12]) ⟨Same.refl _, rfl, _, _, _, _, rfl⟩ ?_ ?_
  · rintro i ys σ H8 hi ⟨s8, rfl, v9, v10, v11, v12, rfl⟩
    have hmi := Nat.mod_lt (j + i) l0
    walk_at "q"
    with_reducible refine G2.x_gthen ?_
    with_reducible refine G2.x_plain ?_
    walk_at "q"
    obtain ⟨y9, hy9⟩ : ∃ y, ps[(j + i) % l.length]? = some y := ⟨_, List.getElem?_eq_getElem (by omega)⟩
    obtain ⟨⟨sd, nd⟩, hst, q9, rfl, hq9⟩ := pr_at hpp7 hy9
    obtain ⟨st1, st2⟩ := cnt_step (c := c) (x := x) l0 hst
    refine x_ixL (SqL.of (s8 _ _ hps7)) (atI_nat hy9) ?_
    refine x_gTup (s8 _ _ hq9) rfl ?_
    unfold pairV
    walk_at "q"
    with_reducible refine G2.x_gn ?_
    with_reducible refine G2.x_gthen ?_
    with_reducible refine G2.x_plain ?_
    walk_at "q"
    refine ⟨c, _, sd, nd, rfl, ?_⟩
    walk_at "q"
    with_reducible refine G2.x_gn ?_
    with_reducible refine G2.x_gthen ?_
    with_reducible refine G2.x_gyield (sz5' (by rw [List.length_map, List.length_range]; omega)) ?_
    walk_at "q"
    with_reducible refine G2.x_gm ?_
    with_reducible refine G2.x_plain ?_
    have eys : (List.range i).map (fun i => V.int (cntS c l x (j + i))) ++ [V.int (if moved c (plcS c l x (j + i)) sd nd - plcS c l x (j + i) < 0 then -(moved c (plcS c l x (j + i)) sd nd - plcS c l x (j + i)) else moved c (plcS c l x (j + i)) sd nd - plcS c l x (j + i))] = (List.range (i + 1)).map (fun i => V.int (cntS c l x (j + i))) := by
      rw [List.range_succ, List.map_append]
      congr 1
      show _ = [V.int (cntS c l x (j + i))]
      rw [st1]
      rfl
    walk_at "q"
    refine ⟨_, _, rfl, ?_⟩
    walk_at "q"
    refine x_lenL (SqL.of (s8 _ _ hps7)) ?_
    rw [psl]
    walk_at "q"
    have hd2 := Nat.div_add_mod (j + i) l.length
    refine x_ifd (fun e => ?_) fun e => ?_
    · have e' : (j + i) % l.length + 1 = l.length := by omega
      have em : (j + (i + 1)) % l.length = 0 := by
        have : j + (i + 1) = ((j + i) / l.length + 1) * l.length := by
          rw [Nat.succ_mul, Nat.mul_comm]
          omega
        rw [this, Nat.mul_mod_left]
      rw [if_pos e'] at st2
      walk_at "q"
      have hp8 := hp7.mono s8
      obtain ⟨dx, tt, ws, g1, g2, g3⟩ := id hp8.ex
      refine x_propAt g1 ⟨p, l, rfl, hp8, h60, fun H9 s9 => ?_⟩
      walk_at "q"
      refine x_if (fun ht => ?_) fun ht => ?_
      · rw [if_pos ht] at st2
        walk_at "q"
        with_reducible refine G2.x_gn ?_
        rw [em, show j + (i + 1) = j + i + 1 by omega, st2]
        exact ⟨s8.trans s9, eys, _, _, _, _, rfl⟩
      · rw [if_neg (by rw [ht]; decide)] at st2
        walk_at "q"
        with_reducible refine G2.x_gn ?_
        rw [em, show j + (i + 1) = j + i + 1 by omega, st2]
        exact ⟨s8.trans s9, eys, _, _, _, _, rfl⟩
    · have e' : ¬ (j + i) % l.length + 1 = l.length := by omega
      have em : (j + (i + 1)) % l.length = (j + i) % l.length + 1 := by
        have ej : j + (i + 1) = ((j + i) % l.length + 1) + l.length * ((j + i) / l.length) := by omega
        rw [ej, Nat.add_mul_mod_self_left, Nat.mod_eq_of_lt (by omega)]
      rw [if_neg e'] at st2
      walk_at "q"
      with_reducible refine G2.x_gn ?_
      rw [em, show j + (i + 1) = j + i + 1 by omega, st2]
      exact ⟨s8, eys, _, _, _, _, rfl⟩
  · rintro ys σ H8 ⟨s8, rfl, v9, v10, v11, v12, rfl⟩
    with_reducible refine G2.x_gm ?_
    with_reducible refine G2.x_g0 ?_
    have k' := k H8 (s17.trans s8)
    rw [show ((j : Int) + 1 - 1).toNat = j by omega, show (t - ((j : Int) + 1) + 1).toNat = (t + 1 - ((j : Int) + 1)).toNat by omega] at k'
    exact k'
end
end K13

set_option Elab.async false
set_option linter.all false
set_option autoImplicit false
set_option maxRecDepth 100000
set_option pp.maxSteps 1500
set_option maxHeartbeats 4000000
namespace K13
open PySem PySem.Spec PyProof.Rows L2 He ChH Ch ChM
/-! ### evidence, in plain -/
structure Ev where
  found : List Int
  place : Int
  last : Int
def evStep (c : Int) (e : Ev) (i : Nat) (p : Int × Int) : Ev :=
  if moved c e.place p.1 p.2 = e.place then e else ⟨(if p.1 = e.last then e.found.dropLast else e.found) ++ [(i : Int)], moved c e.place p.1 p.2, p.1⟩
def evN (c x : Int) (ps : List (Int × Int)) : Nat → Ev
  | 0 => ⟨[], x, 0⟩
  | n + 1 => match ps[n]? with
    | none => evN c x ps n
    | some p => evStep c (evN c x ps n) n p
def evF (c x : Int) (l : List Stp) : List Int := (evN c x (sides 1 l) l.length).found
theorem evN_ne (c x : Int) (ps : List (Int × Int)) : ∀ n, (evN c x ps n).found.length ≤ n ∧ ((evN c x ps n).last ≠ 0 → (evN c x ps n).found ≠ [])
  | 0 => ⟨Nat.le_refl _, fun h => absurd rfl h⟩
  | n + 1 => by
    obtain ⟨h1, h2⟩ := evN_ne c x ps n
    have e : evN c x ps (n + 1) = match ps[n]? with | none => evN c x ps n | some p => evStep c (evN c x ps n) n p := rfl
    rw [e]
    cases ps[n]? with
    | none => exact ⟨Nat.le_succ_of_le h1, h2⟩
    | some p =>
      dsimp only
      unfold evStep
      split
      · exact ⟨Nat.le_succ_of_le h1, h2⟩
      · refine ⟨?_, fun _ z => ?_⟩
        · show ((if p.1 = (evN c x ps n).last then (evN c x ps n).found.dropLast else (evN c x ps n).found) ++ [(n : Int)]).length ≤ n + 1
          rw [List.length_append]
          show _ + 1 ≤ n + 1
          have : (if p.1 = (evN c x ps n).last then (evN c x ps n).found.dropLast else (evN c x ps n).found).length ≤ n := by
            split
            · rw [List.length_dropLast]; omega
            · exact h1
          omega
        · exact absurd z (by simp)
/-! ### evidence judged, in plain -/
structure Jd where
  total : Int
  before : Int
  last : Int
def jdB (c : Int) (p : Int × Int) : Int := if p.1 = 1 then p.2 else c - p.2
def jdStep (c : Int) (e : Jd) (p : Int × Int) : Jd := ⟨e.total + (jdB c p - e.before) * p.1, jdB c p, p.1⟩
def jdN (c x : Int) (ps : List (Int × Int)) (idx : List Int) : Nat → Jd
  | 0 => ⟨0, x, 0⟩
  | n + 1 => match idx[n]? with
    | none => jdN c x ps idx n
    | some i => match ps[i.toNat]? with
      | none => jdN c x ps idx n
      | some p => jdStep c (jdN c x ps idx n) p
/-- the item at a position is right -/
def jdOk (c x : Int) (ps : List (Int × Int)) (idx : List Int) (k : Nat) (i : Int) : Prop :=
  0 ≤ i ∧ i < ps.length ∧ (∀ j, k ≠ 0 → idx[k - 1]? = some j → j < i) ∧ ∀ p, ps[i.toNat]? = some p → p.1 ≠ 0 ∧ p.1 ≠ (jdN c x ps idx k).last
local macro_rules | `(tactic| walk_at "x1") => `(tactic| first
  | ((with_reducible apply x_var); exact rfl)
  | with_reducible refine x_c ?_
  | with_reducible refine x_op ?_
  | with_reducible refine x_seq ?_
  | with_reducible refine x_asg ?_
  | with_reducible refine x_gname ?_
  | with_reducible refine x_cons ?_
  | with_reducible refine x_nil ?_
  | with_reducible refine x_fld ?_
  | with_reducible refine x_ret ?_
  | with_reducible refine x_ifS ?_
  | with_reducible refine x_test ?_
  | with_reducible refine x_ex ?_
  | with_reducible refine x_call ?_
  | with_reducible refine x_mk ?_
  | with_reducible refine x_meth ?_
  | with_reducible refine x_prop ?_
  | with_reducible refine x_cb ?_
  | with_reducible refine x_tup ?_
  | with_reducible refine x_lst ?_
  | with_reducible refine x_drop ?_
  | with_reducible refine x_for ?_
  | with_reducible refine x_iL ?_
  | with_reducible refine x_iT ?_
  | with_reducible refine x_iE ?_
  | with_reducible refine x_iU ?_
  | with_reducible refine x_iR1 ?_
  | with_reducible refine x_iR2 ?_
  | with_reducible refine x_gcons ?_
  | with_reducible refine x_gnil ?_
  | with_reducible refine x_par ?_
  | with_reducible refine x_lstRg ?_
  | with_reducible refine x_rg1 ?_
  | with_reducible refine x_rg1At ?_
  | with_reducible refine x_par3 ?_
  | with_reducible refine x_bm ?_
  | with_reducible refine x_bm0 ?_
  | with_reducible refine x_gSub ?_
  | with_reducible refine x_lc ?_
  | with_reducible refine x_yes ?_
  | with_reducible refine x_setf ?_
  | with_reducible refine x_next ?_
  | with_reducible refine x_B ?_
  | with_reducible refine x_and ?_
  | with_reducible refine x_or ?_
  | with_reducible refine x_not ?_
  | with_reducible refine x_andV ?_
  | with_reducible refine x_orV ?_
  | with_reducible refine x_notV ?_
  | with_reducible refine x_ifE ?_
  | with_reducible refine x_chain ?_
  | with_reducible refine x_chain3 ?_
  | with_reducible refine x_un ?_
  | with_reducible refine x_isNe ?_
  | with_reducible refine x_notNe ?_
  | with_reducible refine x_starA ?_
  | with_reducible refine x_plusI ?_
  | with_reducible refine x_minus ?_
  | with_reducible refine x_lt ?_
  | with_reducible refine x_le ?_
  | with_reducible refine x_gt ?_
  | with_reducible refine x_ge ?_
  | with_reducible refine x_eqI ?_
  | with_reducible refine x_neI ?_
  | with_reducible refine x_eqS ?_
  | with_reducible refine x_eqB ?_
  | with_reducible refine x_neB ?_
  | with_reducible refine x_int ?_
  | with_reducible refine x_intB ?_
  | with_reducible refine x_max2 ?_
  | with_reducible refine x_min2 ?_
  | with_reducible refine x_max3 ?_
  | with_reducible refine x_abs ?_
  | with_reducible refine x_neg ?_
  | with_reducible refine x_isi_ii ?_
  | with_reducible refine x_isi_ib ?_
  | with_reducible refine x_T ?_
  | with_reducible refine x_nT ?_
  | with_reducible refine x_nF ?_
  | with_reducible refine x_F ?_)
local macro_rules | `(tactic| walk_at "x") => `(tactic| repeat walk_at "x1")

local macro_rules | `(tactic| walk_at "q1") => `(tactic| first
  | walk_at "x1"
  | with_reducible refine x_sl ?_
  | with_reducible refine x_cmeth ?_
  | with_reducible refine x_noPart ?_
  | with_reducible refine x_part ?_
  | with_reducible refine x_partI ?_)
local macro_rules | `(tactic| walk_at "q") => `(tactic| repeat walk_at "q1")

section
variable {P : Program} {w : World} {K : PySem.W.Frag} {mg : Str → Option Value} {base : Heap}
def spFE (K : PySem.W.Frag) : Sp := fun vs H Q _ => ∃ (p : Addr) (c x : Int) (l : List Stp), vs = [.ref p, .int c, .int x] ∧ PlanAt (CP K) H p l ∧ l.length ≤ 60 ∧ 0 ≤ c ∧ c ≤ 1000000000000000000 ∧ fitsS c l ∧ 0 ≤ x ∧ x ≤ c ∧
  ∀ r H', H r = none → Same H H' → H' r = some (.lst ((evF c x l).map V.int)) → Q (.ref r) H'
theorem ok_find_evidence (W : Wd K mg) : FnR P w K mg base CX0 5 (ga K "find_evidence") (spFE K) := by
  refine (def_ok W.F_find_evidence sc_find_evidence (fun _ _ _ _ _ _ us hl => match us, hl with | [_, _, _], _ => rfl) (fun vs H Q E ⟨p, c, x, l, e, _⟩ => by rw [e]; rfl) fun cdv A outer s H vs Q E hr ⟨p, c, x, l, e, hp, h60, c0, c1, hf, x0, x1, k⟩ => ?_).2
  subst e
  refine ⟨_, PSs.nox (pss_cons (ps_expr (pe_callR (ok_validate_house W) (hr.mono (by decide)) W.g_validate_house W.k_validate_house pass0 rfl (pa_cons (pv 0) (pa_cons (pv 1) pa_nil)))) (pss_cons (ps_expr (pe_callR (ok_validate_start W) (hr.mono (by decide)) W.g_validate_start W.k_validate_start pass0 rfl (pa_cons (pv 1) (pa_cons (pv 2) pa_nil)))) (pss_cons (ps_par3 (i := 3) (j := 4) (l := 5) (by rfl) sc_find_evidence.nd rfl rfl rfl (by decide) (by decide) (by decide) rfl rfl rfl (pa_cons (pe_lst pa_nil) (pa_cons (pv 2) (pa_cons pe_int pa_nil))) (by rfl)) (pss_cons (ps_for PassesOwn.never rfl (pi_enumK K W.f_enumerate (pa_cons (pe_callR (ok_sides_of W) (hr.mono (by decide)) W.g_sides_of W.k_sides_of pass0 rfl (pa_cons (pv 0) pa_nil)) pa_nil)) (pg_tupK (n := 2) K rfl (pgs_cons (pg_name (i := 6) sc_find_evidence.nd rfl (Or.inl rfl)) (pgs_cons (pg_tupK (n := 2) K rfl (pgs_cons (pg_name (i := 7) sc_find_evidence.nd rfl (Or.inl rfl)) (pgs_cons (pg_name (i := 8) sc_find_evidence.nd rfl (Or.inl rfl)) pgs_nil))) pgs_nil))) (pss_cons (ps_set (i := 9) sc_find_evidence.nd rfl (Or.inl rfl) (pe_callR (ok_moved W) (hr.mono (by decide)) W.g_moved W.k_moved pass0 rfl (pa_cons (pv 1) (pa_cons (pv 4) (pa_cons (pv 7) (pa_cons (pv 8) pa_nil)))))) (pss_cons (ps_if (pt_cmpR (op_neK K hr.units) (pv 9) (pv 4) (nomark _)) (pss_cons (ps_if (pt_cmpR (op_eqK K hr.units) (pv 7) (pv 5) (nomark _)) (pss_one (ps_expr (pe_bm0K K PySem.F.plainAttrs_list PySem.F.slot_list_pop PySem.F.type_list_pop mt_pop (pv 3)))) pss_nil) (pss_cons (ps_expr (pe_bmK K PySem.F.plainAttrs_list PySem.F.slot_list_append PySem.F.type_list_append mt_append (pv 3) (pa_cons (pv 6) pa_nil))) (pss_one (ps_set (i := 5) sc_find_evidence.nd rfl (Or.inl rfl) (pv 7))))) pss_nil) (pss_one (ps_set (i := 4) sc_find_evidence.nd rfl (Or.inl rfl) (pv 9)))))) (pss_one (ps_ret (pv 3))))))), ?_⟩
  walk_at "q"
  refine ⟨p, c, l, rfl, hp, h60, c0, c1, hf, fun H1 s1 => ?_⟩
  walk_at "q"
  refine ⟨c, x, rfl, x0, x1, ?_⟩
  walk_at "q"
  refine ⟨sz rfl, fun r hr1 => ?_⟩; generalize hNr : upd _ r _ = H2; obtain ⟨s2, e2⟩ := nws hNr hr1
  walk_at "q"
  refine ⟨_, _, _, rfl, ?_⟩
  walk_at "q"
  refine ⟨p, l, rfl, (hp.mono s1).mono s2, h60, fun t ps H3 ht s3 hps hpp => ?_⟩
  have lps : ps.length = (sides 1 l).length := pr_len hpp
  have hr3 := s3 _ _ e2
  have ntr : t ≠ r := (ne_of_none e2 ht).symm
  have ll : (sides 1 l).length ≤ 60 := by rw [sides_len]; exact h60
  walk_at "q"
  refine x_iEAt (SqL.of hps) (x_loop walk_enum (fun i σ H4 => (∃ a b d f, σ = [some (.ref p), some (.int c), some (.int x), some (.ref r), some (.int (evN c x (sides 1 l) i).place), some (.int (evN c x (sides 1 l) i).last), a, b, d, f]) ∧ (∀ b o, b ≠ r → H3 b = some o → H4 b = some o) ∧ H4 r = some (.lst ((evN c x (sides 1 l) i).found.map V.int))) ⟨⟨_, _, _, _, rfl⟩, fun _ _ _ h => h, hr3⟩ (fun i σ H4 _ ⟨_, s4, _⟩ => SqL.of (s4 _ _ ntr hps)) ?_ ?_)
  · rintro i y σ H4 H5 hi ⟨⟨a, b, d, f, rfl⟩, s4, hr4⟩ ⟨T, v1, v2, rfl, hT, rfl, e1, e2⟩
    cases e1
    obtain ⟨⟨sd, n⟩, hst, q, rfl, hq⟩ := pr_at hpp e2
    have hq4 : H4 q = some (.tup (pairV (sd, n))) := s4 _ _ (ne_of hq hr3 (by intro z; cases z)) hq
    have en : evN c x (sides 1 l) (i + 1) = evStep c (evN c x (sides 1 l) i) i (sd, n) := by
      show (match (sides 1 l)[i]? with | none => evN c x (sides 1 l) i | some p => evStep c (evN c x (sides 1 l) i) i p) = _
      rw [hst]
    obtain ⟨fl, fne⟩ := evN_ne c x (sides 1 l) i
    rw [en]
    generalize evN c x (sides 1 l) i = e at fl fne hr4 ⊢
    obtain ⟨fd, pl, la⟩ := e
    refine x_gTup upd_same rfl ?_
    walk_at "q"
    refine x_gTup (up hq4 hT) rfl ?_
    unfold pairV
    walk_at "q"
    refine ⟨c, pl, sd, n, rfl, ?_⟩
    have s45 : ∀ b o, b ≠ r → H3 b = some o → (upd H4 T (.tup [.int (i : Nat), .ref q])) b = some o := fun b o hb e => up (s4 b o hb e) hT
    have hr5 : (upd H4 T (.tup [.int (i : Nat), .ref q])) r = some (.lst (fd.map V.int)) := up hr4 hT
    walk_at "q"
    unfold evStep
    dsimp only
    by_cases hm : moved c pl sd n = pl
    · rw [if_pos hm, hm, decide_eq_true (rfl : pl = pl)]
      walk_at "q"
      exact ⟨⟨_, _, _, _, rfl⟩, s45, hr5⟩
    · rw [if_neg hm, decide_eq_false hm]
      walk_at "q"
      have fin : ∀ (gs : List Int) (H6 : Hp) (D : Ends), gs.length ≤ i → (∀ b o, b ≠ r → H3 b = some o → H6 b = some o) → H6 r = some (.lst (gs.map V.int)) → (∀ b o, b ≠ r → H3 b = some o → (upd H6 r (.lst (gs.map V.int ++ [.int (i : Nat)]))) b = some o) ∧ (upd H6 r (.lst (gs.map V.int ++ [.int (i : Nat)]))) r = some (.lst ((gs ++ [(i : Int)]).map V.int)) := by
        intro gs H6 D gl s6 h6
        refine ⟨fun b o hb e => by rw [upd_ne hb]; exact s6 b o hb e, ?_⟩
        rw [upd_same, List.map_append]
        rfl
      refine x_ifMd (fun σ' H6 => ∃ gs : List Int, σ' = [some (.ref p), some (.int c), some (.int x), some (.ref r), some (.int pl), some (.int la), some (.int (i : Nat)), some (.int sd), some (.int n), some (.int (moved c pl sd n))] ∧ gs.length ≤ i ∧ gs = (if sd = la then fd.dropLast else fd) ∧ (∀ b o, b ≠ r → H3 b = some o → H6 b = some o) ∧ H6 r = some (.lst (gs.map V.int))) (fun he N kN => ?pop) (fun hn N kN => ?keep) ?rest
      case pop =>
        walk_at "q"
        refine ⟨ty_lst hr5, ?_⟩
        have sd0 : sd ≠ 0 := by
          rintro rfl
          refine hm ?_
          unfold moved
          rw [if_neg (by decide), if_neg (by decide)]
        have fn : fd ≠ [] := fne (by rw [← he]; exact sd0)
        have fp : 0 < fd.length := List.length_pos_iff.mpr fn
        refine ⟨r, fd.map V.int, .int (fd[fd.length - 1]'(by omega)), rfl, rfl, hr5, ?_, ?_⟩
        · rw [List.length_map, List.getElem?_map, List.getElem?_eq_getElem (by omega)]
          rfl
        · refine kN _ _ ⟨fd.dropLast, rfl, ?_, by rw [if_pos he], fun b o hb e => by rw [upd_ne hb]; exact s45 b o hb e, ?_⟩
          · rw [List.length_dropLast]
            have : fd.length ≤ i := fl
            omega
          · rw [upd_same, List.map_dropLast]
      case keep =>
        exact kN _ _ ⟨fd, rfl, fl, by rw [if_neg hn], s45, hr5⟩
      case rest =>
        rintro σ' H6 ⟨gs, rfl, gl, rfl, s6, h6⟩
        walk_at "q"
        refine ⟨ty_lst h6, ?_⟩
        walk_at "q"
        have ll' : i < 60 := by have : i < ps.length := hi; omega
        refine x_app h6 (sz5' (by rw [List.length_map]; omega)) ?_
        walk_at "q"
        obtain ⟨f1, f2⟩ := fin _ H6 ⟨fun _ _ => True, fun _ _ => True, fun _ _ => True, fun _ _ => True⟩ gl s6 h6
        exact ⟨⟨_, _, _, _, rfl⟩, f1, f2⟩
  · rintro σ H4 ⟨⟨a, b, d, f, rfl⟩, s4, hr4⟩
    rw [lps, sides_len] at hr4
    walk_at "q"
    refine k r H4 (s1.free hr1) (fun b o e => ?_) hr4
    have e3 : H3 b = some o := s3 _ _ (s2 _ _ (s1 _ _ e))
    exact s4 b o (ne_of_none e (s1.free hr1)) e3
end
end K13

set_option Elab.async false
set_option linter.all false
set_option autoImplicit false
set_option maxRecDepth 100000
set_option pp.maxSteps 1500
set_option maxHeartbeats 4000000
namespace K13
open PySem PySem.Spec PyProof.Rows L2 He ChH Ch ChM
local macro_rules | `(tactic| walk_at "x1") => `(tactic| first
  | ((with_reducible apply x_var); exact rfl)
  | with_reducible refine x_c ?_
  | with_reducible refine x_op ?_
  | with_reducible refine x_seq ?_
  | with_reducible refine x_asg ?_
  | with_reducible refine x_gname ?_
  | with_reducible refine x_cons ?_
  | with_reducible refine x_nil ?_
  | with_reducible refine x_fld ?_
  | with_reducible refine x_ret ?_
  | with_reducible refine x_ifS ?_
  | with_reducible refine x_test ?_
  | with_reducible refine x_ex ?_
  | with_reducible refine x_call ?_
  | with_reducible refine x_mk ?_
  | with_reducible refine x_meth ?_
  | with_reducible refine x_prop ?_
  | with_reducible refine x_cb ?_
  | with_reducible refine x_tup ?_
  | with_reducible refine x_lst ?_
  | with_reducible refine x_drop ?_
  | with_reducible refine x_for ?_
  | with_reducible refine x_iL ?_
  | with_reducible refine x_iT ?_
  | with_reducible refine x_iE ?_
  | with_reducible refine x_iU ?_
  | with_reducible refine x_iR1 ?_
  | with_reducible refine x_iR2 ?_
  | with_reducible refine x_gcons ?_
  | with_reducible refine x_gnil ?_
  | with_reducible refine x_par ?_
  | with_reducible refine x_lstRg ?_
  | with_reducible refine x_rg1 ?_
  | with_reducible refine x_rg1At ?_
  | with_reducible refine x_par3 ?_
  | with_reducible refine x_bm ?_
  | with_reducible refine x_bm0 ?_
  | with_reducible refine x_gSub ?_
  | with_reducible refine x_lc ?_
  | with_reducible refine x_yes ?_
  | with_reducible refine x_setf ?_
  | with_reducible refine x_next ?_
  | with_reducible refine x_B ?_
  | with_reducible refine x_and ?_
  | with_reducible refine x_or ?_
  | with_reducible refine x_not ?_
  | with_reducible refine x_andV ?_
  | with_reducible refine x_orV ?_
  | with_reducible refine x_notV ?_
  | with_reducible refine x_ifE ?_
  | with_reducible refine x_chain ?_
  | with_reducible refine x_chain3 ?_
  | with_reducible refine x_un ?_
  | with_reducible refine x_isNe ?_
  | with_reducible refine x_notNe ?_
  | with_reducible refine x_starA ?_
  | with_reducible refine x_plusI ?_
  | with_reducible refine x_minus ?_
  | with_reducible refine x_lt ?_
  | with_reducible refine x_le ?_
  | with_reducible refine x_gt ?_
  | with_reducible refine x_ge ?_
  | with_reducible refine x_eqI ?_
  | with_reducible refine x_neI ?_
  | with_reducible refine x_eqS ?_
  | with_reducible refine x_eqB ?_
  | with_reducible refine x_neB ?_
  | with_reducible refine x_int ?_
  | with_reducible refine x_intB ?_
  | with_reducible refine x_max2 ?_
  | with_reducible refine x_min2 ?_
  | with_reducible refine x_max3 ?_
  | with_reducible refine x_abs ?_
  | with_reducible refine x_neg ?_
  | with_reducible refine x_isi_ii ?_
  | with_reducible refine x_isi_ib ?_
  | with_reducible refine x_T ?_
  | with_reducible refine x_nT ?_
  | with_reducible refine x_nF ?_
  | with_reducible refine x_F ?_)
local macro_rules | `(tactic| walk_at "x") => `(tactic| repeat walk_at "x1")

local macro_rules | `(tactic| walk_at "eff") => `(tactic| first
  | refine x_eff (by assumption) (Wd.c_Effect (by assumption)) (Wd.n_Effect_chairs (by assumption)) eff_chairs ?_
  | refine x_eff (by assumption) (Wd.c_Effect (by assumption)) (Wd.n_Effect_low (by assumption)) eff_low ?_
  | refine x_eff (by assumption) (Wd.c_Effect (by assumption)) (Wd.n_Effect_high (by assumption)) eff_high ?_
  | refine x_eff (by assumption) (Wd.c_Effect (by assumption)) (Wd.n_Effect_extra (by assumption)) eff_extra ?_
  | refine x_eff (by assumption) (Wd.c_Effect (by assumption)) (Wd.n_Effect_goal (by assumption)) eff_goal ?_
  | refine x_eff (by assumption) (Wd.c_Effect (by assumption)) (Wd.n_Effect_turned (by assumption)) eff_turned ?_)
local macro_rules | `(tactic| walk_at "y") => `(tactic| repeat (first | walk_at "x1" | walk_at "eff"))

local macro_rules | `(tactic| walk_at "q1") => `(tactic| first
  | walk_at "x1"
  | with_reducible refine x_sl ?_
  | with_reducible refine x_cmeth ?_
  | with_reducible refine x_noPart ?_
  | with_reducible refine x_part ?_
  | with_reducible refine x_partI ?_)
local macro_rules | `(tactic| walk_at "q") => `(tactic| repeat walk_at "q1")

section
variable {P : Program} {w : World} {K : PySem.W.Frag} {mg : Str → Option Value} {base : Heap}
theorem ok_needs_of (W : Wd K mg) : FnR P w K mg base CX0 4 (ga K "needs_of") (fun vs H Q _ => ∃ p l, vs = [.ref p] ∧ PlanAt (CP K) H p l ∧ l.length ≤ 60 ∧ ∀ t H', H t = none → Same H H' → H' t = some (.tup [.int (needsOf l).1, .int (needsOf l).2]) → Q (.ref t) H') := by
  refine (def_ok W.F_needs_of sc_needs_of (fun _ _ _ _ _ _ us hl => match us, hl with | [_], _ => rfl) (fun vs H Q E ⟨p, l, e, _⟩ => by rw [e]; rfl) fun cdv A outer s H vs Q E hr ⟨p, l, e, hp, h60, k⟩ => ?_).2
  subst e
  refine ⟨_, PSs.nox (pss_cons (ps_set (i := 1) sc_needs_of.nd rfl (Or.inl rfl) (pe_callB (c_maxLK K rfl) (by rfl) W.f_max (by decide +kernel) (pa_cons (pe_op op_plus (pe_lc (own := [("side", 3), ("need", 4)]) rfl sc_needs_of.nd (pi_listK K (pe_callR (ok_sides_of W) (hr.mono (by decide)) W.g_sides_of W.k_sides_of pass0 rfl (pa_cons (pv 0) pa_nil))) (blkOk_by (own := [("side", 3), ("need", 4)]) (N := N_needs_of) (sc := defScope s_needs_of) (by decide +kernel)) (fun _ _ _ _ _ => (pg_tupK (n := 2) K rfl (pgs_cons (pg_name (i := 3) sc_needs_of.nd rfl (Or.inl rfl)) (pgs_cons (pg_name (i := 4) sc_needs_of.nd rfl (Or.inl rfl)) pgs_nil)))) (fun _ _ _ _ _ => (pts_one (pt_cmpR (op_eqK K hr.units) (pv 3) pe_int (nomark _)))) (fun _ _ _ _ _ => (pv 4))) (pe_lst (pa_cons pe_int pa_nil))) pa_nil))) (pss_cons (ps_set (i := 2) sc_needs_of.nd rfl (Or.inl rfl) (pe_callB (c_maxLK K rfl) (by rfl) W.f_max (by decide +kernel) (pa_cons (pe_op op_plus (pe_lc (own := [("side", 3), ("need", 4)]) rfl sc_needs_of.nd (pi_listK K (pe_callR (ok_sides_of W) (hr.mono (by decide)) W.g_sides_of W.k_sides_of pass0 rfl (pa_cons (pv 0) pa_nil))) (blkOk_by (own := [("side", 3), ("need", 4)]) (N := N_needs_of) (sc := defScope s_needs_of) (by decide +kernel)) (fun _ _ _ _ _ => (pg_tupK (n := 2) K rfl (pgs_cons (pg_name (i := 3) sc_needs_of.nd rfl (Or.inl rfl)) (pgs_cons (pg_name (i := 4) sc_needs_of.nd rfl (Or.inl rfl)) pgs_nil)))) (fun _ _ _ _ _ => (pts_one (pt_cmpR (op_eqK K hr.units) (pv 3) (pe_un un_neg pe_int) (nomark _)))) (fun _ _ _ _ _ => (pv 4))) (pe_lst (pa_cons pe_int pa_nil))) pa_nil))) (pss_cons (ps_if (pt_val (pe_propR W.c_Plan W.p_Plan_is_turning (ok_Plan_is_turning W) (hr.mono (by decide)) (pv 0))) (pss_one (ps_ret (pe_tup (pa_cons (pe_callB (c_max2 rfl) (by rfl) W.f_max (by decide +kernel) (pa_cons (pv 1) (pa_cons (pv 2) pa_nil))) (pa_cons (pe_callB (c_max2 rfl) (by rfl) W.f_max (by decide +kernel) (pa_cons (pv 1) (pa_cons (pv 2) pa_nil))) pa_nil))))) pss_nil) (pss_one (ps_ret (pe_tup (pa_cons (pv 1) (pa_cons (pv 2) pa_nil)))))))), ?_⟩
  have one : ∀ (sd : Int) (r : Addr) (ps : List V) (H1 : Hp) (σ0 : L2.St), True := fun _ _ _ _ _ => trivial
  walk_at "q"
  refine ⟨p, l, rfl, hp, h60, fun r ps H1 hr0 s1 hps hpp => ?_⟩
  have lps : ps.length = (sides 1 l).length := pr_len hpp
  have ll : (sides 1 l).length ≤ 60 := by rw [sides_len]; exact h60
  refine x_iLAt (SqL.of hps) ?_
  refine x_lcA walk_list (fun i acc _ => acc = (needL 1 ((sides 1 l).take i)).map V.int) (fun _ _ _ _ _ _ _ h => h) (fun _ _ => rfl) (by omega) (fun H' s' => SqL.of (s' _ _ hps)) ?_ ?_
  · rintro i y acc H2 H3 NT NF hT hF hi s2 rfl ⟨rfl, ey⟩
    obtain ⟨⟨sd, n⟩, hst, q, rfl, hq⟩ := pr_at hpp ey
    have tk : (sides 1 l).take (i + 1) = (sides 1 l).take i ++ [(sd, n)] := by rw [List.take_add_one, hst]; rfl
    refine x_gTup (s2 _ _ hq) rfl ?_
    unfold pairV
    walk_at "q"
    refine ⟨rfl, ?_⟩
    walk_at "q"
    refine x_ifd (fun e => ?_) fun e => ?_
    · walk_at "q"
      refine hT _ _ (Same.refl _) ?_
      rw [tk, needL_snoc, if_pos e, List.map_append]
      rfl
    · refine hF _ (Same.refl _) ?_
      rw [tk, needL_snoc, if_neg e, List.append_nil]
  rintro D acc H2 hD s2 hD2 rfl hdl
  rw [lps, List.take_length] at hD2
  walk_at "q"
  refine ⟨sz rfl, fun z hz => ?_⟩; generalize hNz : upd _ z _ = H3; obtain ⟨s3, e3⟩ := nws hNz hz
  refine n_plusL (s3 _ _ hD2) e3 (sz5 (by rw [lps, List.take_length] at hdl; show _ + 1 ≤ _; omega)) fun y H4 hy s4 e4 => ?_
  have e4' : H4 y = some (.lst ((needL 1 (sides 1 l) ++ [0]).map V.int)) := by rw [e4, List.map_append]; rfl
  walk_at "q"
  refine x_maxL (SqL.of e4') (by rw [List.length_append]; exact Nat.succ_pos _) fun m hm hmx => ?_
  obtain rfl := mxL_one hm hmx
  have s14 : Same H H4 := s1.trans (s2.trans (s3.trans s4))
  walk_at "q"
  refine ⟨p, l, rfl, hp.mono s14, h60, fun r ps H5 hr0 s5 hps hpp => ?_⟩
  have lps : ps.length = (sides 1 l).length := pr_len hpp
  refine x_iLAt (SqL.of hps) ?_
  refine x_lcA walk_list (fun i acc _ => acc = (needL (-1) ((sides 1 l).take i)).map V.int) (fun _ _ _ _ _ _ _ h => h) (fun _ _ => rfl) (by omega) (fun H' s' => SqL.of (s' _ _ hps)) ?_ ?_
  · rintro i y acc H2 H3 NT NF hT hF hi s2 rfl ⟨rfl, ey⟩
    obtain ⟨⟨sd, n⟩, hst, q, rfl, hq⟩ := pr_at hpp ey
    have tk : (sides 1 l).take (i + 1) = (sides 1 l).take i ++ [(sd, n)] := by rw [List.take_add_one, hst]; rfl
    refine x_gTup (s2 _ _ hq) rfl ?_
    unfold pairV
    walk_at "q"
    refine ⟨rfl, ?_⟩
    walk_at "q"
    refine x_ifd (fun e => ?_) fun e => ?_
    · walk_at "q"
      refine hT _ _ (Same.refl _) ?_
      rw [tk, needL_snoc, if_pos e, List.map_append]
      rfl
    · refine hF _ (Same.refl _) ?_
      rw [tk, needL_snoc, if_neg e, List.append_nil]
  rintro D acc H6 hD s6 hD2 rfl hdl
  rw [lps, List.take_length] at hD2
  walk_at "q"
  refine ⟨sz rfl, fun z hz => ?_⟩; generalize hNz : upd _ z _ = H7; obtain ⟨s7, e7⟩ := nws hNz hz
  refine n_plusL (s7 _ _ hD2) e7 (sz5 (by rw [lps, List.take_length] at hdl; show _ + 1 ≤ _; omega)) fun y H8 hy s8 e8 => ?_
  have e8' : H8 y = some (.lst ((needL (-1) (sides 1 l) ++ [0]).map V.int)) := by rw [e8, List.map_append]; rfl
  walk_at "q"
  refine x_maxL (SqL.of e8') (by rw [List.length_append]; exact Nat.succ_pos _) fun m hm hmx => ?_
  obtain rfl := mxL_one hm hmx
  have s18 : Same H H8 := s14.trans (s5.trans (s6.trans (s7.trans s8)))
  have hp8 := hp.mono s18
  walk_at "q"
  obtain ⟨dx, t, ws, g1, g2, g3⟩ := id hp8.ex
  refine x_propAt g1 ⟨p, l, rfl, hp8, h60, fun H9 s9 => ?_⟩
  walk_at "q"
  unfold needsOf at k
  refine x_if (fun ht => ?_) fun ht => ?_
  · rw [if_pos ht] at k
    walk_at "q"
    refine ⟨sz rfl, fun t ht => ?_⟩
    exact k t _ ((s18.trans s9).free ht) ((s18.trans s9).trans (Same.new ht)) upd_same
  · rw [if_neg (by rw [ht]; decide)] at k
    walk_at "q"
    refine ⟨sz rfl, fun t ht => ?_⟩
    exact k t _ ((s18.trans s9).free ht) ((s18.trans s9).trans (Same.new ht)) upd_same
theorem ok_carried_in_two_rounds (W : Wd K mg) : FnR P w K mg base CX0 7 (ga K "carried_in_two_rounds") (fun vs H Q _ => ∃ (p : Addr) (c : Int) (l : List Stp), vs = [.ref p, .int c] ∧ PlanAt (CP K) H p l ∧ l.length ≤ 60 ∧ 0 ≤ c ∧ fitsS c l ∧ ∀ H', Same H H' → Q (.int (twoR c l)) H') := by
  refine (def_ok W.F_carried_in_two_rounds sc_carried_in_two_rounds (fun _ _ _ _ _ _ us hl => match us, hl with | [_, _], _ => rfl) (fun vs H Q E ⟨p, c, l, e, _⟩ => by rw [e]; rfl) fun cdv A outer s H vs Q E hr ⟨p, c, l, e, hp, h60, c0, hf, k⟩ => ?_).2
  subst e
  obtain ⟨eo, ec, _, _⟩ := effOf_ok c0 hf
  refine ⟨_, PSs.nox (pss_cons (ps_set (i := 2) sc_carried_in_two_rounds.nd rfl (Or.inl rfl) (pe_callR (ok_power W) (hr.mono (by decide)) W.g_power W.k_power pass0 rfl (pa_cons (pe_callR (ok_effect_of W) (hr.mono (by decide)) W.g_effect_of W.k_effect_of pass0 rfl (pa_cons (pv 0) (pa_cons (pv 1) pa_nil))) (pa_cons pe_int pa_nil)))) (pss_one (ps_ret (pe_ifExp (pt_cmp (pc_isN (pe_fldK K (pv 2)))) pe_int (pe_methR W.c_Effect W.m_Effect_carried (ok_Effect_carried W) (hr.mono (by decide)) pass0 (pv 2) (pa_cons (pe_fldK K (pv 2)) pa_nil)))))), ?_⟩
  walk_at "y"
  refine ⟨p, c, l, rfl, hp, h60, fun y H2 s2 he => ?_⟩
  walk_at "y"
  refine ⟨y, _, 2, rfl, he, eo, by decide, fun z H3 f s3 hf3 ip => ?_⟩
  have tw := two_any eo (ip : IsPow (effOf c l) 2 f) (Int.le_refl 0) (by rw [ec]; exact c0)
  walk_at "y"
  rw [goal_non]
  cases g : f.goal with
  | none =>
    rw [g] at tw
    refine x_T ?_
    walk_at "y"
    have := k H3 (s2.trans s3)
    rw [show twoR c l = 0 from tw.symm] at this
    exact this
  | some v =>
    rw [g] at tw
    refine x_F ?_
    walk_at "y"
    refine x_effM hf3 (by kernel_rfl) ?_
    walk_at "y"
    rw [g]
    refine ⟨z, f, v, rfl, hf3, ?_⟩
    have := k H3 (s2.trans s3)
    rw [show twoR c l = f.carried v from tw.symm] at this
    exact this
theorem ok_halves (W : Wd K mg) : FnR P w K mg base CX0 1 (ga K "halves") (fun vs H Q _ => ∃ n : Int, vs = [.int n] ∧ ∀ t H', H t = none → Same H H' → H' t = some (.tup [.int (halvesV n).1, .int (halvesV n).2]) → Q (.ref t) H') := by
  refine (def_ok W.F_halves sc_halves (fun _ _ _ _ _ _ us hl => match us, hl with | [_], _ => rfl) (fun vs H Q E ⟨n, e, _⟩ => by rw [e]; rfl) fun cdv A outer s H vs Q E hr ⟨n, e, k⟩ => ?_).2
  subst e
  refine ⟨_, PSs.nox (pss_one (ps_ret (pe_ifExp (pt_cmpR (op_eqK K hr.units) (pe_op op_modP (pe_callTy c_int (by rfl) W.f_int (by decide +kernel) (pa_cons (pv 0) pa_nil)) pe_int) pe_int (nomark _)) (pe_tup (pa_cons (pv 0) (pa_cons pe_int pa_nil))) (pe_tup (pa_cons (pe_op op_divP (pv 0) pe_int) (pa_cons pe_int pa_nil)))))), ?_⟩
  unfold halvesV at k
  walk_at "q"
  refine x_mod (by decide) ?_
  walk_at "q"
  refine x_ifd (fun h => ?_) fun h => ?_
  · rw [if_pos h] at k
    walk_at "q"
    exact ⟨sz rfl, fun t ht => k t _ ht (Same.new ht) upd_same⟩
  · rw [if_neg h] at k
    walk_at "q"
    refine x_div (divF (by decide) (by decide)) ?_
    walk_at "q"
    exact ⟨sz rfl, fun t ht => k t _ ht (Same.new ht) upd_same⟩
def spLR (K : PySem.W.Frag) : Sp := fun vs H Q _ => ∃ (p : Addr) (c : Int) (l : List Stp), vs = [.ref p, .int c] ∧ PlanAt (CP K) H p l ∧ l.length ≤ 60 ∧ 0 ≤ c ∧ c ≤ 1000000000000000000 ∧ fitsS c l ∧ ∀ t H', H t = none → Same H H' → H' t = some (.tup [.int (halvesV (twoR c l)).1, .int (halvesV (twoR c l)).2]) → Q (.ref t) H'
theorem ok_long_run (W : Wd K mg) : FnR P w K mg base CX0 8 (ga K "long_run") (spLR K) := by
  refine (def_ok W.F_long_run sc_long_run (fun _ _ _ _ _ _ us hl => match us, hl with | [_, _], _ => rfl) (fun vs H Q E ⟨p, c, l, e, _⟩ => by rw [e]; rfl) fun cdv A outer s H vs Q E hr ⟨p, c, l, e, hp, h60, c0, c1, hf, k⟩ => ?_).2
  subst e
  refine ⟨_, PSs.nox (pss_cons (ps_expr (pe_callR (ok_validate_house W) (hr.mono (by decide)) W.g_validate_house W.k_validate_house pass0 rfl (pa_cons (pv 0) (pa_cons (pv 1) pa_nil)))) (pss_one (ps_ret (pe_callR (ok_halves W) (hr.mono (by decide)) W.g_halves W.k_halves pass0 rfl (pa_cons (pe_callR (ok_carried_in_two_rounds W) (hr.mono (by decide)) W.g_carried_in_two_rounds W.k_carried_in_two_rounds pass0 rfl (pa_cons (pv 0) (pa_cons (pv 1) pa_nil))) pa_nil))))), ?_⟩
  walk_at "q"
  refine ⟨p, c, l, rfl, hp, h60, c0, c1, hf, fun H1 s1 => ?_⟩
  walk_at "q"
  refine ⟨p, c, l, rfl, hp.mono s1, h60, c0, hf, fun H2 s2 => ?_⟩
  walk_at "q"
  exact ⟨_, rfl, fun t H3 ht s3 e3 => k t H3 ((s1.trans s2).free ht) (s1.trans (s2.trans s3)) e3⟩
theorem ok_fewest_chairs (W : Wd K mg) : FnR P w K mg base CX0 5 (ga K "fewest_chairs") (fun vs H Q _ => ∃ p l, vs = [.ref p] ∧ PlanAt (CP K) H p l ∧ l.length ≤ 60 ∧ ∀ H', Same H H' → Q (.int (fewest l)) H') := by
  refine (def_ok W.F_fewest_chairs sc_fewest_chairs (fun _ _ _ _ _ _ us hl => match us, hl with | [_], _ => rfl) (fun vs H Q E ⟨p, l, e, _⟩ => by rw [e]; rfl) fun cdv A outer s H vs Q E hr ⟨p, l, e, hp, h60, k⟩ => ?_).2
  subst e
  refine ⟨_, PSs.nox (pss_one (ps_ret (pe_callB (c_maxTK K rfl) (by rfl) W.f_max (by decide +kernel) (pa_cons (pe_callR (ok_needs_of W) (hr.mono (by decide)) W.g_needs_of W.k_needs_of pass0 rfl (pa_cons (pv 0) pa_nil)) pa_nil)))), ?_⟩
  walk_at "q"
  refine ⟨p, l, rfl, hp, h60, fun t H1 ht s1 e1 => ?_⟩
  walk_at "q"
  refine x_maxT (ns := [(needsOf l).1, (needsOf l).2]) (SqT.of e1) (by show 0 < 2; decide) fun m hm hmx => ?_
  have : m = fewest l := by
    have a := hmx (needsOf l).1 List.mem_cons_self
    have b := hmx (needsOf l).2 (List.mem_cons_of_mem _ List.mem_cons_self)
    have := mx_def (needsOf l).1 (needsOf l).2
    unfold fewest
    rcases List.mem_cons.mp hm with z | z
    · omega
    · have := List.mem_singleton.mp z
      omega
  rw [this]
  exact k H1 s1
theorem ok_sparing_chairs (W : Wd K mg) : FnR P w K mg base CX0 5 (ga K "sparing_chairs") (fun vs H Q _ => ∃ p l, vs = [.ref p] ∧ PlanAt (CP K) H p l ∧ l.length ≤ 60 ∧ ∀ H', Same H H' → Q (.int (sparing l)) H') := by
  refine (def_ok W.F_sparing_chairs sc_sparing_chairs (fun _ _ _ _ _ _ us hl => match us, hl with | [_], _ => rfl) (fun vs H Q E ⟨p, l, e, _⟩ => by rw [e]; rfl) fun cdv A outer s H vs Q E hr ⟨p, l, e, hp, h60, k⟩ => ?_).2
  subst e
  refine ⟨_, PSs.nox (pss_cons (ps_asg (pe_callR (ok_needs_of W) (hr.mono (by decide)) W.g_needs_of W.k_needs_of pass0 rfl (pa_cons (pv 0) pa_nil)) (pg_tupK (n := 2) K rfl (pgs_cons (pg_name (i := 1) sc_sparing_chairs.nd rfl (Or.inl rfl)) (pgs_cons (pg_name (i := 2) sc_sparing_chairs.nd rfl (Or.inl rfl)) pgs_nil)))) (pss_one (ps_ret (pe_op op_plus (pv 1) (pv 2))))), ?_⟩
  walk_at "q"
  refine ⟨p, l, rfl, hp, h60, fun t H1 ht s1 e1 => ?_⟩
  walk_at "q"
  refine x_gTup e1 rfl ?_
  walk_at "q"
  exact k H1 s1
def sparesC (l : List Stp) (pr cp rr m : Int) : Prop := (twoR m l - twoR (m + 1) l) * cp * rr > 2 * pr
def spBC (K : PySem.W.Frag) : Sp := fun vs H Q _ => ∃ (p : Addr) (l : List Stp) (pr cp rr : Int), vs = [.ref p, .int pr, .int cp, .int rr] ∧ PlanAt (CP K) H p l ∧ l.length ≤ 60 ∧ (∀ b n, Stp.mt b n ∈ l → 0 ≤ n) ∧ 0 ≤ pr ∧ pr ≤ 1000000000 ∧ 0 ≤ cp ∧ cp ≤ 1000000000 ∧ 0 ≤ rr ∧ rr ≤ 1000000000 ∧
  ∀ b H', Same H H' → fewest l ≤ b → b ≤ sparing l → (b = fewest l ∨ sparesC l pr cp rr (b - 1)) → (b = sparing l ∨ ¬ sparesC l pr cp rr b) → Q (.int b) H'
theorem few_le_spare (l : List Stp) : fewest l ≤ sparing l := by
  obtain ⟨a0, _⟩ := mxL_ge (needL 1 (sides 1 l))
  obtain ⟨b0, _⟩ := mxL_ge (needL (-1) (sides 1 l))
  unfold fewest sparing needsOf
  generalize mxL (needL 1 (sides 1 l)) = a at *
  generalize mxL (needL (-1) (sides 1 l)) = b at *
  have := mx_def a b
  split
  · have := mx_def (mx a b) (mx a b)
    show mx (mx a b) (mx a b) ≤ mx a b + mx a b
    omega
  · show mx a b ≤ a + b
    omega
theorem ok_best_chairs (W : Wd K mg) : FnR P w K mg base CX0 8 (ga K "best_chairs") (spBC K) := by
  refine (def_ok W.F_best_chairs sc_best_chairs (fun _ _ _ _ _ _ us hl => match us, hl with | [_, _, _, _], _ => rfl) (fun vs H Q E ⟨p, l, pr, cp, rr, e, _⟩ => by rw [e]; rfl) fun cdv A outer s H vs Q E hr ⟨p, l, pr, cp, rr, e, hp, h60, hg, p0, p1, q0, q1, r0, r1, k⟩ => ?_).2
  subst e
  refine ⟨_, PSs.nox (pss_cons (ps_expr (pe_callR (ok_validate_number W) (hr.mono (by decide)) W.g_validate_number W.k_validate_number pass0 rfl (pa_cons (pv 1) (pa_cons pe_int (pa_cons (pe_gi W.i_MAX_PRICE rfl) pa_nil))))) (pss_cons (ps_expr (pe_callR (ok_validate_number W) (hr.mono (by decide)) W.g_validate_number W.k_validate_number pass0 rfl (pa_cons (pv 2) (pa_cons pe_int (pa_cons (pe_gi W.i_MAX_PRICE rfl) pa_nil))))) (pss_cons (ps_expr (pe_callR (ok_validate_number W) (hr.mono (by decide)) W.g_validate_number W.k_validate_number pass0 rfl (pa_cons (pv 3) (pa_cons pe_int (pa_cons (pe_gi W.i_MAX_ROUNDS_chairs rfl) pa_nil))))) (pss_cons (ps_par (i := 4) (j := 5) (by rfl) sc_best_chairs.nd rfl rfl (by decide) rfl rfl (pa_cons (pe_callR (ok_fewest_chairs W) (hr.mono (by decide)) W.g_fewest_chairs W.k_fewest_chairs pass0 rfl (pa_cons (pv 0) pa_nil)) (pa_cons (pe_callR (ok_sparing_chairs W) (hr.mono (by decide)) W.g_sparing_chairs W.k_sparing_chairs pass0 rfl (pa_cons (pv 0) pa_nil)) pa_nil)) (by rfl)) (pss_cons (ps_while PassesOwn.never (pt_cmpR op_ltI (pv 4) (pv 5) (nomark _)) (pss_cons (ps_set (i := 6) sc_best_chairs.nd rfl (Or.inl rfl) (pe_op op_divP (pe_op op_plus (pv 4) (pv 5)) pe_int)) (pss_cons (ps_set (i := 7) sc_best_chairs.nd rfl (Or.inl rfl) (pe_op op_minus (pe_callR (ok_carried_in_two_rounds W) (hr.mono (by decide)) W.g_carried_in_two_rounds W.k_carried_in_two_rounds pass0 rfl (pa_cons (pv 0) (pa_cons (pv 6) pa_nil))) (pe_callR (ok_carried_in_two_rounds W) (hr.mono (by decide)) W.g_carried_in_two_rounds W.k_carried_in_two_rounds pass0 rfl (pa_cons (pv 0) (pa_cons (pe_op op_plus (pv 6) pe_int) pa_nil))))) (pss_one (ps_if (pt_cmpR op_gtI (pe_op op_times (pe_op op_times (pv 7) (pv 2)) (pv 3)) (pe_op op_times pe_int (pv 1)) (nomark _)) (pss_one (ps_set (i := 4) sc_best_chairs.nd rfl (Or.inl rfl) (pe_op op_plus (pv 6) pe_int))) (pss_one (ps_set (i := 5) sc_best_chairs.nd rfl (Or.inl rfl) (pv 6)))))))) (pss_one (ps_ret (pv 4)))))))), ?_⟩
  walk_at "q"
  refine ⟨pr, 0, _, rfl, p0, p1, ?_⟩
  walk_at "q"
  refine ⟨cp, 0, _, rfl, q0, q1, ?_⟩
  walk_at "q"
  refine ⟨rr, 0, _, rfl, r0, r1, ?_⟩
  walk_at "q"
  refine ⟨p, l, rfl, hp, h60, fun H1 s1 => ?_⟩
  walk_at "q"
  refine ⟨p, l, rfl, hp.mono s1, h60, fun H2 s2 => ?_⟩
  walk_at "q"
  refine ⟨_, _, rfl, ?_⟩
  have fs := few_le_spare l
  walk_at "q"
  refine x_while (fun m σ H3 => Same H H3 ∧ ∃ lo hi a b, σ = [some (.ref p), some (.int pr), some (.int cp), some (.int rr), some (.int lo), some (.int hi), a, b] ∧ m = (hi - lo).toNat ∧ fewest l ≤ lo ∧ lo ≤ hi ∧ hi ≤ sparing l ∧ (lo = fewest l ∨ sparesC l pr cp rr (lo - 1)) ∧ (hi = sparing l ∨ ¬ sparesC l pr cp rr hi)) _
    ⟨s1.trans s2, _, _, _, _, rfl, rfl, Int.le_refl _, fs, Int.le_refl _, .inl rfl, .inl rfl⟩ ?_
  rintro m σ H3 ⟨s3, lo, hi, a, b, rfl, rfl, h1, h2, h3, h4, h5⟩
  have hf0 := (fewest_ge l).2.2
  walk_at "q"
  refine x_ifd (fun hlt => x_turn ?_) fun hge => ?_
  · walk_at "q"
    refine x_div (divF (by decide) (by decide)) ?_
    walk_at "q"
    refine ⟨p, (lo + hi) / 2, l, rfl, hp.mono s3, h60, by omega, fits_fewest hg (by omega), fun H4 s4 => ?_⟩
    walk_at "q"
    refine ⟨p, (lo + hi) / 2 + 1, l, rfl, (hp.mono s3).mono s4, h60, by omega, fits_fewest hg (by omega), fun H5 s5 => ?_⟩
    walk_at "q"
    refine x_timesI (.inr ⟨by omega, by omega⟩) ?_
    walk_at "q"
    refine x_timesI (.inr ⟨by omega, by omega⟩) ?_
    walk_at "q"
    refine x_timesI (.inl ⟨by decide, by decide⟩) ?_
    walk_at "q"
    refine x_ifd (fun hs => ?_) fun hs => ?_
    · walk_at "q"
      exact ⟨_, by omega, s3.trans (s4.trans s5), _, _, _, _, rfl, rfl, by omega, by omega, h3, .inr (by rw [show (lo + hi) / 2 + 1 - 1 = (lo + hi) / 2 by omega]; exact hs), h5⟩
    · walk_at "q"
      exact ⟨_, by omega, s3.trans (s4.trans s5), _, _, _, _, rfl, rfl, h1, by omega, by omega, h4, .inr hs⟩
  · have : lo = hi := by omega
    subst this
    walk_at "q"
    exact k lo H3 s3 h1 h3 h4 h5
end
end K13

set_option Elab.async false
set_option linter.all false
set_option autoImplicit false
set_option maxRecDepth 100000
set_option pp.maxSteps 1500
set_option maxHeartbeats 4000000
namespace K13
open PySem PySem.Spec PyProof.Rows L2 He ChH Ch ChM
/-! ### the plain law: where two effects differ first -/
def difE (e f : Eff) (x : Int) : Prop := ¬ (e.carried x = f.carried x ∧ e.fin x = f.fin x)
instance (e f : Eff) (x : Int) : Decidable (difE e f x) := by unfold difE; infer_instance
def cands (e f : Eff) : List Int := [0, 1, e.lo, e.lo + 1, e.hi, e.hi + 1, f.lo, f.lo + 1, f.hi, f.hi + 1]
theorem eff_line {e : Eff} (h : e.lo ≤ e.hi) {x : Int} (h1 : x ≠ e.lo + 1) (h2 : x ≠ e.hi + 1) : e.carried x = 2 * e.carried (x - 1) - e.carried (x - 2) ∧ e.fin x = 2 * e.fin (x - 1) - e.fin (x - 2) := by
  have hp : e.place x = 2 * e.place (x - 1) - e.place (x - 2) := by
    unfold Eff.place
    cases e.goal with
    | some g => dsimp only; omega
    | none =>
      dsimp only
      have := mx_def x e.lo
      have := mn_def (mx x e.lo) e.hi
      have := mx_def (x - 1) e.lo
      have := mn_def (mx (x - 1) e.lo) e.hi
      have := mx_def (x - 2) e.lo
      have := mn_def (mx (x - 2) e.lo) e.hi
      omega
  constructor
  · unfold Eff.carried
    have := mx_def (e.lo - x) (x - e.hi)
    have := mx_def (mx (e.lo - x) (x - e.hi)) 0
    have := mx_def (e.lo - (x - 1)) ((x - 1) - e.hi)
    have := mx_def (mx (e.lo - (x - 1)) ((x - 1) - e.hi)) 0
    have := mx_def (e.lo - (x - 2)) ((x - 2) - e.hi)
    have := mx_def (mx (e.lo - (x - 2)) ((x - 2) - e.hi)) 0
    omega
  · unfold Eff.fin
    rw [hp]
    split <;> omega
/-- a first difference is among the candidates -/
theorem first_cand {e f : Eff} (he : e.lo ≤ e.hi) (hf : f.lo ≤ f.hi) {x : Int} (h0 : 0 ≤ x) (hd : difE e f x) (hm : ∀ y, 0 ≤ y → y < x → ¬ difE e f y) : x ∈ cands e f := by
  by_cases m : x ∈ cands e f
  · exact m
  · exfalso
    unfold cands at m
    simp only [List.mem_cons, List.not_mem_nil, or_false, not_or] at m
    obtain ⟨m0, m1, m2, m3, m4, m5, m6, m7, m8, m9⟩ := m
    have a1 := hm (x - 1) (by omega) (by omega)
    have a2 := hm (x - 2) (by omega) (by omega)
    obtain ⟨e1, e2⟩ := eff_line he m3 m5
    obtain ⟨f1, f2⟩ := eff_line hf m7 m9
    unfold difE at a1 a2 hd
    rw [Classical.not_not] at a1 a2
    exact hd ⟨by omega, by omega⟩
/-- o is the first start in a house of c chairs at which e and f differ -/
def FirstD (c : Int) (e f : Eff) : Option Int → Prop
  | some x => 0 ≤ x ∧ x ≤ c ∧ difE e f x ∧ ∀ y, 0 ≤ y → y < x → ¬ difE e f y
  | none => ∀ y, 0 ≤ y → y ≤ c → ¬ difE e f y
theorem difE_comm {e f : Eff} {x : Int} : difE e f x ↔ difE f e x := by
  unfold difE
  constructor
  · exact fun h z => h ⟨z.1.symm, z.2.symm⟩
  · exact fun h z => h ⟨z.1.symm, z.2.symm⟩
theorem firstD_one {c : Int} {e f : Eff} {o o' : Option Int} (h : FirstD c e f o) (h' : FirstD c f e o') : o' = o := by
  cases o with
  | none =>
    cases o' with
    | none => rfl
    | some y =>
      obtain ⟨y0, y1, yd, _⟩ := h'
      exact absurd (difE_comm.mp yd) (h y y0 y1)
  | some x =>
    obtain ⟨x0, x1, xd, xm⟩ := h
    cases o' with
    | none => exact absurd (difE_comm.mp xd) (h' x x0 x1)
    | some y =>
      obtain ⟨y0, y1, yd, ym⟩ := h'
      have a : ¬ y < x := fun z => xm y y0 z (difE_comm.mp yd)
      have b : ¬ x < y := fun z => ym x x0 z (difE_comm.mp xd)
      rw [show y = x by omega]
/-- a smallest one -/
theorem least_ex {p : Int → Prop} : ∀ (n : Nat), (∃ y : Int, 0 ≤ y ∧ y ≤ (n : Int) ∧ p y) → ∃ x : Int, 0 ≤ x ∧ x ≤ (n : Int) ∧ p x ∧ ∀ y : Int, 0 ≤ y → y < x → ¬ p y
  | 0, ⟨y, y0, y1, h⟩ => ⟨y, y0, y1, h, fun z z0 z1 => by omega⟩
  | n + 1, ⟨y, y0, y1, h⟩ => by
    by_cases q : ∃ z, 0 ≤ z ∧ z ≤ (n : Int) ∧ p z
    · obtain ⟨x, x0, x1, hx, hm⟩ := least_ex n q
      exact ⟨x, x0, by omega, hx, hm⟩
    · refine ⟨y, y0, y1, h, fun z z0 z1 hz => q ⟨z, z0, by omega, hz⟩⟩
/-- what the loop over the sorted candidates finds -/
theorem find_some {c : Int} {e f : Eff} (he : e.lo ≤ e.hi) (hf : f.lo ≤ f.hi) {ms : List Int} (hp : ms.Perm (cands e f)) (hs : ms.Pairwise (· ≤ ·)) {i : Nat} {x : Int} (hi : ms[i]? = some x) (h0 : 0 ≤ x) (h1 : x ≤ c) (hd : difE e f x)
    (hb : ∀ j y, j < i → ms[j]? = some y → y ≤ c → ¬ difE e f y) : FirstD c e f (some x) := by
  refine ⟨h0, h1, hd, fun y y0 y1 hy => ?_⟩
  obtain ⟨z, z0, z1, hz, hm⟩ := least_ex (p := difE e f) y.toNat ⟨y, y0, by omega, hy⟩
  have zm := hp.mem_iff.mpr (first_cand he hf z0 hz hm)
  obtain ⟨j, hj, ej⟩ := List.getElem_of_mem zm
  obtain ⟨hi2, ei⟩ := List.getElem?_eq_some_iff.mp hi
  rcases Nat.lt_trichotomy j i with h | h | h
  · exact hb j z h (by rw [List.getElem?_eq_getElem hj, ej]) (by omega) hz
  · subst h
    rw [ei] at ej
    omega
  · have := List.pairwise_iff_getElem.mp hs i j hi2 hj h
    rw [ei, ej] at this
    omega
theorem find_none {c : Int} {e f : Eff} (he : e.lo ≤ e.hi) (hf : f.lo ≤ f.hi) {ms : List Int} (hp : ms.Perm (cands e f)) (hb : ∀ j y, j < ms.length → ms[j]? = some y → y ≤ c → ¬ difE e f y) : FirstD c e f none := by
  intro y y0 y1 hy
  obtain ⟨z, z0, z1, hz, hm⟩ := least_ex (p := difE e f) y.toNat ⟨y, y0, by omega, hy⟩
  have zm := hp.mem_iff.mpr (first_cand he hf z0 hz hm)
  obtain ⟨j, hj, ej⟩ := List.getElem_of_mem zm
  exact hb j z hj (by rw [List.getElem?_eq_getElem hj, ej]) (by omega) hz
local macro_rules | `(tactic| walk_at "x1") => `(tactic| first
  | ((with_reducible apply x_var); exact rfl)
  | with_reducible refine x_c ?_
  | with_reducible refine x_op ?_
  | with_reducible refine x_seq ?_
  | with_reducible refine x_asg ?_
  | with_reducible refine x_gname ?_
  | with_reducible refine x_cons ?_
  | with_reducible refine x_nil ?_
  | with_reducible refine x_fld ?_
  | with_reducible refine x_ret ?_
  | with_reducible refine x_ifS ?_
  | with_reducible refine x_test ?_
  | with_reducible refine x_ex ?_
  | with_reducible refine x_call ?_
  | with_reducible refine x_mk ?_
  | with_reducible refine x_meth ?_
  | with_reducible refine x_prop ?_
  | with_reducible refine x_cb ?_
  | with_reducible refine x_tup ?_
  | with_reducible refine x_lst ?_
  | with_reducible refine x_drop ?_
  | with_reducible refine x_for ?_
  | with_reducible refine x_iL ?_
  | with_reducible refine x_iT ?_
  | with_reducible refine x_iE ?_
  | with_reducible refine x_iU ?_
  | with_reducible refine x_iR1 ?_
  | with_reducible refine x_iR2 ?_
  | with_reducible refine x_gcons ?_
  | with_reducible refine x_gnil ?_
  | with_reducible refine x_par ?_
  | with_reducible refine x_lstRg ?_
  | with_reducible refine x_rg1 ?_
  | with_reducible refine x_rg1At ?_
  | with_reducible refine x_par3 ?_
  | with_reducible refine x_bm ?_
  | with_reducible refine x_bm0 ?_
  | with_reducible refine x_gSub ?_
  | with_reducible refine x_lc ?_
  | with_reducible refine x_yes ?_
  | with_reducible refine x_setf ?_
  | with_reducible refine x_next ?_
  | with_reducible refine x_B ?_
  | with_reducible refine x_and ?_
  | with_reducible refine x_or ?_
  | with_reducible refine x_not ?_
  | with_reducible refine x_andV ?_
  | with_reducible refine x_orV ?_
  | with_reducible refine x_notV ?_
  | with_reducible refine x_ifE ?_
  | with_reducible refine x_chain ?_
  | with_reducible refine x_chain3 ?_
  | with_reducible refine x_un ?_
  | with_reducible refine x_isNe ?_
  | with_reducible refine x_notNe ?_
  | with_reducible refine x_starA ?_
  | with_reducible refine x_plusI ?_
  | with_reducible refine x_minus ?_
  | with_reducible refine x_lt ?_
  | with_reducible refine x_le ?_
  | with_reducible refine x_gt ?_
  | with_reducible refine x_ge ?_
  | with_reducible refine x_eqI ?_
  | with_reducible refine x_neI ?_
  | with_reducible refine x_eqS ?_
  | with_reducible refine x_eqB ?_
  | with_reducible refine x_neB ?_
  | with_reducible refine x_int ?_
  | with_reducible refine x_intB ?_
  | with_reducible refine x_max2 ?_
  | with_reducible refine x_min2 ?_
  | with_reducible refine x_max3 ?_
  | with_reducible refine x_abs ?_
  | with_reducible refine x_neg ?_
  | with_reducible refine x_isi_ii ?_
  | with_reducible refine x_isi_ib ?_
  | with_reducible refine x_T ?_
  | with_reducible refine x_nT ?_
  | with_reducible refine x_nF ?_
  | with_reducible refine x_F ?_)
local macro_rules | `(tactic| walk_at "x") => `(tactic| repeat walk_at "x1")

local macro_rules | `(tactic| walk_at "eff") => `(tactic| first
  | refine x_eff (by assumption) (Wd.c_Effect (by assumption)) (Wd.n_Effect_chairs (by assumption)) eff_chairs ?_
  | refine x_eff (by assumption) (Wd.c_Effect (by assumption)) (Wd.n_Effect_low (by assumption)) eff_low ?_
  | refine x_eff (by assumption) (Wd.c_Effect (by assumption)) (Wd.n_Effect_high (by assumption)) eff_high ?_
  | refine x_eff (by assumption) (Wd.c_Effect (by assumption)) (Wd.n_Effect_extra (by assumption)) eff_extra ?_
  | refine x_eff (by assumption) (Wd.c_Effect (by assumption)) (Wd.n_Effect_goal (by assumption)) eff_goal ?_
  | refine x_eff (by assumption) (Wd.c_Effect (by assumption)) (Wd.n_Effect_turned (by assumption)) eff_turned ?_)
local macro_rules | `(tactic| walk_at "y") => `(tactic| repeat (first | walk_at "x1" | walk_at "eff"))

local macro_rules | `(tactic| walk_at "q1") => `(tactic| first
  | walk_at "x1"
  | with_reducible refine x_sl ?_
  | with_reducible refine x_cmeth ?_
  | with_reducible refine x_noPart ?_
  | with_reducible refine x_part ?_
  | with_reducible refine x_partI ?_)
local macro_rules | `(tactic| walk_at "q") => `(tactic| repeat walk_at "q1")

section
variable {P : Program} {w : World} {K : PySem.W.Frag} {mg : Str → Option Value} {base : Heap}
def spFD (K : PySem.W.Frag) : Sp := fun vs H Q _ => ∃ (p q : Addr) (c : Int) (l m : List Stp), vs = [.ref p, .ref q, .int c] ∧ PlanAt (CP K) H p l ∧ PlanAt (CP K) H q m ∧ l.length ≤ 60 ∧ m.length ≤ 60 ∧ 0 ≤ c ∧ c ≤ 1000000000000000000 ∧ fitsS c l ∧ fitsS c m ∧
  ∀ o H', Same H H' → FirstD c (effOf c l) (effOf c m) o → Q (goalV o) H'
theorem ok_first_difference (W : Wd K mg) : FnR P w K mg base CX0 6 (ga K "first_difference") (spFD K) := by
  refine (def_ok W.F_first_difference sc_first_difference (fun _ _ _ _ _ _ us hl => match us, hl with | [_, _, _], _ => rfl) (fun vs H Q E ⟨p, q, c, l, m, ev, _⟩ => by rw [ev]; rfl) fun cdv A outer s H vs Q E hr ⟨p, q, c, l, m, ev, hp, hq, l60, m60, c0, c1, hfl, hfm, k⟩ => ?_).2
  subst ev
  obtain ⟨eo, ec, _, _⟩ := effOf_ok c0 hfl
  obtain ⟨fo, fc, _, _⟩ := effOf_ok c0 hfm
  refine ⟨_, PSs.nox (pss_cons (ps_expr (pe_callR (ok_validate_house W) (hr.mono (by decide)) W.g_validate_house W.k_validate_house pass0 rfl (pa_cons (pv 0) (pa_cons (pv 2) pa_nil)))) (pss_cons (ps_expr (pe_callR (ok_validate_house W) (hr.mono (by decide)) W.g_validate_house W.k_validate_house pass0 rfl (pa_cons (pv 1) (pa_cons (pv 2) pa_nil)))) (pss_cons (ps_par (i := 3) (j := 4) (by rfl) sc_first_difference.nd rfl rfl (by decide) rfl rfl (pa_cons (pe_callR (ok_effect_of W) (hr.mono (by decide)) W.g_effect_of W.k_effect_of pass0 rfl (pa_cons (pv 0) (pa_cons (pv 2) pa_nil))) (pa_cons (pe_callR (ok_effect_of W) (hr.mono (by decide)) W.g_effect_of W.k_effect_of pass0 rfl (pa_cons (pv 1) (pa_cons (pv 2) pa_nil))) pa_nil)) (by rfl)) (pss_cons (ps_set (i := 5) sc_first_difference.nd rfl (Or.inl rfl) (pe_lst (pa_cons pe_int (pa_cons pe_int pa_nil)))) (pss_cons (ps_for PassesOwn.never rfl (pi_tupK K (pe_tup (pa_cons (pe_fldK K (pv 3)) (pa_cons (pe_fldK K (pv 3)) (pa_cons (pe_fldK K (pv 4)) (pa_cons (pe_fldK K (pv 4)) pa_nil)))))) (pg_name (i := 6) sc_first_difference.nd rfl (Or.inl rfl)) (pss_one (ps_expr (pe_bmK K PySem.F.plainAttrs_list PySem.F.slot_list_extend PySem.F.type_list_extend mt_extend (pv 5) (pa_cons (pe_lst (pa_cons (pv 6) (pa_cons (pe_op op_plus (pv 6) pe_int) pa_nil))) pa_nil))))) (pss_cons (ps_for PassesOwn.never rfl (pi_listK K (pe_callB (c_sortedK K) (by rfl) W.f_sorted (by decide +kernel) (pa_cons (pv 5) pa_nil))) (pg_name (i := 7) sc_first_difference.nd rfl (Or.inl rfl)) (pss_one (ps_if (PW.pt (pw_and (pt_cmpR op_leI (pv 7) (pv 2) (nomark _)) (pw_and1 (pt_cmpR (op_neK K hr.units) (pe_tup (pa_cons (pe_methR W.c_Effect W.m_Effect_carried (ok_Effect_carried W) (hr.mono (by decide)) pass0 (pv 3) (pa_cons (pv 7) pa_nil)) (pa_cons (pe_methR W.c_Effect W.m_Effect_end (ok_Effect_end W) (hr.mono (by decide)) pass0 (pv 3) (pa_cons (pv 7) pa_nil)) pa_nil))) (pe_tup (pa_cons (pe_methR W.c_Effect W.m_Effect_carried (ok_Effect_carried W) (hr.mono (by decide)) pass0 (pv 4) (pa_cons (pv 7) pa_nil)) (pa_cons (pe_methR W.c_Effect W.m_Effect_end (ok_Effect_end W) (hr.mono (by decide)) pass0 (pv 4) (pa_cons (pv 7) pa_nil)) pa_nil))) (nomark _))))) (pss_one (ps_ret (pv 7))) pss_nil))) (pss_one (ps_ret pe_non)))))))), ?_⟩
  walk_at "y"
  refine ⟨p, c, l, rfl, hp, l60, c0, c1, hfl, fun H1 s1 => ?_⟩
  walk_at "y"
  refine ⟨q, c, m, rfl, hq.mono s1, m60, c0, c1, hfm, fun H2 s2 => ?_⟩
  walk_at "y"
  refine ⟨p, c, l, rfl, (hp.mono s1).mono s2, l60, fun x1 H3 s3 e3 => ?_⟩
  walk_at "y"
  refine ⟨q, c, m, rfl, ((hq.mono s1).mono s2).mono s3, m60, fun x2 H4 s4 f4 => ?_⟩
  walk_at "y"
  refine ⟨_, _, rfl, ?_⟩
  have e4 := e3.mono s4
  have s04 := s1.trans (s2.trans (s3.trans s4))
  generalize effOf c l = e at *
  generalize effOf c m = f at *
  walk_at "y"
  refine ⟨sz rfl, fun r hr4 => ?_⟩
  have e5 := e4.mono (Same.new (o := .lst [.int 0, .int 1]) hr4)
  have f5 := f4.mono (Same.new (o := .lst [.int 0, .int 1]) hr4)
  walk_at "y"
  refine ⟨sz rfl, fun t ht => ?_⟩
  walk_at "y"
  refine x_iTAt (SqT.of upd_same) ?_
  have hr5 : (upd (upd H4 r (.lst [.int 0, .int 1])) t (.tup [.int e.lo, .int e.hi, .int f.lo, .int f.hi])) r = some (.lst [.int 0, .int 1]) := up upd_same ht
  have s5 : Same H4 (upd (upd H4 r (.lst [.int 0, .int 1])) t (.tup [.int e.lo, .int e.hi, .int f.lo, .int f.hi])) := (Same.new hr4).trans (Same.new ht)
  have t5 : (upd (upd H4 r (.lst [.int 0, .int 1])) t (.tup [.int e.lo, .int e.hi, .int f.lo, .int f.hi])) t = some (.tup [.int e.lo, .int e.hi, .int f.lo, .int f.hi]) := upd_same
  generalize upd (upd H4 r (.lst [.int 0, .int 1])) t (.tup [.int e.lo, .int e.hi, .int f.lo, .int f.hi]) = H5 at hr5 s5 t5 ⊢
  refine x_loop walk_tup (fun i σ H6 => (∃ b d, σ = [some (.ref p), some (.ref q), some (.int c), some (.ref x1), some (.ref x2), some (.ref r), b, d]) ∧ Same H4 H6 ∧ H6 t = some (.tup [.int e.lo, .int e.hi, .int f.lo, .int f.hi]) ∧ H6 r = some (.lst (((cands e f).take (2 + 2 * i)).map V.int))) ⟨⟨_, _, rfl⟩, s5, t5, hr5⟩ (fun i σ H6 _ ⟨_, _, ht6, _⟩ => SqT.of ht6) ?_ ?_
  · rintro i y σ H6 H7 hi ⟨⟨b, d, rfl⟩, s6, ht6, hr6⟩ ⟨rfl, ey⟩
    have hi4 : i < 4 := hi
    obtain ⟨z, rfl, hz⟩ : ∃ z : Int, y = .int z ∧ (((cands e f).take (2 + 2 * i)).map V.int ++ [.int z, .int (z + 1)]) = ((cands e f).take (2 + 2 * (i + 1))).map V.int := by
      have : i = 0 ∨ i = 1 ∨ i = 2 ∨ i = 3 := by omega
      rcases this with rfl | rfl | rfl | rfl
      · cases ey; exact ⟨_, rfl, rfl⟩
      · cases ey; exact ⟨_, rfl, rfl⟩
      · cases ey; exact ⟨_, rfl, rfl⟩
      · cases ey; exact ⟨_, rfl, rfl⟩
    walk_at "y"
    refine ⟨ty_lst hr6, ?_⟩
    walk_at "y"
    refine ⟨sz rfl, fun u hu => ?_⟩
    walk_at "y"
    refine ⟨r, u, _, _, rfl, rfl, up hr6 hu, upd_same, sz5 ?_, ?_⟩
    · rw [List.length_map, List.length_take]
      show min _ 10 + 2 ≤ _
      omega
    walk_at "y"
    refine ⟨⟨_, _, rfl⟩, ?_, ?_, ?_⟩
    · exact Same.mut (s6.trans (Same.new hu)) hr4
    · rw [upd_ne (ne_of ht6 hr6 (by intro z; cases z))]
      exact up ht6 hu
    · rw [upd_same, hz]
  · rintro σ H6 ⟨⟨b, d, rfl⟩, s6, _, hr6⟩
    have hr6' : H6 r = some (.lst ((cands e f).map V.int)) := hr6
    have e6 := e4.mono s6
    have f6 := f4.mono s6
    walk_at "y"
    refine x_sorted (SqL.of hr6') (by show 10 < 64; decide) fun ms u hperm hsort hu => ?_
    have s7 : Same H6 (upd H6 u (.lst (ms.map V.int))) := Same.new hu
    have hu7 : (upd H6 u (.lst (ms.map V.int))) u = some (.lst (ms.map V.int)) := upd_same
    generalize upd H6 u (.lst (ms.map V.int)) = H7 at s7 hu7 ⊢
    have e7 := e6.mono s7
    have f7 := f6.mono s7
    refine x_iLAt (SqL.of hu7) (x_loop walk_list (fun i σ H8 => (∃ b d, σ = [some (.ref p), some (.ref q), some (.int c), some (.ref x1), some (.ref x2), some (.ref r), b, d]) ∧ Same H7 H8 ∧ ∀ j y, j < i → ms[j]? = some y → y ≤ c → ¬ difE e f y) ⟨⟨_, _, rfl⟩, Same.refl _, fun j y hj => by omega⟩ (fun i σ H8 _ ⟨_, s8, _⟩ => SqL.of (s8 _ _ hu7)) ?_ ?_)
    · rintro i y σ H8 H9 hi ⟨⟨b, d, rfl⟩, s8, hb⟩ ⟨rfl, ey⟩
      rw [List.getElem?_map] at ey
      obtain ⟨x, hx, rfl⟩ := Option.map_eq_some_iff.mp ey
      have e8 := e7.mono s8
      have f8 := f7.mono s8
      have x0 : 0 ≤ x := by
        have := hperm.mem_iff.mp (List.mem_of_getElem? hx)
        unfold cands at this
        simp only [List.mem_cons, List.not_mem_nil, or_false] at this
        have := eo.lo0
        have := eo.lh
        have := fo.lo0
        have := fo.lh
        omega
      walk_at "y"
      refine x_ifd (fun hxc => ?_) fun hxc => ?_
      · walk_at "y"
        refine x_effM e8 (by kernel_rfl) ?_
        walk_at "y"
        refine ⟨x1, e, x, rfl, e8, ?_⟩
        walk_at "y"
        refine x_effM e8 (by kernel_rfl) ?_
        walk_at "y"
        refine ⟨x1, e, x, rfl, e8, ?_⟩
        walk_at "y"
        refine ⟨sz rfl, fun ta hta => ?_⟩
        have f9 := f8.mono (Same.new (o := .tup [.int (e.carried x), .int (e.fin x)]) hta)
        walk_at "y"
        refine x_effM f9 (by kernel_rfl) ?_
        walk_at "y"
        refine ⟨x2, f, x, rfl, f9, ?_⟩
        walk_at "y"
        refine x_effM f9 (by kernel_rfl) ?_
        walk_at "y"
        refine ⟨x2, f, x, rfl, f9, ?_⟩
        walk_at "y"
        refine ⟨sz rfl, fun tb htb => ?_⟩
        have s9 := (Same.new (o := .tup [.int (e.carried x), .int (e.fin x)]) hta).trans (Same.new (o := .tup [.int (f.carried x), .int (f.fin x)]) htb)
        refine x_neP (up upd_same htb) upd_same ?_
        walk_at "y"
        refine x_ifnd (fun hd => ?_) fun hd => ?_
        · walk_at "y"
          exact k (some x) _ (s04.trans (s6.trans (s7.trans (s8.trans s9)))) (find_some eo.lh fo.lh hperm hsort hx x0 hxc hd hb)
        · walk_at "y"
          refine ⟨⟨_, _, rfl⟩, s8.trans s9, fun j y hj hy yc => ?_⟩
          by_cases hji : j < i
          · exact hb j y hji hy yc
          · have : j = i := by omega
            subst this
            rw [hx] at hy
            cases hy
            exact fun z => z hd
      · walk_at "y"
        refine ⟨⟨_, _, rfl⟩, s8, fun j y hj hy yc => ?_⟩
        by_cases hji : j < i
        · exact hb j y hji hy yc
        · have : j = i := by omega
          subst this
          rw [hx] at hy
          cases hy
          exact absurd yc hxc
    · rintro σ H8 ⟨⟨b, d, rfl⟩, s8, hb⟩
      rw [List.length_map] at hb
      walk_at "y"
      exact k none _ (s04.trans (s6.trans (s7.trans s8))) (find_none eo.lh fo.lh hperm hb)
end
end K13

set_option Elab.async false
set_option linter.all false
set_option autoImplicit false
set_option maxRecDepth 100000
set_option pp.maxSteps 1500
set_option maxHeartbeats 4000000
namespace K13
open PySem PySem.Spec PyProof.Rows L2 He ChH Ch ChM
local macro_rules | `(tactic| walk_at "x1") => `(tactic| first
  | ((with_reducible apply x_var); exact rfl)
  | with_reducible refine x_c ?_
  | with_reducible refine x_op ?_
  | with_reducible refine x_seq ?_
  | with_reducible refine x_asg ?_
  | with_reducible refine x_gname ?_
  | with_reducible refine x_cons ?_
  | with_reducible refine x_nil ?_
  | with_reducible refine x_fld ?_
  | with_reducible refine x_ret ?_
  | with_reducible refine x_ifS ?_
  | with_reducible refine x_test ?_
  | with_reducible refine x_ex ?_
  | with_reducible refine x_call ?_
  | with_reducible refine x_mk ?_
  | with_reducible refine x_meth ?_
  | with_reducible refine x_prop ?_
  | with_reducible refine x_cb ?_
  | with_reducible refine x_tup ?_
  | with_reducible refine x_lst ?_
  | with_reducible refine x_drop ?_
  | with_reducible refine x_for ?_
  | with_reducible refine x_iL ?_
  | with_reducible refine x_iT ?_
  | with_reducible refine x_iE ?_
  | with_reducible refine x_iU ?_
  | with_reducible refine x_iR1 ?_
  | with_reducible refine x_iR2 ?_
  | with_reducible refine x_gcons ?_
  | with_reducible refine x_gnil ?_
  | with_reducible refine x_par ?_
  | with_reducible refine x_lstRg ?_
  | with_reducible refine x_rg1 ?_
  | with_reducible refine x_rg1At ?_
  | with_reducible refine x_par3 ?_
  | with_reducible refine x_bm ?_
  | with_reducible refine x_bm0 ?_
  | with_reducible refine x_gSub ?_
  | with_reducible refine x_lc ?_
  | with_reducible refine x_yes ?_
  | with_reducible refine x_setf ?_
  | with_reducible refine x_next ?_
  | with_reducible refine x_B ?_
  | with_reducible refine x_and ?_
  | with_reducible refine x_or ?_
  | with_reducible refine x_not ?_
  | with_reducible refine x_andV ?_
  | with_reducible refine x_orV ?_
  | with_reducible refine x_notV ?_
  | with_reducible refine x_ifE ?_
  | with_reducible refine x_chain ?_
  | with_reducible refine x_chain3 ?_
  | with_reducible refine x_un ?_
  | with_reducible refine x_isNe ?_
  | with_reducible refine x_notNe ?_
  | with_reducible refine x_starA ?_
  | with_reducible refine x_plusI ?_
  | with_reducible refine x_minus ?_
  | with_reducible refine x_lt ?_
  | with_reducible refine x_le ?_
  | with_reducible refine x_gt ?_
  | with_reducible refine x_ge ?_
  | with_reducible refine x_eqI ?_
  | with_reducible refine x_neI ?_
  | with_reducible refine x_eqS ?_
  | with_reducible refine x_eqB ?_
  | with_reducible refine x_neB ?_
  | with_reducible refine x_int ?_
  | with_reducible refine x_intB ?_
  | with_reducible refine x_max2 ?_
  | with_reducible refine x_min2 ?_
  | with_reducible refine x_max3 ?_
  | with_reducible refine x_abs ?_
  | with_reducible refine x_neg ?_
  | with_reducible refine x_isi_ii ?_
  | with_reducible refine x_isi_ib ?_
  | with_reducible refine x_T ?_
  | with_reducible refine x_nT ?_
  | with_reducible refine x_nF ?_
  | with_reducible refine x_F ?_)
local macro_rules | `(tactic| walk_at "x") => `(tactic| repeat walk_at "x1")

local macro_rules | `(tactic| walk_at "eff") => `(tactic| first
  | refine x_eff (by assumption) (Wd.c_Effect (by assumption)) (Wd.n_Effect_chairs (by assumption)) eff_chairs ?_
  | refine x_eff (by assumption) (Wd.c_Effect (by assumption)) (Wd.n_Effect_low (by assumption)) eff_low ?_
  | refine x_eff (by assumption) (Wd.c_Effect (by assumption)) (Wd.n_Effect_high (by assumption)) eff_high ?_
  | refine x_eff (by assumption) (Wd.c_Effect (by assumption)) (Wd.n_Effect_extra (by assumption)) eff_extra ?_
  | refine x_eff (by assumption) (Wd.c_Effect (by assumption)) (Wd.n_Effect_goal (by assumption)) eff_goal ?_
  | refine x_eff (by assumption) (Wd.c_Effect (by assumption)) (Wd.n_Effect_turned (by assumption)) eff_turned ?_)
local macro_rules | `(tactic| walk_at "y") => `(tactic| repeat (first | walk_at "x1" | walk_at "eff"))

local macro_rules | `(tactic| walk_at "q1") => `(tactic| first
  | walk_at "x1"
  | with_reducible refine x_sl ?_
  | with_reducible refine x_cmeth ?_
  | with_reducible refine x_noPart ?_
  | with_reducible refine x_part ?_
  | with_reducible refine x_partI ?_)
local macro_rules | `(tactic| walk_at "q") => `(tactic| repeat walk_at "q1")

section
variable {P : Program} {w : World} {K : PySem.W.Frag} {mg : Str → Option Value} {base : Heap}
theorem ok_longest_way (W : Wd K mg) : FnR P w K mg base CX0 1 (ga K "longest_way") (fun vs H Q _ => ∃ (c b g : Int) (m : Nat) (up : Bool), vs = [.int c, .int b, .int g, .int m, .bl up] ∧ (m : Int) ≤ 1000000000000000000 ∧ Q (.int (longW c b g m up)) H) := by
  refine (def_ok W.F_longest_way sc_longest_way (fun _ _ _ _ _ _ us hl => match us, hl with | [_, _, _, _, _], _ => rfl) (fun vs H Q E ⟨c, b, g, m, up, e, _⟩ => by rw [e]; rfl) fun cdv A outer s' H vs Q E hr ⟨c, b, g, m, up, e, hm, k⟩ => ?_).2
  subst e
  refine ⟨_, PSs.nox (pss_cons (ps_if (pt_not (pt_val (pv 4))) (pss_one (ps_par (i := 1) (j := 2) (by rfl) sc_longest_way.nd rfl rfl (by decide) rfl rfl (pa_cons (pe_op op_minus (pv 0) (pv 1)) (pa_cons (pe_op op_minus (pv 0) (pv 2)) pa_nil)) (by rfl))) pss_nil) (pss_cons (ps_set (i := 5) sc_longest_way.nd rfl (Or.inl rfl) (pe_ifExp (pt_cmpR (op_eqK K hr.units) (pe_op op_modP (pe_callTy c_int (by rfl) W.f_int (by decide +kernel) (pa_cons (pv 3) pa_nil)) pe_int) pe_int (nomark _)) (pe_op op_minus (pv 0) (pv 2)) (pv 2))) (pss_one (ps_ret (pe_op op_plus (pe_op op_plus (pe_op op_minus (pv 0) (pv 1)) (pe_op op_times (pv 0) (pe_op op_minus (pv 3) pe_int))) (pv 5)))))), ?_⟩
  unfold longW lastW at k
  have e2 : ((m : Int) % 2 = 0) ↔ (m % 2 = 0) := by omega
  cases up with
  | true =>
    rw [if_pos rfl] at k
    walk_at "q"
    refine x_mod (by decide) ?_
    walk_at "q"
    refine x_ifd (fun h => ?_) fun h => ?_
    · rw [if_pos (e2.mp h)] at k
      walk_at "q"
      refine x_timesI (.inr ⟨by omega, by omega⟩) ?_
      walk_at "q"
      exact k
    · rw [if_neg (fun z => h (e2.mpr z))] at k
      walk_at "q"
      refine x_timesI (.inr ⟨by omega, by omega⟩) ?_
      walk_at "q"
      exact k
  | false =>
    rw [if_neg (by decide)] at k
    walk_at "q"
    refine ⟨_, _, rfl, ?_⟩
    walk_at "q"
    refine x_mod (by decide) ?_
    walk_at "q"
    refine x_ifd (fun h => ?_) fun h => ?_
    · rw [if_pos (e2.mp h)] at k
      walk_at "q"
      refine x_timesI (.inr ⟨by omega, by omega⟩) ?_
      walk_at "q"
      exact k
    · rw [if_neg (fun z => h (e2.mpr z))] at k
      walk_at "q"
      refine x_timesI (.inr ⟨by omega, by omega⟩) ?_
      walk_at "q"
      exact k
theorem ok_is_possible (W : Wd K mg) : FnR P w K mg base CX0 1 (ga K "is_possible") (fun vs H Q _ => ∃ (c b g : Int) (m : Nat) (up : Bool), vs = [.int c, .int b, .int g, .int m, .bl up] ∧ Q (.bl (possW c b g m up)) H) := by
  refine (def_ok W.F_is_possible sc_is_possible (fun _ _ _ _ _ _ us hl => match us, hl with | [_, _, _, _, _], _ => rfl) (fun vs H Q E ⟨c, b, g, m, up, e, _⟩ => by rw [e]; rfl) fun cdv A outer s' H vs Q E hr ⟨c, b, g, m, up, e, k⟩ => ?_).2
  subst e
  refine ⟨_, PSs.nox (pss_cons (ps_if (pt_val (pv 4)) (pss_cons (ps_set (i := 5) sc_is_possible.nd rfl (Or.inl rfl) (pe_ifExp (pt_cmpR (op_eqK K hr.units) (pe_op op_modP (pe_callTy c_int (by rfl) W.f_int (by decide +kernel) (pa_cons (pv 3) pa_nil)) pe_int) pe_int (nomark _)) (pe_cmpR op_ltI (pv 2) (pv 0) (nomark _)) (pe_cmpR op_gtI (pv 2) pe_int (nomark _)))) (pss_one (ps_ret (pe_and (pe_cmpR op_ltI (pv 1) (pv 0) (nomark _)) (pe_one (pv 5)))))) pss_nil) (pss_cons (ps_set (i := 5) sc_is_possible.nd rfl (Or.inl rfl) (pe_ifExp (pt_cmpR (op_eqK K hr.units) (pe_op op_modP (pe_callTy c_int (by rfl) W.f_int (by decide +kernel) (pa_cons (pv 3) pa_nil)) pe_int) pe_int (nomark _)) (pe_cmpR op_gtI (pv 2) pe_int (nomark _)) (pe_cmpR op_ltI (pv 2) (pv 0) (nomark _)))) (pss_one (ps_ret (pe_and (pe_cmpR op_gtI (pv 1) pe_int (nomark _)) (pe_one (pv 5))))))), ?_⟩
  unfold possW at k
  have e2 : ((m : Int) % 2 = 0) ↔ (m % 2 = 0) := by omega
  have an : ∀ (a : Prop) [Decidable a] (b : Bool), (if decide a = true then Q (.bl b) H else Q (.bl false) H) ↔ Q (.bl (decide a && b)) H := by
    intro a _ b
    by_cases h : a
    · rw [decide_eq_true h, Bool.true_and, if_pos rfl]
    · rw [decide_eq_false h, Bool.false_and, if_neg (by decide)]
  cases up with
  | true =>
    rw [if_pos rfl] at k
    walk_at "q"
    refine x_mod (by decide) ?_
    walk_at "q"
    refine x_ifd (fun h => ?_) fun h => ?_
    · rw [if_pos (e2.mp h)] at k
      walk_at "q"
      refine x_ifd (fun h => ?_) fun h => ?_
      · walk_at "q"
        rw [decide_eq_true h, Bool.true_and] at k
        exact k
      · rw [decide_eq_false h, Bool.false_and] at k
        exact k
    · rw [if_neg (fun z => h (e2.mpr z))] at k
      walk_at "q"
      refine x_ifd (fun h => ?_) fun h => ?_
      · walk_at "q"
        rw [decide_eq_true h, Bool.true_and] at k
        exact k
      · rw [decide_eq_false h, Bool.false_and] at k
        exact k
  | false =>
    rw [if_neg (by decide)] at k
    walk_at "q"
    refine x_mod (by decide) ?_
    walk_at "q"
    refine x_ifd (fun h => ?_) fun h => ?_
    · rw [if_pos (e2.mp h)] at k
      walk_at "q"
      refine x_ifd (fun h => ?_) fun h => ?_
      · walk_at "q"
        rw [decide_eq_true h, Bool.true_and] at k
        exact k
      · rw [decide_eq_false h, Bool.false_and] at k
        exact k
    · rw [if_neg (fun z => h (e2.mpr z))] at k
      walk_at "q"
      refine x_ifd (fun h => ?_) fun h => ?_
      · walk_at "q"
        rw [decide_eq_true h, Bool.true_and] at k
        exact k
      · rw [decide_eq_false h, Bool.false_and] at k
        exact k
theorem ok_step_to (W : Wd K mg) : FnR P w K mg base CX0 1 (ga K "step_to") (fun vs H Q _ => ∃ (c z : Int) (up : Bool), vs = [.int c, .int z, .bl up] ∧ ∀ t H', H t = none → Same H H' → H' t = some (.tup (stepV (stepTo c z up))) → Q (.ref t) H') := by
  refine (def_ok W.F_step_to sc_step_to (fun _ _ _ _ _ _ us hl => match us, hl with | [_, _, _], _ => rfl) (fun vs H Q E ⟨c, z, up, e, _⟩ => by rw [e]; rfl) fun cdv A outer s' H vs Q E hr ⟨c, z, up, e, k⟩ => ?_).2
  subst e
  refine ⟨_, PSs.nox (pss_one (ps_ret (pe_ifExp (pt_val (pv 2)) (pe_tup (pa_cons (pe_gs W.t_RED rfl) (pa_cons (pv 1) pa_nil))) (pe_tup (pa_cons (pe_gs W.t_BLUE rfl) (pa_cons (pe_op op_minus (pv 0) (pv 1)) pa_nil)))))), ?_⟩
  cases up with
  | true =>
    walk_at "q"
    exact ⟨sz rfl, fun t ht => k t _ ht (Same.new ht) upd_same⟩
  | false =>
    walk_at "q"
    exact ⟨sz rfl, fun t ht => k t _ ht (Same.new ht) upd_same⟩
theorem ok_places_of (W : Wd K mg) : FnR P w K mg base CX0 1 (ga K "places_of") (fun vs H Q _ => ∃ (c b g : Int) (m : Nat) (up : Bool), vs = [.int c, .int b, .int g, .int m, .bl up] ∧ 1 ≤ m ∧ m ≤ 10000 ∧ ∀ r H', H r = none → Same H H' → H' r = some (.lst ((placesL c g m up).map V.int)) → Q (.ref r) H') := by
  refine (def_ok W.F_places_of sc_places_of (fun _ _ _ _ _ _ us hl => match us, hl with | [_, _, _, _, _], _ => rfl) (fun vs H Q E ⟨c, b, g, m, up, e, _⟩ => by rw [e]; rfl) fun cdv A outer s' H vs Q E hr ⟨c, b, g, m, up, e, m1, m2, k⟩ => ?_).2
  subst e
  refine ⟨_, PSs.nox (pss_cons (ps_set (i := 5) sc_places_of.nd rfl (Or.inl rfl) (pe_lst pa_nil)) (pss_cons (ps_for PassesOwn.never rfl (pi_range1 (by rfl) W.f_range (pa_cons (pe_op op_minus (pv 3) pe_int) pa_nil)) (pg_name (i := 6) sc_places_of.nd rfl (Or.inl rfl)) (pss_one (ps_expr (pe_bmK K PySem.F.plainAttrs_list PySem.F.slot_list_append PySem.F.type_list_append mt_append (pv 5) (pa_cons (pe_ifExp (pt_cmpR (op_eqK K hr.units) (pe_cmpR (op_eqK K hr.units) (pe_op op_modP (pe_callTy c_int (by rfl) W.f_int (by decide +kernel) (pa_cons (pv 6) pa_nil)) pe_int) pe_int (nomark _)) (pv 4) (nomark _)) (pv 0) pe_int) pa_nil))))) (pss_one (ps_ret (pe_op op_plus (pv 5) (pe_lst (pa_cons (pv 2) pa_nil))))))), ?_⟩
  walk_at "q"
  refine ⟨sz rfl, fun r hr0 => ?_⟩; generalize hNr : upd _ r _ = H1; obtain ⟨s1, e1⟩ := nws hNr hr0
  walk_at "q"
  refine x_iR1At (by omega) (by omega) ?_
  refine x_loop walk_range (fun i σ H2 => (∃ a, σ = [some (.int c), some (.int b), some (.int g), some (.int m), some (.bl up), some (.ref r), a]) ∧ Same H H2 ∧ H2 r = some (.lst ((rgI (fun j => if decide (decide (j % 2 = 0) = up) then c else 0) i).map V.int))) ⟨⟨_, rfl⟩, s1, e1⟩ (fun _ _ _ _ _ => trivial) ?_ ?_
  · rintro i y σ H3 H2 hi ⟨⟨a, rfl⟩, s2, hr2⟩ ⟨rfl, rfl⟩
    walk_at "q"
    refine ⟨ty_lst hr2, ?_⟩
    walk_at "q"
    refine x_mod (by decide) ?_
    walk_at "q"
    have fin : ∀ v : Int, v = (if decide (decide ((i : Int) % 2 = 0) = up) then c else 0) → Same H (upd H2 r (.lst ((rgI (fun j => if decide (decide (j % 2 = 0) = up) then c else 0) i).map V.int ++ [.int v]))) ∧
        (upd H2 r (.lst ((rgI (fun j => if decide (decide (j % 2 = 0) = up) then c else 0) i).map V.int ++ [.int v]))) r = some (.lst ((rgI (fun j => if decide (decide (j % 2 = 0) = up) then c else 0) (i + 1)).map V.int)) := by
      intro v ev
      refine ⟨Same.mut s2 hr0, ?_⟩
      rw [upd_same, rgI_snoc, List.map_append, ev]
      rfl
    refine x_ifd (fun h => ?_) fun h => ?_
    · walk_at "q"
      refine x_app hr2 (sz5' (by rw [List.length_map, rgI_len]; omega)) ?_
      walk_at "q"
      exact ⟨⟨_, rfl⟩, fin c (by rw [Int.zero_add] at h; rw [decide_eq_true h]; rfl)⟩
    · walk_at "q"
      refine x_app hr2 (sz5' (by rw [List.length_map, rgI_len]; omega)) ?_
      walk_at "q"
      exact ⟨⟨_, rfl⟩, fin 0 (by rw [Int.zero_add] at h; rw [decide_eq_false h]; rfl)⟩
  · rintro σ H2 ⟨⟨a, rfl⟩, s2, hr2⟩
    walk_at "q"
    refine ⟨sz rfl, fun q hq => ?_⟩; generalize hNq : upd _ q _ = H3; obtain ⟨s3, e3⟩ := nws hNq hq
    refine n_plusL (s3 _ _ hr2) e3 (sz5 (by rw [List.length_map, rgI_len]; show _ + 1 ≤ _; omega)) fun t H4 ht s4 e4 => ?_
    refine k t H4 ((s2.trans s3).free ht) (s2.trans (s3.trans s4)) ?_
    rw [e4]
    have em : ((m : Int) - 1).toNat = m - 1 := by omega
    unfold placesL
    rw [List.map_append, em]
    rfl
theorem at_i {xs : List Int} {k : Nat} {j v : Int} (h : xs[k]? = some v) (e : j = (k : Int)) : atI (xs.map V.int) j = some (.int v) := by
  subst e
  exact atI_nat (by rw [List.getElem?_map, h]; rfl)
theorem cut_tail (xs : List V) (h : 1 ≤ xs.length) : cutV xs (some 1) none = xs.tail := by
  cases xs with
  | nil => cases h
  | cons x r =>
    unfold cutV
    simp [HT.sIx]
def spSh (K : PySem.W.Frag) : Sp := fun vs H Q _ => ∃ (q : Addr) (b sl : Int) (zs : List Int), vs = [.int b, .ref q, .int sl] ∧ H q = some (.lst (zs.map V.int)) ∧ 1 ≤ zs.length ∧ zs.length ≤ 10000 ∧ ∀ r H', H r = none → Same H H' → H' r = some (.lst ((shortGo b zs sl).map V.int)) → Q (.ref r) H'
theorem ok_shortened (W : Wd K mg) : FnR P w K mg base CX0 1 (ga K "shortened") (spSh K) := by
  refine (def_ok W.F_shortened sc_shortened (fun _ _ _ _ _ _ us hl => match us, hl with | [_, _, _], _ => rfl) (fun vs H Q E ⟨q, b, sl, zs, e, _⟩ => by rw [e]; rfl) fun cdv A outer s' H vs Q E hr ⟨q, b, sl0, zs, e, hq, z1, z2, k⟩ => ?_).2
  subst e
  refine ⟨_, PSs.nox (pss_cons (ps_set (i := 3) sc_shortened.nd rfl (Or.inl rfl) (pe_op op_plus (pe_lst (pa_cons (pv 0) pa_nil)) (pv 1))) (pss_cons (ps_for PassesOwn.never rfl (pi_range2 (by rfl) W.f_range (pa_cons pe_int (pa_cons (pe_op op_minus (pe_callB (c_lenK K) (by rfl) W.f_len (by decide +kernel) (pa_cons (pv 3) pa_nil)) pe_int) pa_nil))) (pg_name (i := 4) sc_shortened.nd rfl (Or.inl rfl)) (pss_cons (ps_set (i := 5) sc_shortened.nd rfl (Or.inl rfl) (pe_ifExp (pt_cmpR op_gtI (pe_ix (ix_K K) (pv 3) (pv 4) (fun _ _ => rfl)) (pe_ix (ix_K K) (pv 3) (pe_op op_minus (pv 4) pe_int) (fun _ _ => rfl)) (nomark _)) pe_int (pe_un un_neg pe_int))) (pss_cons (ps_set (i := 6) sc_shortened.nd rfl (Or.inl rfl) (pe_op op_times (pe_callB (c_max2 rfl) (by rfl) W.f_max (by decide +kernel) (pa_cons (pe_op op_times (pe_ix (ix_K K) (pv 3) (pe_op op_minus (pv 4) pe_int) (fun _ _ => rfl)) (pv 5)) (pa_cons (pe_op op_times (pe_ix (ix_K K) (pv 3) (pe_op op_plus (pv 4) pe_int) (fun _ _ => rfl)) (pv 5)) pa_nil))) (pv 5))) (pss_cons (ps_set (i := 7) sc_shortened.nd rfl (Or.inl rfl) (pe_callB (c_min2 rfl) (by rfl) W.f_min (by decide +kernel) (pa_cons (pv 2) (pa_cons (pe_op op_minus (pe_callB c_abs (by rfl) W.f_abs (by decide +kernel) (pa_cons (pe_op op_minus (pe_ix (ix_K K) (pv 3) (pv 4) (fun _ _ => rfl)) (pv 6)) pa_nil)) pe_int) pa_nil)))) (pss_cons (ps_augS (pv 3) (pv 4) (get_listK K) (pe_op op_times (pv 7) (pv 5)) ip_sub set_list) (pss_one (ps_aug (i := 2) sc_shortened.nd rfl (Or.inl rfl) (pv 7) ip_sub))))))) (pss_one (ps_ret (pe_slice (sl_listK K) (pv 3) (po_some pe_int) po_none))))), ?_⟩
  walk_at "q"
  refine ⟨sz rfl, fun t ht0 => ?_⟩; generalize hNt : upd _ t _ = H1; obtain ⟨s1, e1⟩ := nws hNt ht0
  walk_at "q"
  refine n_plusL e1 (s1 _ _ hq) (sz5 (by rw [List.length_map]; show 1 + _ ≤ _; omega)) fun r H2 hr1 s2 e2 => ?_
  have e2' : H2 r = some (.lst ((b :: zs).map V.int)) := e2
  have hr0 : H r = none := s1.free hr1
  walk_at "q"
  refine x_lenL (SqL.of e2') ?_
  walk_at "q"
  have ln : ((b :: zs).map V.int).length = zs.length + 1 := by rw [List.length_map]; rfl
  refine x_iR2At ⟨by decide, by decide, by rw [ln]; omega, by rw [ln]; omega⟩ ?_
  have cnt : ((((b :: zs).map V.int).length : Int) - 1 - 1).toNat = zs.length - 1 := by rw [ln]; omega
  rw [cnt]
  refine x_loop walk_range (fun i σ H3 => Same H H3 ∧ ∃ (dn rest : List Int) (pv sl : Int), (∃ a b' c d, σ = [some (.int b), some (.ref q), some (.int sl), some (.ref r), a, b', c, d]) ∧ H3 r = some (.lst ((dn ++ rest).map V.int)) ∧ dn.length = i + 1 ∧ rest.length + i = zs.length ∧ dn[i]? = some pv ∧ shortGo b zs sl0 = dn.tail ++ shortGo pv rest sl)
    ⟨s1.trans s2, [b], zs, b, sl0, ⟨_, _, _, _, rfl⟩, e2', rfl, rfl, rfl, rfl⟩ (fun _ _ _ _ _ => trivial) ?_ ?_
  · rintro i y σ H4 H3 hi ⟨s3, dn, rest, pv, sl, ⟨a, b', c, d, rfl⟩, h3, dl, rl, dp, hg⟩ ⟨rfl, rfl⟩
    obtain ⟨z, nx, r', rfl⟩ : ∃ z nx r', rest = z :: nx :: r' := by
      match rest, rl with
      | [], rl => exfalso; simp at rl; omega
      | [_], rl => exfalso; simp at rl; omega
      | z :: nx :: r', _ => exact ⟨z, nx, r', rfl⟩
    have a0 : (dn ++ z :: nx :: r')[i]? = some pv := by rw [List.getElem?_append_left (by omega)]; exact dp
    have a1 : (dn ++ z :: nx :: r')[i + 1]? = some z := by rw [List.getElem?_append_right (by omega), dl]; simp
    have a2 : (dn ++ z :: nx :: r')[i + 2]? = some nx := by rw [List.getElem?_append_right (by omega), dl, show i + 2 - (i + 1) = 1 by omega]; rfl
    walk_at "q"
    refine x_ixL (SqL.of h3) (at_i a1 (by omega)) ?_
    walk_at "q"
    refine x_ixL (SqL.of h3) (at_i a0 (by omega)) ?_
    walk_at "q"
    refine x_ifSetd (fun v H' => v = .int (if z > pv then 1 else -1) ∧ H3 = H') (fun hz Q' kQ => ?up) (fun hz Q' kQ => ?down) ?rest
    case up =>
      walk_at "q"
      exact kQ _ _ ⟨by rw [if_pos hz], rfl⟩
    case down =>
      walk_at "q"
      exact kQ _ _ ⟨by rw [if_neg hz], rfl⟩
    case rest =>
      rintro _ _ ⟨rfl, rfl⟩
      have eg : shortGo pv (z :: nx :: r') sl = (z - mn sl (absI (z - mx (pv * (if z > pv then 1 else -1)) (nx * (if z > pv then 1 else -1)) * (if z > pv then 1 else -1)) - 1) * (if z > pv then 1 else -1)) :: shortGo (z - mn sl (absI (z - mx (pv * (if z > pv then 1 else -1)) (nx * (if z > pv then 1 else -1)) * (if z > pv then 1 else -1)) - 1) * (if z > pv then 1 else -1)) (nx :: r') (sl - mn sl (absI (z - mx (pv * (if z > pv then 1 else -1)) (nx * (if z > pv then 1 else -1)) * (if z > pv then 1 else -1)) - 1)) := rfl
      rw [eg] at hg
      have hst : (if z > pv then (1 : Int) else -1) = 1 ∨ (if z > pv then (1 : Int) else -1) = -1 := by
        split
        · exact .inl rfl
        · exact .inr rfl
      generalize (if z > pv then (1 : Int) else -1) = st at hst hg ⊢
      have cm : ∀ u : Int, CMul u st := fun u => .inr ⟨by omega, by omega⟩
      walk_at "q"
      refine x_ixL (SqL.of h3) (at_i a0 (by omega)) ?_
      walk_at "q"
      refine x_timesI (cm _) ?_
      walk_at "q"
      refine x_ixL (SqL.of h3) (at_i a2 (by omega)) ?_
      walk_at "q"
      refine x_timesI (cm _) ?_
      walk_at "q"
      refine x_timesI (cm _) ?_
      walk_at "q"
      refine x_ixL (SqL.of h3) (at_i a1 (by omega)) ?_
      walk_at "q"
      refine x_augS ?_
      walk_at "q"
      refine x_getL (SqL.of h3) (by omega) (at_i a1 (by omega)) ?_
      walk_at "q"
      refine x_timesI (cm _) ?_
      refine x_ipI ?_
      have ix : ixN ((dn ++ z :: nx :: r').map V.int).length (1 + (i : Int)) = some (i + 1) := by
        have ll : ((dn ++ z :: nx :: r').map V.int).length = i + 1 + (r'.length + 2) := by rw [List.length_map, List.length_append, dl]; rfl
        rw [ll, show (1 : Int) + (i : Int) = ((i + 1 : Nat) : Int) by omega]
        unfold ixN
        rw [if_pos (by omega), if_pos (by omega), Int.toNat_natCast]
      refine x_setL h3 ix ?_
      refine x_aug rfl ?_
      walk_at "q"
      refine x_ipI ?_
      refine ⟨Same.mut s3 hr0, dn ++ [z - mn sl (absI (z - mx (pv * st) (nx * st) * st) - 1) * st], nx :: r', z - mn sl (absI (z - mx (pv * st) (nx * st) * st) - 1) * st, sl - mn sl (absI (z - mx (pv * st) (nx * st) * st) - 1), ⟨_, _, _, _, rfl⟩, ?_, by rw [List.length_append, dl]; rfl, by simp at rl ⊢; omega, by rw [List.getElem?_append_right (by omega), dl]; simp, ?_⟩
      · rw [upd_same, ← List.map_set]
        rw [List.set_append_right _ _ (by omega), dl]
        simp
        rfl
      · rw [hg]
        cases dn with
        | nil => simp at dl
        | cons d0 dr => simp
  · rintro σ H3 ⟨s3, dn, rest, pv, sl, ⟨a, b', c, d, rfl⟩, h3, dl, rl, dp, hg⟩
    obtain ⟨z, rfl⟩ : ∃ z, rest = [z] := by
      match rest, rl with
      | [], rl => exfalso; simp at rl; omega
      | [z], _ => exact ⟨z, rfl⟩
      | _ :: _ :: _, rl => exfalso; simp at rl; omega
    walk_at "q"
    refine n_slL (SqL.of h3) fun u H4 hu s4 e4 => ?_
    refine k u H4 (s3.free hu) (s3.trans s4) ?_
    rw [e4, cut_tail _ (by rw [List.length_map, List.length_append, dl]; omega), hg]
    cases dn with
    | nil => simp at dl
    | cons d0 dr => simp [shortGo]
def spWO (K : PySem.W.Frag) : Sp := fun vs H Q _ => ∃ (c b g L : Int), vs = [.int c, .int b, .int g, .int L] ∧ (L ≠ absI (g - b) → ∃ m0 u, 2 ≤ m0 ∧ m0 ≤ 9000 ∧ doesW c b g L m0 u) ∧
  ∀ t r H' up zs, H t = none → Same H H' → WayOf c b g L up zs → zs.length ≤ 10000 → H' t = some (.tup [.bl up, .ref r]) → H' r = some (.lst (zs.map V.int)) → Q (.ref t) H'
theorem ok_way_of (W : Wd K mg) : FnR P w K mg base CX0 2 (ga K "way_of") (spWO K) := by
  refine (def_ok W.F_way_of sc_way_of (fun _ _ _ _ _ _ us hl => match us, hl with | [_, _, _, _], _ => rfl) (fun vs H Q E ⟨c, b, g, L, e, _⟩ => by rw [e]; rfl) fun cdv A outer s' H vs Q E hr ⟨c, b, g, L, e, hex, k⟩ => ?_).2
  subst e
  refine ⟨_, PSs.nox (pss_cons (ps_if (pt_cmpR (op_eqK K hr.units) (pv 3) (pe_callB c_abs (by rfl) W.f_abs (by decide +kernel) (pa_cons (pe_op op_minus (pv 2) (pv 1)) pa_nil)) (nomark _)) (pss_one (ps_ret (pe_tup (pa_cons (pe_cmpR op_gtI (pv 2) (pv 1) (nomark _)) (pa_cons (pe_lst (pa_cons (pv 2) pa_nil)) pa_nil))))) pss_nil) (pss_cons (ps_set (i := 4) sc_way_of.nd rfl (Or.inl rfl) pe_int) (pss_one (ps_while PassesOwn.never (pt_val pe_bl) (pss_cons (ps_for PassesOwn.never rfl (pi_tupK K (pe_tup (pa_cons pe_bl (pa_cons pe_bl pa_nil)))) (pg_name (i := 5) sc_way_of.nd rfl (Or.inl rfl)) (pss_cons (ps_set (i := 6) sc_way_of.nd rfl (Or.inl rfl) (pe_callR (ok_longest_way W) (hr.mono (by decide)) W.g_longest_way W.k_longest_way pass0 rfl (pa_cons (pv 0) (pa_cons (pv 1) (pa_cons (pv 2) (pa_cons (pv 4) (pa_cons (pv 5) pa_nil))))))) (pss_one (ps_if (PW.pt (pw_and (pt_val (pe_callR (ok_is_possible W) (hr.mono (by decide)) W.g_is_possible W.k_is_possible pass0 rfl (pa_cons (pv 0) (pa_cons (pv 1) (pa_cons (pv 2) (pa_cons (pv 4) (pa_cons (pv 5) pa_nil))))))) (pw_and1 (pt_cmpR op_geI (pv 6) (pv 3) (nomark _))))) (pss_one (ps_ret (pe_tup (pa_cons (pv 5) (pa_cons (pe_callR (ok_shortened W) (hr.mono (by decide)) W.g_shortened W.k_shortened pass0 rfl (pa_cons (pv 1) (pa_cons (pe_callR (ok_places_of W) (hr.mono (by decide)) W.g_places_of W.k_places_of pass0 rfl (pa_cons (pv 0) (pa_cons (pv 1) (pa_cons (pv 2) (pa_cons (pv 4) (pa_cons (pv 5) pa_nil)))))) (pa_cons (pe_op op_divP (pe_op op_minus (pv 6) (pv 3)) pe_int) pa_nil)))) pa_nil))))) pss_nil)))) (pss_one (ps_aug (i := 4) sc_way_of.nd rfl (Or.inl rfl) pe_int ip_add))))))), ?_⟩
  walk_at "q"
  refine x_ifd (fun h => ?_) fun h => ?_
  · walk_at "q"
    refine ⟨sz rfl, fun r hr0 => ?_⟩; generalize hNr : upd _ r _ = H1; obtain ⟨s1, e1⟩ := nws hNr hr0
    walk_at "q"
    refine ⟨sz rfl, fun t ht => ?_⟩; generalize hNt : upd _ t _ = H2; obtain ⟨s2, e2⟩ := nws hNt ht
    exact k t r H2 (decide (b < g)) [g] (s1.free ht) (s1.trans s2) (.inl ⟨h, rfl, rfl⟩) (by show 1 ≤ 10000; decide) e2 (s2 _ _ e1)
  · have h' : L ≠ absI (g - b) := h
    obtain ⟨m0, u0, m02, m09, hd0⟩ := hex h'
    walk_at "q"
    refine x_while (fun n σ H1 => ∃ (m : Nat), n = m0 + 1 - m ∧ 2 ≤ m ∧ m ≤ m0 ∧ (∀ m' u, 2 ≤ m' → m' < m → ¬ doesW c b g L m' u) ∧ Same H H1 ∧ ∃ a d, σ = [some (.int c), some (.int b), some (.int g), some (.int L), some (.int m), a, d]) (m0 + 1 - 2) ⟨2, rfl, Nat.le_refl _, m02, fun m' u h1 h2 => by omega, Same.refl _, _, _, rfl⟩ ?_
    rintro n σ H1 ⟨m, rfl, m2, mm, hno, s1, a, d, rfl⟩
    walk_at "q"
    refine x_turn ?_
    walk_at "q"
    refine ⟨sz rfl, fun tu htu => ?_⟩; generalize hNtu : upd _ tu _ = H2; obtain ⟨s2, e2⟩ := nws hNtu htu
    walk_at "q"
    refine x_iTAt (SqT.of e2) (x_loop walk_tup (fun i σ H3 => Same H2 H3 ∧ (∃ a d, σ = [some (.int c), some (.int b), some (.int g), some (.int L), some (.int m), a, d]) ∧ (1 ≤ i → ¬ doesW c b g L m true) ∧ (2 ≤ i → ¬ doesW c b g L m false)) ⟨Same.refl _, ⟨_, _, rfl⟩, fun z => by omega, fun z => by omega⟩ (fun i σ H3 _ ⟨s3, _⟩ => SqT.of (s3 _ _ e2)) ?_ ?_)
    · rintro i y σ H3 H4 hi ⟨s3, ⟨a, d, rfl⟩, n1, n2⟩ ⟨rfl, ey⟩
      have hi2 : i < 2 := hi
      obtain ⟨up, rfl, hup⟩ : ∃ up : Bool, y = .bl up ∧ ((i = 0 ∧ up = true) ∨ (i = 1 ∧ up = false)) := by
        have : i = 0 ∨ i = 1 := by omega
        rcases this with rfl | rfl
        · cases ey; exact ⟨true, rfl, .inl ⟨rfl, rfl⟩⟩
        · cases ey; exact ⟨false, rfl, .inr ⟨rfl, rfl⟩⟩
      walk_at "q"
      refine ⟨c, b, g, m, up, rfl, by omega, ?_⟩
      walk_at "q"
      refine ⟨c, b, g, m, up, rfl, ?_⟩
      walk_at "q"
      have fail : ¬ doesW c b g L m up → (1 ≤ i + 1 → ¬ doesW c b g L m true) ∧ (2 ≤ i + 1 → ¬ doesW c b g L m false) := by
        intro hn
        rcases hup with ⟨rfl, rfl⟩ | ⟨rfl, rfl⟩
        · exact ⟨fun _ => hn, fun z => by omega⟩
        · exact ⟨fun _ => n1 (by omega), fun _ => hn⟩
      refine x_if (fun hp => ?_) fun hp => ?_
      · walk_at "q"
        refine x_ifd (fun hl => ?_) fun hl => ?_
        · walk_at "q"
          refine ⟨c, b, g, m, up, rfl, by omega, by omega, fun r H5 hr5 s5 e5 => ?_⟩
          walk_at "q"
          refine x_div (divF (by decide) (by decide)) ?_
          walk_at "q"
          have pl : (placesL c g m up).length = m := by unfold placesL; rw [List.length_append, rgI_len]; show m - 1 + 1 = m; omega
          refine ⟨r, b, (longW c b g m up - L) / 2, placesL c g m up, rfl, e5, by omega, by omega, fun z H6 hz s6 e6 => ?_⟩
          walk_at "q"
          refine ⟨sz rfl, fun t ht => ?_⟩; generalize hNt : upd _ t _ = H7; obtain ⟨s7, e7⟩ := nws hNt ht
          refine k t z H7 up _ ((s1.trans (s2.trans (s3.trans (s5.trans s6)))).free ht) (s1.trans (s2.trans (s3.trans (s5.trans (s6.trans s7))))) (.inr ⟨h', m, m2, ⟨hp, hl⟩, hno, fun hu => ?_, rfl⟩) ?_ e7 (s7 _ _ e6)
          · rcases hup with ⟨_, rfl⟩ | ⟨rfl, _⟩
            · cases hu
            · exact n1 (Nat.le_refl _)
          · rw [shortGo_len, pl]
            omega
        · walk_at "q"
          exact ⟨s3, ⟨_, _, rfl⟩, fail fun z => hl z.2⟩
      · walk_at "q"
        exact ⟨s3, ⟨_, _, rfl⟩, fail fun z => by have := z.1; rw [hp] at this; cases this⟩
    · rintro σ H3 ⟨s3, ⟨a, d, rfl⟩, n1, n2⟩
      have nm : ∀ u, ¬ doesW c b g L m u := fun u => by
        cases u
        · exact n2 (by show 2 ≤ 2; decide)
        · exact n1 (by show 1 ≤ 2; decide)
      have mlt : m < m0 := by
        rcases Nat.lt_or_ge m m0 with z | z
        · exact z
        · exfalso
          have : m = m0 := by omega
          subst this
          exact nm u0 hd0
      walk_at "q"
      refine x_aug rfl ?_
      walk_at "q"
      refine x_ipI ?_
      refine ⟨m0 + 1 - (m + 1), by omega, m + 1, rfl, by omega, by omega, fun m' u h1 h2 => ?_, s1.trans (s2.trans s3), _, _, rfl⟩
      by_cases q : m' = m
      · subst q
        exact nm u
      · exact hno m' u h1 (by omega)
def spSS (K : PySem.W.Frag) : Sp := fun vs H Q _ => ∃ (p : Addr) (e : Eff), vs = [.ref p] ∧ EffAt (CE K) H p e ∧ e.Ok ∧ (e.ex ≠ 0 → ∀ g, e.goal = some g → e.ex ≠ absI (g - e.lo) → ∃ m0 u, 2 ≤ m0 ∧ m0 ≤ 9000 ∧ doesW e.c e.lo g e.ex m0 u) ∧
  ∀ r H' ps l, H r = none → Same H H' → H' r = some (.lst ps) → StepsAt H' ps l → SimpleOf e l → l.length ≤ 20000 → Q (.ref r) H'
theorem ok_simple_steps (W : Wd K mg) : FnR P w K mg base CX0 3 (ga K "simple_steps") (spSS K) := by
  refine (def_ok W.F_simple_steps sc_simple_steps (fun _ _ _ _ _ _ us hl => match us, hl with | [_], _ => rfl) (fun vs H Q E ⟨p, e, ev, _⟩ => by rw [ev]; rfl) fun cdv A outer s' H vs Q E hr ⟨p, e, ev, hp, eo, hex, k⟩ => ?_).2
  subst ev
  refine ⟨_, PSs.nox (pss_cons (ps_set (i := 1) sc_simple_steps.nd rfl (Or.inl rfl) (pe_fldK K (pv 0))) (pss_cons (ps_if (pt_cmpR (op_eqK K hr.units) (pe_fldK K (pv 0)) pe_int (nomark _)) (pss_cons (ps_set (i := 2) sc_simple_steps.nd rfl (Or.inl rfl) (pe_ifExp (pt_cmpR op_gtI (pe_fldK K (pv 0)) pe_int (nomark _)) (pe_lst (pa_cons (pe_callR (ok_step_to W) (hr.mono (by decide)) W.g_step_to W.k_step_to pass0 rfl (pa_cons (pv 1) (pa_cons (pe_fldK K (pv 0)) (pa_cons pe_bl pa_nil)))) pa_nil)) (pe_lst pa_nil))) (pss_one (ps_ret (pe_op op_plus (pv 2) (pe_ifExp (pt_cmpR op_ltI (pe_fldK K (pv 0)) (pv 1) (nomark _)) (pe_lst (pa_cons (pe_callR (ok_step_to W) (hr.mono (by decide)) W.g_step_to W.k_step_to pass0 rfl (pa_cons (pv 1) (pa_cons (pe_fldK K (pv 0)) (pa_cons pe_bl pa_nil)))) pa_nil)) (pe_lst pa_nil)))))) pss_nil) (pss_cons (ps_asg (pe_callR (ok_way_of W) (hr.mono (by decide)) W.g_way_of W.k_way_of pass0 rfl (pa_cons (pv 1) (pa_cons (pe_fldK K (pv 0)) (pa_cons (pe_fldK K (pv 0)) (pa_cons (pe_fldK K (pv 0)) pa_nil))))) (pg_tupK (n := 2) K rfl (pgs_cons (pg_name (i := 3) sc_simple_steps.nd rfl (Or.inl rfl)) (pgs_cons (pg_name (i := 4) sc_simple_steps.nd rfl (Or.inl rfl)) pgs_nil)))) (pss_cons (ps_set (i := 2) sc_simple_steps.nd rfl (Or.inl rfl) (pe_lst (pa_cons (pe_callR (ok_step_to W) (hr.mono (by decide)) W.g_step_to W.k_step_to pass0 rfl (pa_cons (pv 1) (pa_cons (pe_fldK K (pv 0)) (pa_cons (pe_not (pv 3)) pa_nil)))) pa_nil))) (pss_cons (ps_for PassesOwn.never rfl (pi_listK K (pv 4)) (pg_name (i := 5) sc_simple_steps.nd rfl (Or.inl rfl)) (pss_cons (ps_expr (pe_bmK K PySem.F.plainAttrs_list PySem.F.slot_list_append PySem.F.type_list_append mt_append (pv 2) (pa_cons (pe_callR (ok_step_to W) (hr.mono (by decide)) W.g_step_to W.k_step_to pass0 rfl (pa_cons (pv 1) (pa_cons (pv 5) (pa_cons (pv 3) pa_nil)))) pa_nil))) (pss_one (ps_set (i := 3) sc_simple_steps.nd rfl (Or.inl rfl) (pe_not (pv 3)))))) (pss_one (ps_ret (pv 2)))))))), ?_⟩
  walk_at "y"
  refine x_ifd (fun h0 => ?_) fun h0 => ?_
  · walk_at "y"
    refine x_ifSetd (fun v H1 => ∃ r ps, v = .ref r ∧ Same H H1 ∧ H1 r = some (.lst ps) ∧ StepsAt H1 ps (if e.lo > 0 then [stepTo e.c e.lo true] else []) ∧ ps.length ≤ 1) (fun hl Q' kQ => ?A) (fun hl Q' kQ => ?B) ?C
    case A =>
      walk_at "y"
      refine ⟨_, _, _, rfl, fun t H1 ht s1 e1 => ?_⟩
      walk_at "y"
      refine ⟨sz rfl, fun r hr1 => ?_⟩; generalize hNr : upd _ r _ = H2; obtain ⟨s2, e2⟩ := nws hNr hr1
      exact kQ _ _ ⟨r, _, rfl, s1.trans s2, e2, by rw [if_pos hl]; exact StepsAt.put _ (s2 _ _ e1) .nil, Nat.le_refl _⟩
    case B =>
      walk_at "y"
      refine ⟨sz rfl, fun r hr1 => ?_⟩; generalize hNr : upd _ r _ = H2; obtain ⟨s2, e2⟩ := nws hNr hr1
      exact kQ _ _ ⟨r, _, rfl, s2, e2, by rw [if_neg hl]; exact .nil, Nat.zero_le _⟩
    case C =>
      rintro _ H1 ⟨r, ps, rfl, s1, hr1, hs1, hl1⟩
      have hp1 := hp.mono s1
      walk_at "y"
      refine x_ifSetd (fun v H2 => ∃ q qs, v = .ref q ∧ Same H1 H2 ∧ H2 q = some (.lst qs) ∧ StepsAt H2 qs (if e.hi < e.c then [stepTo e.c e.hi false] else []) ∧ qs.length ≤ 1) (fun hl Q' kQ => ?A) (fun hl Q' kQ => ?B) ?C
      case A =>
        walk_at "y"
        refine ⟨_, _, _, rfl, fun t H2 ht s2 e2 => ?_⟩
        walk_at "y"
        refine ⟨sz rfl, fun q hq1 => ?_⟩; generalize hNq : upd _ q _ = H3; obtain ⟨s3, e3⟩ := nws hNq hq1
        exact kQ _ _ ⟨q, _, rfl, s2.trans s3, e3, by rw [if_pos hl]; exact StepsAt.put _ (s3 _ _ e2) .nil, Nat.le_refl _⟩
      case B =>
        walk_at "y"
        refine ⟨sz rfl, fun q hq1 => ?_⟩; generalize hNq : upd _ q _ = H3; obtain ⟨s3, e3⟩ := nws hNq hq1
        exact kQ _ _ ⟨q, _, rfl, s3, e3, by rw [if_neg hl]; exact .nil, Nat.zero_le _⟩
      case C =>
        rintro _ H2 ⟨q, qs, rfl, s2, hq2, hs2, hl2⟩
        refine n_plusL (s2 _ _ hr1) hq2 (sz5 (by omega)) fun t H3 ht s3 e3 => ?_
        exact k t H3 _ _ ((s1.trans s2).free ht) (s1.trans (s2.trans s3)) e3 (pr_app (hs1.mono (s2.trans s3)) (hs2.mono s3)) (.inl ⟨h0, rfl⟩) (by rw [← pr_len (pr_app (hs1.mono (s2.trans s3)) (hs2.mono s3)), List.length_append]; omega)
  · obtain ⟨g, hg⟩ : ∃ g, e.goal = some g := by
      cases g : e.goal with
      | none => exact absurd (eo.no g).1 h0
      | some y => exact ⟨y, rfl⟩
    walk_at "y"
    rw [hg]
    refine ⟨e.c, e.lo, g, e.ex, rfl, hex h0 g hg, fun t z H1 up zs ht s1 hw hzl e1 e2 => ?_⟩
    refine x_gTup e1 rfl ?_
    have hp1 := hp.mono s1
    walk_at "y"
    refine ⟨e.c, e.lo, !up, rfl, fun t2 H2 ht2 s2 e3 => ?_⟩
    walk_at "y"
    refine ⟨sz rfl, fun r hr1 => ?_⟩; generalize hNr : upd _ r _ = H3; obtain ⟨s3, e4⟩ := nws hNr hr1
    have hr0 : H r = none := (s1.trans s2).free hr1
    have hz3 := s3 _ _ (s2 _ _ e2)
    have nzr : z ≠ r := ne_of_none (s2 _ _ e2) hr1
    walk_at "y"
    refine x_iLAt (SqL.of hz3) (x_loop walk_list (fun i σ H4 => (∃ b, σ = [some (.ref p), some (.int e.c), some (.ref r), some (.bl (if i % 2 = 0 then up else !up)), some (.ref z), b]) ∧ (∀ b o, b ≠ r → H3 b = some o → H4 b = some o) ∧ ∃ ps, H4 r = some (.lst ps) ∧ StepsAt H4 ps (stepTo e.c e.lo (!up) :: zsteps e.c up (zs.take i))) ⟨⟨_, rfl⟩, fun _ _ _ h => h, _, e4, StepsAt.put _ (s3 _ _ e3) .nil⟩ (fun i σ H4 _ ⟨_, s4, _⟩ => SqL.of (s4 _ _ nzr hz3)) ?_ ?_)
    · rintro i y σ H4 H5 hi ⟨⟨b, rfl⟩, s4, ps, hps, hpp⟩ ⟨rfl, ey⟩
      rw [List.getElem?_map] at ey
      obtain ⟨zi, hzi, rfl⟩ := Option.map_eq_some_iff.mp ey
      have hil : i < zs.length := (List.getElem?_eq_some_iff.mp hzi).1
      have tk : zs.take (i + 1) = zs.take i ++ [zi] := by rw [List.take_add_one, hzi]; rfl
      have lps : ps.length = i + 1 := by
        have := pr_len hpp
        rw [this]
        show (zsteps e.c up (zs.take i)).length + 1 = i + 1
        rw [zsteps_len, List.length_take]
        omega
      walk_at "y"
      refine ⟨ty_lst hps, ?_⟩
      walk_at "y"
      refine ⟨e.c, zi, _, rfl, fun t3 H6 ht3 s6 e6 => ?_⟩
      walk_at "y"
      refine x_app (s6 _ _ hps) (sz5' (by omega)) ?_
      walk_at "y"
      refine ⟨?_, fun b o hb eb => by rw [upd_ne hb]; exact s6 _ _ (s4 b o hb eb), _, upd_same, ?_⟩
      · by_cases q : i % 2 = 0
        · rw [if_pos q, if_neg (show ¬ (i + 1) % 2 = 0 by omega)]
          exact ⟨_, rfl⟩
        · rw [if_neg q, if_pos (show (i + 1) % 2 = 0 by omega), Bool.not_not]
          exact ⟨_, rfl⟩
      · rw [tk, zsteps_snoc, List.length_take, Nat.min_eq_left (by omega)]
        refine pr_snoc (hpp.mono2 s6 (s6 _ _ hps)) ⟨t3, rfl, ?_⟩
        rw [upd_ne (ne_of e6 (s6 _ _ hps) (by intro z; cases z))]
        exact e6
    · rintro σ H4 ⟨⟨b, rfl⟩, s4, ps, hps, hpp⟩
      rw [List.length_map, List.take_length] at hpp
      walk_at "y"
      refine k r H4 ps _ hr0 (fun b o eb => s4 b o (ne_of_none eb hr0) (s3 _ _ (s2 _ _ (s1 _ _ eb)))) hps hpp (.inr ⟨h0, g, up, zs, hg, hw, rfl⟩) ?_
      show (zsteps e.c up zs).length + 1 ≤ 20000
      rw [zsteps_len]
      omega
def spSP (K : PySem.W.Frag) : Sp := fun vs H Q _ => ∃ (p : Addr) (c : Int) (l : List Stp), vs = [.ref p, .int c] ∧ PlanAt (CP K) H p l ∧ l.length ≤ 60 ∧ 0 ≤ c ∧ c ≤ 1000000000000000000 ∧ fitsS c l ∧
  ∀ x H' l', H x = none → Same H H' → SimpleOf (effOf c l) l' → PlanAt (CP K) H' x (l' ++ turnL (turning l)) → Q (.ref x) H'
theorem ok_simple_plan (W : Wd K mg) : FnR P w K mg base CX0 6 (ga K "simple_plan") (spSP K) := by
  refine (def_ok W.F_simple_plan sc_simple_plan (fun _ _ _ _ _ _ us hl => match us, hl with | [_, _], _ => rfl) (fun vs H Q E ⟨p, c, l, ev, _⟩ => by rw [ev]; rfl) fun cdv A outer s' H vs Q E hr ⟨p, c, l, ev, hp, h60, c0, c1, hf, k⟩ => ?_).2
  subst ev
  have hex := simple_ex c0 hf h60
  have hgd := fun l' => simple_goodP (l' := l') c0 c1 hf h60
  obtain ⟨eo, ec, et, _⟩ := effOf_ok c0 hf
  refine ⟨_, PSs.nox (pss_cons (ps_expr (pe_callR (ok_validate_house W) (hr.mono (by decide)) W.g_validate_house W.k_validate_house pass0 rfl (pa_cons (pv 0) (pa_cons (pv 1) pa_nil)))) (pss_cons (ps_set (i := 2) sc_simple_plan.nd rfl (Or.inl rfl) (pe_callR (ok_effect_of W) (hr.mono (by decide)) W.g_effect_of W.k_effect_of pass0 rfl (pa_cons (pv 0) (pa_cons (pv 1) pa_nil)))) (pss_cons (ps_set (i := 3) sc_simple_plan.nd rfl (Or.inl rfl) (pe_op op_plus (pe_callR (ok_simple_steps W) (hr.mono (by decide)) W.g_simple_steps W.k_simple_steps pass0 rfl (pa_cons (pv 2) pa_nil)) (pe_ifExp (pt_val (pe_fldK K (pv 2))) (pe_lst (pa_cons (pe_tup (pa_cons (pe_gs W.t_TURN rfl) pa_nil)) pa_nil)) (pe_lst pa_nil)))) (pss_one (ps_ret (pe_mkS W.mk_Plan (ok_Plan_init W) (hr.mono (by decide)) W.g_Plan pass0 rfl (pv 3))))))), ?_⟩
  walk_at "y"
  refine ⟨p, c, l, rfl, hp, h60, c0, c1, hf, fun H1 s1 => ?_⟩
  walk_at "y"
  refine ⟨p, c, l, rfl, hp.mono s1, h60, fun x H2 s2 he => ?_⟩
  walk_at "y"
  refine ⟨x, _, rfl, he, eo, hex, fun r H3 ps l' hr2 s3 hps hpp hsl hll => ?_⟩
  have he3 := he.mono s3
  walk_at "y"
  rw [et]
  have hgd' := hgd l' hsl
  refine x_ifSet (fun v H4 => ∃ q qs, v = .ref q ∧ Same H3 H4 ∧ H4 q = some (.lst qs) ∧ StepsAt H4 qs (turnL (turning l)) ∧ qs.length ≤ 1) (fun ht Q' kQ => ?A) (fun ht Q' kQ => ?B) ?C
  case A =>
    walk_at "y"
    refine ⟨sz rfl, fun t ht3 => ?_⟩; generalize hNt : upd _ t _ = H4; obtain ⟨s4, e4⟩ := nws hNt ht3
    walk_at "y"
    refine ⟨sz rfl, fun q hq => ?_⟩; generalize hNq : upd _ q _ = H5; obtain ⟨s5, e5⟩ := nws hNq hq
    exact kQ _ _ ⟨q, _, rfl, s4.trans s5, e5, by rw [ht]; exact StepsAt.put .turn (s5 _ _ e4) .nil, Nat.le_refl _⟩
  case B =>
    walk_at "y"
    refine ⟨sz rfl, fun q hq => ?_⟩; generalize hNq : upd _ q _ = H5; obtain ⟨s5, e5⟩ := nws hNq hq
    exact kQ _ _ ⟨q, _, rfl, s5, e5, by rw [ht]; exact .nil, Nat.zero_le _⟩
  case C =>
    rintro _ H4 ⟨q, qs, rfl, s4, hq4, hq5, ql⟩
    have lps : ps.length = l'.length := pr_len hpp
    refine n_plusL (s4 _ _ hps) hq4 (sz5 (by omega)) fun t H5 ht s5 e5 => ?_
    walk_at "y"
    refine ⟨t, _, rfl, .inr (SqL.of e5), ?_⟩
    have s05 : Same H H5 := s1.trans (s2.trans (s3.trans (s4.trans s5)))
    refine mk_plan (l := l' ++ turnL (turning l)) (pr_app (hpp.mono (s4.trans s5)) (hq5.mono s5)) hgd' fun x H' hx s6 hP => ?_
    exact k x H' l' (s05.free hx) (s05.trans s6) hsl hP
end
end K13

set_option Elab.async false
set_option linter.all false
set_option autoImplicit false
set_option maxRecDepth 100000
set_option pp.maxSteps 1500
set_option maxHeartbeats 4000000
namespace K13
open PySem PySem.Spec PyProof.Rows L2 He ChH Ch ChM
local macro_rules | `(tactic| walk_at "x1") => `(tactic| first
  | ((with_reducible apply x_var); exact rfl)
  | with_reducible refine x_c ?_
  | with_reducible refine x_op ?_
  | with_reducible refine x_seq ?_
  | with_reducible refine x_asg ?_
  | with_reducible refine x_gname ?_
  | with_reducible refine x_cons ?_
  | with_reducible refine x_nil ?_
  | with_reducible refine x_fld ?_
  | with_reducible refine x_ret ?_
  | with_reducible refine x_ifS ?_
  | with_reducible refine x_test ?_
  | with_reducible refine x_ex ?_
  | with_reducible refine x_call ?_
  | with_reducible refine x_mk ?_
  | with_reducible refine x_meth ?_
  | with_reducible refine x_prop ?_
  | with_reducible refine x_cb ?_
  | with_reducible refine x_tup ?_
  | with_reducible refine x_lst ?_
  | with_reducible refine x_drop ?_
  | with_reducible refine x_for ?_
  | with_reducible refine x_iL ?_
  | with_reducible refine x_iT ?_
  | with_reducible refine x_iE ?_
  | with_reducible refine x_iU ?_
  | with_reducible refine x_iR1 ?_
  | with_reducible refine x_iR2 ?_
  | with_reducible refine x_gcons ?_
  | with_reducible refine x_gnil ?_
  | with_reducible refine x_par ?_
  | with_reducible refine x_lstRg ?_
  | with_reducible refine x_rg1 ?_
  | with_reducible refine x_rg1At ?_
  | with_reducible refine x_par3 ?_
  | with_reducible refine x_bm ?_
  | with_reducible refine x_bm0 ?_
  | with_reducible refine x_gSub ?_
  | with_reducible refine x_lc ?_
  | with_reducible refine x_yes ?_
  | with_reducible refine x_setf ?_
  | with_reducible refine x_next ?_
  | with_reducible refine x_B ?_
  | with_reducible refine x_and ?_
  | with_reducible refine x_or ?_
  | with_reducible refine x_not ?_
  | with_reducible refine x_andV ?_
  | with_reducible refine x_orV ?_
  | with_reducible refine x_notV ?_
  | with_reducible refine x_ifE ?_
  | with_reducible refine x_chain ?_
  | with_reducible refine x_chain3 ?_
  | with_reducible refine x_un ?_
  | with_reducible refine x_isNe ?_
  | with_reducible refine x_notNe ?_
  | with_reducible refine x_starA ?_
  | with_reducible refine x_plusI ?_
  | with_reducible refine x_minus ?_
  | with_reducible refine x_lt ?_
  | with_reducible refine x_le ?_
  | with_reducible refine x_gt ?_
  | with_reducible refine x_ge ?_
  | with_reducible refine x_eqI ?_
  | with_reducible refine x_neI ?_
  | with_reducible refine x_eqS ?_
  | with_reducible refine x_eqB ?_
  | with_reducible refine x_neB ?_
  | with_reducible refine x_int ?_
  | with_reducible refine x_intB ?_
  | with_reducible refine x_max2 ?_
  | with_reducible refine x_min2 ?_
  | with_reducible refine x_max3 ?_
  | with_reducible refine x_abs ?_
  | with_reducible refine x_neg ?_
  | with_reducible refine x_isi_ii ?_
  | with_reducible refine x_isi_ib ?_
  | with_reducible refine x_T ?_
  | with_reducible refine x_nT ?_
  | with_reducible refine x_nF ?_
  | with_reducible refine x_F ?_)
local macro_rules | `(tactic| walk_at "x") => `(tactic| repeat walk_at "x1")

local macro_rules | `(tactic| walk_at "q1") => `(tactic| first
  | walk_at "x1"
  | with_reducible refine x_sl ?_
  | with_reducible refine x_cmeth ?_
  | with_reducible refine x_noPart ?_
  | with_reducible refine x_part ?_
  | with_reducible refine x_partI ?_)
local macro_rules | `(tactic| walk_at "q") => `(tactic| repeat walk_at "q1")

section
variable {P : Program} {w : World} {K : PySem.W.Frag} {mg : Str → Option Value} {base : Heap}
theorem kit2 {K : PySem.W.Frag} {a b c : String} {r q : Bool} (h1 : kitB a b = some r) (h2 : kitB a c = some q) : PySem.W.kitAny K (.type a) [.type b, .type c] = some (r || q) := by
  unfold PySem.W.kitAny PySem.W.kitAny PySem.W.kitAny
  rw [kit_ty h1, kit_ty h2]
  cases r <;> cases q <;> rfl
theorem x_isiT2 {K : PySem.W.Frag} {H : Hp} {Q : VK} {x : V} {tp : Addr} {a b c : String} {r q : Bool} (h : H tp = some (.tup [.ty b, .ty c])) (t : TyX K H x (.type a)) (h1 : kitB a b = some r) (h2 : kitB a c = some q) (k : Q (.bl (r || q)) H) : rIsiT K [x, .ref tp] H Q :=
  ⟨x, tp, _, _, [.type b, .type c], _, rfl, h, .cons (.ty _) (.cons (.ty _) .nil), t, kit2 h1 h2, k⟩
/-- two values that are alike -/
def spAlk (R : Hp → V → V → Prop) : Sp := fun vs H Q _ => ∃ a b : V, vs = [a, b] ∧ R H a b ∧ ∀ H', Same H H' → Q (.bl true) H'
def aPl : Hp → V → V → Prop := fun _ a b => a = b ∧ plV a = true
/-- the same sort of row, of alike items -/
def aSq (R : Hp → V → V → Prop) : Hp → V → V → Prop := fun H a b => ∃ (p q : Addr) (xs ys : List V), a = .ref p ∧ b = .ref q ∧ ((H p = some (.lst xs) ∧ H q = some (.lst ys)) ∨ (H p = some (.tup xs) ∧ H q = some (.tup ys))) ∧ xs.length = ys.length ∧ xs.length ≤ 10000 ∧ ∀ (i : Nat) (x y : V), xs[i]? = some x → ys[i]? = some y → R H x y
def aOr (R S : Hp → V → V → Prop) : Hp → V → V → Prop := fun H a b => R H a b ∨ S H a b
def Mono (R : Hp → V → V → Prop) : Prop := ∀ H H' a b, Same H H' → R H a b → R H' a b
theorem mono_pl : Mono aPl := fun _ _ _ _ _ h => h
theorem mono_sq {R : Hp → V → V → Prop} (m : Mono R) : Mono (aSq R) := fun H H' a b s ⟨p, q, xs, ys, e1, e2, h, h3, h4, h5⟩ => ⟨p, q, xs, ys, e1, e2, h.imp (fun z => ⟨s _ _ z.1, s _ _ z.2⟩) (fun z => ⟨s _ _ z.1, s _ _ z.2⟩), h3, h4, fun i x y a b => m H H' x y s (h5 i x y a b)⟩
theorem mono_or {R S : Hp → V → V → Prop} (m : Mono R) (n : Mono S) : Mono (aOr R S) := fun H H' a b s h => h.imp (m H H' a b s) (n H H' a b s)
theorem alk_pl (W : Wd K mg) {k0 : Nat} {sp0 : Sp} (hc : FnR P w K mg base CX0 k0 (ga K "_law_same") sp0) : FnR P w K mg base CX0 (k0 + 3) (ga K "_law_same") (spAlk aPl) := by
  have hk : k0 ≤ k0 + 2 := by omega
  refine (def_ok W.F__law_same sc__law_same (fun _ _ _ _ _ _ us hl => match us, hl with | [_, _], _ => rfl) (fun vs H Q E ⟨a, b, e, _⟩ => by rw [e]; rfl) fun cdv A outer s H vs Q E hr ⟨a, b, e, ⟨e2, hp⟩, k⟩ => ?_).2
  subst e e2
  refine ⟨_, PSs.nox (pss_cons (ps_if (pt_val (pe_callB (c_isiTK K) (by rfl) W.f_isinstance (by decide +kernel) (pa_cons (pv 1) (pa_cons (pe_tup (pa_cons (pe_bltn (v := .ty "tuple") (by rfl) W.f_tuple (by decide +kernel) rfl) (pa_cons (pe_bltn (v := .ty "list") (by rfl) W.f_list (by decide +kernel) rfl) pa_nil))) pa_nil)))) (pss_cons (ps_if (PW.pt (pw_or (pt_not (pt_val (pe_callB (c_isiTK K) (by rfl) W.f_isinstance (by decide +kernel) (pa_cons (pv 0) (pa_cons (pe_tup (pa_cons (pe_bltn (v := .ty "tuple") (by rfl) W.f_tuple (by decide +kernel) rfl) (pa_cons (pe_bltn (v := .ty "list") (by rfl) W.f_list (by decide +kernel) rfl) pa_nil))) pa_nil))))) (pw_or1 (pt_cmpR (op_neK K hr.units) (pe_callB (c_isiK K) (by rfl) W.f_isinstance (by decide +kernel) (pa_cons (pv 0) (pa_cons (pe_bltn (v := .ty "list") (by rfl) W.f_list (by decide +kernel) rfl) pa_nil))) (pe_callB (c_isiK K) (by rfl) W.f_isinstance (by decide +kernel) (pa_cons (pv 1) (pa_cons (pe_bltn (v := .ty "list") (by rfl) W.f_list (by decide +kernel) rfl) pa_nil))) (nomark _))))) (pss_one (ps_ret pe_bl)) pss_nil) (pss_cons (ps_if (pt_cmpR (op_neK K hr.units) (pe_callB (c_lenK K) (by rfl) W.f_len (by decide +kernel) (pa_cons (pv 0) pa_nil)) (pe_callB (c_lenK K) (by rfl) W.f_len (by decide +kernel) (pa_cons (pv 1) pa_nil)) (nomark _)) (pss_one (ps_ret pe_bl)) pss_nil) (pss_one (ps_ret (pe_cmpR (op_eqK K hr.units) (pe_lc (own := [("_law_k", 2)]) (g := gName 2) rfl sc__law_same.nd (pi_range1 (by rfl) W.f_range (pa_cons (pe_callB (c_lenK K) (by rfl) W.f_len (by decide +kernel) (pa_cons (pv 1) pa_nil)) pa_nil)) (blkOk_by (own := [("_law_k", 2)]) (N := N__law_same) (sc := defScope s__law_same) (by decide +kernel)) (fun _ _ _ _ _ => (pg_name (i := 2) sc__law_same.nd rfl (Or.inl rfl))) (fun _ _ _ _ _ => (pts_one (pt_not (pt_val (pe_callR hc (hr.mono hk) W.g__law_same W.k__law_same pass0 rfl (pa_cons (pe_ix (ix_K K) (pv 0) (pv 2) (fun _ _ => rfl)) (pa_cons (pe_ix (ix_K K) (pv 1) (pv 2) (fun _ _ => rfl)) pa_nil))))))) (fun _ _ _ _ _ => (pv 2))) (pe_lst pa_nil) (nomark _)))))) pss_nil) (pss_cons (ps_if (pt_cmpR (op_neK K hr.units) (pe_callB (c_isiK K) (by rfl) W.f_isinstance (by decide +kernel) (pa_cons (pv 0) (pa_cons (pe_bltn (v := .ty "bool") (by rfl) W.f_bool (by decide +kernel) rfl) pa_nil))) (pe_callB (c_isiK K) (by rfl) W.f_isinstance (by decide +kernel) (pa_cons (pv 1) (pa_cons (pe_bltn (v := .ty "bool") (by rfl) W.f_bool (by decide +kernel) rfl) pa_nil))) (nomark _)) (pss_one (ps_ret pe_bl)) pss_nil) (pss_one (ps_ret (pe_and (pe_cmpR (op_eqK K hr.units) (pe_callB (c_isiK K) (by rfl) W.f_isinstance (by decide +kernel) (pa_cons (pv 0) (pa_cons (pe_bltn (v := .ty "int") (by rfl) W.f_int (by decide +kernel) rfl) pa_nil))) (pe_callB (c_isiK K) (by rfl) W.f_isinstance (by decide +kernel) (pa_cons (pv 1) (pa_cons (pe_bltn (v := .ty "int") (by rfl) W.f_int (by decide +kernel) rfl) pa_nil))) (nomark _)) (pe_one (pe_cmpR (op_eqK K hr.units) (pv 0) (pv 1) (nomark _)))))))), ?_⟩
  walk_at "q"
  refine ⟨sz rfl, fun t1 ht1 => ?_⟩; generalize hN1 : upd _ t1 _ = H1; obtain ⟨s1, e1⟩ := nws hN1 ht1
  walk_at "q"
  cases a with
  | non =>
    refine x_isiT2 (r := false) (q := false) e1 (.base .non) (by decide +kernel) (by decide +kernel) ?_
    walk_at "q"
    refine x_F ?_
    walk_at "q"
    refine x_isiB (r := false) (.base .non) (by decide +kernel) ?_
    walk_at "q"
    refine x_isiB (r := false) (.base .non) (by decide +kernel) ?_
    walk_at "q"
    refine x_ifnd (fun hne => absurd rfl hne) fun _ => ?_
    walk_at "q"
    refine x_isiB (r := false) (.base .non) (by decide +kernel) ?_
    walk_at "q"
    refine x_isiB (r := false) (.base .non) (by decide +kernel) ?_
    walk_at "q"
    rw [decide_eq_true rfl]
    walk_at "q"
    refine .inl ⟨rfl, ?_⟩
    rw [decide_eq_true rfl]
    exact k _ s1
  | bl b =>
    refine x_isiT2 (r := false) (q := false) e1 (.base (.bl b)) (by decide +kernel) (by decide +kernel) ?_
    walk_at "q"
    refine x_F ?_
    walk_at "q"
    refine x_isiB (r := true) (.base (.bl b)) (by decide +kernel) ?_
    walk_at "q"
    refine x_isiB (r := true) (.base (.bl b)) (by decide +kernel) ?_
    walk_at "q"
    refine x_ifnd (fun hne => absurd rfl hne) fun _ => ?_
    walk_at "q"
    refine x_isiB (r := true) (.base (.bl b)) (by decide +kernel) ?_
    walk_at "q"
    refine x_isiB (r := true) (.base (.bl b)) (by decide +kernel) ?_
    walk_at "q"
    rw [decide_eq_true rfl]
    walk_at "q"
    rw [decide_eq_true rfl]
    exact k _ s1
  | int i =>
    refine x_isiT2 (r := false) (q := false) e1 (.base (.int i)) (by decide +kernel) (by decide +kernel) ?_
    walk_at "q"
    refine x_F ?_
    walk_at "q"
    refine x_ifnd (fun hne => absurd rfl hne) fun _ => ?_
    walk_at "q"
    rw [decide_eq_true rfl]
    walk_at "q"
    rw [decide_eq_true rfl]
    exact k _ s1
  | str z =>
    refine x_isiT2 (r := false) (q := false) e1 (.base (.str z)) (by decide +kernel) (by decide +kernel) ?_
    walk_at "q"
    refine x_F ?_
    walk_at "q"
    refine x_isiB (r := false) (.base (.str z)) (by decide +kernel) ?_
    walk_at "q"
    refine x_isiB (r := false) (.base (.str z)) (by decide +kernel) ?_
    walk_at "q"
    refine x_ifnd (fun hne => absurd rfl hne) fun _ => ?_
    walk_at "q"
    refine x_isiB (r := false) (.base (.str z)) (by decide +kernel) ?_
    walk_at "q"
    refine x_isiB (r := false) (.base (.str z)) (by decide +kernel) ?_
    walk_at "q"
    rw [decide_eq_true rfl]
    walk_at "q"
    rw [decide_eq_true rfl]
    exact k _ s1
  | _ => exact absurd (show false = true from hp) (by decide)
theorem alk_sq (W : Wd K mg) {R : Hp → V → V → Prop} (m : Mono R) {k0 : Nat} (hc : FnR P w K mg base CX0 k0 (ga K "_law_same") (spAlk R)) : FnR P w K mg base CX0 (k0 + 3) (ga K "_law_same") (spAlk (aSq R)) := by
  have hk : k0 ≤ k0 + 2 := by omega
  refine (def_ok W.F__law_same sc__law_same (fun _ _ _ _ _ _ us hl => match us, hl with | [_, _], _ => rfl) (fun vs H Q E ⟨a, b, e, _⟩ => by rw [e]; rfl) fun cdv A outer s H vs Q E hr ⟨a, b, e, ⟨p, q, xs, ys, e1, e2, hpq, hl, hz, hR⟩, k⟩ => ?_).2
  subst e e1 e2
  refine ⟨_, PSs.nox (pss_cons (ps_if (pt_val (pe_callB (c_isiTK K) (by rfl) W.f_isinstance (by decide +kernel) (pa_cons (pv 1) (pa_cons (pe_tup (pa_cons (pe_bltn (v := .ty "tuple") (by rfl) W.f_tuple (by decide +kernel) rfl) (pa_cons (pe_bltn (v := .ty "list") (by rfl) W.f_list (by decide +kernel) rfl) pa_nil))) pa_nil)))) (pss_cons (ps_if (PW.pt (pw_or (pt_not (pt_val (pe_callB (c_isiTK K) (by rfl) W.f_isinstance (by decide +kernel) (pa_cons (pv 0) (pa_cons (pe_tup (pa_cons (pe_bltn (v := .ty "tuple") (by rfl) W.f_tuple (by decide +kernel) rfl) (pa_cons (pe_bltn (v := .ty "list") (by rfl) W.f_list (by decide +kernel) rfl) pa_nil))) pa_nil))))) (pw_or1 (pt_cmpR (op_neK K hr.units) (pe_callB (c_isiK K) (by rfl) W.f_isinstance (by decide +kernel) (pa_cons (pv 0) (pa_cons (pe_bltn (v := .ty "list") (by rfl) W.f_list (by decide +kernel) rfl) pa_nil))) (pe_callB (c_isiK K) (by rfl) W.f_isinstance (by decide +kernel) (pa_cons (pv 1) (pa_cons (pe_bltn (v := .ty "list") (by rfl) W.f_list (by decide +kernel) rfl) pa_nil))) (nomark _))))) (pss_one (ps_ret pe_bl)) pss_nil) (pss_cons (ps_if (pt_cmpR (op_neK K hr.units) (pe_callB (c_lenK K) (by rfl) W.f_len (by decide +kernel) (pa_cons (pv 0) pa_nil)) (pe_callB (c_lenK K) (by rfl) W.f_len (by decide +kernel) (pa_cons (pv 1) pa_nil)) (nomark _)) (pss_one (ps_ret pe_bl)) pss_nil) (pss_one (ps_ret (pe_cmpR (op_eqK K hr.units) (pe_lc (own := [("_law_k", 2)]) (g := gName 2) rfl sc__law_same.nd (pi_range1 (by rfl) W.f_range (pa_cons (pe_callB (c_lenK K) (by rfl) W.f_len (by decide +kernel) (pa_cons (pv 1) pa_nil)) pa_nil)) (blkOk_by (own := [("_law_k", 2)]) (N := N__law_same) (sc := defScope s__law_same) (by decide +kernel)) (fun _ _ _ _ _ => (pg_name (i := 2) sc__law_same.nd rfl (Or.inl rfl))) (fun _ _ _ _ _ => (pts_one (pt_not (pt_val (pe_callR hc (hr.mono hk) W.g__law_same W.k__law_same pass0 rfl (pa_cons (pe_ix (ix_K K) (pv 0) (pv 2) (fun _ _ => rfl)) (pa_cons (pe_ix (ix_K K) (pv 1) (pv 2) (fun _ _ => rfl)) pa_nil))))))) (fun _ _ _ _ _ => (pv 2))) (pe_lst pa_nil) (nomark _)))))) pss_nil) (pss_cons (ps_if (pt_cmpR (op_neK K hr.units) (pe_callB (c_isiK K) (by rfl) W.f_isinstance (by decide +kernel) (pa_cons (pv 0) (pa_cons (pe_bltn (v := .ty "bool") (by rfl) W.f_bool (by decide +kernel) rfl) pa_nil))) (pe_callB (c_isiK K) (by rfl) W.f_isinstance (by decide +kernel) (pa_cons (pv 1) (pa_cons (pe_bltn (v := .ty "bool") (by rfl) W.f_bool (by decide +kernel) rfl) pa_nil))) (nomark _)) (pss_one (ps_ret pe_bl)) pss_nil) (pss_one (ps_ret (pe_and (pe_cmpR (op_eqK K hr.units) (pe_callB (c_isiK K) (by rfl) W.f_isinstance (by decide +kernel) (pa_cons (pv 0) (pa_cons (pe_bltn (v := .ty "int") (by rfl) W.f_int (by decide +kernel) rfl) pa_nil))) (pe_callB (c_isiK K) (by rfl) W.f_isinstance (by decide +kernel) (pa_cons (pv 1) (pa_cons (pe_bltn (v := .ty "int") (by rfl) W.f_int (by decide +kernel) rfl) pa_nil))) (nomark _)) (pe_one (pe_cmpR (op_eqK K hr.units) (pv 0) (pv 1) (nomark _)))))))), ?_⟩
  walk_at "q"
  refine ⟨sz rfl, fun t1 ht1 => ?_⟩; generalize hN1 : upd _ t1 _ = H1; obtain ⟨s1, e1⟩ := nws hN1 ht1
  rcases hpq with ⟨h1, h2⟩ | ⟨h1, h2⟩
  · walk_at "q"
    refine x_isiT2 (r := false) (q := true) e1 (.base (.lst (s1 _ _ h2))) (by decide +kernel) (by decide +kernel) ?_
    walk_at "q"
    refine x_T ?_
    walk_at "q"
    refine ⟨sz rfl, fun t2 ht2 => ?_⟩; generalize hN2 : upd _ t2 _ = H2; obtain ⟨s2, e2⟩ := nws hN2 ht2
    have s12 := s1.trans s2
    have g1 := s12 _ _ h1
    have g2 := s12 _ _ h2
    walk_at "q"
    refine x_isiT2 (r := false) (q := true) e2 (.base (.lst g1)) (by decide +kernel) (by decide +kernel) ?_
    walk_at "q"
    refine x_F ?_
    walk_at "q"
    refine x_isi_ll g1 ?_
    walk_at "q"
    refine x_isi_ll g2 ?_
    walk_at "q"
    refine x_ifnd (fun hne => absurd rfl hne) fun _ => ?_
    walk_at "q"
    refine x_lenL (SqL.of g1) ?_
    walk_at "q"
    refine x_lenL (SqL.of g2) ?_
    walk_at "q"
    rw [hl]
    refine x_ifnd (fun hne => absurd rfl hne) fun _ => ?_
    walk_at "q"
    refine x_lenL (SqL.of g2) ?_
    walk_at "q"
    refine x_iR1At (by omega) (by omega) ?_
    refine x_lcA walk_range (fun i acc _ => acc = []) (fun _ _ _ _ _ _ _ h => h) (fun _ _ => rfl) (by omega) (fun _ _ => trivial) ?_ ?_
    · rintro i y acc H3 H4 NT NF hT hF hi s3 rfl ⟨rfl, rfl⟩
      have hi' : i < ys.length := by omega
      have hx : xs[i]? = some xs[i] := List.getElem?_eq_getElem (by omega)
      have hy : ys[i]? = some ys[i] := List.getElem?_eq_getElem hi'
      have ax : atI xs ((0 : Int) + (i : Nat)) = some xs[i] := by
        rw [Int.zero_add]
        exact atI_nat hx
      have ay : atI ys ((0 : Int) + (i : Nat)) = some ys[i] := by
        rw [Int.zero_add]
        exact atI_nat hy
      walk_at "q"
      refine ⟨rfl, ?_⟩
      walk_at "q"
      refine x_ixL (SqL.of (s3 _ _ g1)) ax ?_
      walk_at "q"
      refine x_ixL (SqL.of (s3 _ _ g2)) ay ?_
      walk_at "q"
      refine ⟨_, _, rfl, m _ _ _ _ (s12.trans s3) (hR i _ _ hx hy), fun H5 s5 => ?_⟩
      walk_at "q"
      exact hF _ s5 rfl
    rintro D acc H3 hD s3 hD3 rfl hdl
    walk_at "q"
    refine ⟨sz rfl, fun t4 ht4 => ?_⟩; generalize hN4 : upd _ t4 _ = H4; obtain ⟨s4, e4⟩ := nws hN4 ht4
    refine x_eqL (ns := []) (ms := []) (SqL.of (s4 _ _ hD3)) (SqL.of e4) ?_
    exact k _ (s12.trans (s3.trans s4))
  · walk_at "q"
    refine x_isiT2 (r := true) (q := false) e1 (.base (.tup (s1 _ _ h2))) (by decide +kernel) (by decide +kernel) ?_
    walk_at "q"
    refine x_T ?_
    walk_at "q"
    refine ⟨sz rfl, fun t2 ht2 => ?_⟩; generalize hN2 : upd _ t2 _ = H2; obtain ⟨s2, e2⟩ := nws hN2 ht2
    have s12 := s1.trans s2
    have g1 := s12 _ _ h1
    have g2 := s12 _ _ h2
    walk_at "q"
    refine x_isiT2 (r := true) (q := false) e2 (.base (.tup g1)) (by decide +kernel) (by decide +kernel) ?_
    walk_at "q"
    refine x_F ?_
    walk_at "q"
    refine x_isi_tl g1 ?_
    walk_at "q"
    refine x_isi_tl g2 ?_
    walk_at "q"
    refine x_ifnd (fun hne => absurd rfl hne) fun _ => ?_
    walk_at "q"
    refine x_lenT (SqT.of g1) ?_
    walk_at "q"
    refine x_lenT (SqT.of g2) ?_
    walk_at "q"
    rw [hl]
    refine x_ifnd (fun hne => absurd rfl hne) fun _ => ?_
    walk_at "q"
    refine x_lenT (SqT.of g2) ?_
    walk_at "q"
    refine x_iR1At (by omega) (by omega) ?_
    refine x_lcA walk_range (fun i acc _ => acc = []) (fun _ _ _ _ _ _ _ h => h) (fun _ _ => rfl) (by omega) (fun _ _ => trivial) ?_ ?_
    · rintro i y acc H3 H4 NT NF hT hF hi s3 rfl ⟨rfl, rfl⟩
      have hi' : i < ys.length := by omega
      have hx : xs[i]? = some xs[i] := List.getElem?_eq_getElem (by omega)
      have hy : ys[i]? = some ys[i] := List.getElem?_eq_getElem hi'
      have ax : atI xs ((0 : Int) + (i : Nat)) = some xs[i] := by
        rw [Int.zero_add]
        exact atI_nat hx
      have ay : atI ys ((0 : Int) + (i : Nat)) = some ys[i] := by
        rw [Int.zero_add]
        exact atI_nat hy
      walk_at "q"
      refine ⟨rfl, ?_⟩
      walk_at "q"
      refine x_ixT (SqT.of (s3 _ _ g1)) ax ?_
      walk_at "q"
      refine x_ixT (SqT.of (s3 _ _ g2)) ay ?_
      walk_at "q"
      refine ⟨_, _, rfl, m _ _ _ _ (s12.trans s3) (hR i _ _ hx hy), fun H5 s5 => ?_⟩
      walk_at "q"
      exact hF _ s5 rfl
    rintro D acc H3 hD s3 hD3 rfl hdl
    walk_at "q"
    refine ⟨sz rfl, fun t4 ht4 => ?_⟩; generalize hN4 : upd _ t4 _ = H4; obtain ⟨s4, e4⟩ := nws hN4 ht4
    refine x_eqL (ns := []) (ms := []) (SqL.of (s4 _ _ hD3)) (SqL.of e4) ?_
    exact k _ (s12.trans (s3.trans s4))
/-- to begin with -/
theorem fn_never {k0 : Nat} {f : Addr} : FnR P w K mg base CX0 k0 f (fun _ _ _ _ => False) := by
  intros
  intro z
  first | exact False.elim ‹False› | (intros; exact False.elim ‹False›)
theorem fn_or {k0 k1 : Nat} {R S : Hp → V → V → Prop} {f : Addr} (a : FnR P w K mg base CX0 k0 f (spAlk R)) (b : FnR P w K mg base CX0 k1 f (spAlk S)) {k : Nat} (h0 : k0 ≤ k) (h1 : k1 ≤ k) : FnR P w K mg base CX0 k f (spAlk (aOr R S)) := by
  intro A outer s H us vs Q E hr env rv ⟨x, y, e, h, kk⟩
  rcases h with h | h
  · exact a A outer s H us vs Q E (hr.mono h0) env rv ⟨x, y, e, h, kk⟩
  · exact b A outer s H us vs Q E (hr.mono h1) env rv ⟨x, y, e, h, kk⟩
/-- plain values; rows of them; rows of these -/
abbrev A0 : Hp → V → V → Prop := aPl
abbrev A1 : Hp → V → V → Prop := aOr A0 (aSq A0)
abbrev A2 : Hp → V → V → Prop := aOr A1 (aSq A1)
abbrev A3 : Hp → V → V → Prop := aOr A2 (aSq A2)
theorem mono1 : Mono A1 := mono_or mono_pl (mono_sq mono_pl)
theorem mono2 : Mono A2 := mono_or mono1 (mono_sq mono1)
theorem mono3 : Mono A3 := mono_or mono2 (mono_sq mono2)
theorem alk0 (W : Wd K mg) : FnR P w K mg base CX0 3 (ga K "_law_same") (spAlk A0) := alk_pl W (k0 := 0) fn_never
theorem alk1 (W : Wd K mg) : FnR P w K mg base CX0 6 (ga K "_law_same") (spAlk A1) := fn_or (alk0 W) (alk_sq W mono_pl (alk0 W)) (by decide) (by decide)
theorem alk2 (W : Wd K mg) : FnR P w K mg base CX0 9 (ga K "_law_same") (spAlk A2) := fn_or (alk1 W) (alk_sq W mono1 (alk1 W)) (by decide) (by decide)
theorem ok__law_same (W : Wd K mg) : FnR P w K mg base CX0 12 (ga K "_law_same") (spAlk A3) := fn_or (alk2 W) (alk_sq W mono2 (alk2 W)) (by decide) (by decide)
end
end K13

set_option Elab.async false
set_option linter.all false
set_option autoImplicit false
set_option maxRecDepth 100000
set_option pp.maxSteps 1500
set_option maxHeartbeats 4000000
namespace K13
open PySem PySem.Spec PyProof.Rows L2 He ChH Ch ChM
local macro_rules | `(tactic| walk_at "x1") => `(tactic| first
  | ((with_reducible apply x_var); exact rfl)
  | with_reducible refine x_c ?_
  | with_reducible refine x_op ?_
  | with_reducible refine x_seq ?_
  | with_reducible refine x_asg ?_
  | with_reducible refine x_gname ?_
  | with_reducible refine x_cons ?_
  | with_reducible refine x_nil ?_
  | with_reducible refine x_fld ?_
  | with_reducible refine x_ret ?_
  | with_reducible refine x_ifS ?_
  | with_reducible refine x_test ?_
  | with_reducible refine x_ex ?_
  | with_reducible refine x_call ?_
  | with_reducible refine x_mk ?_
  | with_reducible refine x_meth ?_
  | with_reducible refine x_prop ?_
  | with_reducible refine x_cb ?_
  | with_reducible refine x_tup ?_
  | with_reducible refine x_lst ?_
  | with_reducible refine x_drop ?_
  | with_reducible refine x_for ?_
  | with_reducible refine x_iL ?_
  | with_reducible refine x_iT ?_
  | with_reducible refine x_iE ?_
  | with_reducible refine x_iU ?_
  | with_reducible refine x_iR1 ?_
  | with_reducible refine x_iR2 ?_
  | with_reducible refine x_gcons ?_
  | with_reducible refine x_gnil ?_
  | with_reducible refine x_par ?_
  | with_reducible refine x_lstRg ?_
  | with_reducible refine x_rg1 ?_
  | with_reducible refine x_rg1At ?_
  | with_reducible refine x_par3 ?_
  | with_reducible refine x_bm ?_
  | with_reducible refine x_bm0 ?_
  | with_reducible refine x_gSub ?_
  | with_reducible refine x_lc ?_
  | with_reducible refine x_yes ?_
  | with_reducible refine x_setf ?_
  | with_reducible refine x_next ?_
  | with_reducible refine x_B ?_
  | with_reducible refine x_and ?_
  | with_reducible refine x_or ?_
  | with_reducible refine x_not ?_
  | with_reducible refine x_andV ?_
  | with_reducible refine x_orV ?_
  | with_reducible refine x_notV ?_
  | with_reducible refine x_ifE ?_
  | with_reducible refine x_chain ?_
  | with_reducible refine x_chain3 ?_
  | with_reducible refine x_un ?_
  | with_reducible refine x_isNe ?_
  | with_reducible refine x_notNe ?_
  | with_reducible refine x_starA ?_
  | with_reducible refine x_plusI ?_
  | with_reducible refine x_minus ?_
  | with_reducible refine x_lt ?_
  | with_reducible refine x_le ?_
  | with_reducible refine x_gt ?_
  | with_reducible refine x_ge ?_
  | with_reducible refine x_eqI ?_
  | with_reducible refine x_neI ?_
  | with_reducible refine x_eqS ?_
  | with_reducible refine x_eqB ?_
  | with_reducible refine x_neB ?_
  | with_reducible refine x_int ?_
  | with_reducible refine x_intB ?_
  | with_reducible refine x_max2 ?_
  | with_reducible refine x_min2 ?_
  | with_reducible refine x_max3 ?_
  | with_reducible refine x_abs ?_
  | with_reducible refine x_neg ?_
  | with_reducible refine x_isi_ii ?_
  | with_reducible refine x_isi_ib ?_
  | with_reducible refine x_T ?_
  | with_reducible refine x_nT ?_
  | with_reducible refine x_nF ?_
  | with_reducible refine x_F ?_)
local macro_rules | `(tactic| walk_at "x") => `(tactic| repeat walk_at "x1")

local macro_rules | `(tactic| walk_at "q1") => `(tactic| first
  | walk_at "x1"
  | with_reducible refine x_sl ?_
  | with_reducible refine x_cmeth ?_
  | with_reducible refine x_noPart ?_
  | with_reducible refine x_part ?_
  | with_reducible refine x_partI ?_)
local macro_rules | `(tactic| walk_at "q") => `(tactic| repeat walk_at "q1")

/-! ### results of queries, in plain -/
inductive El where
  | pl (v : V)
  | tp (vs : List V)
def ElAt (H : Hp) (v : V) : El → Prop
  | .pl w => v = w ∧ plV w = true
  | .tp vs => ∃ t, v = .ref t ∧ H t = some (.tup vs) ∧ vs.all plV = true ∧ vs.length ≤ 100
def ListAt (H : Hp) (r : Addr) (es : List El) : Prop := ∃ xs, H r = some (.lst xs) ∧ Paired (ElAt H) xs es ∧ xs.length ≤ 10000
theorem ElAt.keep {H H' : Hp} {v : V} {e : El} (k : ∀ b o, (∀ xs, o ≠ .lst xs) → H b = some o → H' b = some o) (h : ElAt H v e) : ElAt H' v e := by
  cases e with
  | pl w => exact h
  | tp vs =>
    obtain ⟨t, e1, e2, e3⟩ := h
    exact ⟨t, e1, k _ _ (fun xs z => nomatch z) e2, e3⟩
theorem pairs_pl {H : Hp} : ∀ {vs : List V}, vs.all plV = true → Paired (ElAt H) vs (vs.map El.pl)
  | [], _ => .nil
  | v :: vs, h => by
    rw [List.all_cons, Bool.and_eq_true] at h
    exact .cons ⟨rfl, h.1⟩ (pairs_pl h.2)
theorem stepV_pl (s : Stp) : (stepV s).all plV = true := by
  cases s with
  | turn => decide +kernel
  | mt b n =>
    have h : plV (.str (roomS b)) = true := by cases b <;> decide +kernel
    show (plV (.str (roomS b)) && (plV (.int n) && true)) = true
    rw [h]
    rfl
theorem pairs_steps {H : Hp} : ∀ {vs : List V} {l : List Stp}, StepsAt H vs l → Paired (ElAt H) vs (l.map fun s => El.tp (stepV s))
  | _, _, .nil => .nil
  | _, _, .cons ⟨p, e1, e2⟩ t => .cons ⟨p, e1, e2, stepV_pl _, by rw [step_len]; split <;> decide⟩ (pairs_steps t)
theorem ints_pl (ns : List Int) : (ns.map V.int).all plV = true := by
  rw [List.all_map]
  exact List.all_eq_true.mpr fun _ _ => rfl
/-- what a query gives -/
def QEs (br : Nat) (c : Int) (l : List Stp) (x : Int) (es : List El) : Prop :=
  (br = 0 ∧ es = ((evF c x l).map V.int).map El.pl) ∨
  (br = 1 ∧ ∃ l', SimpleOf (effOf c l) l' ∧ es = (l' ++ turnL (turning l)).map fun s => El.tp (stepV s)) ∨
  (br = 2 ∧ es = ((List.range 38).map fun i => V.int (cntS c l x (2 + i))).map El.pl) ∨
  (br = 3 ∧ es = [.tp (effT (effOf c l)), .pl (.int (runC (effOf c l) 1000000000 x))]) ∨
  (br = 4 ∧ ∃ b, fewest l ≤ b ∧ b ≤ sparing l ∧ (b = fewest l ∨ sparesC l 7 2 3 (b - 1)) ∧ (b = sparing l ∨ ¬ sparesC l 7 2 3 b) ∧ es = [.tp [.int (halvesV (twoR c l)).1, .int (halvesV (twoR c l)).2], .pl (.int (sparing l)), .pl (.int b)])
theorem best_one {l : List Stp} (hg : ∀ b n, Stp.mt b n ∈ l → 0 ≤ n) {b b' : Int} (h1 : fewest l ≤ b) (h2 : b ≤ sparing l) (h3 : b = fewest l ∨ sparesC l 7 2 3 (b - 1)) (h4 : b = sparing l ∨ ¬ sparesC l 7 2 3 b)
    (k1 : fewest l ≤ b') (k2 : b' ≤ sparing l) (k3 : b' = fewest l ∨ sparesC l 7 2 3 (b' - 1)) (k4 : b' = sparing l ∨ ¬ sparesC l 7 2 3 b') : b = b' := by
  have se : ∀ m, sparesC l 7 2 3 m ↔ 2 * 7 < 6 * savR m l := fun m => by
    unfold sparesC savR
    omega
  have cv : ∀ b, (b = fewest l ∨ sparesC l 7 2 3 (b - 1)) → (b = fewest l ∨ 2 * 7 < 6 * savR (b - 1) l) := fun b h => h.imp id (se _).mp
  have cw : ∀ b, (b = sparing l ∨ ¬ sparesC l 7 2 3 b) → (b = sparing l ∨ 6 * savR b l ≤ 2 * 7) := fun b h => h.imp id fun n => Int.not_lt.mp fun z => n ((se _).mpr z)
  have a1 := best_is hg (pr := 7) (cr := 6) (by decide) (by decide) h1 h2 (cv b h3) (cw b h4) k1
  have a2 := best_is hg (pr := 7) (cr := 6) (by decide) (by decide) k1 k2 (cv b' k3) (cw b' k4) h1
  rcases Int.lt_trichotomy b b' with z | z | z
  · have := a2.2 z
    omega
  · exact z
  · have := a1.2 z
    omega
theorem qes_one {br : Nat} {c x : Int} {l : List Stp} {es es' : List El} (hg : ∀ b n, Stp.mt b n ∈ l → 0 ≤ n) (h : QEs br c l x es) (h' : QEs br c l x es') : es = es' := by
  rcases h with ⟨e, h⟩ | ⟨e, h⟩ | ⟨e, h⟩ | ⟨e, h⟩ | ⟨e, h⟩ <;> rcases h' with ⟨e', h'⟩ | ⟨e', h'⟩ | ⟨e', h'⟩ | ⟨e', h'⟩ | ⟨e', h'⟩ <;> first | (exfalso; omega) | skip
  · rw [h, h']
  · obtain ⟨l1, s1, e1⟩ := h
    obtain ⟨l2, s2, e2⟩ := h'
    rw [e1, e2, simple_one s1 s2]
  · rw [h, h']
  · rw [h, h']
  · obtain ⟨b1, a1, a2, a3, a4, a5⟩ := h
    obtain ⟨b2, c1, c2, c3, c4, c5⟩ := h'
    rw [a5, c5, best_one hg a1 a2 a3 a4 c1 c2 c3 c4]
section
variable {P : Program} {w : World} {K : PySem.W.Frag} {mg : Str → Option Value} {base : Heap}
def spQu (K : PySem.W.Frag) : Sp := fun vs H Q _ => ∃ (p : Addr) (c x : Int) (l : List Stp) (br : Nat), vs = [.ref p, .int c, .int x, .int br] ∧ PlanAt (CP K) H p l ∧ l.length ≤ 60 ∧ 0 < l.length ∧ 0 ≤ c ∧ c ≤ 1000000000000000000 ∧ fitsS c l ∧ 0 ≤ x ∧ x ≤ c ∧ br < 5 ∧
  ∀ r H' es, H r = none → Same H H' → ListAt H' r es → QEs br c l x es → Q (.ref r) H'
theorem ok__law_query (W : Wd K mg) : FnR P w K mg base CX0 13 (ga K "_law_query") (spQu K) := by
  refine (def_ok W.F__law_query sc__law_query (fun _ _ _ _ _ _ us hl => match us, hl with | [_, _, _, _], _ => rfl) (fun vs H Q E ⟨p, c, x, l, br, e, _⟩ => by rw [e]; rfl) fun cdv A outer s H vs Q E hr ⟨p, c, x, l, br, e, hp, h60, l0, c0, c1, hf, x0, x1, hbr, k⟩ => ?_).2
  subst e
  have hg : ∀ b n, Stp.mt b n ∈ l → 0 ≤ n := fun b n hm => (hf b n hm).1
  refine ⟨_, PSs.nox (pss_cons (ps_if (pt_cmpR (op_eqK K hr.units) (pv 3) pe_int (nomark _)) (pss_one (ps_ret (pe_callR (ok_find_evidence W) (hr.mono (by decide)) W.g_find_evidence W.k_find_evidence pass0 rfl (pa_cons (pv 0) (pa_cons (pv 1) (pa_cons (pv 2) pa_nil)))))) pss_nil) (pss_cons (ps_if (pt_cmpR (op_eqK K hr.units) (pv 3) pe_int (nomark _)) (pss_one (ps_ret (pe_callTy (c_listK K) (by rfl) W.f_list (by decide +kernel) (pa_cons (pe_propR W.c_Plan W.p_Plan_steps (ok_Plan_steps W) (hr.mono (by decide)) (pe_callR (ok_simple_plan W) (hr.mono (by decide)) W.g_simple_plan W.k_simple_plan pass0 rfl (pa_cons (pv 0) (pa_cons (pv 1) pa_nil)))) pa_nil)))) pss_nil) (pss_cons (ps_if (pt_cmpR (op_eqK K hr.units) (pv 3) pe_int (nomark _)) (pss_one (ps_ret (G2.pe_lcGen (E := fun _ _ _ => False) (G2.pgen2_call (ps := ["plan", "chairs", "start", "first", "last"]) (okg_carryings W) (hr.mono (by decide)) rfl W.g_carryings W.k_carryings (FunD.bindsN (ps := ["plan", "chairs", "start", "first", "last"]) W.F_carryings (fun _ _ _ _ _ _ us hl => match us, hl with | [_, _, _, _, _], _ => rfl)) .nil (pa_cons (pv 0) (pa_cons (pv 1) (pa_cons (pv 2) (pa_cons pe_int (pa_cons pe_int pa_nil)))))) (fun _ _ _ z => z) (hr.mono (by decide)) rfl (by decide +kernel) rfl (by decide +kernel)))) pss_nil) (pss_cons (ps_if (pt_cmpR (op_eqK K hr.units) (pv 3) pe_int (nomark _)) (pss_one (ps_ret (pe_lst (pa_cons (pe_callR (ok_summary W) (hr.mono (by decide)) W.g_summary W.k_summary pass0 rfl (pa_cons (pv 0) (pa_cons (pv 1) pa_nil))) (pa_cons (pe_callR (ok_total_carried W) (hr.mono (by decide)) W.g_total_carried W.k_total_carried pass0 rfl (pa_cons (pv 0) (pa_cons (pv 1) (pa_cons (pv 2) (pa_cons (pe_op op_powP pe_int pe_int) pa_nil))))) pa_nil))))) pss_nil) (pss_one (ps_ret (pe_lst (pa_cons (pe_callR (ok_long_run W) (hr.mono (by decide)) W.g_long_run W.k_long_run pass0 rfl (pa_cons (pv 0) (pa_cons (pv 1) pa_nil))) (pa_cons (pe_callR (ok_sparing_chairs W) (hr.mono (by decide)) W.g_sparing_chairs W.k_sparing_chairs pass0 rfl (pa_cons (pv 0) pa_nil)) (pa_cons (pe_callR (ok_best_chairs W) (hr.mono (by decide)) W.g_best_chairs W.k_best_chairs pass0 rfl (pa_cons (pv 0) (pa_cons pe_int (pa_cons pe_int (pa_cons pe_int pa_nil))))) pa_nil)))))))))), ?_⟩
  have e9 : (10 : Int) ^ ((9 : Int).toNat) = 1000000000 := by decide
  walk_at "q"
  refine x_ifd (fun h0 => ?_) fun h0 => ?_
  · walk_at "q"
    refine ⟨p, c, x, l, rfl, hp, h60, c0, c1, hf, x0, x1, fun r H1 hr1 s1 e1 => ?_⟩
    have ln : (evF c x l).length ≤ 60 := by
      have := (evN_ne c x (sides 1 l) l.length).1
      unfold evF
      omega
    exact k r H1 _ hr1 s1 ⟨_, e1, pairs_pl (ints_pl _), by rw [List.length_map]; omega⟩ (.inl ⟨by omega, rfl⟩)
  walk_at "q"
  refine x_ifd (fun h1 => ?_) fun h1 => ?_
  · walk_at "q"
    refine ⟨p, c, l, rfl, hp, h60, c0, c1, hf, fun y H1 l' hy1 s1 hs1 p1 => ?_⟩
    obtain ⟨dp, t, vs, g1, g2, g3⟩ := id p1.ex
    refine x_propAt g1 ⟨y, dp, _, _, rfl, g1, rfl, ?_⟩
    walk_at "q"
    refine ⟨t, vs, rfl, .inr (SqT.of g2), fun r hr1 => ?_⟩
    have s2 : Same H1 (upd H1 r (.lst vs)) := Same.new hr1
    have ll := (simple_goodP c0 c1 hf h60 hs1).2
    exact k r _ _ (s1.free hr1) (s1.trans s2) ⟨vs, upd_same, pairs_steps (g3.mono s2), by rw [pr_len g3]; omega⟩ (.inr (.inl ⟨by omega, l', hs1, rfl⟩))
  walk_at "q"
  refine x_ifd (fun h2 => ?_) fun h2 => ?_
  · walk_at "q"
    refine G2.x_listG ?_
    refine G2.x_callG ?_
    walk_at "q"
    refine ⟨p, c, x, 3, 40, l, rfl, hp, h60, l0, hf, x0, x1, c1, by decide, by decide, by decide, by decide, fun H1 s1 r hr1 => ?_⟩
    refine k r _ _ (s1.free hr1) (s1.trans (Same.new hr1)) ⟨_, upd_same, pairs_pl (by rw [List.all_map]; exact List.all_eq_true.mpr fun _ _ => rfl), by rw [List.length_map, List.length_range]; decide⟩ (.inr (.inr (.inl ⟨by omega, rfl⟩)))
  walk_at "q"
  refine x_ifd (fun h3 => ?_) fun h3 => ?_
  · walk_at "q"
    refine ⟨p, c, l, rfl, hp, h60, c0, c1, hf, fun t H1 ht1 s1 e1 => ?_⟩
    walk_at "q"
    refine x_pow ⟨by decide, by decide, by decide⟩ ?_
    rw [e9]
    walk_at "q"
    refine ⟨p, c, x, 1000000000, l, rfl, hp.mono s1, h60, c0, c1, hf, x0, x1, by decide, by decide, fun H2 s2 => ?_⟩
    walk_at "q"
    refine ⟨sz rfl, fun r hr2 => ?_⟩
    have s3 : Same H2 (upd H2 r (.lst [.ref t, .int (runC (effOf c l) (1000000000 : Int).toNat x)])) := Same.new hr2
    have pe : (effT (effOf c l)).all plV = true := by
      unfold effT
      simp only [List.all_cons, List.all_nil, goalV_pl]
      rfl
    exact k r _ [.tp (effT (effOf c l)), .pl (.int (runC (effOf c l) 1000000000 x))] ((s1.trans s2).free hr2) ((s1.trans s2).trans s3) ⟨_, upd_same, .cons ⟨t, rfl, s3 _ _ (s2 _ _ e1), pe, by show 5 ≤ 100; decide⟩ (.cons ⟨rfl, rfl⟩ .nil), by show 2 ≤ 10000; decide⟩ (.inr (.inr (.inr (.inl ⟨by omega, rfl⟩))))
  walk_at "q"
  refine ⟨p, c, l, rfl, hp, h60, c0, c1, hf, fun t H1 ht1 s1 e1 => ?_⟩
  walk_at "q"
  refine ⟨p, l, rfl, hp.mono s1, h60, fun H2 s2 => ?_⟩
  walk_at "q"
  refine ⟨p, l, 7, 2, 3, rfl, (hp.mono s1).mono s2, h60, hg, by decide, by decide, by decide, by decide, by decide, by decide, fun b H3 s3 b0 b1 bl br => ?_⟩
  walk_at "q"
  refine ⟨sz rfl, fun r hr3 => ?_⟩
  have s123 := (s1.trans s2).trans s3
  have s4 : Same H3 (upd H3 r (.lst [.ref t, .int (sparing l), .int b])) := Same.new hr3
  exact k r _ [.tp [.int (halvesV (twoR c l)).1, .int (halvesV (twoR c l)).2], .pl (.int (sparing l)), .pl (.int b)] (s123.free hr3) (s123.trans s4) ⟨_, upd_same, .cons ⟨t, rfl, s4 _ _ (s3 _ _ (s2 _ _ e1)), rfl, by show 2 ≤ 100; decide⟩ (.cons ⟨rfl, rfl⟩ (.cons ⟨rfl, rfl⟩ .nil)), by show 3 ≤ 10000; decide⟩ (.inr (.inr (.inr (.inr ⟨by omega, b, b0, b1, bl, br, rfl⟩))))
end
end K13

set_option Elab.async false
set_option linter.all false
set_option autoImplicit false
set_option maxRecDepth 100000
set_option pp.maxSteps 1500
set_option maxHeartbeats 4000000
namespace K13
open PySem PySem.Spec PyProof.Rows L2 He ChH Ch ChM
local macro_rules | `(tactic| walk_at "x1") => `(tactic| first
  | ((with_reducible apply x_var); exact rfl)
  | with_reducible refine x_c ?_
  | with_reducible refine x_op ?_
  | with_reducible refine x_seq ?_
  | with_reducible refine x_asg ?_
  | with_reducible refine x_gname ?_
  | with_reducible refine x_cons ?_
  | with_reducible refine x_nil ?_
  | with_reducible refine x_fld ?_
  | with_reducible refine x_ret ?_
  | with_reducible refine x_ifS ?_
  | with_reducible refine x_test ?_
  | with_reducible refine x_ex ?_
  | with_reducible refine x_call ?_
  | with_reducible refine x_mk ?_
  | with_reducible refine x_meth ?_
  | with_reducible refine x_prop ?_
  | with_reducible refine x_cb ?_
  | with_reducible refine x_tup ?_
  | with_reducible refine x_lst ?_
  | with_reducible refine x_drop ?_
  | with_reducible refine x_for ?_
  | with_reducible refine x_iL ?_
  | with_reducible refine x_iT ?_
  | with_reducible refine x_iE ?_
  | with_reducible refine x_iU ?_
  | with_reducible refine x_iR1 ?_
  | with_reducible refine x_iR2 ?_
  | with_reducible refine x_gcons ?_
  | with_reducible refine x_gnil ?_
  | with_reducible refine x_par ?_
  | with_reducible refine x_lstRg ?_
  | with_reducible refine x_rg1 ?_
  | with_reducible refine x_rg1At ?_
  | with_reducible refine x_par3 ?_
  | with_reducible refine x_bm ?_
  | with_reducible refine x_bm0 ?_
  | with_reducible refine x_gSub ?_
  | with_reducible refine x_lc ?_
  | with_reducible refine x_yes ?_
  | with_reducible refine x_setf ?_
  | with_reducible refine x_next ?_
  | with_reducible refine x_B ?_
  | with_reducible refine x_and ?_
  | with_reducible refine x_or ?_
  | with_reducible refine x_not ?_
  | with_reducible refine x_andV ?_
  | with_reducible refine x_orV ?_
  | with_reducible refine x_notV ?_
  | with_reducible refine x_ifE ?_
  | with_reducible refine x_chain ?_
  | with_reducible refine x_chain3 ?_
  | with_reducible refine x_un ?_
  | with_reducible refine x_isNe ?_
  | with_reducible refine x_notNe ?_
  | with_reducible refine x_starA ?_
  | with_reducible refine x_plusI ?_
  | with_reducible refine x_minus ?_
  | with_reducible refine x_lt ?_
  | with_reducible refine x_le ?_
  | with_reducible refine x_gt ?_
  | with_reducible refine x_ge ?_
  | with_reducible refine x_eqI ?_
  | with_reducible refine x_neI ?_
  | with_reducible refine x_eqS ?_
  | with_reducible refine x_eqB ?_
  | with_reducible refine x_neB ?_
  | with_reducible refine x_int ?_
  | with_reducible refine x_intB ?_
  | with_reducible refine x_max2 ?_
  | with_reducible refine x_min2 ?_
  | with_reducible refine x_max3 ?_
  | with_reducible refine x_abs ?_
  | with_reducible refine x_neg ?_
  | with_reducible refine x_isi_ii ?_
  | with_reducible refine x_isi_ib ?_
  | with_reducible refine x_T ?_
  | with_reducible refine x_nT ?_
  | with_reducible refine x_nF ?_
  | with_reducible refine x_F ?_)
local macro_rules | `(tactic| walk_at "x") => `(tactic| repeat walk_at "x1")

local macro_rules | `(tactic| walk_at "q1") => `(tactic| first
  | walk_at "x1"
  | with_reducible refine x_sl ?_
  | with_reducible refine x_cmeth ?_
  | with_reducible refine x_noPart ?_
  | with_reducible refine x_part ?_
  | with_reducible refine x_partI ?_)
local macro_rules | `(tactic| walk_at "q") => `(tactic| repeat walk_at "q1")

/-! ### what is kept when one list is written -/
section
variable {H H' : Hp} {D : Addr} {zs : List V}
theorem keepK (hD : H D = some (.lst zs)) (s : SameB D H H') : ∀ b o, (∀ xs, o ≠ .lst xs) → H b = some o → H' b = some o := fun b o n e => s b o (ne_of e hD (n _)) e
theorem ListAt.keepB {r : Addr} {es : List El} (hD : H D = some (.lst zs)) (s : SameB D H H') (n : r ≠ D) (h : ListAt H r es) : ListAt H' r es := by
  obtain ⟨xs, e, p, l⟩ := h
  exact ⟨xs, s _ _ n e, pr_im (fun _ _ z => z.keep (keepK hD s)) p, l⟩
theorem ListAt.same {r : Addr} {es : List El} (s : Same H H') (h : ListAt H r es) : ListAt H' r es := by
  obtain ⟨xs, e, p, l⟩ := h
  exact ⟨xs, s _ _ e, pr_im (fun _ _ z => z.keep fun b o _ e => s b o e) p, l⟩
abbrev Row : Type := List Stp × Int × Int
def okRow (t : Row) : Prop := t.1.length ≤ 60 ∧ 0 < t.1.length ∧ 0 ≤ t.2.1 ∧ t.2.1 ≤ 100 ∧ fitsS t.2.1 t.1 ∧ 0 ≤ t.2.2 ∧ t.2.2 ≤ t.2.1
def RowOk (K : PySem.W.Frag) (H : Hp) (v : V) (t : Row) : Prop := ∃ q p, v = .ref q ∧ H q = some (.tup [.ref p, .int t.2.1, .int t.2.2]) ∧ PlanAt (CP K) H p t.1 ∧ okRow t
theorem plan_keep {C p : Addr} {l : List Stp} (k : ∀ b o, (∀ xs, o ≠ .lst xs) → H b = some o → H' b = some o) (h : PlanAt C H p l) : PlanAt C H' p l := by
  obtain ⟨dx, t, vs, h1, h2, h3⟩ := h.ex
  exact ⟨dx, t, vs, k _ _ (fun xs z => nomatch z) h1, k _ _ (fun xs z => nomatch z) h2, pr_im (fun _ _ ⟨p, e1, e2⟩ => ⟨p, e1, k _ _ (fun xs z => nomatch z) e2⟩) h3⟩
theorem tup_keep {a : Addr} {xs : List V} (k : ∀ b o, (∀ xs, o ≠ .lst xs) → H b = some o → H' b = some o) (h : H a = some (.tup xs)) : H' a = some (.tup xs) := k _ _ (fun xs z => nomatch z) h
theorem RowOk.keep {K : PySem.W.Frag} {v : V} {t : Row} (k : ∀ b o, (∀ xs, o ≠ .lst xs) → H b = some o → H' b = some o) (h : RowOk K H v t) : RowOk K H' v t := by
  obtain ⟨q, p, e1, e2, e3, e4⟩ := h
  exact ⟨q, p, e1, k _ _ (fun xs z => nomatch z) e2, plan_keep k e3, e4⟩
/-- what was expected of a row; none of its lists is one of S -/
def ExpOk (S : List Addr) (H : Hp) (v : V) (t : Row) : Prop := ∃ p ys, v = .ref p ∧ p ∉ S ∧ H p = some (.lst ys) ∧ ∀ br : Nat, br < 5 → ∃ r es, ys[br]? = some (.ref r) ∧ r ∉ S ∧ ListAt H r es ∧ QEs br t.2.1 t.1 t.2.2 es
theorem ExpOk.keepB {S : List Addr} {v : V} {t : Row} (hD : H D = some (.lst zs)) (s : SameB D H H') (m : D ∈ S) (h : ExpOk S H v t) : ExpOk S H' v t := by
  obtain ⟨p, ys, e1, e2, e3, e4⟩ := h
  refine ⟨p, ys, e1, e2, s _ _ (fun z => e2 (z ▸ m)) e3, fun br hb => ?_⟩
  obtain ⟨r, es, f1, f2, f3, f4⟩ := e4 br hb
  exact ⟨r, es, f1, f2, f3.keepB hD s fun z => f2 (z ▸ m), f4⟩
theorem ExpOk.same {S : List Addr} {v : V} {t : Row} (s : Same H H') (h : ExpOk S H v t) : ExpOk S H' v t := by
  obtain ⟨p, ys, e1, e2, e3, e4⟩ := h
  refine ⟨p, ys, e1, e2, s _ _ e3, fun br hb => ?_⟩
  obtain ⟨r, es, f1, f2, f3, f4⟩ := e4 br hb
  exact ⟨r, es, f1, f2, f3.same s, f4⟩
theorem ExpOk.less {S S' : List Addr} {v : V} {t : Row} (m : ∀ a ∈ S', a ∈ S) (h : ExpOk S H v t) : ExpOk S' H v t := by
  obtain ⟨p, ys, e1, e2, e3, e4⟩ := h
  refine ⟨p, ys, e1, fun z => e2 (m _ z), e3, fun br hb => ?_⟩
  obtain ⟨r, es, f1, f2, f3, f4⟩ := e4 br hb
  exact ⟨r, es, f1, fun z => f2 (m _ z), f3, f4⟩
/-- two such lists are alike -/
theorem alike_el {x y : V} {e : El} (h : ElAt H x e) (h' : ElAt H y e) : A1 H x y := by
  cases e with
  | pl w =>
    obtain ⟨rfl, p⟩ := h
    obtain ⟨rfl, _⟩ := h'
    exact .inl ⟨rfl, p⟩
  | tp vs =>
    obtain ⟨p, rfl, e1, e2, e3⟩ := h
    obtain ⟨q, rfl, f1, _, _⟩ := h'
    refine .inr ⟨p, q, vs, vs, rfl, rfl, .inr ⟨e1, f1⟩, rfl, by omega, fun i x y a b => ?_⟩
    rw [a] at b
    cases b
    exact ⟨rfl, List.all_eq_true.mp e2 _ (List.mem_of_getElem? a)⟩
theorem alike_list {p q : Addr} {es : List El} (h : ListAt H p es) (h' : ListAt H q es) : A3 H (.ref p) (.ref q) := by
  obtain ⟨xs, e1, p1, l1⟩ := h
  obtain ⟨ys, e2, p2, _⟩ := h'
  refine .inl (.inr ⟨p, q, xs, ys, rfl, rfl, .inl ⟨e1, e2⟩, (pr_len p1).trans (pr_len p2).symm, l1, fun i x y a b => ?_⟩)
  obtain ⟨e, he, r1⟩ := pr_at p1 a
  obtain ⟨e', he', r2⟩ := pr_at p2 b
  rw [he] at he'
  cases he'
  exact alike_el r1 r2
end
theorem firstD_same {c : Int} {e f : Eff} {o o' : Option Int} (h : FirstD c e f o) (h' : FirstD c e f o') : o' = o := by
  refine firstD_one h ?_
  cases o' with
  | none => exact fun y y0 y1 z => h' y y0 y1 (difE_comm.mp z)
  | some x =>
    obtain ⟨a, b, d, g⟩ := h'
    exact ⟨a, b, difE_comm.mp d, fun y y0 y1 z => g y y0 y1 (difE_comm.mp z)⟩
theorem fits_more {c d : Int} {l : List Stp} (h : fitsS c l) (cd : c ≤ d) : fitsS d l := fun b n hm => by
  have := h b n hm
  omega
section
variable {P : Program} {w : World} {K : PySem.W.Frag} {mg : Str → Option Value} {base : Heap}
abbrev lawLv : Nat := 15
def spLaw (K : PySem.W.Frag) : Sp := fun vs H Q _ => ∃ (a : Addr) (ns : List Int), vs = [.ref a] ∧ SqL K H a (ns.map V.int) ∧ ∀ H', Q (.bl true) H'
theorem ok_law (W : Wd K mg) : FnOk P w K mg base CX0 lawLv (ga K "law") (fdOf K (ga K "law")) ["_law_script"] (spLaw K) := by
  refine (def_ok W.F_law sc_law (fun _ _ _ _ _ _ us hl => match us, hl with | [_], _ => rfl) (fun vs H Q E ⟨a, ns, ev, _⟩ => by rw [ev]; rfl) fun cdv A outer s H vs Q E hr ⟨a, ns, ev, hs, k⟩ => ?_).1
  subst ev
  refine ⟨_, PSs.nox (pss_cons (ps_set (i := 1) sc_law.nd rfl (Or.inl rfl) (pe_callR (ok__law_start W) (hr.mono (by decide)) W.g__law_start W.k__law_start pass0 rfl (pa_cons (pv 0) pa_nil))) (pss_cons (ps_set (i := 2) sc_law.nd rfl (Or.inl rfl) (pe_lst pa_nil)) (pss_cons (ps_for PassesOwn.never rfl (pi_range1 (by rfl) W.f_range (pa_cons pe_int pa_nil)) (pg_name (i := 3) sc_law.nd rfl (Or.inl rfl)) (pss_cons (ps_set (i := 4) sc_law.nd rfl (Or.inl rfl) (pe_op op_plus pe_int (pe_callR (ok__law_drawn W) (hr.mono (by decide)) W.g__law_drawn W.k__law_drawn pass0 rfl (pa_cons (pv 1) (pa_cons pe_int pa_nil))))) (pss_cons (ps_set (i := 5) sc_law.nd rfl (Or.inl rfl) (pe_op op_plus (pe_callR (ok__law_random_steps W) (hr.mono (by decide)) W.g__law_random_steps W.k__law_random_steps pass0 rfl (pa_cons (pv 1) (pa_cons pe_int (pa_cons (pv 4) pa_nil)))) (pe_lst (pa_cons (pe_tup (pa_cons pe_str (pa_cons (pv 4) pa_nil))) pa_nil)))) (pss_one (ps_expr (pe_bmK K PySem.F.plainAttrs_list PySem.F.slot_list_append PySem.F.type_list_append mt_append (pv 2) (pa_cons (pe_tup (pa_cons (pe_callR (ok__law_plan W) (hr.mono (by decide)) W.g__law_plan W.k__law_plan pass0 rfl (pa_cons (pv 5) pa_nil)) (pa_cons (pv 4) (pa_cons (pe_callR (ok__law_drawn W) (hr.mono (by decide)) W.g__law_drawn W.k__law_drawn pass0 rfl (pa_cons (pv 1) (pa_cons (pe_op op_plus (pv 4) pe_int) pa_nil))) pa_nil)))) pa_nil))))))) (pss_cons (ps_setLc (i := 7) (own := [("_law_row", 11)]) (g := gName 11) (tt := tYes) rfl sc_law.nd rfl rfl (sw_true rfl rfl rfl (by decide +kernel)) (pi_listK K (pv 2)) (blkOk_by (own := [("_law_row", 11)]) (N := N_law) (sc := defScope s_law) (by decide +kernel)) (fun _ _ _ _ _ => (pg_name (i := 11) sc_law.nd rfl (Or.inr rfl))) (fun _ _ _ _ _ => pts_nil) (fun _ _ _ _ _ => (pe_lc (own := [("_law_branch", 6)]) (g := gName 6) (tt := tYes) rfl sc_law.nd (pi_range1 (by rfl) W.f_range (pa_cons pe_int pa_nil)) (blkOk_by (own := [("_law_branch", 6)]) (N := N_law) (sc := { kind := .function, names := [(".0", .local), ("_law_row", .cell), ("range", .globalImplicit)], isGenerator := false, isCoroutine := false }) (by decide +kernel)) (fun _ _ _ _ _ => (pg_name (i := 6) sc_law.nd rfl (Or.inl rfl))) (fun _ _ _ _ _ => pts_nil) (fun _ _ _ _ _ => (pe_callTy (c_listK K) (by rfl) W.f_list (by decide +kernel) (pa_cons (pe_callR (ok__law_query W) (hr.mono (by decide)) W.g__law_query W.k__law_query pass0 rfl (pa_cons (pe_ix (ix_K K) (pv 11) pe_int (fun _ _ => rfl)) (pa_cons (pe_ix (ix_K K) (pv 11) pe_int (fun _ _ => rfl)) (pa_cons (pe_ix (ix_K K) (pv 11) pe_int (fun _ _ => rfl)) (pa_cons (pv 6) pa_nil))))) pa_nil)))))) (pss_cons (ps_set (i := 4) sc_law.nd rfl (Or.inl rfl) (pe_callB (c_max2 rfl) (by rfl) W.f_max (by decide +kernel) (pa_cons (pe_ix (ix_K K) (pe_ix (ix_K K) (pv 2) pe_int (fun _ _ => rfl)) pe_int (fun _ _ => rfl)) (pa_cons (pe_ix (ix_K K) (pe_ix (ix_K K) (pv 2) pe_int (fun _ _ => rfl)) pe_int (fun _ _ => rfl)) pa_nil)))) (pss_cons (ps_set (i := 8) sc_law.nd rfl (Or.inl rfl) (pe_callR (ok_first_difference W) (hr.mono (by decide)) W.g_first_difference W.k_first_difference pass0 rfl (pa_cons (pe_ix (ix_K K) (pe_ix (ix_K K) (pv 2) pe_int (fun _ _ => rfl)) pe_int (fun _ _ => rfl)) (pa_cons (pe_ix (ix_K K) (pe_ix (ix_K K) (pv 2) pe_int (fun _ _ => rfl)) pe_int (fun _ _ => rfl)) (pa_cons (pv 4) pa_nil))))) (pss_cons (ps_for PassesOwn.never rfl (pi_range1 (by rfl) W.f_range (pa_cons (pe_op op_plus pe_int (pe_callR (ok__law_drawn W) (hr.mono (by decide)) W.g__law_drawn W.k__law_drawn pass0 rfl (pa_cons (pv 1) (pa_cons pe_int pa_nil)))) pa_nil)) (pg_name (i := 9) sc_law.nd rfl (Or.inl rfl)) (pss_cons (ps_par (i := 3) (j := 6) (by rfl) sc_law.nd rfl rfl (by decide) rfl rfl (pa_cons (pe_callR (ok__law_drawn W) (hr.mono (by decide)) W.g__law_drawn W.k__law_drawn pass0 rfl (pa_cons (pv 1) (pa_cons pe_int pa_nil))) (pa_cons (pe_callR (ok__law_drawn W) (hr.mono (by decide)) W.g__law_drawn W.k__law_drawn pass0 rfl (pa_cons (pv 1) (pa_cons pe_int pa_nil))) pa_nil)) (by rfl)) (pss_cons (ps_set (i := 10) sc_law.nd rfl (Or.inl rfl) (pe_callR (ok__law_query W) (hr.mono (by decide)) W.g__law_query W.k__law_query pass0 rfl (pa_cons (pe_ix (ix_K K) (pe_ix (ix_K K) (pv 2) (pv 3) (fun _ _ => rfl)) pe_int (fun _ _ => rfl)) (pa_cons (pe_ix (ix_K K) (pe_ix (ix_K K) (pv 2) (pv 3) (fun _ _ => rfl)) pe_int (fun _ _ => rfl)) (pa_cons (pe_ix (ix_K K) (pe_ix (ix_K K) (pv 2) (pv 3) (fun _ _ => rfl)) pe_int (fun _ _ => rfl)) (pa_cons (pv 6) pa_nil)))))) (pss_cons (ps_if (pt_not (pt_val (pe_callR (ok__law_same W) (hr.mono (by decide)) W.g__law_same W.k__law_same pass0 rfl (pa_cons (pv 10) (pa_cons (pe_ix (ix_K K) (pe_ix (ix_K K) (pv 7) (pv 3) (fun _ _ => rfl)) (pv 6) (fun _ _ => rfl)) pa_nil))))) (pss_one (ps_ret pe_bl)) pss_nil) (pss_cons (ps_expr (pe_bmK K PySem.F.plainAttrs_list PySem.F.slot_list_append PySem.F.type_list_append mt_append (pv 10) (pa_cons pe_int pa_nil))) (pss_cons (ps_expr (pe_bm0K K PySem.F.plainAttrs_list PySem.F.slot_list_reverse PySem.F.type_list_reverse mt_reverse (pv 10))) (pss_one (ps_if (pt_cmpR (op_neK K hr.units) (pe_callR (ok_first_difference W) (hr.mono (by decide)) W.g_first_difference W.k_first_difference pass0 rfl (pa_cons (pe_ix (ix_K K) (pe_ix (ix_K K) (pv 2) pe_int (fun _ _ => rfl)) pe_int (fun _ _ => rfl)) (pa_cons (pe_ix (ix_K K) (pe_ix (ix_K K) (pv 2) pe_int (fun _ _ => rfl)) pe_int (fun _ _ => rfl)) (pa_cons (pv 4) pa_nil)))) (pv 8) (nomark _)) (pss_one (ps_ret pe_bl)) pss_nil)))))))) (pss_one (ps_ret pe_bl))))))))), ?_⟩
  walk_at "q"
  refine ⟨a, ns, rfl, hs, fun st H0 hst s0 S0 => ?_⟩
  walk_at "q"
  refine ⟨sz rfl, fun R hR => ?_⟩; generalize hN1 : upd _ R _ = H1; obtain ⟨s1, e1⟩ := nws hN1 hR
  have nR : R ≠ st := S0.neN hR
  walk_at "q"
  refine x_iR1At (by decide) (by decide) ?_
  refine x_loop walk_range (fun i σ H2 => StAt K H2 st a ns ∧ SameB st H0 H2 ∧ (∃ rv ts, H2 R = some (.lst rv) ∧ Paired (RowOk K H2) rv ts ∧ rv.length = i) ∧ ∃ v3 v4 v5, σ = [some (.ref a), some (.ref st), some (.ref R), v3, v4, v5, none, none, none, none, none, none]) ⟨S0.mono s1, .of s1, ⟨[], [], e1, .nil, rfl⟩, _, _, _, rfl⟩ (fun _ _ _ _ _ => trivial) ?_ ?_
  · rintro i y σ H3 H2 hi ⟨S2, b2, ⟨rv, ts, hrv, hpr, hrl⟩, v3, v4, v5, rfl⟩ ⟨rfl, rfl⟩
    have hi2 : i < 2 := by omega
    walk_at "q"
    refine ⟨st, a, ns, 30, rfl, S2, by decide, by decide, fun z3 H3 z30 z31 s3 S3 => ?_⟩
    walk_at "q"
    refine ⟨st, a, ns, 8, 1 + z3, rfl, S3, by decide, by decide, by omega, by omega, fun r4 H4 ps l0 hr4 s4 S4 hrst hps hpl hll hfl => ?_⟩
    walk_at "q"
    refine ⟨sz rfl, fun t5 ht5 => ?_⟩; generalize hN5 : upd _ t5 _ = H5; obtain ⟨s5, e5⟩ := nws hN5 ht5
    walk_at "q"
    refine ⟨sz rfl, fun t6 ht6 => ?_⟩; generalize hN6 : upd _ t6 _ = H6; obtain ⟨s6, e6⟩ := nws hN6 ht6
    have lps : ps.length = l0.length := pr_len hpl
    have s46 := s5.trans s6
    refine n_plusL (s46 _ _ hps) e6 (sz5 (by show _ + 1 ≤ _; omega)) fun r7 H7 hr7 s7 e7 => ?_
    have hpl7 : StepsAt H7 (ps ++ [.ref t5]) (l0 ++ [.mt true (1 + z3)]) := pr_app (hpl.mono (s46.trans s7)) (.cons ⟨t5, rfl, s7 _ _ (s6 _ _ e5)⟩ .nil)
    have hfl7 : fitsS (1 + z3) (l0 ++ [.mt true (1 + z3)]) := fits_app hfl fun b n hm => by
      cases List.mem_singleton.mp hm
      omega
    have hln : (l0 ++ [Stp.mt true (1 + z3)]).length = l0.length + 1 := by rw [List.length_append]; rfl
    generalize hL : l0 ++ [Stp.mt true (1 + z3)] = l at hpl7 hfl7 hln
    generalize ps ++ [V.ref t5] = qs at e7 hpl7
    have S7 : StAt K H7 st a ns := (S4.mono s46).mono s7
    have b27 : SameB st H2 H7 := s3.trans (s4.trans (.of (s46.trans s7)))
    walk_at "q"
    have gd : goodP l := ⟨fun s hs b n e => by
      subst e
      have := hfl7 b n hs
      omega, by omega⟩
    have hrv7 := b27 _ _ nR hrv
    refine ⟨ty_lst hrv7, ?_⟩
    walk_at "q"
    refine ⟨r7, qs, l, rfl, e7, hpl7, gd, fun x H8 hx8 s8 P8 => ?_⟩
    have S8 := S7.mono s8
    walk_at "q"
    refine ⟨st, a, ns, 1 + z3 + 1, rfl, S8, by omega, by omega, fun x0 H9 x00 x01 s9 S9 => ?_⟩
    have P9 := PlanAt.monoB S8 s9 P8
    walk_at "q"
    refine ⟨sz rfl, fun t10 ht10 => ?_⟩; generalize hN10 : upd _ t10 _ = H10; obtain ⟨s10, e10⟩ := nws hN10 ht10
    have S10 := S9.mono s10
    have b2A : SameB st H2 H10 := (b27.trans (.of s8)).trans (s9.trans (.of s10))
    have hrv10 := b2A _ _ nR hrv
    walk_at "q"
    refine x_app hrv10 (sz5' (by omega)) ?_
    obtain ⟨S11, b11⟩ := StAt.putD (o := .lst (rv ++ [.ref t10])) S0 S10 hR (b2.trans b2A)
    obtain ⟨zs, hzs⟩ : ∃ zs, H2 st = some (.lst zs) := let ⟨_, _, _, h, _⟩ := S2.lst; ⟨_, h⟩
    have kp : ∀ b o, (∀ xs, o ≠ .lst xs) → H10 b = some o → (upd H10 R (.lst (rv ++ [.ref t10]))) b = some o := keepK hrv10 (fun b o n e => by rw [upd_ne n]; exact e)
    walk_at "q"
    refine ⟨S11, b11, ⟨_, ts ++ [(l, 1 + z3, x0)], upd_same, ?_, by rw [List.length_append, hrl]; rfl⟩, _, _, _, rfl⟩
    refine pr_snoc (pr_im (fun _ _ z => (z.keep (keepK hzs b2A)).keep kp) hpr) ⟨t10, x, rfl, kp _ _ (fun xs z => nomatch z) e10, plan_keep kp (P9.mono s10), ?_⟩
    exact ⟨by show l.length ≤ 60; omega, by show 0 < l.length; omega, by show 0 ≤ 1 + z3; omega, by show 1 + z3 ≤ 100; omega, hfl7, x00, by show x0 ≤ 1 + z3; omega⟩
  rintro σ H2 ⟨S2, b2, ⟨rv, ts, hrv, hpr, hrl⟩, v3, v4, v5, rfl⟩
  have ltl : ts.length = 2 := by rw [← pr_len hpr, hrl]; rfl
  obtain ⟨w0, w1, rfl⟩ : ∃ w0 w1, rv = [w0, w1] := by
    match rv, hrl with
    | [w0, w1], _ => exact ⟨w0, w1, rfl⟩
  obtain ⟨t0, t1, rfl⟩ : ∃ t0 t1, ts = [t0, t1] := by
    match ts, ltl with
    | [t0, t1], _ => exact ⟨t0, t1, rfl⟩
  have hpr0 : RowOk K H2 w0 t0 := by cases hpr with | cons a _ => exact a
  have hpr1 : RowOk K H2 w1 t1 := by cases hpr with | cons _ b => cases b with | cons b _ => exact b
  clear hpr
  walk_at "q"
  refine x_iLAt (SqL.of hrv) ?_
  refine x_lcG walk_list (fun D1 i H3 => Same H2 H3 ∧ ∃ ys, H3 D1 = some (.lst ys) ∧ ys.length = i ∧ ∀ j y t, j < i → ys[j]? = some y → [t0, t1][j]? = some t → ExpOk [st, D1] H3 y t) (fun D hD => ⟨Same.new hD, [], upd_same, rfl, fun j y t hj => absurd hj (Nat.not_lt_zero _)⟩) (fun D j H9 _ ⟨s9, _⟩ => SqL.of (s9 _ _ hrv)) ?_ ?_
  · rintro D1 j y H3 H4 hD1 hj ⟨s4, ys, hys, hyl, hye⟩ ⟨rfl, ey⟩
    have hj2 : j < 2 := hj
    obtain ⟨t, ht, hrow⟩ : ∃ t, [t0, t1][j]? = some t ∧ RowOk K H2 y t := by
      match j, ey with
      | 0, ey => cases ey; exact ⟨t0, rfl, hpr0⟩
      | 1, ey => cases ey; exact ⟨t1, rfl, hpr1⟩
    obtain ⟨q, p, rfl, hq, hp, ok1, ok2, ok3, ok4, ok5, ok6, ok7⟩ := hrow
    obtain ⟨l, c, x⟩ := t
    dsimp only at hq hp ok1 ok2 ok3 ok4 ok5 ok6 ok7
    walk_at "q"
    refine ⟨rfl, ?_⟩
    walk_at "q"
    refine x_iR1At (by decide) (by decide) ?_
    refine x_lcG walk_range (fun D2 i H5 => Same H4 H5 ∧ ∃ zs, H5 D2 = some (.lst zs) ∧ zs.length = i ∧ ∀ br : Nat, br < i → ∃ r es, zs[br]? = some (.ref r) ∧ r ∉ [st, D1, D2] ∧ ListAt H5 r es ∧ QEs br c l x es) (fun D hD => ⟨Same.new hD, [], upd_same, rfl, fun j hj => absurd hj (Nat.not_lt_zero _)⟩) (fun _ _ _ _ _ => trivial) ?_ ?_
    · rintro D2 i y5 H5 H6 hD2 hi ⟨s6, zs, hzs, hzl, hze⟩ ⟨rfl, rfl⟩
      have hi5 : i < 5 := by omega
      have s26 := s4.trans s6
      have hq6 := s26 _ _ hq
      walk_at "q"
      refine ⟨rfl, ?_⟩
      walk_at "q"
      refine x_ixT (SqT.of hq6) (i := 0) rfl ?_
      walk_at "q"
      refine x_ixT (SqT.of hq6) (i := 1) rfl ?_
      walk_at "q"
      refine x_ixT (SqT.of hq6) (i := 2) rfl ?_
      walk_at "q"
      refine ⟨p, c, x, l, i, congrArg (fun z => [V.ref p, V.int c, V.int x, V.int z]) (Int.zero_add _), hp.mono s26, ok1, ok2, ok3, by omega, ok5, ok6, ok7, hi5, fun r7 H7 es hr7 s7 hl7 hq7 => ?_⟩
      walk_at "q"
      obtain ⟨xs, hx, hxp, hxl⟩ := hl7
      refine ⟨r7, xs, rfl, .inl (SqL.of hx), fun r8 hr8 => ?_⟩
      generalize hN8 : upd _ r8 _ = H8; obtain ⟨s8, e8⟩ := nws hN8 hr8
      have s68 := s7.trans s8
      have hD28 := s68 _ _ hzs
      have hys8 := s68 _ _ (s6 _ _ hys)
      have nr8 : r8 ∉ [st, D1, D2] := by
        have n0 : r8 ≠ st := (S2.mono (s26.trans s7)).neN hr8
        have n1 : D1 ≠ r8 := ne_of_none (s7 _ _ (s6 _ _ hys)) hr8
        have n2 : D2 ≠ r8 := ne_of_none (s7 _ _ hzs) hr8
        intro z
        rcases List.mem_cons.mp z with z | z
        · exact n0 z
        rcases List.mem_cons.mp z with z | z
        · exact n1 z.symm
        · exact n2 (List.mem_singleton.mp z).symm
      have la8 : ListAt H8 r8 es := ⟨xs, e8, pr_im (fun _ _ z => z.keep fun b o _ e => s8 b o e) hxp, hxl⟩
      have sbD : SameB D2 H8 (upd H8 D2 (.lst (zs ++ [.ref r8]))) := SameB.upd
      refine ⟨zs, hD28, sz5' (by omega), Same.mut (s6.trans s68) hD2, _, upd_same, by rw [List.length_append, hzl]; rfl, fun br hb => ?_⟩
      have nD : ∀ r, r ∉ [st, D1, D2] → r ≠ D2 := fun r h z => h (by rw [z]; simp)
      by_cases hb2 : br < i
      · obtain ⟨r, es', f1, f2, f3, f4⟩ := hze br hb2
        exact ⟨r, es', by rw [List.getElem?_append_left (by omega)]; exact f1, f2, (f3.same s68).keepB hD28 sbD (nD r f2), f4⟩
      · have eb : br = i := by omega
        subst eb
        exact ⟨r8, es, by rw [← hzl, List.getElem?_concat_length], nr8, la8.keepB hD28 sbD (nD r8 nr8), hq7⟩
    rintro D2 H5 hD2 ⟨s5, zs, hzs, hzl, hze⟩
    have nD2 : D2 ∉ [st, D1] := by
      have n0 : D2 ≠ st := (S2.mono s4).neN hD2
      have n1 : D1 ≠ D2 := ne_of_none hys hD2
      intro z
      rcases List.mem_cons.mp z with z | z
      · exact n0 z
      · exact n1 (List.mem_singleton.mp z).symm
    have hys5 := s5 _ _ hys
    have sbD : SameB D1 H5 (upd H5 D1 (.lst (ys ++ [.ref D2]))) := SameB.upd
    refine ⟨ys, hys5, sz5' (by omega), Same.mut (s4.trans s5) hD1, _, upd_same, by rw [List.length_append, hyl]; rfl, fun j' y' t' hj' hy' ht' => ?_⟩
    by_cases hb2 : j' < j
    · rw [List.getElem?_append_left (by omega)] at hy'
      exact ((hye j' y' t' hb2 hy' ht').same s5).keepB hys5 sbD (by simp)
    · have eb : j' = j := by omega
      subst eb
      rw [← hyl, List.getElem?_concat_length] at hy'
      cases hy'
      rw [ht] at ht'
      cases ht'
      refine ExpOk.keepB hys5 sbD (by simp) ⟨D2, zs, rfl, nD2, hzs, fun br hb => ?_⟩
      obtain ⟨r, es', f1, f2, f3, f4⟩ := hze br hb
      exact ⟨r, es', f1, fun z => f2 (by rcases List.mem_cons.mp z with z | z; · rw [z]; simp
                                         · rw [List.mem_singleton.mp z]; simp), f3, f4⟩
  rintro X H3 hX ⟨s3, ys, hys, hyl, hye⟩
  obtain ⟨u0, u1, rfl⟩ : ∃ u0 u1, ys = [u0, u1] := by
    match ys, hyl with
    | [u0, u1], _ => exact ⟨u0, u1, rfl⟩
  have hx0 : ExpOk [st] H3 u0 t0 := (hye 0 u0 t0 (by show 0 < 2; decide) rfl rfl).less (by simp)
  have hx1 : ExpOk [st] H3 u1 t1 := (hye 1 u1 t1 (by show 1 < 2; decide) rfl rfl).less (by simp)
  clear hye
  have nX : X ≠ st := S2.neN hX
  have hrv3 := s3 _ _ hrv
  have hpr0' : RowOk K H3 w0 t0 := hpr0.keep fun b o _ e => s3 b o e
  have hpr1' : RowOk K H3 w1 t1 := hpr1.keep fun b o _ e => s3 b o e
  have S3 := S2.mono s3
  obtain ⟨q0, p0, rfl, hq0, hp0, o01, o02, o03, o04, o05, o06, o07⟩ := id hpr0'
  obtain ⟨q1, p1, rfl, hq1, hp1, o11, o12, o13, o14, o15, o16, o17⟩ := id hpr1'
  walk_at "q"
  refine x_ixL (SqL.of hrv3) (i := 0) rfl ?_
  walk_at "q"
  refine x_ixT (SqT.of hq0) (i := 1) rfl ?_
  walk_at "q"
  refine x_ixL (SqL.of hrv3) (i := 1) rfl ?_
  walk_at "q"
  refine x_ixT (SqT.of hq1) (i := 1) rfl ?_
  walk_at "q"
  have em : (if t1.2.1 > t0.2.1 then t1.2.1 else t0.2.1) = max t0.2.1 t1.2.1 := by split <;> omega
  rw [em]
  have f0 : fitsS (max t0.2.1 t1.2.1) t0.1 := fits_more o05 (by omega)
  have f1 : fitsS (max t0.2.1 t1.2.1) t1.1 := fits_more o15 (by omega)
  have m0 : 0 ≤ max t0.2.1 t1.2.1 := by omega
  have m1 : max t0.2.1 t1.2.1 ≤ 100 := by omega
  generalize max t0.2.1 t1.2.1 = mx at f0 f1 m0 m1 ⊢
  walk_at "q"
  refine x_ixL (SqL.of hrv3) (i := 0) rfl ?_
  walk_at "q"
  refine x_ixT (SqT.of hq0) (i := 0) rfl ?_
  walk_at "q"
  refine x_ixL (SqL.of hrv3) (i := 1) rfl ?_
  walk_at "q"
  refine x_ixT (SqT.of hq1) (i := 0) rfl ?_
  walk_at "q"
  refine ⟨p0, p1, mx, t0.1, t1.1, rfl, hp0, hp1, o01, o11, m0, by omega, f0, f1, fun o H4 s4 hfd => ?_⟩
  have S4 := S3.mono s4
  walk_at "q"
  refine ⟨st, a, ns, 12, rfl, S4, by decide, by decide, fun z5 H5 z50 z51 s5 S5 => ?_⟩
  obtain ⟨zst, hzst⟩ : ∃ zs, H4 st = some (.lst zs) := let ⟨_, _, _, h, _⟩ := S4.lst; ⟨_, h⟩
  walk_at "q"
  refine x_iR1At (by omega) (by omega) ?_
  refine x_loop walk_range (fun i σ H6 => StAt K H6 st a ns ∧ H6 R = some (.lst [.ref q0, .ref q1]) ∧ H6 X = some (.lst [u0, u1]) ∧ RowOk K H6 (.ref q0) t0 ∧ RowOk K H6 (.ref q1) t1 ∧ ExpOk [st] H6 u0 t0 ∧ ExpOk [st] H6 u1 t1 ∧
      H6 q0 = some (.tup [.ref p0, .int t0.2.1, .int t0.2.2]) ∧ H6 q1 = some (.tup [.ref p1, .int t1.2.1, .int t1.2.2]) ∧ PlanAt (CP K) H6 p0 t0.1 ∧ PlanAt (CP K) H6 p1 t1.1 ∧
      ∃ v3 v6 v9 v10, σ = [some (.ref a), some (.ref st), some (.ref R), v3, some (.int mx), v5, v6, some (.ref X), some (goalV o), v9, v10, none])
    ⟨S5, s5 _ _ nR (s4 _ _ hrv3), s5 _ _ nX (s4 _ _ hys), (hpr0'.keep fun b o _ e => s4 b o e).keep (keepK hzst s5), (hpr1'.keep fun b o _ e => s4 b o e).keep (keepK hzst s5), (hx0.same s4).keepB hzst s5 (by simp), (hx1.same s4).keepB hzst s5 (by simp),
      tup_keep (keepK hzst s5) (s4 _ _ hq0), tup_keep (keepK hzst s5) (s4 _ _ hq1), plan_keep (keepK hzst s5) (hp0.mono s4), plan_keep (keepK hzst s5) (hp1.mono s4), _, _, _, _, rfl⟩ (fun _ _ _ _ _ => trivial) ?_ ?_
  · rintro i y σ H6' H6 hi ⟨S6, g1, g2, g3, g4, g5, g6, g7, g8, g9, g10, v3', v6', v9', v10', rfl⟩ ⟨rfl, rfl⟩
    obtain ⟨z6, hz6⟩ : ∃ zs, H6 st = some (.lst zs) := let ⟨_, _, _, h, _⟩ := S6.lst; ⟨_, h⟩
    walk_at "q"
    refine ⟨st, a, ns, 2, rfl, S6, by decide, by decide, fun kk H7 kk0 kk1 s7 S7 => ?_⟩
    walk_at "q"
    refine ⟨st, a, ns, 5, rfl, S7, by decide, by decide, fun bb H8 bb0 bb1 s8 S8 => ?_⟩
    have s68 := s7.trans s8
    have kp8 := keepK hz6 s68
    have h1 := s68 _ _ nR g1
    have h2 := s68 _ _ nX g2
    have h3 := g3.keep kp8
    have h4 := g4.keep kp8
    have h5 := g5.keepB hz6 s68 (by simp)
    have h6 := g6.keepB hz6 s68 (by simp)
    have h7 := tup_keep kp8 g7
    have h8 := tup_keep kp8 g8
    have h9 := plan_keep kp8 g9
    have h10 := plan_keep kp8 g10
    obtain ⟨bn, rfl⟩ : ∃ n : Nat, bb = (n : Int) := ⟨bb.toNat, by omega⟩
    obtain ⟨qk, uk, t, e1, e2, h3k, h5k⟩ : ∃ qk uk t, atI [V.ref q0, V.ref q1] kk = some (.ref qk) ∧ atI [u0, u1] kk = some uk ∧ RowOk K H8 (.ref qk) t ∧ ExpOk [st] H8 uk t := by
      have : kk = 0 ∨ kk = 1 := by omega
      rcases this with rfl | rfl
      · exact ⟨q0, u0, t0, rfl, rfl, h3, h5⟩
      · exact ⟨q1, u1, t1, rfl, rfl, h4, h6⟩
    obtain ⟨q', p, eq, hq, hp, ok1, ok2, ok3, ok4, ok5, ok6, ok7⟩ := h3k
    cases eq
    obtain ⟨xp, xy, rfl, nxp, hxp, hxe⟩ := h5k
    obtain ⟨xr, es, w1, w2, w3, w4⟩ := hxe bn (by omega)
    obtain ⟨l, c, x⟩ := t
    dsimp only at hq hp ok1 ok2 ok3 ok4 ok5 ok6 ok7 w4
    walk_at "q"
    refine ⟨_, _, rfl, ?_⟩
    walk_at "q"
    refine x_ixL (SqL.of h1) e1 ?_
    walk_at "q"
    refine x_ixT (SqT.of hq) (i := 0) rfl ?_
    walk_at "q"
    refine x_ixL (SqL.of h1) e1 ?_
    walk_at "q"
    refine x_ixT (SqT.of hq) (i := 1) rfl ?_
    walk_at "q"
    refine x_ixL (SqL.of h1) e1 ?_
    walk_at "q"
    refine x_ixT (SqT.of hq) (i := 2) rfl ?_
    walk_at "q"
    refine ⟨p, c, x, l, bn, rfl, hp, ok1, ok2, ok3, by omega, ok5, ok6, ok7, by omega, fun r9 H9 es9 hr9 s9 hl9 hq9 => ?_⟩
    cases qes_one (fun b n hm => (ok5 b n hm).1) w4 hq9
    walk_at "q"
    refine x_ixL (SqL.of (s9 _ _ h2)) e2 ?_
    walk_at "q"
    refine x_ixL (SqL.of (s9 _ _ hxp)) (atI_nat w1) ?_
    walk_at "q"
    refine ⟨_, _, rfl, alike_list hl9 (w3.same s9), fun H10 s10 => ?_⟩
    walk_at "q"
    obtain ⟨xs9, hx9, _, hx9l⟩ := hl9
    have hx10 := s10 _ _ hx9
    refine ⟨ty_lst hx10, ?_⟩
    walk_at "q"
    refine x_app hx10 (sz5' (by omega)) ?_
    walk_at "q"
    refine ⟨ty_lst upd_same, ?_⟩
    walk_at "q"
    refine ⟨r9, _, rfl, rfl, upd_same, ?_⟩
    have sF : Same H8 (upd (upd H10 r9 (.lst (xs9 ++ [.int 0]))) r9 (.lst (xs9 ++ [V.int 0]).reverse)) := by
      rw [upd_upd]
      exact Same.mut (s9.trans s10) hr9
    generalize upd (upd H10 r9 _) r9 _ = H11 at sF ⊢
    walk_at "q"
    refine x_ixL (SqL.of (sF _ _ h1)) (i := 0) rfl ?_
    walk_at "q"
    refine x_ixT (SqT.of (sF _ _ h7)) (i := 0) rfl ?_
    walk_at "q"
    refine x_ixL (SqL.of (sF _ _ h1)) (i := 1) rfl ?_
    walk_at "q"
    refine x_ixT (SqT.of (sF _ _ h8)) (i := 0) rfl ?_
    walk_at "q"
    refine ⟨p0, p1, mx, t0.1, t1.1, rfl, h9.mono sF, h10.mono sF, o01, o11, m0, by omega, f0, f1, fun o' H12 s12 hfd' => ?_⟩
    cases firstD_same hfd hfd'
    have sE := sF.trans s12
    walk_at "q"
    refine .inl ⟨by cases o <;> rfl, ?_⟩
    rw [decide_eq_true rfl]
    walk_at "q"
    exact ⟨S8.mono sE, sE _ _ h1, sE _ _ h2, h3.keep fun b o _ e => sE b o e, h4.keep fun b o _ e => sE b o e, h5.same sE, h6.same sE, sE _ _ h7, sE _ _ h8, h9.mono sE, h10.mono sE, _, _, _, _, rfl⟩
  · rintro σ H6 ⟨S6, g1, g2, g3, g4, g5, g6, g7, g8, g9, g10, v3', v6', v9', v10', rfl⟩
    walk_at "q"
    exact k _
end
end K13

set_option Elab.async false
set_option linter.all false
set_option autoImplicit false
set_option maxRecDepth 100000
set_option pp.maxSteps 1500
namespace K13
open PySem PySem.Spec PyProof.Rows L2 He ChH
theorem facts {P : Program} {w : World} {K : PySem.W.Frag} {h : Heap} {mg : Str → Option Value} {f : Addr} (X : K.In h) (G : h.Ns mainGlobals mg) (hfa : mg ("law" : Str) = some (.ref f)) (c : SaysC faL xsL dfL K) :
    ∃ fd : FuncData, (∀ (s : Shared) (v : Value), BindsTo s fd ⟨[v], []⟩ [("_law_script", v)]) ∧ ∀ base : Heap, K.In base → base.Ns mainGlobals mg → FnOk P w K mg base CX0 lawLv f fd ["_law_script"] (spLaw K) := by
  have W : Wd K mg := ⟨⟨h, X, G⟩, c⟩
  have e := hfa.symm.trans W.g_law
  cases e
  have b := FunD.bindsA (ps := ["_law_script"]) W.F_law fun _ _ _ _ _ _ us hl => match us, hl with | [_], _ => rfl
  exact ⟨_, fun s v => b s [v] rfl, fun base _ _ => ok_law W⟩
end K13
open PySem PySem.W PyProof.Rows
set_option maxRecDepth 100000 in
set_option maxHeartbeats 0 in
theorem PySem.Challenge.cw_chaircarry_k13_repeated_calls_holds : PySem.Challenge.rw_chaircarry_k13_repeated_calls.Holds := by
  w_on; o_law
  refine HandSHeadRun.head_any (r := OpenLaw.row PySem.Challenge.rw_chaircarry_k13_repeated_calls) (q := view (OpenLaw.row PySem.Challenge.rw_chaircarry_k13_repeated_calls).prog [56]) (H := K13.hk) (ob := K13.ob) (M := 8000) (loose := K13.loose) (d := HandSHeadRun.topDef (OpenLaw.row PySem.Challenge.rw_chaircarry_k13_repeated_calls).prog 56) (kwd := []) K13.ob_eq
    (by kernel_rfl) (fun s => by kernel_rfl) K13.run (by kernel_rfl) (by kernel_rfl) (by kernel_rfl) (by rfl) (by first | assumption | decide +kernel) (by decide +kernel) ⟨rfl, rfl, rfl, rfl, rfl, by decide +kernel⟩ ?hw ?hc
  case hw => w_witness2
  case hc =>
    refine L2.walk_ofE (l := PySem.Challenge.rw_chaircarry_k13_repeated_calls) (n := 63) (k := K13.lawLv) (x := "_law_script") (CX := L2.CX0) rfl (by decide) (by kernel_rfl) ⟨rfl, by decide, by decide⟩ ?F (fun _ _ _ _ z => z)
    intro w mg fa h Y G hmg0
    obtain ⟨K, KX, c⟩ := Y
    have hmg : mg ("law" : PySem.Str) = some (.ref fa) := by
      have e : (HandSHeadRun.topDef (OpenLaw.row PySem.Challenge.rw_chaircarry_k13_repeated_calls).prog 56).name = ("law" : PySem.Str) := by kernel_rfl
      rw [← e]
      exact hmg0
    obtain ⟨fd, hb, hF⟩ := K13.facts (P := (PySem.Challenge.rw_chaircarry_k13_repeated_calls).prog) (w := w) KX G hmg c
    exact ⟨K, fd, K13.spLaw K, KX, hb, fun H a ns hl _ hS => ⟨a, ns, rfl, hS, fun _ => rfl⟩, hF⟩
#print axioms PySem.Challenge.cw_chaircarry_k13_repeated_calls_holds
